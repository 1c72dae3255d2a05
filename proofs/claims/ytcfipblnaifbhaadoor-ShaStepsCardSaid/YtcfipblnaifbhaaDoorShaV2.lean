/- The document's own hash: the rounds of a block -/
import Derived.Test.YtcfipblnaifbhaaDoorShaU
namespace Go.Proofs.YtcfipblnaifbhaaDoor
set_option linter.unusedVariables false
set_option linter.unusedSimpArgs false
open Go Go.SL

set_option maxHeartbeats 4000000 in
set_option maxRecDepth 10000 in
theorem rRounds (h w : List UInt32) (b62 gk dk gv dv : Nat) (hhl : h.length = 8) (hwl : w.length = 64) (RK : Asn) (hkS : ∀ As Bs : List Asn, As.Perm (RK :: Bs) → Src As (some ⟨gk, 0, none⟩) (wv roundsL)) :
    Piece (α := Nat × Nat) Tryd.prog (sub Tryd.f10 [true, true, true, true, true, true, true, true, false, true, true, true, true, false, true, true, true, true, false, true]) 311 [14, 15, 16, 17, 18, 19, 20, 21, 160, 161, 162, 163, 164, 165, 166, 167, 168, 169, 170, 171, 172, 173, 174, 175, 176, 177, 178, 179, 180, 181, 182, 183, 184, 185, 186, 187, 188, 189, 190, 191, 192, 193, 194, 195, 196, 197, 198, 199, 200, 201, 202, 203, 204, 205, 206, 207, 208, 209, 210, 211, 212, 213, 214, 215, 216, 217, 218, 219, 220, 221, 222, 223, 224, 225, 226, 227, 228, 229, 230, 231, 232, 233, 234, 235, 236, 237, 238, 239, 240, 241, 242, 243, 244, 245, 246, 247, 248, 249, 250, 251, 252, 253, 254, 255, 256, 257, 258, 259, 260, 261, 262, 263, 264, 265, 266, 267, 268, 269, 270, 271, 272, 273, 274, 275, 276, 277] [(15, .int .i64 ((0 : Nat) : Int)), (14, .slice (some ⟨gv, 0, none⟩) 8 dv), (9, .slice (some ⟨b62, 0, none⟩) 64 64), (6, .slice (some ⟨gk, 0, none⟩) 64 dk)]
      [slOwn 45 1 (.slice (some ⟨gv, 0, none⟩) 8 dv) 8 (wv h), cb b62 45 (wv w), RK] (fun _ => True) (fun a => [(14, .slice (some ⟨a.1, 0, none⟩) 8 a.2)])
      (fun a => [slOwn 45 1 (.slice (some ⟨a.1, 0, none⟩) 8 a.2) 8 (wv (rds h w 64)), cb b62 45 (wv w), RK]) := by
  intro Q f w0 F
  show CW _ (Code.block _ (Code.loop _)) _ _ _ _ (_ :: _ :: _ :: F)
  have hr0 : rds h w 0 = h := rfl
  repeat (first | refine CW.seq ?_ | refine PW.then_ ?_ | refine PW.then_to rfl ?_ | refine CW.block ?_ | refine CW.skip ?_ | refine CW.ret ?_ | refine PW.then_ret ?_ | refine PW.block_ret ?_ | refine Cut.ret ?_ | refine Rnd.ret ?_ | refine PW.block_normal ?_ | refine CW.exit ?_ | refine PW.then_exit ?_ | refine PW.block_hit ?_ | refine PW.block_miss rfl ?_ | refine Cut.exit ?_ | refine Rnd.exit ?_)
  refine CW.loopM (α := Nat × Nat × Nat) [14, 15, 16, 17, 18, 19, 20, 21, 160, 161, 162, 163, 164, 165, 166, 167, 168, 169, 170, 171, 172, 173, 174, 175, 176, 177, 178, 179, 180, 181, 182, 183, 184, 185, 186, 187, 188, 189, 190, 191, 192, 193, 194, 195, 196, 197, 198, 199, 200, 201, 202, 203, 204, 205, 206, 207, 208, 209, 210, 211, 212, 213, 214, 215, 216, 217, 218, 219, 220, 221, 222, 223, 224, 225, 226, 227, 228, 229, 230, 231, 232, 233, 234, 235, 236, 237, 238, 239, 240, 241, 242, 243, 244, 245, 246, 247, 248, 249, 250, 251, 252, 253, 254, 255, 256, 257, 258, 259, 260, 261, 262, 263, 264, 265, 266, 267, 268, 269, 270, 271, 272, 273, 274, 275, 276, 277] (fun c a => a.1 ≤ 64 ∧ c = 64 - a.1) (fun a => [(15, .int .i64 a.1), (14, .slice (some ⟨a.2.1, 0, none⟩) 8 a.2.2)])
    (fun a => slOwn 45 1 (.slice (some ⟨a.2.1, 0, none⟩) 8 a.2.2) 8 (wv (rds h w a.1)) :: cb b62 45 (wv w) :: RK :: F) 64 (0, gv, dv) ⟨Nat.zero_le _, rfl⟩ ⟨rfl, rfl, trivial⟩ (by repeat (first | exact Ent.refl _ | (apply Ent.cons; · repeat (first | exact pk_head _ _ | apply pk_tail)) | apply Ent.skip)) ?_
  rintro k6 ⟨i6, g6v, d6v⟩ g6 ⟨hi6, hk6⟩
  dsimp only at hi6 hk6 ⊢
  repeat (first | refine CW.seq ?_ | refine PW.then_ ?_ | refine PW.then_to rfl ?_ | refine CW.block ?_ | refine CW.skip ?_ | refine CW.ret ?_ | refine PW.then_ret ?_ | refine PW.block_ret ?_ | refine Cut.ret ?_ | refine Rnd.ret ?_ | refine PW.block_normal ?_ | refine CW.exit ?_ | refine PW.then_exit ?_ | refine PW.block_hit ?_ | refine PW.block_miss rfl ?_ | refine Cut.exit ?_ | refine Rnd.exit ?_)
  by_cases hlt6 : i6 < 64
  · have hsl := rds_len h w hhl i6
    have hsn : rds h w (i6 + 1) = rd1 (rds h w i6) (roundsL.getD i6 0) (w.getD i6 0) := rfl
    have hlw := idx32 (l := w) (i := i6) (by omega)
    have hlr := fun As Bs hp => srcAt (hkS As Bs hp) i6 hlt6
    generalize rds h w i6 = s at hsl hsn ⊢
    generalize roundsL.getD i6 0 = kr at hsn hlr
    generalize w.getD i6 0 = ww at hsn hlw
    have hsv6 : (wv s).length = 8 := by rw [length_wv, hsl]
    have hvS := fun As Bs (hp : List.Perm As (slOwn 45 1 (.slice (some ⟨g6v, 0, none⟩) 8 d6v) 8 (wv s) :: Bs)) => Src.own (e := 45) (m := 8) (d := d6v) (q := some ⟨g6v, 0, none⟩) (xs := wv s) hsv6 (fun _ => ⟨g6v, rfl⟩) hp
    generalize slOwn 45 1 (.slice (some ⟨g6v, 0, none⟩) 8 d6v) 8 (wv s) = V at hvS ⊢
    have hv0 := fun As Bs hp => srcAt (hvS As Bs hp) 0 (by omega)
    have hv1 := fun As Bs hp => srcAt (hvS As Bs hp) 1 (by omega)
    have hv2 := fun As Bs hp => srcAt (hvS As Bs hp) 2 (by omega)
    have hv3 := fun As Bs hp => srcAt (hvS As Bs hp) 3 (by omega)
    have hv4 := fun As Bs hp => srcAt (hvS As Bs hp) 4 (by omega)
    have hv5 := fun As Bs hp => srcAt (hvS As Bs hp) 5 (by omega)
    have hv6 := fun As Bs hp => srcAt (hvS As Bs hp) 6 (by omega)
    have hv7 := fun As Bs hp => srcAt (hvS As Bs hp) 7 (by omega)
    refine CW.region ?_
    refine L1 (ps_move rfl).os ?_
    refine L1 (ps_t (ps_lss rfl rfl) (by omega)).os ?_
    refine LW.nil ?_
    repeat (first | refine CW.seq ?_ | refine PW.then_ ?_ | refine PW.then_to rfl ?_ | refine CW.block ?_ | refine CW.skip ?_ | refine CW.ret ?_ | refine PW.then_ret ?_ | refine PW.block_ret ?_ | refine Cut.ret ?_ | refine Rnd.ret ?_ | refine PW.block_normal ?_ | refine CW.exit ?_ | refine PW.then_exit ?_ | refine PW.block_hit ?_ | refine PW.block_miss rfl ?_ | refine Cut.exit ?_ | refine Rnd.exit ?_)
    refine CW.cond_true rfl ?_
    repeat (first | refine CW.seq ?_ | refine PW.then_ ?_ | refine PW.then_to rfl ?_ | refine CW.block ?_ | refine CW.skip ?_ | refine CW.ret ?_ | refine PW.then_ret ?_ | refine PW.block_ret ?_ | refine Cut.ret ?_ | refine Rnd.ret ?_ | refine PW.block_normal ?_ | refine CW.exit ?_ | refine PW.then_exit ?_ | refine PW.block_hit ?_ | refine PW.block_miss rfl ?_ | refine Cut.exit ?_ | refine Rnd.exit ?_)
    refine CW.cutB (α := Unit) [16, 164, 165, 166, 167, 168, 169, 170, 171, 172, 173, 174, 175, 176, 177] (fun _ => True) (fun _ => [(16, w32 (rotr (s.getD 4 0) 6 ^^^ rotr (s.getD 4 0) 11 ^^^ rotr (s.getD 4 0) 25))]) (fun _ => V :: cb b62 45 (wv w) :: RK :: F) ?_ ?_
    · refine CW.drawH [V] [] T.mixed ?_
      refine H_take (i := 0) (some 164) rfl rfl (by kernel_rfl) (by kernel_rfl) (by kernel_rfl) rfl (ps_move rfl).pl (by kernel_rfl) (pkc (by repeat (first | exact pk_head _ _ | apply pk_tail)) (pkn _)) ?_
      refine H_take (i := 1) (some 165) rfl rfl (by kernel_rfl) (by kernel_rfl) (by kernel_rfl) rfl (ps_ia_slice T.un43 T.sz45 rfl rfl (by decide) (by decide)).pl (by kernel_rfl) (pkc (by repeat (first | exact pk_head _ _ | apply pk_tail)) (pkn _)) ?_
      refine H_take (i := 2) (some 166) rfl rfl (by kernel_rfl) (by kernel_rfl) (by kernel_rfl) rfl (pl_loadS1 (v := w32 (s.getD 4 0)) (fun Bs => hv4 _ _ (by repeat (first | exact pk_head _ _ | apply pk_tail))) T.ag45 rfl) (by kernel_rfl) (pkc (by repeat (first | exact pk_head _ _ | apply pk_tail)) (pkn _)) ?_
      refine H_take (i := 4) (some 168) rfl rfl (by kernel_rfl) (by kernel_rfl) (by kernel_rfl) rfl (ps_move rfl).pl (by kernel_rfl) (pkc (by repeat (first | exact pk_head _ _ | apply pk_tail)) (pkn _)) ?_
      refine H_take (i := 5) (some 169) rfl rfl (by kernel_rfl) (by kernel_rfl) (by kernel_rfl) rfl (ps_ia_slice T.un43 T.sz45 rfl rfl (by decide) (by decide)).pl (by kernel_rfl) (pkc (by repeat (first | exact pk_head _ _ | apply pk_tail)) (pkn _)) ?_
      refine H_take (i := 6) (some 170) rfl rfl (by kernel_rfl) (by kernel_rfl) (by kernel_rfl) rfl (pl_loadS1 (v := w32 (s.getD 4 0)) (fun Bs => hv4 _ _ (by repeat (first | exact pk_head _ _ | apply pk_tail))) T.ag45 rfl) (by kernel_rfl) (pkc (by repeat (first | exact pk_head _ _ | apply pk_tail)) (pkn _)) ?_
      refine H_take (i := 9) (some 173) rfl rfl (by kernel_rfl) (by kernel_rfl) (by kernel_rfl) rfl (ps_move rfl).pl (by kernel_rfl) (pkc (by repeat (first | exact pk_head _ _ | apply pk_tail)) (pkn _)) ?_
      refine H_take (i := 10) (some 174) rfl rfl (by kernel_rfl) (by kernel_rfl) (by kernel_rfl) rfl (ps_ia_slice T.un43 T.sz45 rfl rfl (by decide) (by decide)).pl (by kernel_rfl) (pkc (by repeat (first | exact pk_head _ _ | apply pk_tail)) (pkn _)) ?_
      refine H_take (i := 11) (some 175) rfl rfl (by kernel_rfl) (by kernel_rfl) (by kernel_rfl) rfl (pl_loadS1 (v := w32 (s.getD 4 0)) (fun Bs => hv4 _ _ (by repeat (first | exact pk_head _ _ | apply pk_tail))) T.ag45 rfl) (by kernel_rfl) (pkc (by repeat (first | exact pk_head _ _ | apply pk_tail)) (pkn _)) ?_
      refine H_branch (rs := [3]) (by kernel_rfl) (by simp) ?_
      refine HR.cons1 (i := 3) (some 167) rfl rfl rfl (os_call0 (rturn_spec (s.getD 4 0) 6 (by decide) (by decide)) Tryd.func16 (by decide +kernel) rfl rfl) (pkc (by repeat (first | exact pk_head _ _ | apply pk_tail)) (pkn _)) ?_ ?_
      · skip
        refine H_branch (rs := [7]) (by kernel_rfl) (by simp) ?_
        refine HR.cons1 (i := 7) (some 171) rfl rfl rfl (os_call0 (rturn_spec (s.getD 4 0) 11 (by decide) (by decide)) Tryd.func16 (by decide +kernel) rfl rfl) (pkc (by repeat (first | exact pk_head _ _ | apply pk_tail)) (pkn _)) ?_ ?_
        · skip
          refine H_take (i := 8) (some 172) rfl rfl (by kernel_rfl) (by kernel_rfl) (by kernel_rfl) rfl (ps32_xor _ _ rfl rfl).pl (by kernel_rfl) (pkc (by repeat (first | exact pk_head _ _ | apply pk_tail)) (pkn _)) ?_
          refine H_branch (rs := [12]) (by kernel_rfl) (by simp) ?_
          refine HR.cons1 (i := 12) (some 176) rfl rfl rfl (os_call0 (rturn_spec (s.getD 4 0) 25 (by decide) (by decide)) Tryd.func16 (by decide +kernel) rfl rfl) (pkc (by repeat (first | exact pk_head _ _ | apply pk_tail)) (pkn _)) ?_ ?_
          · skip
            refine H_take (i := 13) (some 177) rfl rfl (by kernel_rfl) (by kernel_rfl) (by kernel_rfl) rfl (ps32_xor _ _ rfl rfl).pl (by kernel_rfl) (pkc (by repeat (first | exact pk_head _ _ | apply pk_tail)) (pkn _)) ?_
            refine H_take (i := 14) (some 16) rfl rfl (by kernel_rfl) (by kernel_rfl) (by kernel_rfl) rfl (ps_assign rfl).pl (by kernel_rfl) (pkc (by repeat (first | exact pk_head _ _ | apply pk_tail)) (pkn _)) ?_
            refine H_done (by kernel_rfl) ?_
            exact Meet.cut () trivial (by repeat (first | (with_reducible exact Ag.refl _ _) | (with_reducible apply Ag.pu0) | ((with_reducible refine Ag.pu _ ?_ ?_); · exact rfl) | ((with_reducible refine Ag.mix ?_ ?_); · exact rfl) | ((with_reducible refine Ag.pus ?_ ?_); · exact rfl))) ⟨rfl, trivial⟩ (by repeat (first | exact Ent.refl _ | (apply Ent.cons; · repeat (first | exact pk_head _ _ | apply pk_tail)) | apply Ent.skip))
          exact HR.nil
        exact HR.nil
      exact HR.nil
    intro _ _ _
    repeat (first | refine CW.seq ?_ | refine PW.then_ ?_ | refine PW.then_to rfl ?_ | refine CW.block ?_ | refine CW.skip ?_ | refine CW.ret ?_ | refine PW.then_ret ?_ | refine PW.block_ret ?_ | refine Cut.ret ?_ | refine Rnd.ret ?_ | refine PW.block_normal ?_ | refine CW.exit ?_ | refine PW.then_exit ?_ | refine PW.block_hit ?_ | refine PW.block_miss rfl ?_ | refine Cut.exit ?_ | refine Rnd.exit ?_)
    refine CW.cutB (α := Unit) [17, 178, 179, 180, 181, 182, 183, 184, 185, 186, 187, 188, 189, 190, 191, 192, 193] (fun _ => True) (fun _ => [(17, w32 (((s.getD 4 0) &&& (s.getD 5 0)) ^^^ (~~~(s.getD 4 0) &&& (s.getD 6 0))))]) (fun _ => V :: cb b62 45 (wv w) :: RK :: F) ?_ ?_
    · refine CW.drawH [V] [] T.mixed ?_
      refine H_take (i := 0) (some 178) rfl rfl (by kernel_rfl) (by kernel_rfl) (by kernel_rfl) rfl (ps_move rfl).pl (by kernel_rfl) (pkc (by repeat (first | exact pk_head _ _ | apply pk_tail)) (pkn _)) ?_
      refine H_take (i := 1) (some 179) rfl rfl (by kernel_rfl) (by kernel_rfl) (by kernel_rfl) rfl (ps_ia_slice T.un43 T.sz45 rfl rfl (by decide) (by decide)).pl (by kernel_rfl) (pkc (by repeat (first | exact pk_head _ _ | apply pk_tail)) (pkn _)) ?_
      refine H_take (i := 2) (some 180) rfl rfl (by kernel_rfl) (by kernel_rfl) (by kernel_rfl) rfl (pl_loadS1 (v := w32 (s.getD 4 0)) (fun Bs => hv4 _ _ (by repeat (first | exact pk_head _ _ | apply pk_tail))) T.ag45 rfl) (by kernel_rfl) (pkc (by repeat (first | exact pk_head _ _ | apply pk_tail)) (pkn _)) ?_
      refine H_take (i := 3) (some 181) rfl rfl (by kernel_rfl) (by kernel_rfl) (by kernel_rfl) rfl (ps_move rfl).pl (by kernel_rfl) (pkc (by repeat (first | exact pk_head _ _ | apply pk_tail)) (pkn _)) ?_
      refine H_take (i := 4) (some 182) rfl rfl (by kernel_rfl) (by kernel_rfl) (by kernel_rfl) rfl (ps_ia_slice T.un43 T.sz45 rfl rfl (by decide) (by decide)).pl (by kernel_rfl) (pkc (by repeat (first | exact pk_head _ _ | apply pk_tail)) (pkn _)) ?_
      refine H_take (i := 5) (some 183) rfl rfl (by kernel_rfl) (by kernel_rfl) (by kernel_rfl) rfl (pl_loadS1 (v := w32 (s.getD 5 0)) (fun Bs => hv5 _ _ (by repeat (first | exact pk_head _ _ | apply pk_tail))) T.ag45 rfl) (by kernel_rfl) (pkc (by repeat (first | exact pk_head _ _ | apply pk_tail)) (pkn _)) ?_
      refine H_take (i := 6) (some 184) rfl rfl (by kernel_rfl) (by kernel_rfl) (by kernel_rfl) rfl (ps32_and _ _ rfl rfl).pl (by kernel_rfl) (pkc (by repeat (first | exact pk_head _ _ | apply pk_tail)) (pkn _)) ?_
      refine H_take (i := 7) (some 185) rfl rfl (by kernel_rfl) (by kernel_rfl) (by kernel_rfl) rfl (ps_move rfl).pl (by kernel_rfl) (pkc (by repeat (first | exact pk_head _ _ | apply pk_tail)) (pkn _)) ?_
      refine H_take (i := 8) (some 186) rfl rfl (by kernel_rfl) (by kernel_rfl) (by kernel_rfl) rfl (ps_ia_slice T.un43 T.sz45 rfl rfl (by decide) (by decide)).pl (by kernel_rfl) (pkc (by repeat (first | exact pk_head _ _ | apply pk_tail)) (pkn _)) ?_
      refine H_take (i := 9) (some 187) rfl rfl (by kernel_rfl) (by kernel_rfl) (by kernel_rfl) rfl (pl_loadS1 (v := w32 (s.getD 4 0)) (fun Bs => hv4 _ _ (by repeat (first | exact pk_head _ _ | apply pk_tail))) T.ag45 rfl) (by kernel_rfl) (pkc (by repeat (first | exact pk_head _ _ | apply pk_tail)) (pkn _)) ?_
      refine H_take (i := 10) (some 188) rfl rfl (by kernel_rfl) (by kernel_rfl) (by kernel_rfl) rfl (ps32_com _ rfl).pl (by kernel_rfl) (pkc (by repeat (first | exact pk_head _ _ | apply pk_tail)) (pkn _)) ?_
      refine H_take (i := 11) (some 189) rfl rfl (by kernel_rfl) (by kernel_rfl) (by kernel_rfl) rfl (ps_move rfl).pl (by kernel_rfl) (pkc (by repeat (first | exact pk_head _ _ | apply pk_tail)) (pkn _)) ?_
      refine H_take (i := 12) (some 190) rfl rfl (by kernel_rfl) (by kernel_rfl) (by kernel_rfl) rfl (ps_ia_slice T.un43 T.sz45 rfl rfl (by decide) (by decide)).pl (by kernel_rfl) (pkc (by repeat (first | exact pk_head _ _ | apply pk_tail)) (pkn _)) ?_
      refine H_take (i := 13) (some 191) rfl rfl (by kernel_rfl) (by kernel_rfl) (by kernel_rfl) rfl (pl_loadS1 (v := w32 (s.getD 6 0)) (fun Bs => hv6 _ _ (by repeat (first | exact pk_head _ _ | apply pk_tail))) T.ag45 rfl) (by kernel_rfl) (pkc (by repeat (first | exact pk_head _ _ | apply pk_tail)) (pkn _)) ?_
      refine H_take (i := 14) (some 192) rfl rfl (by kernel_rfl) (by kernel_rfl) (by kernel_rfl) rfl (ps32_and _ _ rfl rfl).pl (by kernel_rfl) (pkc (by repeat (first | exact pk_head _ _ | apply pk_tail)) (pkn _)) ?_
      refine H_take (i := 15) (some 193) rfl rfl (by kernel_rfl) (by kernel_rfl) (by kernel_rfl) rfl (ps32_xor _ _ rfl rfl).pl (by kernel_rfl) (pkc (by repeat (first | exact pk_head _ _ | apply pk_tail)) (pkn _)) ?_
      refine H_take (i := 16) (some 17) rfl rfl (by kernel_rfl) (by kernel_rfl) (by kernel_rfl) rfl (ps_assign rfl).pl (by kernel_rfl) (pkc (by repeat (first | exact pk_head _ _ | apply pk_tail)) (pkn _)) ?_
      refine H_done (by kernel_rfl) ?_
      exact Meet.cut () trivial (by repeat (first | (with_reducible exact Ag.refl _ _) | (with_reducible apply Ag.pu0) | ((with_reducible refine Ag.pu _ ?_ ?_); · exact rfl) | ((with_reducible refine Ag.mix ?_ ?_); · exact rfl) | ((with_reducible refine Ag.pus ?_ ?_); · exact rfl))) ⟨rfl, trivial⟩ (by repeat (first | exact Ent.refl _ | (apply Ent.cons; · repeat (first | exact pk_head _ _ | apply pk_tail)) | apply Ent.skip))
    intro _ _ _
    repeat (first | refine CW.seq ?_ | refine PW.then_ ?_ | refine PW.then_to rfl ?_ | refine CW.block ?_ | refine CW.skip ?_ | refine CW.ret ?_ | refine PW.then_ret ?_ | refine PW.block_ret ?_ | refine Cut.ret ?_ | refine Rnd.ret ?_ | refine PW.block_normal ?_ | refine CW.exit ?_ | refine PW.then_exit ?_ | refine PW.block_hit ?_ | refine PW.block_miss rfl ?_ | refine Cut.exit ?_ | refine Rnd.exit ?_)
    refine CW.cutB (α := Unit) [18, 194, 195, 196, 197, 198, 199, 200, 201, 202, 203, 204, 205, 206, 207, 208, 209, 210] (fun _ => True) (fun _ => [(18, w32 (tOf s kr ww))]) (fun _ => V :: cb b62 45 (wv w) :: RK :: F) ?_ ?_
    · refine CW.drawH [V, cb b62 45 (wv w), RK] [] T.mixed ?_
      refine H_take (i := 0) (some 194) rfl rfl (by kernel_rfl) (by kernel_rfl) (by kernel_rfl) rfl (ps_move rfl).pl (by kernel_rfl) (pkc (by repeat (first | exact pk_head _ _ | apply pk_tail)) (pkc (by repeat (first | exact pk_head _ _ | apply pk_tail)) (pkc (by repeat (first | exact pk_head _ _ | apply pk_tail)) (pkn _)))) ?_
      refine H_take (i := 1) (some 195) rfl rfl (by kernel_rfl) (by kernel_rfl) (by kernel_rfl) rfl (ps_ia_slice T.un43 T.sz45 rfl rfl (by decide) (by decide)).pl (by kernel_rfl) (pkc (by repeat (first | exact pk_head _ _ | apply pk_tail)) (pkc (by repeat (first | exact pk_head _ _ | apply pk_tail)) (pkc (by repeat (first | exact pk_head _ _ | apply pk_tail)) (pkn _)))) ?_
      refine H_take (i := 2) (some 196) rfl rfl (by kernel_rfl) (by kernel_rfl) (by kernel_rfl) rfl (pl_loadS1 (v := w32 (s.getD 7 0)) (fun Bs => hv7 _ _ (by repeat (first | exact pk_head _ _ | apply pk_tail))) T.ag45 rfl) (by kernel_rfl) (pkc (by repeat (first | exact pk_head _ _ | apply pk_tail)) (pkc (by repeat (first | exact pk_head _ _ | apply pk_tail)) (pkc (by repeat (first | exact pk_head _ _ | apply pk_tail)) (pkn _)))) ?_
      refine H_take (i := 3) (some 197) rfl rfl (by kernel_rfl) (by kernel_rfl) (by kernel_rfl) rfl (ps_move rfl).pl (by kernel_rfl) (pkc (by repeat (first | exact pk_head _ _ | apply pk_tail)) (pkc (by repeat (first | exact pk_head _ _ | apply pk_tail)) (pkc (by repeat (first | exact pk_head _ _ | apply pk_tail)) (pkn _)))) ?_
      refine H_take (i := 4) (some 198) rfl rfl (by kernel_rfl) (by kernel_rfl) (by kernel_rfl) rfl (ps32_add _ _ rfl rfl).pl (by kernel_rfl) (pkc (by repeat (first | exact pk_head _ _ | apply pk_tail)) (pkc (by repeat (first | exact pk_head _ _ | apply pk_tail)) (pkc (by repeat (first | exact pk_head _ _ | apply pk_tail)) (pkn _)))) ?_
      refine H_take (i := 5) (some 199) rfl rfl (by kernel_rfl) (by kernel_rfl) (by kernel_rfl) rfl (ps_move rfl).pl (by kernel_rfl) (pkc (by repeat (first | exact pk_head _ _ | apply pk_tail)) (pkc (by repeat (first | exact pk_head _ _ | apply pk_tail)) (pkc (by repeat (first | exact pk_head _ _ | apply pk_tail)) (pkn _)))) ?_
      refine H_take (i := 6) (some 200) rfl rfl (by kernel_rfl) (by kernel_rfl) (by kernel_rfl) rfl (ps32_add _ _ rfl rfl).pl (by kernel_rfl) (pkc (by repeat (first | exact pk_head _ _ | apply pk_tail)) (pkc (by repeat (first | exact pk_head _ _ | apply pk_tail)) (pkc (by repeat (first | exact pk_head _ _ | apply pk_tail)) (pkn _)))) ?_
      refine H_take (i := 7) (some 201) rfl rfl (by kernel_rfl) (by kernel_rfl) (by kernel_rfl) rfl (ps_move rfl).pl (by kernel_rfl) (pkc (by repeat (first | exact pk_head _ _ | apply pk_tail)) (pkc (by repeat (first | exact pk_head _ _ | apply pk_tail)) (pkc (by repeat (first | exact pk_head _ _ | apply pk_tail)) (pkn _)))) ?_
      refine H_take (i := 8) (some 202) rfl rfl (by kernel_rfl) (by kernel_rfl) (by kernel_rfl) rfl (ps_move rfl).pl (by kernel_rfl) (pkc (by repeat (first | exact pk_head _ _ | apply pk_tail)) (pkc (by repeat (first | exact pk_head _ _ | apply pk_tail)) (pkc (by repeat (first | exact pk_head _ _ | apply pk_tail)) (pkn _)))) ?_
      refine H_take (i := 9) (some 203) rfl rfl (by kernel_rfl) (by kernel_rfl) (by kernel_rfl) rfl (ps_ia_slice T.un43 T.sz45 rfl rfl (by omega) (by omega)).pl (by kernel_rfl) (pkc (by repeat (first | exact pk_head _ _ | apply pk_tail)) (pkc (by repeat (first | exact pk_head _ _ | apply pk_tail)) (pkc (by repeat (first | exact pk_head _ _ | apply pk_tail)) (pkn _)))) ?_
      refine H_take (i := 10) (some 204) rfl rfl (by kernel_rfl) (by kernel_rfl) (by kernel_rfl) rfl (pl_loadS1 (v := w32 kr) (fun Bs => hlr _ _ (by repeat (first | exact pk_head _ _ | apply pk_tail))) T.ag45 rfl) (by kernel_rfl) (pkc (by repeat (first | exact pk_head _ _ | apply pk_tail)) (pkc (by repeat (first | exact pk_head _ _ | apply pk_tail)) (pkc (by repeat (first | exact pk_head _ _ | apply pk_tail)) (pkn _)))) ?_
      refine H_take (i := 11) (some 205) rfl rfl (by kernel_rfl) (by kernel_rfl) (by kernel_rfl) rfl (ps32_add _ _ rfl rfl).pl (by kernel_rfl) (pkc (by repeat (first | exact pk_head _ _ | apply pk_tail)) (pkc (by repeat (first | exact pk_head _ _ | apply pk_tail)) (pkc (by repeat (first | exact pk_head _ _ | apply pk_tail)) (pkn _)))) ?_
      refine H_take (i := 12) (some 206) rfl rfl (by kernel_rfl) (by kernel_rfl) (by kernel_rfl) rfl (ps_move rfl).pl (by kernel_rfl) (pkc (by repeat (first | exact pk_head _ _ | apply pk_tail)) (pkc (by repeat (first | exact pk_head _ _ | apply pk_tail)) (pkc (by repeat (first | exact pk_head _ _ | apply pk_tail)) (pkn _)))) ?_
      refine H_take (i := 13) (some 207) rfl rfl (by kernel_rfl) (by kernel_rfl) (by kernel_rfl) rfl (ps_move rfl).pl (by kernel_rfl) (pkc (by repeat (first | exact pk_head _ _ | apply pk_tail)) (pkc (by repeat (first | exact pk_head _ _ | apply pk_tail)) (pkc (by repeat (first | exact pk_head _ _ | apply pk_tail)) (pkn _)))) ?_
      refine H_take (i := 14) (some 208) rfl rfl (by kernel_rfl) (by kernel_rfl) (by kernel_rfl) rfl (ps_ia_slice T.un43 T.sz45 rfl rfl (by omega) (by omega)).pl (by kernel_rfl) (pkc (by repeat (first | exact pk_head _ _ | apply pk_tail)) (pkc (by repeat (first | exact pk_head _ _ | apply pk_tail)) (pkc (by repeat (first | exact pk_head _ _ | apply pk_tail)) (pkn _)))) ?_
      refine H_take (i := 15) (some 209) rfl rfl (by kernel_rfl) (by kernel_rfl) (by kernel_rfl) rfl (pl_load1 (b := b62) (v := w32 ww) (by repeat (first | exact pk_head _ _ | apply pk_tail)) T.ag45 rfl hlw) (by kernel_rfl) (pkc (by repeat (first | exact pk_head _ _ | apply pk_tail)) (pkc (by repeat (first | exact pk_head _ _ | apply pk_tail)) (pkc (by repeat (first | exact pk_head _ _ | apply pk_tail)) (pkn _)))) ?_
      refine H_take (i := 16) (some 210) rfl rfl (by kernel_rfl) (by kernel_rfl) (by kernel_rfl) rfl (ps32_add _ _ rfl rfl).pl (by kernel_rfl) (pkc (by repeat (first | exact pk_head _ _ | apply pk_tail)) (pkc (by repeat (first | exact pk_head _ _ | apply pk_tail)) (pkc (by repeat (first | exact pk_head _ _ | apply pk_tail)) (pkn _)))) ?_
      refine H_take (i := 17) (some 18) rfl rfl (by kernel_rfl) (by kernel_rfl) (by kernel_rfl) rfl (ps_assign rfl).pl (by kernel_rfl) (pkc (by repeat (first | exact pk_head _ _ | apply pk_tail)) (pkc (by repeat (first | exact pk_head _ _ | apply pk_tail)) (pkc (by repeat (first | exact pk_head _ _ | apply pk_tail)) (pkn _)))) ?_
      refine H_done (by kernel_rfl) ?_
      exact Meet.cut () trivial (by repeat (first | (with_reducible exact Ag.refl _ _) | (with_reducible apply Ag.pu0) | ((with_reducible refine Ag.pu _ ?_ ?_); · exact rfl) | ((with_reducible refine Ag.mix ?_ ?_); · exact rfl) | ((with_reducible refine Ag.pus ?_ ?_); · exact rfl))) ⟨rfl, trivial⟩ (by repeat (first | exact Ent.refl _ | (apply Ent.cons; · repeat (first | exact pk_head _ _ | apply pk_tail)) | apply Ent.skip))
    intro _ _ _
    repeat (first | refine CW.seq ?_ | refine PW.then_ ?_ | refine PW.then_to rfl ?_ | refine CW.block ?_ | refine CW.skip ?_ | refine CW.ret ?_ | refine PW.then_ret ?_ | refine PW.block_ret ?_ | refine Cut.ret ?_ | refine Rnd.ret ?_ | refine PW.block_normal ?_ | refine CW.exit ?_ | refine PW.then_exit ?_ | refine PW.block_hit ?_ | refine PW.block_miss rfl ?_ | refine Cut.exit ?_ | refine Rnd.exit ?_)
    refine CW.cutB (α := Unit) [19, 211, 212, 213, 214, 215, 216, 217, 218, 219, 220, 221, 222, 223, 224] (fun _ => True) (fun _ => [(19, w32 (rotr (s.getD 0 0) 2 ^^^ rotr (s.getD 0 0) 13 ^^^ rotr (s.getD 0 0) 22))]) (fun _ => V :: cb b62 45 (wv w) :: RK :: F) ?_ ?_
    · refine CW.drawH [V] [] T.mixed ?_
      refine H_take (i := 0) (some 211) rfl rfl (by kernel_rfl) (by kernel_rfl) (by kernel_rfl) rfl (ps_move rfl).pl (by kernel_rfl) (pkc (by repeat (first | exact pk_head _ _ | apply pk_tail)) (pkn _)) ?_
      refine H_take (i := 1) (some 212) rfl rfl (by kernel_rfl) (by kernel_rfl) (by kernel_rfl) rfl (ps_ia_slice T.un43 T.sz45 rfl rfl (by decide) (by decide)).pl (by kernel_rfl) (pkc (by repeat (first | exact pk_head _ _ | apply pk_tail)) (pkn _)) ?_
      refine H_take (i := 2) (some 213) rfl rfl (by kernel_rfl) (by kernel_rfl) (by kernel_rfl) rfl (pl_loadS1 (v := w32 (s.getD 0 0)) (fun Bs => hv0 _ _ (by repeat (first | exact pk_head _ _ | apply pk_tail))) T.ag45 rfl) (by kernel_rfl) (pkc (by repeat (first | exact pk_head _ _ | apply pk_tail)) (pkn _)) ?_
      refine H_take (i := 4) (some 215) rfl rfl (by kernel_rfl) (by kernel_rfl) (by kernel_rfl) rfl (ps_move rfl).pl (by kernel_rfl) (pkc (by repeat (first | exact pk_head _ _ | apply pk_tail)) (pkn _)) ?_
      refine H_take (i := 5) (some 216) rfl rfl (by kernel_rfl) (by kernel_rfl) (by kernel_rfl) rfl (ps_ia_slice T.un43 T.sz45 rfl rfl (by decide) (by decide)).pl (by kernel_rfl) (pkc (by repeat (first | exact pk_head _ _ | apply pk_tail)) (pkn _)) ?_
      refine H_take (i := 6) (some 217) rfl rfl (by kernel_rfl) (by kernel_rfl) (by kernel_rfl) rfl (pl_loadS1 (v := w32 (s.getD 0 0)) (fun Bs => hv0 _ _ (by repeat (first | exact pk_head _ _ | apply pk_tail))) T.ag45 rfl) (by kernel_rfl) (pkc (by repeat (first | exact pk_head _ _ | apply pk_tail)) (pkn _)) ?_
      refine H_take (i := 9) (some 220) rfl rfl (by kernel_rfl) (by kernel_rfl) (by kernel_rfl) rfl (ps_move rfl).pl (by kernel_rfl) (pkc (by repeat (first | exact pk_head _ _ | apply pk_tail)) (pkn _)) ?_
      refine H_take (i := 10) (some 221) rfl rfl (by kernel_rfl) (by kernel_rfl) (by kernel_rfl) rfl (ps_ia_slice T.un43 T.sz45 rfl rfl (by decide) (by decide)).pl (by kernel_rfl) (pkc (by repeat (first | exact pk_head _ _ | apply pk_tail)) (pkn _)) ?_
      refine H_take (i := 11) (some 222) rfl rfl (by kernel_rfl) (by kernel_rfl) (by kernel_rfl) rfl (pl_loadS1 (v := w32 (s.getD 0 0)) (fun Bs => hv0 _ _ (by repeat (first | exact pk_head _ _ | apply pk_tail))) T.ag45 rfl) (by kernel_rfl) (pkc (by repeat (first | exact pk_head _ _ | apply pk_tail)) (pkn _)) ?_
      refine H_branch (rs := [3]) (by kernel_rfl) (by simp) ?_
      refine HR.cons1 (i := 3) (some 214) rfl rfl rfl (os_call0 (rturn_spec (s.getD 0 0) 2 (by decide) (by decide)) Tryd.func16 (by decide +kernel) rfl rfl) (pkc (by repeat (first | exact pk_head _ _ | apply pk_tail)) (pkn _)) ?_ ?_
      · skip
        refine H_branch (rs := [7]) (by kernel_rfl) (by simp) ?_
        refine HR.cons1 (i := 7) (some 218) rfl rfl rfl (os_call0 (rturn_spec (s.getD 0 0) 13 (by decide) (by decide)) Tryd.func16 (by decide +kernel) rfl rfl) (pkc (by repeat (first | exact pk_head _ _ | apply pk_tail)) (pkn _)) ?_ ?_
        · skip
          refine H_take (i := 8) (some 219) rfl rfl (by kernel_rfl) (by kernel_rfl) (by kernel_rfl) rfl (ps32_xor _ _ rfl rfl).pl (by kernel_rfl) (pkc (by repeat (first | exact pk_head _ _ | apply pk_tail)) (pkn _)) ?_
          refine H_branch (rs := [12]) (by kernel_rfl) (by simp) ?_
          refine HR.cons1 (i := 12) (some 223) rfl rfl rfl (os_call0 (rturn_spec (s.getD 0 0) 22 (by decide) (by decide)) Tryd.func16 (by decide +kernel) rfl rfl) (pkc (by repeat (first | exact pk_head _ _ | apply pk_tail)) (pkn _)) ?_ ?_
          · skip
            refine H_take (i := 13) (some 224) rfl rfl (by kernel_rfl) (by kernel_rfl) (by kernel_rfl) rfl (ps32_xor _ _ rfl rfl).pl (by kernel_rfl) (pkc (by repeat (first | exact pk_head _ _ | apply pk_tail)) (pkn _)) ?_
            refine H_take (i := 14) (some 19) rfl rfl (by kernel_rfl) (by kernel_rfl) (by kernel_rfl) rfl (ps_assign rfl).pl (by kernel_rfl) (pkc (by repeat (first | exact pk_head _ _ | apply pk_tail)) (pkn _)) ?_
            refine H_done (by kernel_rfl) ?_
            exact Meet.cut () trivial (by repeat (first | (with_reducible exact Ag.refl _ _) | (with_reducible apply Ag.pu0) | ((with_reducible refine Ag.pu _ ?_ ?_); · exact rfl) | ((with_reducible refine Ag.mix ?_ ?_); · exact rfl) | ((with_reducible refine Ag.pus ?_ ?_); · exact rfl))) ⟨rfl, trivial⟩ (by repeat (first | exact Ent.refl _ | (apply Ent.cons; · repeat (first | exact pk_head _ _ | apply pk_tail)) | apply Ent.skip))
          exact HR.nil
        exact HR.nil
      exact HR.nil
    intro _ _ _
    repeat (first | refine CW.seq ?_ | refine PW.then_ ?_ | refine PW.then_to rfl ?_ | refine CW.block ?_ | refine CW.skip ?_ | refine CW.ret ?_ | refine PW.then_ret ?_ | refine PW.block_ret ?_ | refine Cut.ret ?_ | refine Rnd.ret ?_ | refine PW.block_normal ?_ | refine CW.exit ?_ | refine PW.then_exit ?_ | refine PW.block_hit ?_ | refine PW.block_miss rfl ?_ | refine Cut.exit ?_ | refine Rnd.exit ?_)
    refine CW.cutB (α := Unit) [20, 225, 226, 227, 228, 229, 230, 231, 232, 233, 234, 235, 236, 237, 238, 239, 240, 241, 242, 243, 244, 245, 246, 247] (fun _ => True) (fun _ => [(20, w32 (((s.getD 0 0) &&& (s.getD 1 0)) ^^^ ((s.getD 0 0) &&& (s.getD 2 0)) ^^^ ((s.getD 1 0) &&& (s.getD 2 0))))]) (fun _ => V :: cb b62 45 (wv w) :: RK :: F) ?_ ?_
    · refine CW.drawH [V] [] T.mixed ?_
      refine H_take (i := 0) (some 225) rfl rfl (by kernel_rfl) (by kernel_rfl) (by kernel_rfl) rfl (ps_move rfl).pl (by kernel_rfl) (pkc (by repeat (first | exact pk_head _ _ | apply pk_tail)) (pkn _)) ?_
      refine H_take (i := 1) (some 226) rfl rfl (by kernel_rfl) (by kernel_rfl) (by kernel_rfl) rfl (ps_ia_slice T.un43 T.sz45 rfl rfl (by decide) (by decide)).pl (by kernel_rfl) (pkc (by repeat (first | exact pk_head _ _ | apply pk_tail)) (pkn _)) ?_
      refine H_take (i := 2) (some 227) rfl rfl (by kernel_rfl) (by kernel_rfl) (by kernel_rfl) rfl (pl_loadS1 (v := w32 (s.getD 0 0)) (fun Bs => hv0 _ _ (by repeat (first | exact pk_head _ _ | apply pk_tail))) T.ag45 rfl) (by kernel_rfl) (pkc (by repeat (first | exact pk_head _ _ | apply pk_tail)) (pkn _)) ?_
      refine H_take (i := 3) (some 228) rfl rfl (by kernel_rfl) (by kernel_rfl) (by kernel_rfl) rfl (ps_move rfl).pl (by kernel_rfl) (pkc (by repeat (first | exact pk_head _ _ | apply pk_tail)) (pkn _)) ?_
      refine H_take (i := 4) (some 229) rfl rfl (by kernel_rfl) (by kernel_rfl) (by kernel_rfl) rfl (ps_ia_slice T.un43 T.sz45 rfl rfl (by decide) (by decide)).pl (by kernel_rfl) (pkc (by repeat (first | exact pk_head _ _ | apply pk_tail)) (pkn _)) ?_
      refine H_take (i := 5) (some 230) rfl rfl (by kernel_rfl) (by kernel_rfl) (by kernel_rfl) rfl (pl_loadS1 (v := w32 (s.getD 1 0)) (fun Bs => hv1 _ _ (by repeat (first | exact pk_head _ _ | apply pk_tail))) T.ag45 rfl) (by kernel_rfl) (pkc (by repeat (first | exact pk_head _ _ | apply pk_tail)) (pkn _)) ?_
      refine H_take (i := 6) (some 231) rfl rfl (by kernel_rfl) (by kernel_rfl) (by kernel_rfl) rfl (ps32_and _ _ rfl rfl).pl (by kernel_rfl) (pkc (by repeat (first | exact pk_head _ _ | apply pk_tail)) (pkn _)) ?_
      refine H_take (i := 7) (some 232) rfl rfl (by kernel_rfl) (by kernel_rfl) (by kernel_rfl) rfl (ps_move rfl).pl (by kernel_rfl) (pkc (by repeat (first | exact pk_head _ _ | apply pk_tail)) (pkn _)) ?_
      refine H_take (i := 8) (some 233) rfl rfl (by kernel_rfl) (by kernel_rfl) (by kernel_rfl) rfl (ps_ia_slice T.un43 T.sz45 rfl rfl (by decide) (by decide)).pl (by kernel_rfl) (pkc (by repeat (first | exact pk_head _ _ | apply pk_tail)) (pkn _)) ?_
      refine H_take (i := 9) (some 234) rfl rfl (by kernel_rfl) (by kernel_rfl) (by kernel_rfl) rfl (pl_loadS1 (v := w32 (s.getD 0 0)) (fun Bs => hv0 _ _ (by repeat (first | exact pk_head _ _ | apply pk_tail))) T.ag45 rfl) (by kernel_rfl) (pkc (by repeat (first | exact pk_head _ _ | apply pk_tail)) (pkn _)) ?_
      refine H_take (i := 10) (some 235) rfl rfl (by kernel_rfl) (by kernel_rfl) (by kernel_rfl) rfl (ps_move rfl).pl (by kernel_rfl) (pkc (by repeat (first | exact pk_head _ _ | apply pk_tail)) (pkn _)) ?_
      refine H_take (i := 11) (some 236) rfl rfl (by kernel_rfl) (by kernel_rfl) (by kernel_rfl) rfl (ps_ia_slice T.un43 T.sz45 rfl rfl (by decide) (by decide)).pl (by kernel_rfl) (pkc (by repeat (first | exact pk_head _ _ | apply pk_tail)) (pkn _)) ?_
      refine H_take (i := 12) (some 237) rfl rfl (by kernel_rfl) (by kernel_rfl) (by kernel_rfl) rfl (pl_loadS1 (v := w32 (s.getD 2 0)) (fun Bs => hv2 _ _ (by repeat (first | exact pk_head _ _ | apply pk_tail))) T.ag45 rfl) (by kernel_rfl) (pkc (by repeat (first | exact pk_head _ _ | apply pk_tail)) (pkn _)) ?_
      refine H_take (i := 13) (some 238) rfl rfl (by kernel_rfl) (by kernel_rfl) (by kernel_rfl) rfl (ps32_and _ _ rfl rfl).pl (by kernel_rfl) (pkc (by repeat (first | exact pk_head _ _ | apply pk_tail)) (pkn _)) ?_
      refine H_take (i := 14) (some 239) rfl rfl (by kernel_rfl) (by kernel_rfl) (by kernel_rfl) rfl (ps32_xor _ _ rfl rfl).pl (by kernel_rfl) (pkc (by repeat (first | exact pk_head _ _ | apply pk_tail)) (pkn _)) ?_
      refine H_take (i := 15) (some 240) rfl rfl (by kernel_rfl) (by kernel_rfl) (by kernel_rfl) rfl (ps_move rfl).pl (by kernel_rfl) (pkc (by repeat (first | exact pk_head _ _ | apply pk_tail)) (pkn _)) ?_
      refine H_take (i := 16) (some 241) rfl rfl (by kernel_rfl) (by kernel_rfl) (by kernel_rfl) rfl (ps_ia_slice T.un43 T.sz45 rfl rfl (by decide) (by decide)).pl (by kernel_rfl) (pkc (by repeat (first | exact pk_head _ _ | apply pk_tail)) (pkn _)) ?_
      refine H_take (i := 17) (some 242) rfl rfl (by kernel_rfl) (by kernel_rfl) (by kernel_rfl) rfl (pl_loadS1 (v := w32 (s.getD 1 0)) (fun Bs => hv1 _ _ (by repeat (first | exact pk_head _ _ | apply pk_tail))) T.ag45 rfl) (by kernel_rfl) (pkc (by repeat (first | exact pk_head _ _ | apply pk_tail)) (pkn _)) ?_
      refine H_take (i := 18) (some 243) rfl rfl (by kernel_rfl) (by kernel_rfl) (by kernel_rfl) rfl (ps_move rfl).pl (by kernel_rfl) (pkc (by repeat (first | exact pk_head _ _ | apply pk_tail)) (pkn _)) ?_
      refine H_take (i := 19) (some 244) rfl rfl (by kernel_rfl) (by kernel_rfl) (by kernel_rfl) rfl (ps_ia_slice T.un43 T.sz45 rfl rfl (by decide) (by decide)).pl (by kernel_rfl) (pkc (by repeat (first | exact pk_head _ _ | apply pk_tail)) (pkn _)) ?_
      refine H_take (i := 20) (some 245) rfl rfl (by kernel_rfl) (by kernel_rfl) (by kernel_rfl) rfl (pl_loadS1 (v := w32 (s.getD 2 0)) (fun Bs => hv2 _ _ (by repeat (first | exact pk_head _ _ | apply pk_tail))) T.ag45 rfl) (by kernel_rfl) (pkc (by repeat (first | exact pk_head _ _ | apply pk_tail)) (pkn _)) ?_
      refine H_take (i := 21) (some 246) rfl rfl (by kernel_rfl) (by kernel_rfl) (by kernel_rfl) rfl (ps32_and _ _ rfl rfl).pl (by kernel_rfl) (pkc (by repeat (first | exact pk_head _ _ | apply pk_tail)) (pkn _)) ?_
      refine H_take (i := 22) (some 247) rfl rfl (by kernel_rfl) (by kernel_rfl) (by kernel_rfl) rfl (ps32_xor _ _ rfl rfl).pl (by kernel_rfl) (pkc (by repeat (first | exact pk_head _ _ | apply pk_tail)) (pkn _)) ?_
      refine H_take (i := 23) (some 20) rfl rfl (by kernel_rfl) (by kernel_rfl) (by kernel_rfl) rfl (ps_assign rfl).pl (by kernel_rfl) (pkc (by repeat (first | exact pk_head _ _ | apply pk_tail)) (pkn _)) ?_
      refine H_done (by kernel_rfl) ?_
      exact Meet.cut () trivial (by repeat (first | (with_reducible exact Ag.refl _ _) | (with_reducible apply Ag.pu0) | ((with_reducible refine Ag.pu _ ?_ ?_); · exact rfl) | ((with_reducible refine Ag.mix ?_ ?_); · exact rfl) | ((with_reducible refine Ag.pus ?_ ?_); · exact rfl))) ⟨rfl, trivial⟩ (by repeat (first | exact Ent.refl _ | (apply Ent.cons; · repeat (first | exact pk_head _ _ | apply pk_tail)) | apply Ent.skip))
    intro _ _ _
    repeat (first | refine CW.seq ?_ | refine PW.then_ ?_ | refine PW.then_to rfl ?_ | refine CW.block ?_ | refine CW.skip ?_ | refine CW.ret ?_ | refine PW.then_ret ?_ | refine PW.block_ret ?_ | refine Cut.ret ?_ | refine Rnd.ret ?_ | refine PW.block_normal ?_ | refine CW.exit ?_ | refine PW.then_exit ?_ | refine PW.block_hit ?_ | refine PW.block_miss rfl ?_ | refine Cut.exit ?_ | refine Rnd.exit ?_)
    refine CW.region ?_
    refine L1 (ps_move rfl).os ?_
    refine L1 (ps_move rfl).os ?_
    refine L1 (ps_to (u := w32 (uOf s)) (by rfl) (ps32_add _ _ rfl rfl)).os ?_
    refine L1 (ps_assign rfl).os ?_
    refine LW.nil ?_
    repeat (first | refine CW.seq ?_ | refine PW.then_ ?_ | refine PW.then_to rfl ?_ | refine CW.block ?_ | refine CW.skip ?_ | refine CW.ret ?_ | refine PW.then_ret ?_ | refine PW.block_ret ?_ | refine Cut.ret ?_ | refine Rnd.ret ?_ | refine PW.block_normal ?_ | refine CW.exit ?_ | refine PW.then_exit ?_ | refine PW.block_hit ?_ | refine PW.block_miss rfl ?_ | refine Cut.exit ?_ | refine Rnd.exit ?_)
    refine CW.cutB (α := Nat) [14, 251, 252, 253, 254, 255, 256, 257, 258, 259, 260, 261, 262, 263, 264, 265, 266, 267, 268, 269, 270, 271, 272, 273, 274, 275, 276, 277] (fun _ => True) (fun z => [(14, .slice (some ⟨z, 0, none⟩) 8 8)]) (fun z => cb z 45 (wv (rd1 s kr ww)) :: cb b62 45 (wv w) :: RK :: F) ?_ ?_
    · refine CW.drawH [V] [] T.mixed ?_
      refine H_take (i := 0) (some 251) rfl rfl (by kernel_rfl) (by kernel_rfl) (by kernel_rfl) rfl (ps_move rfl).pl (by kernel_rfl) (pkc (by repeat (first | exact pk_head _ _ | apply pk_tail)) (pkn _)) ?_
      refine H_take (i := 1) (some 252) rfl rfl (by kernel_rfl) (by kernel_rfl) (by kernel_rfl) rfl (ps_move rfl).pl (by kernel_rfl) (pkc (by repeat (first | exact pk_head _ _ | apply pk_tail)) (pkn _)) ?_
      refine H_take (i := 2) (some 253) rfl rfl (by kernel_rfl) (by kernel_rfl) (by kernel_rfl) rfl (ps32_add _ _ rfl rfl).pl (by kernel_rfl) (pkc (by repeat (first | exact pk_head _ _ | apply pk_tail)) (pkn _)) ?_
      refine H_take (i := 3) (some 254) rfl rfl (by kernel_rfl) (by kernel_rfl) (by kernel_rfl) rfl (ps_move rfl).pl (by kernel_rfl) (pkc (by repeat (first | exact pk_head _ _ | apply pk_tail)) (pkn _)) ?_
      refine H_take (i := 4) (some 255) rfl rfl (by kernel_rfl) (by kernel_rfl) (by kernel_rfl) rfl (ps_ia_slice T.un43 T.sz45 rfl rfl (by decide) (by decide)).pl (by kernel_rfl) (pkc (by repeat (first | exact pk_head _ _ | apply pk_tail)) (pkn _)) ?_
      refine H_take (i := 5) (some 256) rfl rfl (by kernel_rfl) (by kernel_rfl) (by kernel_rfl) rfl (pl_loadS1 (v := w32 (s.getD 0 0)) (fun Bs => hv0 _ _ (by repeat (first | exact pk_head _ _ | apply pk_tail))) T.ag45 rfl) (by kernel_rfl) (pkc (by repeat (first | exact pk_head _ _ | apply pk_tail)) (pkn _)) ?_
      refine H_take (i := 6) (some 257) rfl rfl (by kernel_rfl) (by kernel_rfl) (by kernel_rfl) rfl (ps_move rfl).pl (by kernel_rfl) (pkc (by repeat (first | exact pk_head _ _ | apply pk_tail)) (pkn _)) ?_
      refine H_take (i := 7) (some 258) rfl rfl (by kernel_rfl) (by kernel_rfl) (by kernel_rfl) rfl (ps_ia_slice T.un43 T.sz45 rfl rfl (by decide) (by decide)).pl (by kernel_rfl) (pkc (by repeat (first | exact pk_head _ _ | apply pk_tail)) (pkn _)) ?_
      refine H_take (i := 8) (some 259) rfl rfl (by kernel_rfl) (by kernel_rfl) (by kernel_rfl) rfl (pl_loadS1 (v := w32 (s.getD 1 0)) (fun Bs => hv1 _ _ (by repeat (first | exact pk_head _ _ | apply pk_tail))) T.ag45 rfl) (by kernel_rfl) (pkc (by repeat (first | exact pk_head _ _ | apply pk_tail)) (pkn _)) ?_
      refine H_take (i := 9) (some 260) rfl rfl (by kernel_rfl) (by kernel_rfl) (by kernel_rfl) rfl (ps_move rfl).pl (by kernel_rfl) (pkc (by repeat (first | exact pk_head _ _ | apply pk_tail)) (pkn _)) ?_
      refine H_take (i := 10) (some 261) rfl rfl (by kernel_rfl) (by kernel_rfl) (by kernel_rfl) rfl (ps_ia_slice T.un43 T.sz45 rfl rfl (by decide) (by decide)).pl (by kernel_rfl) (pkc (by repeat (first | exact pk_head _ _ | apply pk_tail)) (pkn _)) ?_
      refine H_take (i := 11) (some 262) rfl rfl (by kernel_rfl) (by kernel_rfl) (by kernel_rfl) rfl (pl_loadS1 (v := w32 (s.getD 2 0)) (fun Bs => hv2 _ _ (by repeat (first | exact pk_head _ _ | apply pk_tail))) T.ag45 rfl) (by kernel_rfl) (pkc (by repeat (first | exact pk_head _ _ | apply pk_tail)) (pkn _)) ?_
      refine H_take (i := 12) (some 263) rfl rfl (by kernel_rfl) (by kernel_rfl) (by kernel_rfl) rfl (ps_move rfl).pl (by kernel_rfl) (pkc (by repeat (first | exact pk_head _ _ | apply pk_tail)) (pkn _)) ?_
      refine H_take (i := 13) (some 264) rfl rfl (by kernel_rfl) (by kernel_rfl) (by kernel_rfl) rfl (ps_ia_slice T.un43 T.sz45 rfl rfl (by decide) (by decide)).pl (by kernel_rfl) (pkc (by repeat (first | exact pk_head _ _ | apply pk_tail)) (pkn _)) ?_
      refine H_take (i := 14) (some 265) rfl rfl (by kernel_rfl) (by kernel_rfl) (by kernel_rfl) rfl (pl_loadS1 (v := w32 (s.getD 3 0)) (fun Bs => hv3 _ _ (by repeat (first | exact pk_head _ _ | apply pk_tail))) T.ag45 rfl) (by kernel_rfl) (pkc (by repeat (first | exact pk_head _ _ | apply pk_tail)) (pkn _)) ?_
      refine H_take (i := 15) (some 266) rfl rfl (by kernel_rfl) (by kernel_rfl) (by kernel_rfl) rfl (ps_move rfl).pl (by kernel_rfl) (pkc (by repeat (first | exact pk_head _ _ | apply pk_tail)) (pkn _)) ?_
      refine H_take (i := 16) (some 267) rfl rfl (by kernel_rfl) (by kernel_rfl) (by kernel_rfl) rfl (ps32_add _ _ rfl rfl).pl (by kernel_rfl) (pkc (by repeat (first | exact pk_head _ _ | apply pk_tail)) (pkn _)) ?_
      refine H_take (i := 17) (some 268) rfl rfl (by kernel_rfl) (by kernel_rfl) (by kernel_rfl) rfl (ps_move rfl).pl (by kernel_rfl) (pkc (by repeat (first | exact pk_head _ _ | apply pk_tail)) (pkn _)) ?_
      refine H_take (i := 18) (some 269) rfl rfl (by kernel_rfl) (by kernel_rfl) (by kernel_rfl) rfl (ps_ia_slice T.un43 T.sz45 rfl rfl (by decide) (by decide)).pl (by kernel_rfl) (pkc (by repeat (first | exact pk_head _ _ | apply pk_tail)) (pkn _)) ?_
      refine H_take (i := 19) (some 270) rfl rfl (by kernel_rfl) (by kernel_rfl) (by kernel_rfl) rfl (pl_loadS1 (v := w32 (s.getD 4 0)) (fun Bs => hv4 _ _ (by repeat (first | exact pk_head _ _ | apply pk_tail))) T.ag45 rfl) (by kernel_rfl) (pkc (by repeat (first | exact pk_head _ _ | apply pk_tail)) (pkn _)) ?_
      refine H_take (i := 20) (some 271) rfl rfl (by kernel_rfl) (by kernel_rfl) (by kernel_rfl) rfl (ps_move rfl).pl (by kernel_rfl) (pkc (by repeat (first | exact pk_head _ _ | apply pk_tail)) (pkn _)) ?_
      refine H_take (i := 21) (some 272) rfl rfl (by kernel_rfl) (by kernel_rfl) (by kernel_rfl) rfl (ps_ia_slice T.un43 T.sz45 rfl rfl (by decide) (by decide)).pl (by kernel_rfl) (pkc (by repeat (first | exact pk_head _ _ | apply pk_tail)) (pkn _)) ?_
      refine H_take (i := 22) (some 273) rfl rfl (by kernel_rfl) (by kernel_rfl) (by kernel_rfl) rfl (pl_loadS1 (v := w32 (s.getD 5 0)) (fun Bs => hv5 _ _ (by repeat (first | exact pk_head _ _ | apply pk_tail))) T.ag45 rfl) (by kernel_rfl) (pkc (by repeat (first | exact pk_head _ _ | apply pk_tail)) (pkn _)) ?_
      refine H_take (i := 23) (some 274) rfl rfl (by kernel_rfl) (by kernel_rfl) (by kernel_rfl) rfl (ps_move rfl).pl (by kernel_rfl) (pkc (by repeat (first | exact pk_head _ _ | apply pk_tail)) (pkn _)) ?_
      refine H_take (i := 24) (some 275) rfl rfl (by kernel_rfl) (by kernel_rfl) (by kernel_rfl) rfl (ps_ia_slice T.un43 T.sz45 rfl rfl (by decide) (by decide)).pl (by kernel_rfl) (pkc (by repeat (first | exact pk_head _ _ | apply pk_tail)) (pkn _)) ?_
      refine H_take (i := 25) (some 276) rfl rfl (by kernel_rfl) (by kernel_rfl) (by kernel_rfl) rfl (pl_loadS1 (v := w32 (s.getD 6 0)) (fun Bs => hv6 _ _ (by repeat (first | exact pk_head _ _ | apply pk_tail))) T.ag45 rfl) (by kernel_rfl) (pkc (by repeat (first | exact pk_head _ _ | apply pk_tail)) (pkn _)) ?_
      refine H_branch (rs := [26]) (by kernel_rfl) (by simp) ?_
      refine HR.consE (i := 26) (some 277) rfl rfl rfl (os_bslv (vs := wv (rd1 s kr ww)) T.un43 T.ti45 (by rfl) (by rfl) rfl (wv_one _) (by decide) (by decide)) ?_ ?_
      · rintro _ _ ⟨b277, rfl, rfl⟩
        refine ⟨fun _ => ⟨_, (pkc (by repeat (first | exact pk_head _ _ | apply pk_tail)) (pkn _))⟩, ?_⟩
        refine H_take (i := 27) (some 14) rfl rfl (by kernel_rfl) (by kernel_rfl) (by kernel_rfl) rfl (ps_assign rfl).pl (by kernel_rfl) (pkc (by repeat (first | exact pk_head _ _ | apply pk_tail)) (pkn _)) ?_
        refine H_done (by kernel_rfl) ?_
        exact Meet.cut b277 trivial (by repeat (first | (with_reducible exact Ag.refl _ _) | (with_reducible apply Ag.pu0) | ((with_reducible refine Ag.pu _ ?_ ?_); · exact rfl) | ((with_reducible refine Ag.mix ?_ ?_); · exact rfl) | ((with_reducible refine Ag.pus ?_ ?_); · exact rfl))) ⟨rfl, trivial⟩ (by repeat (first | exact Ent.refl _ | (apply Ent.cons; · repeat (first | exact pk_head _ _ | apply pk_tail)) | apply Ent.skip))
      exact HR.nil
    intro gz _ _
    refine J.ent (Ent.slMk (m := 8) (cap := 8) (cur := wv (rd1 s kr ww)) (size := 1) (by decide) (by decide) rfl rfl _) ?_
    repeat (first | refine CW.seq ?_ | refine PW.then_ ?_ | refine PW.then_to rfl ?_ | refine CW.block ?_ | refine CW.skip ?_ | refine CW.ret ?_ | refine PW.then_ret ?_ | refine PW.block_ret ?_ | refine Cut.ret ?_ | refine Rnd.ret ?_ | refine PW.block_normal ?_ | refine CW.exit ?_ | refine PW.then_exit ?_ | refine PW.block_hit ?_ | refine PW.block_miss rfl ?_ | refine Cut.exit ?_ | refine Rnd.exit ?_)
    refine CW.region ?_
    refine L1 (ps_move rfl).os ?_
    refine L1 (ps_add_i64 rfl rfl (by omega) (by omega)).os ?_
    refine L1 (ps_assign rfl).os ?_
    refine LW.nil ?_
    exact Meet.round (64 - (i6 + 1)) (i6 + 1, gz, 8) (by omega) ⟨hlt6, rfl⟩ (by repeat (first | (with_reducible exact Ag.refl _ _) | (with_reducible apply Ag.pu0) | ((with_reducible refine Ag.pu _ ?_ ?_); · exact rfl) | ((with_reducible refine Ag.mix ?_ ?_); · exact rfl) | ((with_reducible refine Ag.pus ?_ ?_); · exact rfl))) ⟨rfl, rfl, trivial⟩ (by dsimp only; rw [hsn]; exact (by repeat (first | exact Ent.refl _ | (apply Ent.cons; · repeat (first | exact pk_head _ _ | apply pk_tail)) | apply Ent.skip)))
  have hi664 : i6 = 64 := by omega
  subst hi664
  refine CW.region ?_
  refine L1 (ps_move rfl).os ?_
  refine L1 (ps_f (ps_lss rfl rfl) (by omega)).os ?_
  refine LW.nil ?_
  repeat (first | refine CW.seq ?_ | refine PW.then_ ?_ | refine PW.then_to rfl ?_ | refine CW.block ?_ | refine CW.skip ?_ | refine CW.ret ?_ | refine PW.then_ret ?_ | refine PW.block_ret ?_ | refine Cut.ret ?_ | refine Rnd.ret ?_ | refine PW.block_normal ?_ | refine CW.exit ?_ | refine PW.then_exit ?_ | refine PW.block_hit ?_ | refine PW.block_miss rfl ?_ | refine Cut.exit ?_ | refine Rnd.exit ?_)
  refine CW.cond_false rfl ?_
  repeat (first | refine CW.seq ?_ | refine PW.then_ ?_ | refine PW.then_to rfl ?_ | refine CW.block ?_ | refine CW.skip ?_ | refine CW.ret ?_ | refine PW.then_ret ?_ | refine PW.block_ret ?_ | refine Cut.ret ?_ | refine Rnd.ret ?_ | refine PW.block_normal ?_ | refine CW.exit ?_ | refine PW.then_exit ?_ | refine PW.block_hit ?_ | refine PW.block_miss rfl ?_ | refine Cut.exit ?_ | refine Rnd.exit ?_)
  exact Meet.cut (g6v, d6v) trivial (by repeat (first | (with_reducible exact Ag.refl _ _) | (with_reducible apply Ag.pu0) | ((with_reducible refine Ag.pu _ ?_ ?_); · exact rfl) | ((with_reducible refine Ag.mix ?_ ?_); · exact rfl) | ((with_reducible refine Ag.pus ?_ ?_); · exact rfl))) ⟨rfl, trivial⟩ (by repeat (first | exact Ent.refl _ | (apply Ent.cons; · repeat (first | exact pk_head _ _ | apply pk_tail)) | apply Ent.skip))
end Go.Proofs.YtcfipblnaifbhaaDoor
