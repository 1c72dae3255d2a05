/- The log's readers: size, sector, record: each one's contract over the disk's sectors. -/
import Derived.Test.YtejbbpofamfhiaaWalP
import Derived.Test.YtejbbpofamfhiaaWireD
import Derived.Test.YtejbbpofamfhiaaScp
namespace Go.Proofs.Ytejbbpofamfhiaa
set_option linter.unusedVariables false
set_option linter.unusedSimpArgs false
open Go Go.SL

theorem size_spec (n : Nat) (hn : n ≤ 1000000000) : FSpec Try.prog 41 [.int .i64 (n : Nat)] [] (fun v As => v = .int .i64 (sz n : Nat) ∧ As = []) := by
  refine FSpec.intro Try.func41 rfl 8 Try.ntmps41 (Nat.le_of_ble_eq_true rfl) fun w0 F => ?_
  show CW _ _ _ _ _ _ (F)
  repeat (first | refine CW.seq ?_ | refine PW.then_ ?_ | refine PW.then_to rfl ?_ | refine CW.block ?_ | refine CW.skip ?_ | refine CW.ret ?_ | refine PW.then_ret ?_ | refine PW.block_ret ?_ | refine Cut.ret ?_ | refine Rnd.ret ?_ | refine PW.block_normal ?_ | refine CW.exit ?_ | refine PW.then_exit ?_ | refine PW.block_hit ?_ | refine PW.block_miss rfl ?_ | refine Cut.exit ?_ | refine Rnd.exit ?_ | refine CW.scope ?_ | refine CW.label ?_ | refine PW.scope_normal ?_ | refine PW.scope_ret ?_ | refine PW.scope_exit ?_)
  refine CW.region ?_
  refine L1 (ps_assign rfl).os ?_
  refine LW.nil ?_
  repeat (first | refine CW.seq ?_ | refine PW.then_ ?_ | refine PW.then_to rfl ?_ | refine CW.block ?_ | refine CW.skip ?_ | refine CW.ret ?_ | refine PW.then_ret ?_ | refine PW.block_ret ?_ | refine Cut.ret ?_ | refine Rnd.ret ?_ | refine PW.block_normal ?_ | refine CW.exit ?_ | refine PW.then_exit ?_ | refine PW.block_hit ?_ | refine PW.block_miss rfl ?_ | refine Cut.exit ?_ | refine Rnd.exit ?_ | refine CW.scope ?_ | refine CW.label ?_ | refine PW.scope_normal ?_ | refine PW.scope_ret ?_ | refine PW.scope_exit ?_)
  refine CW.region ?_
  refine L1 (ps_move rfl).os ?_
  refine L1 (ps_add_i64 rfl rfl (by omega) (by omega)).os ?_
  refine L1 (ps_add_i64 rfl rfl (by omega) (by omega)).os ?_
  refine L1 (ps_sub_i64 rfl rfl (by omega) (by omega)).os ?_
  refine L1 (ps_to (u := .int .i64 (sz n : Nat)) (by unfold sz; congr 1; omega) (ps_quo_i64 rfl rfl (by omega) (by omega))).os ?_
  refine L1 (ps_assign rfl).os ?_
  refine LW.nil ?_
  repeat (first | refine CW.seq ?_ | refine PW.then_ ?_ | refine PW.then_to rfl ?_ | refine CW.block ?_ | refine CW.skip ?_ | refine CW.ret ?_ | refine PW.then_ret ?_ | refine PW.block_ret ?_ | refine Cut.ret ?_ | refine Rnd.ret ?_ | refine PW.block_normal ?_ | refine CW.exit ?_ | refine PW.then_exit ?_ | refine PW.block_hit ?_ | refine PW.block_miss rfl ?_ | refine Cut.exit ?_ | refine Rnd.exit ?_ | refine CW.scope ?_ | refine CW.label ?_ | refine PW.scope_normal ?_ | refine PW.scope_ret ?_ | refine PW.scope_exit ?_)
  exact Fin.ret1 (v := .int .i64 (sz n : Nat)) rfl [] rfl ⟨rfl, rfl⟩ (by repeat (first | exact Ent.refl _ | (apply Ent.cons; · repeat (first | exact pk_head _ _ | apply pk_tail)) | apply Ent.skip))
theorem rdInt4 {bs : List UInt8} (h : bs.length = 4) : rdInt 4 bs false = num bs := by
  unfold rdInt rdT
  rw [if_neg (by simp; omega)]
  rw [List.take_of_length_le (by omega)]
theorem read_data {st : DS} (hw : st.wait = []) (a : Nat) (h : a < st.data.length) : st.read a = st.data[a] := by
  unfold DS.read
  rw [hw, List.foldl_nil, List.getD_eq_getElem?_getD, List.getElem?_eq_getElem h]; rfl
theorem ps_assign_to {P : Program} {ty : TypeId} {n : FN} {f : Nat → Value} {x : Operand} {v u : Value} (h : v = u) (hx : ev n f x = v) : PS P (.assign x) ty n f u := h ▸ ps_assign hx
/-- What sector answers. -/
theorem sector_spec (p : Nat) (st : DS) (hok : st.Ok) (hw : st.wait = []) (a : Nat) (ha : a ≤ 100000) :
    FSpec Try.prog 43 [ptr p, .int .i64 (a : Nat)] [DiskAt p st] (fun v As => (st.data.length ≤ a ∧ v = .tuple #[.int .i64 0, .slice none 0 0, .bool false] ∧ As = [DiskAt p st]) ∨
      ∃ b s, st.data[a]? = some s ∧ v = .tuple #[.int .i64 ((sec s).1 : Nat), .slice (some ⟨b, 4, none⟩) 56 60, .bool (sec s).2.2] ∧ As = [cb b 77 (bv s), DiskAt p st]) := by
  have hn := hok.n
  by_cases hlt : a < st.data.length
  · have hrd := Read_ok p st hok (by rw [hw]; simp) a hlt
    rw [read_data hw a hlt] at hrd
    have hs64 : (st.data[a]).length = 64 := hok.dlen _ (List.getElem_mem hlt)
    have hsome : st.data[a]? = some st.data[a] := List.getElem?_eq_getElem hlt
    generalize st.data[a] = s at *
    refine FSpec.intro Try.func43 rfl 37 Try.ntmps43 (Nat.le_of_ble_eq_true rfl) fun w0 F => ?_
    show CW _ _ _ _ _ _ (_ :: F)
    repeat (first | refine CW.seq ?_ | refine PW.then_ ?_ | refine PW.then_to rfl ?_ | refine CW.block ?_ | refine CW.skip ?_ | refine CW.ret ?_ | refine PW.then_ret ?_ | refine PW.block_ret ?_ | refine Cut.ret ?_ | refine Rnd.ret ?_ | refine PW.block_normal ?_ | refine CW.exit ?_ | refine PW.then_exit ?_ | refine PW.block_hit ?_ | refine PW.block_miss rfl ?_ | refine Cut.exit ?_ | refine Rnd.exit ?_ | refine CW.scope ?_ | refine CW.label ?_ | refine PW.scope_normal ?_ | refine PW.scope_ret ?_ | refine PW.scope_exit ?_)
    refine CW.region ?_
    refine L1 (ps_assign rfl).os ?_
    refine L1 (ps_assign rfl).os ?_
    refine L1 (ps_assign rfl).os ?_
    refine LW.nil ?_
    repeat (first | refine CW.seq ?_ | refine PW.then_ ?_ | refine PW.then_to rfl ?_ | refine CW.block ?_ | refine CW.skip ?_ | refine CW.ret ?_ | refine PW.then_ret ?_ | refine PW.block_ret ?_ | refine Cut.ret ?_ | refine Rnd.ret ?_ | refine PW.block_normal ?_ | refine CW.exit ?_ | refine PW.then_exit ?_ | refine PW.block_hit ?_ | refine PW.block_miss rfl ?_ | refine Cut.exit ?_ | refine Rnd.exit ?_ | refine CW.scope ?_ | refine CW.label ?_ | refine PW.scope_normal ?_ | refine PW.scope_ret ?_ | refine PW.scope_exit ?_)
    refine CW.region ?_
    refine L1 (ps_move rfl).os ?_
    refine L1 (ps_move rfl).os ?_
    refine LE (os_call hrd Try.func20 (by decide +kernel) rfl rfl (pkc (by repeat (first | exact pk_head _ _ | apply pk_tail)) (pkn _))) ?_
    rintro _ _ ⟨_, ⟨b, rfl, rfl⟩, rfl⟩
    refine L1 (ps_move rfl).os ?_
    refine L1 (ps_extract rfl rfl).os ?_
    refine L1 (ps_extract rfl rfl).os ?_
    refine L1 (ps_assign rfl).os ?_
    refine L1 (ps_assign rfl).os ?_
    refine LW.nil ?_
    repeat (first | refine CW.seq ?_ | refine PW.then_ ?_ | refine PW.then_to rfl ?_ | refine CW.block ?_ | refine CW.skip ?_ | refine CW.ret ?_ | refine PW.then_ret ?_ | refine PW.block_ret ?_ | refine Cut.ret ?_ | refine Rnd.ret ?_ | refine PW.block_normal ?_ | refine CW.exit ?_ | refine PW.then_exit ?_ | refine PW.block_hit ?_ | refine PW.block_miss rfl ?_ | refine Cut.exit ?_ | refine Rnd.exit ?_ | refine CW.scope ?_ | refine CW.label ?_ | refine PW.scope_normal ?_ | refine PW.scope_ret ?_ | refine PW.scope_exit ?_)
    refine CW.region ?_
    refine L1 (ps_move rfl).os ?_
    refine L1 (ps_f (ps_neq rfl rfl) (by decide)).os ?_
    refine LW.nil ?_
    repeat (first | refine CW.seq ?_ | refine PW.then_ ?_ | refine PW.then_to rfl ?_ | refine CW.block ?_ | refine CW.skip ?_ | refine CW.ret ?_ | refine PW.then_ret ?_ | refine PW.block_ret ?_ | refine Cut.ret ?_ | refine Rnd.ret ?_ | refine PW.block_normal ?_ | refine CW.exit ?_ | refine PW.then_exit ?_ | refine PW.block_hit ?_ | refine PW.block_miss rfl ?_ | refine Cut.exit ?_ | refine Rnd.exit ?_ | refine CW.scope ?_ | refine CW.label ?_ | refine PW.scope_normal ?_ | refine PW.scope_ret ?_ | refine PW.scope_exit ?_)
    refine CW.cond_false rfl ?_
    repeat (first | refine CW.seq ?_ | refine PW.then_ ?_ | refine PW.then_to rfl ?_ | refine CW.block ?_ | refine CW.skip ?_ | refine CW.ret ?_ | refine PW.then_ret ?_ | refine PW.block_ret ?_ | refine Cut.ret ?_ | refine Rnd.ret ?_ | refine PW.block_normal ?_ | refine CW.exit ?_ | refine PW.then_exit ?_ | refine PW.block_hit ?_ | refine PW.block_miss rfl ?_ | refine Cut.exit ?_ | refine Rnd.exit ?_ | refine CW.scope ?_ | refine CW.label ?_ | refine PW.scope_normal ?_ | refine PW.scope_ret ?_ | refine PW.scope_exit ?_)
    have hby : ByR (cb b 77 (bv s)) (.slice (some ⟨b, 0, none⟩) 64 64) s := ByR.cb (by rw [List.drop_zero, List.take_of_length_le (by simp [bv])]) hs64 (Nat.le_refl _)
    have h1 : ByR (cb b 77 (bv s)) (.slice (some ⟨b, 0, none⟩) 4 64) (s.take 4) := hby.take 4 (by omega)
    have h2 : ByR (cb b 77 (bv s)) (.slice (some ⟨b, 60, none⟩) 4 4) (s.drop 60) := ByR.drop hby 60 (by omega)
    have l1 : (s.take 4).length = 4 := by rw [List.length_take]; omega
    have l2 : (s.drop 60).length = 4 := by rw [List.length_drop]; omega
    have n1 := RNew_spec _ _ _ h1
    have n2 := RNew_spec _ _ _ h2
    have i1 := fun q => RInt_spec (cb b 77 (bv s)) q (s.take 4) false 4 (by rw [l1]; decide) (by decide) (by decide)
    have i2 := fun q => RInt_spec (cb b 77 (bv s)) q (s.drop 60) false 4 (by rw [l2]; decide) (by decide) (by decide)
    rw [rdInt4 l1] at i1
    rw [rdInt4 l2] at i2
    have e1 : (sec s).1 = num (s.take 4) := rfl
    have e3 : (sec s).2.2 = (decide (num (s.take 4) = num (s.drop 60)) && decide (0 < num (s.take 4))) := rfl
    generalize num (s.take 4) = x at *
    generalize num (s.drop 60) = y at *
    refine CW.cutB (α := Unit) [9, 10, 19, 20, 21, 22, 23, 24, 25, 26] (fun _ => True) (fun _ => [(9, .int .i64 (x : Nat)), (10, .int .i64 (y : Nat))]) (fun _ => cb b 77 (bv s) :: DiskAt p st :: F) ?_ ?_
    · refine CW.draw T.mixed ?_
      refine A_take (i := 0) (some 19) rfl rfl (by kernel_rfl) (by kernel_rfl) (by kernel_rfl) rfl (ps_move rfl) ?_
      refine A_take (i := 1) (some 20) rfl rfl (by kernel_rfl) (by kernel_rfl) (by kernel_rfl) rfl (ps_to (u := .slice (some ⟨b, 0, none⟩) 4 64) (by rfl) (ps_sl_h T.un27 T.sz5 rfl rfl (by omega) (by omega))) ?_
      refine A_take (i := 4) (some 23) rfl rfl (by kernel_rfl) (by kernel_rfl) (by kernel_rfl) rfl (ps_move rfl) ?_
      refine A_take (i := 5) (some 24) rfl rfl (by kernel_rfl) (by kernel_rfl) (by kernel_rfl) rfl (ps_to (u := .slice (some ⟨b, 60, none⟩) 4 4) (by rfl) (ps_sl_l T.un27 T.sz5 rfl rfl (by omega) (by omega))) ?_
      refine A_branch (rs := [2]) (by kernel_rfl) (by simp) ?_
      refine AR.consE (i := 2) (some 21) rfl rfl rfl (os_call n1 Try.func37 (by decide +kernel) rfl rfl (pkc (by repeat (first | exact pk_head _ _ | apply pk_tail)) (pkn _))) ?_ ?_
      · rintro _ _ ⟨_, ⟨q1, rfl, rfl⟩, rfl⟩
        refine A_branch (rs := [3]) (by kernel_rfl) (by simp) ?_
        refine AR.cons1 (i := 3) (some 22) rfl rfl rfl (os_call2 (i1 q1) Try.func39 (by decide +kernel) rfl rfl (by repeat (first | exact pk_head _ _ | apply pk_tail)) (by repeat (first | exact pk_head _ _ | apply pk_tail))) ?_ ?_
        · skip
          refine A_branch (rs := [6]) (by kernel_rfl) (by simp) ?_
          refine AR.consE (i := 6) (some 25) rfl rfl rfl (os_call n2 Try.func37 (by decide +kernel) rfl rfl (pkc (by repeat (first | exact pk_head _ _ | apply pk_tail)) (pkn _))) ?_ ?_
          · rintro _ _ ⟨_, ⟨q2, rfl, rfl⟩, rfl⟩
            refine A_branch (rs := [7]) (by kernel_rfl) (by simp) ?_
            refine AR.cons1 (i := 7) (some 26) rfl rfl rfl (os_call2 (i2 q2) Try.func39 (by decide +kernel) rfl rfl (by repeat (first | exact pk_head _ _ | apply pk_tail)) (by repeat (first | exact pk_head _ _ | apply pk_tail))) ?_ ?_
            · skip
              refine A_take (i := 8) (some 9) rfl rfl (by kernel_rfl) (by kernel_rfl) (by kernel_rfl) rfl (ps_assign rfl) ?_
              refine A_take (i := 9) (some 10) rfl rfl (by kernel_rfl) (by kernel_rfl) (by kernel_rfl) rfl (ps_assign rfl) ?_
              refine A_done (by kernel_rfl) ?_
              exact Meet.cut () trivial (by repeat (first | (with_reducible exact Ag.refl _ _) | (with_reducible assumption) | (with_reducible apply Ag.pu0) | ((with_reducible refine Ag.pu _ ?_ ?_); · exact rfl) | ((with_reducible refine Ag.mix ?_ ?_); · exact rfl) | ((with_reducible refine Ag.pus ?_ ?_); · exact rfl))) ⟨rfl, rfl, trivial⟩ (by repeat (first | exact Ent.refl _ | (apply Ent.cons; · repeat (first | exact pk_head _ _ | apply pk_tail)) | apply Ent.skip))
            exact AR.nil
          exact AR.nil
        exact AR.nil
      exact AR.nil
    rintro _ _ _
    repeat (first | refine CW.seq ?_ | refine PW.then_ ?_ | refine PW.then_to rfl ?_ | refine CW.block ?_ | refine CW.skip ?_ | refine CW.ret ?_ | refine PW.then_ret ?_ | refine PW.block_ret ?_ | refine Cut.ret ?_ | refine Rnd.ret ?_ | refine PW.block_normal ?_ | refine CW.exit ?_ | refine PW.then_exit ?_ | refine PW.block_hit ?_ | refine PW.block_miss rfl ?_ | refine Cut.exit ?_ | refine Rnd.exit ?_ | refine CW.scope ?_ | refine CW.label ?_ | refine PW.scope_normal ?_ | refine PW.scope_ret ?_ | refine PW.scope_exit ?_)
    refine CW.cutB (α := Unit) [4, 5, 6, 27, 28, 29, 30, 31, 32, 33, 34, 35, 36] (fun _ => True) (fun _ => [(4, .int .i64 (x : Nat)), (5, .slice (some ⟨b, 4, none⟩) 56 60), (6, .bool (decide (x = y) && decide (0 < x)))]) (fun _ => cb b 77 (bv s) :: DiskAt p st :: F) ?_ ?_
    · by_cases hxy : x = y
      · subst hxy
        refine CW.draw T.mixed ?_
        refine A_take (i := 0) (some 27) rfl rfl (by kernel_rfl) (by kernel_rfl) (by kernel_rfl) rfl (ps_move rfl) ?_
        refine A_take (i := 1) (some 28) rfl rfl (by kernel_rfl) (by kernel_rfl) (by kernel_rfl) rfl (ps_move rfl) ?_
        refine A_take (i := 2) (some 29) rfl rfl (by kernel_rfl) (by kernel_rfl) (by kernel_rfl) rfl (ps_to (u := .slice (some ⟨b, 4, none⟩) 56 60) (by rfl) (ps_sl_lh T.un27 T.sz5 rfl rfl rfl (by omega) (by omega) (by omega))) ?_
        refine A_take (i := 3) (some 30) rfl rfl (by kernel_rfl) (by kernel_rfl) (by kernel_rfl) rfl (ps_move rfl) ?_
        refine A_take (i := 4) (some 31) rfl rfl (by kernel_rfl) (by kernel_rfl) (by kernel_rfl) rfl (ps_move rfl) ?_
        refine A_take (i := 5) (some 32) rfl rfl (by kernel_rfl) (by kernel_rfl) (by kernel_rfl) rfl (ps_t (ps_eql rfl rfl) (rfl)) ?_
        refine A_take (i := 6) (some 33) rfl rfl (by kernel_rfl) (by kernel_rfl) (by kernel_rfl) rfl (ps_move rfl) ?_
        refine A_take (i := 7) (some 34) rfl rfl (by kernel_rfl) (by kernel_rfl) (by kernel_rfl) rfl (ps_move rfl) ?_
        refine A_take (i := 8) (some 35) rfl rfl (by kernel_rfl) (by kernel_rfl) (by kernel_rfl) rfl (ps_to (u := .bool (decide (0 < x))) (congrArg Value.bool (decide_eq_decide.2 (show (0 : Int) < (x : Nat) ↔ 0 < x by omega))) (ps_gtr rfl rfl)) ?_
        refine A_take (i := 9) (some 36) rfl rfl (by kernel_rfl) (by kernel_rfl) (by kernel_rfl) rfl (ps_pick_t rfl rfl) ?_
        refine A_take (i := 10) (some 4) rfl rfl (by kernel_rfl) (by kernel_rfl) (by kernel_rfl) rfl (ps_assign rfl) ?_
        refine A_take (i := 11) (some 5) rfl rfl (by kernel_rfl) (by kernel_rfl) (by kernel_rfl) rfl (ps_assign rfl) ?_
        refine A_take (i := 12) (some 6) rfl rfl (by kernel_rfl) (by kernel_rfl) (by kernel_rfl) rfl (ps_assign rfl) ?_
        refine A_done (by kernel_rfl) ?_
        exact Meet.cut () trivial (by repeat (first | (with_reducible exact Ag.refl _ _) | (with_reducible assumption) | (with_reducible apply Ag.pu0) | ((with_reducible refine Ag.pu _ ?_ ?_); · exact rfl) | ((with_reducible refine Ag.mix ?_ ?_); · exact rfl) | ((with_reducible refine Ag.pus ?_ ?_); · exact rfl))) ⟨rfl, rfl, by simp; rfl, trivial⟩ (by repeat (first | exact Ent.refl _ | (apply Ent.cons; · repeat (first | exact pk_head _ _ | apply pk_tail)) | apply Ent.skip))
      · refine CW.draw T.mixed ?_
        refine A_take (i := 0) (some 27) rfl rfl (by kernel_rfl) (by kernel_rfl) (by kernel_rfl) rfl (ps_move rfl) ?_
        refine A_take (i := 1) (some 28) rfl rfl (by kernel_rfl) (by kernel_rfl) (by kernel_rfl) rfl (ps_move rfl) ?_
        refine A_take (i := 2) (some 29) rfl rfl (by kernel_rfl) (by kernel_rfl) (by kernel_rfl) rfl (ps_to (u := .slice (some ⟨b, 4, none⟩) 56 60) (by rfl) (ps_sl_lh T.un27 T.sz5 rfl rfl rfl (by omega) (by omega) (by omega))) ?_
        refine A_take (i := 3) (some 30) rfl rfl (by kernel_rfl) (by kernel_rfl) (by kernel_rfl) rfl (ps_move rfl) ?_
        refine A_take (i := 4) (some 31) rfl rfl (by kernel_rfl) (by kernel_rfl) (by kernel_rfl) rfl (ps_move rfl) ?_
        refine A_take (i := 5) (some 32) rfl rfl (by kernel_rfl) (by kernel_rfl) (by kernel_rfl) rfl (ps_f (ps_eql rfl rfl) (by omega)) ?_
        refine A_take (i := 6) (some 33) rfl rfl (by kernel_rfl) (by kernel_rfl) (by kernel_rfl) rfl (ps_move rfl) ?_
        refine A_pass (i := 7) (some 34) rfl rfl (by kernel_rfl) (by kernel_rfl) (by kernel_rfl) rfl ?_
        refine A_pass (i := 8) (some 35) rfl rfl (by kernel_rfl) (by kernel_rfl) (by kernel_rfl) rfl ?_
        refine A_take (i := 9) (some 36) rfl rfl (by kernel_rfl) (by kernel_rfl) (by kernel_rfl) rfl (ps_pick_f rfl rfl) ?_
        refine A_take (i := 10) (some 4) rfl rfl (by kernel_rfl) (by kernel_rfl) (by kernel_rfl) rfl (ps_assign rfl) ?_
        refine A_take (i := 11) (some 5) rfl rfl (by kernel_rfl) (by kernel_rfl) (by kernel_rfl) rfl (ps_assign rfl) ?_
        refine A_take (i := 12) (some 6) rfl rfl (by kernel_rfl) (by kernel_rfl) (by kernel_rfl) rfl (ps_assign rfl) ?_
        refine A_done (by kernel_rfl) ?_
        exact Meet.cut () trivial (by repeat (first | (with_reducible exact Ag.refl _ _) | (with_reducible assumption) | (with_reducible apply Ag.pu0) | ((with_reducible refine Ag.pu _ ?_ ?_); · exact rfl) | ((with_reducible refine Ag.mix ?_ ?_); · exact rfl) | ((with_reducible refine Ag.pus ?_ ?_); · exact rfl))) ⟨rfl, rfl, by rw [decide_eq_false hxy]; rfl, trivial⟩ (by repeat (first | exact Ent.refl _ | (apply Ent.cons; · repeat (first | exact pk_head _ _ | apply pk_tail)) | apply Ent.skip))
    rintro _ _ _
    repeat (first | refine CW.seq ?_ | refine PW.then_ ?_ | refine PW.then_to rfl ?_ | refine CW.block ?_ | refine CW.skip ?_ | refine CW.ret ?_ | refine PW.then_ret ?_ | refine PW.block_ret ?_ | refine Cut.ret ?_ | refine Rnd.ret ?_ | refine PW.block_normal ?_ | refine CW.exit ?_ | refine PW.then_exit ?_ | refine PW.block_hit ?_ | refine PW.block_miss rfl ?_ | refine Cut.exit ?_ | refine Rnd.exit ?_ | refine CW.scope ?_ | refine CW.label ?_ | refine PW.scope_normal ?_ | refine PW.scope_ret ?_ | refine PW.scope_exit ?_)
    exact Fin.ret3 (v1 := .int .i64 (x : Nat)) (v2 := .slice (some ⟨b, 4, none⟩) 56 60) (v3 := .bool (decide (x = y) && decide (0 < x))) rfl [_, _] rfl rfl rfl (Or.inr ⟨b, s, hsome, by rw [e1, e3], rfl⟩) (by repeat (first | exact Ent.refl _ | (apply Ent.cons; · repeat (first | exact pk_head _ _ | apply pk_tail)) | apply Ent.skip))
  · have hrd := Read_bad p st (a : Nat) (Or.inr (by omega))
    refine FSpec.intro Try.func43 rfl 37 Try.ntmps43 (Nat.le_of_ble_eq_true rfl) fun w0 F => ?_
    show CW _ _ _ _ _ _ (_ :: F)
    repeat (first | refine CW.seq ?_ | refine PW.then_ ?_ | refine PW.then_to rfl ?_ | refine CW.block ?_ | refine CW.skip ?_ | refine CW.ret ?_ | refine PW.then_ret ?_ | refine PW.block_ret ?_ | refine Cut.ret ?_ | refine Rnd.ret ?_ | refine PW.block_normal ?_ | refine CW.exit ?_ | refine PW.then_exit ?_ | refine PW.block_hit ?_ | refine PW.block_miss rfl ?_ | refine Cut.exit ?_ | refine Rnd.exit ?_ | refine CW.scope ?_ | refine CW.label ?_ | refine PW.scope_normal ?_ | refine PW.scope_ret ?_ | refine PW.scope_exit ?_)
    refine CW.region ?_
    refine L1 (ps_assign rfl).os ?_
    refine L1 (ps_assign rfl).os ?_
    refine L1 (ps_assign rfl).os ?_
    refine LW.nil ?_
    repeat (first | refine CW.seq ?_ | refine PW.then_ ?_ | refine PW.then_to rfl ?_ | refine CW.block ?_ | refine CW.skip ?_ | refine CW.ret ?_ | refine PW.then_ret ?_ | refine PW.block_ret ?_ | refine Cut.ret ?_ | refine Rnd.ret ?_ | refine PW.block_normal ?_ | refine CW.exit ?_ | refine PW.then_exit ?_ | refine PW.block_hit ?_ | refine PW.block_miss rfl ?_ | refine Cut.exit ?_ | refine Rnd.exit ?_ | refine CW.scope ?_ | refine CW.label ?_ | refine PW.scope_normal ?_ | refine PW.scope_ret ?_ | refine PW.scope_exit ?_)
    refine CW.region ?_
    refine L1 (ps_move rfl).os ?_
    refine L1 (ps_move rfl).os ?_
    refine L1 (os_call1 hrd Try.func20 (by decide +kernel) rfl rfl (by repeat (first | exact pk_head _ _ | apply pk_tail))) ?_
    refine L1 (ps_move rfl).os ?_
    refine L1 (ps_extract rfl rfl).os ?_
    refine L1 (ps_extract rfl rfl).os ?_
    refine L1 (ps_assign rfl).os ?_
    refine L1 (ps_assign rfl).os ?_
    refine LW.nil ?_
    repeat (first | refine CW.seq ?_ | refine PW.then_ ?_ | refine PW.then_to rfl ?_ | refine CW.block ?_ | refine CW.skip ?_ | refine CW.ret ?_ | refine PW.then_ret ?_ | refine PW.block_ret ?_ | refine Cut.ret ?_ | refine Rnd.ret ?_ | refine PW.block_normal ?_ | refine CW.exit ?_ | refine PW.then_exit ?_ | refine PW.block_hit ?_ | refine PW.block_miss rfl ?_ | refine Cut.exit ?_ | refine Rnd.exit ?_ | refine CW.scope ?_ | refine CW.label ?_ | refine PW.scope_normal ?_ | refine PW.scope_ret ?_ | refine PW.scope_exit ?_)
    refine CW.region ?_
    refine L1 (ps_move rfl).os ?_
    refine L1 (ps_t (ps_neq rfl rfl) (by decide)).os ?_
    refine LW.nil ?_
    repeat (first | refine CW.seq ?_ | refine PW.then_ ?_ | refine PW.then_to rfl ?_ | refine CW.block ?_ | refine CW.skip ?_ | refine CW.ret ?_ | refine PW.then_ret ?_ | refine PW.block_ret ?_ | refine Cut.ret ?_ | refine Rnd.ret ?_ | refine PW.block_normal ?_ | refine CW.exit ?_ | refine PW.then_exit ?_ | refine PW.block_hit ?_ | refine PW.block_miss rfl ?_ | refine Cut.exit ?_ | refine Rnd.exit ?_ | refine CW.scope ?_ | refine CW.label ?_ | refine PW.scope_normal ?_ | refine PW.scope_ret ?_ | refine PW.scope_exit ?_)
    refine CW.cond_true rfl ?_
    repeat (first | refine CW.seq ?_ | refine PW.then_ ?_ | refine PW.then_to rfl ?_ | refine CW.block ?_ | refine CW.skip ?_ | refine CW.ret ?_ | refine PW.then_ret ?_ | refine PW.block_ret ?_ | refine Cut.ret ?_ | refine Rnd.ret ?_ | refine PW.block_normal ?_ | refine CW.exit ?_ | refine PW.then_exit ?_ | refine PW.block_hit ?_ | refine PW.block_miss rfl ?_ | refine Cut.exit ?_ | refine Rnd.exit ?_ | refine CW.scope ?_ | refine CW.label ?_ | refine PW.scope_normal ?_ | refine PW.scope_ret ?_ | refine PW.scope_exit ?_)
    refine CW.region ?_
    refine L1 (ps_assign rfl).os ?_
    refine L1 (ps_assign rfl).os ?_
    refine L1 (ps_assign rfl).os ?_
    refine LW.nil ?_
    repeat (first | refine CW.seq ?_ | refine PW.then_ ?_ | refine PW.then_to rfl ?_ | refine CW.block ?_ | refine CW.skip ?_ | refine CW.ret ?_ | refine PW.then_ret ?_ | refine PW.block_ret ?_ | refine Cut.ret ?_ | refine Rnd.ret ?_ | refine PW.block_normal ?_ | refine CW.exit ?_ | refine PW.then_exit ?_ | refine PW.block_hit ?_ | refine PW.block_miss rfl ?_ | refine Cut.exit ?_ | refine Rnd.exit ?_ | refine CW.scope ?_ | refine CW.label ?_ | refine PW.scope_normal ?_ | refine PW.scope_ret ?_ | refine PW.scope_exit ?_)
    exact Fin.ret3 (v1 := .int .i64 0) (v2 := .slice none 0 0) (v3 := .bool false) rfl [_] rfl rfl rfl (Or.inl ⟨by omega, rfl, rfl⟩) (by repeat (first | exact Ent.refl _ | (apply Ent.cons; · repeat (first | exact pk_head _ _ | apply pk_tail)) | apply Ent.skip))
theorem sector_bad (p : Nat) (st : DS) (hok : st.Ok) (hw : st.wait = []) (a : Nat) (ha : a ≤ 100000) (h : st.data.length ≤ a) :
    FSpec Try.prog 43 [ptr p, .int .i64 (a : Nat)] [DiskAt p st] (fun v As => v = .tuple #[.int .i64 0, .slice none 0 0, .bool false] ∧ As = [DiskAt p st]) := by
  refine (sector_spec p st hok hw a ha).mono (Ent.refl _) ?_
  rintro v As (⟨h1, rfl, rfl⟩ | ⟨b, s, h1, _⟩)
  · exact ⟨_, ⟨rfl, rfl⟩, Ent.refl _⟩
  · rw [List.getElem?_eq_none h] at h1; cases h1
theorem sector_at (p : Nat) (st : DS) (hok : st.Ok) (hw : st.wait = []) (a : Nat) (ha : a ≤ 100000) (s : List UInt8) (h : st.data[a]? = some s) :
    FSpec Try.prog 43 [ptr p, .int .i64 (a : Nat)] [DiskAt p st] (fun v As => ∃ b, v = .tuple #[.int .i64 ((sec s).1 : Nat), .slice (some ⟨b, 4, none⟩) 56 60, .bool (sec s).2.2] ∧ As = [cb b 77 (bv s), DiskAt p st]) := by
  refine (sector_spec p st hok hw a ha).mono (Ent.refl _) ?_
  rintro v As (⟨h1, rfl, rfl⟩ | ⟨b, s', h1, rfl, rfl⟩)
  · rw [List.getElem?_eq_none h1] at h; cases h
  · rw [h] at h1; cases h1
    exact ⟨_, ⟨b, rfl, rfl⟩, Ent.refl _⟩
/-- Bytes that lie somewhere among parts. -/
def EnA (v : Value) (bs : List UInt8) : Asn := fun L => ∃ A : Asn, ByR A v bs ∧ A L
theorem ByR.en {b o n cap : Nat} {bs : List UInt8} (hn : bs.length = n) (hc : n ≤ cap) : ByR (EnA (.slice (some ⟨b, o, none⟩) n cap) bs) (.slice (some ⟨b, o, none⟩) n cap) bs := by
  subst hn
  refine ⟨_, _, rfl, hc, fun As Bs hp hne => ⟨_, rfl, fun w0 w hw j u hj => ?_⟩⟩
  obtain ⟨L, a1, L1, L2, a3, ⟨A, hA, a4⟩, a5⟩ := hw.perm hp
  obtain ⟨p', cap', e, _, hs⟩ := hA
  cases e
  obtain ⟨a, ha, hc'⟩ := hs (A :: Bs) Bs (List.Perm.refl _) hne
  cases ha
  exact hc' w0 w ⟨L, a1, L1, L2, a3, a4, a5⟩ j u hj
theorem EnA.mk {A : Asn} {v : Value} {bs : List UInt8} (h : ByR A v bs) (Bs : List Asn) : Ent (A :: Bs) (EnA v bs :: Bs) := fun L hs => by
  obtain ⟨L1, L2, a1, a2, a3⟩ := hs
  exact ⟨L1, L2, a1, ⟨A, h, a2⟩, a3⟩
/-- What record answers. -/
def RecOut (p : Nat) (st : DS) (r : Option (List UInt8 × Nat)) : Value → List Asn → Prop := fun v As => match r with
  | none => v = .tuple #[.slice none 0 0, .int .i64 0, .bool false] ∧ As = [DiskAt p st]
  | some (bs, s) => ∃ g cap, v = .tuple #[.slice (some ⟨g, 8, none⟩) bs.length cap, .int .i64 (s : Nat), .bool true] ∧ bs.length ≤ cap ∧ As = [EnA (.slice (some ⟨g, 8, none⟩) bs.length cap) bs, DiskAt p st]
theorem sec_dlen {s : List UInt8} (h : s.length = 64) : (sec s).2.1.length = 56 := by
  show ((s.drop 4).take 56).length = 56
  rw [List.length_take, List.length_drop]; omega
theorem gather_step {V : List (List UInt8)} {a st m i : Nat} : gather V a st (m + 1) i = if (secAt V (a + i)).2.2 = true ∧ (secAt V (a + i)).1 = st then (gather V a st m (i + 1)).map ((secAt V (a + i)).2.1 ++ ·) else none := rfl
set_option maxHeartbeats 8000000 in
theorem record_spec (p : Nat) (st : DS) (hok : st.Ok) (hw : st.wait = []) (a number : Nat) (ha : a ≤ 10000) (hnum : number ≤ 100000) :
    FSpec Try.prog 40 [ptr p, .int .i64 (a : Nat), .int .i64 (number : Nat)] [DiskAt p st] (RecOut p st (recAt st.data a number)) := by
  have hn := hok.n
  have bad : (secAt st.data a).2.2 = false → RecOut p st (recAt st.data a number) (.tuple #[.slice none 0 0, .int .i64 0, .bool false]) [DiskAt p st] := fun h => by
    have : recAt st.data a number = none := by unfold recAt; rw [if_pos h]
    rw [this]; exact ⟨rfl, rfl⟩
  by_cases hlt : a < st.data.length
  rotate_left
  · have hsb := sector_bad p st hok hw a (by omega) (by omega)
    rw [secAt_none (by omega)] at bad
    generalize recAt st.data a number = R at bad ⊢
    refine FSpec.intro Try.func40 rfl 75 Try.ntmps40 (Nat.le_of_ble_eq_true rfl) fun w0 F => ?_
    show CW _ _ _ _ _ _ (_ :: F)
    repeat (first | refine CW.seq ?_ | refine PW.then_ ?_ | refine PW.then_to rfl ?_ | refine CW.block ?_ | refine CW.skip ?_ | refine CW.ret ?_ | refine PW.then_ret ?_ | refine PW.block_ret ?_ | refine Cut.ret ?_ | refine Rnd.ret ?_ | refine PW.block_normal ?_ | refine CW.exit ?_ | refine PW.then_exit ?_ | refine PW.block_hit ?_ | refine PW.block_miss rfl ?_ | refine Cut.exit ?_ | refine Rnd.exit ?_ | refine CW.scope ?_ | refine CW.label ?_ | refine PW.scope_normal ?_ | refine PW.scope_ret ?_ | refine PW.scope_exit ?_)
    refine CW.region ?_
    refine L1 (ps_assign rfl).os ?_
    refine L1 (ps_assign rfl).os ?_
    refine L1 (ps_assign rfl).os ?_
    refine LW.nil ?_
    repeat (first | refine CW.seq ?_ | refine PW.then_ ?_ | refine PW.then_to rfl ?_ | refine CW.block ?_ | refine CW.skip ?_ | refine CW.ret ?_ | refine PW.then_ret ?_ | refine PW.block_ret ?_ | refine Cut.ret ?_ | refine Rnd.ret ?_ | refine PW.block_normal ?_ | refine CW.exit ?_ | refine PW.then_exit ?_ | refine PW.block_hit ?_ | refine PW.block_miss rfl ?_ | refine Cut.exit ?_ | refine Rnd.exit ?_ | refine CW.scope ?_ | refine CW.label ?_ | refine PW.scope_normal ?_ | refine PW.scope_ret ?_ | refine PW.scope_exit ?_)
    refine CW.region ?_
    refine L1 (ps_move rfl).os ?_
    refine L1 (ps_move rfl).os ?_
    refine L1 (os_call1 hsb Try.func43 (by decide +kernel) rfl rfl (by repeat (first | exact pk_head _ _ | apply pk_tail))) ?_
    refine L1 (ps_move rfl).os ?_
    refine L1 (ps_extract rfl rfl).os ?_
    refine L1 (ps_extract rfl rfl).os ?_
    refine L1 (ps_extract rfl rfl).os ?_
    refine L1 (ps_assign rfl).os ?_
    refine L1 (ps_assign rfl).os ?_
    refine L1 (ps_assign rfl).os ?_
    refine LW.nil ?_
    repeat (first | refine CW.seq ?_ | refine PW.then_ ?_ | refine PW.then_to rfl ?_ | refine CW.block ?_ | refine CW.skip ?_ | refine CW.ret ?_ | refine PW.then_ret ?_ | refine PW.block_ret ?_ | refine Cut.ret ?_ | refine Rnd.ret ?_ | refine PW.block_normal ?_ | refine CW.exit ?_ | refine PW.then_exit ?_ | refine PW.block_hit ?_ | refine PW.block_miss rfl ?_ | refine Cut.exit ?_ | refine Rnd.exit ?_ | refine CW.scope ?_ | refine CW.label ?_ | refine PW.scope_normal ?_ | refine PW.scope_ret ?_ | refine PW.scope_exit ?_)
    refine CW.region ?_
    refine L1 (ps_move rfl).os ?_
    refine L1 (ps_not rfl).os ?_
    refine LW.nil ?_
    repeat (first | refine CW.seq ?_ | refine PW.then_ ?_ | refine PW.then_to rfl ?_ | refine CW.block ?_ | refine CW.skip ?_ | refine CW.ret ?_ | refine PW.then_ret ?_ | refine PW.block_ret ?_ | refine Cut.ret ?_ | refine Rnd.ret ?_ | refine PW.block_normal ?_ | refine CW.exit ?_ | refine PW.then_exit ?_ | refine PW.block_hit ?_ | refine PW.block_miss rfl ?_ | refine Cut.exit ?_ | refine Rnd.exit ?_ | refine CW.scope ?_ | refine CW.label ?_ | refine PW.scope_normal ?_ | refine PW.scope_ret ?_ | refine PW.scope_exit ?_)
    refine CW.cond_true rfl ?_
    repeat (first | refine CW.seq ?_ | refine PW.then_ ?_ | refine PW.then_to rfl ?_ | refine CW.block ?_ | refine CW.skip ?_ | refine CW.ret ?_ | refine PW.then_ret ?_ | refine PW.block_ret ?_ | refine Cut.ret ?_ | refine Rnd.ret ?_ | refine PW.block_normal ?_ | refine CW.exit ?_ | refine PW.then_exit ?_ | refine PW.block_hit ?_ | refine PW.block_miss rfl ?_ | refine Cut.exit ?_ | refine Rnd.exit ?_ | refine CW.scope ?_ | refine CW.label ?_ | refine PW.scope_normal ?_ | refine PW.scope_ret ?_ | refine PW.scope_exit ?_)
    refine CW.region ?_
    refine L1 (ps_assign rfl).os ?_
    refine L1 (ps_assign rfl).os ?_
    refine L1 (ps_assign rfl).os ?_
    refine LW.nil ?_
    repeat (first | refine CW.seq ?_ | refine PW.then_ ?_ | refine PW.then_to rfl ?_ | refine CW.block ?_ | refine CW.skip ?_ | refine CW.ret ?_ | refine PW.then_ret ?_ | refine PW.block_ret ?_ | refine Cut.ret ?_ | refine Rnd.ret ?_ | refine PW.block_normal ?_ | refine CW.exit ?_ | refine PW.then_exit ?_ | refine PW.block_hit ?_ | refine PW.block_miss rfl ?_ | refine Cut.exit ?_ | refine Rnd.exit ?_ | refine CW.scope ?_ | refine CW.label ?_ | refine PW.scope_normal ?_ | refine PW.scope_ret ?_ | refine PW.scope_exit ?_)
    exact Fin.ret3 (v1 := .slice none 0 0) (v2 := .int .i64 0) (v3 := .bool false) rfl [_] rfl rfl rfl (bad rfl) (by repeat (first | exact Ent.refl _ | (apply Ent.cons; · repeat (first | exact pk_head _ _ | apply pk_tail)) | apply Ent.skip))
  have hsa := sector_at p st hok hw a (by omega) st.data[a] (List.getElem?_eq_getElem hlt)
  have hs64 : (st.data[a]).length = 64 := hok.dlen _ (List.getElem_mem hlt)
  have hd56 := sec_dlen hs64
  have hdat : (sec st.data[a]).2.1 = (st.data[a].drop 4).take 56 := rfl
  have hR : recAt st.data a number = if (sec st.data[a]).2.2 = false then none
      else if hdN (sec st.data[a]).2.1 ≠ number ∨ 4096 < hdL (sec st.data[a]).2.1 then none
      else (gather st.data a (sec st.data[a]).1 (sz (hdL (sec st.data[a]).2.1) - 1) 1).map fun more => ((((sec st.data[a]).2.1 ++ more).drop 8).take (hdL (sec st.data[a]).2.1), (sec st.data[a]).1) := by unfold recAt; rw [secAt_some hlt]
  rw [secAt_some hlt] at bad
  generalize st.data[a] = s at *
  cases hok1 : (sec s).2.2 with
  | false =>
    rw [hok1] at hsa
    have bad1 := bad hok1
    generalize recAt st.data a number = R at bad1 ⊢
    refine FSpec.intro Try.func40 rfl 75 Try.ntmps40 (Nat.le_of_ble_eq_true rfl) fun w0 F => ?_
    show CW _ _ _ _ _ _ (_ :: F)
    repeat (first | refine CW.seq ?_ | refine PW.then_ ?_ | refine PW.then_to rfl ?_ | refine CW.block ?_ | refine CW.skip ?_ | refine CW.ret ?_ | refine PW.then_ret ?_ | refine PW.block_ret ?_ | refine Cut.ret ?_ | refine Rnd.ret ?_ | refine PW.block_normal ?_ | refine CW.exit ?_ | refine PW.then_exit ?_ | refine PW.block_hit ?_ | refine PW.block_miss rfl ?_ | refine Cut.exit ?_ | refine Rnd.exit ?_ | refine CW.scope ?_ | refine CW.label ?_ | refine PW.scope_normal ?_ | refine PW.scope_ret ?_ | refine PW.scope_exit ?_)
    refine CW.region ?_
    refine L1 (ps_assign rfl).os ?_
    refine L1 (ps_assign rfl).os ?_
    refine L1 (ps_assign rfl).os ?_
    refine LW.nil ?_
    repeat (first | refine CW.seq ?_ | refine PW.then_ ?_ | refine PW.then_to rfl ?_ | refine CW.block ?_ | refine CW.skip ?_ | refine CW.ret ?_ | refine PW.then_ret ?_ | refine PW.block_ret ?_ | refine Cut.ret ?_ | refine Rnd.ret ?_ | refine PW.block_normal ?_ | refine CW.exit ?_ | refine PW.then_exit ?_ | refine PW.block_hit ?_ | refine PW.block_miss rfl ?_ | refine Cut.exit ?_ | refine Rnd.exit ?_ | refine CW.scope ?_ | refine CW.label ?_ | refine PW.scope_normal ?_ | refine PW.scope_ret ?_ | refine PW.scope_exit ?_)
    refine CW.region ?_
    refine L1 (ps_move rfl).os ?_
    refine L1 (ps_move rfl).os ?_
    refine LE (os_call hsa Try.func43 (by decide +kernel) rfl rfl (pkc (by repeat (first | exact pk_head _ _ | apply pk_tail)) (pkn _))) ?_
    rintro _ _ ⟨_, ⟨b, rfl, rfl⟩, rfl⟩
    refine L1 (ps_move rfl).os ?_
    refine L1 (ps_extract rfl rfl).os ?_
    refine L1 (ps_extract rfl rfl).os ?_
    refine L1 (ps_extract rfl rfl).os ?_
    refine L1 (ps_assign rfl).os ?_
    refine L1 (ps_assign rfl).os ?_
    refine L1 (ps_assign rfl).os ?_
    refine LW.nil ?_
    repeat (first | refine CW.seq ?_ | refine PW.then_ ?_ | refine PW.then_to rfl ?_ | refine CW.block ?_ | refine CW.skip ?_ | refine CW.ret ?_ | refine PW.then_ret ?_ | refine PW.block_ret ?_ | refine Cut.ret ?_ | refine Rnd.ret ?_ | refine PW.block_normal ?_ | refine CW.exit ?_ | refine PW.then_exit ?_ | refine PW.block_hit ?_ | refine PW.block_miss rfl ?_ | refine Cut.exit ?_ | refine Rnd.exit ?_ | refine CW.scope ?_ | refine CW.label ?_ | refine PW.scope_normal ?_ | refine PW.scope_ret ?_ | refine PW.scope_exit ?_)
    refine CW.region ?_
    refine L1 (ps_move rfl).os ?_
    refine L1 (ps_not rfl).os ?_
    refine LW.nil ?_
    repeat (first | refine CW.seq ?_ | refine PW.then_ ?_ | refine PW.then_to rfl ?_ | refine CW.block ?_ | refine CW.skip ?_ | refine CW.ret ?_ | refine PW.then_ret ?_ | refine PW.block_ret ?_ | refine Cut.ret ?_ | refine Rnd.ret ?_ | refine PW.block_normal ?_ | refine CW.exit ?_ | refine PW.then_exit ?_ | refine PW.block_hit ?_ | refine PW.block_miss rfl ?_ | refine Cut.exit ?_ | refine Rnd.exit ?_ | refine CW.scope ?_ | refine CW.label ?_ | refine PW.scope_normal ?_ | refine PW.scope_ret ?_ | refine PW.scope_exit ?_)
    refine CW.cond_true rfl ?_
    repeat (first | refine CW.seq ?_ | refine PW.then_ ?_ | refine PW.then_to rfl ?_ | refine CW.block ?_ | refine CW.skip ?_ | refine CW.ret ?_ | refine PW.then_ret ?_ | refine PW.block_ret ?_ | refine Cut.ret ?_ | refine Rnd.ret ?_ | refine PW.block_normal ?_ | refine CW.exit ?_ | refine PW.then_exit ?_ | refine PW.block_hit ?_ | refine PW.block_miss rfl ?_ | refine Cut.exit ?_ | refine Rnd.exit ?_ | refine CW.scope ?_ | refine CW.label ?_ | refine PW.scope_normal ?_ | refine PW.scope_ret ?_ | refine PW.scope_exit ?_)
    refine CW.region ?_
    refine L1 (ps_assign rfl).os ?_
    refine L1 (ps_assign rfl).os ?_
    refine L1 (ps_assign rfl).os ?_
    refine LW.nil ?_
    repeat (first | refine CW.seq ?_ | refine PW.then_ ?_ | refine PW.then_to rfl ?_ | refine CW.block ?_ | refine CW.skip ?_ | refine CW.ret ?_ | refine PW.then_ret ?_ | refine PW.block_ret ?_ | refine Cut.ret ?_ | refine Rnd.ret ?_ | refine PW.block_normal ?_ | refine CW.exit ?_ | refine PW.then_exit ?_ | refine PW.block_hit ?_ | refine PW.block_miss rfl ?_ | refine Cut.exit ?_ | refine Rnd.exit ?_ | refine CW.scope ?_ | refine CW.label ?_ | refine PW.scope_normal ?_ | refine PW.scope_ret ?_ | refine PW.scope_exit ?_)
    exact Fin.ret3 (v1 := .slice none 0 0) (v2 := .int .i64 0) (v3 := .bool false) rfl [_] rfl rfl rfl bad1 (by repeat (first | exact Ent.refl _ | (apply Ent.cons; · repeat (first | exact pk_head _ _ | apply pk_tail)) | apply Ent.skip))
  | true =>
  rw [hok1] at hsa
  rw [hok1, if_neg (by simp)] at hR
  clear bad
  have hby0 : ∀ b, ByR (cb b 77 (bv s)) (.slice (some ⟨b, 0, none⟩) 64 64) s := fun b => ByR.cb (by rw [List.drop_zero, List.take_of_length_le (by simp [bv])]) hs64 (Nat.le_refl _)
  have hby4 : ∀ b, ByR (cb b 77 (bv s)) (.slice (some ⟨b, 4, none⟩) 60 60) (s.drop 4) := fun b => ByR.drop (hby0 b) 4 (by omega)
  have hby : ∀ b, ByR (cb b 77 (bv s)) (.slice (some ⟨b, 4, none⟩) 56 60) (sec s).2.1 := fun b => (hby4 b).take 56 (by rw [List.length_drop]; omega)
  generalize (sec s).2.1 = D at *
  generalize (sec s).1 = S at *
  have hby8 : ∀ b, ByR (cb b 77 (bv s)) (.slice (some ⟨b, 4, none⟩) 8 60) (D.take 8) := fun b => (hby b).take 8 (by omega)
  have l8 : (D.take 8).length = 8 := by rw [List.length_take]; omega
  have n1 := fun b => RNew_spec _ _ _ (hby8 b)
  have r1 : rdT 4 (D.take 8) false = (D.take 4, (D.drop 4).take 4, false) := by
    unfold rdT
    rw [if_neg (by simp; omega), List.take_take, List.drop_take]
    rfl
  have r2 : rdT 4 ((D.drop 4).take 4) false = ((D.drop 4).take 4, [], false) := by
    have : ((D.drop 4).take 4).length = 4 := by rw [List.length_take, List.length_drop]; omega
    generalize (D.drop 4).take 4 = X at this ⊢
    unfold rdT
    rw [if_neg (by simp; omega), List.take_of_length_le (l := X) (by omega), List.drop_of_length_le (l := X) (by omega)]
  have i1 := fun b q => RInt_spec (cb b 77 (bv s)) q (D.take 8) false 4 (by rw [l8]; decide) (by decide) (by decide)
  have i2 := fun b q => RInt_spec (cb b 77 (bv s)) q ((D.drop 4).take 4) false 4 (by rw [List.length_take, List.length_drop, hd56]; decide) (by decide) (by decide)
  have ri1 : rdInt 4 (D.take 8) false = hdN D := by unfold rdInt hdN; rw [r1]
  have ri2 : rdInt 4 ((D.drop 4).take 4) false = hdL D := by unfold rdInt hdL; rw [r2]
  rw [ri1, r1] at i1
  rw [ri2, r2] at i2
  have hkb : hdN D < 4294967296 := by
    have := num_lt (D.take 4)
    have l4 : (D.take 4).length = 4 := by rw [List.length_take]; omega
    rw [l4] at this; exact this
  have hnb : hdL D < 4294967296 := by
    have := num_lt ((D.drop 4).take 4)
    have l4 : ((D.drop 4).take 4).length = 4 := by rw [List.length_take, List.length_drop]; omega
    rw [l4] at this; exact this
  dsimp only at i1 i2
  generalize hdN D = K at *
  generalize hNN : hdL D = N at *
  clear r1 r2 ri1 ri2 hby0 hby4
  refine FSpec.intro Try.func40 rfl 75 Try.ntmps40 (Nat.le_of_ble_eq_true rfl) fun w0 F => ?_
  show CW _ _ _ _ _ _ (_ :: F)
  repeat (first | refine CW.seq ?_ | refine PW.then_ ?_ | refine PW.then_to rfl ?_ | refine CW.block ?_ | refine CW.skip ?_ | refine CW.ret ?_ | refine PW.then_ret ?_ | refine PW.block_ret ?_ | refine Cut.ret ?_ | refine Rnd.ret ?_ | refine PW.block_normal ?_ | refine CW.exit ?_ | refine PW.then_exit ?_ | refine PW.block_hit ?_ | refine PW.block_miss rfl ?_ | refine Cut.exit ?_ | refine Rnd.exit ?_ | refine CW.scope ?_ | refine CW.label ?_ | refine PW.scope_normal ?_ | refine PW.scope_ret ?_ | refine PW.scope_exit ?_)
  refine CW.region ?_
  refine L1 (ps_assign rfl).os ?_
  refine L1 (ps_assign rfl).os ?_
  refine L1 (ps_assign rfl).os ?_
  refine LW.nil ?_
  repeat (first | refine CW.seq ?_ | refine PW.then_ ?_ | refine PW.then_to rfl ?_ | refine CW.block ?_ | refine CW.skip ?_ | refine CW.ret ?_ | refine PW.then_ret ?_ | refine PW.block_ret ?_ | refine Cut.ret ?_ | refine Rnd.ret ?_ | refine PW.block_normal ?_ | refine CW.exit ?_ | refine PW.then_exit ?_ | refine PW.block_hit ?_ | refine PW.block_miss rfl ?_ | refine Cut.exit ?_ | refine Rnd.exit ?_ | refine CW.scope ?_ | refine CW.label ?_ | refine PW.scope_normal ?_ | refine PW.scope_ret ?_ | refine PW.scope_exit ?_)
  refine CW.region ?_
  refine L1 (ps_move rfl).os ?_
  refine L1 (ps_move rfl).os ?_
  refine LE (os_call hsa Try.func43 (by decide +kernel) rfl rfl (pkc (by repeat (first | exact pk_head _ _ | apply pk_tail)) (pkn _))) ?_
  rintro _ _ ⟨_, ⟨b, rfl, rfl⟩, rfl⟩
  refine L1 (ps_move rfl).os ?_
  refine L1 (ps_extract rfl rfl).os ?_
  refine L1 (ps_extract rfl rfl).os ?_
  refine L1 (ps_extract rfl rfl).os ?_
  refine L1 (ps_assign rfl).os ?_
  refine L1 (ps_assign rfl).os ?_
  refine L1 (ps_assign rfl).os ?_
  refine LW.nil ?_
  repeat (first | refine CW.seq ?_ | refine PW.then_ ?_ | refine PW.then_to rfl ?_ | refine CW.block ?_ | refine CW.skip ?_ | refine CW.ret ?_ | refine PW.then_ret ?_ | refine PW.block_ret ?_ | refine Cut.ret ?_ | refine Rnd.ret ?_ | refine PW.block_normal ?_ | refine CW.exit ?_ | refine PW.then_exit ?_ | refine PW.block_hit ?_ | refine PW.block_miss rfl ?_ | refine Cut.exit ?_ | refine Rnd.exit ?_ | refine CW.scope ?_ | refine CW.label ?_ | refine PW.scope_normal ?_ | refine PW.scope_ret ?_ | refine PW.scope_exit ?_)
  refine CW.region ?_
  refine L1 (ps_move rfl).os ?_
  refine L1 (ps_not rfl).os ?_
  refine LW.nil ?_
  repeat (first | refine CW.seq ?_ | refine PW.then_ ?_ | refine PW.then_to rfl ?_ | refine CW.block ?_ | refine CW.skip ?_ | refine CW.ret ?_ | refine PW.then_ret ?_ | refine PW.block_ret ?_ | refine Cut.ret ?_ | refine Rnd.ret ?_ | refine PW.block_normal ?_ | refine CW.exit ?_ | refine PW.then_exit ?_ | refine PW.block_hit ?_ | refine PW.block_miss rfl ?_ | refine Cut.exit ?_ | refine Rnd.exit ?_ | refine CW.scope ?_ | refine CW.label ?_ | refine PW.scope_normal ?_ | refine PW.scope_ret ?_ | refine PW.scope_exit ?_)
  refine CW.cond_false rfl ?_
  repeat (first | refine CW.seq ?_ | refine PW.then_ ?_ | refine PW.then_to rfl ?_ | refine CW.block ?_ | refine CW.skip ?_ | refine CW.ret ?_ | refine PW.then_ret ?_ | refine PW.block_ret ?_ | refine Cut.ret ?_ | refine Rnd.ret ?_ | refine PW.block_normal ?_ | refine CW.exit ?_ | refine PW.then_exit ?_ | refine PW.block_hit ?_ | refine PW.block_miss rfl ?_ | refine Cut.exit ?_ | refine Rnd.exit ?_ | refine CW.scope ?_ | refine CW.label ?_ | refine PW.scope_normal ?_ | refine PW.scope_ret ?_ | refine PW.scope_exit ?_)
  refine CW.region ?_
  refine L1 (ps_move rfl).os ?_
  refine L1 (ps_to (u := .slice (some ⟨b, 4, none⟩) 8 60) (by rfl) (ps_sl_h T.un27 T.sz5 rfl rfl (by omega) (by omega))).os ?_
  refine LE (os_call (n1 b) Try.func37 (by decide +kernel) rfl rfl (pkc (by repeat (first | exact pk_head _ _ | apply pk_tail)) (pkn _))) ?_
  rintro _ _ ⟨_, ⟨q1, rfl, rfl⟩, rfl⟩
  refine L1 (ps_assign rfl).os ?_
  refine LW.nil ?_
  repeat (first | refine CW.seq ?_ | refine PW.then_ ?_ | refine PW.then_to rfl ?_ | refine CW.block ?_ | refine CW.skip ?_ | refine CW.ret ?_ | refine PW.then_ret ?_ | refine PW.block_ret ?_ | refine Cut.ret ?_ | refine Rnd.ret ?_ | refine PW.block_normal ?_ | refine CW.exit ?_ | refine PW.then_exit ?_ | refine PW.block_hit ?_ | refine PW.block_miss rfl ?_ | refine Cut.exit ?_ | refine Rnd.exit ?_ | refine CW.scope ?_ | refine CW.label ?_ | refine PW.scope_normal ?_ | refine PW.scope_ret ?_ | refine PW.scope_exit ?_)
  refine CW.region ?_
  refine L1 (ps_move rfl).os ?_
  refine L1 (os_call2 (i1 b q1) Try.func39 (by decide +kernel) rfl rfl (by repeat (first | exact pk_head _ _ | apply pk_tail)) (by repeat (first | exact pk_head _ _ | apply pk_tail))) ?_
  refine L1 (ps_move rfl).os ?_
  refine L1 (os_call2 (i2 b q1) Try.func39 (by decide +kernel) rfl rfl (by repeat (first | exact pk_head _ _ | apply pk_tail)) (by repeat (first | exact pk_head _ _ | apply pk_tail))) ?_
  refine L1 (ps_assign rfl).os ?_
  refine L1 (ps_assign rfl).os ?_
  refine LW.nil ?_
  repeat (first | refine CW.seq ?_ | refine PW.then_ ?_ | refine PW.then_to rfl ?_ | refine CW.block ?_ | refine CW.skip ?_ | refine CW.ret ?_ | refine PW.then_ret ?_ | refine PW.block_ret ?_ | refine Cut.ret ?_ | refine Rnd.ret ?_ | refine PW.block_normal ?_ | refine CW.exit ?_ | refine PW.then_exit ?_ | refine PW.block_hit ?_ | refine PW.block_miss rfl ?_ | refine Cut.exit ?_ | refine Rnd.exit ?_ | refine CW.scope ?_ | refine CW.label ?_ | refine PW.scope_normal ?_ | refine PW.scope_ret ?_ | refine PW.scope_exit ?_)
  have hbad : recAt st.data a number = none → RecOut p st (recAt st.data a number) (.tuple #[.slice none 0 0, .int .i64 0, .bool false]) [DiskAt p st] := fun h => by rw [h]; exact ⟨rfl, rfl⟩
  by_cases hK : (K : Int) = (number : Int)
  rotate_left
  · rw [if_pos (Or.inl (by omega))] at hR
    replace hbad := hbad hR
    clear hR
    generalize recAt st.data a number = R at hbad ⊢
    refine CW.region ?_
    refine L1 (ps_move rfl).os ?_
    refine L1 (ps_move rfl).os ?_
    refine L1 (ps_t (ps_neq rfl rfl) (hK)).os ?_
    refine L1 (ps_move rfl).os ?_
    refine LG0f ?_ ?_
    · exact rfl
    refine LG0f ?_ ?_
    · exact rfl
    refine L1 (ps_pick_t rfl rfl).os ?_
    refine LW.nil ?_
    repeat (first | refine CW.seq ?_ | refine PW.then_ ?_ | refine PW.then_to rfl ?_ | refine CW.block ?_ | refine CW.skip ?_ | refine CW.ret ?_ | refine PW.then_ret ?_ | refine PW.block_ret ?_ | refine Cut.ret ?_ | refine Rnd.ret ?_ | refine PW.block_normal ?_ | refine CW.exit ?_ | refine PW.then_exit ?_ | refine PW.block_hit ?_ | refine PW.block_miss rfl ?_ | refine Cut.exit ?_ | refine Rnd.exit ?_ | refine CW.scope ?_ | refine CW.label ?_ | refine PW.scope_normal ?_ | refine PW.scope_ret ?_ | refine PW.scope_exit ?_)
    refine CW.cond_true rfl ?_
    repeat (first | refine CW.seq ?_ | refine PW.then_ ?_ | refine PW.then_to rfl ?_ | refine CW.block ?_ | refine CW.skip ?_ | refine CW.ret ?_ | refine PW.then_ret ?_ | refine PW.block_ret ?_ | refine Cut.ret ?_ | refine Rnd.ret ?_ | refine PW.block_normal ?_ | refine CW.exit ?_ | refine PW.then_exit ?_ | refine PW.block_hit ?_ | refine PW.block_miss rfl ?_ | refine Cut.exit ?_ | refine Rnd.exit ?_ | refine CW.scope ?_ | refine CW.label ?_ | refine PW.scope_normal ?_ | refine PW.scope_ret ?_ | refine PW.scope_exit ?_)
    refine CW.region ?_
    refine L1 (ps_assign rfl).os ?_
    refine L1 (ps_assign rfl).os ?_
    refine L1 (ps_assign rfl).os ?_
    refine LW.nil ?_
    repeat (first | refine CW.seq ?_ | refine PW.then_ ?_ | refine PW.then_to rfl ?_ | refine CW.block ?_ | refine CW.skip ?_ | refine CW.ret ?_ | refine PW.then_ret ?_ | refine PW.block_ret ?_ | refine Cut.ret ?_ | refine Rnd.ret ?_ | refine PW.block_normal ?_ | refine CW.exit ?_ | refine PW.then_exit ?_ | refine PW.block_hit ?_ | refine PW.block_miss rfl ?_ | refine Cut.exit ?_ | refine Rnd.exit ?_ | refine CW.scope ?_ | refine CW.label ?_ | refine PW.scope_normal ?_ | refine PW.scope_ret ?_ | refine PW.scope_exit ?_)
    exact Fin.ret3 (v1 := .slice none 0 0) (v2 := .int .i64 0) (v3 := .bool false) rfl [_] rfl rfl rfl hbad (by repeat (first | exact Ent.refl _ | (apply Ent.cons; · repeat (first | exact pk_head _ _ | apply pk_tail)) | apply Ent.skip))
  by_cases hN : (4096 : Int) < (N : Int)
  · rw [if_pos (Or.inr (by omega))] at hR
    replace hbad := hbad hR
    clear hR
    generalize recAt st.data a number = R at hbad ⊢
    refine CW.region ?_
    refine L1 (ps_move rfl).os ?_
    refine L1 (ps_move rfl).os ?_
    refine L1 (ps_f (ps_neq rfl rfl) ((fun h => h hK))).os ?_
    refine L1 (ps_move rfl).os ?_
    refine LG1 ?_ (ps_move rfl).os ?_
    · exact rfl
    refine LG1 ?_ (ps_t (ps_gtr rfl rfl) (hN)).os ?_
    · exact rfl
    refine L1 (ps_pick_f rfl rfl).os ?_
    refine LW.nil ?_
    repeat (first | refine CW.seq ?_ | refine PW.then_ ?_ | refine PW.then_to rfl ?_ | refine CW.block ?_ | refine CW.skip ?_ | refine CW.ret ?_ | refine PW.then_ret ?_ | refine PW.block_ret ?_ | refine Cut.ret ?_ | refine Rnd.ret ?_ | refine PW.block_normal ?_ | refine CW.exit ?_ | refine PW.then_exit ?_ | refine PW.block_hit ?_ | refine PW.block_miss rfl ?_ | refine Cut.exit ?_ | refine Rnd.exit ?_ | refine CW.scope ?_ | refine CW.label ?_ | refine PW.scope_normal ?_ | refine PW.scope_ret ?_ | refine PW.scope_exit ?_)
    refine CW.cond_true rfl ?_
    repeat (first | refine CW.seq ?_ | refine PW.then_ ?_ | refine PW.then_to rfl ?_ | refine CW.block ?_ | refine CW.skip ?_ | refine CW.ret ?_ | refine PW.then_ret ?_ | refine PW.block_ret ?_ | refine Cut.ret ?_ | refine Rnd.ret ?_ | refine PW.block_normal ?_ | refine CW.exit ?_ | refine PW.then_exit ?_ | refine PW.block_hit ?_ | refine PW.block_miss rfl ?_ | refine Cut.exit ?_ | refine Rnd.exit ?_ | refine CW.scope ?_ | refine CW.label ?_ | refine PW.scope_normal ?_ | refine PW.scope_ret ?_ | refine PW.scope_exit ?_)
    refine CW.region ?_
    refine L1 (ps_assign rfl).os ?_
    refine L1 (ps_assign rfl).os ?_
    refine L1 (ps_assign rfl).os ?_
    refine LW.nil ?_
    repeat (first | refine CW.seq ?_ | refine PW.then_ ?_ | refine PW.then_to rfl ?_ | refine CW.block ?_ | refine CW.skip ?_ | refine CW.ret ?_ | refine PW.then_ret ?_ | refine PW.block_ret ?_ | refine Cut.ret ?_ | refine Rnd.ret ?_ | refine PW.block_normal ?_ | refine CW.exit ?_ | refine PW.then_exit ?_ | refine PW.block_hit ?_ | refine PW.block_miss rfl ?_ | refine Cut.exit ?_ | refine Rnd.exit ?_ | refine CW.scope ?_ | refine CW.label ?_ | refine PW.scope_normal ?_ | refine PW.scope_ret ?_ | refine PW.scope_exit ?_)
    exact Fin.ret3 (v1 := .slice none 0 0) (v2 := .int .i64 0) (v3 := .bool false) rfl [_] rfl rfl rfl hbad (by repeat (first | exact Ent.refl _ | (apply Ent.cons; · repeat (first | exact pk_head _ _ | apply pk_tail)) | apply Ent.skip))
  rw [if_neg (by omega)] at hR
  refine CW.region ?_
  refine L1 (ps_move rfl).os ?_
  refine L1 (ps_move rfl).os ?_
  refine L1 (ps_f (ps_neq rfl rfl) ((fun h => h hK))).os ?_
  refine L1 (ps_move rfl).os ?_
  refine LG1 ?_ (ps_move rfl).os ?_
  · exact rfl
  refine LG1 ?_ (ps_f (ps_gtr rfl rfl) (hN)).os ?_
  · exact rfl
  refine L1 (ps_pick_f rfl rfl).os ?_
  refine LW.nil ?_
  repeat (first | refine CW.seq ?_ | refine PW.then_ ?_ | refine PW.then_to rfl ?_ | refine CW.block ?_ | refine CW.skip ?_ | refine CW.ret ?_ | refine PW.then_ret ?_ | refine PW.block_ret ?_ | refine Cut.ret ?_ | refine Rnd.ret ?_ | refine PW.block_normal ?_ | refine CW.exit ?_ | refine PW.then_exit ?_ | refine PW.block_hit ?_ | refine PW.block_miss rfl ?_ | refine Cut.exit ?_ | refine Rnd.exit ?_ | refine CW.scope ?_ | refine CW.label ?_ | refine PW.scope_normal ?_ | refine PW.scope_ret ?_ | refine PW.scope_exit ?_)
  refine CW.cond_false rfl ?_
  repeat (first | refine CW.seq ?_ | refine PW.then_ ?_ | refine PW.then_to rfl ?_ | refine CW.block ?_ | refine CW.skip ?_ | refine CW.ret ?_ | refine PW.then_ret ?_ | refine PW.block_ret ?_ | refine Cut.ret ?_ | refine Rnd.ret ?_ | refine PW.block_normal ?_ | refine CW.exit ?_ | refine PW.then_exit ?_ | refine PW.block_hit ?_ | refine PW.block_miss rfl ?_ | refine Cut.exit ?_ | refine Rnd.exit ?_ | refine CW.scope ?_ | refine CW.label ?_ | refine PW.scope_normal ?_ | refine PW.scope_ret ?_ | refine PW.scope_exit ?_)
  refine CW.region ?_
  refine L1 (ps_move rfl).os ?_
  refine LE (os_append0 (news := bv D) T.un27 T.ti5 (by rfl) (by decide) rfl rfl (by rw [length_bv, hd56]) ((hby b).src (by repeat (first | exact pk_head _ _ | apply pk_tail))) (bv_one _) (by decide) (by decide)) ?_
  rintro _ _ ⟨q0, d0, rfl, rfl, hq0⟩
  refine L1 (ps_assign rfl).os ?_
  refine LW.nil ?_
  repeat (first | refine CW.seq ?_ | refine PW.then_ ?_ | refine PW.then_to rfl ?_ | refine CW.block ?_ | refine CW.skip ?_ | refine CW.ret ?_ | refine PW.then_ret ?_ | refine PW.block_ret ?_ | refine Cut.ret ?_ | refine Rnd.ret ?_ | refine PW.block_normal ?_ | refine CW.exit ?_ | refine PW.then_exit ?_ | refine PW.block_hit ?_ | refine PW.block_miss rfl ?_ | refine Cut.exit ?_ | refine Rnd.exit ?_ | refine CW.scope ?_ | refine CW.label ?_ | refine PW.scope_normal ?_ | refine PW.scope_ret ?_ | refine PW.scope_exit ?_)
  refine CW.cutB (α := Unit) (List.range 75) (fun _ => True) (fun _ => [(0, ptr p), (1, .int .i64 (a : Nat)), (9, .int .i64 (S : Nat)), (14, .int .i64 (N : Nat)), (15, .slice q0 56 d0), (16, .int .i64 1)]) (fun _ => slOwn 5 1 (.slice q0 56 d0) 56 (bv D) :: DiskAt p st :: F) ?_ ?_
  · refine CW.region ?_
    refine L1 (ps_assign rfl).os ?_
    refine LW.nil ?_
    exact Meet.cut () trivial (by repeat (first | (with_reducible exact Ag.refl _ _) | (with_reducible assumption) | (with_reducible apply Ag.pu0) | ((with_reducible refine Ag.pu _ ?_ ?_); · exact rfl) | ((with_reducible refine Ag.mix ?_ ?_); · exact rfl) | ((with_reducible refine Ag.pus ?_ ?_); · exact rfl))) ⟨rfl, rfl, rfl, rfl, rfl, rfl, trivial⟩ (by repeat (first | exact Ent.refl _ | (apply Ent.cons; · repeat (first | exact pk_head _ _ | apply pk_tail)) | apply Ent.skip))
  intro _ g0 _
  generalize mix (List.range 75) g0 _ = f0
  clear hq0 hby hby8 n1 i1 i2 hsa
  repeat (first | refine CW.seq ?_ | refine PW.then_ ?_ | refine PW.then_to rfl ?_ | refine CW.block ?_ | refine CW.skip ?_ | refine CW.ret ?_ | refine PW.then_ret ?_ | refine PW.block_ret ?_ | refine Cut.ret ?_ | refine Rnd.ret ?_ | refine PW.block_normal ?_ | refine CW.exit ?_ | refine PW.then_exit ?_ | refine PW.block_hit ?_ | refine PW.block_miss rfl ?_ | refine Cut.exit ?_ | refine Rnd.exit ?_ | refine CW.scope ?_ | refine CW.label ?_ | refine PW.scope_normal ?_ | refine PW.scope_ret ?_ | refine PW.scope_exit ?_)
  have hszN : 1 ≤ sz N := sz_pos N
  have hsz2 : sz N ≤ 75 := by unfold sz; omega
  have hsz3 : N + 8 ≤ 56 * sz N := by unfold sz; omega
  have hsize := size_spec N (by omega)
  refine CW.loopM (α := Nat × List UInt8 × Option Addr × Nat) ([6, 7, 8, 15, 16, 17, 18, 19, 45, 46, 47, 48, 49, 50, 51, 52, 53, 54, 55, 56, 57, 58, 59, 60, 61, 62, 63, 64, 65, 66, 67, 68, 69]) (fun k z => 1 ≤ z.1 ∧ z.1 ≤ sz N ∧ z.2.1.length = 56 * (z.1 - 1) ∧ gather st.data a S (sz N - 1) 1 = (gather st.data a S (sz N - z.1) z.1).map (z.2.1 ++ ·) ∧ k = sz N - z.1)
    (fun z => [(15, .slice z.2.2.1 (56 * z.1) z.2.2.2), (16, .int .i64 (z.1 : Nat))]) (fun z => slOwn 5 1 (.slice z.2.2.1 (56 * z.1) z.2.2.2) (56 * z.1) (bv (D ++ z.2.1)) :: DiskAt p st :: F) (sz N - 1) (1, [], q0, d0)
    ⟨Nat.le_refl _, hszN, rfl, by simp, rfl⟩ ⟨rfl, rfl, trivial⟩ (by rw [List.append_nil]; exact (by repeat (first | exact Ent.refl _ | (apply Ent.cons; · repeat (first | exact pk_head _ _ | apply pk_tail)) | apply Ent.skip))) ?_
  rintro k ⟨i, more, q, d⟩ g ⟨hi1, hi2, hml, hgt, hk⟩
  dsimp only at hi1 hi2 hml hgt hk ⊢
  repeat (first | refine CW.seq ?_ | refine PW.then_ ?_ | refine PW.then_to rfl ?_ | refine CW.block ?_ | refine CW.skip ?_ | refine CW.ret ?_ | refine PW.then_ret ?_ | refine PW.block_ret ?_ | refine Cut.ret ?_ | refine Rnd.ret ?_ | refine PW.block_normal ?_ | refine CW.exit ?_ | refine PW.then_exit ?_ | refine PW.block_hit ?_ | refine PW.block_miss rfl ?_ | refine Cut.exit ?_ | refine Rnd.exit ?_ | refine CW.scope ?_ | refine CW.label ?_ | refine PW.scope_normal ?_ | refine PW.scope_ret ?_ | refine PW.scope_exit ?_)
  by_cases hlt2 : i < sz N
  · have hcast : ((a : Int) + (i : Int)) = ((a + i : Nat) : Int) := rfl
    have hm : sz N - i = (sz N - (i + 1)) + 1 := by omega
    rw [hm, gather_step] at hgt
    by_cases hlt3 : a + i < st.data.length
    · have hsi := sector_at p st hok hw (a + i) (by omega) st.data[a + i] (List.getElem?_eq_getElem hlt3)
      have hsd := sec_dlen (hok.dlen _ (List.getElem_mem hlt3))
      rw [secAt_some hlt3] at hgt
      have hby2 : ∀ b, ByR (cb b 77 (bv st.data[a + i])) (.slice (some ⟨b, 4, none⟩) 56 60) (sec st.data[a + i]).2.1 := fun b =>
        (ByR.drop (ByR.cb (by rw [List.drop_zero, List.take_of_length_le (by simp [bv])]) (hok.dlen _ (List.getElem_mem hlt3)) (Nat.le_refl _)) 4 (by rw [hok.dlen _ (List.getElem_mem hlt3)]; decide)).take 56 (by rw [List.length_drop, hok.dlen _ (List.getElem_mem hlt3)]; decide)
      generalize st.data[a + i] = s2 at *
      generalize (sec s2).2.1 = D2 at *
      cases hok2 : (sec s2).2.2 with
      | false =>
        rw [hok2, if_neg (by simp)] at hgt
        rw [hgt] at hR
        replace hbad := hbad hR
        clear hR
        rw [hok2] at hsi
        generalize (sec s2).1 = S2 at *
        generalize recAt st.data a number = R at hbad ⊢
        refine CW.region ?_
        refine L1 (ps_move rfl).os ?_
        refine L1 (ps_move rfl).os ?_
        refine L1 (os_call0 hsize Try.func41 (by decide +kernel) rfl rfl) ?_
        refine L1 (ps_t (ps_lss rfl rfl) (by omega)).os ?_
        refine LW.nil ?_
        repeat (first | refine CW.seq ?_ | refine PW.then_ ?_ | refine PW.then_to rfl ?_ | refine CW.block ?_ | refine CW.skip ?_ | refine CW.ret ?_ | refine PW.then_ret ?_ | refine PW.block_ret ?_ | refine Cut.ret ?_ | refine Rnd.ret ?_ | refine PW.block_normal ?_ | refine CW.exit ?_ | refine PW.then_exit ?_ | refine PW.block_hit ?_ | refine PW.block_miss rfl ?_ | refine Cut.exit ?_ | refine Rnd.exit ?_ | refine CW.scope ?_ | refine CW.label ?_ | refine PW.scope_normal ?_ | refine PW.scope_ret ?_ | refine PW.scope_exit ?_)
        refine CW.cond_true rfl ?_
        repeat (first | refine CW.seq ?_ | refine PW.then_ ?_ | refine PW.then_to rfl ?_ | refine CW.block ?_ | refine CW.skip ?_ | refine CW.ret ?_ | refine PW.then_ret ?_ | refine PW.block_ret ?_ | refine Cut.ret ?_ | refine Rnd.ret ?_ | refine PW.block_normal ?_ | refine CW.exit ?_ | refine PW.then_exit ?_ | refine PW.block_hit ?_ | refine PW.block_miss rfl ?_ | refine Cut.exit ?_ | refine Rnd.exit ?_ | refine CW.scope ?_ | refine CW.label ?_ | refine PW.scope_normal ?_ | refine PW.scope_ret ?_ | refine PW.scope_exit ?_)
        refine CW.region ?_
        refine L1 (ps_move rfl).os ?_
        refine L1 (ps_move rfl).os ?_
        refine L1 (ps_move rfl).os ?_
        refine L1 (ps_to (u := .int .i64 ((a + i : Nat) : Int)) (by rfl) (ps_add_i64 rfl rfl (by omega) (by omega))).os ?_
        refine LE (os_call hsi Try.func43 (by decide +kernel) rfl rfl (pkc (by repeat (first | exact pk_head _ _ | apply pk_tail)) (pkn _))) ?_
        rintro _ _ ⟨_, ⟨b2, rfl, rfl⟩, rfl⟩
        refine L1 (ps_move rfl).os ?_
        refine L1 (ps_extract rfl rfl).os ?_
        refine L1 (ps_extract rfl rfl).os ?_
        refine L1 (ps_extract rfl rfl).os ?_
        refine L1 (ps_assign rfl).os ?_
        refine L1 (ps_assign rfl).os ?_
        refine L1 (ps_assign rfl).os ?_
        refine LW.nil ?_
        repeat (first | refine CW.seq ?_ | refine PW.then_ ?_ | refine PW.then_to rfl ?_ | refine CW.block ?_ | refine CW.skip ?_ | refine CW.ret ?_ | refine PW.then_ret ?_ | refine PW.block_ret ?_ | refine Cut.ret ?_ | refine Rnd.ret ?_ | refine PW.block_normal ?_ | refine CW.exit ?_ | refine PW.then_exit ?_ | refine PW.block_hit ?_ | refine PW.block_miss rfl ?_ | refine Cut.exit ?_ | refine Rnd.exit ?_ | refine CW.scope ?_ | refine CW.label ?_ | refine PW.scope_normal ?_ | refine PW.scope_ret ?_ | refine PW.scope_exit ?_)
        refine CW.region ?_
        refine L1 (ps_move rfl).os ?_
        refine L1 (ps_not rfl).os ?_
        refine L1 (ps_move rfl).os ?_
        refine LG0f ?_ ?_
        · exact rfl
        refine LG0f ?_ ?_
        · exact rfl
        refine LG0f ?_ ?_
        · exact rfl
        refine L1 (ps_pick_t rfl rfl).os ?_
        refine LW.nil ?_
        repeat (first | refine CW.seq ?_ | refine PW.then_ ?_ | refine PW.then_to rfl ?_ | refine CW.block ?_ | refine CW.skip ?_ | refine CW.ret ?_ | refine PW.then_ret ?_ | refine PW.block_ret ?_ | refine Cut.ret ?_ | refine Rnd.ret ?_ | refine PW.block_normal ?_ | refine CW.exit ?_ | refine PW.then_exit ?_ | refine PW.block_hit ?_ | refine PW.block_miss rfl ?_ | refine Cut.exit ?_ | refine Rnd.exit ?_ | refine CW.scope ?_ | refine CW.label ?_ | refine PW.scope_normal ?_ | refine PW.scope_ret ?_ | refine PW.scope_exit ?_)
        refine CW.cond_true rfl ?_
        repeat (first | refine CW.seq ?_ | refine PW.then_ ?_ | refine PW.then_to rfl ?_ | refine CW.block ?_ | refine CW.skip ?_ | refine CW.ret ?_ | refine PW.then_ret ?_ | refine PW.block_ret ?_ | refine Cut.ret ?_ | refine Rnd.ret ?_ | refine PW.block_normal ?_ | refine CW.exit ?_ | refine PW.then_exit ?_ | refine PW.block_hit ?_ | refine PW.block_miss rfl ?_ | refine Cut.exit ?_ | refine Rnd.exit ?_ | refine CW.scope ?_ | refine CW.label ?_ | refine PW.scope_normal ?_ | refine PW.scope_ret ?_ | refine PW.scope_exit ?_)
        refine CW.region ?_
        refine L1 (ps_assign rfl).os ?_
        refine L1 (ps_assign rfl).os ?_
        refine L1 (ps_assign rfl).os ?_
        refine LW.nil ?_
        repeat (first | refine CW.seq ?_ | refine PW.then_ ?_ | refine PW.then_to rfl ?_ | refine CW.block ?_ | refine CW.skip ?_ | refine CW.ret ?_ | refine PW.then_ret ?_ | refine PW.block_ret ?_ | refine Cut.ret ?_ | refine Rnd.ret ?_ | refine PW.block_normal ?_ | refine CW.exit ?_ | refine PW.then_exit ?_ | refine PW.block_hit ?_ | refine PW.block_miss rfl ?_ | refine Cut.exit ?_ | refine Rnd.exit ?_ | refine CW.scope ?_ | refine CW.label ?_ | refine PW.scope_normal ?_ | refine PW.scope_ret ?_ | refine PW.scope_exit ?_)
        exact Fin.ret3 (v1 := .slice none 0 0) (v2 := .int .i64 0) (v3 := .bool false) rfl [_] rfl rfl rfl hbad (by repeat (first | exact Ent.refl _ | (apply Ent.cons; · repeat (first | exact pk_head _ _ | apply pk_tail)) | apply Ent.skip))
      | true =>
        rw [hok2] at hsi hgt
        by_cases hss : (sec s2).1 = S
        · rw [if_pos ⟨rfl, hss⟩] at hgt
          rw [hss] at hsi
          have hgt' : gather st.data a S (sz N - 1) 1 = (gather st.data a S (sz N - (i + 1)) (i + 1)).map ((more ++ D2) ++ ·) := by
            rw [hgt, Option.map_map]
            congr 1
            funext x
            simp
          have hbv : bv (D ++ (more ++ D2)) = bv (D ++ more) ++ bv D2 := by rw [← bv_append, List.append_assoc]
          refine CW.region ?_
          refine L1 (ps_move rfl).os ?_
          refine L1 (ps_move rfl).os ?_
          refine L1 (os_call0 hsize Try.func41 (by decide +kernel) rfl rfl) ?_
          refine L1 (ps_t (ps_lss rfl rfl) (by omega)).os ?_
          refine LW.nil ?_
          repeat (first | refine CW.seq ?_ | refine PW.then_ ?_ | refine PW.then_to rfl ?_ | refine CW.block ?_ | refine CW.skip ?_ | refine CW.ret ?_ | refine PW.then_ret ?_ | refine PW.block_ret ?_ | refine Cut.ret ?_ | refine Rnd.ret ?_ | refine PW.block_normal ?_ | refine CW.exit ?_ | refine PW.then_exit ?_ | refine PW.block_hit ?_ | refine PW.block_miss rfl ?_ | refine Cut.exit ?_ | refine Rnd.exit ?_ | refine CW.scope ?_ | refine CW.label ?_ | refine PW.scope_normal ?_ | refine PW.scope_ret ?_ | refine PW.scope_exit ?_)
          refine CW.cond_true rfl ?_
          repeat (first | refine CW.seq ?_ | refine PW.then_ ?_ | refine PW.then_to rfl ?_ | refine CW.block ?_ | refine CW.skip ?_ | refine CW.ret ?_ | refine PW.then_ret ?_ | refine PW.block_ret ?_ | refine Cut.ret ?_ | refine Rnd.ret ?_ | refine PW.block_normal ?_ | refine CW.exit ?_ | refine PW.then_exit ?_ | refine PW.block_hit ?_ | refine PW.block_miss rfl ?_ | refine Cut.exit ?_ | refine Rnd.exit ?_ | refine CW.scope ?_ | refine CW.label ?_ | refine PW.scope_normal ?_ | refine PW.scope_ret ?_ | refine PW.scope_exit ?_)
          refine CW.region ?_
          refine L1 (ps_move rfl).os ?_
          refine L1 (ps_move rfl).os ?_
          refine L1 (ps_move rfl).os ?_
          refine L1 (ps_to (u := .int .i64 ((a + i : Nat) : Int)) (by rfl) (ps_add_i64 rfl rfl (by omega) (by omega))).os ?_
          refine LE (os_call hsi Try.func43 (by decide +kernel) rfl rfl (pkc (by repeat (first | exact pk_head _ _ | apply pk_tail)) (pkn _))) ?_
          rintro _ _ ⟨_, ⟨b2, rfl, rfl⟩, rfl⟩
          refine L1 (ps_move rfl).os ?_
          refine L1 (ps_extract rfl rfl).os ?_
          refine L1 (ps_extract rfl rfl).os ?_
          refine L1 (ps_extract rfl rfl).os ?_
          refine L1 (ps_assign rfl).os ?_
          refine L1 (ps_assign rfl).os ?_
          refine L1 (ps_assign rfl).os ?_
          refine LW.nil ?_
          repeat (first | refine CW.seq ?_ | refine PW.then_ ?_ | refine PW.then_to rfl ?_ | refine CW.block ?_ | refine CW.skip ?_ | refine CW.ret ?_ | refine PW.then_ret ?_ | refine PW.block_ret ?_ | refine Cut.ret ?_ | refine Rnd.ret ?_ | refine PW.block_normal ?_ | refine CW.exit ?_ | refine PW.then_exit ?_ | refine PW.block_hit ?_ | refine PW.block_miss rfl ?_ | refine Cut.exit ?_ | refine Rnd.exit ?_ | refine CW.scope ?_ | refine CW.label ?_ | refine PW.scope_normal ?_ | refine PW.scope_ret ?_ | refine PW.scope_exit ?_)
          refine CW.region ?_
          refine L1 (ps_move rfl).os ?_
          refine L1 (ps_not rfl).os ?_
          refine L1 (ps_move rfl).os ?_
          refine LG1 ?_ (ps_move rfl).os ?_
          · exact rfl
          refine LG1 ?_ (ps_move rfl).os ?_
          · exact rfl
          refine LG1 ?_ (ps_f (ps_neq rfl rfl) (fun h => h rfl)).os ?_
          · exact rfl
          refine L1 (ps_pick_f rfl rfl).os ?_
          refine LW.nil ?_
          repeat (first | refine CW.seq ?_ | refine PW.then_ ?_ | refine PW.then_to rfl ?_ | refine CW.block ?_ | refine CW.skip ?_ | refine CW.ret ?_ | refine PW.then_ret ?_ | refine PW.block_ret ?_ | refine Cut.ret ?_ | refine Rnd.ret ?_ | refine PW.block_normal ?_ | refine CW.exit ?_ | refine PW.then_exit ?_ | refine PW.block_hit ?_ | refine PW.block_miss rfl ?_ | refine Cut.exit ?_ | refine Rnd.exit ?_ | refine CW.scope ?_ | refine CW.label ?_ | refine PW.scope_normal ?_ | refine PW.scope_ret ?_ | refine PW.scope_exit ?_)
          refine CW.cond_false rfl ?_
          repeat (first | refine CW.seq ?_ | refine PW.then_ ?_ | refine PW.then_to rfl ?_ | refine CW.block ?_ | refine CW.skip ?_ | refine CW.ret ?_ | refine PW.then_ret ?_ | refine PW.block_ret ?_ | refine Cut.ret ?_ | refine Rnd.ret ?_ | refine PW.block_normal ?_ | refine CW.exit ?_ | refine PW.then_exit ?_ | refine PW.block_hit ?_ | refine PW.block_miss rfl ?_ | refine Cut.exit ?_ | refine Rnd.exit ?_ | refine CW.scope ?_ | refine CW.label ?_ | refine PW.scope_normal ?_ | refine PW.scope_ret ?_ | refine PW.scope_exit ?_)
          refine CW.region ?_
          refine L1 (ps_move rfl).os ?_
          refine L1 (ps_move rfl).os ?_
          refine LE (os_append (xs := bv (D ++ more)) (news := bv D2) (by repeat (first | exact pk_head _ _ | apply pk_tail)) T.un27 T.ti5 (by rfl) (by decide) rfl rfl (by rw [length_bv, hsd]) ((hby2 b2).src (by repeat (first | exact pk_head _ _ | apply pk_tail))) (bv_one _) (by unfold maxLen; omega) (by omega)) ?_
          rintro _ _ ⟨q', d', rfl, rfl, hq'⟩
          refine L1 (ps_assign rfl).os ?_
          refine LW.nil ?_
          repeat (first | refine CW.seq ?_ | refine PW.then_ ?_ | refine PW.then_to rfl ?_ | refine CW.block ?_ | refine CW.skip ?_ | refine CW.ret ?_ | refine PW.then_ret ?_ | refine PW.block_ret ?_ | refine Cut.ret ?_ | refine Rnd.ret ?_ | refine PW.block_normal ?_ | refine CW.exit ?_ | refine PW.then_exit ?_ | refine PW.block_hit ?_ | refine PW.block_miss rfl ?_ | refine Cut.exit ?_ | refine Rnd.exit ?_ | refine CW.scope ?_ | refine CW.label ?_ | refine PW.scope_normal ?_ | refine PW.scope_ret ?_ | refine PW.scope_exit ?_)
          refine CW.region ?_
          refine L1 (ps_move rfl).os ?_
          refine L1 (ps_to (u := .int .i64 ((i + 1 : Nat) : Int)) (by rfl) (ps_add_i64 rfl rfl (by omega) (by omega))).os ?_
          refine L1 (ps_assign rfl).os ?_
          refine LW.nil ?_
          have h56 : 56 * i + 56 = 56 * (i + 1) := by omega
          exact Meet.round (sz N - (i + 1)) (i + 1, more ++ D2, q', d') (by omega) ⟨by omega, hlt2, by rw [List.length_append, hml, hsd]; omega, hgt', rfl⟩ (by repeat (first | (with_reducible exact Ag.refl _ _) | (with_reducible assumption) | (with_reducible apply Ag.pu0) | ((with_reducible refine Ag.pu _ ?_ ?_); · exact rfl) | ((with_reducible refine Ag.mix ?_ ?_); · exact rfl) | ((with_reducible refine Ag.pus ?_ ?_); · exact rfl))) ⟨by rw [← h56]; rfl, rfl, trivial⟩ (by dsimp only; rw [← h56, hbv]; exact (by repeat (first | exact Ent.refl _ | (apply Ent.cons; · repeat (first | exact pk_head _ _ | apply pk_tail)) | apply Ent.skip)))
        · rw [if_neg (fun h => hss h.2)] at hgt
          rw [hgt] at hR
          replace hbad := hbad hR
          clear hR
          generalize (sec s2).1 = S2 at *
          generalize recAt st.data a number = R at hbad ⊢
          refine CW.region ?_
          refine L1 (ps_move rfl).os ?_
          refine L1 (ps_move rfl).os ?_
          refine L1 (os_call0 hsize Try.func41 (by decide +kernel) rfl rfl) ?_
          refine L1 (ps_t (ps_lss rfl rfl) (by omega)).os ?_
          refine LW.nil ?_
          repeat (first | refine CW.seq ?_ | refine PW.then_ ?_ | refine PW.then_to rfl ?_ | refine CW.block ?_ | refine CW.skip ?_ | refine CW.ret ?_ | refine PW.then_ret ?_ | refine PW.block_ret ?_ | refine Cut.ret ?_ | refine Rnd.ret ?_ | refine PW.block_normal ?_ | refine CW.exit ?_ | refine PW.then_exit ?_ | refine PW.block_hit ?_ | refine PW.block_miss rfl ?_ | refine Cut.exit ?_ | refine Rnd.exit ?_ | refine CW.scope ?_ | refine CW.label ?_ | refine PW.scope_normal ?_ | refine PW.scope_ret ?_ | refine PW.scope_exit ?_)
          refine CW.cond_true rfl ?_
          repeat (first | refine CW.seq ?_ | refine PW.then_ ?_ | refine PW.then_to rfl ?_ | refine CW.block ?_ | refine CW.skip ?_ | refine CW.ret ?_ | refine PW.then_ret ?_ | refine PW.block_ret ?_ | refine Cut.ret ?_ | refine Rnd.ret ?_ | refine PW.block_normal ?_ | refine CW.exit ?_ | refine PW.then_exit ?_ | refine PW.block_hit ?_ | refine PW.block_miss rfl ?_ | refine Cut.exit ?_ | refine Rnd.exit ?_ | refine CW.scope ?_ | refine CW.label ?_ | refine PW.scope_normal ?_ | refine PW.scope_ret ?_ | refine PW.scope_exit ?_)
          refine CW.region ?_
          refine L1 (ps_move rfl).os ?_
          refine L1 (ps_move rfl).os ?_
          refine L1 (ps_move rfl).os ?_
          refine L1 (ps_to (u := .int .i64 ((a + i : Nat) : Int)) (by rfl) (ps_add_i64 rfl rfl (by omega) (by omega))).os ?_
          refine LE (os_call hsi Try.func43 (by decide +kernel) rfl rfl (pkc (by repeat (first | exact pk_head _ _ | apply pk_tail)) (pkn _))) ?_
          rintro _ _ ⟨_, ⟨b2, rfl, rfl⟩, rfl⟩
          refine L1 (ps_move rfl).os ?_
          refine L1 (ps_extract rfl rfl).os ?_
          refine L1 (ps_extract rfl rfl).os ?_
          refine L1 (ps_extract rfl rfl).os ?_
          refine L1 (ps_assign rfl).os ?_
          refine L1 (ps_assign rfl).os ?_
          refine L1 (ps_assign rfl).os ?_
          refine LW.nil ?_
          repeat (first | refine CW.seq ?_ | refine PW.then_ ?_ | refine PW.then_to rfl ?_ | refine CW.block ?_ | refine CW.skip ?_ | refine CW.ret ?_ | refine PW.then_ret ?_ | refine PW.block_ret ?_ | refine Cut.ret ?_ | refine Rnd.ret ?_ | refine PW.block_normal ?_ | refine CW.exit ?_ | refine PW.then_exit ?_ | refine PW.block_hit ?_ | refine PW.block_miss rfl ?_ | refine Cut.exit ?_ | refine Rnd.exit ?_ | refine CW.scope ?_ | refine CW.label ?_ | refine PW.scope_normal ?_ | refine PW.scope_ret ?_ | refine PW.scope_exit ?_)
          refine CW.region ?_
          refine L1 (ps_move rfl).os ?_
          refine L1 (ps_not rfl).os ?_
          refine L1 (ps_move rfl).os ?_
          refine LG1 ?_ (ps_move rfl).os ?_
          · exact rfl
          refine LG1 ?_ (ps_move rfl).os ?_
          · exact rfl
          refine LG1 ?_ (ps_t (ps_neq rfl rfl) (by omega)).os ?_
          · exact rfl
          refine L1 (ps_pick_f rfl rfl).os ?_
          refine LW.nil ?_
          repeat (first | refine CW.seq ?_ | refine PW.then_ ?_ | refine PW.then_to rfl ?_ | refine CW.block ?_ | refine CW.skip ?_ | refine CW.ret ?_ | refine PW.then_ret ?_ | refine PW.block_ret ?_ | refine Cut.ret ?_ | refine Rnd.ret ?_ | refine PW.block_normal ?_ | refine CW.exit ?_ | refine PW.then_exit ?_ | refine PW.block_hit ?_ | refine PW.block_miss rfl ?_ | refine Cut.exit ?_ | refine Rnd.exit ?_ | refine CW.scope ?_ | refine CW.label ?_ | refine PW.scope_normal ?_ | refine PW.scope_ret ?_ | refine PW.scope_exit ?_)
          refine CW.cond_true rfl ?_
          repeat (first | refine CW.seq ?_ | refine PW.then_ ?_ | refine PW.then_to rfl ?_ | refine CW.block ?_ | refine CW.skip ?_ | refine CW.ret ?_ | refine PW.then_ret ?_ | refine PW.block_ret ?_ | refine Cut.ret ?_ | refine Rnd.ret ?_ | refine PW.block_normal ?_ | refine CW.exit ?_ | refine PW.then_exit ?_ | refine PW.block_hit ?_ | refine PW.block_miss rfl ?_ | refine Cut.exit ?_ | refine Rnd.exit ?_ | refine CW.scope ?_ | refine CW.label ?_ | refine PW.scope_normal ?_ | refine PW.scope_ret ?_ | refine PW.scope_exit ?_)
          refine CW.region ?_
          refine L1 (ps_assign rfl).os ?_
          refine L1 (ps_assign rfl).os ?_
          refine L1 (ps_assign rfl).os ?_
          refine LW.nil ?_
          repeat (first | refine CW.seq ?_ | refine PW.then_ ?_ | refine PW.then_to rfl ?_ | refine CW.block ?_ | refine CW.skip ?_ | refine CW.ret ?_ | refine PW.then_ret ?_ | refine PW.block_ret ?_ | refine Cut.ret ?_ | refine Rnd.ret ?_ | refine PW.block_normal ?_ | refine CW.exit ?_ | refine PW.then_exit ?_ | refine PW.block_hit ?_ | refine PW.block_miss rfl ?_ | refine Cut.exit ?_ | refine Rnd.exit ?_ | refine CW.scope ?_ | refine CW.label ?_ | refine PW.scope_normal ?_ | refine PW.scope_ret ?_ | refine PW.scope_exit ?_)
          exact Fin.ret3 (v1 := .slice none 0 0) (v2 := .int .i64 0) (v3 := .bool false) rfl [_] rfl rfl rfl hbad (by repeat (first | exact Ent.refl _ | (apply Ent.cons; · repeat (first | exact pk_head _ _ | apply pk_tail)) | apply Ent.skip))
    · have hsi := sector_bad p st hok hw (a + i) (by omega) (by omega)
      rw [secAt_none (by omega), if_neg (by simp)] at hgt
      rw [hgt] at hR
      replace hbad := hbad hR
      clear hR
      generalize recAt st.data a number = R at hbad ⊢
      refine CW.region ?_
      refine L1 (ps_move rfl).os ?_
      refine L1 (ps_move rfl).os ?_
      refine L1 (os_call0 hsize Try.func41 (by decide +kernel) rfl rfl) ?_
      refine L1 (ps_t (ps_lss rfl rfl) (by omega)).os ?_
      refine LW.nil ?_
      repeat (first | refine CW.seq ?_ | refine PW.then_ ?_ | refine PW.then_to rfl ?_ | refine CW.block ?_ | refine CW.skip ?_ | refine CW.ret ?_ | refine PW.then_ret ?_ | refine PW.block_ret ?_ | refine Cut.ret ?_ | refine Rnd.ret ?_ | refine PW.block_normal ?_ | refine CW.exit ?_ | refine PW.then_exit ?_ | refine PW.block_hit ?_ | refine PW.block_miss rfl ?_ | refine Cut.exit ?_ | refine Rnd.exit ?_ | refine CW.scope ?_ | refine CW.label ?_ | refine PW.scope_normal ?_ | refine PW.scope_ret ?_ | refine PW.scope_exit ?_)
      refine CW.cond_true rfl ?_
      repeat (first | refine CW.seq ?_ | refine PW.then_ ?_ | refine PW.then_to rfl ?_ | refine CW.block ?_ | refine CW.skip ?_ | refine CW.ret ?_ | refine PW.then_ret ?_ | refine PW.block_ret ?_ | refine Cut.ret ?_ | refine Rnd.ret ?_ | refine PW.block_normal ?_ | refine CW.exit ?_ | refine PW.then_exit ?_ | refine PW.block_hit ?_ | refine PW.block_miss rfl ?_ | refine Cut.exit ?_ | refine Rnd.exit ?_ | refine CW.scope ?_ | refine CW.label ?_ | refine PW.scope_normal ?_ | refine PW.scope_ret ?_ | refine PW.scope_exit ?_)
      refine CW.region ?_
      refine L1 (ps_move rfl).os ?_
      refine L1 (ps_move rfl).os ?_
      refine L1 (ps_move rfl).os ?_
      refine L1 (ps_to (u := .int .i64 ((a + i : Nat) : Int)) (by rfl) (ps_add_i64 rfl rfl (by omega) (by omega))).os ?_
      refine L1 (os_call1 hsi Try.func43 (by decide +kernel) rfl rfl (by repeat (first | exact pk_head _ _ | apply pk_tail))) ?_
      refine L1 (ps_move rfl).os ?_
      refine L1 (ps_extract rfl rfl).os ?_
      refine L1 (ps_extract rfl rfl).os ?_
      refine L1 (ps_extract rfl rfl).os ?_
      refine L1 (ps_assign rfl).os ?_
      refine L1 (ps_assign rfl).os ?_
      refine L1 (ps_assign rfl).os ?_
      refine LW.nil ?_
      repeat (first | refine CW.seq ?_ | refine PW.then_ ?_ | refine PW.then_to rfl ?_ | refine CW.block ?_ | refine CW.skip ?_ | refine CW.ret ?_ | refine PW.then_ret ?_ | refine PW.block_ret ?_ | refine Cut.ret ?_ | refine Rnd.ret ?_ | refine PW.block_normal ?_ | refine CW.exit ?_ | refine PW.then_exit ?_ | refine PW.block_hit ?_ | refine PW.block_miss rfl ?_ | refine Cut.exit ?_ | refine Rnd.exit ?_ | refine CW.scope ?_ | refine CW.label ?_ | refine PW.scope_normal ?_ | refine PW.scope_ret ?_ | refine PW.scope_exit ?_)
      refine CW.region ?_
      refine L1 (ps_move rfl).os ?_
      refine L1 (ps_not rfl).os ?_
      refine L1 (ps_move rfl).os ?_
      refine LG0f ?_ ?_
      · exact rfl
      refine LG0f ?_ ?_
      · exact rfl
      refine LG0f ?_ ?_
      · exact rfl
      refine L1 (ps_pick_t rfl rfl).os ?_
      refine LW.nil ?_
      repeat (first | refine CW.seq ?_ | refine PW.then_ ?_ | refine PW.then_to rfl ?_ | refine CW.block ?_ | refine CW.skip ?_ | refine CW.ret ?_ | refine PW.then_ret ?_ | refine PW.block_ret ?_ | refine Cut.ret ?_ | refine Rnd.ret ?_ | refine PW.block_normal ?_ | refine CW.exit ?_ | refine PW.then_exit ?_ | refine PW.block_hit ?_ | refine PW.block_miss rfl ?_ | refine Cut.exit ?_ | refine Rnd.exit ?_ | refine CW.scope ?_ | refine CW.label ?_ | refine PW.scope_normal ?_ | refine PW.scope_ret ?_ | refine PW.scope_exit ?_)
      refine CW.cond_true rfl ?_
      repeat (first | refine CW.seq ?_ | refine PW.then_ ?_ | refine PW.then_to rfl ?_ | refine CW.block ?_ | refine CW.skip ?_ | refine CW.ret ?_ | refine PW.then_ret ?_ | refine PW.block_ret ?_ | refine Cut.ret ?_ | refine Rnd.ret ?_ | refine PW.block_normal ?_ | refine CW.exit ?_ | refine PW.then_exit ?_ | refine PW.block_hit ?_ | refine PW.block_miss rfl ?_ | refine Cut.exit ?_ | refine Rnd.exit ?_ | refine CW.scope ?_ | refine CW.label ?_ | refine PW.scope_normal ?_ | refine PW.scope_ret ?_ | refine PW.scope_exit ?_)
      refine CW.region ?_
      refine L1 (ps_assign rfl).os ?_
      refine L1 (ps_assign rfl).os ?_
      refine L1 (ps_assign rfl).os ?_
      refine LW.nil ?_
      repeat (first | refine CW.seq ?_ | refine PW.then_ ?_ | refine PW.then_to rfl ?_ | refine CW.block ?_ | refine CW.skip ?_ | refine CW.ret ?_ | refine PW.then_ret ?_ | refine PW.block_ret ?_ | refine Cut.ret ?_ | refine Rnd.ret ?_ | refine PW.block_normal ?_ | refine CW.exit ?_ | refine PW.then_exit ?_ | refine PW.block_hit ?_ | refine PW.block_miss rfl ?_ | refine Cut.exit ?_ | refine Rnd.exit ?_ | refine CW.scope ?_ | refine CW.label ?_ | refine PW.scope_normal ?_ | refine PW.scope_ret ?_ | refine PW.scope_exit ?_)
      exact Fin.ret3 (v1 := .slice none 0 0) (v2 := .int .i64 0) (v3 := .bool false) rfl [_] rfl rfl rfl hbad (by repeat (first | exact Ent.refl _ | (apply Ent.cons; · repeat (first | exact pk_head _ _ | apply pk_tail)) | apply Ent.skip))
  have hie : i = sz N := by omega
  subst hie
  rw [Nat.sub_self] at hgt
  have hR2 : recAt st.data a number = some (((D ++ more).drop 8).take N, S) := by rw [hR, hgt]; simp [gather]
  have hlen : (D ++ more).length = 56 * sz N := by rw [List.length_append, hd56, hml]; omega
  have hbl : (((D ++ more).drop 8).take N).length = N := by rw [List.length_take, List.length_drop, hlen]; omega
  refine slOwn_info (m := 56 * sz N) (q := q) (d := d) (xs := bv (D ++ more)) (by repeat (first | exact pk_head _ _ | apply pk_tail)) fun o1 o2 o3 => ?_
  obtain ⟨gq, rfl⟩ := o3 (by omega)
  unfold maxLen at o2
  have hbyo : ByR (slOwn 5 1 (.slice (some ⟨gq, 0, none⟩) (56 * sz N) d) (56 * sz N) (bv (D ++ more))) (.slice (some ⟨gq, 0, none⟩) (56 * sz N) d) (D ++ more) := ByR.own hlen o1 (fun _ => ⟨gq, rfl⟩)
  have hbyd := ByR.drop hbyo 8 (by omega)
  rw [show cutOff 0 8 d 1 8 = 8 from (cutOff_ne (by omega)).trans (by rfl)] at hbyd
  have hbyt := hbyd.take N (by rw [List.length_drop, hlen]; omega)
  have hout : RecOut p st (recAt st.data a number) (.tuple #[.slice (some ⟨gq, 8, none⟩) N (d - 8), .int .i64 (S : Nat), .bool true]) [EnA (.slice (some ⟨gq, 8, none⟩) N (d - 8)) (((D ++ more).drop 8).take N), DiskAt p st] := by
    rw [hR2]
    refine ⟨gq, d - 8, by rw [hbl], by rw [hbl]; omega, by rw [hbl]⟩
  generalize recAt st.data a number = R at hout ⊢
  refine CW.region ?_
  refine L1 (ps_move rfl).os ?_
  refine L1 (ps_move rfl).os ?_
  refine L1 (os_call0 hsize Try.func41 (by decide +kernel) rfl rfl) ?_
  refine L1 (ps_f (ps_lss rfl rfl) (by omega)).os ?_
  refine LW.nil ?_
  repeat (first | refine CW.seq ?_ | refine PW.then_ ?_ | refine PW.then_to rfl ?_ | refine CW.block ?_ | refine CW.skip ?_ | refine CW.ret ?_ | refine PW.then_ret ?_ | refine PW.block_ret ?_ | refine Cut.ret ?_ | refine Rnd.ret ?_ | refine PW.block_normal ?_ | refine CW.exit ?_ | refine PW.then_exit ?_ | refine PW.block_hit ?_ | refine PW.block_miss rfl ?_ | refine Cut.exit ?_ | refine Rnd.exit ?_ | refine CW.scope ?_ | refine CW.label ?_ | refine PW.scope_normal ?_ | refine PW.scope_ret ?_ | refine PW.scope_exit ?_)
  refine CW.cond_false rfl ?_
  repeat (first | refine CW.seq ?_ | refine PW.then_ ?_ | refine PW.then_to rfl ?_ | refine CW.block ?_ | refine CW.skip ?_ | refine CW.ret ?_ | refine PW.then_ret ?_ | refine PW.block_ret ?_ | refine Cut.ret ?_ | refine Rnd.ret ?_ | refine PW.block_normal ?_ | refine CW.exit ?_ | refine PW.then_exit ?_ | refine PW.block_hit ?_ | refine PW.block_miss rfl ?_ | refine Cut.exit ?_ | refine Rnd.exit ?_ | refine CW.scope ?_ | refine CW.label ?_ | refine PW.scope_normal ?_ | refine PW.scope_ret ?_ | refine PW.scope_exit ?_)
  refine CW.region ?_
  refine L1 (ps_move rfl).os ?_
  refine L1 (ps_move rfl).os ?_
  refine L1 (ps_to (u := .int .i64 ((8 + N : Nat) : Int)) (by rfl) (ps_add_i64 rfl rfl (by omega) (by omega))).os ?_
  refine L1 (ps_to (u := .slice (some ⟨gq, 8, none⟩) N (d - 8)) (by rw [show cutOff 0 (8 : Int).toNat d 1 (8 : Int).toNat = 8 from (cutOff_ne (by show d ≠ 8; omega)).trans (by rfl), show ((8 + N : Nat) : Int).toNat - (8 : Int).toNat = N by omega]; rfl) (ps_sl_lh T.un27 T.sz5 rfl rfl rfl (by omega) (by omega) (by omega))).os ?_
  refine L1 (ps_move rfl).os ?_
  refine L1 (ps_assign rfl).os ?_
  refine L1 (ps_assign rfl).os ?_
  refine L1 (ps_assign rfl).os ?_
  refine LW.nil ?_
  repeat (first | refine CW.seq ?_ | refine PW.then_ ?_ | refine PW.then_to rfl ?_ | refine CW.block ?_ | refine CW.skip ?_ | refine CW.ret ?_ | refine PW.then_ret ?_ | refine PW.block_ret ?_ | refine Cut.ret ?_ | refine Rnd.ret ?_ | refine PW.block_normal ?_ | refine CW.exit ?_ | refine PW.then_exit ?_ | refine PW.block_hit ?_ | refine PW.block_miss rfl ?_ | refine Cut.exit ?_ | refine Rnd.exit ?_ | refine CW.scope ?_ | refine CW.label ?_ | refine PW.scope_normal ?_ | refine PW.scope_ret ?_ | refine PW.scope_exit ?_)
  exact Fin.ret3 (v1 := .slice (some ⟨gq, 8, none⟩) N (d - 8)) (v2 := .int .i64 (S : Nat)) (v3 := .bool true) rfl [_, _] rfl rfl rfl hout (Ent.trans (EnA.mk hbyt _) (by repeat (first | exact Ent.refl _ | (apply Ent.cons; · repeat (first | exact pk_head _ _ | apply pk_tail)) | apply Ent.skip)))
end Go.Proofs.Ytejbbpofamfhiaa
