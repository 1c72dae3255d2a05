/- The tape: what was hashed, in order. -/
import Derived.Test.YtcfipblnaifbhaaDoorShaP
import Derived.Test.YtcfipblnaifbhaaDoorShaCut
import Derived.Test.YtcfipblnaifbhaaDoorRng
namespace Go.Proofs.YtcfipblnaifbhaaDoor
set_option linter.unusedVariables false
set_option linter.unusedSimpArgs false
open Go Go.SL

theorem OfT_spec (tb n d0 : Nat) (q0 : Option Addr) (vals : List Value) (hn : n ≤ 100000) (E : Asn) (hE : Env E) (v : Value) (l : List (Value × List UInt8)) (hr : RowsR E v 1 (l.map fun x => [x.1])) (hB : ∀ x ∈ l, ByR E x.1 x.2) (hlen : (l.map (·.2)).flatten.length ≤ 1000000) :
    FSpec Tryd.prog 9 [.pointer (some ⟨tb, 0, none⟩), v] [cb tb 33 [.slice q0 n d0], slOwn 22 1 (.slice q0 n d0) n vals, E]
      (fun r As => r = .agg (bv (sumM (l.map (·.2)).flatten)).toArray ∧ ∃ q' d' p c, As = [cb tb 33 [.slice q' (n + 1) d'], slOwn 22 1 (.slice q' (n + 1) d') (n + 1) (vals ++ [.slice p (l.map (·.2)).flatten.length c]), slOwn 5 1 (.slice p (l.map (·.2)).flatten.length c) (l.map (·.2)).flatten.length (bv (l.map (·.2)).flatten), E]) := by
  obtain ⟨pv, cap, rfl, hcap1, hcap2, hpv⟩ := hr.len
  rw [show (List.map (fun x : Value × List UInt8 => [x.1]) l).length = l.length from List.length_map ..] at *
  have hcm := hcap2
  unfold maxLen at hcm
  obtain ⟨T1, hT1⟩ : ∃ T1, cb tb 33 [.slice q0 n d0] = T1 := ⟨_, rfl⟩
  obtain ⟨T2, hT2⟩ : ∃ T2, slOwn 22 1 (.slice q0 n d0) n vals = T2 := ⟨_, rfl⟩
  rw [hT1, hT2]
  refine FSpec.intro Tryd.func9 rfl 33 Tryd.ntmps9 (Nat.le_of_ble_eq_true rfl) fun w0 F => ?_
  show CW _ _ _ _ _ _ (_ :: _ :: _ :: F)
  repeat (first | refine CW.seq ?_ | refine PW.then_ ?_ | refine PW.then_to rfl ?_ | refine CW.block ?_ | refine CW.skip ?_ | refine CW.ret ?_ | refine PW.then_ret ?_ | refine PW.block_ret ?_ | refine Cut.ret ?_ | refine Rnd.ret ?_ | refine PW.block_normal ?_ | refine CW.exit ?_ | refine PW.then_exit ?_ | refine PW.block_hit ?_ | refine PW.block_miss rfl ?_ | refine Cut.exit ?_ | refine Rnd.exit ?_)
  refine CW.region ?_
  refine LE (os_alloc T.ti25) ?_
  rintro _ _ ⟨b4, rfl, rfl⟩
  refine LW.nil ?_
  repeat (first | refine CW.seq ?_ | refine PW.then_ ?_ | refine PW.then_to rfl ?_ | refine CW.block ?_ | refine CW.skip ?_ | refine CW.ret ?_ | refine PW.then_ret ?_ | refine PW.block_ret ?_ | refine Cut.ret ?_ | refine Rnd.ret ?_ | refine PW.block_normal ?_ | refine CW.exit ?_ | refine PW.then_exit ?_ | refine PW.block_hit ?_ | refine PW.block_miss rfl ?_ | refine Cut.exit ?_ | refine Rnd.exit ?_)
  refine CW.region ?_
  refine L1 (ps_assign rfl).os ?_
  refine LW.nil ?_
  repeat (first | refine CW.seq ?_ | refine PW.then_ ?_ | refine PW.then_to rfl ?_ | refine CW.block ?_ | refine CW.skip ?_ | refine CW.ret ?_ | refine PW.then_ret ?_ | refine PW.block_ret ?_ | refine Cut.ret ?_ | refine Rnd.ret ?_ | refine PW.block_normal ?_ | refine CW.exit ?_ | refine PW.then_exit ?_ | refine PW.block_hit ?_ | refine PW.block_miss rfl ?_ | refine Cut.exit ?_ | refine Rnd.exit ?_)
  refine CW.region ?_
  refine L1 (ps_move rfl).os ?_
  refine L1 (ps_len_sl T.un30 rfl).os ?_
  refine L1 (ps_move rfl).os ?_
  refine LW.nil ?_
  repeat (first | refine CW.seq ?_ | refine PW.then_ ?_ | refine PW.then_to rfl ?_ | refine CW.block ?_ | refine CW.skip ?_ | refine CW.ret ?_ | refine PW.then_ret ?_ | refine PW.block_ret ?_ | refine Cut.ret ?_ | refine Rnd.ret ?_ | refine PW.block_normal ?_ | refine CW.exit ?_ | refine PW.then_exit ?_ | refine PW.block_hit ?_ | refine PW.block_miss rfl ?_ | refine Cut.exit ?_ | refine Rnd.exit ?_)
  refine J.ent (Ent.slNil 5 1 _) ?_
  refine CW.loopM (α := Nat × Option Addr × Nat) [5, 7, 10, 11, 12, 13, 14, 15, 16, 17] (fun k a => a.1 ≤ l.length ∧ k = l.length - a.1) (fun a => [(10, .int .i64 a.1), (5, .slice a.2.1 (((l.take a.1).map (·.2)).flatten).length a.2.2)])
    (fun a => slOwn 5 1 (.slice a.2.1 (((l.take a.1).map (·.2)).flatten).length a.2.2) (((l.take a.1).map (·.2)).flatten).length (bv (((l.take a.1).map (·.2)).flatten)) :: cb b4 25 (List.replicate 32 (.int .u8 0)) :: T1 :: T2 :: E :: F) l.length (0, none, 0) ⟨Nat.zero_le _, rfl⟩ ⟨rfl, rfl, trivial⟩ (by repeat (first | exact Ent.refl _ | (apply Ent.cons; · repeat (first | exact pk_head _ _ | apply pk_tail)) | apply Ent.skip)) ?_
  rintro k ⟨i, q, d⟩ g ⟨hi, hk⟩
  dsimp only at hi hk ⊢
  repeat (first | refine CW.seq ?_ | refine PW.then_ ?_ | refine PW.then_to rfl ?_ | refine CW.block ?_ | refine CW.skip ?_ | refine CW.ret ?_ | refine PW.then_ret ?_ | refine PW.block_ret ?_ | refine Cut.ret ?_ | refine Rnd.ret ?_ | refine PW.block_normal ?_ | refine CW.exit ?_ | refine PW.then_exit ?_ | refine PW.block_hit ?_ | refine PW.block_miss rfl ?_ | refine Cut.exit ?_ | refine Rnd.exit ?_)
  by_cases hlt : i < l.length
  · have hsx := take_flat (·.2) l i hlt
    have hle := flat_take_le (·.2) l (i + 1)
    have hbi := hB l[i] (List.getElem_mem hlt)
    obtain ⟨vb, vo, rfl⟩ := hpv (fun h => by have := congrArg List.length h; simp at this; subst this; exact absurd hlt (Nat.not_lt_zero _))
    have hsrc := fun As Bs (hp : List.Perm As (E :: Bs)) => hr.src (i := i) (by simpa using hlt) hp
    simp only [List.getElem_map] at hsrc
    obtain ⟨⟨vv, c⟩, hlc⟩ : ∃ x, l[i] = x := ⟨_, rfl⟩
    rw [hlc] at hsx hbi hsrc
    dsimp only at hsx hbi hsrc
    have hbi0 := hbi
    obtain ⟨cq, cc, rfl, hcc, -⟩ := hbi0
    generalize ((l.take i).map (·.2)).flatten = pre at hsx ⊢
    have hpl : pre.length + c.length ≤ 1000000 := by rw [hsx, List.length_append] at hle; omega
    have hbva : bv (pre ++ c) = bv pre ++ bv c := bv_append _ _
    have hal : (pre ++ c).length = pre.length + c.length := List.length_append
    refine CW.region ?_
    refine L1 (ps_t (ps_lss rfl rfl) (by omega)).os ?_
    refine LW.nil ?_
    repeat (first | refine CW.seq ?_ | refine PW.then_ ?_ | refine PW.then_to rfl ?_ | refine CW.block ?_ | refine CW.skip ?_ | refine CW.ret ?_ | refine PW.then_ret ?_ | refine PW.block_ret ?_ | refine Cut.ret ?_ | refine Rnd.ret ?_ | refine PW.block_normal ?_ | refine CW.exit ?_ | refine PW.then_exit ?_ | refine PW.block_hit ?_ | refine PW.block_miss rfl ?_ | refine Cut.exit ?_ | refine Rnd.exit ?_)
    refine CW.cond_true rfl ?_
    repeat (first | refine CW.seq ?_ | refine PW.then_ ?_ | refine PW.then_to rfl ?_ | refine CW.block ?_ | refine CW.skip ?_ | refine CW.ret ?_ | refine PW.then_ret ?_ | refine PW.block_ret ?_ | refine Cut.ret ?_ | refine Rnd.ret ?_ | refine PW.block_normal ?_ | refine CW.exit ?_ | refine PW.then_exit ?_ | refine PW.block_hit ?_ | refine PW.block_miss rfl ?_ | refine Cut.exit ?_ | refine Rnd.exit ?_)
    refine CW.region ?_
    refine L1 (ps_ia_slice T.un30 T.sz22 rfl rfl (by omega) (by omega)).os ?_
    refine L1 (os_loadS1 (v := .slice cq c.length cc) (hsrc _ _ (by repeat (first | exact pk_head _ _ | apply pk_tail))) T.ag22 rfl) ?_
    refine L1 (ps_assign rfl).os ?_
    refine LW.nil ?_
    repeat (first | refine CW.seq ?_ | refine PW.then_ ?_ | refine PW.then_to rfl ?_ | refine CW.block ?_ | refine CW.skip ?_ | refine CW.ret ?_ | refine PW.then_ret ?_ | refine PW.block_ret ?_ | refine Cut.ret ?_ | refine Rnd.ret ?_ | refine PW.block_normal ?_ | refine CW.exit ?_ | refine PW.then_exit ?_ | refine PW.block_hit ?_ | refine PW.block_miss rfl ?_ | refine Cut.exit ?_ | refine Rnd.exit ?_)
    refine CW.region ?_
    refine L1 (ps_move rfl).os ?_
    refine L1 (ps_move rfl).os ?_
    refine LE (os_append (xs := bv pre) (news := bv c) (by repeat (first | exact pk_head _ _ | apply pk_tail)) T.un22 T.ti5 (by rfl) (by decide) rfl rfl (by simp) (hbi.src (by repeat (first | exact pk_head _ _ | apply pk_tail))) (bv_one _) (by unfold maxLen; omega) (by omega)) ?_
    rintro _ _ ⟨q', d', rfl, rfl, hq'⟩
    refine L1 (ps_assign rfl).os ?_
    refine LW.nil ?_
    repeat (first | refine CW.seq ?_ | refine PW.then_ ?_ | refine PW.then_to rfl ?_ | refine CW.block ?_ | refine CW.skip ?_ | refine CW.ret ?_ | refine PW.then_ret ?_ | refine PW.block_ret ?_ | refine Cut.ret ?_ | refine Rnd.ret ?_ | refine PW.block_normal ?_ | refine CW.exit ?_ | refine PW.then_exit ?_ | refine PW.block_hit ?_ | refine PW.block_miss rfl ?_ | refine Cut.exit ?_ | refine Rnd.exit ?_)
    refine CW.region ?_
    refine L1 (ps_add_i64 rfl rfl (by omega) (by omega)).os ?_
    refine L1 (ps_move rfl).os ?_
    refine LW.nil ?_
    exact Meet.round (l.length - (i + 1)) (i + 1, q', d') (by omega) ⟨hlt, rfl⟩ (by repeat (first | (with_reducible exact Ag.refl _ _) | (with_reducible apply Ag.pu0) | ((with_reducible refine Ag.pu _ ?_ ?_); · exact rfl) | ((with_reducible refine Ag.mix ?_ ?_); · exact rfl) | ((with_reducible refine Ag.pus ?_ ?_); · exact rfl))) (by dsimp only; rw [hsx, hal]; exact ⟨rfl, rfl, trivial⟩) (by dsimp only; rw [hsx, hbva, hal]; exact (by repeat (first | exact Ent.refl _ | (apply Ent.cons; · repeat (first | exact pk_head _ _ | apply pk_tail)) | apply Ent.skip)))
  have hil : i = l.length := by omega
  subst hil
  rw [List.take_length]
  generalize ((l.map (·.2)).flatten) = bs at hlen ⊢
  refine slOwn_info (m := bs.length) (xs := bv bs) (by repeat (first | exact pk_head _ _ | apply pk_tail)) fun o1 o2 o3 => ?_
  have hby := ByR.own (e := 5) (d := d) (q := q) (bs := bs) rfl o1 o3
  generalize slOwn 5 1 (.slice q bs.length d) bs.length (bv bs) = Y at hby ⊢
  have hsm := sum_spec Y E hE _ bs hby hlen
  have hbl : (bv (sumM bs)).length = 32 := by rw [length_bv, sumM_len]
  generalize sumM bs = o at hsm hbl ⊢
  refine CW.region ?_
  refine L1 (ps_f (ps_lss rfl rfl) (by omega)).os ?_
  refine LW.nil ?_
  repeat (first | refine CW.seq ?_ | refine PW.then_ ?_ | refine PW.then_to rfl ?_ | refine CW.block ?_ | refine CW.skip ?_ | refine CW.ret ?_ | refine PW.then_ret ?_ | refine PW.block_ret ?_ | refine Cut.ret ?_ | refine Rnd.ret ?_ | refine PW.block_normal ?_ | refine CW.exit ?_ | refine PW.then_exit ?_ | refine PW.block_hit ?_ | refine PW.block_miss rfl ?_ | refine Cut.exit ?_ | refine Rnd.exit ?_)
  refine CW.cond_false rfl ?_
  repeat (first | refine CW.seq ?_ | refine PW.then_ ?_ | refine PW.then_to rfl ?_ | refine CW.block ?_ | refine CW.skip ?_ | refine CW.ret ?_ | refine PW.then_ret ?_ | refine PW.block_ret ?_ | refine Cut.ret ?_ | refine Rnd.ret ?_ | refine PW.block_normal ?_ | refine CW.exit ?_ | refine PW.then_exit ?_ | refine PW.block_hit ?_ | refine PW.block_miss rfl ?_ | refine Cut.exit ?_ | refine Rnd.exit ?_)
  refine CW.region ?_
  refine L1 (ps_move rfl).os ?_
  refine L1 (ps_ptr_neq_nil T.un31 rfl rfl).os ?_
  refine LW.nil ?_
  repeat (first | refine CW.seq ?_ | refine PW.then_ ?_ | refine PW.then_to rfl ?_ | refine CW.block ?_ | refine CW.skip ?_ | refine CW.ret ?_ | refine PW.then_ret ?_ | refine PW.block_ret ?_ | refine Cut.ret ?_ | refine Rnd.ret ?_ | refine PW.block_normal ?_ | refine CW.exit ?_ | refine PW.then_exit ?_ | refine PW.block_hit ?_ | refine PW.block_miss rfl ?_ | refine Cut.exit ?_ | refine Rnd.exit ?_)
  refine CW.cond_true rfl ?_
  repeat (first | refine CW.seq ?_ | refine PW.then_ ?_ | refine PW.then_to rfl ?_ | refine CW.block ?_ | refine CW.skip ?_ | refine CW.ret ?_ | refine PW.then_ret ?_ | refine PW.block_ret ?_ | refine Cut.ret ?_ | refine Rnd.ret ?_ | refine PW.block_normal ?_ | refine CW.exit ?_ | refine PW.then_exit ?_ | refine PW.block_hit ?_ | refine PW.block_miss rfl ?_ | refine Cut.exit ?_ | refine Rnd.exit ?_)
  subst hT1
  subst hT2
  refine CW.cutB (α := Option Addr × Nat × Option Addr × Nat) [20, 21, 22, 23, 24, 25, 26, 27, 28, 29, 30] (fun _ => True) (fun _ => []) (fun a => cb tb 33 [.slice a.1 (n + 1) a.2.1] :: slOwn 22 1 (.slice a.1 (n + 1) a.2.1) (n + 1) (vals ++ [.slice a.2.2.1 bs.length a.2.2.2]) :: slOwn 5 1 (.slice a.2.2.1 bs.length a.2.2.2) bs.length (bv bs) :: Y :: cb b4 25 (List.replicate 32 (.int .u8 0)) :: E :: F) ?_ ?_
  · refine CW.drawH [cb tb 33 [.slice q0 n d0]] [9, 10, 11] T.mixed ?_
    refine H_take (i := 0) (some 20) rfl rfl (by kernel_rfl) (by kernel_rfl) (by kernel_rfl) rfl (ps_move rfl).pl (by kernel_rfl) (pkc (by repeat (first | exact pk_head _ _ | apply pk_tail)) (pkn _)) ?_
    refine H_take (i := 1) (some 21) rfl rfl (by kernel_rfl) (by kernel_rfl) (by kernel_rfl) rfl (ps_move rfl).pl (by kernel_rfl) (pkc (by repeat (first | exact pk_head _ _ | apply pk_tail)) (pkn _)) ?_
    refine H_take (i := 2) (some 22) rfl rfl (by kernel_rfl) (by kernel_rfl) (by kernel_rfl) rfl (ps_nil rfl).pl (by kernel_rfl) (pkc (by repeat (first | exact pk_head _ _ | apply pk_tail)) (pkn _)) ?_
    refine H_take (i := 3) (some 23) rfl rfl (by kernel_rfl) (by kernel_rfl) (by kernel_rfl) rfl (ps_fa T.fa33_0 (by decide) rfl).pl (by kernel_rfl) (pkc (by repeat (first | exact pk_head _ _ | apply pk_tail)) (pkn _)) ?_
    refine H_take (i := 4) (some 24) rfl rfl (by kernel_rfl) (by kernel_rfl) (by kernel_rfl) rfl (pl_load1 (b := tb) (v := .slice q0 n d0) (by repeat (first | exact pk_head _ _ | apply pk_tail)) T.ag30 rfl rfl) (by kernel_rfl) (pkc (by repeat (first | exact pk_head _ _ | apply pk_tail)) (pkn _)) ?_
    refine H_take (i := 5) (some 25) rfl rfl (by kernel_rfl) (by kernel_rfl) (by kernel_rfl) rfl (ps_move rfl).pl (by kernel_rfl) (pkc (by repeat (first | exact pk_head _ _ | apply pk_tail)) (pkn _)) ?_
    refine H_branch (rs := [6]) (by kernel_rfl) (by simp) ?_
    refine HR.consE (i := 6) (some 26) rfl rfl rfl (os_append0 (news := bv bs) T.un22 T.ti5 (by rfl) (by decide) rfl rfl (by simp) (hby.src (by repeat (first | exact pk_head _ _ | apply pk_tail))) (bv_one _) (by unfold maxLen; omega) (by omega)) ?_ ?_
    · rintro _ _ ⟨pe, ce, rfl, rfl, hpe⟩
      refine ⟨fun _ => ⟨_, (pkc (by repeat (first | exact pk_head _ _ | apply pk_tail)) (pkn _))⟩, ?_⟩
      refine H_branch (rs := [7]) (by kernel_rfl) (by simp) ?_
      refine HR.consE (i := 7) (some 27) rfl rfl rfl (os_bslv (vs := [.slice pe bs.length ce]) T.un30 T.ti22 (by rfl) (by rfl) rfl (by simp [Value.oneCell']) (by decide) (by decide)) ?_ ?_
      · rintro _ _ ⟨b27, rfl, rfl⟩
        refine ⟨fun _ => ⟨_, (pkc (by repeat (first | exact pk_head _ _ | apply pk_tail)) (pkn _))⟩, ?_⟩
        refine H_branch (rs := [8]) (by kernel_rfl) (by simp) ?_
        refine HR.consE (i := 8) (some 28) rfl rfl rfl (os_append (xs := vals) (news := [.slice pe bs.length ce]) (by repeat (first | exact pk_head _ _ | apply pk_tail)) T.un30 T.ti22 (by rfl) (by decide) rfl rfl rfl (Src.cb (b := b27) (by repeat (first | exact pk_head _ _ | apply pk_tail)) rfl) (by simp [Value.oneCell']) (by unfold maxLen; omega) (by omega)) ?_ ?_
        · rintro _ _ ⟨qn, dn, rfl, rfl, hqn⟩
          refine ⟨fun _ => ⟨_, (pkc (by repeat (first | exact pk_head _ _ | apply pk_tail)) (pkn _))⟩, ?_⟩
          refine H_takeP (i := 9) (some 29) rfl rfl (by kernel_rfl) (by kernel_rfl) (by kernel_rfl) rfl (ps_nil rfl) (by decide) ?_
          refine H_takeP (i := 10) (some 30) rfl rfl (by kernel_rfl) (by kernel_rfl) (by kernel_rfl) rfl (ps_fa T.fa33_0 (by decide) rfl) (by decide) ?_
          refine H_branch (rs := [11]) (by kernel_rfl) (by simp) ?_
          refine HR.consL (i := 11) none rfl rfl rfl (os_store1 (b := tb) (by repeat (first | exact pk_head _ _ | apply pk_tail)) T.sz30 rfl rfl (by rfl) (by exact Nat.zero_lt_one)) (by decide) ?_ ?_
          · skip
            refine H_done (by kernel_rfl) ?_
            exact Meet.cut (qn, dn, pe, ce) trivial (by repeat (first | (with_reducible exact Ag.refl _ _) | (with_reducible apply Ag.pu0) | ((with_reducible refine Ag.pu _ ?_ ?_); · exact rfl) | ((with_reducible refine Ag.mix ?_ ?_); · exact rfl) | ((with_reducible refine Ag.pus ?_ ?_); · exact rfl))) trivial (by repeat (first | exact Ent.refl _ | (apply Ent.cons; · repeat (first | exact pk_head _ _ | apply pk_tail)) | apply Ent.skip))
          exact HR.nil
        exact HR.nil
      exact HR.nil
    exact HR.nil
  rintro ⟨qn, dn, pe, ce⟩ _ _
  repeat (first | refine CW.seq ?_ | refine PW.then_ ?_ | refine PW.then_to rfl ?_ | refine CW.block ?_ | refine CW.skip ?_ | refine CW.ret ?_ | refine PW.then_ret ?_ | refine PW.block_ret ?_ | refine Cut.ret ?_ | refine Rnd.ret ?_ | refine PW.block_normal ?_ | refine CW.exit ?_ | refine PW.then_exit ?_ | refine PW.block_hit ?_ | refine PW.block_miss rfl ?_ | refine Cut.exit ?_ | refine Rnd.exit ?_)
  refine CW.region ?_
  refine L1 (ps_move rfl).os ?_
  refine L1 (os_call2 hsm Tryd.func14 (by decide +kernel) rfl rfl (by repeat (first | exact pk_head _ _ | apply pk_tail)) (by repeat (first | exact pk_head _ _ | apply pk_tail))) ?_
  refine L1 (os_storeAll (b := b4) (vs := bv o) (by repeat (first | exact pk_head _ _ | apply pk_tail)) (by rw [hbl]; exact T.sz25) rfl rfl (bv_one _) (by rw [hbl]; rfl)) ?_
  refine LW.nil ?_
  repeat (first | refine CW.seq ?_ | refine PW.then_ ?_ | refine PW.then_to rfl ?_ | refine CW.block ?_ | refine CW.skip ?_ | refine CW.ret ?_ | refine PW.then_ret ?_ | refine PW.block_ret ?_ | refine Cut.ret ?_ | refine Rnd.ret ?_ | refine PW.block_normal ?_ | refine CW.exit ?_ | refine PW.then_exit ?_ | refine PW.block_hit ?_ | refine PW.block_miss rfl ?_ | refine Cut.exit ?_ | refine Rnd.exit ?_)
  exact Fin.retCell (b := b4) (cs := bv o) rfl (by repeat (first | exact pk_head _ _ | apply pk_tail)) T.ag25 (by rw [hbl]; exact T.sz25) rfl [_, _, _, _] ⟨rfl, qn, dn, pe, ce, rfl⟩ (by repeat (first | exact Ent.refl _ | (apply Ent.cons; · repeat (first | exact pk_head _ _ | apply pk_tail)) | apply Ent.skip))
/-- The same over whatever parts. -/
theorem OfTL_spec (tb n d0 : Nat) (q0 : Option Addr) (vals : List Value) (hn : n ≤ 100000) (Ps : List Asn) (v : Value) (l : List (Value × List UInt8)) (hE : ∃ E, E ∈ Ps ∧ Env E) (hr : ∃ A, A ∈ Ps ∧ RowsR A v 1 (l.map fun x => [x.1])) (hB : ∀ x ∈ l, ∃ B, B ∈ Ps ∧ ByR B x.1 x.2) (bs : List UInt8) (hbs : (l.map (·.2)).flatten = bs) (hlen : bs.length ≤ 1000000) :
    FSpec Tryd.prog 9 [.pointer (some ⟨tb, 0, none⟩), v] (cb tb 33 [.slice q0 n d0] :: slOwn 22 1 (.slice q0 n d0) n vals :: Ps)
      (fun r As => r = .agg (bv (sumM bs)).toArray ∧ ∃ q' d' p c, As = cb tb 33 [.slice q' (n + 1) d'] :: slOwn 22 1 (.slice q' (n + 1) d') (n + 1) (vals ++ [.slice p bs.length c]) :: slOwn 5 1 (.slice p bs.length c) bs.length (bv bs) :: Ps) := by
  subst hbs
  obtain ⟨E, e1, e2⟩ := hE
  obtain ⟨A, a1, a2⟩ := hr
  refine (OfT_spec tb n d0 q0 vals hn (AllP Ps) (Env.all e1 e2) v l (RowsR.all a1 a2) (fun x hx => let ⟨B, b1, b2⟩ := hB x hx; ByR.all b1 b2) hlen).mono ?_ ?_
  · exact Ent.cons (pk_head _ _) (Ent.cons (pk_head _ _) (by have := Ent.all Ps []; rwa [List.append_nil] at this))
  rintro r As ⟨rfl, q', d', p, c, rfl⟩
  exact ⟨_, ⟨rfl, q', d', p, c, rfl⟩, Ent.cons (pk_head _ _) (Ent.cons (pk_head _ _) (Ent.cons (pk_head _ _) (by have := Ent.unall Ps []; rwa [List.append_nil] at this)))⟩
theorem Len_spec (tb n d0 : Nat) (q0 : Option Addr) : FSpec Tryd.prog 12 [.pointer (some ⟨tb, 0, none⟩)] [cb tb 33 [.slice q0 n d0]] (fun r As => r = .int .i64 (n : Int) ∧ As = [cb tb 33 [.slice q0 n d0]]) := by
  refine FSpec.intro Tryd.func12 rfl 10 Tryd.ntmps12 (Nat.le_of_ble_eq_true rfl) fun w0 F => ?_
  show CW _ _ _ _ _ _ (_ :: F)
  repeat (first | refine CW.seq ?_ | refine PW.then_ ?_ | refine PW.then_to rfl ?_ | refine CW.block ?_ | refine CW.skip ?_ | refine CW.ret ?_ | refine PW.then_ret ?_ | refine PW.block_ret ?_ | refine Cut.ret ?_ | refine Rnd.ret ?_ | refine PW.block_normal ?_ | refine CW.exit ?_ | refine PW.then_exit ?_ | refine PW.block_hit ?_ | refine PW.block_miss rfl ?_ | refine Cut.exit ?_ | refine Rnd.exit ?_)
  refine CW.region ?_
  refine L1 (ps_assign rfl).os ?_
  refine LW.nil ?_
  repeat (first | refine CW.seq ?_ | refine PW.then_ ?_ | refine PW.then_to rfl ?_ | refine CW.block ?_ | refine CW.skip ?_ | refine CW.ret ?_ | refine PW.then_ret ?_ | refine PW.block_ret ?_ | refine Cut.ret ?_ | refine Rnd.ret ?_ | refine PW.block_normal ?_ | refine CW.exit ?_ | refine PW.then_exit ?_ | refine PW.block_hit ?_ | refine PW.block_miss rfl ?_ | refine Cut.exit ?_ | refine Rnd.exit ?_)
  refine CW.region ?_
  refine L1 (ps_move rfl).os ?_
  refine L1 (ps_ptr_eql_nil T.un31 rfl rfl).os ?_
  refine LW.nil ?_
  repeat (first | refine CW.seq ?_ | refine PW.then_ ?_ | refine PW.then_to rfl ?_ | refine CW.block ?_ | refine CW.skip ?_ | refine CW.ret ?_ | refine PW.then_ret ?_ | refine PW.block_ret ?_ | refine Cut.ret ?_ | refine Rnd.ret ?_ | refine PW.block_normal ?_ | refine CW.exit ?_ | refine PW.then_exit ?_ | refine PW.block_hit ?_ | refine PW.block_miss rfl ?_ | refine Cut.exit ?_ | refine Rnd.exit ?_)
  refine CW.cond_false rfl ?_
  repeat (first | refine CW.seq ?_ | refine PW.then_ ?_ | refine PW.then_to rfl ?_ | refine CW.block ?_ | refine CW.skip ?_ | refine CW.ret ?_ | refine PW.then_ret ?_ | refine PW.block_ret ?_ | refine Cut.ret ?_ | refine Rnd.ret ?_ | refine PW.block_normal ?_ | refine CW.exit ?_ | refine PW.then_exit ?_ | refine PW.block_hit ?_ | refine PW.block_miss rfl ?_ | refine Cut.exit ?_ | refine Rnd.exit ?_)
  refine CW.region ?_
  refine L1 (ps_move rfl).os ?_
  refine L1 (ps_nil rfl).os ?_
  refine L1 (ps_fa T.fa33_0 (by decide) rfl).os ?_
  refine L1 (os_load1 (b := tb) (v := .slice q0 n d0) (by repeat (first | exact pk_head _ _ | apply pk_tail)) T.ag30 rfl rfl) ?_
  refine L1 (ps_len_sl T.un30 rfl).os ?_
  refine L1 (ps_assign rfl).os ?_
  refine LW.nil ?_
  repeat (first | refine CW.seq ?_ | refine PW.then_ ?_ | refine PW.then_to rfl ?_ | refine CW.block ?_ | refine CW.skip ?_ | refine CW.ret ?_ | refine PW.then_ret ?_ | refine PW.block_ret ?_ | refine Cut.ret ?_ | refine Rnd.ret ?_ | refine PW.block_normal ?_ | refine CW.exit ?_ | refine PW.then_exit ?_ | refine PW.block_hit ?_ | refine PW.block_miss rfl ?_ | refine Cut.exit ?_ | refine Rnd.exit ?_)
  exact Fin.ret1 (v := .int .i64 (n : Int)) rfl [_] rfl ⟨rfl, rfl⟩ (by repeat (first | exact Ent.refl _ | (apply Ent.cons; · repeat (first | exact pk_head _ _ | apply pk_tail)) | apply Ent.skip))
theorem Len_nil : FSpec Tryd.prog 12 [.pointer none] [] (fun r As => r = .int .i64 0 ∧ As = []) := by
  refine FSpec.intro Tryd.func12 rfl 10 Tryd.ntmps12 (Nat.le_of_ble_eq_true rfl) fun w0 F => ?_
  show CW _ _ _ _ _ _ (F)
  repeat (first | refine CW.seq ?_ | refine PW.then_ ?_ | refine PW.then_to rfl ?_ | refine CW.block ?_ | refine CW.skip ?_ | refine CW.ret ?_ | refine PW.then_ret ?_ | refine PW.block_ret ?_ | refine Cut.ret ?_ | refine Rnd.ret ?_ | refine PW.block_normal ?_ | refine CW.exit ?_ | refine PW.then_exit ?_ | refine PW.block_hit ?_ | refine PW.block_miss rfl ?_ | refine Cut.exit ?_ | refine Rnd.exit ?_)
  refine CW.region ?_
  refine L1 (ps_assign rfl).os ?_
  refine LW.nil ?_
  repeat (first | refine CW.seq ?_ | refine PW.then_ ?_ | refine PW.then_to rfl ?_ | refine CW.block ?_ | refine CW.skip ?_ | refine CW.ret ?_ | refine PW.then_ret ?_ | refine PW.block_ret ?_ | refine Cut.ret ?_ | refine Rnd.ret ?_ | refine PW.block_normal ?_ | refine CW.exit ?_ | refine PW.then_exit ?_ | refine PW.block_hit ?_ | refine PW.block_miss rfl ?_ | refine Cut.exit ?_ | refine Rnd.exit ?_)
  refine CW.region ?_
  refine L1 (ps_move rfl).os ?_
  refine L1 (ps_ptr_eql_nil T.un31 rfl rfl).os ?_
  refine LW.nil ?_
  repeat (first | refine CW.seq ?_ | refine PW.then_ ?_ | refine PW.then_to rfl ?_ | refine CW.block ?_ | refine CW.skip ?_ | refine CW.ret ?_ | refine PW.then_ret ?_ | refine PW.block_ret ?_ | refine Cut.ret ?_ | refine Rnd.ret ?_ | refine PW.block_normal ?_ | refine CW.exit ?_ | refine PW.then_exit ?_ | refine PW.block_hit ?_ | refine PW.block_miss rfl ?_ | refine Cut.exit ?_ | refine Rnd.exit ?_)
  refine CW.cond_true rfl ?_
  repeat (first | refine CW.seq ?_ | refine PW.then_ ?_ | refine PW.then_to rfl ?_ | refine CW.block ?_ | refine CW.skip ?_ | refine CW.ret ?_ | refine PW.then_ret ?_ | refine PW.block_ret ?_ | refine Cut.ret ?_ | refine Rnd.ret ?_ | refine PW.block_normal ?_ | refine CW.exit ?_ | refine PW.then_exit ?_ | refine PW.block_hit ?_ | refine PW.block_miss rfl ?_ | refine Cut.exit ?_ | refine Rnd.exit ?_)
  refine CW.region ?_
  refine L1 (ps_assign rfl).os ?_
  refine LW.nil ?_
  repeat (first | refine CW.seq ?_ | refine PW.then_ ?_ | refine PW.then_to rfl ?_ | refine CW.block ?_ | refine CW.skip ?_ | refine CW.ret ?_ | refine PW.then_ret ?_ | refine PW.block_ret ?_ | refine Cut.ret ?_ | refine Rnd.ret ?_ | refine PW.block_normal ?_ | refine CW.exit ?_ | refine PW.then_exit ?_ | refine PW.block_hit ?_ | refine PW.block_miss rfl ?_ | refine Cut.exit ?_ | refine Rnd.exit ?_)
  exact Fin.ret1 (v := .int .i64 0) rfl [] rfl ⟨rfl, rfl⟩ (by repeat (first | exact Ent.refl _ | (apply Ent.cons; · repeat (first | exact pk_head _ _ | apply pk_tail)) | apply Ent.skip))
theorem All_nil (y : Value) : FSpec Tryd.prog 11 [.pointer none, y] [] (fun r As => r = .tuple #[] ∧ As = []) := by
  refine FSpec.intro Tryd.func11 rfl 22 Tryd.ntmps11 (Nat.le_of_ble_eq_true rfl) fun w0 F => ?_
  show CW _ _ _ _ _ _ (F)
  repeat (first | refine CW.seq ?_ | refine PW.then_ ?_ | refine PW.then_to rfl ?_ | refine CW.block ?_ | refine CW.skip ?_ | refine CW.ret ?_ | refine PW.then_ret ?_ | refine PW.block_ret ?_ | refine Cut.ret ?_ | refine Rnd.ret ?_ | refine PW.block_normal ?_ | refine CW.exit ?_ | refine PW.then_exit ?_ | refine PW.block_hit ?_ | refine PW.block_miss rfl ?_ | refine Cut.exit ?_ | refine Rnd.exit ?_)
  refine CW.region ?_
  refine L1 (ps_move rfl).os ?_
  refine L1 (ps_ptr_eql_nil T.un31 rfl rfl).os ?_
  refine LW.nil ?_
  repeat (first | refine CW.seq ?_ | refine PW.then_ ?_ | refine PW.then_to rfl ?_ | refine CW.block ?_ | refine CW.skip ?_ | refine CW.ret ?_ | refine PW.then_ret ?_ | refine PW.block_ret ?_ | refine Cut.ret ?_ | refine Rnd.ret ?_ | refine PW.block_normal ?_ | refine CW.exit ?_ | refine PW.then_exit ?_ | refine PW.block_hit ?_ | refine PW.block_miss rfl ?_ | refine Cut.exit ?_ | refine Rnd.exit ?_)
  refine CW.cond_true rfl ?_
  repeat (first | refine CW.seq ?_ | refine PW.then_ ?_ | refine PW.then_to rfl ?_ | refine CW.block ?_ | refine CW.skip ?_ | refine CW.ret ?_ | refine PW.then_ret ?_ | refine PW.block_ret ?_ | refine Cut.ret ?_ | refine Rnd.ret ?_ | refine PW.block_normal ?_ | refine CW.exit ?_ | refine PW.then_exit ?_ | refine PW.block_hit ?_ | refine PW.block_miss rfl ?_ | refine Cut.exit ?_ | refine Rnd.exit ?_)
  exact Fin.ret0 rfl [] ⟨rfl, rfl⟩ (by repeat (first | exact Ent.refl _ | (apply Ent.cons; · repeat (first | exact pk_head _ _ | apply pk_tail)) | apply Ent.skip))
/-- Over all of the tape: one yield behind the other, till one says no. -/
theorem All_spec (tb n d0 : Nat) (q0 : Option Addr) (l : Nat) (vals : List Value) (hn : vals.length = n) (hnm : n ≤ 100000) (Rw : Asn) (hR : RowsR Rw (.slice q0 n d0) 1 (vals.map fun v => [v])) (Inv Stop : Nat → List Asn → Prop)
    (hy : ∀ k (hk : k < vals.length) As, Inv k As → YSpec Tryd.prog l [vals[k]] (cb tb 33 [.slice q0 n d0] :: Rw :: As) (fun b Bs => ∃ As', (b = true ∧ Inv (k + 1) As' ∨ b = false ∧ Stop k As') ∧ Bs = cb tb 33 [.slice q0 n d0] :: Rw :: As')) :
    ∀ As, Inv 0 As → FSpec Tryd.prog 11 [.pointer (some ⟨tb, 0, none⟩), .func (.yield l) #[] #[]] (cb tb 33 [.slice q0 n d0] :: Rw :: As)
      (fun r Bs => r = .tuple #[] ∧ ∃ As', (Inv n As' ∨ ∃ k, k < n ∧ Stop k As') ∧ Bs = cb tb 33 [.slice q0 n d0] :: Rw :: As') := by
  intro As hAs
  subst hn
  obtain ⟨T1, hT1⟩ : ∃ T1, cb tb 33 [.slice q0 vals.length d0] = T1 := ⟨_, rfl⟩
  rw [hT1] at hy ⊢
  refine FSpec.intro Tryd.func11 rfl 22 Tryd.ntmps11 (Nat.le_of_ble_eq_true rfl) fun w0 F => ?_
  skip
  change CW _ _ _ _ _ _ (T1 :: Rw :: (As ++ F))
  repeat (first | refine CW.seq ?_ | refine PW.then_ ?_ | refine PW.then_to rfl ?_ | refine CW.block ?_ | refine CW.skip ?_ | refine CW.ret ?_ | refine PW.then_ret ?_ | refine PW.block_ret ?_ | refine Cut.ret ?_ | refine Rnd.ret ?_ | refine PW.block_normal ?_ | refine CW.exit ?_ | refine PW.then_exit ?_ | refine PW.block_hit ?_ | refine PW.block_miss rfl ?_ | refine Cut.exit ?_ | refine Rnd.exit ?_)
  refine CW.region ?_
  refine L1 (ps_move rfl).os ?_
  refine L1 (ps_ptr_eql_nil T.un31 rfl rfl).os ?_
  refine LW.nil ?_
  repeat (first | refine CW.seq ?_ | refine PW.then_ ?_ | refine PW.then_to rfl ?_ | refine CW.block ?_ | refine CW.skip ?_ | refine CW.ret ?_ | refine PW.then_ret ?_ | refine PW.block_ret ?_ | refine Cut.ret ?_ | refine Rnd.ret ?_ | refine PW.block_normal ?_ | refine CW.exit ?_ | refine PW.then_exit ?_ | refine PW.block_hit ?_ | refine PW.block_miss rfl ?_ | refine Cut.exit ?_ | refine Rnd.exit ?_)
  refine CW.cond_false rfl ?_
  repeat (first | refine CW.seq ?_ | refine PW.then_ ?_ | refine PW.then_to rfl ?_ | refine CW.block ?_ | refine CW.skip ?_ | refine CW.ret ?_ | refine PW.then_ret ?_ | refine PW.block_ret ?_ | refine Cut.ret ?_ | refine Rnd.ret ?_ | refine PW.block_normal ?_ | refine CW.exit ?_ | refine PW.then_exit ?_ | refine PW.block_hit ?_ | refine PW.block_miss rfl ?_ | refine Cut.exit ?_ | refine Rnd.exit ?_)
  refine CW.region ?_
  refine L1 (ps_move rfl).os ?_
  refine L1 (ps_nil rfl).os ?_
  refine L1 (ps_fa T.fa33_0 (by decide) rfl).os ?_
  refine L1 (os_load1 (b := tb) (v := .slice q0 vals.length d0) (cs := [.slice q0 vals.length d0]) (by rw [hT1]) T.ag30 rfl rfl) ?_
  refine L1 (ps_len_sl T.un30 rfl).os ?_
  refine L1 (ps_move rfl).os ?_
  refine LW.nil ?_
  repeat (first | refine CW.seq ?_ | refine PW.then_ ?_ | refine PW.then_to rfl ?_ | refine CW.block ?_ | refine CW.skip ?_ | refine CW.ret ?_ | refine PW.then_ret ?_ | refine PW.block_ret ?_ | refine Cut.ret ?_ | refine Rnd.ret ?_ | refine PW.block_normal ?_ | refine CW.exit ?_ | refine PW.then_exit ?_ | refine PW.block_hit ?_ | refine PW.block_miss rfl ?_ | refine Cut.exit ?_ | refine Rnd.exit ?_)
  refine CW.loopM (α := Nat × List Asn) [5, 13, 14, 15, 16, 17, 18, 19, 20, 21] (fun k a => a.1 ≤ vals.length ∧ Inv a.1 a.2 ∧ k = vals.length - a.1) (fun a => [(13, .int .i64 a.1)])
    (fun a => T1 :: Rw :: (a.2 ++ F)) vals.length (0, As) ⟨Nat.zero_le _, hAs, rfl⟩ ⟨rfl, trivial⟩ (Ent.refl _) ?_
  rintro k ⟨i, Bs⟩ g ⟨hi, hI, hk⟩
  dsimp only at hi hI hk ⊢
  repeat (first | refine CW.seq ?_ | refine PW.then_ ?_ | refine PW.then_to rfl ?_ | refine CW.block ?_ | refine CW.skip ?_ | refine CW.ret ?_ | refine PW.then_ret ?_ | refine PW.block_ret ?_ | refine Cut.ret ?_ | refine Rnd.ret ?_ | refine PW.block_normal ?_ | refine CW.exit ?_ | refine PW.then_exit ?_ | refine PW.block_hit ?_ | refine PW.block_miss rfl ?_ | refine Cut.exit ?_ | refine Rnd.exit ?_)
  by_cases hlt : i < vals.length
  · obtain ⟨pv, cap, hpe, -, -, hpv⟩ := hR.len
    rw [List.length_map] at hpe
    cases hpe
    obtain ⟨vb, vo, rfl⟩ := hpv (fun h => by have := congrArg List.length h; simp at this; subst this; exact absurd hlt (Nat.not_lt_zero _))
    have hsrc := fun As Bs (hp : List.Perm As (Rw :: Bs)) => hR.src (i := i) (by simpa using hlt) hp
    simp only [List.getElem_map] at hsrc
    have hyi := hy i hlt Bs hI
    generalize vals[i] = v at hsrc hyi
    refine CW.region ?_
    refine L1 (ps_t (ps_lss rfl rfl) (by omega)).os ?_
    refine LW.nil ?_
    repeat (first | refine CW.seq ?_ | refine PW.then_ ?_ | refine PW.then_to rfl ?_ | refine CW.block ?_ | refine CW.skip ?_ | refine CW.ret ?_ | refine PW.then_ret ?_ | refine PW.block_ret ?_ | refine Cut.ret ?_ | refine Rnd.ret ?_ | refine PW.block_normal ?_ | refine CW.exit ?_ | refine PW.then_exit ?_ | refine PW.block_hit ?_ | refine PW.block_miss rfl ?_ | refine Cut.exit ?_ | refine Rnd.exit ?_)
    refine CW.cond_true rfl ?_
    repeat (first | refine CW.seq ?_ | refine PW.then_ ?_ | refine PW.then_to rfl ?_ | refine CW.block ?_ | refine CW.skip ?_ | refine CW.ret ?_ | refine PW.then_ret ?_ | refine PW.block_ret ?_ | refine Cut.ret ?_ | refine Rnd.ret ?_ | refine PW.block_normal ?_ | refine CW.exit ?_ | refine PW.then_exit ?_ | refine PW.block_hit ?_ | refine PW.block_miss rfl ?_ | refine Cut.exit ?_ | refine Rnd.exit ?_)
    refine CW.region ?_
    refine L1 (ps_ia_slice T.un30 T.sz22 rfl rfl (by omega) (by omega)).os ?_
    refine L1 (os_loadS1 (v := v) (hsrc _ _ (by repeat (first | exact pk_head _ _ | apply pk_tail))) T.ag22 rfl) ?_
    refine L1 (ps_assign rfl).os ?_
    refine LW.nil ?_
    repeat (first | refine CW.seq ?_ | refine PW.then_ ?_ | refine PW.then_to rfl ?_ | refine CW.block ?_ | refine CW.skip ?_ | refine CW.ret ?_ | refine PW.then_ret ?_ | refine PW.block_ret ?_ | refine Cut.ret ?_ | refine Rnd.ret ?_ | refine PW.block_normal ?_ | refine CW.exit ?_ | refine PW.then_exit ?_ | refine PW.block_hit ?_ | refine PW.block_miss rfl ?_ | refine Cut.exit ?_ | refine Rnd.exit ?_)
    refine CW.region ?_
    refine L1 (ps_move rfl).os ?_
    refine L1 (ps_move rfl).os ?_
    refine LE (os_yield (F := F) hyi rfl rfl (by exact List.Perm.refl _)) ?_
    rintro _ _ ⟨b, _, rfl, ⟨Cs, hC, rfl⟩, rfl⟩
    refine L1 (ps_not rfl).os ?_
    refine LW.nil ?_
    repeat (first | refine CW.seq ?_ | refine PW.then_ ?_ | refine PW.then_to rfl ?_ | refine CW.block ?_ | refine CW.skip ?_ | refine CW.ret ?_ | refine PW.then_ret ?_ | refine PW.block_ret ?_ | refine Cut.ret ?_ | refine Rnd.ret ?_ | refine PW.block_normal ?_ | refine CW.exit ?_ | refine PW.then_exit ?_ | refine PW.block_hit ?_ | refine PW.block_miss rfl ?_ | refine Cut.exit ?_ | refine Rnd.exit ?_)
    cases b with
    | false =>
      refine CW.cond_true rfl ?_
      repeat (first | refine CW.seq ?_ | refine PW.then_ ?_ | refine PW.then_to rfl ?_ | refine CW.block ?_ | refine CW.skip ?_ | refine CW.ret ?_ | refine PW.then_ret ?_ | refine PW.block_ret ?_ | refine Cut.ret ?_ | refine Rnd.ret ?_ | refine PW.block_normal ?_ | refine CW.exit ?_ | refine PW.then_exit ?_ | refine PW.block_hit ?_ | refine PW.block_miss rfl ?_ | refine Cut.exit ?_ | refine Rnd.exit ?_)
      rcases hC with ⟨h, _⟩ | ⟨_, hC⟩
      · cases h
      exact Fin.ret0 rfl (T1 :: Rw :: Cs) ⟨rfl, Cs, Or.inr ⟨i, hlt, hC⟩, rfl⟩ (Ent.refl _)
    | true =>
      refine CW.cond_false rfl ?_
      repeat (first | refine CW.seq ?_ | refine PW.then_ ?_ | refine PW.then_to rfl ?_ | refine CW.block ?_ | refine CW.skip ?_ | refine CW.ret ?_ | refine PW.then_ret ?_ | refine PW.block_ret ?_ | refine Cut.ret ?_ | refine Rnd.ret ?_ | refine PW.block_normal ?_ | refine CW.exit ?_ | refine PW.then_exit ?_ | refine PW.block_hit ?_ | refine PW.block_miss rfl ?_ | refine Cut.exit ?_ | refine Rnd.exit ?_)
      rcases hC with ⟨_, hC⟩ | ⟨h, _⟩
      · refine CW.region ?_
        refine L1 (ps_add_i64 rfl rfl (by omega) (by omega)).os ?_
        refine L1 (ps_move rfl).os ?_
        refine LW.nil ?_
        exact Meet.round (vals.length - (i + 1)) (i + 1, Cs) (by omega) ⟨hlt, hC, rfl⟩ (by repeat (first | (with_reducible exact Ag.refl _ _) | (with_reducible apply Ag.pu0) | ((with_reducible refine Ag.pu _ ?_ ?_); · exact rfl) | ((with_reducible refine Ag.mix ?_ ?_); · exact rfl) | ((with_reducible refine Ag.pus ?_ ?_); · exact rfl))) ⟨rfl, trivial⟩ (Ent.refl _)
      · cases h
  have hil : i = vals.length := by omega
  subst hil
  refine CW.region ?_
  refine L1 (ps_f (ps_lss rfl rfl) (by omega)).os ?_
  refine LW.nil ?_
  repeat (first | refine CW.seq ?_ | refine PW.then_ ?_ | refine PW.then_to rfl ?_ | refine CW.block ?_ | refine CW.skip ?_ | refine CW.ret ?_ | refine PW.then_ret ?_ | refine PW.block_ret ?_ | refine Cut.ret ?_ | refine Rnd.ret ?_ | refine PW.block_normal ?_ | refine CW.exit ?_ | refine PW.then_exit ?_ | refine PW.block_hit ?_ | refine PW.block_miss rfl ?_ | refine Cut.exit ?_ | refine Rnd.exit ?_)
  refine CW.cond_false rfl ?_
  repeat (first | refine CW.seq ?_ | refine PW.then_ ?_ | refine PW.then_to rfl ?_ | refine CW.block ?_ | refine CW.skip ?_ | refine CW.ret ?_ | refine PW.then_ret ?_ | refine PW.block_ret ?_ | refine Cut.ret ?_ | refine Rnd.ret ?_ | refine PW.block_normal ?_ | refine CW.exit ?_ | refine PW.then_exit ?_ | refine PW.block_hit ?_ | refine PW.block_miss rfl ?_ | refine Cut.exit ?_ | refine Rnd.exit ?_)
  exact Fin.end0 rfl (T1 :: Rw :: Bs) ⟨rfl, Bs, Or.inl hI, rfl⟩ (Ent.refl _)
theorem rows_of {α : Type} {A : Asn} {v : Value} {s : Nat} {rows : List (List Value)} (g : α → List Value) (Q : α → Prop) (hr : RowsR A v s rows) (h : ∀ r ∈ rows, ∃ c, r = g c ∧ Q c) : ∃ l : List α, RowsR A v s (l.map g) ∧ ∀ c ∈ l, Q c := by
  have key : ∀ rows : List (List Value), (∀ r ∈ rows, ∃ c, r = g c ∧ Q c) → ∃ l : List α, rows = l.map g ∧ ∀ c ∈ l, Q c := by
    intro rows
    induction rows with
    | nil => exact fun _ => ⟨[], rfl, by simp⟩
    | cons r rows ih =>
      intro h
      obtain ⟨c, rfl, hc⟩ := h r (by simp)
      obtain ⟨l, rfl, hl⟩ := ih fun q hq => h q (by simp [hq])
      exact ⟨c :: l, rfl, by simpa using ⟨hc, hl⟩⟩
  obtain ⟨l, rfl, hl⟩ := key rows h
  exact ⟨l, hr, hl⟩
theorem open_SlSluint8 {H : Type} {enc : TypeId × Value → H} {W : World} {base : Nat} {held : Bool} {fuel : Nat} {v : Value} {x : DataW H × List MemPlace} (h : DataW.trod enc Tryd.prog W base (fun _ => true) held fuel 30 [v] = some x) :
    ∃ l : List (Value × List UInt8), RowsR (bag (blks W)) v 1 (l.map fun x => [x.1]) ∧ ∀ x ∈ l, ByR (bag (blks W)) x.1 x.2 := by
  obtain ⟨rows, hr, hq⟩ := open_rows (by decide) T.un30 T.co22 h
  exact rows_of (fun x : Value × List UInt8 => [x.1]) (fun x => ByR (bag (blks W)) x.1 x.2) hr fun r hrm => by
    obtain ⟨m, y, hy⟩ := hq r hrm
    have hl : r.length = 1 := hr.choose_spec.choose_spec.2.2.2.1 r hrm
    obtain ⟨u, rfl⟩ : ∃ u, r = [u] := by
      match r, hl with
      | [a], _ => exact ⟨a, rfl⟩
    obtain ⟨c, hc, _⟩ := open_bytes T.un22 T.un5 T.co5 hy
    exact ⟨(u, c), rfl, hc⟩
theorem RowsR.take {A : Asn} {p : Option Addr} {n cap s : Nat} {rows : List (List Value)} (h : RowsR A (.slice p n cap) s rows) (k : Nat) (hk : k ≤ rows.length) : RowsR A (.slice p k cap) s (rows.take k) := by
  obtain ⟨p', cap', e, h1, h2, h3, h4, h5⟩ := h
  cases e
  refine ⟨p, cap, by rw [List.length_take, Nat.min_eq_left hk], by rw [List.length_take]; omega, h2, fun r hr => h3 r (List.mem_of_mem_take hr), fun hne => h4 (fun h0 => hne (by rw [h0, List.take_nil])), fun i hi b o hp As Bs hperm => ?_⟩
  rw [List.getElem_take]
  exact h5 i (by rw [List.length_take] at hi; omega) b o hp As Bs hperm
theorem flat_le (m : Nat) : ∀ l : List (Value × List UInt8), (∀ x ∈ l, x.2.length ≤ m) → ((l.map (·.2)).flatten).length ≤ m * l.length
  | [], _ => by simp
  | x :: l, h => by
    have h1 := flat_le m l (fun y hy => h y (List.mem_cons_of_mem _ hy))
    have h2 := h x List.mem_cons_self
    simp only [List.map_cons, List.flatten_cons, List.length_append, List.length_cons, Nat.mul_succ]
    omega
theorem mem_take_succ {α : Type} {l : List α} {i : Nat} (hi : i < l.length) {Q : α → Prop} (h : ∀ x ∈ l.take i, Q x) (hq : Q l[i]) : ∀ x ∈ l.take (i + 1), Q x := fun x hx => by
  rw [List.take_succ_eq_append_getElem hi] at hx
  rcases List.mem_append.1 hx with hx | hx
  · exact h x hx
  · obtain rfl := List.mem_singleton.1 hx; exact hq
open Classical in
theorem ps_agg_diff {P : Program} {ty : TypeId} {n : FN} {f : Nat → Value} {x y : Operand} {t yt : TypeId} {ks : List IntKind} {xs : List Value} (h : EQ P t ks) (hx : ev n f x = .agg xs.toArray) (hy : ev n f y = .agg xs.toArray) (kx : KV ks xs) : PS P (.binOp .neq t x y yt) ty n f (.bool false) := ps_f (ps_agg_neq h hx hy kx kx) (fun h => h rfl)
end Go.Proofs.YtcfipblnaifbhaaDoor
