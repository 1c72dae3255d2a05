/- The writer and the reader of wire, over a disk's seat: each function's contract. (Written by wip/gen/wired.py out of Wire.) -/
import Derived.Test.YtejbbpofamfhiaaDiskU
import Derived.Test.YtejbbpofamfhiaaNum
import Derived.Test.YtejbbpofamfhiaaLaw
namespace Go.Proofs.Ytejbbpofamfhiaa
set_option linter.unusedVariables false
set_option linter.unusedSimpArgs false
open Go Go.SL

def ic (x : Int) : List Value := [.int .i64 x]
/-- A writer in memory: what was laid. -/
def WrAt (p : Nat) (bs : List UInt8) : Asn := fun L => ∃ q d, sat [cb p 67 [.slice q bs.length d], slOwn 5 1 (.slice q bs.length d) bs.length (bv bs)] L
theorem WrAt.op {p : Nat} {bs : List UInt8} : ∀ L, WrAt p bs L → ∃ Cs, (∃ q d, Cs = [cb p 67 [.slice q bs.length d], slOwn 5 1 (.slice q bs.length d) bs.length (bv bs)]) ∧ sat Cs L :=
  fun _ ⟨q, d, h⟩ => ⟨_, ⟨q, d, rfl⟩, h⟩
theorem WrAt.fold {p : Nat} {bs : List UInt8} (q : Option Addr) (d : Nat) (F : List Asn) : Ent (cb p 67 [.slice q bs.length d] :: slOwn 5 1 (.slice q bs.length d) bs.length (bv bs) :: F) (WrAt p bs :: F) :=
  Ent.fold (As := [_, _]) fun _ h => ⟨q, d, h⟩
theorem WrAt.fresh (p : Nat) (F : List Asn) : Ent (cb p 67 [.slice none 0 0] :: F) (WrAt p [] :: F) :=
  (Ent.cons (pk_head _ _) (Ent.slNil 5 1 F)).trans (WrAt.fold (bs := []) none 0 F)
theorem WrAt.foldL {p m : Nat} {bs : List UInt8} (q : Option Addr) (d : Nat) (F : List Asn) (hm : bs.length = m) (xs : List Value) (hx : xs = bv bs) : Ent (cb p 67 [.slice q m d] :: slOwn 5 1 (.slice q m d) m xs :: F) (WrAt p bs :: F) := by
  subst hm; subst hx; exact WrAt.fold q d F

theorem byte_val (x : Int) (k : Nat) (hk : k ≤ 7) : IntKind.u8.wrap (x.fdiv (2 ^ (min (8 * (k : Int)).toNat 64))) = ((by8 (x / 2 ^ (8 * k))).toNat : Int) := by
  rw [show min (8 * (k : Int)).toNat 64 = 8 * k by omega, Int.fdiv_eq_ediv_of_nonneg _ (Int.le_of_lt (Int.pow_pos (by decide))), by8_toNat, wrap_u8]
theorem flat_take {n : Nat} (xs : List Int) (i : Nat) (h : i < xs.length) : ((xs.take (i + 1)).map (be n)).flatten = ((xs.take i).map (be n)).flatten ++ be n xs[i] := by
  rw [List.take_succ_eq_append_getElem h, List.map_append, List.flatten_append]; simp
theorem flat_len {n : Nat} (xs : List Int) : ((xs.map (be n)).flatten).length = xs.length * n := by
  induction xs with
  | nil => simp
  | cons x xs ih => rw [List.map_cons, List.flatten_cons, List.length_append, ih, length_be, List.length_cons, Nat.succ_mul, Nat.add_comm]
theorem WInt_spec (p : Nat) (bs : List UInt8) (A : Asn) (v : Value) (n : Nat) (xs : List Int) (hr : RowsR A v 1 (xs.map ic)) (hn : n ≤ 8) (hb : bs.length ≤ 1000000) (hx : xs.length ≤ 1000) :
    FSpec Try.prog 34 [ptr p, .int .i64 n, v] [WrAt p bs, A] (fun r As => r = ptr p ∧ As = [WrAt p (bs ++ (xs.map (be n)).flatten), A]) := by
  obtain ⟨pv, cap, rfl, hcap1, hcap2, hpv⟩ := hr.len
  rw [show (List.map ic xs).length = xs.length from List.length_map ..] at *
  refine FSpec.intro Try.func34 rfl 38 Try.ntmps34 (Nat.le_of_ble_eq_true rfl) fun w0 F => ?_
  show CW _ _ _ _ _ _ (_ :: _ :: F)
  repeat (first | refine CW.seq ?_ | refine PW.then_ ?_ | refine PW.then_to rfl ?_ | refine CW.block ?_ | refine CW.skip ?_ | refine CW.ret ?_ | refine PW.then_ret ?_ | refine PW.block_ret ?_ | refine Cut.ret ?_ | refine Rnd.ret ?_ | refine PW.block_normal ?_ | refine CW.exit ?_ | refine PW.then_exit ?_ | refine PW.block_hit ?_ | refine PW.block_miss rfl ?_ | refine Cut.exit ?_ | refine Rnd.exit ?_ | refine CW.scope ?_ | refine CW.label ?_ | refine PW.scope_normal ?_ | refine PW.scope_ret ?_ | refine PW.scope_exit ?_)
  refine CW.region ?_
  refine L1 (ps_assign rfl).os ?_
  refine LW.nil ?_
  repeat (first | refine CW.seq ?_ | refine PW.then_ ?_ | refine PW.then_to rfl ?_ | refine CW.block ?_ | refine CW.skip ?_ | refine CW.ret ?_ | refine PW.then_ret ?_ | refine PW.block_ret ?_ | refine Cut.ret ?_ | refine Rnd.ret ?_ | refine PW.block_normal ?_ | refine CW.exit ?_ | refine PW.then_exit ?_ | refine PW.block_hit ?_ | refine PW.block_miss rfl ?_ | refine Cut.exit ?_ | refine Rnd.exit ?_ | refine CW.scope ?_ | refine CW.label ?_ | refine PW.scope_normal ?_ | refine PW.scope_ret ?_ | refine PW.scope_exit ?_)
  refine CW.region ?_
  refine L1 (ps_move rfl).os ?_
  refine L1 (ps_len_sl T.un63 rfl).os ?_
  refine L1 (ps_move rfl).os ?_
  refine LW.nil ?_
  repeat (first | refine CW.seq ?_ | refine PW.then_ ?_ | refine PW.then_to rfl ?_ | refine CW.block ?_ | refine CW.skip ?_ | refine CW.ret ?_ | refine PW.then_ret ?_ | refine PW.block_ret ?_ | refine Cut.ret ?_ | refine Rnd.ret ?_ | refine PW.block_normal ?_ | refine CW.exit ?_ | refine PW.then_exit ?_ | refine PW.block_hit ?_ | refine PW.block_miss rfl ?_ | refine Cut.exit ?_ | refine Rnd.exit ?_ | refine CW.scope ?_ | refine CW.label ?_ | refine PW.scope_normal ?_ | refine PW.scope_ret ?_ | refine PW.scope_exit ?_)
  refine CW.loopM (α := Nat) [8, 9, 12, 13, 14, 15, 16, 17, 18, 19, 20, 21, 22, 23, 24, 25, 26, 27, 28, 29, 30, 31, 32, 33, 34, 35, 36] (fun k i => i ≤ xs.length ∧ k = xs.length - i) (fun i => [(12, .int .i64 i)])
    (fun i => WrAt p (bs ++ ((xs.take i).map (be n)).flatten) :: A :: F) xs.length 0 ⟨Nat.zero_le _, rfl⟩ ⟨rfl, trivial⟩ (by simp only [List.take_zero, List.map_nil, List.flatten_nil, List.append_nil]; exact (by repeat (first | exact Ent.refl _ | (apply Ent.cons; · repeat (first | exact pk_head _ _ | apply pk_tail)) | apply Ent.skip))) ?_
  rintro k i g ⟨hi, hk⟩
  repeat (first | refine CW.seq ?_ | refine PW.then_ ?_ | refine PW.then_to rfl ?_ | refine CW.block ?_ | refine CW.skip ?_ | refine CW.ret ?_ | refine PW.then_ret ?_ | refine PW.block_ret ?_ | refine Cut.ret ?_ | refine Rnd.ret ?_ | refine PW.block_normal ?_ | refine CW.exit ?_ | refine PW.then_exit ?_ | refine PW.block_hit ?_ | refine PW.block_miss rfl ?_ | refine Cut.exit ?_ | refine Rnd.exit ?_ | refine CW.scope ?_ | refine CW.label ?_ | refine PW.scope_normal ?_ | refine PW.scope_ret ?_ | refine PW.scope_exit ?_)
  by_cases hlt : i < xs.length
  · have hsx := flat_take (n := n) xs i hlt
    obtain ⟨vb, vo, rfl⟩ := hpv (fun h => by have := congrArg List.length h; simp at this; subst this; exact absurd hlt (Nat.not_lt_zero _))
    have hsrc := fun As Bs (hp : List.Perm As (A :: Bs)) => hr.src (i := i) (by simpa using hlt) hp
    simp only [List.getElem_map] at hsrc
    have hfl := flat_len (n := n) (xs.take i)
    have hle : ((xs.take i).length) * n ≤ 1000 * 8 := Nat.mul_le_mul (by rw [List.length_take]; omega) hn
    rw [← hfl] at hle
    generalize xs[i] = x at hsx hsrc
    generalize ((xs.take i).map (be n)).flatten = pre at hsx hle
    clear hfl
    have hpl : (bs ++ pre).length ≤ 1010000 := by rw [List.length_append]; omega
    refine CW.region ?_
    refine L1 (ps_t (ps_lss rfl rfl) (by omega)).os ?_
    refine LW.nil ?_
    repeat (first | refine CW.seq ?_ | refine PW.then_ ?_ | refine PW.then_to rfl ?_ | refine CW.block ?_ | refine CW.skip ?_ | refine CW.ret ?_ | refine PW.then_ret ?_ | refine PW.block_ret ?_ | refine Cut.ret ?_ | refine Rnd.ret ?_ | refine PW.block_normal ?_ | refine CW.exit ?_ | refine PW.then_exit ?_ | refine PW.block_hit ?_ | refine PW.block_miss rfl ?_ | refine Cut.exit ?_ | refine Rnd.exit ?_ | refine CW.scope ?_ | refine CW.label ?_ | refine PW.scope_normal ?_ | refine PW.scope_ret ?_ | refine PW.scope_exit ?_)
    refine CW.cond_true rfl ?_
    repeat (first | refine CW.seq ?_ | refine PW.then_ ?_ | refine PW.then_to rfl ?_ | refine CW.block ?_ | refine CW.skip ?_ | refine CW.ret ?_ | refine PW.then_ret ?_ | refine PW.block_ret ?_ | refine Cut.ret ?_ | refine Rnd.ret ?_ | refine PW.block_normal ?_ | refine CW.exit ?_ | refine PW.then_exit ?_ | refine PW.block_hit ?_ | refine PW.block_miss rfl ?_ | refine Cut.exit ?_ | refine Rnd.exit ?_ | refine CW.scope ?_ | refine CW.label ?_ | refine PW.scope_normal ?_ | refine PW.scope_ret ?_ | refine PW.scope_exit ?_)
    refine CW.region ?_
    refine L1 (ps_ia_slice T.un63 T.sz3 rfl rfl (by omega) (by omega)).os ?_
    refine L1 (os_loadS1 (v := .int .i64 x) (hsrc _ _ (by repeat (first | exact pk_head _ _ | apply pk_tail))) T.ag3 rfl) ?_
    refine L1 (ps_assign rfl).os ?_
    refine LW.nil ?_
    repeat (first | refine CW.seq ?_ | refine PW.then_ ?_ | refine PW.then_to rfl ?_ | refine CW.block ?_ | refine CW.skip ?_ | refine CW.ret ?_ | refine PW.then_ret ?_ | refine PW.block_ret ?_ | refine Cut.ret ?_ | refine Rnd.ret ?_ | refine PW.block_normal ?_ | refine CW.exit ?_ | refine PW.then_exit ?_ | refine PW.block_hit ?_ | refine PW.block_miss rfl ?_ | refine Cut.exit ?_ | refine Rnd.exit ?_ | refine CW.scope ?_ | refine CW.label ?_ | refine PW.scope_normal ?_ | refine PW.scope_ret ?_ | refine PW.scope_exit ?_)
    refine CW.region ?_
    refine L1 (ps_move rfl).os ?_
    refine L1 (ps_sub_i64 rfl rfl (by omega) (by omega)).os ?_
    refine L1 (ps_assign rfl).os ?_
    refine LW.nil ?_
    repeat (first | refine CW.seq ?_ | refine PW.then_ ?_ | refine PW.then_to rfl ?_ | refine CW.block ?_ | refine CW.skip ?_ | refine CW.ret ?_ | refine PW.then_ret ?_ | refine PW.block_ret ?_ | refine Cut.ret ?_ | refine Rnd.ret ?_ | refine PW.block_normal ?_ | refine CW.exit ?_ | refine PW.then_exit ?_ | refine PW.block_hit ?_ | refine PW.block_miss rfl ?_ | refine Cut.exit ?_ | refine Rnd.exit ?_ | refine CW.scope ?_ | refine CW.label ?_ | refine PW.scope_normal ?_ | refine PW.scope_ret ?_ | refine PW.scope_exit ?_)
    refine CW.loopM (α := Nat) [9, 18, 19, 20, 21, 22, 23, 24, 25, 26, 27, 28, 29, 30, 31, 32, 33, 34, 35] (fun k j => j ≤ n ∧ k = n - j) (fun j => [(9, .int .i64 ((n : Int) - 1 - j))])
      (fun j => WrAt p (bs ++ pre ++ (be n x).take j) :: A :: F) n 0 ⟨Nat.zero_le _, rfl⟩ ⟨congrArg (Value.int .i64) (by omega), trivial⟩ (by simp only [List.take_zero, List.append_nil]; exact (by repeat (first | exact Ent.refl _ | (apply Ent.cons; · repeat (first | exact pk_head _ _ | apply pk_tail)) | apply Ent.skip))) ?_
    rintro k' j g' ⟨hj, hk'⟩
    repeat (first | refine CW.seq ?_ | refine PW.then_ ?_ | refine PW.then_to rfl ?_ | refine CW.block ?_ | refine CW.skip ?_ | refine CW.ret ?_ | refine PW.then_ret ?_ | refine PW.block_ret ?_ | refine Cut.ret ?_ | refine Rnd.ret ?_ | refine PW.block_normal ?_ | refine CW.exit ?_ | refine PW.then_exit ?_ | refine PW.block_hit ?_ | refine PW.block_miss rfl ?_ | refine Cut.exit ?_ | refine Rnd.exit ?_ | refine CW.scope ?_ | refine CW.label ?_ | refine PW.scope_normal ?_ | refine PW.scope_ret ?_ | refine PW.scope_exit ?_)
    by_cases hjt : j < n
    · have hb1 := be_take_succ n x j hjt
      have hbv := byte_val x (n - 1 - j) (by omega)
      have hik : (n : Int) - 1 - (j : Int) = ((n - 1 - j : Nat) : Int) := by omega
      have hll : ((be n x).take j).length ≤ 8 := by simp; omega
      rw [hik]
      generalize (be n x).take j = cur at hb1 hll
      generalize n - 1 - j = kk at hb1 hbv hik
      generalize by8 (x / 2 ^ (8 * kk)) = c at hb1 hbv
      have hcl : (bs ++ pre ++ cur).length ≤ 1010008 := by rw [List.length_append]; omega
      have hkk : kk ≤ 7 := by omega
      refine CW.region ?_
      refine L1 (ps_move rfl).os ?_
      refine L1 (ps_t (ps_geq rfl rfl) (by omega)).os ?_
      refine LW.nil ?_
      repeat (first | refine CW.seq ?_ | refine PW.then_ ?_ | refine PW.then_to rfl ?_ | refine CW.block ?_ | refine CW.skip ?_ | refine CW.ret ?_ | refine PW.then_ret ?_ | refine PW.block_ret ?_ | refine Cut.ret ?_ | refine Rnd.ret ?_ | refine PW.block_normal ?_ | refine CW.exit ?_ | refine PW.then_exit ?_ | refine PW.block_hit ?_ | refine PW.block_miss rfl ?_ | refine Cut.exit ?_ | refine Rnd.exit ?_ | refine CW.scope ?_ | refine CW.label ?_ | refine PW.scope_normal ?_ | refine PW.scope_ret ?_ | refine PW.scope_exit ?_)
      refine CW.cond_true rfl ?_
      refine CW.skip (PW.then_ (CW.seq (CW.block ?_)))
      refine J.open_ (pk_head _ _) WrAt.op ?_
      rintro _ ⟨q, d, rfl⟩
      show CW _ _ _ _ _ _ (_ :: _ :: A :: F)
      generalize hbs : bs ++ pre ++ cur = all at hcl
      refine CW.cutB (α := Unit) [22, 23, 24, 25, 26, 27, 28, 29, 30, 31, 32, 33, 34, 35] (fun _ => True) (fun _ => []) (fun _ => WrAt p (all ++ [c]) :: A :: F) ?_ ?_
      · refine CW.draw T.mixed ?_
        refine A_take (i := 0) (some 22) rfl rfl (by kernel_rfl) (by kernel_rfl) (by kernel_rfl) rfl (ps_move rfl) ?_
        refine A_take (i := 1) (some 23) rfl rfl (by kernel_rfl) (by kernel_rfl) (by kernel_rfl) rfl (ps_move rfl) ?_
        refine A_take (i := 2) (some 24) rfl rfl (by kernel_rfl) (by kernel_rfl) (by kernel_rfl) rfl (ps_nil rfl) ?_
        refine A_take (i := 3) (some 25) rfl rfl (by kernel_rfl) (by kernel_rfl) (by kernel_rfl) rfl (ps_fa T.fa67_0 (by decide) rfl) ?_
        refine A_take (i := 5) (some 27) rfl rfl (by kernel_rfl) (by kernel_rfl) (by kernel_rfl) rfl (ps_move rfl) ?_
        refine A_take (i := 6) (some 28) rfl rfl (by kernel_rfl) (by kernel_rfl) (by kernel_rfl) rfl (ps_move rfl) ?_
        refine A_take (i := 7) (some 29) rfl rfl (by kernel_rfl) (by kernel_rfl) (by kernel_rfl) rfl (ps_mul_i64 rfl rfl (by omega) (by omega)) ?_
        refine A_take (i := 8) (some 30) rfl rfl (by kernel_rfl) (by kernel_rfl) (by kernel_rfl) rfl (ps_shr rfl rfl (by omega)) ?_
        refine A_take (i := 9) (some 31) rfl rfl (by kernel_rfl) (by kernel_rfl) (by kernel_rfl) rfl (ps_to (congrArg (Value.int .u8) hbv) (ps_conv (by kernel_rfl) T.un5 rfl)) ?_
        refine A_branch (rs := [4, 10]) (by kernel_rfl) (by simp) ?_
        refine AR.cons1 (i := 4) (some 26) rfl rfl rfl (os_load1 (by repeat (first | exact pk_head _ _ | apply pk_tail)) T.ag27 rfl (by rfl)) ?_ ?_
        · skip
          refine A_branch (rs := [10]) (by kernel_rfl) (by simp) ?_
          refine AR.consE (i := 10) (some 32) rfl rfl rfl (os_bslv (vs := bv [c]) T.un27 T.ti5 (by rfl) (by rfl) rfl (bv_one _) (by decide) (by decide)) ?_ ?_
          · rintro _ _ ⟨b32, rfl, rfl⟩
            refine A_branch (rs := [11]) (by kernel_rfl) (by simp) ?_
            refine AR.consE (i := 11) (some 33) rfl rfl rfl (os_append (news := bv [c]) (by repeat (first | exact pk_head _ _ | apply pk_tail)) T.un27 T.ti5 (by rfl) (by decide) rfl rfl rfl (Src.cb (b := b32) (by repeat (first | exact pk_head _ _ | apply pk_tail)) rfl) (bv_one _) (by unfold maxLen; omega) (by omega)) ?_ ?_
            · rintro _ _ ⟨q', d', rfl, rfl, hq'⟩
              refine A_take (i := 12) (some 34) rfl rfl (by kernel_rfl) (by kernel_rfl) (by kernel_rfl) rfl (ps_nil rfl) ?_
              refine A_take (i := 13) (some 35) rfl rfl (by kernel_rfl) (by kernel_rfl) (by kernel_rfl) rfl (ps_fa T.fa67_0 (by decide) rfl) ?_
              refine A_branch (rs := [14]) (by kernel_rfl) (by simp) ?_
              refine AR.cons1 (i := 14) none rfl rfl rfl (os_store1 (by repeat (first | exact pk_head _ _ | apply pk_tail)) T.sz27 rfl rfl (by rfl) (Nat.le_of_ble_eq_true rfl)) ?_ ?_
              · skip
                refine A_done (by kernel_rfl) ?_
                exact Meet.cut () trivial (by repeat (first | (with_reducible exact Ag.refl _ _) | (with_reducible assumption) | (with_reducible apply Ag.pu0) | ((with_reducible refine Ag.pu _ ?_ ?_); · exact rfl) | ((with_reducible refine Ag.mix ?_ ?_); · exact rfl) | ((with_reducible refine Ag.pus ?_ ?_); · exact rfl))) trivial (Ent.trans (Bs := cb p 67 [.slice q' (all.length + 1) d'] :: slOwn 5 1 (.slice q' (all.length + 1) d') (all.length + 1) (bv all ++ bv [c]) :: A :: F) (by repeat (first | exact Ent.refl _ | (apply Ent.cons; · repeat (first | exact pk_head _ _ | apply pk_tail)) | apply Ent.skip)) (WrAt.foldL q' d' _ (by simp) _ (bv_append _ _).symm))
              exact AR.nil
            exact AR.nil
          exact AR.nil
        refine AR.consE (i := 10) (some 32) rfl rfl rfl (os_bslv (vs := bv [c]) T.un27 T.ti5 (by rfl) (by rfl) rfl (bv_one _) (by decide) (by decide)) ?_ ?_
        · rintro _ _ ⟨b32, rfl, rfl⟩
          refine A_branch (rs := [4]) (by kernel_rfl) (by simp) ?_
          refine AR.cons1 (i := 4) (some 26) rfl rfl rfl (os_load1 (by repeat (first | exact pk_head _ _ | apply pk_tail)) T.ag27 rfl (by rfl)) ?_ ?_
          · skip
            refine A_branch (rs := [11]) (by kernel_rfl) (by simp) ?_
            refine AR.consE (i := 11) (some 33) rfl rfl rfl (os_append (news := bv [c]) (by repeat (first | exact pk_head _ _ | apply pk_tail)) T.un27 T.ti5 (by rfl) (by decide) rfl rfl rfl (Src.cb (b := b32) (by repeat (first | exact pk_head _ _ | apply pk_tail)) rfl) (bv_one _) (by unfold maxLen; omega) (by omega)) ?_ ?_
            · rintro _ _ ⟨q', d', rfl, rfl, hq'⟩
              refine A_take (i := 12) (some 34) rfl rfl (by kernel_rfl) (by kernel_rfl) (by kernel_rfl) rfl (ps_nil rfl) ?_
              refine A_take (i := 13) (some 35) rfl rfl (by kernel_rfl) (by kernel_rfl) (by kernel_rfl) rfl (ps_fa T.fa67_0 (by decide) rfl) ?_
              refine A_branch (rs := [14]) (by kernel_rfl) (by simp) ?_
              refine AR.cons1 (i := 14) none rfl rfl rfl (os_store1 (by repeat (first | exact pk_head _ _ | apply pk_tail)) T.sz27 rfl rfl (by rfl) (Nat.le_of_ble_eq_true rfl)) ?_ ?_
              · skip
                refine A_done (by kernel_rfl) ?_
                exact Meet.cut () trivial (by repeat (first | (with_reducible exact Ag.refl _ _) | (with_reducible assumption) | (with_reducible apply Ag.pu0) | ((with_reducible refine Ag.pu _ ?_ ?_); · exact rfl) | ((with_reducible refine Ag.mix ?_ ?_); · exact rfl) | ((with_reducible refine Ag.pus ?_ ?_); · exact rfl))) trivial (Ent.trans (Bs := cb p 67 [.slice q' (all.length + 1) d'] :: slOwn 5 1 (.slice q' (all.length + 1) d') (all.length + 1) (bv all ++ bv [c]) :: A :: F) (by repeat (first | exact Ent.refl _ | (apply Ent.cons; · repeat (first | exact pk_head _ _ | apply pk_tail)) | apply Ent.skip)) (WrAt.foldL q' d' _ (by simp) _ (bv_append _ _).symm))
              exact AR.nil
            exact AR.nil
          exact AR.nil
        exact AR.nil
      intro _ g2 _
      repeat (first | refine CW.seq ?_ | refine PW.then_ ?_ | refine PW.then_to rfl ?_ | refine CW.block ?_ | refine CW.skip ?_ | refine CW.ret ?_ | refine PW.then_ret ?_ | refine PW.block_ret ?_ | refine Cut.ret ?_ | refine Rnd.ret ?_ | refine PW.block_normal ?_ | refine CW.exit ?_ | refine PW.then_exit ?_ | refine PW.block_hit ?_ | refine PW.block_miss rfl ?_ | refine Cut.exit ?_ | refine Rnd.exit ?_ | refine CW.scope ?_ | refine CW.label ?_ | refine PW.scope_normal ?_ | refine PW.scope_ret ?_ | refine PW.scope_exit ?_)
      refine CW.region ?_
      refine L1 (ps_move rfl).os ?_
      refine L1 (ps_to (u := .int .i64 ((n : Int) - 1 - ((j + 1 : Nat) : Int))) (congrArg _ (by omega)) (ps_sub_i64 rfl rfl (by omega) (by omega))).os ?_
      refine L1 (ps_assign rfl).os ?_
      refine LW.nil ?_
      exact Meet.round (n - (j + 1)) (j + 1) (by omega) ⟨hjt, rfl⟩ (by repeat (first | (with_reducible exact Ag.refl _ _) | (with_reducible assumption) | (with_reducible apply Ag.pu0) | ((with_reducible refine Ag.pu _ ?_ ?_); · exact rfl) | ((with_reducible refine Ag.mix ?_ ?_); · exact rfl) | ((with_reducible refine Ag.pus ?_ ?_); · exact rfl))) ⟨rfl, trivial⟩ (by rw [hb1, ← List.append_assoc, hbs]; exact (by repeat (first | exact Ent.refl _ | (apply Ent.cons; · repeat (first | exact pk_head _ _ | apply pk_tail)) | apply Ent.skip)))
    · have hjn : j = n := by omega
      subst hjn
      refine CW.region ?_
      refine L1 (ps_move rfl).os ?_
      refine L1 (ps_f (ps_geq rfl rfl) (by omega)).os ?_
      refine LW.nil ?_
      repeat (first | refine CW.seq ?_ | refine PW.then_ ?_ | refine PW.then_to rfl ?_ | refine CW.block ?_ | refine CW.skip ?_ | refine CW.ret ?_ | refine PW.then_ret ?_ | refine PW.block_ret ?_ | refine Cut.ret ?_ | refine Rnd.ret ?_ | refine PW.block_normal ?_ | refine CW.exit ?_ | refine PW.then_exit ?_ | refine PW.block_hit ?_ | refine PW.block_miss rfl ?_ | refine Cut.exit ?_ | refine Rnd.exit ?_ | refine CW.scope ?_ | refine CW.label ?_ | refine PW.scope_normal ?_ | refine PW.scope_ret ?_ | refine PW.scope_exit ?_)
      refine CW.cond_false rfl ?_
      repeat (first | refine CW.seq ?_ | refine PW.then_ ?_ | refine PW.then_to rfl ?_ | refine CW.block ?_ | refine CW.skip ?_ | refine CW.ret ?_ | refine PW.then_ret ?_ | refine PW.block_ret ?_ | refine Cut.ret ?_ | refine Rnd.ret ?_ | refine PW.block_normal ?_ | refine CW.exit ?_ | refine PW.then_exit ?_ | refine PW.block_hit ?_ | refine PW.block_miss rfl ?_ | refine Cut.exit ?_ | refine Rnd.exit ?_ | refine CW.scope ?_ | refine CW.label ?_ | refine PW.scope_normal ?_ | refine PW.scope_ret ?_ | refine PW.scope_exit ?_)
      refine CW.region ?_
      refine L1 (ps_add_i64 rfl rfl (by omega) (by omega)).os ?_
      refine L1 (ps_move rfl).os ?_
      refine LW.nil ?_
      exact Meet.round (xs.length - (i + 1)) (i + 1) (by omega) ⟨hlt, rfl⟩ (by repeat (first | (with_reducible exact Ag.refl _ _) | (with_reducible assumption) | (with_reducible apply Ag.pu0) | ((with_reducible refine Ag.pu _ ?_ ?_); · exact rfl) | ((with_reducible refine Ag.mix ?_ ?_); · exact rfl) | ((with_reducible refine Ag.pus ?_ ?_); · exact rfl))) ⟨rfl, trivial⟩ (by rw [hsx, ← List.append_assoc, List.take_of_length_le (by simp)]; exact (by repeat (first | exact Ent.refl _ | (apply Ent.cons; · repeat (first | exact pk_head _ _ | apply pk_tail)) | apply Ent.skip)))
  · have hil : i = xs.length := by omega
    subst hil
    rw [List.take_length]
    refine CW.region ?_
    refine L1 (ps_f (ps_lss rfl rfl) (by omega)).os ?_
    refine LW.nil ?_
    repeat (first | refine CW.seq ?_ | refine PW.then_ ?_ | refine PW.then_to rfl ?_ | refine CW.block ?_ | refine CW.skip ?_ | refine CW.ret ?_ | refine PW.then_ret ?_ | refine PW.block_ret ?_ | refine Cut.ret ?_ | refine Rnd.ret ?_ | refine PW.block_normal ?_ | refine CW.exit ?_ | refine PW.then_exit ?_ | refine PW.block_hit ?_ | refine PW.block_miss rfl ?_ | refine Cut.exit ?_ | refine Rnd.exit ?_ | refine CW.scope ?_ | refine CW.label ?_ | refine PW.scope_normal ?_ | refine PW.scope_ret ?_ | refine PW.scope_exit ?_)
    refine CW.cond_false rfl ?_
    repeat (first | refine CW.seq ?_ | refine PW.then_ ?_ | refine PW.then_to rfl ?_ | refine CW.block ?_ | refine CW.skip ?_ | refine CW.ret ?_ | refine PW.then_ret ?_ | refine PW.block_ret ?_ | refine Cut.ret ?_ | refine Rnd.ret ?_ | refine PW.block_normal ?_ | refine CW.exit ?_ | refine PW.then_exit ?_ | refine PW.block_hit ?_ | refine PW.block_miss rfl ?_ | refine Cut.exit ?_ | refine Rnd.exit ?_ | refine CW.scope ?_ | refine CW.label ?_ | refine PW.scope_normal ?_ | refine PW.scope_ret ?_ | refine PW.scope_exit ?_)
    refine CW.region ?_
    refine L1 (ps_move rfl).os ?_
    refine L1 (ps_assign rfl).os ?_
    refine LW.nil ?_
    repeat (first | refine CW.seq ?_ | refine PW.then_ ?_ | refine PW.then_to rfl ?_ | refine CW.block ?_ | refine CW.skip ?_ | refine CW.ret ?_ | refine PW.then_ret ?_ | refine PW.block_ret ?_ | refine Cut.ret ?_ | refine Rnd.ret ?_ | refine PW.block_normal ?_ | refine CW.exit ?_ | refine PW.then_exit ?_ | refine PW.block_hit ?_ | refine PW.block_miss rfl ?_ | refine Cut.exit ?_ | refine Rnd.exit ?_ | refine CW.scope ?_ | refine CW.label ?_ | refine PW.scope_normal ?_ | refine PW.scope_ret ?_ | refine PW.scope_exit ?_)
    exact Fin.ret1 (v := ptr p) rfl [_, _] rfl ⟨rfl, rfl⟩ (Ent.refl _)
theorem WBytes_spec (p : Nat) (bs : List UInt8) (hb : bs.length ≤ 2000000) : FSpec Try.prog 36 [ptr p] [WrAt p bs] (fun r As => ∃ q d, r = .slice q bs.length d ∧ As = [slOwn 5 1 (.slice q bs.length d) bs.length (bv bs), WrAt p bs]) := by
  refine FSpec.intro Try.func36 rfl 8 Try.ntmps36 (Nat.le_of_ble_eq_true rfl) fun w0 F => ?_
  show CW _ _ _ _ _ _ (_ :: F)
  refine J.open_ (pk_head _ _) WrAt.op ?_
  rintro _ ⟨q, d, rfl⟩
  show CW _ _ _ _ _ _ (_ :: _ :: F)
  refine slOwn_info (m := bs.length) (xs := bv bs) (by repeat (first | exact pk_head _ _ | apply pk_tail)) fun hmd hdm hqs => ?_
  repeat (first | refine CW.seq ?_ | refine PW.then_ ?_ | refine PW.then_to rfl ?_ | refine CW.block ?_ | refine CW.skip ?_ | refine CW.ret ?_ | refine PW.then_ret ?_ | refine PW.block_ret ?_ | refine Cut.ret ?_ | refine Rnd.ret ?_ | refine PW.block_normal ?_ | refine CW.exit ?_ | refine PW.then_exit ?_ | refine PW.block_hit ?_ | refine PW.block_miss rfl ?_ | refine Cut.exit ?_ | refine Rnd.exit ?_ | refine CW.scope ?_ | refine CW.label ?_ | refine PW.scope_normal ?_ | refine PW.scope_ret ?_ | refine PW.scope_exit ?_)
  refine CW.region ?_
  refine L1 (ps_assign rfl).os ?_
  refine LW.nil ?_
  repeat (first | refine CW.seq ?_ | refine PW.then_ ?_ | refine PW.then_to rfl ?_ | refine CW.block ?_ | refine CW.skip ?_ | refine CW.ret ?_ | refine PW.then_ret ?_ | refine PW.block_ret ?_ | refine Cut.ret ?_ | refine Rnd.ret ?_ | refine PW.block_normal ?_ | refine CW.exit ?_ | refine PW.then_exit ?_ | refine PW.block_hit ?_ | refine PW.block_miss rfl ?_ | refine Cut.exit ?_ | refine Rnd.exit ?_ | refine CW.scope ?_ | refine CW.label ?_ | refine PW.scope_normal ?_ | refine PW.scope_ret ?_ | refine PW.scope_exit ?_)
  refine CW.region ?_
  refine L1 (ps_move rfl).os ?_
  refine L1 (ps_nil rfl).os ?_
  refine L1 (ps_fa T.fa67_0 (by decide) rfl).os ?_
  refine L1 (os_load1 (by repeat (first | exact pk_head _ _ | apply pk_tail)) T.ag27 rfl (by rfl)) ?_
  refine LE (os_append0 (news := bv bs) T.un27 T.ti5 (by rfl) (by decide) rfl rfl (by simp) ((ByR.own rfl hmd hqs).src (by repeat (first | exact pk_head _ _ | apply pk_tail))) (bv_one _) (by unfold maxLen; omega) (by omega)) ?_
  rintro _ _ ⟨q', d', rfl, rfl, hq'⟩
  refine L1 (ps_assign rfl).os ?_
  refine LW.nil ?_
  repeat (first | refine CW.seq ?_ | refine PW.then_ ?_ | refine PW.then_to rfl ?_ | refine CW.block ?_ | refine CW.skip ?_ | refine CW.ret ?_ | refine PW.then_ret ?_ | refine PW.block_ret ?_ | refine Cut.ret ?_ | refine Rnd.ret ?_ | refine PW.block_normal ?_ | refine CW.exit ?_ | refine PW.then_exit ?_ | refine PW.block_hit ?_ | refine PW.block_miss rfl ?_ | refine Cut.exit ?_ | refine Rnd.exit ?_ | refine CW.scope ?_ | refine CW.label ?_ | refine PW.scope_normal ?_ | refine PW.scope_ret ?_ | refine PW.scope_exit ?_)
  refine Fin.ret1 (v := .slice q' bs.length d') rfl [_, _] rfl ⟨q', d', rfl, rfl⟩ ?_
  exact Ent.cons (pk_head _ _) (WrAt.fold q d F)

/-! ## the reader -/
/-- A reader in memory: what is left to read (in the part A), and whether there was too little. -/
def RdAt (A : Asn) (p : Nat) (bs : List UInt8) (bad : Bool) : Asn := fun L => ∃ v, ByR A v bs ∧ sat [cb p 88 [v, .bool bad]] L
theorem RdAt.op {A : Asn} {p : Nat} {bs : List UInt8} {bad : Bool} : ∀ L, RdAt A p bs bad L → ∃ Cs, (∃ v, ByR A v bs ∧ Cs = [cb p 88 [v, .bool bad]]) ∧ sat Cs L :=
  fun _ ⟨v, h1, h2⟩ => ⟨_, ⟨v, h1, rfl⟩, h2⟩
theorem RdAt.fold {A : Asn} {p : Nat} {bs : List UInt8} {bad : Bool} (v : Value) (h : ByR A v bs) (F : List Asn) : Ent (cb p 88 [v, .bool bad] :: F) (RdAt A p bs bad :: F) :=
  Ent.fold (As := [_]) fun _ hs => ⟨v, h, hs⟩
theorem ByR.drop {A : Asn} {b o l cap : Nat} {bs : List UInt8} (h : ByR A (.slice (some ⟨b, o, none⟩) l cap) bs) (k : Nat) (hk : k ≤ bs.length) : ByR A (.slice (some ⟨b, cutOff o k cap 1 k, none⟩) (l - k) (cap - k)) (bs.drop k) := by
  obtain ⟨p', cap', hv, hc, hs⟩ := h
  cases hv
  refine ⟨some ⟨b, cutOff o k cap 1 k, none⟩, cap - k, by rw [List.length_drop], by rw [List.length_drop]; omega, fun As Bs hp hne => ?_⟩
  have hlt : k < bs.length := by
    rcases Nat.lt_or_ge k bs.length with h | h
    · exact h
    · exact absurd (by rw [List.drop_eq_nil_of_le h]; rfl) hne
  obtain ⟨a, h1, h2⟩ := hs As Bs hp (fun h0 => by
    have : bs = [] := by cases bs with | nil => rfl | cons _ _ => simp [bv] at h0
    subst this; simp at hlt)
  cases h1
  rw [cutOff_ne (by omega), Nat.mul_one]
  refine ⟨_, rfl, fun w0 w hw j u hj => ?_⟩
  have := h2 w0 w hw (k + j) u (by rw [← hj, bv_drop, List.getElem?_drop])
  rw [add_mk] at this ⊢
  rw [← this, Nat.add_assoc]
/-- What the next n bytes are, and what is left. -/
def rdT (n : Nat) (bs : List UInt8) (bad : Bool) : List UInt8 × List UInt8 × Bool := if bad = true ∨ bs.length < n then (List.replicate n 0, bs, true) else (bs.take n, bs.drop n, false)
theorem rdT_len (n : Nat) (bs : List UInt8) (bad : Bool) : (rdT n bs bad).1.length = n := by
  unfold rdT; split
  · simp
  · rename_i h; simp; omega
theorem RNew_spec (A : Asn) (v : Value) (bs : List UInt8) (hb : ByR A v bs) : FSpec Try.prog 37 [v] [A] (fun r As => ∃ p, r = ptr p ∧ As = [RdAt A p bs false, A]) := by
  have hb0 := hb
  obtain ⟨q, cap, rfl, hcap, -⟩ := hb0
  refine FSpec.intro Try.func37 rfl 6 Try.ntmps37 (Nat.le_of_ble_eq_true rfl) fun w0 F => ?_
  show CW _ _ _ _ _ _ (_ :: F)
  repeat (first | refine CW.seq ?_ | refine PW.then_ ?_ | refine PW.then_to rfl ?_ | refine CW.block ?_ | refine CW.skip ?_ | refine CW.ret ?_ | refine PW.then_ret ?_ | refine PW.block_ret ?_ | refine Cut.ret ?_ | refine Rnd.ret ?_ | refine PW.block_normal ?_ | refine CW.exit ?_ | refine PW.then_exit ?_ | refine PW.block_hit ?_ | refine PW.block_miss rfl ?_ | refine Cut.exit ?_ | refine Rnd.exit ?_ | refine CW.scope ?_ | refine CW.label ?_ | refine PW.scope_normal ?_ | refine PW.scope_ret ?_ | refine PW.scope_exit ?_)
  refine CW.region ?_
  refine L1 (ps_assign rfl).os ?_
  refine LW.nil ?_
  repeat (first | refine CW.seq ?_ | refine PW.then_ ?_ | refine PW.then_to rfl ?_ | refine CW.block ?_ | refine CW.skip ?_ | refine CW.ret ?_ | refine PW.then_ret ?_ | refine PW.block_ret ?_ | refine Cut.ret ?_ | refine Rnd.ret ?_ | refine PW.block_normal ?_ | refine CW.exit ?_ | refine PW.then_exit ?_ | refine PW.block_hit ?_ | refine PW.block_miss rfl ?_ | refine Cut.exit ?_ | refine Rnd.exit ?_ | refine CW.scope ?_ | refine CW.label ?_ | refine PW.scope_normal ?_ | refine PW.scope_ret ?_ | refine PW.scope_exit ?_)
  refine CW.region ?_
  refine L1 (ps_move rfl).os ?_
  refine L1 (ps_build (by rfl) (T.bd88_0 _ _ _)).os ?_
  refine LE (os_box rfl (by rfl)) ?_
  rintro _ _ ⟨b5, rfl, rfl⟩
  refine L1 (ps_assign rfl).os ?_
  refine LW.nil ?_
  repeat (first | refine CW.seq ?_ | refine PW.then_ ?_ | refine PW.then_to rfl ?_ | refine CW.block ?_ | refine CW.skip ?_ | refine CW.ret ?_ | refine PW.then_ret ?_ | refine PW.block_ret ?_ | refine Cut.ret ?_ | refine Rnd.ret ?_ | refine PW.block_normal ?_ | refine CW.exit ?_ | refine PW.then_exit ?_ | refine PW.block_hit ?_ | refine PW.block_miss rfl ?_ | refine Cut.exit ?_ | refine Rnd.exit ?_ | refine CW.scope ?_ | refine CW.label ?_ | refine PW.scope_normal ?_ | refine PW.scope_ret ?_ | refine PW.scope_exit ?_)
  exact Fin.ret1 (v := ptr b5) rfl [_, _] rfl ⟨b5, rfl, rfl⟩ (RdAt.fold _ hb _)
theorem take_bad (A : Asn) (p : Nat) (bs : List UInt8) (bad : Bool) (n : Nat) (hm : bs.length ≤ maxLen) (hn : n ≤ 1000) (h : bad = true ∨ bs.length < n) :
    FSpec Try.prog 42 [ptr p, .int .i64 n] [RdAt A p bs bad, A] (fun r As => ∃ b, r = .slice (some ⟨b, 0, none⟩) n n ∧ As = [cb b 5 (bv (List.replicate n 0)), RdAt A p bs true, A]) := by
  refine FSpec.intro Try.func42 rfl 41 Try.ntmps42 (Nat.le_of_ble_eq_true rfl) fun w0 F => ?_
  show CW _ _ _ _ _ _ (_ :: _ :: F)
  refine J.open_ (pk_head _ _) RdAt.op ?_
  rintro _ ⟨v, hv, rfl⟩
  show CW _ _ _ _ _ _ (_ :: A :: F)
  have hv0 := hv
  obtain ⟨q, cap, rfl, hcap, -⟩ := hv0
  unfold maxLen at hm
  repeat (first | refine CW.seq ?_ | refine PW.then_ ?_ | refine PW.then_to rfl ?_ | refine CW.block ?_ | refine CW.skip ?_ | refine CW.ret ?_ | refine PW.then_ret ?_ | refine PW.block_ret ?_ | refine Cut.ret ?_ | refine Rnd.ret ?_ | refine PW.block_normal ?_ | refine CW.exit ?_ | refine PW.then_exit ?_ | refine PW.block_hit ?_ | refine PW.block_miss rfl ?_ | refine Cut.exit ?_ | refine Rnd.exit ?_ | refine CW.scope ?_ | refine CW.label ?_ | refine PW.scope_normal ?_ | refine PW.scope_ret ?_ | refine PW.scope_exit ?_)
  refine CW.region ?_
  refine L1 (ps_assign rfl).os ?_
  refine LW.nil ?_
  refine PW.then_ (CW.seq ?_)
  refine CW.cutM (α := Unit) [6, 7, 8, 9, 10, 11, 12, 13, 14, 15, 16, 17, 18] (fun _ => True) (fun _ => [(18, .bool true)]) (fun _ => cb p 88 [.slice q bs.length cap, .bool bad] :: A :: F) ?_ ?_
  · cases bad
    · have h2 : (bs.length : Int) < (n : Int) := by rcases h with h | h; cases h; omega
      refine CW.region ?_
      refine L1 (ps_move rfl).os ?_
      refine L1 (ps_nil rfl).os ?_
      refine L1 (ps_fa T.fa88_1 (by decide) rfl).os ?_
      refine L1 (os_load1 (by repeat (first | exact pk_head _ _ | apply pk_tail)) T.ag4 rfl (by rfl)) ?_
      refine L1 (ps_move rfl).os ?_
      refine LG1 ?_ (ps_move rfl).os ?_
      · exact rfl
      refine LG1 ?_ (ps_move rfl).os ?_
      · exact rfl
      refine LG1 ?_ (ps_nil rfl).os ?_
      · exact rfl
      refine LG1 ?_ (ps_fa T.fa88_0 (by decide) rfl).os ?_
      · exact rfl
      refine LG1 ?_ (os_load1 (by repeat (first | exact pk_head _ _ | apply pk_tail)) T.ag27 rfl (by rfl)) ?_
      · exact rfl
      refine LG1 ?_ (ps_len_sl T.un27 rfl).os ?_
      · exact rfl
      refine LG1 ?_ (ps_t (ps_gtr rfl rfl) (h2)).os ?_
      · exact rfl
      refine L1 (ps_pick_f rfl rfl).os ?_
      refine LW.nil ?_
      exact Meet.cut () trivial (by repeat (first | (with_reducible exact Ag.refl _ _) | (with_reducible assumption) | (with_reducible apply Ag.pu0) | ((with_reducible refine Ag.pu _ ?_ ?_); · exact rfl) | ((with_reducible refine Ag.mix ?_ ?_); · exact rfl) | ((with_reducible refine Ag.pus ?_ ?_); · exact rfl))) ⟨rfl, trivial⟩ (by repeat (first | exact Ent.refl _ | (apply Ent.cons; · repeat (first | exact pk_head _ _ | apply pk_tail)) | apply Ent.skip))
    · refine CW.region ?_
      refine L1 (ps_move rfl).os ?_
      refine L1 (ps_nil rfl).os ?_
      refine L1 (ps_fa T.fa88_1 (by decide) rfl).os ?_
      refine L1 (os_load1 (by repeat (first | exact pk_head _ _ | apply pk_tail)) T.ag4 rfl (by rfl)) ?_
      refine L1 (ps_move rfl).os ?_
      refine LG0f ?_ ?_
      · exact rfl
      refine LG0f ?_ ?_
      · exact rfl
      refine LG0f ?_ ?_
      · exact rfl
      refine LG0f ?_ ?_
      · exact rfl
      refine LG0f ?_ ?_
      · exact rfl
      refine LG0f ?_ ?_
      · exact rfl
      refine LG0f ?_ ?_
      · exact rfl
      refine L1 (ps_pick_t rfl rfl).os ?_
      refine LW.nil ?_
      exact Meet.cut () trivial (by repeat (first | (with_reducible exact Ag.refl _ _) | (with_reducible assumption) | (with_reducible apply Ag.pu0) | ((with_reducible refine Ag.pu _ ?_ ?_); · exact rfl) | ((with_reducible refine Ag.mix ?_ ?_); · exact rfl) | ((with_reducible refine Ag.pus ?_ ?_); · exact rfl))) ⟨rfl, trivial⟩ (by repeat (first | exact Ent.refl _ | (apply Ent.cons; · repeat (first | exact pk_head _ _ | apply pk_tail)) | apply Ent.skip))
  intro _ g _
  repeat (first | refine CW.seq ?_ | refine PW.then_ ?_ | refine PW.then_to rfl ?_ | refine CW.block ?_ | refine CW.skip ?_ | refine CW.ret ?_ | refine PW.then_ret ?_ | refine PW.block_ret ?_ | refine Cut.ret ?_ | refine Rnd.ret ?_ | refine PW.block_normal ?_ | refine CW.exit ?_ | refine PW.then_exit ?_ | refine PW.block_hit ?_ | refine PW.block_miss rfl ?_ | refine Cut.exit ?_ | refine Rnd.exit ?_ | refine CW.scope ?_ | refine CW.label ?_ | refine PW.scope_normal ?_ | refine PW.scope_ret ?_ | refine PW.scope_exit ?_)
  refine CW.cond_true rfl ?_
  repeat (first | refine CW.seq ?_ | refine PW.then_ ?_ | refine PW.then_to rfl ?_ | refine CW.block ?_ | refine CW.skip ?_ | refine CW.ret ?_ | refine PW.then_ret ?_ | refine PW.block_ret ?_ | refine Cut.ret ?_ | refine Rnd.ret ?_ | refine PW.block_normal ?_ | refine CW.exit ?_ | refine PW.then_exit ?_ | refine PW.block_hit ?_ | refine PW.block_miss rfl ?_ | refine Cut.exit ?_ | refine Rnd.exit ?_ | refine CW.scope ?_ | refine CW.label ?_ | refine PW.scope_normal ?_ | refine PW.scope_ret ?_ | refine PW.scope_exit ?_)
  refine CW.region ?_
  refine L1 (ps_move rfl).os ?_
  refine L1 (ps_nil rfl).os ?_
  refine L1 (ps_fa T.fa88_1 (by decide) rfl).os ?_
  refine L1 (os_store1 (by repeat (first | exact pk_head _ _ | apply pk_tail)) T.sz4 rfl rfl (by rfl) (Nat.le_of_ble_eq_true rfl)) ?_
  refine LW.nil ?_
  repeat (first | refine CW.seq ?_ | refine PW.then_ ?_ | refine PW.then_to rfl ?_ | refine CW.block ?_ | refine CW.skip ?_ | refine CW.ret ?_ | refine PW.then_ret ?_ | refine PW.block_ret ?_ | refine Cut.ret ?_ | refine Rnd.ret ?_ | refine PW.block_normal ?_ | refine CW.exit ?_ | refine PW.then_exit ?_ | refine PW.block_hit ?_ | refine PW.block_miss rfl ?_ | refine Cut.exit ?_ | refine Rnd.exit ?_ | refine CW.scope ?_ | refine CW.label ?_ | refine PW.scope_normal ?_ | refine PW.scope_ret ?_ | refine PW.scope_exit ?_)
  refine CW.region ?_
  refine L1 (ps_move rfl).os ?_
  refine LE (os_zeros n T.un27 T.ti5 rfl rfl (by omega)) ?_
  rintro _ _ ⟨b23, rfl, rfl⟩
  refine L1 (ps_assign rfl).os ?_
  refine LW.nil ?_
  repeat (first | refine CW.seq ?_ | refine PW.then_ ?_ | refine PW.then_to rfl ?_ | refine CW.block ?_ | refine CW.skip ?_ | refine CW.ret ?_ | refine PW.then_ret ?_ | refine PW.block_ret ?_ | refine Cut.ret ?_ | refine Rnd.ret ?_ | refine PW.block_normal ?_ | refine CW.exit ?_ | refine PW.then_exit ?_ | refine PW.block_hit ?_ | refine PW.block_miss rfl ?_ | refine Cut.exit ?_ | refine Rnd.exit ?_ | refine CW.scope ?_ | refine CW.label ?_ | refine PW.scope_normal ?_ | refine PW.scope_ret ?_ | refine PW.scope_exit ?_)
  exact Fin.ret1 (v := .slice (some ⟨b23, 0, none⟩) n n) rfl [_, _, _] rfl ⟨b23, rfl, rfl⟩ (Ent.cons (pk_head _ _) (RdAt.fold _ hv _))
theorem take_ok (A : Asn) (p : Nat) (bs : List UInt8) (n : Nat) (hm : bs.length ≤ maxLen) (hn : 1 ≤ n) (h : n ≤ bs.length) :
    FSpec Try.prog 42 [ptr p, .int .i64 n] [RdAt A p bs false, A] (fun r As => (∃ q c, r = .slice q n c ∧ ByR A r (bs.take n)) ∧ As = [RdAt A p (bs.drop n) false, A]) := by
  refine FSpec.intro Try.func42 rfl 41 Try.ntmps42 (Nat.le_of_ble_eq_true rfl) fun w0 F => ?_
  show CW _ _ _ _ _ _ (_ :: _ :: F)
  refine J.open_ (pk_head _ _) RdAt.op ?_
  rintro _ ⟨v, hv, rfl⟩
  show CW _ _ _ _ _ _ (_ :: A :: F)
  have hv0 := hv
  obtain ⟨q, cap, rfl, hcap, -⟩ := hv0
  unfold maxLen at hm
  refine hv.form (As := _) (by repeat (first | exact pk_head _ _ | apply pk_tail)) (fun h0 => by rw [h0] at h; simp at h; omega) fun vb vo hq => ?_
  subst hq
  have h2 : ¬ (bs.length : Int) < (n : Int) := by omega
  have hdr := ByR.drop hv n h
  have htk : ByR A (.slice (some ⟨vb, vo, none⟩) n n) (bs.take n) := by
    obtain ⟨p1, c1, e1, e2, e3⟩ := ByR.take hv n h
    injection e1 with h1 h2 h3
    subst h1
    exact ⟨_, n, by rw [List.length_take, Nat.min_eq_left h], by rw [List.length_take]; omega, e3⟩
  repeat (first | refine CW.seq ?_ | refine PW.then_ ?_ | refine PW.then_to rfl ?_ | refine CW.block ?_ | refine CW.skip ?_ | refine CW.ret ?_ | refine PW.then_ret ?_ | refine PW.block_ret ?_ | refine Cut.ret ?_ | refine Rnd.ret ?_ | refine PW.block_normal ?_ | refine CW.exit ?_ | refine PW.then_exit ?_ | refine PW.block_hit ?_ | refine PW.block_miss rfl ?_ | refine Cut.exit ?_ | refine Rnd.exit ?_ | refine CW.scope ?_ | refine CW.label ?_ | refine PW.scope_normal ?_ | refine PW.scope_ret ?_ | refine PW.scope_exit ?_)
  refine CW.region ?_
  refine L1 (ps_assign rfl).os ?_
  refine LW.nil ?_
  repeat (first | refine CW.seq ?_ | refine PW.then_ ?_ | refine PW.then_to rfl ?_ | refine CW.block ?_ | refine CW.skip ?_ | refine CW.ret ?_ | refine PW.then_ret ?_ | refine PW.block_ret ?_ | refine Cut.ret ?_ | refine Rnd.ret ?_ | refine PW.block_normal ?_ | refine CW.exit ?_ | refine PW.then_exit ?_ | refine PW.block_hit ?_ | refine PW.block_miss rfl ?_ | refine Cut.exit ?_ | refine Rnd.exit ?_ | refine CW.scope ?_ | refine CW.label ?_ | refine PW.scope_normal ?_ | refine PW.scope_ret ?_ | refine PW.scope_exit ?_)
  refine CW.region ?_
  refine L1 (ps_move rfl).os ?_
  refine L1 (ps_nil rfl).os ?_
  refine L1 (ps_fa T.fa88_1 (by decide) rfl).os ?_
  refine L1 (os_load1 (by repeat (first | exact pk_head _ _ | apply pk_tail)) T.ag4 rfl (by rfl)) ?_
  refine L1 (ps_move rfl).os ?_
  refine LG1 ?_ (ps_move rfl).os ?_
  · exact rfl
  refine LG1 ?_ (ps_move rfl).os ?_
  · exact rfl
  refine LG1 ?_ (ps_nil rfl).os ?_
  · exact rfl
  refine LG1 ?_ (ps_fa T.fa88_0 (by decide) rfl).os ?_
  · exact rfl
  refine LG1 ?_ (os_load1 (by repeat (first | exact pk_head _ _ | apply pk_tail)) T.ag27 rfl (by rfl)) ?_
  · exact rfl
  refine LG1 ?_ (ps_len_sl T.un27 rfl).os ?_
  · exact rfl
  refine LG1 ?_ (ps_f (ps_gtr rfl rfl) (h2)).os ?_
  · exact rfl
  refine L1 (ps_pick_f rfl rfl).os ?_
  refine LW.nil ?_
  repeat (first | refine CW.seq ?_ | refine PW.then_ ?_ | refine PW.then_to rfl ?_ | refine CW.block ?_ | refine CW.skip ?_ | refine CW.ret ?_ | refine PW.then_ret ?_ | refine PW.block_ret ?_ | refine Cut.ret ?_ | refine Rnd.ret ?_ | refine PW.block_normal ?_ | refine CW.exit ?_ | refine PW.then_exit ?_ | refine PW.block_hit ?_ | refine PW.block_miss rfl ?_ | refine Cut.exit ?_ | refine Rnd.exit ?_ | refine CW.scope ?_ | refine CW.label ?_ | refine PW.scope_normal ?_ | refine PW.scope_ret ?_ | refine PW.scope_exit ?_)
  refine CW.cond_false rfl ?_
  repeat (first | refine CW.seq ?_ | refine PW.then_ ?_ | refine PW.then_to rfl ?_ | refine CW.block ?_ | refine CW.skip ?_ | refine CW.ret ?_ | refine PW.then_ret ?_ | refine PW.block_ret ?_ | refine Cut.ret ?_ | refine Rnd.ret ?_ | refine PW.block_normal ?_ | refine CW.exit ?_ | refine PW.then_exit ?_ | refine PW.block_hit ?_ | refine PW.block_miss rfl ?_ | refine Cut.exit ?_ | refine Rnd.exit ?_ | refine CW.scope ?_ | refine CW.label ?_ | refine PW.scope_normal ?_ | refine PW.scope_ret ?_ | refine PW.scope_exit ?_)
  refine CW.region ?_
  refine L1 (ps_move rfl).os ?_
  refine L1 (ps_nil rfl).os ?_
  refine L1 (ps_fa T.fa88_0 (by decide) rfl).os ?_
  refine L1 (os_load1 (by repeat (first | exact pk_head _ _ | apply pk_tail)) T.ag27 rfl (by rfl)) ?_
  refine L1 (ps_move rfl).os ?_
  refine L1 (ps_move rfl).os ?_
  refine L1 (ps_sl_hm T.un27 T.sz5 rfl rfl rfl (by omega) (by omega) (by omega)).os ?_
  refine L1 (ps_assign rfl).os ?_
  refine LW.nil ?_
  repeat (first | refine CW.seq ?_ | refine PW.then_ ?_ | refine PW.then_to rfl ?_ | refine CW.block ?_ | refine CW.skip ?_ | refine CW.ret ?_ | refine PW.then_ret ?_ | refine PW.block_ret ?_ | refine Cut.ret ?_ | refine Rnd.ret ?_ | refine PW.block_normal ?_ | refine CW.exit ?_ | refine PW.then_exit ?_ | refine PW.block_hit ?_ | refine PW.block_miss rfl ?_ | refine Cut.exit ?_ | refine Rnd.exit ?_ | refine CW.scope ?_ | refine CW.label ?_ | refine PW.scope_normal ?_ | refine PW.scope_ret ?_ | refine PW.scope_exit ?_)
  refine CW.region ?_
  refine L1 (ps_move rfl).os ?_
  refine L1 (ps_move rfl).os ?_
  refine L1 (ps_nil rfl).os ?_
  refine L1 (ps_fa T.fa88_0 (by decide) rfl).os ?_
  refine L1 (os_load1 (by repeat (first | exact pk_head _ _ | apply pk_tail)) T.ag27 rfl (by rfl)) ?_
  refine L1 (ps_move rfl).os ?_
  refine L1 (ps_sl_l T.un27 T.sz5 rfl rfl (by omega) (by omega)).os ?_
  refine L1 (ps_nil rfl).os ?_
  refine L1 (ps_fa T.fa88_0 (by decide) rfl).os ?_
  refine L1 (os_store1 (by repeat (first | exact pk_head _ _ | apply pk_tail)) T.sz27 rfl rfl (by rfl) (Nat.le_of_ble_eq_true rfl)) ?_
  refine LW.nil ?_
  repeat (first | refine CW.seq ?_ | refine PW.then_ ?_ | refine PW.then_to rfl ?_ | refine CW.block ?_ | refine CW.skip ?_ | refine CW.ret ?_ | refine PW.then_ret ?_ | refine PW.block_ret ?_ | refine Cut.ret ?_ | refine Rnd.ret ?_ | refine PW.block_normal ?_ | refine CW.exit ?_ | refine PW.then_exit ?_ | refine PW.block_hit ?_ | refine PW.block_miss rfl ?_ | refine Cut.exit ?_ | refine Rnd.exit ?_ | refine CW.scope ?_ | refine CW.label ?_ | refine PW.scope_normal ?_ | refine PW.scope_ret ?_ | refine PW.scope_exit ?_)
  refine CW.region ?_
  refine L1 (ps_move rfl).os ?_
  refine L1 (ps_assign rfl).os ?_
  refine LW.nil ?_
  repeat (first | refine CW.seq ?_ | refine PW.then_ ?_ | refine PW.then_to rfl ?_ | refine CW.block ?_ | refine CW.skip ?_ | refine CW.ret ?_ | refine PW.then_ret ?_ | refine PW.block_ret ?_ | refine Cut.ret ?_ | refine Rnd.ret ?_ | refine PW.block_normal ?_ | refine CW.exit ?_ | refine PW.then_exit ?_ | refine PW.block_hit ?_ | refine PW.block_miss rfl ?_ | refine Cut.exit ?_ | refine Rnd.exit ?_ | refine CW.scope ?_ | refine CW.label ?_ | refine PW.scope_normal ?_ | refine PW.scope_ret ?_ | refine PW.scope_exit ?_)
  exact Fin.ret1 (v := .slice (some ⟨vb, vo, none⟩) n n) rfl [_, _] rfl ⟨⟨_, _, rfl, htk⟩, rfl⟩ (RdAt.fold _ hdr _)
def rdInt (n : Nat) (bs : List UInt8) (bad : Bool) : Nat := num (rdT n bs bad).1
theorem num_zeros (n : Nat) : num (List.replicate n 0) = 0 := by
  induction n with
  | zero => rfl
  | succ n ih => rw [List.replicate_succ, num_cons, ih]; simp
/-- The loop of Int over what was taken. -/
theorem RInt_spec (A : Asn) (p : Nat) (bs : List UInt8) (bad : Bool) (n : Nat) (hm : bs.length ≤ maxLen) (h1 : 1 ≤ n) (h7 : n ≤ 7) :
    FSpec Try.prog 39 [ptr p, .int .i64 n] [RdAt A p bs bad, A] (fun r As => r = .int .i64 (rdInt n bs bad) ∧ As = [RdAt A p (rdT n bs bad).2.1 (rdT n bs bad).2.2, A]) := by
  refine FSpec.intro Try.func39 rfl 23 Try.ntmps39 (Nat.le_of_ble_eq_true rfl) fun w0 F => ?_
  show CW _ _ _ _ _ _ (_ :: _ :: F)
  repeat (first | refine CW.seq ?_ | refine PW.then_ ?_ | refine PW.then_to rfl ?_ | refine CW.block ?_ | refine CW.skip ?_ | refine CW.ret ?_ | refine PW.then_ret ?_ | refine PW.block_ret ?_ | refine Cut.ret ?_ | refine Rnd.ret ?_ | refine PW.block_normal ?_ | refine CW.exit ?_ | refine PW.then_exit ?_ | refine PW.block_hit ?_ | refine PW.block_miss rfl ?_ | refine Cut.exit ?_ | refine Rnd.exit ?_ | refine CW.scope ?_ | refine CW.label ?_ | refine PW.scope_normal ?_ | refine PW.scope_ret ?_ | refine PW.scope_exit ?_)
  refine CW.region ?_
  refine L1 (ps_assign rfl).os ?_
  refine LW.nil ?_
  repeat (first | refine CW.seq ?_ | refine PW.then_ ?_ | refine PW.then_to rfl ?_ | refine CW.block ?_ | refine CW.skip ?_ | refine CW.ret ?_ | refine PW.then_ret ?_ | refine PW.block_ret ?_ | refine Cut.ret ?_ | refine Rnd.ret ?_ | refine PW.block_normal ?_ | refine CW.exit ?_ | refine PW.then_exit ?_ | refine PW.block_hit ?_ | refine PW.block_miss rfl ?_ | refine Cut.exit ?_ | refine Rnd.exit ?_ | refine CW.scope ?_ | refine CW.label ?_ | refine PW.scope_normal ?_ | refine PW.scope_ret ?_ | refine PW.scope_exit ?_)
  refine CW.region ?_
  refine L1 (ps_assign rfl).os ?_
  refine LW.nil ?_
  repeat (first | refine CW.seq ?_ | refine PW.then_ ?_ | refine PW.then_to rfl ?_ | refine CW.block ?_ | refine CW.skip ?_ | refine CW.ret ?_ | refine PW.then_ret ?_ | refine PW.block_ret ?_ | refine Cut.ret ?_ | refine Rnd.ret ?_ | refine PW.block_normal ?_ | refine CW.exit ?_ | refine PW.then_exit ?_ | refine PW.block_hit ?_ | refine PW.block_miss rfl ?_ | refine Cut.exit ?_ | refine Rnd.exit ?_ | refine CW.scope ?_ | refine CW.label ?_ | refine PW.scope_normal ?_ | refine PW.scope_ret ?_ | refine PW.scope_exit ?_)
  refine CW.cutB (α := Option Addr × Nat × List Asn) [8, 9, 10, 11, 12] (fun a => (∃ B Hs, a.2.2.Perm (B :: Hs) ∧ ByR B (.slice a.1 n a.2.1) (rdT n bs bad).1) ∧ Ent a.2.2 (RdAt A p (rdT n bs bad).2.1 (rdT n bs bad).2.2 :: A :: F)) (fun a => [(10, .slice a.1 n a.2.1), (11, .int .i64 n), (12, .int .i64 0)])
    (fun a => a.2.2) ?_ ?_
  · by_cases h : bad = true ∨ bs.length < n
    · have e : rdT n bs bad = (List.replicate n 0, bs, true) := by unfold rdT; rw [if_pos h]
      rw [e]
      refine CW.region ?_
      refine L1 (ps_move rfl).os ?_
      refine L1 (ps_move rfl).os ?_
      refine LE (os_call (take_bad A p bs bad n hm (by omega) h) Try.func42 (by decide +kernel) rfl rfl (pk2 (by repeat (first | exact pk_head _ _ | apply pk_tail)) (by repeat (first | exact pk_head _ _ | apply pk_tail)))) ?_
      rintro _ _ ⟨_, ⟨b, rfl, rfl⟩, rfl⟩
      refine L1 (ps_len_sl T.un27 rfl).os ?_
      refine L1 (ps_move rfl).os ?_
      refine LW.nil ?_
      exact Meet.cut (some ⟨b, 0, none⟩, n, _) ⟨⟨_, _, List.Perm.refl _, ByR.cb (by rw [List.drop_zero, List.take_of_length_le (by simp)]) (by simp) (Nat.le_refl _)⟩, (by repeat (first | exact Ent.refl _ | (apply Ent.cons; · repeat (first | exact pk_head _ _ | apply pk_tail)) | apply Ent.skip))⟩ (by repeat (first | (with_reducible exact Ag.refl _ _) | (with_reducible assumption) | (with_reducible apply Ag.pu0) | ((with_reducible refine Ag.pu _ ?_ ?_); · exact rfl) | ((with_reducible refine Ag.mix ?_ ?_); · exact rfl) | ((with_reducible refine Ag.pus ?_ ?_); · exact rfl))) ⟨rfl, rfl, rfl, trivial⟩ (Ent.refl _)
    · have h' : bad = false ∧ n ≤ bs.length := by cases bad <;> simp at h ⊢ <;> omega
      obtain ⟨rfl, hle⟩ := h'
      have e : rdT n bs false = (bs.take n, bs.drop n, false) := by unfold rdT; rw [if_neg h]
      rw [e]
      refine CW.region ?_
      refine L1 (ps_move rfl).os ?_
      refine L1 (ps_move rfl).os ?_
      refine LE (os_call (take_ok A p bs n hm h1 hle) Try.func42 (by decide +kernel) rfl rfl (pk2 (by repeat (first | exact pk_head _ _ | apply pk_tail)) (by repeat (first | exact pk_head _ _ | apply pk_tail)))) ?_
      rintro _ _ ⟨_, ⟨⟨q, c, rfl, hq⟩, rfl⟩, rfl⟩
      refine L1 (ps_len_sl T.un27 rfl).os ?_
      refine L1 (ps_move rfl).os ?_
      refine LW.nil ?_
      exact Meet.cut (q, c, _) ⟨⟨A, _, (by repeat (first | exact pk_head _ _ | apply pk_tail)), hq⟩, Ent.refl _⟩ (by repeat (first | (with_reducible exact Ag.refl _ _) | (with_reducible assumption) | (with_reducible apply Ag.pu0) | ((with_reducible refine Ag.pu _ ?_ ?_); · exact rfl) | ((with_reducible refine Ag.mix ?_ ?_); · exact rfl) | ((with_reducible refine Ag.pus ?_ ?_); · exact rfl))) ⟨rfl, rfl, rfl, trivial⟩ (Ent.refl _)
  rintro ⟨q, c, Gs⟩ g ⟨⟨B, Hs, hpB, hB⟩, hent⟩
  dsimp only at hpB hB hent ⊢
  unfold rdInt
  have hcl := rdT_len n bs bad
  generalize (rdT n bs bad).1 = cs at hB hcl ⊢
  generalize (rdT n bs bad).2.1 = bs' at hent ⊢
  generalize (rdT n bs bad).2.2 = bad' at hent ⊢
  refine hB.form hpB (fun h0 => by rw [h0] at hcl; simp at hcl; omega) fun vb vo hq => ?_
  subst hq
  obtain ⟨-, hlc⟩ := hB.len
  repeat (first | refine CW.seq ?_ | refine PW.then_ ?_ | refine PW.then_to rfl ?_ | refine CW.block ?_ | refine CW.skip ?_ | refine CW.ret ?_ | refine PW.then_ret ?_ | refine PW.block_ret ?_ | refine Cut.ret ?_ | refine Rnd.ret ?_ | refine PW.block_normal ?_ | refine CW.exit ?_ | refine PW.then_exit ?_ | refine PW.block_hit ?_ | refine PW.block_miss rfl ?_ | refine Cut.exit ?_ | refine Rnd.exit ?_ | refine CW.scope ?_ | refine CW.label ?_ | refine PW.scope_normal ?_ | refine PW.scope_ret ?_ | refine PW.scope_exit ?_)
  refine CW.loopM (α := Nat) [5, 7, 12, 13, 14, 15, 16, 17, 18, 19, 20, 21] (fun k i => i ≤ n ∧ k = n - i) (fun i => [(12, .int .i64 i), (5, .int .i64 (num (cs.take i)))])
    (fun i => Gs) n 0 ⟨Nat.zero_le _, rfl⟩ ⟨rfl, rfl, trivial⟩ (Ent.refl _) ?_
  rintro k i g' ⟨hi, hk⟩
  repeat (first | refine CW.seq ?_ | refine PW.then_ ?_ | refine PW.then_to rfl ?_ | refine CW.block ?_ | refine CW.skip ?_ | refine CW.ret ?_ | refine PW.then_ret ?_ | refine PW.block_ret ?_ | refine Cut.ret ?_ | refine Rnd.ret ?_ | refine PW.block_normal ?_ | refine CW.exit ?_ | refine PW.then_exit ?_ | refine PW.block_hit ?_ | refine PW.block_miss rfl ?_ | refine Cut.exit ?_ | refine Rnd.exit ?_ | refine CW.scope ?_ | refine CW.label ?_ | refine PW.scope_normal ?_ | refine PW.scope_ret ?_ | refine PW.scope_exit ?_)
  by_cases hlt : i < n
  · have hsx := num_take_succ (l := cs) (j := i) (by omega)
    have hsrc := hB.at (i := i) (by omega) hpB
    have hn := num_lt (cs.take i)
    have hl6 : (cs.take i).length ≤ 6 := by rw [List.length_take]; omega
    have hn6 : num (cs.take i) < 256 ^ 6 := Nat.lt_of_lt_of_le hn (Nat.pow_le_pow_right (by decide) hl6)
    have hc := (cs[i]'(by omega)).toNat_lt
    generalize (cs[i]'(by omega)).toNat = ch at hsx hc hsrc
    generalize num (cs.take i) = x at hsx hn6
    have ho := or_low x ch 8 hc
    refine CW.region ?_
    refine L1 (ps_t (ps_lss rfl rfl) (by omega)).os ?_
    refine LW.nil ?_
    repeat (first | refine CW.seq ?_ | refine PW.then_ ?_ | refine PW.then_to rfl ?_ | refine CW.block ?_ | refine CW.skip ?_ | refine CW.ret ?_ | refine PW.then_ret ?_ | refine PW.block_ret ?_ | refine Cut.ret ?_ | refine Rnd.ret ?_ | refine PW.block_normal ?_ | refine CW.exit ?_ | refine PW.then_exit ?_ | refine PW.block_hit ?_ | refine PW.block_miss rfl ?_ | refine Cut.exit ?_ | refine Rnd.exit ?_ | refine CW.scope ?_ | refine CW.label ?_ | refine PW.scope_normal ?_ | refine PW.scope_ret ?_ | refine PW.scope_exit ?_)
    refine CW.cond_true rfl ?_
    repeat (first | refine CW.seq ?_ | refine PW.then_ ?_ | refine PW.then_to rfl ?_ | refine CW.block ?_ | refine CW.skip ?_ | refine CW.ret ?_ | refine PW.then_ret ?_ | refine PW.block_ret ?_ | refine Cut.ret ?_ | refine Rnd.ret ?_ | refine PW.block_normal ?_ | refine CW.exit ?_ | refine PW.then_exit ?_ | refine PW.block_hit ?_ | refine PW.block_miss rfl ?_ | refine Cut.exit ?_ | refine Rnd.exit ?_ | refine CW.scope ?_ | refine CW.label ?_ | refine PW.scope_normal ?_ | refine PW.scope_ret ?_ | refine PW.scope_exit ?_)
    refine CW.region ?_
    refine L1 (ps_ia_slice T.un27 T.sz5 rfl rfl (by omega) (by omega)).os ?_
    refine L1 (os_loadS1 (v := .int .u8 (ch : Int)) hsrc T.ag5 rfl) ?_
    refine L1 (ps_assign rfl).os ?_
    refine LW.nil ?_
    repeat (first | refine CW.seq ?_ | refine PW.then_ ?_ | refine PW.then_to rfl ?_ | refine CW.block ?_ | refine CW.skip ?_ | refine CW.ret ?_ | refine PW.then_ret ?_ | refine PW.block_ret ?_ | refine Cut.ret ?_ | refine Rnd.ret ?_ | refine PW.block_normal ?_ | refine CW.exit ?_ | refine PW.then_exit ?_ | refine PW.block_hit ?_ | refine PW.block_miss rfl ?_ | refine Cut.exit ?_ | refine Rnd.exit ?_ | refine CW.scope ?_ | refine CW.label ?_ | refine PW.scope_normal ?_ | refine PW.scope_ret ?_ | refine PW.scope_exit ?_)
    refine CW.region ?_
    refine L1 (ps_move rfl).os ?_
    refine L1 (ps_shlN_i64 x 8 rfl rfl rfl (by decide) (by omega)).os ?_
    refine L1 (ps_move rfl).os ?_
    refine L1 (ps_to (u := .int .i64 (ch : Int)) (congrArg _ (wrap_i64_id (by omega) (by omega))) (ps_conv (by kernel_rfl) T.un3 rfl)).os ?_
    refine L1 (ps_to (u := .int .i64 ((x * 256 + ch : Nat) : Int)) (congrArg (fun z : Nat => Value.int .i64 (z : Int)) ho) (ps_orN_i64 (x * 2 ^ 8) ch rfl rfl (by omega) (by omega))).os ?_
    refine L1 (ps_assign rfl).os ?_
    refine LW.nil ?_
    repeat (first | refine CW.seq ?_ | refine PW.then_ ?_ | refine PW.then_to rfl ?_ | refine CW.block ?_ | refine CW.skip ?_ | refine CW.ret ?_ | refine PW.then_ret ?_ | refine PW.block_ret ?_ | refine Cut.ret ?_ | refine Rnd.ret ?_ | refine PW.block_normal ?_ | refine CW.exit ?_ | refine PW.then_exit ?_ | refine PW.block_hit ?_ | refine PW.block_miss rfl ?_ | refine Cut.exit ?_ | refine Rnd.exit ?_ | refine CW.scope ?_ | refine CW.label ?_ | refine PW.scope_normal ?_ | refine PW.scope_ret ?_ | refine PW.scope_exit ?_)
    refine CW.region ?_
    refine L1 (ps_add_i64 rfl rfl (by omega) (by omega)).os ?_
    refine L1 (ps_move rfl).os ?_
    refine LW.nil ?_
    exact Meet.round (n - (i + 1)) (i + 1) (by omega) ⟨hlt, rfl⟩ (by repeat (first | (with_reducible exact Ag.refl _ _) | (with_reducible assumption) | (with_reducible apply Ag.pu0) | ((with_reducible refine Ag.pu _ ?_ ?_); · exact rfl) | ((with_reducible refine Ag.mix ?_ ?_); · exact rfl) | ((with_reducible refine Ag.pus ?_ ?_); · exact rfl))) ⟨rfl, congrArg (fun z : Nat => Value.int .i64 (z : Int)) hsx.symm, trivial⟩ (Ent.refl _)
  · have hil : i = n := by omega
    subst hil
    rw [List.take_of_length_le (by omega)]
    refine CW.region ?_
    refine L1 (ps_f (ps_lss rfl rfl) (by omega)).os ?_
    refine LW.nil ?_
    repeat (first | refine CW.seq ?_ | refine PW.then_ ?_ | refine PW.then_to rfl ?_ | refine CW.block ?_ | refine CW.skip ?_ | refine CW.ret ?_ | refine PW.then_ret ?_ | refine PW.block_ret ?_ | refine Cut.ret ?_ | refine Rnd.ret ?_ | refine PW.block_normal ?_ | refine CW.exit ?_ | refine PW.then_exit ?_ | refine PW.block_hit ?_ | refine PW.block_miss rfl ?_ | refine Cut.exit ?_ | refine Rnd.exit ?_ | refine CW.scope ?_ | refine CW.label ?_ | refine PW.scope_normal ?_ | refine PW.scope_ret ?_ | refine PW.scope_exit ?_)
    refine CW.cond_false rfl ?_
    repeat (first | refine CW.seq ?_ | refine PW.then_ ?_ | refine PW.then_to rfl ?_ | refine CW.block ?_ | refine CW.skip ?_ | refine CW.ret ?_ | refine PW.then_ret ?_ | refine PW.block_ret ?_ | refine Cut.ret ?_ | refine Rnd.ret ?_ | refine PW.block_normal ?_ | refine CW.exit ?_ | refine PW.then_exit ?_ | refine PW.block_hit ?_ | refine PW.block_miss rfl ?_ | refine Cut.exit ?_ | refine Rnd.exit ?_ | refine CW.scope ?_ | refine CW.label ?_ | refine PW.scope_normal ?_ | refine PW.scope_ret ?_ | refine PW.scope_exit ?_)
    refine CW.region ?_
    refine L1 (ps_move rfl).os ?_
    refine L1 (ps_assign rfl).os ?_
    refine LW.nil ?_
    repeat (first | refine CW.seq ?_ | refine PW.then_ ?_ | refine PW.then_to rfl ?_ | refine CW.block ?_ | refine CW.skip ?_ | refine CW.ret ?_ | refine PW.then_ret ?_ | refine PW.block_ret ?_ | refine Cut.ret ?_ | refine Rnd.ret ?_ | refine PW.block_normal ?_ | refine CW.exit ?_ | refine PW.then_exit ?_ | refine PW.block_hit ?_ | refine PW.block_miss rfl ?_ | refine Cut.exit ?_ | refine Rnd.exit ?_ | refine CW.scope ?_ | refine CW.label ?_ | refine PW.scope_normal ?_ | refine PW.scope_ret ?_ | refine PW.scope_exit ?_)
    exact Fin.ret1 (v := .int .i64 (num cs)) rfl [_, _] rfl ⟨rfl, rfl⟩ hent
theorem RDone_spec (A : Asn) (p : Nat) (bs : List UInt8) (bad : Bool) : FSpec Try.prog 38 [ptr p] [RdAt A p bs bad] (fun r As => r = .bool (!bad && decide (bs = [])) ∧ As = [RdAt A p bs bad]) := by
  refine FSpec.intro Try.func38 rfl 16 Try.ntmps38 (Nat.le_of_ble_eq_true rfl) fun w0 F => ?_
  show CW _ _ _ _ _ _ (_ :: F)
  refine J.open_ (pk_head _ _) RdAt.op ?_
  rintro _ ⟨v, hv, rfl⟩
  show CW _ _ _ _ _ _ (_ :: F)
  have hv0 := hv
  obtain ⟨q, cap, rfl, hcap, -⟩ := hv0
  repeat (first | refine CW.seq ?_ | refine PW.then_ ?_ | refine PW.then_to rfl ?_ | refine CW.block ?_ | refine CW.skip ?_ | refine CW.ret ?_ | refine PW.then_ret ?_ | refine PW.block_ret ?_ | refine Cut.ret ?_ | refine Rnd.ret ?_ | refine PW.block_normal ?_ | refine CW.exit ?_ | refine PW.then_exit ?_ | refine PW.block_hit ?_ | refine PW.block_miss rfl ?_ | refine Cut.exit ?_ | refine Rnd.exit ?_ | refine CW.scope ?_ | refine CW.label ?_ | refine PW.scope_normal ?_ | refine PW.scope_ret ?_ | refine PW.scope_exit ?_)
  refine CW.region ?_
  refine L1 (ps_assign rfl).os ?_
  refine LW.nil ?_
  repeat (first | refine CW.seq ?_ | refine PW.then_ ?_ | refine PW.then_to rfl ?_ | refine CW.block ?_ | refine CW.skip ?_ | refine CW.ret ?_ | refine PW.then_ret ?_ | refine PW.block_ret ?_ | refine Cut.ret ?_ | refine Rnd.ret ?_ | refine PW.block_normal ?_ | refine CW.exit ?_ | refine PW.then_exit ?_ | refine PW.block_hit ?_ | refine PW.block_miss rfl ?_ | refine Cut.exit ?_ | refine Rnd.exit ?_ | refine CW.scope ?_ | refine CW.label ?_ | refine PW.scope_normal ?_ | refine PW.scope_ret ?_ | refine PW.scope_exit ?_)
  cases bad
  · by_cases hn : bs = []
    · refine CW.region ?_
      refine L1 (ps_move rfl).os ?_
      refine L1 (ps_nil rfl).os ?_
      refine L1 (ps_fa T.fa88_1 (by decide) rfl).os ?_
      refine L1 (os_load1 (by repeat (first | exact pk_head _ _ | apply pk_tail)) T.ag4 rfl (by rfl)) ?_
      refine L1 (ps_not rfl).os ?_
      refine L1 (ps_move rfl).os ?_
      refine LG1 ?_ (ps_move rfl).os ?_
      · exact rfl
      refine LG1 ?_ (ps_nil rfl).os ?_
      · exact rfl
      refine LG1 ?_ (ps_fa T.fa88_0 (by decide) rfl).os ?_
      · exact rfl
      refine LG1 ?_ (os_load1 (by repeat (first | exact pk_head _ _ | apply pk_tail)) T.ag27 rfl (by rfl)) ?_
      · exact rfl
      refine LG1 ?_ (ps_len_sl T.un27 rfl).os ?_
      · exact rfl
      refine LG1 ?_ (ps_t (ps_eql rfl rfl) (by rw [hn]; rfl)).os ?_
      · exact rfl
      refine L1 (ps_pick_t rfl rfl).os ?_
      refine L1 (ps_assign rfl).os ?_
      refine LW.nil ?_
      repeat (first | refine CW.seq ?_ | refine PW.then_ ?_ | refine PW.then_to rfl ?_ | refine CW.block ?_ | refine CW.skip ?_ | refine CW.ret ?_ | refine PW.then_ret ?_ | refine PW.block_ret ?_ | refine Cut.ret ?_ | refine Rnd.ret ?_ | refine PW.block_normal ?_ | refine CW.exit ?_ | refine PW.then_exit ?_ | refine PW.block_hit ?_ | refine PW.block_miss rfl ?_ | refine Cut.exit ?_ | refine Rnd.exit ?_ | refine CW.scope ?_ | refine CW.label ?_ | refine PW.scope_normal ?_ | refine PW.scope_ret ?_ | refine PW.scope_exit ?_)
      exact Fin.ret1 (v := .bool true) rfl [_] rfl ⟨by simp [hn], rfl⟩ (RdAt.fold _ hv _)
    · have hl : ¬ (bs.length : Int) = 0 := by have := List.length_pos_iff.2 hn; omega
      refine CW.region ?_
      refine L1 (ps_move rfl).os ?_
      refine L1 (ps_nil rfl).os ?_
      refine L1 (ps_fa T.fa88_1 (by decide) rfl).os ?_
      refine L1 (os_load1 (by repeat (first | exact pk_head _ _ | apply pk_tail)) T.ag4 rfl (by rfl)) ?_
      refine L1 (ps_not rfl).os ?_
      refine L1 (ps_move rfl).os ?_
      refine LG1 ?_ (ps_move rfl).os ?_
      · exact rfl
      refine LG1 ?_ (ps_nil rfl).os ?_
      · exact rfl
      refine LG1 ?_ (ps_fa T.fa88_0 (by decide) rfl).os ?_
      · exact rfl
      refine LG1 ?_ (os_load1 (by repeat (first | exact pk_head _ _ | apply pk_tail)) T.ag27 rfl (by rfl)) ?_
      · exact rfl
      refine LG1 ?_ (ps_len_sl T.un27 rfl).os ?_
      · exact rfl
      refine LG1 ?_ (ps_f (ps_eql rfl rfl) (hl)).os ?_
      · exact rfl
      refine L1 (ps_pick_t rfl rfl).os ?_
      refine L1 (ps_assign rfl).os ?_
      refine LW.nil ?_
      repeat (first | refine CW.seq ?_ | refine PW.then_ ?_ | refine PW.then_to rfl ?_ | refine CW.block ?_ | refine CW.skip ?_ | refine CW.ret ?_ | refine PW.then_ret ?_ | refine PW.block_ret ?_ | refine Cut.ret ?_ | refine Rnd.ret ?_ | refine PW.block_normal ?_ | refine CW.exit ?_ | refine PW.then_exit ?_ | refine PW.block_hit ?_ | refine PW.block_miss rfl ?_ | refine Cut.exit ?_ | refine Rnd.exit ?_ | refine CW.scope ?_ | refine CW.label ?_ | refine PW.scope_normal ?_ | refine PW.scope_ret ?_ | refine PW.scope_exit ?_)
      exact Fin.ret1 (v := .bool false) rfl [_] rfl ⟨by simp [hn], rfl⟩ (RdAt.fold _ hv _)
  · refine CW.region ?_
    refine L1 (ps_move rfl).os ?_
    refine L1 (ps_nil rfl).os ?_
    refine L1 (ps_fa T.fa88_1 (by decide) rfl).os ?_
    refine L1 (os_load1 (by repeat (first | exact pk_head _ _ | apply pk_tail)) T.ag4 rfl (by rfl)) ?_
    refine L1 (ps_not rfl).os ?_
    refine L1 (ps_move rfl).os ?_
    refine LG0t ?_ ?_
    · exact rfl
    refine LG0t ?_ ?_
    · exact rfl
    refine LG0t ?_ ?_
    · exact rfl
    refine LG0t ?_ ?_
    · exact rfl
    refine LG0t ?_ ?_
    · exact rfl
    refine LG0t ?_ ?_
    · exact rfl
    refine L1 (ps_pick_f rfl rfl).os ?_
    refine L1 (ps_assign rfl).os ?_
    refine LW.nil ?_
    repeat (first | refine CW.seq ?_ | refine PW.then_ ?_ | refine PW.then_to rfl ?_ | refine CW.block ?_ | refine CW.skip ?_ | refine CW.ret ?_ | refine PW.then_ret ?_ | refine PW.block_ret ?_ | refine Cut.ret ?_ | refine Rnd.ret ?_ | refine PW.block_normal ?_ | refine CW.exit ?_ | refine PW.then_exit ?_ | refine PW.block_hit ?_ | refine PW.block_miss rfl ?_ | refine Cut.exit ?_ | refine Rnd.exit ?_ | refine CW.scope ?_ | refine CW.label ?_ | refine PW.scope_normal ?_ | refine PW.scope_ret ?_ | refine PW.scope_exit ?_)
    exact Fin.ret1 (v := .bool false) rfl [_] rfl ⟨by simp, rfl⟩ (RdAt.fold _ hv _)
end Go.Proofs.Ytejbbpofamfhiaa
