/- Hashes and bytes laid and read; an account's bytes and a row's. -/
import Derived.Test.YtpcjjchanjdkaaaReqW
namespace Go.Proofs.Ytpcjjchanjdkaaa
set_option linter.unusedVariables false
set_option linter.unusedSimpArgs false
open Go Go.SL

section
variable {P : Program} {ty : TypeId} {n : FN} {f : Nat → Value} {t e : TypeId} {x : Operand} {s b o m len cap : Nat}
theorem ps_sl_arr (ht : P.underlying t = some (.array m e)) (hs : SZ P e s) (h : ev n f x = .pointer (some ⟨b, o, none⟩)) : PS P (.slice t x none none none) ty n f (.slice (some ⟨b, o, none⟩) m m) := fun o' ho _ w => by
  simp [execOp, ho, h, Instr.sliceAt, run_underlying ht, Instr.sliceBounds, SL.run_sizeOf hs, Instr.sureAddr, add0]
theorem ps_s2a {a : Option Addr} (ht : P.underlying t = some (.array m e)) (h : ev n f x = .slice a len cap) (hl : m ≤ len) : PS P (.sliceToArrayPointer t x) ty n f (.pointer a) := fun o' ho _ w => by
  have hl' : ¬ len < m := by omega
  simp [execOp, ho, h, Instr.arrayAt, run_underlying ht, hl']
end

theorem hs_take (hs : List (List UInt8)) (i : Nat) (h : i < hs.length) : ((hs.take (i + 1))).flatten = (hs.take i).flatten ++ hs[i] := by
  rw [List.take_succ_eq_append_getElem h, List.flatten_append]; simp
theorem hs_len (hs : List (List UInt8)) (c : Nat) (h : ∀ x ∈ hs, x.length ≤ c) : hs.flatten.length ≤ hs.length * c := by
  induction hs with
  | nil => simp
  | cons x xs ih =>
    rw [List.flatten_cons, List.length_append, List.length_cons, Nat.succ_mul]
    have h1 := h x (by simp)
    have h2 := ih fun y hy => h y (by simp [hy])
    omega
theorem WHash_spec (p : Nat) (bs : List UInt8) (A : Asn) (v : Value) (xs : List (List UInt8)) (hr : RowsR A v 32 (xs.map bv)) (hm : ∀ x ∈ xs, x.length = 32) (hb : bs.length ≤ 1000000) (hx : xs.length ≤ 1000) :
    FSpec Try.prog 18 [ptr p, v] [WrAt p bs, A] (fun r As => r = ptr p ∧ As = [WrAt p (bs ++ xs.flatten), A]) := by
  obtain ⟨pv, cap, rfl, hcap1, hcap2, hpv⟩ := hr.len
  rw [show (List.map bv xs).length = xs.length from List.length_map ..] at *
  refine FSpec.intro Try.func18 rfl 24 Try.ntmps18 (Nat.le_of_ble_eq_true rfl) fun w0 F => ?_
  show CW _ _ _ _ _ _ (_ :: _ :: F)
  repeat (first | refine CW.seq ?_ | refine PW.then_ ?_ | refine CW.block ?_ | refine CW.skip ?_ | refine CW.ret ?_ | refine PW.then_ret ?_ | refine PW.block_ret ?_ | refine Cut.ret ?_ | refine Rnd.ret ?_ | refine PW.block_normal ?_ | refine CW.exit ?_ | refine PW.then_exit ?_ | refine PW.block_hit ?_ | refine PW.block_miss rfl ?_ | refine Cut.exit ?_ | refine Rnd.exit ?_)
  refine CW.region ?_
  refine L1 (ps_assign rfl).os ?_
  refine LW.nil ?_
  repeat (first | refine CW.seq ?_ | refine PW.then_ ?_ | refine CW.block ?_ | refine CW.skip ?_ | refine CW.ret ?_ | refine PW.then_ret ?_ | refine PW.block_ret ?_ | refine Cut.ret ?_ | refine Rnd.ret ?_ | refine PW.block_normal ?_ | refine CW.exit ?_ | refine PW.then_exit ?_ | refine PW.block_hit ?_ | refine PW.block_miss rfl ?_ | refine Cut.exit ?_ | refine Rnd.exit ?_)
  refine CW.region ?_
  refine L1 (ps_move rfl).os ?_
  refine L1 (ps_len_sl T.un73 rfl).os ?_
  refine L1 (ps_move rfl).os ?_
  refine LW.nil ?_
  repeat (first | refine CW.seq ?_ | refine PW.then_ ?_ | refine CW.block ?_ | refine CW.skip ?_ | refine CW.ret ?_ | refine PW.then_ret ?_ | refine PW.block_ret ?_ | refine Cut.ret ?_ | refine Rnd.ret ?_ | refine PW.block_normal ?_ | refine CW.exit ?_ | refine PW.then_exit ?_ | refine PW.block_hit ?_ | refine PW.block_miss rfl ?_ | refine Cut.exit ?_ | refine Rnd.exit ?_)
  refine CW.loopM (α := Nat) [6, 9, 10, 11, 12, 13, 14, 15, 16, 17, 18, 19, 20, 21, 22] (fun k i => i ≤ xs.length ∧ k = xs.length - i) (fun i => [(9, .int .i64 i)])
    (fun i => WrAt p (bs ++ (xs.take i).flatten) :: A :: F) xs.length 0 ⟨Nat.zero_le _, rfl⟩ ⟨rfl, trivial⟩ (by simp only [List.take_zero, List.flatten_nil, List.append_nil]; exact (by repeat (first | exact Ent.refl _ | (apply Ent.cons; · repeat (first | exact pk_head _ _ | apply pk_tail)) | apply Ent.skip))) ?_
  rintro k i g ⟨hi, hk⟩
  repeat (first | refine CW.seq ?_ | refine PW.then_ ?_ | refine CW.block ?_ | refine CW.skip ?_ | refine CW.ret ?_ | refine PW.then_ret ?_ | refine PW.block_ret ?_ | refine Cut.ret ?_ | refine Rnd.ret ?_ | refine PW.block_normal ?_ | refine CW.exit ?_ | refine PW.then_exit ?_ | refine PW.block_hit ?_ | refine PW.block_miss rfl ?_ | refine Cut.exit ?_ | refine Rnd.exit ?_)
  by_cases hlt : i < xs.length
  · have hsx := hs_take xs i hlt
    have hxi := hm xs[i] (List.getElem_mem hlt)
    obtain ⟨vb, vo, rfl⟩ := hpv (fun h => by have := congrArg List.length h; simp at this; subst this; exact absurd hlt (Nat.not_lt_zero _))
    have hsrc := fun As Bs (hp : List.Perm As (A :: Bs)) => hr.src (i := i) (by simpa using hlt) hp
    simp only [List.getElem_map] at hsrc
    have hle : (xs.take i).flatten.length ≤ 32000 := by
      have := hs_len (xs.take i) 32 (fun y hy => Nat.le_of_eq (hm y (List.mem_of_mem_take hy)))
      rw [List.length_take] at this; omega
    generalize xs[i] = x at hsx hsrc hxi
    generalize (xs.take i).flatten = pre at hsx hle
    have hpl : (bs ++ pre).length ≤ 1032000 := by rw [List.length_append]; omega
    have hvl : (bv x).length = 32 := by rw [length_bv, hxi]
    have hvn : bv x ≠ [] := fun h0 => by rw [h0] at hvl; simp at hvl
    refine CW.region ?_
    refine L1 (ps_t (ps_lss rfl rfl) (by omega)).os ?_
    refine LW.nil ?_
    repeat (first | refine CW.seq ?_ | refine PW.then_ ?_ | refine CW.block ?_ | refine CW.skip ?_ | refine CW.ret ?_ | refine PW.then_ret ?_ | refine PW.block_ret ?_ | refine Cut.ret ?_ | refine Rnd.ret ?_ | refine PW.block_normal ?_ | refine CW.exit ?_ | refine PW.then_exit ?_ | refine PW.block_hit ?_ | refine PW.block_miss rfl ?_ | refine Cut.exit ?_ | refine Rnd.exit ?_)
    refine CW.cond_true rfl ?_
    repeat (first | refine CW.seq ?_ | refine PW.then_ ?_ | refine CW.block ?_ | refine CW.skip ?_ | refine CW.ret ?_ | refine PW.then_ret ?_ | refine PW.block_ret ?_ | refine Cut.ret ?_ | refine Rnd.ret ?_ | refine PW.block_normal ?_ | refine CW.exit ?_ | refine PW.then_exit ?_ | refine PW.block_hit ?_ | refine PW.block_miss rfl ?_ | refine Cut.exit ?_ | refine Rnd.exit ?_)
    refine CW.region ?_
    refine L1 (ps_ia_slice T.un73 T.sz43 rfl rfl (by omega) (by omega)).os ?_
    refine L1 (os_loadS (vs := bv x) (hsrc _ _ (by repeat (first | exact pk_head _ _ | apply pk_tail))) hvn T.ag43 (by rw [hvl]; exact T.sz43) rfl) ?_
    refine LE (os_alloc T.ti43) ?_
    rintro _ _ ⟨b6, rfl, rfl⟩
    refine L1 (os_storeAll (b := b6) (vs := bv x) (by repeat (first | exact pk_head _ _ | apply pk_tail)) (by rw [hvl]; exact T.sz43) rfl rfl (bv_one x) (by rw [hvl]; rfl)) ?_
    refine LW.nil ?_
    repeat (first | refine CW.seq ?_ | refine PW.then_ ?_ | refine CW.block ?_ | refine CW.skip ?_ | refine CW.ret ?_ | refine PW.then_ret ?_ | refine PW.block_ret ?_ | refine Cut.ret ?_ | refine Rnd.ret ?_ | refine PW.block_normal ?_ | refine CW.exit ?_ | refine PW.then_exit ?_ | refine PW.block_hit ?_ | refine PW.block_miss rfl ?_ | refine Cut.exit ?_ | refine Rnd.exit ?_)
    refine J.open_ (A := WrAt p (bs ++ pre)) (by repeat (first | exact pk_head _ _ | apply pk_tail)) WrAt.op ?_
    rintro _ ⟨q, d, rfl⟩
    show CW _ _ _ _ _ _ (_ :: _ :: cb b6 43 (bv x) :: A :: F)
    generalize hbs : bs ++ pre = all at hpl
    refine CW.cutB (α := Unit) [13, 14, 15, 16, 17, 18, 19, 20, 21] (fun _ => True) (fun _ => []) (fun _ => WrAt p (all ++ x) :: A :: F) ?_ ?_
    · refine CW.draw T.mixed ?_
      refine A_take (i := 0) (some 13) rfl rfl (by kernel_rfl) (by kernel_rfl) (by kernel_rfl) rfl (ps_move rfl) ?_
      refine A_take (i := 1) (some 14) rfl rfl (by kernel_rfl) (by kernel_rfl) (by kernel_rfl) rfl (ps_move rfl) ?_
      refine A_take (i := 2) (some 15) rfl rfl (by kernel_rfl) (by kernel_rfl) (by kernel_rfl) rfl (ps_nil rfl) ?_
      refine A_take (i := 3) (some 16) rfl rfl (by kernel_rfl) (by kernel_rfl) (by kernel_rfl) rfl (ps_fa T.fa45_0 (by decide) rfl) ?_
      refine A_take (i := 5) (some 18) rfl rfl (by kernel_rfl) (by kernel_rfl) (by kernel_rfl) rfl (ps_sl_arr T.un43 T.sz5 rfl) ?_
      refine A_branch (rs := [4]) (by kernel_rfl) (by simp) ?_
      refine AR.cons1 (i := 4) (some 17) rfl rfl rfl (os_load1 (by repeat (first | exact pk_head _ _ | apply pk_tail)) T.ag32 rfl (by rfl)) ?_ ?_
      · skip
        refine A_branch (rs := [6]) (by kernel_rfl) (by simp) ?_
        refine AR.consE (i := 6) (some 19) rfl rfl rfl (os_append (xs := bv all) (news := bv x) (by repeat (first | exact pk_head _ _ | apply pk_tail)) T.un32 T.ti5 (by rfl) (by decide) rfl rfl (by rw [hvl]) (Src.cb (b := b6) (by repeat (first | exact pk_head _ _ | apply pk_tail)) (by rw [List.drop_zero, List.take_length])) (bv_one _) (by unfold maxLen; omega) (by omega)) ?_ ?_
        · rintro _ _ ⟨q', d', rfl, rfl, hq'⟩
          refine A_take (i := 7) (some 20) rfl rfl (by kernel_rfl) (by kernel_rfl) (by kernel_rfl) rfl (ps_nil rfl) ?_
          refine A_take (i := 8) (some 21) rfl rfl (by kernel_rfl) (by kernel_rfl) (by kernel_rfl) rfl (ps_fa T.fa45_0 (by decide) rfl) ?_
          refine A_branch (rs := [9]) (by kernel_rfl) (by simp) ?_
          refine AR.cons1 (i := 9) none rfl rfl rfl (os_store1 (by repeat (first | exact pk_head _ _ | apply pk_tail)) T.sz32 rfl rfl (by rfl) (Nat.le_of_ble_eq_true rfl)) ?_ ?_
          · skip
            refine A_done (by kernel_rfl) ?_
            exact Meet.cut () trivial (by repeat (first | (with_reducible exact Ag.refl _ _) | (with_reducible apply Ag.pu0) | ((with_reducible refine Ag.pu _ ?_ ?_); · exact rfl) | ((with_reducible refine Ag.mix ?_ ?_); · exact rfl) | ((with_reducible refine Ag.pus ?_ ?_); · exact rfl))) trivial (Ent.trans (Bs := cb p 45 [.slice q' (all.length + 32) d'] :: slOwn 5 1 (.slice q' (all.length + 32) d') (all.length + 32) (bv all ++ bv x) :: A :: F) (by repeat (first | exact Ent.refl _ | (apply Ent.cons; · repeat (first | exact pk_head _ _ | apply pk_tail)) | apply Ent.skip)) (WrAt.foldL q' d' _ (by simp [hxi]) _ (bv_append _ _).symm))
          exact AR.nil
        exact AR.nil
      exact AR.nil
    intro _ g2 _
    repeat (first | refine CW.seq ?_ | refine PW.then_ ?_ | refine CW.block ?_ | refine CW.skip ?_ | refine CW.ret ?_ | refine PW.then_ret ?_ | refine PW.block_ret ?_ | refine Cut.ret ?_ | refine Rnd.ret ?_ | refine PW.block_normal ?_ | refine CW.exit ?_ | refine PW.then_exit ?_ | refine PW.block_hit ?_ | refine PW.block_miss rfl ?_ | refine Cut.exit ?_ | refine Rnd.exit ?_)
    refine CW.region ?_
    refine L1 (ps_add_i64 rfl rfl (by omega) (by omega)).os ?_
    refine L1 (ps_move rfl).os ?_
    refine LW.nil ?_
    exact Meet.round (xs.length - (i + 1)) (i + 1) (by omega) ⟨hlt, rfl⟩ (by repeat (first | (with_reducible exact Ag.refl _ _) | (with_reducible apply Ag.pu0) | ((with_reducible refine Ag.pu _ ?_ ?_); · exact rfl) | ((with_reducible refine Ag.mix ?_ ?_); · exact rfl) | ((with_reducible refine Ag.pus ?_ ?_); · exact rfl))) ⟨rfl, trivial⟩ (by rw [hsx, ← List.append_assoc, hbs]; exact (by repeat (first | exact Ent.refl _ | (apply Ent.cons; · repeat (first | exact pk_head _ _ | apply pk_tail)) | apply Ent.skip)))
  · have hil : i = xs.length := by omega
    subst hil
    rw [List.take_length]
    refine CW.region ?_
    refine L1 (ps_f (ps_lss rfl rfl) (by omega)).os ?_
    refine LW.nil ?_
    repeat (first | refine CW.seq ?_ | refine PW.then_ ?_ | refine CW.block ?_ | refine CW.skip ?_ | refine CW.ret ?_ | refine PW.then_ret ?_ | refine PW.block_ret ?_ | refine Cut.ret ?_ | refine Rnd.ret ?_ | refine PW.block_normal ?_ | refine CW.exit ?_ | refine PW.then_exit ?_ | refine PW.block_hit ?_ | refine PW.block_miss rfl ?_ | refine Cut.exit ?_ | refine Rnd.exit ?_)
    refine CW.cond_false rfl ?_
    repeat (first | refine CW.seq ?_ | refine PW.then_ ?_ | refine CW.block ?_ | refine CW.skip ?_ | refine CW.ret ?_ | refine PW.then_ret ?_ | refine PW.block_ret ?_ | refine Cut.ret ?_ | refine Rnd.ret ?_ | refine PW.block_normal ?_ | refine CW.exit ?_ | refine PW.then_exit ?_ | refine PW.block_hit ?_ | refine PW.block_miss rfl ?_ | refine Cut.exit ?_ | refine Rnd.exit ?_)
    refine CW.region ?_
    refine L1 (ps_move rfl).os ?_
    refine L1 (ps_assign rfl).os ?_
    refine LW.nil ?_
    repeat (first | refine CW.seq ?_ | refine PW.then_ ?_ | refine CW.block ?_ | refine CW.skip ?_ | refine CW.ret ?_ | refine PW.then_ret ?_ | refine PW.block_ret ?_ | refine Cut.ret ?_ | refine Rnd.ret ?_ | refine PW.block_normal ?_ | refine CW.exit ?_ | refine PW.then_exit ?_ | refine PW.block_hit ?_ | refine PW.block_miss rfl ?_ | refine Cut.exit ?_ | refine Rnd.exit ?_)
    exact Fin.ret1 (v := ptr p) rfl [_, _] rfl ⟨rfl, rfl⟩ (Ent.refl _)
theorem WH1 (p : Nat) (bs : List UInt8) (h : List UInt8) (b : Nat) (hh : h.length = 32) (hb : bs.length ≤ 1000000) : FSpec Try.prog 18 [ptr p, .slice (some ⟨b, 0, none⟩) 1 1] [WrAt p bs, cb b 43 ([bv h].flatten)] (fun r As => r = ptr p ∧ As = [WrAt p (bs ++ h), cb b 43 ([bv h].flatten)]) := by
  have hr : RowsR (cb b 43 (bv h)) (.slice (some ⟨b, 0, none⟩) 1 1) 32 ([h].map bv) := RowsR.cb (by rw [List.take_of_length_le (by simp [hh])]; simp) (by simp [hh]) rfl (Nat.le_refl _) (by decide)
  have hs := WHash_spec p bs _ _ [h] hr (by simpa using hh) hb (by simp)
  rw [show [h].flatten = h by simp] at hs
  rw [show [bv h].flatten = bv h by simp]
  exact hs
theorem WRaw_spec (p : Nat) (bs : List UInt8) (A B : Asn) (v : Value) (l : List (Value × List UInt8)) (hr : RowsR A v 1 (l.map fun x => [x.1])) (hB : ∀ x ∈ l, ByR B x.1 x.2) (hm : ∀ x ∈ l, x.2.length ≤ 10000) (hb : bs.length ≤ 1000000) (hx : l.length ≤ 1000) :
    FSpec Try.prog 20 [ptr p, v] [WrAt p bs, A, B] (fun r As => r = ptr p ∧ As = [WrAt p (bs ++ (l.map (·.2)).flatten), A, B]) := by
  obtain ⟨pv, cap, rfl, hcap1, hcap2, hpv⟩ := hr.len
  rw [show (List.map (fun x : Value × List UInt8 => [x.1]) l).length = l.length from List.length_map ..] at *
  refine FSpec.intro Try.func20 rfl 24 Try.ntmps20 (Nat.le_of_ble_eq_true rfl) fun w0 F => ?_
  show CW _ _ _ _ _ _ (_ :: _ :: _ :: F)
  repeat (first | refine CW.seq ?_ | refine PW.then_ ?_ | refine CW.block ?_ | refine CW.skip ?_ | refine CW.ret ?_ | refine PW.then_ret ?_ | refine PW.block_ret ?_ | refine Cut.ret ?_ | refine Rnd.ret ?_ | refine PW.block_normal ?_ | refine CW.exit ?_ | refine PW.then_exit ?_ | refine PW.block_hit ?_ | refine PW.block_miss rfl ?_ | refine Cut.exit ?_ | refine Rnd.exit ?_)
  refine CW.region ?_
  refine L1 (ps_assign rfl).os ?_
  refine LW.nil ?_
  repeat (first | refine CW.seq ?_ | refine PW.then_ ?_ | refine CW.block ?_ | refine CW.skip ?_ | refine CW.ret ?_ | refine PW.then_ret ?_ | refine PW.block_ret ?_ | refine Cut.ret ?_ | refine Rnd.ret ?_ | refine PW.block_normal ?_ | refine CW.exit ?_ | refine PW.then_exit ?_ | refine PW.block_hit ?_ | refine PW.block_miss rfl ?_ | refine Cut.exit ?_ | refine Rnd.exit ?_)
  refine CW.region ?_
  refine L1 (ps_move rfl).os ?_
  refine L1 (ps_len_sl T.un76 rfl).os ?_
  refine L1 (ps_move rfl).os ?_
  refine LW.nil ?_
  repeat (first | refine CW.seq ?_ | refine PW.then_ ?_ | refine CW.block ?_ | refine CW.skip ?_ | refine CW.ret ?_ | refine PW.then_ret ?_ | refine PW.block_ret ?_ | refine Cut.ret ?_ | refine Rnd.ret ?_ | refine PW.block_normal ?_ | refine CW.exit ?_ | refine PW.then_exit ?_ | refine PW.block_hit ?_ | refine PW.block_miss rfl ?_ | refine Cut.exit ?_ | refine Rnd.exit ?_)
  refine CW.loopM (α := Nat) [6, 9, 10, 11, 12, 13, 14, 15, 16, 17, 18, 19, 20, 21, 22] (fun k i => i ≤ l.length ∧ k = l.length - i) (fun i => [(9, .int .i64 i)])
    (fun i => WrAt p (bs ++ ((l.take i).map (·.2)).flatten) :: A :: B :: F) l.length 0 ⟨Nat.zero_le _, rfl⟩ ⟨rfl, trivial⟩ (by simp only [List.take_zero, List.map_nil, List.flatten_nil, List.append_nil]; exact (by repeat (first | exact Ent.refl _ | (apply Ent.cons; · repeat (first | exact pk_head _ _ | apply pk_tail)) | apply Ent.skip))) ?_
  rintro k i g ⟨hi, hk⟩
  repeat (first | refine CW.seq ?_ | refine PW.then_ ?_ | refine CW.block ?_ | refine CW.skip ?_ | refine CW.ret ?_ | refine PW.then_ret ?_ | refine PW.block_ret ?_ | refine Cut.ret ?_ | refine Rnd.ret ?_ | refine PW.block_normal ?_ | refine CW.exit ?_ | refine PW.then_exit ?_ | refine PW.block_hit ?_ | refine PW.block_miss rfl ?_ | refine Cut.exit ?_ | refine Rnd.exit ?_)
  by_cases hlt : i < l.length
  · have hsx := take_flat (·.2) l i hlt
    have hxi := hm l[i] (List.getElem_mem hlt)
    have hbi := hB l[i] (List.getElem_mem hlt)
    obtain ⟨vb, vo, rfl⟩ := hpv (fun h => by have := congrArg List.length h; simp at this; subst this; exact absurd hlt (Nat.not_lt_zero _))
    have hsrc := fun As Bs (hp : List.Perm As (A :: Bs)) => hr.src (i := i) (by simpa using hlt) hp
    simp only [List.getElem_map] at hsrc
    have hle : ((l.take i).map (·.2)).flatten.length ≤ 10000000 := by
      have := hs_len ((l.take i).map (·.2)) 10000 (fun y hy => by obtain ⟨z, hz, rfl⟩ := List.mem_map.1 hy; exact hm z (List.mem_of_mem_take hz))
      rw [List.length_map, List.length_take] at this; omega
    obtain ⟨⟨vv, c⟩, hlc⟩ : ∃ x, l[i] = x := ⟨_, rfl⟩
    rw [hlc] at hsx hxi hbi hsrc
    dsimp only at hsx hxi hbi hsrc
    have hbi0 := hbi
    obtain ⟨cq, cc, rfl, hcc, -⟩ := hbi0
    generalize ((l.take i).map (·.2)).flatten = pre at hsx hle
    have hpl : (bs ++ pre).length ≤ 11000000 := by rw [List.length_append]; omega
    generalize hbs : bs ++ pre = all at hpl
    refine CW.region ?_
    refine L1 (ps_t (ps_lss rfl rfl) (by omega)).os ?_
    refine LW.nil ?_
    repeat (first | refine CW.seq ?_ | refine PW.then_ ?_ | refine CW.block ?_ | refine CW.skip ?_ | refine CW.ret ?_ | refine PW.then_ret ?_ | refine PW.block_ret ?_ | refine Cut.ret ?_ | refine Rnd.ret ?_ | refine PW.block_normal ?_ | refine CW.exit ?_ | refine PW.then_exit ?_ | refine PW.block_hit ?_ | refine PW.block_miss rfl ?_ | refine Cut.exit ?_ | refine Rnd.exit ?_)
    refine CW.cond_true rfl ?_
    repeat (first | refine CW.seq ?_ | refine PW.then_ ?_ | refine CW.block ?_ | refine CW.skip ?_ | refine CW.ret ?_ | refine PW.then_ret ?_ | refine PW.block_ret ?_ | refine Cut.ret ?_ | refine Rnd.ret ?_ | refine PW.block_normal ?_ | refine CW.exit ?_ | refine PW.then_exit ?_ | refine PW.block_hit ?_ | refine PW.block_miss rfl ?_ | refine Cut.exit ?_ | refine Rnd.exit ?_)
    refine CW.region ?_
    refine L1 (ps_ia_slice T.un76 T.sz32 rfl rfl (by omega) (by omega)).os ?_
    refine L1 (os_loadS1 (v := .slice cq c.length cc) (hsrc _ _ (by repeat (first | exact pk_head _ _ | apply pk_tail))) T.ag32 rfl) ?_
    refine L1 (ps_assign rfl).os ?_
    refine LW.nil ?_
    repeat (first | refine CW.seq ?_ | refine PW.then_ ?_ | refine CW.block ?_ | refine CW.skip ?_ | refine CW.ret ?_ | refine PW.then_ret ?_ | refine PW.block_ret ?_ | refine Cut.ret ?_ | refine Rnd.ret ?_ | refine PW.block_normal ?_ | refine CW.exit ?_ | refine PW.then_exit ?_ | refine PW.block_hit ?_ | refine PW.block_miss rfl ?_ | refine Cut.exit ?_ | refine Rnd.exit ?_)
    refine J.open_ (A := WrAt p all) (by repeat (first | exact pk_head _ _ | apply pk_tail)) WrAt.op ?_
    rintro _ ⟨q, d, rfl⟩
    show CW _ _ _ _ _ _ (_ :: _ :: A :: B :: F)
    refine CW.region ?_
    refine L1 (ps_move rfl).os ?_
    refine L1 (ps_move rfl).os ?_
    refine L1 (ps_nil rfl).os ?_
    refine L1 (ps_fa T.fa45_0 (by decide) rfl).os ?_
    refine L1 (os_load1 (by repeat (first | exact pk_head _ _ | apply pk_tail)) T.ag32 rfl (by rfl)) ?_
    refine L1 (ps_move rfl).os ?_
    refine LE (os_append (xs := bv all) (news := bv c) (by repeat (first | exact pk_head _ _ | apply pk_tail)) T.un32 T.ti5 (by rfl) (by decide) rfl rfl (by simp) (hbi.src (by repeat (first | exact pk_head _ _ | apply pk_tail))) (bv_one _) (by unfold maxLen; omega) (by omega)) ?_
    rintro _ _ ⟨q', d', rfl, rfl, hq'⟩
    refine L1 (ps_nil rfl).os ?_
    refine L1 (ps_fa T.fa45_0 (by decide) rfl).os ?_
    refine L1 (os_store1 (by repeat (first | exact pk_head _ _ | apply pk_tail)) T.sz32 rfl rfl (by rfl) (Nat.le_of_ble_eq_true rfl)) ?_
    refine LW.nil ?_
    repeat (first | refine CW.seq ?_ | refine PW.then_ ?_ | refine CW.block ?_ | refine CW.skip ?_ | refine CW.ret ?_ | refine PW.then_ret ?_ | refine PW.block_ret ?_ | refine Cut.ret ?_ | refine Rnd.ret ?_ | refine PW.block_normal ?_ | refine CW.exit ?_ | refine PW.then_exit ?_ | refine PW.block_hit ?_ | refine PW.block_miss rfl ?_ | refine Cut.exit ?_ | refine Rnd.exit ?_)
    refine CW.region ?_
    refine L1 (ps_add_i64 rfl rfl (by omega) (by omega)).os ?_
    refine L1 (ps_move rfl).os ?_
    refine LW.nil ?_
    exact Meet.round (l.length - (i + 1)) (i + 1) (by omega) ⟨hlt, rfl⟩ (by repeat (first | (with_reducible exact Ag.refl _ _) | (with_reducible apply Ag.pu0) | ((with_reducible refine Ag.pu _ ?_ ?_); · exact rfl) | ((with_reducible refine Ag.mix ?_ ?_); · exact rfl) | ((with_reducible refine Ag.pus ?_ ?_); · exact rfl))) ⟨rfl, trivial⟩ (by rw [hsx, ← List.append_assoc, hbs]; exact Ent.trans (Bs := cb p 45 [.slice q' (all.length + c.length) d'] :: slOwn 5 1 (.slice q' (all.length + c.length) d') (all.length + c.length) (bv all ++ bv c) :: A :: B :: F) (by repeat (first | exact Ent.refl _ | (apply Ent.cons; · repeat (first | exact pk_head _ _ | apply pk_tail)) | apply Ent.skip)) (WrAt.foldL q' d' _ (by simp) _ (bv_append _ _).symm))
  · have hil : i = l.length := by omega
    subst hil
    rw [List.take_length]
    refine CW.region ?_
    refine L1 (ps_f (ps_lss rfl rfl) (by omega)).os ?_
    refine LW.nil ?_
    repeat (first | refine CW.seq ?_ | refine PW.then_ ?_ | refine CW.block ?_ | refine CW.skip ?_ | refine CW.ret ?_ | refine PW.then_ret ?_ | refine PW.block_ret ?_ | refine Cut.ret ?_ | refine Rnd.ret ?_ | refine PW.block_normal ?_ | refine CW.exit ?_ | refine PW.then_exit ?_ | refine PW.block_hit ?_ | refine PW.block_miss rfl ?_ | refine Cut.exit ?_ | refine Rnd.exit ?_)
    refine CW.cond_false rfl ?_
    repeat (first | refine CW.seq ?_ | refine PW.then_ ?_ | refine CW.block ?_ | refine CW.skip ?_ | refine CW.ret ?_ | refine PW.then_ret ?_ | refine PW.block_ret ?_ | refine Cut.ret ?_ | refine Rnd.ret ?_ | refine PW.block_normal ?_ | refine CW.exit ?_ | refine PW.then_exit ?_ | refine PW.block_hit ?_ | refine PW.block_miss rfl ?_ | refine Cut.exit ?_ | refine Rnd.exit ?_)
    refine CW.region ?_
    refine L1 (ps_move rfl).os ?_
    refine L1 (ps_assign rfl).os ?_
    refine LW.nil ?_
    repeat (first | refine CW.seq ?_ | refine PW.then_ ?_ | refine CW.block ?_ | refine CW.skip ?_ | refine CW.ret ?_ | refine PW.then_ret ?_ | refine PW.block_ret ?_ | refine Cut.ret ?_ | refine Rnd.ret ?_ | refine PW.block_normal ?_ | refine CW.exit ?_ | refine PW.then_exit ?_ | refine PW.block_hit ?_ | refine PW.block_miss rfl ?_ | refine Cut.exit ?_ | refine Rnd.exit ?_)
    exact Fin.ret1 (v := ptr p) rfl [_, _, _] rfl ⟨rfl, rfl⟩ (Ent.refl _)
theorem RHash_spec (A : Asn) (p : Nat) (bs : List UInt8) (bad : Bool) (hm : bs.length ≤ maxLen) :
    FSpec Try.prog 24 [ptr p] [RdAt A p bs bad, A] (fun r As => r = .agg (bv (rdT 32 bs bad).1).toArray ∧ As = [RdAt A p (rdT 32 bs bad).2.1 (rdT 32 bs bad).2.2, A]) := by
  refine FSpec.intro Try.func24 rfl 7 Try.ntmps24 (Nat.le_of_ble_eq_true rfl) fun w0 F => ?_
  show CW _ _ _ _ _ _ (_ :: _ :: F)
  repeat (first | refine CW.seq ?_ | refine PW.then_ ?_ | refine CW.block ?_ | refine CW.skip ?_ | refine CW.ret ?_ | refine PW.then_ret ?_ | refine PW.block_ret ?_ | refine Cut.ret ?_ | refine Rnd.ret ?_ | refine PW.block_normal ?_ | refine CW.exit ?_ | refine PW.then_exit ?_ | refine PW.block_hit ?_ | refine PW.block_miss rfl ?_ | refine Cut.exit ?_ | refine Rnd.exit ?_)
  refine CW.region ?_
  refine LE (os_alloc T.ti43) ?_
  rintro _ _ ⟨b2, rfl, rfl⟩
  refine LW.nil ?_
  repeat (first | refine CW.seq ?_ | refine PW.then_ ?_ | refine CW.block ?_ | refine CW.skip ?_ | refine CW.ret ?_ | refine PW.then_ret ?_ | refine PW.block_ret ?_ | refine Cut.ret ?_ | refine Rnd.ret ?_ | refine PW.block_normal ?_ | refine CW.exit ?_ | refine PW.then_exit ?_ | refine PW.block_hit ?_ | refine PW.block_miss rfl ?_ | refine Cut.exit ?_ | refine Rnd.exit ?_)
  by_cases h : bad = true ∨ bs.length < 32
  · have e : rdT 32 bs bad = (List.replicate 32 0, bs, true) := by unfold rdT; rw [if_pos h]
    rw [e]
    refine CW.region ?_
    refine L1 (ps_move rfl).os ?_
    refine LE (os_call (take_bad A p bs bad 32 hm (by omega) h) Try.func37 (by decide +kernel) rfl rfl (pk2 (by repeat (first | exact pk_head _ _ | apply pk_tail)) (by repeat (first | exact pk_head _ _ | apply pk_tail)))) ?_
    rintro _ _ ⟨_, ⟨b, rfl, rfl⟩, rfl⟩
    refine L1 (ps_s2a T.un43 rfl (by decide)).os ?_
    refine L1 (os_loadAll (b := b) (cs := bv (List.replicate 32 0)) (by repeat (first | exact pk_head _ _ | apply pk_tail)) T.ag43 (by exact T.sz43) rfl) ?_
    refine L1 (os_storeAll (b := b2) (vs := bv (List.replicate 32 0)) (by repeat (first | exact pk_head _ _ | apply pk_tail)) (by exact T.sz43) rfl rfl (bv_one _) (by rfl)) ?_
    refine LW.nil ?_
    repeat (first | refine CW.seq ?_ | refine PW.then_ ?_ | refine CW.block ?_ | refine CW.skip ?_ | refine CW.ret ?_ | refine PW.then_ret ?_ | refine PW.block_ret ?_ | refine Cut.ret ?_ | refine Rnd.ret ?_ | refine PW.block_normal ?_ | refine CW.exit ?_ | refine PW.then_exit ?_ | refine PW.block_hit ?_ | refine PW.block_miss rfl ?_ | refine Cut.exit ?_ | refine Rnd.exit ?_)
    exact Fin.retCell (b := b2) (cs := bv (List.replicate 32 0)) rfl (by repeat (first | exact pk_head _ _ | apply pk_tail)) T.ag43 (by exact T.sz43) rfl [_, _] ⟨rfl, rfl⟩ (by repeat (first | exact Ent.refl _ | (apply Ent.cons; · repeat (first | exact pk_head _ _ | apply pk_tail)) | apply Ent.skip))
  · have h' : bad = false ∧ 32 ≤ bs.length := by cases bad <;> simp at h ⊢ <;> omega
    obtain ⟨rfl, hle⟩ := h'
    have e : rdT 32 bs false = (bs.take 32, bs.drop 32, false) := by unfold rdT; rw [if_neg h]
    rw [e]
    have hvl : (bv (bs.take 32)).length = 32 := by rw [length_bv, List.length_take]; omega
    have hvn : bv (bs.take 32) ≠ [] := fun h0 => by rw [h0] at hvl; simp at hvl
    refine CW.region ?_
    refine L1 (ps_move rfl).os ?_
    refine LE (os_call (take_ok A p bs 32 hm (by decide) hle) Try.func37 (by decide +kernel) rfl rfl (pk2 (by repeat (first | exact pk_head _ _ | apply pk_tail)) (by repeat (first | exact pk_head _ _ | apply pk_tail)))) ?_
    rintro _ _ ⟨_, ⟨⟨q, c, rfl, hq⟩, rfl⟩, rfl⟩
    refine hq.form (by repeat (first | exact pk_head _ _ | apply pk_tail)) (fun h0 => hvn (by rw [h0]; rfl)) fun vb vo hq2 => ?_
    subst hq2
    refine L1 (ps_s2a T.un43 rfl (Nat.le_refl _)).os ?_
    refine L1 (os_loadS (vs := bv (bs.take 32)) (hq.src (by repeat (first | exact pk_head _ _ | apply pk_tail))) hvn T.ag43 (by rw [hvl]; exact T.sz43) rfl) ?_
    refine L1 (os_storeAll (b := b2) (vs := bv (bs.take 32)) (by repeat (first | exact pk_head _ _ | apply pk_tail)) (by rw [hvl]; exact T.sz43) rfl rfl (bv_one _) (by rw [hvl]; rfl)) ?_
    refine LW.nil ?_
    repeat (first | refine CW.seq ?_ | refine PW.then_ ?_ | refine CW.block ?_ | refine CW.skip ?_ | refine CW.ret ?_ | refine PW.then_ret ?_ | refine PW.block_ret ?_ | refine Cut.ret ?_ | refine Rnd.ret ?_ | refine PW.block_normal ?_ | refine CW.exit ?_ | refine PW.then_exit ?_ | refine PW.block_hit ?_ | refine PW.block_miss rfl ?_ | refine Cut.exit ?_ | refine Rnd.exit ?_)
    exact Fin.retCell (b := b2) (cs := bv (bs.take 32)) rfl (by repeat (first | exact pk_head _ _ | apply pk_tail)) T.ag43 (by rw [hvl]; exact T.sz43) rfl [_, _] ⟨rfl, rfl⟩ (by repeat (first | exact Ent.refl _ | (apply Ent.cons; · repeat (first | exact pk_head _ _ | apply pk_tail)) | apply Ent.skip))
end Go.Proofs.Ytpcjjchanjdkaaa
