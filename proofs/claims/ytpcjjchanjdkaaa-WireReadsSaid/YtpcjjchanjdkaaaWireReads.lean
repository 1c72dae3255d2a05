/- The law WireReads: numbers are read as they were written, and where there are too few bytes zeros are, from then on: it answers true for all numbers, every hash and every cut (no condition). -/
import Derived.Test.YtpcjjchanjdkaaaWireH
import Derived.Test.YtpcjjchanjdkaaaReqQ
import Derived.Test.YtpcjjchanjdkaaaRows
namespace Go.Proofs.Ytpcjjchanjdkaaa
open Go Go.SL
set_option linter.unusedVariables false
set_option linter.unusedSimpArgs false

section
variable {H : Type} {enc : TypeId × Value → H} {W : World} {base : Nat} {held : Bool} {fuel : Nat}
theorem open_hash {cs : List Value} {x : DataW H × List MemPlace} (h : DataW.trod enc Try.prog W base (fun _ => true) held fuel 43 cs = some x) : ∃ r : List UInt8, cs = bv r ∧ r.length = 32 := by
  obtain ⟨xs, m, _, _, hl, hx, hi⟩ := DataW.trod_array T.un43 h
  rw [show Try.prog.cellsOf 43 = 32 from T.co43] at hl
  have key : ∀ i (hi' : i < cs.length), ∃ b : UInt8, cs[i] = .int .u8 (b.toNat : Int) := fun i hi' => by
    have h1 := hi i (by omega)
    rw [show Try.prog.cellsOf 5 = 1 from T.co5] at h1
    rw [List.getElem?_eq_getElem (by omega)] at h1
    obtain ⟨n, e, _, hw⟩ := DataW.trod_int T.un5 h1
    have hb := bounds_u8 hw
    have e2 : (cs.drop (i * 1)).take 1 = [cs[i]] := by
      rw [Nat.mul_one, List.drop_eq_getElem_cons hi']; rfl
    rw [e2] at e
    simp only [List.cons.injEq, and_true] at e
    refine ⟨UInt8.ofNat n.toNat, ?_⟩
    rw [e]
    congr 1
    rw [UInt8.toNat_ofNat']
    omega
  refine ⟨cs.map fun v => match v with | .int _ n => UInt8.ofNat n.toNat | _ => 0, ?_, by rw [List.length_map, hl]⟩
  refine List.ext_getElem (by simp) fun i h1 h2 => ?_
  obtain ⟨b, hb⟩ := key i h1
  simp [bv, hb]
theorem open_Slint {v : Value} {x : DataW H × List MemPlace} (h : DataW.trod enc Try.prog W base (fun _ => true) held fuel 41 [v] = some x) : ∃ l : List Int, RowsR (bag (blks W)) v 1 (l.map ic) := by
  obtain ⟨rows, hr, hq⟩ := open_rows (by decide) T.un41 T.co3 h
  obtain ⟨l, hl, _⟩ := rows_of ic (fun _ => True) hr fun r hrm => by
    obtain ⟨m, y, hy⟩ := hq r hrm
    obtain ⟨n, e⟩ := open_i64 hy
    exact ⟨n, e, trivial⟩
  exact ⟨l, hl⟩
end
open Classical in
theorem ps_agg_same {P : Program} {ty : TypeId} {n : FN} {f : Nat → Value} {x y : Operand} {t yt : TypeId} {ks : List IntKind} {xs : List Value} (h : EQ P t ks) (hx : ev n f x = .agg xs.toArray) (hy : ev n f y = .agg xs.toArray) (kx : KV ks xs) : PS P (.binOp .eql t x y yt) ty n f (.bool true) := ps_t (ps_agg_eql h hx hy kx kx) rfl
/-! ## what is laid -/
def kk (i : Nat) : Nat := 1 + i % 6
def gB (ys : List Int) (j : Nat) : List UInt8 := be (kk j) (ys.getD j 0)
def upB (ys : List Int) (i : Nat) : List UInt8 := ((List.range i).map (gB ys)).flatten
def downB (ys : List Int) (i m : Nat) : List UInt8 := ((List.range' i m).map (gB ys)).flatten
theorem upB_succ (ys : List Int) (i : Nat) : upB ys (i + 1) = upB ys i ++ gB ys i := by
  unfold upB; rw [List.range_succ, List.map_append, List.flatten_append]; simp
theorem downB_succ (ys : List Int) (i m : Nat) : downB ys i (m + 1) = gB ys i ++ downB ys (i + 1) m := by
  unfold downB; rw [List.range'_succ, List.map_cons, List.flatten_cons]
theorem upB_down (ys : List Int) (n : Nat) : upB ys n = downB ys 0 n := by unfold upB downB; rw [List.range_eq_range']
theorem gB_len (ys : List Int) (j : Nat) : (gB ys j).length ≤ 6 := by unfold gB kk; simp; omega
theorem upB_len (ys : List Int) (i : Nat) : (upB ys i).length ≤ 6 * i := by
  induction i with
  | zero => simp [upB]
  | succ i ih => rw [upB_succ, List.length_append]; have := gB_len ys i; omega
theorem downB_len (ys : List Int) : ∀ (m i : Nat), (downB ys i m).length ≤ 6 * m
  | 0, i => by simp [downB]
  | m + 1, i => by rw [downB_succ, List.length_append]; have := gB_len ys i; have := downB_len ys m (i + 1); omega
theorem WR1 (p : Nat) (bs : List UInt8) (b c : Nat) (hb : bs.length ≤ 1000000) : FSpec Try.prog 20 [ptr p, .slice (some ⟨b, 0, none⟩) 2 2] [WrAt p bs, cb b 32 [.slice none 0 0, .slice (some ⟨c, 0, none⟩) 1 1], cb c 5 (bv [9])]
    (fun r As => r = ptr p ∧ As = [WrAt p (bs ++ [9]), cb b 32 [.slice none 0 0, .slice (some ⟨c, 0, none⟩) 1 1], cb c 5 (bv [9])]) := by
  have h := WRaw_spec p bs (cb b 32 [.slice none 0 0, .slice (some ⟨c, 0, none⟩) 1 1]) (cb c 5 (bv [9])) (.slice (some ⟨b, 0, none⟩) 2 2) [(.slice none 0 0, []), (.slice (some ⟨c, 0, none⟩) 1 1, [9])]
    (RowsR.cb rfl (by simp) rfl (Nat.le_refl _) (by decide)) (fun x hx => by
      rcases List.mem_cons.1 hx with rfl | hx
      · exact ByR.nil' _
      · obtain rfl := List.mem_singleton.1 hx
        exact ByR.cb rfl rfl (Nat.le_refl _)) (by simp) hb (by simp)
  exact h
theorem RInt_at (A : Asn) (p : Nat) (ys : List Int) (i m : Nat) (y : Int) (rest : List UInt8) (hy : ys.getD i 0 = y) (h0 : 0 ≤ y) (h1 : y < 256 ^ kk i) (hm : (downB ys (i + 1) m ++ rest).length ≤ 1000000) :
    FSpec Try.prog 23 [ptr p, .int .i64 (kk i)] [RdAt A p (downB ys i (m + 1) ++ rest) false, A] (fun r As => r = .int .i64 y ∧ As = [RdAt A p (downB ys (i + 1) m ++ rest) false, A]) := by
  rw [downB_succ, List.append_assoc]
  unfold gB
  rw [hy]
  have h := RInt_spec A p (be (kk i) y ++ (downB ys (i + 1) m ++ rest)) false (kk i) (by simp [kk] at hm ⊢; unfold maxLen; omega) (by unfold kk; omega) (by unfold kk; omega)
  obtain ⟨n, e, f⟩ := rdn_be (kk i) y (downB ys (i + 1) m ++ rest) h0 h1
  unfold rdn at e
  dsimp only at e
  obtain ⟨e1, e2⟩ := Prod.mk.inj e
  rw [show rdInt (kk i) (be (kk i) y ++ (downB ys (i + 1) m ++ rest)) false = n from e1, e2, f] at h
  exact h
theorem ints_flat : ∀ ys : List Int, ys.map (Value.int .i64) = (ys.map ic).flatten
  | [] => rfl
  | a :: l => by simp only [List.map_cons, List.flatten_cons]; rw [← ints_flat l]; rfl
/-! ## what is read of too few -/
def rds (l : List UInt8) : Nat → List UInt8 × Bool
  | 0 => (l, false)
  | i + 1 => (rdT 1 (rds l i).1 (rds l i).2).2
theorem rds_le (l : List UInt8) : ∀ i, i ≤ l.length → rds l i = (l.drop i, false)
  | 0, _ => rfl
  | i + 1, h => by
    have ih := rds_le l i (by omega)
    rw [rds, ih]
    unfold rdT
    rw [if_neg (by rw [List.length_drop]; intro h; rcases h with h | h; cases h; omega)]
    simp [List.drop_drop, Nat.add_comm]
theorem rds_gt (l : List UInt8) : ∀ i, l.length < i → rds l i = ([], true)
  | 0, h => by omega
  | i + 1, h => by
    rw [rds]
    by_cases hi : l.length < i
    · rw [rds_gt l i hi]; rfl
    · have : i = l.length := by omega
      subst this
      rw [rds_le l _ (Nat.le_refl _), List.drop_length]
      rfl
theorem rds_len (l : List UInt8) : ∀ i, (rds l i).1.length ≤ l.length
  | 0 => Nat.le_refl _
  | i + 1 => Nat.le_trans (rdT_le 1 (rds l i).1 (rds l i).2) (rds_len l i)
theorem rdT_bad (n : Nat) (bs : List UInt8) : rdT n bs true = (List.replicate n 0, bs, true) := by unfold rdT; rw [if_pos (.inl rfl)]
theorem RNum_bad (Z : Asn) (ps : Nat) : FSpec Try.prog 25 [ptr ps] [RdAt Z ps [] true, Z] (fun r As => r = .agg (nc 0).toArray ∧ As = [RdAt Z ps [] true, Z]) := by
  have h := RNum_spec Z ps [] true (Nat.zero_le _)
  have e : rdNum [] true = 0 := by unfold rdNum; rw [rdT_bad]; exact num_zeros 16
  rw [e, rdT_bad] at h
  exact h
theorem RHash_bad (Z : Asn) (ps : Nat) : FSpec Try.prog 24 [ptr ps] [RdAt Z ps [] true, Z] (fun r As => r = .agg (bv (List.replicate 32 0)).toArray ∧ As = [RdAt Z ps [] true, Z]) := by
  have h := RHash_spec Z ps [] true (Nat.zero_le _)
  rw [rdT_bad] at h
  exact h
set_option maxHeartbeats 4000000 in
theorem WireReads_law (W : World) (v0 : Value) (xs : List Int) (hr : RowsR (bag (blks W)) v0 1 (xs.map ic)) (cs1 : List Value) (h : List UInt8) (e1 : cs1 = bv h) (hh : h.length = 32) (cut : Int) (hcut : -9223372036854775808 ≤ cut ∧ cut < 9223372036854775808) :
    LawOf Try.prog 7 [v0, .agg cs1.toArray, .int .i64 cut] W := by
  subst e1
  obtain ⟨hc1, hc2⟩ := hcut
  obtain ⟨pv, cap, rfl, hcap1, hcap2, hpv⟩ := hr.len
  rw [show (List.map ic xs).length = xs.length from List.length_map ..] at *
  have hcm := hcap2
  unfold maxLen at hcm
  have hvl : (bv h).length = 32 := by rw [length_bv, hh]
  have hszh : SZ Try.prog 43 (bv h).length := by rw [hvl]; exact T.sz43
  have hkh := KV.bv h
  rw [hh] at hkh
  refine FSpec.intro Try.func7 rfl 156 Try.ntmps7 (Nat.le_of_ble_eq_true rfl) fun w0 F => ?_
  show CW _ _ _ _ _ _ (_ :: F)
  repeat (first | refine CW.seq ?_ | refine PW.then_ ?_ | refine CW.block ?_ | refine CW.skip ?_ | refine CW.ret ?_ | refine PW.then_ret ?_ | refine PW.block_ret ?_ | refine Cut.ret ?_ | refine Rnd.ret ?_ | refine PW.block_normal ?_ | refine CW.exit ?_ | refine PW.then_exit ?_ | refine PW.block_hit ?_ | refine PW.block_miss rfl ?_ | refine Cut.exit ?_ | refine Rnd.exit ?_)
  refine CW.region ?_
  refine LE (os_box rfl (by rfl)) ?_
  rintro _ _ ⟨b4, rfl, rfl⟩
  refine L1 (ps_assign rfl).os ?_
  refine LW.nil ?_
  repeat (first | refine CW.seq ?_ | refine PW.then_ ?_ | refine CW.block ?_ | refine CW.skip ?_ | refine CW.ret ?_ | refine PW.then_ret ?_ | refine PW.block_ret ?_ | refine Cut.ret ?_ | refine Rnd.ret ?_ | refine PW.block_normal ?_ | refine CW.exit ?_ | refine PW.then_exit ?_ | refine PW.block_hit ?_ | refine PW.block_miss rfl ?_ | refine Cut.exit ?_ | refine Rnd.exit ?_)
  refine CW.region ?_
  refine L1 (os_call0 fit_spec Try.func11 (by decide +kernel) rfl rfl) ?_
  refine L1 (ps_not rfl).os ?_
  refine LW.nil ?_
  repeat (first | refine CW.seq ?_ | refine PW.then_ ?_ | refine CW.block ?_ | refine CW.skip ?_ | refine CW.ret ?_ | refine PW.then_ret ?_ | refine PW.block_ret ?_ | refine Cut.ret ?_ | refine Rnd.ret ?_ | refine PW.block_normal ?_ | refine CW.exit ?_ | refine PW.then_exit ?_ | refine PW.block_hit ?_ | refine PW.block_miss rfl ?_ | refine Cut.exit ?_ | refine Rnd.exit ?_)
  refine CW.cond_false rfl ?_
  repeat (first | refine CW.seq ?_ | refine PW.then_ ?_ | refine CW.block ?_ | refine CW.skip ?_ | refine CW.ret ?_ | refine PW.then_ret ?_ | refine PW.block_ret ?_ | refine Cut.ret ?_ | refine Rnd.ret ?_ | refine PW.block_normal ?_ | refine CW.exit ?_ | refine PW.then_exit ?_ | refine PW.block_hit ?_ | refine PW.block_miss rfl ?_ | refine Cut.exit ?_ | refine Rnd.exit ?_)
  by_cases hlen : (30 : Int) < xs.length
  · refine CW.region ?_
    refine L1 (ps_move rfl).os ?_
    refine L1 (ps_len_sl T.un41 rfl).os ?_
    refine L1 (ps_t (ps_gtr rfl rfl) (hlen)).os ?_
    refine LW.nil ?_
    repeat (first | refine CW.seq ?_ | refine PW.then_ ?_ | refine CW.block ?_ | refine CW.skip ?_ | refine CW.ret ?_ | refine PW.then_ret ?_ | refine PW.block_ret ?_ | refine Cut.ret ?_ | refine Rnd.ret ?_ | refine PW.block_normal ?_ | refine CW.exit ?_ | refine PW.then_exit ?_ | refine PW.block_hit ?_ | refine PW.block_miss rfl ?_ | refine Cut.exit ?_ | refine Rnd.exit ?_)
    refine CW.cond_true rfl ?_
    repeat (first | refine CW.seq ?_ | refine PW.then_ ?_ | refine CW.block ?_ | refine CW.skip ?_ | refine CW.ret ?_ | refine PW.then_ret ?_ | refine PW.block_ret ?_ | refine Cut.ret ?_ | refine Rnd.ret ?_ | refine PW.block_normal ?_ | refine CW.exit ?_ | refine PW.then_exit ?_ | refine PW.block_hit ?_ | refine PW.block_miss rfl ?_ | refine Cut.exit ?_ | refine Rnd.exit ?_)
    refine CW.region ?_
    refine L1 (ps_assign rfl).os ?_
    refine LW.nil ?_
    repeat (first | refine CW.seq ?_ | refine PW.then_ ?_ | refine CW.block ?_ | refine CW.skip ?_ | refine CW.ret ?_ | refine PW.then_ret ?_ | refine PW.block_ret ?_ | refine Cut.ret ?_ | refine Rnd.ret ?_ | refine PW.block_normal ?_ | refine CW.exit ?_ | refine PW.then_exit ?_ | refine PW.block_hit ?_ | refine PW.block_miss rfl ?_ | refine Cut.exit ?_ | refine Rnd.exit ?_)
    exact Fin.ret1 (v := .bool true) rfl [bag (blks W)] rfl ⟨rfl, rfl⟩ (by repeat (first | exact Ent.refl _ | (apply Ent.cons; · repeat (first | exact pk_head _ _ | apply pk_tail)) | apply Ent.skip))
  refine CW.region ?_
  refine L1 (ps_move rfl).os ?_
  refine L1 (ps_len_sl T.un41 rfl).os ?_
  refine L1 (ps_f (ps_gtr rfl rfl) (hlen)).os ?_
  refine LW.nil ?_
  repeat (first | refine CW.seq ?_ | refine PW.then_ ?_ | refine CW.block ?_ | refine CW.skip ?_ | refine CW.ret ?_ | refine PW.then_ret ?_ | refine PW.block_ret ?_ | refine Cut.ret ?_ | refine Rnd.ret ?_ | refine PW.block_normal ?_ | refine CW.exit ?_ | refine PW.then_exit ?_ | refine PW.block_hit ?_ | refine PW.block_miss rfl ?_ | refine Cut.exit ?_ | refine Rnd.exit ?_)
  refine CW.cond_false rfl ?_
  repeat (first | refine CW.seq ?_ | refine PW.then_ ?_ | refine CW.block ?_ | refine CW.skip ?_ | refine CW.ret ?_ | refine PW.then_ret ?_ | refine PW.block_ret ?_ | refine Cut.ret ?_ | refine Rnd.ret ?_ | refine PW.block_normal ?_ | refine CW.exit ?_ | refine PW.then_exit ?_ | refine PW.block_hit ?_ | refine PW.block_miss rfl ?_ | refine Cut.exit ?_ | refine Rnd.exit ?_)
  obtain ⟨hi, hhi, hhl⟩ : ∃ hi : Nat, IntKind.u64.wrap cut = hi ∧ hi < 18446744073709551616 := ⟨(cut % 18446744073709551616).toNat, by rw [wrap_u64]; omega, by omega⟩
  have hlo : IntKind.u64.wrap (xs.length : Int) = xs.length := wrap_u64_id (by omega) (by omega)
  obtain ⟨v, hv⟩ : ∃ v, hi * 18446744073709551616 + xs.length = v := ⟨_, rfl⟩
  have hnv : [Value.int .u64 (hi : Int), .int .u64 (xs.length : Int)] = nc v := by rw [← hv, nc_of _ _ (by omega)]
  have hvM : v < M128 := by rw [← hv]; unfold M128; omega
  have hn30 : xs.length ≤ 30 := by omega
  refine CW.region ?_
  refine L1 (ps_move rfl).os ?_
  refine L1 (ps_to (u := .int .u64 (hi : Int)) (congrArg _ hhi) (ps_conv (by kernel_rfl) T.un24 rfl)).os ?_
  refine L1 (ps_move rfl).os ?_
  refine L1 (ps_len_sl T.un41 rfl).os ?_
  refine L1 (ps_to (u := .int .u64 (xs.length : Int)) (congrArg _ hlo) (ps_conv (by kernel_rfl) T.un24 rfl)).os ?_
  refine L1 (ps_to (u := .agg (nc v).toArray) (congrArg (fun l : List Value => Value.agg l.toArray) hnv) (ps_build (cells := [.int .u64 (hi : Int), .int .u64 (xs.length : Int)]) (by rfl) (by kernel_rfl))).os ?_
  refine LE (os_alloc T.ti26) ?_
  rintro _ _ ⟨b7, rfl, rfl⟩
  refine L1 (os_storeAll (b := b7) (vs := nc v) (by repeat (first | exact pk_head _ _ | apply pk_tail)) (by exact T.sz26) rfl rfl (nc_one _) (by rfl)) ?_
  refine LW.nil ?_
  clear hhi hlo hnv hv
  obtain ⟨ys, hys, hyl, hyr⟩ : ∃ ys : List Int, (∀ i (hi : i < xs.length), xs[i] % ((2 ^ (8 * kk i) : Nat) : Int) = ys.getD i 0) ∧ ys.length = xs.length ∧ ∀ i, i < xs.length → 0 ≤ ys.getD i 0 ∧ ys.getD i 0 < 256 ^ kk i := by
    refine ⟨(List.range xs.length).map fun i => xs.getD i 0 % ((2 ^ (8 * kk i) : Nat) : Int), fun i hi => ?_, by simp, fun i hi => ?_⟩
    · rw [List.getD_eq_getElem?_getD, List.getElem?_map, List.getElem?_range hi]
      simp [List.getD_eq_getElem?_getD, List.getElem?_eq_getElem hi]
    · rw [List.getD_eq_getElem?_getD, List.getElem?_map, List.getElem?_range hi]
      have hp : (0 : Int) < ((2 ^ (8 * kk i) : Nat) : Int) := Int.ofNat_lt.2 (Nat.two_pow_pos _)
      have e : (256 : Int) ^ kk i = ((2 ^ (8 * kk i) : Nat) : Int) := by rw [Nat.pow_mul]; exact (Int.natCast_pow (2 ^ 8) (kk i)).symm
      rw [e]
      exact ⟨Int.emod_nonneg _ (by omega), Int.emod_lt_of_pos _ hp⟩
  repeat (first | refine CW.seq ?_ | refine PW.then_ ?_ | refine CW.block ?_ | refine CW.skip ?_ | refine CW.ret ?_ | refine PW.then_ret ?_ | refine PW.block_ret ?_ | refine Cut.ret ?_ | refine Rnd.ret ?_ | refine PW.block_normal ?_ | refine CW.exit ?_ | refine PW.then_exit ?_ | refine PW.block_hit ?_ | refine PW.block_miss rfl ?_ | refine Cut.exit ?_ | refine Rnd.exit ?_)
  refine CW.region ?_
  refine LE (os_alloc T.ti45) ?_
  rintro _ _ ⟨b8, rfl, rfl⟩
  refine LW.nil ?_
  refine J.ent (WrAt.fresh b8 _) ?_
  repeat (first | refine CW.seq ?_ | refine PW.then_ ?_ | refine CW.block ?_ | refine CW.skip ?_ | refine CW.ret ?_ | refine PW.then_ret ?_ | refine PW.block_ret ?_ | refine Cut.ret ?_ | refine Rnd.ret ?_ | refine PW.block_normal ?_ | refine CW.exit ?_ | refine PW.then_exit ?_ | refine PW.block_hit ?_ | refine PW.block_miss rfl ?_ | refine Cut.exit ?_ | refine Rnd.exit ?_)
  refine CW.region ?_
  refine L1 (ps_assign rfl).os ?_
  refine LW.nil ?_
  repeat (first | refine CW.seq ?_ | refine PW.then_ ?_ | refine CW.block ?_ | refine CW.skip ?_ | refine CW.ret ?_ | refine PW.then_ret ?_ | refine PW.block_ret ?_ | refine Cut.ret ?_ | refine Rnd.ret ?_ | refine PW.block_normal ?_ | refine CW.exit ?_ | refine PW.then_exit ?_ | refine PW.block_hit ?_ | refine PW.block_miss rfl ?_ | refine Cut.exit ?_ | refine Rnd.exit ?_)
  refine CW.region ?_
  refine L1 (ps_move rfl).os ?_
  refine L1 (ps_len_sl T.un41 rfl).os ?_
  refine L1 (ps_move rfl).os ?_
  refine LW.nil ?_
  repeat (first | refine CW.seq ?_ | refine PW.then_ ?_ | refine CW.block ?_ | refine CW.skip ?_ | refine CW.ret ?_ | refine PW.then_ret ?_ | refine PW.block_ret ?_ | refine Cut.ret ?_ | refine Rnd.ret ?_ | refine PW.block_normal ?_ | refine CW.exit ?_ | refine PW.then_exit ?_ | refine PW.block_hit ?_ | refine PW.block_miss rfl ?_ | refine Cut.exit ?_ | refine Rnd.exit ?_)
  refine J.ent (Ent.slNil 3 1 _) ?_
  refine CW.loopM (α := Nat × Option Addr × Nat) [9, 10, 11, 12, 31, 32, 33, 34, 35, 36, 37, 38, 39, 40, 41, 42, 43, 44, 45, 46, 47, 48, 49, 50, 51, 52, 53] (fun k a => a.1 ≤ xs.length ∧ k = xs.length - a.1) (fun a => [(31, .int .i64 a.1), (9, .slice a.2.1 a.1 a.2.2)])
    (fun a => slOwn 3 1 (.slice a.2.1 a.1 a.2.2) a.1 ((ys.take a.1).map (Value.int .i64)) :: WrAt b8 (upB ys a.1) :: cb b7 26 (nc v) :: cb b4 43 (bv h) :: bag (blks W) :: F) xs.length (0, none, 0) ⟨Nat.zero_le _, rfl⟩ ⟨rfl, rfl, trivial⟩ (by repeat (first | exact Ent.refl _ | (apply Ent.cons; · repeat (first | exact pk_head _ _ | apply pk_tail)) | apply Ent.skip)) ?_
  rintro k ⟨i, q, d⟩ g ⟨hi1, hk⟩
  dsimp only at hi1 hk ⊢
  repeat (first | refine CW.seq ?_ | refine PW.then_ ?_ | refine CW.block ?_ | refine CW.skip ?_ | refine CW.ret ?_ | refine PW.then_ret ?_ | refine PW.block_ret ?_ | refine Cut.ret ?_ | refine Rnd.ret ?_ | refine PW.block_normal ?_ | refine CW.exit ?_ | refine PW.then_exit ?_ | refine PW.block_hit ?_ | refine PW.block_miss rfl ?_ | refine Cut.exit ?_ | refine Rnd.exit ?_)
  by_cases hlt : i < xs.length
  · have hxy := hys i hlt
    obtain ⟨vb, vo, rfl⟩ := hpv (fun h => by have := congrArg List.length h; simp at this; subst this; exact absurd hlt (Nat.not_lt_zero _))
    have hsrc := fun As Bs (hp : List.Perm As (_ :: Bs)) => hr.src (i := i) (by simpa using hlt) hp
    simp only [List.getElem_map] at hsrc
    have hup := upB_succ ys i
    have hul := upB_len ys i
    have htk : (ys.take (i + 1)).map (Value.int .i64) = (ys.take i).map (Value.int .i64) ++ [.int .i64 (ys.getD i 0)] := by
      rw [List.take_succ_eq_append_getElem (by omega), List.map_append, List.getD_eq_getElem?_getD, List.getElem?_eq_getElem (by omega)]; rfl
    unfold gB at hup
    generalize xs[i] = x at hxy hsrc
    have hkv : kk i = 1 + i % 6 := rfl
    have hk6 : kk i ≤ 6 := by omega
    have hk1 : 1 ≤ kk i := by omega
    generalize ys.getD i 0 = y at *
    generalize kk i = ki at *
    have h2 : 2 ^ (8 * ki) ≤ 2 ^ 48 := Nat.pow_le_pow_right (by decide) (by omega)
    have h2p : 0 < 2 ^ (8 * ki) := Nat.two_pow_pos _
    have e2 : ((1 * 2 ^ (8 * ki) : Nat) : Int) - 1 = ((2 ^ (8 * ki) - 1 : Nat) : Int) := by omega
    have e3 : (2 : Nat) ^ 48 = 281474976710656 := by decide
    refine CW.region ?_
    refine L1 (ps_t (ps_lss rfl rfl) (by omega)).os ?_
    refine LW.nil ?_
    repeat (first | refine CW.seq ?_ | refine PW.then_ ?_ | refine CW.block ?_ | refine CW.skip ?_ | refine CW.ret ?_ | refine PW.then_ret ?_ | refine PW.block_ret ?_ | refine Cut.ret ?_ | refine Rnd.ret ?_ | refine PW.block_normal ?_ | refine CW.exit ?_ | refine PW.then_exit ?_ | refine PW.block_hit ?_ | refine PW.block_miss rfl ?_ | refine Cut.exit ?_ | refine Rnd.exit ?_)
    refine CW.cond_true rfl ?_
    repeat (first | refine CW.seq ?_ | refine PW.then_ ?_ | refine CW.block ?_ | refine CW.skip ?_ | refine CW.ret ?_ | refine PW.then_ret ?_ | refine PW.block_ret ?_ | refine Cut.ret ?_ | refine Rnd.ret ?_ | refine PW.block_normal ?_ | refine CW.exit ?_ | refine PW.then_exit ?_ | refine PW.block_hit ?_ | refine PW.block_miss rfl ?_ | refine Cut.exit ?_ | refine Rnd.exit ?_)
    refine CW.region ?_
    refine L1 (ps_move rfl).os ?_
    refine L1 (ps_ia_slice T.un41 T.sz3 rfl rfl (by omega) (by omega)).os ?_
    refine L1 (os_loadS1 (v := .int .i64 x) (hsrc _ _ (by repeat (first | exact pk_head _ _ | apply pk_tail))) T.ag3 rfl) ?_
    refine L1 (ps_assign rfl).os ?_
    refine L1 (ps_assign rfl).os ?_
    refine LW.nil ?_
    repeat (first | refine CW.seq ?_ | refine PW.then_ ?_ | refine CW.block ?_ | refine CW.skip ?_ | refine CW.ret ?_ | refine PW.then_ret ?_ | refine PW.block_ret ?_ | refine Cut.ret ?_ | refine Rnd.ret ?_ | refine PW.block_normal ?_ | refine CW.exit ?_ | refine PW.then_exit ?_ | refine PW.block_hit ?_ | refine PW.block_miss rfl ?_ | refine Cut.exit ?_ | refine Rnd.exit ?_)
    refine CW.region ?_
    refine L1 (ps_move rfl).os ?_
    refine L1 (ps_to (u := .int .i64 ((i % 6 : Nat) : Int)) (congrArg _ (by omega)) (ps_rem_pos rfl rfl (by omega) (by decide))).os ?_
    refine L1 (ps_to (u := .int .i64 (ki : Int)) (congrArg _ (by omega)) (ps_add_i64 rfl rfl (by omega) (by omega))).os ?_
    refine L1 (ps_assign rfl).os ?_
    refine LW.nil ?_
    repeat (first | refine CW.seq ?_ | refine PW.then_ ?_ | refine CW.block ?_ | refine CW.skip ?_ | refine CW.ret ?_ | refine PW.then_ret ?_ | refine PW.block_ret ?_ | refine Cut.ret ?_ | refine Rnd.ret ?_ | refine PW.block_normal ?_ | refine CW.exit ?_ | refine PW.then_exit ?_ | refine PW.block_hit ?_ | refine PW.block_miss rfl ?_ | refine Cut.exit ?_ | refine Rnd.exit ?_)
    refine CW.region ?_
    refine L1 (ps_move rfl).os ?_
    refine L1 (ps_move rfl).os ?_
    refine L1 (ps_mul_i64 rfl rfl (by omega) (by omega)).os ?_
    refine L1 (ps_shlN_i64 1 (8 * ki) rfl rfl (by omega) (by omega) (by omega)).os ?_
    refine L1 (ps_to (u := .int .i64 ((2 ^ (8 * ki) - 1 : Nat) : Int)) (congrArg _ e2) (ps_sub_i64 rfl rfl (by omega) (by omega))).os ?_
    refine L1 (ps_to (u := .int .i64 y) (congrArg _ hxy) (ps_mask_i64 (m := 8 * ki) rfl rfl rfl (by omega))).os ?_
    refine L1 (ps_assign rfl).os ?_
    refine LW.nil ?_
    repeat (first | refine CW.seq ?_ | refine PW.then_ ?_ | refine CW.block ?_ | refine CW.skip ?_ | refine CW.ret ?_ | refine PW.then_ret ?_ | refine PW.block_ret ?_ | refine Cut.ret ?_ | refine Rnd.ret ?_ | refine PW.block_normal ?_ | refine CW.exit ?_ | refine PW.then_exit ?_ | refine PW.block_hit ?_ | refine PW.block_miss rfl ?_ | refine Cut.exit ?_ | refine Rnd.exit ?_)
    refine CW.region ?_
    refine L1 (ps_move rfl).os ?_
    refine L1 (ps_move rfl).os ?_
    refine LE (os_bslv (vs := [.int .i64 y]) T.un41 T.ti3 (by rfl) (by rfl) rfl (by simp [Value.oneCell']) (by decide) (by decide)) ?_
    rintro _ _ ⟨b47, rfl, rfl⟩
    refine LE (os_append (xs := (ys.take i).map (Value.int .i64)) (news := [.int .i64 y]) (by repeat (first | exact pk_head _ _ | apply pk_tail)) T.un41 T.ti3 (by rfl) (by decide) rfl rfl rfl (Src.cb (b := b47) (by repeat (first | exact pk_head _ _ | apply pk_tail)) rfl) (by simp [Value.oneCell']) (by unfold maxLen; omega) (by omega)) ?_
    rintro _ _ ⟨q', d', rfl, rfl, hq'⟩
    refine L1 (ps_assign rfl).os ?_
    refine LW.nil ?_
    repeat (first | refine CW.seq ?_ | refine PW.then_ ?_ | refine CW.block ?_ | refine CW.skip ?_ | refine CW.ret ?_ | refine PW.then_ret ?_ | refine PW.block_ret ?_ | refine Cut.ret ?_ | refine Rnd.ret ?_ | refine PW.block_normal ?_ | refine CW.exit ?_ | refine PW.then_exit ?_ | refine PW.block_hit ?_ | refine PW.block_miss rfl ?_ | refine Cut.exit ?_ | refine Rnd.exit ?_)
    refine CW.region ?_
    refine L1 (ps_move rfl).os ?_
    refine L1 (ps_move rfl).os ?_
    refine LE (os_bslv (vs := [.int .i64 y]) T.un41 T.ti3 (by rfl) (by rfl) rfl (by simp [Value.oneCell']) (by decide) (by decide)) ?_
    rintro _ _ ⟨b51, rfl, rfl⟩
    refine L1 (os_call2 (WI1 b8 (upB ys i) ki y b51 (by omega) (by omega)) Try.func17 (by decide +kernel) rfl rfl (by repeat (first | exact pk_head _ _ | apply pk_tail)) (by repeat (first | exact pk_head _ _ | apply pk_tail))) ?_
    refine LW.nil ?_
    repeat (first | refine CW.seq ?_ | refine PW.then_ ?_ | refine CW.block ?_ | refine CW.skip ?_ | refine CW.ret ?_ | refine PW.then_ret ?_ | refine PW.block_ret ?_ | refine Cut.ret ?_ | refine Rnd.ret ?_ | refine PW.block_normal ?_ | refine CW.exit ?_ | refine PW.then_exit ?_ | refine PW.block_hit ?_ | refine PW.block_miss rfl ?_ | refine Cut.exit ?_ | refine Rnd.exit ?_)
    refine CW.region ?_
    refine L1 (ps_add_i64 rfl rfl (by omega) (by omega)).os ?_
    refine L1 (ps_move rfl).os ?_
    refine LW.nil ?_
    exact Meet.round (xs.length - (i + 1)) (i + 1, q', d') (by omega) ⟨hlt, rfl⟩ (by repeat (first | (with_reducible exact Ag.refl _ _) | (with_reducible apply Ag.pu0) | ((with_reducible refine Ag.pu _ ?_ ?_); · exact rfl) | ((with_reducible refine Ag.mix ?_ ?_); · exact rfl) | ((with_reducible refine Ag.pus ?_ ?_); · exact rfl))) ⟨rfl, rfl, trivial⟩ (by dsimp only; rw [hup, htk]; exact (by repeat (first | exact Ent.refl _ | (apply Ent.cons; · repeat (first | exact pk_head _ _ | apply pk_tail)) | apply Ent.skip)))
  have hin : i = xs.length := by omega
  subst hin
  have hul := upB_len ys xs.length
  have hnl : (numB v).length = 16 := length_numB v
  refine CW.region ?_
  refine L1 (ps_f (ps_lss rfl rfl) (by omega)).os ?_
  refine LW.nil ?_
  repeat (first | refine CW.seq ?_ | refine PW.then_ ?_ | refine CW.block ?_ | refine CW.skip ?_ | refine CW.ret ?_ | refine PW.then_ret ?_ | refine PW.block_ret ?_ | refine Cut.ret ?_ | refine Rnd.ret ?_ | refine PW.block_normal ?_ | refine CW.exit ?_ | refine PW.then_exit ?_ | refine PW.block_hit ?_ | refine PW.block_miss rfl ?_ | refine Cut.exit ?_ | refine Rnd.exit ?_)
  refine CW.cond_false rfl ?_
  repeat (first | refine CW.seq ?_ | refine PW.then_ ?_ | refine CW.block ?_ | refine CW.skip ?_ | refine CW.ret ?_ | refine PW.then_ret ?_ | refine PW.block_ret ?_ | refine Cut.ret ?_ | refine Rnd.ret ?_ | refine PW.block_normal ?_ | refine CW.exit ?_ | refine PW.then_exit ?_ | refine PW.block_hit ?_ | refine PW.block_miss rfl ?_ | refine Cut.exit ?_ | refine Rnd.exit ?_)
  rw [show (ys.take xs.length).map (Value.int .i64) = (ys.map ic).flatten by
    rw [List.take_of_length_le (by omega), ints_flat]]
  refine slOwn_info (Bs := _) (m := xs.length) (xs := (ys.map ic).flatten) (by repeat (first | exact pk_head _ _ | apply pk_tail)) fun w1 w2 w3 => ?_
  have hw := RowsR.own (e := 3) (s := 1) (m := xs.length) (d := d) (q := q) (ys.map ic) (by simp [ic]) (by rw [List.length_map, hyl]) w1 w2 w3
  generalize slOwn 3 1 (.slice q xs.length d) xs.length (ys.map ic).flatten = Y at hw ⊢
  refine CW.cutB (α := Unit) [54, 55, 56, 57, 58, 59, 60, 61, 62] (fun _ => True) (fun _ => []) (fun _ => WrAt b8 (upB ys xs.length ++ h ++ numB v ++ [9]) :: Y :: cb b7 26 (nc v) :: cb b4 43 (bv h) :: bag (blks W) :: F) ?_ ?_
  · refine CW.drawH [cb b4 43 (bv h), cb b7 26 (nc v)] [] T.mixed ?_
    refine H_take (i := 0) (some 54) rfl rfl (by kernel_rfl) (by kernel_rfl) (by kernel_rfl) rfl (pl_loadAll (b := b4) (cs := bv h) (by repeat (first | exact pk_head _ _ | apply pk_tail)) T.ag43 hszh rfl) (by kernel_rfl) (pkc (by repeat (first | exact pk_head _ _ | apply pk_tail)) (pkc (by repeat (first | exact pk_head _ _ | apply pk_tail)) (pkn _))) ?_
    refine H_take (i := 3) (some 57) rfl rfl (by kernel_rfl) (by kernel_rfl) (by kernel_rfl) rfl (pl_loadAll (b := b7) (cs := nc v) (by repeat (first | exact pk_head _ _ | apply pk_tail)) T.ag26 (by exact T.sz26) rfl) (by kernel_rfl) (pkc (by repeat (first | exact pk_head _ _ | apply pk_tail)) (pkc (by repeat (first | exact pk_head _ _ | apply pk_tail)) (pkn _))) ?_
    refine H_branch (rs := [1, 4, 6]) (by kernel_rfl) (by simp) ?_
    refine HR.consE (i := 1) (some 55) rfl rfl rfl (os_bslR [bv h] T.un73 T.ti43 (by rfl) (by rfl) (by simp [hh]) (by decide) (by decide)) ?_ ?_
    · rintro _ _ ⟨b55, rfl, rfl⟩
      refine ⟨fun _ => ⟨_, (pkc (by repeat (first | exact pk_head _ _ | apply pk_tail)) (pkc (by repeat (first | exact pk_head _ _ | apply pk_tail)) (pkn _)))⟩, ?_⟩
      refine H_branch (rs := [2, 4, 6]) (by kernel_rfl) (by simp) ?_
      refine HR.cons1 (i := 2) (some 56) rfl rfl rfl (os_call2 (WH1 b8 (upB ys xs.length) h b55 hh (by omega)) Try.func18 (by decide +kernel) rfl rfl (by repeat (first | exact pk_head _ _ | apply pk_tail)) (by repeat (first | exact pk_head _ _ | apply pk_tail))) (pkc (by repeat (first | exact pk_head _ _ | apply pk_tail)) (pkc (by repeat (first | exact pk_head _ _ | apply pk_tail)) (pkn _))) ?_ ?_
      · skip
        refine H_branch (rs := [4, 6]) (by kernel_rfl) (by simp) ?_
        refine HR.consE (i := 4) (some 58) rfl rfl rfl (os_bslR ([v].map nc) T.un74 T.ti26 (by rfl) (by rfl) (by simp [nc_len]) (by decide) (by decide)) ?_ ?_
        · rintro _ _ ⟨b58, rfl, rfl⟩
          refine ⟨fun _ => ⟨_, (pkc (by repeat (first | exact pk_head _ _ | apply pk_tail)) (pkc (by repeat (first | exact pk_head _ _ | apply pk_tail)) (pkn _)))⟩, ?_⟩
          refine H_branch (rs := [5, 6]) (by kernel_rfl) (by simp) ?_
          refine HR.cons1 (i := 5) (some 59) rfl rfl rfl (os_call2 (WN1 b8 (upB ys xs.length ++ h) v b58 hvM (by simp only [List.length_append]; omega)) Try.func19 (by decide +kernel) rfl rfl (by repeat (first | exact pk_head _ _ | apply pk_tail)) (by repeat (first | exact pk_head _ _ | apply pk_tail))) (pkc (by repeat (first | exact pk_head _ _ | apply pk_tail)) (pkc (by repeat (first | exact pk_head _ _ | apply pk_tail)) (pkn _))) ?_ ?_
          · skip
            refine H_branch (rs := [6]) (by kernel_rfl) (by simp) ?_
            refine HR.consE (i := 6) (some 60) rfl rfl rfl (os_bslv (vs := bv [9]) T.un32 T.ti5 (by rfl) (by rfl) rfl (bv_one _) (by decide) (by decide)) ?_ ?_
            · rintro _ _ ⟨b60, rfl, rfl⟩
              refine ⟨fun _ => ⟨_, (pkc (by repeat (first | exact pk_head _ _ | apply pk_tail)) (pkc (by repeat (first | exact pk_head _ _ | apply pk_tail)) (pkn _)))⟩, ?_⟩
              refine H_branch (rs := [7]) (by kernel_rfl) (by simp) ?_
              refine HR.consE (i := 7) (some 61) rfl rfl rfl (os_bslv (vs := [.slice none 0 0, .slice (some ⟨b60, 0, none⟩) 1 1]) T.un76 T.ti32 (by rfl) (by rfl) rfl (by simp [Value.oneCell']) (by decide) (by decide)) ?_ ?_
              · rintro _ _ ⟨b61, rfl, rfl⟩
                refine ⟨fun _ => ⟨_, (pkc (by repeat (first | exact pk_head _ _ | apply pk_tail)) (pkc (by repeat (first | exact pk_head _ _ | apply pk_tail)) (pkn _)))⟩, ?_⟩
                refine H_branch (rs := [8]) (by kernel_rfl) (by simp) ?_
                refine HR.cons1 (i := 8) (some 62) rfl rfl rfl (os_callI (WR1 b8 (upB ys xs.length ++ h ++ numB v) b61 b60 (by simp only [List.length_append]; omega)) Try.func20 (by decide +kernel) rfl rfl (pkc (by repeat (first | exact pk_head _ _ | apply pk_tail)) (pkc (by repeat (first | exact pk_head _ _ | apply pk_tail)) (pkc (by repeat (first | exact pk_head _ _ | apply pk_tail)) (pkn _))))) (pkc (by repeat (first | exact pk_head _ _ | apply pk_tail)) (pkc (by repeat (first | exact pk_head _ _ | apply pk_tail)) (pkn _))) ?_ ?_
                · skip
                  refine H_done (by kernel_rfl) ?_
                  exact Meet.cut () trivial (by repeat (first | (with_reducible exact Ag.refl _ _) | (with_reducible apply Ag.pu0) | ((with_reducible refine Ag.pu _ ?_ ?_); · exact rfl) | ((with_reducible refine Ag.mix ?_ ?_); · exact rfl) | ((with_reducible refine Ag.pus ?_ ?_); · exact rfl))) (by exact trivial) (by repeat (first | exact Ent.refl _ | (apply Ent.cons; · repeat (first | exact pk_head _ _ | apply pk_tail)) | apply Ent.skip))
                exact HR.nil
              exact HR.nil
            exact HR.nil
          refine HR.consE (i := 6) (some 60) rfl rfl rfl (os_bslv (vs := bv [9]) T.un32 T.ti5 (by rfl) (by rfl) rfl (bv_one _) (by decide) (by decide)) ?_ ?_
          · rintro _ _ ⟨b60, rfl, rfl⟩
            refine ⟨fun _ => ⟨_, (pkc (by repeat (first | exact pk_head _ _ | apply pk_tail)) (pkc (by repeat (first | exact pk_head _ _ | apply pk_tail)) (pkn _)))⟩, ?_⟩
            refine H_branch (rs := [5, 7]) (by kernel_rfl) (by simp) ?_
            refine HR.cons1 (i := 5) (some 59) rfl rfl rfl (os_call2 (WN1 b8 (upB ys xs.length ++ h) v b58 hvM (by simp only [List.length_append]; omega)) Try.func19 (by decide +kernel) rfl rfl (by repeat (first | exact pk_head _ _ | apply pk_tail)) (by repeat (first | exact pk_head _ _ | apply pk_tail))) (pkc (by repeat (first | exact pk_head _ _ | apply pk_tail)) (pkc (by repeat (first | exact pk_head _ _ | apply pk_tail)) (pkn _))) ?_ ?_
            · skip
              refine H_branch (rs := [7]) (by kernel_rfl) (by simp) ?_
              refine HR.consE (i := 7) (some 61) rfl rfl rfl (os_bslv (vs := [.slice none 0 0, .slice (some ⟨b60, 0, none⟩) 1 1]) T.un76 T.ti32 (by rfl) (by rfl) rfl (by simp [Value.oneCell']) (by decide) (by decide)) ?_ ?_
              · rintro _ _ ⟨b61, rfl, rfl⟩
                refine ⟨fun _ => ⟨_, (pkc (by repeat (first | exact pk_head _ _ | apply pk_tail)) (pkc (by repeat (first | exact pk_head _ _ | apply pk_tail)) (pkn _)))⟩, ?_⟩
                refine H_branch (rs := [8]) (by kernel_rfl) (by simp) ?_
                refine HR.cons1 (i := 8) (some 62) rfl rfl rfl (os_callI (WR1 b8 (upB ys xs.length ++ h ++ numB v) b61 b60 (by simp only [List.length_append]; omega)) Try.func20 (by decide +kernel) rfl rfl (pkc (by repeat (first | exact pk_head _ _ | apply pk_tail)) (pkc (by repeat (first | exact pk_head _ _ | apply pk_tail)) (pkc (by repeat (first | exact pk_head _ _ | apply pk_tail)) (pkn _))))) (pkc (by repeat (first | exact pk_head _ _ | apply pk_tail)) (pkc (by repeat (first | exact pk_head _ _ | apply pk_tail)) (pkn _))) ?_ ?_
                · skip
                  refine H_done (by kernel_rfl) ?_
                  exact Meet.cut () trivial (by repeat (first | (with_reducible exact Ag.refl _ _) | (with_reducible apply Ag.pu0) | ((with_reducible refine Ag.pu _ ?_ ?_); · exact rfl) | ((with_reducible refine Ag.mix ?_ ?_); · exact rfl) | ((with_reducible refine Ag.pus ?_ ?_); · exact rfl))) (by exact trivial) (by repeat (first | exact Ent.refl _ | (apply Ent.cons; · repeat (first | exact pk_head _ _ | apply pk_tail)) | apply Ent.skip))
                exact HR.nil
              exact HR.nil
            refine HR.consE (i := 7) (some 61) rfl rfl rfl (os_bslv (vs := [.slice none 0 0, .slice (some ⟨b60, 0, none⟩) 1 1]) T.un76 T.ti32 (by rfl) (by rfl) rfl (by simp [Value.oneCell']) (by decide) (by decide)) ?_ ?_
            · rintro _ _ ⟨b61, rfl, rfl⟩
              refine ⟨fun _ => ⟨_, (pkc (by repeat (first | exact pk_head _ _ | apply pk_tail)) (pkc (by repeat (first | exact pk_head _ _ | apply pk_tail)) (pkn _)))⟩, ?_⟩
              refine H_branch (rs := [5]) (by kernel_rfl) (by simp) ?_
              refine HR.cons1 (i := 5) (some 59) rfl rfl rfl (os_call2 (WN1 b8 (upB ys xs.length ++ h) v b58 hvM (by simp only [List.length_append]; omega)) Try.func19 (by decide +kernel) rfl rfl (by repeat (first | exact pk_head _ _ | apply pk_tail)) (by repeat (first | exact pk_head _ _ | apply pk_tail))) (pkc (by repeat (first | exact pk_head _ _ | apply pk_tail)) (pkc (by repeat (first | exact pk_head _ _ | apply pk_tail)) (pkn _))) ?_ ?_
              · skip
                refine H_branch (rs := [8]) (by kernel_rfl) (by simp) ?_
                refine HR.cons1 (i := 8) (some 62) rfl rfl rfl (os_callI (WR1 b8 (upB ys xs.length ++ h ++ numB v) b61 b60 (by simp only [List.length_append]; omega)) Try.func20 (by decide +kernel) rfl rfl (pkc (by repeat (first | exact pk_head _ _ | apply pk_tail)) (pkc (by repeat (first | exact pk_head _ _ | apply pk_tail)) (pkc (by repeat (first | exact pk_head _ _ | apply pk_tail)) (pkn _))))) (pkc (by repeat (first | exact pk_head _ _ | apply pk_tail)) (pkc (by repeat (first | exact pk_head _ _ | apply pk_tail)) (pkn _))) ?_ ?_
                · skip
                  refine H_done (by kernel_rfl) ?_
                  exact Meet.cut () trivial (by repeat (first | (with_reducible exact Ag.refl _ _) | (with_reducible apply Ag.pu0) | ((with_reducible refine Ag.pu _ ?_ ?_); · exact rfl) | ((with_reducible refine Ag.mix ?_ ?_); · exact rfl) | ((with_reducible refine Ag.pus ?_ ?_); · exact rfl))) (by exact trivial) (by repeat (first | exact Ent.refl _ | (apply Ent.cons; · repeat (first | exact pk_head _ _ | apply pk_tail)) | apply Ent.skip))
                exact HR.nil
              exact HR.nil
            exact HR.nil
          exact HR.nil
        refine HR.consE (i := 6) (some 60) rfl rfl rfl (os_bslv (vs := bv [9]) T.un32 T.ti5 (by rfl) (by rfl) rfl (bv_one _) (by decide) (by decide)) ?_ ?_
        · rintro _ _ ⟨b60, rfl, rfl⟩
          refine ⟨fun _ => ⟨_, (pkc (by repeat (first | exact pk_head _ _ | apply pk_tail)) (pkc (by repeat (first | exact pk_head _ _ | apply pk_tail)) (pkn _)))⟩, ?_⟩
          refine H_branch (rs := [4, 7]) (by kernel_rfl) (by simp) ?_
          refine HR.consE (i := 4) (some 58) rfl rfl rfl (os_bslR ([v].map nc) T.un74 T.ti26 (by rfl) (by rfl) (by simp [nc_len]) (by decide) (by decide)) ?_ ?_
          · rintro _ _ ⟨b58, rfl, rfl⟩
            refine ⟨fun _ => ⟨_, (pkc (by repeat (first | exact pk_head _ _ | apply pk_tail)) (pkc (by repeat (first | exact pk_head _ _ | apply pk_tail)) (pkn _)))⟩, ?_⟩
            refine H_branch (rs := [5, 7]) (by kernel_rfl) (by simp) ?_
            refine HR.cons1 (i := 5) (some 59) rfl rfl rfl (os_call2 (WN1 b8 (upB ys xs.length ++ h) v b58 hvM (by simp only [List.length_append]; omega)) Try.func19 (by decide +kernel) rfl rfl (by repeat (first | exact pk_head _ _ | apply pk_tail)) (by repeat (first | exact pk_head _ _ | apply pk_tail))) (pkc (by repeat (first | exact pk_head _ _ | apply pk_tail)) (pkc (by repeat (first | exact pk_head _ _ | apply pk_tail)) (pkn _))) ?_ ?_
            · skip
              refine H_branch (rs := [7]) (by kernel_rfl) (by simp) ?_
              refine HR.consE (i := 7) (some 61) rfl rfl rfl (os_bslv (vs := [.slice none 0 0, .slice (some ⟨b60, 0, none⟩) 1 1]) T.un76 T.ti32 (by rfl) (by rfl) rfl (by simp [Value.oneCell']) (by decide) (by decide)) ?_ ?_
              · rintro _ _ ⟨b61, rfl, rfl⟩
                refine ⟨fun _ => ⟨_, (pkc (by repeat (first | exact pk_head _ _ | apply pk_tail)) (pkc (by repeat (first | exact pk_head _ _ | apply pk_tail)) (pkn _)))⟩, ?_⟩
                refine H_branch (rs := [8]) (by kernel_rfl) (by simp) ?_
                refine HR.cons1 (i := 8) (some 62) rfl rfl rfl (os_callI (WR1 b8 (upB ys xs.length ++ h ++ numB v) b61 b60 (by simp only [List.length_append]; omega)) Try.func20 (by decide +kernel) rfl rfl (pkc (by repeat (first | exact pk_head _ _ | apply pk_tail)) (pkc (by repeat (first | exact pk_head _ _ | apply pk_tail)) (pkc (by repeat (first | exact pk_head _ _ | apply pk_tail)) (pkn _))))) (pkc (by repeat (first | exact pk_head _ _ | apply pk_tail)) (pkc (by repeat (first | exact pk_head _ _ | apply pk_tail)) (pkn _))) ?_ ?_
                · skip
                  refine H_done (by kernel_rfl) ?_
                  exact Meet.cut () trivial (by repeat (first | (with_reducible exact Ag.refl _ _) | (with_reducible apply Ag.pu0) | ((with_reducible refine Ag.pu _ ?_ ?_); · exact rfl) | ((with_reducible refine Ag.mix ?_ ?_); · exact rfl) | ((with_reducible refine Ag.pus ?_ ?_); · exact rfl))) (by exact trivial) (by repeat (first | exact Ent.refl _ | (apply Ent.cons; · repeat (first | exact pk_head _ _ | apply pk_tail)) | apply Ent.skip))
                exact HR.nil
              exact HR.nil
            refine HR.consE (i := 7) (some 61) rfl rfl rfl (os_bslv (vs := [.slice none 0 0, .slice (some ⟨b60, 0, none⟩) 1 1]) T.un76 T.ti32 (by rfl) (by rfl) rfl (by simp [Value.oneCell']) (by decide) (by decide)) ?_ ?_
            · rintro _ _ ⟨b61, rfl, rfl⟩
              refine ⟨fun _ => ⟨_, (pkc (by repeat (first | exact pk_head _ _ | apply pk_tail)) (pkc (by repeat (first | exact pk_head _ _ | apply pk_tail)) (pkn _)))⟩, ?_⟩
              refine H_branch (rs := [5]) (by kernel_rfl) (by simp) ?_
              refine HR.cons1 (i := 5) (some 59) rfl rfl rfl (os_call2 (WN1 b8 (upB ys xs.length ++ h) v b58 hvM (by simp only [List.length_append]; omega)) Try.func19 (by decide +kernel) rfl rfl (by repeat (first | exact pk_head _ _ | apply pk_tail)) (by repeat (first | exact pk_head _ _ | apply pk_tail))) (pkc (by repeat (first | exact pk_head _ _ | apply pk_tail)) (pkc (by repeat (first | exact pk_head _ _ | apply pk_tail)) (pkn _))) ?_ ?_
              · skip
                refine H_branch (rs := [8]) (by kernel_rfl) (by simp) ?_
                refine HR.cons1 (i := 8) (some 62) rfl rfl rfl (os_callI (WR1 b8 (upB ys xs.length ++ h ++ numB v) b61 b60 (by simp only [List.length_append]; omega)) Try.func20 (by decide +kernel) rfl rfl (pkc (by repeat (first | exact pk_head _ _ | apply pk_tail)) (pkc (by repeat (first | exact pk_head _ _ | apply pk_tail)) (pkc (by repeat (first | exact pk_head _ _ | apply pk_tail)) (pkn _))))) (pkc (by repeat (first | exact pk_head _ _ | apply pk_tail)) (pkc (by repeat (first | exact pk_head _ _ | apply pk_tail)) (pkn _))) ?_ ?_
                · skip
                  refine H_done (by kernel_rfl) ?_
                  exact Meet.cut () trivial (by repeat (first | (with_reducible exact Ag.refl _ _) | (with_reducible apply Ag.pu0) | ((with_reducible refine Ag.pu _ ?_ ?_); · exact rfl) | ((with_reducible refine Ag.mix ?_ ?_); · exact rfl) | ((with_reducible refine Ag.pus ?_ ?_); · exact rfl))) (by exact trivial) (by repeat (first | exact Ent.refl _ | (apply Ent.cons; · repeat (first | exact pk_head _ _ | apply pk_tail)) | apply Ent.skip))
                exact HR.nil
              exact HR.nil
            exact HR.nil
          refine HR.consE (i := 7) (some 61) rfl rfl rfl (os_bslv (vs := [.slice none 0 0, .slice (some ⟨b60, 0, none⟩) 1 1]) T.un76 T.ti32 (by rfl) (by rfl) rfl (by simp [Value.oneCell']) (by decide) (by decide)) ?_ ?_
          · rintro _ _ ⟨b61, rfl, rfl⟩
            refine ⟨fun _ => ⟨_, (pkc (by repeat (first | exact pk_head _ _ | apply pk_tail)) (pkc (by repeat (first | exact pk_head _ _ | apply pk_tail)) (pkn _)))⟩, ?_⟩
            refine H_branch (rs := [4]) (by kernel_rfl) (by simp) ?_
            refine HR.consE (i := 4) (some 58) rfl rfl rfl (os_bslR ([v].map nc) T.un74 T.ti26 (by rfl) (by rfl) (by simp [nc_len]) (by decide) (by decide)) ?_ ?_
            · rintro _ _ ⟨b58, rfl, rfl⟩
              refine ⟨fun _ => ⟨_, (pkc (by repeat (first | exact pk_head _ _ | apply pk_tail)) (pkc (by repeat (first | exact pk_head _ _ | apply pk_tail)) (pkn _)))⟩, ?_⟩
              refine H_branch (rs := [5]) (by kernel_rfl) (by simp) ?_
              refine HR.cons1 (i := 5) (some 59) rfl rfl rfl (os_call2 (WN1 b8 (upB ys xs.length ++ h) v b58 hvM (by simp only [List.length_append]; omega)) Try.func19 (by decide +kernel) rfl rfl (by repeat (first | exact pk_head _ _ | apply pk_tail)) (by repeat (first | exact pk_head _ _ | apply pk_tail))) (pkc (by repeat (first | exact pk_head _ _ | apply pk_tail)) (pkc (by repeat (first | exact pk_head _ _ | apply pk_tail)) (pkn _))) ?_ ?_
              · skip
                refine H_branch (rs := [8]) (by kernel_rfl) (by simp) ?_
                refine HR.cons1 (i := 8) (some 62) rfl rfl rfl (os_callI (WR1 b8 (upB ys xs.length ++ h ++ numB v) b61 b60 (by simp only [List.length_append]; omega)) Try.func20 (by decide +kernel) rfl rfl (pkc (by repeat (first | exact pk_head _ _ | apply pk_tail)) (pkc (by repeat (first | exact pk_head _ _ | apply pk_tail)) (pkc (by repeat (first | exact pk_head _ _ | apply pk_tail)) (pkn _))))) (pkc (by repeat (first | exact pk_head _ _ | apply pk_tail)) (pkc (by repeat (first | exact pk_head _ _ | apply pk_tail)) (pkn _))) ?_ ?_
                · skip
                  refine H_done (by kernel_rfl) ?_
                  exact Meet.cut () trivial (by repeat (first | (with_reducible exact Ag.refl _ _) | (with_reducible apply Ag.pu0) | ((with_reducible refine Ag.pu _ ?_ ?_); · exact rfl) | ((with_reducible refine Ag.mix ?_ ?_); · exact rfl) | ((with_reducible refine Ag.pus ?_ ?_); · exact rfl))) (by exact trivial) (by repeat (first | exact Ent.refl _ | (apply Ent.cons; · repeat (first | exact pk_head _ _ | apply pk_tail)) | apply Ent.skip))
                exact HR.nil
              exact HR.nil
            exact HR.nil
          exact HR.nil
        exact HR.nil
      refine HR.consE (i := 4) (some 58) rfl rfl rfl (os_bslR ([v].map nc) T.un74 T.ti26 (by rfl) (by rfl) (by simp [nc_len]) (by decide) (by decide)) ?_ ?_
      · rintro _ _ ⟨b58, rfl, rfl⟩
        refine ⟨fun _ => ⟨_, (pkc (by repeat (first | exact pk_head _ _ | apply pk_tail)) (pkc (by repeat (first | exact pk_head _ _ | apply pk_tail)) (pkn _)))⟩, ?_⟩
        refine H_branch (rs := [2, 6]) (by kernel_rfl) (by simp) ?_
        refine HR.cons1 (i := 2) (some 56) rfl rfl rfl (os_call2 (WH1 b8 (upB ys xs.length) h b55 hh (by omega)) Try.func18 (by decide +kernel) rfl rfl (by repeat (first | exact pk_head _ _ | apply pk_tail)) (by repeat (first | exact pk_head _ _ | apply pk_tail))) (pkc (by repeat (first | exact pk_head _ _ | apply pk_tail)) (pkc (by repeat (first | exact pk_head _ _ | apply pk_tail)) (pkn _))) ?_ ?_
        · skip
          refine H_branch (rs := [5, 6]) (by kernel_rfl) (by simp) ?_
          refine HR.cons1 (i := 5) (some 59) rfl rfl rfl (os_call2 (WN1 b8 (upB ys xs.length ++ h) v b58 hvM (by simp only [List.length_append]; omega)) Try.func19 (by decide +kernel) rfl rfl (by repeat (first | exact pk_head _ _ | apply pk_tail)) (by repeat (first | exact pk_head _ _ | apply pk_tail))) (pkc (by repeat (first | exact pk_head _ _ | apply pk_tail)) (pkc (by repeat (first | exact pk_head _ _ | apply pk_tail)) (pkn _))) ?_ ?_
          · skip
            refine H_branch (rs := [6]) (by kernel_rfl) (by simp) ?_
            refine HR.consE (i := 6) (some 60) rfl rfl rfl (os_bslv (vs := bv [9]) T.un32 T.ti5 (by rfl) (by rfl) rfl (bv_one _) (by decide) (by decide)) ?_ ?_
            · rintro _ _ ⟨b60, rfl, rfl⟩
              refine ⟨fun _ => ⟨_, (pkc (by repeat (first | exact pk_head _ _ | apply pk_tail)) (pkc (by repeat (first | exact pk_head _ _ | apply pk_tail)) (pkn _)))⟩, ?_⟩
              refine H_branch (rs := [7]) (by kernel_rfl) (by simp) ?_
              refine HR.consE (i := 7) (some 61) rfl rfl rfl (os_bslv (vs := [.slice none 0 0, .slice (some ⟨b60, 0, none⟩) 1 1]) T.un76 T.ti32 (by rfl) (by rfl) rfl (by simp [Value.oneCell']) (by decide) (by decide)) ?_ ?_
              · rintro _ _ ⟨b61, rfl, rfl⟩
                refine ⟨fun _ => ⟨_, (pkc (by repeat (first | exact pk_head _ _ | apply pk_tail)) (pkc (by repeat (first | exact pk_head _ _ | apply pk_tail)) (pkn _)))⟩, ?_⟩
                refine H_branch (rs := [8]) (by kernel_rfl) (by simp) ?_
                refine HR.cons1 (i := 8) (some 62) rfl rfl rfl (os_callI (WR1 b8 (upB ys xs.length ++ h ++ numB v) b61 b60 (by simp only [List.length_append]; omega)) Try.func20 (by decide +kernel) rfl rfl (pkc (by repeat (first | exact pk_head _ _ | apply pk_tail)) (pkc (by repeat (first | exact pk_head _ _ | apply pk_tail)) (pkc (by repeat (first | exact pk_head _ _ | apply pk_tail)) (pkn _))))) (pkc (by repeat (first | exact pk_head _ _ | apply pk_tail)) (pkc (by repeat (first | exact pk_head _ _ | apply pk_tail)) (pkn _))) ?_ ?_
                · skip
                  refine H_done (by kernel_rfl) ?_
                  exact Meet.cut () trivial (by repeat (first | (with_reducible exact Ag.refl _ _) | (with_reducible apply Ag.pu0) | ((with_reducible refine Ag.pu _ ?_ ?_); · exact rfl) | ((with_reducible refine Ag.mix ?_ ?_); · exact rfl) | ((with_reducible refine Ag.pus ?_ ?_); · exact rfl))) (by exact trivial) (by repeat (first | exact Ent.refl _ | (apply Ent.cons; · repeat (first | exact pk_head _ _ | apply pk_tail)) | apply Ent.skip))
                exact HR.nil
              exact HR.nil
            exact HR.nil
          refine HR.consE (i := 6) (some 60) rfl rfl rfl (os_bslv (vs := bv [9]) T.un32 T.ti5 (by rfl) (by rfl) rfl (bv_one _) (by decide) (by decide)) ?_ ?_
          · rintro _ _ ⟨b60, rfl, rfl⟩
            refine ⟨fun _ => ⟨_, (pkc (by repeat (first | exact pk_head _ _ | apply pk_tail)) (pkc (by repeat (first | exact pk_head _ _ | apply pk_tail)) (pkn _)))⟩, ?_⟩
            refine H_branch (rs := [5, 7]) (by kernel_rfl) (by simp) ?_
            refine HR.cons1 (i := 5) (some 59) rfl rfl rfl (os_call2 (WN1 b8 (upB ys xs.length ++ h) v b58 hvM (by simp only [List.length_append]; omega)) Try.func19 (by decide +kernel) rfl rfl (by repeat (first | exact pk_head _ _ | apply pk_tail)) (by repeat (first | exact pk_head _ _ | apply pk_tail))) (pkc (by repeat (first | exact pk_head _ _ | apply pk_tail)) (pkc (by repeat (first | exact pk_head _ _ | apply pk_tail)) (pkn _))) ?_ ?_
            · skip
              refine H_branch (rs := [7]) (by kernel_rfl) (by simp) ?_
              refine HR.consE (i := 7) (some 61) rfl rfl rfl (os_bslv (vs := [.slice none 0 0, .slice (some ⟨b60, 0, none⟩) 1 1]) T.un76 T.ti32 (by rfl) (by rfl) rfl (by simp [Value.oneCell']) (by decide) (by decide)) ?_ ?_
              · rintro _ _ ⟨b61, rfl, rfl⟩
                refine ⟨fun _ => ⟨_, (pkc (by repeat (first | exact pk_head _ _ | apply pk_tail)) (pkc (by repeat (first | exact pk_head _ _ | apply pk_tail)) (pkn _)))⟩, ?_⟩
                refine H_branch (rs := [8]) (by kernel_rfl) (by simp) ?_
                refine HR.cons1 (i := 8) (some 62) rfl rfl rfl (os_callI (WR1 b8 (upB ys xs.length ++ h ++ numB v) b61 b60 (by simp only [List.length_append]; omega)) Try.func20 (by decide +kernel) rfl rfl (pkc (by repeat (first | exact pk_head _ _ | apply pk_tail)) (pkc (by repeat (first | exact pk_head _ _ | apply pk_tail)) (pkc (by repeat (first | exact pk_head _ _ | apply pk_tail)) (pkn _))))) (pkc (by repeat (first | exact pk_head _ _ | apply pk_tail)) (pkc (by repeat (first | exact pk_head _ _ | apply pk_tail)) (pkn _))) ?_ ?_
                · skip
                  refine H_done (by kernel_rfl) ?_
                  exact Meet.cut () trivial (by repeat (first | (with_reducible exact Ag.refl _ _) | (with_reducible apply Ag.pu0) | ((with_reducible refine Ag.pu _ ?_ ?_); · exact rfl) | ((with_reducible refine Ag.mix ?_ ?_); · exact rfl) | ((with_reducible refine Ag.pus ?_ ?_); · exact rfl))) (by exact trivial) (by repeat (first | exact Ent.refl _ | (apply Ent.cons; · repeat (first | exact pk_head _ _ | apply pk_tail)) | apply Ent.skip))
                exact HR.nil
              exact HR.nil
            refine HR.consE (i := 7) (some 61) rfl rfl rfl (os_bslv (vs := [.slice none 0 0, .slice (some ⟨b60, 0, none⟩) 1 1]) T.un76 T.ti32 (by rfl) (by rfl) rfl (by simp [Value.oneCell']) (by decide) (by decide)) ?_ ?_
            · rintro _ _ ⟨b61, rfl, rfl⟩
              refine ⟨fun _ => ⟨_, (pkc (by repeat (first | exact pk_head _ _ | apply pk_tail)) (pkc (by repeat (first | exact pk_head _ _ | apply pk_tail)) (pkn _)))⟩, ?_⟩
              refine H_branch (rs := [5]) (by kernel_rfl) (by simp) ?_
              refine HR.cons1 (i := 5) (some 59) rfl rfl rfl (os_call2 (WN1 b8 (upB ys xs.length ++ h) v b58 hvM (by simp only [List.length_append]; omega)) Try.func19 (by decide +kernel) rfl rfl (by repeat (first | exact pk_head _ _ | apply pk_tail)) (by repeat (first | exact pk_head _ _ | apply pk_tail))) (pkc (by repeat (first | exact pk_head _ _ | apply pk_tail)) (pkc (by repeat (first | exact pk_head _ _ | apply pk_tail)) (pkn _))) ?_ ?_
              · skip
                refine H_branch (rs := [8]) (by kernel_rfl) (by simp) ?_
                refine HR.cons1 (i := 8) (some 62) rfl rfl rfl (os_callI (WR1 b8 (upB ys xs.length ++ h ++ numB v) b61 b60 (by simp only [List.length_append]; omega)) Try.func20 (by decide +kernel) rfl rfl (pkc (by repeat (first | exact pk_head _ _ | apply pk_tail)) (pkc (by repeat (first | exact pk_head _ _ | apply pk_tail)) (pkc (by repeat (first | exact pk_head _ _ | apply pk_tail)) (pkn _))))) (pkc (by repeat (first | exact pk_head _ _ | apply pk_tail)) (pkc (by repeat (first | exact pk_head _ _ | apply pk_tail)) (pkn _))) ?_ ?_
                · skip
                  refine H_done (by kernel_rfl) ?_
                  exact Meet.cut () trivial (by repeat (first | (with_reducible exact Ag.refl _ _) | (with_reducible apply Ag.pu0) | ((with_reducible refine Ag.pu _ ?_ ?_); · exact rfl) | ((with_reducible refine Ag.mix ?_ ?_); · exact rfl) | ((with_reducible refine Ag.pus ?_ ?_); · exact rfl))) (by exact trivial) (by repeat (first | exact Ent.refl _ | (apply Ent.cons; · repeat (first | exact pk_head _ _ | apply pk_tail)) | apply Ent.skip))
                exact HR.nil
              exact HR.nil
            exact HR.nil
          exact HR.nil
        refine HR.consE (i := 6) (some 60) rfl rfl rfl (os_bslv (vs := bv [9]) T.un32 T.ti5 (by rfl) (by rfl) rfl (bv_one _) (by decide) (by decide)) ?_ ?_
        · rintro _ _ ⟨b60, rfl, rfl⟩
          refine ⟨fun _ => ⟨_, (pkc (by repeat (first | exact pk_head _ _ | apply pk_tail)) (pkc (by repeat (first | exact pk_head _ _ | apply pk_tail)) (pkn _)))⟩, ?_⟩
          refine H_branch (rs := [2, 7]) (by kernel_rfl) (by simp) ?_
          refine HR.cons1 (i := 2) (some 56) rfl rfl rfl (os_call2 (WH1 b8 (upB ys xs.length) h b55 hh (by omega)) Try.func18 (by decide +kernel) rfl rfl (by repeat (first | exact pk_head _ _ | apply pk_tail)) (by repeat (first | exact pk_head _ _ | apply pk_tail))) (pkc (by repeat (first | exact pk_head _ _ | apply pk_tail)) (pkc (by repeat (first | exact pk_head _ _ | apply pk_tail)) (pkn _))) ?_ ?_
          · skip
            refine H_branch (rs := [5, 7]) (by kernel_rfl) (by simp) ?_
            refine HR.cons1 (i := 5) (some 59) rfl rfl rfl (os_call2 (WN1 b8 (upB ys xs.length ++ h) v b58 hvM (by simp only [List.length_append]; omega)) Try.func19 (by decide +kernel) rfl rfl (by repeat (first | exact pk_head _ _ | apply pk_tail)) (by repeat (first | exact pk_head _ _ | apply pk_tail))) (pkc (by repeat (first | exact pk_head _ _ | apply pk_tail)) (pkc (by repeat (first | exact pk_head _ _ | apply pk_tail)) (pkn _))) ?_ ?_
            · skip
              refine H_branch (rs := [7]) (by kernel_rfl) (by simp) ?_
              refine HR.consE (i := 7) (some 61) rfl rfl rfl (os_bslv (vs := [.slice none 0 0, .slice (some ⟨b60, 0, none⟩) 1 1]) T.un76 T.ti32 (by rfl) (by rfl) rfl (by simp [Value.oneCell']) (by decide) (by decide)) ?_ ?_
              · rintro _ _ ⟨b61, rfl, rfl⟩
                refine ⟨fun _ => ⟨_, (pkc (by repeat (first | exact pk_head _ _ | apply pk_tail)) (pkc (by repeat (first | exact pk_head _ _ | apply pk_tail)) (pkn _)))⟩, ?_⟩
                refine H_branch (rs := [8]) (by kernel_rfl) (by simp) ?_
                refine HR.cons1 (i := 8) (some 62) rfl rfl rfl (os_callI (WR1 b8 (upB ys xs.length ++ h ++ numB v) b61 b60 (by simp only [List.length_append]; omega)) Try.func20 (by decide +kernel) rfl rfl (pkc (by repeat (first | exact pk_head _ _ | apply pk_tail)) (pkc (by repeat (first | exact pk_head _ _ | apply pk_tail)) (pkc (by repeat (first | exact pk_head _ _ | apply pk_tail)) (pkn _))))) (pkc (by repeat (first | exact pk_head _ _ | apply pk_tail)) (pkc (by repeat (first | exact pk_head _ _ | apply pk_tail)) (pkn _))) ?_ ?_
                · skip
                  refine H_done (by kernel_rfl) ?_
                  exact Meet.cut () trivial (by repeat (first | (with_reducible exact Ag.refl _ _) | (with_reducible apply Ag.pu0) | ((with_reducible refine Ag.pu _ ?_ ?_); · exact rfl) | ((with_reducible refine Ag.mix ?_ ?_); · exact rfl) | ((with_reducible refine Ag.pus ?_ ?_); · exact rfl))) (by exact trivial) (by repeat (first | exact Ent.refl _ | (apply Ent.cons; · repeat (first | exact pk_head _ _ | apply pk_tail)) | apply Ent.skip))
                exact HR.nil
              exact HR.nil
            refine HR.consE (i := 7) (some 61) rfl rfl rfl (os_bslv (vs := [.slice none 0 0, .slice (some ⟨b60, 0, none⟩) 1 1]) T.un76 T.ti32 (by rfl) (by rfl) rfl (by simp [Value.oneCell']) (by decide) (by decide)) ?_ ?_
            · rintro _ _ ⟨b61, rfl, rfl⟩
              refine ⟨fun _ => ⟨_, (pkc (by repeat (first | exact pk_head _ _ | apply pk_tail)) (pkc (by repeat (first | exact pk_head _ _ | apply pk_tail)) (pkn _)))⟩, ?_⟩
              refine H_branch (rs := [5]) (by kernel_rfl) (by simp) ?_
              refine HR.cons1 (i := 5) (some 59) rfl rfl rfl (os_call2 (WN1 b8 (upB ys xs.length ++ h) v b58 hvM (by simp only [List.length_append]; omega)) Try.func19 (by decide +kernel) rfl rfl (by repeat (first | exact pk_head _ _ | apply pk_tail)) (by repeat (first | exact pk_head _ _ | apply pk_tail))) (pkc (by repeat (first | exact pk_head _ _ | apply pk_tail)) (pkc (by repeat (first | exact pk_head _ _ | apply pk_tail)) (pkn _))) ?_ ?_
              · skip
                refine H_branch (rs := [8]) (by kernel_rfl) (by simp) ?_
                refine HR.cons1 (i := 8) (some 62) rfl rfl rfl (os_callI (WR1 b8 (upB ys xs.length ++ h ++ numB v) b61 b60 (by simp only [List.length_append]; omega)) Try.func20 (by decide +kernel) rfl rfl (pkc (by repeat (first | exact pk_head _ _ | apply pk_tail)) (pkc (by repeat (first | exact pk_head _ _ | apply pk_tail)) (pkc (by repeat (first | exact pk_head _ _ | apply pk_tail)) (pkn _))))) (pkc (by repeat (first | exact pk_head _ _ | apply pk_tail)) (pkc (by repeat (first | exact pk_head _ _ | apply pk_tail)) (pkn _))) ?_ ?_
                · skip
                  refine H_done (by kernel_rfl) ?_
                  exact Meet.cut () trivial (by repeat (first | (with_reducible exact Ag.refl _ _) | (with_reducible apply Ag.pu0) | ((with_reducible refine Ag.pu _ ?_ ?_); · exact rfl) | ((with_reducible refine Ag.mix ?_ ?_); · exact rfl) | ((with_reducible refine Ag.pus ?_ ?_); · exact rfl))) (by exact trivial) (by repeat (first | exact Ent.refl _ | (apply Ent.cons; · repeat (first | exact pk_head _ _ | apply pk_tail)) | apply Ent.skip))
                exact HR.nil
              exact HR.nil
            exact HR.nil
          refine HR.consE (i := 7) (some 61) rfl rfl rfl (os_bslv (vs := [.slice none 0 0, .slice (some ⟨b60, 0, none⟩) 1 1]) T.un76 T.ti32 (by rfl) (by rfl) rfl (by simp [Value.oneCell']) (by decide) (by decide)) ?_ ?_
          · rintro _ _ ⟨b61, rfl, rfl⟩
            refine ⟨fun _ => ⟨_, (pkc (by repeat (first | exact pk_head _ _ | apply pk_tail)) (pkc (by repeat (first | exact pk_head _ _ | apply pk_tail)) (pkn _)))⟩, ?_⟩
            refine H_branch (rs := [2]) (by kernel_rfl) (by simp) ?_
            refine HR.cons1 (i := 2) (some 56) rfl rfl rfl (os_call2 (WH1 b8 (upB ys xs.length) h b55 hh (by omega)) Try.func18 (by decide +kernel) rfl rfl (by repeat (first | exact pk_head _ _ | apply pk_tail)) (by repeat (first | exact pk_head _ _ | apply pk_tail))) (pkc (by repeat (first | exact pk_head _ _ | apply pk_tail)) (pkc (by repeat (first | exact pk_head _ _ | apply pk_tail)) (pkn _))) ?_ ?_
            · skip
              refine H_branch (rs := [5]) (by kernel_rfl) (by simp) ?_
              refine HR.cons1 (i := 5) (some 59) rfl rfl rfl (os_call2 (WN1 b8 (upB ys xs.length ++ h) v b58 hvM (by simp only [List.length_append]; omega)) Try.func19 (by decide +kernel) rfl rfl (by repeat (first | exact pk_head _ _ | apply pk_tail)) (by repeat (first | exact pk_head _ _ | apply pk_tail))) (pkc (by repeat (first | exact pk_head _ _ | apply pk_tail)) (pkc (by repeat (first | exact pk_head _ _ | apply pk_tail)) (pkn _))) ?_ ?_
              · skip
                refine H_branch (rs := [8]) (by kernel_rfl) (by simp) ?_
                refine HR.cons1 (i := 8) (some 62) rfl rfl rfl (os_callI (WR1 b8 (upB ys xs.length ++ h ++ numB v) b61 b60 (by simp only [List.length_append]; omega)) Try.func20 (by decide +kernel) rfl rfl (pkc (by repeat (first | exact pk_head _ _ | apply pk_tail)) (pkc (by repeat (first | exact pk_head _ _ | apply pk_tail)) (pkc (by repeat (first | exact pk_head _ _ | apply pk_tail)) (pkn _))))) (pkc (by repeat (first | exact pk_head _ _ | apply pk_tail)) (pkc (by repeat (first | exact pk_head _ _ | apply pk_tail)) (pkn _))) ?_ ?_
                · skip
                  refine H_done (by kernel_rfl) ?_
                  exact Meet.cut () trivial (by repeat (first | (with_reducible exact Ag.refl _ _) | (with_reducible apply Ag.pu0) | ((with_reducible refine Ag.pu _ ?_ ?_); · exact rfl) | ((with_reducible refine Ag.mix ?_ ?_); · exact rfl) | ((with_reducible refine Ag.pus ?_ ?_); · exact rfl))) (by exact trivial) (by repeat (first | exact Ent.refl _ | (apply Ent.cons; · repeat (first | exact pk_head _ _ | apply pk_tail)) | apply Ent.skip))
                exact HR.nil
              exact HR.nil
            exact HR.nil
          exact HR.nil
        exact HR.nil
      refine HR.consE (i := 6) (some 60) rfl rfl rfl (os_bslv (vs := bv [9]) T.un32 T.ti5 (by rfl) (by rfl) rfl (bv_one _) (by decide) (by decide)) ?_ ?_
      · rintro _ _ ⟨b60, rfl, rfl⟩
        refine ⟨fun _ => ⟨_, (pkc (by repeat (first | exact pk_head _ _ | apply pk_tail)) (pkc (by repeat (first | exact pk_head _ _ | apply pk_tail)) (pkn _)))⟩, ?_⟩
        refine H_branch (rs := [2, 4, 7]) (by kernel_rfl) (by simp) ?_
        refine HR.cons1 (i := 2) (some 56) rfl rfl rfl (os_call2 (WH1 b8 (upB ys xs.length) h b55 hh (by omega)) Try.func18 (by decide +kernel) rfl rfl (by repeat (first | exact pk_head _ _ | apply pk_tail)) (by repeat (first | exact pk_head _ _ | apply pk_tail))) (pkc (by repeat (first | exact pk_head _ _ | apply pk_tail)) (pkc (by repeat (first | exact pk_head _ _ | apply pk_tail)) (pkn _))) ?_ ?_
        · skip
          refine H_branch (rs := [4, 7]) (by kernel_rfl) (by simp) ?_
          refine HR.consE (i := 4) (some 58) rfl rfl rfl (os_bslR ([v].map nc) T.un74 T.ti26 (by rfl) (by rfl) (by simp [nc_len]) (by decide) (by decide)) ?_ ?_
          · rintro _ _ ⟨b58, rfl, rfl⟩
            refine ⟨fun _ => ⟨_, (pkc (by repeat (first | exact pk_head _ _ | apply pk_tail)) (pkc (by repeat (first | exact pk_head _ _ | apply pk_tail)) (pkn _)))⟩, ?_⟩
            refine H_branch (rs := [5, 7]) (by kernel_rfl) (by simp) ?_
            refine HR.cons1 (i := 5) (some 59) rfl rfl rfl (os_call2 (WN1 b8 (upB ys xs.length ++ h) v b58 hvM (by simp only [List.length_append]; omega)) Try.func19 (by decide +kernel) rfl rfl (by repeat (first | exact pk_head _ _ | apply pk_tail)) (by repeat (first | exact pk_head _ _ | apply pk_tail))) (pkc (by repeat (first | exact pk_head _ _ | apply pk_tail)) (pkc (by repeat (first | exact pk_head _ _ | apply pk_tail)) (pkn _))) ?_ ?_
            · skip
              refine H_branch (rs := [7]) (by kernel_rfl) (by simp) ?_
              refine HR.consE (i := 7) (some 61) rfl rfl rfl (os_bslv (vs := [.slice none 0 0, .slice (some ⟨b60, 0, none⟩) 1 1]) T.un76 T.ti32 (by rfl) (by rfl) rfl (by simp [Value.oneCell']) (by decide) (by decide)) ?_ ?_
              · rintro _ _ ⟨b61, rfl, rfl⟩
                refine ⟨fun _ => ⟨_, (pkc (by repeat (first | exact pk_head _ _ | apply pk_tail)) (pkc (by repeat (first | exact pk_head _ _ | apply pk_tail)) (pkn _)))⟩, ?_⟩
                refine H_branch (rs := [8]) (by kernel_rfl) (by simp) ?_
                refine HR.cons1 (i := 8) (some 62) rfl rfl rfl (os_callI (WR1 b8 (upB ys xs.length ++ h ++ numB v) b61 b60 (by simp only [List.length_append]; omega)) Try.func20 (by decide +kernel) rfl rfl (pkc (by repeat (first | exact pk_head _ _ | apply pk_tail)) (pkc (by repeat (first | exact pk_head _ _ | apply pk_tail)) (pkc (by repeat (first | exact pk_head _ _ | apply pk_tail)) (pkn _))))) (pkc (by repeat (first | exact pk_head _ _ | apply pk_tail)) (pkc (by repeat (first | exact pk_head _ _ | apply pk_tail)) (pkn _))) ?_ ?_
                · skip
                  refine H_done (by kernel_rfl) ?_
                  exact Meet.cut () trivial (by repeat (first | (with_reducible exact Ag.refl _ _) | (with_reducible apply Ag.pu0) | ((with_reducible refine Ag.pu _ ?_ ?_); · exact rfl) | ((with_reducible refine Ag.mix ?_ ?_); · exact rfl) | ((with_reducible refine Ag.pus ?_ ?_); · exact rfl))) (by exact trivial) (by repeat (first | exact Ent.refl _ | (apply Ent.cons; · repeat (first | exact pk_head _ _ | apply pk_tail)) | apply Ent.skip))
                exact HR.nil
              exact HR.nil
            refine HR.consE (i := 7) (some 61) rfl rfl rfl (os_bslv (vs := [.slice none 0 0, .slice (some ⟨b60, 0, none⟩) 1 1]) T.un76 T.ti32 (by rfl) (by rfl) rfl (by simp [Value.oneCell']) (by decide) (by decide)) ?_ ?_
            · rintro _ _ ⟨b61, rfl, rfl⟩
              refine ⟨fun _ => ⟨_, (pkc (by repeat (first | exact pk_head _ _ | apply pk_tail)) (pkc (by repeat (first | exact pk_head _ _ | apply pk_tail)) (pkn _)))⟩, ?_⟩
              refine H_branch (rs := [5]) (by kernel_rfl) (by simp) ?_
              refine HR.cons1 (i := 5) (some 59) rfl rfl rfl (os_call2 (WN1 b8 (upB ys xs.length ++ h) v b58 hvM (by simp only [List.length_append]; omega)) Try.func19 (by decide +kernel) rfl rfl (by repeat (first | exact pk_head _ _ | apply pk_tail)) (by repeat (first | exact pk_head _ _ | apply pk_tail))) (pkc (by repeat (first | exact pk_head _ _ | apply pk_tail)) (pkc (by repeat (first | exact pk_head _ _ | apply pk_tail)) (pkn _))) ?_ ?_
              · skip
                refine H_branch (rs := [8]) (by kernel_rfl) (by simp) ?_
                refine HR.cons1 (i := 8) (some 62) rfl rfl rfl (os_callI (WR1 b8 (upB ys xs.length ++ h ++ numB v) b61 b60 (by simp only [List.length_append]; omega)) Try.func20 (by decide +kernel) rfl rfl (pkc (by repeat (first | exact pk_head _ _ | apply pk_tail)) (pkc (by repeat (first | exact pk_head _ _ | apply pk_tail)) (pkc (by repeat (first | exact pk_head _ _ | apply pk_tail)) (pkn _))))) (pkc (by repeat (first | exact pk_head _ _ | apply pk_tail)) (pkc (by repeat (first | exact pk_head _ _ | apply pk_tail)) (pkn _))) ?_ ?_
                · skip
                  refine H_done (by kernel_rfl) ?_
                  exact Meet.cut () trivial (by repeat (first | (with_reducible exact Ag.refl _ _) | (with_reducible apply Ag.pu0) | ((with_reducible refine Ag.pu _ ?_ ?_); · exact rfl) | ((with_reducible refine Ag.mix ?_ ?_); · exact rfl) | ((with_reducible refine Ag.pus ?_ ?_); · exact rfl))) (by exact trivial) (by repeat (first | exact Ent.refl _ | (apply Ent.cons; · repeat (first | exact pk_head _ _ | apply pk_tail)) | apply Ent.skip))
                exact HR.nil
              exact HR.nil
            exact HR.nil
          refine HR.consE (i := 7) (some 61) rfl rfl rfl (os_bslv (vs := [.slice none 0 0, .slice (some ⟨b60, 0, none⟩) 1 1]) T.un76 T.ti32 (by rfl) (by rfl) rfl (by simp [Value.oneCell']) (by decide) (by decide)) ?_ ?_
          · rintro _ _ ⟨b61, rfl, rfl⟩
            refine ⟨fun _ => ⟨_, (pkc (by repeat (first | exact pk_head _ _ | apply pk_tail)) (pkc (by repeat (first | exact pk_head _ _ | apply pk_tail)) (pkn _)))⟩, ?_⟩
            refine H_branch (rs := [4]) (by kernel_rfl) (by simp) ?_
            refine HR.consE (i := 4) (some 58) rfl rfl rfl (os_bslR ([v].map nc) T.un74 T.ti26 (by rfl) (by rfl) (by simp [nc_len]) (by decide) (by decide)) ?_ ?_
            · rintro _ _ ⟨b58, rfl, rfl⟩
              refine ⟨fun _ => ⟨_, (pkc (by repeat (first | exact pk_head _ _ | apply pk_tail)) (pkc (by repeat (first | exact pk_head _ _ | apply pk_tail)) (pkn _)))⟩, ?_⟩
              refine H_branch (rs := [5]) (by kernel_rfl) (by simp) ?_
              refine HR.cons1 (i := 5) (some 59) rfl rfl rfl (os_call2 (WN1 b8 (upB ys xs.length ++ h) v b58 hvM (by simp only [List.length_append]; omega)) Try.func19 (by decide +kernel) rfl rfl (by repeat (first | exact pk_head _ _ | apply pk_tail)) (by repeat (first | exact pk_head _ _ | apply pk_tail))) (pkc (by repeat (first | exact pk_head _ _ | apply pk_tail)) (pkc (by repeat (first | exact pk_head _ _ | apply pk_tail)) (pkn _))) ?_ ?_
              · skip
                refine H_branch (rs := [8]) (by kernel_rfl) (by simp) ?_
                refine HR.cons1 (i := 8) (some 62) rfl rfl rfl (os_callI (WR1 b8 (upB ys xs.length ++ h ++ numB v) b61 b60 (by simp only [List.length_append]; omega)) Try.func20 (by decide +kernel) rfl rfl (pkc (by repeat (first | exact pk_head _ _ | apply pk_tail)) (pkc (by repeat (first | exact pk_head _ _ | apply pk_tail)) (pkc (by repeat (first | exact pk_head _ _ | apply pk_tail)) (pkn _))))) (pkc (by repeat (first | exact pk_head _ _ | apply pk_tail)) (pkc (by repeat (first | exact pk_head _ _ | apply pk_tail)) (pkn _))) ?_ ?_
                · skip
                  refine H_done (by kernel_rfl) ?_
                  exact Meet.cut () trivial (by repeat (first | (with_reducible exact Ag.refl _ _) | (with_reducible apply Ag.pu0) | ((with_reducible refine Ag.pu _ ?_ ?_); · exact rfl) | ((with_reducible refine Ag.mix ?_ ?_); · exact rfl) | ((with_reducible refine Ag.pus ?_ ?_); · exact rfl))) (by exact trivial) (by repeat (first | exact Ent.refl _ | (apply Ent.cons; · repeat (first | exact pk_head _ _ | apply pk_tail)) | apply Ent.skip))
                exact HR.nil
              exact HR.nil
            exact HR.nil
          exact HR.nil
        refine HR.consE (i := 4) (some 58) rfl rfl rfl (os_bslR ([v].map nc) T.un74 T.ti26 (by rfl) (by rfl) (by simp [nc_len]) (by decide) (by decide)) ?_ ?_
        · rintro _ _ ⟨b58, rfl, rfl⟩
          refine ⟨fun _ => ⟨_, (pkc (by repeat (first | exact pk_head _ _ | apply pk_tail)) (pkc (by repeat (first | exact pk_head _ _ | apply pk_tail)) (pkn _)))⟩, ?_⟩
          refine H_branch (rs := [2, 7]) (by kernel_rfl) (by simp) ?_
          refine HR.cons1 (i := 2) (some 56) rfl rfl rfl (os_call2 (WH1 b8 (upB ys xs.length) h b55 hh (by omega)) Try.func18 (by decide +kernel) rfl rfl (by repeat (first | exact pk_head _ _ | apply pk_tail)) (by repeat (first | exact pk_head _ _ | apply pk_tail))) (pkc (by repeat (first | exact pk_head _ _ | apply pk_tail)) (pkc (by repeat (first | exact pk_head _ _ | apply pk_tail)) (pkn _))) ?_ ?_
          · skip
            refine H_branch (rs := [5, 7]) (by kernel_rfl) (by simp) ?_
            refine HR.cons1 (i := 5) (some 59) rfl rfl rfl (os_call2 (WN1 b8 (upB ys xs.length ++ h) v b58 hvM (by simp only [List.length_append]; omega)) Try.func19 (by decide +kernel) rfl rfl (by repeat (first | exact pk_head _ _ | apply pk_tail)) (by repeat (first | exact pk_head _ _ | apply pk_tail))) (pkc (by repeat (first | exact pk_head _ _ | apply pk_tail)) (pkc (by repeat (first | exact pk_head _ _ | apply pk_tail)) (pkn _))) ?_ ?_
            · skip
              refine H_branch (rs := [7]) (by kernel_rfl) (by simp) ?_
              refine HR.consE (i := 7) (some 61) rfl rfl rfl (os_bslv (vs := [.slice none 0 0, .slice (some ⟨b60, 0, none⟩) 1 1]) T.un76 T.ti32 (by rfl) (by rfl) rfl (by simp [Value.oneCell']) (by decide) (by decide)) ?_ ?_
              · rintro _ _ ⟨b61, rfl, rfl⟩
                refine ⟨fun _ => ⟨_, (pkc (by repeat (first | exact pk_head _ _ | apply pk_tail)) (pkc (by repeat (first | exact pk_head _ _ | apply pk_tail)) (pkn _)))⟩, ?_⟩
                refine H_branch (rs := [8]) (by kernel_rfl) (by simp) ?_
                refine HR.cons1 (i := 8) (some 62) rfl rfl rfl (os_callI (WR1 b8 (upB ys xs.length ++ h ++ numB v) b61 b60 (by simp only [List.length_append]; omega)) Try.func20 (by decide +kernel) rfl rfl (pkc (by repeat (first | exact pk_head _ _ | apply pk_tail)) (pkc (by repeat (first | exact pk_head _ _ | apply pk_tail)) (pkc (by repeat (first | exact pk_head _ _ | apply pk_tail)) (pkn _))))) (pkc (by repeat (first | exact pk_head _ _ | apply pk_tail)) (pkc (by repeat (first | exact pk_head _ _ | apply pk_tail)) (pkn _))) ?_ ?_
                · skip
                  refine H_done (by kernel_rfl) ?_
                  exact Meet.cut () trivial (by repeat (first | (with_reducible exact Ag.refl _ _) | (with_reducible apply Ag.pu0) | ((with_reducible refine Ag.pu _ ?_ ?_); · exact rfl) | ((with_reducible refine Ag.mix ?_ ?_); · exact rfl) | ((with_reducible refine Ag.pus ?_ ?_); · exact rfl))) (by exact trivial) (by repeat (first | exact Ent.refl _ | (apply Ent.cons; · repeat (first | exact pk_head _ _ | apply pk_tail)) | apply Ent.skip))
                exact HR.nil
              exact HR.nil
            refine HR.consE (i := 7) (some 61) rfl rfl rfl (os_bslv (vs := [.slice none 0 0, .slice (some ⟨b60, 0, none⟩) 1 1]) T.un76 T.ti32 (by rfl) (by rfl) rfl (by simp [Value.oneCell']) (by decide) (by decide)) ?_ ?_
            · rintro _ _ ⟨b61, rfl, rfl⟩
              refine ⟨fun _ => ⟨_, (pkc (by repeat (first | exact pk_head _ _ | apply pk_tail)) (pkc (by repeat (first | exact pk_head _ _ | apply pk_tail)) (pkn _)))⟩, ?_⟩
              refine H_branch (rs := [5]) (by kernel_rfl) (by simp) ?_
              refine HR.cons1 (i := 5) (some 59) rfl rfl rfl (os_call2 (WN1 b8 (upB ys xs.length ++ h) v b58 hvM (by simp only [List.length_append]; omega)) Try.func19 (by decide +kernel) rfl rfl (by repeat (first | exact pk_head _ _ | apply pk_tail)) (by repeat (first | exact pk_head _ _ | apply pk_tail))) (pkc (by repeat (first | exact pk_head _ _ | apply pk_tail)) (pkc (by repeat (first | exact pk_head _ _ | apply pk_tail)) (pkn _))) ?_ ?_
              · skip
                refine H_branch (rs := [8]) (by kernel_rfl) (by simp) ?_
                refine HR.cons1 (i := 8) (some 62) rfl rfl rfl (os_callI (WR1 b8 (upB ys xs.length ++ h ++ numB v) b61 b60 (by simp only [List.length_append]; omega)) Try.func20 (by decide +kernel) rfl rfl (pkc (by repeat (first | exact pk_head _ _ | apply pk_tail)) (pkc (by repeat (first | exact pk_head _ _ | apply pk_tail)) (pkc (by repeat (first | exact pk_head _ _ | apply pk_tail)) (pkn _))))) (pkc (by repeat (first | exact pk_head _ _ | apply pk_tail)) (pkc (by repeat (first | exact pk_head _ _ | apply pk_tail)) (pkn _))) ?_ ?_
                · skip
                  refine H_done (by kernel_rfl) ?_
                  exact Meet.cut () trivial (by repeat (first | (with_reducible exact Ag.refl _ _) | (with_reducible apply Ag.pu0) | ((with_reducible refine Ag.pu _ ?_ ?_); · exact rfl) | ((with_reducible refine Ag.mix ?_ ?_); · exact rfl) | ((with_reducible refine Ag.pus ?_ ?_); · exact rfl))) (by exact trivial) (by repeat (first | exact Ent.refl _ | (apply Ent.cons; · repeat (first | exact pk_head _ _ | apply pk_tail)) | apply Ent.skip))
                exact HR.nil
              exact HR.nil
            exact HR.nil
          refine HR.consE (i := 7) (some 61) rfl rfl rfl (os_bslv (vs := [.slice none 0 0, .slice (some ⟨b60, 0, none⟩) 1 1]) T.un76 T.ti32 (by rfl) (by rfl) rfl (by simp [Value.oneCell']) (by decide) (by decide)) ?_ ?_
          · rintro _ _ ⟨b61, rfl, rfl⟩
            refine ⟨fun _ => ⟨_, (pkc (by repeat (first | exact pk_head _ _ | apply pk_tail)) (pkc (by repeat (first | exact pk_head _ _ | apply pk_tail)) (pkn _)))⟩, ?_⟩
            refine H_branch (rs := [2]) (by kernel_rfl) (by simp) ?_
            refine HR.cons1 (i := 2) (some 56) rfl rfl rfl (os_call2 (WH1 b8 (upB ys xs.length) h b55 hh (by omega)) Try.func18 (by decide +kernel) rfl rfl (by repeat (first | exact pk_head _ _ | apply pk_tail)) (by repeat (first | exact pk_head _ _ | apply pk_tail))) (pkc (by repeat (first | exact pk_head _ _ | apply pk_tail)) (pkc (by repeat (first | exact pk_head _ _ | apply pk_tail)) (pkn _))) ?_ ?_
            · skip
              refine H_branch (rs := [5]) (by kernel_rfl) (by simp) ?_
              refine HR.cons1 (i := 5) (some 59) rfl rfl rfl (os_call2 (WN1 b8 (upB ys xs.length ++ h) v b58 hvM (by simp only [List.length_append]; omega)) Try.func19 (by decide +kernel) rfl rfl (by repeat (first | exact pk_head _ _ | apply pk_tail)) (by repeat (first | exact pk_head _ _ | apply pk_tail))) (pkc (by repeat (first | exact pk_head _ _ | apply pk_tail)) (pkc (by repeat (first | exact pk_head _ _ | apply pk_tail)) (pkn _))) ?_ ?_
              · skip
                refine H_branch (rs := [8]) (by kernel_rfl) (by simp) ?_
                refine HR.cons1 (i := 8) (some 62) rfl rfl rfl (os_callI (WR1 b8 (upB ys xs.length ++ h ++ numB v) b61 b60 (by simp only [List.length_append]; omega)) Try.func20 (by decide +kernel) rfl rfl (pkc (by repeat (first | exact pk_head _ _ | apply pk_tail)) (pkc (by repeat (first | exact pk_head _ _ | apply pk_tail)) (pkc (by repeat (first | exact pk_head _ _ | apply pk_tail)) (pkn _))))) (pkc (by repeat (first | exact pk_head _ _ | apply pk_tail)) (pkc (by repeat (first | exact pk_head _ _ | apply pk_tail)) (pkn _))) ?_ ?_
                · skip
                  refine H_done (by kernel_rfl) ?_
                  exact Meet.cut () trivial (by repeat (first | (with_reducible exact Ag.refl _ _) | (with_reducible apply Ag.pu0) | ((with_reducible refine Ag.pu _ ?_ ?_); · exact rfl) | ((with_reducible refine Ag.mix ?_ ?_); · exact rfl) | ((with_reducible refine Ag.pus ?_ ?_); · exact rfl))) (by exact trivial) (by repeat (first | exact Ent.refl _ | (apply Ent.cons; · repeat (first | exact pk_head _ _ | apply pk_tail)) | apply Ent.skip))
                exact HR.nil
              exact HR.nil
            exact HR.nil
          exact HR.nil
        refine HR.consE (i := 7) (some 61) rfl rfl rfl (os_bslv (vs := [.slice none 0 0, .slice (some ⟨b60, 0, none⟩) 1 1]) T.un76 T.ti32 (by rfl) (by rfl) rfl (by simp [Value.oneCell']) (by decide) (by decide)) ?_ ?_
        · rintro _ _ ⟨b61, rfl, rfl⟩
          refine ⟨fun _ => ⟨_, (pkc (by repeat (first | exact pk_head _ _ | apply pk_tail)) (pkc (by repeat (first | exact pk_head _ _ | apply pk_tail)) (pkn _)))⟩, ?_⟩
          refine H_branch (rs := [2, 4]) (by kernel_rfl) (by simp) ?_
          refine HR.cons1 (i := 2) (some 56) rfl rfl rfl (os_call2 (WH1 b8 (upB ys xs.length) h b55 hh (by omega)) Try.func18 (by decide +kernel) rfl rfl (by repeat (first | exact pk_head _ _ | apply pk_tail)) (by repeat (first | exact pk_head _ _ | apply pk_tail))) (pkc (by repeat (first | exact pk_head _ _ | apply pk_tail)) (pkc (by repeat (first | exact pk_head _ _ | apply pk_tail)) (pkn _))) ?_ ?_
          · skip
            refine H_branch (rs := [4]) (by kernel_rfl) (by simp) ?_
            refine HR.consE (i := 4) (some 58) rfl rfl rfl (os_bslR ([v].map nc) T.un74 T.ti26 (by rfl) (by rfl) (by simp [nc_len]) (by decide) (by decide)) ?_ ?_
            · rintro _ _ ⟨b58, rfl, rfl⟩
              refine ⟨fun _ => ⟨_, (pkc (by repeat (first | exact pk_head _ _ | apply pk_tail)) (pkc (by repeat (first | exact pk_head _ _ | apply pk_tail)) (pkn _)))⟩, ?_⟩
              refine H_branch (rs := [5]) (by kernel_rfl) (by simp) ?_
              refine HR.cons1 (i := 5) (some 59) rfl rfl rfl (os_call2 (WN1 b8 (upB ys xs.length ++ h) v b58 hvM (by simp only [List.length_append]; omega)) Try.func19 (by decide +kernel) rfl rfl (by repeat (first | exact pk_head _ _ | apply pk_tail)) (by repeat (first | exact pk_head _ _ | apply pk_tail))) (pkc (by repeat (first | exact pk_head _ _ | apply pk_tail)) (pkc (by repeat (first | exact pk_head _ _ | apply pk_tail)) (pkn _))) ?_ ?_
              · skip
                refine H_branch (rs := [8]) (by kernel_rfl) (by simp) ?_
                refine HR.cons1 (i := 8) (some 62) rfl rfl rfl (os_callI (WR1 b8 (upB ys xs.length ++ h ++ numB v) b61 b60 (by simp only [List.length_append]; omega)) Try.func20 (by decide +kernel) rfl rfl (pkc (by repeat (first | exact pk_head _ _ | apply pk_tail)) (pkc (by repeat (first | exact pk_head _ _ | apply pk_tail)) (pkc (by repeat (first | exact pk_head _ _ | apply pk_tail)) (pkn _))))) (pkc (by repeat (first | exact pk_head _ _ | apply pk_tail)) (pkc (by repeat (first | exact pk_head _ _ | apply pk_tail)) (pkn _))) ?_ ?_
                · skip
                  refine H_done (by kernel_rfl) ?_
                  exact Meet.cut () trivial (by repeat (first | (with_reducible exact Ag.refl _ _) | (with_reducible apply Ag.pu0) | ((with_reducible refine Ag.pu _ ?_ ?_); · exact rfl) | ((with_reducible refine Ag.mix ?_ ?_); · exact rfl) | ((with_reducible refine Ag.pus ?_ ?_); · exact rfl))) (by exact trivial) (by repeat (first | exact Ent.refl _ | (apply Ent.cons; · repeat (first | exact pk_head _ _ | apply pk_tail)) | apply Ent.skip))
                exact HR.nil
              exact HR.nil
            exact HR.nil
          refine HR.consE (i := 4) (some 58) rfl rfl rfl (os_bslR ([v].map nc) T.un74 T.ti26 (by rfl) (by rfl) (by simp [nc_len]) (by decide) (by decide)) ?_ ?_
          · rintro _ _ ⟨b58, rfl, rfl⟩
            refine ⟨fun _ => ⟨_, (pkc (by repeat (first | exact pk_head _ _ | apply pk_tail)) (pkc (by repeat (first | exact pk_head _ _ | apply pk_tail)) (pkn _)))⟩, ?_⟩
            refine H_branch (rs := [2]) (by kernel_rfl) (by simp) ?_
            refine HR.cons1 (i := 2) (some 56) rfl rfl rfl (os_call2 (WH1 b8 (upB ys xs.length) h b55 hh (by omega)) Try.func18 (by decide +kernel) rfl rfl (by repeat (first | exact pk_head _ _ | apply pk_tail)) (by repeat (first | exact pk_head _ _ | apply pk_tail))) (pkc (by repeat (first | exact pk_head _ _ | apply pk_tail)) (pkc (by repeat (first | exact pk_head _ _ | apply pk_tail)) (pkn _))) ?_ ?_
            · skip
              refine H_branch (rs := [5]) (by kernel_rfl) (by simp) ?_
              refine HR.cons1 (i := 5) (some 59) rfl rfl rfl (os_call2 (WN1 b8 (upB ys xs.length ++ h) v b58 hvM (by simp only [List.length_append]; omega)) Try.func19 (by decide +kernel) rfl rfl (by repeat (first | exact pk_head _ _ | apply pk_tail)) (by repeat (first | exact pk_head _ _ | apply pk_tail))) (pkc (by repeat (first | exact pk_head _ _ | apply pk_tail)) (pkc (by repeat (first | exact pk_head _ _ | apply pk_tail)) (pkn _))) ?_ ?_
              · skip
                refine H_branch (rs := [8]) (by kernel_rfl) (by simp) ?_
                refine HR.cons1 (i := 8) (some 62) rfl rfl rfl (os_callI (WR1 b8 (upB ys xs.length ++ h ++ numB v) b61 b60 (by simp only [List.length_append]; omega)) Try.func20 (by decide +kernel) rfl rfl (pkc (by repeat (first | exact pk_head _ _ | apply pk_tail)) (pkc (by repeat (first | exact pk_head _ _ | apply pk_tail)) (pkc (by repeat (first | exact pk_head _ _ | apply pk_tail)) (pkn _))))) (pkc (by repeat (first | exact pk_head _ _ | apply pk_tail)) (pkc (by repeat (first | exact pk_head _ _ | apply pk_tail)) (pkn _))) ?_ ?_
                · skip
                  refine H_done (by kernel_rfl) ?_
                  exact Meet.cut () trivial (by repeat (first | (with_reducible exact Ag.refl _ _) | (with_reducible apply Ag.pu0) | ((with_reducible refine Ag.pu _ ?_ ?_); · exact rfl) | ((with_reducible refine Ag.mix ?_ ?_); · exact rfl) | ((with_reducible refine Ag.pus ?_ ?_); · exact rfl))) (by exact trivial) (by repeat (first | exact Ent.refl _ | (apply Ent.cons; · repeat (first | exact pk_head _ _ | apply pk_tail)) | apply Ent.skip))
                exact HR.nil
              exact HR.nil
            exact HR.nil
          exact HR.nil
        exact HR.nil
      exact HR.nil
    refine HR.consE (i := 4) (some 58) rfl rfl rfl (os_bslR ([v].map nc) T.un74 T.ti26 (by rfl) (by rfl) (by simp [nc_len]) (by decide) (by decide)) ?_ ?_
    · rintro _ _ ⟨b58, rfl, rfl⟩
      refine ⟨fun _ => ⟨_, (pkc (by repeat (first | exact pk_head _ _ | apply pk_tail)) (pkc (by repeat (first | exact pk_head _ _ | apply pk_tail)) (pkn _)))⟩, ?_⟩
      refine H_branch (rs := [1, 6]) (by kernel_rfl) (by simp) ?_
      refine HR.consE (i := 1) (some 55) rfl rfl rfl (os_bslR [bv h] T.un73 T.ti43 (by rfl) (by rfl) (by simp [hh]) (by decide) (by decide)) ?_ ?_
      · rintro _ _ ⟨b55, rfl, rfl⟩
        refine ⟨fun _ => ⟨_, (pkc (by repeat (first | exact pk_head _ _ | apply pk_tail)) (pkc (by repeat (first | exact pk_head _ _ | apply pk_tail)) (pkn _)))⟩, ?_⟩
        refine H_branch (rs := [2, 6]) (by kernel_rfl) (by simp) ?_
        refine HR.cons1 (i := 2) (some 56) rfl rfl rfl (os_call2 (WH1 b8 (upB ys xs.length) h b55 hh (by omega)) Try.func18 (by decide +kernel) rfl rfl (by repeat (first | exact pk_head _ _ | apply pk_tail)) (by repeat (first | exact pk_head _ _ | apply pk_tail))) (pkc (by repeat (first | exact pk_head _ _ | apply pk_tail)) (pkc (by repeat (first | exact pk_head _ _ | apply pk_tail)) (pkn _))) ?_ ?_
        · skip
          refine H_branch (rs := [5, 6]) (by kernel_rfl) (by simp) ?_
          refine HR.cons1 (i := 5) (some 59) rfl rfl rfl (os_call2 (WN1 b8 (upB ys xs.length ++ h) v b58 hvM (by simp only [List.length_append]; omega)) Try.func19 (by decide +kernel) rfl rfl (by repeat (first | exact pk_head _ _ | apply pk_tail)) (by repeat (first | exact pk_head _ _ | apply pk_tail))) (pkc (by repeat (first | exact pk_head _ _ | apply pk_tail)) (pkc (by repeat (first | exact pk_head _ _ | apply pk_tail)) (pkn _))) ?_ ?_
          · skip
            refine H_branch (rs := [6]) (by kernel_rfl) (by simp) ?_
            refine HR.consE (i := 6) (some 60) rfl rfl rfl (os_bslv (vs := bv [9]) T.un32 T.ti5 (by rfl) (by rfl) rfl (bv_one _) (by decide) (by decide)) ?_ ?_
            · rintro _ _ ⟨b60, rfl, rfl⟩
              refine ⟨fun _ => ⟨_, (pkc (by repeat (first | exact pk_head _ _ | apply pk_tail)) (pkc (by repeat (first | exact pk_head _ _ | apply pk_tail)) (pkn _)))⟩, ?_⟩
              refine H_branch (rs := [7]) (by kernel_rfl) (by simp) ?_
              refine HR.consE (i := 7) (some 61) rfl rfl rfl (os_bslv (vs := [.slice none 0 0, .slice (some ⟨b60, 0, none⟩) 1 1]) T.un76 T.ti32 (by rfl) (by rfl) rfl (by simp [Value.oneCell']) (by decide) (by decide)) ?_ ?_
              · rintro _ _ ⟨b61, rfl, rfl⟩
                refine ⟨fun _ => ⟨_, (pkc (by repeat (first | exact pk_head _ _ | apply pk_tail)) (pkc (by repeat (first | exact pk_head _ _ | apply pk_tail)) (pkn _)))⟩, ?_⟩
                refine H_branch (rs := [8]) (by kernel_rfl) (by simp) ?_
                refine HR.cons1 (i := 8) (some 62) rfl rfl rfl (os_callI (WR1 b8 (upB ys xs.length ++ h ++ numB v) b61 b60 (by simp only [List.length_append]; omega)) Try.func20 (by decide +kernel) rfl rfl (pkc (by repeat (first | exact pk_head _ _ | apply pk_tail)) (pkc (by repeat (first | exact pk_head _ _ | apply pk_tail)) (pkc (by repeat (first | exact pk_head _ _ | apply pk_tail)) (pkn _))))) (pkc (by repeat (first | exact pk_head _ _ | apply pk_tail)) (pkc (by repeat (first | exact pk_head _ _ | apply pk_tail)) (pkn _))) ?_ ?_
                · skip
                  refine H_done (by kernel_rfl) ?_
                  exact Meet.cut () trivial (by repeat (first | (with_reducible exact Ag.refl _ _) | (with_reducible apply Ag.pu0) | ((with_reducible refine Ag.pu _ ?_ ?_); · exact rfl) | ((with_reducible refine Ag.mix ?_ ?_); · exact rfl) | ((with_reducible refine Ag.pus ?_ ?_); · exact rfl))) (by exact trivial) (by repeat (first | exact Ent.refl _ | (apply Ent.cons; · repeat (first | exact pk_head _ _ | apply pk_tail)) | apply Ent.skip))
                exact HR.nil
              exact HR.nil
            exact HR.nil
          refine HR.consE (i := 6) (some 60) rfl rfl rfl (os_bslv (vs := bv [9]) T.un32 T.ti5 (by rfl) (by rfl) rfl (bv_one _) (by decide) (by decide)) ?_ ?_
          · rintro _ _ ⟨b60, rfl, rfl⟩
            refine ⟨fun _ => ⟨_, (pkc (by repeat (first | exact pk_head _ _ | apply pk_tail)) (pkc (by repeat (first | exact pk_head _ _ | apply pk_tail)) (pkn _)))⟩, ?_⟩
            refine H_branch (rs := [5, 7]) (by kernel_rfl) (by simp) ?_
            refine HR.cons1 (i := 5) (some 59) rfl rfl rfl (os_call2 (WN1 b8 (upB ys xs.length ++ h) v b58 hvM (by simp only [List.length_append]; omega)) Try.func19 (by decide +kernel) rfl rfl (by repeat (first | exact pk_head _ _ | apply pk_tail)) (by repeat (first | exact pk_head _ _ | apply pk_tail))) (pkc (by repeat (first | exact pk_head _ _ | apply pk_tail)) (pkc (by repeat (first | exact pk_head _ _ | apply pk_tail)) (pkn _))) ?_ ?_
            · skip
              refine H_branch (rs := [7]) (by kernel_rfl) (by simp) ?_
              refine HR.consE (i := 7) (some 61) rfl rfl rfl (os_bslv (vs := [.slice none 0 0, .slice (some ⟨b60, 0, none⟩) 1 1]) T.un76 T.ti32 (by rfl) (by rfl) rfl (by simp [Value.oneCell']) (by decide) (by decide)) ?_ ?_
              · rintro _ _ ⟨b61, rfl, rfl⟩
                refine ⟨fun _ => ⟨_, (pkc (by repeat (first | exact pk_head _ _ | apply pk_tail)) (pkc (by repeat (first | exact pk_head _ _ | apply pk_tail)) (pkn _)))⟩, ?_⟩
                refine H_branch (rs := [8]) (by kernel_rfl) (by simp) ?_
                refine HR.cons1 (i := 8) (some 62) rfl rfl rfl (os_callI (WR1 b8 (upB ys xs.length ++ h ++ numB v) b61 b60 (by simp only [List.length_append]; omega)) Try.func20 (by decide +kernel) rfl rfl (pkc (by repeat (first | exact pk_head _ _ | apply pk_tail)) (pkc (by repeat (first | exact pk_head _ _ | apply pk_tail)) (pkc (by repeat (first | exact pk_head _ _ | apply pk_tail)) (pkn _))))) (pkc (by repeat (first | exact pk_head _ _ | apply pk_tail)) (pkc (by repeat (first | exact pk_head _ _ | apply pk_tail)) (pkn _))) ?_ ?_
                · skip
                  refine H_done (by kernel_rfl) ?_
                  exact Meet.cut () trivial (by repeat (first | (with_reducible exact Ag.refl _ _) | (with_reducible apply Ag.pu0) | ((with_reducible refine Ag.pu _ ?_ ?_); · exact rfl) | ((with_reducible refine Ag.mix ?_ ?_); · exact rfl) | ((with_reducible refine Ag.pus ?_ ?_); · exact rfl))) (by exact trivial) (by repeat (first | exact Ent.refl _ | (apply Ent.cons; · repeat (first | exact pk_head _ _ | apply pk_tail)) | apply Ent.skip))
                exact HR.nil
              exact HR.nil
            refine HR.consE (i := 7) (some 61) rfl rfl rfl (os_bslv (vs := [.slice none 0 0, .slice (some ⟨b60, 0, none⟩) 1 1]) T.un76 T.ti32 (by rfl) (by rfl) rfl (by simp [Value.oneCell']) (by decide) (by decide)) ?_ ?_
            · rintro _ _ ⟨b61, rfl, rfl⟩
              refine ⟨fun _ => ⟨_, (pkc (by repeat (first | exact pk_head _ _ | apply pk_tail)) (pkc (by repeat (first | exact pk_head _ _ | apply pk_tail)) (pkn _)))⟩, ?_⟩
              refine H_branch (rs := [5]) (by kernel_rfl) (by simp) ?_
              refine HR.cons1 (i := 5) (some 59) rfl rfl rfl (os_call2 (WN1 b8 (upB ys xs.length ++ h) v b58 hvM (by simp only [List.length_append]; omega)) Try.func19 (by decide +kernel) rfl rfl (by repeat (first | exact pk_head _ _ | apply pk_tail)) (by repeat (first | exact pk_head _ _ | apply pk_tail))) (pkc (by repeat (first | exact pk_head _ _ | apply pk_tail)) (pkc (by repeat (first | exact pk_head _ _ | apply pk_tail)) (pkn _))) ?_ ?_
              · skip
                refine H_branch (rs := [8]) (by kernel_rfl) (by simp) ?_
                refine HR.cons1 (i := 8) (some 62) rfl rfl rfl (os_callI (WR1 b8 (upB ys xs.length ++ h ++ numB v) b61 b60 (by simp only [List.length_append]; omega)) Try.func20 (by decide +kernel) rfl rfl (pkc (by repeat (first | exact pk_head _ _ | apply pk_tail)) (pkc (by repeat (first | exact pk_head _ _ | apply pk_tail)) (pkc (by repeat (first | exact pk_head _ _ | apply pk_tail)) (pkn _))))) (pkc (by repeat (first | exact pk_head _ _ | apply pk_tail)) (pkc (by repeat (first | exact pk_head _ _ | apply pk_tail)) (pkn _))) ?_ ?_
                · skip
                  refine H_done (by kernel_rfl) ?_
                  exact Meet.cut () trivial (by repeat (first | (with_reducible exact Ag.refl _ _) | (with_reducible apply Ag.pu0) | ((with_reducible refine Ag.pu _ ?_ ?_); · exact rfl) | ((with_reducible refine Ag.mix ?_ ?_); · exact rfl) | ((with_reducible refine Ag.pus ?_ ?_); · exact rfl))) (by exact trivial) (by repeat (first | exact Ent.refl _ | (apply Ent.cons; · repeat (first | exact pk_head _ _ | apply pk_tail)) | apply Ent.skip))
                exact HR.nil
              exact HR.nil
            exact HR.nil
          exact HR.nil
        refine HR.consE (i := 6) (some 60) rfl rfl rfl (os_bslv (vs := bv [9]) T.un32 T.ti5 (by rfl) (by rfl) rfl (bv_one _) (by decide) (by decide)) ?_ ?_
        · rintro _ _ ⟨b60, rfl, rfl⟩
          refine ⟨fun _ => ⟨_, (pkc (by repeat (first | exact pk_head _ _ | apply pk_tail)) (pkc (by repeat (first | exact pk_head _ _ | apply pk_tail)) (pkn _)))⟩, ?_⟩
          refine H_branch (rs := [2, 7]) (by kernel_rfl) (by simp) ?_
          refine HR.cons1 (i := 2) (some 56) rfl rfl rfl (os_call2 (WH1 b8 (upB ys xs.length) h b55 hh (by omega)) Try.func18 (by decide +kernel) rfl rfl (by repeat (first | exact pk_head _ _ | apply pk_tail)) (by repeat (first | exact pk_head _ _ | apply pk_tail))) (pkc (by repeat (first | exact pk_head _ _ | apply pk_tail)) (pkc (by repeat (first | exact pk_head _ _ | apply pk_tail)) (pkn _))) ?_ ?_
          · skip
            refine H_branch (rs := [5, 7]) (by kernel_rfl) (by simp) ?_
            refine HR.cons1 (i := 5) (some 59) rfl rfl rfl (os_call2 (WN1 b8 (upB ys xs.length ++ h) v b58 hvM (by simp only [List.length_append]; omega)) Try.func19 (by decide +kernel) rfl rfl (by repeat (first | exact pk_head _ _ | apply pk_tail)) (by repeat (first | exact pk_head _ _ | apply pk_tail))) (pkc (by repeat (first | exact pk_head _ _ | apply pk_tail)) (pkc (by repeat (first | exact pk_head _ _ | apply pk_tail)) (pkn _))) ?_ ?_
            · skip
              refine H_branch (rs := [7]) (by kernel_rfl) (by simp) ?_
              refine HR.consE (i := 7) (some 61) rfl rfl rfl (os_bslv (vs := [.slice none 0 0, .slice (some ⟨b60, 0, none⟩) 1 1]) T.un76 T.ti32 (by rfl) (by rfl) rfl (by simp [Value.oneCell']) (by decide) (by decide)) ?_ ?_
              · rintro _ _ ⟨b61, rfl, rfl⟩
                refine ⟨fun _ => ⟨_, (pkc (by repeat (first | exact pk_head _ _ | apply pk_tail)) (pkc (by repeat (first | exact pk_head _ _ | apply pk_tail)) (pkn _)))⟩, ?_⟩
                refine H_branch (rs := [8]) (by kernel_rfl) (by simp) ?_
                refine HR.cons1 (i := 8) (some 62) rfl rfl rfl (os_callI (WR1 b8 (upB ys xs.length ++ h ++ numB v) b61 b60 (by simp only [List.length_append]; omega)) Try.func20 (by decide +kernel) rfl rfl (pkc (by repeat (first | exact pk_head _ _ | apply pk_tail)) (pkc (by repeat (first | exact pk_head _ _ | apply pk_tail)) (pkc (by repeat (first | exact pk_head _ _ | apply pk_tail)) (pkn _))))) (pkc (by repeat (first | exact pk_head _ _ | apply pk_tail)) (pkc (by repeat (first | exact pk_head _ _ | apply pk_tail)) (pkn _))) ?_ ?_
                · skip
                  refine H_done (by kernel_rfl) ?_
                  exact Meet.cut () trivial (by repeat (first | (with_reducible exact Ag.refl _ _) | (with_reducible apply Ag.pu0) | ((with_reducible refine Ag.pu _ ?_ ?_); · exact rfl) | ((with_reducible refine Ag.mix ?_ ?_); · exact rfl) | ((with_reducible refine Ag.pus ?_ ?_); · exact rfl))) (by exact trivial) (by repeat (first | exact Ent.refl _ | (apply Ent.cons; · repeat (first | exact pk_head _ _ | apply pk_tail)) | apply Ent.skip))
                exact HR.nil
              exact HR.nil
            refine HR.consE (i := 7) (some 61) rfl rfl rfl (os_bslv (vs := [.slice none 0 0, .slice (some ⟨b60, 0, none⟩) 1 1]) T.un76 T.ti32 (by rfl) (by rfl) rfl (by simp [Value.oneCell']) (by decide) (by decide)) ?_ ?_
            · rintro _ _ ⟨b61, rfl, rfl⟩
              refine ⟨fun _ => ⟨_, (pkc (by repeat (first | exact pk_head _ _ | apply pk_tail)) (pkc (by repeat (first | exact pk_head _ _ | apply pk_tail)) (pkn _)))⟩, ?_⟩
              refine H_branch (rs := [5]) (by kernel_rfl) (by simp) ?_
              refine HR.cons1 (i := 5) (some 59) rfl rfl rfl (os_call2 (WN1 b8 (upB ys xs.length ++ h) v b58 hvM (by simp only [List.length_append]; omega)) Try.func19 (by decide +kernel) rfl rfl (by repeat (first | exact pk_head _ _ | apply pk_tail)) (by repeat (first | exact pk_head _ _ | apply pk_tail))) (pkc (by repeat (first | exact pk_head _ _ | apply pk_tail)) (pkc (by repeat (first | exact pk_head _ _ | apply pk_tail)) (pkn _))) ?_ ?_
              · skip
                refine H_branch (rs := [8]) (by kernel_rfl) (by simp) ?_
                refine HR.cons1 (i := 8) (some 62) rfl rfl rfl (os_callI (WR1 b8 (upB ys xs.length ++ h ++ numB v) b61 b60 (by simp only [List.length_append]; omega)) Try.func20 (by decide +kernel) rfl rfl (pkc (by repeat (first | exact pk_head _ _ | apply pk_tail)) (pkc (by repeat (first | exact pk_head _ _ | apply pk_tail)) (pkc (by repeat (first | exact pk_head _ _ | apply pk_tail)) (pkn _))))) (pkc (by repeat (first | exact pk_head _ _ | apply pk_tail)) (pkc (by repeat (first | exact pk_head _ _ | apply pk_tail)) (pkn _))) ?_ ?_
                · skip
                  refine H_done (by kernel_rfl) ?_
                  exact Meet.cut () trivial (by repeat (first | (with_reducible exact Ag.refl _ _) | (with_reducible apply Ag.pu0) | ((with_reducible refine Ag.pu _ ?_ ?_); · exact rfl) | ((with_reducible refine Ag.mix ?_ ?_); · exact rfl) | ((with_reducible refine Ag.pus ?_ ?_); · exact rfl))) (by exact trivial) (by repeat (first | exact Ent.refl _ | (apply Ent.cons; · repeat (first | exact pk_head _ _ | apply pk_tail)) | apply Ent.skip))
                exact HR.nil
              exact HR.nil
            exact HR.nil
          refine HR.consE (i := 7) (some 61) rfl rfl rfl (os_bslv (vs := [.slice none 0 0, .slice (some ⟨b60, 0, none⟩) 1 1]) T.un76 T.ti32 (by rfl) (by rfl) rfl (by simp [Value.oneCell']) (by decide) (by decide)) ?_ ?_
          · rintro _ _ ⟨b61, rfl, rfl⟩
            refine ⟨fun _ => ⟨_, (pkc (by repeat (first | exact pk_head _ _ | apply pk_tail)) (pkc (by repeat (first | exact pk_head _ _ | apply pk_tail)) (pkn _)))⟩, ?_⟩
            refine H_branch (rs := [2]) (by kernel_rfl) (by simp) ?_
            refine HR.cons1 (i := 2) (some 56) rfl rfl rfl (os_call2 (WH1 b8 (upB ys xs.length) h b55 hh (by omega)) Try.func18 (by decide +kernel) rfl rfl (by repeat (first | exact pk_head _ _ | apply pk_tail)) (by repeat (first | exact pk_head _ _ | apply pk_tail))) (pkc (by repeat (first | exact pk_head _ _ | apply pk_tail)) (pkc (by repeat (first | exact pk_head _ _ | apply pk_tail)) (pkn _))) ?_ ?_
            · skip
              refine H_branch (rs := [5]) (by kernel_rfl) (by simp) ?_
              refine HR.cons1 (i := 5) (some 59) rfl rfl rfl (os_call2 (WN1 b8 (upB ys xs.length ++ h) v b58 hvM (by simp only [List.length_append]; omega)) Try.func19 (by decide +kernel) rfl rfl (by repeat (first | exact pk_head _ _ | apply pk_tail)) (by repeat (first | exact pk_head _ _ | apply pk_tail))) (pkc (by repeat (first | exact pk_head _ _ | apply pk_tail)) (pkc (by repeat (first | exact pk_head _ _ | apply pk_tail)) (pkn _))) ?_ ?_
              · skip
                refine H_branch (rs := [8]) (by kernel_rfl) (by simp) ?_
                refine HR.cons1 (i := 8) (some 62) rfl rfl rfl (os_callI (WR1 b8 (upB ys xs.length ++ h ++ numB v) b61 b60 (by simp only [List.length_append]; omega)) Try.func20 (by decide +kernel) rfl rfl (pkc (by repeat (first | exact pk_head _ _ | apply pk_tail)) (pkc (by repeat (first | exact pk_head _ _ | apply pk_tail)) (pkc (by repeat (first | exact pk_head _ _ | apply pk_tail)) (pkn _))))) (pkc (by repeat (first | exact pk_head _ _ | apply pk_tail)) (pkc (by repeat (first | exact pk_head _ _ | apply pk_tail)) (pkn _))) ?_ ?_
                · skip
                  refine H_done (by kernel_rfl) ?_
                  exact Meet.cut () trivial (by repeat (first | (with_reducible exact Ag.refl _ _) | (with_reducible apply Ag.pu0) | ((with_reducible refine Ag.pu _ ?_ ?_); · exact rfl) | ((with_reducible refine Ag.mix ?_ ?_); · exact rfl) | ((with_reducible refine Ag.pus ?_ ?_); · exact rfl))) (by exact trivial) (by repeat (first | exact Ent.refl _ | (apply Ent.cons; · repeat (first | exact pk_head _ _ | apply pk_tail)) | apply Ent.skip))
                exact HR.nil
              exact HR.nil
            exact HR.nil
          exact HR.nil
        exact HR.nil
      refine HR.consE (i := 6) (some 60) rfl rfl rfl (os_bslv (vs := bv [9]) T.un32 T.ti5 (by rfl) (by rfl) rfl (bv_one _) (by decide) (by decide)) ?_ ?_
      · rintro _ _ ⟨b60, rfl, rfl⟩
        refine ⟨fun _ => ⟨_, (pkc (by repeat (first | exact pk_head _ _ | apply pk_tail)) (pkc (by repeat (first | exact pk_head _ _ | apply pk_tail)) (pkn _)))⟩, ?_⟩
        refine H_branch (rs := [1, 7]) (by kernel_rfl) (by simp) ?_
        refine HR.consE (i := 1) (some 55) rfl rfl rfl (os_bslR [bv h] T.un73 T.ti43 (by rfl) (by rfl) (by simp [hh]) (by decide) (by decide)) ?_ ?_
        · rintro _ _ ⟨b55, rfl, rfl⟩
          refine ⟨fun _ => ⟨_, (pkc (by repeat (first | exact pk_head _ _ | apply pk_tail)) (pkc (by repeat (first | exact pk_head _ _ | apply pk_tail)) (pkn _)))⟩, ?_⟩
          refine H_branch (rs := [2, 7]) (by kernel_rfl) (by simp) ?_
          refine HR.cons1 (i := 2) (some 56) rfl rfl rfl (os_call2 (WH1 b8 (upB ys xs.length) h b55 hh (by omega)) Try.func18 (by decide +kernel) rfl rfl (by repeat (first | exact pk_head _ _ | apply pk_tail)) (by repeat (first | exact pk_head _ _ | apply pk_tail))) (pkc (by repeat (first | exact pk_head _ _ | apply pk_tail)) (pkc (by repeat (first | exact pk_head _ _ | apply pk_tail)) (pkn _))) ?_ ?_
          · skip
            refine H_branch (rs := [5, 7]) (by kernel_rfl) (by simp) ?_
            refine HR.cons1 (i := 5) (some 59) rfl rfl rfl (os_call2 (WN1 b8 (upB ys xs.length ++ h) v b58 hvM (by simp only [List.length_append]; omega)) Try.func19 (by decide +kernel) rfl rfl (by repeat (first | exact pk_head _ _ | apply pk_tail)) (by repeat (first | exact pk_head _ _ | apply pk_tail))) (pkc (by repeat (first | exact pk_head _ _ | apply pk_tail)) (pkc (by repeat (first | exact pk_head _ _ | apply pk_tail)) (pkn _))) ?_ ?_
            · skip
              refine H_branch (rs := [7]) (by kernel_rfl) (by simp) ?_
              refine HR.consE (i := 7) (some 61) rfl rfl rfl (os_bslv (vs := [.slice none 0 0, .slice (some ⟨b60, 0, none⟩) 1 1]) T.un76 T.ti32 (by rfl) (by rfl) rfl (by simp [Value.oneCell']) (by decide) (by decide)) ?_ ?_
              · rintro _ _ ⟨b61, rfl, rfl⟩
                refine ⟨fun _ => ⟨_, (pkc (by repeat (first | exact pk_head _ _ | apply pk_tail)) (pkc (by repeat (first | exact pk_head _ _ | apply pk_tail)) (pkn _)))⟩, ?_⟩
                refine H_branch (rs := [8]) (by kernel_rfl) (by simp) ?_
                refine HR.cons1 (i := 8) (some 62) rfl rfl rfl (os_callI (WR1 b8 (upB ys xs.length ++ h ++ numB v) b61 b60 (by simp only [List.length_append]; omega)) Try.func20 (by decide +kernel) rfl rfl (pkc (by repeat (first | exact pk_head _ _ | apply pk_tail)) (pkc (by repeat (first | exact pk_head _ _ | apply pk_tail)) (pkc (by repeat (first | exact pk_head _ _ | apply pk_tail)) (pkn _))))) (pkc (by repeat (first | exact pk_head _ _ | apply pk_tail)) (pkc (by repeat (first | exact pk_head _ _ | apply pk_tail)) (pkn _))) ?_ ?_
                · skip
                  refine H_done (by kernel_rfl) ?_
                  exact Meet.cut () trivial (by repeat (first | (with_reducible exact Ag.refl _ _) | (with_reducible apply Ag.pu0) | ((with_reducible refine Ag.pu _ ?_ ?_); · exact rfl) | ((with_reducible refine Ag.mix ?_ ?_); · exact rfl) | ((with_reducible refine Ag.pus ?_ ?_); · exact rfl))) (by exact trivial) (by repeat (first | exact Ent.refl _ | (apply Ent.cons; · repeat (first | exact pk_head _ _ | apply pk_tail)) | apply Ent.skip))
                exact HR.nil
              exact HR.nil
            refine HR.consE (i := 7) (some 61) rfl rfl rfl (os_bslv (vs := [.slice none 0 0, .slice (some ⟨b60, 0, none⟩) 1 1]) T.un76 T.ti32 (by rfl) (by rfl) rfl (by simp [Value.oneCell']) (by decide) (by decide)) ?_ ?_
            · rintro _ _ ⟨b61, rfl, rfl⟩
              refine ⟨fun _ => ⟨_, (pkc (by repeat (first | exact pk_head _ _ | apply pk_tail)) (pkc (by repeat (first | exact pk_head _ _ | apply pk_tail)) (pkn _)))⟩, ?_⟩
              refine H_branch (rs := [5]) (by kernel_rfl) (by simp) ?_
              refine HR.cons1 (i := 5) (some 59) rfl rfl rfl (os_call2 (WN1 b8 (upB ys xs.length ++ h) v b58 hvM (by simp only [List.length_append]; omega)) Try.func19 (by decide +kernel) rfl rfl (by repeat (first | exact pk_head _ _ | apply pk_tail)) (by repeat (first | exact pk_head _ _ | apply pk_tail))) (pkc (by repeat (first | exact pk_head _ _ | apply pk_tail)) (pkc (by repeat (first | exact pk_head _ _ | apply pk_tail)) (pkn _))) ?_ ?_
              · skip
                refine H_branch (rs := [8]) (by kernel_rfl) (by simp) ?_
                refine HR.cons1 (i := 8) (some 62) rfl rfl rfl (os_callI (WR1 b8 (upB ys xs.length ++ h ++ numB v) b61 b60 (by simp only [List.length_append]; omega)) Try.func20 (by decide +kernel) rfl rfl (pkc (by repeat (first | exact pk_head _ _ | apply pk_tail)) (pkc (by repeat (first | exact pk_head _ _ | apply pk_tail)) (pkc (by repeat (first | exact pk_head _ _ | apply pk_tail)) (pkn _))))) (pkc (by repeat (first | exact pk_head _ _ | apply pk_tail)) (pkc (by repeat (first | exact pk_head _ _ | apply pk_tail)) (pkn _))) ?_ ?_
                · skip
                  refine H_done (by kernel_rfl) ?_
                  exact Meet.cut () trivial (by repeat (first | (with_reducible exact Ag.refl _ _) | (with_reducible apply Ag.pu0) | ((with_reducible refine Ag.pu _ ?_ ?_); · exact rfl) | ((with_reducible refine Ag.mix ?_ ?_); · exact rfl) | ((with_reducible refine Ag.pus ?_ ?_); · exact rfl))) (by exact trivial) (by repeat (first | exact Ent.refl _ | (apply Ent.cons; · repeat (first | exact pk_head _ _ | apply pk_tail)) | apply Ent.skip))
                exact HR.nil
              exact HR.nil
            exact HR.nil
          refine HR.consE (i := 7) (some 61) rfl rfl rfl (os_bslv (vs := [.slice none 0 0, .slice (some ⟨b60, 0, none⟩) 1 1]) T.un76 T.ti32 (by rfl) (by rfl) rfl (by simp [Value.oneCell']) (by decide) (by decide)) ?_ ?_
          · rintro _ _ ⟨b61, rfl, rfl⟩
            refine ⟨fun _ => ⟨_, (pkc (by repeat (first | exact pk_head _ _ | apply pk_tail)) (pkc (by repeat (first | exact pk_head _ _ | apply pk_tail)) (pkn _)))⟩, ?_⟩
            refine H_branch (rs := [2]) (by kernel_rfl) (by simp) ?_
            refine HR.cons1 (i := 2) (some 56) rfl rfl rfl (os_call2 (WH1 b8 (upB ys xs.length) h b55 hh (by omega)) Try.func18 (by decide +kernel) rfl rfl (by repeat (first | exact pk_head _ _ | apply pk_tail)) (by repeat (first | exact pk_head _ _ | apply pk_tail))) (pkc (by repeat (first | exact pk_head _ _ | apply pk_tail)) (pkc (by repeat (first | exact pk_head _ _ | apply pk_tail)) (pkn _))) ?_ ?_
            · skip
              refine H_branch (rs := [5]) (by kernel_rfl) (by simp) ?_
              refine HR.cons1 (i := 5) (some 59) rfl rfl rfl (os_call2 (WN1 b8 (upB ys xs.length ++ h) v b58 hvM (by simp only [List.length_append]; omega)) Try.func19 (by decide +kernel) rfl rfl (by repeat (first | exact pk_head _ _ | apply pk_tail)) (by repeat (first | exact pk_head _ _ | apply pk_tail))) (pkc (by repeat (first | exact pk_head _ _ | apply pk_tail)) (pkc (by repeat (first | exact pk_head _ _ | apply pk_tail)) (pkn _))) ?_ ?_
              · skip
                refine H_branch (rs := [8]) (by kernel_rfl) (by simp) ?_
                refine HR.cons1 (i := 8) (some 62) rfl rfl rfl (os_callI (WR1 b8 (upB ys xs.length ++ h ++ numB v) b61 b60 (by simp only [List.length_append]; omega)) Try.func20 (by decide +kernel) rfl rfl (pkc (by repeat (first | exact pk_head _ _ | apply pk_tail)) (pkc (by repeat (first | exact pk_head _ _ | apply pk_tail)) (pkc (by repeat (first | exact pk_head _ _ | apply pk_tail)) (pkn _))))) (pkc (by repeat (first | exact pk_head _ _ | apply pk_tail)) (pkc (by repeat (first | exact pk_head _ _ | apply pk_tail)) (pkn _))) ?_ ?_
                · skip
                  refine H_done (by kernel_rfl) ?_
                  exact Meet.cut () trivial (by repeat (first | (with_reducible exact Ag.refl _ _) | (with_reducible apply Ag.pu0) | ((with_reducible refine Ag.pu _ ?_ ?_); · exact rfl) | ((with_reducible refine Ag.mix ?_ ?_); · exact rfl) | ((with_reducible refine Ag.pus ?_ ?_); · exact rfl))) (by exact trivial) (by repeat (first | exact Ent.refl _ | (apply Ent.cons; · repeat (first | exact pk_head _ _ | apply pk_tail)) | apply Ent.skip))
                exact HR.nil
              exact HR.nil
            exact HR.nil
          exact HR.nil
        refine HR.consE (i := 7) (some 61) rfl rfl rfl (os_bslv (vs := [.slice none 0 0, .slice (some ⟨b60, 0, none⟩) 1 1]) T.un76 T.ti32 (by rfl) (by rfl) rfl (by simp [Value.oneCell']) (by decide) (by decide)) ?_ ?_
        · rintro _ _ ⟨b61, rfl, rfl⟩
          refine ⟨fun _ => ⟨_, (pkc (by repeat (first | exact pk_head _ _ | apply pk_tail)) (pkc (by repeat (first | exact pk_head _ _ | apply pk_tail)) (pkn _)))⟩, ?_⟩
          refine H_branch (rs := [1]) (by kernel_rfl) (by simp) ?_
          refine HR.consE (i := 1) (some 55) rfl rfl rfl (os_bslR [bv h] T.un73 T.ti43 (by rfl) (by rfl) (by simp [hh]) (by decide) (by decide)) ?_ ?_
          · rintro _ _ ⟨b55, rfl, rfl⟩
            refine ⟨fun _ => ⟨_, (pkc (by repeat (first | exact pk_head _ _ | apply pk_tail)) (pkc (by repeat (first | exact pk_head _ _ | apply pk_tail)) (pkn _)))⟩, ?_⟩
            refine H_branch (rs := [2]) (by kernel_rfl) (by simp) ?_
            refine HR.cons1 (i := 2) (some 56) rfl rfl rfl (os_call2 (WH1 b8 (upB ys xs.length) h b55 hh (by omega)) Try.func18 (by decide +kernel) rfl rfl (by repeat (first | exact pk_head _ _ | apply pk_tail)) (by repeat (first | exact pk_head _ _ | apply pk_tail))) (pkc (by repeat (first | exact pk_head _ _ | apply pk_tail)) (pkc (by repeat (first | exact pk_head _ _ | apply pk_tail)) (pkn _))) ?_ ?_
            · skip
              refine H_branch (rs := [5]) (by kernel_rfl) (by simp) ?_
              refine HR.cons1 (i := 5) (some 59) rfl rfl rfl (os_call2 (WN1 b8 (upB ys xs.length ++ h) v b58 hvM (by simp only [List.length_append]; omega)) Try.func19 (by decide +kernel) rfl rfl (by repeat (first | exact pk_head _ _ | apply pk_tail)) (by repeat (first | exact pk_head _ _ | apply pk_tail))) (pkc (by repeat (first | exact pk_head _ _ | apply pk_tail)) (pkc (by repeat (first | exact pk_head _ _ | apply pk_tail)) (pkn _))) ?_ ?_
              · skip
                refine H_branch (rs := [8]) (by kernel_rfl) (by simp) ?_
                refine HR.cons1 (i := 8) (some 62) rfl rfl rfl (os_callI (WR1 b8 (upB ys xs.length ++ h ++ numB v) b61 b60 (by simp only [List.length_append]; omega)) Try.func20 (by decide +kernel) rfl rfl (pkc (by repeat (first | exact pk_head _ _ | apply pk_tail)) (pkc (by repeat (first | exact pk_head _ _ | apply pk_tail)) (pkc (by repeat (first | exact pk_head _ _ | apply pk_tail)) (pkn _))))) (pkc (by repeat (first | exact pk_head _ _ | apply pk_tail)) (pkc (by repeat (first | exact pk_head _ _ | apply pk_tail)) (pkn _))) ?_ ?_
                · skip
                  refine H_done (by kernel_rfl) ?_
                  exact Meet.cut () trivial (by repeat (first | (with_reducible exact Ag.refl _ _) | (with_reducible apply Ag.pu0) | ((with_reducible refine Ag.pu _ ?_ ?_); · exact rfl) | ((with_reducible refine Ag.mix ?_ ?_); · exact rfl) | ((with_reducible refine Ag.pus ?_ ?_); · exact rfl))) (by exact trivial) (by repeat (first | exact Ent.refl _ | (apply Ent.cons; · repeat (first | exact pk_head _ _ | apply pk_tail)) | apply Ent.skip))
                exact HR.nil
              exact HR.nil
            exact HR.nil
          exact HR.nil
        exact HR.nil
      exact HR.nil
    refine HR.consE (i := 6) (some 60) rfl rfl rfl (os_bslv (vs := bv [9]) T.un32 T.ti5 (by rfl) (by rfl) rfl (bv_one _) (by decide) (by decide)) ?_ ?_
    · rintro _ _ ⟨b60, rfl, rfl⟩
      refine ⟨fun _ => ⟨_, (pkc (by repeat (first | exact pk_head _ _ | apply pk_tail)) (pkc (by repeat (first | exact pk_head _ _ | apply pk_tail)) (pkn _)))⟩, ?_⟩
      refine H_branch (rs := [1, 4, 7]) (by kernel_rfl) (by simp) ?_
      refine HR.consE (i := 1) (some 55) rfl rfl rfl (os_bslR [bv h] T.un73 T.ti43 (by rfl) (by rfl) (by simp [hh]) (by decide) (by decide)) ?_ ?_
      · rintro _ _ ⟨b55, rfl, rfl⟩
        refine ⟨fun _ => ⟨_, (pkc (by repeat (first | exact pk_head _ _ | apply pk_tail)) (pkc (by repeat (first | exact pk_head _ _ | apply pk_tail)) (pkn _)))⟩, ?_⟩
        refine H_branch (rs := [2, 4, 7]) (by kernel_rfl) (by simp) ?_
        refine HR.cons1 (i := 2) (some 56) rfl rfl rfl (os_call2 (WH1 b8 (upB ys xs.length) h b55 hh (by omega)) Try.func18 (by decide +kernel) rfl rfl (by repeat (first | exact pk_head _ _ | apply pk_tail)) (by repeat (first | exact pk_head _ _ | apply pk_tail))) (pkc (by repeat (first | exact pk_head _ _ | apply pk_tail)) (pkc (by repeat (first | exact pk_head _ _ | apply pk_tail)) (pkn _))) ?_ ?_
        · skip
          refine H_branch (rs := [4, 7]) (by kernel_rfl) (by simp) ?_
          refine HR.consE (i := 4) (some 58) rfl rfl rfl (os_bslR ([v].map nc) T.un74 T.ti26 (by rfl) (by rfl) (by simp [nc_len]) (by decide) (by decide)) ?_ ?_
          · rintro _ _ ⟨b58, rfl, rfl⟩
            refine ⟨fun _ => ⟨_, (pkc (by repeat (first | exact pk_head _ _ | apply pk_tail)) (pkc (by repeat (first | exact pk_head _ _ | apply pk_tail)) (pkn _)))⟩, ?_⟩
            refine H_branch (rs := [5, 7]) (by kernel_rfl) (by simp) ?_
            refine HR.cons1 (i := 5) (some 59) rfl rfl rfl (os_call2 (WN1 b8 (upB ys xs.length ++ h) v b58 hvM (by simp only [List.length_append]; omega)) Try.func19 (by decide +kernel) rfl rfl (by repeat (first | exact pk_head _ _ | apply pk_tail)) (by repeat (first | exact pk_head _ _ | apply pk_tail))) (pkc (by repeat (first | exact pk_head _ _ | apply pk_tail)) (pkc (by repeat (first | exact pk_head _ _ | apply pk_tail)) (pkn _))) ?_ ?_
            · skip
              refine H_branch (rs := [7]) (by kernel_rfl) (by simp) ?_
              refine HR.consE (i := 7) (some 61) rfl rfl rfl (os_bslv (vs := [.slice none 0 0, .slice (some ⟨b60, 0, none⟩) 1 1]) T.un76 T.ti32 (by rfl) (by rfl) rfl (by simp [Value.oneCell']) (by decide) (by decide)) ?_ ?_
              · rintro _ _ ⟨b61, rfl, rfl⟩
                refine ⟨fun _ => ⟨_, (pkc (by repeat (first | exact pk_head _ _ | apply pk_tail)) (pkc (by repeat (first | exact pk_head _ _ | apply pk_tail)) (pkn _)))⟩, ?_⟩
                refine H_branch (rs := [8]) (by kernel_rfl) (by simp) ?_
                refine HR.cons1 (i := 8) (some 62) rfl rfl rfl (os_callI (WR1 b8 (upB ys xs.length ++ h ++ numB v) b61 b60 (by simp only [List.length_append]; omega)) Try.func20 (by decide +kernel) rfl rfl (pkc (by repeat (first | exact pk_head _ _ | apply pk_tail)) (pkc (by repeat (first | exact pk_head _ _ | apply pk_tail)) (pkc (by repeat (first | exact pk_head _ _ | apply pk_tail)) (pkn _))))) (pkc (by repeat (first | exact pk_head _ _ | apply pk_tail)) (pkc (by repeat (first | exact pk_head _ _ | apply pk_tail)) (pkn _))) ?_ ?_
                · skip
                  refine H_done (by kernel_rfl) ?_
                  exact Meet.cut () trivial (by repeat (first | (with_reducible exact Ag.refl _ _) | (with_reducible apply Ag.pu0) | ((with_reducible refine Ag.pu _ ?_ ?_); · exact rfl) | ((with_reducible refine Ag.mix ?_ ?_); · exact rfl) | ((with_reducible refine Ag.pus ?_ ?_); · exact rfl))) (by exact trivial) (by repeat (first | exact Ent.refl _ | (apply Ent.cons; · repeat (first | exact pk_head _ _ | apply pk_tail)) | apply Ent.skip))
                exact HR.nil
              exact HR.nil
            refine HR.consE (i := 7) (some 61) rfl rfl rfl (os_bslv (vs := [.slice none 0 0, .slice (some ⟨b60, 0, none⟩) 1 1]) T.un76 T.ti32 (by rfl) (by rfl) rfl (by simp [Value.oneCell']) (by decide) (by decide)) ?_ ?_
            · rintro _ _ ⟨b61, rfl, rfl⟩
              refine ⟨fun _ => ⟨_, (pkc (by repeat (first | exact pk_head _ _ | apply pk_tail)) (pkc (by repeat (first | exact pk_head _ _ | apply pk_tail)) (pkn _)))⟩, ?_⟩
              refine H_branch (rs := [5]) (by kernel_rfl) (by simp) ?_
              refine HR.cons1 (i := 5) (some 59) rfl rfl rfl (os_call2 (WN1 b8 (upB ys xs.length ++ h) v b58 hvM (by simp only [List.length_append]; omega)) Try.func19 (by decide +kernel) rfl rfl (by repeat (first | exact pk_head _ _ | apply pk_tail)) (by repeat (first | exact pk_head _ _ | apply pk_tail))) (pkc (by repeat (first | exact pk_head _ _ | apply pk_tail)) (pkc (by repeat (first | exact pk_head _ _ | apply pk_tail)) (pkn _))) ?_ ?_
              · skip
                refine H_branch (rs := [8]) (by kernel_rfl) (by simp) ?_
                refine HR.cons1 (i := 8) (some 62) rfl rfl rfl (os_callI (WR1 b8 (upB ys xs.length ++ h ++ numB v) b61 b60 (by simp only [List.length_append]; omega)) Try.func20 (by decide +kernel) rfl rfl (pkc (by repeat (first | exact pk_head _ _ | apply pk_tail)) (pkc (by repeat (first | exact pk_head _ _ | apply pk_tail)) (pkc (by repeat (first | exact pk_head _ _ | apply pk_tail)) (pkn _))))) (pkc (by repeat (first | exact pk_head _ _ | apply pk_tail)) (pkc (by repeat (first | exact pk_head _ _ | apply pk_tail)) (pkn _))) ?_ ?_
                · skip
                  refine H_done (by kernel_rfl) ?_
                  exact Meet.cut () trivial (by repeat (first | (with_reducible exact Ag.refl _ _) | (with_reducible apply Ag.pu0) | ((with_reducible refine Ag.pu _ ?_ ?_); · exact rfl) | ((with_reducible refine Ag.mix ?_ ?_); · exact rfl) | ((with_reducible refine Ag.pus ?_ ?_); · exact rfl))) (by exact trivial) (by repeat (first | exact Ent.refl _ | (apply Ent.cons; · repeat (first | exact pk_head _ _ | apply pk_tail)) | apply Ent.skip))
                exact HR.nil
              exact HR.nil
            exact HR.nil
          refine HR.consE (i := 7) (some 61) rfl rfl rfl (os_bslv (vs := [.slice none 0 0, .slice (some ⟨b60, 0, none⟩) 1 1]) T.un76 T.ti32 (by rfl) (by rfl) rfl (by simp [Value.oneCell']) (by decide) (by decide)) ?_ ?_
          · rintro _ _ ⟨b61, rfl, rfl⟩
            refine ⟨fun _ => ⟨_, (pkc (by repeat (first | exact pk_head _ _ | apply pk_tail)) (pkc (by repeat (first | exact pk_head _ _ | apply pk_tail)) (pkn _)))⟩, ?_⟩
            refine H_branch (rs := [4]) (by kernel_rfl) (by simp) ?_
            refine HR.consE (i := 4) (some 58) rfl rfl rfl (os_bslR ([v].map nc) T.un74 T.ti26 (by rfl) (by rfl) (by simp [nc_len]) (by decide) (by decide)) ?_ ?_
            · rintro _ _ ⟨b58, rfl, rfl⟩
              refine ⟨fun _ => ⟨_, (pkc (by repeat (first | exact pk_head _ _ | apply pk_tail)) (pkc (by repeat (first | exact pk_head _ _ | apply pk_tail)) (pkn _)))⟩, ?_⟩
              refine H_branch (rs := [5]) (by kernel_rfl) (by simp) ?_
              refine HR.cons1 (i := 5) (some 59) rfl rfl rfl (os_call2 (WN1 b8 (upB ys xs.length ++ h) v b58 hvM (by simp only [List.length_append]; omega)) Try.func19 (by decide +kernel) rfl rfl (by repeat (first | exact pk_head _ _ | apply pk_tail)) (by repeat (first | exact pk_head _ _ | apply pk_tail))) (pkc (by repeat (first | exact pk_head _ _ | apply pk_tail)) (pkc (by repeat (first | exact pk_head _ _ | apply pk_tail)) (pkn _))) ?_ ?_
              · skip
                refine H_branch (rs := [8]) (by kernel_rfl) (by simp) ?_
                refine HR.cons1 (i := 8) (some 62) rfl rfl rfl (os_callI (WR1 b8 (upB ys xs.length ++ h ++ numB v) b61 b60 (by simp only [List.length_append]; omega)) Try.func20 (by decide +kernel) rfl rfl (pkc (by repeat (first | exact pk_head _ _ | apply pk_tail)) (pkc (by repeat (first | exact pk_head _ _ | apply pk_tail)) (pkc (by repeat (first | exact pk_head _ _ | apply pk_tail)) (pkn _))))) (pkc (by repeat (first | exact pk_head _ _ | apply pk_tail)) (pkc (by repeat (first | exact pk_head _ _ | apply pk_tail)) (pkn _))) ?_ ?_
                · skip
                  refine H_done (by kernel_rfl) ?_
                  exact Meet.cut () trivial (by repeat (first | (with_reducible exact Ag.refl _ _) | (with_reducible apply Ag.pu0) | ((with_reducible refine Ag.pu _ ?_ ?_); · exact rfl) | ((with_reducible refine Ag.mix ?_ ?_); · exact rfl) | ((with_reducible refine Ag.pus ?_ ?_); · exact rfl))) (by exact trivial) (by repeat (first | exact Ent.refl _ | (apply Ent.cons; · repeat (first | exact pk_head _ _ | apply pk_tail)) | apply Ent.skip))
                exact HR.nil
              exact HR.nil
            exact HR.nil
          exact HR.nil
        refine HR.consE (i := 4) (some 58) rfl rfl rfl (os_bslR ([v].map nc) T.un74 T.ti26 (by rfl) (by rfl) (by simp [nc_len]) (by decide) (by decide)) ?_ ?_
        · rintro _ _ ⟨b58, rfl, rfl⟩
          refine ⟨fun _ => ⟨_, (pkc (by repeat (first | exact pk_head _ _ | apply pk_tail)) (pkc (by repeat (first | exact pk_head _ _ | apply pk_tail)) (pkn _)))⟩, ?_⟩
          refine H_branch (rs := [2, 7]) (by kernel_rfl) (by simp) ?_
          refine HR.cons1 (i := 2) (some 56) rfl rfl rfl (os_call2 (WH1 b8 (upB ys xs.length) h b55 hh (by omega)) Try.func18 (by decide +kernel) rfl rfl (by repeat (first | exact pk_head _ _ | apply pk_tail)) (by repeat (first | exact pk_head _ _ | apply pk_tail))) (pkc (by repeat (first | exact pk_head _ _ | apply pk_tail)) (pkc (by repeat (first | exact pk_head _ _ | apply pk_tail)) (pkn _))) ?_ ?_
          · skip
            refine H_branch (rs := [5, 7]) (by kernel_rfl) (by simp) ?_
            refine HR.cons1 (i := 5) (some 59) rfl rfl rfl (os_call2 (WN1 b8 (upB ys xs.length ++ h) v b58 hvM (by simp only [List.length_append]; omega)) Try.func19 (by decide +kernel) rfl rfl (by repeat (first | exact pk_head _ _ | apply pk_tail)) (by repeat (first | exact pk_head _ _ | apply pk_tail))) (pkc (by repeat (first | exact pk_head _ _ | apply pk_tail)) (pkc (by repeat (first | exact pk_head _ _ | apply pk_tail)) (pkn _))) ?_ ?_
            · skip
              refine H_branch (rs := [7]) (by kernel_rfl) (by simp) ?_
              refine HR.consE (i := 7) (some 61) rfl rfl rfl (os_bslv (vs := [.slice none 0 0, .slice (some ⟨b60, 0, none⟩) 1 1]) T.un76 T.ti32 (by rfl) (by rfl) rfl (by simp [Value.oneCell']) (by decide) (by decide)) ?_ ?_
              · rintro _ _ ⟨b61, rfl, rfl⟩
                refine ⟨fun _ => ⟨_, (pkc (by repeat (first | exact pk_head _ _ | apply pk_tail)) (pkc (by repeat (first | exact pk_head _ _ | apply pk_tail)) (pkn _)))⟩, ?_⟩
                refine H_branch (rs := [8]) (by kernel_rfl) (by simp) ?_
                refine HR.cons1 (i := 8) (some 62) rfl rfl rfl (os_callI (WR1 b8 (upB ys xs.length ++ h ++ numB v) b61 b60 (by simp only [List.length_append]; omega)) Try.func20 (by decide +kernel) rfl rfl (pkc (by repeat (first | exact pk_head _ _ | apply pk_tail)) (pkc (by repeat (first | exact pk_head _ _ | apply pk_tail)) (pkc (by repeat (first | exact pk_head _ _ | apply pk_tail)) (pkn _))))) (pkc (by repeat (first | exact pk_head _ _ | apply pk_tail)) (pkc (by repeat (first | exact pk_head _ _ | apply pk_tail)) (pkn _))) ?_ ?_
                · skip
                  refine H_done (by kernel_rfl) ?_
                  exact Meet.cut () trivial (by repeat (first | (with_reducible exact Ag.refl _ _) | (with_reducible apply Ag.pu0) | ((with_reducible refine Ag.pu _ ?_ ?_); · exact rfl) | ((with_reducible refine Ag.mix ?_ ?_); · exact rfl) | ((with_reducible refine Ag.pus ?_ ?_); · exact rfl))) (by exact trivial) (by repeat (first | exact Ent.refl _ | (apply Ent.cons; · repeat (first | exact pk_head _ _ | apply pk_tail)) | apply Ent.skip))
                exact HR.nil
              exact HR.nil
            refine HR.consE (i := 7) (some 61) rfl rfl rfl (os_bslv (vs := [.slice none 0 0, .slice (some ⟨b60, 0, none⟩) 1 1]) T.un76 T.ti32 (by rfl) (by rfl) rfl (by simp [Value.oneCell']) (by decide) (by decide)) ?_ ?_
            · rintro _ _ ⟨b61, rfl, rfl⟩
              refine ⟨fun _ => ⟨_, (pkc (by repeat (first | exact pk_head _ _ | apply pk_tail)) (pkc (by repeat (first | exact pk_head _ _ | apply pk_tail)) (pkn _)))⟩, ?_⟩
              refine H_branch (rs := [5]) (by kernel_rfl) (by simp) ?_
              refine HR.cons1 (i := 5) (some 59) rfl rfl rfl (os_call2 (WN1 b8 (upB ys xs.length ++ h) v b58 hvM (by simp only [List.length_append]; omega)) Try.func19 (by decide +kernel) rfl rfl (by repeat (first | exact pk_head _ _ | apply pk_tail)) (by repeat (first | exact pk_head _ _ | apply pk_tail))) (pkc (by repeat (first | exact pk_head _ _ | apply pk_tail)) (pkc (by repeat (first | exact pk_head _ _ | apply pk_tail)) (pkn _))) ?_ ?_
              · skip
                refine H_branch (rs := [8]) (by kernel_rfl) (by simp) ?_
                refine HR.cons1 (i := 8) (some 62) rfl rfl rfl (os_callI (WR1 b8 (upB ys xs.length ++ h ++ numB v) b61 b60 (by simp only [List.length_append]; omega)) Try.func20 (by decide +kernel) rfl rfl (pkc (by repeat (first | exact pk_head _ _ | apply pk_tail)) (pkc (by repeat (first | exact pk_head _ _ | apply pk_tail)) (pkc (by repeat (first | exact pk_head _ _ | apply pk_tail)) (pkn _))))) (pkc (by repeat (first | exact pk_head _ _ | apply pk_tail)) (pkc (by repeat (first | exact pk_head _ _ | apply pk_tail)) (pkn _))) ?_ ?_
                · skip
                  refine H_done (by kernel_rfl) ?_
                  exact Meet.cut () trivial (by repeat (first | (with_reducible exact Ag.refl _ _) | (with_reducible apply Ag.pu0) | ((with_reducible refine Ag.pu _ ?_ ?_); · exact rfl) | ((with_reducible refine Ag.mix ?_ ?_); · exact rfl) | ((with_reducible refine Ag.pus ?_ ?_); · exact rfl))) (by exact trivial) (by repeat (first | exact Ent.refl _ | (apply Ent.cons; · repeat (first | exact pk_head _ _ | apply pk_tail)) | apply Ent.skip))
                exact HR.nil
              exact HR.nil
            exact HR.nil
          refine HR.consE (i := 7) (some 61) rfl rfl rfl (os_bslv (vs := [.slice none 0 0, .slice (some ⟨b60, 0, none⟩) 1 1]) T.un76 T.ti32 (by rfl) (by rfl) rfl (by simp [Value.oneCell']) (by decide) (by decide)) ?_ ?_
          · rintro _ _ ⟨b61, rfl, rfl⟩
            refine ⟨fun _ => ⟨_, (pkc (by repeat (first | exact pk_head _ _ | apply pk_tail)) (pkc (by repeat (first | exact pk_head _ _ | apply pk_tail)) (pkn _)))⟩, ?_⟩
            refine H_branch (rs := [2]) (by kernel_rfl) (by simp) ?_
            refine HR.cons1 (i := 2) (some 56) rfl rfl rfl (os_call2 (WH1 b8 (upB ys xs.length) h b55 hh (by omega)) Try.func18 (by decide +kernel) rfl rfl (by repeat (first | exact pk_head _ _ | apply pk_tail)) (by repeat (first | exact pk_head _ _ | apply pk_tail))) (pkc (by repeat (first | exact pk_head _ _ | apply pk_tail)) (pkc (by repeat (first | exact pk_head _ _ | apply pk_tail)) (pkn _))) ?_ ?_
            · skip
              refine H_branch (rs := [5]) (by kernel_rfl) (by simp) ?_
              refine HR.cons1 (i := 5) (some 59) rfl rfl rfl (os_call2 (WN1 b8 (upB ys xs.length ++ h) v b58 hvM (by simp only [List.length_append]; omega)) Try.func19 (by decide +kernel) rfl rfl (by repeat (first | exact pk_head _ _ | apply pk_tail)) (by repeat (first | exact pk_head _ _ | apply pk_tail))) (pkc (by repeat (first | exact pk_head _ _ | apply pk_tail)) (pkc (by repeat (first | exact pk_head _ _ | apply pk_tail)) (pkn _))) ?_ ?_
              · skip
                refine H_branch (rs := [8]) (by kernel_rfl) (by simp) ?_
                refine HR.cons1 (i := 8) (some 62) rfl rfl rfl (os_callI (WR1 b8 (upB ys xs.length ++ h ++ numB v) b61 b60 (by simp only [List.length_append]; omega)) Try.func20 (by decide +kernel) rfl rfl (pkc (by repeat (first | exact pk_head _ _ | apply pk_tail)) (pkc (by repeat (first | exact pk_head _ _ | apply pk_tail)) (pkc (by repeat (first | exact pk_head _ _ | apply pk_tail)) (pkn _))))) (pkc (by repeat (first | exact pk_head _ _ | apply pk_tail)) (pkc (by repeat (first | exact pk_head _ _ | apply pk_tail)) (pkn _))) ?_ ?_
                · skip
                  refine H_done (by kernel_rfl) ?_
                  exact Meet.cut () trivial (by repeat (first | (with_reducible exact Ag.refl _ _) | (with_reducible apply Ag.pu0) | ((with_reducible refine Ag.pu _ ?_ ?_); · exact rfl) | ((with_reducible refine Ag.mix ?_ ?_); · exact rfl) | ((with_reducible refine Ag.pus ?_ ?_); · exact rfl))) (by exact trivial) (by repeat (first | exact Ent.refl _ | (apply Ent.cons; · repeat (first | exact pk_head _ _ | apply pk_tail)) | apply Ent.skip))
                exact HR.nil
              exact HR.nil
            exact HR.nil
          exact HR.nil
        refine HR.consE (i := 7) (some 61) rfl rfl rfl (os_bslv (vs := [.slice none 0 0, .slice (some ⟨b60, 0, none⟩) 1 1]) T.un76 T.ti32 (by rfl) (by rfl) rfl (by simp [Value.oneCell']) (by decide) (by decide)) ?_ ?_
        · rintro _ _ ⟨b61, rfl, rfl⟩
          refine ⟨fun _ => ⟨_, (pkc (by repeat (first | exact pk_head _ _ | apply pk_tail)) (pkc (by repeat (first | exact pk_head _ _ | apply pk_tail)) (pkn _)))⟩, ?_⟩
          refine H_branch (rs := [2, 4]) (by kernel_rfl) (by simp) ?_
          refine HR.cons1 (i := 2) (some 56) rfl rfl rfl (os_call2 (WH1 b8 (upB ys xs.length) h b55 hh (by omega)) Try.func18 (by decide +kernel) rfl rfl (by repeat (first | exact pk_head _ _ | apply pk_tail)) (by repeat (first | exact pk_head _ _ | apply pk_tail))) (pkc (by repeat (first | exact pk_head _ _ | apply pk_tail)) (pkc (by repeat (first | exact pk_head _ _ | apply pk_tail)) (pkn _))) ?_ ?_
          · skip
            refine H_branch (rs := [4]) (by kernel_rfl) (by simp) ?_
            refine HR.consE (i := 4) (some 58) rfl rfl rfl (os_bslR ([v].map nc) T.un74 T.ti26 (by rfl) (by rfl) (by simp [nc_len]) (by decide) (by decide)) ?_ ?_
            · rintro _ _ ⟨b58, rfl, rfl⟩
              refine ⟨fun _ => ⟨_, (pkc (by repeat (first | exact pk_head _ _ | apply pk_tail)) (pkc (by repeat (first | exact pk_head _ _ | apply pk_tail)) (pkn _)))⟩, ?_⟩
              refine H_branch (rs := [5]) (by kernel_rfl) (by simp) ?_
              refine HR.cons1 (i := 5) (some 59) rfl rfl rfl (os_call2 (WN1 b8 (upB ys xs.length ++ h) v b58 hvM (by simp only [List.length_append]; omega)) Try.func19 (by decide +kernel) rfl rfl (by repeat (first | exact pk_head _ _ | apply pk_tail)) (by repeat (first | exact pk_head _ _ | apply pk_tail))) (pkc (by repeat (first | exact pk_head _ _ | apply pk_tail)) (pkc (by repeat (first | exact pk_head _ _ | apply pk_tail)) (pkn _))) ?_ ?_
              · skip
                refine H_branch (rs := [8]) (by kernel_rfl) (by simp) ?_
                refine HR.cons1 (i := 8) (some 62) rfl rfl rfl (os_callI (WR1 b8 (upB ys xs.length ++ h ++ numB v) b61 b60 (by simp only [List.length_append]; omega)) Try.func20 (by decide +kernel) rfl rfl (pkc (by repeat (first | exact pk_head _ _ | apply pk_tail)) (pkc (by repeat (first | exact pk_head _ _ | apply pk_tail)) (pkc (by repeat (first | exact pk_head _ _ | apply pk_tail)) (pkn _))))) (pkc (by repeat (first | exact pk_head _ _ | apply pk_tail)) (pkc (by repeat (first | exact pk_head _ _ | apply pk_tail)) (pkn _))) ?_ ?_
                · skip
                  refine H_done (by kernel_rfl) ?_
                  exact Meet.cut () trivial (by repeat (first | (with_reducible exact Ag.refl _ _) | (with_reducible apply Ag.pu0) | ((with_reducible refine Ag.pu _ ?_ ?_); · exact rfl) | ((with_reducible refine Ag.mix ?_ ?_); · exact rfl) | ((with_reducible refine Ag.pus ?_ ?_); · exact rfl))) (by exact trivial) (by repeat (first | exact Ent.refl _ | (apply Ent.cons; · repeat (first | exact pk_head _ _ | apply pk_tail)) | apply Ent.skip))
                exact HR.nil
              exact HR.nil
            exact HR.nil
          refine HR.consE (i := 4) (some 58) rfl rfl rfl (os_bslR ([v].map nc) T.un74 T.ti26 (by rfl) (by rfl) (by simp [nc_len]) (by decide) (by decide)) ?_ ?_
          · rintro _ _ ⟨b58, rfl, rfl⟩
            refine ⟨fun _ => ⟨_, (pkc (by repeat (first | exact pk_head _ _ | apply pk_tail)) (pkc (by repeat (first | exact pk_head _ _ | apply pk_tail)) (pkn _)))⟩, ?_⟩
            refine H_branch (rs := [2]) (by kernel_rfl) (by simp) ?_
            refine HR.cons1 (i := 2) (some 56) rfl rfl rfl (os_call2 (WH1 b8 (upB ys xs.length) h b55 hh (by omega)) Try.func18 (by decide +kernel) rfl rfl (by repeat (first | exact pk_head _ _ | apply pk_tail)) (by repeat (first | exact pk_head _ _ | apply pk_tail))) (pkc (by repeat (first | exact pk_head _ _ | apply pk_tail)) (pkc (by repeat (first | exact pk_head _ _ | apply pk_tail)) (pkn _))) ?_ ?_
            · skip
              refine H_branch (rs := [5]) (by kernel_rfl) (by simp) ?_
              refine HR.cons1 (i := 5) (some 59) rfl rfl rfl (os_call2 (WN1 b8 (upB ys xs.length ++ h) v b58 hvM (by simp only [List.length_append]; omega)) Try.func19 (by decide +kernel) rfl rfl (by repeat (first | exact pk_head _ _ | apply pk_tail)) (by repeat (first | exact pk_head _ _ | apply pk_tail))) (pkc (by repeat (first | exact pk_head _ _ | apply pk_tail)) (pkc (by repeat (first | exact pk_head _ _ | apply pk_tail)) (pkn _))) ?_ ?_
              · skip
                refine H_branch (rs := [8]) (by kernel_rfl) (by simp) ?_
                refine HR.cons1 (i := 8) (some 62) rfl rfl rfl (os_callI (WR1 b8 (upB ys xs.length ++ h ++ numB v) b61 b60 (by simp only [List.length_append]; omega)) Try.func20 (by decide +kernel) rfl rfl (pkc (by repeat (first | exact pk_head _ _ | apply pk_tail)) (pkc (by repeat (first | exact pk_head _ _ | apply pk_tail)) (pkc (by repeat (first | exact pk_head _ _ | apply pk_tail)) (pkn _))))) (pkc (by repeat (first | exact pk_head _ _ | apply pk_tail)) (pkc (by repeat (first | exact pk_head _ _ | apply pk_tail)) (pkn _))) ?_ ?_
                · skip
                  refine H_done (by kernel_rfl) ?_
                  exact Meet.cut () trivial (by repeat (first | (with_reducible exact Ag.refl _ _) | (with_reducible apply Ag.pu0) | ((with_reducible refine Ag.pu _ ?_ ?_); · exact rfl) | ((with_reducible refine Ag.mix ?_ ?_); · exact rfl) | ((with_reducible refine Ag.pus ?_ ?_); · exact rfl))) (by exact trivial) (by repeat (first | exact Ent.refl _ | (apply Ent.cons; · repeat (first | exact pk_head _ _ | apply pk_tail)) | apply Ent.skip))
                exact HR.nil
              exact HR.nil
            exact HR.nil
          exact HR.nil
        exact HR.nil
      refine HR.consE (i := 4) (some 58) rfl rfl rfl (os_bslR ([v].map nc) T.un74 T.ti26 (by rfl) (by rfl) (by simp [nc_len]) (by decide) (by decide)) ?_ ?_
      · rintro _ _ ⟨b58, rfl, rfl⟩
        refine ⟨fun _ => ⟨_, (pkc (by repeat (first | exact pk_head _ _ | apply pk_tail)) (pkc (by repeat (first | exact pk_head _ _ | apply pk_tail)) (pkn _)))⟩, ?_⟩
        refine H_branch (rs := [1, 7]) (by kernel_rfl) (by simp) ?_
        refine HR.consE (i := 1) (some 55) rfl rfl rfl (os_bslR [bv h] T.un73 T.ti43 (by rfl) (by rfl) (by simp [hh]) (by decide) (by decide)) ?_ ?_
        · rintro _ _ ⟨b55, rfl, rfl⟩
          refine ⟨fun _ => ⟨_, (pkc (by repeat (first | exact pk_head _ _ | apply pk_tail)) (pkc (by repeat (first | exact pk_head _ _ | apply pk_tail)) (pkn _)))⟩, ?_⟩
          refine H_branch (rs := [2, 7]) (by kernel_rfl) (by simp) ?_
          refine HR.cons1 (i := 2) (some 56) rfl rfl rfl (os_call2 (WH1 b8 (upB ys xs.length) h b55 hh (by omega)) Try.func18 (by decide +kernel) rfl rfl (by repeat (first | exact pk_head _ _ | apply pk_tail)) (by repeat (first | exact pk_head _ _ | apply pk_tail))) (pkc (by repeat (first | exact pk_head _ _ | apply pk_tail)) (pkc (by repeat (first | exact pk_head _ _ | apply pk_tail)) (pkn _))) ?_ ?_
          · skip
            refine H_branch (rs := [5, 7]) (by kernel_rfl) (by simp) ?_
            refine HR.cons1 (i := 5) (some 59) rfl rfl rfl (os_call2 (WN1 b8 (upB ys xs.length ++ h) v b58 hvM (by simp only [List.length_append]; omega)) Try.func19 (by decide +kernel) rfl rfl (by repeat (first | exact pk_head _ _ | apply pk_tail)) (by repeat (first | exact pk_head _ _ | apply pk_tail))) (pkc (by repeat (first | exact pk_head _ _ | apply pk_tail)) (pkc (by repeat (first | exact pk_head _ _ | apply pk_tail)) (pkn _))) ?_ ?_
            · skip
              refine H_branch (rs := [7]) (by kernel_rfl) (by simp) ?_
              refine HR.consE (i := 7) (some 61) rfl rfl rfl (os_bslv (vs := [.slice none 0 0, .slice (some ⟨b60, 0, none⟩) 1 1]) T.un76 T.ti32 (by rfl) (by rfl) rfl (by simp [Value.oneCell']) (by decide) (by decide)) ?_ ?_
              · rintro _ _ ⟨b61, rfl, rfl⟩
                refine ⟨fun _ => ⟨_, (pkc (by repeat (first | exact pk_head _ _ | apply pk_tail)) (pkc (by repeat (first | exact pk_head _ _ | apply pk_tail)) (pkn _)))⟩, ?_⟩
                refine H_branch (rs := [8]) (by kernel_rfl) (by simp) ?_
                refine HR.cons1 (i := 8) (some 62) rfl rfl rfl (os_callI (WR1 b8 (upB ys xs.length ++ h ++ numB v) b61 b60 (by simp only [List.length_append]; omega)) Try.func20 (by decide +kernel) rfl rfl (pkc (by repeat (first | exact pk_head _ _ | apply pk_tail)) (pkc (by repeat (first | exact pk_head _ _ | apply pk_tail)) (pkc (by repeat (first | exact pk_head _ _ | apply pk_tail)) (pkn _))))) (pkc (by repeat (first | exact pk_head _ _ | apply pk_tail)) (pkc (by repeat (first | exact pk_head _ _ | apply pk_tail)) (pkn _))) ?_ ?_
                · skip
                  refine H_done (by kernel_rfl) ?_
                  exact Meet.cut () trivial (by repeat (first | (with_reducible exact Ag.refl _ _) | (with_reducible apply Ag.pu0) | ((with_reducible refine Ag.pu _ ?_ ?_); · exact rfl) | ((with_reducible refine Ag.mix ?_ ?_); · exact rfl) | ((with_reducible refine Ag.pus ?_ ?_); · exact rfl))) (by exact trivial) (by repeat (first | exact Ent.refl _ | (apply Ent.cons; · repeat (first | exact pk_head _ _ | apply pk_tail)) | apply Ent.skip))
                exact HR.nil
              exact HR.nil
            refine HR.consE (i := 7) (some 61) rfl rfl rfl (os_bslv (vs := [.slice none 0 0, .slice (some ⟨b60, 0, none⟩) 1 1]) T.un76 T.ti32 (by rfl) (by rfl) rfl (by simp [Value.oneCell']) (by decide) (by decide)) ?_ ?_
            · rintro _ _ ⟨b61, rfl, rfl⟩
              refine ⟨fun _ => ⟨_, (pkc (by repeat (first | exact pk_head _ _ | apply pk_tail)) (pkc (by repeat (first | exact pk_head _ _ | apply pk_tail)) (pkn _)))⟩, ?_⟩
              refine H_branch (rs := [5]) (by kernel_rfl) (by simp) ?_
              refine HR.cons1 (i := 5) (some 59) rfl rfl rfl (os_call2 (WN1 b8 (upB ys xs.length ++ h) v b58 hvM (by simp only [List.length_append]; omega)) Try.func19 (by decide +kernel) rfl rfl (by repeat (first | exact pk_head _ _ | apply pk_tail)) (by repeat (first | exact pk_head _ _ | apply pk_tail))) (pkc (by repeat (first | exact pk_head _ _ | apply pk_tail)) (pkc (by repeat (first | exact pk_head _ _ | apply pk_tail)) (pkn _))) ?_ ?_
              · skip
                refine H_branch (rs := [8]) (by kernel_rfl) (by simp) ?_
                refine HR.cons1 (i := 8) (some 62) rfl rfl rfl (os_callI (WR1 b8 (upB ys xs.length ++ h ++ numB v) b61 b60 (by simp only [List.length_append]; omega)) Try.func20 (by decide +kernel) rfl rfl (pkc (by repeat (first | exact pk_head _ _ | apply pk_tail)) (pkc (by repeat (first | exact pk_head _ _ | apply pk_tail)) (pkc (by repeat (first | exact pk_head _ _ | apply pk_tail)) (pkn _))))) (pkc (by repeat (first | exact pk_head _ _ | apply pk_tail)) (pkc (by repeat (first | exact pk_head _ _ | apply pk_tail)) (pkn _))) ?_ ?_
                · skip
                  refine H_done (by kernel_rfl) ?_
                  exact Meet.cut () trivial (by repeat (first | (with_reducible exact Ag.refl _ _) | (with_reducible apply Ag.pu0) | ((with_reducible refine Ag.pu _ ?_ ?_); · exact rfl) | ((with_reducible refine Ag.mix ?_ ?_); · exact rfl) | ((with_reducible refine Ag.pus ?_ ?_); · exact rfl))) (by exact trivial) (by repeat (first | exact Ent.refl _ | (apply Ent.cons; · repeat (first | exact pk_head _ _ | apply pk_tail)) | apply Ent.skip))
                exact HR.nil
              exact HR.nil
            exact HR.nil
          refine HR.consE (i := 7) (some 61) rfl rfl rfl (os_bslv (vs := [.slice none 0 0, .slice (some ⟨b60, 0, none⟩) 1 1]) T.un76 T.ti32 (by rfl) (by rfl) rfl (by simp [Value.oneCell']) (by decide) (by decide)) ?_ ?_
          · rintro _ _ ⟨b61, rfl, rfl⟩
            refine ⟨fun _ => ⟨_, (pkc (by repeat (first | exact pk_head _ _ | apply pk_tail)) (pkc (by repeat (first | exact pk_head _ _ | apply pk_tail)) (pkn _)))⟩, ?_⟩
            refine H_branch (rs := [2]) (by kernel_rfl) (by simp) ?_
            refine HR.cons1 (i := 2) (some 56) rfl rfl rfl (os_call2 (WH1 b8 (upB ys xs.length) h b55 hh (by omega)) Try.func18 (by decide +kernel) rfl rfl (by repeat (first | exact pk_head _ _ | apply pk_tail)) (by repeat (first | exact pk_head _ _ | apply pk_tail))) (pkc (by repeat (first | exact pk_head _ _ | apply pk_tail)) (pkc (by repeat (first | exact pk_head _ _ | apply pk_tail)) (pkn _))) ?_ ?_
            · skip
              refine H_branch (rs := [5]) (by kernel_rfl) (by simp) ?_
              refine HR.cons1 (i := 5) (some 59) rfl rfl rfl (os_call2 (WN1 b8 (upB ys xs.length ++ h) v b58 hvM (by simp only [List.length_append]; omega)) Try.func19 (by decide +kernel) rfl rfl (by repeat (first | exact pk_head _ _ | apply pk_tail)) (by repeat (first | exact pk_head _ _ | apply pk_tail))) (pkc (by repeat (first | exact pk_head _ _ | apply pk_tail)) (pkc (by repeat (first | exact pk_head _ _ | apply pk_tail)) (pkn _))) ?_ ?_
              · skip
                refine H_branch (rs := [8]) (by kernel_rfl) (by simp) ?_
                refine HR.cons1 (i := 8) (some 62) rfl rfl rfl (os_callI (WR1 b8 (upB ys xs.length ++ h ++ numB v) b61 b60 (by simp only [List.length_append]; omega)) Try.func20 (by decide +kernel) rfl rfl (pkc (by repeat (first | exact pk_head _ _ | apply pk_tail)) (pkc (by repeat (first | exact pk_head _ _ | apply pk_tail)) (pkc (by repeat (first | exact pk_head _ _ | apply pk_tail)) (pkn _))))) (pkc (by repeat (first | exact pk_head _ _ | apply pk_tail)) (pkc (by repeat (first | exact pk_head _ _ | apply pk_tail)) (pkn _))) ?_ ?_
                · skip
                  refine H_done (by kernel_rfl) ?_
                  exact Meet.cut () trivial (by repeat (first | (with_reducible exact Ag.refl _ _) | (with_reducible apply Ag.pu0) | ((with_reducible refine Ag.pu _ ?_ ?_); · exact rfl) | ((with_reducible refine Ag.mix ?_ ?_); · exact rfl) | ((with_reducible refine Ag.pus ?_ ?_); · exact rfl))) (by exact trivial) (by repeat (first | exact Ent.refl _ | (apply Ent.cons; · repeat (first | exact pk_head _ _ | apply pk_tail)) | apply Ent.skip))
                exact HR.nil
              exact HR.nil
            exact HR.nil
          exact HR.nil
        refine HR.consE (i := 7) (some 61) rfl rfl rfl (os_bslv (vs := [.slice none 0 0, .slice (some ⟨b60, 0, none⟩) 1 1]) T.un76 T.ti32 (by rfl) (by rfl) rfl (by simp [Value.oneCell']) (by decide) (by decide)) ?_ ?_
        · rintro _ _ ⟨b61, rfl, rfl⟩
          refine ⟨fun _ => ⟨_, (pkc (by repeat (first | exact pk_head _ _ | apply pk_tail)) (pkc (by repeat (first | exact pk_head _ _ | apply pk_tail)) (pkn _)))⟩, ?_⟩
          refine H_branch (rs := [1]) (by kernel_rfl) (by simp) ?_
          refine HR.consE (i := 1) (some 55) rfl rfl rfl (os_bslR [bv h] T.un73 T.ti43 (by rfl) (by rfl) (by simp [hh]) (by decide) (by decide)) ?_ ?_
          · rintro _ _ ⟨b55, rfl, rfl⟩
            refine ⟨fun _ => ⟨_, (pkc (by repeat (first | exact pk_head _ _ | apply pk_tail)) (pkc (by repeat (first | exact pk_head _ _ | apply pk_tail)) (pkn _)))⟩, ?_⟩
            refine H_branch (rs := [2]) (by kernel_rfl) (by simp) ?_
            refine HR.cons1 (i := 2) (some 56) rfl rfl rfl (os_call2 (WH1 b8 (upB ys xs.length) h b55 hh (by omega)) Try.func18 (by decide +kernel) rfl rfl (by repeat (first | exact pk_head _ _ | apply pk_tail)) (by repeat (first | exact pk_head _ _ | apply pk_tail))) (pkc (by repeat (first | exact pk_head _ _ | apply pk_tail)) (pkc (by repeat (first | exact pk_head _ _ | apply pk_tail)) (pkn _))) ?_ ?_
            · skip
              refine H_branch (rs := [5]) (by kernel_rfl) (by simp) ?_
              refine HR.cons1 (i := 5) (some 59) rfl rfl rfl (os_call2 (WN1 b8 (upB ys xs.length ++ h) v b58 hvM (by simp only [List.length_append]; omega)) Try.func19 (by decide +kernel) rfl rfl (by repeat (first | exact pk_head _ _ | apply pk_tail)) (by repeat (first | exact pk_head _ _ | apply pk_tail))) (pkc (by repeat (first | exact pk_head _ _ | apply pk_tail)) (pkc (by repeat (first | exact pk_head _ _ | apply pk_tail)) (pkn _))) ?_ ?_
              · skip
                refine H_branch (rs := [8]) (by kernel_rfl) (by simp) ?_
                refine HR.cons1 (i := 8) (some 62) rfl rfl rfl (os_callI (WR1 b8 (upB ys xs.length ++ h ++ numB v) b61 b60 (by simp only [List.length_append]; omega)) Try.func20 (by decide +kernel) rfl rfl (pkc (by repeat (first | exact pk_head _ _ | apply pk_tail)) (pkc (by repeat (first | exact pk_head _ _ | apply pk_tail)) (pkc (by repeat (first | exact pk_head _ _ | apply pk_tail)) (pkn _))))) (pkc (by repeat (first | exact pk_head _ _ | apply pk_tail)) (pkc (by repeat (first | exact pk_head _ _ | apply pk_tail)) (pkn _))) ?_ ?_
                · skip
                  refine H_done (by kernel_rfl) ?_
                  exact Meet.cut () trivial (by repeat (first | (with_reducible exact Ag.refl _ _) | (with_reducible apply Ag.pu0) | ((with_reducible refine Ag.pu _ ?_ ?_); · exact rfl) | ((with_reducible refine Ag.mix ?_ ?_); · exact rfl) | ((with_reducible refine Ag.pus ?_ ?_); · exact rfl))) (by exact trivial) (by repeat (first | exact Ent.refl _ | (apply Ent.cons; · repeat (first | exact pk_head _ _ | apply pk_tail)) | apply Ent.skip))
                exact HR.nil
              exact HR.nil
            exact HR.nil
          exact HR.nil
        exact HR.nil
      refine HR.consE (i := 7) (some 61) rfl rfl rfl (os_bslv (vs := [.slice none 0 0, .slice (some ⟨b60, 0, none⟩) 1 1]) T.un76 T.ti32 (by rfl) (by rfl) rfl (by simp [Value.oneCell']) (by decide) (by decide)) ?_ ?_
      · rintro _ _ ⟨b61, rfl, rfl⟩
        refine ⟨fun _ => ⟨_, (pkc (by repeat (first | exact pk_head _ _ | apply pk_tail)) (pkc (by repeat (first | exact pk_head _ _ | apply pk_tail)) (pkn _)))⟩, ?_⟩
        refine H_branch (rs := [1, 4]) (by kernel_rfl) (by simp) ?_
        refine HR.consE (i := 1) (some 55) rfl rfl rfl (os_bslR [bv h] T.un73 T.ti43 (by rfl) (by rfl) (by simp [hh]) (by decide) (by decide)) ?_ ?_
        · rintro _ _ ⟨b55, rfl, rfl⟩
          refine ⟨fun _ => ⟨_, (pkc (by repeat (first | exact pk_head _ _ | apply pk_tail)) (pkc (by repeat (first | exact pk_head _ _ | apply pk_tail)) (pkn _)))⟩, ?_⟩
          refine H_branch (rs := [2, 4]) (by kernel_rfl) (by simp) ?_
          refine HR.cons1 (i := 2) (some 56) rfl rfl rfl (os_call2 (WH1 b8 (upB ys xs.length) h b55 hh (by omega)) Try.func18 (by decide +kernel) rfl rfl (by repeat (first | exact pk_head _ _ | apply pk_tail)) (by repeat (first | exact pk_head _ _ | apply pk_tail))) (pkc (by repeat (first | exact pk_head _ _ | apply pk_tail)) (pkc (by repeat (first | exact pk_head _ _ | apply pk_tail)) (pkn _))) ?_ ?_
          · skip
            refine H_branch (rs := [4]) (by kernel_rfl) (by simp) ?_
            refine HR.consE (i := 4) (some 58) rfl rfl rfl (os_bslR ([v].map nc) T.un74 T.ti26 (by rfl) (by rfl) (by simp [nc_len]) (by decide) (by decide)) ?_ ?_
            · rintro _ _ ⟨b58, rfl, rfl⟩
              refine ⟨fun _ => ⟨_, (pkc (by repeat (first | exact pk_head _ _ | apply pk_tail)) (pkc (by repeat (first | exact pk_head _ _ | apply pk_tail)) (pkn _)))⟩, ?_⟩
              refine H_branch (rs := [5]) (by kernel_rfl) (by simp) ?_
              refine HR.cons1 (i := 5) (some 59) rfl rfl rfl (os_call2 (WN1 b8 (upB ys xs.length ++ h) v b58 hvM (by simp only [List.length_append]; omega)) Try.func19 (by decide +kernel) rfl rfl (by repeat (first | exact pk_head _ _ | apply pk_tail)) (by repeat (first | exact pk_head _ _ | apply pk_tail))) (pkc (by repeat (first | exact pk_head _ _ | apply pk_tail)) (pkc (by repeat (first | exact pk_head _ _ | apply pk_tail)) (pkn _))) ?_ ?_
              · skip
                refine H_branch (rs := [8]) (by kernel_rfl) (by simp) ?_
                refine HR.cons1 (i := 8) (some 62) rfl rfl rfl (os_callI (WR1 b8 (upB ys xs.length ++ h ++ numB v) b61 b60 (by simp only [List.length_append]; omega)) Try.func20 (by decide +kernel) rfl rfl (pkc (by repeat (first | exact pk_head _ _ | apply pk_tail)) (pkc (by repeat (first | exact pk_head _ _ | apply pk_tail)) (pkc (by repeat (first | exact pk_head _ _ | apply pk_tail)) (pkn _))))) (pkc (by repeat (first | exact pk_head _ _ | apply pk_tail)) (pkc (by repeat (first | exact pk_head _ _ | apply pk_tail)) (pkn _))) ?_ ?_
                · skip
                  refine H_done (by kernel_rfl) ?_
                  exact Meet.cut () trivial (by repeat (first | (with_reducible exact Ag.refl _ _) | (with_reducible apply Ag.pu0) | ((with_reducible refine Ag.pu _ ?_ ?_); · exact rfl) | ((with_reducible refine Ag.mix ?_ ?_); · exact rfl) | ((with_reducible refine Ag.pus ?_ ?_); · exact rfl))) (by exact trivial) (by repeat (first | exact Ent.refl _ | (apply Ent.cons; · repeat (first | exact pk_head _ _ | apply pk_tail)) | apply Ent.skip))
                exact HR.nil
              exact HR.nil
            exact HR.nil
          refine HR.consE (i := 4) (some 58) rfl rfl rfl (os_bslR ([v].map nc) T.un74 T.ti26 (by rfl) (by rfl) (by simp [nc_len]) (by decide) (by decide)) ?_ ?_
          · rintro _ _ ⟨b58, rfl, rfl⟩
            refine ⟨fun _ => ⟨_, (pkc (by repeat (first | exact pk_head _ _ | apply pk_tail)) (pkc (by repeat (first | exact pk_head _ _ | apply pk_tail)) (pkn _)))⟩, ?_⟩
            refine H_branch (rs := [2]) (by kernel_rfl) (by simp) ?_
            refine HR.cons1 (i := 2) (some 56) rfl rfl rfl (os_call2 (WH1 b8 (upB ys xs.length) h b55 hh (by omega)) Try.func18 (by decide +kernel) rfl rfl (by repeat (first | exact pk_head _ _ | apply pk_tail)) (by repeat (first | exact pk_head _ _ | apply pk_tail))) (pkc (by repeat (first | exact pk_head _ _ | apply pk_tail)) (pkc (by repeat (first | exact pk_head _ _ | apply pk_tail)) (pkn _))) ?_ ?_
            · skip
              refine H_branch (rs := [5]) (by kernel_rfl) (by simp) ?_
              refine HR.cons1 (i := 5) (some 59) rfl rfl rfl (os_call2 (WN1 b8 (upB ys xs.length ++ h) v b58 hvM (by simp only [List.length_append]; omega)) Try.func19 (by decide +kernel) rfl rfl (by repeat (first | exact pk_head _ _ | apply pk_tail)) (by repeat (first | exact pk_head _ _ | apply pk_tail))) (pkc (by repeat (first | exact pk_head _ _ | apply pk_tail)) (pkc (by repeat (first | exact pk_head _ _ | apply pk_tail)) (pkn _))) ?_ ?_
              · skip
                refine H_branch (rs := [8]) (by kernel_rfl) (by simp) ?_
                refine HR.cons1 (i := 8) (some 62) rfl rfl rfl (os_callI (WR1 b8 (upB ys xs.length ++ h ++ numB v) b61 b60 (by simp only [List.length_append]; omega)) Try.func20 (by decide +kernel) rfl rfl (pkc (by repeat (first | exact pk_head _ _ | apply pk_tail)) (pkc (by repeat (first | exact pk_head _ _ | apply pk_tail)) (pkc (by repeat (first | exact pk_head _ _ | apply pk_tail)) (pkn _))))) (pkc (by repeat (first | exact pk_head _ _ | apply pk_tail)) (pkc (by repeat (first | exact pk_head _ _ | apply pk_tail)) (pkn _))) ?_ ?_
                · skip
                  refine H_done (by kernel_rfl) ?_
                  exact Meet.cut () trivial (by repeat (first | (with_reducible exact Ag.refl _ _) | (with_reducible apply Ag.pu0) | ((with_reducible refine Ag.pu _ ?_ ?_); · exact rfl) | ((with_reducible refine Ag.mix ?_ ?_); · exact rfl) | ((with_reducible refine Ag.pus ?_ ?_); · exact rfl))) (by exact trivial) (by repeat (first | exact Ent.refl _ | (apply Ent.cons; · repeat (first | exact pk_head _ _ | apply pk_tail)) | apply Ent.skip))
                exact HR.nil
              exact HR.nil
            exact HR.nil
          exact HR.nil
        refine HR.consE (i := 4) (some 58) rfl rfl rfl (os_bslR ([v].map nc) T.un74 T.ti26 (by rfl) (by rfl) (by simp [nc_len]) (by decide) (by decide)) ?_ ?_
        · rintro _ _ ⟨b58, rfl, rfl⟩
          refine ⟨fun _ => ⟨_, (pkc (by repeat (first | exact pk_head _ _ | apply pk_tail)) (pkc (by repeat (first | exact pk_head _ _ | apply pk_tail)) (pkn _)))⟩, ?_⟩
          refine H_branch (rs := [1]) (by kernel_rfl) (by simp) ?_
          refine HR.consE (i := 1) (some 55) rfl rfl rfl (os_bslR [bv h] T.un73 T.ti43 (by rfl) (by rfl) (by simp [hh]) (by decide) (by decide)) ?_ ?_
          · rintro _ _ ⟨b55, rfl, rfl⟩
            refine ⟨fun _ => ⟨_, (pkc (by repeat (first | exact pk_head _ _ | apply pk_tail)) (pkc (by repeat (first | exact pk_head _ _ | apply pk_tail)) (pkn _)))⟩, ?_⟩
            refine H_branch (rs := [2]) (by kernel_rfl) (by simp) ?_
            refine HR.cons1 (i := 2) (some 56) rfl rfl rfl (os_call2 (WH1 b8 (upB ys xs.length) h b55 hh (by omega)) Try.func18 (by decide +kernel) rfl rfl (by repeat (first | exact pk_head _ _ | apply pk_tail)) (by repeat (first | exact pk_head _ _ | apply pk_tail))) (pkc (by repeat (first | exact pk_head _ _ | apply pk_tail)) (pkc (by repeat (first | exact pk_head _ _ | apply pk_tail)) (pkn _))) ?_ ?_
            · skip
              refine H_branch (rs := [5]) (by kernel_rfl) (by simp) ?_
              refine HR.cons1 (i := 5) (some 59) rfl rfl rfl (os_call2 (WN1 b8 (upB ys xs.length ++ h) v b58 hvM (by simp only [List.length_append]; omega)) Try.func19 (by decide +kernel) rfl rfl (by repeat (first | exact pk_head _ _ | apply pk_tail)) (by repeat (first | exact pk_head _ _ | apply pk_tail))) (pkc (by repeat (first | exact pk_head _ _ | apply pk_tail)) (pkc (by repeat (first | exact pk_head _ _ | apply pk_tail)) (pkn _))) ?_ ?_
              · skip
                refine H_branch (rs := [8]) (by kernel_rfl) (by simp) ?_
                refine HR.cons1 (i := 8) (some 62) rfl rfl rfl (os_callI (WR1 b8 (upB ys xs.length ++ h ++ numB v) b61 b60 (by simp only [List.length_append]; omega)) Try.func20 (by decide +kernel) rfl rfl (pkc (by repeat (first | exact pk_head _ _ | apply pk_tail)) (pkc (by repeat (first | exact pk_head _ _ | apply pk_tail)) (pkc (by repeat (first | exact pk_head _ _ | apply pk_tail)) (pkn _))))) (pkc (by repeat (first | exact pk_head _ _ | apply pk_tail)) (pkc (by repeat (first | exact pk_head _ _ | apply pk_tail)) (pkn _))) ?_ ?_
                · skip
                  refine H_done (by kernel_rfl) ?_
                  exact Meet.cut () trivial (by repeat (first | (with_reducible exact Ag.refl _ _) | (with_reducible apply Ag.pu0) | ((with_reducible refine Ag.pu _ ?_ ?_); · exact rfl) | ((with_reducible refine Ag.mix ?_ ?_); · exact rfl) | ((with_reducible refine Ag.pus ?_ ?_); · exact rfl))) (by exact trivial) (by repeat (first | exact Ent.refl _ | (apply Ent.cons; · repeat (first | exact pk_head _ _ | apply pk_tail)) | apply Ent.skip))
                exact HR.nil
              exact HR.nil
            exact HR.nil
          exact HR.nil
        exact HR.nil
      exact HR.nil
    exact HR.nil
  intro _ _ _
  obtain ⟨all, hall⟩ : ∃ all, upB ys xs.length ++ h ++ numB v ++ [9] = all := ⟨_, rfl⟩
  have hal : all.length ≤ 1000 := by rw [← hall]; simp only [List.length_append, List.length_singleton]; omega
  have hal1 : 1 ≤ all.length := by rw [← hall]; simp; omega
  have hdn : all = downB ys 0 xs.length ++ (h ++ (numB v ++ [9])) := by rw [← hall, upB_down]; simp only [List.append_assoc]
  rw [hall]
  repeat (first | refine CW.seq ?_ | refine PW.then_ ?_ | refine CW.block ?_ | refine CW.skip ?_ | refine CW.ret ?_ | refine PW.then_ret ?_ | refine PW.block_ret ?_ | refine Cut.ret ?_ | refine Rnd.ret ?_ | refine PW.block_normal ?_ | refine CW.exit ?_ | refine PW.then_exit ?_ | refine PW.block_hit ?_ | refine PW.block_miss rfl ?_ | refine Cut.exit ?_ | refine Rnd.exit ?_)
  refine CW.region ?_
  refine LE (os_call (WBytes_spec b8 all (by omega)) Try.func21 (by decide +kernel) rfl rfl (by repeat (first | exact pk_head _ _ | apply pk_tail))) ?_
  rintro _ _ ⟨_, ⟨q2, d2, rfl, rfl⟩, rfl⟩
  refine slOwn_info (pk_head _ _) fun m1 m2 m3 => ?_
  refine L1 (ps_assign rfl).os ?_
  refine LW.nil ?_
  have hby := ByR.own (e := 5) (m := all.length) (d := d2) (q := q2) (bs := all) rfl m1 m3
  generalize slOwn 5 1 (.slice q2 all.length d2) all.length (bv all) = Z at hby ⊢
  repeat (first | refine CW.seq ?_ | refine PW.then_ ?_ | refine CW.block ?_ | refine CW.skip ?_ | refine CW.ret ?_ | refine PW.then_ret ?_ | refine PW.block_ret ?_ | refine Cut.ret ?_ | refine Rnd.ret ?_ | refine PW.block_normal ?_ | refine CW.exit ?_ | refine PW.then_exit ?_ | refine PW.block_hit ?_ | refine PW.block_miss rfl ?_ | refine Cut.exit ?_ | refine Rnd.exit ?_)
  refine CW.region ?_
  refine L1 (ps_move rfl).os ?_
  refine LE (os_call (RNew_spec Z _ all hby) Try.func22 (by decide +kernel) rfl rfl (by repeat (first | exact pk_head _ _ | apply pk_tail))) ?_
  rintro _ _ ⟨_, ⟨pr, rfl, rfl⟩, rfl⟩
  refine L1 (ps_assign rfl).os ?_
  refine LW.nil ?_
  clear hys hr hpv
  generalize hn : xs.length = n at *
  repeat (first | refine CW.seq ?_ | refine PW.then_ ?_ | refine CW.block ?_ | refine CW.skip ?_ | refine CW.ret ?_ | refine PW.then_ret ?_ | refine PW.block_ret ?_ | refine Cut.ret ?_ | refine Rnd.ret ?_ | refine PW.block_normal ?_ | refine CW.exit ?_ | refine PW.then_exit ?_ | refine PW.block_hit ?_ | refine PW.block_miss rfl ?_ | refine Cut.exit ?_ | refine Rnd.exit ?_)
  refine CW.region ?_
  refine L1 (ps_move rfl).os ?_
  refine L1 (ps_len_sl T.un41 rfl).os ?_
  refine L1 (ps_move rfl).os ?_
  refine LW.nil ?_
  repeat (first | refine CW.seq ?_ | refine PW.then_ ?_ | refine CW.block ?_ | refine CW.skip ?_ | refine CW.ret ?_ | refine PW.then_ret ?_ | refine PW.block_ret ?_ | refine Cut.ret ?_ | refine Rnd.ret ?_ | refine PW.block_normal ?_ | refine CW.exit ?_ | refine PW.then_exit ?_ | refine PW.block_hit ?_ | refine PW.block_miss rfl ?_ | refine Cut.exit ?_ | refine Rnd.exit ?_)
  refine CW.loopM (α := Nat) [6, 15, 16, 68, 69, 70, 71, 72, 73, 74, 75, 76, 77, 78, 79, 80] (fun k i => i ≤ n ∧ k = n - i) (fun i => [(68, .int .i64 i)])
    (fun i => RdAt Z pr (downB ys i (n - i) ++ (h ++ (numB v ++ [9]))) false :: Z :: Y :: cb b7 26 (nc v) :: cb b4 43 (bv h) :: bag (blks W) :: F) n 0 ⟨Nat.zero_le _, rfl⟩ ⟨rfl, trivial⟩ (by rw [Nat.sub_zero, ← hdn]; exact (by repeat (first | exact Ent.refl _ | (apply Ent.cons; · repeat (first | exact pk_head _ _ | apply pk_tail)) | apply Ent.skip))) ?_
  rintro k i g2 ⟨hi2, hk2⟩
  repeat (first | refine CW.seq ?_ | refine PW.then_ ?_ | refine CW.block ?_ | refine CW.skip ?_ | refine CW.ret ?_ | refine PW.then_ret ?_ | refine PW.block_ret ?_ | refine Cut.ret ?_ | refine Rnd.ret ?_ | refine PW.block_normal ?_ | refine CW.exit ?_ | refine PW.then_exit ?_ | refine PW.block_hit ?_ | refine PW.block_miss rfl ?_ | refine Cut.exit ?_ | refine Rnd.exit ?_)
  by_cases hlt : i < n
  · obtain ⟨pw, cw, hpw, -, -, hpf⟩ := hw.len
    have hql : ∃ b o, q = some ⟨b, o, none⟩ := by
      injection hpw with e1 _ _
      subst e1
      exact hpf (fun h => by have := congrArg List.length h; simp at this; rw [this] at hyl; simp at hyl; omega)
    obtain ⟨wb, wo, rfl⟩ := hql
    have hsrc := fun As Bs (hp : List.Perm As (_ :: Bs)) => hw.src (i := i) (by simpa [hyl] using hlt) hp
    simp only [List.getElem_map] at hsrc
    have hyd : ys.getD i 0 = ys[i]'(by omega) := by rw [List.getD_eq_getElem?_getD, List.getElem?_eq_getElem (by omega)]; rfl
    obtain ⟨y0, y1⟩ := hyr i hlt
    rw [← hyd] at hsrc
    have hdl := downB_len ys (n - (i + 1)) (i + 1)
    have hI := RInt_at Z pr ys i (n - (i + 1)) (ys.getD i 0) (h ++ (numB v ++ [9])) rfl y0 y1 (by simp only [List.length_append, List.length_singleton]; omega)
    rw [show n - (i + 1) + 1 = n - i by omega] at hI
    have hkv : kk i = 1 + i % 6 := rfl
    generalize ys.getD i 0 = y at *
    generalize kk i = ki at *
    refine CW.region ?_
    refine L1 (ps_t (ps_lss rfl rfl) (by omega)).os ?_
    refine LW.nil ?_
    repeat (first | refine CW.seq ?_ | refine PW.then_ ?_ | refine CW.block ?_ | refine CW.skip ?_ | refine CW.ret ?_ | refine PW.then_ret ?_ | refine PW.block_ret ?_ | refine Cut.ret ?_ | refine Rnd.ret ?_ | refine PW.block_normal ?_ | refine CW.exit ?_ | refine PW.then_exit ?_ | refine PW.block_hit ?_ | refine PW.block_miss rfl ?_ | refine Cut.exit ?_ | refine Rnd.exit ?_)
    refine CW.cond_true rfl ?_
    repeat (first | refine CW.seq ?_ | refine PW.then_ ?_ | refine CW.block ?_ | refine CW.skip ?_ | refine CW.ret ?_ | refine PW.then_ret ?_ | refine PW.block_ret ?_ | refine Cut.ret ?_ | refine Rnd.ret ?_ | refine PW.block_normal ?_ | refine CW.exit ?_ | refine PW.then_exit ?_ | refine PW.block_hit ?_ | refine PW.block_miss rfl ?_ | refine Cut.exit ?_ | refine Rnd.exit ?_)
    refine CW.region ?_
    refine L1 (ps_move rfl).os ?_
    refine L1 (ps_ia_slice T.un41 T.sz3 rfl rfl (by omega) (by omega)).os ?_
    refine L1 (os_loadS1 (v := .int .i64 y) (hsrc _ _ (by repeat (first | exact pk_head _ _ | apply pk_tail))) T.ag3 rfl) ?_
    refine L1 (ps_assign rfl).os ?_
    refine L1 (ps_assign rfl).os ?_
    refine LW.nil ?_
    repeat (first | refine CW.seq ?_ | refine PW.then_ ?_ | refine CW.block ?_ | refine CW.skip ?_ | refine CW.ret ?_ | refine PW.then_ret ?_ | refine PW.block_ret ?_ | refine Cut.ret ?_ | refine Rnd.ret ?_ | refine PW.block_normal ?_ | refine CW.exit ?_ | refine PW.then_exit ?_ | refine PW.block_hit ?_ | refine PW.block_miss rfl ?_ | refine Cut.exit ?_ | refine Rnd.exit ?_)
    refine CW.region ?_
    refine L1 (ps_move rfl).os ?_
    refine L1 (ps_move rfl).os ?_
    refine L1 (ps_to (u := .int .i64 ((i % 6 : Nat) : Int)) (congrArg _ (by omega)) (ps_rem_pos rfl rfl (by omega) (by decide))).os ?_
    refine L1 (ps_to (u := .int .i64 (ki : Int)) (congrArg _ (by omega)) (ps_add_i64 rfl rfl (by omega) (by omega))).os ?_
    refine L1 (os_call2 hI Try.func23 (by decide +kernel) rfl rfl (by repeat (first | exact pk_head _ _ | apply pk_tail)) (by repeat (first | exact pk_head _ _ | apply pk_tail))) ?_
    refine L1 (ps_move rfl).os ?_
    refine L1 (ps_f (ps_neq rfl rfl) ((fun h => h rfl))).os ?_
    refine LW.nil ?_
    repeat (first | refine CW.seq ?_ | refine PW.then_ ?_ | refine CW.block ?_ | refine CW.skip ?_ | refine CW.ret ?_ | refine PW.then_ret ?_ | refine PW.block_ret ?_ | refine Cut.ret ?_ | refine Rnd.ret ?_ | refine PW.block_normal ?_ | refine CW.exit ?_ | refine PW.then_exit ?_ | refine PW.block_hit ?_ | refine PW.block_miss rfl ?_ | refine Cut.exit ?_ | refine Rnd.exit ?_)
    refine CW.cond_false rfl ?_
    repeat (first | refine CW.seq ?_ | refine PW.then_ ?_ | refine CW.block ?_ | refine CW.skip ?_ | refine CW.ret ?_ | refine PW.then_ret ?_ | refine PW.block_ret ?_ | refine Cut.ret ?_ | refine Rnd.ret ?_ | refine PW.block_normal ?_ | refine CW.exit ?_ | refine PW.then_exit ?_ | refine PW.block_hit ?_ | refine PW.block_miss rfl ?_ | refine Cut.exit ?_ | refine Rnd.exit ?_)
    refine CW.region ?_
    refine L1 (ps_add_i64 rfl rfl (by omega) (by omega)).os ?_
    refine L1 (ps_move rfl).os ?_
    refine LW.nil ?_
    exact Meet.round (n - (i + 1)) (i + 1) (by omega) ⟨hlt, rfl⟩ (by repeat (first | (with_reducible exact Ag.refl _ _) | (with_reducible apply Ag.pu0) | ((with_reducible refine Ag.pu _ ?_ ?_); · exact rfl) | ((with_reducible refine Ag.mix ?_ ?_); · exact rfl) | ((with_reducible refine Ag.pus ?_ ?_); · exact rfl))) ⟨rfl, trivial⟩ (by repeat (first | exact Ent.refl _ | (apply Ent.cons; · repeat (first | exact pk_head _ _ | apply pk_tail)) | apply Ent.skip))
  have hin : i = n := by omega
  subst hin
  rw [Nat.sub_self, show downB ys i 0 = [] from rfl, List.nil_append]
  refine CW.region ?_
  refine L1 (ps_f (ps_lss rfl rfl) (by omega)).os ?_
  refine LW.nil ?_
  repeat (first | refine CW.seq ?_ | refine PW.then_ ?_ | refine CW.block ?_ | refine CW.skip ?_ | refine CW.ret ?_ | refine PW.then_ret ?_ | refine PW.block_ret ?_ | refine Cut.ret ?_ | refine Rnd.ret ?_ | refine PW.block_normal ?_ | refine CW.exit ?_ | refine PW.then_exit ?_ | refine PW.block_hit ?_ | refine PW.block_miss rfl ?_ | refine Cut.exit ?_ | refine Rnd.exit ?_)
  refine CW.cond_false rfl ?_
  repeat (first | refine CW.seq ?_ | refine PW.then_ ?_ | refine CW.block ?_ | refine CW.skip ?_ | refine CW.ret ?_ | refine PW.then_ret ?_ | refine PW.block_ret ?_ | refine Cut.ret ?_ | refine Rnd.ret ?_ | refine PW.block_normal ?_ | refine CW.exit ?_ | refine PW.then_exit ?_ | refine PW.block_hit ?_ | refine PW.block_miss rfl ?_ | refine Cut.exit ?_ | refine Rnd.exit ?_)
  have hb9 : be 1 9 = [9] := by decide
  have hH : FSpec Try.prog 24 [ptr pr] [RdAt Z pr (h ++ (numB v ++ [9])) false, Z] (fun r As => r = .agg (bv h).toArray ∧ As = [RdAt Z pr (numB v ++ [9]) false, Z]) := by
    have h1 := RHash_spec Z pr (h ++ (numB v ++ [9])) false (by simp only [List.length_append, List.length_singleton]; unfold maxLen; omega)
    have e : rdT 32 (h ++ (numB v ++ [9])) false = (h, numB v ++ [9], false) := by
      unfold rdT
      rw [if_neg (by rw [List.length_append]; intro h; rcases h with h | h; cases h; omega), ← hh, List.take_left, List.drop_left]
    rw [e] at h1
    exact h1
  have hN : FSpec Try.prog 25 [ptr pr] [RdAt Z pr (numB v ++ [9]) false, Z] (fun r As => r = .agg (nc v).toArray ∧ As = [RdAt Z pr [9] false, Z]) := by
    have h1 := RNum_spec Z pr (numB v ++ [9]) false (by simp only [List.length_append, List.length_singleton]; unfold maxLen; omega)
    have e := rdn_num v [9] hvM
    unfold rdn at e
    dsimp only at e
    obtain ⟨e1, e2⟩ := Prod.mk.inj e
    rw [show rdNum (numB v ++ [9]) false = v from e1, e2] at h1
    exact h1
  have hI9 : FSpec Try.prog 23 [ptr pr, .int .i64 1] [RdAt Z pr [9] false, Z] (fun r As => r = .int .i64 9 ∧ As = [RdAt Z pr [] false, Z]) := RInt_spec Z pr [9] false 1 (by decide) (by decide) (by decide)
  have hI2 : FSpec Try.prog 23 [ptr pr, .int .i64 2] [RdAt Z pr [] false, Z] (fun r As => r = .int .i64 0 ∧ As = [RdAt Z pr [] true, Z]) := RInt_spec Z pr [] false 2 (by decide) (by decide) (by decide)
  have hD0 : FSpec Try.prog 27 [ptr pr] [RdAt Z pr [9] false] (fun r As => r = .bool false ∧ As = [RdAt Z pr [9] false]) := by
    have := RDone_spec Z pr [9] false
    rwa [decide_eq_false (by simp)] at this
  have hD1 : FSpec Try.prog 27 [ptr pr] [RdAt Z pr [] false] (fun r As => r = .bool true ∧ As = [RdAt Z pr [] false]) := RDone_spec Z pr [] false
  have hD2 : FSpec Try.prog 27 [ptr pr] [RdAt Z pr [] true] (fun r As => r = .bool false ∧ As = [RdAt Z pr [] true]) := RDone_spec Z pr [] true
  refine CW.cutB (α := Unit) [81, 82, 83, 84, 85, 86, 87, 88, 89, 90, 91, 92, 93, 94, 95, 96, 97, 98, 99, 100, 101, 102, 103, 104, 105, 106, 107, 108] (fun _ => True) (fun _ => [(108, .bool false)]) (fun _ => RdAt Z pr [] false :: Z :: cb b7 26 (nc v) :: cb b4 43 (bv h) :: bag (blks W) :: F) ?_ ?_
  · refine CW.drawH [cb b4 43 (bv h), cb b7 26 (nc v)] [] T.mixed ?_
    refine H_take (i := 0) (some 81) rfl rfl (by kernel_rfl) (by kernel_rfl) (by kernel_rfl) rfl (ps_move rfl).pl (by kernel_rfl) (pkc (by repeat (first | exact pk_head _ _ | apply pk_tail)) (pkc (by repeat (first | exact pk_head _ _ | apply pk_tail)) (pkn _))) ?_
    refine H_take (i := 2) (some 83) rfl rfl (by kernel_rfl) (by kernel_rfl) (by kernel_rfl) rfl (pl_loadAll (b := b4) (cs := bv h) (by repeat (first | exact pk_head _ _ | apply pk_tail)) T.ag43 hszh rfl) (by kernel_rfl) (pkc (by repeat (first | exact pk_head _ _ | apply pk_tail)) (pkc (by repeat (first | exact pk_head _ _ | apply pk_tail)) (pkn _))) ?_
    refine H_branch (rs := [1]) (by kernel_rfl) (by simp) ?_
    refine HR.cons1 (i := 1) (some 82) rfl rfl rfl (os_call2 hH Try.func24 (by decide +kernel) rfl rfl (by repeat (first | exact pk_head _ _ | apply pk_tail)) (by repeat (first | exact pk_head _ _ | apply pk_tail))) (pkc (by repeat (first | exact pk_head _ _ | apply pk_tail)) (pkc (by repeat (first | exact pk_head _ _ | apply pk_tail)) (pkn _))) ?_ ?_
    · skip
      refine H_take (i := 3) (some 84) rfl rfl (by kernel_rfl) (by kernel_rfl) (by kernel_rfl) rfl (ps_agg_neq_f T.eq43 rfl rfl (by exact hkh) (by exact hkh) rfl).pl (by kernel_rfl) (pkc (by repeat (first | exact pk_head _ _ | apply pk_tail)) (pkc (by repeat (first | exact pk_head _ _ | apply pk_tail)) (pkn _))) ?_
      refine H_take (i := 4) (some 85) rfl rfl (by kernel_rfl) (by kernel_rfl) (by kernel_rfl) rfl (ps_move rfl).pl (by kernel_rfl) (pkc (by repeat (first | exact pk_head _ _ | apply pk_tail)) (pkc (by repeat (first | exact pk_head _ _ | apply pk_tail)) (pkn _))) ?_
      refine H_take (i := 5) (some 86) rfl rfl (by kernel_rfl) (by kernel_rfl) (by kernel_rfl) rfl (ps_move rfl).pl (by kernel_rfl) (pkc (by repeat (first | exact pk_head _ _ | apply pk_tail)) (pkc (by repeat (first | exact pk_head _ _ | apply pk_tail)) (pkn _))) ?_
      refine H_take (i := 7) (some 88) rfl rfl (by kernel_rfl) (by kernel_rfl) (by kernel_rfl) rfl (pl_loadAll (b := b7) (cs := nc v) (by repeat (first | exact pk_head _ _ | apply pk_tail)) T.ag26 (by exact T.sz26) rfl) (by kernel_rfl) (pkc (by repeat (first | exact pk_head _ _ | apply pk_tail)) (pkc (by repeat (first | exact pk_head _ _ | apply pk_tail)) (pkn _))) ?_
      refine H_branch (rs := [6]) (by kernel_rfl) (by simp) ?_
      refine HR.cons1 (i := 6) (some 87) rfl rfl rfl (os_call2 hN Try.func25 (by decide +kernel) rfl rfl (by repeat (first | exact pk_head _ _ | apply pk_tail)) (by repeat (first | exact pk_head _ _ | apply pk_tail))) (pkc (by repeat (first | exact pk_head _ _ | apply pk_tail)) (pkc (by repeat (first | exact pk_head _ _ | apply pk_tail)) (pkn _))) ?_ ?_
      · skip
        refine H_take (i := 8) (some 89) rfl rfl (by kernel_rfl) (by kernel_rfl) (by kernel_rfl) rfl (ps_f (ps_num_neq v v T.eq26 rfl rfl) (fun h => h rfl)).pl (by kernel_rfl) (pkc (by repeat (first | exact pk_head _ _ | apply pk_tail)) (pkc (by repeat (first | exact pk_head _ _ | apply pk_tail)) (pkn _))) ?_
        refine H_take (i := 9) (some 90) rfl rfl (by kernel_rfl) (by kernel_rfl) (by kernel_rfl) rfl (ps_pick_f rfl rfl).pl (by kernel_rfl) (pkc (by repeat (first | exact pk_head _ _ | apply pk_tail)) (pkc (by repeat (first | exact pk_head _ _ | apply pk_tail)) (pkn _))) ?_
        refine H_take (i := 10) (some 91) rfl rfl (by kernel_rfl) (by kernel_rfl) (by kernel_rfl) rfl (ps_move rfl).pl (by kernel_rfl) (pkc (by repeat (first | exact pk_head _ _ | apply pk_tail)) (pkc (by repeat (first | exact pk_head _ _ | apply pk_tail)) (pkn _))) ?_
        refine H_take (i := 11) (some 92) rfl rfl (by kernel_rfl) (by kernel_rfl) (by kernel_rfl) rfl (ps_move rfl).pl (by kernel_rfl) (pkc (by repeat (first | exact pk_head _ _ | apply pk_tail)) (pkc (by repeat (first | exact pk_head _ _ | apply pk_tail)) (pkn _))) ?_
        refine H_branch (rs := [12]) (by kernel_rfl) (by simp) ?_
        refine HR.cons1 (i := 12) (some 93) rfl rfl rfl (os_call1 (RBad_spec Z pr [9] false) Try.func26 (by decide +kernel) rfl rfl (by repeat (first | exact pk_head _ _ | apply pk_tail))) (pkc (by repeat (first | exact pk_head _ _ | apply pk_tail)) (pkc (by repeat (first | exact pk_head _ _ | apply pk_tail)) (pkn _))) ?_ ?_
        · skip
          refine H_take (i := 13) (some 94) rfl rfl (by kernel_rfl) (by kernel_rfl) (by kernel_rfl) rfl (ps_pick_f rfl rfl).pl (by kernel_rfl) (pkc (by repeat (first | exact pk_head _ _ | apply pk_tail)) (pkc (by repeat (first | exact pk_head _ _ | apply pk_tail)) (pkn _))) ?_
          refine H_take (i := 14) (some 95) rfl rfl (by kernel_rfl) (by kernel_rfl) (by kernel_rfl) rfl (ps_move rfl).pl (by kernel_rfl) (pkc (by repeat (first | exact pk_head _ _ | apply pk_tail)) (pkc (by repeat (first | exact pk_head _ _ | apply pk_tail)) (pkn _))) ?_
          refine H_take (i := 15) (some 96) rfl rfl (by kernel_rfl) (by kernel_rfl) (by kernel_rfl) rfl (ps_move rfl).pl (by kernel_rfl) (pkc (by repeat (first | exact pk_head _ _ | apply pk_tail)) (pkc (by repeat (first | exact pk_head _ _ | apply pk_tail)) (pkn _))) ?_
          refine H_branch (rs := [16]) (by kernel_rfl) (by simp) ?_
          refine HR.cons1 (i := 16) (some 97) rfl rfl rfl (os_call1 hD0 Try.func27 (by decide +kernel) rfl rfl (by repeat (first | exact pk_head _ _ | apply pk_tail))) (pkc (by repeat (first | exact pk_head _ _ | apply pk_tail)) (pkc (by repeat (first | exact pk_head _ _ | apply pk_tail)) (pkn _))) ?_ ?_
          · skip
            refine H_take (i := 17) (some 98) rfl rfl (by kernel_rfl) (by kernel_rfl) (by kernel_rfl) rfl (ps_pick_f rfl rfl).pl (by kernel_rfl) (pkc (by repeat (first | exact pk_head _ _ | apply pk_tail)) (pkc (by repeat (first | exact pk_head _ _ | apply pk_tail)) (pkn _))) ?_
            refine H_take (i := 18) (some 99) rfl rfl (by kernel_rfl) (by kernel_rfl) (by kernel_rfl) rfl (ps_move rfl).pl (by kernel_rfl) (pkc (by repeat (first | exact pk_head _ _ | apply pk_tail)) (pkc (by repeat (first | exact pk_head _ _ | apply pk_tail)) (pkn _))) ?_
            refine H_take (i := 19) (some 100) rfl rfl (by kernel_rfl) (by kernel_rfl) (by kernel_rfl) rfl (ps_move rfl).pl (by kernel_rfl) (pkc (by repeat (first | exact pk_head _ _ | apply pk_tail)) (pkc (by repeat (first | exact pk_head _ _ | apply pk_tail)) (pkn _))) ?_
            refine H_branch (rs := [20]) (by kernel_rfl) (by simp) ?_
            refine HR.cons1 (i := 20) (some 101) rfl rfl rfl (os_call2 hI9 Try.func23 (by decide +kernel) rfl rfl (by repeat (first | exact pk_head _ _ | apply pk_tail)) (by repeat (first | exact pk_head _ _ | apply pk_tail))) (pkc (by repeat (first | exact pk_head _ _ | apply pk_tail)) (pkc (by repeat (first | exact pk_head _ _ | apply pk_tail)) (pkn _))) ?_ ?_
            · skip
              refine H_take (i := 21) (some 102) rfl rfl (by kernel_rfl) (by kernel_rfl) (by kernel_rfl) rfl (ps_f (ps_neq rfl rfl) ((fun h => h rfl))).pl (by kernel_rfl) (pkc (by repeat (first | exact pk_head _ _ | apply pk_tail)) (pkc (by repeat (first | exact pk_head _ _ | apply pk_tail)) (pkn _))) ?_
              refine H_take (i := 22) (some 103) rfl rfl (by kernel_rfl) (by kernel_rfl) (by kernel_rfl) rfl (ps_pick_f rfl rfl).pl (by kernel_rfl) (pkc (by repeat (first | exact pk_head _ _ | apply pk_tail)) (pkc (by repeat (first | exact pk_head _ _ | apply pk_tail)) (pkn _))) ?_
              refine H_take (i := 23) (some 104) rfl rfl (by kernel_rfl) (by kernel_rfl) (by kernel_rfl) rfl (ps_move rfl).pl (by kernel_rfl) (pkc (by repeat (first | exact pk_head _ _ | apply pk_tail)) (pkc (by repeat (first | exact pk_head _ _ | apply pk_tail)) (pkn _))) ?_
              refine H_take (i := 24) (some 105) rfl rfl (by kernel_rfl) (by kernel_rfl) (by kernel_rfl) rfl (ps_move rfl).pl (by kernel_rfl) (pkc (by repeat (first | exact pk_head _ _ | apply pk_tail)) (pkc (by repeat (first | exact pk_head _ _ | apply pk_tail)) (pkn _))) ?_
              refine H_branch (rs := [25]) (by kernel_rfl) (by simp) ?_
              refine HR.cons1 (i := 25) (some 106) rfl rfl rfl (os_call1 hD1 Try.func27 (by decide +kernel) rfl rfl (by repeat (first | exact pk_head _ _ | apply pk_tail))) (pkc (by repeat (first | exact pk_head _ _ | apply pk_tail)) (pkc (by repeat (first | exact pk_head _ _ | apply pk_tail)) (pkn _))) ?_ ?_
              · skip
                refine H_take (i := 26) (some 107) rfl rfl (by kernel_rfl) (by kernel_rfl) (by kernel_rfl) rfl (ps_not rfl).pl (by kernel_rfl) (pkc (by repeat (first | exact pk_head _ _ | apply pk_tail)) (pkc (by repeat (first | exact pk_head _ _ | apply pk_tail)) (pkn _))) ?_
                refine H_take (i := 27) (some 108) rfl rfl (by kernel_rfl) (by kernel_rfl) (by kernel_rfl) rfl (ps_pick_f rfl rfl).pl (by kernel_rfl) (pkc (by repeat (first | exact pk_head _ _ | apply pk_tail)) (pkc (by repeat (first | exact pk_head _ _ | apply pk_tail)) (pkn _))) ?_
                refine H_done (by kernel_rfl) ?_
                exact Meet.cut () trivial (by repeat (first | (with_reducible exact Ag.refl _ _) | (with_reducible apply Ag.pu0) | ((with_reducible refine Ag.pu _ ?_ ?_); · exact rfl) | ((with_reducible refine Ag.mix ?_ ?_); · exact rfl) | ((with_reducible refine Ag.pus ?_ ?_); · exact rfl))) ⟨rfl, trivial⟩ (by repeat (first | exact Ent.refl _ | (apply Ent.cons; · repeat (first | exact pk_head _ _ | apply pk_tail)) | apply Ent.skip))
              exact HR.nil
            exact HR.nil
          exact HR.nil
        exact HR.nil
      exact HR.nil
    exact HR.nil
  intro _ _ _
  repeat (first | refine CW.seq ?_ | refine PW.then_ ?_ | refine CW.block ?_ | refine CW.skip ?_ | refine CW.ret ?_ | refine PW.then_ret ?_ | refine PW.block_ret ?_ | refine Cut.ret ?_ | refine Rnd.ret ?_ | refine PW.block_normal ?_ | refine CW.exit ?_ | refine PW.then_exit ?_ | refine PW.block_hit ?_ | refine PW.block_miss rfl ?_ | refine Cut.exit ?_ | refine Rnd.exit ?_)
  refine CW.cond_false rfl ?_
  repeat (first | refine CW.seq ?_ | refine PW.then_ ?_ | refine CW.block ?_ | refine CW.skip ?_ | refine CW.ret ?_ | refine PW.then_ret ?_ | refine PW.block_ret ?_ | refine Cut.ret ?_ | refine Rnd.ret ?_ | refine PW.block_normal ?_ | refine CW.exit ?_ | refine PW.then_exit ?_ | refine PW.block_hit ?_ | refine PW.block_miss rfl ?_ | refine Cut.exit ?_ | refine Rnd.exit ?_)
  refine CW.region ?_
  refine L1 (ps_move rfl).os ?_
  refine L1 (os_call2 hI2 Try.func23 (by decide +kernel) rfl rfl (by repeat (first | exact pk_head _ _ | apply pk_tail)) (by repeat (first | exact pk_head _ _ | apply pk_tail))) ?_
  refine L1 (ps_f (ps_neq rfl rfl) ((fun h => h rfl))).os ?_
  refine L1 (ps_move rfl).os ?_
  refine LG1 ?_ (ps_move rfl).os ?_
  · exact rfl
  refine LG1 ?_ (os_call1 (RBad_spec Z pr [] true) Try.func26 (by decide +kernel) rfl rfl (by repeat (first | exact pk_head _ _ | apply pk_tail))) ?_
  · exact rfl
  refine LG1 ?_ (ps_not rfl).os ?_
  · exact rfl
  refine L1 (ps_pick_f rfl rfl).os ?_
  refine L1 (ps_move rfl).os ?_
  refine LG1 ?_ (ps_move rfl).os ?_
  · exact rfl
  refine LG1 ?_ (os_call1 hD2 Try.func27 (by decide +kernel) rfl rfl (by repeat (first | exact pk_head _ _ | apply pk_tail))) ?_
  · exact rfl
  refine L1 (ps_pick_f rfl rfl).os ?_
  refine LW.nil ?_
  repeat (first | refine CW.seq ?_ | refine PW.then_ ?_ | refine CW.block ?_ | refine CW.skip ?_ | refine CW.ret ?_ | refine PW.then_ret ?_ | refine PW.block_ret ?_ | refine Cut.ret ?_ | refine Rnd.ret ?_ | refine PW.block_normal ?_ | refine CW.exit ?_ | refine PW.then_exit ?_ | refine PW.block_hit ?_ | refine PW.block_miss rfl ?_ | refine Cut.exit ?_ | refine Rnd.exit ?_)
  refine CW.cond_false rfl ?_
  repeat (first | refine CW.seq ?_ | refine PW.then_ ?_ | refine CW.block ?_ | refine CW.skip ?_ | refine CW.ret ?_ | refine PW.then_ret ?_ | refine PW.block_ret ?_ | refine Cut.ret ?_ | refine Rnd.ret ?_ | refine PW.block_normal ?_ | refine CW.exit ?_ | refine PW.then_exit ?_ | refine PW.block_hit ?_ | refine PW.block_miss rfl ?_ | refine Cut.exit ?_ | refine Rnd.exit ?_)
  generalize hL : all.length = L at *
  have hL0 : (0 : Int) < L := by omega
  have ht1 := Int.tmod_lt_of_pos cut hL0
  have ht2 : -(L : Int) < cut.tmod L := Int.lt_tmod_of_pos cut hL0
  obtain ⟨j, hj, hjL⟩ : ∃ j : Nat, (cut.tmod L + L) % L = j ∧ j < L := by
    have e1 := Int.emod_nonneg (cut.tmod L + L) (by omega : (L : Int) ≠ 0)
    have e2 := Int.emod_lt_of_pos (cut.tmod L + L) hL0
    exact ⟨((cut.tmod L + L) % L).toNat, by omega, by omega⟩
  have hbt := hby.take j (by omega)
  refine CW.region ?_
  refine L1 (ps_move rfl).os ?_
  refine L1 (ps_move rfl).os ?_
  refine L1 (ps_move rfl).os ?_
  refine L1 (ps_len_sl T.un32 rfl).os ?_
  refine L1 (ps_rem rfl rfl (by omega)).os ?_
  refine L1 (ps_move rfl).os ?_
  refine L1 (ps_len_sl T.un32 rfl).os ?_
  refine L1 (ps_add_i64 rfl rfl (by omega) (by omega)).os ?_
  refine L1 (ps_move rfl).os ?_
  refine L1 (ps_len_sl T.un32 rfl).os ?_
  refine L1 (ps_to (u := .int .i64 (j : Int)) (congrArg _ hj) (ps_rem_pos rfl rfl (by omega) hL0)).os ?_
  refine L1 (ps_to (u := .slice q2 j d2) (by simp) (ps_sl_h T.un32 T.sz5 rfl rfl (by omega) (by omega))).os ?_
  refine LE (os_call (RNew_spec Z _ (all.take j) hbt) Try.func22 (by decide +kernel) rfl rfl (by repeat (first | exact pk_head _ _ | apply pk_tail))) ?_
  rintro _ _ ⟨_, ⟨ps, rfl, rfl⟩, rfl⟩
  refine L1 (ps_assign rfl).os ?_
  refine LW.nil ?_
  have hrl := rds_len (all.take j)
  have hrg := rds_gt (all.take j)
  have htl : (all.take j).length = j := by rw [List.length_take]; omega
  rw [htl] at hrl hrg
  repeat (first | refine CW.seq ?_ | refine PW.then_ ?_ | refine CW.block ?_ | refine CW.skip ?_ | refine CW.ret ?_ | refine PW.then_ret ?_ | refine PW.block_ret ?_ | refine Cut.ret ?_ | refine Rnd.ret ?_ | refine PW.block_normal ?_ | refine CW.exit ?_ | refine PW.then_exit ?_ | refine PW.block_hit ?_ | refine PW.block_miss rfl ?_ | refine Cut.exit ?_ | refine Rnd.exit ?_)
  refine CW.region ?_
  refine L1 (ps_move rfl).os ?_
  refine L1 (ps_len_sl T.un32 rfl).os ?_
  refine L1 (ps_add_i64 rfl rfl (by omega) (by omega)).os ?_
  refine L1 (ps_move rfl).os ?_
  refine LW.nil ?_
  repeat (first | refine CW.seq ?_ | refine PW.then_ ?_ | refine CW.block ?_ | refine CW.skip ?_ | refine CW.ret ?_ | refine PW.then_ret ?_ | refine PW.block_ret ?_ | refine Cut.ret ?_ | refine Rnd.ret ?_ | refine PW.block_normal ?_ | refine CW.exit ?_ | refine PW.then_exit ?_ | refine PW.block_hit ?_ | refine PW.block_miss rfl ?_ | refine Cut.exit ?_ | refine Rnd.exit ?_)
  refine CW.loopM (α := Nat) [137, 138, 139, 140, 141] (fun k i => i ≤ L + 3 ∧ k = L + 3 - i) (fun i => [(137, .int .i64 i)])
    (fun i => RdAt Z ps (rds (all.take j) i).1 (rds (all.take j) i).2 :: Z :: bag (blks W) :: F) (L + 3) 0 ⟨Nat.zero_le _, rfl⟩ ⟨rfl, trivial⟩ (by repeat (first | exact Ent.refl _ | (apply Ent.cons; · repeat (first | exact pk_head _ _ | apply pk_tail)) | apply Ent.skip)) ?_
  rintro k i' g3 ⟨hi3, hk3⟩
  repeat (first | refine CW.seq ?_ | refine PW.then_ ?_ | refine CW.block ?_ | refine CW.skip ?_ | refine CW.ret ?_ | refine PW.then_ret ?_ | refine PW.block_ret ?_ | refine Cut.ret ?_ | refine Rnd.ret ?_ | refine PW.block_normal ?_ | refine CW.exit ?_ | refine PW.then_exit ?_ | refine PW.block_hit ?_ | refine PW.block_miss rfl ?_ | refine Cut.exit ?_ | refine Rnd.exit ?_)
  by_cases hlt : i' < L + 3
  · have hrl' := hrl i'
    have hI := RInt_spec Z ps (rds (all.take j) i').1 (rds (all.take j) i').2 1 (by unfold maxLen; omega) (by decide) (by decide)
    refine CW.region ?_
    refine L1 (ps_t (ps_lss rfl rfl) (by omega)).os ?_
    refine LW.nil ?_
    repeat (first | refine CW.seq ?_ | refine PW.then_ ?_ | refine CW.block ?_ | refine CW.skip ?_ | refine CW.ret ?_ | refine PW.then_ret ?_ | refine PW.block_ret ?_ | refine Cut.ret ?_ | refine Rnd.ret ?_ | refine PW.block_normal ?_ | refine CW.exit ?_ | refine PW.then_exit ?_ | refine PW.block_hit ?_ | refine PW.block_miss rfl ?_ | refine Cut.exit ?_ | refine Rnd.exit ?_)
    refine CW.cond_true rfl ?_
    repeat (first | refine CW.seq ?_ | refine PW.then_ ?_ | refine CW.block ?_ | refine CW.skip ?_ | refine CW.ret ?_ | refine PW.then_ret ?_ | refine PW.block_ret ?_ | refine Cut.ret ?_ | refine Rnd.ret ?_ | refine PW.block_normal ?_ | refine CW.exit ?_ | refine PW.then_exit ?_ | refine PW.block_hit ?_ | refine PW.block_miss rfl ?_ | refine Cut.exit ?_ | refine Rnd.exit ?_)
    refine CW.region ?_
    refine L1 (ps_move rfl).os ?_
    refine L1 (os_call2 hI Try.func23 (by decide +kernel) rfl rfl (by repeat (first | exact pk_head _ _ | apply pk_tail)) (by repeat (first | exact pk_head _ _ | apply pk_tail))) ?_
    refine LW.nil ?_
    repeat (first | refine CW.seq ?_ | refine PW.then_ ?_ | refine CW.block ?_ | refine CW.skip ?_ | refine CW.ret ?_ | refine PW.then_ret ?_ | refine PW.block_ret ?_ | refine Cut.ret ?_ | refine Rnd.ret ?_ | refine PW.block_normal ?_ | refine CW.exit ?_ | refine PW.then_exit ?_ | refine PW.block_hit ?_ | refine PW.block_miss rfl ?_ | refine Cut.exit ?_ | refine Rnd.exit ?_)
    refine CW.region ?_
    refine L1 (ps_add_i64 rfl rfl (by omega) (by omega)).os ?_
    refine L1 (ps_move rfl).os ?_
    refine LW.nil ?_
    exact Meet.round (L + 3 - (i' + 1)) (i' + 1) (by omega) ⟨hlt, rfl⟩ (by repeat (first | (with_reducible exact Ag.refl _ _) | (with_reducible apply Ag.pu0) | ((with_reducible refine Ag.pu _ ?_ ?_); · exact rfl) | ((with_reducible refine Ag.mix ?_ ?_); · exact rfl) | ((with_reducible refine Ag.pus ?_ ?_); · exact rfl))) ⟨rfl, trivial⟩ (by repeat (first | exact Ent.refl _ | (apply Ent.cons; · repeat (first | exact pk_head _ _ | apply pk_tail)) | apply Ent.skip))
  have hin : i' = L + 3 := by omega
  subst hin
  have hent : Ent (RdAt Z ps (rds (all.take j) (L + 3)).1 (rds (all.take j) (L + 3)).2 :: Z :: bag (blks W) :: F) (RdAt Z ps [] true :: Z :: bag (blks W) :: F) := by
    rw [hrg (L + 3) (by omega)]; exact Ent.refl _
  refine J.ent hent ?_
  have hN0 := RNum_bad Z ps
  have hH0 := RHash_bad Z ps
  have hk0 := KV.bv (List.replicate 32 0)
  rw [List.length_replicate] at hk0
  refine CW.region ?_
  refine L1 (ps_f (ps_lss rfl rfl) (by omega)).os ?_
  refine LW.nil ?_
  repeat (first | refine CW.seq ?_ | refine PW.then_ ?_ | refine CW.block ?_ | refine CW.skip ?_ | refine CW.ret ?_ | refine PW.then_ret ?_ | refine PW.block_ret ?_ | refine Cut.ret ?_ | refine Rnd.ret ?_ | refine PW.block_normal ?_ | refine CW.exit ?_ | refine PW.then_exit ?_ | refine PW.block_hit ?_ | refine PW.block_miss rfl ?_ | refine Cut.exit ?_ | refine Rnd.exit ?_)
  refine CW.cond_false rfl ?_
  repeat (first | refine CW.seq ?_ | refine PW.then_ ?_ | refine CW.block ?_ | refine CW.skip ?_ | refine CW.ret ?_ | refine PW.then_ret ?_ | refine PW.block_ret ?_ | refine Cut.ret ?_ | refine Rnd.ret ?_ | refine PW.block_normal ?_ | refine CW.exit ?_ | refine PW.then_exit ?_ | refine PW.block_hit ?_ | refine PW.block_miss rfl ?_ | refine Cut.exit ?_ | refine Rnd.exit ?_)
  refine CW.region ?_
  refine L1 (ps_move rfl).os ?_
  refine L1 (os_call1 (RBad_spec Z ps [] true) Try.func26 (by decide +kernel) rfl rfl (by repeat (first | exact pk_head _ _ | apply pk_tail))) ?_
  refine L1 (ps_move rfl).os ?_
  refine LG1 ?_ (ps_move rfl).os ?_
  · exact rfl
  refine LG1 ?_ (os_call2 hN0 Try.func25 (by decide +kernel) rfl rfl (by repeat (first | exact pk_head _ _ | apply pk_tail)) (by repeat (first | exact pk_head _ _ | apply pk_tail))) ?_
  · exact rfl
  refine LG1 ?_ (ps_to (u := .agg (nc 0).toArray) (by rfl) (ps_build (by rfl) (by kernel_rfl))).os ?_
  · exact rfl
  refine LG1 ?_ (ps_t (ps_num_eql 0 0 T.eq26 rfl rfl) rfl).os ?_
  · exact rfl
  refine L1 (ps_pick_t rfl rfl).os ?_
  refine L1 (ps_move rfl).os ?_
  refine LG1 ?_ (ps_move rfl).os ?_
  · exact rfl
  refine LG1 ?_ (os_call2 hH0 Try.func24 (by decide +kernel) rfl rfl (by repeat (first | exact pk_head _ _ | apply pk_tail)) (by repeat (first | exact pk_head _ _ | apply pk_tail))) ?_
  · exact rfl
  refine LG1 ?_ (ps_to (u := .agg (bv (List.replicate 32 0)).toArray) (by rfl) (ps_build (by rfl) (by kernel_rfl))).os ?_
  · exact rfl
  refine LG1 ?_ (ps_agg_same T.eq43 rfl rfl (by exact hk0)).os ?_
  · exact rfl
  refine L1 (ps_pick_t rfl rfl).os ?_
  refine L1 (ps_assign rfl).os ?_
  refine LW.nil ?_
  repeat (first | refine CW.seq ?_ | refine PW.then_ ?_ | refine CW.block ?_ | refine CW.skip ?_ | refine CW.ret ?_ | refine PW.then_ret ?_ | refine PW.block_ret ?_ | refine Cut.ret ?_ | refine Rnd.ret ?_ | refine PW.block_normal ?_ | refine CW.exit ?_ | refine PW.then_exit ?_ | refine PW.block_hit ?_ | refine PW.block_miss rfl ?_ | refine Cut.exit ?_ | refine Rnd.exit ?_)
  exact Fin.ret1 (v := .bool true) rfl [bag (blks W)] rfl ⟨rfl, rfl⟩ (by repeat (first | exact Ent.refl _ | (apply Ent.cons; · repeat (first | exact pk_head _ _ | apply pk_tail)) | apply Ent.skip))

namespace wireReads
open Go.ChangeShapes Go.WideShapes Go.ChangeAt Go.RowKit
theorem own : ownKnob Try.prog.godebug = none := by kernel_rfl
theorem laidOut : laidOutB Try.prog = true := by kernel_rfl
set_option maxRecDepth 100000 in
theorem lifted (os : Os) (started : os.Started) (H : Type) (enc : TypeId × Value → H) :
    ReturnsInHanded {} Try.checked os 7 .any (Rows.wireReadsSpec.pre6 enc Try.prog Try.f7 Rows.wireReadsRow.domain false) (Rows.wireReadsSpec.post enc Try.prog Try.f7 false true false false) := by
  refine returnsInHanded_of_change (C := Try.checked) own started (by kernel_rfl) Try.func7
    (ChangeSpec.witness6 (enc := enc) (C := Try.checked) false ⟨#[], #[(Value.slice none 0 0), (.agg (List.replicate 32 (Value.int .u8 0)).toArray), (Value.int .i64 0)], []⟩ 8 (by kernel_rfl) (by kernel_rfl) (by kernel_rfl) (by kernel_rfl)) ?_
  intro W base args ds gs before hval0 hW hcnd _
  have hval : ∀ (j : Nat) t v, Try.f7.params[j]? = some t → args[j]? = some v → Value.okWide Try.prog W .any base t v := hval0
  have hW' := hW
  obtain ⟨p, q, hA0, hV, rfl, hfz, hnd⟩ := hW
  have hA : DataW.TrodAll enc Try.prog W 0 (fun _ => true) true Try.f7.params.toList args.toList ds p := hA0
  rw [Try.params7] at hA hval
  obtain ⟨v0, vs0, d0, ds0, p0, q0, hargs, rfl, rfl, h0, r0⟩ := trodAll_cons hA
  obtain ⟨v1, vs1, d1, ds1, p1, q1, rfl, rfl, rfl, h1, r1⟩ := trodAll_cons r0
  obtain ⟨v2, vs2, d2, ds2, p2, q2, rfl, rfl, rfl, h2, r2⟩ := trodAll_cons r1
  obtain ⟨rfl, rfl, rfl⟩ := trodAll_nil r2
  obtain rfl : args = #[v0, v1, v2] := by cases args; simp_all
  obtain ⟨rfl, rfl⟩ := trodVars_none hV
  obtain ⟨_, _, _, rfl⟩ := okWide_slice T.un41 (hval 0 41 v0 rfl rfl)
  obtain ⟨fu0, hf0⟩ := h0
  obtain ⟨a0, b0⟩ := open_Slint hf0
  obtain ⟨cs1, rfl, hcs1⟩ := okWide_agg T.ag43 (hval 1 43 v1 rfl rfl)
  obtain ⟨fu1, hf1⟩ := h1
  obtain ⟨a1, b1, c1⟩ := open_hash hf1
  obtain ⟨a2, rfl, rfl, rfl, wf2⟩ := open_int T.un3 (hval 2 3 v2 rfl rfl) h2
  have w2 := bounds_i64' wf2
  simp only [List.append_nil] at hW'
  refine (LawOf.calls (WireReads_law W _ a0 b0 _ a1 b1 c1 a2 w2)).mono fun e W' ⟨he, hb⟩ => ?_
  subst he
  exact ⟨_, rfl, law_post laidOut rfl (tb := 4) (by kernel_rfl) T.un4 (by intro t ht; rw [Try.params7] at ht; simp only [List.mem_cons, List.not_mem_nil, or_false] at ht; rcases ht with rfl | rfl | rfl <;> exact ⟨by kernel_rfl, by decide +kernel⟩) rfl hW' hb⟩
theorem holds : Rows.WireReadsSaid :=
  OpenClaim.holds_of_wide 7 Try.f7 rfl rfl rfl rfl rfl rfl rfl ⟨rfl, rfl, rfl, rfl, rfl⟩ rfl rfl rfl rfl rfl (by kernel_rfl) Try.func7 (by kernel_rfl)
    (of_decide_eq_true (by kernel_rfl)) (by unfold Func.isWrapper; rw [if_neg (of_decide_eq_false (by kernel_rfl))]; exact ⟨rfl, rfl⟩)
    (fun os started H enc _ => lifted os started H enc)
end wireReads
end Go.Proofs.Ytpcjjchanjdkaaa
