/- digits: a number's bytes, the lowest first, as an array. -/
import Derived.Test.YtafalcebolbbeaaUxFit
namespace Go.Proofs.Ytafalcebolbbeaa
set_option linter.unusedVariables false
set_option linter.unusedSimpArgs false
open Go Go.SL

/-- The i-th byte from below. -/
def dgb (a i : Nat) : Nat := a / 256 ^ i % 256
def icells (g : Nat → Nat) : List Value := (List.range 17).map fun i => .int .i64 (g i : Int)
theorem icells_len (g : Nat → Nat) : (icells g).length = 17 := by simp [icells]
theorem icells_get (g : Nat → Nat) (i : Nat) (h : i < 17) : (icells g)[i]? = some (.int .i64 (g i : Int)) := by simp [icells, h]
theorem icells_set (g : Nat → Nat) (i v : Nat) (h : i < 17) : (icells g).set i (.int .i64 (v : Int)) = icells (fun j => if j = i then v else g j) := by
  apply List.ext_getElem?
  intro j
  simp only [icells, List.getElem?_set, List.length_map, List.length_range, List.getElem?_map]
  by_cases hj : i = j
  · subst hj
    simp [h]
  · rw [if_neg hj]
    by_cases hl : j < 17
    · simp [hl, Ne.symm hj]
    · simp [Nat.le_of_not_lt hl]
theorem icells_one (g : Nat → Nat) : ∀ u ∈ icells g, u.oneCell' = true := fun u hu => by
  obtain ⟨i, _, rfl⟩ := List.mem_map.1 hu; rfl
theorem icells_kv (g : Nat → Nat) : KV (List.replicate 17 .i64) (icells g) := by
  unfold KV icells
  rw [List.map_map]
  rfl
theorem icells_inj {g h : Nat → Nat} : icells g = icells h ↔ ∀ i, i < 17 → g i = h i := by
  constructor
  · intro e i hi
    have := congrArg (·[i]?) e
    simp only [icells_get _ i hi, Option.some.injEq, Value.int.injEq, true_and] at this
    exact Int.ofNat.inj this
  · intro e
    unfold icells
    apply List.map_congr_left
    intro i hi
    rw [e i (by simpa using hi)]
open Classical in
theorem ps_agg_same {P : Program} {ty : TypeId} {n : FN} {f : Nat → Value} {x y : Operand} {t yt : TypeId} {ks : List IntKind} {xs ys : List Value} (h : EQ P t ks) (hx : ev n f x = .agg xs.toArray) (hy : ev n f y = .agg ys.toArray) (kx : KV ks xs) (ky : KV ks ys) (e : xs = ys) : PS P (.binOp .eql t x y yt) ty n f (.bool true) :=
  ps_to (congrArg Value.bool (decide_eq_true e)) (ps_agg_eql h hx hy kx ky)
/-- The digits that digits makes: of a number below 2^128, and nought at the 17th place. -/
def dgs (a : Nat) : Nat → Nat := fun i => if i < 16 then dgb a i else 0
/-- As far as i rounds have come. -/
def dgi (a k : Nat) : Nat → Nat := fun i => if i < k ∨ (8 ≤ i ∧ i < 8 + k) then dgb a i else 0
theorem dig_lo (a i : Nat) (hi : i < 8) : a % 18446744073709551616 / 2 ^ (8 * i) % 256 = dgb a i := by
  unfold dgb; rw [byte_lo a i hi, pow256]
theorem dig_hi (a i : Nat) : a / 18446744073709551616 / 2 ^ (8 * i) % 256 = dgb a (i + 8) := by
  unfold dgb; rw [byte_hi a i, pow256]
theorem dgb_lt (a i : Nat) : dgb a i < 256 := Nat.mod_lt _ (by decide)
theorem digits_spec (a : Nat) (ha : a < M128) : FSpec Try.prog 14 [.agg (nc a).toArray] [] (fun v As => v = .agg (icells (dgs a)).toArray ∧ As = []) := by
  have hz : ∀ b : Nat, cb b 24 (List.replicate 17 (.int .i64 0)) = cb b 24 (icells (dgi a 0)) := fun b => by
    congr 1
  refine FSpec.intro Try.func14 rfl 29 Try.ntmps14 (Nat.le_of_ble_eq_true rfl) fun w0 F => ?_
  show CW _ _ _ _ _ _ (F)
  repeat (first | refine CW.seq ?_ | refine PW.then_ ?_ | refine CW.block ?_ | refine CW.skip ?_ | refine CW.ret ?_ | refine PW.then_ret ?_ | refine PW.block_ret ?_ | refine Cut.ret ?_ | refine Rnd.ret ?_ | refine PW.block_normal ?_ | refine CW.exit ?_ | refine PW.then_exit ?_ | refine PW.block_hit ?_ | refine PW.block_miss rfl ?_ | refine Cut.exit ?_ | refine Rnd.exit ?_)
  refine CW.region ?_
  refine LE (os_box rfl (by rfl)) ?_
  rintro _ _ ⟨b1, rfl, rfl⟩
  refine LE (os_alloc T.ti24) ?_
  rintro _ _ ⟨b2, rfl, rfl⟩
  refine LW.nil ?_
  repeat (first | refine CW.seq ?_ | refine PW.then_ ?_ | refine CW.block ?_ | refine CW.skip ?_ | refine CW.ret ?_ | refine PW.then_ret ?_ | refine PW.block_ret ?_ | refine Cut.ret ?_ | refine Rnd.ret ?_ | refine PW.block_normal ?_ | refine CW.exit ?_ | refine PW.then_exit ?_ | refine PW.block_hit ?_ | refine PW.block_miss rfl ?_ | refine Cut.exit ?_ | refine Rnd.exit ?_)
  refine CW.region ?_
  refine LE (os_alloc T.ti24) ?_
  rintro _ _ ⟨b3, rfl, rfl⟩
  refine LW.nil ?_
  repeat (first | refine CW.seq ?_ | refine PW.then_ ?_ | refine CW.block ?_ | refine CW.skip ?_ | refine CW.ret ?_ | refine PW.then_ret ?_ | refine PW.block_ret ?_ | refine Cut.ret ?_ | refine Rnd.ret ?_ | refine PW.block_normal ?_ | refine CW.exit ?_ | refine PW.then_exit ?_ | refine PW.block_hit ?_ | refine PW.block_miss rfl ?_ | refine Cut.exit ?_ | refine Rnd.exit ?_)
  refine CW.region ?_
  refine L1 (ps_move rfl).os ?_
  refine LW.nil ?_
  repeat (first | refine CW.seq ?_ | refine PW.then_ ?_ | refine CW.block ?_ | refine CW.skip ?_ | refine CW.ret ?_ | refine PW.then_ret ?_ | refine PW.block_ret ?_ | refine Cut.ret ?_ | refine Rnd.ret ?_ | refine PW.block_normal ?_ | refine CW.exit ?_ | refine PW.then_exit ?_ | refine PW.block_hit ?_ | refine PW.block_miss rfl ?_ | refine Cut.exit ?_ | refine Rnd.exit ?_)
  refine CW.loopM (α := Nat) [4, 5, 6, 7, 8, 9, 10, 11, 12, 13, 14, 15, 16, 17, 18, 19, 20, 21, 22, 23, 24, 25, 26, 27] (fun k i => i ≤ 8 ∧ k = 8 - i) (fun i => [(5, .int .i64 i)])
    (fun i => cb b3 24 (icells (dgi a i)) :: cb b1 27 (nc a) :: cb b2 24 (List.replicate 17 (.int .i64 0)) :: F) 8 0 ⟨Nat.zero_le _, rfl⟩ ⟨rfl, trivial⟩ (by rw [← hz]; exact (by repeat (first | exact Ent.refl _ | (apply Ent.cons; · repeat (first | exact pk_head _ _ | apply pk_tail)) | apply Ent.skip))) ?_
  rintro k i g ⟨hi, hk⟩
  repeat (first | refine CW.seq ?_ | refine PW.then_ ?_ | refine CW.block ?_ | refine CW.skip ?_ | refine CW.ret ?_ | refine PW.then_ret ?_ | refine PW.block_ret ?_ | refine Cut.ret ?_ | refine Rnd.ret ?_ | refine PW.block_normal ?_ | refine CW.exit ?_ | refine PW.then_exit ?_ | refine PW.block_hit ?_ | refine PW.block_miss rfl ?_ | refine Cut.exit ?_ | refine Rnd.exit ?_)
  by_cases hlt : i < 8
  · have v16 : ((((a % 18446744073709551616 : Nat) : Int).fdiv (2 ^ (min (8 * (i : Int)).toNat 64))) % ((2 ^ 8 : Nat) : Int)) = ((dgb a i : Nat) : Int) := by
      rw [show min (8 * (i : Int)).toNat 64 = 8 * i by omega, fdiv_pow, ← dig_lo a i hlt]; rfl
    have v23 : ((((a / 18446744073709551616 : Nat) : Int).fdiv (2 ^ (min (8 * (i : Int)).toNat 64))) % ((2 ^ 8 : Nat) : Int)) = ((dgb a (i + 8) : Nat) : Int) := by
      rw [show min (8 * (i : Int)).toNat 64 = 8 * i by omega, fdiv_pow, ← dig_hi a i]; rfl
    have l1 := dgb_lt a i
    have l2 := dgb_lt a (i + 8)
    have s1 : (icells (dgi a i)).set (0 + i * 1) (.int .i64 ((dgb a i : Nat) : Int)) = icells (fun j => if j = i then dgb a i else dgi a i j) := by
      rw [show 0 + i * 1 = i by omega, icells_set _ _ _ (by omega)]
    have s2 : (icells (fun j => if j = i then dgb a i else dgi a i j)).set (0 + (i + 8) * 1) (.int .i64 ((dgb a (i + 8) : Nat) : Int)) = icells (dgi a (i + 1)) := by
      rw [show 0 + (i + 8) * 1 = i + 8 by omega, icells_set _ _ _ (by omega), icells_inj]
      intro j hj
      unfold dgi
      by_cases h1 : j = i + 8
      · subst h1; rw [if_pos rfl, if_pos (by omega)]
      · rw [if_neg h1]
        by_cases h2 : j = i
        · subst h2; rw [if_pos rfl, if_pos (by omega)]
        · rw [if_neg h2]
          by_cases h3 : j < i ∨ (8 ≤ j ∧ j < 8 + i)
          · rw [if_pos h3, if_pos (by omega)]
          · rw [if_neg h3, if_neg (by omega)]
    refine CW.region ?_
    refine L1 (ps_t (ps_lss rfl rfl) (by omega)).os ?_
    refine LW.nil ?_
    repeat (first | refine CW.seq ?_ | refine PW.then_ ?_ | refine CW.block ?_ | refine CW.skip ?_ | refine CW.ret ?_ | refine PW.then_ret ?_ | refine PW.block_ret ?_ | refine Cut.ret ?_ | refine Rnd.ret ?_ | refine PW.block_normal ?_ | refine CW.exit ?_ | refine PW.then_exit ?_ | refine PW.block_hit ?_ | refine PW.block_miss rfl ?_ | refine Cut.exit ?_ | refine Rnd.exit ?_)
    refine CW.cond_true rfl ?_
    repeat (first | refine CW.seq ?_ | refine PW.then_ ?_ | refine CW.block ?_ | refine CW.skip ?_ | refine CW.ret ?_ | refine PW.then_ret ?_ | refine PW.block_ret ?_ | refine Cut.ret ?_ | refine Rnd.ret ?_ | refine PW.block_normal ?_ | refine CW.exit ?_ | refine PW.then_exit ?_ | refine PW.block_hit ?_ | refine PW.block_miss rfl ?_ | refine Cut.exit ?_ | refine Rnd.exit ?_)
    refine CW.region ?_
    refine L1 (ps_move rfl).os ?_
    refine L1 (ps_assign rfl).os ?_
    refine LW.nil ?_
    refine PW.then_ ?_
    refine CW.cutB (α := Unit) [8, 9, 10, 11, 12, 13, 14, 15, 16, 17, 18, 19, 20, 21, 22, 23, 24, 25, 26] (fun _ => True) (fun _ => []) (fun _ => cb b3 24 (icells (dgi a (i + 1))) :: cb b1 27 (nc a) :: cb b2 24 (List.replicate 17 (.int .i64 0)) :: F) ?_ ?_
    · refine CW.drawH [cb b1 27 (nc a)] [] T.mixed ?_
      refine H_take (i := 0) (some 8) rfl rfl (by kernel_rfl) (by kernel_rfl) (by kernel_rfl) rfl (ps_move rfl).pl (by kernel_rfl) (pkc (by repeat (first | exact pk_head _ _ | apply pk_tail)) (pkn _)) ?_
      refine H_take (i := 1) (some 9) rfl rfl (by kernel_rfl) (by kernel_rfl) (by kernel_rfl) rfl (ps_move rfl).pl (by kernel_rfl) (pkc (by repeat (first | exact pk_head _ _ | apply pk_tail)) (pkn _)) ?_
      refine H_take (i := 2) (some 10) rfl rfl (by kernel_rfl) (by kernel_rfl) (by kernel_rfl) rfl (ps_to (u := .int .i64 ((i + 8 : Nat) : Int)) (by rfl) (ps_add_i64 rfl rfl (by omega) (by omega))).pl (by kernel_rfl) (pkc (by repeat (first | exact pk_head _ _ | apply pk_tail)) (pkn _)) ?_
      refine H_take (i := 3) (some 11) rfl rfl (by kernel_rfl) (by kernel_rfl) (by kernel_rfl) rfl (ps_fa T.fa27_1 (by decide) rfl).pl (by kernel_rfl) (pkc (by repeat (first | exact pk_head _ _ | apply pk_tail)) (pkn _)) ?_
      refine H_take (i := 4) (some 12) rfl rfl (by kernel_rfl) (by kernel_rfl) (by kernel_rfl) rfl (pl_load1 (by repeat (first | exact pk_head _ _ | apply pk_tail)) T.ag25 rfl (by rfl)) (by kernel_rfl) (pkc (by repeat (first | exact pk_head _ _ | apply pk_tail)) (pkn _)) ?_
      refine H_take (i := 5) (some 13) rfl rfl (by kernel_rfl) (by kernel_rfl) (by kernel_rfl) rfl (ps_move rfl).pl (by kernel_rfl) (pkc (by repeat (first | exact pk_head _ _ | apply pk_tail)) (pkn _)) ?_
      refine H_take (i := 6) (some 14) rfl rfl (by kernel_rfl) (by kernel_rfl) (by kernel_rfl) rfl (ps_mul_i64 rfl rfl (by omega) (by omega)).pl (by kernel_rfl) (pkc (by repeat (first | exact pk_head _ _ | apply pk_tail)) (pkn _)) ?_
      refine H_take (i := 7) (some 15) rfl rfl (by kernel_rfl) (by kernel_rfl) (by kernel_rfl) rfl (ps_shr rfl rfl (by omega)).pl (by kernel_rfl) (pkc (by repeat (first | exact pk_head _ _ | apply pk_tail)) (pkn _)) ?_
      refine H_take (i := 8) (some 16) rfl rfl (by kernel_rfl) (by kernel_rfl) (by kernel_rfl) rfl (ps_to (congrArg (Value.int .u64) v16) (ps_mask_u64 (m := 8) rfl rfl rfl (by decide))).pl (by kernel_rfl) (pkc (by repeat (first | exact pk_head _ _ | apply pk_tail)) (pkn _)) ?_
      refine H_take (i := 9) (some 17) rfl rfl (by kernel_rfl) (by kernel_rfl) (by kernel_rfl) rfl (ps_to (u := .int .i64 ((dgb a i : Nat) : Int)) (congrArg _ (wrap_i64_id (by omega) (by omega))) (ps_conv (by kernel_rfl) T.un3 rfl)).pl (by kernel_rfl) (pkc (by repeat (first | exact pk_head _ _ | apply pk_tail)) (pkn _)) ?_
      refine H_take (i := 10) (some 18) rfl rfl (by kernel_rfl) (by kernel_rfl) (by kernel_rfl) rfl (ps_fa T.fa27_0 (by decide) rfl).pl (by kernel_rfl) (pkc (by repeat (first | exact pk_head _ _ | apply pk_tail)) (pkn _)) ?_
      refine H_take (i := 11) (some 19) rfl rfl (by kernel_rfl) (by kernel_rfl) (by kernel_rfl) rfl (pl_load1 (by repeat (first | exact pk_head _ _ | apply pk_tail)) T.ag25 rfl (by rfl)) (by kernel_rfl) (pkc (by repeat (first | exact pk_head _ _ | apply pk_tail)) (pkn _)) ?_
      refine H_take (i := 12) (some 20) rfl rfl (by kernel_rfl) (by kernel_rfl) (by kernel_rfl) rfl (ps_move rfl).pl (by kernel_rfl) (pkc (by repeat (first | exact pk_head _ _ | apply pk_tail)) (pkn _)) ?_
      refine H_take (i := 13) (some 21) rfl rfl (by kernel_rfl) (by kernel_rfl) (by kernel_rfl) rfl (ps_mul_i64 rfl rfl (by omega) (by omega)).pl (by kernel_rfl) (pkc (by repeat (first | exact pk_head _ _ | apply pk_tail)) (pkn _)) ?_
      refine H_take (i := 14) (some 22) rfl rfl (by kernel_rfl) (by kernel_rfl) (by kernel_rfl) rfl (ps_shr rfl rfl (by omega)).pl (by kernel_rfl) (pkc (by repeat (first | exact pk_head _ _ | apply pk_tail)) (pkn _)) ?_
      refine H_take (i := 15) (some 23) rfl rfl (by kernel_rfl) (by kernel_rfl) (by kernel_rfl) rfl (ps_to (congrArg (Value.int .u64) v23) (ps_mask_u64 (m := 8) rfl rfl rfl (by decide))).pl (by kernel_rfl) (pkc (by repeat (first | exact pk_head _ _ | apply pk_tail)) (pkn _)) ?_
      refine H_take (i := 16) (some 24) rfl rfl (by kernel_rfl) (by kernel_rfl) (by kernel_rfl) rfl (ps_to (u := .int .i64 ((dgb a (i + 8) : Nat) : Int)) (congrArg _ (wrap_i64_id (by omega) (by omega))) (ps_conv (by kernel_rfl) T.un3 rfl)).pl (by kernel_rfl) (pkc (by repeat (first | exact pk_head _ _ | apply pk_tail)) (pkn _)) ?_
      refine H_take (i := 17) (some 25) rfl rfl (by kernel_rfl) (by kernel_rfl) (by kernel_rfl) rfl (ps_ia_arr T.un24 T.sz3 rfl rfl (by omega) (by omega)).pl (by kernel_rfl) (pkc (by repeat (first | exact pk_head _ _ | apply pk_tail)) (pkn _)) ?_
      refine H_branch (rs := [18]) (by kernel_rfl) (by simp) ?_
      refine HR.cons1 (i := 18) none rfl rfl rfl (os_cb s1 <| os_store1 (b := b3) (by repeat (first | exact pk_head _ _ | apply pk_tail)) T.sz3 rfl rfl (by rfl) (by rw [icells_len]; simp; omega)) (pkc (by repeat (first | exact pk_head _ _ | apply pk_tail)) (pkn _)) ?_ ?_
      · skip
        refine H_take (i := 19) (some 26) rfl rfl (by kernel_rfl) (by kernel_rfl) (by kernel_rfl) rfl (ps_ia_arr T.un24 T.sz3 rfl rfl (by omega) (by omega)).pl (by kernel_rfl) (pkc (by repeat (first | exact pk_head _ _ | apply pk_tail)) (pkn _)) ?_
        refine H_branch (rs := [20]) (by kernel_rfl) (by simp) ?_
        refine HR.cons1 (i := 20) none rfl rfl rfl (os_cb s2 <| os_store1 (b := b3) (by repeat (first | exact pk_head _ _ | apply pk_tail)) T.sz3 rfl rfl (by rfl) (by rw [icells_len]; simp; omega)) (pkc (by repeat (first | exact pk_head _ _ | apply pk_tail)) (pkn _)) ?_ ?_
        · skip
          refine H_done (by kernel_rfl) ?_
          exact Meet.cut () trivial (by repeat (first | (with_reducible exact Ag.refl _ _) | (with_reducible apply Ag.pu0) | ((with_reducible refine Ag.pu _ ?_ ?_); · exact rfl) | ((with_reducible refine Ag.mix ?_ ?_); · exact rfl) | ((with_reducible refine Ag.pus ?_ ?_); · exact rfl))) trivial (by repeat (first | exact Ent.refl _ | (apply Ent.cons; · repeat (first | exact pk_head _ _ | apply pk_tail)) | apply Ent.skip))
        exact HR.nil
      exact HR.nil
    intro _ g1 _
    repeat (first | refine CW.seq ?_ | refine PW.then_ ?_ | refine CW.block ?_ | refine CW.skip ?_ | refine CW.ret ?_ | refine PW.then_ret ?_ | refine PW.block_ret ?_ | refine Cut.ret ?_ | refine Rnd.ret ?_ | refine PW.block_normal ?_ | refine CW.exit ?_ | refine PW.then_exit ?_ | refine PW.block_hit ?_ | refine PW.block_miss rfl ?_ | refine Cut.exit ?_ | refine Rnd.exit ?_)
    refine CW.region ?_
    refine L1 (ps_add_i64 rfl rfl (by omega) (by omega)).os ?_
    refine L1 (ps_move rfl).os ?_
    refine LW.nil ?_
    exact Meet.round (8 - (i + 1)) (i + 1) (by omega) ⟨hlt, rfl⟩ (by repeat (first | (with_reducible exact Ag.refl _ _) | (with_reducible apply Ag.pu0) | ((with_reducible refine Ag.pu _ ?_ ?_); · exact rfl) | ((with_reducible refine Ag.mix ?_ ?_); · exact rfl) | ((with_reducible refine Ag.pus ?_ ?_); · exact rfl))) ⟨rfl, trivial⟩ (by repeat (first | exact Ent.refl _ | (apply Ent.cons; · repeat (first | exact pk_head _ _ | apply pk_tail)) | apply Ent.skip))
  · have hil : i = 8 := by omega
    subst hil
    have hall : icells (dgi a 8) = icells (dgs a) := by
      rw [icells_inj]
      intro j hj
      unfold dgi dgs
      by_cases h : j < 16
      · rw [if_pos h, if_pos (by omega)]
      · rw [if_neg h, if_neg (by omega)]
    rw [hall]
    refine CW.region ?_
    refine L1 (ps_f (ps_lss rfl rfl) (by decide)).os ?_
    refine LW.nil ?_
    repeat (first | refine CW.seq ?_ | refine PW.then_ ?_ | refine CW.block ?_ | refine CW.skip ?_ | refine CW.ret ?_ | refine PW.then_ret ?_ | refine PW.block_ret ?_ | refine Cut.ret ?_ | refine Rnd.ret ?_ | refine PW.block_normal ?_ | refine CW.exit ?_ | refine PW.then_exit ?_ | refine PW.block_hit ?_ | refine PW.block_miss rfl ?_ | refine Cut.exit ?_ | refine Rnd.exit ?_)
    refine CW.cond_false rfl ?_
    repeat (first | refine CW.seq ?_ | refine PW.then_ ?_ | refine CW.block ?_ | refine CW.skip ?_ | refine CW.ret ?_ | refine PW.then_ret ?_ | refine PW.block_ret ?_ | refine Cut.ret ?_ | refine Rnd.ret ?_ | refine PW.block_normal ?_ | refine CW.exit ?_ | refine PW.then_exit ?_ | refine PW.block_hit ?_ | refine PW.block_miss rfl ?_ | refine Cut.exit ?_ | refine Rnd.exit ?_)
    refine CW.region ?_
    refine L1 (os_loadAll (b := b3) (cs := icells (dgs a)) (by repeat (first | exact pk_head _ _ | apply pk_tail)) T.ag24 (by rw [icells_len]; exact T.sz24) rfl) ?_
    refine L1 (os_storeAll (b := b2) (vs := icells (dgs a)) (by repeat (first | exact pk_head _ _ | apply pk_tail)) (by rw [icells_len]; exact T.sz24) rfl rfl (icells_one _) (by rw [icells_len]; rfl)) ?_
    refine LW.nil ?_
    repeat (first | refine CW.seq ?_ | refine PW.then_ ?_ | refine CW.block ?_ | refine CW.skip ?_ | refine CW.ret ?_ | refine PW.then_ret ?_ | refine PW.block_ret ?_ | refine Cut.ret ?_ | refine Rnd.ret ?_ | refine PW.block_normal ?_ | refine CW.exit ?_ | refine PW.then_exit ?_ | refine PW.block_hit ?_ | refine PW.block_miss rfl ?_ | refine Cut.exit ?_ | refine Rnd.exit ?_)
    exact Fin.retCell (b := b2) (cs := icells (dgs a)) rfl (by repeat (first | exact pk_head _ _ | apply pk_tail)) T.ag24 (by rw [icells_len]; exact T.sz24) rfl [] ⟨rfl, rfl⟩ (by repeat (first | exact Ent.refl _ | (apply Ent.cons; · repeat (first | exact pk_head _ _ | apply pk_tail)) | apply Ent.skip))
end Go.Proofs.Ytafalcebolbbeaa
