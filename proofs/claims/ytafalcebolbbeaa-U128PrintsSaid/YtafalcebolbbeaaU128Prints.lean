/- The law U128Prints: decimal digits lead back to the number: it answers true for every number (no condition). -/
import Derived.Test.YtafalcebolbbeaaUxFit
import Derived.Test.YtafalcebolbbeaaRows
namespace Go.Proofs.Ytafalcebolbbeaa
open Go Go.SL
set_option linter.unusedVariables false
set_option linter.unusedSimpArgs false

/-- The number of digits. -/
def dval (l : List UInt8) : Nat := l.foldl (fun a c => a * 10 + (c.toNat - 48)) 0
theorem dval_snoc (l : List UInt8) (c : UInt8) : dval (l ++ [c]) = dval l * 10 + (c.toNat - 48) := by simp [dval, List.foldl_append]
theorem dgt_nat (v : Nat) : (dgt v).toNat = 48 + v % 10 := by
  unfold dgt
  rw [UInt8.toNat_ofNat']; omega
/-- What the digits of a number are. -/
structure DigOk (l : List UInt8) (v : Nat) : Prop where
  val : dval l = v
  dig : ∀ c ∈ l, 48 ≤ c.toNat ∧ c.toNat ≤ 57
theorem dval_foldl (l : List UInt8) (a : Nat) : l.foldl (fun a c => a * 10 + (c.toNat - 48)) a = a * 10 ^ l.length + dval l := by
  induction l generalizing a with
  | nil => simp [dval]
  | cons c l ih =>
    have e : dval (c :: l) = (0 * 10 + (c.toNat - 48)) * 10 ^ l.length + dval l := ih _
    rw [List.foldl_cons, ih, e, List.length_cons, Nat.pow_succ, Nat.add_mul, Nat.mul_assoc, Nat.mul_comm 10]
    simp; omega
theorem dval_cons (c : UInt8) (l : List UInt8) : dval (c :: l) = (c.toNat - 48) * 10 ^ l.length + dval l := by
  have e : dval (c :: l) = (0 * 10 + (c.toNat - 48)) * 10 ^ l.length + dval l := dval_foldl l _
  rw [e]; simp
theorem dgF_spec : ∀ (k v : Nat) (acc : List UInt8), v < 10 ^ k → (∀ c ∈ acc, 48 ≤ c.toNat ∧ c.toNat ≤ 57) → (v = 0 → acc ≠ [] → (acc.headD 0).toNat ≠ 48) →
    dval (dgF k v acc) = v * 10 ^ acc.length + dval acc ∧ (∀ c ∈ dgF k v acc, 48 ≤ c.toNat ∧ c.toNat ≤ 57) ∧ (dgF k v acc).length ≤ k + acc.length ∧ (dgF k v acc ≠ [] → ((dgF k v acc).headD 0).toNat ≠ 48) ∧ (v ≠ 0 ∨ acc ≠ [] → dgF k v acc ≠ [])
  | 0, v, acc, hv, ha, h0 => by
    have : v = 0 := by simpa using hv
    subst this
    simp only [dgF]
    exact ⟨by simp, ha, by simp, h0 rfl, fun h => h.resolve_left (by simp)⟩
  | k + 1, v, acc, hv, ha, h0 => by
    unfold dgF
    by_cases hz : v = 0
    · rw [if_pos hz]
      subst hz
      exact ⟨by simp, ha, by omega, h0 rfl, fun h => h.resolve_left (by simp)⟩
    · rw [if_neg hz]
      have hd := dgt_nat v
      have hv' : v / 10 < 10 ^ k := by rw [Nat.div_lt_iff_lt_mul (by decide), ← Nat.pow_succ]; exact hv
      obtain ⟨a1, a2, a3, a4, a5⟩ := dgF_spec k (v / 10) (dgt v :: acc) hv' (fun c hc => by
        rcases List.mem_cons.1 hc with rfl | hc
        · omega
        · exact ha c hc) (fun h10 _ => by simp only [List.headD_cons]; omega)
      refine ⟨?_, a2, by simp only [List.length_cons] at a3; omega, a4, fun _ => a5 (.inr (by simp))⟩
      rw [a1, dval_cons, hd, List.length_cons, Nat.pow_succ]
      have e : 48 + v % 10 - 48 = v % 10 := by omega
      rw [e, Nat.mul_comm (10 ^ acc.length) 10, ← Nat.mul_assoc, ← Nat.add_assoc, ← Nat.add_mul]
      congr 2; omega
theorem digs_spec (v : Nat) (hv : v < M128) : dval (digs v) = v ∧ (∀ c ∈ digs v, 48 ≤ c.toNat ∧ c.toNat ≤ 57) ∧ 1 ≤ (digs v).length ∧ (digs v).length ≤ 39 ∧ ((digs v).length = 1 ∨ ((digs v).headD 0).toNat ≠ 48) := by
  unfold digs
  by_cases h0 : v = 0
  · rw [if_pos h0, h0]; decide
  · rw [if_neg h0]
    obtain ⟨a1, a2, a3, a4, a5⟩ := dgF_spec 39 v [] (Nat.lt_of_lt_of_le hv pow39) (by simp) (fun h => absurd h h0)
    have hne := a5 (.inl h0)
    refine ⟨by rw [a1]; simp [dval], a2, List.length_pos_iff.2 hne, by simpa using a3, .inr (a4 hne)⟩
theorem dval_take_succ {l : List UInt8} {i : Nat} (h : i < l.length) : dval (l.take (i + 1)) = dval (l.take i) * 10 + ((l[i]).toNat - 48) := by
  rw [List.take_succ_eq_append_getElem h, dval_snoc]
theorem dval_take_le (l : List UInt8) (i : Nat) : dval (l.take i) ≤ dval l := by
  have h : dval l = dval (l.take i) * 10 ^ (l.drop i).length + dval (l.drop i) := by
    have := dval_foldl (l.drop i) (dval (l.take i))
    unfold dval at this ⊢
    rw [← List.foldl_append, List.take_append_drop] at this
    exact this
  have hp : 1 ≤ 10 ^ (l.drop i).length := Nat.pos_of_ne_zero (by simp)
  have := Nat.mul_le_mul_left (dval (l.take i)) hp
  omega
theorem U128Prints_law (W : World) (cs0 : List Value) (a : Nat) (e0 : cs0 = nc a) (ha : a < M128) : LawOf Try.prog 4 [.agg cs0.toArray] W := by
  subst e0
  obtain ⟨hval, hdig, hl1, hl39, hhead⟩ := digs_spec a ha
  have hps := Print_spec a ha
  generalize digs a = s at hval hdig hl1 hl39 hhead hps
  refine FSpec.intro Try.func4 rfl 83 Try.ntmps4 (Nat.le_of_ble_eq_true rfl) fun w0 F => ?_
  show CW _ _ _ _ _ _ (_ :: F)
  repeat (first | refine CW.seq ?_ | refine PW.then_ ?_ | refine CW.block ?_ | refine CW.skip ?_ | refine CW.ret ?_ | refine PW.then_ret ?_ | refine PW.block_ret ?_ | refine Cut.ret ?_ | refine Rnd.ret ?_ | refine PW.block_normal ?_ | refine CW.exit ?_ | refine PW.then_exit ?_ | refine PW.block_hit ?_ | refine PW.block_miss rfl ?_ | refine Cut.exit ?_ | refine Rnd.exit ?_)
  refine CW.region ?_
  refine LE (os_box rfl (by rfl)) ?_
  rintro _ _ ⟨b1, rfl, rfl⟩
  refine L1 (ps_assign rfl).os ?_
  refine LW.nil ?_
  repeat (first | refine CW.seq ?_ | refine PW.then_ ?_ | refine CW.block ?_ | refine CW.skip ?_ | refine CW.ret ?_ | refine PW.then_ret ?_ | refine PW.block_ret ?_ | refine Cut.ret ?_ | refine Rnd.ret ?_ | refine PW.block_normal ?_ | refine CW.exit ?_ | refine PW.then_exit ?_ | refine PW.block_hit ?_ | refine PW.block_miss rfl ?_ | refine Cut.exit ?_ | refine Rnd.exit ?_)
  refine CW.region ?_
  refine L1 (os_call0 fit_spec Try.func13 (by decide +kernel) rfl rfl) ?_
  refine L1 (ps_not rfl).os ?_
  refine LW.nil ?_
  repeat (first | refine CW.seq ?_ | refine PW.then_ ?_ | refine CW.block ?_ | refine CW.skip ?_ | refine CW.ret ?_ | refine PW.then_ret ?_ | refine PW.block_ret ?_ | refine Cut.ret ?_ | refine Rnd.ret ?_ | refine PW.block_normal ?_ | refine CW.exit ?_ | refine PW.then_exit ?_ | refine PW.block_hit ?_ | refine PW.block_miss rfl ?_ | refine Cut.exit ?_ | refine Rnd.exit ?_)
  refine CW.cond_false rfl ?_
  repeat (first | refine CW.seq ?_ | refine PW.then_ ?_ | refine CW.block ?_ | refine CW.skip ?_ | refine CW.ret ?_ | refine PW.then_ret ?_ | refine PW.block_ret ?_ | refine Cut.ret ?_ | refine Rnd.ret ?_ | refine PW.block_normal ?_ | refine CW.exit ?_ | refine PW.then_exit ?_ | refine PW.block_hit ?_ | refine PW.block_miss rfl ?_ | refine Cut.exit ?_ | refine Rnd.exit ?_)
  refine CW.region ?_
  refine L1 (os_loadAll (by repeat (first | exact pk_head _ _ | apply pk_tail)) T.ag27 (by exact T.sz27) rfl) ?_
  refine L1 (os_call0 hps Try.func16 (by decide +kernel) rfl rfl) ?_
  refine L1 (ps_assign rfl).os ?_
  refine LW.nil ?_
  repeat (first | refine CW.seq ?_ | refine PW.then_ ?_ | refine CW.block ?_ | refine CW.skip ?_ | refine CW.ret ?_ | refine PW.then_ret ?_ | refine PW.block_ret ?_ | refine Cut.ret ?_ | refine Rnd.ret ?_ | refine PW.block_normal ?_ | refine CW.exit ?_ | refine PW.then_exit ?_ | refine PW.block_hit ?_ | refine PW.block_miss rfl ?_ | refine Cut.exit ?_ | refine Rnd.exit ?_)
  refine CW.region ?_
  refine LE (os_alloc T.ti27) ?_
  rintro _ _ ⟨b4, rfl, rfl⟩
  refine LW.nil ?_
  repeat (first | refine CW.seq ?_ | refine PW.then_ ?_ | refine CW.block ?_ | refine CW.skip ?_ | refine CW.ret ?_ | refine PW.then_ret ?_ | refine PW.block_ret ?_ | refine Cut.ret ?_ | refine Rnd.ret ?_ | refine PW.block_normal ?_ | refine CW.exit ?_ | refine PW.then_exit ?_ | refine PW.block_hit ?_ | refine PW.block_miss rfl ?_ | refine Cut.exit ?_ | refine Rnd.exit ?_)
  refine CW.region ?_
  refine L1 (ps_assign rfl).os ?_
  refine LW.nil ?_
  repeat (first | refine CW.seq ?_ | refine PW.then_ ?_ | refine CW.block ?_ | refine CW.skip ?_ | refine CW.ret ?_ | refine PW.then_ret ?_ | refine PW.block_ret ?_ | refine Cut.ret ?_ | refine Rnd.ret ?_ | refine PW.block_normal ?_ | refine CW.exit ?_ | refine PW.then_exit ?_ | refine PW.block_hit ?_ | refine PW.block_miss rfl ?_ | refine Cut.exit ?_ | refine Rnd.exit ?_)
  refine CW.region ?_
  refine L1 (ps_move rfl).os ?_
  refine L1 (ps_len_strV s T.un9 rfl).os ?_
  refine L1 (ps_move rfl).os ?_
  refine LW.nil ?_
  repeat (first | refine CW.seq ?_ | refine PW.then_ ?_ | refine CW.block ?_ | refine CW.skip ?_ | refine CW.ret ?_ | refine PW.then_ret ?_ | refine PW.block_ret ?_ | refine Cut.ret ?_ | refine Rnd.ret ?_ | refine PW.block_normal ?_ | refine CW.exit ?_ | refine PW.then_exit ?_ | refine PW.block_hit ?_ | refine PW.block_miss rfl ?_ | refine Cut.exit ?_ | refine Rnd.exit ?_)
  have hz : nc (dval (s.take 0)) = [.int .u64 0, .int .u64 0] := nc_small (l := 0) (by decide)
  refine CW.loopM (α := Nat) [2, 5, 6, 7, 14, 15, 16, 17, 18, 19, 20, 21, 22, 23, 24, 25, 26, 27, 28, 29, 30, 31, 32, 33, 34, 35, 36, 37, 38, 39, 40, 41, 42, 43, 44, 45, 46, 47, 48, 49, 50, 51, 52, 53, 54, 55, 56, 57, 58, 59, 60, 61, 62, 63, 64, 65, 66] (fun k i => i ≤ s.length ∧ k = s.length - i) (fun i => [(14, .int .i64 i), (5, .bool true)])
    (fun i => cb b4 27 (nc (dval (s.take i))) :: cb b1 27 (nc a) :: bag (blks W) :: F) s.length 0 ⟨Nat.zero_le _, rfl⟩ ⟨rfl, rfl, trivial⟩ (by rw [hz]; exact (by repeat (first | exact Ent.refl _ | (apply Ent.cons; · repeat (first | exact pk_head _ _ | apply pk_tail)) | apply Ent.skip))) ?_
  rintro k i g ⟨hi, hk⟩
  repeat (first | refine CW.seq ?_ | refine PW.then_ ?_ | refine CW.block ?_ | refine CW.skip ?_ | refine CW.ret ?_ | refine PW.then_ret ?_ | refine PW.block_ret ?_ | refine Cut.ret ?_ | refine Rnd.ret ?_ | refine PW.block_normal ?_ | refine CW.exit ?_ | refine PW.then_exit ?_ | refine PW.block_hit ?_ | refine PW.block_miss rfl ?_ | refine Cut.exit ?_ | refine Rnd.exit ?_)
  by_cases hlt : i < s.length
  · have hsx := dval_take_succ hlt
    have hle := dval_take_le s (i + 1)
    have hc := hdig s[i] (List.getElem_mem hlt)
    have h048 : s.length = 1 ∨ s[0].toNat ≠ 48 := by
      cases s with
      | nil => simp at hlt
      | cons c s => exact hhead
    rw [hval] at hle
    obtain ⟨c, hci⟩ : ∃ c, c = s[i].toNat := ⟨_, rfl⟩
    rw [← hci] at hsx hc
    generalize dval (s.take i) = x at hsx
    have hsum : addN (List.replicate 10 x ++ [c - 48]) = (x * 10 + (c - 48), true) := by
      unfold addN
      have e : (List.replicate 10 x ++ [c - 48]).sum = x * 10 + (c - 48) := by simp [List.replicate]; omega
      rw [e, if_pos (by omega)]
    have hm : ∀ z ∈ List.replicate 10 x ++ [c - 48], z < M128 := by
      have hM := M128_eq
      intro z hz
      rcases List.mem_append.1 hz with hz | hz
      · rw [List.eq_of_mem_replicate hz]; omega
      · have : z = c - 48 := by simpa using hz
        omega
    refine CW.region ?_
    refine L1 (ps_t (ps_lss rfl rfl) (by omega)).os ?_
    refine LW.nil ?_
    repeat (first | refine CW.seq ?_ | refine PW.then_ ?_ | refine CW.block ?_ | refine CW.skip ?_ | refine CW.ret ?_ | refine PW.then_ret ?_ | refine PW.block_ret ?_ | refine Cut.ret ?_ | refine Rnd.ret ?_ | refine PW.block_normal ?_ | refine CW.exit ?_ | refine PW.then_exit ?_ | refine PW.block_hit ?_ | refine PW.block_miss rfl ?_ | refine Cut.exit ?_ | refine Rnd.exit ?_)
    refine CW.cond_true rfl ?_
    repeat (first | refine CW.seq ?_ | refine PW.then_ ?_ | refine CW.block ?_ | refine CW.skip ?_ | refine CW.ret ?_ | refine PW.then_ret ?_ | refine PW.block_ret ?_ | refine Cut.ret ?_ | refine Rnd.ret ?_ | refine PW.block_normal ?_ | refine CW.exit ?_ | refine PW.then_exit ?_ | refine PW.block_hit ?_ | refine PW.block_miss rfl ?_ | refine Cut.exit ?_ | refine Rnd.exit ?_)
    refine CW.region ?_
    refine L1 (ps_move rfl).os ?_
    refine L1 (ps_assign rfl).os ?_
    refine LW.nil ?_
    repeat (first | refine CW.seq ?_ | refine PW.then_ ?_ | refine CW.block ?_ | refine CW.skip ?_ | refine CW.ret ?_ | refine PW.then_ret ?_ | refine PW.block_ret ?_ | refine Cut.ret ?_ | refine Rnd.ret ?_ | refine PW.block_normal ?_ | refine CW.exit ?_ | refine PW.then_exit ?_ | refine PW.block_hit ?_ | refine PW.block_miss rfl ?_ | refine Cut.exit ?_ | refine Rnd.exit ?_)
    refine CW.cutB (α := Unit) [17, 18, 19, 20, 21, 22, 23, 24, 25, 26, 27, 28, 29, 30, 31, 32, 33, 34, 35, 36, 37, 38, 39, 40] (fun _ => True) (fun _ => [(40, .bool false)]) (fun _ => cb b4 27 (nc x) :: cb b1 27 (nc a) :: bag (blks W) :: F) ?_ ?_
    · have f20 : ¬ ((s[i].toNat : Nat) : Int) < 48 := by omega
      have f25 : ¬ (57 : Int) < ((s[i].toNat : Nat) : Int) := by omega
      by_cases hi0 : (i : Int) = 0
      · by_cases h48 : ((s[0].toNat : Nat) : Int) = 48
        · have hl : ¬ (1 : Int) < (s.length : Int) := by
            rcases h048 with h | h
            · omega
            · omega
          refine CW.region ?_
          refine L1 (ps_move rfl).os ?_
          refine L1 (ps_move rfl).os ?_
          refine L1 (ps_idx_strV s i hlt T.un9 rfl rfl rfl).os ?_
          refine L1 (ps_f (ps_lss rfl rfl) (f20)).os ?_
          refine L1 (ps_move rfl).os ?_
          refine LG1 ?_ (ps_move rfl).os ?_
          · exact rfl
          refine LG1 ?_ (ps_move rfl).os ?_
          · exact rfl
          refine LG1 ?_ (ps_idx_strV s i hlt T.un9 rfl rfl rfl).os ?_
          · exact rfl
          refine LG1 ?_ (ps_f (ps_gtr rfl rfl) (f25)).os ?_
          · exact rfl
          refine L1 (ps_pick_f rfl rfl).os ?_
          refine L1 (ps_move rfl).os ?_
          refine LG1 ?_ (ps_move rfl).os ?_
          · exact rfl
          refine LG1 ?_ (ps_t (ps_eql rfl rfl) (hi0)).os ?_
          · exact rfl
          refine LG1 ?_ (ps_move rfl).os ?_
          · exact rfl
          refine LG1 ?_ (ps_move rfl).os ?_
          · exact rfl
          refine LG1 ?_ (ps_idx_strV s 0 (by omega) T.un9 rfl rfl rfl).os ?_
          · exact rfl
          refine LG1 ?_ (ps_t (ps_eql rfl rfl) (h48)).os ?_
          · exact rfl
          refine LG1 ?_ (ps_pick_t rfl rfl).os ?_
          · exact rfl
          refine LG1 ?_ (ps_move rfl).os ?_
          · exact rfl
          refine LG1 ?_ (ps_move rfl).os ?_
          · exact rfl
          refine LG1 ?_ (ps_len_strV s T.un9 rfl).os ?_
          · exact rfl
          refine LG1 ?_ (ps_f (ps_gtr rfl rfl) (hl)).os ?_
          · exact rfl
          refine LG1 ?_ (ps_pick_t rfl rfl).os ?_
          · exact rfl
          refine L1 (ps_pick_f rfl rfl).os ?_
          refine LW.nil ?_
          exact Meet.cut () trivial (by repeat (first | (with_reducible exact Ag.refl _ _) | (with_reducible apply Ag.pu0) | ((with_reducible refine Ag.pu _ ?_ ?_); · exact rfl) | ((with_reducible refine Ag.mix ?_ ?_); · exact rfl) | ((with_reducible refine Ag.pus ?_ ?_); · exact rfl))) ⟨rfl, trivial⟩ (by repeat (first | exact Ent.refl _ | (apply Ent.cons; · repeat (first | exact pk_head _ _ | apply pk_tail)) | apply Ent.skip))
        · refine CW.region ?_
          refine L1 (ps_move rfl).os ?_
          refine L1 (ps_move rfl).os ?_
          refine L1 (ps_idx_strV s i hlt T.un9 rfl rfl rfl).os ?_
          refine L1 (ps_f (ps_lss rfl rfl) (f20)).os ?_
          refine L1 (ps_move rfl).os ?_
          refine LG1 ?_ (ps_move rfl).os ?_
          · exact rfl
          refine LG1 ?_ (ps_move rfl).os ?_
          · exact rfl
          refine LG1 ?_ (ps_idx_strV s i hlt T.un9 rfl rfl rfl).os ?_
          · exact rfl
          refine LG1 ?_ (ps_f (ps_gtr rfl rfl) (f25)).os ?_
          · exact rfl
          refine L1 (ps_pick_f rfl rfl).os ?_
          refine L1 (ps_move rfl).os ?_
          refine LG1 ?_ (ps_move rfl).os ?_
          · exact rfl
          refine LG1 ?_ (ps_t (ps_eql rfl rfl) (hi0)).os ?_
          · exact rfl
          refine LG1 ?_ (ps_move rfl).os ?_
          · exact rfl
          refine LG1 ?_ (ps_move rfl).os ?_
          · exact rfl
          refine LG1 ?_ (ps_idx_strV s 0 (by omega) T.un9 rfl rfl rfl).os ?_
          · exact rfl
          refine LG1 ?_ (ps_f (ps_eql rfl rfl) (h48)).os ?_
          · exact rfl
          refine LG1 ?_ (ps_pick_t rfl rfl).os ?_
          · exact rfl
          refine LG1 ?_ (ps_move rfl).os ?_
          · exact rfl
          refine LG0t ?_ ?_
          · exact rfl
          refine LG0t ?_ ?_
          · exact rfl
          refine LG0t ?_ ?_
          · exact rfl
          refine LG1 ?_ (ps_pick_f rfl rfl).os ?_
          · exact rfl
          refine L1 (ps_pick_f rfl rfl).os ?_
          refine LW.nil ?_
          exact Meet.cut () trivial (by repeat (first | (with_reducible exact Ag.refl _ _) | (with_reducible apply Ag.pu0) | ((with_reducible refine Ag.pu _ ?_ ?_); · exact rfl) | ((with_reducible refine Ag.mix ?_ ?_); · exact rfl) | ((with_reducible refine Ag.pus ?_ ?_); · exact rfl))) ⟨rfl, trivial⟩ (by repeat (first | exact Ent.refl _ | (apply Ent.cons; · repeat (first | exact pk_head _ _ | apply pk_tail)) | apply Ent.skip))
      · refine CW.region ?_
        refine L1 (ps_move rfl).os ?_
        refine L1 (ps_move rfl).os ?_
        refine L1 (ps_idx_strV s i hlt T.un9 rfl rfl rfl).os ?_
        refine L1 (ps_f (ps_lss rfl rfl) (f20)).os ?_
        refine L1 (ps_move rfl).os ?_
        refine LG1 ?_ (ps_move rfl).os ?_
        · exact rfl
        refine LG1 ?_ (ps_move rfl).os ?_
        · exact rfl
        refine LG1 ?_ (ps_idx_strV s i hlt T.un9 rfl rfl rfl).os ?_
        · exact rfl
        refine LG1 ?_ (ps_f (ps_gtr rfl rfl) (f25)).os ?_
        · exact rfl
        refine L1 (ps_pick_f rfl rfl).os ?_
        refine L1 (ps_move rfl).os ?_
        refine LG1 ?_ (ps_move rfl).os ?_
        · exact rfl
        refine LG1 ?_ (ps_f (ps_eql rfl rfl) (hi0)).os ?_
        · exact rfl
        refine LG1 ?_ (ps_move rfl).os ?_
        · exact rfl
        refine LG0t ?_ ?_
        · exact rfl
        refine LG0t ?_ ?_
        · exact rfl
        refine LG0t ?_ ?_
        · exact rfl
        refine LG1 ?_ (ps_pick_f rfl rfl).os ?_
        · exact rfl
        refine LG1 ?_ (ps_move rfl).os ?_
        · exact rfl
        refine LG0t ?_ ?_
        · exact rfl
        refine LG0t ?_ ?_
        · exact rfl
        refine LG0t ?_ ?_
        · exact rfl
        refine LG1 ?_ (ps_pick_f rfl rfl).os ?_
        · exact rfl
        refine L1 (ps_pick_f rfl rfl).os ?_
        refine LW.nil ?_
        exact Meet.cut () trivial (by repeat (first | (with_reducible exact Ag.refl _ _) | (with_reducible apply Ag.pu0) | ((with_reducible refine Ag.pu _ ?_ ?_); · exact rfl) | ((with_reducible refine Ag.mix ?_ ?_); · exact rfl) | ((with_reducible refine Ag.pus ?_ ?_); · exact rfl))) ⟨rfl, trivial⟩ (by repeat (first | exact Ent.refl _ | (apply Ent.cons; · repeat (first | exact pk_head _ _ | apply pk_tail)) | apply Ent.skip))
    intro _ g1 _
    repeat (first | refine CW.seq ?_ | refine PW.then_ ?_ | refine CW.block ?_ | refine CW.skip ?_ | refine CW.ret ?_ | refine PW.then_ret ?_ | refine PW.block_ret ?_ | refine Cut.ret ?_ | refine Rnd.ret ?_ | refine PW.block_normal ?_ | refine CW.exit ?_ | refine PW.then_exit ?_ | refine PW.block_hit ?_ | refine PW.block_miss rfl ?_ | refine Cut.exit ?_ | refine Rnd.exit ?_)
    refine CW.cond_false rfl ?_
    repeat (first | refine CW.seq ?_ | refine PW.then_ ?_ | refine CW.block ?_ | refine CW.skip ?_ | refine CW.ret ?_ | refine PW.then_ret ?_ | refine PW.block_ret ?_ | refine Cut.ret ?_ | refine Rnd.ret ?_ | refine PW.block_normal ?_ | refine CW.exit ?_ | refine PW.then_exit ?_ | refine PW.block_hit ?_ | refine PW.block_miss rfl ?_ | refine Cut.exit ?_ | refine Rnd.exit ?_)
    refine CW.region ?_
    refine L1 (ps_assign rfl).os ?_
    refine LW.nil ?_
    repeat (first | refine CW.seq ?_ | refine PW.then_ ?_ | refine CW.block ?_ | refine CW.skip ?_ | refine CW.ret ?_ | refine PW.then_ret ?_ | refine PW.block_ret ?_ | refine Cut.ret ?_ | refine Rnd.ret ?_ | refine PW.block_normal ?_ | refine CW.exit ?_ | refine PW.then_exit ?_ | refine PW.block_hit ?_ | refine PW.block_miss rfl ?_ | refine Cut.exit ?_ | refine Rnd.exit ?_)
    have hsub : ((s[i].toNat : Nat) : Int) - 48 = ((c - 48 : Nat) : Int) := by omega
    have hcv : IntKind.u64.wrap ((s[i].toNat : Nat) - 48 : Int) = ((c - 48 : Nat) : Int) := by rw [hsub, wrap_u64_id (by omega) (by omega)]
    refine CW.cutB (α := Unit) [7, 41, 42, 43, 44, 45, 46, 47, 48, 49, 50, 51, 52, 53, 54, 55, 56, 57, 58, 59, 60, 61] (fun _ => True) (fun _ => [(7, .bool true)]) (fun _ => cb b4 27 (nc (x * 10 + (c - 48))) :: cb b1 27 (nc a) :: bag (blks W) :: F) ?_ ?_
    · refine CW.drawH [cb b4 27 (nc x)] [20, 21, 22] T.mixed ?_
      refine H_take (i := 0) (some 42) rfl rfl (by kernel_rfl) (by kernel_rfl) (by kernel_rfl) rfl (pl_loadAll (by repeat (first | exact pk_head _ _ | apply pk_tail)) T.ag27 (by exact T.sz27) rfl) (by kernel_rfl) (pkc (by repeat (first | exact pk_head _ _ | apply pk_tail)) (pkn _)) ?_
      refine H_take (i := 1) (some 43) rfl rfl (by kernel_rfl) (by kernel_rfl) (by kernel_rfl) rfl (pl_loadAll (by repeat (first | exact pk_head _ _ | apply pk_tail)) T.ag27 (by exact T.sz27) rfl) (by kernel_rfl) (pkc (by repeat (first | exact pk_head _ _ | apply pk_tail)) (pkn _)) ?_
      refine H_take (i := 2) (some 44) rfl rfl (by kernel_rfl) (by kernel_rfl) (by kernel_rfl) rfl (pl_loadAll (by repeat (first | exact pk_head _ _ | apply pk_tail)) T.ag27 (by exact T.sz27) rfl) (by kernel_rfl) (pkc (by repeat (first | exact pk_head _ _ | apply pk_tail)) (pkn _)) ?_
      refine H_take (i := 3) (some 45) rfl rfl (by kernel_rfl) (by kernel_rfl) (by kernel_rfl) rfl (pl_loadAll (by repeat (first | exact pk_head _ _ | apply pk_tail)) T.ag27 (by exact T.sz27) rfl) (by kernel_rfl) (pkc (by repeat (first | exact pk_head _ _ | apply pk_tail)) (pkn _)) ?_
      refine H_take (i := 4) (some 46) rfl rfl (by kernel_rfl) (by kernel_rfl) (by kernel_rfl) rfl (pl_loadAll (by repeat (first | exact pk_head _ _ | apply pk_tail)) T.ag27 (by exact T.sz27) rfl) (by kernel_rfl) (pkc (by repeat (first | exact pk_head _ _ | apply pk_tail)) (pkn _)) ?_
      refine H_take (i := 5) (some 47) rfl rfl (by kernel_rfl) (by kernel_rfl) (by kernel_rfl) rfl (pl_loadAll (by repeat (first | exact pk_head _ _ | apply pk_tail)) T.ag27 (by exact T.sz27) rfl) (by kernel_rfl) (pkc (by repeat (first | exact pk_head _ _ | apply pk_tail)) (pkn _)) ?_
      refine H_take (i := 6) (some 48) rfl rfl (by kernel_rfl) (by kernel_rfl) (by kernel_rfl) rfl (pl_loadAll (by repeat (first | exact pk_head _ _ | apply pk_tail)) T.ag27 (by exact T.sz27) rfl) (by kernel_rfl) (pkc (by repeat (first | exact pk_head _ _ | apply pk_tail)) (pkn _)) ?_
      refine H_take (i := 7) (some 49) rfl rfl (by kernel_rfl) (by kernel_rfl) (by kernel_rfl) rfl (pl_loadAll (by repeat (first | exact pk_head _ _ | apply pk_tail)) T.ag27 (by exact T.sz27) rfl) (by kernel_rfl) (pkc (by repeat (first | exact pk_head _ _ | apply pk_tail)) (pkn _)) ?_
      refine H_take (i := 8) (some 50) rfl rfl (by kernel_rfl) (by kernel_rfl) (by kernel_rfl) rfl (pl_loadAll (by repeat (first | exact pk_head _ _ | apply pk_tail)) T.ag27 (by exact T.sz27) rfl) (by kernel_rfl) (pkc (by repeat (first | exact pk_head _ _ | apply pk_tail)) (pkn _)) ?_
      refine H_take (i := 9) (some 51) rfl rfl (by kernel_rfl) (by kernel_rfl) (by kernel_rfl) rfl (pl_loadAll (by repeat (first | exact pk_head _ _ | apply pk_tail)) T.ag27 (by exact T.sz27) rfl) (by kernel_rfl) (pkc (by repeat (first | exact pk_head _ _ | apply pk_tail)) (pkn _)) ?_
      refine H_take (i := 10) (some 52) rfl rfl (by kernel_rfl) (by kernel_rfl) (by kernel_rfl) rfl (ps_move rfl).pl (by kernel_rfl) (pkc (by repeat (first | exact pk_head _ _ | apply pk_tail)) (pkn _)) ?_
      refine H_take (i := 11) (some 53) rfl rfl (by kernel_rfl) (by kernel_rfl) (by kernel_rfl) rfl (ps_move rfl).pl (by kernel_rfl) (pkc (by repeat (first | exact pk_head _ _ | apply pk_tail)) (pkn _)) ?_
      refine H_take (i := 12) (some 54) rfl rfl (by kernel_rfl) (by kernel_rfl) (by kernel_rfl) rfl (ps_idx_strV s i hlt T.un9 rfl rfl rfl).pl (by kernel_rfl) (pkc (by repeat (first | exact pk_head _ _ | apply pk_tail)) (pkn _)) ?_
      refine H_take (i := 13) (some 55) rfl rfl (by kernel_rfl) (by kernel_rfl) (by kernel_rfl) rfl (ps_sub_u8 rfl rfl (by omega) (by omega)).pl (by kernel_rfl) (pkc (by repeat (first | exact pk_head _ _ | apply pk_tail)) (pkn _)) ?_
      refine H_take (i := 14) (some 56) rfl rfl (by kernel_rfl) (by kernel_rfl) (by kernel_rfl) rfl (ps_to (congrArg (Value.int .u64) hcv) (ps_conv (by kernel_rfl) T.un25 rfl)).pl (by kernel_rfl) (pkc (by repeat (first | exact pk_head _ _ | apply pk_tail)) (pkn _)) ?_
      refine H_branch (rs := [15]) (by kernel_rfl) (by simp) ?_
      refine HR.cons1 (i := 15) (some 57) rfl rfl rfl (os_call0 (Of_spec (c - 48) (by omega)) Try.func17 (by decide +kernel) rfl rfl) (pkc (by repeat (first | exact pk_head _ _ | apply pk_tail)) (pkn _)) ?_ ?_
      · skip
        refine H_branch (rs := [16]) (by kernel_rfl) (by simp) ?_
        refine HR.consE (i := 16) (some 58) rfl rfl rfl (os_bslR ((List.replicate 10 x ++ [c - 48]).map nc) T.un22 T.ti27 (by rfl) (by rfl) (by simp [nc_len]) (by decide) (by decide)) ?_ ?_
        · rintro _ _ ⟨b58, rfl, rfl⟩
          refine ⟨fun _ => ⟨_, (pkc (by repeat (first | exact pk_head _ _ | apply pk_tail)) (pkn _))⟩, ?_⟩
          refine H_branch (rs := [17]) (by kernel_rfl) (by simp) ?_
          refine HR.cons1 (i := 17) (some 59) rfl rfl rfl (os_call1 (Add_row (k := 11) (List.replicate 10 x ++ [c - 48]) (by simp) (by decide) hm hsum) Try.func15 (by decide +kernel) rfl rfl (by repeat (first | exact pk_head _ _ | apply pk_tail))) (pkc (by repeat (first | exact pk_head _ _ | apply pk_tail)) (pkn _)) ?_ ?_
          · skip
            refine H_take (i := 18) (some 41) rfl rfl (by kernel_rfl) (by kernel_rfl) (by kernel_rfl) rfl (ps_move rfl).pl (by kernel_rfl) (pkc (by repeat (first | exact pk_head _ _ | apply pk_tail)) (pkn _)) ?_
            refine H_take (i := 19) (some 60) rfl rfl (by kernel_rfl) (by kernel_rfl) (by kernel_rfl) rfl (ps_extract rfl rfl).pl (by kernel_rfl) (pkc (by repeat (first | exact pk_head _ _ | apply pk_tail)) (pkn _)) ?_
            refine H_takeP (i := 20) (some 61) rfl rfl (by kernel_rfl) (by kernel_rfl) (by kernel_rfl) rfl (ps_extract rfl rfl) (by decide) ?_
            refine H_branch (rs := [21]) (by kernel_rfl) (by simp) ?_
            refine HR.consL (i := 21) none rfl rfl rfl (os_storeAll (b := b4) (vs := nc (x * 10 + (c - 48))) (by repeat (first | exact pk_head _ _ | apply pk_tail)) (by exact T.sz27) rfl rfl (nc_one _) (by rfl)) (by decide) ?_ ?_
            · skip
              refine H_takeP (i := 22) (some 7) rfl rfl (by kernel_rfl) (by kernel_rfl) (by kernel_rfl) rfl (ps_assign rfl) (by decide) ?_
              refine H_done (by kernel_rfl) ?_
              exact Meet.cut () trivial (by repeat (first | (with_reducible exact Ag.refl _ _) | (with_reducible apply Ag.pu0) | ((with_reducible refine Ag.pu _ ?_ ?_); · exact rfl) | ((with_reducible refine Ag.mix ?_ ?_); · exact rfl) | ((with_reducible refine Ag.pus ?_ ?_); · exact rfl))) ⟨rfl, trivial⟩ (by repeat (first | exact Ent.refl _ | (apply Ent.cons; · repeat (first | exact pk_head _ _ | apply pk_tail)) | apply Ent.skip))
            exact HR.nil
          exact HR.nil
        exact HR.nil
      exact HR.nil
    intro _ g2 _
    repeat (first | refine CW.seq ?_ | refine PW.then_ ?_ | refine CW.block ?_ | refine CW.skip ?_ | refine CW.ret ?_ | refine PW.then_ret ?_ | refine PW.block_ret ?_ | refine Cut.ret ?_ | refine Rnd.ret ?_ | refine PW.block_normal ?_ | refine CW.exit ?_ | refine PW.then_exit ?_ | refine PW.block_hit ?_ | refine PW.block_miss rfl ?_ | refine Cut.exit ?_ | refine Rnd.exit ?_)
    refine CW.region ?_
    refine L1 (ps_move rfl).os ?_
    refine L1 (ps_move rfl).os ?_
    refine LG1 ?_ (ps_move rfl).os ?_
    · exact rfl
    refine L1 (ps_pick_t rfl rfl).os ?_
    refine L1 (ps_assign rfl).os ?_
    refine LW.nil ?_
    repeat (first | refine CW.seq ?_ | refine PW.then_ ?_ | refine CW.block ?_ | refine CW.skip ?_ | refine CW.ret ?_ | refine PW.then_ret ?_ | refine PW.block_ret ?_ | refine Cut.ret ?_ | refine Rnd.ret ?_ | refine PW.block_normal ?_ | refine CW.exit ?_ | refine PW.then_exit ?_ | refine PW.block_hit ?_ | refine PW.block_miss rfl ?_ | refine Cut.exit ?_ | refine Rnd.exit ?_)
    refine CW.region ?_
    refine L1 (ps_add_i64 rfl rfl (by omega) (by omega)).os ?_
    refine L1 (ps_move rfl).os ?_
    refine LW.nil ?_
    exact Meet.round (s.length - (i + 1)) (i + 1) (by omega) ⟨hlt, rfl⟩ (by repeat (first | (with_reducible exact Ag.refl _ _) | (with_reducible apply Ag.pu0) | ((with_reducible refine Ag.pu _ ?_ ?_); · exact rfl) | ((with_reducible refine Ag.mix ?_ ?_); · exact rfl) | ((with_reducible refine Ag.pus ?_ ?_); · exact rfl))) ⟨rfl, rfl, trivial⟩ (by rw [hsx]; exact (by repeat (first | exact Ent.refl _ | (apply Ent.cons; · repeat (first | exact pk_head _ _ | apply pk_tail)) | apply Ent.skip)))
  · have hil : i = s.length := by omega
    subst hil
    rw [List.take_length, hval]
    refine CW.region ?_
    refine L1 (ps_f (ps_lss rfl rfl) (by omega)).os ?_
    refine LW.nil ?_
    repeat (first | refine CW.seq ?_ | refine PW.then_ ?_ | refine CW.block ?_ | refine CW.skip ?_ | refine CW.ret ?_ | refine PW.then_ret ?_ | refine PW.block_ret ?_ | refine Cut.ret ?_ | refine Rnd.ret ?_ | refine PW.block_normal ?_ | refine CW.exit ?_ | refine PW.then_exit ?_ | refine PW.block_hit ?_ | refine PW.block_miss rfl ?_ | refine Cut.exit ?_ | refine Rnd.exit ?_)
    refine CW.cond_false rfl ?_
    repeat (first | refine CW.seq ?_ | refine PW.then_ ?_ | refine CW.block ?_ | refine CW.skip ?_ | refine CW.ret ?_ | refine PW.then_ret ?_ | refine PW.block_ret ?_ | refine Cut.ret ?_ | refine Rnd.ret ?_ | refine PW.block_normal ?_ | refine CW.exit ?_ | refine PW.then_exit ?_ | refine PW.block_hit ?_ | refine PW.block_miss rfl ?_ | refine Cut.exit ?_ | refine Rnd.exit ?_)
    refine CW.region ?_
    refine L1 (ps_move rfl).os ?_
    refine L1 (ps_move rfl).os ?_
    refine LG1 ?_ (os_loadAll (by repeat (first | exact pk_head _ _ | apply pk_tail)) T.ag27 (by exact T.sz27) rfl) ?_
    · exact rfl
    refine LG1 ?_ (os_loadAll (by repeat (first | exact pk_head _ _ | apply pk_tail)) T.ag27 (by exact T.sz27) rfl) ?_
    · exact rfl
    refine LG1 ?_ (ps_t (ps_num_eql a a T.eq27 rfl rfl) rfl).os ?_
    · exact rfl
    refine L1 (ps_pick_t rfl rfl).os ?_
    refine L1 (ps_move rfl).os ?_
    refine LG1 ?_ (ps_move rfl).os ?_
    · exact rfl
    refine LG1 ?_ (ps_len_strV s T.un9 rfl).os ?_
    · exact rfl
    refine LG1 ?_ (ps_t (ps_geq rfl rfl) (by omega)).os ?_
    · exact rfl
    refine L1 (ps_pick_t rfl rfl).os ?_
    refine L1 (ps_move rfl).os ?_
    refine LG1 ?_ (ps_move rfl).os ?_
    · exact rfl
    refine LG1 ?_ (ps_len_strV s T.un9 rfl).os ?_
    · exact rfl
    refine LG1 ?_ (ps_t (ps_leq rfl rfl) (by omega)).os ?_
    · exact rfl
    refine L1 (ps_pick_t rfl rfl).os ?_
    refine L1 (ps_assign rfl).os ?_
    refine LW.nil ?_
    repeat (first | refine CW.seq ?_ | refine PW.then_ ?_ | refine CW.block ?_ | refine CW.skip ?_ | refine CW.ret ?_ | refine PW.then_ret ?_ | refine PW.block_ret ?_ | refine Cut.ret ?_ | refine Rnd.ret ?_ | refine PW.block_normal ?_ | refine CW.exit ?_ | refine PW.then_exit ?_ | refine PW.block_hit ?_ | refine PW.block_miss rfl ?_ | refine Cut.exit ?_ | refine Rnd.exit ?_)
    exact Fin.ret1 (v := .bool true) rfl [bag (blks W)] rfl ⟨rfl, rfl⟩ (by repeat (first | exact Ent.refl _ | (apply Ent.cons; · repeat (first | exact pk_head _ _ | apply pk_tail)) | apply Ent.skip))

namespace u128Prints
open Go.ChangeShapes Go.WideShapes Go.ChangeAt Go.RowKit
theorem own : ownKnob Try.prog.godebug = none := by kernel_rfl
theorem laidOut : laidOutB Try.prog = true := by kernel_rfl
set_option maxRecDepth 100000 in
theorem lifted (os : Os) (started : os.Started) (H : Type) (enc : TypeId × Value → H) :
    ReturnsInHanded {} Try.checked os 4 .any (Rows.u128PrintsSpec.pre6 enc Try.prog Try.f4 Rows.u128PrintsRow.domain false) (Rows.u128PrintsSpec.post enc Try.prog Try.f4 false true false false) := by
  refine returnsInHanded_of_change (C := Try.checked) own started (by kernel_rfl) Try.func4
    (ChangeSpec.witness6 (enc := enc) (C := Try.checked) false ⟨#[], #[(.agg (([Value.int .u64 0]) ++ ([Value.int .u64 0])).toArray)], []⟩ 8 (by kernel_rfl) (by kernel_rfl) (by kernel_rfl) (by kernel_rfl)) ?_
  intro W base args ds gs before hval0 hW hcnd _
  have hval : ∀ (j : Nat) t v, Try.f4.params[j]? = some t → args[j]? = some v → Value.okWide Try.prog W .any base t v := hval0
  have hW' := hW
  obtain ⟨p, q, hA0, hV, rfl, hfz, hnd⟩ := hW
  have hA : DataW.TrodAll enc Try.prog W 0 (fun _ => true) true Try.f4.params.toList args.toList ds p := hA0
  rw [Try.params4] at hA hval
  obtain ⟨v0, vs0, d0, ds0, p0, q0, hargs, rfl, rfl, h0, r0⟩ := trodAll_cons hA
  obtain ⟨rfl, rfl, rfl⟩ := trodAll_nil r0
  obtain rfl : args = #[v0] := by cases args; simp_all
  obtain ⟨rfl, rfl⟩ := trodVars_none hV
  obtain ⟨cs0, rfl, hcs0⟩ := okWide_agg T.ag27 (hval 0 27 v0 rfl rfl)
  obtain ⟨fu0, hf0⟩ := h0
  obtain ⟨a0, b0, c0⟩ := open_apiNum hf0
  simp only [List.append_nil] at hW'
  refine (LawOf.calls (U128Prints_law W _ a0 b0 c0)).mono fun e W' ⟨he, hb⟩ => ?_
  subst he
  exact ⟨_, rfl, law_post laidOut rfl (tb := 4) (by kernel_rfl) T.un4 (by intro t ht; rw [Try.params4] at ht; simp only [List.mem_cons, List.not_mem_nil, or_false] at ht; rcases ht with rfl <;> exact ⟨by kernel_rfl, by decide +kernel⟩) rfl hW' hb⟩
theorem holds : Rows.U128PrintsSaid :=
  OpenClaim.holds_of_wide 4 Try.f4 rfl rfl rfl rfl rfl rfl rfl ⟨rfl, rfl, rfl, rfl, rfl⟩ rfl rfl rfl rfl rfl (by kernel_rfl) Try.func4 (by kernel_rfl)
    (of_decide_eq_true (by kernel_rfl)) (by unfold Func.isWrapper; rw [if_neg (of_decide_eq_false (by kernel_rfl))]; exact ⟨rfl, rfl⟩)
    (fun os started H enc _ => lifted os started H enc)
end u128Prints
end Go.Proofs.Ytafalcebolbbeaa
