/- The law WireMany: as many events as may be are read, and no more: it answers true for every number and either kind (no condition). -/
import Derived.Test.YtpcjjchanjdkaaaReqQ
import Derived.Test.YtpcjjchanjdkaaaZer
import Derived.Test.YtpcjjchanjdkaaaRows
namespace Go.Proofs.Ytpcjjchanjdkaaa
open Go Go.SL
set_option linter.unusedVariables false
set_option linter.unusedSimpArgs false

def zAcc : AccS := ⟨0, 0, 0⟩
def zTr : TrS := ⟨0, 0, 0, 0, 0, 0, 0, 0⟩
theorem accB_z : accB zAcc = List.replicate 22 0 := by decide +kernel
theorem trB_z : trB zTr = List.replicate 90 0 := by decide +kernel
theorem flat_z (k m : Nat) : (List.replicate k (List.replicate m (0 : UInt8))).flatten = List.replicate (k * m) 0 := by
  induction k with
  | zero => simp
  | succ k ih => rw [List.replicate_succ, List.flatten_cons, ih, List.replicate_append_replicate, Nat.succ_mul, Nat.add_comm]
def manyQ (two : Bool) (n : Nat) : RQ := bif two then ⟨2, [], List.replicate n zTr, 0, 0, 0, 0⟩ else ⟨1, List.replicate n zAcc, [], 0, 0, 0, 0⟩
theorem manyQ_ok (two : Bool) (n : Nat) (hn : n ≤ 8) : TameOk (manyQ two n) := by
  have hM : 0 < M128 := by decide
  have za : AccOk zAcc := ⟨by decide, by decide, by decide⟩
  have zt : TrOk zTr := ⟨by decide, by decide, by decide, by decide, by decide, by decide, by decide, by decide⟩
  cases two
  · exact ⟨by simp [manyQ], hM, by simpa [manyQ] using hn, by simp [manyQ], fun a ha => by obtain rfl : a = zAcc := List.eq_of_mem_replicate ha; exact za, fun a ha => by simp [manyQ] at ha, Int.le_refl 0, Int.le_refl 0, by simp [manyQ], fun _ => rfl, by simp [manyQ], by simp [manyQ], by simp [manyQ], by simp [manyQ], by simp [manyQ]⟩
  · exact ⟨by simp [manyQ], hM, by simp [manyQ], by simpa [manyQ] using hn, fun a ha => by simp [manyQ] at ha, fun a ha => by obtain rfl : a = zTr := List.eq_of_mem_replicate ha; exact zt, Int.le_refl 0, Int.le_refl 0, by simp [manyQ], by simp [manyQ], fun _ => rfl, by simp [manyQ], by simp [manyQ], by simp [manyQ], by simp [manyQ]⟩
/-- The bytes that are read. -/
def manyB (k n m : Nat) : List UInt8 := [UInt8.ofNat k, UInt8.ofNat n] ++ List.replicate m 0
theorem manyB_req (two : Bool) (n : Nat) (hn : n ≤ 31) : manyB (bif two then 2 else 1) n (n * bif two then 90 else 22) = reqB (manyQ two n) := by
  have h1 : be 1 (n : Int) = [UInt8.ofNat n] := by
    have : ∀ n : Fin 32, be 1 ((n.val : Nat) : Int) = [UInt8.ofNat n.val] := by decide +kernel
    exact this ⟨n, by omega⟩
  have h2 : be 1 1 = [1] := by decide
  have h3 : be 1 2 = [2] := by decide
  cases two
  · simp only [manyB, manyQ, reqB, bodyB, cond_false, if_true, List.length_replicate, List.map_replicate, accB_z, flat_z, h1, h2]
    rfl
  · simp only [manyB, manyQ, reqB, bodyB, cond_true, if_true, List.length_replicate, List.map_replicate, trB_z, flat_z, h1, h3]
    rfl
theorem many_long (k n m : Nat) (hk : k = 1 ∨ k = 2) (hn : n ≤ 31) (h8 : 8 < n) : readReq (manyB k n m) = (RQ.zero, 2) := by
  have e1 := rdn_app 1 [UInt8.ofNat k] ([UInt8.ofNat n] ++ List.replicate m 0) rfl
  have e2 := rdn_app 1 [UInt8.ofNat n] (List.replicate m 0) rfl
  have n1 : num [UInt8.ofNat k] = k := by rcases hk with rfl | rfl <;> rfl
  have n2 : num [UInt8.ofNat n] = n := by
    have : ∀ n : Fin 32, num [UInt8.ofNat n.val] = n.val := by decide +kernel
    exact this ⟨n, by omega⟩
  rw [n1] at e1
  rw [n2] at e2
  rw [List.singleton_append] at e2
  unfold readReq manyB
  rw [show ([UInt8.ofNat k, UInt8.ofNat n] ++ List.replicate m 0) = [UInt8.ofNat k] ++ ([UInt8.ofNat n] ++ List.replicate m 0) from rfl, e1]
  dsimp only
  unfold rdBody
  rcases hk with rfl | rfl
  · simp [e2, h8]
  · simp [e2, h8]
theorem WireMany_law (W : World) (n0 : Int) (hn0 : -9223372036854775808 ≤ n0 ∧ n0 < 9223372036854775808) (two : Bool) : LawOf Try.prog 5 [.int .i64 n0, .bool two] W := by
  obtain ⟨n, hn, hn31⟩ : ∃ n : Nat, n0 % ((2 ^ 5 : Nat) : Int) = n ∧ n ≤ 31 := ⟨(n0 % ((2 ^ 5 : Nat) : Int)).toNat, by omega, by omega⟩
  obtain ⟨k, hkd, hk⟩ : ∃ k : Nat, (bif two then 2 else 1) = k ∧ (k = 1 ∨ k = 2) := ⟨_, rfl, by cases two <;> simp⟩
  obtain ⟨z, hzd, hz⟩ : ∃ z : Nat, (bif two then 90 else 22) = z ∧ z ≤ 90 := ⟨_, rfl, by cases two <;> decide⟩
  have hnz : n * z ≤ 31 * 90 := Nat.mul_le_mul hn31 hz
  obtain ⟨q, e, hr⟩ : ∃ q e, readReq (manyB k n (n * z)) = (q, e) := ⟨_, _, rfl⟩
  have hlong : 8 < n → q = RQ.zero ∧ e = 2 := fun h8 => by
    rw [many_long k n _ hk hn31 h8] at hr
    exact ⟨(Prod.mk.inj hr).1.symm, (Prod.mk.inj hr).2.symm⟩
  have hshort : n ≤ 8 → e = 0 ∧ q.kind = k ∧ q.accs.length + q.trs.length = n := fun h8 => by
    rw [← hkd, ← hzd, manyB_req two n hn31, readReq_B _ (manyQ_ok two n h8)] at hr
    obtain ⟨rfl, rfl⟩ := Prod.mk.inj hr
    rw [← hkd]
    cases two <;> simp [manyQ]
  have hml : (manyB k n (n * z)).length = 2 + n * z := by simp [manyB]; omega
  have hmb : bv (manyB k n (n * z)) = bv [UInt8.ofNat k, UInt8.ofNat n] ++ zerL [.int .u8 0] (n * z) := by
    rw [zerL_one]; unfold manyB; rw [bv_append]; congr 1; simp [bv]
  have hk8 : IntKind.u8.wrap (k : Int) = ((UInt8.ofNat k).toNat : Int) := by rcases hk with rfl | rfl <;> rfl
  have hn8 : IntKind.u8.wrap (n : Int) = ((UInt8.ofNat n).toNat : Int) := by
    have : ∀ n : Fin 32, IntKind.u8.wrap ((n.val : Nat) : Int) = ((UInt8.ofNat n.val).toNat : Int) := by decide +kernel
    exact this ⟨n, by omega⟩
  have hmul : (n : Int) * (z : Int) = ((n * z : Nat) : Int) := (Int.natCast_mul n z).symm
  refine FSpec.intro Try.func5 rfl 57 Try.ntmps5 (Nat.le_of_ble_eq_true rfl) fun w0 F => ?_
  show CW _ _ _ _ _ _ (_ :: F)
  repeat (first | refine CW.seq ?_ | refine PW.then_ ?_ | refine CW.block ?_ | refine CW.skip ?_ | refine CW.ret ?_ | refine PW.then_ret ?_ | refine PW.block_ret ?_ | refine Cut.ret ?_ | refine Rnd.ret ?_ | refine PW.block_normal ?_ | refine CW.exit ?_ | refine PW.then_exit ?_ | refine PW.block_hit ?_ | refine PW.block_miss rfl ?_ | refine Cut.exit ?_ | refine Rnd.exit ?_)
  refine CW.region ?_
  refine L1 (ps_assign rfl).os ?_
  refine LW.nil ?_
  repeat (first | refine CW.seq ?_ | refine PW.then_ ?_ | refine CW.block ?_ | refine CW.skip ?_ | refine CW.ret ?_ | refine PW.then_ret ?_ | refine PW.block_ret ?_ | refine Cut.ret ?_ | refine Rnd.ret ?_ | refine PW.block_normal ?_ | refine CW.exit ?_ | refine PW.then_exit ?_ | refine PW.block_hit ?_ | refine PW.block_miss rfl ?_ | refine Cut.exit ?_ | refine Rnd.exit ?_)
  refine CW.region ?_
  refine L1 (os_call0 fit_spec Try.func11 (by decide +kernel) rfl rfl) ?_
  refine L1 (ps_not rfl).os ?_
  refine LW.nil ?_
  repeat (first | refine CW.seq ?_ | refine PW.then_ ?_ | refine CW.block ?_ | refine CW.skip ?_ | refine CW.ret ?_ | refine PW.then_ret ?_ | refine PW.block_ret ?_ | refine Cut.ret ?_ | refine Rnd.ret ?_ | refine PW.block_normal ?_ | refine CW.exit ?_ | refine PW.then_exit ?_ | refine PW.block_hit ?_ | refine PW.block_miss rfl ?_ | refine Cut.exit ?_ | refine Rnd.exit ?_)
  refine CW.cond_false rfl ?_
  repeat (first | refine CW.seq ?_ | refine PW.then_ ?_ | refine CW.block ?_ | refine CW.skip ?_ | refine CW.ret ?_ | refine PW.then_ret ?_ | refine PW.block_ret ?_ | refine Cut.ret ?_ | refine Rnd.ret ?_ | refine PW.block_normal ?_ | refine CW.exit ?_ | refine PW.then_exit ?_ | refine PW.block_hit ?_ | refine PW.block_miss rfl ?_ | refine Cut.exit ?_ | refine Rnd.exit ?_)
  refine CW.region ?_
  refine L1 (ps_move rfl).os ?_
  refine L1 (ps_to (u := .int .i64 (n : Int)) (congrArg _ hn) (ps_mask_i64 (m := 5) rfl rfl rfl (by decide))).os ?_
  refine L1 (ps_assign rfl).os ?_
  refine LW.nil ?_
  repeat (first | refine CW.seq ?_ | refine PW.then_ ?_ | refine CW.block ?_ | refine CW.skip ?_ | refine CW.ret ?_ | refine PW.then_ret ?_ | refine PW.block_ret ?_ | refine Cut.ret ?_ | refine Rnd.ret ?_ | refine PW.block_normal ?_ | refine CW.exit ?_ | refine PW.then_exit ?_ | refine PW.block_hit ?_ | refine PW.block_miss rfl ?_ | refine Cut.exit ?_ | refine Rnd.exit ?_)
  refine CW.region ?_
  refine L1 (ps_assign rfl).os ?_
  refine L1 (ps_assign rfl).os ?_
  refine LW.nil ?_
  repeat (first | refine CW.seq ?_ | refine PW.then_ ?_ | refine CW.block ?_ | refine CW.skip ?_ | refine CW.ret ?_ | refine PW.then_ret ?_ | refine PW.block_ret ?_ | refine Cut.ret ?_ | refine Rnd.ret ?_ | refine PW.block_normal ?_ | refine CW.exit ?_ | refine PW.then_exit ?_ | refine PW.block_hit ?_ | refine PW.block_miss rfl ?_ | refine Cut.exit ?_ | refine Rnd.exit ?_)
  refine CW.region ?_
  refine L1 (ps_move rfl).os ?_
  refine LW.nil ?_
  repeat (first | refine CW.seq ?_ | refine PW.then_ ?_ | refine CW.block ?_ | refine CW.skip ?_ | refine CW.ret ?_ | refine PW.then_ret ?_ | refine PW.block_ret ?_ | refine Cut.ret ?_ | refine Rnd.ret ?_ | refine PW.block_normal ?_ | refine CW.exit ?_ | refine PW.then_exit ?_ | refine PW.block_hit ?_ | refine PW.block_miss rfl ?_ | refine Cut.exit ?_ | refine Rnd.exit ?_)
  refine CW.cutB (α := Unit) [5, 6] (fun _ => True) (fun _ => [(5, .int .i64 (k : Int)), (6, .int .i64 (z : Int))]) (fun _ => bag (blks W) :: F) ?_ ?_
  · cases two
    · refine CW.cond_false rfl ?_
      repeat (first | refine CW.seq ?_ | refine PW.then_ ?_ | refine CW.block ?_ | refine CW.skip ?_ | refine CW.ret ?_ | refine PW.then_ret ?_ | refine PW.block_ret ?_ | refine Cut.ret ?_ | refine Rnd.ret ?_ | refine PW.block_normal ?_ | refine CW.exit ?_ | refine PW.then_exit ?_ | refine PW.block_hit ?_ | refine PW.block_miss rfl ?_ | refine Cut.exit ?_ | refine Rnd.exit ?_)
      obtain rfl : k = 1 := hkd.symm
      obtain rfl : z = 22 := hzd.symm
      exact Meet.cut () trivial (by repeat (first | (with_reducible exact Ag.refl _ _) | (with_reducible apply Ag.pu0) | ((with_reducible refine Ag.pu _ ?_ ?_); · exact rfl) | ((with_reducible refine Ag.mix ?_ ?_); · exact rfl) | ((with_reducible refine Ag.pus ?_ ?_); · exact rfl))) ⟨rfl, rfl, trivial⟩ (by repeat (first | exact Ent.refl _ | (apply Ent.cons; · repeat (first | exact pk_head _ _ | apply pk_tail)) | apply Ent.skip))
    · refine CW.cond_true rfl ?_
      repeat (first | refine CW.seq ?_ | refine PW.then_ ?_ | refine CW.block ?_ | refine CW.skip ?_ | refine CW.ret ?_ | refine PW.then_ret ?_ | refine PW.block_ret ?_ | refine Cut.ret ?_ | refine Rnd.ret ?_ | refine PW.block_normal ?_ | refine CW.exit ?_ | refine PW.then_exit ?_ | refine PW.block_hit ?_ | refine PW.block_miss rfl ?_ | refine Cut.exit ?_ | refine Rnd.exit ?_)
      refine CW.region ?_
      refine L1 (ps_assign rfl).os ?_
      refine L1 (ps_assign rfl).os ?_
      refine LW.nil ?_
      repeat (first | refine CW.seq ?_ | refine PW.then_ ?_ | refine CW.block ?_ | refine CW.skip ?_ | refine CW.ret ?_ | refine PW.then_ret ?_ | refine PW.block_ret ?_ | refine Cut.ret ?_ | refine Rnd.ret ?_ | refine PW.block_normal ?_ | refine CW.exit ?_ | refine PW.then_exit ?_ | refine PW.block_hit ?_ | refine PW.block_miss rfl ?_ | refine Cut.exit ?_ | refine Rnd.exit ?_)
      obtain rfl : k = 2 := hkd.symm
      obtain rfl : z = 90 := hzd.symm
      exact Meet.cut () trivial (by repeat (first | (with_reducible exact Ag.refl _ _) | (with_reducible apply Ag.pu0) | ((with_reducible refine Ag.pu _ ?_ ?_); · exact rfl) | ((with_reducible refine Ag.mix ?_ ?_); · exact rfl) | ((with_reducible refine Ag.pus ?_ ?_); · exact rfl))) ⟨rfl, rfl, trivial⟩ (by repeat (first | exact Ent.refl _ | (apply Ent.cons; · repeat (first | exact pk_head _ _ | apply pk_tail)) | apply Ent.skip))
  intro _ _ _
  repeat (first | refine CW.seq ?_ | refine PW.then_ ?_ | refine CW.block ?_ | refine CW.skip ?_ | refine CW.ret ?_ | refine PW.then_ret ?_ | refine PW.block_ret ?_ | refine Cut.ret ?_ | refine Rnd.ret ?_ | refine PW.block_normal ?_ | refine CW.exit ?_ | refine PW.then_exit ?_ | refine PW.block_hit ?_ | refine PW.block_miss rfl ?_ | refine Cut.exit ?_ | refine Rnd.exit ?_)
  refine CW.region ?_
  refine L1 (ps_move rfl).os ?_
  refine L1 (ps_to (u := .int .u8 ((UInt8.ofNat k).toNat : Int)) (congrArg _ hk8) (ps_conv (by kernel_rfl) T.un5 rfl)).os ?_
  refine L1 (ps_move rfl).os ?_
  refine L1 (ps_to (u := .int .u8 ((UInt8.ofNat n).toNat : Int)) (congrArg _ hn8) (ps_conv (by kernel_rfl) T.un5 rfl)).os ?_
  refine LE (os_bslv (vs := bv [UInt8.ofNat k, UInt8.ofNat n]) T.un32 T.ti5 (by rfl) (by rfl) rfl (bv_one _) (by decide) (by decide)) ?_
  rintro _ _ ⟨b19, rfl, rfl⟩
  refine J.ent (Ent.slMk (m := 2) (cap := 2) (cur := bv [UInt8.ofNat k, UInt8.ofNat n]) (size := 1) (by decide) (by decide) rfl rfl _) ?_
  refine L1 (ps_move rfl).os ?_
  refine L1 (ps_move rfl).os ?_
  refine L1 (ps_to (u := .int .i64 ((n * z : Nat) : Int)) (congrArg _ hmul) (ps_mul_i64 rfl rfl (by omega) (by omega))).os ?_
  refine LE (os_appendZ (k := n * z) (xs := bv [UInt8.ofNat k, UInt8.ofNat n]) (by repeat (first | exact pk_head _ _ | apply pk_tail)) T.un32 T.un3 T.ti5 (by rfl) (by decide) rfl rfl (by simp [Value.oneCell']) (by unfold maxLen; omega) (by omega)) ?_
  rintro _ _ ⟨q', d', rfl, rfl, hq'⟩
  refine slOwn_info (pk_head _ _) fun hmd hdm hqs => ?_
  rw [← hmb]
  refine L1 (ps_assign rfl).os ?_
  refine LW.nil ?_
  repeat (first | refine CW.seq ?_ | refine PW.then_ ?_ | refine CW.block ?_ | refine CW.skip ?_ | refine CW.ret ?_ | refine PW.then_ret ?_ | refine PW.block_ret ?_ | refine Cut.ret ?_ | refine Rnd.ret ?_ | refine PW.block_normal ?_ | refine CW.exit ?_ | refine PW.then_exit ?_ | refine PW.block_hit ?_ | refine PW.block_miss rfl ?_ | refine Cut.exit ?_ | refine Rnd.exit ?_)
  refine CW.region ?_
  refine L1 (ps_move rfl).os ?_
  refine LE (os_call (ReadRequest_to (A := slOwn 5 1 (.slice q' (2 + n * z) d') (2 + n * z) (bv (manyB k n (n * z)))) (ByR.own hml hmd hqs) (by rw [hml]; unfold maxLen; omega) hr) Try.func16 (by decide +kernel) rfl rfl (by repeat (first | exact pk_head _ _ | apply pk_tail))) ?_
  rintro _ _ ⟨_, ⟨av, tv, B, rfl, rfl, hav, htv⟩, rfl⟩
  refine L1 (ps_move rfl).os ?_
  refine L1 (ps_extract rfl rfl).os ?_
  refine L1 (ps_extract rfl rfl).os ?_
  refine LE (os_alloc T.ti28) ?_
  rintro _ _ ⟨b8, rfl, rfl⟩
  refine L1 (os_storeAll (b := b8) (vs := rqCells q av tv) (by repeat (first | exact pk_head _ _ | apply pk_tail)) (by exact T.sz28) rfl rfl (rqCells_one hav htv) (by rfl)) ?_
  refine L1 (ps_assign rfl).os ?_
  refine LW.nil ?_
  repeat (first | refine CW.seq ?_ | refine PW.then_ ?_ | refine CW.block ?_ | refine CW.skip ?_ | refine CW.ret ?_ | refine PW.then_ret ?_ | refine PW.block_ret ?_ | refine Cut.ret ?_ | refine Rnd.ret ?_ | refine PW.block_normal ?_ | refine CW.exit ?_ | refine PW.then_exit ?_ | refine PW.block_hit ?_ | refine PW.block_miss rfl ?_ | refine Cut.exit ?_ | refine Rnd.exit ?_)
  by_cases h8 : 8 < n
  · have i8 : (8 : Int) < n := by omega
    obtain ⟨rfl, rfl⟩ := hlong h8
    refine CW.region ?_
    refine L1 (ps_move rfl).os ?_
    refine L1 (ps_t (ps_gtr rfl rfl) (i8)).os ?_
    refine LW.nil ?_
    repeat (first | refine CW.seq ?_ | refine PW.then_ ?_ | refine CW.block ?_ | refine CW.skip ?_ | refine CW.ret ?_ | refine PW.then_ret ?_ | refine PW.block_ret ?_ | refine Cut.ret ?_ | refine Rnd.ret ?_ | refine PW.block_normal ?_ | refine CW.exit ?_ | refine PW.then_exit ?_ | refine PW.block_hit ?_ | refine PW.block_miss rfl ?_ | refine Cut.exit ?_ | refine Rnd.exit ?_)
    refine CW.cond_true rfl ?_
    repeat (first | refine CW.seq ?_ | refine PW.then_ ?_ | refine CW.block ?_ | refine CW.skip ?_ | refine CW.ret ?_ | refine PW.then_ret ?_ | refine PW.block_ret ?_ | refine Cut.ret ?_ | refine Rnd.ret ?_ | refine PW.block_normal ?_ | refine CW.exit ?_ | refine PW.then_exit ?_ | refine PW.block_hit ?_ | refine PW.block_miss rfl ?_ | refine Cut.exit ?_ | refine Rnd.exit ?_)
    refine CW.region ?_
    refine L1 (ps_move rfl).os ?_
    refine L1 (ps_t (ps_eql rfl rfl) (rfl)).os ?_
    refine L1 (ps_move rfl).os ?_
    refine LG1 ?_ (ps_fa T.fa28_0 (by decide) rfl).os ?_
    · exact rfl
    refine LG1 ?_ (os_load1 (by repeat (first | exact pk_head _ _ | apply pk_tail)) T.ag3 rfl (by rfl)) ?_
    · exact rfl
    refine LG1 ?_ (ps_t (ps_eql rfl rfl) (rfl)).os ?_
    · exact rfl
    refine L1 (ps_pick_t rfl rfl).os ?_
    refine L1 (ps_assign rfl).os ?_
    refine LW.nil ?_
    repeat (first | refine CW.seq ?_ | refine PW.then_ ?_ | refine CW.block ?_ | refine CW.skip ?_ | refine CW.ret ?_ | refine PW.then_ret ?_ | refine PW.block_ret ?_ | refine Cut.ret ?_ | refine Rnd.ret ?_ | refine PW.block_normal ?_ | refine CW.exit ?_ | refine PW.then_exit ?_ | refine PW.block_hit ?_ | refine PW.block_miss rfl ?_ | refine Cut.exit ?_ | refine Rnd.exit ?_)
    exact Fin.ret1 (v := .bool true) rfl [bag (blks W)] rfl ⟨rfl, rfl⟩ (by repeat (first | exact Ent.refl _ | (apply Ent.cons; · repeat (first | exact pk_head _ _ | apply pk_tail)) | apply Ent.skip))
  · have i8 : ¬ (8 : Int) < n := by omega
    obtain ⟨rfl, hqk, hql⟩ := hshort (by omega)
    obtain ⟨pa, ca, rfl, -, -, -⟩ := hav.len
    obtain ⟨pt0, ct, rfl, -, -, -⟩ := htv.len
    have hla : ((q.accs.map accCells).length : Int) + ((q.trs.map trCells).length : Int) = n := by simp only [List.length_map]; omega
    have hl0 : (q.accs.map accCells).length ≤ 31 := by simp only [List.length_map]; omega
    have hl1 : (q.trs.map trCells).length ≤ 31 := by simp only [List.length_map]; omega
    generalize (q.accs.map accCells).length = na at *
    generalize (q.trs.map trCells).length = nt at *
    refine CW.region ?_
    refine L1 (ps_move rfl).os ?_
    refine L1 (ps_f (ps_gtr rfl rfl) (i8)).os ?_
    refine LW.nil ?_
    repeat (first | refine CW.seq ?_ | refine PW.then_ ?_ | refine CW.block ?_ | refine CW.skip ?_ | refine CW.ret ?_ | refine PW.then_ret ?_ | refine PW.block_ret ?_ | refine Cut.ret ?_ | refine Rnd.ret ?_ | refine PW.block_normal ?_ | refine CW.exit ?_ | refine PW.then_exit ?_ | refine PW.block_hit ?_ | refine PW.block_miss rfl ?_ | refine Cut.exit ?_ | refine Rnd.exit ?_)
    refine CW.cond_false rfl ?_
    repeat (first | refine CW.seq ?_ | refine PW.then_ ?_ | refine CW.block ?_ | refine CW.skip ?_ | refine CW.ret ?_ | refine PW.then_ret ?_ | refine PW.block_ret ?_ | refine Cut.ret ?_ | refine Rnd.ret ?_ | refine PW.block_normal ?_ | refine CW.exit ?_ | refine PW.then_exit ?_ | refine PW.block_hit ?_ | refine PW.block_miss rfl ?_ | refine Cut.exit ?_ | refine Rnd.exit ?_)
    refine CW.region ?_
    refine L1 (ps_move rfl).os ?_
    refine L1 (ps_t (ps_eql rfl rfl) (rfl)).os ?_
    refine L1 (ps_move rfl).os ?_
    refine LG1 ?_ (ps_fa T.fa28_1 (by decide) rfl).os ?_
    · exact rfl
    refine LG1 ?_ (os_load1 (by repeat (first | exact pk_head _ _ | apply pk_tail)) T.ag22 rfl (by rfl)) ?_
    · exact rfl
    refine LG1 ?_ (ps_len_sl T.un22 rfl).os ?_
    · exact rfl
    refine LG1 ?_ (ps_fa T.fa28_2 (by decide) rfl).os ?_
    · exact rfl
    refine LG1 ?_ (os_load1 (by repeat (first | exact pk_head _ _ | apply pk_tail)) T.ag23 rfl (by rfl)) ?_
    · exact rfl
    refine LG1 ?_ (ps_len_sl T.un23 rfl).os ?_
    · exact rfl
    refine LG1 ?_ (ps_to (u := .int .i64 (n : Int)) (congrArg _ hla) (ps_add_i64 rfl rfl (by omega) (by omega))).os ?_
    · exact rfl
    refine LG1 ?_ (ps_move rfl).os ?_
    · exact rfl
    refine LG1 ?_ (ps_t (ps_eql rfl rfl) (rfl)).os ?_
    · exact rfl
    refine L1 (ps_pick_t rfl rfl).os ?_
    refine L1 (ps_move rfl).os ?_
    refine LG1 ?_ (ps_fa T.fa28_0 (by decide) rfl).os ?_
    · exact rfl
    refine LG1 ?_ (os_load1 (by repeat (first | exact pk_head _ _ | apply pk_tail)) T.ag3 rfl (by rfl)) ?_
    · exact rfl
    refine LG1 ?_ (ps_move rfl).os ?_
    · exact rfl
    refine LG1 ?_ (ps_t (ps_eql rfl rfl) (hqk)).os ?_
    · exact rfl
    refine L1 (ps_pick_t rfl rfl).os ?_
    refine L1 (ps_assign rfl).os ?_
    refine LW.nil ?_
    repeat (first | refine CW.seq ?_ | refine PW.then_ ?_ | refine CW.block ?_ | refine CW.skip ?_ | refine CW.ret ?_ | refine PW.then_ret ?_ | refine PW.block_ret ?_ | refine Cut.ret ?_ | refine Rnd.ret ?_ | refine PW.block_normal ?_ | refine CW.exit ?_ | refine PW.then_exit ?_ | refine PW.block_hit ?_ | refine PW.block_miss rfl ?_ | refine Cut.exit ?_ | refine Rnd.exit ?_)
    exact Fin.ret1 (v := .bool true) rfl [bag (blks W)] rfl ⟨rfl, rfl⟩ (by repeat (first | exact Ent.refl _ | (apply Ent.cons; · repeat (first | exact pk_head _ _ | apply pk_tail)) | apply Ent.skip))

namespace wireMany
open Go.ChangeShapes Go.WideShapes Go.ChangeAt Go.RowKit
theorem own : ownKnob Try.prog.godebug = none := by kernel_rfl
theorem laidOut : laidOutB Try.prog = true := by kernel_rfl
set_option maxRecDepth 100000 in
theorem lifted (os : Os) (started : os.Started) (H : Type) (enc : TypeId × Value → H) :
    ReturnsInHanded {} Try.checked os 5 .any (Rows.wireManySpec.pre6 enc Try.prog Try.f5 Rows.wireManyRow.domain false) (Rows.wireManySpec.post enc Try.prog Try.f5 false true false false) := by
  refine returnsInHanded_of_change (C := Try.checked) own started (by kernel_rfl) Try.func5
    (ChangeSpec.witness6 (enc := enc) (C := Try.checked) false ⟨#[], #[(Value.int .i64 0), (Value.bool false)], []⟩ 8 (by kernel_rfl) (by kernel_rfl) (by kernel_rfl) (by kernel_rfl)) ?_
  intro W base args ds gs before hval0 hW hcnd _
  have hval : ∀ (j : Nat) t v, Try.f5.params[j]? = some t → args[j]? = some v → Value.okWide Try.prog W .any base t v := hval0
  have hW' := hW
  obtain ⟨p, q, hA0, hV, rfl, hfz, hnd⟩ := hW
  have hA : DataW.TrodAll enc Try.prog W 0 (fun _ => true) true Try.f5.params.toList args.toList ds p := hA0
  rw [Try.params5] at hA hval
  obtain ⟨v0, vs0, d0, ds0, p0, q0, hargs, rfl, rfl, h0, r0⟩ := trodAll_cons hA
  obtain ⟨v1, vs1, d1, ds1, p1, q1, rfl, rfl, rfl, h1, r1⟩ := trodAll_cons r0
  obtain ⟨rfl, rfl, rfl⟩ := trodAll_nil r1
  obtain rfl : args = #[v0, v1] := by cases args; simp_all
  obtain ⟨rfl, rfl⟩ := trodVars_none hV
  obtain ⟨a0, rfl, rfl, rfl, wf0⟩ := open_int T.un3 (hval 0 3 v0 rfl rfl) h0
  have w0 := bounds_i64' wf0
  obtain ⟨a1, rfl, rfl, rfl⟩ := open_bool T.un4 (hval 1 4 v1 rfl rfl) h1
  simp only [List.append_nil] at hW'
  refine (LawOf.calls (WireMany_law W a0 w0 a1)).mono fun e W' ⟨he, hb⟩ => ?_
  subst he
  exact ⟨_, rfl, law_post laidOut rfl (tb := 4) (by kernel_rfl) T.un4 (by intro t ht; rw [Try.params5] at ht; simp only [List.mem_cons, List.not_mem_nil, or_false] at ht; rcases ht with rfl | rfl <;> exact ⟨by kernel_rfl, by decide +kernel⟩) rfl hW' hb⟩
theorem holds : Rows.WireManySaid :=
  OpenClaim.holds_of_wide 5 Try.f5 rfl rfl rfl rfl rfl rfl rfl ⟨rfl, rfl, rfl, rfl, rfl⟩ rfl rfl rfl rfl rfl (by kernel_rfl) Try.func5 (by kernel_rfl)
    (of_decide_eq_true (by kernel_rfl)) (by unfold Func.isWrapper; rw [if_neg (of_decide_eq_false (by kernel_rfl))]; exact ⟨rfl, rfl⟩)
    (fun os started H enc _ => lifted os started H enc)
end wireMany
end Go.Proofs.Ytpcjjchanjdkaaa
