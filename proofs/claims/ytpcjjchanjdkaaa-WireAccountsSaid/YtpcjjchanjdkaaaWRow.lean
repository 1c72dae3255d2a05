/- An account's bytes and a row's, laid and read again. -/
import Derived.Test.YtpcjjchanjdkaaaWireH
import Derived.Test.YtpcjjchanjdkaaaReqQ
import Derived.Test.YtpcjjchanjdkaaaChain
namespace Go.Proofs.Ytpcjjchanjdkaaa
set_option linter.unusedVariables false
set_option linter.unusedSimpArgs false
open Go Go.SL

/-! ## what is read is what stands ahead -/
theorem RNum_app (A : Asn) (p : Nat) (x : Nat) (rest : List UInt8) (hx : x < M128) (hm : rest.length ≤ 1000000) :
    FSpec Try.prog 25 [ptr p] [RdAt A p (numB x ++ rest) false, A] (fun r As => r = .agg (nc x).toArray ∧ As = [RdAt A p rest false, A]) := by
  have h := RNum_spec A p (numB x ++ rest) false (by simp; unfold maxLen; omega)
  have e := rdn_num x rest hx
  unfold rdn at e
  dsimp only at e
  obtain ⟨e1, e2⟩ := Prod.mk.inj e
  rw [show rdNum (numB x ++ rest) false = x from e1, e2] at h
  exact h
theorem RInt_app (A : Asn) (p : Nat) (k : Nat) (x : Int) (rest : List UInt8) (h1 : 1 ≤ k) (h7 : k ≤ 7) (hx : 0 ≤ x) (hx2 : x < 256 ^ k) (hm : rest.length ≤ 1000000) :
    FSpec Try.prog 23 [ptr p, .int .i64 k] [RdAt A p (be k x ++ rest) false, A] (fun r As => r = .int .i64 x ∧ As = [RdAt A p rest false, A]) := by
  have h := RInt_spec A p (be k x ++ rest) false k (by simp; unfold maxLen; omega) h1 h7
  obtain ⟨n, e, f⟩ := rdn_be k x rest hx hx2
  unfold rdn at e
  dsimp only at e
  obtain ⟨e1, e2⟩ := Prod.mk.inj e
  rw [show rdInt k (be k x ++ rest) false = n from e1, e2, f] at h
  exact h
theorem RHash_app (A : Asn) (p : Nat) (x : List UInt8) (rest : List UInt8) (hx : x.length = 32) (hm : rest.length ≤ 1000000) :
    FSpec Try.prog 24 [ptr p] [RdAt A p (x ++ rest) false, A] (fun r As => r = .agg (bv x).toArray ∧ As = [RdAt A p rest false, A]) := by
  have h := RHash_spec A p (x ++ rest) false (by simp [hx]; unfold maxLen; omega)
  have e : rdT 32 (x ++ rest) false = (x, rest, false) := by
    unfold rdT
    rw [if_neg (by rw [List.length_append]; intro h; rcases h with h | h; cases h; omega), ← hx, List.take_left, List.drop_left]
  rw [e] at h
  exact h

/-! ## an account -/
structure AcctS where
  id : Nat
  led : Int
  fl : Int
  dp : Nat
  dpo : Nat
  cp : Nat
  cpo : Nat
  tim : Int
  rows : Int
  root : List UInt8
structure AcctOk (a : AcctS) : Prop where
  id : a.id < M128
  dp : a.dp < M128
  dpo : a.dpo < M128
  cp : a.cp < M128
  cpo : a.cpo < M128
  root : a.root.length = 32
def acctCells (a : AcctS) : List Value := nc a.id ++ [.int .i64 a.led, .int .i64 a.fl] ++ nc a.dp ++ nc a.dpo ++ nc a.cp ++ nc a.cpo ++ [.int .i64 a.tim, .int .i64 a.rows] ++ bv a.root
theorem acctCells_len (a : AcctS) (h : AcctOk a) : (acctCells a).length = 46 := by simp [acctCells, nc, h.root]
theorem acctCells_one (a : AcctS) : ∀ u ∈ acctCells a, u.oneCell' = true := fun u hu => by
  unfold acctCells at hu
  rcases List.mem_append.1 hu with hu | hu
  · simp only [nc, List.mem_append, List.mem_cons, List.not_mem_nil, or_false] at hu
    rcases hu with ((((((rfl | rfl) | rfl | rfl) | rfl | rfl) | rfl | rfl) | rfl | rfl) | rfl | rfl) | rfl | rfl <;> rfl
  · exact bv_one _ u hu
theorem acct_root (a : AcctS) (h : AcctOk a) : ((acctCells a).drop 14).take 32 = bv a.root := by
  show (bv a.root).take 32 = bv a.root
  exact List.take_of_length_le (by rw [length_bv, h.root]; exact Nat.le_refl _)
def num4 (a : AcctS) : List UInt8 := numB a.dp ++ numB a.dpo ++ numB a.cp ++ numB a.cpo
def acctB (a : AcctS) : List UInt8 := numB a.id ++ be 4 a.led ++ be 2 a.fl ++ num4 a ++ (be 6 a.tim ++ be 6 a.rows) ++ a.root
theorem acctB_len (a : AcctS) (h : AcctOk a) : (acctB a).length = 130 := by simp [acctB, num4, h.root]
theorem acctB_app (a : AcctS) (rest : List UInt8) : acctB a ++ rest = numB a.id ++ (be 4 a.led ++ (be 2 a.fl ++ (numB a.dp ++ (numB a.dpo ++ (numB a.cp ++ (numB a.cpo ++ (be 6 a.tim ++ (be 6 a.rows ++ (a.root ++ rest))))))))) := by
  simp only [acctB, num4, List.append_assoc]
theorem WN4 (p : Nat) (bs : List UInt8) (x y z u b : Nat) (hx : x < M128 ∧ y < M128 ∧ z < M128 ∧ u < M128) (hb : bs.length ≤ 1000000) : FSpec Try.prog 19 [ptr p, .slice (some ⟨b, 0, none⟩) 4 4] [WrAt p bs, cb b 26 ([x, y, z, u].map nc).flatten] (fun r As => r = ptr p ∧ As = [WrAt p (bs ++ (numB x ++ numB y ++ numB z ++ numB u)), cb b 26 ([x, y, z, u].map nc).flatten]) := by
  have h := WNs p bs [x, y, z, u] 4 b rfl (by decide) (by simpa using hx) hb
  rw [show (([x, y, z, u].map numB).flatten) = numB x ++ numB y ++ numB z ++ numB u by simp] at h
  exact h
theorem Account_spec (a : AcctS) (ok : AcctOk a) :
    FSpec Try.prog 28 [.agg (acctCells a).toArray] [] (fun r As => ∃ u d, r = .slice u 130 d ∧ As = [slOwn 5 1 (.slice u 130 d) 130 (bv (acctB a))]) := by
  have hroot := acct_root a ok
  have hrl : (bv a.root).length = 32 := by rw [length_bv, ok.root]
  have hl := acctB_len a ok
  refine FSpec.intro Try.func28 rfl 37 Try.ntmps28 (Nat.le_of_ble_eq_true rfl) fun w0 F => ?_
  show CW _ _ _ _ _ _ (F)
  repeat (first | refine CW.seq ?_ | refine PW.then_ ?_ | refine CW.block ?_ | refine CW.skip ?_ | refine CW.ret ?_ | refine PW.then_ret ?_ | refine PW.block_ret ?_ | refine Cut.ret ?_ | refine Rnd.ret ?_ | refine PW.block_normal ?_ | refine CW.exit ?_ | refine PW.then_exit ?_ | refine PW.block_hit ?_ | refine PW.block_miss rfl ?_ | refine Cut.exit ?_ | refine Rnd.exit ?_)
  refine CW.region ?_
  refine LE (os_box rfl (by rfl)) ?_
  rintro _ _ ⟨b1, rfl, rfl⟩
  refine L1 (ps_assign rfl).os ?_
  refine LW.nil ?_
  repeat (first | refine CW.seq ?_ | refine PW.then_ ?_ | refine CW.block ?_ | refine CW.skip ?_ | refine CW.ret ?_ | refine PW.then_ret ?_ | refine PW.block_ret ?_ | refine Cut.ret ?_ | refine Rnd.ret ?_ | refine PW.block_normal ?_ | refine CW.exit ?_ | refine PW.then_exit ?_ | refine PW.block_hit ?_ | refine PW.block_miss rfl ?_ | refine Cut.exit ?_ | refine Rnd.exit ?_)
  refine CW.region ?_
  refine LE (os_alloc T.ti45) ?_
  rintro _ _ ⟨b3, rfl, rfl⟩
  refine LW.nil ?_
  refine J.ent (WrAt.fresh b3 _) ?_
  repeat (first | refine CW.seq ?_ | refine PW.then_ ?_ | refine CW.block ?_ | refine CW.skip ?_ | refine CW.ret ?_ | refine PW.then_ret ?_ | refine PW.block_ret ?_ | refine Cut.ret ?_ | refine Rnd.ret ?_ | refine PW.block_normal ?_ | refine CW.exit ?_ | refine PW.then_exit ?_ | refine PW.block_hit ?_ | refine PW.block_miss rfl ?_ | refine Cut.exit ?_ | refine Rnd.exit ?_)
  refine CW.cutB (α := Unit) [4, 5, 6, 7, 8, 9, 10, 11, 12, 13, 14, 15, 16, 17, 18, 19, 20, 21, 22, 23, 24, 25, 26, 27, 28, 29, 30, 31, 32, 33, 34, 35] (fun _ => True) (fun _ => []) (fun _ => WrAt b3 (acctB a) :: F) ?_ ?_
  · refine CW.drawH [cb b1 59 (acctCells a)] [] T.mixed ?_
    refine H_take (i := 0) (some 4) rfl rfl (by kernel_rfl) (by kernel_rfl) (by kernel_rfl) rfl (ps_fa T.fa59_0 (by decide) rfl).pl (by kernel_rfl) (pkc (by repeat (first | exact pk_head _ _ | apply pk_tail)) (pkn _)) ?_
    refine H_take (i := 1) (some 5) rfl rfl (by kernel_rfl) (by kernel_rfl) (by kernel_rfl) rfl (pl_loadN (vs := nc a.id) (by repeat (first | exact pk_head _ _ | apply pk_tail)) T.ag26 T.sz26 rfl (by rfl) (by rfl)) (by kernel_rfl) (pkc (by repeat (first | exact pk_head _ _ | apply pk_tail)) (pkn _)) ?_
    refine H_take (i := 4) (some 8) rfl rfl (by kernel_rfl) (by kernel_rfl) (by kernel_rfl) rfl (ps_fa T.fa59_1 (by decide) rfl).pl (by kernel_rfl) (pkc (by repeat (first | exact pk_head _ _ | apply pk_tail)) (pkn _)) ?_
    refine H_take (i := 5) (some 9) rfl rfl (by kernel_rfl) (by kernel_rfl) (by kernel_rfl) rfl (pl_load1 (by repeat (first | exact pk_head _ _ | apply pk_tail)) T.ag3 rfl (by rfl)) (by kernel_rfl) (pkc (by repeat (first | exact pk_head _ _ | apply pk_tail)) (pkn _)) ?_
    refine H_take (i := 8) (some 12) rfl rfl (by kernel_rfl) (by kernel_rfl) (by kernel_rfl) rfl (ps_fa T.fa59_2 (by decide) rfl).pl (by kernel_rfl) (pkc (by repeat (first | exact pk_head _ _ | apply pk_tail)) (pkn _)) ?_
    refine H_take (i := 9) (some 13) rfl rfl (by kernel_rfl) (by kernel_rfl) (by kernel_rfl) rfl (pl_load1 (by repeat (first | exact pk_head _ _ | apply pk_tail)) T.ag3 rfl (by rfl)) (by kernel_rfl) (pkc (by repeat (first | exact pk_head _ _ | apply pk_tail)) (pkn _)) ?_
    refine H_take (i := 12) (some 16) rfl rfl (by kernel_rfl) (by kernel_rfl) (by kernel_rfl) rfl (ps_fa T.fa59_3 (by decide) rfl).pl (by kernel_rfl) (pkc (by repeat (first | exact pk_head _ _ | apply pk_tail)) (pkn _)) ?_
    refine H_take (i := 13) (some 17) rfl rfl (by kernel_rfl) (by kernel_rfl) (by kernel_rfl) rfl (pl_loadN (vs := nc a.dp) (by repeat (first | exact pk_head _ _ | apply pk_tail)) T.ag26 T.sz26 rfl (by rfl) (by rfl)) (by kernel_rfl) (pkc (by repeat (first | exact pk_head _ _ | apply pk_tail)) (pkn _)) ?_
    refine H_take (i := 14) (some 18) rfl rfl (by kernel_rfl) (by kernel_rfl) (by kernel_rfl) rfl (ps_fa T.fa59_4 (by decide) rfl).pl (by kernel_rfl) (pkc (by repeat (first | exact pk_head _ _ | apply pk_tail)) (pkn _)) ?_
    refine H_take (i := 15) (some 19) rfl rfl (by kernel_rfl) (by kernel_rfl) (by kernel_rfl) rfl (pl_loadN (vs := nc a.dpo) (by repeat (first | exact pk_head _ _ | apply pk_tail)) T.ag26 T.sz26 rfl (by rfl) (by rfl)) (by kernel_rfl) (pkc (by repeat (first | exact pk_head _ _ | apply pk_tail)) (pkn _)) ?_
    refine H_take (i := 16) (some 20) rfl rfl (by kernel_rfl) (by kernel_rfl) (by kernel_rfl) rfl (ps_fa T.fa59_5 (by decide) rfl).pl (by kernel_rfl) (pkc (by repeat (first | exact pk_head _ _ | apply pk_tail)) (pkn _)) ?_
    refine H_take (i := 17) (some 21) rfl rfl (by kernel_rfl) (by kernel_rfl) (by kernel_rfl) rfl (pl_loadN (vs := nc a.cp) (by repeat (first | exact pk_head _ _ | apply pk_tail)) T.ag26 T.sz26 rfl (by rfl) (by rfl)) (by kernel_rfl) (pkc (by repeat (first | exact pk_head _ _ | apply pk_tail)) (pkn _)) ?_
    refine H_take (i := 18) (some 22) rfl rfl (by kernel_rfl) (by kernel_rfl) (by kernel_rfl) rfl (ps_fa T.fa59_6 (by decide) rfl).pl (by kernel_rfl) (pkc (by repeat (first | exact pk_head _ _ | apply pk_tail)) (pkn _)) ?_
    refine H_take (i := 19) (some 23) rfl rfl (by kernel_rfl) (by kernel_rfl) (by kernel_rfl) rfl (pl_loadN (vs := nc a.cpo) (by repeat (first | exact pk_head _ _ | apply pk_tail)) T.ag26 T.sz26 rfl (by rfl) (by rfl)) (by kernel_rfl) (pkc (by repeat (first | exact pk_head _ _ | apply pk_tail)) (pkn _)) ?_
    refine H_take (i := 22) (some 26) rfl rfl (by kernel_rfl) (by kernel_rfl) (by kernel_rfl) rfl (ps_fa T.fa59_7 (by decide) rfl).pl (by kernel_rfl) (pkc (by repeat (first | exact pk_head _ _ | apply pk_tail)) (pkn _)) ?_
    refine H_take (i := 23) (some 27) rfl rfl (by kernel_rfl) (by kernel_rfl) (by kernel_rfl) rfl (pl_load1 (by repeat (first | exact pk_head _ _ | apply pk_tail)) T.ag3 rfl (by rfl)) (by kernel_rfl) (pkc (by repeat (first | exact pk_head _ _ | apply pk_tail)) (pkn _)) ?_
    refine H_take (i := 24) (some 28) rfl rfl (by kernel_rfl) (by kernel_rfl) (by kernel_rfl) rfl (ps_fa T.fa59_8 (by decide) rfl).pl (by kernel_rfl) (pkc (by repeat (first | exact pk_head _ _ | apply pk_tail)) (pkn _)) ?_
    refine H_take (i := 25) (some 29) rfl rfl (by kernel_rfl) (by kernel_rfl) (by kernel_rfl) rfl (pl_load1 (by repeat (first | exact pk_head _ _ | apply pk_tail)) T.ag3 rfl (by rfl)) (by kernel_rfl) (pkc (by repeat (first | exact pk_head _ _ | apply pk_tail)) (pkn _)) ?_
    refine H_take (i := 28) (some 32) rfl rfl (by kernel_rfl) (by kernel_rfl) (by kernel_rfl) rfl (ps_fa T.fa59_9 (by decide) rfl).pl (by kernel_rfl) (pkc (by repeat (first | exact pk_head _ _ | apply pk_tail)) (pkn _)) ?_
    refine H_take (i := 29) (some 33) rfl rfl (by kernel_rfl) (by kernel_rfl) (by kernel_rfl) rfl (pl_loadN (vs := bv a.root) (by repeat (first | exact pk_head _ _ | apply pk_tail)) T.ag43 T.sz43 rfl (by exact hroot) (by exact hrl)) (by kernel_rfl) (pkc (by repeat (first | exact pk_head _ _ | apply pk_tail)) (pkn _)) ?_
    refine H_chainN [⟨2, 6, 3, 7, fun b => .slice (some ⟨b, 0, none⟩) 1 1, fun b => cb b 26 ([a.id].map nc).flatten, WrAt b3 ([] ++ numB a.id), ptr b3⟩, ⟨6, 10, 7, 11, fun b => .slice (some ⟨b, 0, none⟩) 1 1, fun b => cb b 3 [.int .i64 a.led], WrAt b3 ([] ++ numB a.id ++ be 4 a.led), ptr b3⟩, ⟨10, 14, 11, 15, fun b => .slice (some ⟨b, 0, none⟩) 1 1, fun b => cb b 3 [.int .i64 a.fl], WrAt b3 ([] ++ numB a.id ++ be 4 a.led ++ be 2 a.fl), ptr b3⟩, ⟨20, 24, 21, 25, fun b => .slice (some ⟨b, 0, none⟩) 4 4, fun b => cb b 26 ([a.dp, a.dpo, a.cp, a.cpo].map nc).flatten, WrAt b3 ([] ++ numB a.id ++ be 4 a.led ++ be 2 a.fl ++ num4 a), ptr b3⟩, ⟨26, 30, 27, 31, fun b => .slice (some ⟨b, 0, none⟩) 2 2, fun b => cb b 3 [.int .i64 a.tim, .int .i64 a.rows], WrAt b3 ([] ++ numB a.id ++ be 4 a.led ++ be 2 a.fl ++ num4 a ++ (be 6 a.tim ++ be 6 a.rows)), ptr b3⟩, ⟨30, 34, 31, 35, fun b => .slice (some ⟨b, 0, none⟩) 1 1, fun b => cb b 43 [bv a.root].flatten, WrAt b3 ([] ++ numB a.id ++ be 4 a.led ++ be 2 a.fl ++ num4 a ++ (be 6 a.tim ++ be 6 a.rows) ++ a.root), ptr b3⟩] [2, 6, 10, 20, 26, 30] [3, 7, 11, 21, 27, 31] [6, 10, 14, 24, 30, 34, 7, 11, 15, 25, 31, 35] 6 [true, true, false, false, true, true, false, false, true, true, false, false, true, true, true, true, true, true, true, true, false, false, true, true, true, true, false, false, true, true, false, false] (WrAt b3 []) _ _ rfl rfl rfl rfl (by kernel_rfl) (by decide +kernel) (by decide) (⟨⟨_, rfl, rfl, rfl, fun f hf As => os_bslR ([a.id].map nc) T.un74 T.ti26 (by rfl) ((parts_ag hf rfl).trans rfl) (by simp [nc_len]) (by decide) (by decide)⟩, ⟨_, rfl, rfl, rfl, fun f b hf hs hp As F hperm => os_call2 (WN1 b3 [] a.id b ok.id (by simp)) Try.func19 (by decide +kernel) rfl ((args_ag0 hf hs rfl).trans rfl) hperm (List.Perm.refl _)⟩, ⟨⟨_, rfl, rfl, rfl, fun f hf As => os_bslv (vs := [.int .i64 a.led]) T.un41 T.ti3 (by rfl) (by rfl) ((parts_ag hf rfl).trans rfl) (by simp [Value.oneCell']) (by decide) (by decide)⟩, ⟨_, rfl, rfl, rfl, fun f b hf hs hp As F hperm => os_call2 (WI1 b3 ([] ++ numB a.id) 4 a.led b (by decide) (by simp)) Try.func17 (by decide +kernel) rfl ((args_ag hf hs (hp _ rfl) rfl).trans rfl) hperm (List.Perm.refl _)⟩, ⟨⟨_, rfl, rfl, rfl, fun f hf As => os_bslv (vs := [.int .i64 a.fl]) T.un41 T.ti3 (by rfl) (by rfl) ((parts_ag hf rfl).trans rfl) (by simp [Value.oneCell']) (by decide) (by decide)⟩, ⟨_, rfl, rfl, rfl, fun f b hf hs hp As F hperm => os_call2 (WI1 b3 ([] ++ numB a.id ++ be 4 a.led) 2 a.fl b (by decide) (by simp)) Try.func17 (by decide +kernel) rfl ((args_ag hf hs (hp _ rfl) rfl).trans rfl) hperm (List.Perm.refl _)⟩, ⟨⟨_, rfl, rfl, rfl, fun f hf As => os_bslR ([a.dp, a.dpo, a.cp, a.cpo].map nc) T.un74 T.ti26 (by rfl) ((parts_ag hf rfl).trans rfl) (by simp [nc_len]) (by decide) (by decide)⟩, ⟨_, rfl, rfl, rfl, fun f b hf hs hp As F hperm => os_call2 (WN4 b3 ([] ++ numB a.id ++ be 4 a.led ++ be 2 a.fl) a.dp a.dpo a.cp a.cpo b ⟨ok.dp, ok.dpo, ok.cp, ok.cpo⟩ (by simp)) Try.func19 (by decide +kernel) rfl ((args_ag hf hs (hp _ rfl) rfl).trans rfl) hperm (List.Perm.refl _)⟩, ⟨⟨_, rfl, rfl, rfl, fun f hf As => os_bslv (vs := [.int .i64 a.tim, .int .i64 a.rows]) T.un41 T.ti3 (by rfl) (by rfl) ((parts_ag hf rfl).trans rfl) (by simp [Value.oneCell']) (by decide) (by decide)⟩, ⟨_, rfl, rfl, rfl, fun f b hf hs hp As F hperm => os_call2 (WI2 b3 ([] ++ numB a.id ++ be 4 a.led ++ be 2 a.fl ++ num4 a) 6 a.tim a.rows b (by decide) (by simp [num4])) Try.func17 (by decide +kernel) rfl ((args_ag hf hs (hp _ rfl) rfl).trans rfl) hperm (List.Perm.refl _)⟩, ⟨⟨_, rfl, rfl, rfl, fun f hf As => os_bslR [bv a.root] T.un73 T.ti43 (by rfl) ((parts_ag hf rfl).trans rfl) (by simp [ok.root]) (by decide) (by decide)⟩, ⟨_, rfl, rfl, rfl, fun f b hf hs hp As F hperm => os_call2 (WH1 b3 ([] ++ numB a.id ++ be 4 a.led ++ be 2 a.fl ++ num4 a ++ (be 6 a.tim ++ be 6 a.rows)) a.root b ok.root (by simp [num4])) Try.func18 (by decide +kernel) rfl ((args_ag hf hs (hp _ rfl) rfl).trans rfl) hperm (List.Perm.refl _)⟩, trivial⟩⟩⟩⟩⟩⟩) (pkc (by repeat (first | exact pk_head _ _ | apply pk_tail)) (pkc (by repeat (first | exact pk_head _ _ | apply pk_tail)) (pkn _))) (by decide) ?_
    intro g Bs hag hcd hBs
    obtain ⟨Ds, hBs⟩ := hBs
    exact Meet.cut () trivial (hag.via rfl (by repeat (first | (with_reducible exact Ag.refl _ _) | (with_reducible apply Ag.pu0) | ((with_reducible refine Ag.pu _ ?_ ?_); · exact rfl) | ((with_reducible refine Ag.mix ?_ ?_); · exact rfl) | ((with_reducible refine Ag.pus ?_ ?_); · exact rfl)))) (by exact trivial) ((Ent.perm hBs).trans (Ent.cons (pk_head _ _) (Ent.skip (Ent.left F Ds))))
  intro _ g3 _
  repeat (first | refine CW.seq ?_ | refine PW.then_ ?_ | refine CW.block ?_ | refine CW.skip ?_ | refine CW.ret ?_ | refine PW.then_ret ?_ | refine PW.block_ret ?_ | refine Cut.ret ?_ | refine Rnd.ret ?_ | refine PW.block_normal ?_ | refine CW.exit ?_ | refine PW.then_exit ?_ | refine PW.block_hit ?_ | refine PW.block_miss rfl ?_ | refine Cut.exit ?_ | refine Rnd.exit ?_)
  refine CW.region ?_
  refine LE (os_call (WBytes_spec b3 (acctB a) (by omega)) Try.func21 (by decide +kernel) rfl rfl (by repeat (first | exact pk_head _ _ | apply pk_tail))) ?_
  rintro _ _ ⟨_, ⟨u, d, rfl, rfl⟩, rfl⟩
  refine L1 (ps_assign rfl).os ?_
  refine LW.nil ?_
  rw [hl]
  repeat (first | refine CW.seq ?_ | refine PW.then_ ?_ | refine CW.block ?_ | refine CW.skip ?_ | refine CW.ret ?_ | refine PW.then_ret ?_ | refine PW.block_ret ?_ | refine Cut.ret ?_ | refine Rnd.ret ?_ | refine PW.block_normal ?_ | refine CW.exit ?_ | refine PW.then_exit ?_ | refine PW.block_hit ?_ | refine PW.block_miss rfl ?_ | refine Cut.exit ?_ | refine Rnd.exit ?_)
  exact Fin.ret1 (v := .slice u 130 d) rfl [slOwn 5 1 (.slice u 130 d) 130 (bv (acctB a))] rfl ⟨u, d, rfl, rfl⟩ (by repeat (first | exact Ent.refl _ | (apply Ent.cons; · repeat (first | exact pk_head _ _ | apply pk_tail)) | apply Ent.skip))

/-! ## a row -/
structure RowS where
  tr : Nat
  tim : Int
  ev : Int
  amo : Nat
  dp : Nat
  dpo : Nat
  cp : Nat
  cpo : Nat
structure RowOk (a : RowS) : Prop where
  tr : a.tr < M128
  amo : a.amo < M128
  dp : a.dp < M128
  dpo : a.dpo < M128
  cp : a.cp < M128
  cpo : a.cpo < M128
def rowCells (a : RowS) : List Value := nc a.tr ++ [.int .i64 a.tim, .int .i64 a.ev] ++ nc a.amo ++ nc a.dp ++ nc a.dpo ++ nc a.cp ++ nc a.cpo
theorem rowCells_one (a : RowS) : ∀ u ∈ rowCells a, u.oneCell' = true := fun u hu => by
  simp only [rowCells, nc, List.mem_append, List.mem_cons, List.not_mem_nil, or_false] at hu
  rcases hu with ((((((rfl | rfl) | rfl | rfl) | rfl | rfl) | rfl | rfl) | rfl | rfl) | rfl | rfl) | rfl | rfl <;> rfl
def rnum5 (a : RowS) : List UInt8 := numB a.amo ++ numB a.dp ++ numB a.dpo ++ numB a.cp ++ numB a.cpo
def rowB (a : RowS) : List UInt8 := numB a.tr ++ be 6 a.tim ++ be 2 (a.ev + 1) ++ rnum5 a
theorem rowB_len (a : RowS) : (rowB a).length = 104 := by simp [rowB, rnum5]
theorem rowB_app (a : RowS) (rest : List UInt8) : rowB a ++ rest = numB a.tr ++ (be 6 a.tim ++ (be 2 (a.ev + 1) ++ (numB a.amo ++ (numB a.dp ++ (numB a.dpo ++ (numB a.cp ++ (numB a.cpo ++ rest))))))) := by
  simp only [rowB, rnum5, List.append_assoc]
theorem Row_spec (a : RowS) (ok : RowOk a) (he : -9223372036854775808 ≤ a.ev + 1 ∧ a.ev + 1 < 9223372036854775808) :
    FSpec Try.prog 29 [.agg (rowCells a).toArray] [] (fun r As => ∃ u d, r = .slice u 104 d ∧ As = [slOwn 5 1 (.slice u 104 d) 104 (bv (rowB a))]) := by
  obtain ⟨he1, he2⟩ := he
  have hl := rowB_len a
  refine FSpec.intro Try.func29 rfl 30 Try.ntmps29 (Nat.le_of_ble_eq_true rfl) fun w0 F => ?_
  show CW _ _ _ _ _ _ (F)
  repeat (first | refine CW.seq ?_ | refine PW.then_ ?_ | refine CW.block ?_ | refine CW.skip ?_ | refine CW.ret ?_ | refine PW.then_ret ?_ | refine PW.block_ret ?_ | refine Cut.ret ?_ | refine Rnd.ret ?_ | refine PW.block_normal ?_ | refine CW.exit ?_ | refine PW.then_exit ?_ | refine PW.block_hit ?_ | refine PW.block_miss rfl ?_ | refine Cut.exit ?_ | refine Rnd.exit ?_)
  refine CW.region ?_
  refine LE (os_box rfl (by rfl)) ?_
  rintro _ _ ⟨b1, rfl, rfl⟩
  refine L1 (ps_assign rfl).os ?_
  refine LW.nil ?_
  repeat (first | refine CW.seq ?_ | refine PW.then_ ?_ | refine CW.block ?_ | refine CW.skip ?_ | refine CW.ret ?_ | refine PW.then_ret ?_ | refine PW.block_ret ?_ | refine Cut.ret ?_ | refine Rnd.ret ?_ | refine PW.block_normal ?_ | refine CW.exit ?_ | refine PW.then_exit ?_ | refine PW.block_hit ?_ | refine PW.block_miss rfl ?_ | refine Cut.exit ?_ | refine Rnd.exit ?_)
  refine CW.region ?_
  refine LE (os_alloc T.ti45) ?_
  rintro _ _ ⟨b3, rfl, rfl⟩
  refine LW.nil ?_
  refine J.ent (WrAt.fresh b3 _) ?_
  repeat (first | refine CW.seq ?_ | refine PW.then_ ?_ | refine CW.block ?_ | refine CW.skip ?_ | refine CW.ret ?_ | refine PW.then_ret ?_ | refine PW.block_ret ?_ | refine Cut.ret ?_ | refine Rnd.ret ?_ | refine PW.block_normal ?_ | refine CW.exit ?_ | refine PW.then_exit ?_ | refine PW.block_hit ?_ | refine PW.block_miss rfl ?_ | refine Cut.exit ?_ | refine Rnd.exit ?_)
  refine CW.cutB (α := Unit) [4, 5, 6, 7, 8, 9, 10, 11, 12, 13, 14, 15, 16, 17, 18, 19, 20, 21, 22, 23, 24, 25, 26, 27, 28] (fun _ => True) (fun _ => []) (fun _ => WrAt b3 (rowB a) :: F) ?_ ?_
  · refine CW.drawH [cb b1 61 (rowCells a)] [] T.mixed ?_
    refine H_take (i := 0) (some 4) rfl rfl (by kernel_rfl) (by kernel_rfl) (by kernel_rfl) rfl (ps_fa T.fa61_0 (by decide) rfl).pl (by kernel_rfl) (pkc (by repeat (first | exact pk_head _ _ | apply pk_tail)) (pkn _)) ?_
    refine H_take (i := 1) (some 5) rfl rfl (by kernel_rfl) (by kernel_rfl) (by kernel_rfl) rfl (pl_loadN (vs := nc a.tr) (by repeat (first | exact pk_head _ _ | apply pk_tail)) T.ag26 T.sz26 rfl (by rfl) (by rfl)) (by kernel_rfl) (pkc (by repeat (first | exact pk_head _ _ | apply pk_tail)) (pkn _)) ?_
    refine H_take (i := 4) (some 8) rfl rfl (by kernel_rfl) (by kernel_rfl) (by kernel_rfl) rfl (ps_fa T.fa61_1 (by decide) rfl).pl (by kernel_rfl) (pkc (by repeat (first | exact pk_head _ _ | apply pk_tail)) (pkn _)) ?_
    refine H_take (i := 5) (some 9) rfl rfl (by kernel_rfl) (by kernel_rfl) (by kernel_rfl) rfl (pl_load1 (by repeat (first | exact pk_head _ _ | apply pk_tail)) T.ag3 rfl (by rfl)) (by kernel_rfl) (pkc (by repeat (first | exact pk_head _ _ | apply pk_tail)) (pkn _)) ?_
    refine H_take (i := 8) (some 12) rfl rfl (by kernel_rfl) (by kernel_rfl) (by kernel_rfl) rfl (ps_fa T.fa61_2 (by decide) rfl).pl (by kernel_rfl) (pkc (by repeat (first | exact pk_head _ _ | apply pk_tail)) (pkn _)) ?_
    refine H_take (i := 9) (some 13) rfl rfl (by kernel_rfl) (by kernel_rfl) (by kernel_rfl) rfl (pl_load1 (by repeat (first | exact pk_head _ _ | apply pk_tail)) T.ag3 rfl (by rfl)) (by kernel_rfl) (pkc (by repeat (first | exact pk_head _ _ | apply pk_tail)) (pkn _)) ?_
    refine H_take (i := 10) (some 14) rfl rfl (by kernel_rfl) (by kernel_rfl) (by kernel_rfl) rfl (ps_add_i64 rfl rfl he1 he2).pl (by kernel_rfl) (pkc (by repeat (first | exact pk_head _ _ | apply pk_tail)) (pkn _)) ?_
    refine H_take (i := 13) (some 17) rfl rfl (by kernel_rfl) (by kernel_rfl) (by kernel_rfl) rfl (ps_fa T.fa61_3 (by decide) rfl).pl (by kernel_rfl) (pkc (by repeat (first | exact pk_head _ _ | apply pk_tail)) (pkn _)) ?_
    refine H_take (i := 14) (some 18) rfl rfl (by kernel_rfl) (by kernel_rfl) (by kernel_rfl) rfl (pl_loadN (vs := nc a.amo) (by repeat (first | exact pk_head _ _ | apply pk_tail)) T.ag26 T.sz26 rfl (by rfl) (by rfl)) (by kernel_rfl) (pkc (by repeat (first | exact pk_head _ _ | apply pk_tail)) (pkn _)) ?_
    refine H_take (i := 15) (some 19) rfl rfl (by kernel_rfl) (by kernel_rfl) (by kernel_rfl) rfl (ps_fa T.fa61_4 (by decide) rfl).pl (by kernel_rfl) (pkc (by repeat (first | exact pk_head _ _ | apply pk_tail)) (pkn _)) ?_
    refine H_take (i := 16) (some 20) rfl rfl (by kernel_rfl) (by kernel_rfl) (by kernel_rfl) rfl (pl_loadN (vs := nc a.dp) (by repeat (first | exact pk_head _ _ | apply pk_tail)) T.ag26 T.sz26 rfl (by rfl) (by rfl)) (by kernel_rfl) (pkc (by repeat (first | exact pk_head _ _ | apply pk_tail)) (pkn _)) ?_
    refine H_take (i := 17) (some 21) rfl rfl (by kernel_rfl) (by kernel_rfl) (by kernel_rfl) rfl (ps_fa T.fa61_5 (by decide) rfl).pl (by kernel_rfl) (pkc (by repeat (first | exact pk_head _ _ | apply pk_tail)) (pkn _)) ?_
    refine H_take (i := 18) (some 22) rfl rfl (by kernel_rfl) (by kernel_rfl) (by kernel_rfl) rfl (pl_loadN (vs := nc a.dpo) (by repeat (first | exact pk_head _ _ | apply pk_tail)) T.ag26 T.sz26 rfl (by rfl) (by rfl)) (by kernel_rfl) (pkc (by repeat (first | exact pk_head _ _ | apply pk_tail)) (pkn _)) ?_
    refine H_take (i := 19) (some 23) rfl rfl (by kernel_rfl) (by kernel_rfl) (by kernel_rfl) rfl (ps_fa T.fa61_6 (by decide) rfl).pl (by kernel_rfl) (pkc (by repeat (first | exact pk_head _ _ | apply pk_tail)) (pkn _)) ?_
    refine H_take (i := 20) (some 24) rfl rfl (by kernel_rfl) (by kernel_rfl) (by kernel_rfl) rfl (pl_loadN (vs := nc a.cp) (by repeat (first | exact pk_head _ _ | apply pk_tail)) T.ag26 T.sz26 rfl (by rfl) (by rfl)) (by kernel_rfl) (pkc (by repeat (first | exact pk_head _ _ | apply pk_tail)) (pkn _)) ?_
    refine H_take (i := 21) (some 25) rfl rfl (by kernel_rfl) (by kernel_rfl) (by kernel_rfl) rfl (ps_fa T.fa61_7 (by decide) rfl).pl (by kernel_rfl) (pkc (by repeat (first | exact pk_head _ _ | apply pk_tail)) (pkn _)) ?_
    refine H_take (i := 22) (some 26) rfl rfl (by kernel_rfl) (by kernel_rfl) (by kernel_rfl) rfl (pl_loadN (vs := nc a.cpo) (by repeat (first | exact pk_head _ _ | apply pk_tail)) T.ag26 T.sz26 rfl (by rfl) (by rfl)) (by kernel_rfl) (pkc (by repeat (first | exact pk_head _ _ | apply pk_tail)) (pkn _)) ?_
    refine H_chainN [⟨2, 6, 3, 7, fun b => .slice (some ⟨b, 0, none⟩) 1 1, fun b => cb b 26 ([a.tr].map nc).flatten, WrAt b3 ([] ++ numB a.tr), ptr b3⟩, ⟨6, 10, 7, 11, fun b => .slice (some ⟨b, 0, none⟩) 1 1, fun b => cb b 3 [.int .i64 a.tim], WrAt b3 ([] ++ numB a.tr ++ be 6 a.tim), ptr b3⟩, ⟨11, 15, 12, 16, fun b => .slice (some ⟨b, 0, none⟩) 1 1, fun b => cb b 3 [.int .i64 (a.ev + 1)], WrAt b3 ([] ++ numB a.tr ++ be 6 a.tim ++ be 2 (a.ev + 1)), ptr b3⟩, ⟨23, 27, 24, 28, fun b => .slice (some ⟨b, 0, none⟩) 5 5, fun b => cb b 26 ([a.amo, a.dp, a.dpo, a.cp, a.cpo].map nc).flatten, WrAt b3 ([] ++ numB a.tr ++ be 6 a.tim ++ be 2 (a.ev + 1) ++ rnum5 a), ptr b3⟩] [2, 6, 11, 23] [3, 7, 12, 24] [6, 10, 15, 27, 7, 11, 16, 28] 4 [true, true, false, false, true, true, false, false, true, true, true, false, false, true, true, true, true, true, true, true, true, true, true, false, false] (WrAt b3 []) _ _ rfl rfl rfl rfl (by kernel_rfl) (by decide +kernel) (by decide) (⟨⟨_, rfl, rfl, rfl, fun f hf As => os_bslR ([a.tr].map nc) T.un74 T.ti26 (by rfl) ((parts_ag hf rfl).trans rfl) (by simp [nc_len]) (by decide) (by decide)⟩, ⟨_, rfl, rfl, rfl, fun f b hf hs hp As F hperm => os_call2 (WN1 b3 [] a.tr b ok.tr (by simp)) Try.func19 (by decide +kernel) rfl ((args_ag0 hf hs rfl).trans rfl) hperm (List.Perm.refl _)⟩, ⟨⟨_, rfl, rfl, rfl, fun f hf As => os_bslv (vs := [.int .i64 a.tim]) T.un41 T.ti3 (by rfl) (by rfl) ((parts_ag hf rfl).trans rfl) (by simp [Value.oneCell']) (by decide) (by decide)⟩, ⟨_, rfl, rfl, rfl, fun f b hf hs hp As F hperm => os_call2 (WI1 b3 ([] ++ numB a.tr) 6 a.tim b (by decide) (by simp)) Try.func17 (by decide +kernel) rfl ((args_ag hf hs (hp _ rfl) rfl).trans rfl) hperm (List.Perm.refl _)⟩, ⟨⟨_, rfl, rfl, rfl, fun f hf As => os_bslv (vs := [.int .i64 (a.ev + 1)]) T.un41 T.ti3 (by rfl) (by rfl) ((parts_ag hf rfl).trans rfl) (by simp [Value.oneCell']) (by decide) (by decide)⟩, ⟨_, rfl, rfl, rfl, fun f b hf hs hp As F hperm => os_call2 (WI1 b3 ([] ++ numB a.tr ++ be 6 a.tim) 2 (a.ev + 1) b (by decide) (by simp)) Try.func17 (by decide +kernel) rfl ((args_ag hf hs (hp _ rfl) rfl).trans rfl) hperm (List.Perm.refl _)⟩, ⟨⟨_, rfl, rfl, rfl, fun f hf As => os_bslR ([a.amo, a.dp, a.dpo, a.cp, a.cpo].map nc) T.un74 T.ti26 (by rfl) ((parts_ag hf rfl).trans rfl) (by simp [nc_len]) (by decide) (by decide)⟩, ⟨_, rfl, rfl, rfl, fun f b hf hs hp As F hperm => os_call2 (WN5 b3 ([] ++ numB a.tr ++ be 6 a.tim ++ be 2 (a.ev + 1)) a.amo a.dp a.dpo a.cp a.cpo b ⟨ok.amo, ok.dp, ok.dpo, ok.cp, ok.cpo⟩ (by simp)) Try.func19 (by decide +kernel) rfl ((args_ag hf hs (hp _ rfl) rfl).trans rfl) hperm (List.Perm.refl _)⟩, trivial⟩⟩⟩⟩) (pkc (by repeat (first | exact pk_head _ _ | apply pk_tail)) (pkc (by repeat (first | exact pk_head _ _ | apply pk_tail)) (pkn _))) (by decide) ?_
    intro g Bs hag hcd hBs
    obtain ⟨Ds, hBs⟩ := hBs
    exact Meet.cut () trivial (hag.via rfl (by repeat (first | (with_reducible exact Ag.refl _ _) | (with_reducible apply Ag.pu0) | ((with_reducible refine Ag.pu _ ?_ ?_); · exact rfl) | ((with_reducible refine Ag.mix ?_ ?_); · exact rfl) | ((with_reducible refine Ag.pus ?_ ?_); · exact rfl)))) (by exact trivial) ((Ent.perm hBs).trans (Ent.cons (pk_head _ _) (Ent.skip (Ent.left F Ds))))
  intro _ g3 _
  repeat (first | refine CW.seq ?_ | refine PW.then_ ?_ | refine CW.block ?_ | refine CW.skip ?_ | refine CW.ret ?_ | refine PW.then_ret ?_ | refine PW.block_ret ?_ | refine Cut.ret ?_ | refine Rnd.ret ?_ | refine PW.block_normal ?_ | refine CW.exit ?_ | refine PW.then_exit ?_ | refine PW.block_hit ?_ | refine PW.block_miss rfl ?_ | refine Cut.exit ?_ | refine Rnd.exit ?_)
  refine CW.region ?_
  refine LE (os_call (WBytes_spec b3 (rowB a) (by omega)) Try.func21 (by decide +kernel) rfl rfl (by repeat (first | exact pk_head _ _ | apply pk_tail))) ?_
  rintro _ _ ⟨_, ⟨u, d, rfl, rfl⟩, rfl⟩
  refine L1 (ps_assign rfl).os ?_
  refine LW.nil ?_
  rw [hl]
  repeat (first | refine CW.seq ?_ | refine PW.then_ ?_ | refine CW.block ?_ | refine CW.skip ?_ | refine CW.ret ?_ | refine PW.then_ret ?_ | refine PW.block_ret ?_ | refine Cut.ret ?_ | refine Rnd.ret ?_ | refine PW.block_normal ?_ | refine CW.exit ?_ | refine PW.then_exit ?_ | refine PW.block_hit ?_ | refine PW.block_miss rfl ?_ | refine Cut.exit ?_ | refine Rnd.exit ?_)
  exact Fin.ret1 (v := .slice u 104 d) rfl [slOwn 5 1 (.slice u 104 d) 104 (bv (rowB a))] rfl ⟨u, d, rfl, rfl⟩ (by repeat (first | exact Ent.refl _ | (apply Ent.cons; · repeat (first | exact pk_head _ _ | apply pk_tail)) | apply Ent.skip))

/-! ## read again -/
structure AcctRd (a : AcctS) : Prop extends AcctOk a where
  led : 0 ≤ a.led ∧ a.led < 256 ^ 4
  fl : 0 ≤ a.fl ∧ a.fl < 256 ^ 2
  tim : 0 ≤ a.tim ∧ a.tim < 256 ^ 6
  rows : 0 ≤ a.rows ∧ a.rows < 256 ^ 6
theorem ReadAccount_spec (A : Asn) (p : Nat) (a : AcctS) (ok : AcctRd a) (rest : List UInt8) (hm : rest.length ≤ 100000) :
    FSpec Try.prog 30 [ptr p] [RdAt A p (acctB a ++ rest) false, A] (fun r As => r = .agg (acctCells a).toArray ∧ As = [RdAt A p rest false, A]) := by
  rw [acctB_app]
  have hrl := ok.root
  obtain ⟨l1, l2⟩ := ok.led
  obtain ⟨f1, f2⟩ := ok.fl
  obtain ⟨t1, t2⟩ := ok.tim
  obtain ⟨r1, r2⟩ := ok.rows
  have hvl : (bv a.root).length = 32 := by rw [length_bv, hrl]
  have hsz : SZ Try.prog 59 (acctCells a).length := by rw [acctCells_len a ok.toAcctOk]; exact T.sz59
  obtain ⟨id, led, fl, dp, dpo, cp, cpo, tim, rows, root⟩ := a
  have k1 := ok.id
  have k2 := ok.dp
  have k3 := ok.dpo
  have k4 := ok.cp
  have k5 := ok.cpo
  dsimp only at *
  have hsp : spl (acctCells ⟨id, led, fl, dp, dpo, cp, cpo, tim, rows, List.replicate 32 0⟩) 14 (bv root) = acctCells ⟨id, led, fl, dp, dpo, cp, cpo, tim, rows, root⟩ := by
    unfold spl
    rw [hvl]
    show _ ++ bv root ++ [] = _
    rw [List.append_nil]
    rfl
  have hz : accCells ⟨id, led, fl⟩ = acctCells ⟨id, led, fl, 0, 0, 0, 0, 0, 0, List.replicate 32 0⟩ := by
    have hb : bv (List.replicate 32 0) = List.replicate 32 (.int .u8 0) := by simp [bv]
    unfold accCells acctCells
    dsimp only
    rw [hb]
    rfl
  refine FSpec.intro Try.func30 rfl 33 Try.ntmps30 (Nat.le_of_ble_eq_true rfl) fun w0 F => ?_
  show CW _ _ _ _ _ _ (_ :: _ :: F)
  repeat (first | refine CW.seq ?_ | refine PW.then_ ?_ | refine CW.block ?_ | refine CW.skip ?_ | refine CW.ret ?_ | refine PW.then_ret ?_ | refine PW.block_ret ?_ | refine Cut.ret ?_ | refine Rnd.ret ?_ | refine PW.block_normal ?_ | refine CW.exit ?_ | refine PW.then_exit ?_ | refine PW.block_hit ?_ | refine PW.block_miss rfl ?_ | refine Cut.exit ?_ | refine Rnd.exit ?_)
  refine CW.region ?_
  refine LE (os_alloc T.ti59) ?_
  rintro _ _ ⟨b2, rfl, rfl⟩
  refine LW.nil ?_
  repeat (first | refine CW.seq ?_ | refine PW.then_ ?_ | refine CW.block ?_ | refine CW.skip ?_ | refine CW.ret ?_ | refine PW.then_ret ?_ | refine PW.block_ret ?_ | refine Cut.ret ?_ | refine Rnd.ret ?_ | refine PW.block_normal ?_ | refine CW.exit ?_ | refine PW.then_exit ?_ | refine PW.block_hit ?_ | refine PW.block_miss rfl ?_ | refine Cut.exit ?_ | refine Rnd.exit ?_)
  refine CW.region ?_
  refine L1 (ps_move rfl).os ?_
  refine L1 (os_call2 (RNum_app A p id (be 4 led ++ (be 2 fl ++ (numB dp ++ (numB dpo ++ (numB cp ++ (numB cpo ++ (be 6 tim ++ (be 6 rows ++ (root ++ rest))))))))) k1 (by simp [hrl]; omega)) Try.func25 (by decide +kernel) rfl rfl (by repeat (first | exact pk_head _ _ | apply pk_tail)) (by repeat (first | exact pk_head _ _ | apply pk_tail))) ?_
  refine L1 (ps_move rfl).os ?_
  refine L1 (os_call2 (RInt_app A p 4 led (be 2 fl ++ (numB dp ++ (numB dpo ++ (numB cp ++ (numB cpo ++ (be 6 tim ++ (be 6 rows ++ (root ++ rest)))))))) (by decide) (by decide) l1 l2 (by simp [hrl]; omega)) Try.func23 (by decide +kernel) rfl rfl (by repeat (first | exact pk_head _ _ | apply pk_tail)) (by repeat (first | exact pk_head _ _ | apply pk_tail))) ?_
  refine L1 (ps_move rfl).os ?_
  refine L1 (os_call2 (RInt_app A p 2 fl (numB dp ++ (numB dpo ++ (numB cp ++ (numB cpo ++ (be 6 tim ++ (be 6 rows ++ (root ++ rest))))))) (by decide) (by decide) f1 f2 (by simp [hrl]; omega)) Try.func23 (by decide +kernel) rfl rfl (by repeat (first | exact pk_head _ _ | apply pk_tail)) (by repeat (first | exact pk_head _ _ | apply pk_tail))) ?_
  refine L1 (ps_to (u := .agg (accCells ⟨id, led, fl⟩).toArray) (by rfl) (ps_build (by rfl) (T.bd59_0_1_2 _ _ _ _))).os ?_
  refine LE (os_alloc T.ti59) ?_
  rintro _ _ ⟨b3, rfl, rfl⟩
  refine L1 (os_cbr (acctCells ⟨id, led, fl, 0, 0, 0, 0, 0, 0, List.replicate 32 0⟩) (os_storeAll (b := b3) (vs := accCells ⟨id, led, fl⟩) (by repeat (first | exact pk_head _ _ | apply pk_tail)) (by exact T.sz59) rfl rfl (accCells_one _) (by rfl)) hz) ?_
  refine LW.nil ?_
  repeat (first | refine CW.seq ?_ | refine PW.then_ ?_ | refine CW.block ?_ | refine CW.skip ?_ | refine CW.ret ?_ | refine PW.then_ret ?_ | refine PW.block_ret ?_ | refine Cut.ret ?_ | refine Rnd.ret ?_ | refine PW.block_normal ?_ | refine CW.exit ?_ | refine PW.then_exit ?_ | refine PW.block_hit ?_ | refine PW.block_miss rfl ?_ | refine Cut.exit ?_ | refine Rnd.exit ?_)
  refine CW.region ?_
  refine L1 (ps_move rfl).os ?_
  refine L1 (os_call2 (RNum_app A p dp (numB dpo ++ (numB cp ++ (numB cpo ++ (be 6 tim ++ (be 6 rows ++ (root ++ rest)))))) k2 (by simp [hrl]; omega)) Try.func25 (by decide +kernel) rfl rfl (by repeat (first | exact pk_head _ _ | apply pk_tail)) (by repeat (first | exact pk_head _ _ | apply pk_tail))) ?_
  refine L1 (ps_move rfl).os ?_
  refine L1 (os_call2 (RNum_app A p dpo (numB cp ++ (numB cpo ++ (be 6 tim ++ (be 6 rows ++ (root ++ rest))))) k3 (by simp [hrl]; omega)) Try.func25 (by decide +kernel) rfl rfl (by repeat (first | exact pk_head _ _ | apply pk_tail)) (by repeat (first | exact pk_head _ _ | apply pk_tail))) ?_
  refine L1 (ps_move rfl).os ?_
  refine L1 (os_call2 (RNum_app A p cp (numB cpo ++ (be 6 tim ++ (be 6 rows ++ (root ++ rest)))) k4 (by simp [hrl]; omega)) Try.func25 (by decide +kernel) rfl rfl (by repeat (first | exact pk_head _ _ | apply pk_tail)) (by repeat (first | exact pk_head _ _ | apply pk_tail))) ?_
  refine L1 (ps_move rfl).os ?_
  refine L1 (os_call2 (RNum_app A p cpo (be 6 tim ++ (be 6 rows ++ (root ++ rest))) k5 (by simp [hrl]; omega)) Try.func25 (by decide +kernel) rfl rfl (by repeat (first | exact pk_head _ _ | apply pk_tail)) (by repeat (first | exact pk_head _ _ | apply pk_tail))) ?_
  refine L1 (ps_fa T.fa59_3 (by decide) rfl).os ?_
  refine L1 (os_cbr (acctCells ⟨id, led, fl, dp, 0, 0, 0, 0, 0, List.replicate 32 0⟩) (os_storeN (b := b3) (vs := nc dp) (by repeat (first | exact pk_head _ _ | apply pk_tail)) (by exact T.sz26) rfl rfl (nc_one _) (by exact Nat.le_of_ble_eq_true rfl)) (by rfl)) ?_
  refine L1 (ps_fa T.fa59_4 (by decide) rfl).os ?_
  refine L1 (os_cbr (acctCells ⟨id, led, fl, dp, dpo, 0, 0, 0, 0, List.replicate 32 0⟩) (os_storeN (b := b3) (vs := nc dpo) (by repeat (first | exact pk_head _ _ | apply pk_tail)) (by exact T.sz26) rfl rfl (nc_one _) (by exact Nat.le_of_ble_eq_true rfl)) (by rfl)) ?_
  refine L1 (ps_fa T.fa59_5 (by decide) rfl).os ?_
  refine L1 (os_cbr (acctCells ⟨id, led, fl, dp, dpo, cp, 0, 0, 0, List.replicate 32 0⟩) (os_storeN (b := b3) (vs := nc cp) (by repeat (first | exact pk_head _ _ | apply pk_tail)) (by exact T.sz26) rfl rfl (nc_one _) (by exact Nat.le_of_ble_eq_true rfl)) (by rfl)) ?_
  refine L1 (ps_fa T.fa59_6 (by decide) rfl).os ?_
  refine L1 (os_cbr (acctCells ⟨id, led, fl, dp, dpo, cp, cpo, 0, 0, List.replicate 32 0⟩) (os_storeN (b := b3) (vs := nc cpo) (by repeat (first | exact pk_head _ _ | apply pk_tail)) (by exact T.sz26) rfl rfl (nc_one _) (by exact Nat.le_of_ble_eq_true rfl)) (by rfl)) ?_
  refine LW.nil ?_
  repeat (first | refine CW.seq ?_ | refine PW.then_ ?_ | refine CW.block ?_ | refine CW.skip ?_ | refine CW.ret ?_ | refine PW.then_ret ?_ | refine PW.block_ret ?_ | refine Cut.ret ?_ | refine Rnd.ret ?_ | refine PW.block_normal ?_ | refine CW.exit ?_ | refine PW.then_exit ?_ | refine PW.block_hit ?_ | refine PW.block_miss rfl ?_ | refine Cut.exit ?_ | refine Rnd.exit ?_)
  refine CW.region ?_
  refine L1 (ps_move rfl).os ?_
  refine L1 (os_call2 (RInt_app A p 6 tim (be 6 rows ++ (root ++ rest)) (by decide) (by decide) t1 t2 (by simp [hrl]; omega)) Try.func23 (by decide +kernel) rfl rfl (by repeat (first | exact pk_head _ _ | apply pk_tail)) (by repeat (first | exact pk_head _ _ | apply pk_tail))) ?_
  refine L1 (ps_move rfl).os ?_
  refine L1 (os_call2 (RInt_app A p 6 rows (root ++ rest) (by decide) (by decide) r1 r2 (by simp [hrl]; omega)) Try.func23 (by decide +kernel) rfl rfl (by repeat (first | exact pk_head _ _ | apply pk_tail)) (by repeat (first | exact pk_head _ _ | apply pk_tail))) ?_
  refine L1 (ps_move rfl).os ?_
  refine L1 (os_call2 (RHash_app A p root rest hrl (by omega)) Try.func24 (by decide +kernel) rfl rfl (by repeat (first | exact pk_head _ _ | apply pk_tail)) (by repeat (first | exact pk_head _ _ | apply pk_tail))) ?_
  refine L1 (ps_fa T.fa59_7 (by decide) rfl).os ?_
  refine L1 (os_cbr (acctCells ⟨id, led, fl, dp, dpo, cp, cpo, tim, 0, List.replicate 32 0⟩) (os_store1 (b := b3) (by repeat (first | exact pk_head _ _ | apply pk_tail)) T.sz3 rfl rfl (by rfl) (Nat.le_of_ble_eq_true rfl)) (by rfl)) ?_
  refine L1 (ps_fa T.fa59_8 (by decide) rfl).os ?_
  refine L1 (os_cbr (acctCells ⟨id, led, fl, dp, dpo, cp, cpo, tim, rows, List.replicate 32 0⟩) (os_store1 (b := b3) (by repeat (first | exact pk_head _ _ | apply pk_tail)) T.sz3 rfl rfl (by rfl) (Nat.le_of_ble_eq_true rfl)) (by rfl)) ?_
  refine L1 (ps_fa T.fa59_9 (by decide) rfl).os ?_
  refine L1 (os_cbr (acctCells ⟨id, led, fl, dp, dpo, cp, cpo, tim, rows, root⟩) (os_storeN (b := b3) (vs := bv root) (by repeat (first | exact pk_head _ _ | apply pk_tail)) (by rw [hvl]; exact T.sz43) rfl rfl (bv_one _) (by rw [hvl]; exact Nat.le_of_ble_eq_true rfl)) hsp) ?_
  refine LW.nil ?_
  repeat (first | refine CW.seq ?_ | refine PW.then_ ?_ | refine CW.block ?_ | refine CW.skip ?_ | refine CW.ret ?_ | refine PW.then_ret ?_ | refine PW.block_ret ?_ | refine Cut.ret ?_ | refine Rnd.ret ?_ | refine PW.block_normal ?_ | refine CW.exit ?_ | refine PW.then_exit ?_ | refine PW.block_hit ?_ | refine PW.block_miss rfl ?_ | refine Cut.exit ?_ | refine Rnd.exit ?_)
  refine CW.region ?_
  refine L1 (os_loadAll (b := b3) (cs := acctCells ⟨id, led, fl, dp, dpo, cp, cpo, tim, rows, root⟩) (by repeat (first | exact pk_head _ _ | apply pk_tail)) T.ag59 hsz rfl) ?_
  refine L1 (os_storeAll (b := b2) (vs := acctCells ⟨id, led, fl, dp, dpo, cp, cpo, tim, rows, root⟩) (by repeat (first | exact pk_head _ _ | apply pk_tail)) hsz rfl rfl (acctCells_one _) (by rw [acctCells_len _ ok.toAcctOk]; rfl)) ?_
  refine LW.nil ?_
  repeat (first | refine CW.seq ?_ | refine PW.then_ ?_ | refine CW.block ?_ | refine CW.skip ?_ | refine CW.ret ?_ | refine PW.then_ret ?_ | refine PW.block_ret ?_ | refine Cut.ret ?_ | refine Rnd.ret ?_ | refine PW.block_normal ?_ | refine CW.exit ?_ | refine PW.then_exit ?_ | refine PW.block_hit ?_ | refine PW.block_miss rfl ?_ | refine Cut.exit ?_ | refine Rnd.exit ?_)
  exact Fin.retCell (b := b2) (cs := acctCells ⟨id, led, fl, dp, dpo, cp, cpo, tim, rows, root⟩) rfl (by repeat (first | exact pk_head _ _ | apply pk_tail)) T.ag59 hsz rfl [_, _] ⟨rfl, rfl⟩ (by repeat (first | exact Ent.refl _ | (apply Ent.cons; · repeat (first | exact pk_head _ _ | apply pk_tail)) | apply Ent.skip))
structure RowRd (a : RowS) : Prop extends RowOk a where
  tim : 0 ≤ a.tim ∧ a.tim < 256 ^ 6
  ev : 0 ≤ a.ev + 1 ∧ a.ev + 1 < 256 ^ 2
theorem ReadRow_spec (A : Asn) (p : Nat) (a : RowS) (ok : RowRd a) (rest : List UInt8) (hm : rest.length ≤ 100000) :
    FSpec Try.prog 31 [ptr p] [RdAt A p (rowB a ++ rest) false, A] (fun r As => r = .agg (rowCells a).toArray ∧ As = [RdAt A p rest false, A]) := by
  rw [rowB_app]
  obtain ⟨t1, t2⟩ := ok.tim
  obtain ⟨r1, r2⟩ := ok.ev
  obtain ⟨tr, tim, ev, amo, dp, dpo, cp, cpo⟩ := a
  have k1 := ok.tr
  have k6 := ok.amo
  have k2 := ok.dp
  have k3 := ok.dpo
  have k4 := ok.cp
  have k5 := ok.cpo
  dsimp only at *
  have e1 : ev + 1 - 1 = ev := by omega
  have e2 : -9223372036854775808 ≤ ev + 1 - 1 := by omega
  have e3 : ev + 1 - 1 < 9223372036854775808 := by omega
  refine FSpec.intro Try.func31 rfl 27 Try.ntmps31 (Nat.le_of_ble_eq_true rfl) fun w0 F => ?_
  show CW _ _ _ _ _ _ (_ :: _ :: F)
  repeat (first | refine CW.seq ?_ | refine PW.then_ ?_ | refine CW.block ?_ | refine CW.skip ?_ | refine CW.ret ?_ | refine PW.then_ret ?_ | refine PW.block_ret ?_ | refine Cut.ret ?_ | refine Rnd.ret ?_ | refine PW.block_normal ?_ | refine CW.exit ?_ | refine PW.then_exit ?_ | refine PW.block_hit ?_ | refine PW.block_miss rfl ?_ | refine Cut.exit ?_ | refine Rnd.exit ?_)
  refine CW.region ?_
  refine LE (os_alloc T.ti61) ?_
  rintro _ _ ⟨b2, rfl, rfl⟩
  refine LW.nil ?_
  repeat (first | refine CW.seq ?_ | refine PW.then_ ?_ | refine CW.block ?_ | refine CW.skip ?_ | refine CW.ret ?_ | refine PW.then_ret ?_ | refine PW.block_ret ?_ | refine Cut.ret ?_ | refine Rnd.ret ?_ | refine PW.block_normal ?_ | refine CW.exit ?_ | refine PW.then_exit ?_ | refine PW.block_hit ?_ | refine PW.block_miss rfl ?_ | refine Cut.exit ?_ | refine Rnd.exit ?_)
  refine CW.region ?_
  refine L1 (ps_move rfl).os ?_
  refine L1 (os_call2 (RNum_app A p tr (be 6 tim ++ (be 2 (ev + 1) ++ (numB amo ++ (numB dp ++ (numB dpo ++ (numB cp ++ (numB cpo ++ rest))))))) k1 (by simp; omega)) Try.func25 (by decide +kernel) rfl rfl (by repeat (first | exact pk_head _ _ | apply pk_tail)) (by repeat (first | exact pk_head _ _ | apply pk_tail))) ?_
  refine L1 (ps_move rfl).os ?_
  refine L1 (os_call2 (RInt_app A p 6 tim (be 2 (ev + 1) ++ (numB amo ++ (numB dp ++ (numB dpo ++ (numB cp ++ (numB cpo ++ rest)))))) (by decide) (by decide) t1 t2 (by simp; omega)) Try.func23 (by decide +kernel) rfl rfl (by repeat (first | exact pk_head _ _ | apply pk_tail)) (by repeat (first | exact pk_head _ _ | apply pk_tail))) ?_
  refine L1 (ps_move rfl).os ?_
  refine L1 (os_call2 (RInt_app A p 2 (ev + 1) (numB amo ++ (numB dp ++ (numB dpo ++ (numB cp ++ (numB cpo ++ rest))))) (by decide) (by decide) r1 r2 (by simp; omega)) Try.func23 (by decide +kernel) rfl rfl (by repeat (first | exact pk_head _ _ | apply pk_tail)) (by repeat (first | exact pk_head _ _ | apply pk_tail))) ?_
  refine L1 (ps_to (u := .int .i64 ev) (congrArg _ e1) (ps_sub_i64 rfl rfl e2 e3)).os ?_
  refine L1 (ps_move rfl).os ?_
  refine L1 (os_call2 (RNum_app A p amo (numB dp ++ (numB dpo ++ (numB cp ++ (numB cpo ++ rest)))) k6 (by simp; omega)) Try.func25 (by decide +kernel) rfl rfl (by repeat (first | exact pk_head _ _ | apply pk_tail)) (by repeat (first | exact pk_head _ _ | apply pk_tail))) ?_
  refine L1 (ps_to (u := .agg (rowCells ⟨tr, tim, ev, amo, 0, 0, 0, 0⟩).toArray) (by rfl) (ps_build (by rfl) (by kernel_rfl))).os ?_
  refine LE (os_alloc T.ti61) ?_
  rintro _ _ ⟨b3, rfl, rfl⟩
  refine L1 (os_storeAll (b := b3) (vs := rowCells ⟨tr, tim, ev, amo, 0, 0, 0, 0⟩) (by repeat (first | exact pk_head _ _ | apply pk_tail)) (by exact T.sz61) rfl rfl (rowCells_one _) (by rfl)) ?_
  refine LW.nil ?_
  repeat (first | refine CW.seq ?_ | refine PW.then_ ?_ | refine CW.block ?_ | refine CW.skip ?_ | refine CW.ret ?_ | refine PW.then_ret ?_ | refine PW.block_ret ?_ | refine Cut.ret ?_ | refine Rnd.ret ?_ | refine PW.block_normal ?_ | refine CW.exit ?_ | refine PW.then_exit ?_ | refine PW.block_hit ?_ | refine PW.block_miss rfl ?_ | refine Cut.exit ?_ | refine Rnd.exit ?_)
  refine CW.region ?_
  refine L1 (ps_move rfl).os ?_
  refine L1 (os_call2 (RNum_app A p dp (numB dpo ++ (numB cp ++ (numB cpo ++ rest))) k2 (by simp; omega)) Try.func25 (by decide +kernel) rfl rfl (by repeat (first | exact pk_head _ _ | apply pk_tail)) (by repeat (first | exact pk_head _ _ | apply pk_tail))) ?_
  refine L1 (ps_move rfl).os ?_
  refine L1 (os_call2 (RNum_app A p dpo (numB cp ++ (numB cpo ++ rest)) k3 (by simp; omega)) Try.func25 (by decide +kernel) rfl rfl (by repeat (first | exact pk_head _ _ | apply pk_tail)) (by repeat (first | exact pk_head _ _ | apply pk_tail))) ?_
  refine L1 (ps_move rfl).os ?_
  refine L1 (os_call2 (RNum_app A p cp (numB cpo ++ rest) k4 (by simp; omega)) Try.func25 (by decide +kernel) rfl rfl (by repeat (first | exact pk_head _ _ | apply pk_tail)) (by repeat (first | exact pk_head _ _ | apply pk_tail))) ?_
  refine L1 (ps_move rfl).os ?_
  refine L1 (os_call2 (RNum_app A p cpo rest k5 (by omega)) Try.func25 (by decide +kernel) rfl rfl (by repeat (first | exact pk_head _ _ | apply pk_tail)) (by repeat (first | exact pk_head _ _ | apply pk_tail))) ?_
  refine L1 (ps_fa T.fa61_4 (by decide) rfl).os ?_
  refine L1 (os_cbr (rowCells ⟨tr, tim, ev, amo, dp, 0, 0, 0⟩) (os_storeN (b := b3) (vs := nc dp) (by repeat (first | exact pk_head _ _ | apply pk_tail)) (by exact T.sz26) rfl rfl (nc_one _) (by exact Nat.le_of_ble_eq_true rfl)) (by rfl)) ?_
  refine L1 (ps_fa T.fa61_5 (by decide) rfl).os ?_
  refine L1 (os_cbr (rowCells ⟨tr, tim, ev, amo, dp, dpo, 0, 0⟩) (os_storeN (b := b3) (vs := nc dpo) (by repeat (first | exact pk_head _ _ | apply pk_tail)) (by exact T.sz26) rfl rfl (nc_one _) (by exact Nat.le_of_ble_eq_true rfl)) (by rfl)) ?_
  refine L1 (ps_fa T.fa61_6 (by decide) rfl).os ?_
  refine L1 (os_cbr (rowCells ⟨tr, tim, ev, amo, dp, dpo, cp, 0⟩) (os_storeN (b := b3) (vs := nc cp) (by repeat (first | exact pk_head _ _ | apply pk_tail)) (by exact T.sz26) rfl rfl (nc_one _) (by exact Nat.le_of_ble_eq_true rfl)) (by rfl)) ?_
  refine L1 (ps_fa T.fa61_7 (by decide) rfl).os ?_
  refine L1 (os_cbr (rowCells ⟨tr, tim, ev, amo, dp, dpo, cp, cpo⟩) (os_storeN (b := b3) (vs := nc cpo) (by repeat (first | exact pk_head _ _ | apply pk_tail)) (by exact T.sz26) rfl rfl (nc_one _) (by exact Nat.le_of_ble_eq_true rfl)) (by rfl)) ?_
  refine LW.nil ?_
  repeat (first | refine CW.seq ?_ | refine PW.then_ ?_ | refine CW.block ?_ | refine CW.skip ?_ | refine CW.ret ?_ | refine PW.then_ret ?_ | refine PW.block_ret ?_ | refine Cut.ret ?_ | refine Rnd.ret ?_ | refine PW.block_normal ?_ | refine CW.exit ?_ | refine PW.then_exit ?_ | refine PW.block_hit ?_ | refine PW.block_miss rfl ?_ | refine Cut.exit ?_ | refine Rnd.exit ?_)
  refine CW.region ?_
  refine L1 (os_loadAll (b := b3) (cs := rowCells ⟨tr, tim, ev, amo, dp, dpo, cp, cpo⟩) (by repeat (first | exact pk_head _ _ | apply pk_tail)) T.ag61 (by exact T.sz61) rfl) ?_
  refine L1 (os_storeAll (b := b2) (vs := rowCells ⟨tr, tim, ev, amo, dp, dpo, cp, cpo⟩) (by repeat (first | exact pk_head _ _ | apply pk_tail)) (by exact T.sz61) rfl rfl (rowCells_one _) (by rfl)) ?_
  refine LW.nil ?_
  repeat (first | refine CW.seq ?_ | refine PW.then_ ?_ | refine CW.block ?_ | refine CW.skip ?_ | refine CW.ret ?_ | refine PW.then_ret ?_ | refine PW.block_ret ?_ | refine Cut.ret ?_ | refine Rnd.ret ?_ | refine PW.block_normal ?_ | refine CW.exit ?_ | refine PW.then_exit ?_ | refine PW.block_hit ?_ | refine PW.block_miss rfl ?_ | refine Cut.exit ?_ | refine Rnd.exit ?_)
  exact Fin.retCell (b := b2) (cs := rowCells ⟨tr, tim, ev, amo, dp, dpo, cp, cpo⟩) rfl (by repeat (first | exact pk_head _ _ | apply pk_tail)) T.ag61 (by exact T.sz61) rfl [_, _] ⟨rfl, rfl⟩ (by repeat (first | exact Ent.refl _ | (apply Ent.cons; · repeat (first | exact pk_head _ _ | apply pk_tail)) | apply Ent.skip))
end Go.Proofs.Ytpcjjchanjdkaaa
