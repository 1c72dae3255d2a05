/- What bytes a request has: the contracts of events and Request. -/
import Derived.Test.YtpcjjchanjdkaaaWireFit
namespace Go.Proofs.Ytpcjjchanjdkaaa
set_option linter.unusedVariables false
set_option linter.unusedSimpArgs false
open Go Go.SL

def accB (a : AccS) : List UInt8 := numB a.id ++ be 4 a.led ++ be 2 a.fl
def trB (t : TrS) : List UInt8 := numB t.id ++ numB t.deb ++ numB t.cre ++ numB t.amo ++ numB t.pen ++ be 4 t.tim ++ be 4 t.led ++ be 2 t.fl
theorem accB_len (a : AccS) : (accB a).length = 22 := by simp [accB]
theorem trB_len (t : TrS) : (trB t).length = 90 := by simp [trB]
def bodyB (q : RQ) : List UInt8 :=
  if q.kind = 1 then be 1 q.accs.length ++ (q.accs.map accB).flatten
  else if q.kind = 2 then be 1 q.trs.length ++ (q.trs.map trB).flatten
  else if q.kind = 3 then be 4 q.fro
  else if q.kind = 4 ∨ q.kind = 5 ∨ q.kind = 7 then numB q.id
  else if q.kind = 6 ∨ q.kind = 8 then numB q.id ++ (be 6 q.fro ++ be 6 q.to) ++ be 1 q.lim
  else if q.kind = 9 then be 4 q.fro ++ be 4 q.to
  else []
def reqB (q : RQ) : List UInt8 := be 1 q.kind ++ bodyB q
theorem take_flat {α : Type} (g : α → List UInt8) (l : List α) (i : Nat) (h : i < l.length) : ((l.take (i + 1)).map g).flatten = ((l.take i).map g).flatten ++ g l[i] := by
  rw [List.take_succ_eq_append_getElem h, List.map_append, List.flatten_append]; simp
theorem flat_len' {α : Type} (g : α → List UInt8) (c : Nat) (hg : ∀ a, (g a).length = c) (l : List α) : ((l.map g).flatten).length = l.length * c := by
  induction l with
  | nil => simp
  | cons a l ih => rw [List.map_cons, List.flatten_cons, List.length_append, ih, hg, List.length_cons, Nat.succ_mul]; omega
theorem flat_le {α : Type} (g : α → List UInt8) (c : Nat) (hg : ∀ a, (g a).length = c) (l : List α) (i : Nat) : (((l.take i).map g).flatten).length ≤ l.length * c := by
  rw [flat_len' g c hg]; exact Nat.mul_le_mul_right _ (by rw [List.length_take]; omega)
theorem WI1 (p : Nat) (bs : List UInt8) (n : Nat) (x : Int) (b : Nat) (hn : n ≤ 8) (hb : bs.length ≤ 1000000) : FSpec Try.prog 17 [ptr p, .int .i64 n, .slice (some ⟨b, 0, none⟩) 1 1] [WrAt p bs, cb b 3 [.int .i64 x]] (fun r As => r = ptr p ∧ As = [WrAt p (bs ++ be n x), cb b 3 [.int .i64 x]]) := by
  have h := WInt_spec p bs (cb b 3 [.int .i64 x]) (.slice (some ⟨b, 0, none⟩) 1 1) n [x] (RowsR.cb rfl (by simp [ic]) rfl (Nat.le_refl _) (by decide)) hn hb (by simp)
  simpa using h
theorem WI2 (p : Nat) (bs : List UInt8) (n : Nat) (x y : Int) (b : Nat) (hn : n ≤ 8) (hb : bs.length ≤ 1000000) : FSpec Try.prog 17 [ptr p, .int .i64 n, .slice (some ⟨b, 0, none⟩) 2 2] [WrAt p bs, cb b 3 [.int .i64 x, .int .i64 y]] (fun r As => r = ptr p ∧ As = [WrAt p (bs ++ (be n x ++ be n y)), cb b 3 [.int .i64 x, .int .i64 y]]) := by
  have h := WInt_spec p bs (cb b 3 [.int .i64 x, .int .i64 y]) (.slice (some ⟨b, 0, none⟩) 2 2) n [x, y] (RowsR.cb rfl (by simp [ic]) rfl (Nat.le_refl _) (by decide)) hn hb (by simp)
  simpa using h
theorem WNs (p : Nat) (bs : List UInt8) (xs : List Nat) (k b : Nat) (hk : xs.length = k) (hk2 : k ≤ 100) (hx : ∀ x ∈ xs, x < M128) (hb : bs.length ≤ 1000000) : FSpec Try.prog 19 [ptr p, .slice (some ⟨b, 0, none⟩) k k] [WrAt p bs, cb b 26 (xs.map nc).flatten] (fun r As => r = ptr p ∧ As = [WrAt p (bs ++ (xs.map numB).flatten), cb b 26 (xs.map nc).flatten]) :=
  WNum_spec p bs _ _ xs (RowsR.cb (by
    apply List.take_of_length_le
    have : ∀ l : List Nat, (l.map nc).flatten.length = l.length * 2 := by
      intro l
      induction l with
      | nil => rfl
      | cons a l ih => simp only [List.map_cons, List.flatten_cons, List.length_append, ih, nc_len, List.length_cons]; omega
    rw [this, List.length_map]; exact Nat.le_refl _) (fun r hr => by obtain ⟨x, _, rfl⟩ := List.mem_map.1 hr; rfl) (by simpa using hk) (Nat.le_refl _) (by unfold maxLen; omega)) hx hb (by omega)
theorem WN1 (p : Nat) (bs : List UInt8) (x b : Nat) (hx : x < M128) (hb : bs.length ≤ 1000000) : FSpec Try.prog 19 [ptr p, .slice (some ⟨b, 0, none⟩) 1 1] [WrAt p bs, cb b 26 ([x].map nc).flatten] (fun r As => r = ptr p ∧ As = [WrAt p (bs ++ numB x), cb b 26 ([x].map nc).flatten]) := by
  have h := WNs p bs [x] 1 b rfl (by decide) (by simpa using hx) hb
  rw [show (([x].map numB).flatten) = numB x by simp] at h
  exact h
/-- What a request may be when its bytes are laid. -/
structure RqOk (q : RQ) : Prop where
  id : q.id < M128
  la : q.accs.length ≤ 100
  lt : q.trs.length ≤ 100
  accs : ∀ a ∈ q.accs, a.id < M128
  trs : ∀ t ∈ q.trs, t.id < M128 ∧ t.deb < M128 ∧ t.cre < M128 ∧ t.amo < M128 ∧ t.pen < M128
theorem events1 (p : Nat) (bs : List UInt8) (A : Asn) (q : RQ) (av tv : Value) (hq : RqOk q) (h1 : RowsR A av 46 (q.accs.map accCells)) (h2 : RowsR A tv 16 (q.trs.map trCells)) (hb : bs.length ≤ 1000) (hk : q.kind = 1) :
    FSpec Try.prog 35 [ptr p, .agg (rqCells q av tv).toArray] [WrAt p bs, A] (fun r As => As = [WrAt p (bs ++ be 1 q.accs.length ++ (q.accs.map accB).flatten), A]) := by
  obtain ⟨pv, cap, rfl, hcap1, hcap2, hpv⟩ := h1.len
  rw [show (List.map accCells q.accs).length = q.accs.length from List.length_map ..] at *
  have hla := hq.la
  have hl := flat_le accB 22 accB_len q.accs
  refine FSpec.intro Try.func35 rfl 78 Try.ntmps35 (Nat.le_of_ble_eq_true rfl) fun w0 F => ?_
  show CW _ _ _ _ _ _ (_ :: _ :: F)
  repeat (first | refine CW.seq ?_ | refine PW.then_ ?_ | refine CW.block ?_ | refine CW.skip ?_ | refine CW.ret ?_ | refine PW.then_ret ?_ | refine PW.block_ret ?_ | refine Cut.ret ?_ | refine Rnd.ret ?_ | refine PW.block_normal ?_ | refine CW.exit ?_ | refine PW.then_exit ?_ | refine PW.block_hit ?_ | refine PW.block_miss rfl ?_ | refine Cut.exit ?_ | refine Rnd.exit ?_)
  refine CW.region ?_
  refine LE (os_box rfl (by rfl)) ?_
  rintro _ _ ⟨b3, rfl, rfl⟩
  refine LW.nil ?_
  repeat (first | refine CW.seq ?_ | refine PW.then_ ?_ | refine CW.block ?_ | refine CW.skip ?_ | refine CW.ret ?_ | refine PW.then_ret ?_ | refine PW.block_ret ?_ | refine Cut.ret ?_ | refine Rnd.ret ?_ | refine PW.block_normal ?_ | refine CW.exit ?_ | refine PW.then_exit ?_ | refine PW.block_hit ?_ | refine PW.block_miss rfl ?_ | refine Cut.exit ?_ | refine Rnd.exit ?_)
  refine CW.region ?_
  refine L1 (ps_fa T.fa28_0 (by decide) rfl).os ?_
  refine L1 (os_load1 (by repeat (first | exact pk_head _ _ | apply pk_tail)) T.ag3 rfl (by rfl)) ?_
  refine LW.nil ?_
  repeat (first | refine CW.seq ?_ | refine PW.then_ ?_ | refine CW.block ?_ | refine CW.skip ?_ | refine CW.ret ?_ | refine PW.then_ret ?_ | refine PW.block_ret ?_ | refine Cut.ret ?_ | refine Rnd.ret ?_ | refine PW.block_normal ?_ | refine CW.exit ?_ | refine PW.then_exit ?_ | refine PW.block_hit ?_ | refine PW.block_miss rfl ?_ | refine Cut.exit ?_ | refine Rnd.exit ?_)
  refine CW.region ?_
  refine L1 (ps_t (ps_eql rfl rfl) (hk)).os ?_
  refine L1 (ps_assign rfl).os ?_
  refine LW.nil ?_
  repeat (first | refine CW.seq ?_ | refine PW.then_ ?_ | refine CW.block ?_ | refine CW.skip ?_ | refine CW.ret ?_ | refine PW.then_ret ?_ | refine PW.block_ret ?_ | refine Cut.ret ?_ | refine Rnd.ret ?_ | refine PW.block_normal ?_ | refine CW.exit ?_ | refine PW.then_exit ?_ | refine PW.block_hit ?_ | refine PW.block_miss rfl ?_ | refine Cut.exit ?_ | refine Rnd.exit ?_)
  refine CW.cond_true rfl ?_
  repeat (first | refine CW.seq ?_ | refine PW.then_ ?_ | refine CW.block ?_ | refine CW.skip ?_ | refine CW.ret ?_ | refine PW.then_ret ?_ | refine PW.block_ret ?_ | refine Cut.ret ?_ | refine Rnd.ret ?_ | refine PW.block_normal ?_ | refine CW.exit ?_ | refine PW.then_exit ?_ | refine PW.block_hit ?_ | refine PW.block_miss rfl ?_ | refine Cut.exit ?_ | refine Rnd.exit ?_)
  refine CW.region ?_
  refine L1 (ps_move rfl).os ?_
  refine L1 (ps_fa T.fa28_1 (by decide) rfl).os ?_
  refine L1 (os_load1 (by repeat (first | exact pk_head _ _ | apply pk_tail)) T.ag22 rfl (by rfl)) ?_
  refine L1 (ps_len_sl T.un22 rfl).os ?_
  refine LE (os_bslv (vs := [.int .i64 (q.accs.length : Int)]) T.un41 T.ti3 (by rfl) (by rfl) rfl (by simp [Value.oneCell']) (by decide) (by decide)) ?_
  rintro _ _ ⟨b16, rfl, rfl⟩
  refine L1 (os_call2 (WI1 p bs 1 q.accs.length b16 (by decide) (by omega)) Try.func17 (by decide +kernel) rfl rfl (by repeat (first | exact pk_head _ _ | apply pk_tail)) (by repeat (first | exact pk_head _ _ | apply pk_tail))) ?_
  refine LW.nil ?_
  repeat (first | refine CW.seq ?_ | refine PW.then_ ?_ | refine CW.block ?_ | refine CW.skip ?_ | refine CW.ret ?_ | refine PW.then_ret ?_ | refine PW.block_ret ?_ | refine Cut.ret ?_ | refine Rnd.ret ?_ | refine PW.block_normal ?_ | refine CW.exit ?_ | refine PW.then_exit ?_ | refine PW.block_hit ?_ | refine PW.block_miss rfl ?_ | refine Cut.exit ?_ | refine Rnd.exit ?_)
  refine CW.region ?_
  refine L1 (ps_fa T.fa28_1 (by decide) rfl).os ?_
  refine L1 (os_load1 (by repeat (first | exact pk_head _ _ | apply pk_tail)) T.ag22 rfl (by rfl)) ?_
  refine L1 (ps_len_sl T.un22 rfl).os ?_
  refine L1 (ps_move rfl).os ?_
  refine LW.nil ?_
  repeat (first | refine CW.seq ?_ | refine PW.then_ ?_ | refine CW.block ?_ | refine CW.skip ?_ | refine CW.ret ?_ | refine PW.then_ret ?_ | refine PW.block_ret ?_ | refine Cut.ret ?_ | refine Rnd.ret ?_ | refine PW.block_normal ?_ | refine CW.exit ?_ | refine PW.then_exit ?_ | refine PW.block_hit ?_ | refine PW.block_miss rfl ?_ | refine Cut.exit ?_ | refine Rnd.exit ?_)
  refine CW.loopM (α := Nat) [5, 21, 22, 23, 24, 25, 26, 27, 28, 29, 30, 31, 32, 33, 34, 35, 36, 37, 38] (fun k i => i ≤ q.accs.length ∧ k = q.accs.length - i) (fun i => [(21, .int .i64 i)])
    (fun i => WrAt p (bs ++ be 1 q.accs.length ++ ((q.accs.take i).map accB).flatten) :: A :: cb b3 28 (rqCells q (.slice pv q.accs.length cap) tv) :: F) q.accs.length 0 ⟨Nat.zero_le _, rfl⟩ ⟨rfl, trivial⟩ (by simp only [List.take_zero, List.map_nil, List.flatten_nil, List.append_nil]; exact (by repeat (first | exact Ent.refl _ | (apply Ent.cons; · repeat (first | exact pk_head _ _ | apply pk_tail)) | apply Ent.skip))) ?_
  rintro k i g ⟨hi, hkk⟩
  repeat (first | refine CW.seq ?_ | refine PW.then_ ?_ | refine CW.block ?_ | refine CW.skip ?_ | refine CW.ret ?_ | refine PW.then_ret ?_ | refine PW.block_ret ?_ | refine Cut.ret ?_ | refine Rnd.ret ?_ | refine PW.block_normal ?_ | refine CW.exit ?_ | refine PW.then_exit ?_ | refine PW.block_hit ?_ | refine PW.block_miss rfl ?_ | refine Cut.exit ?_ | refine Rnd.exit ?_)
  by_cases hlt : i < q.accs.length
  · have hsx := take_flat accB q.accs i hlt
    have hx := hq.accs q.accs[i] (List.getElem_mem hlt)
    have hli := hl i
    obtain ⟨vb, vo, rfl⟩ := hpv (fun h => by have := congrArg List.length h; simp at this; rw [this] at hlt; exact absurd hlt (Nat.not_lt_zero _))
    have hsrc := fun As Bs (hp : List.Perm As (A :: Bs)) => h1.src (i := i) (by simpa using hlt) hp
    simp only [List.getElem_map] at hsrc
    generalize q.accs[i] = a at hsx hx hsrc
    obtain ⟨pre, hpre⟩ : ∃ pre, bs ++ be 1 q.accs.length ++ ((q.accs.take i).map accB).flatten = pre := ⟨_, rfl⟩
    have hpl : pre.length ≤ 20000 := by rw [← hpre]; simp only [List.length_append, length_be]; omega
    have hnext : bs ++ be 1 q.accs.length ++ ((q.accs.take (i + 1)).map accB).flatten = pre ++ numB a.id ++ be 4 a.led ++ be 2 a.fl := by
      rw [hsx, ← List.append_assoc, hpre, accB]; simp only [List.append_assoc]
    have l1 : (pre ++ numB a.id).length ≤ 1000000 := by simp; omega
    have l2 : (pre ++ numB a.id ++ be 4 a.led).length ≤ 1000000 := by simp; omega
    rw [hpre]
    refine CW.region ?_
    refine L1 (ps_t (ps_lss rfl rfl) (by omega)).os ?_
    refine LW.nil ?_
    repeat (first | refine CW.seq ?_ | refine PW.then_ ?_ | refine CW.block ?_ | refine CW.skip ?_ | refine CW.ret ?_ | refine PW.then_ret ?_ | refine PW.block_ret ?_ | refine Cut.ret ?_ | refine Rnd.ret ?_ | refine PW.block_normal ?_ | refine CW.exit ?_ | refine PW.then_exit ?_ | refine PW.block_hit ?_ | refine PW.block_miss rfl ?_ | refine Cut.exit ?_ | refine Rnd.exit ?_)
    refine CW.cond_true rfl ?_
    repeat (first | refine CW.seq ?_ | refine PW.then_ ?_ | refine CW.block ?_ | refine CW.skip ?_ | refine CW.ret ?_ | refine PW.then_ret ?_ | refine PW.block_ret ?_ | refine Cut.ret ?_ | refine Rnd.ret ?_ | refine PW.block_normal ?_ | refine CW.exit ?_ | refine PW.then_exit ?_ | refine PW.block_hit ?_ | refine PW.block_miss rfl ?_ | refine Cut.exit ?_ | refine Rnd.exit ?_)
    refine CW.region ?_
    refine L1 (ps_ia_slice T.un22 T.sz59 rfl rfl (by omega) (by omega)).os ?_
    refine L1 (os_loadS (vs := accCells a) (hsrc _ _ (by repeat (first | exact pk_head _ _ | apply pk_tail))) (by simp [accCells, nc]) T.ag59 (by exact T.sz59) rfl) ?_
    refine LE (os_alloc T.ti59) ?_
    rintro _ _ ⟨b5, rfl, rfl⟩
    refine L1 (os_storeAll (b := b5) (vs := accCells a) (by repeat (first | exact pk_head _ _ | apply pk_tail)) (by exact T.sz59) rfl rfl (accCells_one a) (by rfl)) ?_
    refine LW.nil ?_
    repeat (first | refine CW.seq ?_ | refine PW.then_ ?_ | refine CW.block ?_ | refine CW.skip ?_ | refine CW.ret ?_ | refine PW.then_ret ?_ | refine PW.block_ret ?_ | refine Cut.ret ?_ | refine Rnd.ret ?_ | refine PW.block_normal ?_ | refine CW.exit ?_ | refine PW.then_exit ?_ | refine PW.block_hit ?_ | refine PW.block_miss rfl ?_ | refine Cut.exit ?_ | refine Rnd.exit ?_)
    refine CW.cutB (α := Unit) [25, 26, 27, 28, 29, 30, 31, 32, 33, 34, 35, 36, 37] (fun _ => True) (fun _ => []) (fun _ => WrAt p (pre ++ numB a.id ++ be 4 a.led ++ be 2 a.fl) :: A :: cb b3 28 (rqCells q (.slice (some ⟨vb, vo, none⟩) q.accs.length cap) tv) :: F) ?_ ?_
    · refine CW.drawH [cb b5 59 (accCells a)] [] T.mixed ?_
      refine H_take (i := 0) (some 25) rfl rfl (by kernel_rfl) (by kernel_rfl) (by kernel_rfl) rfl (ps_move rfl).pl (by kernel_rfl) (pkc (by repeat (first | exact pk_head _ _ | apply pk_tail)) (pkn _)) ?_
      refine H_take (i := 1) (some 26) rfl rfl (by kernel_rfl) (by kernel_rfl) (by kernel_rfl) rfl (ps_fa T.fa59_0 (by decide) rfl).pl (by kernel_rfl) (pkc (by repeat (first | exact pk_head _ _ | apply pk_tail)) (pkn _)) ?_
      refine H_take (i := 2) (some 27) rfl rfl (by kernel_rfl) (by kernel_rfl) (by kernel_rfl) rfl (pl_loadN (vs := nc a.id) (by repeat (first | exact pk_head _ _ | apply pk_tail)) T.ag26 T.sz26 rfl (by rfl) (by rfl)) (by kernel_rfl) (pkc (by repeat (first | exact pk_head _ _ | apply pk_tail)) (pkn _)) ?_
      refine H_take (i := 5) (some 30) rfl rfl (by kernel_rfl) (by kernel_rfl) (by kernel_rfl) rfl (ps_fa T.fa59_1 (by decide) rfl).pl (by kernel_rfl) (pkc (by repeat (first | exact pk_head _ _ | apply pk_tail)) (pkn _)) ?_
      refine H_take (i := 6) (some 31) rfl rfl (by kernel_rfl) (by kernel_rfl) (by kernel_rfl) rfl (pl_load1 (by repeat (first | exact pk_head _ _ | apply pk_tail)) T.ag3 rfl (by rfl)) (by kernel_rfl) (pkc (by repeat (first | exact pk_head _ _ | apply pk_tail)) (pkn _)) ?_
      refine H_take (i := 9) (some 34) rfl rfl (by kernel_rfl) (by kernel_rfl) (by kernel_rfl) rfl (ps_fa T.fa59_2 (by decide) rfl).pl (by kernel_rfl) (pkc (by repeat (first | exact pk_head _ _ | apply pk_tail)) (pkn _)) ?_
      refine H_take (i := 10) (some 35) rfl rfl (by kernel_rfl) (by kernel_rfl) (by kernel_rfl) rfl (pl_load1 (by repeat (first | exact pk_head _ _ | apply pk_tail)) T.ag3 rfl (by rfl)) (by kernel_rfl) (pkc (by repeat (first | exact pk_head _ _ | apply pk_tail)) (pkn _)) ?_
      refine H_branch (rs := [3, 7, 11]) (by kernel_rfl) (by simp) ?_
      refine HR.consE (i := 3) (some 28) rfl rfl rfl (os_bslR ([a.id].map nc) T.un74 T.ti26 (by rfl) (by rfl) (by simp [nc_len]) (by decide) (by decide)) ?_ ?_
      · rintro _ _ ⟨b28, rfl, rfl⟩
        refine ⟨fun _ => ⟨_, (pkc (by repeat (first | exact pk_head _ _ | apply pk_tail)) (pkn _))⟩, ?_⟩
        refine H_branch (rs := [4, 7, 11]) (by kernel_rfl) (by simp) ?_
        refine HR.cons1 (i := 4) (some 29) rfl rfl rfl (os_call2 (WN1 p pre a.id b28 hx (by omega)) Try.func19 (by decide +kernel) rfl rfl (by repeat (first | exact pk_head _ _ | apply pk_tail)) (by repeat (first | exact pk_head _ _ | apply pk_tail))) (pkc (by repeat (first | exact pk_head _ _ | apply pk_tail)) (pkn _)) ?_ ?_
        · skip
          refine H_branch (rs := [7, 11]) (by kernel_rfl) (by simp) ?_
          refine HR.consE (i := 7) (some 32) rfl rfl rfl (os_bslv (vs := [.int .i64 (a.led)]) T.un41 T.ti3 (by rfl) (by rfl) rfl (by simp [Value.oneCell']) (by decide) (by decide)) ?_ ?_
          · rintro _ _ ⟨b32, rfl, rfl⟩
            refine ⟨fun _ => ⟨_, (pkc (by repeat (first | exact pk_head _ _ | apply pk_tail)) (pkn _))⟩, ?_⟩
            refine H_branch (rs := [8, 11]) (by kernel_rfl) (by simp) ?_
            refine HR.cons1 (i := 8) (some 33) rfl rfl rfl (os_call2 (WI1 p (pre ++ numB a.id) 4 a.led b32 (by decide) l1) Try.func17 (by decide +kernel) rfl rfl (by repeat (first | exact pk_head _ _ | apply pk_tail)) (by repeat (first | exact pk_head _ _ | apply pk_tail))) (pkc (by repeat (first | exact pk_head _ _ | apply pk_tail)) (pkn _)) ?_ ?_
            · skip
              refine H_branch (rs := [11]) (by kernel_rfl) (by simp) ?_
              refine HR.consE (i := 11) (some 36) rfl rfl rfl (os_bslv (vs := [.int .i64 (a.fl)]) T.un41 T.ti3 (by rfl) (by rfl) rfl (by simp [Value.oneCell']) (by decide) (by decide)) ?_ ?_
              · rintro _ _ ⟨b36, rfl, rfl⟩
                refine ⟨fun _ => ⟨_, (pkc (by repeat (first | exact pk_head _ _ | apply pk_tail)) (pkn _))⟩, ?_⟩
                refine H_branch (rs := [12]) (by kernel_rfl) (by simp) ?_
                refine HR.cons1 (i := 12) (some 37) rfl rfl rfl (os_call2 (WI1 p (pre ++ numB a.id ++ be 4 a.led) 2 a.fl b36 (by decide) l2) Try.func17 (by decide +kernel) rfl rfl (by repeat (first | exact pk_head _ _ | apply pk_tail)) (by repeat (first | exact pk_head _ _ | apply pk_tail))) (pkc (by repeat (first | exact pk_head _ _ | apply pk_tail)) (pkn _)) ?_ ?_
                · skip
                  refine H_done (by kernel_rfl) ?_
                  exact Meet.cut () trivial (by repeat (first | (with_reducible exact Ag.refl _ _) | (with_reducible apply Ag.pu0) | ((with_reducible refine Ag.pu _ ?_ ?_); · exact rfl) | ((with_reducible refine Ag.mix ?_ ?_); · exact rfl) | ((with_reducible refine Ag.pus ?_ ?_); · exact rfl))) (by exact trivial) (by repeat (first | exact Ent.refl _ | (apply Ent.cons; · repeat (first | exact pk_head _ _ | apply pk_tail)) | apply Ent.skip))
                exact HR.nil
              exact HR.nil
            refine HR.consE (i := 11) (some 36) rfl rfl rfl (os_bslv (vs := [.int .i64 (a.fl)]) T.un41 T.ti3 (by rfl) (by rfl) rfl (by simp [Value.oneCell']) (by decide) (by decide)) ?_ ?_
            · rintro _ _ ⟨b36, rfl, rfl⟩
              refine ⟨fun _ => ⟨_, (pkc (by repeat (first | exact pk_head _ _ | apply pk_tail)) (pkn _))⟩, ?_⟩
              refine H_branch (rs := [8]) (by kernel_rfl) (by simp) ?_
              refine HR.cons1 (i := 8) (some 33) rfl rfl rfl (os_call2 (WI1 p (pre ++ numB a.id) 4 a.led b32 (by decide) l1) Try.func17 (by decide +kernel) rfl rfl (by repeat (first | exact pk_head _ _ | apply pk_tail)) (by repeat (first | exact pk_head _ _ | apply pk_tail))) (pkc (by repeat (first | exact pk_head _ _ | apply pk_tail)) (pkn _)) ?_ ?_
              · skip
                refine H_branch (rs := [12]) (by kernel_rfl) (by simp) ?_
                refine HR.cons1 (i := 12) (some 37) rfl rfl rfl (os_call2 (WI1 p (pre ++ numB a.id ++ be 4 a.led) 2 a.fl b36 (by decide) l2) Try.func17 (by decide +kernel) rfl rfl (by repeat (first | exact pk_head _ _ | apply pk_tail)) (by repeat (first | exact pk_head _ _ | apply pk_tail))) (pkc (by repeat (first | exact pk_head _ _ | apply pk_tail)) (pkn _)) ?_ ?_
                · skip
                  refine H_done (by kernel_rfl) ?_
                  exact Meet.cut () trivial (by repeat (first | (with_reducible exact Ag.refl _ _) | (with_reducible apply Ag.pu0) | ((with_reducible refine Ag.pu _ ?_ ?_); · exact rfl) | ((with_reducible refine Ag.mix ?_ ?_); · exact rfl) | ((with_reducible refine Ag.pus ?_ ?_); · exact rfl))) (by exact trivial) (by repeat (first | exact Ent.refl _ | (apply Ent.cons; · repeat (first | exact pk_head _ _ | apply pk_tail)) | apply Ent.skip))
                exact HR.nil
              exact HR.nil
            exact HR.nil
          refine HR.consE (i := 11) (some 36) rfl rfl rfl (os_bslv (vs := [.int .i64 (a.fl)]) T.un41 T.ti3 (by rfl) (by rfl) rfl (by simp [Value.oneCell']) (by decide) (by decide)) ?_ ?_
          · rintro _ _ ⟨b36, rfl, rfl⟩
            refine ⟨fun _ => ⟨_, (pkc (by repeat (first | exact pk_head _ _ | apply pk_tail)) (pkn _))⟩, ?_⟩
            refine H_branch (rs := [7]) (by kernel_rfl) (by simp) ?_
            refine HR.consE (i := 7) (some 32) rfl rfl rfl (os_bslv (vs := [.int .i64 (a.led)]) T.un41 T.ti3 (by rfl) (by rfl) rfl (by simp [Value.oneCell']) (by decide) (by decide)) ?_ ?_
            · rintro _ _ ⟨b32, rfl, rfl⟩
              refine ⟨fun _ => ⟨_, (pkc (by repeat (first | exact pk_head _ _ | apply pk_tail)) (pkn _))⟩, ?_⟩
              refine H_branch (rs := [8]) (by kernel_rfl) (by simp) ?_
              refine HR.cons1 (i := 8) (some 33) rfl rfl rfl (os_call2 (WI1 p (pre ++ numB a.id) 4 a.led b32 (by decide) l1) Try.func17 (by decide +kernel) rfl rfl (by repeat (first | exact pk_head _ _ | apply pk_tail)) (by repeat (first | exact pk_head _ _ | apply pk_tail))) (pkc (by repeat (first | exact pk_head _ _ | apply pk_tail)) (pkn _)) ?_ ?_
              · skip
                refine H_branch (rs := [12]) (by kernel_rfl) (by simp) ?_
                refine HR.cons1 (i := 12) (some 37) rfl rfl rfl (os_call2 (WI1 p (pre ++ numB a.id ++ be 4 a.led) 2 a.fl b36 (by decide) l2) Try.func17 (by decide +kernel) rfl rfl (by repeat (first | exact pk_head _ _ | apply pk_tail)) (by repeat (first | exact pk_head _ _ | apply pk_tail))) (pkc (by repeat (first | exact pk_head _ _ | apply pk_tail)) (pkn _)) ?_ ?_
                · skip
                  refine H_done (by kernel_rfl) ?_
                  exact Meet.cut () trivial (by repeat (first | (with_reducible exact Ag.refl _ _) | (with_reducible apply Ag.pu0) | ((with_reducible refine Ag.pu _ ?_ ?_); · exact rfl) | ((with_reducible refine Ag.mix ?_ ?_); · exact rfl) | ((with_reducible refine Ag.pus ?_ ?_); · exact rfl))) (by exact trivial) (by repeat (first | exact Ent.refl _ | (apply Ent.cons; · repeat (first | exact pk_head _ _ | apply pk_tail)) | apply Ent.skip))
                exact HR.nil
              exact HR.nil
            exact HR.nil
          exact HR.nil
        refine HR.consE (i := 7) (some 32) rfl rfl rfl (os_bslv (vs := [.int .i64 (a.led)]) T.un41 T.ti3 (by rfl) (by rfl) rfl (by simp [Value.oneCell']) (by decide) (by decide)) ?_ ?_
        · rintro _ _ ⟨b32, rfl, rfl⟩
          refine ⟨fun _ => ⟨_, (pkc (by repeat (first | exact pk_head _ _ | apply pk_tail)) (pkn _))⟩, ?_⟩
          refine H_branch (rs := [4, 11]) (by kernel_rfl) (by simp) ?_
          refine HR.cons1 (i := 4) (some 29) rfl rfl rfl (os_call2 (WN1 p pre a.id b28 hx (by omega)) Try.func19 (by decide +kernel) rfl rfl (by repeat (first | exact pk_head _ _ | apply pk_tail)) (by repeat (first | exact pk_head _ _ | apply pk_tail))) (pkc (by repeat (first | exact pk_head _ _ | apply pk_tail)) (pkn _)) ?_ ?_
          · skip
            refine H_branch (rs := [8, 11]) (by kernel_rfl) (by simp) ?_
            refine HR.cons1 (i := 8) (some 33) rfl rfl rfl (os_call2 (WI1 p (pre ++ numB a.id) 4 a.led b32 (by decide) l1) Try.func17 (by decide +kernel) rfl rfl (by repeat (first | exact pk_head _ _ | apply pk_tail)) (by repeat (first | exact pk_head _ _ | apply pk_tail))) (pkc (by repeat (first | exact pk_head _ _ | apply pk_tail)) (pkn _)) ?_ ?_
            · skip
              refine H_branch (rs := [11]) (by kernel_rfl) (by simp) ?_
              refine HR.consE (i := 11) (some 36) rfl rfl rfl (os_bslv (vs := [.int .i64 (a.fl)]) T.un41 T.ti3 (by rfl) (by rfl) rfl (by simp [Value.oneCell']) (by decide) (by decide)) ?_ ?_
              · rintro _ _ ⟨b36, rfl, rfl⟩
                refine ⟨fun _ => ⟨_, (pkc (by repeat (first | exact pk_head _ _ | apply pk_tail)) (pkn _))⟩, ?_⟩
                refine H_branch (rs := [12]) (by kernel_rfl) (by simp) ?_
                refine HR.cons1 (i := 12) (some 37) rfl rfl rfl (os_call2 (WI1 p (pre ++ numB a.id ++ be 4 a.led) 2 a.fl b36 (by decide) l2) Try.func17 (by decide +kernel) rfl rfl (by repeat (first | exact pk_head _ _ | apply pk_tail)) (by repeat (first | exact pk_head _ _ | apply pk_tail))) (pkc (by repeat (first | exact pk_head _ _ | apply pk_tail)) (pkn _)) ?_ ?_
                · skip
                  refine H_done (by kernel_rfl) ?_
                  exact Meet.cut () trivial (by repeat (first | (with_reducible exact Ag.refl _ _) | (with_reducible apply Ag.pu0) | ((with_reducible refine Ag.pu _ ?_ ?_); · exact rfl) | ((with_reducible refine Ag.mix ?_ ?_); · exact rfl) | ((with_reducible refine Ag.pus ?_ ?_); · exact rfl))) (by exact trivial) (by repeat (first | exact Ent.refl _ | (apply Ent.cons; · repeat (first | exact pk_head _ _ | apply pk_tail)) | apply Ent.skip))
                exact HR.nil
              exact HR.nil
            refine HR.consE (i := 11) (some 36) rfl rfl rfl (os_bslv (vs := [.int .i64 (a.fl)]) T.un41 T.ti3 (by rfl) (by rfl) rfl (by simp [Value.oneCell']) (by decide) (by decide)) ?_ ?_
            · rintro _ _ ⟨b36, rfl, rfl⟩
              refine ⟨fun _ => ⟨_, (pkc (by repeat (first | exact pk_head _ _ | apply pk_tail)) (pkn _))⟩, ?_⟩
              refine H_branch (rs := [8]) (by kernel_rfl) (by simp) ?_
              refine HR.cons1 (i := 8) (some 33) rfl rfl rfl (os_call2 (WI1 p (pre ++ numB a.id) 4 a.led b32 (by decide) l1) Try.func17 (by decide +kernel) rfl rfl (by repeat (first | exact pk_head _ _ | apply pk_tail)) (by repeat (first | exact pk_head _ _ | apply pk_tail))) (pkc (by repeat (first | exact pk_head _ _ | apply pk_tail)) (pkn _)) ?_ ?_
              · skip
                refine H_branch (rs := [12]) (by kernel_rfl) (by simp) ?_
                refine HR.cons1 (i := 12) (some 37) rfl rfl rfl (os_call2 (WI1 p (pre ++ numB a.id ++ be 4 a.led) 2 a.fl b36 (by decide) l2) Try.func17 (by decide +kernel) rfl rfl (by repeat (first | exact pk_head _ _ | apply pk_tail)) (by repeat (first | exact pk_head _ _ | apply pk_tail))) (pkc (by repeat (first | exact pk_head _ _ | apply pk_tail)) (pkn _)) ?_ ?_
                · skip
                  refine H_done (by kernel_rfl) ?_
                  exact Meet.cut () trivial (by repeat (first | (with_reducible exact Ag.refl _ _) | (with_reducible apply Ag.pu0) | ((with_reducible refine Ag.pu _ ?_ ?_); · exact rfl) | ((with_reducible refine Ag.mix ?_ ?_); · exact rfl) | ((with_reducible refine Ag.pus ?_ ?_); · exact rfl))) (by exact trivial) (by repeat (first | exact Ent.refl _ | (apply Ent.cons; · repeat (first | exact pk_head _ _ | apply pk_tail)) | apply Ent.skip))
                exact HR.nil
              exact HR.nil
            exact HR.nil
          refine HR.consE (i := 11) (some 36) rfl rfl rfl (os_bslv (vs := [.int .i64 (a.fl)]) T.un41 T.ti3 (by rfl) (by rfl) rfl (by simp [Value.oneCell']) (by decide) (by decide)) ?_ ?_
          · rintro _ _ ⟨b36, rfl, rfl⟩
            refine ⟨fun _ => ⟨_, (pkc (by repeat (first | exact pk_head _ _ | apply pk_tail)) (pkn _))⟩, ?_⟩
            refine H_branch (rs := [4]) (by kernel_rfl) (by simp) ?_
            refine HR.cons1 (i := 4) (some 29) rfl rfl rfl (os_call2 (WN1 p pre a.id b28 hx (by omega)) Try.func19 (by decide +kernel) rfl rfl (by repeat (first | exact pk_head _ _ | apply pk_tail)) (by repeat (first | exact pk_head _ _ | apply pk_tail))) (pkc (by repeat (first | exact pk_head _ _ | apply pk_tail)) (pkn _)) ?_ ?_
            · skip
              refine H_branch (rs := [8]) (by kernel_rfl) (by simp) ?_
              refine HR.cons1 (i := 8) (some 33) rfl rfl rfl (os_call2 (WI1 p (pre ++ numB a.id) 4 a.led b32 (by decide) l1) Try.func17 (by decide +kernel) rfl rfl (by repeat (first | exact pk_head _ _ | apply pk_tail)) (by repeat (first | exact pk_head _ _ | apply pk_tail))) (pkc (by repeat (first | exact pk_head _ _ | apply pk_tail)) (pkn _)) ?_ ?_
              · skip
                refine H_branch (rs := [12]) (by kernel_rfl) (by simp) ?_
                refine HR.cons1 (i := 12) (some 37) rfl rfl rfl (os_call2 (WI1 p (pre ++ numB a.id ++ be 4 a.led) 2 a.fl b36 (by decide) l2) Try.func17 (by decide +kernel) rfl rfl (by repeat (first | exact pk_head _ _ | apply pk_tail)) (by repeat (first | exact pk_head _ _ | apply pk_tail))) (pkc (by repeat (first | exact pk_head _ _ | apply pk_tail)) (pkn _)) ?_ ?_
                · skip
                  refine H_done (by kernel_rfl) ?_
                  exact Meet.cut () trivial (by repeat (first | (with_reducible exact Ag.refl _ _) | (with_reducible apply Ag.pu0) | ((with_reducible refine Ag.pu _ ?_ ?_); · exact rfl) | ((with_reducible refine Ag.mix ?_ ?_); · exact rfl) | ((with_reducible refine Ag.pus ?_ ?_); · exact rfl))) (by exact trivial) (by repeat (first | exact Ent.refl _ | (apply Ent.cons; · repeat (first | exact pk_head _ _ | apply pk_tail)) | apply Ent.skip))
                exact HR.nil
              exact HR.nil
            exact HR.nil
          exact HR.nil
        refine HR.consE (i := 11) (some 36) rfl rfl rfl (os_bslv (vs := [.int .i64 (a.fl)]) T.un41 T.ti3 (by rfl) (by rfl) rfl (by simp [Value.oneCell']) (by decide) (by decide)) ?_ ?_
        · rintro _ _ ⟨b36, rfl, rfl⟩
          refine ⟨fun _ => ⟨_, (pkc (by repeat (first | exact pk_head _ _ | apply pk_tail)) (pkn _))⟩, ?_⟩
          refine H_branch (rs := [4, 7]) (by kernel_rfl) (by simp) ?_
          refine HR.cons1 (i := 4) (some 29) rfl rfl rfl (os_call2 (WN1 p pre a.id b28 hx (by omega)) Try.func19 (by decide +kernel) rfl rfl (by repeat (first | exact pk_head _ _ | apply pk_tail)) (by repeat (first | exact pk_head _ _ | apply pk_tail))) (pkc (by repeat (first | exact pk_head _ _ | apply pk_tail)) (pkn _)) ?_ ?_
          · skip
            refine H_branch (rs := [7]) (by kernel_rfl) (by simp) ?_
            refine HR.consE (i := 7) (some 32) rfl rfl rfl (os_bslv (vs := [.int .i64 (a.led)]) T.un41 T.ti3 (by rfl) (by rfl) rfl (by simp [Value.oneCell']) (by decide) (by decide)) ?_ ?_
            · rintro _ _ ⟨b32, rfl, rfl⟩
              refine ⟨fun _ => ⟨_, (pkc (by repeat (first | exact pk_head _ _ | apply pk_tail)) (pkn _))⟩, ?_⟩
              refine H_branch (rs := [8]) (by kernel_rfl) (by simp) ?_
              refine HR.cons1 (i := 8) (some 33) rfl rfl rfl (os_call2 (WI1 p (pre ++ numB a.id) 4 a.led b32 (by decide) l1) Try.func17 (by decide +kernel) rfl rfl (by repeat (first | exact pk_head _ _ | apply pk_tail)) (by repeat (first | exact pk_head _ _ | apply pk_tail))) (pkc (by repeat (first | exact pk_head _ _ | apply pk_tail)) (pkn _)) ?_ ?_
              · skip
                refine H_branch (rs := [12]) (by kernel_rfl) (by simp) ?_
                refine HR.cons1 (i := 12) (some 37) rfl rfl rfl (os_call2 (WI1 p (pre ++ numB a.id ++ be 4 a.led) 2 a.fl b36 (by decide) l2) Try.func17 (by decide +kernel) rfl rfl (by repeat (first | exact pk_head _ _ | apply pk_tail)) (by repeat (first | exact pk_head _ _ | apply pk_tail))) (pkc (by repeat (first | exact pk_head _ _ | apply pk_tail)) (pkn _)) ?_ ?_
                · skip
                  refine H_done (by kernel_rfl) ?_
                  exact Meet.cut () trivial (by repeat (first | (with_reducible exact Ag.refl _ _) | (with_reducible apply Ag.pu0) | ((with_reducible refine Ag.pu _ ?_ ?_); · exact rfl) | ((with_reducible refine Ag.mix ?_ ?_); · exact rfl) | ((with_reducible refine Ag.pus ?_ ?_); · exact rfl))) (by exact trivial) (by repeat (first | exact Ent.refl _ | (apply Ent.cons; · repeat (first | exact pk_head _ _ | apply pk_tail)) | apply Ent.skip))
                exact HR.nil
              exact HR.nil
            exact HR.nil
          refine HR.consE (i := 7) (some 32) rfl rfl rfl (os_bslv (vs := [.int .i64 (a.led)]) T.un41 T.ti3 (by rfl) (by rfl) rfl (by simp [Value.oneCell']) (by decide) (by decide)) ?_ ?_
          · rintro _ _ ⟨b32, rfl, rfl⟩
            refine ⟨fun _ => ⟨_, (pkc (by repeat (first | exact pk_head _ _ | apply pk_tail)) (pkn _))⟩, ?_⟩
            refine H_branch (rs := [4]) (by kernel_rfl) (by simp) ?_
            refine HR.cons1 (i := 4) (some 29) rfl rfl rfl (os_call2 (WN1 p pre a.id b28 hx (by omega)) Try.func19 (by decide +kernel) rfl rfl (by repeat (first | exact pk_head _ _ | apply pk_tail)) (by repeat (first | exact pk_head _ _ | apply pk_tail))) (pkc (by repeat (first | exact pk_head _ _ | apply pk_tail)) (pkn _)) ?_ ?_
            · skip
              refine H_branch (rs := [8]) (by kernel_rfl) (by simp) ?_
              refine HR.cons1 (i := 8) (some 33) rfl rfl rfl (os_call2 (WI1 p (pre ++ numB a.id) 4 a.led b32 (by decide) l1) Try.func17 (by decide +kernel) rfl rfl (by repeat (first | exact pk_head _ _ | apply pk_tail)) (by repeat (first | exact pk_head _ _ | apply pk_tail))) (pkc (by repeat (first | exact pk_head _ _ | apply pk_tail)) (pkn _)) ?_ ?_
              · skip
                refine H_branch (rs := [12]) (by kernel_rfl) (by simp) ?_
                refine HR.cons1 (i := 12) (some 37) rfl rfl rfl (os_call2 (WI1 p (pre ++ numB a.id ++ be 4 a.led) 2 a.fl b36 (by decide) l2) Try.func17 (by decide +kernel) rfl rfl (by repeat (first | exact pk_head _ _ | apply pk_tail)) (by repeat (first | exact pk_head _ _ | apply pk_tail))) (pkc (by repeat (first | exact pk_head _ _ | apply pk_tail)) (pkn _)) ?_ ?_
                · skip
                  refine H_done (by kernel_rfl) ?_
                  exact Meet.cut () trivial (by repeat (first | (with_reducible exact Ag.refl _ _) | (with_reducible apply Ag.pu0) | ((with_reducible refine Ag.pu _ ?_ ?_); · exact rfl) | ((with_reducible refine Ag.mix ?_ ?_); · exact rfl) | ((with_reducible refine Ag.pus ?_ ?_); · exact rfl))) (by exact trivial) (by repeat (first | exact Ent.refl _ | (apply Ent.cons; · repeat (first | exact pk_head _ _ | apply pk_tail)) | apply Ent.skip))
                exact HR.nil
              exact HR.nil
            exact HR.nil
          exact HR.nil
        exact HR.nil
      refine HR.consE (i := 7) (some 32) rfl rfl rfl (os_bslv (vs := [.int .i64 (a.led)]) T.un41 T.ti3 (by rfl) (by rfl) rfl (by simp [Value.oneCell']) (by decide) (by decide)) ?_ ?_
      · rintro _ _ ⟨b32, rfl, rfl⟩
        refine ⟨fun _ => ⟨_, (pkc (by repeat (first | exact pk_head _ _ | apply pk_tail)) (pkn _))⟩, ?_⟩
        refine H_branch (rs := [3, 11]) (by kernel_rfl) (by simp) ?_
        refine HR.consE (i := 3) (some 28) rfl rfl rfl (os_bslR ([a.id].map nc) T.un74 T.ti26 (by rfl) (by rfl) (by simp [nc_len]) (by decide) (by decide)) ?_ ?_
        · rintro _ _ ⟨b28, rfl, rfl⟩
          refine ⟨fun _ => ⟨_, (pkc (by repeat (first | exact pk_head _ _ | apply pk_tail)) (pkn _))⟩, ?_⟩
          refine H_branch (rs := [4, 11]) (by kernel_rfl) (by simp) ?_
          refine HR.cons1 (i := 4) (some 29) rfl rfl rfl (os_call2 (WN1 p pre a.id b28 hx (by omega)) Try.func19 (by decide +kernel) rfl rfl (by repeat (first | exact pk_head _ _ | apply pk_tail)) (by repeat (first | exact pk_head _ _ | apply pk_tail))) (pkc (by repeat (first | exact pk_head _ _ | apply pk_tail)) (pkn _)) ?_ ?_
          · skip
            refine H_branch (rs := [8, 11]) (by kernel_rfl) (by simp) ?_
            refine HR.cons1 (i := 8) (some 33) rfl rfl rfl (os_call2 (WI1 p (pre ++ numB a.id) 4 a.led b32 (by decide) l1) Try.func17 (by decide +kernel) rfl rfl (by repeat (first | exact pk_head _ _ | apply pk_tail)) (by repeat (first | exact pk_head _ _ | apply pk_tail))) (pkc (by repeat (first | exact pk_head _ _ | apply pk_tail)) (pkn _)) ?_ ?_
            · skip
              refine H_branch (rs := [11]) (by kernel_rfl) (by simp) ?_
              refine HR.consE (i := 11) (some 36) rfl rfl rfl (os_bslv (vs := [.int .i64 (a.fl)]) T.un41 T.ti3 (by rfl) (by rfl) rfl (by simp [Value.oneCell']) (by decide) (by decide)) ?_ ?_
              · rintro _ _ ⟨b36, rfl, rfl⟩
                refine ⟨fun _ => ⟨_, (pkc (by repeat (first | exact pk_head _ _ | apply pk_tail)) (pkn _))⟩, ?_⟩
                refine H_branch (rs := [12]) (by kernel_rfl) (by simp) ?_
                refine HR.cons1 (i := 12) (some 37) rfl rfl rfl (os_call2 (WI1 p (pre ++ numB a.id ++ be 4 a.led) 2 a.fl b36 (by decide) l2) Try.func17 (by decide +kernel) rfl rfl (by repeat (first | exact pk_head _ _ | apply pk_tail)) (by repeat (first | exact pk_head _ _ | apply pk_tail))) (pkc (by repeat (first | exact pk_head _ _ | apply pk_tail)) (pkn _)) ?_ ?_
                · skip
                  refine H_done (by kernel_rfl) ?_
                  exact Meet.cut () trivial (by repeat (first | (with_reducible exact Ag.refl _ _) | (with_reducible apply Ag.pu0) | ((with_reducible refine Ag.pu _ ?_ ?_); · exact rfl) | ((with_reducible refine Ag.mix ?_ ?_); · exact rfl) | ((with_reducible refine Ag.pus ?_ ?_); · exact rfl))) (by exact trivial) (by repeat (first | exact Ent.refl _ | (apply Ent.cons; · repeat (first | exact pk_head _ _ | apply pk_tail)) | apply Ent.skip))
                exact HR.nil
              exact HR.nil
            refine HR.consE (i := 11) (some 36) rfl rfl rfl (os_bslv (vs := [.int .i64 (a.fl)]) T.un41 T.ti3 (by rfl) (by rfl) rfl (by simp [Value.oneCell']) (by decide) (by decide)) ?_ ?_
            · rintro _ _ ⟨b36, rfl, rfl⟩
              refine ⟨fun _ => ⟨_, (pkc (by repeat (first | exact pk_head _ _ | apply pk_tail)) (pkn _))⟩, ?_⟩
              refine H_branch (rs := [8]) (by kernel_rfl) (by simp) ?_
              refine HR.cons1 (i := 8) (some 33) rfl rfl rfl (os_call2 (WI1 p (pre ++ numB a.id) 4 a.led b32 (by decide) l1) Try.func17 (by decide +kernel) rfl rfl (by repeat (first | exact pk_head _ _ | apply pk_tail)) (by repeat (first | exact pk_head _ _ | apply pk_tail))) (pkc (by repeat (first | exact pk_head _ _ | apply pk_tail)) (pkn _)) ?_ ?_
              · skip
                refine H_branch (rs := [12]) (by kernel_rfl) (by simp) ?_
                refine HR.cons1 (i := 12) (some 37) rfl rfl rfl (os_call2 (WI1 p (pre ++ numB a.id ++ be 4 a.led) 2 a.fl b36 (by decide) l2) Try.func17 (by decide +kernel) rfl rfl (by repeat (first | exact pk_head _ _ | apply pk_tail)) (by repeat (first | exact pk_head _ _ | apply pk_tail))) (pkc (by repeat (first | exact pk_head _ _ | apply pk_tail)) (pkn _)) ?_ ?_
                · skip
                  refine H_done (by kernel_rfl) ?_
                  exact Meet.cut () trivial (by repeat (first | (with_reducible exact Ag.refl _ _) | (with_reducible apply Ag.pu0) | ((with_reducible refine Ag.pu _ ?_ ?_); · exact rfl) | ((with_reducible refine Ag.mix ?_ ?_); · exact rfl) | ((with_reducible refine Ag.pus ?_ ?_); · exact rfl))) (by exact trivial) (by repeat (first | exact Ent.refl _ | (apply Ent.cons; · repeat (first | exact pk_head _ _ | apply pk_tail)) | apply Ent.skip))
                exact HR.nil
              exact HR.nil
            exact HR.nil
          refine HR.consE (i := 11) (some 36) rfl rfl rfl (os_bslv (vs := [.int .i64 (a.fl)]) T.un41 T.ti3 (by rfl) (by rfl) rfl (by simp [Value.oneCell']) (by decide) (by decide)) ?_ ?_
          · rintro _ _ ⟨b36, rfl, rfl⟩
            refine ⟨fun _ => ⟨_, (pkc (by repeat (first | exact pk_head _ _ | apply pk_tail)) (pkn _))⟩, ?_⟩
            refine H_branch (rs := [4]) (by kernel_rfl) (by simp) ?_
            refine HR.cons1 (i := 4) (some 29) rfl rfl rfl (os_call2 (WN1 p pre a.id b28 hx (by omega)) Try.func19 (by decide +kernel) rfl rfl (by repeat (first | exact pk_head _ _ | apply pk_tail)) (by repeat (first | exact pk_head _ _ | apply pk_tail))) (pkc (by repeat (first | exact pk_head _ _ | apply pk_tail)) (pkn _)) ?_ ?_
            · skip
              refine H_branch (rs := [8]) (by kernel_rfl) (by simp) ?_
              refine HR.cons1 (i := 8) (some 33) rfl rfl rfl (os_call2 (WI1 p (pre ++ numB a.id) 4 a.led b32 (by decide) l1) Try.func17 (by decide +kernel) rfl rfl (by repeat (first | exact pk_head _ _ | apply pk_tail)) (by repeat (first | exact pk_head _ _ | apply pk_tail))) (pkc (by repeat (first | exact pk_head _ _ | apply pk_tail)) (pkn _)) ?_ ?_
              · skip
                refine H_branch (rs := [12]) (by kernel_rfl) (by simp) ?_
                refine HR.cons1 (i := 12) (some 37) rfl rfl rfl (os_call2 (WI1 p (pre ++ numB a.id ++ be 4 a.led) 2 a.fl b36 (by decide) l2) Try.func17 (by decide +kernel) rfl rfl (by repeat (first | exact pk_head _ _ | apply pk_tail)) (by repeat (first | exact pk_head _ _ | apply pk_tail))) (pkc (by repeat (first | exact pk_head _ _ | apply pk_tail)) (pkn _)) ?_ ?_
                · skip
                  refine H_done (by kernel_rfl) ?_
                  exact Meet.cut () trivial (by repeat (first | (with_reducible exact Ag.refl _ _) | (with_reducible apply Ag.pu0) | ((with_reducible refine Ag.pu _ ?_ ?_); · exact rfl) | ((with_reducible refine Ag.mix ?_ ?_); · exact rfl) | ((with_reducible refine Ag.pus ?_ ?_); · exact rfl))) (by exact trivial) (by repeat (first | exact Ent.refl _ | (apply Ent.cons; · repeat (first | exact pk_head _ _ | apply pk_tail)) | apply Ent.skip))
                exact HR.nil
              exact HR.nil
            exact HR.nil
          exact HR.nil
        refine HR.consE (i := 11) (some 36) rfl rfl rfl (os_bslv (vs := [.int .i64 (a.fl)]) T.un41 T.ti3 (by rfl) (by rfl) rfl (by simp [Value.oneCell']) (by decide) (by decide)) ?_ ?_
        · rintro _ _ ⟨b36, rfl, rfl⟩
          refine ⟨fun _ => ⟨_, (pkc (by repeat (first | exact pk_head _ _ | apply pk_tail)) (pkn _))⟩, ?_⟩
          refine H_branch (rs := [3]) (by kernel_rfl) (by simp) ?_
          refine HR.consE (i := 3) (some 28) rfl rfl rfl (os_bslR ([a.id].map nc) T.un74 T.ti26 (by rfl) (by rfl) (by simp [nc_len]) (by decide) (by decide)) ?_ ?_
          · rintro _ _ ⟨b28, rfl, rfl⟩
            refine ⟨fun _ => ⟨_, (pkc (by repeat (first | exact pk_head _ _ | apply pk_tail)) (pkn _))⟩, ?_⟩
            refine H_branch (rs := [4]) (by kernel_rfl) (by simp) ?_
            refine HR.cons1 (i := 4) (some 29) rfl rfl rfl (os_call2 (WN1 p pre a.id b28 hx (by omega)) Try.func19 (by decide +kernel) rfl rfl (by repeat (first | exact pk_head _ _ | apply pk_tail)) (by repeat (first | exact pk_head _ _ | apply pk_tail))) (pkc (by repeat (first | exact pk_head _ _ | apply pk_tail)) (pkn _)) ?_ ?_
            · skip
              refine H_branch (rs := [8]) (by kernel_rfl) (by simp) ?_
              refine HR.cons1 (i := 8) (some 33) rfl rfl rfl (os_call2 (WI1 p (pre ++ numB a.id) 4 a.led b32 (by decide) l1) Try.func17 (by decide +kernel) rfl rfl (by repeat (first | exact pk_head _ _ | apply pk_tail)) (by repeat (first | exact pk_head _ _ | apply pk_tail))) (pkc (by repeat (first | exact pk_head _ _ | apply pk_tail)) (pkn _)) ?_ ?_
              · skip
                refine H_branch (rs := [12]) (by kernel_rfl) (by simp) ?_
                refine HR.cons1 (i := 12) (some 37) rfl rfl rfl (os_call2 (WI1 p (pre ++ numB a.id ++ be 4 a.led) 2 a.fl b36 (by decide) l2) Try.func17 (by decide +kernel) rfl rfl (by repeat (first | exact pk_head _ _ | apply pk_tail)) (by repeat (first | exact pk_head _ _ | apply pk_tail))) (pkc (by repeat (first | exact pk_head _ _ | apply pk_tail)) (pkn _)) ?_ ?_
                · skip
                  refine H_done (by kernel_rfl) ?_
                  exact Meet.cut () trivial (by repeat (first | (with_reducible exact Ag.refl _ _) | (with_reducible apply Ag.pu0) | ((with_reducible refine Ag.pu _ ?_ ?_); · exact rfl) | ((with_reducible refine Ag.mix ?_ ?_); · exact rfl) | ((with_reducible refine Ag.pus ?_ ?_); · exact rfl))) (by exact trivial) (by repeat (first | exact Ent.refl _ | (apply Ent.cons; · repeat (first | exact pk_head _ _ | apply pk_tail)) | apply Ent.skip))
                exact HR.nil
              exact HR.nil
            exact HR.nil
          exact HR.nil
        exact HR.nil
      refine HR.consE (i := 11) (some 36) rfl rfl rfl (os_bslv (vs := [.int .i64 (a.fl)]) T.un41 T.ti3 (by rfl) (by rfl) rfl (by simp [Value.oneCell']) (by decide) (by decide)) ?_ ?_
      · rintro _ _ ⟨b36, rfl, rfl⟩
        refine ⟨fun _ => ⟨_, (pkc (by repeat (first | exact pk_head _ _ | apply pk_tail)) (pkn _))⟩, ?_⟩
        refine H_branch (rs := [3, 7]) (by kernel_rfl) (by simp) ?_
        refine HR.consE (i := 3) (some 28) rfl rfl rfl (os_bslR ([a.id].map nc) T.un74 T.ti26 (by rfl) (by rfl) (by simp [nc_len]) (by decide) (by decide)) ?_ ?_
        · rintro _ _ ⟨b28, rfl, rfl⟩
          refine ⟨fun _ => ⟨_, (pkc (by repeat (first | exact pk_head _ _ | apply pk_tail)) (pkn _))⟩, ?_⟩
          refine H_branch (rs := [4, 7]) (by kernel_rfl) (by simp) ?_
          refine HR.cons1 (i := 4) (some 29) rfl rfl rfl (os_call2 (WN1 p pre a.id b28 hx (by omega)) Try.func19 (by decide +kernel) rfl rfl (by repeat (first | exact pk_head _ _ | apply pk_tail)) (by repeat (first | exact pk_head _ _ | apply pk_tail))) (pkc (by repeat (first | exact pk_head _ _ | apply pk_tail)) (pkn _)) ?_ ?_
          · skip
            refine H_branch (rs := [7]) (by kernel_rfl) (by simp) ?_
            refine HR.consE (i := 7) (some 32) rfl rfl rfl (os_bslv (vs := [.int .i64 (a.led)]) T.un41 T.ti3 (by rfl) (by rfl) rfl (by simp [Value.oneCell']) (by decide) (by decide)) ?_ ?_
            · rintro _ _ ⟨b32, rfl, rfl⟩
              refine ⟨fun _ => ⟨_, (pkc (by repeat (first | exact pk_head _ _ | apply pk_tail)) (pkn _))⟩, ?_⟩
              refine H_branch (rs := [8]) (by kernel_rfl) (by simp) ?_
              refine HR.cons1 (i := 8) (some 33) rfl rfl rfl (os_call2 (WI1 p (pre ++ numB a.id) 4 a.led b32 (by decide) l1) Try.func17 (by decide +kernel) rfl rfl (by repeat (first | exact pk_head _ _ | apply pk_tail)) (by repeat (first | exact pk_head _ _ | apply pk_tail))) (pkc (by repeat (first | exact pk_head _ _ | apply pk_tail)) (pkn _)) ?_ ?_
              · skip
                refine H_branch (rs := [12]) (by kernel_rfl) (by simp) ?_
                refine HR.cons1 (i := 12) (some 37) rfl rfl rfl (os_call2 (WI1 p (pre ++ numB a.id ++ be 4 a.led) 2 a.fl b36 (by decide) l2) Try.func17 (by decide +kernel) rfl rfl (by repeat (first | exact pk_head _ _ | apply pk_tail)) (by repeat (first | exact pk_head _ _ | apply pk_tail))) (pkc (by repeat (first | exact pk_head _ _ | apply pk_tail)) (pkn _)) ?_ ?_
                · skip
                  refine H_done (by kernel_rfl) ?_
                  exact Meet.cut () trivial (by repeat (first | (with_reducible exact Ag.refl _ _) | (with_reducible apply Ag.pu0) | ((with_reducible refine Ag.pu _ ?_ ?_); · exact rfl) | ((with_reducible refine Ag.mix ?_ ?_); · exact rfl) | ((with_reducible refine Ag.pus ?_ ?_); · exact rfl))) (by exact trivial) (by repeat (first | exact Ent.refl _ | (apply Ent.cons; · repeat (first | exact pk_head _ _ | apply pk_tail)) | apply Ent.skip))
                exact HR.nil
              exact HR.nil
            exact HR.nil
          refine HR.consE (i := 7) (some 32) rfl rfl rfl (os_bslv (vs := [.int .i64 (a.led)]) T.un41 T.ti3 (by rfl) (by rfl) rfl (by simp [Value.oneCell']) (by decide) (by decide)) ?_ ?_
          · rintro _ _ ⟨b32, rfl, rfl⟩
            refine ⟨fun _ => ⟨_, (pkc (by repeat (first | exact pk_head _ _ | apply pk_tail)) (pkn _))⟩, ?_⟩
            refine H_branch (rs := [4]) (by kernel_rfl) (by simp) ?_
            refine HR.cons1 (i := 4) (some 29) rfl rfl rfl (os_call2 (WN1 p pre a.id b28 hx (by omega)) Try.func19 (by decide +kernel) rfl rfl (by repeat (first | exact pk_head _ _ | apply pk_tail)) (by repeat (first | exact pk_head _ _ | apply pk_tail))) (pkc (by repeat (first | exact pk_head _ _ | apply pk_tail)) (pkn _)) ?_ ?_
            · skip
              refine H_branch (rs := [8]) (by kernel_rfl) (by simp) ?_
              refine HR.cons1 (i := 8) (some 33) rfl rfl rfl (os_call2 (WI1 p (pre ++ numB a.id) 4 a.led b32 (by decide) l1) Try.func17 (by decide +kernel) rfl rfl (by repeat (first | exact pk_head _ _ | apply pk_tail)) (by repeat (first | exact pk_head _ _ | apply pk_tail))) (pkc (by repeat (first | exact pk_head _ _ | apply pk_tail)) (pkn _)) ?_ ?_
              · skip
                refine H_branch (rs := [12]) (by kernel_rfl) (by simp) ?_
                refine HR.cons1 (i := 12) (some 37) rfl rfl rfl (os_call2 (WI1 p (pre ++ numB a.id ++ be 4 a.led) 2 a.fl b36 (by decide) l2) Try.func17 (by decide +kernel) rfl rfl (by repeat (first | exact pk_head _ _ | apply pk_tail)) (by repeat (first | exact pk_head _ _ | apply pk_tail))) (pkc (by repeat (first | exact pk_head _ _ | apply pk_tail)) (pkn _)) ?_ ?_
                · skip
                  refine H_done (by kernel_rfl) ?_
                  exact Meet.cut () trivial (by repeat (first | (with_reducible exact Ag.refl _ _) | (with_reducible apply Ag.pu0) | ((with_reducible refine Ag.pu _ ?_ ?_); · exact rfl) | ((with_reducible refine Ag.mix ?_ ?_); · exact rfl) | ((with_reducible refine Ag.pus ?_ ?_); · exact rfl))) (by exact trivial) (by repeat (first | exact Ent.refl _ | (apply Ent.cons; · repeat (first | exact pk_head _ _ | apply pk_tail)) | apply Ent.skip))
                exact HR.nil
              exact HR.nil
            exact HR.nil
          exact HR.nil
        refine HR.consE (i := 7) (some 32) rfl rfl rfl (os_bslv (vs := [.int .i64 (a.led)]) T.un41 T.ti3 (by rfl) (by rfl) rfl (by simp [Value.oneCell']) (by decide) (by decide)) ?_ ?_
        · rintro _ _ ⟨b32, rfl, rfl⟩
          refine ⟨fun _ => ⟨_, (pkc (by repeat (first | exact pk_head _ _ | apply pk_tail)) (pkn _))⟩, ?_⟩
          refine H_branch (rs := [3]) (by kernel_rfl) (by simp) ?_
          refine HR.consE (i := 3) (some 28) rfl rfl rfl (os_bslR ([a.id].map nc) T.un74 T.ti26 (by rfl) (by rfl) (by simp [nc_len]) (by decide) (by decide)) ?_ ?_
          · rintro _ _ ⟨b28, rfl, rfl⟩
            refine ⟨fun _ => ⟨_, (pkc (by repeat (first | exact pk_head _ _ | apply pk_tail)) (pkn _))⟩, ?_⟩
            refine H_branch (rs := [4]) (by kernel_rfl) (by simp) ?_
            refine HR.cons1 (i := 4) (some 29) rfl rfl rfl (os_call2 (WN1 p pre a.id b28 hx (by omega)) Try.func19 (by decide +kernel) rfl rfl (by repeat (first | exact pk_head _ _ | apply pk_tail)) (by repeat (first | exact pk_head _ _ | apply pk_tail))) (pkc (by repeat (first | exact pk_head _ _ | apply pk_tail)) (pkn _)) ?_ ?_
            · skip
              refine H_branch (rs := [8]) (by kernel_rfl) (by simp) ?_
              refine HR.cons1 (i := 8) (some 33) rfl rfl rfl (os_call2 (WI1 p (pre ++ numB a.id) 4 a.led b32 (by decide) l1) Try.func17 (by decide +kernel) rfl rfl (by repeat (first | exact pk_head _ _ | apply pk_tail)) (by repeat (first | exact pk_head _ _ | apply pk_tail))) (pkc (by repeat (first | exact pk_head _ _ | apply pk_tail)) (pkn _)) ?_ ?_
              · skip
                refine H_branch (rs := [12]) (by kernel_rfl) (by simp) ?_
                refine HR.cons1 (i := 12) (some 37) rfl rfl rfl (os_call2 (WI1 p (pre ++ numB a.id ++ be 4 a.led) 2 a.fl b36 (by decide) l2) Try.func17 (by decide +kernel) rfl rfl (by repeat (first | exact pk_head _ _ | apply pk_tail)) (by repeat (first | exact pk_head _ _ | apply pk_tail))) (pkc (by repeat (first | exact pk_head _ _ | apply pk_tail)) (pkn _)) ?_ ?_
                · skip
                  refine H_done (by kernel_rfl) ?_
                  exact Meet.cut () trivial (by repeat (first | (with_reducible exact Ag.refl _ _) | (with_reducible apply Ag.pu0) | ((with_reducible refine Ag.pu _ ?_ ?_); · exact rfl) | ((with_reducible refine Ag.mix ?_ ?_); · exact rfl) | ((with_reducible refine Ag.pus ?_ ?_); · exact rfl))) (by exact trivial) (by repeat (first | exact Ent.refl _ | (apply Ent.cons; · repeat (first | exact pk_head _ _ | apply pk_tail)) | apply Ent.skip))
                exact HR.nil
              exact HR.nil
            exact HR.nil
          exact HR.nil
        exact HR.nil
      exact HR.nil
    intro _ g7 _
    repeat (first | refine CW.seq ?_ | refine PW.then_ ?_ | refine CW.block ?_ | refine CW.skip ?_ | refine CW.ret ?_ | refine PW.then_ret ?_ | refine PW.block_ret ?_ | refine Cut.ret ?_ | refine Rnd.ret ?_ | refine PW.block_normal ?_ | refine CW.exit ?_ | refine PW.then_exit ?_ | refine PW.block_hit ?_ | refine PW.block_miss rfl ?_ | refine Cut.exit ?_ | refine Rnd.exit ?_)
    refine CW.region ?_
    refine L1 (ps_add_i64 rfl rfl (by omega) (by omega)).os ?_
    refine L1 (ps_move rfl).os ?_
    refine LW.nil ?_
    exact Meet.round (q.accs.length - (i + 1)) (i + 1) (by omega) ⟨hlt, rfl⟩ (by repeat (first | (with_reducible exact Ag.refl _ _) | (with_reducible apply Ag.pu0) | ((with_reducible refine Ag.pu _ ?_ ?_); · exact rfl) | ((with_reducible refine Ag.mix ?_ ?_); · exact rfl) | ((with_reducible refine Ag.pus ?_ ?_); · exact rfl))) ⟨rfl, trivial⟩ (by rw [hnext]; exact (by repeat (first | exact Ent.refl _ | (apply Ent.cons; · repeat (first | exact pk_head _ _ | apply pk_tail)) | apply Ent.skip)))
  · have hil : i = q.accs.length := by omega
    subst hil
    rw [List.take_length]
    refine CW.region ?_
    refine L1 (ps_f (ps_lss rfl rfl) (by omega)).os ?_
    refine LW.nil ?_
    repeat (first | refine CW.seq ?_ | refine PW.then_ ?_ | refine CW.block ?_ | refine CW.skip ?_ | refine CW.ret ?_ | refine PW.then_ret ?_ | refine PW.block_ret ?_ | refine Cut.ret ?_ | refine Rnd.ret ?_ | refine PW.block_normal ?_ | refine CW.exit ?_ | refine PW.then_exit ?_ | refine PW.block_hit ?_ | refine PW.block_miss rfl ?_ | refine Cut.exit ?_ | refine Rnd.exit ?_)
    refine CW.cond_false rfl ?_
    repeat (first | refine CW.seq ?_ | refine PW.then_ ?_ | refine CW.block ?_ | refine CW.skip ?_ | refine CW.ret ?_ | refine PW.then_ret ?_ | refine PW.block_ret ?_ | refine Cut.ret ?_ | refine Rnd.ret ?_ | refine PW.block_normal ?_ | refine CW.exit ?_ | refine PW.then_exit ?_ | refine PW.block_hit ?_ | refine PW.block_miss rfl ?_ | refine Cut.exit ?_ | refine Rnd.exit ?_)
    exact Fin.end0 rfl [_, _] rfl (by repeat (first | exact Ent.refl _ | (apply Ent.cons; · repeat (first | exact pk_head _ _ | apply pk_tail)) | apply Ent.skip))
def num5 (a : TrS) : List UInt8 := numB a.id ++ numB a.deb ++ numB a.cre ++ numB a.amo ++ numB a.pen
theorem WN5 (p : Nat) (bs : List UInt8) (x y z u v b : Nat) (hx : x < M128 ∧ y < M128 ∧ z < M128 ∧ u < M128 ∧ v < M128) (hb : bs.length ≤ 1000000) : FSpec Try.prog 19 [ptr p, .slice (some ⟨b, 0, none⟩) 5 5] [WrAt p bs, cb b 26 ([x, y, z, u, v].map nc).flatten] (fun r As => r = ptr p ∧ As = [WrAt p (bs ++ (numB x ++ numB y ++ numB z ++ numB u ++ numB v)), cb b 26 ([x, y, z, u, v].map nc).flatten]) := by
  have h := WNs p bs [x, y, z, u, v] 5 b rfl (by decide) (by simp; omega) hb
  rw [show (([x, y, z, u, v].map numB).flatten) = numB x ++ numB y ++ numB z ++ numB u ++ numB v by simp] at h
  exact h
theorem events2 (p : Nat) (bs : List UInt8) (A : Asn) (q : RQ) (av tv : Value) (hq : RqOk q) (h1 : RowsR A av 46 (q.accs.map accCells)) (h2 : RowsR A tv 16 (q.trs.map trCells)) (hb : bs.length ≤ 1000) (hk : q.kind = 2) :
    FSpec Try.prog 35 [ptr p, .agg (rqCells q av tv).toArray] [WrAt p bs, A] (fun r As => As = [WrAt p (bs ++ be 1 q.trs.length ++ (q.trs.map trB).flatten), A]) := by
  obtain ⟨pv, cap, rfl, hcap1, hcap2, hpv⟩ := h2.len
  rw [show (List.map trCells q.trs).length = q.trs.length from List.length_map ..] at *
  have hla := hq.lt
  have hl := flat_le trB 90 trB_len q.trs
  refine FSpec.intro Try.func35 rfl 78 Try.ntmps35 (Nat.le_of_ble_eq_true rfl) fun w0 F => ?_
  show CW _ _ _ _ _ _ (_ :: _ :: F)
  repeat (first | refine CW.seq ?_ | refine PW.then_ ?_ | refine CW.block ?_ | refine CW.skip ?_ | refine CW.ret ?_ | refine PW.then_ret ?_ | refine PW.block_ret ?_ | refine Cut.ret ?_ | refine Rnd.ret ?_ | refine PW.block_normal ?_ | refine CW.exit ?_ | refine PW.then_exit ?_ | refine PW.block_hit ?_ | refine PW.block_miss rfl ?_ | refine Cut.exit ?_ | refine Rnd.exit ?_)
  refine CW.region ?_
  refine LE (os_box rfl (by rfl)) ?_
  rintro _ _ ⟨b3, rfl, rfl⟩
  refine LW.nil ?_
  repeat (first | refine CW.seq ?_ | refine PW.then_ ?_ | refine CW.block ?_ | refine CW.skip ?_ | refine CW.ret ?_ | refine PW.then_ret ?_ | refine PW.block_ret ?_ | refine Cut.ret ?_ | refine Rnd.ret ?_ | refine PW.block_normal ?_ | refine CW.exit ?_ | refine PW.then_exit ?_ | refine PW.block_hit ?_ | refine PW.block_miss rfl ?_ | refine Cut.exit ?_ | refine Rnd.exit ?_)
  refine CW.region ?_
  refine L1 (ps_fa T.fa28_0 (by decide) rfl).os ?_
  refine L1 (os_load1 (by repeat (first | exact pk_head _ _ | apply pk_tail)) T.ag3 rfl (by rfl)) ?_
  refine LW.nil ?_
  repeat (first | refine CW.seq ?_ | refine PW.then_ ?_ | refine CW.block ?_ | refine CW.skip ?_ | refine CW.ret ?_ | refine PW.then_ret ?_ | refine PW.block_ret ?_ | refine Cut.ret ?_ | refine Rnd.ret ?_ | refine PW.block_normal ?_ | refine CW.exit ?_ | refine PW.then_exit ?_ | refine PW.block_hit ?_ | refine PW.block_miss rfl ?_ | refine Cut.exit ?_ | refine Rnd.exit ?_)
  refine CW.region ?_
  refine L1 (ps_f (ps_eql rfl rfl) ((by rw [hk]; decide))).os ?_
  refine L1 (ps_assign rfl).os ?_
  refine LW.nil ?_
  repeat (first | refine CW.seq ?_ | refine PW.then_ ?_ | refine CW.block ?_ | refine CW.skip ?_ | refine CW.ret ?_ | refine PW.then_ret ?_ | refine PW.block_ret ?_ | refine Cut.ret ?_ | refine Rnd.ret ?_ | refine PW.block_normal ?_ | refine CW.exit ?_ | refine PW.then_exit ?_ | refine PW.block_hit ?_ | refine PW.block_miss rfl ?_ | refine Cut.exit ?_ | refine Rnd.exit ?_)
  refine CW.cond_false rfl ?_
  repeat (first | refine CW.seq ?_ | refine PW.then_ ?_ | refine CW.block ?_ | refine CW.skip ?_ | refine CW.ret ?_ | refine PW.then_ret ?_ | refine PW.block_ret ?_ | refine Cut.ret ?_ | refine Rnd.ret ?_ | refine PW.block_normal ?_ | refine CW.exit ?_ | refine PW.then_exit ?_ | refine PW.block_hit ?_ | refine PW.block_miss rfl ?_ | refine Cut.exit ?_ | refine Rnd.exit ?_)
  refine CW.region ?_
  refine L1 (ps_t (ps_eql rfl rfl) (hk)).os ?_
  refine L1 (ps_assign rfl).os ?_
  refine LW.nil ?_
  repeat (first | refine CW.seq ?_ | refine PW.then_ ?_ | refine CW.block ?_ | refine CW.skip ?_ | refine CW.ret ?_ | refine PW.then_ret ?_ | refine PW.block_ret ?_ | refine Cut.ret ?_ | refine Rnd.ret ?_ | refine PW.block_normal ?_ | refine CW.exit ?_ | refine PW.then_exit ?_ | refine PW.block_hit ?_ | refine PW.block_miss rfl ?_ | refine Cut.exit ?_ | refine Rnd.exit ?_)
  refine CW.cond_true rfl ?_
  repeat (first | refine CW.seq ?_ | refine PW.then_ ?_ | refine CW.block ?_ | refine CW.skip ?_ | refine CW.ret ?_ | refine PW.then_ret ?_ | refine PW.block_ret ?_ | refine Cut.ret ?_ | refine Rnd.ret ?_ | refine PW.block_normal ?_ | refine CW.exit ?_ | refine PW.then_exit ?_ | refine PW.block_hit ?_ | refine PW.block_miss rfl ?_ | refine Cut.exit ?_ | refine Rnd.exit ?_)
  refine CW.region ?_
  refine L1 (ps_move rfl).os ?_
  refine L1 (ps_fa T.fa28_2 (by decide) rfl).os ?_
  refine L1 (os_load1 (by repeat (first | exact pk_head _ _ | apply pk_tail)) T.ag23 rfl (by rfl)) ?_
  refine L1 (ps_len_sl T.un23 rfl).os ?_
  refine LE (os_bslv (vs := [.int .i64 (q.trs.length : Int)]) T.un41 T.ti3 (by rfl) (by rfl) rfl (by simp [Value.oneCell']) (by decide) (by decide)) ?_
  rintro _ _ ⟨b45, rfl, rfl⟩
  refine L1 (os_call2 (WI1 p bs 1 q.trs.length b45 (by decide) (by omega)) Try.func17 (by decide +kernel) rfl rfl (by repeat (first | exact pk_head _ _ | apply pk_tail)) (by repeat (first | exact pk_head _ _ | apply pk_tail))) ?_
  refine LW.nil ?_
  repeat (first | refine CW.seq ?_ | refine PW.then_ ?_ | refine CW.block ?_ | refine CW.skip ?_ | refine CW.ret ?_ | refine PW.then_ret ?_ | refine PW.block_ret ?_ | refine Cut.ret ?_ | refine Rnd.ret ?_ | refine PW.block_normal ?_ | refine CW.exit ?_ | refine PW.then_exit ?_ | refine PW.block_hit ?_ | refine PW.block_miss rfl ?_ | refine Cut.exit ?_ | refine Rnd.exit ?_)
  refine CW.region ?_
  refine L1 (ps_fa T.fa28_2 (by decide) rfl).os ?_
  refine L1 (os_load1 (by repeat (first | exact pk_head _ _ | apply pk_tail)) T.ag23 rfl (by rfl)) ?_
  refine L1 (ps_len_sl T.un23 rfl).os ?_
  refine L1 (ps_move rfl).os ?_
  refine LW.nil ?_
  repeat (first | refine CW.seq ?_ | refine PW.then_ ?_ | refine CW.block ?_ | refine CW.skip ?_ | refine CW.ret ?_ | refine PW.then_ret ?_ | refine PW.block_ret ?_ | refine Cut.ret ?_ | refine Rnd.ret ?_ | refine PW.block_normal ?_ | refine CW.exit ?_ | refine PW.then_exit ?_ | refine PW.block_hit ?_ | refine PW.block_miss rfl ?_ | refine Cut.exit ?_ | refine Rnd.exit ?_)
  refine CW.loopM (α := Nat) [7, 50, 51, 52, 53, 54, 55, 56, 57, 58, 59, 60, 61, 62, 63, 64, 65, 66, 67, 68, 69, 70, 71, 72, 73, 74, 75, 76, 77] (fun k i => i ≤ q.trs.length ∧ k = q.trs.length - i) (fun i => [(50, .int .i64 i)])
    (fun i => WrAt p (bs ++ be 1 q.trs.length ++ ((q.trs.take i).map trB).flatten) :: A :: cb b3 28 (rqCells q av (.slice pv q.trs.length cap)) :: F) q.trs.length 0 ⟨Nat.zero_le _, rfl⟩ ⟨rfl, trivial⟩ (by simp only [List.take_zero, List.map_nil, List.flatten_nil, List.append_nil]; exact (by repeat (first | exact Ent.refl _ | (apply Ent.cons; · repeat (first | exact pk_head _ _ | apply pk_tail)) | apply Ent.skip))) ?_
  rintro k i g ⟨hi, hkk⟩
  repeat (first | refine CW.seq ?_ | refine PW.then_ ?_ | refine CW.block ?_ | refine CW.skip ?_ | refine CW.ret ?_ | refine PW.then_ret ?_ | refine PW.block_ret ?_ | refine Cut.ret ?_ | refine Rnd.ret ?_ | refine PW.block_normal ?_ | refine CW.exit ?_ | refine PW.then_exit ?_ | refine PW.block_hit ?_ | refine PW.block_miss rfl ?_ | refine Cut.exit ?_ | refine Rnd.exit ?_)
  by_cases hlt : i < q.trs.length
  · have hsx := take_flat trB q.trs i hlt
    have hx := hq.trs q.trs[i] (List.getElem_mem hlt)
    have hli := hl i
    obtain ⟨vb, vo, rfl⟩ := hpv (fun h => by have := congrArg List.length h; simp at this; rw [this] at hlt; exact absurd hlt (Nat.not_lt_zero _))
    have hsrc := fun As Bs (hp : List.Perm As (A :: Bs)) => h2.src (i := i) (by simpa using hlt) hp
    simp only [List.getElem_map] at hsrc
    generalize q.trs[i] = a at hsx hx hsrc
    obtain ⟨pre, hpre⟩ : ∃ pre, bs ++ be 1 q.trs.length ++ ((q.trs.take i).map trB).flatten = pre := ⟨_, rfl⟩
    have hpl : pre.length ≤ 20000 := by rw [← hpre]; simp only [List.length_append, length_be]; omega
    have hnext : bs ++ be 1 q.trs.length ++ ((q.trs.take (i + 1)).map trB).flatten = pre ++ num5 a ++ (be 4 a.tim ++ be 4 a.led) ++ be 2 a.fl := by
      rw [hsx, ← List.append_assoc, hpre, trB, num5]; simp only [List.append_assoc]
    have l1 : (pre ++ num5 a).length ≤ 1000000 := by simp [num5]; omega
    have l2 : (pre ++ num5 a ++ (be 4 a.tim ++ be 4 a.led)).length ≤ 1000000 := by simp [num5]; omega
    rw [hpre]
    refine CW.region ?_
    refine L1 (ps_t (ps_lss rfl rfl) (by omega)).os ?_
    refine LW.nil ?_
    repeat (first | refine CW.seq ?_ | refine PW.then_ ?_ | refine CW.block ?_ | refine CW.skip ?_ | refine CW.ret ?_ | refine PW.then_ret ?_ | refine PW.block_ret ?_ | refine Cut.ret ?_ | refine Rnd.ret ?_ | refine PW.block_normal ?_ | refine CW.exit ?_ | refine PW.then_exit ?_ | refine PW.block_hit ?_ | refine PW.block_miss rfl ?_ | refine Cut.exit ?_ | refine Rnd.exit ?_)
    refine CW.cond_true rfl ?_
    repeat (first | refine CW.seq ?_ | refine PW.then_ ?_ | refine CW.block ?_ | refine CW.skip ?_ | refine CW.ret ?_ | refine PW.then_ret ?_ | refine PW.block_ret ?_ | refine Cut.ret ?_ | refine Rnd.ret ?_ | refine PW.block_normal ?_ | refine CW.exit ?_ | refine PW.then_exit ?_ | refine PW.block_hit ?_ | refine PW.block_miss rfl ?_ | refine Cut.exit ?_ | refine Rnd.exit ?_)
    refine CW.region ?_
    refine L1 (ps_ia_slice T.un23 T.sz71 rfl rfl (by omega) (by omega)).os ?_
    refine L1 (os_loadS (vs := trCells a) (hsrc _ _ (by repeat (first | exact pk_head _ _ | apply pk_tail))) (by simp [trCells, nc]) T.ag71 (by exact T.sz71) rfl) ?_
    refine LE (os_alloc T.ti71) ?_
    rintro _ _ ⟨b7, rfl, rfl⟩
    refine L1 (os_storeAll (b := b7) (vs := trCells a) (by repeat (first | exact pk_head _ _ | apply pk_tail)) (by exact T.sz71) rfl rfl (trCells_one a) (by rfl)) ?_
    refine LW.nil ?_
    repeat (first | refine CW.seq ?_ | refine PW.then_ ?_ | refine CW.block ?_ | refine CW.skip ?_ | refine CW.ret ?_ | refine PW.then_ret ?_ | refine PW.block_ret ?_ | refine Cut.ret ?_ | refine Rnd.ret ?_ | refine PW.block_normal ?_ | refine CW.exit ?_ | refine PW.then_exit ?_ | refine PW.block_hit ?_ | refine PW.block_miss rfl ?_ | refine Cut.exit ?_ | refine Rnd.exit ?_)
    refine CW.cutB (α := Unit) [54, 55, 56, 57, 58, 59, 60, 61, 62, 63, 64, 65, 66, 67, 68, 69, 70, 71, 72, 73, 74, 75, 76] (fun _ => True) (fun _ => []) (fun _ => WrAt p (pre ++ num5 a ++ (be 4 a.tim ++ be 4 a.led) ++ be 2 a.fl) :: A :: cb b3 28 (rqCells q av (.slice (some ⟨vb, vo, none⟩) q.trs.length cap)) :: F) ?_ ?_
    · refine CW.drawH [cb b7 71 (trCells a)] [] T.mixed ?_
      refine H_take (i := 0) (some 54) rfl rfl (by kernel_rfl) (by kernel_rfl) (by kernel_rfl) rfl (ps_move rfl).pl (by kernel_rfl) (pkc (by repeat (first | exact pk_head _ _ | apply pk_tail)) (pkn _)) ?_
      refine H_take (i := 1) (some 55) rfl rfl (by kernel_rfl) (by kernel_rfl) (by kernel_rfl) rfl (ps_fa T.fa71_0 (by decide) rfl).pl (by kernel_rfl) (pkc (by repeat (first | exact pk_head _ _ | apply pk_tail)) (pkn _)) ?_
      refine H_take (i := 2) (some 56) rfl rfl (by kernel_rfl) (by kernel_rfl) (by kernel_rfl) rfl (pl_loadN (vs := nc a.id) (by repeat (first | exact pk_head _ _ | apply pk_tail)) T.ag26 T.sz26 rfl (by rfl) (by rfl)) (by kernel_rfl) (pkc (by repeat (first | exact pk_head _ _ | apply pk_tail)) (pkn _)) ?_
      refine H_take (i := 3) (some 57) rfl rfl (by kernel_rfl) (by kernel_rfl) (by kernel_rfl) rfl (ps_fa T.fa71_1 (by decide) rfl).pl (by kernel_rfl) (pkc (by repeat (first | exact pk_head _ _ | apply pk_tail)) (pkn _)) ?_
      refine H_take (i := 4) (some 58) rfl rfl (by kernel_rfl) (by kernel_rfl) (by kernel_rfl) rfl (pl_loadN (vs := nc a.deb) (by repeat (first | exact pk_head _ _ | apply pk_tail)) T.ag26 T.sz26 rfl (by rfl) (by rfl)) (by kernel_rfl) (pkc (by repeat (first | exact pk_head _ _ | apply pk_tail)) (pkn _)) ?_
      refine H_take (i := 5) (some 59) rfl rfl (by kernel_rfl) (by kernel_rfl) (by kernel_rfl) rfl (ps_fa T.fa71_2 (by decide) rfl).pl (by kernel_rfl) (pkc (by repeat (first | exact pk_head _ _ | apply pk_tail)) (pkn _)) ?_
      refine H_take (i := 6) (some 60) rfl rfl (by kernel_rfl) (by kernel_rfl) (by kernel_rfl) rfl (pl_loadN (vs := nc a.cre) (by repeat (first | exact pk_head _ _ | apply pk_tail)) T.ag26 T.sz26 rfl (by rfl) (by rfl)) (by kernel_rfl) (pkc (by repeat (first | exact pk_head _ _ | apply pk_tail)) (pkn _)) ?_
      refine H_take (i := 7) (some 61) rfl rfl (by kernel_rfl) (by kernel_rfl) (by kernel_rfl) rfl (ps_fa T.fa71_3 (by decide) rfl).pl (by kernel_rfl) (pkc (by repeat (first | exact pk_head _ _ | apply pk_tail)) (pkn _)) ?_
      refine H_take (i := 8) (some 62) rfl rfl (by kernel_rfl) (by kernel_rfl) (by kernel_rfl) rfl (pl_loadN (vs := nc a.amo) (by repeat (first | exact pk_head _ _ | apply pk_tail)) T.ag26 T.sz26 rfl (by rfl) (by rfl)) (by kernel_rfl) (pkc (by repeat (first | exact pk_head _ _ | apply pk_tail)) (pkn _)) ?_
      refine H_take (i := 9) (some 63) rfl rfl (by kernel_rfl) (by kernel_rfl) (by kernel_rfl) rfl (ps_fa T.fa71_4 (by decide) rfl).pl (by kernel_rfl) (pkc (by repeat (first | exact pk_head _ _ | apply pk_tail)) (pkn _)) ?_
      refine H_take (i := 10) (some 64) rfl rfl (by kernel_rfl) (by kernel_rfl) (by kernel_rfl) rfl (pl_loadN (vs := nc a.pen) (by repeat (first | exact pk_head _ _ | apply pk_tail)) T.ag26 T.sz26 rfl (by rfl) (by rfl)) (by kernel_rfl) (pkc (by repeat (first | exact pk_head _ _ | apply pk_tail)) (pkn _)) ?_
      refine H_take (i := 13) (some 67) rfl rfl (by kernel_rfl) (by kernel_rfl) (by kernel_rfl) rfl (ps_fa T.fa71_5 (by decide) rfl).pl (by kernel_rfl) (pkc (by repeat (first | exact pk_head _ _ | apply pk_tail)) (pkn _)) ?_
      refine H_take (i := 14) (some 68) rfl rfl (by kernel_rfl) (by kernel_rfl) (by kernel_rfl) rfl (pl_load1 (by repeat (first | exact pk_head _ _ | apply pk_tail)) T.ag3 rfl (by rfl)) (by kernel_rfl) (pkc (by repeat (first | exact pk_head _ _ | apply pk_tail)) (pkn _)) ?_
      refine H_take (i := 15) (some 69) rfl rfl (by kernel_rfl) (by kernel_rfl) (by kernel_rfl) rfl (ps_fa T.fa71_6 (by decide) rfl).pl (by kernel_rfl) (pkc (by repeat (first | exact pk_head _ _ | apply pk_tail)) (pkn _)) ?_
      refine H_take (i := 16) (some 70) rfl rfl (by kernel_rfl) (by kernel_rfl) (by kernel_rfl) rfl (pl_load1 (by repeat (first | exact pk_head _ _ | apply pk_tail)) T.ag3 rfl (by rfl)) (by kernel_rfl) (pkc (by repeat (first | exact pk_head _ _ | apply pk_tail)) (pkn _)) ?_
      refine H_take (i := 19) (some 73) rfl rfl (by kernel_rfl) (by kernel_rfl) (by kernel_rfl) rfl (ps_fa T.fa71_7 (by decide) rfl).pl (by kernel_rfl) (pkc (by repeat (first | exact pk_head _ _ | apply pk_tail)) (pkn _)) ?_
      refine H_take (i := 20) (some 74) rfl rfl (by kernel_rfl) (by kernel_rfl) (by kernel_rfl) rfl (pl_load1 (by repeat (first | exact pk_head _ _ | apply pk_tail)) T.ag3 rfl (by rfl)) (by kernel_rfl) (pkc (by repeat (first | exact pk_head _ _ | apply pk_tail)) (pkn _)) ?_
      refine H_branch (rs := [11, 17, 21]) (by kernel_rfl) (by simp) ?_
      refine HR.consE (i := 11) (some 65) rfl rfl rfl (os_bslR ([a.id, a.deb, a.cre, a.amo, a.pen].map nc) T.un74 T.ti26 (by rfl) (by rfl) (by simp [nc_len]) (by decide) (by decide)) ?_ ?_
      · rintro _ _ ⟨b65, rfl, rfl⟩
        refine ⟨fun _ => ⟨_, (pkc (by repeat (first | exact pk_head _ _ | apply pk_tail)) (pkn _))⟩, ?_⟩
        refine H_branch (rs := [12, 17, 21]) (by kernel_rfl) (by simp) ?_
        refine HR.cons1 (i := 12) (some 66) rfl rfl rfl (os_call2 (WN5 p pre a.id a.deb a.cre a.amo a.pen b65 hx (by omega)) Try.func19 (by decide +kernel) rfl rfl (by repeat (first | exact pk_head _ _ | apply pk_tail)) (by repeat (first | exact pk_head _ _ | apply pk_tail))) (pkc (by repeat (first | exact pk_head _ _ | apply pk_tail)) (pkn _)) ?_ ?_
        · skip
          refine H_branch (rs := [17, 21]) (by kernel_rfl) (by simp) ?_
          refine HR.consE (i := 17) (some 71) rfl rfl rfl (os_bslv (vs := [.int .i64 (a.tim), .int .i64 (a.led)]) T.un41 T.ti3 (by rfl) (by rfl) rfl (by simp [Value.oneCell']) (by decide) (by decide)) ?_ ?_
          · rintro _ _ ⟨b71, rfl, rfl⟩
            refine ⟨fun _ => ⟨_, (pkc (by repeat (first | exact pk_head _ _ | apply pk_tail)) (pkn _))⟩, ?_⟩
            refine H_branch (rs := [18, 21]) (by kernel_rfl) (by simp) ?_
            refine HR.cons1 (i := 18) (some 72) rfl rfl rfl (os_call2 (WI2 p (pre ++ num5 a) 4 a.tim a.led b71 (by decide) l1) Try.func17 (by decide +kernel) rfl rfl (by repeat (first | exact pk_head _ _ | apply pk_tail)) (by repeat (first | exact pk_head _ _ | apply pk_tail))) (pkc (by repeat (first | exact pk_head _ _ | apply pk_tail)) (pkn _)) ?_ ?_
            · skip
              refine H_branch (rs := [21]) (by kernel_rfl) (by simp) ?_
              refine HR.consE (i := 21) (some 75) rfl rfl rfl (os_bslv (vs := [.int .i64 (a.fl)]) T.un41 T.ti3 (by rfl) (by rfl) rfl (by simp [Value.oneCell']) (by decide) (by decide)) ?_ ?_
              · rintro _ _ ⟨b75, rfl, rfl⟩
                refine ⟨fun _ => ⟨_, (pkc (by repeat (first | exact pk_head _ _ | apply pk_tail)) (pkn _))⟩, ?_⟩
                refine H_branch (rs := [22]) (by kernel_rfl) (by simp) ?_
                refine HR.cons1 (i := 22) (some 76) rfl rfl rfl (os_call2 (WI1 p (pre ++ num5 a ++ (be 4 a.tim ++ be 4 a.led)) 2 a.fl b75 (by decide) l2) Try.func17 (by decide +kernel) rfl rfl (by repeat (first | exact pk_head _ _ | apply pk_tail)) (by repeat (first | exact pk_head _ _ | apply pk_tail))) (pkc (by repeat (first | exact pk_head _ _ | apply pk_tail)) (pkn _)) ?_ ?_
                · skip
                  refine H_done (by kernel_rfl) ?_
                  exact Meet.cut () trivial (by repeat (first | (with_reducible exact Ag.refl _ _) | (with_reducible apply Ag.pu0) | ((with_reducible refine Ag.pu _ ?_ ?_); · exact rfl) | ((with_reducible refine Ag.mix ?_ ?_); · exact rfl) | ((with_reducible refine Ag.pus ?_ ?_); · exact rfl))) (by exact trivial) (by repeat (first | exact Ent.refl _ | (apply Ent.cons; · repeat (first | exact pk_head _ _ | apply pk_tail)) | apply Ent.skip))
                exact HR.nil
              exact HR.nil
            refine HR.consE (i := 21) (some 75) rfl rfl rfl (os_bslv (vs := [.int .i64 (a.fl)]) T.un41 T.ti3 (by rfl) (by rfl) rfl (by simp [Value.oneCell']) (by decide) (by decide)) ?_ ?_
            · rintro _ _ ⟨b75, rfl, rfl⟩
              refine ⟨fun _ => ⟨_, (pkc (by repeat (first | exact pk_head _ _ | apply pk_tail)) (pkn _))⟩, ?_⟩
              refine H_branch (rs := [18]) (by kernel_rfl) (by simp) ?_
              refine HR.cons1 (i := 18) (some 72) rfl rfl rfl (os_call2 (WI2 p (pre ++ num5 a) 4 a.tim a.led b71 (by decide) l1) Try.func17 (by decide +kernel) rfl rfl (by repeat (first | exact pk_head _ _ | apply pk_tail)) (by repeat (first | exact pk_head _ _ | apply pk_tail))) (pkc (by repeat (first | exact pk_head _ _ | apply pk_tail)) (pkn _)) ?_ ?_
              · skip
                refine H_branch (rs := [22]) (by kernel_rfl) (by simp) ?_
                refine HR.cons1 (i := 22) (some 76) rfl rfl rfl (os_call2 (WI1 p (pre ++ num5 a ++ (be 4 a.tim ++ be 4 a.led)) 2 a.fl b75 (by decide) l2) Try.func17 (by decide +kernel) rfl rfl (by repeat (first | exact pk_head _ _ | apply pk_tail)) (by repeat (first | exact pk_head _ _ | apply pk_tail))) (pkc (by repeat (first | exact pk_head _ _ | apply pk_tail)) (pkn _)) ?_ ?_
                · skip
                  refine H_done (by kernel_rfl) ?_
                  exact Meet.cut () trivial (by repeat (first | (with_reducible exact Ag.refl _ _) | (with_reducible apply Ag.pu0) | ((with_reducible refine Ag.pu _ ?_ ?_); · exact rfl) | ((with_reducible refine Ag.mix ?_ ?_); · exact rfl) | ((with_reducible refine Ag.pus ?_ ?_); · exact rfl))) (by exact trivial) (by repeat (first | exact Ent.refl _ | (apply Ent.cons; · repeat (first | exact pk_head _ _ | apply pk_tail)) | apply Ent.skip))
                exact HR.nil
              exact HR.nil
            exact HR.nil
          refine HR.consE (i := 21) (some 75) rfl rfl rfl (os_bslv (vs := [.int .i64 (a.fl)]) T.un41 T.ti3 (by rfl) (by rfl) rfl (by simp [Value.oneCell']) (by decide) (by decide)) ?_ ?_
          · rintro _ _ ⟨b75, rfl, rfl⟩
            refine ⟨fun _ => ⟨_, (pkc (by repeat (first | exact pk_head _ _ | apply pk_tail)) (pkn _))⟩, ?_⟩
            refine H_branch (rs := [17]) (by kernel_rfl) (by simp) ?_
            refine HR.consE (i := 17) (some 71) rfl rfl rfl (os_bslv (vs := [.int .i64 (a.tim), .int .i64 (a.led)]) T.un41 T.ti3 (by rfl) (by rfl) rfl (by simp [Value.oneCell']) (by decide) (by decide)) ?_ ?_
            · rintro _ _ ⟨b71, rfl, rfl⟩
              refine ⟨fun _ => ⟨_, (pkc (by repeat (first | exact pk_head _ _ | apply pk_tail)) (pkn _))⟩, ?_⟩
              refine H_branch (rs := [18]) (by kernel_rfl) (by simp) ?_
              refine HR.cons1 (i := 18) (some 72) rfl rfl rfl (os_call2 (WI2 p (pre ++ num5 a) 4 a.tim a.led b71 (by decide) l1) Try.func17 (by decide +kernel) rfl rfl (by repeat (first | exact pk_head _ _ | apply pk_tail)) (by repeat (first | exact pk_head _ _ | apply pk_tail))) (pkc (by repeat (first | exact pk_head _ _ | apply pk_tail)) (pkn _)) ?_ ?_
              · skip
                refine H_branch (rs := [22]) (by kernel_rfl) (by simp) ?_
                refine HR.cons1 (i := 22) (some 76) rfl rfl rfl (os_call2 (WI1 p (pre ++ num5 a ++ (be 4 a.tim ++ be 4 a.led)) 2 a.fl b75 (by decide) l2) Try.func17 (by decide +kernel) rfl rfl (by repeat (first | exact pk_head _ _ | apply pk_tail)) (by repeat (first | exact pk_head _ _ | apply pk_tail))) (pkc (by repeat (first | exact pk_head _ _ | apply pk_tail)) (pkn _)) ?_ ?_
                · skip
                  refine H_done (by kernel_rfl) ?_
                  exact Meet.cut () trivial (by repeat (first | (with_reducible exact Ag.refl _ _) | (with_reducible apply Ag.pu0) | ((with_reducible refine Ag.pu _ ?_ ?_); · exact rfl) | ((with_reducible refine Ag.mix ?_ ?_); · exact rfl) | ((with_reducible refine Ag.pus ?_ ?_); · exact rfl))) (by exact trivial) (by repeat (first | exact Ent.refl _ | (apply Ent.cons; · repeat (first | exact pk_head _ _ | apply pk_tail)) | apply Ent.skip))
                exact HR.nil
              exact HR.nil
            exact HR.nil
          exact HR.nil
        refine HR.consE (i := 17) (some 71) rfl rfl rfl (os_bslv (vs := [.int .i64 (a.tim), .int .i64 (a.led)]) T.un41 T.ti3 (by rfl) (by rfl) rfl (by simp [Value.oneCell']) (by decide) (by decide)) ?_ ?_
        · rintro _ _ ⟨b71, rfl, rfl⟩
          refine ⟨fun _ => ⟨_, (pkc (by repeat (first | exact pk_head _ _ | apply pk_tail)) (pkn _))⟩, ?_⟩
          refine H_branch (rs := [12, 21]) (by kernel_rfl) (by simp) ?_
          refine HR.cons1 (i := 12) (some 66) rfl rfl rfl (os_call2 (WN5 p pre a.id a.deb a.cre a.amo a.pen b65 hx (by omega)) Try.func19 (by decide +kernel) rfl rfl (by repeat (first | exact pk_head _ _ | apply pk_tail)) (by repeat (first | exact pk_head _ _ | apply pk_tail))) (pkc (by repeat (first | exact pk_head _ _ | apply pk_tail)) (pkn _)) ?_ ?_
          · skip
            refine H_branch (rs := [18, 21]) (by kernel_rfl) (by simp) ?_
            refine HR.cons1 (i := 18) (some 72) rfl rfl rfl (os_call2 (WI2 p (pre ++ num5 a) 4 a.tim a.led b71 (by decide) l1) Try.func17 (by decide +kernel) rfl rfl (by repeat (first | exact pk_head _ _ | apply pk_tail)) (by repeat (first | exact pk_head _ _ | apply pk_tail))) (pkc (by repeat (first | exact pk_head _ _ | apply pk_tail)) (pkn _)) ?_ ?_
            · skip
              refine H_branch (rs := [21]) (by kernel_rfl) (by simp) ?_
              refine HR.consE (i := 21) (some 75) rfl rfl rfl (os_bslv (vs := [.int .i64 (a.fl)]) T.un41 T.ti3 (by rfl) (by rfl) rfl (by simp [Value.oneCell']) (by decide) (by decide)) ?_ ?_
              · rintro _ _ ⟨b75, rfl, rfl⟩
                refine ⟨fun _ => ⟨_, (pkc (by repeat (first | exact pk_head _ _ | apply pk_tail)) (pkn _))⟩, ?_⟩
                refine H_branch (rs := [22]) (by kernel_rfl) (by simp) ?_
                refine HR.cons1 (i := 22) (some 76) rfl rfl rfl (os_call2 (WI1 p (pre ++ num5 a ++ (be 4 a.tim ++ be 4 a.led)) 2 a.fl b75 (by decide) l2) Try.func17 (by decide +kernel) rfl rfl (by repeat (first | exact pk_head _ _ | apply pk_tail)) (by repeat (first | exact pk_head _ _ | apply pk_tail))) (pkc (by repeat (first | exact pk_head _ _ | apply pk_tail)) (pkn _)) ?_ ?_
                · skip
                  refine H_done (by kernel_rfl) ?_
                  exact Meet.cut () trivial (by repeat (first | (with_reducible exact Ag.refl _ _) | (with_reducible apply Ag.pu0) | ((with_reducible refine Ag.pu _ ?_ ?_); · exact rfl) | ((with_reducible refine Ag.mix ?_ ?_); · exact rfl) | ((with_reducible refine Ag.pus ?_ ?_); · exact rfl))) (by exact trivial) (by repeat (first | exact Ent.refl _ | (apply Ent.cons; · repeat (first | exact pk_head _ _ | apply pk_tail)) | apply Ent.skip))
                exact HR.nil
              exact HR.nil
            refine HR.consE (i := 21) (some 75) rfl rfl rfl (os_bslv (vs := [.int .i64 (a.fl)]) T.un41 T.ti3 (by rfl) (by rfl) rfl (by simp [Value.oneCell']) (by decide) (by decide)) ?_ ?_
            · rintro _ _ ⟨b75, rfl, rfl⟩
              refine ⟨fun _ => ⟨_, (pkc (by repeat (first | exact pk_head _ _ | apply pk_tail)) (pkn _))⟩, ?_⟩
              refine H_branch (rs := [18]) (by kernel_rfl) (by simp) ?_
              refine HR.cons1 (i := 18) (some 72) rfl rfl rfl (os_call2 (WI2 p (pre ++ num5 a) 4 a.tim a.led b71 (by decide) l1) Try.func17 (by decide +kernel) rfl rfl (by repeat (first | exact pk_head _ _ | apply pk_tail)) (by repeat (first | exact pk_head _ _ | apply pk_tail))) (pkc (by repeat (first | exact pk_head _ _ | apply pk_tail)) (pkn _)) ?_ ?_
              · skip
                refine H_branch (rs := [22]) (by kernel_rfl) (by simp) ?_
                refine HR.cons1 (i := 22) (some 76) rfl rfl rfl (os_call2 (WI1 p (pre ++ num5 a ++ (be 4 a.tim ++ be 4 a.led)) 2 a.fl b75 (by decide) l2) Try.func17 (by decide +kernel) rfl rfl (by repeat (first | exact pk_head _ _ | apply pk_tail)) (by repeat (first | exact pk_head _ _ | apply pk_tail))) (pkc (by repeat (first | exact pk_head _ _ | apply pk_tail)) (pkn _)) ?_ ?_
                · skip
                  refine H_done (by kernel_rfl) ?_
                  exact Meet.cut () trivial (by repeat (first | (with_reducible exact Ag.refl _ _) | (with_reducible apply Ag.pu0) | ((with_reducible refine Ag.pu _ ?_ ?_); · exact rfl) | ((with_reducible refine Ag.mix ?_ ?_); · exact rfl) | ((with_reducible refine Ag.pus ?_ ?_); · exact rfl))) (by exact trivial) (by repeat (first | exact Ent.refl _ | (apply Ent.cons; · repeat (first | exact pk_head _ _ | apply pk_tail)) | apply Ent.skip))
                exact HR.nil
              exact HR.nil
            exact HR.nil
          refine HR.consE (i := 21) (some 75) rfl rfl rfl (os_bslv (vs := [.int .i64 (a.fl)]) T.un41 T.ti3 (by rfl) (by rfl) rfl (by simp [Value.oneCell']) (by decide) (by decide)) ?_ ?_
          · rintro _ _ ⟨b75, rfl, rfl⟩
            refine ⟨fun _ => ⟨_, (pkc (by repeat (first | exact pk_head _ _ | apply pk_tail)) (pkn _))⟩, ?_⟩
            refine H_branch (rs := [12]) (by kernel_rfl) (by simp) ?_
            refine HR.cons1 (i := 12) (some 66) rfl rfl rfl (os_call2 (WN5 p pre a.id a.deb a.cre a.amo a.pen b65 hx (by omega)) Try.func19 (by decide +kernel) rfl rfl (by repeat (first | exact pk_head _ _ | apply pk_tail)) (by repeat (first | exact pk_head _ _ | apply pk_tail))) (pkc (by repeat (first | exact pk_head _ _ | apply pk_tail)) (pkn _)) ?_ ?_
            · skip
              refine H_branch (rs := [18]) (by kernel_rfl) (by simp) ?_
              refine HR.cons1 (i := 18) (some 72) rfl rfl rfl (os_call2 (WI2 p (pre ++ num5 a) 4 a.tim a.led b71 (by decide) l1) Try.func17 (by decide +kernel) rfl rfl (by repeat (first | exact pk_head _ _ | apply pk_tail)) (by repeat (first | exact pk_head _ _ | apply pk_tail))) (pkc (by repeat (first | exact pk_head _ _ | apply pk_tail)) (pkn _)) ?_ ?_
              · skip
                refine H_branch (rs := [22]) (by kernel_rfl) (by simp) ?_
                refine HR.cons1 (i := 22) (some 76) rfl rfl rfl (os_call2 (WI1 p (pre ++ num5 a ++ (be 4 a.tim ++ be 4 a.led)) 2 a.fl b75 (by decide) l2) Try.func17 (by decide +kernel) rfl rfl (by repeat (first | exact pk_head _ _ | apply pk_tail)) (by repeat (first | exact pk_head _ _ | apply pk_tail))) (pkc (by repeat (first | exact pk_head _ _ | apply pk_tail)) (pkn _)) ?_ ?_
                · skip
                  refine H_done (by kernel_rfl) ?_
                  exact Meet.cut () trivial (by repeat (first | (with_reducible exact Ag.refl _ _) | (with_reducible apply Ag.pu0) | ((with_reducible refine Ag.pu _ ?_ ?_); · exact rfl) | ((with_reducible refine Ag.mix ?_ ?_); · exact rfl) | ((with_reducible refine Ag.pus ?_ ?_); · exact rfl))) (by exact trivial) (by repeat (first | exact Ent.refl _ | (apply Ent.cons; · repeat (first | exact pk_head _ _ | apply pk_tail)) | apply Ent.skip))
                exact HR.nil
              exact HR.nil
            exact HR.nil
          exact HR.nil
        refine HR.consE (i := 21) (some 75) rfl rfl rfl (os_bslv (vs := [.int .i64 (a.fl)]) T.un41 T.ti3 (by rfl) (by rfl) rfl (by simp [Value.oneCell']) (by decide) (by decide)) ?_ ?_
        · rintro _ _ ⟨b75, rfl, rfl⟩
          refine ⟨fun _ => ⟨_, (pkc (by repeat (first | exact pk_head _ _ | apply pk_tail)) (pkn _))⟩, ?_⟩
          refine H_branch (rs := [12, 17]) (by kernel_rfl) (by simp) ?_
          refine HR.cons1 (i := 12) (some 66) rfl rfl rfl (os_call2 (WN5 p pre a.id a.deb a.cre a.amo a.pen b65 hx (by omega)) Try.func19 (by decide +kernel) rfl rfl (by repeat (first | exact pk_head _ _ | apply pk_tail)) (by repeat (first | exact pk_head _ _ | apply pk_tail))) (pkc (by repeat (first | exact pk_head _ _ | apply pk_tail)) (pkn _)) ?_ ?_
          · skip
            refine H_branch (rs := [17]) (by kernel_rfl) (by simp) ?_
            refine HR.consE (i := 17) (some 71) rfl rfl rfl (os_bslv (vs := [.int .i64 (a.tim), .int .i64 (a.led)]) T.un41 T.ti3 (by rfl) (by rfl) rfl (by simp [Value.oneCell']) (by decide) (by decide)) ?_ ?_
            · rintro _ _ ⟨b71, rfl, rfl⟩
              refine ⟨fun _ => ⟨_, (pkc (by repeat (first | exact pk_head _ _ | apply pk_tail)) (pkn _))⟩, ?_⟩
              refine H_branch (rs := [18]) (by kernel_rfl) (by simp) ?_
              refine HR.cons1 (i := 18) (some 72) rfl rfl rfl (os_call2 (WI2 p (pre ++ num5 a) 4 a.tim a.led b71 (by decide) l1) Try.func17 (by decide +kernel) rfl rfl (by repeat (first | exact pk_head _ _ | apply pk_tail)) (by repeat (first | exact pk_head _ _ | apply pk_tail))) (pkc (by repeat (first | exact pk_head _ _ | apply pk_tail)) (pkn _)) ?_ ?_
              · skip
                refine H_branch (rs := [22]) (by kernel_rfl) (by simp) ?_
                refine HR.cons1 (i := 22) (some 76) rfl rfl rfl (os_call2 (WI1 p (pre ++ num5 a ++ (be 4 a.tim ++ be 4 a.led)) 2 a.fl b75 (by decide) l2) Try.func17 (by decide +kernel) rfl rfl (by repeat (first | exact pk_head _ _ | apply pk_tail)) (by repeat (first | exact pk_head _ _ | apply pk_tail))) (pkc (by repeat (first | exact pk_head _ _ | apply pk_tail)) (pkn _)) ?_ ?_
                · skip
                  refine H_done (by kernel_rfl) ?_
                  exact Meet.cut () trivial (by repeat (first | (with_reducible exact Ag.refl _ _) | (with_reducible apply Ag.pu0) | ((with_reducible refine Ag.pu _ ?_ ?_); · exact rfl) | ((with_reducible refine Ag.mix ?_ ?_); · exact rfl) | ((with_reducible refine Ag.pus ?_ ?_); · exact rfl))) (by exact trivial) (by repeat (first | exact Ent.refl _ | (apply Ent.cons; · repeat (first | exact pk_head _ _ | apply pk_tail)) | apply Ent.skip))
                exact HR.nil
              exact HR.nil
            exact HR.nil
          refine HR.consE (i := 17) (some 71) rfl rfl rfl (os_bslv (vs := [.int .i64 (a.tim), .int .i64 (a.led)]) T.un41 T.ti3 (by rfl) (by rfl) rfl (by simp [Value.oneCell']) (by decide) (by decide)) ?_ ?_
          · rintro _ _ ⟨b71, rfl, rfl⟩
            refine ⟨fun _ => ⟨_, (pkc (by repeat (first | exact pk_head _ _ | apply pk_tail)) (pkn _))⟩, ?_⟩
            refine H_branch (rs := [12]) (by kernel_rfl) (by simp) ?_
            refine HR.cons1 (i := 12) (some 66) rfl rfl rfl (os_call2 (WN5 p pre a.id a.deb a.cre a.amo a.pen b65 hx (by omega)) Try.func19 (by decide +kernel) rfl rfl (by repeat (first | exact pk_head _ _ | apply pk_tail)) (by repeat (first | exact pk_head _ _ | apply pk_tail))) (pkc (by repeat (first | exact pk_head _ _ | apply pk_tail)) (pkn _)) ?_ ?_
            · skip
              refine H_branch (rs := [18]) (by kernel_rfl) (by simp) ?_
              refine HR.cons1 (i := 18) (some 72) rfl rfl rfl (os_call2 (WI2 p (pre ++ num5 a) 4 a.tim a.led b71 (by decide) l1) Try.func17 (by decide +kernel) rfl rfl (by repeat (first | exact pk_head _ _ | apply pk_tail)) (by repeat (first | exact pk_head _ _ | apply pk_tail))) (pkc (by repeat (first | exact pk_head _ _ | apply pk_tail)) (pkn _)) ?_ ?_
              · skip
                refine H_branch (rs := [22]) (by kernel_rfl) (by simp) ?_
                refine HR.cons1 (i := 22) (some 76) rfl rfl rfl (os_call2 (WI1 p (pre ++ num5 a ++ (be 4 a.tim ++ be 4 a.led)) 2 a.fl b75 (by decide) l2) Try.func17 (by decide +kernel) rfl rfl (by repeat (first | exact pk_head _ _ | apply pk_tail)) (by repeat (first | exact pk_head _ _ | apply pk_tail))) (pkc (by repeat (first | exact pk_head _ _ | apply pk_tail)) (pkn _)) ?_ ?_
                · skip
                  refine H_done (by kernel_rfl) ?_
                  exact Meet.cut () trivial (by repeat (first | (with_reducible exact Ag.refl _ _) | (with_reducible apply Ag.pu0) | ((with_reducible refine Ag.pu _ ?_ ?_); · exact rfl) | ((with_reducible refine Ag.mix ?_ ?_); · exact rfl) | ((with_reducible refine Ag.pus ?_ ?_); · exact rfl))) (by exact trivial) (by repeat (first | exact Ent.refl _ | (apply Ent.cons; · repeat (first | exact pk_head _ _ | apply pk_tail)) | apply Ent.skip))
                exact HR.nil
              exact HR.nil
            exact HR.nil
          exact HR.nil
        exact HR.nil
      refine HR.consE (i := 17) (some 71) rfl rfl rfl (os_bslv (vs := [.int .i64 (a.tim), .int .i64 (a.led)]) T.un41 T.ti3 (by rfl) (by rfl) rfl (by simp [Value.oneCell']) (by decide) (by decide)) ?_ ?_
      · rintro _ _ ⟨b71, rfl, rfl⟩
        refine ⟨fun _ => ⟨_, (pkc (by repeat (first | exact pk_head _ _ | apply pk_tail)) (pkn _))⟩, ?_⟩
        refine H_branch (rs := [11, 21]) (by kernel_rfl) (by simp) ?_
        refine HR.consE (i := 11) (some 65) rfl rfl rfl (os_bslR ([a.id, a.deb, a.cre, a.amo, a.pen].map nc) T.un74 T.ti26 (by rfl) (by rfl) (by simp [nc_len]) (by decide) (by decide)) ?_ ?_
        · rintro _ _ ⟨b65, rfl, rfl⟩
          refine ⟨fun _ => ⟨_, (pkc (by repeat (first | exact pk_head _ _ | apply pk_tail)) (pkn _))⟩, ?_⟩
          refine H_branch (rs := [12, 21]) (by kernel_rfl) (by simp) ?_
          refine HR.cons1 (i := 12) (some 66) rfl rfl rfl (os_call2 (WN5 p pre a.id a.deb a.cre a.amo a.pen b65 hx (by omega)) Try.func19 (by decide +kernel) rfl rfl (by repeat (first | exact pk_head _ _ | apply pk_tail)) (by repeat (first | exact pk_head _ _ | apply pk_tail))) (pkc (by repeat (first | exact pk_head _ _ | apply pk_tail)) (pkn _)) ?_ ?_
          · skip
            refine H_branch (rs := [18, 21]) (by kernel_rfl) (by simp) ?_
            refine HR.cons1 (i := 18) (some 72) rfl rfl rfl (os_call2 (WI2 p (pre ++ num5 a) 4 a.tim a.led b71 (by decide) l1) Try.func17 (by decide +kernel) rfl rfl (by repeat (first | exact pk_head _ _ | apply pk_tail)) (by repeat (first | exact pk_head _ _ | apply pk_tail))) (pkc (by repeat (first | exact pk_head _ _ | apply pk_tail)) (pkn _)) ?_ ?_
            · skip
              refine H_branch (rs := [21]) (by kernel_rfl) (by simp) ?_
              refine HR.consE (i := 21) (some 75) rfl rfl rfl (os_bslv (vs := [.int .i64 (a.fl)]) T.un41 T.ti3 (by rfl) (by rfl) rfl (by simp [Value.oneCell']) (by decide) (by decide)) ?_ ?_
              · rintro _ _ ⟨b75, rfl, rfl⟩
                refine ⟨fun _ => ⟨_, (pkc (by repeat (first | exact pk_head _ _ | apply pk_tail)) (pkn _))⟩, ?_⟩
                refine H_branch (rs := [22]) (by kernel_rfl) (by simp) ?_
                refine HR.cons1 (i := 22) (some 76) rfl rfl rfl (os_call2 (WI1 p (pre ++ num5 a ++ (be 4 a.tim ++ be 4 a.led)) 2 a.fl b75 (by decide) l2) Try.func17 (by decide +kernel) rfl rfl (by repeat (first | exact pk_head _ _ | apply pk_tail)) (by repeat (first | exact pk_head _ _ | apply pk_tail))) (pkc (by repeat (first | exact pk_head _ _ | apply pk_tail)) (pkn _)) ?_ ?_
                · skip
                  refine H_done (by kernel_rfl) ?_
                  exact Meet.cut () trivial (by repeat (first | (with_reducible exact Ag.refl _ _) | (with_reducible apply Ag.pu0) | ((with_reducible refine Ag.pu _ ?_ ?_); · exact rfl) | ((with_reducible refine Ag.mix ?_ ?_); · exact rfl) | ((with_reducible refine Ag.pus ?_ ?_); · exact rfl))) (by exact trivial) (by repeat (first | exact Ent.refl _ | (apply Ent.cons; · repeat (first | exact pk_head _ _ | apply pk_tail)) | apply Ent.skip))
                exact HR.nil
              exact HR.nil
            refine HR.consE (i := 21) (some 75) rfl rfl rfl (os_bslv (vs := [.int .i64 (a.fl)]) T.un41 T.ti3 (by rfl) (by rfl) rfl (by simp [Value.oneCell']) (by decide) (by decide)) ?_ ?_
            · rintro _ _ ⟨b75, rfl, rfl⟩
              refine ⟨fun _ => ⟨_, (pkc (by repeat (first | exact pk_head _ _ | apply pk_tail)) (pkn _))⟩, ?_⟩
              refine H_branch (rs := [18]) (by kernel_rfl) (by simp) ?_
              refine HR.cons1 (i := 18) (some 72) rfl rfl rfl (os_call2 (WI2 p (pre ++ num5 a) 4 a.tim a.led b71 (by decide) l1) Try.func17 (by decide +kernel) rfl rfl (by repeat (first | exact pk_head _ _ | apply pk_tail)) (by repeat (first | exact pk_head _ _ | apply pk_tail))) (pkc (by repeat (first | exact pk_head _ _ | apply pk_tail)) (pkn _)) ?_ ?_
              · skip
                refine H_branch (rs := [22]) (by kernel_rfl) (by simp) ?_
                refine HR.cons1 (i := 22) (some 76) rfl rfl rfl (os_call2 (WI1 p (pre ++ num5 a ++ (be 4 a.tim ++ be 4 a.led)) 2 a.fl b75 (by decide) l2) Try.func17 (by decide +kernel) rfl rfl (by repeat (first | exact pk_head _ _ | apply pk_tail)) (by repeat (first | exact pk_head _ _ | apply pk_tail))) (pkc (by repeat (first | exact pk_head _ _ | apply pk_tail)) (pkn _)) ?_ ?_
                · skip
                  refine H_done (by kernel_rfl) ?_
                  exact Meet.cut () trivial (by repeat (first | (with_reducible exact Ag.refl _ _) | (with_reducible apply Ag.pu0) | ((with_reducible refine Ag.pu _ ?_ ?_); · exact rfl) | ((with_reducible refine Ag.mix ?_ ?_); · exact rfl) | ((with_reducible refine Ag.pus ?_ ?_); · exact rfl))) (by exact trivial) (by repeat (first | exact Ent.refl _ | (apply Ent.cons; · repeat (first | exact pk_head _ _ | apply pk_tail)) | apply Ent.skip))
                exact HR.nil
              exact HR.nil
            exact HR.nil
          refine HR.consE (i := 21) (some 75) rfl rfl rfl (os_bslv (vs := [.int .i64 (a.fl)]) T.un41 T.ti3 (by rfl) (by rfl) rfl (by simp [Value.oneCell']) (by decide) (by decide)) ?_ ?_
          · rintro _ _ ⟨b75, rfl, rfl⟩
            refine ⟨fun _ => ⟨_, (pkc (by repeat (first | exact pk_head _ _ | apply pk_tail)) (pkn _))⟩, ?_⟩
            refine H_branch (rs := [12]) (by kernel_rfl) (by simp) ?_
            refine HR.cons1 (i := 12) (some 66) rfl rfl rfl (os_call2 (WN5 p pre a.id a.deb a.cre a.amo a.pen b65 hx (by omega)) Try.func19 (by decide +kernel) rfl rfl (by repeat (first | exact pk_head _ _ | apply pk_tail)) (by repeat (first | exact pk_head _ _ | apply pk_tail))) (pkc (by repeat (first | exact pk_head _ _ | apply pk_tail)) (pkn _)) ?_ ?_
            · skip
              refine H_branch (rs := [18]) (by kernel_rfl) (by simp) ?_
              refine HR.cons1 (i := 18) (some 72) rfl rfl rfl (os_call2 (WI2 p (pre ++ num5 a) 4 a.tim a.led b71 (by decide) l1) Try.func17 (by decide +kernel) rfl rfl (by repeat (first | exact pk_head _ _ | apply pk_tail)) (by repeat (first | exact pk_head _ _ | apply pk_tail))) (pkc (by repeat (first | exact pk_head _ _ | apply pk_tail)) (pkn _)) ?_ ?_
              · skip
                refine H_branch (rs := [22]) (by kernel_rfl) (by simp) ?_
                refine HR.cons1 (i := 22) (some 76) rfl rfl rfl (os_call2 (WI1 p (pre ++ num5 a ++ (be 4 a.tim ++ be 4 a.led)) 2 a.fl b75 (by decide) l2) Try.func17 (by decide +kernel) rfl rfl (by repeat (first | exact pk_head _ _ | apply pk_tail)) (by repeat (first | exact pk_head _ _ | apply pk_tail))) (pkc (by repeat (first | exact pk_head _ _ | apply pk_tail)) (pkn _)) ?_ ?_
                · skip
                  refine H_done (by kernel_rfl) ?_
                  exact Meet.cut () trivial (by repeat (first | (with_reducible exact Ag.refl _ _) | (with_reducible apply Ag.pu0) | ((with_reducible refine Ag.pu _ ?_ ?_); · exact rfl) | ((with_reducible refine Ag.mix ?_ ?_); · exact rfl) | ((with_reducible refine Ag.pus ?_ ?_); · exact rfl))) (by exact trivial) (by repeat (first | exact Ent.refl _ | (apply Ent.cons; · repeat (first | exact pk_head _ _ | apply pk_tail)) | apply Ent.skip))
                exact HR.nil
              exact HR.nil
            exact HR.nil
          exact HR.nil
        refine HR.consE (i := 21) (some 75) rfl rfl rfl (os_bslv (vs := [.int .i64 (a.fl)]) T.un41 T.ti3 (by rfl) (by rfl) rfl (by simp [Value.oneCell']) (by decide) (by decide)) ?_ ?_
        · rintro _ _ ⟨b75, rfl, rfl⟩
          refine ⟨fun _ => ⟨_, (pkc (by repeat (first | exact pk_head _ _ | apply pk_tail)) (pkn _))⟩, ?_⟩
          refine H_branch (rs := [11]) (by kernel_rfl) (by simp) ?_
          refine HR.consE (i := 11) (some 65) rfl rfl rfl (os_bslR ([a.id, a.deb, a.cre, a.amo, a.pen].map nc) T.un74 T.ti26 (by rfl) (by rfl) (by simp [nc_len]) (by decide) (by decide)) ?_ ?_
          · rintro _ _ ⟨b65, rfl, rfl⟩
            refine ⟨fun _ => ⟨_, (pkc (by repeat (first | exact pk_head _ _ | apply pk_tail)) (pkn _))⟩, ?_⟩
            refine H_branch (rs := [12]) (by kernel_rfl) (by simp) ?_
            refine HR.cons1 (i := 12) (some 66) rfl rfl rfl (os_call2 (WN5 p pre a.id a.deb a.cre a.amo a.pen b65 hx (by omega)) Try.func19 (by decide +kernel) rfl rfl (by repeat (first | exact pk_head _ _ | apply pk_tail)) (by repeat (first | exact pk_head _ _ | apply pk_tail))) (pkc (by repeat (first | exact pk_head _ _ | apply pk_tail)) (pkn _)) ?_ ?_
            · skip
              refine H_branch (rs := [18]) (by kernel_rfl) (by simp) ?_
              refine HR.cons1 (i := 18) (some 72) rfl rfl rfl (os_call2 (WI2 p (pre ++ num5 a) 4 a.tim a.led b71 (by decide) l1) Try.func17 (by decide +kernel) rfl rfl (by repeat (first | exact pk_head _ _ | apply pk_tail)) (by repeat (first | exact pk_head _ _ | apply pk_tail))) (pkc (by repeat (first | exact pk_head _ _ | apply pk_tail)) (pkn _)) ?_ ?_
              · skip
                refine H_branch (rs := [22]) (by kernel_rfl) (by simp) ?_
                refine HR.cons1 (i := 22) (some 76) rfl rfl rfl (os_call2 (WI1 p (pre ++ num5 a ++ (be 4 a.tim ++ be 4 a.led)) 2 a.fl b75 (by decide) l2) Try.func17 (by decide +kernel) rfl rfl (by repeat (first | exact pk_head _ _ | apply pk_tail)) (by repeat (first | exact pk_head _ _ | apply pk_tail))) (pkc (by repeat (first | exact pk_head _ _ | apply pk_tail)) (pkn _)) ?_ ?_
                · skip
                  refine H_done (by kernel_rfl) ?_
                  exact Meet.cut () trivial (by repeat (first | (with_reducible exact Ag.refl _ _) | (with_reducible apply Ag.pu0) | ((with_reducible refine Ag.pu _ ?_ ?_); · exact rfl) | ((with_reducible refine Ag.mix ?_ ?_); · exact rfl) | ((with_reducible refine Ag.pus ?_ ?_); · exact rfl))) (by exact trivial) (by repeat (first | exact Ent.refl _ | (apply Ent.cons; · repeat (first | exact pk_head _ _ | apply pk_tail)) | apply Ent.skip))
                exact HR.nil
              exact HR.nil
            exact HR.nil
          exact HR.nil
        exact HR.nil
      refine HR.consE (i := 21) (some 75) rfl rfl rfl (os_bslv (vs := [.int .i64 (a.fl)]) T.un41 T.ti3 (by rfl) (by rfl) rfl (by simp [Value.oneCell']) (by decide) (by decide)) ?_ ?_
      · rintro _ _ ⟨b75, rfl, rfl⟩
        refine ⟨fun _ => ⟨_, (pkc (by repeat (first | exact pk_head _ _ | apply pk_tail)) (pkn _))⟩, ?_⟩
        refine H_branch (rs := [11, 17]) (by kernel_rfl) (by simp) ?_
        refine HR.consE (i := 11) (some 65) rfl rfl rfl (os_bslR ([a.id, a.deb, a.cre, a.amo, a.pen].map nc) T.un74 T.ti26 (by rfl) (by rfl) (by simp [nc_len]) (by decide) (by decide)) ?_ ?_
        · rintro _ _ ⟨b65, rfl, rfl⟩
          refine ⟨fun _ => ⟨_, (pkc (by repeat (first | exact pk_head _ _ | apply pk_tail)) (pkn _))⟩, ?_⟩
          refine H_branch (rs := [12, 17]) (by kernel_rfl) (by simp) ?_
          refine HR.cons1 (i := 12) (some 66) rfl rfl rfl (os_call2 (WN5 p pre a.id a.deb a.cre a.amo a.pen b65 hx (by omega)) Try.func19 (by decide +kernel) rfl rfl (by repeat (first | exact pk_head _ _ | apply pk_tail)) (by repeat (first | exact pk_head _ _ | apply pk_tail))) (pkc (by repeat (first | exact pk_head _ _ | apply pk_tail)) (pkn _)) ?_ ?_
          · skip
            refine H_branch (rs := [17]) (by kernel_rfl) (by simp) ?_
            refine HR.consE (i := 17) (some 71) rfl rfl rfl (os_bslv (vs := [.int .i64 (a.tim), .int .i64 (a.led)]) T.un41 T.ti3 (by rfl) (by rfl) rfl (by simp [Value.oneCell']) (by decide) (by decide)) ?_ ?_
            · rintro _ _ ⟨b71, rfl, rfl⟩
              refine ⟨fun _ => ⟨_, (pkc (by repeat (first | exact pk_head _ _ | apply pk_tail)) (pkn _))⟩, ?_⟩
              refine H_branch (rs := [18]) (by kernel_rfl) (by simp) ?_
              refine HR.cons1 (i := 18) (some 72) rfl rfl rfl (os_call2 (WI2 p (pre ++ num5 a) 4 a.tim a.led b71 (by decide) l1) Try.func17 (by decide +kernel) rfl rfl (by repeat (first | exact pk_head _ _ | apply pk_tail)) (by repeat (first | exact pk_head _ _ | apply pk_tail))) (pkc (by repeat (first | exact pk_head _ _ | apply pk_tail)) (pkn _)) ?_ ?_
              · skip
                refine H_branch (rs := [22]) (by kernel_rfl) (by simp) ?_
                refine HR.cons1 (i := 22) (some 76) rfl rfl rfl (os_call2 (WI1 p (pre ++ num5 a ++ (be 4 a.tim ++ be 4 a.led)) 2 a.fl b75 (by decide) l2) Try.func17 (by decide +kernel) rfl rfl (by repeat (first | exact pk_head _ _ | apply pk_tail)) (by repeat (first | exact pk_head _ _ | apply pk_tail))) (pkc (by repeat (first | exact pk_head _ _ | apply pk_tail)) (pkn _)) ?_ ?_
                · skip
                  refine H_done (by kernel_rfl) ?_
                  exact Meet.cut () trivial (by repeat (first | (with_reducible exact Ag.refl _ _) | (with_reducible apply Ag.pu0) | ((with_reducible refine Ag.pu _ ?_ ?_); · exact rfl) | ((with_reducible refine Ag.mix ?_ ?_); · exact rfl) | ((with_reducible refine Ag.pus ?_ ?_); · exact rfl))) (by exact trivial) (by repeat (first | exact Ent.refl _ | (apply Ent.cons; · repeat (first | exact pk_head _ _ | apply pk_tail)) | apply Ent.skip))
                exact HR.nil
              exact HR.nil
            exact HR.nil
          refine HR.consE (i := 17) (some 71) rfl rfl rfl (os_bslv (vs := [.int .i64 (a.tim), .int .i64 (a.led)]) T.un41 T.ti3 (by rfl) (by rfl) rfl (by simp [Value.oneCell']) (by decide) (by decide)) ?_ ?_
          · rintro _ _ ⟨b71, rfl, rfl⟩
            refine ⟨fun _ => ⟨_, (pkc (by repeat (first | exact pk_head _ _ | apply pk_tail)) (pkn _))⟩, ?_⟩
            refine H_branch (rs := [12]) (by kernel_rfl) (by simp) ?_
            refine HR.cons1 (i := 12) (some 66) rfl rfl rfl (os_call2 (WN5 p pre a.id a.deb a.cre a.amo a.pen b65 hx (by omega)) Try.func19 (by decide +kernel) rfl rfl (by repeat (first | exact pk_head _ _ | apply pk_tail)) (by repeat (first | exact pk_head _ _ | apply pk_tail))) (pkc (by repeat (first | exact pk_head _ _ | apply pk_tail)) (pkn _)) ?_ ?_
            · skip
              refine H_branch (rs := [18]) (by kernel_rfl) (by simp) ?_
              refine HR.cons1 (i := 18) (some 72) rfl rfl rfl (os_call2 (WI2 p (pre ++ num5 a) 4 a.tim a.led b71 (by decide) l1) Try.func17 (by decide +kernel) rfl rfl (by repeat (first | exact pk_head _ _ | apply pk_tail)) (by repeat (first | exact pk_head _ _ | apply pk_tail))) (pkc (by repeat (first | exact pk_head _ _ | apply pk_tail)) (pkn _)) ?_ ?_
              · skip
                refine H_branch (rs := [22]) (by kernel_rfl) (by simp) ?_
                refine HR.cons1 (i := 22) (some 76) rfl rfl rfl (os_call2 (WI1 p (pre ++ num5 a ++ (be 4 a.tim ++ be 4 a.led)) 2 a.fl b75 (by decide) l2) Try.func17 (by decide +kernel) rfl rfl (by repeat (first | exact pk_head _ _ | apply pk_tail)) (by repeat (first | exact pk_head _ _ | apply pk_tail))) (pkc (by repeat (first | exact pk_head _ _ | apply pk_tail)) (pkn _)) ?_ ?_
                · skip
                  refine H_done (by kernel_rfl) ?_
                  exact Meet.cut () trivial (by repeat (first | (with_reducible exact Ag.refl _ _) | (with_reducible apply Ag.pu0) | ((with_reducible refine Ag.pu _ ?_ ?_); · exact rfl) | ((with_reducible refine Ag.mix ?_ ?_); · exact rfl) | ((with_reducible refine Ag.pus ?_ ?_); · exact rfl))) (by exact trivial) (by repeat (first | exact Ent.refl _ | (apply Ent.cons; · repeat (first | exact pk_head _ _ | apply pk_tail)) | apply Ent.skip))
                exact HR.nil
              exact HR.nil
            exact HR.nil
          exact HR.nil
        refine HR.consE (i := 17) (some 71) rfl rfl rfl (os_bslv (vs := [.int .i64 (a.tim), .int .i64 (a.led)]) T.un41 T.ti3 (by rfl) (by rfl) rfl (by simp [Value.oneCell']) (by decide) (by decide)) ?_ ?_
        · rintro _ _ ⟨b71, rfl, rfl⟩
          refine ⟨fun _ => ⟨_, (pkc (by repeat (first | exact pk_head _ _ | apply pk_tail)) (pkn _))⟩, ?_⟩
          refine H_branch (rs := [11]) (by kernel_rfl) (by simp) ?_
          refine HR.consE (i := 11) (some 65) rfl rfl rfl (os_bslR ([a.id, a.deb, a.cre, a.amo, a.pen].map nc) T.un74 T.ti26 (by rfl) (by rfl) (by simp [nc_len]) (by decide) (by decide)) ?_ ?_
          · rintro _ _ ⟨b65, rfl, rfl⟩
            refine ⟨fun _ => ⟨_, (pkc (by repeat (first | exact pk_head _ _ | apply pk_tail)) (pkn _))⟩, ?_⟩
            refine H_branch (rs := [12]) (by kernel_rfl) (by simp) ?_
            refine HR.cons1 (i := 12) (some 66) rfl rfl rfl (os_call2 (WN5 p pre a.id a.deb a.cre a.amo a.pen b65 hx (by omega)) Try.func19 (by decide +kernel) rfl rfl (by repeat (first | exact pk_head _ _ | apply pk_tail)) (by repeat (first | exact pk_head _ _ | apply pk_tail))) (pkc (by repeat (first | exact pk_head _ _ | apply pk_tail)) (pkn _)) ?_ ?_
            · skip
              refine H_branch (rs := [18]) (by kernel_rfl) (by simp) ?_
              refine HR.cons1 (i := 18) (some 72) rfl rfl rfl (os_call2 (WI2 p (pre ++ num5 a) 4 a.tim a.led b71 (by decide) l1) Try.func17 (by decide +kernel) rfl rfl (by repeat (first | exact pk_head _ _ | apply pk_tail)) (by repeat (first | exact pk_head _ _ | apply pk_tail))) (pkc (by repeat (first | exact pk_head _ _ | apply pk_tail)) (pkn _)) ?_ ?_
              · skip
                refine H_branch (rs := [22]) (by kernel_rfl) (by simp) ?_
                refine HR.cons1 (i := 22) (some 76) rfl rfl rfl (os_call2 (WI1 p (pre ++ num5 a ++ (be 4 a.tim ++ be 4 a.led)) 2 a.fl b75 (by decide) l2) Try.func17 (by decide +kernel) rfl rfl (by repeat (first | exact pk_head _ _ | apply pk_tail)) (by repeat (first | exact pk_head _ _ | apply pk_tail))) (pkc (by repeat (first | exact pk_head _ _ | apply pk_tail)) (pkn _)) ?_ ?_
                · skip
                  refine H_done (by kernel_rfl) ?_
                  exact Meet.cut () trivial (by repeat (first | (with_reducible exact Ag.refl _ _) | (with_reducible apply Ag.pu0) | ((with_reducible refine Ag.pu _ ?_ ?_); · exact rfl) | ((with_reducible refine Ag.mix ?_ ?_); · exact rfl) | ((with_reducible refine Ag.pus ?_ ?_); · exact rfl))) (by exact trivial) (by repeat (first | exact Ent.refl _ | (apply Ent.cons; · repeat (first | exact pk_head _ _ | apply pk_tail)) | apply Ent.skip))
                exact HR.nil
              exact HR.nil
            exact HR.nil
          exact HR.nil
        exact HR.nil
      exact HR.nil
    intro _ g7 _
    repeat (first | refine CW.seq ?_ | refine PW.then_ ?_ | refine CW.block ?_ | refine CW.skip ?_ | refine CW.ret ?_ | refine PW.then_ret ?_ | refine PW.block_ret ?_ | refine Cut.ret ?_ | refine Rnd.ret ?_ | refine PW.block_normal ?_ | refine CW.exit ?_ | refine PW.then_exit ?_ | refine PW.block_hit ?_ | refine PW.block_miss rfl ?_ | refine Cut.exit ?_ | refine Rnd.exit ?_)
    refine CW.region ?_
    refine L1 (ps_add_i64 rfl rfl (by omega) (by omega)).os ?_
    refine L1 (ps_move rfl).os ?_
    refine LW.nil ?_
    exact Meet.round (q.trs.length - (i + 1)) (i + 1) (by omega) ⟨hlt, rfl⟩ (by repeat (first | (with_reducible exact Ag.refl _ _) | (with_reducible apply Ag.pu0) | ((with_reducible refine Ag.pu _ ?_ ?_); · exact rfl) | ((with_reducible refine Ag.mix ?_ ?_); · exact rfl) | ((with_reducible refine Ag.pus ?_ ?_); · exact rfl))) ⟨rfl, trivial⟩ (by rw [hnext]; exact (by repeat (first | exact Ent.refl _ | (apply Ent.cons; · repeat (first | exact pk_head _ _ | apply pk_tail)) | apply Ent.skip)))
  · have hil : i = q.trs.length := by omega
    subst hil
    rw [List.take_length]
    refine CW.region ?_
    refine L1 (ps_f (ps_lss rfl rfl) (by omega)).os ?_
    refine LW.nil ?_
    repeat (first | refine CW.seq ?_ | refine PW.then_ ?_ | refine CW.block ?_ | refine CW.skip ?_ | refine CW.ret ?_ | refine PW.then_ret ?_ | refine PW.block_ret ?_ | refine Cut.ret ?_ | refine Rnd.ret ?_ | refine PW.block_normal ?_ | refine CW.exit ?_ | refine PW.then_exit ?_ | refine PW.block_hit ?_ | refine PW.block_miss rfl ?_ | refine Cut.exit ?_ | refine Rnd.exit ?_)
    refine CW.cond_false rfl ?_
    repeat (first | refine CW.seq ?_ | refine PW.then_ ?_ | refine CW.block ?_ | refine CW.skip ?_ | refine CW.ret ?_ | refine PW.then_ret ?_ | refine PW.block_ret ?_ | refine Cut.ret ?_ | refine Rnd.ret ?_ | refine PW.block_normal ?_ | refine CW.exit ?_ | refine PW.then_exit ?_ | refine PW.block_hit ?_ | refine PW.block_miss rfl ?_ | refine Cut.exit ?_ | refine Rnd.exit ?_)
    exact Fin.end0 rfl [_, _] rfl (by repeat (first | exact Ent.refl _ | (apply Ent.cons; · repeat (first | exact pk_head _ _ | apply pk_tail)) | apply Ent.skip))

theorem reqB_le (q : RQ) (h1 : q.accs.length ≤ 100) (h2 : q.trs.length ≤ 100) : (reqB q).length ≤ 2000000 := by
  have hl1 := flat_len' accB 22 accB_len q.accs
  have hl2 := flat_len' trB 90 trB_len q.trs
  unfold reqB bodyB
  repeat' split
  all_goals simp only [List.length_append, length_be, length_numB, hl1, hl2, List.length_nil]
  all_goals omega

theorem Request_spec (A : Asn) (q : RQ) (av tv : Value) (hq : RqOk q) (h1 : RowsR A av 46 (q.accs.map accCells)) (h2 : RowsR A tv 16 (q.trs.map trCells)) :
    FSpec Try.prog 14 [.agg (rqCells q av tv).toArray] [A] (fun r As => ∃ u d, r = .slice u (reqB q).length d ∧ As = [slOwn 5 1 (.slice u (reqB q).length d) (reqB q).length (bv (reqB q)), A]) := by
  have hla := hq.la
  have hlt := hq.lt
  have hl1 := flat_len' accB 22 accB_len q.accs
  have hl2 := flat_len' trB 90 trB_len q.trs
  refine FSpec.intro Try.func14 rfl 55 Try.ntmps14 (Nat.le_of_ble_eq_true rfl) fun w0 F => ?_
  show CW _ _ _ _ _ _ (_ :: F)
  repeat (first | refine CW.seq ?_ | refine PW.then_ ?_ | refine CW.block ?_ | refine CW.skip ?_ | refine CW.ret ?_ | refine PW.then_ret ?_ | refine PW.block_ret ?_ | refine Cut.ret ?_ | refine Rnd.ret ?_ | refine PW.block_normal ?_ | refine CW.exit ?_ | refine PW.then_exit ?_ | refine PW.block_hit ?_ | refine PW.block_miss rfl ?_ | refine Cut.exit ?_ | refine Rnd.exit ?_)
  refine CW.region ?_
  refine LE (os_box rfl (by rfl)) ?_
  rintro _ _ ⟨b1, rfl, rfl⟩
  refine L1 (ps_assign rfl).os ?_
  refine LW.nil ?_
  repeat (first | refine CW.seq ?_ | refine PW.then_ ?_ | refine CW.block ?_ | refine CW.skip ?_ | refine CW.ret ?_ | refine PW.then_ret ?_ | refine PW.block_ret ?_ | refine Cut.ret ?_ | refine Rnd.ret ?_ | refine PW.block_normal ?_ | refine CW.exit ?_ | refine PW.then_exit ?_ | refine PW.block_hit ?_ | refine PW.block_miss rfl ?_ | refine Cut.exit ?_ | refine Rnd.exit ?_)
  refine CW.region ?_
  refine LE (os_alloc T.ti45) ?_
  rintro _ _ ⟨b3, rfl, rfl⟩
  refine LW.nil ?_
  refine J.ent (WrAt.fresh b3 _) ?_
  repeat (first | refine CW.seq ?_ | refine PW.then_ ?_ | refine CW.block ?_ | refine CW.skip ?_ | refine CW.ret ?_ | refine PW.then_ret ?_ | refine PW.block_ret ?_ | refine Cut.ret ?_ | refine Rnd.ret ?_ | refine PW.block_normal ?_ | refine CW.exit ?_ | refine PW.then_exit ?_ | refine PW.block_hit ?_ | refine PW.block_miss rfl ?_ | refine Cut.exit ?_ | refine Rnd.exit ?_)
  refine CW.region ?_
  refine L1 (ps_fa T.fa28_0 (by decide) rfl).os ?_
  refine L1 (os_load1 (by repeat (first | exact pk_head _ _ | apply pk_tail)) T.ag3 rfl (by rfl)) ?_
  refine LE (os_bslv (vs := [.int .i64 (q.kind)]) T.un41 T.ti3 (by rfl) (by rfl) rfl (by simp [Value.oneCell']) (by decide) (by decide)) ?_
  rintro _ _ ⟨b6, rfl, rfl⟩
  refine L1 (os_call2 (WI1 b3 [] 1 q.kind b6 (by decide) (by decide)) Try.func17 (by decide +kernel) rfl rfl (by repeat (first | exact pk_head _ _ | apply pk_tail)) (by repeat (first | exact pk_head _ _ | apply pk_tail))) ?_
  refine LW.nil ?_
  rw [List.nil_append]
  refine PW.then_ ?_
  refine CW.cutM (α := Unit) [8, 9, 10, 11, 12, 13, 14, 15, 16, 17, 18, 19, 20, 21, 22, 23, 24, 25, 26, 27, 28, 29, 30, 31, 32, 33, 34, 35, 36, 37, 38, 39, 40, 41, 42, 43, 44, 45, 46, 47, 48, 49, 50, 51, 52, 53] (fun _ => True) (fun a => []) (fun _ => WrAt b3 (reqB q) :: A :: F) ?_ ?_
  · repeat (first | refine CW.seq ?_ | refine PW.then_ ?_ | refine CW.block ?_ | refine CW.skip ?_ | refine CW.ret ?_ | refine PW.then_ret ?_ | refine PW.block_ret ?_ | refine Cut.ret ?_ | refine Rnd.ret ?_ | refine PW.block_normal ?_ | refine CW.exit ?_ | refine PW.then_exit ?_ | refine PW.block_hit ?_ | refine PW.block_miss rfl ?_ | refine Cut.exit ?_ | refine Rnd.exit ?_)
    refine CW.region ?_
    refine L1 (ps_fa T.fa28_0 (by decide) rfl).os ?_
    refine L1 (os_load1 (by repeat (first | exact pk_head _ _ | apply pk_tail)) T.ag3 rfl (by rfl)) ?_
    refine LW.nil ?_
    repeat (first | refine CW.seq ?_ | refine PW.then_ ?_ | refine CW.block ?_ | refine CW.skip ?_ | refine CW.ret ?_ | refine PW.then_ret ?_ | refine PW.block_ret ?_ | refine Cut.ret ?_ | refine Rnd.ret ?_ | refine PW.block_normal ?_ | refine CW.exit ?_ | refine PW.then_exit ?_ | refine PW.block_hit ?_ | refine PW.block_miss rfl ?_ | refine Cut.exit ?_ | refine Rnd.exit ?_)
    by_cases k1 : q.kind = 1
    · have hB : reqB q = be 1 q.kind ++ be 1 q.accs.length ++ (q.accs.map accB).flatten := by rw [reqB, bodyB, if_pos k1, List.append_assoc]
      rw [hB]
      refine CW.region ?_
      refine L1 (ps_t (ps_eql rfl rfl) (k1)).os ?_
      refine L1 (ps_assign rfl).os ?_
      refine LW.nil ?_
      repeat (first | refine CW.seq ?_ | refine PW.then_ ?_ | refine CW.block ?_ | refine CW.skip ?_ | refine CW.ret ?_ | refine PW.then_ret ?_ | refine PW.block_ret ?_ | refine Cut.ret ?_ | refine Rnd.ret ?_ | refine PW.block_normal ?_ | refine CW.exit ?_ | refine PW.then_exit ?_ | refine PW.block_hit ?_ | refine PW.block_miss rfl ?_ | refine Cut.exit ?_ | refine Rnd.exit ?_)
      refine CW.cond_true rfl ?_
      repeat (first | refine CW.seq ?_ | refine PW.then_ ?_ | refine CW.block ?_ | refine CW.skip ?_ | refine CW.ret ?_ | refine PW.then_ret ?_ | refine PW.block_ret ?_ | refine Cut.ret ?_ | refine Rnd.ret ?_ | refine PW.block_normal ?_ | refine CW.exit ?_ | refine PW.then_exit ?_ | refine PW.block_hit ?_ | refine PW.block_miss rfl ?_ | refine Cut.exit ?_ | refine Rnd.exit ?_)
      refine CW.cond_true rfl ?_
      repeat (first | refine CW.seq ?_ | refine PW.then_ ?_ | refine CW.block ?_ | refine CW.skip ?_ | refine CW.ret ?_ | refine PW.then_ret ?_ | refine PW.block_ret ?_ | refine Cut.ret ?_ | refine Rnd.ret ?_ | refine PW.block_normal ?_ | refine CW.exit ?_ | refine PW.then_exit ?_ | refine PW.block_hit ?_ | refine PW.block_miss rfl ?_ | refine Cut.exit ?_ | refine Rnd.exit ?_)
      refine CW.region ?_
      refine L1 (os_loadAll (b := b1) (cs := rqCells q av tv) (by repeat (first | exact pk_head _ _ | apply pk_tail)) T.ag28 (by exact T.sz28) rfl) ?_
      refine LE (os_call (events1 b3 (be 1 q.kind) A q av tv hq h1 h2 (by simp) k1) Try.func35 (by decide +kernel) rfl rfl (pk2 (by repeat (first | exact pk_head _ _ | apply pk_tail)) (by repeat (first | exact pk_head _ _ | apply pk_tail)))) ?_
      rintro _ _ ⟨_, rfl, rfl⟩
      refine LW.nil ?_
      repeat (first | refine CW.seq ?_ | refine PW.then_ ?_ | refine CW.block ?_ | refine CW.skip ?_ | refine CW.ret ?_ | refine PW.then_ret ?_ | refine PW.block_ret ?_ | refine Cut.ret ?_ | refine Rnd.ret ?_ | refine PW.block_normal ?_ | refine CW.exit ?_ | refine PW.then_exit ?_ | refine PW.block_hit ?_ | refine PW.block_miss rfl ?_ | refine Cut.exit ?_ | refine Rnd.exit ?_)
      exact Meet.cut () trivial (by repeat (first | (with_reducible exact Ag.refl _ _) | (with_reducible apply Ag.pu0) | ((with_reducible refine Ag.pu _ ?_ ?_); · exact rfl) | ((with_reducible refine Ag.mix ?_ ?_); · exact rfl) | ((with_reducible refine Ag.pus ?_ ?_); · exact rfl))) (by exact trivial) (by repeat (first | exact Ent.refl _ | (apply Ent.cons; · repeat (first | exact pk_head _ _ | apply pk_tail)) | apply Ent.skip))
    by_cases k2 : q.kind = 2
    · have hB : reqB q = be 1 q.kind ++ be 1 q.trs.length ++ (q.trs.map trB).flatten := by rw [reqB, bodyB, if_neg k1, if_pos k2, List.append_assoc]
      rw [hB]
      refine CW.region ?_
      refine L1 (ps_f (ps_eql rfl rfl) (k1)).os ?_
      refine L1 (ps_assign rfl).os ?_
      refine LW.nil ?_
      repeat (first | refine CW.seq ?_ | refine PW.then_ ?_ | refine CW.block ?_ | refine CW.skip ?_ | refine CW.ret ?_ | refine PW.then_ret ?_ | refine PW.block_ret ?_ | refine Cut.ret ?_ | refine Rnd.ret ?_ | refine PW.block_normal ?_ | refine CW.exit ?_ | refine PW.then_exit ?_ | refine PW.block_hit ?_ | refine PW.block_miss rfl ?_ | refine Cut.exit ?_ | refine Rnd.exit ?_)
      refine CW.cond_false rfl ?_
      repeat (first | refine CW.seq ?_ | refine PW.then_ ?_ | refine CW.block ?_ | refine CW.skip ?_ | refine CW.ret ?_ | refine PW.then_ret ?_ | refine PW.block_ret ?_ | refine Cut.ret ?_ | refine Rnd.ret ?_ | refine PW.block_normal ?_ | refine CW.exit ?_ | refine PW.then_exit ?_ | refine PW.block_hit ?_ | refine PW.block_miss rfl ?_ | refine Cut.exit ?_ | refine Rnd.exit ?_)
      refine CW.region ?_
      refine L1 (ps_t (ps_eql rfl rfl) (k2)).os ?_
      refine L1 (ps_assign rfl).os ?_
      refine LW.nil ?_
      repeat (first | refine CW.seq ?_ | refine PW.then_ ?_ | refine CW.block ?_ | refine CW.skip ?_ | refine CW.ret ?_ | refine PW.then_ret ?_ | refine PW.block_ret ?_ | refine Cut.ret ?_ | refine Rnd.ret ?_ | refine PW.block_normal ?_ | refine CW.exit ?_ | refine PW.then_exit ?_ | refine PW.block_hit ?_ | refine PW.block_miss rfl ?_ | refine Cut.exit ?_ | refine Rnd.exit ?_)
      refine CW.cond_true rfl ?_
      repeat (first | refine CW.seq ?_ | refine PW.then_ ?_ | refine CW.block ?_ | refine CW.skip ?_ | refine CW.ret ?_ | refine PW.then_ret ?_ | refine PW.block_ret ?_ | refine Cut.ret ?_ | refine Rnd.ret ?_ | refine PW.block_normal ?_ | refine CW.exit ?_ | refine PW.then_exit ?_ | refine PW.block_hit ?_ | refine PW.block_miss rfl ?_ | refine Cut.exit ?_ | refine Rnd.exit ?_)
      refine CW.region ?_
      refine L1 (os_loadAll (b := b1) (cs := rqCells q av tv) (by repeat (first | exact pk_head _ _ | apply pk_tail)) T.ag28 (by exact T.sz28) rfl) ?_
      refine LE (os_call (events2 b3 (be 1 q.kind) A q av tv hq h1 h2 (by simp) k2) Try.func35 (by decide +kernel) rfl rfl (pk2 (by repeat (first | exact pk_head _ _ | apply pk_tail)) (by repeat (first | exact pk_head _ _ | apply pk_tail)))) ?_
      rintro _ _ ⟨_, rfl, rfl⟩
      refine LW.nil ?_
      repeat (first | refine CW.seq ?_ | refine PW.then_ ?_ | refine CW.block ?_ | refine CW.skip ?_ | refine CW.ret ?_ | refine PW.then_ret ?_ | refine PW.block_ret ?_ | refine Cut.ret ?_ | refine Rnd.ret ?_ | refine PW.block_normal ?_ | refine CW.exit ?_ | refine PW.then_exit ?_ | refine PW.block_hit ?_ | refine PW.block_miss rfl ?_ | refine Cut.exit ?_ | refine Rnd.exit ?_)
      exact Meet.cut () trivial (by repeat (first | (with_reducible exact Ag.refl _ _) | (with_reducible apply Ag.pu0) | ((with_reducible refine Ag.pu _ ?_ ?_); · exact rfl) | ((with_reducible refine Ag.mix ?_ ?_); · exact rfl) | ((with_reducible refine Ag.pus ?_ ?_); · exact rfl))) (by exact trivial) (by repeat (first | exact Ent.refl _ | (apply Ent.cons; · repeat (first | exact pk_head _ _ | apply pk_tail)) | apply Ent.skip))
    refine CW.region ?_
    refine L1 (ps_f (ps_eql rfl rfl) (k1)).os ?_
    refine L1 (ps_assign rfl).os ?_
    refine LW.nil ?_
    repeat (first | refine CW.seq ?_ | refine PW.then_ ?_ | refine CW.block ?_ | refine CW.skip ?_ | refine CW.ret ?_ | refine PW.then_ret ?_ | refine PW.block_ret ?_ | refine Cut.ret ?_ | refine Rnd.ret ?_ | refine PW.block_normal ?_ | refine CW.exit ?_ | refine PW.then_exit ?_ | refine PW.block_hit ?_ | refine PW.block_miss rfl ?_ | refine Cut.exit ?_ | refine Rnd.exit ?_)
    refine CW.cond_false rfl ?_
    repeat (first | refine CW.seq ?_ | refine PW.then_ ?_ | refine CW.block ?_ | refine CW.skip ?_ | refine CW.ret ?_ | refine PW.then_ret ?_ | refine PW.block_ret ?_ | refine Cut.ret ?_ | refine Rnd.ret ?_ | refine PW.block_normal ?_ | refine CW.exit ?_ | refine PW.then_exit ?_ | refine PW.block_hit ?_ | refine PW.block_miss rfl ?_ | refine Cut.exit ?_ | refine Rnd.exit ?_)
    refine CW.region ?_
    refine L1 (ps_f (ps_eql rfl rfl) (k2)).os ?_
    refine L1 (ps_assign rfl).os ?_
    refine LW.nil ?_
    repeat (first | refine CW.seq ?_ | refine PW.then_ ?_ | refine CW.block ?_ | refine CW.skip ?_ | refine CW.ret ?_ | refine PW.then_ret ?_ | refine PW.block_ret ?_ | refine Cut.ret ?_ | refine Rnd.ret ?_ | refine PW.block_normal ?_ | refine CW.exit ?_ | refine PW.then_exit ?_ | refine PW.block_hit ?_ | refine PW.block_miss rfl ?_ | refine Cut.exit ?_ | refine Rnd.exit ?_)
    refine CW.cond_false rfl ?_
    repeat (first | refine CW.seq ?_ | refine PW.then_ ?_ | refine CW.block ?_ | refine CW.skip ?_ | refine CW.ret ?_ | refine PW.then_ret ?_ | refine PW.block_ret ?_ | refine Cut.ret ?_ | refine Rnd.ret ?_ | refine PW.block_normal ?_ | refine CW.exit ?_ | refine PW.then_exit ?_ | refine PW.block_hit ?_ | refine PW.block_miss rfl ?_ | refine Cut.exit ?_ | refine Rnd.exit ?_)
    by_cases k3 : q.kind = 3
    · have hB : reqB q = be 1 q.kind ++ be 4 q.fro := by rw [reqB, bodyB, if_neg k1, if_neg k2, if_pos k3]
      rw [hB]
      refine CW.region ?_
      refine L1 (ps_t (ps_eql rfl rfl) (k3)).os ?_
      refine L1 (ps_assign rfl).os ?_
      refine LW.nil ?_
      repeat (first | refine CW.seq ?_ | refine PW.then_ ?_ | refine CW.block ?_ | refine CW.skip ?_ | refine CW.ret ?_ | refine PW.then_ret ?_ | refine PW.block_ret ?_ | refine Cut.ret ?_ | refine Rnd.ret ?_ | refine PW.block_normal ?_ | refine CW.exit ?_ | refine PW.then_exit ?_ | refine PW.block_hit ?_ | refine PW.block_miss rfl ?_ | refine Cut.exit ?_ | refine Rnd.exit ?_)
      refine CW.cond_true rfl ?_
      repeat (first | refine CW.seq ?_ | refine PW.then_ ?_ | refine CW.block ?_ | refine CW.skip ?_ | refine CW.ret ?_ | refine PW.then_ret ?_ | refine PW.block_ret ?_ | refine Cut.ret ?_ | refine Rnd.ret ?_ | refine PW.block_normal ?_ | refine CW.exit ?_ | refine PW.then_exit ?_ | refine PW.block_hit ?_ | refine PW.block_miss rfl ?_ | refine Cut.exit ?_ | refine Rnd.exit ?_)
      refine CW.region ?_
      refine L1 (ps_fa T.fa28_4 (by decide) rfl).os ?_
      refine L1 (os_load1 (by repeat (first | exact pk_head _ _ | apply pk_tail)) T.ag3 rfl (by rfl)) ?_
      refine LE (os_bslv (vs := [.int .i64 (q.fro)]) T.un41 T.ti3 (by rfl) (by rfl) rfl (by simp [Value.oneCell']) (by decide) (by decide)) ?_
      rintro _ _ ⟨b19, rfl, rfl⟩
      refine L1 (os_call2 (WI1 b3 (be 1 q.kind) 4 q.fro b19 (by decide) (by simp)) Try.func17 (by decide +kernel) rfl rfl (by repeat (first | exact pk_head _ _ | apply pk_tail)) (by repeat (first | exact pk_head _ _ | apply pk_tail))) ?_
      refine LW.nil ?_
      repeat (first | refine CW.seq ?_ | refine PW.then_ ?_ | refine CW.block ?_ | refine CW.skip ?_ | refine CW.ret ?_ | refine PW.then_ret ?_ | refine PW.block_ret ?_ | refine Cut.ret ?_ | refine Rnd.ret ?_ | refine PW.block_normal ?_ | refine CW.exit ?_ | refine PW.then_exit ?_ | refine PW.block_hit ?_ | refine PW.block_miss rfl ?_ | refine Cut.exit ?_ | refine Rnd.exit ?_)
      exact Meet.cut () trivial (by repeat (first | (with_reducible exact Ag.refl _ _) | (with_reducible apply Ag.pu0) | ((with_reducible refine Ag.pu _ ?_ ?_); · exact rfl) | ((with_reducible refine Ag.mix ?_ ?_); · exact rfl) | ((with_reducible refine Ag.pus ?_ ?_); · exact rfl))) (by exact trivial) (by repeat (first | exact Ent.refl _ | (apply Ent.cons; · repeat (first | exact pk_head _ _ | apply pk_tail)) | apply Ent.skip))
    refine CW.region ?_
    refine L1 (ps_f (ps_eql rfl rfl) (k3)).os ?_
    refine L1 (ps_assign rfl).os ?_
    refine LW.nil ?_
    repeat (first | refine CW.seq ?_ | refine PW.then_ ?_ | refine CW.block ?_ | refine CW.skip ?_ | refine CW.ret ?_ | refine PW.then_ret ?_ | refine PW.block_ret ?_ | refine Cut.ret ?_ | refine Rnd.ret ?_ | refine PW.block_normal ?_ | refine CW.exit ?_ | refine PW.then_exit ?_ | refine PW.block_hit ?_ | refine PW.block_miss rfl ?_ | refine Cut.exit ?_ | refine Rnd.exit ?_)
    refine CW.cond_false rfl ?_
    refine CW.seq ?_
    refine CW.cutB (α := Bool) [21, 22, 23, 24] (fun o => o = decide (q.kind = 4 ∨ q.kind = 5 ∨ q.kind = 7)) (fun o => [(21, .bool o)]) (fun _ => WrAt b3 (be 1 q.kind) :: A :: cb b1 28 (rqCells q av tv) :: F) ?_ ?_
    · repeat (first | refine CW.seq ?_ | refine PW.then_ ?_ | refine CW.block ?_ | refine CW.skip ?_ | refine CW.ret ?_ | refine PW.then_ret ?_ | refine PW.block_ret ?_ | refine Cut.ret ?_ | refine Rnd.ret ?_ | refine PW.block_normal ?_ | refine CW.exit ?_ | refine PW.then_exit ?_ | refine PW.block_hit ?_ | refine PW.block_miss rfl ?_ | refine Cut.exit ?_ | refine Rnd.exit ?_)
      by_cases k4 : q.kind = 4
      · refine CW.region ?_
        refine L1 (ps_t (ps_eql rfl rfl) (k4)).os ?_
        refine L1 (ps_assign rfl).os ?_
        refine LW.nil ?_
        repeat (first | refine CW.seq ?_ | refine PW.then_ ?_ | refine CW.block ?_ | refine CW.skip ?_ | refine CW.ret ?_ | refine PW.then_ret ?_ | refine PW.block_ret ?_ | refine Cut.ret ?_ | refine Rnd.ret ?_ | refine PW.block_normal ?_ | refine CW.exit ?_ | refine PW.then_exit ?_ | refine PW.block_hit ?_ | refine PW.block_miss rfl ?_ | refine Cut.exit ?_ | refine Rnd.exit ?_)
        refine CW.cond_true rfl ?_
        repeat (first | refine CW.seq ?_ | refine PW.then_ ?_ | refine CW.block ?_ | refine CW.skip ?_ | refine CW.ret ?_ | refine PW.then_ret ?_ | refine PW.block_ret ?_ | refine Cut.ret ?_ | refine Rnd.ret ?_ | refine PW.block_normal ?_ | refine CW.exit ?_ | refine PW.then_exit ?_ | refine PW.block_hit ?_ | refine PW.block_miss rfl ?_ | refine Cut.exit ?_ | refine Rnd.exit ?_)
        exact Meet.cut true (by simp [k4]) (by repeat (first | (with_reducible exact Ag.refl _ _) | (with_reducible apply Ag.pu0) | ((with_reducible refine Ag.pu _ ?_ ?_); · exact rfl) | ((with_reducible refine Ag.mix ?_ ?_); · exact rfl) | ((with_reducible refine Ag.pus ?_ ?_); · exact rfl))) ⟨rfl, trivial⟩ (by repeat (first | exact Ent.refl _ | (apply Ent.cons; · repeat (first | exact pk_head _ _ | apply pk_tail)) | apply Ent.skip))
      refine CW.region ?_
      refine L1 (ps_f (ps_eql rfl rfl) (k4)).os ?_
      refine L1 (ps_assign rfl).os ?_
      refine LW.nil ?_
      repeat (first | refine CW.seq ?_ | refine PW.then_ ?_ | refine CW.block ?_ | refine CW.skip ?_ | refine CW.ret ?_ | refine PW.then_ret ?_ | refine PW.block_ret ?_ | refine Cut.ret ?_ | refine Rnd.ret ?_ | refine PW.block_normal ?_ | refine CW.exit ?_ | refine PW.then_exit ?_ | refine PW.block_hit ?_ | refine PW.block_miss rfl ?_ | refine Cut.exit ?_ | refine Rnd.exit ?_)
      refine CW.cond_false rfl ?_
      repeat (first | refine CW.seq ?_ | refine PW.then_ ?_ | refine CW.block ?_ | refine CW.skip ?_ | refine CW.ret ?_ | refine PW.then_ret ?_ | refine PW.block_ret ?_ | refine Cut.ret ?_ | refine Rnd.ret ?_ | refine PW.block_normal ?_ | refine CW.exit ?_ | refine PW.then_exit ?_ | refine PW.block_hit ?_ | refine PW.block_miss rfl ?_ | refine Cut.exit ?_ | refine Rnd.exit ?_)
      by_cases k5 : q.kind = 5
      · refine CW.region ?_
        refine L1 (ps_t (ps_eql rfl rfl) (k5)).os ?_
        refine L1 (ps_assign rfl).os ?_
        refine LW.nil ?_
        repeat (first | refine CW.seq ?_ | refine PW.then_ ?_ | refine CW.block ?_ | refine CW.skip ?_ | refine CW.ret ?_ | refine PW.then_ret ?_ | refine PW.block_ret ?_ | refine Cut.ret ?_ | refine Rnd.ret ?_ | refine PW.block_normal ?_ | refine CW.exit ?_ | refine PW.then_exit ?_ | refine PW.block_hit ?_ | refine PW.block_miss rfl ?_ | refine Cut.exit ?_ | refine Rnd.exit ?_)
        refine CW.cond_true rfl ?_
        repeat (first | refine CW.seq ?_ | refine PW.then_ ?_ | refine CW.block ?_ | refine CW.skip ?_ | refine CW.ret ?_ | refine PW.then_ret ?_ | refine PW.block_ret ?_ | refine Cut.ret ?_ | refine Rnd.ret ?_ | refine PW.block_normal ?_ | refine CW.exit ?_ | refine PW.then_exit ?_ | refine PW.block_hit ?_ | refine PW.block_miss rfl ?_ | refine Cut.exit ?_ | refine Rnd.exit ?_)
        exact Meet.cut true (by simp [k5]) (by repeat (first | (with_reducible exact Ag.refl _ _) | (with_reducible apply Ag.pu0) | ((with_reducible refine Ag.pu _ ?_ ?_); · exact rfl) | ((with_reducible refine Ag.mix ?_ ?_); · exact rfl) | ((with_reducible refine Ag.pus ?_ ?_); · exact rfl))) ⟨rfl, trivial⟩ (by repeat (first | exact Ent.refl _ | (apply Ent.cons; · repeat (first | exact pk_head _ _ | apply pk_tail)) | apply Ent.skip))
      refine CW.region ?_
      refine L1 (ps_f (ps_eql rfl rfl) (k5)).os ?_
      refine L1 (ps_assign rfl).os ?_
      refine LW.nil ?_
      repeat (first | refine CW.seq ?_ | refine PW.then_ ?_ | refine CW.block ?_ | refine CW.skip ?_ | refine CW.ret ?_ | refine PW.then_ret ?_ | refine PW.block_ret ?_ | refine Cut.ret ?_ | refine Rnd.ret ?_ | refine PW.block_normal ?_ | refine CW.exit ?_ | refine PW.then_exit ?_ | refine PW.block_hit ?_ | refine PW.block_miss rfl ?_ | refine Cut.exit ?_ | refine Rnd.exit ?_)
      refine CW.cond_false rfl ?_
      repeat (first | refine CW.seq ?_ | refine PW.then_ ?_ | refine CW.block ?_ | refine CW.skip ?_ | refine CW.ret ?_ | refine PW.then_ret ?_ | refine PW.block_ret ?_ | refine Cut.ret ?_ | refine Rnd.ret ?_ | refine PW.block_normal ?_ | refine CW.exit ?_ | refine PW.then_exit ?_ | refine PW.block_hit ?_ | refine PW.block_miss rfl ?_ | refine Cut.exit ?_ | refine Rnd.exit ?_)
      by_cases k7 : q.kind = 7
      · refine CW.region ?_
        refine L1 (ps_t (ps_eql rfl rfl) (k7)).os ?_
        refine L1 (ps_assign rfl).os ?_
        refine LW.nil ?_
        repeat (first | refine CW.seq ?_ | refine PW.then_ ?_ | refine CW.block ?_ | refine CW.skip ?_ | refine CW.ret ?_ | refine PW.then_ret ?_ | refine PW.block_ret ?_ | refine Cut.ret ?_ | refine Rnd.ret ?_ | refine PW.block_normal ?_ | refine CW.exit ?_ | refine PW.then_exit ?_ | refine PW.block_hit ?_ | refine PW.block_miss rfl ?_ | refine Cut.exit ?_ | refine Rnd.exit ?_)
        exact Meet.cut true (by simp [k7]) (by repeat (first | (with_reducible exact Ag.refl _ _) | (with_reducible apply Ag.pu0) | ((with_reducible refine Ag.pu _ ?_ ?_); · exact rfl) | ((with_reducible refine Ag.mix ?_ ?_); · exact rfl) | ((with_reducible refine Ag.pus ?_ ?_); · exact rfl))) ⟨rfl, trivial⟩ (by repeat (first | exact Ent.refl _ | (apply Ent.cons; · repeat (first | exact pk_head _ _ | apply pk_tail)) | apply Ent.skip))
      refine CW.region ?_
      refine L1 (ps_f (ps_eql rfl rfl) (k7)).os ?_
      refine L1 (ps_assign rfl).os ?_
      refine LW.nil ?_
      repeat (first | refine CW.seq ?_ | refine PW.then_ ?_ | refine CW.block ?_ | refine CW.skip ?_ | refine CW.ret ?_ | refine PW.then_ret ?_ | refine PW.block_ret ?_ | refine Cut.ret ?_ | refine Rnd.ret ?_ | refine PW.block_normal ?_ | refine CW.exit ?_ | refine PW.then_exit ?_ | refine PW.block_hit ?_ | refine PW.block_miss rfl ?_ | refine Cut.exit ?_ | refine Rnd.exit ?_)
      exact Meet.cut false (by simp [k4, k5, k7]) (by repeat (first | (with_reducible exact Ag.refl _ _) | (with_reducible apply Ag.pu0) | ((with_reducible refine Ag.pu _ ?_ ?_); · exact rfl) | ((with_reducible refine Ag.mix ?_ ?_); · exact rfl) | ((with_reducible refine Ag.pus ?_ ?_); · exact rfl))) ⟨rfl, trivial⟩ (by repeat (first | exact Ent.refl _ | (apply Ent.cons; · repeat (first | exact pk_head _ _ | apply pk_tail)) | apply Ent.skip))
    intro o g ho
    repeat (first | refine CW.seq ?_ | refine PW.then_ ?_ | refine CW.block ?_ | refine CW.skip ?_ | refine CW.ret ?_ | refine PW.then_ret ?_ | refine PW.block_ret ?_ | refine Cut.ret ?_ | refine Rnd.ret ?_ | refine PW.block_normal ?_ | refine CW.exit ?_ | refine PW.then_exit ?_ | refine PW.block_hit ?_ | refine PW.block_miss rfl ?_ | refine Cut.exit ?_ | refine Rnd.exit ?_)
    by_cases k457 : q.kind = 4 ∨ q.kind = 5 ∨ q.kind = 7
    · obtain rfl : o = true := by rw [ho]; simpa using k457
      have hB : reqB q = be 1 q.kind ++ numB q.id := by rw [reqB, bodyB, if_neg k1, if_neg k2, if_neg k3, if_pos k457]
      rw [hB]
      refine CW.cond_true rfl ?_
      repeat (first | refine CW.seq ?_ | refine PW.then_ ?_ | refine CW.block ?_ | refine CW.skip ?_ | refine CW.ret ?_ | refine PW.then_ret ?_ | refine PW.block_ret ?_ | refine Cut.ret ?_ | refine Rnd.ret ?_ | refine PW.block_normal ?_ | refine CW.exit ?_ | refine PW.then_exit ?_ | refine PW.block_hit ?_ | refine PW.block_miss rfl ?_ | refine Cut.exit ?_ | refine Rnd.exit ?_)
      refine CW.region ?_
      refine L1 (ps_fa T.fa28_3 (by decide) rfl).os ?_
      refine L1 (os_loadN (vs := nc q.id) (by repeat (first | exact pk_head _ _ | apply pk_tail)) T.ag26 T.sz26 rfl (by rfl) (by rfl)) ?_
      refine LE (os_bslR ([q.id].map nc) T.un74 T.ti26 (by rfl) (by rfl) (by simp [nc_len]) (by decide) (by decide)) ?_
      rintro _ _ ⟨b27, rfl, rfl⟩
      refine L1 (os_call2 (WN1 b3 (be 1 q.kind) q.id b27 hq.id (by simp)) Try.func19 (by decide +kernel) rfl rfl (by repeat (first | exact pk_head _ _ | apply pk_tail)) (by repeat (first | exact pk_head _ _ | apply pk_tail))) ?_
      refine LW.nil ?_
      repeat (first | refine CW.seq ?_ | refine PW.then_ ?_ | refine CW.block ?_ | refine CW.skip ?_ | refine CW.ret ?_ | refine PW.then_ret ?_ | refine PW.block_ret ?_ | refine Cut.ret ?_ | refine Rnd.ret ?_ | refine PW.block_normal ?_ | refine CW.exit ?_ | refine PW.then_exit ?_ | refine PW.block_hit ?_ | refine PW.block_miss rfl ?_ | refine Cut.exit ?_ | refine Rnd.exit ?_)
      exact Meet.cut () trivial (by repeat (first | (with_reducible exact Ag.refl _ _) | (with_reducible apply Ag.pu0) | ((with_reducible refine Ag.pu _ ?_ ?_); · exact rfl) | ((with_reducible refine Ag.mix ?_ ?_); · exact rfl) | ((with_reducible refine Ag.pus ?_ ?_); · exact rfl))) (by exact trivial) (by repeat (first | exact Ent.refl _ | (apply Ent.cons; · repeat (first | exact pk_head _ _ | apply pk_tail)) | apply Ent.skip))
    obtain rfl : o = false := by rw [ho]; simpa using k457
    refine CW.cond_false rfl ?_
    refine CW.seq ?_
    refine CW.cutB (α := Bool) [29, 30, 31] (fun o => o = decide (q.kind = 6 ∨ q.kind = 8)) (fun o => [(29, .bool o)]) (fun _ => WrAt b3 (be 1 q.kind) :: A :: cb b1 28 (rqCells q av tv) :: F) ?_ ?_
    · repeat (first | refine CW.seq ?_ | refine PW.then_ ?_ | refine CW.block ?_ | refine CW.skip ?_ | refine CW.ret ?_ | refine PW.then_ret ?_ | refine PW.block_ret ?_ | refine Cut.ret ?_ | refine Rnd.ret ?_ | refine PW.block_normal ?_ | refine CW.exit ?_ | refine PW.then_exit ?_ | refine PW.block_hit ?_ | refine PW.block_miss rfl ?_ | refine Cut.exit ?_ | refine Rnd.exit ?_)
      by_cases k6 : q.kind = 6
      · refine CW.region ?_
        refine L1 (ps_t (ps_eql rfl rfl) (k6)).os ?_
        refine L1 (ps_assign rfl).os ?_
        refine LW.nil ?_
        repeat (first | refine CW.seq ?_ | refine PW.then_ ?_ | refine CW.block ?_ | refine CW.skip ?_ | refine CW.ret ?_ | refine PW.then_ret ?_ | refine PW.block_ret ?_ | refine Cut.ret ?_ | refine Rnd.ret ?_ | refine PW.block_normal ?_ | refine CW.exit ?_ | refine PW.then_exit ?_ | refine PW.block_hit ?_ | refine PW.block_miss rfl ?_ | refine Cut.exit ?_ | refine Rnd.exit ?_)
        refine CW.cond_true rfl ?_
        repeat (first | refine CW.seq ?_ | refine PW.then_ ?_ | refine CW.block ?_ | refine CW.skip ?_ | refine CW.ret ?_ | refine PW.then_ret ?_ | refine PW.block_ret ?_ | refine Cut.ret ?_ | refine Rnd.ret ?_ | refine PW.block_normal ?_ | refine CW.exit ?_ | refine PW.then_exit ?_ | refine PW.block_hit ?_ | refine PW.block_miss rfl ?_ | refine Cut.exit ?_ | refine Rnd.exit ?_)
        exact Meet.cut true (by simp [k6]) (by repeat (first | (with_reducible exact Ag.refl _ _) | (with_reducible apply Ag.pu0) | ((with_reducible refine Ag.pu _ ?_ ?_); · exact rfl) | ((with_reducible refine Ag.mix ?_ ?_); · exact rfl) | ((with_reducible refine Ag.pus ?_ ?_); · exact rfl))) ⟨rfl, trivial⟩ (by repeat (first | exact Ent.refl _ | (apply Ent.cons; · repeat (first | exact pk_head _ _ | apply pk_tail)) | apply Ent.skip))
      refine CW.region ?_
      refine L1 (ps_f (ps_eql rfl rfl) (k6)).os ?_
      refine L1 (ps_assign rfl).os ?_
      refine LW.nil ?_
      repeat (first | refine CW.seq ?_ | refine PW.then_ ?_ | refine CW.block ?_ | refine CW.skip ?_ | refine CW.ret ?_ | refine PW.then_ret ?_ | refine PW.block_ret ?_ | refine Cut.ret ?_ | refine Rnd.ret ?_ | refine PW.block_normal ?_ | refine CW.exit ?_ | refine PW.then_exit ?_ | refine PW.block_hit ?_ | refine PW.block_miss rfl ?_ | refine Cut.exit ?_ | refine Rnd.exit ?_)
      refine CW.cond_false rfl ?_
      repeat (first | refine CW.seq ?_ | refine PW.then_ ?_ | refine CW.block ?_ | refine CW.skip ?_ | refine CW.ret ?_ | refine PW.then_ret ?_ | refine PW.block_ret ?_ | refine Cut.ret ?_ | refine Rnd.ret ?_ | refine PW.block_normal ?_ | refine CW.exit ?_ | refine PW.then_exit ?_ | refine PW.block_hit ?_ | refine PW.block_miss rfl ?_ | refine Cut.exit ?_ | refine Rnd.exit ?_)
      by_cases k8 : q.kind = 8
      · refine CW.region ?_
        refine L1 (ps_t (ps_eql rfl rfl) (k8)).os ?_
        refine L1 (ps_assign rfl).os ?_
        refine LW.nil ?_
        repeat (first | refine CW.seq ?_ | refine PW.then_ ?_ | refine CW.block ?_ | refine CW.skip ?_ | refine CW.ret ?_ | refine PW.then_ret ?_ | refine PW.block_ret ?_ | refine Cut.ret ?_ | refine Rnd.ret ?_ | refine PW.block_normal ?_ | refine CW.exit ?_ | refine PW.then_exit ?_ | refine PW.block_hit ?_ | refine PW.block_miss rfl ?_ | refine Cut.exit ?_ | refine Rnd.exit ?_)
        exact Meet.cut true (by simp [k8]) (by repeat (first | (with_reducible exact Ag.refl _ _) | (with_reducible apply Ag.pu0) | ((with_reducible refine Ag.pu _ ?_ ?_); · exact rfl) | ((with_reducible refine Ag.mix ?_ ?_); · exact rfl) | ((with_reducible refine Ag.pus ?_ ?_); · exact rfl))) ⟨rfl, trivial⟩ (by repeat (first | exact Ent.refl _ | (apply Ent.cons; · repeat (first | exact pk_head _ _ | apply pk_tail)) | apply Ent.skip))
      refine CW.region ?_
      refine L1 (ps_f (ps_eql rfl rfl) (k8)).os ?_
      refine L1 (ps_assign rfl).os ?_
      refine LW.nil ?_
      repeat (first | refine CW.seq ?_ | refine PW.then_ ?_ | refine CW.block ?_ | refine CW.skip ?_ | refine CW.ret ?_ | refine PW.then_ret ?_ | refine PW.block_ret ?_ | refine Cut.ret ?_ | refine Rnd.ret ?_ | refine PW.block_normal ?_ | refine CW.exit ?_ | refine PW.then_exit ?_ | refine PW.block_hit ?_ | refine PW.block_miss rfl ?_ | refine Cut.exit ?_ | refine Rnd.exit ?_)
      exact Meet.cut false (by simp [k6, k8]) (by repeat (first | (with_reducible exact Ag.refl _ _) | (with_reducible apply Ag.pu0) | ((with_reducible refine Ag.pu _ ?_ ?_); · exact rfl) | ((with_reducible refine Ag.mix ?_ ?_); · exact rfl) | ((with_reducible refine Ag.pus ?_ ?_); · exact rfl))) ⟨rfl, trivial⟩ (by repeat (first | exact Ent.refl _ | (apply Ent.cons; · repeat (first | exact pk_head _ _ | apply pk_tail)) | apply Ent.skip))
    intro o g1 ho
    repeat (first | refine CW.seq ?_ | refine PW.then_ ?_ | refine CW.block ?_ | refine CW.skip ?_ | refine CW.ret ?_ | refine PW.then_ret ?_ | refine PW.block_ret ?_ | refine Cut.ret ?_ | refine Rnd.ret ?_ | refine PW.block_normal ?_ | refine CW.exit ?_ | refine PW.then_exit ?_ | refine PW.block_hit ?_ | refine PW.block_miss rfl ?_ | refine Cut.exit ?_ | refine Rnd.exit ?_)
    by_cases k68 : q.kind = 6 ∨ q.kind = 8
    · obtain rfl : o = true := by rw [ho]; simpa using k68
      have hB : reqB q = be 1 q.kind ++ numB q.id ++ (be 6 q.fro ++ be 6 q.to) ++ be 1 q.lim := by rw [reqB, bodyB, if_neg k1, if_neg k2, if_neg k3, if_neg k457, if_pos k68]; simp only [List.append_assoc]
      rw [hB]
      refine CW.cond_true rfl ?_
      repeat (first | refine CW.seq ?_ | refine PW.then_ ?_ | refine CW.block ?_ | refine CW.skip ?_ | refine CW.ret ?_ | refine PW.then_ret ?_ | refine PW.block_ret ?_ | refine Cut.ret ?_ | refine Rnd.ret ?_ | refine PW.block_normal ?_ | refine CW.exit ?_ | refine PW.then_exit ?_ | refine PW.block_hit ?_ | refine PW.block_miss rfl ?_ | refine Cut.exit ?_ | refine Rnd.exit ?_)
      refine CW.cutB (α := Unit) [32, 33, 34, 35, 36, 37, 38, 39, 40, 41, 42, 43, 44, 45] (fun _ => True) (fun _ => []) (fun _ => WrAt b3 (be 1 q.kind ++ numB q.id ++ (be 6 q.fro ++ be 6 q.to) ++ be 1 q.lim) :: A :: F) ?_ ?_
      · refine CW.drawH [cb b1 28 (rqCells q av tv)] [] T.mixed ?_
        refine H_take (i := 0) (some 32) rfl rfl (by kernel_rfl) (by kernel_rfl) (by kernel_rfl) rfl (ps_fa T.fa28_3 (by decide) rfl).pl (by kernel_rfl) (pkc (by repeat (first | exact pk_head _ _ | apply pk_tail)) (pkn _)) ?_
        refine H_take (i := 1) (some 33) rfl rfl (by kernel_rfl) (by kernel_rfl) (by kernel_rfl) rfl (pl_loadN (vs := nc q.id) (by repeat (first | exact pk_head _ _ | apply pk_tail)) T.ag26 T.sz26 rfl (by rfl) (by rfl)) (by kernel_rfl) (pkc (by repeat (first | exact pk_head _ _ | apply pk_tail)) (pkn _)) ?_
        refine H_take (i := 4) (some 36) rfl rfl (by kernel_rfl) (by kernel_rfl) (by kernel_rfl) rfl (ps_fa T.fa28_4 (by decide) rfl).pl (by kernel_rfl) (pkc (by repeat (first | exact pk_head _ _ | apply pk_tail)) (pkn _)) ?_
        refine H_take (i := 5) (some 37) rfl rfl (by kernel_rfl) (by kernel_rfl) (by kernel_rfl) rfl (pl_load1 (by repeat (first | exact pk_head _ _ | apply pk_tail)) T.ag3 rfl (by rfl)) (by kernel_rfl) (pkc (by repeat (first | exact pk_head _ _ | apply pk_tail)) (pkn _)) ?_
        refine H_take (i := 6) (some 38) rfl rfl (by kernel_rfl) (by kernel_rfl) (by kernel_rfl) rfl (ps_fa T.fa28_5 (by decide) rfl).pl (by kernel_rfl) (pkc (by repeat (first | exact pk_head _ _ | apply pk_tail)) (pkn _)) ?_
        refine H_take (i := 7) (some 39) rfl rfl (by kernel_rfl) (by kernel_rfl) (by kernel_rfl) rfl (pl_load1 (by repeat (first | exact pk_head _ _ | apply pk_tail)) T.ag3 rfl (by rfl)) (by kernel_rfl) (pkc (by repeat (first | exact pk_head _ _ | apply pk_tail)) (pkn _)) ?_
        refine H_take (i := 10) (some 42) rfl rfl (by kernel_rfl) (by kernel_rfl) (by kernel_rfl) rfl (ps_fa T.fa28_6 (by decide) rfl).pl (by kernel_rfl) (pkc (by repeat (first | exact pk_head _ _ | apply pk_tail)) (pkn _)) ?_
        refine H_take (i := 11) (some 43) rfl rfl (by kernel_rfl) (by kernel_rfl) (by kernel_rfl) rfl (pl_load1 (by repeat (first | exact pk_head _ _ | apply pk_tail)) T.ag3 rfl (by rfl)) (by kernel_rfl) (pkc (by repeat (first | exact pk_head _ _ | apply pk_tail)) (pkn _)) ?_
        refine H_branch (rs := [2, 8, 12]) (by kernel_rfl) (by simp) ?_
        refine HR.consE (i := 2) (some 34) rfl rfl rfl (os_bslR ([q.id].map nc) T.un74 T.ti26 (by rfl) (by rfl) (by simp [nc_len]) (by decide) (by decide)) ?_ ?_
        · rintro _ _ ⟨b34, rfl, rfl⟩
          refine ⟨fun _ => ⟨_, (pkc (by repeat (first | exact pk_head _ _ | apply pk_tail)) (pkn _))⟩, ?_⟩
          refine H_branch (rs := [3, 8, 12]) (by kernel_rfl) (by simp) ?_
          refine HR.cons1 (i := 3) (some 35) rfl rfl rfl (os_call2 (WN1 b3 (be 1 q.kind) q.id b34 hq.id (by simp)) Try.func19 (by decide +kernel) rfl rfl (by repeat (first | exact pk_head _ _ | apply pk_tail)) (by repeat (first | exact pk_head _ _ | apply pk_tail))) (pkc (by repeat (first | exact pk_head _ _ | apply pk_tail)) (pkn _)) ?_ ?_
          · skip
            refine H_branch (rs := [8, 12]) (by kernel_rfl) (by simp) ?_
            refine HR.consE (i := 8) (some 40) rfl rfl rfl (os_bslv (vs := [.int .i64 (q.fro), .int .i64 (q.to)]) T.un41 T.ti3 (by rfl) (by rfl) rfl (by simp [Value.oneCell']) (by decide) (by decide)) ?_ ?_
            · rintro _ _ ⟨b40, rfl, rfl⟩
              refine ⟨fun _ => ⟨_, (pkc (by repeat (first | exact pk_head _ _ | apply pk_tail)) (pkn _))⟩, ?_⟩
              refine H_branch (rs := [9, 12]) (by kernel_rfl) (by simp) ?_
              refine HR.cons1 (i := 9) (some 41) rfl rfl rfl (os_call2 (WI2 b3 (be 1 q.kind ++ numB q.id) 6 q.fro q.to b40 (by decide) (by simp)) Try.func17 (by decide +kernel) rfl rfl (by repeat (first | exact pk_head _ _ | apply pk_tail)) (by repeat (first | exact pk_head _ _ | apply pk_tail))) (pkc (by repeat (first | exact pk_head _ _ | apply pk_tail)) (pkn _)) ?_ ?_
              · skip
                refine H_branch (rs := [12]) (by kernel_rfl) (by simp) ?_
                refine HR.consE (i := 12) (some 44) rfl rfl rfl (os_bslv (vs := [.int .i64 (q.lim)]) T.un41 T.ti3 (by rfl) (by rfl) rfl (by simp [Value.oneCell']) (by decide) (by decide)) ?_ ?_
                · rintro _ _ ⟨b44, rfl, rfl⟩
                  refine ⟨fun _ => ⟨_, (pkc (by repeat (first | exact pk_head _ _ | apply pk_tail)) (pkn _))⟩, ?_⟩
                  refine H_branch (rs := [13]) (by kernel_rfl) (by simp) ?_
                  refine HR.cons1 (i := 13) (some 45) rfl rfl rfl (os_call2 (WI1 b3 (be 1 q.kind ++ numB q.id ++ (be 6 q.fro ++ be 6 q.to)) 1 q.lim b44 (by decide) (by simp)) Try.func17 (by decide +kernel) rfl rfl (by repeat (first | exact pk_head _ _ | apply pk_tail)) (by repeat (first | exact pk_head _ _ | apply pk_tail))) (pkc (by repeat (first | exact pk_head _ _ | apply pk_tail)) (pkn _)) ?_ ?_
                  · skip
                    refine H_done (by kernel_rfl) ?_
                    exact Meet.cut () trivial (by repeat (first | (with_reducible exact Ag.refl _ _) | (with_reducible apply Ag.pu0) | ((with_reducible refine Ag.pu _ ?_ ?_); · exact rfl) | ((with_reducible refine Ag.mix ?_ ?_); · exact rfl) | ((with_reducible refine Ag.pus ?_ ?_); · exact rfl))) (by exact trivial) (by repeat (first | exact Ent.refl _ | (apply Ent.cons; · repeat (first | exact pk_head _ _ | apply pk_tail)) | apply Ent.skip))
                  exact HR.nil
                exact HR.nil
              refine HR.consE (i := 12) (some 44) rfl rfl rfl (os_bslv (vs := [.int .i64 (q.lim)]) T.un41 T.ti3 (by rfl) (by rfl) rfl (by simp [Value.oneCell']) (by decide) (by decide)) ?_ ?_
              · rintro _ _ ⟨b44, rfl, rfl⟩
                refine ⟨fun _ => ⟨_, (pkc (by repeat (first | exact pk_head _ _ | apply pk_tail)) (pkn _))⟩, ?_⟩
                refine H_branch (rs := [9]) (by kernel_rfl) (by simp) ?_
                refine HR.cons1 (i := 9) (some 41) rfl rfl rfl (os_call2 (WI2 b3 (be 1 q.kind ++ numB q.id) 6 q.fro q.to b40 (by decide) (by simp)) Try.func17 (by decide +kernel) rfl rfl (by repeat (first | exact pk_head _ _ | apply pk_tail)) (by repeat (first | exact pk_head _ _ | apply pk_tail))) (pkc (by repeat (first | exact pk_head _ _ | apply pk_tail)) (pkn _)) ?_ ?_
                · skip
                  refine H_branch (rs := [13]) (by kernel_rfl) (by simp) ?_
                  refine HR.cons1 (i := 13) (some 45) rfl rfl rfl (os_call2 (WI1 b3 (be 1 q.kind ++ numB q.id ++ (be 6 q.fro ++ be 6 q.to)) 1 q.lim b44 (by decide) (by simp)) Try.func17 (by decide +kernel) rfl rfl (by repeat (first | exact pk_head _ _ | apply pk_tail)) (by repeat (first | exact pk_head _ _ | apply pk_tail))) (pkc (by repeat (first | exact pk_head _ _ | apply pk_tail)) (pkn _)) ?_ ?_
                  · skip
                    refine H_done (by kernel_rfl) ?_
                    exact Meet.cut () trivial (by repeat (first | (with_reducible exact Ag.refl _ _) | (with_reducible apply Ag.pu0) | ((with_reducible refine Ag.pu _ ?_ ?_); · exact rfl) | ((with_reducible refine Ag.mix ?_ ?_); · exact rfl) | ((with_reducible refine Ag.pus ?_ ?_); · exact rfl))) (by exact trivial) (by repeat (first | exact Ent.refl _ | (apply Ent.cons; · repeat (first | exact pk_head _ _ | apply pk_tail)) | apply Ent.skip))
                  exact HR.nil
                exact HR.nil
              exact HR.nil
            refine HR.consE (i := 12) (some 44) rfl rfl rfl (os_bslv (vs := [.int .i64 (q.lim)]) T.un41 T.ti3 (by rfl) (by rfl) rfl (by simp [Value.oneCell']) (by decide) (by decide)) ?_ ?_
            · rintro _ _ ⟨b44, rfl, rfl⟩
              refine ⟨fun _ => ⟨_, (pkc (by repeat (first | exact pk_head _ _ | apply pk_tail)) (pkn _))⟩, ?_⟩
              refine H_branch (rs := [8]) (by kernel_rfl) (by simp) ?_
              refine HR.consE (i := 8) (some 40) rfl rfl rfl (os_bslv (vs := [.int .i64 (q.fro), .int .i64 (q.to)]) T.un41 T.ti3 (by rfl) (by rfl) rfl (by simp [Value.oneCell']) (by decide) (by decide)) ?_ ?_
              · rintro _ _ ⟨b40, rfl, rfl⟩
                refine ⟨fun _ => ⟨_, (pkc (by repeat (first | exact pk_head _ _ | apply pk_tail)) (pkn _))⟩, ?_⟩
                refine H_branch (rs := [9]) (by kernel_rfl) (by simp) ?_
                refine HR.cons1 (i := 9) (some 41) rfl rfl rfl (os_call2 (WI2 b3 (be 1 q.kind ++ numB q.id) 6 q.fro q.to b40 (by decide) (by simp)) Try.func17 (by decide +kernel) rfl rfl (by repeat (first | exact pk_head _ _ | apply pk_tail)) (by repeat (first | exact pk_head _ _ | apply pk_tail))) (pkc (by repeat (first | exact pk_head _ _ | apply pk_tail)) (pkn _)) ?_ ?_
                · skip
                  refine H_branch (rs := [13]) (by kernel_rfl) (by simp) ?_
                  refine HR.cons1 (i := 13) (some 45) rfl rfl rfl (os_call2 (WI1 b3 (be 1 q.kind ++ numB q.id ++ (be 6 q.fro ++ be 6 q.to)) 1 q.lim b44 (by decide) (by simp)) Try.func17 (by decide +kernel) rfl rfl (by repeat (first | exact pk_head _ _ | apply pk_tail)) (by repeat (first | exact pk_head _ _ | apply pk_tail))) (pkc (by repeat (first | exact pk_head _ _ | apply pk_tail)) (pkn _)) ?_ ?_
                  · skip
                    refine H_done (by kernel_rfl) ?_
                    exact Meet.cut () trivial (by repeat (first | (with_reducible exact Ag.refl _ _) | (with_reducible apply Ag.pu0) | ((with_reducible refine Ag.pu _ ?_ ?_); · exact rfl) | ((with_reducible refine Ag.mix ?_ ?_); · exact rfl) | ((with_reducible refine Ag.pus ?_ ?_); · exact rfl))) (by exact trivial) (by repeat (first | exact Ent.refl _ | (apply Ent.cons; · repeat (first | exact pk_head _ _ | apply pk_tail)) | apply Ent.skip))
                  exact HR.nil
                exact HR.nil
              exact HR.nil
            exact HR.nil
          refine HR.consE (i := 8) (some 40) rfl rfl rfl (os_bslv (vs := [.int .i64 (q.fro), .int .i64 (q.to)]) T.un41 T.ti3 (by rfl) (by rfl) rfl (by simp [Value.oneCell']) (by decide) (by decide)) ?_ ?_
          · rintro _ _ ⟨b40, rfl, rfl⟩
            refine ⟨fun _ => ⟨_, (pkc (by repeat (first | exact pk_head _ _ | apply pk_tail)) (pkn _))⟩, ?_⟩
            refine H_branch (rs := [3, 12]) (by kernel_rfl) (by simp) ?_
            refine HR.cons1 (i := 3) (some 35) rfl rfl rfl (os_call2 (WN1 b3 (be 1 q.kind) q.id b34 hq.id (by simp)) Try.func19 (by decide +kernel) rfl rfl (by repeat (first | exact pk_head _ _ | apply pk_tail)) (by repeat (first | exact pk_head _ _ | apply pk_tail))) (pkc (by repeat (first | exact pk_head _ _ | apply pk_tail)) (pkn _)) ?_ ?_
            · skip
              refine H_branch (rs := [9, 12]) (by kernel_rfl) (by simp) ?_
              refine HR.cons1 (i := 9) (some 41) rfl rfl rfl (os_call2 (WI2 b3 (be 1 q.kind ++ numB q.id) 6 q.fro q.to b40 (by decide) (by simp)) Try.func17 (by decide +kernel) rfl rfl (by repeat (first | exact pk_head _ _ | apply pk_tail)) (by repeat (first | exact pk_head _ _ | apply pk_tail))) (pkc (by repeat (first | exact pk_head _ _ | apply pk_tail)) (pkn _)) ?_ ?_
              · skip
                refine H_branch (rs := [12]) (by kernel_rfl) (by simp) ?_
                refine HR.consE (i := 12) (some 44) rfl rfl rfl (os_bslv (vs := [.int .i64 (q.lim)]) T.un41 T.ti3 (by rfl) (by rfl) rfl (by simp [Value.oneCell']) (by decide) (by decide)) ?_ ?_
                · rintro _ _ ⟨b44, rfl, rfl⟩
                  refine ⟨fun _ => ⟨_, (pkc (by repeat (first | exact pk_head _ _ | apply pk_tail)) (pkn _))⟩, ?_⟩
                  refine H_branch (rs := [13]) (by kernel_rfl) (by simp) ?_
                  refine HR.cons1 (i := 13) (some 45) rfl rfl rfl (os_call2 (WI1 b3 (be 1 q.kind ++ numB q.id ++ (be 6 q.fro ++ be 6 q.to)) 1 q.lim b44 (by decide) (by simp)) Try.func17 (by decide +kernel) rfl rfl (by repeat (first | exact pk_head _ _ | apply pk_tail)) (by repeat (first | exact pk_head _ _ | apply pk_tail))) (pkc (by repeat (first | exact pk_head _ _ | apply pk_tail)) (pkn _)) ?_ ?_
                  · skip
                    refine H_done (by kernel_rfl) ?_
                    exact Meet.cut () trivial (by repeat (first | (with_reducible exact Ag.refl _ _) | (with_reducible apply Ag.pu0) | ((with_reducible refine Ag.pu _ ?_ ?_); · exact rfl) | ((with_reducible refine Ag.mix ?_ ?_); · exact rfl) | ((with_reducible refine Ag.pus ?_ ?_); · exact rfl))) (by exact trivial) (by repeat (first | exact Ent.refl _ | (apply Ent.cons; · repeat (first | exact pk_head _ _ | apply pk_tail)) | apply Ent.skip))
                  exact HR.nil
                exact HR.nil
              refine HR.consE (i := 12) (some 44) rfl rfl rfl (os_bslv (vs := [.int .i64 (q.lim)]) T.un41 T.ti3 (by rfl) (by rfl) rfl (by simp [Value.oneCell']) (by decide) (by decide)) ?_ ?_
              · rintro _ _ ⟨b44, rfl, rfl⟩
                refine ⟨fun _ => ⟨_, (pkc (by repeat (first | exact pk_head _ _ | apply pk_tail)) (pkn _))⟩, ?_⟩
                refine H_branch (rs := [9]) (by kernel_rfl) (by simp) ?_
                refine HR.cons1 (i := 9) (some 41) rfl rfl rfl (os_call2 (WI2 b3 (be 1 q.kind ++ numB q.id) 6 q.fro q.to b40 (by decide) (by simp)) Try.func17 (by decide +kernel) rfl rfl (by repeat (first | exact pk_head _ _ | apply pk_tail)) (by repeat (first | exact pk_head _ _ | apply pk_tail))) (pkc (by repeat (first | exact pk_head _ _ | apply pk_tail)) (pkn _)) ?_ ?_
                · skip
                  refine H_branch (rs := [13]) (by kernel_rfl) (by simp) ?_
                  refine HR.cons1 (i := 13) (some 45) rfl rfl rfl (os_call2 (WI1 b3 (be 1 q.kind ++ numB q.id ++ (be 6 q.fro ++ be 6 q.to)) 1 q.lim b44 (by decide) (by simp)) Try.func17 (by decide +kernel) rfl rfl (by repeat (first | exact pk_head _ _ | apply pk_tail)) (by repeat (first | exact pk_head _ _ | apply pk_tail))) (pkc (by repeat (first | exact pk_head _ _ | apply pk_tail)) (pkn _)) ?_ ?_
                  · skip
                    refine H_done (by kernel_rfl) ?_
                    exact Meet.cut () trivial (by repeat (first | (with_reducible exact Ag.refl _ _) | (with_reducible apply Ag.pu0) | ((with_reducible refine Ag.pu _ ?_ ?_); · exact rfl) | ((with_reducible refine Ag.mix ?_ ?_); · exact rfl) | ((with_reducible refine Ag.pus ?_ ?_); · exact rfl))) (by exact trivial) (by repeat (first | exact Ent.refl _ | (apply Ent.cons; · repeat (first | exact pk_head _ _ | apply pk_tail)) | apply Ent.skip))
                  exact HR.nil
                exact HR.nil
              exact HR.nil
            refine HR.consE (i := 12) (some 44) rfl rfl rfl (os_bslv (vs := [.int .i64 (q.lim)]) T.un41 T.ti3 (by rfl) (by rfl) rfl (by simp [Value.oneCell']) (by decide) (by decide)) ?_ ?_
            · rintro _ _ ⟨b44, rfl, rfl⟩
              refine ⟨fun _ => ⟨_, (pkc (by repeat (first | exact pk_head _ _ | apply pk_tail)) (pkn _))⟩, ?_⟩
              refine H_branch (rs := [3]) (by kernel_rfl) (by simp) ?_
              refine HR.cons1 (i := 3) (some 35) rfl rfl rfl (os_call2 (WN1 b3 (be 1 q.kind) q.id b34 hq.id (by simp)) Try.func19 (by decide +kernel) rfl rfl (by repeat (first | exact pk_head _ _ | apply pk_tail)) (by repeat (first | exact pk_head _ _ | apply pk_tail))) (pkc (by repeat (first | exact pk_head _ _ | apply pk_tail)) (pkn _)) ?_ ?_
              · skip
                refine H_branch (rs := [9]) (by kernel_rfl) (by simp) ?_
                refine HR.cons1 (i := 9) (some 41) rfl rfl rfl (os_call2 (WI2 b3 (be 1 q.kind ++ numB q.id) 6 q.fro q.to b40 (by decide) (by simp)) Try.func17 (by decide +kernel) rfl rfl (by repeat (first | exact pk_head _ _ | apply pk_tail)) (by repeat (first | exact pk_head _ _ | apply pk_tail))) (pkc (by repeat (first | exact pk_head _ _ | apply pk_tail)) (pkn _)) ?_ ?_
                · skip
                  refine H_branch (rs := [13]) (by kernel_rfl) (by simp) ?_
                  refine HR.cons1 (i := 13) (some 45) rfl rfl rfl (os_call2 (WI1 b3 (be 1 q.kind ++ numB q.id ++ (be 6 q.fro ++ be 6 q.to)) 1 q.lim b44 (by decide) (by simp)) Try.func17 (by decide +kernel) rfl rfl (by repeat (first | exact pk_head _ _ | apply pk_tail)) (by repeat (first | exact pk_head _ _ | apply pk_tail))) (pkc (by repeat (first | exact pk_head _ _ | apply pk_tail)) (pkn _)) ?_ ?_
                  · skip
                    refine H_done (by kernel_rfl) ?_
                    exact Meet.cut () trivial (by repeat (first | (with_reducible exact Ag.refl _ _) | (with_reducible apply Ag.pu0) | ((with_reducible refine Ag.pu _ ?_ ?_); · exact rfl) | ((with_reducible refine Ag.mix ?_ ?_); · exact rfl) | ((with_reducible refine Ag.pus ?_ ?_); · exact rfl))) (by exact trivial) (by repeat (first | exact Ent.refl _ | (apply Ent.cons; · repeat (first | exact pk_head _ _ | apply pk_tail)) | apply Ent.skip))
                  exact HR.nil
                exact HR.nil
              exact HR.nil
            exact HR.nil
          refine HR.consE (i := 12) (some 44) rfl rfl rfl (os_bslv (vs := [.int .i64 (q.lim)]) T.un41 T.ti3 (by rfl) (by rfl) rfl (by simp [Value.oneCell']) (by decide) (by decide)) ?_ ?_
          · rintro _ _ ⟨b44, rfl, rfl⟩
            refine ⟨fun _ => ⟨_, (pkc (by repeat (first | exact pk_head _ _ | apply pk_tail)) (pkn _))⟩, ?_⟩
            refine H_branch (rs := [3, 8]) (by kernel_rfl) (by simp) ?_
            refine HR.cons1 (i := 3) (some 35) rfl rfl rfl (os_call2 (WN1 b3 (be 1 q.kind) q.id b34 hq.id (by simp)) Try.func19 (by decide +kernel) rfl rfl (by repeat (first | exact pk_head _ _ | apply pk_tail)) (by repeat (first | exact pk_head _ _ | apply pk_tail))) (pkc (by repeat (first | exact pk_head _ _ | apply pk_tail)) (pkn _)) ?_ ?_
            · skip
              refine H_branch (rs := [8]) (by kernel_rfl) (by simp) ?_
              refine HR.consE (i := 8) (some 40) rfl rfl rfl (os_bslv (vs := [.int .i64 (q.fro), .int .i64 (q.to)]) T.un41 T.ti3 (by rfl) (by rfl) rfl (by simp [Value.oneCell']) (by decide) (by decide)) ?_ ?_
              · rintro _ _ ⟨b40, rfl, rfl⟩
                refine ⟨fun _ => ⟨_, (pkc (by repeat (first | exact pk_head _ _ | apply pk_tail)) (pkn _))⟩, ?_⟩
                refine H_branch (rs := [9]) (by kernel_rfl) (by simp) ?_
                refine HR.cons1 (i := 9) (some 41) rfl rfl rfl (os_call2 (WI2 b3 (be 1 q.kind ++ numB q.id) 6 q.fro q.to b40 (by decide) (by simp)) Try.func17 (by decide +kernel) rfl rfl (by repeat (first | exact pk_head _ _ | apply pk_tail)) (by repeat (first | exact pk_head _ _ | apply pk_tail))) (pkc (by repeat (first | exact pk_head _ _ | apply pk_tail)) (pkn _)) ?_ ?_
                · skip
                  refine H_branch (rs := [13]) (by kernel_rfl) (by simp) ?_
                  refine HR.cons1 (i := 13) (some 45) rfl rfl rfl (os_call2 (WI1 b3 (be 1 q.kind ++ numB q.id ++ (be 6 q.fro ++ be 6 q.to)) 1 q.lim b44 (by decide) (by simp)) Try.func17 (by decide +kernel) rfl rfl (by repeat (first | exact pk_head _ _ | apply pk_tail)) (by repeat (first | exact pk_head _ _ | apply pk_tail))) (pkc (by repeat (first | exact pk_head _ _ | apply pk_tail)) (pkn _)) ?_ ?_
                  · skip
                    refine H_done (by kernel_rfl) ?_
                    exact Meet.cut () trivial (by repeat (first | (with_reducible exact Ag.refl _ _) | (with_reducible apply Ag.pu0) | ((with_reducible refine Ag.pu _ ?_ ?_); · exact rfl) | ((with_reducible refine Ag.mix ?_ ?_); · exact rfl) | ((with_reducible refine Ag.pus ?_ ?_); · exact rfl))) (by exact trivial) (by repeat (first | exact Ent.refl _ | (apply Ent.cons; · repeat (first | exact pk_head _ _ | apply pk_tail)) | apply Ent.skip))
                  exact HR.nil
                exact HR.nil
              exact HR.nil
            refine HR.consE (i := 8) (some 40) rfl rfl rfl (os_bslv (vs := [.int .i64 (q.fro), .int .i64 (q.to)]) T.un41 T.ti3 (by rfl) (by rfl) rfl (by simp [Value.oneCell']) (by decide) (by decide)) ?_ ?_
            · rintro _ _ ⟨b40, rfl, rfl⟩
              refine ⟨fun _ => ⟨_, (pkc (by repeat (first | exact pk_head _ _ | apply pk_tail)) (pkn _))⟩, ?_⟩
              refine H_branch (rs := [3]) (by kernel_rfl) (by simp) ?_
              refine HR.cons1 (i := 3) (some 35) rfl rfl rfl (os_call2 (WN1 b3 (be 1 q.kind) q.id b34 hq.id (by simp)) Try.func19 (by decide +kernel) rfl rfl (by repeat (first | exact pk_head _ _ | apply pk_tail)) (by repeat (first | exact pk_head _ _ | apply pk_tail))) (pkc (by repeat (first | exact pk_head _ _ | apply pk_tail)) (pkn _)) ?_ ?_
              · skip
                refine H_branch (rs := [9]) (by kernel_rfl) (by simp) ?_
                refine HR.cons1 (i := 9) (some 41) rfl rfl rfl (os_call2 (WI2 b3 (be 1 q.kind ++ numB q.id) 6 q.fro q.to b40 (by decide) (by simp)) Try.func17 (by decide +kernel) rfl rfl (by repeat (first | exact pk_head _ _ | apply pk_tail)) (by repeat (first | exact pk_head _ _ | apply pk_tail))) (pkc (by repeat (first | exact pk_head _ _ | apply pk_tail)) (pkn _)) ?_ ?_
                · skip
                  refine H_branch (rs := [13]) (by kernel_rfl) (by simp) ?_
                  refine HR.cons1 (i := 13) (some 45) rfl rfl rfl (os_call2 (WI1 b3 (be 1 q.kind ++ numB q.id ++ (be 6 q.fro ++ be 6 q.to)) 1 q.lim b44 (by decide) (by simp)) Try.func17 (by decide +kernel) rfl rfl (by repeat (first | exact pk_head _ _ | apply pk_tail)) (by repeat (first | exact pk_head _ _ | apply pk_tail))) (pkc (by repeat (first | exact pk_head _ _ | apply pk_tail)) (pkn _)) ?_ ?_
                  · skip
                    refine H_done (by kernel_rfl) ?_
                    exact Meet.cut () trivial (by repeat (first | (with_reducible exact Ag.refl _ _) | (with_reducible apply Ag.pu0) | ((with_reducible refine Ag.pu _ ?_ ?_); · exact rfl) | ((with_reducible refine Ag.mix ?_ ?_); · exact rfl) | ((with_reducible refine Ag.pus ?_ ?_); · exact rfl))) (by exact trivial) (by repeat (first | exact Ent.refl _ | (apply Ent.cons; · repeat (first | exact pk_head _ _ | apply pk_tail)) | apply Ent.skip))
                  exact HR.nil
                exact HR.nil
              exact HR.nil
            exact HR.nil
          exact HR.nil
        refine HR.consE (i := 8) (some 40) rfl rfl rfl (os_bslv (vs := [.int .i64 (q.fro), .int .i64 (q.to)]) T.un41 T.ti3 (by rfl) (by rfl) rfl (by simp [Value.oneCell']) (by decide) (by decide)) ?_ ?_
        · rintro _ _ ⟨b40, rfl, rfl⟩
          refine ⟨fun _ => ⟨_, (pkc (by repeat (first | exact pk_head _ _ | apply pk_tail)) (pkn _))⟩, ?_⟩
          refine H_branch (rs := [2, 12]) (by kernel_rfl) (by simp) ?_
          refine HR.consE (i := 2) (some 34) rfl rfl rfl (os_bslR ([q.id].map nc) T.un74 T.ti26 (by rfl) (by rfl) (by simp [nc_len]) (by decide) (by decide)) ?_ ?_
          · rintro _ _ ⟨b34, rfl, rfl⟩
            refine ⟨fun _ => ⟨_, (pkc (by repeat (first | exact pk_head _ _ | apply pk_tail)) (pkn _))⟩, ?_⟩
            refine H_branch (rs := [3, 12]) (by kernel_rfl) (by simp) ?_
            refine HR.cons1 (i := 3) (some 35) rfl rfl rfl (os_call2 (WN1 b3 (be 1 q.kind) q.id b34 hq.id (by simp)) Try.func19 (by decide +kernel) rfl rfl (by repeat (first | exact pk_head _ _ | apply pk_tail)) (by repeat (first | exact pk_head _ _ | apply pk_tail))) (pkc (by repeat (first | exact pk_head _ _ | apply pk_tail)) (pkn _)) ?_ ?_
            · skip
              refine H_branch (rs := [9, 12]) (by kernel_rfl) (by simp) ?_
              refine HR.cons1 (i := 9) (some 41) rfl rfl rfl (os_call2 (WI2 b3 (be 1 q.kind ++ numB q.id) 6 q.fro q.to b40 (by decide) (by simp)) Try.func17 (by decide +kernel) rfl rfl (by repeat (first | exact pk_head _ _ | apply pk_tail)) (by repeat (first | exact pk_head _ _ | apply pk_tail))) (pkc (by repeat (first | exact pk_head _ _ | apply pk_tail)) (pkn _)) ?_ ?_
              · skip
                refine H_branch (rs := [12]) (by kernel_rfl) (by simp) ?_
                refine HR.consE (i := 12) (some 44) rfl rfl rfl (os_bslv (vs := [.int .i64 (q.lim)]) T.un41 T.ti3 (by rfl) (by rfl) rfl (by simp [Value.oneCell']) (by decide) (by decide)) ?_ ?_
                · rintro _ _ ⟨b44, rfl, rfl⟩
                  refine ⟨fun _ => ⟨_, (pkc (by repeat (first | exact pk_head _ _ | apply pk_tail)) (pkn _))⟩, ?_⟩
                  refine H_branch (rs := [13]) (by kernel_rfl) (by simp) ?_
                  refine HR.cons1 (i := 13) (some 45) rfl rfl rfl (os_call2 (WI1 b3 (be 1 q.kind ++ numB q.id ++ (be 6 q.fro ++ be 6 q.to)) 1 q.lim b44 (by decide) (by simp)) Try.func17 (by decide +kernel) rfl rfl (by repeat (first | exact pk_head _ _ | apply pk_tail)) (by repeat (first | exact pk_head _ _ | apply pk_tail))) (pkc (by repeat (first | exact pk_head _ _ | apply pk_tail)) (pkn _)) ?_ ?_
                  · skip
                    refine H_done (by kernel_rfl) ?_
                    exact Meet.cut () trivial (by repeat (first | (with_reducible exact Ag.refl _ _) | (with_reducible apply Ag.pu0) | ((with_reducible refine Ag.pu _ ?_ ?_); · exact rfl) | ((with_reducible refine Ag.mix ?_ ?_); · exact rfl) | ((with_reducible refine Ag.pus ?_ ?_); · exact rfl))) (by exact trivial) (by repeat (first | exact Ent.refl _ | (apply Ent.cons; · repeat (first | exact pk_head _ _ | apply pk_tail)) | apply Ent.skip))
                  exact HR.nil
                exact HR.nil
              refine HR.consE (i := 12) (some 44) rfl rfl rfl (os_bslv (vs := [.int .i64 (q.lim)]) T.un41 T.ti3 (by rfl) (by rfl) rfl (by simp [Value.oneCell']) (by decide) (by decide)) ?_ ?_
              · rintro _ _ ⟨b44, rfl, rfl⟩
                refine ⟨fun _ => ⟨_, (pkc (by repeat (first | exact pk_head _ _ | apply pk_tail)) (pkn _))⟩, ?_⟩
                refine H_branch (rs := [9]) (by kernel_rfl) (by simp) ?_
                refine HR.cons1 (i := 9) (some 41) rfl rfl rfl (os_call2 (WI2 b3 (be 1 q.kind ++ numB q.id) 6 q.fro q.to b40 (by decide) (by simp)) Try.func17 (by decide +kernel) rfl rfl (by repeat (first | exact pk_head _ _ | apply pk_tail)) (by repeat (first | exact pk_head _ _ | apply pk_tail))) (pkc (by repeat (first | exact pk_head _ _ | apply pk_tail)) (pkn _)) ?_ ?_
                · skip
                  refine H_branch (rs := [13]) (by kernel_rfl) (by simp) ?_
                  refine HR.cons1 (i := 13) (some 45) rfl rfl rfl (os_call2 (WI1 b3 (be 1 q.kind ++ numB q.id ++ (be 6 q.fro ++ be 6 q.to)) 1 q.lim b44 (by decide) (by simp)) Try.func17 (by decide +kernel) rfl rfl (by repeat (first | exact pk_head _ _ | apply pk_tail)) (by repeat (first | exact pk_head _ _ | apply pk_tail))) (pkc (by repeat (first | exact pk_head _ _ | apply pk_tail)) (pkn _)) ?_ ?_
                  · skip
                    refine H_done (by kernel_rfl) ?_
                    exact Meet.cut () trivial (by repeat (first | (with_reducible exact Ag.refl _ _) | (with_reducible apply Ag.pu0) | ((with_reducible refine Ag.pu _ ?_ ?_); · exact rfl) | ((with_reducible refine Ag.mix ?_ ?_); · exact rfl) | ((with_reducible refine Ag.pus ?_ ?_); · exact rfl))) (by exact trivial) (by repeat (first | exact Ent.refl _ | (apply Ent.cons; · repeat (first | exact pk_head _ _ | apply pk_tail)) | apply Ent.skip))
                  exact HR.nil
                exact HR.nil
              exact HR.nil
            refine HR.consE (i := 12) (some 44) rfl rfl rfl (os_bslv (vs := [.int .i64 (q.lim)]) T.un41 T.ti3 (by rfl) (by rfl) rfl (by simp [Value.oneCell']) (by decide) (by decide)) ?_ ?_
            · rintro _ _ ⟨b44, rfl, rfl⟩
              refine ⟨fun _ => ⟨_, (pkc (by repeat (first | exact pk_head _ _ | apply pk_tail)) (pkn _))⟩, ?_⟩
              refine H_branch (rs := [3]) (by kernel_rfl) (by simp) ?_
              refine HR.cons1 (i := 3) (some 35) rfl rfl rfl (os_call2 (WN1 b3 (be 1 q.kind) q.id b34 hq.id (by simp)) Try.func19 (by decide +kernel) rfl rfl (by repeat (first | exact pk_head _ _ | apply pk_tail)) (by repeat (first | exact pk_head _ _ | apply pk_tail))) (pkc (by repeat (first | exact pk_head _ _ | apply pk_tail)) (pkn _)) ?_ ?_
              · skip
                refine H_branch (rs := [9]) (by kernel_rfl) (by simp) ?_
                refine HR.cons1 (i := 9) (some 41) rfl rfl rfl (os_call2 (WI2 b3 (be 1 q.kind ++ numB q.id) 6 q.fro q.to b40 (by decide) (by simp)) Try.func17 (by decide +kernel) rfl rfl (by repeat (first | exact pk_head _ _ | apply pk_tail)) (by repeat (first | exact pk_head _ _ | apply pk_tail))) (pkc (by repeat (first | exact pk_head _ _ | apply pk_tail)) (pkn _)) ?_ ?_
                · skip
                  refine H_branch (rs := [13]) (by kernel_rfl) (by simp) ?_
                  refine HR.cons1 (i := 13) (some 45) rfl rfl rfl (os_call2 (WI1 b3 (be 1 q.kind ++ numB q.id ++ (be 6 q.fro ++ be 6 q.to)) 1 q.lim b44 (by decide) (by simp)) Try.func17 (by decide +kernel) rfl rfl (by repeat (first | exact pk_head _ _ | apply pk_tail)) (by repeat (first | exact pk_head _ _ | apply pk_tail))) (pkc (by repeat (first | exact pk_head _ _ | apply pk_tail)) (pkn _)) ?_ ?_
                  · skip
                    refine H_done (by kernel_rfl) ?_
                    exact Meet.cut () trivial (by repeat (first | (with_reducible exact Ag.refl _ _) | (with_reducible apply Ag.pu0) | ((with_reducible refine Ag.pu _ ?_ ?_); · exact rfl) | ((with_reducible refine Ag.mix ?_ ?_); · exact rfl) | ((with_reducible refine Ag.pus ?_ ?_); · exact rfl))) (by exact trivial) (by repeat (first | exact Ent.refl _ | (apply Ent.cons; · repeat (first | exact pk_head _ _ | apply pk_tail)) | apply Ent.skip))
                  exact HR.nil
                exact HR.nil
              exact HR.nil
            exact HR.nil
          refine HR.consE (i := 12) (some 44) rfl rfl rfl (os_bslv (vs := [.int .i64 (q.lim)]) T.un41 T.ti3 (by rfl) (by rfl) rfl (by simp [Value.oneCell']) (by decide) (by decide)) ?_ ?_
          · rintro _ _ ⟨b44, rfl, rfl⟩
            refine ⟨fun _ => ⟨_, (pkc (by repeat (first | exact pk_head _ _ | apply pk_tail)) (pkn _))⟩, ?_⟩
            refine H_branch (rs := [2]) (by kernel_rfl) (by simp) ?_
            refine HR.consE (i := 2) (some 34) rfl rfl rfl (os_bslR ([q.id].map nc) T.un74 T.ti26 (by rfl) (by rfl) (by simp [nc_len]) (by decide) (by decide)) ?_ ?_
            · rintro _ _ ⟨b34, rfl, rfl⟩
              refine ⟨fun _ => ⟨_, (pkc (by repeat (first | exact pk_head _ _ | apply pk_tail)) (pkn _))⟩, ?_⟩
              refine H_branch (rs := [3]) (by kernel_rfl) (by simp) ?_
              refine HR.cons1 (i := 3) (some 35) rfl rfl rfl (os_call2 (WN1 b3 (be 1 q.kind) q.id b34 hq.id (by simp)) Try.func19 (by decide +kernel) rfl rfl (by repeat (first | exact pk_head _ _ | apply pk_tail)) (by repeat (first | exact pk_head _ _ | apply pk_tail))) (pkc (by repeat (first | exact pk_head _ _ | apply pk_tail)) (pkn _)) ?_ ?_
              · skip
                refine H_branch (rs := [9]) (by kernel_rfl) (by simp) ?_
                refine HR.cons1 (i := 9) (some 41) rfl rfl rfl (os_call2 (WI2 b3 (be 1 q.kind ++ numB q.id) 6 q.fro q.to b40 (by decide) (by simp)) Try.func17 (by decide +kernel) rfl rfl (by repeat (first | exact pk_head _ _ | apply pk_tail)) (by repeat (first | exact pk_head _ _ | apply pk_tail))) (pkc (by repeat (first | exact pk_head _ _ | apply pk_tail)) (pkn _)) ?_ ?_
                · skip
                  refine H_branch (rs := [13]) (by kernel_rfl) (by simp) ?_
                  refine HR.cons1 (i := 13) (some 45) rfl rfl rfl (os_call2 (WI1 b3 (be 1 q.kind ++ numB q.id ++ (be 6 q.fro ++ be 6 q.to)) 1 q.lim b44 (by decide) (by simp)) Try.func17 (by decide +kernel) rfl rfl (by repeat (first | exact pk_head _ _ | apply pk_tail)) (by repeat (first | exact pk_head _ _ | apply pk_tail))) (pkc (by repeat (first | exact pk_head _ _ | apply pk_tail)) (pkn _)) ?_ ?_
                  · skip
                    refine H_done (by kernel_rfl) ?_
                    exact Meet.cut () trivial (by repeat (first | (with_reducible exact Ag.refl _ _) | (with_reducible apply Ag.pu0) | ((with_reducible refine Ag.pu _ ?_ ?_); · exact rfl) | ((with_reducible refine Ag.mix ?_ ?_); · exact rfl) | ((with_reducible refine Ag.pus ?_ ?_); · exact rfl))) (by exact trivial) (by repeat (first | exact Ent.refl _ | (apply Ent.cons; · repeat (first | exact pk_head _ _ | apply pk_tail)) | apply Ent.skip))
                  exact HR.nil
                exact HR.nil
              exact HR.nil
            exact HR.nil
          exact HR.nil
        refine HR.consE (i := 12) (some 44) rfl rfl rfl (os_bslv (vs := [.int .i64 (q.lim)]) T.un41 T.ti3 (by rfl) (by rfl) rfl (by simp [Value.oneCell']) (by decide) (by decide)) ?_ ?_
        · rintro _ _ ⟨b44, rfl, rfl⟩
          refine ⟨fun _ => ⟨_, (pkc (by repeat (first | exact pk_head _ _ | apply pk_tail)) (pkn _))⟩, ?_⟩
          refine H_branch (rs := [2, 8]) (by kernel_rfl) (by simp) ?_
          refine HR.consE (i := 2) (some 34) rfl rfl rfl (os_bslR ([q.id].map nc) T.un74 T.ti26 (by rfl) (by rfl) (by simp [nc_len]) (by decide) (by decide)) ?_ ?_
          · rintro _ _ ⟨b34, rfl, rfl⟩
            refine ⟨fun _ => ⟨_, (pkc (by repeat (first | exact pk_head _ _ | apply pk_tail)) (pkn _))⟩, ?_⟩
            refine H_branch (rs := [3, 8]) (by kernel_rfl) (by simp) ?_
            refine HR.cons1 (i := 3) (some 35) rfl rfl rfl (os_call2 (WN1 b3 (be 1 q.kind) q.id b34 hq.id (by simp)) Try.func19 (by decide +kernel) rfl rfl (by repeat (first | exact pk_head _ _ | apply pk_tail)) (by repeat (first | exact pk_head _ _ | apply pk_tail))) (pkc (by repeat (first | exact pk_head _ _ | apply pk_tail)) (pkn _)) ?_ ?_
            · skip
              refine H_branch (rs := [8]) (by kernel_rfl) (by simp) ?_
              refine HR.consE (i := 8) (some 40) rfl rfl rfl (os_bslv (vs := [.int .i64 (q.fro), .int .i64 (q.to)]) T.un41 T.ti3 (by rfl) (by rfl) rfl (by simp [Value.oneCell']) (by decide) (by decide)) ?_ ?_
              · rintro _ _ ⟨b40, rfl, rfl⟩
                refine ⟨fun _ => ⟨_, (pkc (by repeat (first | exact pk_head _ _ | apply pk_tail)) (pkn _))⟩, ?_⟩
                refine H_branch (rs := [9]) (by kernel_rfl) (by simp) ?_
                refine HR.cons1 (i := 9) (some 41) rfl rfl rfl (os_call2 (WI2 b3 (be 1 q.kind ++ numB q.id) 6 q.fro q.to b40 (by decide) (by simp)) Try.func17 (by decide +kernel) rfl rfl (by repeat (first | exact pk_head _ _ | apply pk_tail)) (by repeat (first | exact pk_head _ _ | apply pk_tail))) (pkc (by repeat (first | exact pk_head _ _ | apply pk_tail)) (pkn _)) ?_ ?_
                · skip
                  refine H_branch (rs := [13]) (by kernel_rfl) (by simp) ?_
                  refine HR.cons1 (i := 13) (some 45) rfl rfl rfl (os_call2 (WI1 b3 (be 1 q.kind ++ numB q.id ++ (be 6 q.fro ++ be 6 q.to)) 1 q.lim b44 (by decide) (by simp)) Try.func17 (by decide +kernel) rfl rfl (by repeat (first | exact pk_head _ _ | apply pk_tail)) (by repeat (first | exact pk_head _ _ | apply pk_tail))) (pkc (by repeat (first | exact pk_head _ _ | apply pk_tail)) (pkn _)) ?_ ?_
                  · skip
                    refine H_done (by kernel_rfl) ?_
                    exact Meet.cut () trivial (by repeat (first | (with_reducible exact Ag.refl _ _) | (with_reducible apply Ag.pu0) | ((with_reducible refine Ag.pu _ ?_ ?_); · exact rfl) | ((with_reducible refine Ag.mix ?_ ?_); · exact rfl) | ((with_reducible refine Ag.pus ?_ ?_); · exact rfl))) (by exact trivial) (by repeat (first | exact Ent.refl _ | (apply Ent.cons; · repeat (first | exact pk_head _ _ | apply pk_tail)) | apply Ent.skip))
                  exact HR.nil
                exact HR.nil
              exact HR.nil
            refine HR.consE (i := 8) (some 40) rfl rfl rfl (os_bslv (vs := [.int .i64 (q.fro), .int .i64 (q.to)]) T.un41 T.ti3 (by rfl) (by rfl) rfl (by simp [Value.oneCell']) (by decide) (by decide)) ?_ ?_
            · rintro _ _ ⟨b40, rfl, rfl⟩
              refine ⟨fun _ => ⟨_, (pkc (by repeat (first | exact pk_head _ _ | apply pk_tail)) (pkn _))⟩, ?_⟩
              refine H_branch (rs := [3]) (by kernel_rfl) (by simp) ?_
              refine HR.cons1 (i := 3) (some 35) rfl rfl rfl (os_call2 (WN1 b3 (be 1 q.kind) q.id b34 hq.id (by simp)) Try.func19 (by decide +kernel) rfl rfl (by repeat (first | exact pk_head _ _ | apply pk_tail)) (by repeat (first | exact pk_head _ _ | apply pk_tail))) (pkc (by repeat (first | exact pk_head _ _ | apply pk_tail)) (pkn _)) ?_ ?_
              · skip
                refine H_branch (rs := [9]) (by kernel_rfl) (by simp) ?_
                refine HR.cons1 (i := 9) (some 41) rfl rfl rfl (os_call2 (WI2 b3 (be 1 q.kind ++ numB q.id) 6 q.fro q.to b40 (by decide) (by simp)) Try.func17 (by decide +kernel) rfl rfl (by repeat (first | exact pk_head _ _ | apply pk_tail)) (by repeat (first | exact pk_head _ _ | apply pk_tail))) (pkc (by repeat (first | exact pk_head _ _ | apply pk_tail)) (pkn _)) ?_ ?_
                · skip
                  refine H_branch (rs := [13]) (by kernel_rfl) (by simp) ?_
                  refine HR.cons1 (i := 13) (some 45) rfl rfl rfl (os_call2 (WI1 b3 (be 1 q.kind ++ numB q.id ++ (be 6 q.fro ++ be 6 q.to)) 1 q.lim b44 (by decide) (by simp)) Try.func17 (by decide +kernel) rfl rfl (by repeat (first | exact pk_head _ _ | apply pk_tail)) (by repeat (first | exact pk_head _ _ | apply pk_tail))) (pkc (by repeat (first | exact pk_head _ _ | apply pk_tail)) (pkn _)) ?_ ?_
                  · skip
                    refine H_done (by kernel_rfl) ?_
                    exact Meet.cut () trivial (by repeat (first | (with_reducible exact Ag.refl _ _) | (with_reducible apply Ag.pu0) | ((with_reducible refine Ag.pu _ ?_ ?_); · exact rfl) | ((with_reducible refine Ag.mix ?_ ?_); · exact rfl) | ((with_reducible refine Ag.pus ?_ ?_); · exact rfl))) (by exact trivial) (by repeat (first | exact Ent.refl _ | (apply Ent.cons; · repeat (first | exact pk_head _ _ | apply pk_tail)) | apply Ent.skip))
                  exact HR.nil
                exact HR.nil
              exact HR.nil
            exact HR.nil
          refine HR.consE (i := 8) (some 40) rfl rfl rfl (os_bslv (vs := [.int .i64 (q.fro), .int .i64 (q.to)]) T.un41 T.ti3 (by rfl) (by rfl) rfl (by simp [Value.oneCell']) (by decide) (by decide)) ?_ ?_
          · rintro _ _ ⟨b40, rfl, rfl⟩
            refine ⟨fun _ => ⟨_, (pkc (by repeat (first | exact pk_head _ _ | apply pk_tail)) (pkn _))⟩, ?_⟩
            refine H_branch (rs := [2]) (by kernel_rfl) (by simp) ?_
            refine HR.consE (i := 2) (some 34) rfl rfl rfl (os_bslR ([q.id].map nc) T.un74 T.ti26 (by rfl) (by rfl) (by simp [nc_len]) (by decide) (by decide)) ?_ ?_
            · rintro _ _ ⟨b34, rfl, rfl⟩
              refine ⟨fun _ => ⟨_, (pkc (by repeat (first | exact pk_head _ _ | apply pk_tail)) (pkn _))⟩, ?_⟩
              refine H_branch (rs := [3]) (by kernel_rfl) (by simp) ?_
              refine HR.cons1 (i := 3) (some 35) rfl rfl rfl (os_call2 (WN1 b3 (be 1 q.kind) q.id b34 hq.id (by simp)) Try.func19 (by decide +kernel) rfl rfl (by repeat (first | exact pk_head _ _ | apply pk_tail)) (by repeat (first | exact pk_head _ _ | apply pk_tail))) (pkc (by repeat (first | exact pk_head _ _ | apply pk_tail)) (pkn _)) ?_ ?_
              · skip
                refine H_branch (rs := [9]) (by kernel_rfl) (by simp) ?_
                refine HR.cons1 (i := 9) (some 41) rfl rfl rfl (os_call2 (WI2 b3 (be 1 q.kind ++ numB q.id) 6 q.fro q.to b40 (by decide) (by simp)) Try.func17 (by decide +kernel) rfl rfl (by repeat (first | exact pk_head _ _ | apply pk_tail)) (by repeat (first | exact pk_head _ _ | apply pk_tail))) (pkc (by repeat (first | exact pk_head _ _ | apply pk_tail)) (pkn _)) ?_ ?_
                · skip
                  refine H_branch (rs := [13]) (by kernel_rfl) (by simp) ?_
                  refine HR.cons1 (i := 13) (some 45) rfl rfl rfl (os_call2 (WI1 b3 (be 1 q.kind ++ numB q.id ++ (be 6 q.fro ++ be 6 q.to)) 1 q.lim b44 (by decide) (by simp)) Try.func17 (by decide +kernel) rfl rfl (by repeat (first | exact pk_head _ _ | apply pk_tail)) (by repeat (first | exact pk_head _ _ | apply pk_tail))) (pkc (by repeat (first | exact pk_head _ _ | apply pk_tail)) (pkn _)) ?_ ?_
                  · skip
                    refine H_done (by kernel_rfl) ?_
                    exact Meet.cut () trivial (by repeat (first | (with_reducible exact Ag.refl _ _) | (with_reducible apply Ag.pu0) | ((with_reducible refine Ag.pu _ ?_ ?_); · exact rfl) | ((with_reducible refine Ag.mix ?_ ?_); · exact rfl) | ((with_reducible refine Ag.pus ?_ ?_); · exact rfl))) (by exact trivial) (by repeat (first | exact Ent.refl _ | (apply Ent.cons; · repeat (first | exact pk_head _ _ | apply pk_tail)) | apply Ent.skip))
                  exact HR.nil
                exact HR.nil
              exact HR.nil
            exact HR.nil
          exact HR.nil
        exact HR.nil
      intro _ g15 _
      repeat (first | refine CW.seq ?_ | refine PW.then_ ?_ | refine CW.block ?_ | refine CW.skip ?_ | refine CW.ret ?_ | refine PW.then_ret ?_ | refine PW.block_ret ?_ | refine Cut.ret ?_ | refine Rnd.ret ?_ | refine PW.block_normal ?_ | refine CW.exit ?_ | refine PW.then_exit ?_ | refine PW.block_hit ?_ | refine PW.block_miss rfl ?_ | refine Cut.exit ?_ | refine Rnd.exit ?_)
      exact Meet.cut () trivial (by repeat (first | (with_reducible exact Ag.refl _ _) | (with_reducible apply Ag.pu0) | ((with_reducible refine Ag.pu _ ?_ ?_); · exact rfl) | ((with_reducible refine Ag.mix ?_ ?_); · exact rfl) | ((with_reducible refine Ag.pus ?_ ?_); · exact rfl))) (by exact trivial) (by repeat (first | exact Ent.refl _ | (apply Ent.cons; · repeat (first | exact pk_head _ _ | apply pk_tail)) | apply Ent.skip))
    obtain rfl : o = false := by rw [ho]; simpa using k68
    refine CW.cond_false rfl ?_
    repeat (first | refine CW.seq ?_ | refine PW.then_ ?_ | refine CW.block ?_ | refine CW.skip ?_ | refine CW.ret ?_ | refine PW.then_ret ?_ | refine PW.block_ret ?_ | refine Cut.ret ?_ | refine Rnd.ret ?_ | refine PW.block_normal ?_ | refine CW.exit ?_ | refine PW.then_exit ?_ | refine PW.block_hit ?_ | refine PW.block_miss rfl ?_ | refine Cut.exit ?_ | refine Rnd.exit ?_)
    by_cases k9 : q.kind = 9
    · have hB : reqB q = be 1 q.kind ++ (be 4 q.fro ++ be 4 q.to) := by rw [reqB, bodyB, if_neg k1, if_neg k2, if_neg k3, if_neg k457, if_neg k68, if_pos k9]
      rw [hB]
      refine CW.region ?_
      refine L1 (ps_t (ps_eql rfl rfl) (k9)).os ?_
      refine L1 (ps_assign rfl).os ?_
      refine LW.nil ?_
      repeat (first | refine CW.seq ?_ | refine PW.then_ ?_ | refine CW.block ?_ | refine CW.skip ?_ | refine CW.ret ?_ | refine PW.then_ret ?_ | refine PW.block_ret ?_ | refine Cut.ret ?_ | refine Rnd.ret ?_ | refine PW.block_normal ?_ | refine CW.exit ?_ | refine PW.then_exit ?_ | refine PW.block_hit ?_ | refine PW.block_miss rfl ?_ | refine Cut.exit ?_ | refine Rnd.exit ?_)
      refine CW.cond_true rfl ?_
      repeat (first | refine CW.seq ?_ | refine PW.then_ ?_ | refine CW.block ?_ | refine CW.skip ?_ | refine CW.ret ?_ | refine PW.then_ret ?_ | refine PW.block_ret ?_ | refine Cut.ret ?_ | refine Rnd.ret ?_ | refine PW.block_normal ?_ | refine CW.exit ?_ | refine PW.then_exit ?_ | refine PW.block_hit ?_ | refine PW.block_miss rfl ?_ | refine Cut.exit ?_ | refine Rnd.exit ?_)
      refine CW.region ?_
      refine L1 (ps_fa T.fa28_4 (by decide) rfl).os ?_
      refine L1 (os_load1 (by repeat (first | exact pk_head _ _ | apply pk_tail)) T.ag3 rfl (by rfl)) ?_
      refine L1 (ps_fa T.fa28_5 (by decide) rfl).os ?_
      refine L1 (os_load1 (by repeat (first | exact pk_head _ _ | apply pk_tail)) T.ag3 rfl (by rfl)) ?_
      refine LE (os_bslv (vs := [.int .i64 (q.fro), .int .i64 (q.to)]) T.un41 T.ti3 (by rfl) (by rfl) rfl (by simp [Value.oneCell']) (by decide) (by decide)) ?_
      rintro _ _ ⟨b52, rfl, rfl⟩
      refine L1 (os_call2 (WI2 b3 (be 1 q.kind) 4 q.fro q.to b52 (by decide) (by simp)) Try.func17 (by decide +kernel) rfl rfl (by repeat (first | exact pk_head _ _ | apply pk_tail)) (by repeat (first | exact pk_head _ _ | apply pk_tail))) ?_
      refine LW.nil ?_
      repeat (first | refine CW.seq ?_ | refine PW.then_ ?_ | refine CW.block ?_ | refine CW.skip ?_ | refine CW.ret ?_ | refine PW.then_ret ?_ | refine PW.block_ret ?_ | refine Cut.ret ?_ | refine Rnd.ret ?_ | refine PW.block_normal ?_ | refine CW.exit ?_ | refine PW.then_exit ?_ | refine PW.block_hit ?_ | refine PW.block_miss rfl ?_ | refine Cut.exit ?_ | refine Rnd.exit ?_)
      exact Meet.cut () trivial (by repeat (first | (with_reducible exact Ag.refl _ _) | (with_reducible apply Ag.pu0) | ((with_reducible refine Ag.pu _ ?_ ?_); · exact rfl) | ((with_reducible refine Ag.mix ?_ ?_); · exact rfl) | ((with_reducible refine Ag.pus ?_ ?_); · exact rfl))) (by exact trivial) (by repeat (first | exact Ent.refl _ | (apply Ent.cons; · repeat (first | exact pk_head _ _ | apply pk_tail)) | apply Ent.skip))
    have hB : reqB q = be 1 q.kind := by rw [reqB, bodyB, if_neg k1, if_neg k2, if_neg k3, if_neg k457, if_neg k68, if_neg k9, List.append_nil]
    rw [hB]
    refine CW.region ?_
    refine L1 (ps_f (ps_eql rfl rfl) (k9)).os ?_
    refine L1 (ps_assign rfl).os ?_
    refine LW.nil ?_
    repeat (first | refine CW.seq ?_ | refine PW.then_ ?_ | refine CW.block ?_ | refine CW.skip ?_ | refine CW.ret ?_ | refine PW.then_ret ?_ | refine PW.block_ret ?_ | refine Cut.ret ?_ | refine Rnd.ret ?_ | refine PW.block_normal ?_ | refine CW.exit ?_ | refine PW.then_exit ?_ | refine PW.block_hit ?_ | refine PW.block_miss rfl ?_ | refine Cut.exit ?_ | refine Rnd.exit ?_)
    refine CW.cond_false rfl ?_
    repeat (first | refine CW.seq ?_ | refine PW.then_ ?_ | refine CW.block ?_ | refine CW.skip ?_ | refine CW.ret ?_ | refine PW.then_ret ?_ | refine PW.block_ret ?_ | refine Cut.ret ?_ | refine Rnd.ret ?_ | refine PW.block_normal ?_ | refine CW.exit ?_ | refine PW.then_exit ?_ | refine PW.block_hit ?_ | refine PW.block_miss rfl ?_ | refine Cut.exit ?_ | refine Rnd.exit ?_)
    exact Meet.cut () trivial (by repeat (first | (with_reducible exact Ag.refl _ _) | (with_reducible apply Ag.pu0) | ((with_reducible refine Ag.pu _ ?_ ?_); · exact rfl) | ((with_reducible refine Ag.mix ?_ ?_); · exact rfl) | ((with_reducible refine Ag.pus ?_ ?_); · exact rfl))) (by exact trivial) (by repeat (first | exact Ent.refl _ | (apply Ent.cons; · repeat (first | exact pk_head _ _ | apply pk_tail)) | apply Ent.skip))
  intro _ g3 _
  have hRl : (reqB q).length ≤ 2000000 := reqB_le q hla hlt
  repeat (first | refine CW.seq ?_ | refine PW.then_ ?_ | refine CW.block ?_ | refine CW.skip ?_ | refine CW.ret ?_ | refine PW.then_ret ?_ | refine PW.block_ret ?_ | refine Cut.ret ?_ | refine Rnd.ret ?_ | refine PW.block_normal ?_ | refine CW.exit ?_ | refine PW.then_exit ?_ | refine PW.block_hit ?_ | refine PW.block_miss rfl ?_ | refine Cut.exit ?_ | refine Rnd.exit ?_)
  refine CW.region ?_
  refine LE (os_call (WBytes_spec b3 (reqB q) hRl) Try.func21 (by decide +kernel) rfl rfl (by repeat (first | exact pk_head _ _ | apply pk_tail))) ?_
  rintro _ _ ⟨_, ⟨u, d, rfl, rfl⟩, rfl⟩
  refine L1 (ps_assign rfl).os ?_
  refine LW.nil ?_
  repeat (first | refine CW.seq ?_ | refine PW.then_ ?_ | refine CW.block ?_ | refine CW.skip ?_ | refine CW.ret ?_ | refine PW.then_ret ?_ | refine PW.block_ret ?_ | refine Cut.ret ?_ | refine Rnd.ret ?_ | refine PW.block_normal ?_ | refine CW.exit ?_ | refine PW.then_exit ?_ | refine PW.block_hit ?_ | refine PW.block_miss rfl ?_ | refine Cut.exit ?_ | refine Rnd.exit ?_)
  exact Fin.ret1 (v := .slice u (reqB q).length d) rfl [slOwn 5 1 (.slice u (reqB q).length d) (reqB q).length (bv (reqB q)), A] rfl ⟨u, d, rfl, rfl⟩ (by repeat (first | exact Ent.refl _ | (apply Ent.cons; · repeat (first | exact pk_head _ _ | apply pk_tail)) | apply Ent.skip))
end Go.Proofs.Ytpcjjchanjdkaaa
