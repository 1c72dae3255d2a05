/- The disk's functions: each one's contract, over what a disk is in memory. -/
import Derived.Test.YtejbbpofamfhiaaTy
namespace Go.Proofs.Ytejbbpofamfhiaa
set_option linter.unusedVariables false
set_option linter.unusedSimpArgs false
open Go Go.SL

/-- What a disk is: its sectors, the writes that wait (place, bytes), whether it is armed, how many are left, how many there were. -/
structure DS where
  data : List (List UInt8)
  wait : List (Nat × List UInt8)
  armed : Bool
  left : Int
  count : Int
def wcell (w : Nat × List UInt8) : List Value := .int .i64 w.1 :: bv w.2
def dcells (st : DS) (D : Nat) (wv : Value) : List Value := [.slice (some ⟨D, 0, none⟩) st.data.length st.data.length, wv, .bool st.armed, .int .i64 st.left, .int .i64 st.count]
/-- A disk in memory. -/
def DiskAt (p : Nat) (st : DS) : Asn := fun L => ∃ D wv, sat [cb p 76 (dcells st D wv), cb D 77 (st.data.map bv).flatten, slOwn 79 65 wv st.wait.length (st.wait.map wcell).flatten] L
theorem DiskAt.op {p : Nat} {st : DS} : ∀ L, DiskAt p st L → ∃ Cs, (∃ D wv, Cs = [cb p 76 (dcells st D wv), cb D 77 (st.data.map bv).flatten, slOwn 79 65 wv st.wait.length (st.wait.map wcell).flatten]) ∧ sat Cs L :=
  fun _ ⟨D, wv, h⟩ => ⟨_, ⟨D, wv, rfl⟩, h⟩
theorem DiskAt.fold {p : Nat} {st : DS} (D : Nat) (wv : Value) (F : List Asn) :
    Ent (cb p 76 (dcells st D wv) :: cb D 77 (st.data.map bv).flatten :: slOwn 79 65 wv st.wait.length (st.wait.map wcell).flatten :: F) (DiskAt p st :: F) :=
  Ent.fold (As := [_, _, _]) fun _ h => ⟨D, wv, h⟩
def DS.down (st : DS) : Bool := st.armed && decide (st.left = 0)
abbrev ptr (p : Nat) : Value := .pointer (some ⟨p, 0, none⟩)

theorem Down_spec (p : Nat) (st : DS) : FSpec Try.prog 26 [ptr p] [DiskAt p st] (fun v As => v = .bool st.down ∧ As = [DiskAt p st]) := by
  obtain ⟨data, wait, armed, left, count⟩ := st
  refine FSpec.intro Try.func26 rfl 14 Try.ntmps26 (Nat.le_of_ble_eq_true rfl) fun w0 F => ?_
  show CW _ _ _ _ _ _ (_ :: F)
  refine J.open_ (pk_head _ _) DiskAt.op ?_
  rintro _ ⟨D, wv, rfl⟩
  show CW _ _ _ _ _ _ (_ :: _ :: _ :: F)
  refine CW.seq ?_
  refine CW.region ?_
  refine L1 (ps_assign rfl).os ?_
  refine LW.nil ?_
  refine PW.then_ (CW.seq ?_)
  cases armed
  · refine CW.region ?_
    refine L1 (ps_move rfl).os ?_
    refine L1 (ps_nil rfl).os ?_
    refine L1 (ps_fa T.fa76_2 (by decide) rfl).os ?_
    refine L1 (os_load1 (by repeat (first | exact pk_head _ _ | apply pk_tail)) T.ag4 rfl (by rfl)) ?_
    refine L1 (ps_move rfl).os ?_
    refine LG0t ?_ ?_
    · exact rfl
    refine LG0t ?_ ?_
    · exact rfl
    refine LG0t ?_ ?_
    · exact rfl
    refine LG0t ?_ ?_
    · exact rfl
    refine LG0t ?_ ?_
    · exact rfl
    refine L1 (ps_pick_f rfl rfl).os ?_
    refine L1 (ps_assign rfl).os ?_
    refine LW.nil ?_
    refine PW.then_ (CW.ret ?_)
    exact Fin.ret1 (v := .bool false) rfl [_] rfl ⟨rfl, rfl⟩ (DiskAt.fold D wv F)
  · by_cases h : left = 0
    · refine CW.region ?_
      refine L1 (ps_move rfl).os ?_
      refine L1 (ps_nil rfl).os ?_
      refine L1 (ps_fa T.fa76_2 (by decide) rfl).os ?_
      refine L1 (os_load1 (by repeat (first | exact pk_head _ _ | apply pk_tail)) T.ag4 rfl (by rfl)) ?_
      refine L1 (ps_move rfl).os ?_
      refine LG1 ?_ (ps_move rfl).os ?_
      · exact rfl
      refine LG1 ?_ (ps_nil rfl).os ?_
      · exact rfl
      refine LG1 ?_ (ps_fa T.fa76_3 (by decide) rfl).os ?_
      · exact rfl
      refine LG1 ?_ (os_load1 (by repeat (first | exact pk_head _ _ | apply pk_tail)) T.ag3 rfl (by rfl)) ?_
      · exact rfl
      refine LG1 ?_ (ps_t (ps_eql rfl rfl) (h)).os ?_
      · exact rfl
      refine L1 (ps_pick_t rfl rfl).os ?_
      refine L1 (ps_assign rfl).os ?_
      refine LW.nil ?_
      refine PW.then_ (CW.ret ?_)
      exact Fin.ret1 (v := .bool true) rfl [_] rfl ⟨by simp [DS.down, h], rfl⟩ (DiskAt.fold D wv F)
    · refine CW.region ?_
      refine L1 (ps_move rfl).os ?_
      refine L1 (ps_nil rfl).os ?_
      refine L1 (ps_fa T.fa76_2 (by decide) rfl).os ?_
      refine L1 (os_load1 (by repeat (first | exact pk_head _ _ | apply pk_tail)) T.ag4 rfl (by rfl)) ?_
      refine L1 (ps_move rfl).os ?_
      refine LG1 ?_ (ps_move rfl).os ?_
      · exact rfl
      refine LG1 ?_ (ps_nil rfl).os ?_
      · exact rfl
      refine LG1 ?_ (ps_fa T.fa76_3 (by decide) rfl).os ?_
      · exact rfl
      refine LG1 ?_ (os_load1 (by repeat (first | exact pk_head _ _ | apply pk_tail)) T.ag3 rfl (by rfl)) ?_
      · exact rfl
      refine LG1 ?_ (ps_f (ps_eql rfl rfl) (h)).os ?_
      · exact rfl
      refine L1 (ps_pick_t rfl rfl).os ?_
      refine L1 (ps_assign rfl).os ?_
      refine LW.nil ?_
      refine PW.then_ (CW.ret ?_)
      exact Fin.ret1 (v := .bool false) rfl [_] rfl ⟨by simp [DS.down, h], rfl⟩ (DiskAt.fold D wv F)

theorem Len_spec (p : Nat) (st : DS) : FSpec Try.prog 24 [ptr p] [DiskAt p st] (fun v As => v = .int .i64 st.data.length ∧ As = [DiskAt p st]) := by
  obtain ⟨data, wait, armed, left, count⟩ := st
  refine FSpec.intro Try.func24 rfl 8 Try.ntmps24 (Nat.le_of_ble_eq_true rfl) fun w0 F => ?_
  show CW _ _ _ _ _ _ (_ :: F)
  refine J.open_ (pk_head _ _) DiskAt.op ?_
  rintro _ ⟨D, wv, rfl⟩
  show CW _ _ _ _ _ _ (_ :: _ :: _ :: F)
  refine CW.seq ?_
  refine CW.region ?_
  refine L1 (ps_assign rfl).os ?_
  refine LW.nil ?_
  refine PW.then_ (CW.seq ?_)
  refine CW.region ?_
  refine L1 (ps_move rfl).os ?_
  refine L1 (ps_nil rfl).os ?_
  refine L1 (ps_fa T.fa76_0 (by decide) rfl).os ?_
  refine L1 (os_load1 (by repeat (first | exact pk_head _ _ | apply pk_tail)) T.ag73 rfl (by rfl)) ?_
  refine L1 (ps_len_sl T.un73 rfl).os ?_
  refine L1 (ps_assign rfl).os ?_
  refine LW.nil ?_
  refine PW.then_ (CW.ret ?_)
  exact Fin.ret1 (v := .int .i64 data.length) rfl [_] rfl ⟨rfl, rfl⟩ (DiskAt.fold D wv F)

theorem Writes_spec (p : Nat) (st : DS) : FSpec Try.prog 22 [ptr p] [DiskAt p st] (fun v As => v = .int .i64 st.count ∧ As = [DiskAt p st]) := by
  obtain ⟨data, wait, armed, left, count⟩ := st
  refine FSpec.intro Try.func22 rfl 7 Try.ntmps22 (Nat.le_of_ble_eq_true rfl) fun w0 F => ?_
  show CW _ _ _ _ _ _ (_ :: F)
  refine J.open_ (pk_head _ _) DiskAt.op ?_
  rintro _ ⟨D, wv, rfl⟩
  show CW _ _ _ _ _ _ (_ :: _ :: _ :: F)
  refine CW.seq ?_
  refine CW.region ?_
  refine L1 (ps_assign rfl).os ?_
  refine LW.nil ?_
  refine PW.then_ (CW.seq ?_)
  refine CW.region ?_
  refine L1 (ps_move rfl).os ?_
  refine L1 (ps_nil rfl).os ?_
  refine L1 (ps_fa T.fa76_4 (by decide) rfl).os ?_
  refine L1 (os_load1 (by repeat (first | exact pk_head _ _ | apply pk_tail)) T.ag3 rfl (by rfl)) ?_
  refine L1 (ps_assign rfl).os ?_
  refine LW.nil ?_
  refine PW.then_ (CW.ret ?_)
  exact Fin.ret1 (v := .int .i64 count) rfl [_] rfl ⟨rfl, rfl⟩ (DiskAt.fold D wv F)

/-- The slice of a part of slOwn's form, whichever it is. -/
theorem slOwn_val {e : TypeId} {s : Nat} {v : Value} {m : Nat} {xs : List Value} {As Bs : List Asn} {w0 : World} {G : World → Prop} (hp : As.Perm (slOwn e s v m xs :: Bs))
    (h : ∀ a c, v = .slice a m c → J w0 As G) : J w0 As G := J.mk fun w hw => by
  obtain ⟨L, a1, L1, L2, a3, a4, a5⟩ := hw.perm hp
  rcases a4.2 with ⟨b1, b2, _⟩ | ⟨g, cap, cur, b1, _⟩
  · subst b2; exact (h _ _ b1).run w hw
  · exact (h _ _ b1).run w hw

theorem Waits_spec (p : Nat) (st : DS) : FSpec Try.prog 21 [ptr p] [DiskAt p st] (fun v As => v = .int .i64 st.wait.length ∧ As = [DiskAt p st]) := by
  obtain ⟨data, wait, armed, left, count⟩ := st
  refine FSpec.intro Try.func21 rfl 8 Try.ntmps21 (Nat.le_of_ble_eq_true rfl) fun w0 F => ?_
  show CW _ _ _ _ _ _ (_ :: F)
  refine J.open_ (pk_head _ _) DiskAt.op ?_
  rintro _ ⟨D, wv, rfl⟩
  show CW _ _ _ _ _ _ (_ :: _ :: _ :: F)
  refine J.pick (A := slOwn _ _ wv _ _) (by repeat (first | exact pk_head _ _ | apply pk_tail)) ?_
  refine slOwn_val (pk_head _ _) fun a c hv => ?_
  subst hv
  refine CW.seq ?_
  refine CW.region ?_
  refine L1 (ps_assign rfl).os ?_
  refine LW.nil ?_
  refine PW.then_ (CW.seq ?_)
  refine CW.region ?_
  refine L1 (ps_move rfl).os ?_
  refine L1 (ps_nil rfl).os ?_
  refine L1 (ps_fa T.fa76_1 (by decide) rfl).os ?_
  refine L1 (os_load1 (by repeat (first | exact pk_head _ _ | apply pk_tail)) T.ag74 rfl (by rfl)) ?_
  refine L1 (ps_len_sl T.un74 rfl).os ?_
  refine L1 (ps_assign rfl).os ?_
  refine LW.nil ?_
  refine PW.then_ (CW.ret ?_)
  exact Fin.ret1 (v := .int .i64 wait.length) rfl [_] rfl ⟨rfl, rfl⟩ (Ent.trans (by repeat (first | exact Ent.refl _ | (apply Ent.cons; · repeat (first | exact pk_head _ _ | apply pk_tail)) | apply Ent.skip)) (DiskAt.fold D (.slice a wait.length c) F))

theorem Arm_spec (p : Nat) (st : DS) (k : Int) : FSpec Try.prog 25 [ptr p, .int .i64 k] [DiskAt p st] (fun v As => v = .tuple #[] ∧ As = [DiskAt p { st with armed := true, left := max k 0 }]) := by
  obtain ⟨data, wait, armed, left, count⟩ := st
  refine FSpec.intro Try.func25 rfl 12 Try.ntmps25 (Nat.le_of_ble_eq_true rfl) fun w0 F => ?_
  show CW _ _ _ _ _ _ (_ :: F)
  refine J.open_ (pk_head _ _) DiskAt.op ?_
  rintro _ ⟨D, wv, rfl⟩
  show CW _ _ _ _ _ _ (_ :: _ :: _ :: F)
  refine CW.region ?_
  refine L1 (ps_move rfl).os ?_
  refine L1 (ps_move rfl).os ?_
  refine L1 (ps_move rfl).os ?_
  refine L1 (ps_max rfl rfl).os ?_
  refine L1 (ps_nil rfl).os ?_
  refine L1 (ps_fa T.fa76_2 (by decide) rfl).os ?_
  refine L1 (os_store1 (by repeat (first | exact pk_head _ _ | apply pk_tail)) T.sz4 rfl rfl (by rfl) (Nat.le_of_ble_eq_true rfl)) ?_
  refine L1 (ps_nil rfl).os ?_
  refine L1 (ps_fa T.fa76_3 (by decide) rfl).os ?_
  refine L1 (os_store1 (by repeat (first | exact pk_head _ _ | apply pk_tail)) T.sz3 rfl rfl (by rfl) (Nat.le_of_ble_eq_true rfl)) ?_
  refine LW.nil ?_
  refine Fin.end0 rfl [_] ⟨rfl, rfl⟩ ?_
  have e : (if (0 : Int) > k then 0 else k) = max k 0 := by omega
  rw [← e]
  exact DiskAt.fold (st := { data := data, wait := wait, armed := true, left := if (0 : Int) > k then 0 else k, count := count }) D wv F
def DS.new (n : Nat) : DS := { data := List.replicate n (List.replicate 64 0), wait := [], armed := false, left := 0, count := 0 }
theorem New_no (n : Int) (h : n < 1 ∨ 4096 < n) : FSpec Try.prog 17 [.int .i64 n] [] (fun v As => v = .pointer none ∧ As = []) := by
  refine FSpec.intro Try.func17 rfl 13 Try.ntmps17 (Nat.le_of_ble_eq_true rfl) fun w0 F => ?_
  show CW _ _ _ _ _ _ (F)
  repeat (first | refine CW.seq ?_ | refine PW.then_ ?_ | refine PW.then_to rfl ?_ | refine CW.block ?_ | refine CW.skip ?_ | refine CW.ret ?_ | refine PW.then_ret ?_ | refine PW.block_ret ?_ | refine Cut.ret ?_ | refine Rnd.ret ?_ | refine PW.block_normal ?_ | refine CW.exit ?_ | refine PW.then_exit ?_ | refine PW.block_hit ?_ | refine PW.block_miss rfl ?_ | refine Cut.exit ?_ | refine Rnd.exit ?_ | refine CW.scope ?_ | refine CW.label ?_ | refine PW.scope_normal ?_ | refine PW.scope_ret ?_ | refine PW.scope_exit ?_)
  refine CW.region ?_
  refine L1 (ps_assign rfl).os ?_
  refine LW.nil ?_
  repeat (first | refine CW.seq ?_ | refine PW.then_ ?_ | refine PW.then_to rfl ?_ | refine CW.block ?_ | refine CW.skip ?_ | refine CW.ret ?_ | refine PW.then_ret ?_ | refine PW.block_ret ?_ | refine Cut.ret ?_ | refine Rnd.ret ?_ | refine PW.block_normal ?_ | refine CW.exit ?_ | refine PW.then_exit ?_ | refine PW.block_hit ?_ | refine PW.block_miss rfl ?_ | refine Cut.exit ?_ | refine Rnd.exit ?_ | refine CW.scope ?_ | refine CW.label ?_ | refine PW.scope_normal ?_ | refine PW.scope_ret ?_ | refine PW.scope_exit ?_)
  by_cases h1 : n < 1
  · refine CW.region ?_
    refine L1 (ps_move rfl).os ?_
    refine L1 (ps_t (ps_lss rfl rfl) (h1)).os ?_
    refine L1 (ps_move rfl).os ?_
    refine LG0f ?_ ?_
    · exact rfl
    refine LG0f ?_ ?_
    · exact rfl
    refine L1 (ps_pick_t rfl rfl).os ?_
    refine LW.nil ?_
    repeat (first | refine CW.seq ?_ | refine PW.then_ ?_ | refine PW.then_to rfl ?_ | refine CW.block ?_ | refine CW.skip ?_ | refine CW.ret ?_ | refine PW.then_ret ?_ | refine PW.block_ret ?_ | refine Cut.ret ?_ | refine Rnd.ret ?_ | refine PW.block_normal ?_ | refine CW.exit ?_ | refine PW.then_exit ?_ | refine PW.block_hit ?_ | refine PW.block_miss rfl ?_ | refine Cut.exit ?_ | refine Rnd.exit ?_ | refine CW.scope ?_ | refine CW.label ?_ | refine PW.scope_normal ?_ | refine PW.scope_ret ?_ | refine PW.scope_exit ?_)
    refine CW.cond_true rfl ?_
    repeat (first | refine CW.seq ?_ | refine PW.then_ ?_ | refine PW.then_to rfl ?_ | refine CW.block ?_ | refine CW.skip ?_ | refine CW.ret ?_ | refine PW.then_ret ?_ | refine PW.block_ret ?_ | refine Cut.ret ?_ | refine Rnd.ret ?_ | refine PW.block_normal ?_ | refine CW.exit ?_ | refine PW.then_exit ?_ | refine PW.block_hit ?_ | refine PW.block_miss rfl ?_ | refine Cut.exit ?_ | refine Rnd.exit ?_ | refine CW.scope ?_ | refine CW.label ?_ | refine PW.scope_normal ?_ | refine PW.scope_ret ?_ | refine PW.scope_exit ?_)
    refine CW.region ?_
    refine L1 (ps_assign rfl).os ?_
    refine LW.nil ?_
    repeat (first | refine CW.seq ?_ | refine PW.then_ ?_ | refine PW.then_to rfl ?_ | refine CW.block ?_ | refine CW.skip ?_ | refine CW.ret ?_ | refine PW.then_ret ?_ | refine PW.block_ret ?_ | refine Cut.ret ?_ | refine Rnd.ret ?_ | refine PW.block_normal ?_ | refine CW.exit ?_ | refine PW.then_exit ?_ | refine PW.block_hit ?_ | refine PW.block_miss rfl ?_ | refine Cut.exit ?_ | refine Rnd.exit ?_ | refine CW.scope ?_ | refine CW.label ?_ | refine PW.scope_normal ?_ | refine PW.scope_ret ?_ | refine PW.scope_exit ?_)
    exact Fin.ret1 (v := .pointer none) rfl [] rfl ⟨rfl, rfl⟩ (Ent.refl _)
  · refine CW.region ?_
    refine L1 (ps_move rfl).os ?_
    refine L1 (ps_f (ps_lss rfl rfl) (h1)).os ?_
    refine L1 (ps_move rfl).os ?_
    refine LG1 ?_ (ps_move rfl).os ?_
    · exact rfl
    refine LG1 ?_ (ps_t (ps_gtr rfl rfl) (h.resolve_left h1)).os ?_
    · exact rfl
    refine L1 (ps_pick_f rfl rfl).os ?_
    refine LW.nil ?_
    repeat (first | refine CW.seq ?_ | refine PW.then_ ?_ | refine PW.then_to rfl ?_ | refine CW.block ?_ | refine CW.skip ?_ | refine CW.ret ?_ | refine PW.then_ret ?_ | refine PW.block_ret ?_ | refine Cut.ret ?_ | refine Rnd.ret ?_ | refine PW.block_normal ?_ | refine CW.exit ?_ | refine PW.then_exit ?_ | refine PW.block_hit ?_ | refine PW.block_miss rfl ?_ | refine Cut.exit ?_ | refine Rnd.exit ?_ | refine CW.scope ?_ | refine CW.label ?_ | refine PW.scope_normal ?_ | refine PW.scope_ret ?_ | refine PW.scope_exit ?_)
    refine CW.cond_true rfl ?_
    repeat (first | refine CW.seq ?_ | refine PW.then_ ?_ | refine PW.then_to rfl ?_ | refine CW.block ?_ | refine CW.skip ?_ | refine CW.ret ?_ | refine PW.then_ret ?_ | refine PW.block_ret ?_ | refine Cut.ret ?_ | refine Rnd.ret ?_ | refine PW.block_normal ?_ | refine CW.exit ?_ | refine PW.then_exit ?_ | refine PW.block_hit ?_ | refine PW.block_miss rfl ?_ | refine Cut.exit ?_ | refine Rnd.exit ?_ | refine CW.scope ?_ | refine CW.label ?_ | refine PW.scope_normal ?_ | refine PW.scope_ret ?_ | refine PW.scope_exit ?_)
    refine CW.region ?_
    refine L1 (ps_assign rfl).os ?_
    refine LW.nil ?_
    repeat (first | refine CW.seq ?_ | refine PW.then_ ?_ | refine PW.then_to rfl ?_ | refine CW.block ?_ | refine CW.skip ?_ | refine CW.ret ?_ | refine PW.then_ret ?_ | refine PW.block_ret ?_ | refine Cut.ret ?_ | refine Rnd.ret ?_ | refine PW.block_normal ?_ | refine CW.exit ?_ | refine PW.then_exit ?_ | refine PW.block_hit ?_ | refine PW.block_miss rfl ?_ | refine Cut.exit ?_ | refine Rnd.exit ?_ | refine CW.scope ?_ | refine CW.label ?_ | refine PW.scope_normal ?_ | refine PW.scope_ret ?_ | refine PW.scope_exit ?_)
    exact Fin.ret1 (v := .pointer none) rfl [] rfl ⟨rfl, rfl⟩ (Ent.refl _)
theorem New_yes (n : Nat) (h1 : 1 ≤ n) (h2 : n ≤ 4096) : FSpec Try.prog 17 [.int .i64 n] [] (fun v As => ∃ p, v = ptr p ∧ As = [DiskAt p (DS.new n)]) := by
  refine FSpec.intro Try.func17 rfl 13 Try.ntmps17 (Nat.le_of_ble_eq_true rfl) fun w0 F => ?_
  show CW _ _ _ _ _ _ (F)
  repeat (first | refine CW.seq ?_ | refine PW.then_ ?_ | refine PW.then_to rfl ?_ | refine CW.block ?_ | refine CW.skip ?_ | refine CW.ret ?_ | refine PW.then_ret ?_ | refine PW.block_ret ?_ | refine Cut.ret ?_ | refine Rnd.ret ?_ | refine PW.block_normal ?_ | refine CW.exit ?_ | refine PW.then_exit ?_ | refine PW.block_hit ?_ | refine PW.block_miss rfl ?_ | refine Cut.exit ?_ | refine Rnd.exit ?_ | refine CW.scope ?_ | refine CW.label ?_ | refine PW.scope_normal ?_ | refine PW.scope_ret ?_ | refine PW.scope_exit ?_)
  refine CW.region ?_
  refine L1 (ps_assign rfl).os ?_
  refine LW.nil ?_
  repeat (first | refine CW.seq ?_ | refine PW.then_ ?_ | refine PW.then_to rfl ?_ | refine CW.block ?_ | refine CW.skip ?_ | refine CW.ret ?_ | refine PW.then_ret ?_ | refine PW.block_ret ?_ | refine Cut.ret ?_ | refine Rnd.ret ?_ | refine PW.block_normal ?_ | refine CW.exit ?_ | refine PW.then_exit ?_ | refine PW.block_hit ?_ | refine PW.block_miss rfl ?_ | refine Cut.exit ?_ | refine Rnd.exit ?_ | refine CW.scope ?_ | refine CW.label ?_ | refine PW.scope_normal ?_ | refine PW.scope_ret ?_ | refine PW.scope_exit ?_)
  refine CW.region ?_
  refine L1 (ps_move rfl).os ?_
  refine L1 (ps_f (ps_lss rfl rfl) (by omega)).os ?_
  refine L1 (ps_move rfl).os ?_
  refine LG1 ?_ (ps_move rfl).os ?_
  · exact rfl
  refine LG1 ?_ (ps_f (ps_gtr rfl rfl) (by omega)).os ?_
  · exact rfl
  refine L1 (ps_pick_f rfl rfl).os ?_
  refine LW.nil ?_
  repeat (first | refine CW.seq ?_ | refine PW.then_ ?_ | refine PW.then_to rfl ?_ | refine CW.block ?_ | refine CW.skip ?_ | refine CW.ret ?_ | refine PW.then_ret ?_ | refine PW.block_ret ?_ | refine Cut.ret ?_ | refine Rnd.ret ?_ | refine PW.block_normal ?_ | refine CW.exit ?_ | refine PW.then_exit ?_ | refine PW.block_hit ?_ | refine PW.block_miss rfl ?_ | refine Cut.exit ?_ | refine Rnd.exit ?_ | refine CW.scope ?_ | refine CW.label ?_ | refine PW.scope_normal ?_ | refine PW.scope_ret ?_ | refine PW.scope_exit ?_)
  refine CW.cond_false rfl ?_
  repeat (first | refine CW.seq ?_ | refine PW.then_ ?_ | refine PW.then_to rfl ?_ | refine CW.block ?_ | refine CW.skip ?_ | refine CW.ret ?_ | refine PW.then_ret ?_ | refine PW.block_ret ?_ | refine Cut.ret ?_ | refine Rnd.ret ?_ | refine PW.block_normal ?_ | refine CW.exit ?_ | refine PW.then_exit ?_ | refine PW.block_hit ?_ | refine PW.block_miss rfl ?_ | refine Cut.exit ?_ | refine Rnd.exit ?_ | refine CW.scope ?_ | refine CW.label ?_ | refine PW.scope_normal ?_ | refine PW.scope_ret ?_ | refine PW.scope_exit ?_)
  refine CW.region ?_
  refine L1 (ps_move rfl).os ?_
  refine LE (os_make T.un73 T.ti77 rfl rfl rfl (by omega) (by omega) (by omega) (by omega)) ?_
  rintro _ _ ⟨b10, rfl, rfl⟩
  refine L1 (ps_build (cells := [.slice (some ⟨b10, 0, none⟩) n n, .slice none 0 0, .bool false, .int .i64 0, .int .i64 0]) rfl (by kernel_rfl)).os ?_
  refine LE (os_box rfl (by rfl)) ?_
  rintro _ _ ⟨b12, rfl, rfl⟩
  refine L1 (ps_assign rfl).os ?_
  refine LW.nil ?_
  repeat (first | refine CW.seq ?_ | refine PW.then_ ?_ | refine PW.then_to rfl ?_ | refine CW.block ?_ | refine CW.skip ?_ | refine CW.ret ?_ | refine PW.then_ret ?_ | refine PW.block_ret ?_ | refine Cut.ret ?_ | refine Rnd.ret ?_ | refine PW.block_normal ?_ | refine CW.exit ?_ | refine PW.then_exit ?_ | refine PW.block_hit ?_ | refine PW.block_miss rfl ?_ | refine Cut.exit ?_ | refine Rnd.exit ?_ | refine CW.scope ?_ | refine CW.label ?_ | refine PW.scope_normal ?_ | refine PW.scope_ret ?_ | refine PW.scope_exit ?_)
  refine Fin.ret1 (v := ptr b12) rfl [_] rfl ⟨b12, rfl, rfl⟩ ?_
  have e : (List.replicate (n : Int).toNat (List.replicate 64 (Value.int .u8 0))).flatten = ((DS.new n).data.map bv).flatten := by
    simp [DS.new, bv]
  have e2 : DiskAt b12 (DS.new n) = DiskAt b12 (DS.new n) := rfl
  refine Ent.trans ?_ (DiskAt.fold b10 (.slice none 0 0) F)
  have hl : (DS.new n).data.length = n := by simp [DS.new]
  refine Ent.cons (pk_head' (by simp [dcells, hl]; rfl)) ?_
  refine Ent.cons (pk_head' (by rw [← e])) ?_
  exact Ent.slNil _ _ _
/-! ## Write -/
structure DS.Ok (st : DS) : Prop where
  dlen : ∀ s ∈ st.data, s.length = 64
  n : st.data.length ≤ 4096
  wlen : ∀ w ∈ st.wait, w.2.length = 64 ∧ w.1 < st.data.length
/-- What Write answers and leaves. -/
def DS.write (st : DS) (at_ : Int) (bs : List UInt8) : Int × DS :=
  if at_ < 0 ∨ st.data.length ≤ at_ ∨ 64 < bs.length then (5, st)
  else if st.down then (4, st)
  else (0, { st with wait := st.wait ++ [(at_.toNat, pad 64 bs)], count := st.count + 1, left := if st.armed then st.left - 1 else st.left })

theorem spl_pad {k : Nat} {v : Value} {bs : List UInt8} (h : bs.length ≤ k) : spl (v :: List.replicate k (.int .u8 0)) 1 (bv bs) = v :: bv (pad k bs) := by
  have e : 1 + bs.length = bs.length + 1 := by omega
  simp only [spl, length_bv, e, List.take_succ_cons, List.take_zero, List.drop_succ_cons, List.drop_replicate, pad, bv_append, List.cons_append, List.nil_append]
  simp [bv]

theorem Write_bad (p : Nat) (st : DS) (A : Asn) (at_ : Int) (v : Value) (bs : List UInt8) (hb : ByR A v bs) (h : at_ < 0 ∨ st.data.length ≤ at_ ∨ 64 < bs.length) :
    FSpec Try.prog 18 [ptr p, .int .i64 at_, v] [DiskAt p st, A] (fun r As => r = .int .i64 5 ∧ As = [DiskAt p st, A]) := by
  obtain ⟨data, wait, armed, left, count⟩ := st
  obtain ⟨pa, cap, rfl, hcap, hsrc⟩ := hb
  refine FSpec.intro Try.func18 rfl 60 Try.ntmps18 (Nat.le_of_ble_eq_true rfl) fun w0 F => ?_
  show CW _ _ _ _ _ _ (_ :: _ :: F)
  refine J.open_ (pk_head _ _) DiskAt.op ?_
  rintro _ ⟨D, wv, rfl⟩
  show CW _ _ _ _ _ _ (_ :: _ :: _ :: _ :: F)
  repeat (first | refine CW.seq ?_ | refine PW.then_ ?_ | refine PW.then_to rfl ?_ | refine CW.block ?_ | refine CW.skip ?_ | refine CW.ret ?_ | refine PW.then_ret ?_ | refine PW.block_ret ?_ | refine Cut.ret ?_ | refine Rnd.ret ?_ | refine PW.block_normal ?_ | refine CW.exit ?_ | refine PW.then_exit ?_ | refine PW.block_hit ?_ | refine PW.block_miss rfl ?_ | refine Cut.exit ?_ | refine Rnd.exit ?_ | refine CW.scope ?_ | refine CW.label ?_ | refine PW.scope_normal ?_ | refine PW.scope_ret ?_ | refine PW.scope_exit ?_)
  refine CW.region ?_
  refine L1 (ps_assign rfl).os ?_
  refine LW.nil ?_
  repeat (first | refine CW.seq ?_ | refine PW.then_ ?_ | refine PW.then_to rfl ?_ | refine CW.block ?_ | refine CW.skip ?_ | refine CW.ret ?_ | refine PW.then_ret ?_ | refine PW.block_ret ?_ | refine Cut.ret ?_ | refine Rnd.ret ?_ | refine PW.block_normal ?_ | refine CW.exit ?_ | refine PW.then_exit ?_ | refine PW.block_hit ?_ | refine PW.block_miss rfl ?_ | refine Cut.exit ?_ | refine Rnd.exit ?_ | refine CW.scope ?_ | refine CW.label ?_ | refine PW.scope_normal ?_ | refine PW.scope_ret ?_ | refine PW.scope_exit ?_)
  by_cases h1 : at_ < 0
  · refine CW.region ?_
    refine L1 (ps_move rfl).os ?_
    refine L1 (ps_t (ps_lss rfl rfl) (h1)).os ?_
    refine L1 (ps_move rfl).os ?_
    refine LG0f ?_ ?_
    · exact rfl
    refine LG0f ?_ ?_
    · exact rfl
    refine LG0f ?_ ?_
    · exact rfl
    refine LG0f ?_ ?_
    · exact rfl
    refine LG0f ?_ ?_
    · exact rfl
    refine LG0f ?_ ?_
    · exact rfl
    refine LG0f ?_ ?_
    · exact rfl
    refine L1 (ps_pick_t rfl rfl).os ?_
    refine L1 (ps_move rfl).os ?_
    refine LG0f ?_ ?_
    · exact rfl
    refine LG0f ?_ ?_
    · exact rfl
    refine LG0f ?_ ?_
    · exact rfl
    refine L1 (ps_pick_t rfl rfl).os ?_
    refine LW.nil ?_
    repeat (first | refine CW.seq ?_ | refine PW.then_ ?_ | refine PW.then_to rfl ?_ | refine CW.block ?_ | refine CW.skip ?_ | refine CW.ret ?_ | refine PW.then_ret ?_ | refine PW.block_ret ?_ | refine Cut.ret ?_ | refine Rnd.ret ?_ | refine PW.block_normal ?_ | refine CW.exit ?_ | refine PW.then_exit ?_ | refine PW.block_hit ?_ | refine PW.block_miss rfl ?_ | refine Cut.exit ?_ | refine Rnd.exit ?_ | refine CW.scope ?_ | refine CW.label ?_ | refine PW.scope_normal ?_ | refine PW.scope_ret ?_ | refine PW.scope_exit ?_)
    refine CW.cond_true rfl ?_
    repeat (first | refine CW.seq ?_ | refine PW.then_ ?_ | refine PW.then_to rfl ?_ | refine CW.block ?_ | refine CW.skip ?_ | refine CW.ret ?_ | refine PW.then_ret ?_ | refine PW.block_ret ?_ | refine Cut.ret ?_ | refine Rnd.ret ?_ | refine PW.block_normal ?_ | refine CW.exit ?_ | refine PW.then_exit ?_ | refine PW.block_hit ?_ | refine PW.block_miss rfl ?_ | refine Cut.exit ?_ | refine Rnd.exit ?_ | refine CW.scope ?_ | refine CW.label ?_ | refine PW.scope_normal ?_ | refine PW.scope_ret ?_ | refine PW.scope_exit ?_)
    refine CW.region ?_
    refine L1 (ps_assign rfl).os ?_
    refine LW.nil ?_
    repeat (first | refine CW.seq ?_ | refine PW.then_ ?_ | refine PW.then_to rfl ?_ | refine CW.block ?_ | refine CW.skip ?_ | refine CW.ret ?_ | refine PW.then_ret ?_ | refine PW.block_ret ?_ | refine Cut.ret ?_ | refine Rnd.ret ?_ | refine PW.block_normal ?_ | refine CW.exit ?_ | refine PW.then_exit ?_ | refine PW.block_hit ?_ | refine PW.block_miss rfl ?_ | refine Cut.exit ?_ | refine Rnd.exit ?_ | refine CW.scope ?_ | refine CW.label ?_ | refine PW.scope_normal ?_ | refine PW.scope_ret ?_ | refine PW.scope_exit ?_)
    exact Fin.ret1 (v := .int .i64 5) rfl [_, _] rfl ⟨rfl, rfl⟩ (DiskAt.fold D wv _)
  · have h' := h.resolve_left h1
    by_cases h2 : (data.length : Int) ≤ at_
    · refine CW.region ?_
      refine L1 (ps_move rfl).os ?_
      refine L1 (ps_f (ps_lss rfl rfl) (h1)).os ?_
      refine L1 (ps_move rfl).os ?_
      refine LG1 ?_ (ps_move rfl).os ?_
      · exact rfl
      refine LG1 ?_ (ps_move rfl).os ?_
      · exact rfl
      refine LG1 ?_ (ps_nil rfl).os ?_
      · exact rfl
      refine LG1 ?_ (ps_fa T.fa76_0 (by decide) rfl).os ?_
      · exact rfl
      refine LG1 ?_ (os_load1 (by repeat (first | exact pk_head _ _ | apply pk_tail)) T.ag73 rfl (by rfl)) ?_
      · exact rfl
      refine LG1 ?_ (ps_len_sl T.un73 rfl).os ?_
      · exact rfl
      refine LG1 ?_ (ps_t (ps_geq rfl rfl) (h2)).os ?_
      · exact rfl
      refine L1 (ps_pick_f rfl rfl).os ?_
      refine L1 (ps_move rfl).os ?_
      refine LG0f ?_ ?_
      · exact rfl
      refine LG0f ?_ ?_
      · exact rfl
      refine LG0f ?_ ?_
      · exact rfl
      refine L1 (ps_pick_t rfl rfl).os ?_
      refine LW.nil ?_
      repeat (first | refine CW.seq ?_ | refine PW.then_ ?_ | refine PW.then_to rfl ?_ | refine CW.block ?_ | refine CW.skip ?_ | refine CW.ret ?_ | refine PW.then_ret ?_ | refine PW.block_ret ?_ | refine Cut.ret ?_ | refine Rnd.ret ?_ | refine PW.block_normal ?_ | refine CW.exit ?_ | refine PW.then_exit ?_ | refine PW.block_hit ?_ | refine PW.block_miss rfl ?_ | refine Cut.exit ?_ | refine Rnd.exit ?_ | refine CW.scope ?_ | refine CW.label ?_ | refine PW.scope_normal ?_ | refine PW.scope_ret ?_ | refine PW.scope_exit ?_)
      refine CW.cond_true rfl ?_
      repeat (first | refine CW.seq ?_ | refine PW.then_ ?_ | refine PW.then_to rfl ?_ | refine CW.block ?_ | refine CW.skip ?_ | refine CW.ret ?_ | refine PW.then_ret ?_ | refine PW.block_ret ?_ | refine Cut.ret ?_ | refine Rnd.ret ?_ | refine PW.block_normal ?_ | refine CW.exit ?_ | refine PW.then_exit ?_ | refine PW.block_hit ?_ | refine PW.block_miss rfl ?_ | refine Cut.exit ?_ | refine Rnd.exit ?_ | refine CW.scope ?_ | refine CW.label ?_ | refine PW.scope_normal ?_ | refine PW.scope_ret ?_ | refine PW.scope_exit ?_)
      refine CW.region ?_
      refine L1 (ps_assign rfl).os ?_
      refine LW.nil ?_
      repeat (first | refine CW.seq ?_ | refine PW.then_ ?_ | refine PW.then_to rfl ?_ | refine CW.block ?_ | refine CW.skip ?_ | refine CW.ret ?_ | refine PW.then_ret ?_ | refine PW.block_ret ?_ | refine Cut.ret ?_ | refine Rnd.ret ?_ | refine PW.block_normal ?_ | refine CW.exit ?_ | refine PW.then_exit ?_ | refine PW.block_hit ?_ | refine PW.block_miss rfl ?_ | refine Cut.exit ?_ | refine Rnd.exit ?_ | refine CW.scope ?_ | refine CW.label ?_ | refine PW.scope_normal ?_ | refine PW.scope_ret ?_ | refine PW.scope_exit ?_)
      exact Fin.ret1 (v := .int .i64 5) rfl [_, _] rfl ⟨rfl, rfl⟩ (DiskAt.fold D wv _)
    · have h3 : (64 : Int) < bs.length := by have := h'.resolve_left h2; omega
      refine CW.region ?_
      refine L1 (ps_move rfl).os ?_
      refine L1 (ps_f (ps_lss rfl rfl) (h1)).os ?_
      refine L1 (ps_move rfl).os ?_
      refine LG1 ?_ (ps_move rfl).os ?_
      · exact rfl
      refine LG1 ?_ (ps_move rfl).os ?_
      · exact rfl
      refine LG1 ?_ (ps_nil rfl).os ?_
      · exact rfl
      refine LG1 ?_ (ps_fa T.fa76_0 (by decide) rfl).os ?_
      · exact rfl
      refine LG1 ?_ (os_load1 (by repeat (first | exact pk_head _ _ | apply pk_tail)) T.ag73 rfl (by rfl)) ?_
      · exact rfl
      refine LG1 ?_ (ps_len_sl T.un73 rfl).os ?_
      · exact rfl
      refine LG1 ?_ (ps_f (ps_geq rfl rfl) (h2)).os ?_
      · exact rfl
      refine L1 (ps_pick_f rfl rfl).os ?_
      refine L1 (ps_move rfl).os ?_
      refine LG1 ?_ (ps_move rfl).os ?_
      · exact rfl
      refine LG1 ?_ (ps_len_sl T.un27 rfl).os ?_
      · exact rfl
      refine LG1 ?_ (ps_t (ps_gtr rfl rfl) (h3)).os ?_
      · exact rfl
      refine L1 (ps_pick_f rfl rfl).os ?_
      refine LW.nil ?_
      repeat (first | refine CW.seq ?_ | refine PW.then_ ?_ | refine PW.then_to rfl ?_ | refine CW.block ?_ | refine CW.skip ?_ | refine CW.ret ?_ | refine PW.then_ret ?_ | refine PW.block_ret ?_ | refine Cut.ret ?_ | refine Rnd.ret ?_ | refine PW.block_normal ?_ | refine CW.exit ?_ | refine PW.then_exit ?_ | refine PW.block_hit ?_ | refine PW.block_miss rfl ?_ | refine Cut.exit ?_ | refine Rnd.exit ?_ | refine CW.scope ?_ | refine CW.label ?_ | refine PW.scope_normal ?_ | refine PW.scope_ret ?_ | refine PW.scope_exit ?_)
      refine CW.cond_true rfl ?_
      repeat (first | refine CW.seq ?_ | refine PW.then_ ?_ | refine PW.then_to rfl ?_ | refine CW.block ?_ | refine CW.skip ?_ | refine CW.ret ?_ | refine PW.then_ret ?_ | refine PW.block_ret ?_ | refine Cut.ret ?_ | refine Rnd.ret ?_ | refine PW.block_normal ?_ | refine CW.exit ?_ | refine PW.then_exit ?_ | refine PW.block_hit ?_ | refine PW.block_miss rfl ?_ | refine Cut.exit ?_ | refine Rnd.exit ?_ | refine CW.scope ?_ | refine CW.label ?_ | refine PW.scope_normal ?_ | refine PW.scope_ret ?_ | refine PW.scope_exit ?_)
      refine CW.region ?_
      refine L1 (ps_assign rfl).os ?_
      refine LW.nil ?_
      repeat (first | refine CW.seq ?_ | refine PW.then_ ?_ | refine PW.then_to rfl ?_ | refine CW.block ?_ | refine CW.skip ?_ | refine CW.ret ?_ | refine PW.then_ret ?_ | refine PW.block_ret ?_ | refine Cut.ret ?_ | refine Rnd.ret ?_ | refine PW.block_normal ?_ | refine CW.exit ?_ | refine PW.then_exit ?_ | refine PW.block_hit ?_ | refine PW.block_miss rfl ?_ | refine Cut.exit ?_ | refine Rnd.exit ?_ | refine CW.scope ?_ | refine CW.label ?_ | refine PW.scope_normal ?_ | refine PW.scope_ret ?_ | refine PW.scope_exit ?_)
      exact Fin.ret1 (v := .int .i64 5) rfl [_, _] rfl ⟨rfl, rfl⟩ (DiskAt.fold D wv _)

theorem Write_down (p : Nat) (st : DS) (A : Asn) (at_ : Int) (v : Value) (bs : List UInt8) (hb : ByR A v bs) (h1 : ¬ at_ < 0) (h2 : ¬ (st.data.length : Int) ≤ at_) (h3 : ¬ (64 : Int) < bs.length) (hd : st.down = true) :
    FSpec Try.prog 18 [ptr p, .int .i64 at_, v] [DiskAt p st, A] (fun r As => r = .int .i64 4 ∧ As = [DiskAt p st, A]) := by
  obtain ⟨pa, cap, rfl, hcap, hsrc⟩ := hb
  refine FSpec.intro Try.func18 rfl 60 Try.ntmps18 (Nat.le_of_ble_eq_true rfl) fun w0 F => ?_
  show CW _ _ _ _ _ _ (_ :: _ :: F)
  refine J.open_ (pk_head _ _) DiskAt.op ?_
  rintro _ ⟨D, wv, rfl⟩
  show CW _ _ _ _ _ _ (_ :: _ :: _ :: _ :: F)
  repeat (first | refine CW.seq ?_ | refine PW.then_ ?_ | refine PW.then_to rfl ?_ | refine CW.block ?_ | refine CW.skip ?_ | refine CW.ret ?_ | refine PW.then_ret ?_ | refine PW.block_ret ?_ | refine Cut.ret ?_ | refine Rnd.ret ?_ | refine PW.block_normal ?_ | refine CW.exit ?_ | refine PW.then_exit ?_ | refine PW.block_hit ?_ | refine PW.block_miss rfl ?_ | refine Cut.exit ?_ | refine Rnd.exit ?_ | refine CW.scope ?_ | refine CW.label ?_ | refine PW.scope_normal ?_ | refine PW.scope_ret ?_ | refine PW.scope_exit ?_)
  refine CW.region ?_
  refine L1 (ps_assign rfl).os ?_
  refine LW.nil ?_
  repeat (first | refine CW.seq ?_ | refine PW.then_ ?_ | refine PW.then_to rfl ?_ | refine CW.block ?_ | refine CW.skip ?_ | refine CW.ret ?_ | refine PW.then_ret ?_ | refine PW.block_ret ?_ | refine Cut.ret ?_ | refine Rnd.ret ?_ | refine PW.block_normal ?_ | refine CW.exit ?_ | refine PW.then_exit ?_ | refine PW.block_hit ?_ | refine PW.block_miss rfl ?_ | refine Cut.exit ?_ | refine Rnd.exit ?_ | refine CW.scope ?_ | refine CW.label ?_ | refine PW.scope_normal ?_ | refine PW.scope_ret ?_ | refine PW.scope_exit ?_)
  refine CW.region ?_
  refine L1 (ps_move rfl).os ?_
  refine L1 (ps_f (ps_lss rfl rfl) (h1)).os ?_
  refine L1 (ps_move rfl).os ?_
  refine LG1 ?_ (ps_move rfl).os ?_
  · exact rfl
  refine LG1 ?_ (ps_move rfl).os ?_
  · exact rfl
  refine LG1 ?_ (ps_nil rfl).os ?_
  · exact rfl
  refine LG1 ?_ (ps_fa T.fa76_0 (by decide) rfl).os ?_
  · exact rfl
  refine LG1 ?_ (os_load1 (by repeat (first | exact pk_head _ _ | apply pk_tail)) T.ag73 rfl (by rfl)) ?_
  · exact rfl
  refine LG1 ?_ (ps_len_sl T.un73 rfl).os ?_
  · exact rfl
  refine LG1 ?_ (ps_f (ps_geq rfl rfl) (h2)).os ?_
  · exact rfl
  refine L1 (ps_pick_f rfl rfl).os ?_
  refine L1 (ps_move rfl).os ?_
  refine LG1 ?_ (ps_move rfl).os ?_
  · exact rfl
  refine LG1 ?_ (ps_len_sl T.un27 rfl).os ?_
  · exact rfl
  refine LG1 ?_ (ps_f (ps_gtr rfl rfl) (h3)).os ?_
  · exact rfl
  refine L1 (ps_pick_f rfl rfl).os ?_
  refine LW.nil ?_
  repeat (first | refine CW.seq ?_ | refine PW.then_ ?_ | refine PW.then_to rfl ?_ | refine CW.block ?_ | refine CW.skip ?_ | refine CW.ret ?_ | refine PW.then_ret ?_ | refine PW.block_ret ?_ | refine Cut.ret ?_ | refine Rnd.ret ?_ | refine PW.block_normal ?_ | refine CW.exit ?_ | refine PW.then_exit ?_ | refine PW.block_hit ?_ | refine PW.block_miss rfl ?_ | refine Cut.exit ?_ | refine Rnd.exit ?_ | refine CW.scope ?_ | refine CW.label ?_ | refine PW.scope_normal ?_ | refine PW.scope_ret ?_ | refine PW.scope_exit ?_)
  refine CW.cond_false rfl ?_
  repeat (first | refine CW.seq ?_ | refine PW.then_ ?_ | refine PW.then_to rfl ?_ | refine CW.block ?_ | refine CW.skip ?_ | refine CW.ret ?_ | refine PW.then_ret ?_ | refine PW.block_ret ?_ | refine Cut.ret ?_ | refine Rnd.ret ?_ | refine PW.block_normal ?_ | refine CW.exit ?_ | refine PW.then_exit ?_ | refine PW.block_hit ?_ | refine PW.block_miss rfl ?_ | refine Cut.exit ?_ | refine Rnd.exit ?_ | refine CW.scope ?_ | refine CW.label ?_ | refine PW.scope_normal ?_ | refine PW.scope_ret ?_ | refine PW.scope_exit ?_)
  refine J.ent (DiskAt.fold D wv _) ?_
  refine CW.region ?_
  refine L1 (ps_move rfl).os ?_
  refine LE (os_call (Down_spec p st) Try.func26 (by decide +kernel) rfl rfl (List.Perm.refl _)) ?_
  rintro _ _ ⟨_, ⟨rfl, rfl⟩, rfl⟩
  refine LW.nil ?_
  repeat (first | refine CW.seq ?_ | refine PW.then_ ?_ | refine PW.then_to rfl ?_ | refine CW.block ?_ | refine CW.skip ?_ | refine CW.ret ?_ | refine PW.then_ret ?_ | refine PW.block_ret ?_ | refine Cut.ret ?_ | refine Rnd.ret ?_ | refine PW.block_normal ?_ | refine CW.exit ?_ | refine PW.then_exit ?_ | refine PW.block_hit ?_ | refine PW.block_miss rfl ?_ | refine Cut.exit ?_ | refine Rnd.exit ?_ | refine CW.scope ?_ | refine CW.label ?_ | refine PW.scope_normal ?_ | refine PW.scope_ret ?_ | refine PW.scope_exit ?_)
  refine CW.cond_true (by rw [← hd]; rfl) ?_
  repeat (first | refine CW.seq ?_ | refine PW.then_ ?_ | refine PW.then_to rfl ?_ | refine CW.block ?_ | refine CW.skip ?_ | refine CW.ret ?_ | refine PW.then_ret ?_ | refine PW.block_ret ?_ | refine Cut.ret ?_ | refine Rnd.ret ?_ | refine PW.block_normal ?_ | refine CW.exit ?_ | refine PW.then_exit ?_ | refine PW.block_hit ?_ | refine PW.block_miss rfl ?_ | refine Cut.exit ?_ | refine Rnd.exit ?_ | refine CW.scope ?_ | refine CW.label ?_ | refine PW.scope_normal ?_ | refine PW.scope_ret ?_ | refine PW.scope_exit ?_)
  refine CW.region ?_
  refine L1 (ps_assign rfl).os ?_
  refine LW.nil ?_
  repeat (first | refine CW.seq ?_ | refine PW.then_ ?_ | refine PW.then_to rfl ?_ | refine CW.block ?_ | refine CW.skip ?_ | refine CW.ret ?_ | refine PW.then_ret ?_ | refine PW.block_ret ?_ | refine Cut.ret ?_ | refine Rnd.ret ?_ | refine PW.block_normal ?_ | refine CW.exit ?_ | refine PW.then_exit ?_ | refine PW.block_hit ?_ | refine PW.block_miss rfl ?_ | refine Cut.exit ?_ | refine Rnd.exit ?_ | refine CW.scope ?_ | refine CW.label ?_ | refine PW.scope_normal ?_ | refine PW.scope_ret ?_ | refine PW.scope_exit ?_)
  exact Fin.ret1 (v := .int .i64 4) rfl [_, _] rfl ⟨rfl, rfl⟩ (Ent.refl _)
theorem Write_ok (p : Nat) (st : DS) (A : Asn) (at_ : Int) (v : Value) (bs : List UInt8) (hb : ByR A v bs) (h1 : ¬ at_ < 0) (h2 : ¬ (st.data.length : Int) ≤ at_) (h3 : ¬ (64 : Int) < bs.length) (hd : st.down = false)
    (hw : st.wait.length ≤ 1000000) (hc : 0 ≤ st.count ∧ st.count ≤ 1000000000) (hl : 0 ≤ st.left ∧ st.left < 9223372036854775808) :
    FSpec Try.prog 18 [ptr p, .int .i64 at_, v] [DiskAt p st, A]
      (fun r As => r = .int .i64 0 ∧ As = [DiskAt p { st with wait := st.wait ++ [(at_.toNat, pad 64 bs)], count := st.count + 1, left := if st.armed then st.left - 1 else st.left }, A]) := by
  obtain ⟨pa, cap, rfl, hcap, hsrc⟩ := hb
  have hlen : (Value.int .i64 at_ :: bv (pad 64 bs)).length = 65 := by rw [List.length_cons, length_bv, length_pad (by omega)]
  have hwc : wcell (at_.toNat, pad 64 bs) = .int .i64 at_ :: bv (pad 64 bs) := by
    unfold wcell
    rw [Int.toNat_of_nonneg (by omega)]
  refine FSpec.intro Try.func18 rfl 60 Try.ntmps18 (Nat.le_of_ble_eq_true rfl) fun w0 F => ?_
  show CW _ _ _ _ _ _ (_ :: _ :: F)
  refine J.open_ (pk_head _ _) DiskAt.op ?_
  rintro _ ⟨D, wv, rfl⟩
  show CW _ _ _ _ _ _ (_ :: _ :: _ :: _ :: F)
  repeat (first | refine CW.seq ?_ | refine PW.then_ ?_ | refine PW.then_to rfl ?_ | refine CW.block ?_ | refine CW.skip ?_ | refine CW.ret ?_ | refine PW.then_ret ?_ | refine PW.block_ret ?_ | refine Cut.ret ?_ | refine Rnd.ret ?_ | refine PW.block_normal ?_ | refine CW.exit ?_ | refine PW.then_exit ?_ | refine PW.block_hit ?_ | refine PW.block_miss rfl ?_ | refine Cut.exit ?_ | refine Rnd.exit ?_ | refine CW.scope ?_ | refine CW.label ?_ | refine PW.scope_normal ?_ | refine PW.scope_ret ?_ | refine PW.scope_exit ?_)
  refine CW.region ?_
  refine L1 (ps_assign rfl).os ?_
  refine LW.nil ?_
  repeat (first | refine CW.seq ?_ | refine PW.then_ ?_ | refine PW.then_to rfl ?_ | refine CW.block ?_ | refine CW.skip ?_ | refine CW.ret ?_ | refine PW.then_ret ?_ | refine PW.block_ret ?_ | refine Cut.ret ?_ | refine Rnd.ret ?_ | refine PW.block_normal ?_ | refine CW.exit ?_ | refine PW.then_exit ?_ | refine PW.block_hit ?_ | refine PW.block_miss rfl ?_ | refine Cut.exit ?_ | refine Rnd.exit ?_ | refine CW.scope ?_ | refine CW.label ?_ | refine PW.scope_normal ?_ | refine PW.scope_ret ?_ | refine PW.scope_exit ?_)
  refine CW.region ?_
  refine L1 (ps_move rfl).os ?_
  refine L1 (ps_f (ps_lss rfl rfl) (h1)).os ?_
  refine L1 (ps_move rfl).os ?_
  refine LG1 ?_ (ps_move rfl).os ?_
  · exact rfl
  refine LG1 ?_ (ps_move rfl).os ?_
  · exact rfl
  refine LG1 ?_ (ps_nil rfl).os ?_
  · exact rfl
  refine LG1 ?_ (ps_fa T.fa76_0 (by decide) rfl).os ?_
  · exact rfl
  refine LG1 ?_ (os_load1 (by repeat (first | exact pk_head _ _ | apply pk_tail)) T.ag73 rfl (by rfl)) ?_
  · exact rfl
  refine LG1 ?_ (ps_len_sl T.un73 rfl).os ?_
  · exact rfl
  refine LG1 ?_ (ps_f (ps_geq rfl rfl) (h2)).os ?_
  · exact rfl
  refine L1 (ps_pick_f rfl rfl).os ?_
  refine L1 (ps_move rfl).os ?_
  refine LG1 ?_ (ps_move rfl).os ?_
  · exact rfl
  refine LG1 ?_ (ps_len_sl T.un27 rfl).os ?_
  · exact rfl
  refine LG1 ?_ (ps_f (ps_gtr rfl rfl) (h3)).os ?_
  · exact rfl
  refine L1 (ps_pick_f rfl rfl).os ?_
  refine LW.nil ?_
  repeat (first | refine CW.seq ?_ | refine PW.then_ ?_ | refine PW.then_to rfl ?_ | refine CW.block ?_ | refine CW.skip ?_ | refine CW.ret ?_ | refine PW.then_ret ?_ | refine PW.block_ret ?_ | refine Cut.ret ?_ | refine Rnd.ret ?_ | refine PW.block_normal ?_ | refine CW.exit ?_ | refine PW.then_exit ?_ | refine PW.block_hit ?_ | refine PW.block_miss rfl ?_ | refine Cut.exit ?_ | refine Rnd.exit ?_ | refine CW.scope ?_ | refine CW.label ?_ | refine PW.scope_normal ?_ | refine PW.scope_ret ?_ | refine PW.scope_exit ?_)
  refine CW.cond_false rfl ?_
  repeat (first | refine CW.seq ?_ | refine PW.then_ ?_ | refine PW.then_to rfl ?_ | refine CW.block ?_ | refine CW.skip ?_ | refine CW.ret ?_ | refine PW.then_ret ?_ | refine PW.block_ret ?_ | refine Cut.ret ?_ | refine Rnd.ret ?_ | refine PW.block_normal ?_ | refine CW.exit ?_ | refine PW.then_exit ?_ | refine PW.block_hit ?_ | refine PW.block_miss rfl ?_ | refine Cut.exit ?_ | refine Rnd.exit ?_ | refine CW.scope ?_ | refine CW.label ?_ | refine PW.scope_normal ?_ | refine PW.scope_ret ?_ | refine PW.scope_exit ?_)
  refine J.ent (DiskAt.fold D wv _) ?_
  refine CW.region ?_
  refine L1 (ps_move rfl).os ?_
  refine LE (os_call (Down_spec p st) Try.func26 (by decide +kernel) rfl rfl (List.Perm.refl _)) ?_
  rintro _ _ ⟨_, ⟨rfl, rfl⟩, rfl⟩
  refine LW.nil ?_
  repeat (first | refine CW.seq ?_ | refine PW.then_ ?_ | refine PW.then_to rfl ?_ | refine CW.block ?_ | refine CW.skip ?_ | refine CW.ret ?_ | refine PW.then_ret ?_ | refine PW.block_ret ?_ | refine Cut.ret ?_ | refine Rnd.ret ?_ | refine PW.block_normal ?_ | refine CW.exit ?_ | refine PW.then_exit ?_ | refine PW.block_hit ?_ | refine PW.block_miss rfl ?_ | refine Cut.exit ?_ | refine Rnd.exit ?_ | refine CW.scope ?_ | refine CW.label ?_ | refine PW.scope_normal ?_ | refine PW.scope_ret ?_ | refine PW.scope_exit ?_)
  refine CW.cond_false (by rw [← hd]; rfl) ?_
  repeat (first | refine CW.seq ?_ | refine PW.then_ ?_ | refine PW.then_to rfl ?_ | refine CW.block ?_ | refine CW.skip ?_ | refine CW.ret ?_ | refine PW.then_ret ?_ | refine PW.block_ret ?_ | refine Cut.ret ?_ | refine Rnd.ret ?_ | refine PW.block_normal ?_ | refine CW.exit ?_ | refine PW.then_exit ?_ | refine PW.block_hit ?_ | refine PW.block_miss rfl ?_ | refine Cut.exit ?_ | refine Rnd.exit ?_ | refine CW.scope ?_ | refine CW.label ?_ | refine PW.scope_normal ?_ | refine PW.scope_ret ?_ | refine PW.scope_exit ?_)
  refine J.open_ (pk_head _ _) DiskAt.op ?_
  rintro _ ⟨D, wv, rfl⟩
  show CW _ _ _ _ _ _ (_ :: _ :: _ :: _ :: F)
  obtain ⟨data, wait, armed, left, count⟩ := st
  dsimp only at hw hc hl h2
  refine CW.region ?_
  refine L1 (ps_move rfl).os ?_
  refine L1 (ps_build (cells := .int .i64 at_ :: List.replicate 64 (.int .u8 0)) rfl (by kernel_rfl)).os ?_
  refine LE (os_alloc T.ti79) ?_
  rintro _ _ ⟨b7, rfl, rfl⟩
  refine L1 (os_storeAll (vs := .int .i64 at_ :: List.replicate 64 (.int .u8 0)) (by repeat (first | exact pk_head _ _ | apply pk_tail)) T.sz79 rfl rfl (by simp [Value.oneCell']) (by simp)) ?_
  refine LW.nil ?_
  repeat (first | refine CW.seq ?_ | refine PW.then_ ?_ | refine PW.then_to rfl ?_ | refine CW.block ?_ | refine CW.skip ?_ | refine CW.ret ?_ | refine PW.then_ret ?_ | refine PW.block_ret ?_ | refine Cut.ret ?_ | refine Rnd.ret ?_ | refine PW.block_normal ?_ | refine CW.exit ?_ | refine PW.then_exit ?_ | refine PW.block_hit ?_ | refine PW.block_miss rfl ?_ | refine Cut.exit ?_ | refine Rnd.exit ?_ | refine CW.scope ?_ | refine CW.label ?_ | refine PW.scope_normal ?_ | refine PW.scope_ret ?_ | refine PW.scope_exit ?_)
  refine CW.region ?_
  refine L1 (ps_fa T.fa79_1 (by decide) rfl).os ?_
  refine L1 (ps_as_all T.un77 T.sz5 rfl).os ?_
  refine L1 (ps_move rfl).os ?_
  refine L1 (os_copy (news := bv bs) (by repeat (first | exact pk_head _ _ | apply pk_tail)) T.un27 T.sz5 rfl rfl (by rw [length_bv]; exact (Nat.min_eq_left (by omega)).symm) (hsrc _ _ (by repeat (first | exact pk_head _ _ | apply pk_tail))) (bv_one _) (.inr (by simp; omega))) ?_
  rw [spl_pad (by omega)]
  refine LW.nil ?_
  refine PW.then_ ?_
  refine CW.cutM (α := Option Addr × Nat) [32, 33, 34, 35, 36, 37, 38, 39, 40, 41] (fun _ => True) (fun _ => []) (fun a => cb p 76 [.slice (some ⟨D, 0, none⟩) data.length data.length, .slice a.1 (wait.length + 1) a.2, .bool armed, .int .i64 left, .int .i64 count] ::
    cb D 77 (data.map bv).flatten :: slOwn 79 65 (.slice a.1 (wait.length + 1) a.2) (wait.length + 1) ((wait.map wcell).flatten ++ (.int .i64 at_ :: bv (pad 64 bs))) :: A :: F) ?_ ?_
  · refine CW.draw T.mixed ?_
    refine A_take (i := 0) (some 32) rfl rfl (by kernel_rfl) (by kernel_rfl) (by kernel_rfl) rfl (ps_move rfl) ?_
    refine A_take (i := 1) (some 33) rfl rfl (by kernel_rfl) (by kernel_rfl) (by kernel_rfl) rfl (ps_move rfl) ?_
    refine A_take (i := 2) (some 34) rfl rfl (by kernel_rfl) (by kernel_rfl) (by kernel_rfl) rfl (ps_nil rfl) ?_
    refine A_take (i := 3) (some 35) rfl rfl (by kernel_rfl) (by kernel_rfl) (by kernel_rfl) rfl (ps_fa T.fa76_1 (by decide) rfl) ?_
    refine A_branch (rs := [4, 5]) (by kernel_rfl) (by simp) ?_
    refine AR.cons1 (i := 4) (some 36) rfl rfl rfl (os_load1 (by repeat (first | exact pk_head _ _ | apply pk_tail)) T.ag74 rfl (by rfl)) ?_ ?_
    · skip
      refine A_branch (rs := [5]) (by kernel_rfl) (by simp) ?_
      refine AR.cons1 (i := 5) (some 37) rfl rfl rfl (os_loadAll (by repeat (first | exact pk_head _ _ | apply pk_tail)) T.ag79 (by rw [hlen]; exact T.sz79) rfl) ?_ ?_
      · skip
        refine A_branch (rs := [6]) (by kernel_rfl) (by simp) ?_
        refine AR.consE (i := 6) (some 38) rfl rfl rfl (os_bsl1 T.un74 T.ti79 (by rfl) rfl rfl hlen (by decide) (by decide)) ?_ ?_
        · rintro _ _ ⟨b38, rfl, rfl⟩
          refine A_branch (rs := [7]) (by kernel_rfl) (by simp) ?_
          refine AR.consE (i := 7) (some 39) rfl rfl rfl (os_append (news := .int .i64 at_ :: bv (pad 64 bs)) (by repeat (first | exact pk_head _ _ | apply pk_tail)) T.un74 T.ti79 (by rfl) (by decide) rfl rfl hlen (Src.cb (by repeat (first | exact pk_head _ _ | apply pk_tail)) (by rw [List.drop_zero, List.take_length])) (cons_one rfl (bv_one _)) (by show wait.length + 1 ≤ maxLen; unfold maxLen; omega) (by show (wait.length + 1) * 72 ≤ _; omega)) ?_ ?_
          · rintro _ _ ⟨q, d, rfl, rfl, hq⟩
            refine A_take (i := 8) (some 40) rfl rfl (by kernel_rfl) (by kernel_rfl) (by kernel_rfl) rfl (ps_nil rfl) ?_
            refine A_take (i := 9) (some 41) rfl rfl (by kernel_rfl) (by kernel_rfl) (by kernel_rfl) rfl (ps_fa T.fa76_1 (by decide) rfl) ?_
            refine A_branch (rs := [10]) (by kernel_rfl) (by simp) ?_
            refine AR.cons1 (i := 10) none rfl rfl rfl (os_store1 (by repeat (first | exact pk_head _ _ | apply pk_tail)) T.sz74 rfl rfl (by rfl) (Nat.le_of_ble_eq_true rfl)) ?_ ?_
            · skip
              refine A_done (by kernel_rfl) ?_
              exact Meet.cut (q, d) trivial (by repeat (first | (with_reducible exact Ag.refl _ _) | (with_reducible assumption) | (with_reducible apply Ag.pu0) | ((with_reducible refine Ag.pu _ ?_ ?_); · exact rfl) | ((with_reducible refine Ag.mix ?_ ?_); · exact rfl) | ((with_reducible refine Ag.pus ?_ ?_); · exact rfl))) trivial (by repeat (first | exact Ent.refl _ | (apply Ent.cons; · repeat (first | exact pk_head _ _ | apply pk_tail)) | apply Ent.skip))
            exact AR.nil
          exact AR.nil
        exact AR.nil
      exact AR.nil
    refine AR.cons1 (i := 5) (some 37) rfl rfl rfl (os_loadAll (by repeat (first | exact pk_head _ _ | apply pk_tail)) T.ag79 (by rw [hlen]; exact T.sz79) rfl) ?_ ?_
    · skip
      refine A_branch (rs := [4, 6]) (by kernel_rfl) (by simp) ?_
      refine AR.cons1 (i := 4) (some 36) rfl rfl rfl (os_load1 (by repeat (first | exact pk_head _ _ | apply pk_tail)) T.ag74 rfl (by rfl)) ?_ ?_
      · skip
        refine A_branch (rs := [6]) (by kernel_rfl) (by simp) ?_
        refine AR.consE (i := 6) (some 38) rfl rfl rfl (os_bsl1 T.un74 T.ti79 (by rfl) rfl rfl hlen (by decide) (by decide)) ?_ ?_
        · rintro _ _ ⟨b38, rfl, rfl⟩
          refine A_branch (rs := [7]) (by kernel_rfl) (by simp) ?_
          refine AR.consE (i := 7) (some 39) rfl rfl rfl (os_append (news := .int .i64 at_ :: bv (pad 64 bs)) (by repeat (first | exact pk_head _ _ | apply pk_tail)) T.un74 T.ti79 (by rfl) (by decide) rfl rfl hlen (Src.cb (by repeat (first | exact pk_head _ _ | apply pk_tail)) (by rw [List.drop_zero, List.take_length])) (cons_one rfl (bv_one _)) (by show wait.length + 1 ≤ maxLen; unfold maxLen; omega) (by show (wait.length + 1) * 72 ≤ _; omega)) ?_ ?_
          · rintro _ _ ⟨q, d, rfl, rfl, hq⟩
            refine A_take (i := 8) (some 40) rfl rfl (by kernel_rfl) (by kernel_rfl) (by kernel_rfl) rfl (ps_nil rfl) ?_
            refine A_take (i := 9) (some 41) rfl rfl (by kernel_rfl) (by kernel_rfl) (by kernel_rfl) rfl (ps_fa T.fa76_1 (by decide) rfl) ?_
            refine A_branch (rs := [10]) (by kernel_rfl) (by simp) ?_
            refine AR.cons1 (i := 10) none rfl rfl rfl (os_store1 (by repeat (first | exact pk_head _ _ | apply pk_tail)) T.sz74 rfl rfl (by rfl) (Nat.le_of_ble_eq_true rfl)) ?_ ?_
            · skip
              refine A_done (by kernel_rfl) ?_
              exact Meet.cut (q, d) trivial (by repeat (first | (with_reducible exact Ag.refl _ _) | (with_reducible assumption) | (with_reducible apply Ag.pu0) | ((with_reducible refine Ag.pu _ ?_ ?_); · exact rfl) | ((with_reducible refine Ag.mix ?_ ?_); · exact rfl) | ((with_reducible refine Ag.pus ?_ ?_); · exact rfl))) trivial (by repeat (first | exact Ent.refl _ | (apply Ent.cons; · repeat (first | exact pk_head _ _ | apply pk_tail)) | apply Ent.skip))
            exact AR.nil
          exact AR.nil
        exact AR.nil
      refine AR.consE (i := 6) (some 38) rfl rfl rfl (os_bsl1 T.un74 T.ti79 (by rfl) rfl rfl hlen (by decide) (by decide)) ?_ ?_
      · rintro _ _ ⟨b38, rfl, rfl⟩
        refine A_branch (rs := [4]) (by kernel_rfl) (by simp) ?_
        refine AR.cons1 (i := 4) (some 36) rfl rfl rfl (os_load1 (by repeat (first | exact pk_head _ _ | apply pk_tail)) T.ag74 rfl (by rfl)) ?_ ?_
        · skip
          refine A_branch (rs := [7]) (by kernel_rfl) (by simp) ?_
          refine AR.consE (i := 7) (some 39) rfl rfl rfl (os_append (news := .int .i64 at_ :: bv (pad 64 bs)) (by repeat (first | exact pk_head _ _ | apply pk_tail)) T.un74 T.ti79 (by rfl) (by decide) rfl rfl hlen (Src.cb (by repeat (first | exact pk_head _ _ | apply pk_tail)) (by rw [List.drop_zero, List.take_length])) (cons_one rfl (bv_one _)) (by show wait.length + 1 ≤ maxLen; unfold maxLen; omega) (by show (wait.length + 1) * 72 ≤ _; omega)) ?_ ?_
          · rintro _ _ ⟨q, d, rfl, rfl, hq⟩
            refine A_take (i := 8) (some 40) rfl rfl (by kernel_rfl) (by kernel_rfl) (by kernel_rfl) rfl (ps_nil rfl) ?_
            refine A_take (i := 9) (some 41) rfl rfl (by kernel_rfl) (by kernel_rfl) (by kernel_rfl) rfl (ps_fa T.fa76_1 (by decide) rfl) ?_
            refine A_branch (rs := [10]) (by kernel_rfl) (by simp) ?_
            refine AR.cons1 (i := 10) none rfl rfl rfl (os_store1 (by repeat (first | exact pk_head _ _ | apply pk_tail)) T.sz74 rfl rfl (by rfl) (Nat.le_of_ble_eq_true rfl)) ?_ ?_
            · skip
              refine A_done (by kernel_rfl) ?_
              exact Meet.cut (q, d) trivial (by repeat (first | (with_reducible exact Ag.refl _ _) | (with_reducible assumption) | (with_reducible apply Ag.pu0) | ((with_reducible refine Ag.pu _ ?_ ?_); · exact rfl) | ((with_reducible refine Ag.mix ?_ ?_); · exact rfl) | ((with_reducible refine Ag.pus ?_ ?_); · exact rfl))) trivial (by repeat (first | exact Ent.refl _ | (apply Ent.cons; · repeat (first | exact pk_head _ _ | apply pk_tail)) | apply Ent.skip))
            exact AR.nil
          exact AR.nil
        exact AR.nil
      exact AR.nil
    exact AR.nil
  intro a g _
  repeat (first | refine CW.seq ?_ | refine PW.then_ ?_ | refine PW.then_to rfl ?_ | refine CW.block ?_ | refine CW.skip ?_ | refine CW.ret ?_ | refine PW.then_ret ?_ | refine PW.block_ret ?_ | refine Cut.ret ?_ | refine Rnd.ret ?_ | refine PW.block_normal ?_ | refine CW.exit ?_ | refine PW.then_exit ?_ | refine PW.block_hit ?_ | refine PW.block_miss rfl ?_ | refine Cut.exit ?_ | refine Rnd.exit ?_ | refine CW.scope ?_ | refine CW.label ?_ | refine PW.scope_normal ?_ | refine PW.scope_ret ?_ | refine PW.scope_exit ?_)
  refine CW.region ?_
  refine L1 (ps_move rfl).os ?_
  refine L1 (ps_nil rfl).os ?_
  refine L1 (ps_fa T.fa76_4 (by decide) rfl).os ?_
  refine L1 (os_load1 (by repeat (first | exact pk_head _ _ | apply pk_tail)) T.ag3 rfl (by rfl)) ?_
  refine L1 (ps_add_i64 rfl rfl (by omega) (by omega)).os ?_
  refine L1 (ps_nil rfl).os ?_
  refine L1 (ps_fa T.fa76_4 (by decide) rfl).os ?_
  refine L1 (os_store1 (by repeat (first | exact pk_head _ _ | apply pk_tail)) T.sz3 rfl rfl (by rfl) (Nat.le_of_ble_eq_true rfl)) ?_
  refine LW.nil ?_
  repeat (first | refine CW.seq ?_ | refine PW.then_ ?_ | refine PW.then_to rfl ?_ | refine CW.block ?_ | refine CW.skip ?_ | refine CW.ret ?_ | refine PW.then_ret ?_ | refine PW.block_ret ?_ | refine Cut.ret ?_ | refine Rnd.ret ?_ | refine PW.block_normal ?_ | refine CW.exit ?_ | refine PW.then_exit ?_ | refine PW.block_hit ?_ | refine PW.block_miss rfl ?_ | refine Cut.exit ?_ | refine Rnd.exit ?_ | refine CW.scope ?_ | refine CW.label ?_ | refine PW.scope_normal ?_ | refine PW.scope_ret ?_ | refine PW.scope_exit ?_)
  have hfl : ((wait ++ [(at_.toNat, pad 64 bs)]).map wcell).flatten = (wait.map wcell).flatten ++ (.int .i64 at_ :: bv (pad 64 bs)) := by
    rw [List.map_append, List.flatten_append, List.map_cons, hwc]; simp
  have hln : (wait ++ [(at_.toNat, pad 64 bs)]).length = wait.length + 1 := by simp
  cases armed
  · refine CW.region ?_
    refine L1 (ps_move rfl).os ?_
    refine L1 (ps_nil rfl).os ?_
    refine L1 (ps_fa T.fa76_2 (by decide) rfl).os ?_
    refine L1 (os_load1 (by repeat (first | exact pk_head _ _ | apply pk_tail)) T.ag4 rfl (by rfl)) ?_
    refine LW.nil ?_
    repeat (first | refine CW.seq ?_ | refine PW.then_ ?_ | refine PW.then_to rfl ?_ | refine CW.block ?_ | refine CW.skip ?_ | refine CW.ret ?_ | refine PW.then_ret ?_ | refine PW.block_ret ?_ | refine Cut.ret ?_ | refine Rnd.ret ?_ | refine PW.block_normal ?_ | refine CW.exit ?_ | refine PW.then_exit ?_ | refine PW.block_hit ?_ | refine PW.block_miss rfl ?_ | refine Cut.exit ?_ | refine Rnd.exit ?_ | refine CW.scope ?_ | refine CW.label ?_ | refine PW.scope_normal ?_ | refine PW.scope_ret ?_ | refine PW.scope_exit ?_)
    refine CW.cond_false rfl ?_
    repeat (first | refine CW.seq ?_ | refine PW.then_ ?_ | refine PW.then_to rfl ?_ | refine CW.block ?_ | refine CW.skip ?_ | refine CW.ret ?_ | refine PW.then_ret ?_ | refine PW.block_ret ?_ | refine Cut.ret ?_ | refine Rnd.ret ?_ | refine PW.block_normal ?_ | refine CW.exit ?_ | refine PW.then_exit ?_ | refine PW.block_hit ?_ | refine PW.block_miss rfl ?_ | refine Cut.exit ?_ | refine Rnd.exit ?_ | refine CW.scope ?_ | refine CW.label ?_ | refine PW.scope_normal ?_ | refine PW.scope_ret ?_ | refine PW.scope_exit ?_)
    refine CW.region ?_
    refine L1 (ps_assign rfl).os ?_
    refine LW.nil ?_
    repeat (first | refine CW.seq ?_ | refine PW.then_ ?_ | refine PW.then_to rfl ?_ | refine CW.block ?_ | refine CW.skip ?_ | refine CW.ret ?_ | refine PW.then_ret ?_ | refine PW.block_ret ?_ | refine Cut.ret ?_ | refine Rnd.ret ?_ | refine PW.block_normal ?_ | refine CW.exit ?_ | refine PW.then_exit ?_ | refine PW.block_hit ?_ | refine PW.block_miss rfl ?_ | refine Cut.exit ?_ | refine Rnd.exit ?_ | refine CW.scope ?_ | refine CW.label ?_ | refine PW.scope_normal ?_ | refine PW.scope_ret ?_ | refine PW.scope_exit ?_)
    refine Fin.ret1 (v := .int .i64 0) rfl [_, _] rfl ⟨rfl, rfl⟩ ?_
    refine Ent.trans ?_ (DiskAt.fold D (.slice a.1 (wait.length + 1) a.2) _)
    dsimp only
    rw [hfl, hln]
    exact (by repeat (first | exact Ent.refl _ | (apply Ent.cons; · repeat (first | exact pk_head _ _ | apply pk_tail)) | apply Ent.skip))
  · refine CW.region ?_
    refine L1 (ps_move rfl).os ?_
    refine L1 (ps_nil rfl).os ?_
    refine L1 (ps_fa T.fa76_2 (by decide) rfl).os ?_
    refine L1 (os_load1 (by repeat (first | exact pk_head _ _ | apply pk_tail)) T.ag4 rfl (by rfl)) ?_
    refine LW.nil ?_
    repeat (first | refine CW.seq ?_ | refine PW.then_ ?_ | refine PW.then_to rfl ?_ | refine CW.block ?_ | refine CW.skip ?_ | refine CW.ret ?_ | refine PW.then_ret ?_ | refine PW.block_ret ?_ | refine Cut.ret ?_ | refine Rnd.ret ?_ | refine PW.block_normal ?_ | refine CW.exit ?_ | refine PW.then_exit ?_ | refine PW.block_hit ?_ | refine PW.block_miss rfl ?_ | refine Cut.exit ?_ | refine Rnd.exit ?_ | refine CW.scope ?_ | refine CW.label ?_ | refine PW.scope_normal ?_ | refine PW.scope_ret ?_ | refine PW.scope_exit ?_)
    refine CW.cond_true rfl ?_
    refine CW.region ?_
    refine L1 (ps_move rfl).os ?_
    refine L1 (ps_nil rfl).os ?_
    refine L1 (ps_fa T.fa76_3 (by decide) rfl).os ?_
    refine L1 (os_load1 (by repeat (first | exact pk_head _ _ | apply pk_tail)) T.ag3 rfl (by rfl)) ?_
    refine L1 (ps_sub_i64 rfl rfl (by omega) (by omega)).os ?_
    refine L1 (ps_nil rfl).os ?_
    refine L1 (ps_fa T.fa76_3 (by decide) rfl).os ?_
    refine L1 (os_store1 (by repeat (first | exact pk_head _ _ | apply pk_tail)) T.sz3 rfl rfl (by rfl) (Nat.le_of_ble_eq_true rfl)) ?_
    refine LW.nil ?_
    repeat (first | refine CW.seq ?_ | refine PW.then_ ?_ | refine PW.then_to rfl ?_ | refine CW.block ?_ | refine CW.skip ?_ | refine CW.ret ?_ | refine PW.then_ret ?_ | refine PW.block_ret ?_ | refine Cut.ret ?_ | refine Rnd.ret ?_ | refine PW.block_normal ?_ | refine CW.exit ?_ | refine PW.then_exit ?_ | refine PW.block_hit ?_ | refine PW.block_miss rfl ?_ | refine Cut.exit ?_ | refine Rnd.exit ?_ | refine CW.scope ?_ | refine CW.label ?_ | refine PW.scope_normal ?_ | refine PW.scope_ret ?_ | refine PW.scope_exit ?_)
    refine CW.region ?_
    refine L1 (ps_assign rfl).os ?_
    refine LW.nil ?_
    repeat (first | refine CW.seq ?_ | refine PW.then_ ?_ | refine PW.then_to rfl ?_ | refine CW.block ?_ | refine CW.skip ?_ | refine CW.ret ?_ | refine PW.then_ret ?_ | refine PW.block_ret ?_ | refine Cut.ret ?_ | refine Rnd.ret ?_ | refine PW.block_normal ?_ | refine CW.exit ?_ | refine PW.then_exit ?_ | refine PW.block_hit ?_ | refine PW.block_miss rfl ?_ | refine Cut.exit ?_ | refine Rnd.exit ?_ | refine CW.scope ?_ | refine CW.label ?_ | refine PW.scope_normal ?_ | refine PW.scope_ret ?_ | refine PW.scope_exit ?_)
    refine Fin.ret1 (v := .int .i64 0) rfl [_, _] rfl ⟨rfl, rfl⟩ ?_
    refine Ent.trans ?_ (DiskAt.fold D (.slice a.1 (wait.length + 1) a.2) _)
    dsimp only
    rw [hfl, hln]
    exact (by repeat (first | exact Ent.refl _ | (apply Ent.cons; · repeat (first | exact pk_head _ _ | apply pk_tail)) | apply Ent.skip))
/-! ## Read -/
theorem rows_get {s : Nat} : ∀ (rows : List (List Value)) (i : Nat) (h : i < rows.length), (∀ r ∈ rows, r.length = s) → (rows.flatten.drop (i * s)).take s = rows[i]
  | [], i, h, _ => by simp at h
  | r :: rows, 0, _, hl => by
    have h1 : r.length = s := hl r (by simp)
    simp [← h1]
  | r :: rows, i + 1, h, hl => by
    have h1 : r.length = s := hl r (by simp)
    have ih := rows_get rows i (by simpa using h) (fun q hq => hl q (by simp [hq]))
    have e : (i + 1) * s = r.length + i * s := by rw [Nat.add_mul, h1]; omega
    rw [List.flatten_cons, e, List.drop_append, List.drop_eq_nil_of_le (by omega), List.nil_append, Nat.add_sub_cancel_left]
    simpa using ih
theorem rows_get' {s m : Nat} {cur : List Value} {rows : List (List Value)} (hc : cur.take (m * s) = rows.flatten) (i : Nat) (h : i < rows.length) (hm : rows.length = m) (hl : ∀ r ∈ rows, r.length = s) : (cur.drop (i * s)).take s = rows[i] := by
  rw [← rows_get rows i h hl, ← hc, List.drop_take, List.take_take]
  congr 1
  have : (i + 1) * s ≤ m * s := Nat.mul_le_mul_right _ (by omega)
  rw [Nat.add_mul] at this
  omega
theorem len_wcell {w : Nat × List UInt8} (h : w.2.length = 64) : (wcell w).length = 65 := by simp [wcell, h]
def DS.cur (st : DS) (at_ : Nat) (i : Nat) : List UInt8 := (st.wait.take i).foldl (fun s w => if w.1 = at_ then w.2 else s) (st.data.getD at_ [])
def DS.read (st : DS) (at_ : Nat) : List UInt8 := st.wait.foldl (fun s w => if w.1 = at_ then w.2 else s) (st.data.getD at_ [])
theorem DS.cur_succ (st : DS) (at_ i : Nat) (h : i < st.wait.length) : st.cur at_ (i + 1) = if (st.wait[i]).1 = at_ then (st.wait[i]).2 else st.cur at_ i := by
  unfold DS.cur
  rw [List.take_succ_eq_append_getElem h, List.foldl_append]
  rfl
theorem DS.cur_len (st : DS) (hok : st.Ok) (at_ : Nat) (h : at_ < st.data.length) (i : Nat) : (st.cur at_ i).length = 64 := by
  have key : ∀ (l : List (Nat × List UInt8)) (s : List UInt8), (∀ w ∈ l, w.2.length = 64) → s.length = 64 → (l.foldl (fun s w => if w.1 = at_ then w.2 else s) s).length = 64 := by
    intro l
    induction l with
    | nil => intro s _ hs; exact hs
    | cons w l ih =>
      intro s hl hs
      simp only [List.foldl_cons]
      refine ih _ (fun q hq => hl q (by simp [hq])) ?_
      split
      · exact hl w (by simp)
      · exact hs
  refine key _ _ (fun w hw => (hok.wlen w (List.mem_of_mem_take hw)).1) ?_
  rw [List.getD_eq_getElem?_getD, List.getElem?_eq_getElem h]
  exact hok.dlen _ (List.getElem_mem h)

theorem Read_bad (p : Nat) (st : DS) (at_ : Int) (h : at_ < 0 ∨ st.data.length ≤ at_) :
    FSpec Try.prog 20 [ptr p, .int .i64 at_] [DiskAt p st] (fun v As => v = .tuple #[.slice none 0 0, .int .i64 5] ∧ As = [DiskAt p st]) := by
  refine FSpec.intro Try.func20 rfl 44 Try.ntmps20 (Nat.le_of_ble_eq_true rfl) fun w0 F => ?_
  show CW _ _ _ _ _ _ (_ :: F)
  refine J.open_ (pk_head _ _) DiskAt.op ?_
  rintro _ ⟨D, wv, rfl⟩
  show CW _ _ _ _ _ _ (_ :: _ :: _ :: F)
  repeat (first | refine CW.seq ?_ | refine PW.then_ ?_ | refine PW.then_to rfl ?_ | refine CW.block ?_ | refine CW.skip ?_ | refine CW.ret ?_ | refine PW.then_ret ?_ | refine PW.block_ret ?_ | refine Cut.ret ?_ | refine Rnd.ret ?_ | refine PW.block_normal ?_ | refine CW.exit ?_ | refine PW.then_exit ?_ | refine PW.block_hit ?_ | refine PW.block_miss rfl ?_ | refine Cut.exit ?_ | refine Rnd.exit ?_ | refine CW.scope ?_ | refine CW.label ?_ | refine PW.scope_normal ?_ | refine PW.scope_ret ?_ | refine PW.scope_exit ?_)
  refine CW.region ?_
  refine L1 (ps_assign rfl).os ?_
  refine L1 (ps_assign rfl).os ?_
  refine LW.nil ?_
  repeat (first | refine CW.seq ?_ | refine PW.then_ ?_ | refine PW.then_to rfl ?_ | refine CW.block ?_ | refine CW.skip ?_ | refine CW.ret ?_ | refine PW.then_ret ?_ | refine PW.block_ret ?_ | refine Cut.ret ?_ | refine Rnd.ret ?_ | refine PW.block_normal ?_ | refine CW.exit ?_ | refine PW.then_exit ?_ | refine PW.block_hit ?_ | refine PW.block_miss rfl ?_ | refine Cut.exit ?_ | refine Rnd.exit ?_ | refine CW.scope ?_ | refine CW.label ?_ | refine PW.scope_normal ?_ | refine PW.scope_ret ?_ | refine PW.scope_exit ?_)
  by_cases h1 : at_ < 0
  · refine CW.region ?_
    refine L1 (ps_move rfl).os ?_
    refine L1 (ps_t (ps_lss rfl rfl) (h1)).os ?_
    refine L1 (ps_move rfl).os ?_
    refine LG0f ?_ ?_
    · exact rfl
    refine LG0f ?_ ?_
    · exact rfl
    refine LG0f ?_ ?_
    · exact rfl
    refine LG0f ?_ ?_
    · exact rfl
    refine LG0f ?_ ?_
    · exact rfl
    refine LG0f ?_ ?_
    · exact rfl
    refine LG0f ?_ ?_
    · exact rfl
    refine L1 (ps_pick_t rfl rfl).os ?_
    refine LW.nil ?_
    repeat (first | refine CW.seq ?_ | refine PW.then_ ?_ | refine PW.then_to rfl ?_ | refine CW.block ?_ | refine CW.skip ?_ | refine CW.ret ?_ | refine PW.then_ret ?_ | refine PW.block_ret ?_ | refine Cut.ret ?_ | refine Rnd.ret ?_ | refine PW.block_normal ?_ | refine CW.exit ?_ | refine PW.then_exit ?_ | refine PW.block_hit ?_ | refine PW.block_miss rfl ?_ | refine Cut.exit ?_ | refine Rnd.exit ?_ | refine CW.scope ?_ | refine CW.label ?_ | refine PW.scope_normal ?_ | refine PW.scope_ret ?_ | refine PW.scope_exit ?_)
    refine CW.cond_true rfl ?_
    repeat (first | refine CW.seq ?_ | refine PW.then_ ?_ | refine PW.then_to rfl ?_ | refine CW.block ?_ | refine CW.skip ?_ | refine CW.ret ?_ | refine PW.then_ret ?_ | refine PW.block_ret ?_ | refine Cut.ret ?_ | refine Rnd.ret ?_ | refine PW.block_normal ?_ | refine CW.exit ?_ | refine PW.then_exit ?_ | refine PW.block_hit ?_ | refine PW.block_miss rfl ?_ | refine Cut.exit ?_ | refine Rnd.exit ?_ | refine CW.scope ?_ | refine CW.label ?_ | refine PW.scope_normal ?_ | refine PW.scope_ret ?_ | refine PW.scope_exit ?_)
    refine CW.region ?_
    refine L1 (ps_assign rfl).os ?_
    refine L1 (ps_assign rfl).os ?_
    refine LW.nil ?_
    repeat (first | refine CW.seq ?_ | refine PW.then_ ?_ | refine PW.then_to rfl ?_ | refine CW.block ?_ | refine CW.skip ?_ | refine CW.ret ?_ | refine PW.then_ret ?_ | refine PW.block_ret ?_ | refine Cut.ret ?_ | refine Rnd.ret ?_ | refine PW.block_normal ?_ | refine CW.exit ?_ | refine PW.then_exit ?_ | refine PW.block_hit ?_ | refine PW.block_miss rfl ?_ | refine Cut.exit ?_ | refine Rnd.exit ?_ | refine CW.scope ?_ | refine CW.label ?_ | refine PW.scope_normal ?_ | refine PW.scope_ret ?_ | refine PW.scope_exit ?_)
    exact Fin.ret2 rfl [_] rfl rfl ⟨rfl, rfl⟩ (DiskAt.fold D wv _)
  · refine CW.region ?_
    refine L1 (ps_move rfl).os ?_
    refine L1 (ps_f (ps_lss rfl rfl) (h1)).os ?_
    refine L1 (ps_move rfl).os ?_
    refine LG1 ?_ (ps_move rfl).os ?_
    · exact rfl
    refine LG1 ?_ (ps_move rfl).os ?_
    · exact rfl
    refine LG1 ?_ (ps_nil rfl).os ?_
    · exact rfl
    refine LG1 ?_ (ps_fa T.fa76_0 (by decide) rfl).os ?_
    · exact rfl
    refine LG1 ?_ (os_load1 (by repeat (first | exact pk_head _ _ | apply pk_tail)) T.ag73 rfl (by rfl)) ?_
    · exact rfl
    refine LG1 ?_ (ps_len_sl T.un73 rfl).os ?_
    · exact rfl
    refine LG1 ?_ (ps_t (ps_geq rfl rfl) (h.resolve_left h1)).os ?_
    · exact rfl
    refine L1 (ps_pick_f rfl rfl).os ?_
    refine LW.nil ?_
    repeat (first | refine CW.seq ?_ | refine PW.then_ ?_ | refine PW.then_to rfl ?_ | refine CW.block ?_ | refine CW.skip ?_ | refine CW.ret ?_ | refine PW.then_ret ?_ | refine PW.block_ret ?_ | refine Cut.ret ?_ | refine Rnd.ret ?_ | refine PW.block_normal ?_ | refine CW.exit ?_ | refine PW.then_exit ?_ | refine PW.block_hit ?_ | refine PW.block_miss rfl ?_ | refine Cut.exit ?_ | refine Rnd.exit ?_ | refine CW.scope ?_ | refine CW.label ?_ | refine PW.scope_normal ?_ | refine PW.scope_ret ?_ | refine PW.scope_exit ?_)
    refine CW.cond_true rfl ?_
    repeat (first | refine CW.seq ?_ | refine PW.then_ ?_ | refine PW.then_to rfl ?_ | refine CW.block ?_ | refine CW.skip ?_ | refine CW.ret ?_ | refine PW.then_ret ?_ | refine PW.block_ret ?_ | refine Cut.ret ?_ | refine Rnd.ret ?_ | refine PW.block_normal ?_ | refine CW.exit ?_ | refine PW.then_exit ?_ | refine PW.block_hit ?_ | refine PW.block_miss rfl ?_ | refine Cut.exit ?_ | refine Rnd.exit ?_ | refine CW.scope ?_ | refine CW.label ?_ | refine PW.scope_normal ?_ | refine PW.scope_ret ?_ | refine PW.scope_exit ?_)
    refine CW.region ?_
    refine L1 (ps_assign rfl).os ?_
    refine L1 (ps_assign rfl).os ?_
    refine LW.nil ?_
    repeat (first | refine CW.seq ?_ | refine PW.then_ ?_ | refine PW.then_to rfl ?_ | refine CW.block ?_ | refine CW.skip ?_ | refine CW.ret ?_ | refine PW.then_ret ?_ | refine PW.block_ret ?_ | refine Cut.ret ?_ | refine Rnd.ret ?_ | refine PW.block_normal ?_ | refine CW.exit ?_ | refine PW.then_exit ?_ | refine PW.block_hit ?_ | refine PW.block_miss rfl ?_ | refine Cut.exit ?_ | refine Rnd.exit ?_ | refine CW.scope ?_ | refine CW.label ?_ | refine PW.scope_normal ?_ | refine PW.scope_ret ?_ | refine PW.scope_exit ?_)
    exact Fin.ret2 rfl [_] rfl rfl ⟨rfl, rfl⟩ (DiskAt.fold D wv _)

theorem Read_ok (p : Nat) (st : DS) (hok : st.Ok) (hw : st.wait.length ≤ 1000000) (at_ : Nat) (h : at_ < st.data.length) :
    FSpec Try.prog 20 [ptr p, .int .i64 at_] [DiskAt p st] (fun v As => ∃ b, v = .tuple #[.slice (some ⟨b, 0, none⟩) 64 64, .int .i64 0] ∧ As = [DiskAt p st, cb b 77 (bv (st.read at_))]) := by
  refine FSpec.intro Try.func20 rfl 44 Try.ntmps20 (Nat.le_of_ble_eq_true rfl) fun w0 F => ?_
  show CW _ _ _ _ _ _ (_ :: F)
  refine J.open_ (pk_head _ _) DiskAt.op ?_
  rintro _ ⟨D, wv, rfl⟩
  show CW _ _ _ _ _ _ (_ :: _ :: _ :: F)
  refine J.pick (A := slOwn _ _ wv _ _) (by repeat (first | exact pk_head _ _ | apply pk_tail)) ?_
  refine slOwn_val (pk_head _ _) fun a c hv => ?_
  subst hv
  have hd0 : (((st.data.map bv).flatten.drop (0 + (at_ : Int).toNat * 64)).take 64) = bv (st.cur at_ 0) := by
    rw [Nat.zero_add, Int.toNat_natCast, rows_get (st.data.map bv) at_ (by simpa using h) (by
      intro r hr
      obtain ⟨q, hq, rfl⟩ := List.mem_map.1 hr
      rw [length_bv]; exact hok.dlen q hq)]
    simp [DS.cur, List.getD_eq_getElem?_getD, h]
  have hcl := st.cur_len hok at_ h
  repeat (first | refine CW.seq ?_ | refine PW.then_ ?_ | refine PW.then_to rfl ?_ | refine CW.block ?_ | refine CW.skip ?_ | refine CW.ret ?_ | refine PW.then_ret ?_ | refine PW.block_ret ?_ | refine Cut.ret ?_ | refine Rnd.ret ?_ | refine PW.block_normal ?_ | refine CW.exit ?_ | refine PW.then_exit ?_ | refine PW.block_hit ?_ | refine PW.block_miss rfl ?_ | refine Cut.exit ?_ | refine Rnd.exit ?_ | refine CW.scope ?_ | refine CW.label ?_ | refine PW.scope_normal ?_ | refine PW.scope_ret ?_ | refine PW.scope_exit ?_)
  refine CW.region ?_
  refine L1 (ps_assign rfl).os ?_
  refine L1 (ps_assign rfl).os ?_
  refine LW.nil ?_
  repeat (first | refine CW.seq ?_ | refine PW.then_ ?_ | refine PW.then_to rfl ?_ | refine CW.block ?_ | refine CW.skip ?_ | refine CW.ret ?_ | refine PW.then_ret ?_ | refine PW.block_ret ?_ | refine Cut.ret ?_ | refine Rnd.ret ?_ | refine PW.block_normal ?_ | refine CW.exit ?_ | refine PW.then_exit ?_ | refine PW.block_hit ?_ | refine PW.block_miss rfl ?_ | refine Cut.exit ?_ | refine Rnd.exit ?_ | refine CW.scope ?_ | refine CW.label ?_ | refine PW.scope_normal ?_ | refine PW.scope_ret ?_ | refine PW.scope_exit ?_)
  refine CW.region ?_
  refine L1 (ps_move rfl).os ?_
  refine L1 (ps_f (ps_lss rfl rfl) (by omega)).os ?_
  refine L1 (ps_move rfl).os ?_
  refine LG1 ?_ (ps_move rfl).os ?_
  · exact rfl
  refine LG1 ?_ (ps_move rfl).os ?_
  · exact rfl
  refine LG1 ?_ (ps_nil rfl).os ?_
  · exact rfl
  refine LG1 ?_ (ps_fa T.fa76_0 (by decide) rfl).os ?_
  · exact rfl
  refine LG1 ?_ (os_load1 (by repeat (first | exact pk_head _ _ | apply pk_tail)) T.ag73 rfl (by rfl)) ?_
  · exact rfl
  refine LG1 ?_ (ps_len_sl T.un73 rfl).os ?_
  · exact rfl
  refine LG1 ?_ (ps_f (ps_geq rfl rfl) (by omega)).os ?_
  · exact rfl
  refine L1 (ps_pick_f rfl rfl).os ?_
  refine LW.nil ?_
  repeat (first | refine CW.seq ?_ | refine PW.then_ ?_ | refine PW.then_to rfl ?_ | refine CW.block ?_ | refine CW.skip ?_ | refine CW.ret ?_ | refine PW.then_ret ?_ | refine PW.block_ret ?_ | refine Cut.ret ?_ | refine Rnd.ret ?_ | refine PW.block_normal ?_ | refine CW.exit ?_ | refine PW.then_exit ?_ | refine PW.block_hit ?_ | refine PW.block_miss rfl ?_ | refine Cut.exit ?_ | refine Rnd.exit ?_ | refine CW.scope ?_ | refine CW.label ?_ | refine PW.scope_normal ?_ | refine PW.scope_ret ?_ | refine PW.scope_exit ?_)
  refine CW.cond_false rfl ?_
  repeat (first | refine CW.seq ?_ | refine PW.then_ ?_ | refine PW.then_to rfl ?_ | refine CW.block ?_ | refine CW.skip ?_ | refine CW.ret ?_ | refine PW.then_ret ?_ | refine PW.block_ret ?_ | refine Cut.ret ?_ | refine Rnd.ret ?_ | refine PW.block_normal ?_ | refine CW.exit ?_ | refine PW.then_exit ?_ | refine PW.block_hit ?_ | refine PW.block_miss rfl ?_ | refine Cut.exit ?_ | refine Rnd.exit ?_ | refine CW.scope ?_ | refine CW.label ?_ | refine PW.scope_normal ?_ | refine PW.scope_ret ?_ | refine PW.scope_exit ?_)
  refine CW.region ?_
  refine L1 (ps_move rfl).os ?_
  refine L1 (ps_nil rfl).os ?_
  refine L1 (ps_fa T.fa76_0 (by decide) rfl).os ?_
  refine L1 (os_load1 (by repeat (first | exact pk_head _ _ | apply pk_tail)) T.ag73 rfl (by rfl)) ?_
  refine L1 (ps_move rfl).os ?_
  refine L1 (ps_ia_slice T.un73 T.sz77 rfl rfl (by omega) (by omega)).os ?_
  refine L1 (os_loadN (by repeat (first | exact pk_head _ _ | apply pk_tail)) T.ag77 T.sz77 rfl hd0 (by rw [length_bv, hcl])) ?_
  refine LE (os_alloc T.ti77) ?_
  rintro _ _ ⟨b6, rfl, rfl⟩
  refine L1 (os_storeAll (vs := bv (st.cur at_ 0)) (by repeat (first | exact pk_head _ _ | apply pk_tail)) (by rw [length_bv, hcl]; exact T.sz77) rfl rfl (bv_one _) (by rw [length_bv, hcl]; rfl)) ?_
  refine LW.nil ?_
  repeat (first | refine CW.seq ?_ | refine PW.then_ ?_ | refine PW.then_to rfl ?_ | refine CW.block ?_ | refine CW.skip ?_ | refine CW.ret ?_ | refine PW.then_ret ?_ | refine PW.block_ret ?_ | refine Cut.ret ?_ | refine Rnd.ret ?_ | refine PW.block_normal ?_ | refine CW.exit ?_ | refine PW.then_exit ?_ | refine PW.block_hit ?_ | refine PW.block_miss rfl ?_ | refine Cut.exit ?_ | refine Rnd.exit ?_ | refine CW.scope ?_ | refine CW.label ?_ | refine PW.scope_normal ?_ | refine PW.scope_ret ?_ | refine PW.scope_exit ?_)
  refine CW.region ?_
  refine L1 (ps_move rfl).os ?_
  refine L1 (ps_nil rfl).os ?_
  refine L1 (ps_fa T.fa76_1 (by decide) rfl).os ?_
  refine L1 (os_load1 (by repeat (first | exact pk_head _ _ | apply pk_tail)) T.ag74 rfl (by rfl)) ?_
  refine L1 (ps_len_sl T.un74 rfl).os ?_
  refine L1 (ps_move rfl).os ?_
  refine LW.nil ?_
  repeat (first | refine CW.seq ?_ | refine PW.then_ ?_ | refine PW.then_to rfl ?_ | refine CW.block ?_ | refine CW.skip ?_ | refine CW.ret ?_ | refine PW.then_ret ?_ | refine PW.block_ret ?_ | refine Cut.ret ?_ | refine Rnd.ret ?_ | refine PW.block_normal ?_ | refine CW.exit ?_ | refine PW.then_exit ?_ | refine PW.block_hit ?_ | refine PW.block_miss rfl ?_ | refine Cut.exit ?_ | refine Rnd.exit ?_ | refine CW.scope ?_ | refine CW.label ?_ | refine PW.scope_normal ?_ | refine PW.scope_ret ?_ | refine PW.scope_exit ?_)
  refine CW.loopM (α := Nat) [8, 32, 33, 34, 35, 36, 37, 38, 39, 40, 41, 42] (fun k i => i ≤ st.wait.length ∧ k = st.wait.length - i) (fun i => [(32, .int .i64 i)])
    (fun i => cb p 76 (dcells st D (.slice a st.wait.length c)) :: cb D 77 (st.data.map bv).flatten :: slOwn 79 65 (.slice a st.wait.length c) st.wait.length (st.wait.map wcell).flatten :: cb b6 77 (bv (st.cur at_ i)) :: F)
    st.wait.length 0 ⟨by omega, rfl⟩ ⟨rfl, trivial⟩ (by repeat (first | exact Ent.refl _ | (apply Ent.cons; · repeat (first | exact pk_head _ _ | apply pk_tail)) | apply Ent.skip)) ?_
  rintro k i g ⟨hi, hk⟩
  repeat (first | refine CW.seq ?_ | refine PW.then_ ?_ | refine PW.then_to rfl ?_ | refine CW.block ?_ | refine CW.skip ?_ | refine CW.ret ?_ | refine PW.then_ret ?_ | refine PW.block_ret ?_ | refine Cut.ret ?_ | refine Rnd.ret ?_ | refine PW.block_normal ?_ | refine CW.exit ?_ | refine PW.then_exit ?_ | refine PW.block_hit ?_ | refine PW.block_miss rfl ?_ | refine Cut.exit ?_ | refine Rnd.exit ?_ | refine CW.scope ?_ | refine CW.label ?_ | refine PW.scope_normal ?_ | refine PW.scope_ret ?_ | refine PW.scope_exit ?_)
  by_cases hlt : i < st.wait.length
  · refine CW.region ?_
    refine L1 (ps_t (ps_lss rfl rfl) (by omega)).os ?_
    refine LW.nil ?_
    repeat (first | refine CW.seq ?_ | refine PW.then_ ?_ | refine PW.then_to rfl ?_ | refine CW.block ?_ | refine CW.skip ?_ | refine CW.ret ?_ | refine PW.then_ret ?_ | refine PW.block_ret ?_ | refine Cut.ret ?_ | refine Rnd.ret ?_ | refine PW.block_normal ?_ | refine CW.exit ?_ | refine PW.then_exit ?_ | refine PW.block_hit ?_ | refine PW.block_miss rfl ?_ | refine Cut.exit ?_ | refine Rnd.exit ?_ | refine CW.scope ?_ | refine CW.label ?_ | refine PW.scope_normal ?_ | refine PW.scope_ret ?_ | refine PW.scope_exit ?_)
    refine CW.cond_true rfl ?_
    repeat (first | refine CW.seq ?_ | refine PW.then_ ?_ | refine PW.then_to rfl ?_ | refine CW.block ?_ | refine CW.skip ?_ | refine CW.ret ?_ | refine PW.then_ret ?_ | refine PW.block_ret ?_ | refine Cut.ret ?_ | refine Rnd.ret ?_ | refine PW.block_normal ?_ | refine CW.exit ?_ | refine PW.then_exit ?_ | refine PW.block_hit ?_ | refine PW.block_miss rfl ?_ | refine Cut.exit ?_ | refine Rnd.exit ?_ | refine CW.scope ?_ | refine CW.label ?_ | refine PW.scope_normal ?_ | refine PW.scope_ret ?_ | refine PW.scope_exit ?_)
    refine slOwn_open (by repeat (first | exact pk_head _ _ | apply pk_tail)) (fun _ h0 _ => absurd hlt (by omega)) ?_
    rintro gg cap cur hv hmc hcm hcl2 htk hxl
    cases hv
    have hw0 := hok.wlen st.wait[i] (List.getElem_mem hlt)
    have hrow : ((cur.drop (0 + (i : Int).toNat * 65)).take 65) = wcell st.wait[i] := by
      rw [Nat.zero_add, Int.toNat_natCast, rows_get' htk i (by simpa using hlt) (by simp) (by
        intro r hr
        obtain ⟨q, hq, rfl⟩ := List.mem_map.1 hr
        exact len_wcell (hok.wlen q hq).1)]
      simp
    have hone : ∀ u ∈ wcell st.wait[i], u.oneCell' = true := cons_one rfl (bv_one _)
    have hl65 := len_wcell hw0.1
    refine CW.region ?_
    refine L1 (ps_ia_slice T.un74 T.sz79 rfl rfl (by omega) (by omega)).os ?_
    refine L1 (os_loadN (by repeat (first | exact pk_head _ _ | apply pk_tail)) T.ag79 T.sz79 rfl hrow hl65) ?_
    refine LE (os_alloc T.ti79) ?_
    rintro _ _ ⟨b8, rfl, rfl⟩
    refine L1 (os_storeAll (vs := wcell st.wait[i]) (by repeat (first | exact pk_head _ _ | apply pk_tail)) (by rw [hl65]; exact T.sz79) rfl rfl hone (by rw [hl65]; rfl)) ?_
    refine LW.nil ?_
    repeat (first | refine CW.seq ?_ | refine PW.then_ ?_ | refine PW.then_to rfl ?_ | refine CW.block ?_ | refine CW.skip ?_ | refine CW.ret ?_ | refine PW.then_ret ?_ | refine PW.block_ret ?_ | refine Cut.ret ?_ | refine Rnd.ret ?_ | refine PW.block_normal ?_ | refine CW.exit ?_ | refine PW.then_exit ?_ | refine PW.block_hit ?_ | refine PW.block_miss rfl ?_ | refine Cut.exit ?_ | refine Rnd.exit ?_ | refine CW.scope ?_ | refine CW.label ?_ | refine PW.scope_normal ?_ | refine PW.scope_ret ?_ | refine PW.scope_exit ?_)
    by_cases hat : ((st.wait[i]).1 : Int) = at_
    · refine CW.region ?_
      refine L1 (ps_fa T.fa79_0 (by decide) rfl).os ?_
      refine L1 (os_load1 (by repeat (first | exact pk_head _ _ | apply pk_tail)) T.ag3 rfl (by rfl)) ?_
      refine L1 (ps_move rfl).os ?_
      refine L1 (ps_t (ps_eql rfl rfl) (hat)).os ?_
      refine LW.nil ?_
      repeat (first | refine CW.seq ?_ | refine PW.then_ ?_ | refine PW.then_to rfl ?_ | refine CW.block ?_ | refine CW.skip ?_ | refine CW.ret ?_ | refine PW.then_ret ?_ | refine PW.block_ret ?_ | refine Cut.ret ?_ | refine Rnd.ret ?_ | refine PW.block_normal ?_ | refine CW.exit ?_ | refine PW.then_exit ?_ | refine PW.block_hit ?_ | refine PW.block_miss rfl ?_ | refine Cut.exit ?_ | refine Rnd.exit ?_ | refine CW.scope ?_ | refine CW.label ?_ | refine PW.scope_normal ?_ | refine PW.scope_ret ?_ | refine PW.scope_exit ?_)
      refine CW.cond_true rfl ?_
      refine CW.region ?_
      refine L1 (ps_fa T.fa79_1 (by decide) rfl).os ?_
      refine L1 (os_loadN (vs := bv (st.wait[i]).2) (by repeat (first | exact pk_head _ _ | apply pk_tail)) T.ag77 T.sz77 rfl (by rw [← hw0.1]; simp [wcell]; rw [← length_bv, List.take_length]) (by rw [length_bv, hw0.1])) ?_
      refine L1 (os_storeAll (vs := bv (st.wait[i]).2) (by repeat (first | exact pk_head _ _ | apply pk_tail)) (by rw [length_bv, hw0.1]; exact T.sz77) rfl rfl (bv_one _) (by rw [length_bv, length_bv, hcl, hw0.1])) ?_
      refine LW.nil ?_
      repeat (first | refine CW.seq ?_ | refine PW.then_ ?_ | refine PW.then_to rfl ?_ | refine CW.block ?_ | refine CW.skip ?_ | refine CW.ret ?_ | refine PW.then_ret ?_ | refine PW.block_ret ?_ | refine Cut.ret ?_ | refine Rnd.ret ?_ | refine PW.block_normal ?_ | refine CW.exit ?_ | refine PW.then_exit ?_ | refine PW.block_hit ?_ | refine PW.block_miss rfl ?_ | refine Cut.exit ?_ | refine Rnd.exit ?_ | refine CW.scope ?_ | refine CW.label ?_ | refine PW.scope_normal ?_ | refine PW.scope_ret ?_ | refine PW.scope_exit ?_)
      refine CW.region ?_
      refine L1 (ps_add_i64 rfl rfl (by omega) (by omega)).os ?_
      refine L1 (ps_move rfl).os ?_
      refine LW.nil ?_
      refine Meet.round (st.wait.length - (i + 1)) (i + 1) (by omega) ⟨hlt, rfl⟩ (by repeat (first | (with_reducible exact Ag.refl _ _) | (with_reducible assumption) | (with_reducible apply Ag.pu0) | ((with_reducible refine Ag.pu _ ?_ ?_); · exact rfl) | ((with_reducible refine Ag.mix ?_ ?_); · exact rfl) | ((with_reducible refine Ag.pus ?_ ?_); · exact rfl))) ⟨rfl, trivial⟩ ?_
      rw [st.cur_succ at_ i hlt, if_pos (by exact_mod_cast hat)]
      exact (Ent.perm (Bs := cb gg _ cur :: _) (by repeat (first | exact pk_head _ _ | apply pk_tail))).trans ((Ent.slMk hmc hcm hcl2 htk _).trans (by repeat (first | exact Ent.refl _ | (apply Ent.cons; · repeat (first | exact pk_head _ _ | apply pk_tail)) | apply Ent.skip)))
    · refine CW.region ?_
      refine L1 (ps_fa T.fa79_0 (by decide) rfl).os ?_
      refine L1 (os_load1 (by repeat (first | exact pk_head _ _ | apply pk_tail)) T.ag3 rfl (by rfl)) ?_
      refine L1 (ps_move rfl).os ?_
      refine L1 (ps_f (ps_eql rfl rfl) (hat)).os ?_
      refine LW.nil ?_
      repeat (first | refine CW.seq ?_ | refine PW.then_ ?_ | refine PW.then_to rfl ?_ | refine CW.block ?_ | refine CW.skip ?_ | refine CW.ret ?_ | refine PW.then_ret ?_ | refine PW.block_ret ?_ | refine Cut.ret ?_ | refine Rnd.ret ?_ | refine PW.block_normal ?_ | refine CW.exit ?_ | refine PW.then_exit ?_ | refine PW.block_hit ?_ | refine PW.block_miss rfl ?_ | refine Cut.exit ?_ | refine Rnd.exit ?_ | refine CW.scope ?_ | refine CW.label ?_ | refine PW.scope_normal ?_ | refine PW.scope_ret ?_ | refine PW.scope_exit ?_)
      refine CW.cond_false rfl ?_
      repeat (first | refine CW.seq ?_ | refine PW.then_ ?_ | refine PW.then_to rfl ?_ | refine CW.block ?_ | refine CW.skip ?_ | refine CW.ret ?_ | refine PW.then_ret ?_ | refine PW.block_ret ?_ | refine Cut.ret ?_ | refine Rnd.ret ?_ | refine PW.block_normal ?_ | refine CW.exit ?_ | refine PW.then_exit ?_ | refine PW.block_hit ?_ | refine PW.block_miss rfl ?_ | refine Cut.exit ?_ | refine Rnd.exit ?_ | refine CW.scope ?_ | refine CW.label ?_ | refine PW.scope_normal ?_ | refine PW.scope_ret ?_ | refine PW.scope_exit ?_)
      refine CW.region ?_
      refine L1 (ps_add_i64 rfl rfl (by omega) (by omega)).os ?_
      refine L1 (ps_move rfl).os ?_
      refine LW.nil ?_
      refine Meet.round (st.wait.length - (i + 1)) (i + 1) (by omega) ⟨hlt, rfl⟩ (by repeat (first | (with_reducible exact Ag.refl _ _) | (with_reducible assumption) | (with_reducible apply Ag.pu0) | ((with_reducible refine Ag.pu _ ?_ ?_); · exact rfl) | ((with_reducible refine Ag.mix ?_ ?_); · exact rfl) | ((with_reducible refine Ag.pus ?_ ?_); · exact rfl))) ⟨rfl, trivial⟩ ?_
      rw [st.cur_succ at_ i hlt, if_neg (by exact_mod_cast hat)]
      exact (Ent.perm (Bs := cb gg _ cur :: _) (by repeat (first | exact pk_head _ _ | apply pk_tail))).trans ((Ent.slMk hmc hcm hcl2 htk _).trans (by repeat (first | exact Ent.refl _ | (apply Ent.cons; · repeat (first | exact pk_head _ _ | apply pk_tail)) | apply Ent.skip)))
  · refine CW.region ?_
    refine L1 (ps_f (ps_lss rfl rfl) (by omega)).os ?_
    refine LW.nil ?_
    repeat (first | refine CW.seq ?_ | refine PW.then_ ?_ | refine PW.then_to rfl ?_ | refine CW.block ?_ | refine CW.skip ?_ | refine CW.ret ?_ | refine PW.then_ret ?_ | refine PW.block_ret ?_ | refine Cut.ret ?_ | refine Rnd.ret ?_ | refine PW.block_normal ?_ | refine CW.exit ?_ | refine PW.then_exit ?_ | refine PW.block_hit ?_ | refine PW.block_miss rfl ?_ | refine Cut.exit ?_ | refine Rnd.exit ?_ | refine CW.scope ?_ | refine CW.label ?_ | refine PW.scope_normal ?_ | refine PW.scope_ret ?_ | refine PW.scope_exit ?_)
    refine CW.cond_false rfl ?_
    repeat (first | refine CW.seq ?_ | refine PW.then_ ?_ | refine PW.then_to rfl ?_ | refine CW.block ?_ | refine CW.skip ?_ | refine CW.ret ?_ | refine PW.then_ret ?_ | refine PW.block_ret ?_ | refine Cut.ret ?_ | refine Rnd.ret ?_ | refine PW.block_normal ?_ | refine CW.exit ?_ | refine PW.then_exit ?_ | refine PW.block_hit ?_ | refine PW.block_miss rfl ?_ | refine Cut.exit ?_ | refine Rnd.exit ?_ | refine CW.scope ?_ | refine CW.label ?_ | refine PW.scope_normal ?_ | refine PW.scope_ret ?_ | refine PW.scope_exit ?_)
    refine CW.region ?_
    refine L1 (ps_as_all T.un77 T.sz5 rfl).os ?_
    refine L1 (ps_assign rfl).os ?_
    refine L1 (ps_assign rfl).os ?_
    refine LW.nil ?_
    repeat (first | refine CW.seq ?_ | refine PW.then_ ?_ | refine PW.then_to rfl ?_ | refine CW.block ?_ | refine CW.skip ?_ | refine CW.ret ?_ | refine PW.then_ret ?_ | refine PW.block_ret ?_ | refine Cut.ret ?_ | refine Rnd.ret ?_ | refine PW.block_normal ?_ | refine CW.exit ?_ | refine PW.then_exit ?_ | refine PW.block_hit ?_ | refine PW.block_miss rfl ?_ | refine Cut.exit ?_ | refine Rnd.exit ?_ | refine CW.scope ?_ | refine CW.label ?_ | refine PW.scope_normal ?_ | refine PW.scope_ret ?_ | refine PW.scope_exit ?_)
    have hi' : i = st.wait.length := by omega
    refine Fin.ret2 rfl [_, _] rfl rfl ⟨b6, rfl, rfl⟩ ?_
    have e : st.cur at_ i = st.read at_ := by unfold DS.cur DS.read; rw [hi', List.take_length]
    rw [e]
    exact DiskAt.fold D _ _
/-! ## Flush -/
theorem rows_spl {s : Nat} : ∀ (rows : List (List Value)) (i : Nat) (r : List Value) (h : i < rows.length), (∀ q ∈ rows, q.length = s) → r.length ≤ s →
    spl rows.flatten (i * s) r = (rows.set i (r ++ (rows[i]).drop r.length)).flatten
  | [], i, r, h, _, _ => by simp at h
  | q :: rows, 0, r, _, hl, hr => by
    have h1 : q.length = s := hl q (by simp)
    simp only [spl, Nat.zero_mul, List.take_zero, List.nil_append, Nat.zero_add, List.flatten_cons, List.set_cons_zero, List.getElem_cons_zero, List.append_assoc]
    rw [List.drop_append]
    congr 2
    rw [show r.length - q.length = 0 by omega]; rfl
  | q :: rows, i + 1, r, h, hl, hr => by
    have h1 : q.length = s := hl q (by simp)
    have ih := rows_spl rows i r (by simpa using h) (fun q hq => hl q (by simp [hq])) hr
    have e : (i + 1) * s = q.length + i * s := by rw [Nat.add_mul, h1]; omega
    simp only [List.set_cons_succ, List.flatten_cons, List.getElem_cons_succ]
    rw [← ih, e]
    simp only [spl, List.append_assoc]
    rw [List.take_append, List.take_of_length_le (by omega), Nat.add_sub_cancel_left, List.append_assoc]
    congr 2
    rw [show q.length + i * s + r.length = q.length + (i * s + r.length) by omega, List.drop_append, List.drop_eq_nil_of_le (by omega), List.nil_append, Nat.add_sub_cancel_left]
theorem len_rows {s : Nat} : ∀ (rows : List (List Value)), (∀ r ∈ rows, r.length = s) → rows.flatten.length = rows.length * s
  | [], _ => by simp
  | r :: rows, h => by
    rw [List.flatten_cons, List.length_append, len_rows rows (fun q hq => h q (by simp [hq])), h r (by simp), List.length_cons, Nat.add_mul]; omega
theorem bv_rows {s : Nat} {d : List (List UInt8)} (h : ∀ q ∈ d, q.length = s) : ∀ r ∈ d.map bv, r.length = s := fun r hr => by
  obtain ⟨q, hq, rfl⟩ := List.mem_map.1 hr
  rw [length_bv]; exact h q hq
def putW (d : List (List UInt8)) (w : Nat × List UInt8) : List (List UInt8) := d.set w.1 w.2
def DS.flush (st : DS) : DS := { st with data := st.wait.foldl putW st.data, wait := [] }
theorem putW_len (l : List (Nat × List UInt8)) (d : List (List UInt8)) : (l.foldl putW d).length = d.length := by
  induction l generalizing d with
  | nil => rfl
  | cons w l ih => rw [List.foldl_cons, ih]; simp [putW]
theorem putW_all (l : List (Nat × List UInt8)) (d : List (List UInt8)) (hl : ∀ w ∈ l, w.2.length = 64) (hd : ∀ q ∈ d, q.length = 64) : ∀ q ∈ l.foldl putW d, q.length = 64 := by
  induction l generalizing d with
  | nil => exact hd
  | cons w l ih =>
    rw [List.foldl_cons]
    refine ih _ (fun q hq => hl q (by simp [hq])) fun q hq => ?_
    rcases List.mem_or_eq_of_mem_set hq with h | h
    · exact hd q h
    · subst h; exact hl w (by simp)
theorem Flush_down (p : Nat) (st : DS) (hd : st.down = true) : FSpec Try.prog 23 [ptr p] [DiskAt p st] (fun v As => v = .int .i64 4 ∧ As = [DiskAt p st]) := by
  refine FSpec.intro Try.func23 rfl 29 Try.ntmps23 (Nat.le_of_ble_eq_true rfl) fun w0 F => ?_
  show CW _ _ _ _ _ _ (_ :: F)
  repeat (first | refine CW.seq ?_ | refine PW.then_ ?_ | refine PW.then_to rfl ?_ | refine CW.block ?_ | refine CW.skip ?_ | refine CW.ret ?_ | refine PW.then_ret ?_ | refine PW.block_ret ?_ | refine Cut.ret ?_ | refine Rnd.ret ?_ | refine PW.block_normal ?_ | refine CW.exit ?_ | refine PW.then_exit ?_ | refine PW.block_hit ?_ | refine PW.block_miss rfl ?_ | refine Cut.exit ?_ | refine Rnd.exit ?_ | refine CW.scope ?_ | refine CW.label ?_ | refine PW.scope_normal ?_ | refine PW.scope_ret ?_ | refine PW.scope_exit ?_)
  refine CW.region ?_
  refine L1 (ps_assign rfl).os ?_
  refine LW.nil ?_
  repeat (first | refine CW.seq ?_ | refine PW.then_ ?_ | refine PW.then_to rfl ?_ | refine CW.block ?_ | refine CW.skip ?_ | refine CW.ret ?_ | refine PW.then_ret ?_ | refine PW.block_ret ?_ | refine Cut.ret ?_ | refine Rnd.ret ?_ | refine PW.block_normal ?_ | refine CW.exit ?_ | refine PW.then_exit ?_ | refine PW.block_hit ?_ | refine PW.block_miss rfl ?_ | refine Cut.exit ?_ | refine Rnd.exit ?_ | refine CW.scope ?_ | refine CW.label ?_ | refine PW.scope_normal ?_ | refine PW.scope_ret ?_ | refine PW.scope_exit ?_)
  refine CW.region ?_
  refine L1 (ps_move rfl).os ?_
  refine LE (os_call (Down_spec p st) Try.func26 (by decide +kernel) rfl rfl (List.Perm.refl _)) ?_
  rintro _ _ ⟨_, ⟨rfl, rfl⟩, rfl⟩
  refine LW.nil ?_
  repeat (first | refine CW.seq ?_ | refine PW.then_ ?_ | refine PW.then_to rfl ?_ | refine CW.block ?_ | refine CW.skip ?_ | refine CW.ret ?_ | refine PW.then_ret ?_ | refine PW.block_ret ?_ | refine Cut.ret ?_ | refine Rnd.ret ?_ | refine PW.block_normal ?_ | refine CW.exit ?_ | refine PW.then_exit ?_ | refine PW.block_hit ?_ | refine PW.block_miss rfl ?_ | refine Cut.exit ?_ | refine Rnd.exit ?_ | refine CW.scope ?_ | refine CW.label ?_ | refine PW.scope_normal ?_ | refine PW.scope_ret ?_ | refine PW.scope_exit ?_)
  refine CW.cond_true (by rw [← hd]; rfl) ?_
  repeat (first | refine CW.seq ?_ | refine PW.then_ ?_ | refine PW.then_to rfl ?_ | refine CW.block ?_ | refine CW.skip ?_ | refine CW.ret ?_ | refine PW.then_ret ?_ | refine PW.block_ret ?_ | refine Cut.ret ?_ | refine Rnd.ret ?_ | refine PW.block_normal ?_ | refine CW.exit ?_ | refine PW.then_exit ?_ | refine PW.block_hit ?_ | refine PW.block_miss rfl ?_ | refine Cut.exit ?_ | refine Rnd.exit ?_ | refine CW.scope ?_ | refine CW.label ?_ | refine PW.scope_normal ?_ | refine PW.scope_ret ?_ | refine PW.scope_exit ?_)
  refine CW.region ?_
  refine L1 (ps_assign rfl).os ?_
  refine LW.nil ?_
  repeat (first | refine CW.seq ?_ | refine PW.then_ ?_ | refine PW.then_to rfl ?_ | refine CW.block ?_ | refine CW.skip ?_ | refine CW.ret ?_ | refine PW.then_ret ?_ | refine PW.block_ret ?_ | refine Cut.ret ?_ | refine Rnd.ret ?_ | refine PW.block_normal ?_ | refine CW.exit ?_ | refine PW.then_exit ?_ | refine PW.block_hit ?_ | refine PW.block_miss rfl ?_ | refine Cut.exit ?_ | refine Rnd.exit ?_ | refine CW.scope ?_ | refine CW.label ?_ | refine PW.scope_normal ?_ | refine PW.scope_ret ?_ | refine PW.scope_exit ?_)
  exact Fin.ret1 (v := .int .i64 4) rfl [_] rfl ⟨rfl, rfl⟩ (Ent.refl _)
theorem Flush_ok (p : Nat) (st : DS) (hok : st.Ok) (hw : st.wait.length ≤ 1000000) (hd : st.down = false) : FSpec Try.prog 23 [ptr p] [DiskAt p st] (fun v As => v = .int .i64 0 ∧ As = [DiskAt p st.flush]) := by
  refine FSpec.intro Try.func23 rfl 29 Try.ntmps23 (Nat.le_of_ble_eq_true rfl) fun w0 F => ?_
  show CW _ _ _ _ _ _ (_ :: F)
  repeat (first | refine CW.seq ?_ | refine PW.then_ ?_ | refine PW.then_to rfl ?_ | refine CW.block ?_ | refine CW.skip ?_ | refine CW.ret ?_ | refine PW.then_ret ?_ | refine PW.block_ret ?_ | refine Cut.ret ?_ | refine Rnd.ret ?_ | refine PW.block_normal ?_ | refine CW.exit ?_ | refine PW.then_exit ?_ | refine PW.block_hit ?_ | refine PW.block_miss rfl ?_ | refine Cut.exit ?_ | refine Rnd.exit ?_ | refine CW.scope ?_ | refine CW.label ?_ | refine PW.scope_normal ?_ | refine PW.scope_ret ?_ | refine PW.scope_exit ?_)
  refine CW.region ?_
  refine L1 (ps_assign rfl).os ?_
  refine LW.nil ?_
  repeat (first | refine CW.seq ?_ | refine PW.then_ ?_ | refine PW.then_to rfl ?_ | refine CW.block ?_ | refine CW.skip ?_ | refine CW.ret ?_ | refine PW.then_ret ?_ | refine PW.block_ret ?_ | refine Cut.ret ?_ | refine Rnd.ret ?_ | refine PW.block_normal ?_ | refine CW.exit ?_ | refine PW.then_exit ?_ | refine PW.block_hit ?_ | refine PW.block_miss rfl ?_ | refine Cut.exit ?_ | refine Rnd.exit ?_ | refine CW.scope ?_ | refine CW.label ?_ | refine PW.scope_normal ?_ | refine PW.scope_ret ?_ | refine PW.scope_exit ?_)
  refine CW.region ?_
  refine L1 (ps_move rfl).os ?_
  refine LE (os_call (Down_spec p st) Try.func26 (by decide +kernel) rfl rfl (List.Perm.refl _)) ?_
  rintro _ _ ⟨_, ⟨rfl, rfl⟩, rfl⟩
  refine LW.nil ?_
  repeat (first | refine CW.seq ?_ | refine PW.then_ ?_ | refine PW.then_to rfl ?_ | refine CW.block ?_ | refine CW.skip ?_ | refine CW.ret ?_ | refine PW.then_ret ?_ | refine PW.block_ret ?_ | refine Cut.ret ?_ | refine Rnd.ret ?_ | refine PW.block_normal ?_ | refine CW.exit ?_ | refine PW.then_exit ?_ | refine PW.block_hit ?_ | refine PW.block_miss rfl ?_ | refine Cut.exit ?_ | refine Rnd.exit ?_ | refine CW.scope ?_ | refine CW.label ?_ | refine PW.scope_normal ?_ | refine PW.scope_ret ?_ | refine PW.scope_exit ?_)
  refine CW.cond_false (by rw [← hd]; rfl) ?_
  repeat (first | refine CW.seq ?_ | refine PW.then_ ?_ | refine PW.then_to rfl ?_ | refine CW.block ?_ | refine CW.skip ?_ | refine CW.ret ?_ | refine PW.then_ret ?_ | refine PW.block_ret ?_ | refine Cut.ret ?_ | refine Rnd.ret ?_ | refine PW.block_normal ?_ | refine CW.exit ?_ | refine PW.then_exit ?_ | refine PW.block_hit ?_ | refine PW.block_miss rfl ?_ | refine Cut.exit ?_ | refine Rnd.exit ?_ | refine CW.scope ?_ | refine CW.label ?_ | refine PW.scope_normal ?_ | refine PW.scope_ret ?_ | refine PW.scope_exit ?_)
  refine J.open_ (pk_head _ _) DiskAt.op ?_
  rintro _ ⟨D, wv, rfl⟩
  show CW _ _ _ _ _ _ (_ :: _ :: _ :: F)
  refine J.pick (A := slOwn _ _ wv _ _) (by repeat (first | exact pk_head _ _ | apply pk_tail)) ?_
  refine slOwn_val (pk_head _ _) fun a c hv => ?_
  subst hv
  refine CW.region ?_
  refine L1 (ps_move rfl).os ?_
  refine L1 (ps_nil rfl).os ?_
  refine L1 (ps_fa T.fa76_1 (by decide) rfl).os ?_
  refine L1 (os_load1 (by repeat (first | exact pk_head _ _ | apply pk_tail)) T.ag74 rfl (by rfl)) ?_
  refine L1 (ps_len_sl T.un74 rfl).os ?_
  refine L1 (ps_move rfl).os ?_
  refine LW.nil ?_
  repeat (first | refine CW.seq ?_ | refine PW.then_ ?_ | refine PW.then_to rfl ?_ | refine CW.block ?_ | refine CW.skip ?_ | refine CW.ret ?_ | refine PW.then_ret ?_ | refine PW.block_ret ?_ | refine Cut.ret ?_ | refine Rnd.ret ?_ | refine PW.block_normal ?_ | refine CW.exit ?_ | refine PW.then_exit ?_ | refine PW.block_hit ?_ | refine PW.block_miss rfl ?_ | refine Cut.exit ?_ | refine Rnd.exit ?_ | refine CW.scope ?_ | refine CW.label ?_ | refine PW.scope_normal ?_ | refine PW.scope_ret ?_ | refine PW.scope_exit ?_)
  refine CW.loopM (α := Nat) [4, 12, 13, 14, 15, 16, 17, 18, 19, 20, 21, 22, 23, 24, 25] (fun k i => i ≤ st.wait.length ∧ k = st.wait.length - i) (fun i => [(12, .int .i64 i)])
    (fun i => cb p 76 (dcells st D (.slice a st.wait.length c)) :: cb D 77 (((st.wait.take i).foldl putW st.data).map bv).flatten :: slOwn 79 65 (.slice a st.wait.length c) st.wait.length (st.wait.map wcell).flatten :: F)
    st.wait.length 0 ⟨by omega, rfl⟩ ⟨rfl, trivial⟩ (by repeat (first | exact Ent.refl _ | (apply Ent.cons; · repeat (first | exact pk_head _ _ | apply pk_tail)) | apply Ent.skip)) ?_
  rintro k i g ⟨hi, hk⟩
  repeat (first | refine CW.seq ?_ | refine PW.then_ ?_ | refine PW.then_to rfl ?_ | refine CW.block ?_ | refine CW.skip ?_ | refine CW.ret ?_ | refine PW.then_ret ?_ | refine PW.block_ret ?_ | refine Cut.ret ?_ | refine Rnd.ret ?_ | refine PW.block_normal ?_ | refine CW.exit ?_ | refine PW.then_exit ?_ | refine PW.block_hit ?_ | refine PW.block_miss rfl ?_ | refine Cut.exit ?_ | refine Rnd.exit ?_ | refine CW.scope ?_ | refine CW.label ?_ | refine PW.scope_normal ?_ | refine PW.scope_ret ?_ | refine PW.scope_exit ?_)
  by_cases hlt : i < st.wait.length
  · refine CW.region ?_
    refine L1 (ps_t (ps_lss rfl rfl) (by omega)).os ?_
    refine LW.nil ?_
    refine PW.then_ (CW.seq ?_)
    refine CW.cond_true rfl ?_
    refine CW.skip (PW.then_ ?_)
    refine CW.cutM (α := Unit) [4, 14, 15, 16, 17, 18, 19, 20, 21, 22, 23, 24] (fun _ => True) (fun _ => [])
      (fun _ => cb p 76 (dcells st D (.slice a st.wait.length c)) :: cb D 77 (((st.wait.take (i + 1)).foldl putW st.data).map bv).flatten :: slOwn 79 65 (.slice a st.wait.length c) st.wait.length (st.wait.map wcell).flatten :: F) ?_ ?_
    · repeat (first | refine CW.seq ?_ | refine PW.then_ ?_ | refine PW.then_to rfl ?_ | refine CW.block ?_ | refine CW.skip ?_ | refine CW.ret ?_ | refine PW.then_ret ?_ | refine PW.block_ret ?_ | refine Cut.ret ?_ | refine Rnd.ret ?_ | refine PW.block_normal ?_ | refine CW.exit ?_ | refine PW.then_exit ?_ | refine PW.block_hit ?_ | refine PW.block_miss rfl ?_ | refine Cut.exit ?_ | refine Rnd.exit ?_ | refine CW.scope ?_ | refine CW.label ?_ | refine PW.scope_normal ?_ | refine PW.scope_ret ?_ | refine PW.scope_exit ?_)
      refine slOwn_open (by repeat (first | exact pk_head _ _ | apply pk_tail)) (fun _ h0 _ => absurd hlt (by omega)) ?_
      rintro gg cap cur hv hmc hcm hcl2 htk hxl
      cases hv
      have hw0 := hok.wlen st.wait[i] (List.getElem_mem hlt)
      have hrow : ((cur.drop (0 + (i : Int).toNat * 65)).take 65) = wcell st.wait[i] := by
        rw [Nat.zero_add, Int.toNat_natCast, rows_get' htk i (by simpa using hlt) (by simp) (by
          intro r hr
          obtain ⟨q, hq, rfl⟩ := List.mem_map.1 hr
          exact len_wcell (hok.wlen q hq).1)]
        simp
      have hone : ∀ u ∈ wcell st.wait[i], u.oneCell' = true := cons_one rfl (bv_one _)
      have hl65 := len_wcell hw0.1
      have hdl := putW_len (st.wait.take i) st.data
      have hda := putW_all (st.wait.take i) st.data (fun w hw => (hok.wlen w (List.mem_of_mem_take hw)).1) hok.dlen
      have hflat : ((((st.wait.take i).foldl putW st.data).map bv).flatten).length = st.data.length * 64 := by
        rw [len_rows (s := 64) _ (bv_rows hda)]; simp [hdl]
      have hset : spl (((st.wait.take i).foldl putW st.data).map bv).flatten (0 + ((st.wait[i]).1 : Int).toNat * 64) (bv (st.wait[i]).2) = (((st.wait.take (i + 1)).foldl putW st.data).map bv).flatten := by
        rw [Nat.zero_add, Int.toNat_natCast, rows_spl _ _ _ (by simp [hdl]; exact hw0.2) (bv_rows hda) (by simp [hw0.1]), List.take_succ_eq_append_getElem hlt, List.foldl_append]
        simp only [List.foldl_cons, List.foldl_nil, putW]
        rw [List.map_set]
        congr 2
        rw [List.drop_eq_nil_of_le (by simp [hw0.1, hda _ (List.getElem_mem _)]), List.append_nil]
      refine CW.region ?_
      refine L1 (ps_ia_slice T.un74 T.sz79 rfl rfl (by omega) (by omega)).os ?_
      refine L1 (os_loadN (by repeat (first | exact pk_head _ _ | apply pk_tail)) T.ag79 T.sz79 rfl hrow hl65) ?_
      refine LE (os_alloc T.ti79) ?_
      rintro _ _ ⟨b4, rfl, rfl⟩
      refine L1 (os_storeAll (vs := wcell st.wait[i]) (by repeat (first | exact pk_head _ _ | apply pk_tail)) (by rw [hl65]; exact T.sz79) rfl rfl hone (by rw [hl65]; rfl)) ?_
      refine LW.nil ?_
      refine PW.then_ ?_
      refine CW.draw T.mixed ?_
      refine A_take (i := 0) (some 16) rfl rfl (by kernel_rfl) (by kernel_rfl) (by kernel_rfl) rfl (ps_move rfl) ?_
      refine A_take (i := 1) (some 17) rfl rfl (by kernel_rfl) (by kernel_rfl) (by kernel_rfl) rfl (ps_nil rfl) ?_
      refine A_take (i := 2) (some 18) rfl rfl (by kernel_rfl) (by kernel_rfl) (by kernel_rfl) rfl (ps_fa T.fa76_0 (by decide) rfl) ?_
      refine A_take (i := 4) (some 20) rfl rfl (by kernel_rfl) (by kernel_rfl) (by kernel_rfl) rfl (ps_fa T.fa79_0 (by decide) rfl) ?_
      refine A_take (i := 6) (some 22) rfl rfl (by kernel_rfl) (by kernel_rfl) (by kernel_rfl) rfl (ps_fa T.fa79_1 (by decide) rfl) ?_
      refine A_branch (rs := [3, 5, 7]) (by kernel_rfl) (by simp) ?_
      refine AR.cons1 (i := 3) (some 19) rfl rfl rfl (os_load1 (by repeat (first | exact pk_head _ _ | apply pk_tail)) T.ag73 rfl (by rfl)) ?_ ?_
      · skip
        refine A_branch (rs := [5, 7]) (by kernel_rfl) (by simp) ?_
        refine AR.cons1 (i := 5) (some 21) rfl rfl rfl (os_load1 (by repeat (first | exact pk_head _ _ | apply pk_tail)) T.ag3 rfl (by rfl)) ?_ ?_
        · skip
          refine A_branch (rs := [7]) (by kernel_rfl) (by simp) ?_
          refine AR.cons1 (i := 7) (some 23) rfl rfl rfl (os_loadN (vs := bv (st.wait[i]).2) (by repeat (first | exact pk_head _ _ | apply pk_tail)) T.ag77 T.sz77 rfl (by rw [← hw0.1]; simp [wcell]; rw [← length_bv, List.take_length]) (by rw [length_bv, hw0.1])) ?_ ?_
          · skip
            refine A_take (i := 8) (some 24) rfl rfl (by kernel_rfl) (by kernel_rfl) (by kernel_rfl) rfl (ps_ia_slice T.un73 T.sz77 rfl rfl (by omega) (by omega)) ?_
            refine A_branch (rs := [9]) (by kernel_rfl) (by simp) ?_
            refine AR.cons1 (i := 9) none rfl rfl rfl (os_storeN (vs := bv (st.wait[i]).2) (by repeat (first | exact pk_head _ _ | apply pk_tail)) (by rw [length_bv, hw0.1]; exact T.sz77) rfl rfl (bv_one _) (by rw [length_bv, hw0.1, hflat]; simp; omega)) ?_ ?_
            · skip
              refine A_done (by kernel_rfl) ?_
              rw [hset]
              refine PW.block_normal (Meet.cut () trivial (by repeat (first | (with_reducible exact Ag.refl _ _) | (with_reducible assumption) | (with_reducible apply Ag.pu0) | ((with_reducible refine Ag.pu _ ?_ ?_); · exact rfl) | ((with_reducible refine Ag.mix ?_ ?_); · exact rfl) | ((with_reducible refine Ag.pus ?_ ?_); · exact rfl))) trivial ?_)
              exact (Ent.perm (Bs := cb gg _ cur :: _) (by repeat (first | exact pk_head _ _ | apply pk_tail))).trans ((Ent.slMk hmc hcm hcl2 htk _).trans (by repeat (first | exact Ent.refl _ | (apply Ent.cons; · repeat (first | exact pk_head _ _ | apply pk_tail)) | apply Ent.skip)))
            exact AR.nil
          exact AR.nil
        refine AR.cons1 (i := 7) (some 23) rfl rfl rfl (os_loadN (vs := bv (st.wait[i]).2) (by repeat (first | exact pk_head _ _ | apply pk_tail)) T.ag77 T.sz77 rfl (by rw [← hw0.1]; simp [wcell]; rw [← length_bv, List.take_length]) (by rw [length_bv, hw0.1])) ?_ ?_
        · skip
          refine A_branch (rs := [5]) (by kernel_rfl) (by simp) ?_
          refine AR.cons1 (i := 5) (some 21) rfl rfl rfl (os_load1 (by repeat (first | exact pk_head _ _ | apply pk_tail)) T.ag3 rfl (by rfl)) ?_ ?_
          · skip
            refine A_take (i := 8) (some 24) rfl rfl (by kernel_rfl) (by kernel_rfl) (by kernel_rfl) rfl (ps_ia_slice T.un73 T.sz77 rfl rfl (by omega) (by omega)) ?_
            refine A_branch (rs := [9]) (by kernel_rfl) (by simp) ?_
            refine AR.cons1 (i := 9) none rfl rfl rfl (os_storeN (vs := bv (st.wait[i]).2) (by repeat (first | exact pk_head _ _ | apply pk_tail)) (by rw [length_bv, hw0.1]; exact T.sz77) rfl rfl (bv_one _) (by rw [length_bv, hw0.1, hflat]; simp; omega)) ?_ ?_
            · skip
              refine A_done (by kernel_rfl) ?_
              rw [hset]
              refine PW.block_normal (Meet.cut () trivial (by repeat (first | (with_reducible exact Ag.refl _ _) | (with_reducible assumption) | (with_reducible apply Ag.pu0) | ((with_reducible refine Ag.pu _ ?_ ?_); · exact rfl) | ((with_reducible refine Ag.mix ?_ ?_); · exact rfl) | ((with_reducible refine Ag.pus ?_ ?_); · exact rfl))) trivial ?_)
              exact (Ent.perm (Bs := cb gg _ cur :: _) (by repeat (first | exact pk_head _ _ | apply pk_tail))).trans ((Ent.slMk hmc hcm hcl2 htk _).trans (by repeat (first | exact Ent.refl _ | (apply Ent.cons; · repeat (first | exact pk_head _ _ | apply pk_tail)) | apply Ent.skip)))
            exact AR.nil
          exact AR.nil
        exact AR.nil
      refine AR.cons1 (i := 5) (some 21) rfl rfl rfl (os_load1 (by repeat (first | exact pk_head _ _ | apply pk_tail)) T.ag3 rfl (by rfl)) ?_ ?_
      · skip
        refine A_branch (rs := [3, 7]) (by kernel_rfl) (by simp) ?_
        refine AR.cons1 (i := 3) (some 19) rfl rfl rfl (os_load1 (by repeat (first | exact pk_head _ _ | apply pk_tail)) T.ag73 rfl (by rfl)) ?_ ?_
        · skip
          refine A_branch (rs := [7]) (by kernel_rfl) (by simp) ?_
          refine AR.cons1 (i := 7) (some 23) rfl rfl rfl (os_loadN (vs := bv (st.wait[i]).2) (by repeat (first | exact pk_head _ _ | apply pk_tail)) T.ag77 T.sz77 rfl (by rw [← hw0.1]; simp [wcell]; rw [← length_bv, List.take_length]) (by rw [length_bv, hw0.1])) ?_ ?_
          · skip
            refine A_take (i := 8) (some 24) rfl rfl (by kernel_rfl) (by kernel_rfl) (by kernel_rfl) rfl (ps_ia_slice T.un73 T.sz77 rfl rfl (by omega) (by omega)) ?_
            refine A_branch (rs := [9]) (by kernel_rfl) (by simp) ?_
            refine AR.cons1 (i := 9) none rfl rfl rfl (os_storeN (vs := bv (st.wait[i]).2) (by repeat (first | exact pk_head _ _ | apply pk_tail)) (by rw [length_bv, hw0.1]; exact T.sz77) rfl rfl (bv_one _) (by rw [length_bv, hw0.1, hflat]; simp; omega)) ?_ ?_
            · skip
              refine A_done (by kernel_rfl) ?_
              rw [hset]
              refine PW.block_normal (Meet.cut () trivial (by repeat (first | (with_reducible exact Ag.refl _ _) | (with_reducible assumption) | (with_reducible apply Ag.pu0) | ((with_reducible refine Ag.pu _ ?_ ?_); · exact rfl) | ((with_reducible refine Ag.mix ?_ ?_); · exact rfl) | ((with_reducible refine Ag.pus ?_ ?_); · exact rfl))) trivial ?_)
              exact (Ent.perm (Bs := cb gg _ cur :: _) (by repeat (first | exact pk_head _ _ | apply pk_tail))).trans ((Ent.slMk hmc hcm hcl2 htk _).trans (by repeat (first | exact Ent.refl _ | (apply Ent.cons; · repeat (first | exact pk_head _ _ | apply pk_tail)) | apply Ent.skip)))
            exact AR.nil
          exact AR.nil
        refine AR.cons1 (i := 7) (some 23) rfl rfl rfl (os_loadN (vs := bv (st.wait[i]).2) (by repeat (first | exact pk_head _ _ | apply pk_tail)) T.ag77 T.sz77 rfl (by rw [← hw0.1]; simp [wcell]; rw [← length_bv, List.take_length]) (by rw [length_bv, hw0.1])) ?_ ?_
        · skip
          refine A_branch (rs := [3]) (by kernel_rfl) (by simp) ?_
          refine AR.cons1 (i := 3) (some 19) rfl rfl rfl (os_load1 (by repeat (first | exact pk_head _ _ | apply pk_tail)) T.ag73 rfl (by rfl)) ?_ ?_
          · skip
            refine A_take (i := 8) (some 24) rfl rfl (by kernel_rfl) (by kernel_rfl) (by kernel_rfl) rfl (ps_ia_slice T.un73 T.sz77 rfl rfl (by omega) (by omega)) ?_
            refine A_branch (rs := [9]) (by kernel_rfl) (by simp) ?_
            refine AR.cons1 (i := 9) none rfl rfl rfl (os_storeN (vs := bv (st.wait[i]).2) (by repeat (first | exact pk_head _ _ | apply pk_tail)) (by rw [length_bv, hw0.1]; exact T.sz77) rfl rfl (bv_one _) (by rw [length_bv, hw0.1, hflat]; simp; omega)) ?_ ?_
            · skip
              refine A_done (by kernel_rfl) ?_
              rw [hset]
              refine PW.block_normal (Meet.cut () trivial (by repeat (first | (with_reducible exact Ag.refl _ _) | (with_reducible assumption) | (with_reducible apply Ag.pu0) | ((with_reducible refine Ag.pu _ ?_ ?_); · exact rfl) | ((with_reducible refine Ag.mix ?_ ?_); · exact rfl) | ((with_reducible refine Ag.pus ?_ ?_); · exact rfl))) trivial ?_)
              exact (Ent.perm (Bs := cb gg _ cur :: _) (by repeat (first | exact pk_head _ _ | apply pk_tail))).trans ((Ent.slMk hmc hcm hcl2 htk _).trans (by repeat (first | exact Ent.refl _ | (apply Ent.cons; · repeat (first | exact pk_head _ _ | apply pk_tail)) | apply Ent.skip)))
            exact AR.nil
          exact AR.nil
        exact AR.nil
      refine AR.cons1 (i := 7) (some 23) rfl rfl rfl (os_loadN (vs := bv (st.wait[i]).2) (by repeat (first | exact pk_head _ _ | apply pk_tail)) T.ag77 T.sz77 rfl (by rw [← hw0.1]; simp [wcell]; rw [← length_bv, List.take_length]) (by rw [length_bv, hw0.1])) ?_ ?_
      · skip
        refine A_branch (rs := [3, 5]) (by kernel_rfl) (by simp) ?_
        refine AR.cons1 (i := 3) (some 19) rfl rfl rfl (os_load1 (by repeat (first | exact pk_head _ _ | apply pk_tail)) T.ag73 rfl (by rfl)) ?_ ?_
        · skip
          refine A_branch (rs := [5]) (by kernel_rfl) (by simp) ?_
          refine AR.cons1 (i := 5) (some 21) rfl rfl rfl (os_load1 (by repeat (first | exact pk_head _ _ | apply pk_tail)) T.ag3 rfl (by rfl)) ?_ ?_
          · skip
            refine A_take (i := 8) (some 24) rfl rfl (by kernel_rfl) (by kernel_rfl) (by kernel_rfl) rfl (ps_ia_slice T.un73 T.sz77 rfl rfl (by omega) (by omega)) ?_
            refine A_branch (rs := [9]) (by kernel_rfl) (by simp) ?_
            refine AR.cons1 (i := 9) none rfl rfl rfl (os_storeN (vs := bv (st.wait[i]).2) (by repeat (first | exact pk_head _ _ | apply pk_tail)) (by rw [length_bv, hw0.1]; exact T.sz77) rfl rfl (bv_one _) (by rw [length_bv, hw0.1, hflat]; simp; omega)) ?_ ?_
            · skip
              refine A_done (by kernel_rfl) ?_
              rw [hset]
              refine PW.block_normal (Meet.cut () trivial (by repeat (first | (with_reducible exact Ag.refl _ _) | (with_reducible assumption) | (with_reducible apply Ag.pu0) | ((with_reducible refine Ag.pu _ ?_ ?_); · exact rfl) | ((with_reducible refine Ag.mix ?_ ?_); · exact rfl) | ((with_reducible refine Ag.pus ?_ ?_); · exact rfl))) trivial ?_)
              exact (Ent.perm (Bs := cb gg _ cur :: _) (by repeat (first | exact pk_head _ _ | apply pk_tail))).trans ((Ent.slMk hmc hcm hcl2 htk _).trans (by repeat (first | exact Ent.refl _ | (apply Ent.cons; · repeat (first | exact pk_head _ _ | apply pk_tail)) | apply Ent.skip)))
            exact AR.nil
          exact AR.nil
        refine AR.cons1 (i := 5) (some 21) rfl rfl rfl (os_load1 (by repeat (first | exact pk_head _ _ | apply pk_tail)) T.ag3 rfl (by rfl)) ?_ ?_
        · skip
          refine A_branch (rs := [3]) (by kernel_rfl) (by simp) ?_
          refine AR.cons1 (i := 3) (some 19) rfl rfl rfl (os_load1 (by repeat (first | exact pk_head _ _ | apply pk_tail)) T.ag73 rfl (by rfl)) ?_ ?_
          · skip
            refine A_take (i := 8) (some 24) rfl rfl (by kernel_rfl) (by kernel_rfl) (by kernel_rfl) rfl (ps_ia_slice T.un73 T.sz77 rfl rfl (by omega) (by omega)) ?_
            refine A_branch (rs := [9]) (by kernel_rfl) (by simp) ?_
            refine AR.cons1 (i := 9) none rfl rfl rfl (os_storeN (vs := bv (st.wait[i]).2) (by repeat (first | exact pk_head _ _ | apply pk_tail)) (by rw [length_bv, hw0.1]; exact T.sz77) rfl rfl (bv_one _) (by rw [length_bv, hw0.1, hflat]; simp; omega)) ?_ ?_
            · skip
              refine A_done (by kernel_rfl) ?_
              rw [hset]
              refine PW.block_normal (Meet.cut () trivial (by repeat (first | (with_reducible exact Ag.refl _ _) | (with_reducible assumption) | (with_reducible apply Ag.pu0) | ((with_reducible refine Ag.pu _ ?_ ?_); · exact rfl) | ((with_reducible refine Ag.mix ?_ ?_); · exact rfl) | ((with_reducible refine Ag.pus ?_ ?_); · exact rfl))) trivial ?_)
              exact (Ent.perm (Bs := cb gg _ cur :: _) (by repeat (first | exact pk_head _ _ | apply pk_tail))).trans ((Ent.slMk hmc hcm hcl2 htk _).trans (by repeat (first | exact Ent.refl _ | (apply Ent.cons; · repeat (first | exact pk_head _ _ | apply pk_tail)) | apply Ent.skip)))
            exact AR.nil
          exact AR.nil
        exact AR.nil
      exact AR.nil
    intro _ g' _
    refine CW.region ?_
    refine L1 (ps_add_i64 rfl rfl (by omega) (by omega)).os ?_
    refine L1 (ps_move rfl).os ?_
    refine LW.nil ?_
    exact Meet.round (st.wait.length - (i + 1)) (i + 1) (by omega) ⟨hlt, rfl⟩ (by repeat (first | (with_reducible exact Ag.refl _ _) | (with_reducible assumption) | (with_reducible apply Ag.pu0) | ((with_reducible refine Ag.pu _ ?_ ?_); · exact rfl) | ((with_reducible refine Ag.mix ?_ ?_); · exact rfl) | ((with_reducible refine Ag.pus ?_ ?_); · exact rfl))) ⟨rfl, trivial⟩ (by repeat (first | exact Ent.refl _ | (apply Ent.cons; · repeat (first | exact pk_head _ _ | apply pk_tail)) | apply Ent.skip))
  · refine CW.region ?_
    refine L1 (ps_f (ps_lss rfl rfl) (by omega)).os ?_
    refine LW.nil ?_
    repeat (first | refine CW.seq ?_ | refine PW.then_ ?_ | refine PW.then_to rfl ?_ | refine CW.block ?_ | refine CW.skip ?_ | refine CW.ret ?_ | refine PW.then_ret ?_ | refine PW.block_ret ?_ | refine Cut.ret ?_ | refine Rnd.ret ?_ | refine PW.block_normal ?_ | refine CW.exit ?_ | refine PW.then_exit ?_ | refine PW.block_hit ?_ | refine PW.block_miss rfl ?_ | refine Cut.exit ?_ | refine Rnd.exit ?_ | refine CW.scope ?_ | refine CW.label ?_ | refine PW.scope_normal ?_ | refine PW.scope_ret ?_ | refine PW.scope_exit ?_)
    refine CW.cond_false rfl ?_
    repeat (first | refine CW.seq ?_ | refine PW.then_ ?_ | refine PW.then_to rfl ?_ | refine CW.block ?_ | refine CW.skip ?_ | refine CW.ret ?_ | refine PW.then_ret ?_ | refine PW.block_ret ?_ | refine Cut.ret ?_ | refine Rnd.ret ?_ | refine PW.block_normal ?_ | refine CW.exit ?_ | refine PW.then_exit ?_ | refine PW.block_hit ?_ | refine PW.block_miss rfl ?_ | refine Cut.exit ?_ | refine Rnd.exit ?_ | refine CW.scope ?_ | refine CW.label ?_ | refine PW.scope_normal ?_ | refine PW.scope_ret ?_ | refine PW.scope_exit ?_)
    refine CW.region ?_
    refine L1 (ps_move rfl).os ?_
    refine L1 (ps_nil rfl).os ?_
    refine L1 (ps_fa T.fa76_1 (by decide) rfl).os ?_
    refine L1 (os_store1 (by repeat (first | exact pk_head _ _ | apply pk_tail)) T.sz74 rfl rfl (by rfl) (Nat.le_of_ble_eq_true rfl)) ?_
    refine LW.nil ?_
    repeat (first | refine CW.seq ?_ | refine PW.then_ ?_ | refine PW.then_to rfl ?_ | refine CW.block ?_ | refine CW.skip ?_ | refine CW.ret ?_ | refine PW.then_ret ?_ | refine PW.block_ret ?_ | refine Cut.ret ?_ | refine Rnd.ret ?_ | refine PW.block_normal ?_ | refine CW.exit ?_ | refine PW.then_exit ?_ | refine PW.block_hit ?_ | refine PW.block_miss rfl ?_ | refine Cut.exit ?_ | refine Rnd.exit ?_ | refine CW.scope ?_ | refine CW.label ?_ | refine PW.scope_normal ?_ | refine PW.scope_ret ?_ | refine PW.scope_exit ?_)
    refine CW.region ?_
    refine L1 (ps_assign rfl).os ?_
    refine LW.nil ?_
    repeat (first | refine CW.seq ?_ | refine PW.then_ ?_ | refine PW.then_to rfl ?_ | refine CW.block ?_ | refine CW.skip ?_ | refine CW.ret ?_ | refine PW.then_ret ?_ | refine PW.block_ret ?_ | refine Cut.ret ?_ | refine Rnd.ret ?_ | refine PW.block_normal ?_ | refine CW.exit ?_ | refine PW.then_exit ?_ | refine PW.block_hit ?_ | refine PW.block_miss rfl ?_ | refine Cut.exit ?_ | refine Rnd.exit ?_ | refine CW.scope ?_ | refine CW.label ?_ | refine PW.scope_normal ?_ | refine PW.scope_ret ?_ | refine PW.scope_exit ?_)
    have hi' : i = st.wait.length := by omega
    refine Fin.ret1 (v := .int .i64 0) rfl [_] rfl ⟨rfl, rfl⟩ ?_
    rw [hi', List.take_length]
    have hdl := putW_len st.wait st.data
    refine Ent.trans ?_ (DiskAt.fold (st := st.flush) D (.slice none 0 0) _)
    have e : dcells st.flush D (.slice none 0 0) = [.slice (some ⟨D, 0, none⟩) st.data.length st.data.length, .slice none 0 0, .bool st.armed, .int .i64 st.left, .int .i64 st.count] := by
      simp [dcells, DS.flush, hdl]
    rw [e]
    refine Ent.trans (Bs := cb p 76 _ :: cb D 77 _ :: F) (by repeat (first | exact Ent.refl _ | (apply Ent.cons; · repeat (first | exact pk_head _ _ | apply pk_tail)) | apply Ent.skip)) ?_
    exact Ent.cons (pk_head _ _) (Ent.cons (pk_head _ _) (Ent.slNil _ _ _))
/-! ## Crash -/
def clampN (c : Int) : Nat := (min (max c 0) 64).toNat
/-- How far a write goes of which a crash takes notice. -/
def cutLen (torn cut : Int) (i : Nat) : Nat := if (i : Int) = torn then clampN cut else 64
theorem cutLen_le (torn cut : Int) (i : Nat) : cutLen torn cut i ≤ 64 := by
  unfold cutLen clampN; split <;> omega
def crash1 (mask : Nat) (torn cut : Int) (d : List (List UInt8)) (x : (Nat × List UInt8) × Nat) : List (List UInt8) :=
  if mask / 2 ^ (x.2 % 64) % 2 = 0 then d else d.set x.1.1 (x.1.2.take (cutLen torn cut x.2) ++ (d.getD x.1.1 []).drop (cutLen torn cut x.2))
def crashTo (mask : Nat) (torn cut : Int) (l : List (Nat × List UInt8)) (d : List (List UInt8)) : List (List UInt8) := l.zipIdx.foldl (crash1 mask torn cut) d
def DS.crash (st : DS) (mask : Nat) (torn cut : Int) : DS := { st with data := crashTo mask torn cut st.wait st.data, wait := [], armed := false }
theorem crash1_ok {mask : Nat} {torn cut : Int} {d : List (List UInt8)} {x : (Nat × List UInt8) × Nat} (hd : ∀ q ∈ d, q.length = 64) (hx : x.1.2.length = 64) (hlt : x.1.1 < d.length) :
    (crash1 mask torn cut d x).length = d.length ∧ ∀ q ∈ crash1 mask torn cut d x, q.length = 64 := by
  unfold crash1
  split
  · exact ⟨rfl, hd⟩
  · refine ⟨by simp, fun q hq => ?_⟩
    rcases List.mem_or_eq_of_mem_set hq with h | h
    · exact hd q h
    · have h1 := cutLen_le torn cut x.2
      have h2 : (d.getD x.1.1 []).length = 64 := by
        rw [List.getD_eq_getElem?_getD, List.getElem?_eq_getElem hlt]; exact hd _ (List.getElem_mem hlt)
      rw [h, List.length_append, List.length_take, List.length_drop, hx, h2]; omega
theorem crashFold_ok {mask : Nat} {torn cut : Int} : ∀ (l : List ((Nat × List UInt8) × Nat)) (d : List (List UInt8)), (∀ x ∈ l, x.1.2.length = 64 ∧ x.1.1 < d.length) → (∀ q ∈ d, q.length = 64) →
    (l.foldl (crash1 mask torn cut) d).length = d.length ∧ ∀ q ∈ l.foldl (crash1 mask torn cut) d, q.length = 64
  | [], d, _, hd => ⟨rfl, hd⟩
  | x :: l, d, hl, hd => by
    have h0 := hl x (by simp)
    have h1 := crash1_ok (mask := mask) (torn := torn) (cut := cut) hd h0.1 h0.2
    have h2 := crashFold_ok (mask := mask) (torn := torn) (cut := cut) l (crash1 mask torn cut d x) (fun y hy => by rw [h1.1]; exact hl y (by simp [hy])) h1.2
    rw [List.foldl_cons]
    exact ⟨h2.1.trans h1.1, h2.2⟩
theorem crashTo_ok {mask : Nat} {torn cut : Int} {l : List (Nat × List UInt8)} {d : List (List UInt8)} (hl : ∀ w ∈ l, w.2.length = 64 ∧ w.1 < d.length) (hd : ∀ q ∈ d, q.length = 64) :
    (crashTo mask torn cut l d).length = d.length ∧ ∀ q ∈ crashTo mask torn cut l d, q.length = 64 :=
  crashFold_ok _ _ (fun x hx => hl x.1 (List.fst_mem_of_mem_zipIdx hx)) hd
theorem crashTo_succ {mask : Nat} {torn cut : Int} {l : List (Nat × List UInt8)} {d : List (List UInt8)} {i : Nat} (h : i < l.length) : crashTo mask torn cut (l.take (i + 1)) d = crash1 mask torn cut (crashTo mask torn cut (l.take i) d) (l[i], i) := by
  unfold crashTo
  rw [List.take_succ_eq_append_getElem h, List.zipIdx_append, List.foldl_append]
  simp [Nat.min_eq_left (Nat.le_of_lt h)]

theorem shr_bit (mask i : Nat) : (((mask : Int).fdiv (2 ^ (min ((i % 64 : Nat) : Int).toNat 64))) % ((2 ^ 1 : Nat) : Int)) = ((mask / 2 ^ (i % 64) % 2 : Nat) : Int) := by
  have h1 : min ((i % 64 : Nat) : Int).toNat 64 = i % 64 := by omega
  rw [h1]
  have h2 : ((mask : Int).fdiv (2 ^ (i % 64))) = ((mask / 2 ^ (i % 64) : Nat) : Int) := by
    rw [Int.fdiv_eq_ediv_of_nonneg _ (by exact_mod_cast Nat.zero_le _)]
    push_cast
    rfl
  rw [h2]
  push_cast
  rfl

theorem Crash_spec (p : Nat) (st : DS) (hok : st.Ok) (hw : st.wait.length ≤ 1000000) (mask : Nat) (hm : mask < 18446744073709551616) (torn cut : Int) :
    FSpec Try.prog 19 [ptr p, .int .u64 mask, .int .i64 torn, .int .i64 cut] [DiskAt p st] (fun v As => v = .tuple #[] ∧ As = [DiskAt p (st.crash mask torn cut)]) := by
  refine FSpec.intro Try.func19 rfl 53 Try.ntmps19 (Nat.le_of_ble_eq_true rfl) fun w0 F => ?_
  show CW _ _ _ _ _ _ (_ :: F)
  refine J.open_ (pk_head _ _) DiskAt.op ?_
  rintro _ ⟨D, wv, rfl⟩
  show CW _ _ _ _ _ _ (_ :: _ :: _ :: F)
  refine J.pick (A := slOwn _ _ wv _ _) (by repeat (first | exact pk_head _ _ | apply pk_tail)) ?_
  refine slOwn_val (pk_head _ _) fun a c hv => ?_
  subst hv
  repeat (first | refine CW.seq ?_ | refine PW.then_ ?_ | refine PW.then_to rfl ?_ | refine CW.block ?_ | refine CW.skip ?_ | refine CW.ret ?_ | refine PW.then_ret ?_ | refine PW.block_ret ?_ | refine Cut.ret ?_ | refine Rnd.ret ?_ | refine PW.block_normal ?_ | refine CW.exit ?_ | refine PW.then_exit ?_ | refine PW.block_hit ?_ | refine PW.block_miss rfl ?_ | refine Cut.exit ?_ | refine Rnd.exit ?_ | refine CW.scope ?_ | refine CW.label ?_ | refine PW.scope_normal ?_ | refine PW.scope_ret ?_ | refine PW.scope_exit ?_)
  refine CW.region ?_
  refine L1 (ps_move rfl).os ?_
  refine L1 (ps_nil rfl).os ?_
  refine L1 (ps_fa T.fa76_1 (by decide) rfl).os ?_
  refine L1 (os_load1 (by repeat (first | exact pk_head _ _ | apply pk_tail)) T.ag74 rfl (by rfl)) ?_
  refine L1 (ps_len_sl T.un74 rfl).os ?_
  refine L1 (ps_move rfl).os ?_
  refine LW.nil ?_
  repeat (first | refine CW.seq ?_ | refine PW.then_ ?_ | refine PW.then_to rfl ?_ | refine CW.block ?_ | refine CW.skip ?_ | refine CW.ret ?_ | refine PW.then_ret ?_ | refine PW.block_ret ?_ | refine Cut.ret ?_ | refine Rnd.ret ?_ | refine PW.block_normal ?_ | refine CW.exit ?_ | refine PW.then_exit ?_ | refine PW.block_hit ?_ | refine PW.block_miss rfl ?_ | refine Cut.exit ?_ | refine Rnd.exit ?_ | refine CW.scope ?_ | refine CW.label ?_ | refine PW.scope_normal ?_ | refine PW.scope_ret ?_ | refine PW.scope_exit ?_)
  refine CW.loopM (α := Nat) [8, 9, 10, 16, 17, 18, 19, 20, 21, 22, 23, 24, 25, 26, 27, 28, 29, 30, 31, 32, 33, 34, 35, 36, 37, 38, 39, 40, 41, 42, 43, 44, 45, 46] (fun k i => i ≤ st.wait.length ∧ k = st.wait.length - i) (fun i => [(16, .int .i64 i)])
    (fun i => cb p 76 (dcells st D (.slice a st.wait.length c)) :: cb D 77 ((crashTo mask torn cut (st.wait.take i) st.data).map bv).flatten :: slOwn 79 65 (.slice a st.wait.length c) st.wait.length (st.wait.map wcell).flatten :: F)
    st.wait.length 0 ⟨by omega, rfl⟩ ⟨rfl, trivial⟩ (by repeat (first | exact Ent.refl _ | (apply Ent.cons; · repeat (first | exact pk_head _ _ | apply pk_tail)) | apply Ent.skip)) ?_
  rintro k i g ⟨hi, hk⟩
  repeat (first | refine CW.seq ?_ | refine PW.then_ ?_ | refine PW.then_to rfl ?_ | refine CW.block ?_ | refine CW.skip ?_ | refine CW.ret ?_ | refine PW.then_ret ?_ | refine PW.block_ret ?_ | refine Cut.ret ?_ | refine Rnd.ret ?_ | refine PW.block_normal ?_ | refine CW.exit ?_ | refine PW.then_exit ?_ | refine PW.block_hit ?_ | refine PW.block_miss rfl ?_ | refine Cut.exit ?_ | refine Rnd.exit ?_ | refine CW.scope ?_ | refine CW.label ?_ | refine PW.scope_normal ?_ | refine PW.scope_ret ?_ | refine PW.scope_exit ?_)
  by_cases hlt : i < st.wait.length
  · refine CW.region ?_
    refine L1 (ps_t (ps_lss rfl rfl) (by omega)).os ?_
    refine LW.nil ?_
    refine PW.then_ (CW.seq ?_)
    refine CW.cond_true rfl ?_
    refine CW.skip (PW.then_ ?_)
    refine CW.cutM (α := Unit) [8, 9, 10, 18, 19, 20, 21, 22, 23, 24, 25, 26, 27, 28, 29, 30, 31, 32, 33, 34, 35, 36, 37, 38, 39, 40, 41, 42, 43, 44, 45] (fun _ => True) (fun _ => [])
      (fun _ => cb p 76 (dcells st D (.slice a st.wait.length c)) :: cb D 77 ((crashTo mask torn cut (st.wait.take (i + 1)) st.data).map bv).flatten :: slOwn 79 65 (.slice a st.wait.length c) st.wait.length (st.wait.map wcell).flatten :: F) ?_ ?_
    · repeat (first | refine CW.seq ?_ | refine PW.then_ ?_ | refine PW.then_to rfl ?_ | refine CW.block ?_ | refine CW.skip ?_ | refine CW.ret ?_ | refine PW.then_ret ?_ | refine PW.block_ret ?_ | refine Cut.ret ?_ | refine Rnd.ret ?_ | refine PW.block_normal ?_ | refine CW.exit ?_ | refine PW.then_exit ?_ | refine PW.block_hit ?_ | refine PW.block_miss rfl ?_ | refine Cut.exit ?_ | refine Rnd.exit ?_ | refine CW.scope ?_ | refine CW.label ?_ | refine PW.scope_normal ?_ | refine PW.scope_ret ?_ | refine PW.scope_exit ?_)
      refine slOwn_open (by repeat (first | exact pk_head _ _ | apply pk_tail)) (fun _ h0 _ => absurd hlt (by omega)) ?_
      rintro gg cap cur hv hmc hcm hcl2 htk hxl
      cases hv
      have hw0 := hok.wlen st.wait[i] (List.getElem_mem hlt)
      have hrow : ((cur.drop (0 + (i : Int).toNat * 65)).take 65) = wcell st.wait[i] := by
        rw [Nat.zero_add, Int.toNat_natCast, rows_get' htk i (by simpa using hlt) (by simp) (by
          intro r hr
          obtain ⟨q, hq, rfl⟩ := List.mem_map.1 hr
          exact len_wcell (hok.wlen q hq).1)]
        simp
      have hone : ∀ u ∈ wcell st.wait[i], u.oneCell' = true := cons_one rfl (bv_one _)
      have hl65 := len_wcell hw0.1
      have hcr := crashTo_ok (mask := mask) (torn := torn) (cut := cut) (l := st.wait.take i) (d := st.data) (fun w hw => hok.wlen w (List.mem_of_mem_take hw)) hok.dlen
      rw [crashTo_succ hlt]
      generalize crashTo mask torn cut (st.wait.take i) st.data = dat at hcr
      have hflat : ((dat.map bv).flatten).length = st.data.length * 64 := by
        rw [len_rows (s := 64) _ (bv_rows hcr.2)]; simp [hcr.1]
      refine CW.region ?_
      refine L1 (ps_move rfl).os ?_
      refine L1 (ps_ia_slice T.un74 T.sz79 rfl rfl (by omega) (by omega)).os ?_
      refine L1 (os_loadN (by repeat (first | exact pk_head _ _ | apply pk_tail)) T.ag79 T.sz79 rfl hrow hl65) ?_
      refine LE (os_alloc T.ti79) ?_
      rintro _ _ ⟨b9, rfl, rfl⟩
      refine L1 (ps_assign rfl).os ?_
      refine L1 (os_storeAll (vs := wcell st.wait[i]) (by repeat (first | exact pk_head _ _ | apply pk_tail)) (by rw [hl65]; exact T.sz79) rfl rfl hone (by rw [hl65]; rfl)) ?_
      refine LW.nil ?_
      repeat (first | refine CW.seq ?_ | refine PW.then_ ?_ | refine PW.then_to rfl ?_ | refine CW.block ?_ | refine CW.skip ?_ | refine CW.ret ?_ | refine PW.then_ret ?_ | refine PW.block_ret ?_ | refine Cut.ret ?_ | refine Rnd.ret ?_ | refine PW.block_normal ?_ | refine CW.exit ?_ | refine PW.then_exit ?_ | refine PW.block_hit ?_ | refine PW.block_miss rfl ?_ | refine Cut.exit ?_ | refine Rnd.exit ?_ | refine CW.scope ?_ | refine CW.label ?_ | refine PW.scope_normal ?_ | refine PW.scope_ret ?_ | refine PW.scope_exit ?_)
      by_cases hbit : mask / 2 ^ (i % 64) % 2 = 0
      · refine CW.region ?_
        refine L1 (ps_move rfl).os ?_
        refine L1 (ps_move rfl).os ?_
        refine L1 (ps_to (u := .int .i64 ((i % 64 : Nat) : Int)) (by congr 1) (ps_mask_i64 (m := 6) rfl rfl rfl (by decide))).os ?_
        refine L1 (ps_shr rfl rfl (by omega)).os ?_
        refine L1 (ps_to (u := .int .u64 ((mask / 2 ^ (i % 64) % 2 : Nat) : Int)) (congrArg (Value.int .u64) (shr_bit mask i)) (ps_mask_u64 (m := 1) rfl rfl rfl (by decide))).os ?_
        refine L1 (ps_t (ps_eql rfl rfl) (by exact_mod_cast hbit)).os ?_
        refine LW.nil ?_
        repeat (first | refine CW.seq ?_ | refine PW.then_ ?_ | refine PW.then_to rfl ?_ | refine CW.block ?_ | refine CW.skip ?_ | refine CW.ret ?_ | refine PW.then_ret ?_ | refine PW.block_ret ?_ | refine Cut.ret ?_ | refine Rnd.ret ?_ | refine PW.block_normal ?_ | refine CW.exit ?_ | refine PW.then_exit ?_ | refine PW.block_hit ?_ | refine PW.block_miss rfl ?_ | refine Cut.exit ?_ | refine Rnd.exit ?_ | refine CW.scope ?_ | refine CW.label ?_ | refine PW.scope_normal ?_ | refine PW.scope_ret ?_ | refine PW.scope_exit ?_)
        refine CW.cond_true rfl ?_
        repeat (first | refine CW.seq ?_ | refine PW.then_ ?_ | refine PW.then_to rfl ?_ | refine CW.block ?_ | refine CW.skip ?_ | refine CW.ret ?_ | refine PW.then_ret ?_ | refine PW.block_ret ?_ | refine Cut.ret ?_ | refine Rnd.ret ?_ | refine PW.block_normal ?_ | refine CW.exit ?_ | refine PW.then_exit ?_ | refine PW.block_hit ?_ | refine PW.block_miss rfl ?_ | refine Cut.exit ?_ | refine Rnd.exit ?_ | refine CW.scope ?_ | refine CW.label ?_ | refine PW.scope_normal ?_ | refine PW.scope_ret ?_ | refine PW.scope_exit ?_)
        refine Meet.cut () trivial (by repeat (first | (with_reducible exact Ag.refl _ _) | (with_reducible assumption) | (with_reducible apply Ag.pu0) | ((with_reducible refine Ag.pu _ ?_ ?_); · exact rfl) | ((with_reducible refine Ag.mix ?_ ?_); · exact rfl) | ((with_reducible refine Ag.pus ?_ ?_); · exact rfl))) trivial ?_
        rw [show crash1 mask torn cut dat (st.wait[i], i) = dat by unfold crash1; rw [if_pos hbit]]
        exact (Ent.perm (Bs := cb gg _ cur :: _) (by repeat (first | exact pk_head _ _ | apply pk_tail))).trans ((Ent.slMk hmc hcm hcl2 htk _).trans (by repeat (first | exact Ent.refl _ | (apply Ent.cons; · repeat (first | exact pk_head _ _ | apply pk_tail)) | apply Ent.skip)))
      · refine CW.region ?_
        refine L1 (ps_move rfl).os ?_
        refine L1 (ps_move rfl).os ?_
        refine L1 (ps_to (u := .int .i64 ((i % 64 : Nat) : Int)) (by congr 1) (ps_mask_i64 (m := 6) rfl rfl rfl (by decide))).os ?_
        refine L1 (ps_shr rfl rfl (by omega)).os ?_
        refine L1 (ps_to (u := .int .u64 ((mask / 2 ^ (i % 64) % 2 : Nat) : Int)) (congrArg (Value.int .u64) (shr_bit mask i)) (ps_mask_u64 (m := 1) rfl rfl rfl (by decide))).os ?_
        refine L1 (ps_f (ps_eql rfl rfl) (by exact_mod_cast hbit)).os ?_
        refine LW.nil ?_
        repeat (first | refine CW.seq ?_ | refine PW.then_ ?_ | refine PW.then_to rfl ?_ | refine CW.block ?_ | refine CW.skip ?_ | refine CW.ret ?_ | refine PW.then_ret ?_ | refine PW.block_ret ?_ | refine Cut.ret ?_ | refine Rnd.ret ?_ | refine PW.block_normal ?_ | refine CW.exit ?_ | refine PW.then_exit ?_ | refine PW.block_hit ?_ | refine PW.block_miss rfl ?_ | refine Cut.exit ?_ | refine Rnd.exit ?_ | refine CW.scope ?_ | refine CW.label ?_ | refine PW.scope_normal ?_ | refine PW.scope_ret ?_ | refine PW.scope_exit ?_)
        refine CW.cond_false rfl ?_
        repeat (first | refine CW.seq ?_ | refine PW.then_ ?_ | refine PW.then_to rfl ?_ | refine CW.block ?_ | refine CW.skip ?_ | refine CW.ret ?_ | refine PW.then_ret ?_ | refine PW.block_ret ?_ | refine Cut.ret ?_ | refine Rnd.ret ?_ | refine PW.block_normal ?_ | refine CW.exit ?_ | refine PW.then_exit ?_ | refine PW.block_hit ?_ | refine PW.block_miss rfl ?_ | refine Cut.exit ?_ | refine Rnd.exit ?_ | refine CW.scope ?_ | refine CW.label ?_ | refine PW.scope_normal ?_ | refine PW.scope_ret ?_ | refine PW.scope_exit ?_)
        refine CW.region ?_
        refine L1 (ps_assign rfl).os ?_
        refine LW.nil ?_
        refine PW.then_ ?_
        refine CW.cutM (α := Unit) [10, 27, 28, 29, 30, 31, 32] (fun _ => True) (fun _ => [(10, .int .i64 (cutLen torn cut i))])
          (fun _ => cb b9 79 (wcell st.wait[i]) :: cb gg 79 cur :: cb p 76 (dcells st D (.slice (some ⟨gg, 0, none⟩) st.wait.length c)) :: cb D 77 (dat.map bv).flatten :: F) ?_ ?_
        · repeat (first | refine CW.seq ?_ | refine PW.then_ ?_ | refine PW.then_to rfl ?_ | refine CW.block ?_ | refine CW.skip ?_ | refine CW.ret ?_ | refine PW.then_ret ?_ | refine PW.block_ret ?_ | refine Cut.ret ?_ | refine Rnd.ret ?_ | refine PW.block_normal ?_ | refine CW.exit ?_ | refine PW.then_exit ?_ | refine PW.block_hit ?_ | refine PW.block_miss rfl ?_ | refine Cut.exit ?_ | refine Rnd.exit ?_ | refine CW.scope ?_ | refine CW.label ?_ | refine PW.scope_normal ?_ | refine PW.scope_ret ?_ | refine PW.scope_exit ?_)
          by_cases htn : (i : Int) = torn
          · refine CW.region ?_
            refine L1 (ps_move rfl).os ?_
            refine L1 (ps_move rfl).os ?_
            refine L1 (ps_t (ps_eql rfl rfl) (htn)).os ?_
            refine LW.nil ?_
            repeat (first | refine CW.seq ?_ | refine PW.then_ ?_ | refine PW.then_to rfl ?_ | refine CW.block ?_ | refine CW.skip ?_ | refine CW.ret ?_ | refine PW.then_ret ?_ | refine PW.block_ret ?_ | refine Cut.ret ?_ | refine Rnd.ret ?_ | refine PW.block_normal ?_ | refine CW.exit ?_ | refine PW.then_exit ?_ | refine PW.block_hit ?_ | refine PW.block_miss rfl ?_ | refine Cut.exit ?_ | refine Rnd.exit ?_ | refine CW.scope ?_ | refine CW.label ?_ | refine PW.scope_normal ?_ | refine PW.scope_ret ?_ | refine PW.scope_exit ?_)
            refine CW.cond_true rfl ?_
            refine CW.region ?_
            refine L1 (ps_move rfl).os ?_
            refine L1 (ps_max rfl rfl).os ?_
            refine L1 (ps_min rfl rfl).os ?_
            refine L1 (ps_assign rfl).os ?_
            refine LW.nil ?_
            exact Meet.cut () trivial (by repeat (first | (with_reducible exact Ag.refl _ _) | (with_reducible assumption) | (with_reducible apply Ag.pu0) | ((with_reducible refine Ag.pu _ ?_ ?_); · exact rfl) | ((with_reducible refine Ag.mix ?_ ?_); · exact rfl) | ((with_reducible refine Ag.pus ?_ ?_); · exact rfl))) ⟨by simp only [cutLen, htn, if_true, clampN]; show Value.int .i64 _ = _; congr 1; omega, trivial⟩ (by repeat (first | exact Ent.refl _ | (apply Ent.cons; · repeat (first | exact pk_head _ _ | apply pk_tail)) | apply Ent.skip))
          · refine CW.region ?_
            refine L1 (ps_move rfl).os ?_
            refine L1 (ps_move rfl).os ?_
            refine L1 (ps_f (ps_eql rfl rfl) (htn)).os ?_
            refine LW.nil ?_
            repeat (first | refine CW.seq ?_ | refine PW.then_ ?_ | refine PW.then_to rfl ?_ | refine CW.block ?_ | refine CW.skip ?_ | refine CW.ret ?_ | refine PW.then_ret ?_ | refine PW.block_ret ?_ | refine Cut.ret ?_ | refine Rnd.ret ?_ | refine PW.block_normal ?_ | refine CW.exit ?_ | refine PW.then_exit ?_ | refine PW.block_hit ?_ | refine PW.block_miss rfl ?_ | refine Cut.exit ?_ | refine Rnd.exit ?_ | refine CW.scope ?_ | refine CW.label ?_ | refine PW.scope_normal ?_ | refine PW.scope_ret ?_ | refine PW.scope_exit ?_)
            refine CW.cond_false rfl ?_
            repeat (first | refine CW.seq ?_ | refine PW.then_ ?_ | refine PW.then_to rfl ?_ | refine CW.block ?_ | refine CW.skip ?_ | refine CW.ret ?_ | refine PW.then_ret ?_ | refine PW.block_ret ?_ | refine Cut.ret ?_ | refine Rnd.ret ?_ | refine PW.block_normal ?_ | refine CW.exit ?_ | refine PW.then_exit ?_ | refine PW.block_hit ?_ | refine PW.block_miss rfl ?_ | refine Cut.exit ?_ | refine Rnd.exit ?_ | refine CW.scope ?_ | refine CW.label ?_ | refine PW.scope_normal ?_ | refine PW.scope_ret ?_ | refine PW.scope_exit ?_)
            exact Meet.cut () trivial (by repeat (first | (with_reducible exact Ag.refl _ _) | (with_reducible assumption) | (with_reducible apply Ag.pu0) | ((with_reducible refine Ag.pu _ ?_ ?_); · exact rfl) | ((with_reducible refine Ag.mix ?_ ?_); · exact rfl) | ((with_reducible refine Ag.pus ?_ ?_); · exact rfl))) ⟨by simp only [cutLen, htn, if_false]; rfl, trivial⟩ (by repeat (first | exact Ent.refl _ | (apply Ent.cons; · repeat (first | exact pk_head _ _ | apply pk_tail)) | apply Ent.skip))
        intro _ g' _
        have hcle := cutLen_le torn cut i
        have hdg : dat.getD (st.wait[i]).1 [] = dat[(st.wait[i]).1]'(by rw [hcr.1]; exact hw0.2) := by
          rw [List.getD_eq_getElem?_getD, List.getElem?_eq_getElem (by rw [hcr.1]; exact hw0.2)]; rfl
        have hset : spl (dat.map bv).flatten (0 + ((st.wait[i]).1 : Int).toNat * 64) (bv ((st.wait[i]).2.take (cutLen torn cut i))) = ((crash1 mask torn cut dat (st.wait[i], i)).map bv).flatten := by
          rw [Nat.zero_add, Int.toNat_natCast, rows_spl _ _ _ (by simp [hcr.1]; exact hw0.2) (bv_rows hcr.2) (by simp [hw0.1]; omega)]
          unfold crash1
          rw [if_neg hbit, List.map_set, hdg]
          congr 2
          rw [bv_append, bv_drop]
          simp [hw0.1, Nat.min_eq_left hcle]
        refine CW.draw T.mixed ?_
        refine A_take (i := 0) (some 33) rfl rfl (by kernel_rfl) (by kernel_rfl) (by kernel_rfl) rfl (ps_move rfl) ?_
        refine A_take (i := 1) (some 34) rfl rfl (by kernel_rfl) (by kernel_rfl) (by kernel_rfl) rfl (ps_nil rfl) ?_
        refine A_take (i := 2) (some 35) rfl rfl (by kernel_rfl) (by kernel_rfl) (by kernel_rfl) rfl (ps_fa T.fa76_0 (by decide) rfl) ?_
        refine A_take (i := 4) (some 37) rfl rfl (by kernel_rfl) (by kernel_rfl) (by kernel_rfl) rfl (ps_fa T.fa79_0 (by decide) rfl) ?_
        refine A_take (i := 7) (some 40) rfl rfl (by kernel_rfl) (by kernel_rfl) (by kernel_rfl) rfl (ps_move rfl) ?_
        refine A_take (i := 9) (some 42) rfl rfl (by kernel_rfl) (by kernel_rfl) (by kernel_rfl) rfl (ps_fa T.fa79_1 (by decide) rfl) ?_
        refine A_take (i := 10) (some 43) rfl rfl (by kernel_rfl) (by kernel_rfl) (by kernel_rfl) rfl (ps_move rfl) ?_
        refine A_take (i := 11) (some 44) rfl rfl (by kernel_rfl) (by kernel_rfl) (by kernel_rfl) rfl (ps_as_h T.un77 T.sz5 rfl rfl (by omega) (by omega)) ?_
        refine A_branch (rs := [3, 5]) (by kernel_rfl) (by simp) ?_
        refine AR.cons1 (i := 3) (some 36) rfl rfl rfl (os_load1 (by repeat (first | exact pk_head _ _ | apply pk_tail)) T.ag73 rfl (by rfl)) ?_ ?_
        · skip
          refine A_branch (rs := [5]) (by kernel_rfl) (by simp) ?_
          refine AR.cons1 (i := 5) (some 38) rfl rfl rfl (os_load1 (by repeat (first | exact pk_head _ _ | apply pk_tail)) T.ag3 rfl (by rfl)) ?_ ?_
          · skip
            refine A_take (i := 6) (some 39) rfl rfl (by kernel_rfl) (by kernel_rfl) (by kernel_rfl) rfl (ps_ia_slice T.un73 T.sz77 rfl rfl (by omega) (by omega)) ?_
            refine A_take (i := 8) (some 41) rfl rfl (by kernel_rfl) (by kernel_rfl) (by kernel_rfl) rfl (ps_as_h T.un77 T.sz5 rfl rfl (by omega) (by omega)) ?_
            refine A_branch (rs := [12]) (by kernel_rfl) (by simp) ?_
            refine AR.cons1 (i := 12) (some 45) rfl rfl rfl (os_copy (news := bv ((st.wait[i]).2.take (cutLen torn cut i))) (by repeat (first | exact pk_head _ _ | apply pk_tail)) T.un27 T.sz5 rfl rfl (by rw [length_bv, List.length_take, hw0.1]; simp; omega) (Src.cb (cs := wcell st.wait[i]) (by repeat (first | exact pk_head _ _ | apply pk_tail)) (by simp [wcell, hw0.1, Nat.min_eq_left hcle, bv_take])) (bv_one _) (.inr (by rw [length_bv, List.length_take, hw0.1, hflat]; simp; omega))) ?_ ?_
            · skip
              refine A_done (by kernel_rfl) ?_
              rw [hset]
              refine PW.block_normal (Meet.cut () trivial (by repeat (first | (with_reducible exact Ag.refl _ _) | (with_reducible assumption) | (with_reducible apply Ag.pu0) | ((with_reducible refine Ag.pu _ ?_ ?_); · exact rfl) | ((with_reducible refine Ag.mix ?_ ?_); · exact rfl) | ((with_reducible refine Ag.pus ?_ ?_); · exact rfl))) trivial ?_)
              exact (Ent.perm (Bs := cb gg _ cur :: _) (by repeat (first | exact pk_head _ _ | apply pk_tail))).trans ((Ent.slMk hmc hcm hcl2 htk _).trans (by repeat (first | exact Ent.refl _ | (apply Ent.cons; · repeat (first | exact pk_head _ _ | apply pk_tail)) | apply Ent.skip)))
            exact AR.nil
          exact AR.nil
        refine AR.cons1 (i := 5) (some 38) rfl rfl rfl (os_load1 (by repeat (first | exact pk_head _ _ | apply pk_tail)) T.ag3 rfl (by rfl)) ?_ ?_
        · skip
          refine A_branch (rs := [3]) (by kernel_rfl) (by simp) ?_
          refine AR.cons1 (i := 3) (some 36) rfl rfl rfl (os_load1 (by repeat (first | exact pk_head _ _ | apply pk_tail)) T.ag73 rfl (by rfl)) ?_ ?_
          · skip
            refine A_take (i := 6) (some 39) rfl rfl (by kernel_rfl) (by kernel_rfl) (by kernel_rfl) rfl (ps_ia_slice T.un73 T.sz77 rfl rfl (by omega) (by omega)) ?_
            refine A_take (i := 8) (some 41) rfl rfl (by kernel_rfl) (by kernel_rfl) (by kernel_rfl) rfl (ps_as_h T.un77 T.sz5 rfl rfl (by omega) (by omega)) ?_
            refine A_branch (rs := [12]) (by kernel_rfl) (by simp) ?_
            refine AR.cons1 (i := 12) (some 45) rfl rfl rfl (os_copy (news := bv ((st.wait[i]).2.take (cutLen torn cut i))) (by repeat (first | exact pk_head _ _ | apply pk_tail)) T.un27 T.sz5 rfl rfl (by rw [length_bv, List.length_take, hw0.1]; simp; omega) (Src.cb (cs := wcell st.wait[i]) (by repeat (first | exact pk_head _ _ | apply pk_tail)) (by simp [wcell, hw0.1, Nat.min_eq_left hcle, bv_take])) (bv_one _) (.inr (by rw [length_bv, List.length_take, hw0.1, hflat]; simp; omega))) ?_ ?_
            · skip
              refine A_done (by kernel_rfl) ?_
              rw [hset]
              refine PW.block_normal (Meet.cut () trivial (by repeat (first | (with_reducible exact Ag.refl _ _) | (with_reducible assumption) | (with_reducible apply Ag.pu0) | ((with_reducible refine Ag.pu _ ?_ ?_); · exact rfl) | ((with_reducible refine Ag.mix ?_ ?_); · exact rfl) | ((with_reducible refine Ag.pus ?_ ?_); · exact rfl))) trivial ?_)
              exact (Ent.perm (Bs := cb gg _ cur :: _) (by repeat (first | exact pk_head _ _ | apply pk_tail))).trans ((Ent.slMk hmc hcm hcl2 htk _).trans (by repeat (first | exact Ent.refl _ | (apply Ent.cons; · repeat (first | exact pk_head _ _ | apply pk_tail)) | apply Ent.skip)))
            exact AR.nil
          exact AR.nil
        exact AR.nil
    intro _ g' _
    refine CW.region ?_
    refine L1 (ps_add_i64 rfl rfl (by omega) (by omega)).os ?_
    refine L1 (ps_move rfl).os ?_
    refine LW.nil ?_
    exact Meet.round (st.wait.length - (i + 1)) (i + 1) (by omega) ⟨hlt, rfl⟩ (by repeat (first | (with_reducible exact Ag.refl _ _) | (with_reducible assumption) | (with_reducible apply Ag.pu0) | ((with_reducible refine Ag.pu _ ?_ ?_); · exact rfl) | ((with_reducible refine Ag.mix ?_ ?_); · exact rfl) | ((with_reducible refine Ag.pus ?_ ?_); · exact rfl))) ⟨rfl, trivial⟩ (by repeat (first | exact Ent.refl _ | (apply Ent.cons; · repeat (first | exact pk_head _ _ | apply pk_tail)) | apply Ent.skip))
  · refine CW.region ?_
    refine L1 (ps_f (ps_lss rfl rfl) (by omega)).os ?_
    refine LW.nil ?_
    repeat (first | refine CW.seq ?_ | refine PW.then_ ?_ | refine PW.then_to rfl ?_ | refine CW.block ?_ | refine CW.skip ?_ | refine CW.ret ?_ | refine PW.then_ret ?_ | refine PW.block_ret ?_ | refine Cut.ret ?_ | refine Rnd.ret ?_ | refine PW.block_normal ?_ | refine CW.exit ?_ | refine PW.then_exit ?_ | refine PW.block_hit ?_ | refine PW.block_miss rfl ?_ | refine Cut.exit ?_ | refine Rnd.exit ?_ | refine CW.scope ?_ | refine CW.label ?_ | refine PW.scope_normal ?_ | refine PW.scope_ret ?_ | refine PW.scope_exit ?_)
    refine CW.cond_false rfl ?_
    repeat (first | refine CW.seq ?_ | refine PW.then_ ?_ | refine PW.then_to rfl ?_ | refine CW.block ?_ | refine CW.skip ?_ | refine CW.ret ?_ | refine PW.then_ret ?_ | refine PW.block_ret ?_ | refine Cut.ret ?_ | refine Rnd.ret ?_ | refine PW.block_normal ?_ | refine CW.exit ?_ | refine PW.then_exit ?_ | refine PW.block_hit ?_ | refine PW.block_miss rfl ?_ | refine Cut.exit ?_ | refine Rnd.exit ?_ | refine CW.scope ?_ | refine CW.label ?_ | refine PW.scope_normal ?_ | refine PW.scope_ret ?_ | refine PW.scope_exit ?_)
    refine CW.region ?_
    refine L1 (ps_move rfl).os ?_
    refine L1 (ps_move rfl).os ?_
    refine L1 (ps_nil rfl).os ?_
    refine L1 (ps_fa T.fa76_1 (by decide) rfl).os ?_
    refine L1 (os_store1 (by repeat (first | exact pk_head _ _ | apply pk_tail)) T.sz74 rfl rfl (by rfl) (Nat.le_of_ble_eq_true rfl)) ?_
    refine L1 (ps_nil rfl).os ?_
    refine L1 (ps_fa T.fa76_2 (by decide) rfl).os ?_
    refine L1 (os_store1 (by repeat (first | exact pk_head _ _ | apply pk_tail)) T.sz4 rfl rfl (by rfl) (Nat.le_of_ble_eq_true rfl)) ?_
    refine LW.nil ?_
    have hi' : i = st.wait.length := by omega
    refine Fin.end0 rfl [_] ⟨rfl, rfl⟩ ?_
    rw [hi', List.take_length]
    have hcr := crashTo_ok (mask := mask) (torn := torn) (cut := cut) (l := st.wait) (d := st.data) hok.wlen hok.dlen
    refine Ent.trans ?_ (DiskAt.fold (st := st.crash mask torn cut) D (.slice none 0 0) _)
    have e : dcells (st.crash mask torn cut) D (.slice none 0 0) = [.slice (some ⟨D, 0, none⟩) st.data.length st.data.length, .slice none 0 0, .bool false, .int .i64 st.left, .int .i64 st.count] := by
      simp [dcells, DS.crash, hcr.1]
    rw [e]
    refine Ent.trans (Bs := cb p 76 _ :: cb D 77 _ :: F) (by repeat (first | exact Ent.refl _ | (apply Ent.cons; · repeat (first | exact pk_head _ _ | apply pk_tail)) | apply Ent.skip)) ?_
    exact Ent.cons (pk_head _ _) (Ent.cons (pk_head _ _) (Ent.slNil _ _ _))
end Go.Proofs.Ytejbbpofamfhiaa
