/- The index's own functions: Put, Get, Len: each one's contract, over its entries in order. -/
import Derived.Test.YtejphoheaeplbaaIdxPut
namespace Go.Proofs.Ytejphoheaeplbaa
set_option linter.unusedVariables false
set_option linter.unusedSimpArgs false
open Go Go.SL

def Ix (x : Nat) (l : List En) : Asn := fun L => ∃ o : Option (Nat × Nat), match o with
  | none => l = [] ∧ sat [cb x 26 [.pointer none, .int .i64 0]] L
  | some (h, r) => sat [cb x 26 [ptr r, .int .i64 (l.length : Nat)], Nd h 5 r l] L
theorem Ix_new (x : Nat) (Bs : List Asn) : Ent (cb x 26 [.pointer none, .int .i64 0] :: Bs) (Ix x [] :: Bs) := Ent.fold (As := [_]) fun L h => ⟨none, rfl, h⟩
theorem Ix_mk {x h r n : Nat} {l : List En} {As Bs : List Asn} (hn : l.length = n) (hp : As.Perm (cb x 26 [ptr r, .int .i64 (n : Nat)] :: Nd h 5 r l :: Bs)) : Ent As (Ix x l :: Bs) := by
  subst hn
  exact (Ent.perm hp).trans (Ent.fold (As := [_, _]) fun L hs => ⟨some (h, r), hs⟩)
theorem Ix_ex {x : Nat} {l : List En} {g : FuncId} {args : List Value} {Rest : List Asn} {post : Value → List Asn → Prop} (h0 : l = [] → FSpec Try.prog g args (cb x 26 [.pointer none, .int .i64 0] :: Rest) post)
    (h1 : ∀ h r, FSpec Try.prog g args (cb x 26 [ptr r, .int .i64 (l.length : Nat)] :: Nd h 5 r l :: Rest) post) : FSpec Try.prog g args (Ix x l :: Rest) post := by
  refine FSpec.ex (ι := Option (Nat × Nat)) (C := fun o => o = none → l = []) (B := fun o => match o with | none => [cb x 26 [.pointer none, .int .i64 0]] | some (h, r) => [cb x 26 [ptr r, .int .i64 (l.length : Nat)], Nd h 5 r l]) ?_ ?_
  · rintro L ⟨o, ho⟩
    cases o with
    | none => exact ⟨none, fun _ => ho.1, ho.2⟩
    | some p => exact ⟨some p, fun h => (by cases h), ho⟩
  · intro o ho
    cases o with
    | none => exact h0 (ho rfl)
    | some p => exact h1 p.1 p.2
theorem Len_spec (x : Nat) (l : List En) : FSpec Try.prog 10 [ptr x] [Ix x l] (fun v As => v = .int .i64 (l.length : Nat) ∧ As = [Ix x l]) := by
  refine Ix_ex (fun h0 => ?_) fun h r => ?_
  · subst h0
    refine FSpec.intro Try.func10 rfl 7 Try.ntmps10 (Nat.le_of_ble_eq_true rfl) fun w0 F => ?_
    show CW _ _ _ _ _ _ (_ :: F)
    repeat (first | refine CW.seq ?_ | refine PW.then_ ?_ | refine PW.then_to rfl ?_ | refine CW.block ?_ | refine CW.skip ?_ | refine CW.ret ?_ | refine PW.then_ret ?_ | refine PW.block_ret ?_ | refine Cut.ret ?_ | refine Rnd.ret ?_ | refine PW.block_normal ?_ | refine CW.exit ?_ | refine PW.then_exit ?_ | refine PW.block_hit ?_ | refine PW.block_miss rfl ?_ | refine Cut.exit ?_ | refine Rnd.exit ?_)
    refine CW.region ?_
    refine L1 (ps_assign rfl).os ?_
    refine LW.nil ?_
    repeat (first | refine CW.seq ?_ | refine PW.then_ ?_ | refine PW.then_to rfl ?_ | refine CW.block ?_ | refine CW.skip ?_ | refine CW.ret ?_ | refine PW.then_ret ?_ | refine PW.block_ret ?_ | refine Cut.ret ?_ | refine Rnd.ret ?_ | refine PW.block_normal ?_ | refine CW.exit ?_ | refine PW.then_exit ?_ | refine PW.block_hit ?_ | refine PW.block_miss rfl ?_ | refine Cut.exit ?_ | refine Rnd.exit ?_)
    refine CW.region ?_
    refine L1 (ps_move rfl).os ?_
    refine L1 (ps_nil rfl).os ?_
    refine L1 (ps_fa T.fa26_1 (by decide) rfl).os ?_
    refine L1 (os_load1 (b := x) (v := .int .i64 0) (by repeat (first | exact pk_head _ _ | apply pk_tail)) T.ag3 rfl rfl) ?_
    refine L1 (ps_assign rfl).os ?_
    refine LW.nil ?_
    repeat (first | refine CW.seq ?_ | refine PW.then_ ?_ | refine PW.then_to rfl ?_ | refine CW.block ?_ | refine CW.skip ?_ | refine CW.ret ?_ | refine PW.then_ret ?_ | refine PW.block_ret ?_ | refine Cut.ret ?_ | refine Rnd.ret ?_ | refine PW.block_normal ?_ | refine CW.exit ?_ | refine PW.then_exit ?_ | refine PW.block_hit ?_ | refine PW.block_miss rfl ?_ | refine Cut.exit ?_ | refine Rnd.exit ?_)
    exact Fin.ret1 (v := .int .i64 0) rfl [_] rfl ⟨rfl, rfl⟩ (Ix_new x F)
  · refine FSpec.intro Try.func10 rfl 7 Try.ntmps10 (Nat.le_of_ble_eq_true rfl) fun w0 F => ?_
    show CW _ _ _ _ _ _ (_ :: _ :: F)
    repeat (first | refine CW.seq ?_ | refine PW.then_ ?_ | refine PW.then_to rfl ?_ | refine CW.block ?_ | refine CW.skip ?_ | refine CW.ret ?_ | refine PW.then_ret ?_ | refine PW.block_ret ?_ | refine Cut.ret ?_ | refine Rnd.ret ?_ | refine PW.block_normal ?_ | refine CW.exit ?_ | refine PW.then_exit ?_ | refine PW.block_hit ?_ | refine PW.block_miss rfl ?_ | refine Cut.exit ?_ | refine Rnd.exit ?_)
    refine CW.region ?_
    refine L1 (ps_assign rfl).os ?_
    refine LW.nil ?_
    repeat (first | refine CW.seq ?_ | refine PW.then_ ?_ | refine PW.then_to rfl ?_ | refine CW.block ?_ | refine CW.skip ?_ | refine CW.ret ?_ | refine PW.then_ret ?_ | refine PW.block_ret ?_ | refine Cut.ret ?_ | refine Rnd.ret ?_ | refine PW.block_normal ?_ | refine CW.exit ?_ | refine PW.then_exit ?_ | refine PW.block_hit ?_ | refine PW.block_miss rfl ?_ | refine Cut.exit ?_ | refine Rnd.exit ?_)
    refine CW.region ?_
    refine L1 (ps_move rfl).os ?_
    refine L1 (ps_nil rfl).os ?_
    refine L1 (ps_fa T.fa26_1 (by decide) rfl).os ?_
    refine L1 (os_load1 (b := x) (v := .int .i64 (l.length : Nat)) (by repeat (first | exact pk_head _ _ | apply pk_tail)) T.ag3 rfl rfl) ?_
    refine L1 (ps_assign rfl).os ?_
    refine LW.nil ?_
    repeat (first | refine CW.seq ?_ | refine PW.then_ ?_ | refine PW.then_to rfl ?_ | refine CW.block ?_ | refine CW.skip ?_ | refine CW.ret ?_ | refine PW.then_ret ?_ | refine PW.block_ret ?_ | refine Cut.ret ?_ | refine Rnd.ret ?_ | refine PW.block_normal ?_ | refine CW.exit ?_ | refine PW.then_exit ?_ | refine PW.block_hit ?_ | refine PW.block_miss rfl ?_ | refine Cut.exit ?_ | refine Rnd.exit ?_)
    exact Fin.ret1 (v := .int .i64 (l.length : Nat)) rfl [_] rfl ⟨rfl, rfl⟩ (Ix_mk rfl (List.Perm.refl _))
theorem Ix_open {x : Nat} {l : List En} {w0 : World} {As Bs : List Asn} {G : World → Prop} (hp : As.Perm (Ix x l :: Bs))
    (k : ∀ rv X, (rv = none ∧ l = [] ∧ X = AllP [] ∨ ∃ h r, rv = some ⟨r, 0, none⟩ ∧ X = Nd h 5 r l) → J w0 (cb x 26 [.pointer rv, .int .i64 (l.length : Nat)] :: X :: Bs) G) : J w0 As G := J.mk fun w hw => by
  obtain ⟨L, a1, L1, L2, a3, ⟨o, ho⟩, a5⟩ := hw.perm hp
  cases o with
  | none =>
    obtain ⟨rfl, L3, L4, b1, b2, _⟩ := ho
    have h4 : Heap w0 w (cb x 26 [.pointer none, .int .i64 0] :: Bs) := ⟨L, a1, sat_mk (As := [_]) a3 ⟨L3, L4, b1, b2, trivial⟩ a5⟩
    exact (k none (AllP []) (Or.inl ⟨rfl, rfl, rfl⟩)).run w ((Ent.cons (List.Perm.refl _) (Ent.allNil Bs)).heap h4)
  | some p => exact (k _ _ (Or.inr ⟨p.1, p.2, rfl, rfl⟩)).run w ⟨L, a1, sat_mk (As := [_, _]) a3 ho a5⟩
theorem Put_spec (x key : Nat) (val : Int) (l : List En) (hk : key < M128) (hs : Srt l) (hm : ∀ e ∈ l, e.1 < M128) (hl : l.length ≤ 1000000) :
    FSpec Try.prog 8 [ptr x, .agg (nc key).toArray, .int .i64 val] [Ix x l] (fun v As => v = .tuple #[] ∧ As = [Ix x (ins key val l)]) := by
  have hM := M128_eq
  have hli := len_ins key val hs
  refine FSpec.intro Try.func8 rfl 56 Try.ntmps8 (Nat.le_of_ble_eq_true rfl) fun w0 F => ?_
  show CW _ _ _ _ _ _ (_ :: F)
  refine Ix_open (pk_head _ _) fun rv X hX => ?_
  repeat (first | refine CW.seq ?_ | refine PW.then_ ?_ | refine PW.then_to rfl ?_ | refine CW.block ?_ | refine CW.skip ?_ | refine CW.ret ?_ | refine PW.then_ret ?_ | refine PW.block_ret ?_ | refine Cut.ret ?_ | refine Rnd.ret ?_ | refine PW.block_normal ?_ | refine CW.exit ?_ | refine PW.then_exit ?_ | refine PW.block_hit ?_ | refine PW.block_miss rfl ?_ | refine Cut.exit ?_ | refine Rnd.exit ?_)
  refine CW.region ?_
  refine LE (os_box (vs := nc key) rfl (by rfl)) ?_
  rintro _ _ ⟨b4, rfl, rfl⟩
  refine LW.nil ?_
  repeat (first | refine CW.seq ?_ | refine PW.then_ ?_ | refine PW.then_to rfl ?_ | refine CW.block ?_ | refine CW.skip ?_ | refine CW.ret ?_ | refine PW.then_ret ?_ | refine PW.block_ret ?_ | refine Cut.ret ?_ | refine Rnd.ret ?_ | refine PW.block_normal ?_ | refine CW.exit ?_ | refine PW.then_exit ?_ | refine PW.block_hit ?_ | refine PW.block_miss rfl ?_ | refine Cut.exit ?_ | refine Rnd.exit ?_)
  refine CW.region ?_
  refine L1 (ps_move rfl).os ?_
  refine L1 (ps_nil rfl).os ?_
  refine L1 (ps_fa T.fa26_0 (by decide) rfl).os ?_
  refine L1 (os_load1 (b := x) (v := .pointer rv) (by repeat (first | exact pk_head _ _ | apply pk_tail)) T.ag24 rfl rfl) ?_
  refine L1 (ps_ptr_eql_nil T.un24 rfl rfl).os ?_
  refine LW.nil ?_
  repeat (first | refine CW.seq ?_ | refine PW.then_ ?_ | refine PW.then_to rfl ?_ | refine CW.block ?_ | refine CW.skip ?_ | refine CW.ret ?_ | refine PW.then_ret ?_ | refine PW.block_ret ?_ | refine Cut.ret ?_ | refine Rnd.ret ?_ | refine PW.block_normal ?_ | refine CW.exit ?_ | refine PW.then_exit ?_ | refine PW.block_hit ?_ | refine PW.block_miss rfl ?_ | refine Cut.exit ?_ | refine Rnd.exit ?_)
  refine CW.cutB (α := Nat × Nat) [12, 13, 14, 15, 16] (fun _ => True) (fun _ => []) (fun z => cb x 26 [ptr z.2, .int .i64 (l.length : Nat)] :: Nd z.1 5 z.2 l :: cb b4 29 (nc key) :: F) ?_ ?_
  · rcases hX with ⟨rfl, rfl, rfl⟩ | ⟨h, r, rfl, rfl⟩
    · refine CW.cond_true rfl ?_
      repeat (first | refine CW.seq ?_ | refine PW.then_ ?_ | refine PW.then_to rfl ?_ | refine CW.block ?_ | refine CW.skip ?_ | refine CW.ret ?_ | refine PW.then_ret ?_ | refine PW.block_ret ?_ | refine Cut.ret ?_ | refine Rnd.ret ?_ | refine PW.block_normal ?_ | refine CW.exit ?_ | refine PW.then_exit ?_ | refine PW.block_hit ?_ | refine PW.block_miss rfl ?_ | refine Cut.exit ?_ | refine Rnd.exit ?_)
      refine CW.region ?_
      refine L1 (ps_move rfl).os ?_
      refine L1 (ps_build (by rfl) (T.bd50)).os ?_
      refine LE (os_box (vs := [.slice none 0 0, .slice none 0 0, .slice none 0 0]) rfl (by rfl)) ?_
      rintro _ _ ⟨r, rfl, rfl⟩
      refine L1 (ps_nil rfl).os ?_
      refine L1 (ps_fa T.fa26_0 (by decide) rfl).os ?_
      refine L1 (os_store1 (b := x) (by repeat (first | exact pk_head _ _ | apply pk_tail)) T.sz24 rfl rfl (by rfl) (Nat.le_of_ble_eq_true rfl)) ?_
      refine LW.nil ?_
      refine Meet.cut (0, r) trivial (by repeat (first | (with_reducible exact Ag.refl _ _) | (with_reducible apply Ag.pu0) | ((with_reducible refine Ag.pu _ ?_ ?_); · exact rfl) | ((with_reducible refine Ag.mix ?_ ?_); · exact rfl) | ((with_reducible refine Ag.pus ?_ ?_); · exact rfl))) trivial ?_
      refine Ent.trans (Bs := cb r 50 [.slice none 0 0, .slice none 0 0, .slice none 0 0] :: cb x 26 [ptr r, .int .i64 0] :: cb b4 29 (nc key) :: F) (by repeat (first | exact Ent.refl _ | (apply Ent.cons; · repeat (first | exact pk_head _ _ | apply pk_tail)) | apply Ent.skip)) ?_
      refine (Ent.slNil 29 2 _).trans ((Ent.slNil 3 1 _).trans ((Ent.slNil 24 1 _).trans ?_))
      refine (Node_mk2 (p := r) (n := 0) (m := 0) (l := 0) (es := []) (ps := []) (kq := none) (vq := none) (cq := none) (kd := 0) (vd := 0) (cd := 0) (pkc4 (by repeat (first | exact pk_head _ _ | apply pk_tail)) (by repeat (first | exact pk_head _ _ | apply pk_tail)) (by repeat (first | exact pk_head _ _ | apply pk_tail)) (by repeat (first | exact pk_head _ _ | apply pk_tail))) rfl rfl rfl (fun _ => ⟨rfl, rfl⟩)).trans ?_
      refine (Ent.cons (pk_head _ _) (Kids0_mk [] _)).trans ((Nd_mk (h := 0) (c := 5) (by simp) _).trans ?_)
      exact (by repeat (first | exact Ent.refl _ | (apply Ent.cons; · repeat (first | exact pk_head _ _ | apply pk_tail)) | apply Ent.skip))
    · refine CW.cond_false rfl ?_
      repeat (first | refine CW.seq ?_ | refine PW.then_ ?_ | refine PW.then_to rfl ?_ | refine CW.block ?_ | refine CW.skip ?_ | refine CW.ret ?_ | refine PW.then_ret ?_ | refine PW.block_ret ?_ | refine Cut.ret ?_ | refine Rnd.ret ?_ | refine PW.block_normal ?_ | refine CW.exit ?_ | refine PW.then_exit ?_ | refine PW.block_hit ?_ | refine PW.block_miss rfl ?_ | refine Cut.exit ?_ | refine Rnd.exit ?_)
      exact Meet.cut (h, r) trivial (by repeat (first | (with_reducible exact Ag.refl _ _) | (with_reducible apply Ag.pu0) | ((with_reducible refine Ag.pu _ ?_ ?_); · exact rfl) | ((with_reducible refine Ag.mix ?_ ?_); · exact rfl) | ((with_reducible refine Ag.pus ?_ ?_); · exact rfl))) trivial (by repeat (first | exact Ent.refl _ | (apply Ent.cons; · repeat (first | exact pk_head _ _ | apply pk_tail)) | apply Ent.skip))
  rintro ⟨h, r⟩ _ _
  try dsimp only
  have hps := put_spec key val hk h r l hs hm
  generalize hl' : ins key val l = l' at *
  generalize (lkp key l).isNone = fr at *
  repeat (first | refine CW.seq ?_ | refine PW.then_ ?_ | refine PW.then_to rfl ?_ | refine CW.block ?_ | refine CW.skip ?_ | refine CW.ret ?_ | refine PW.then_ret ?_ | refine PW.block_ret ?_ | refine Cut.ret ?_ | refine Rnd.ret ?_ | refine PW.block_normal ?_ | refine CW.exit ?_ | refine PW.then_exit ?_ | refine PW.block_hit ?_ | refine PW.block_miss rfl ?_ | refine Cut.exit ?_ | refine Rnd.exit ?_)
  refine CW.cutB (α := Unit) [17, 18, 19, 20, 21, 22, 23] (fun _ => True) (fun _ => [(23, .bool fr)]) (fun z => cb x 26 [ptr r, .int .i64 (l.length : Nat)] :: Nd h 6 r l' :: F) ?_ ?_
  · refine CW.drawH [cb x 26 [ptr r, .int .i64 (l.length : Nat)], cb b4 29 (nc key)] [] T.mixed ?_
    refine H_take (i := 0) (some 17) rfl rfl (by kernel_rfl) (by kernel_rfl) (by kernel_rfl) rfl (ps_move rfl).pl (by kernel_rfl) (pkc (by repeat (first | exact pk_head _ _ | apply pk_tail)) (pkc (by repeat (first | exact pk_head _ _ | apply pk_tail)) (pkn _))) ?_
    refine H_take (i := 1) (some 18) rfl rfl (by kernel_rfl) (by kernel_rfl) (by kernel_rfl) rfl (ps_nil rfl).pl (by kernel_rfl) (pkc (by repeat (first | exact pk_head _ _ | apply pk_tail)) (pkc (by repeat (first | exact pk_head _ _ | apply pk_tail)) (pkn _))) ?_
    refine H_take (i := 2) (some 19) rfl rfl (by kernel_rfl) (by kernel_rfl) (by kernel_rfl) rfl (ps_fa T.fa26_0 (by decide) rfl).pl (by kernel_rfl) (pkc (by repeat (first | exact pk_head _ _ | apply pk_tail)) (pkc (by repeat (first | exact pk_head _ _ | apply pk_tail)) (pkn _))) ?_
    refine H_take (i := 3) (some 20) rfl rfl (by kernel_rfl) (by kernel_rfl) (by kernel_rfl) rfl (pl_load1 (b := x) (v := ptr r) (by repeat (first | exact pk_head _ _ | apply pk_tail)) T.ag24 rfl rfl) (by kernel_rfl) (pkc (by repeat (first | exact pk_head _ _ | apply pk_tail)) (pkc (by repeat (first | exact pk_head _ _ | apply pk_tail)) (pkn _))) ?_
    refine H_take (i := 4) (some 21) rfl rfl (by kernel_rfl) (by kernel_rfl) (by kernel_rfl) rfl (pl_loadAll (b := b4) (cs := nc key) (by repeat (first | exact pk_head _ _ | apply pk_tail)) T.ag29 (by exact T.sz29) rfl) (by kernel_rfl) (pkc (by repeat (first | exact pk_head _ _ | apply pk_tail)) (pkc (by repeat (first | exact pk_head _ _ | apply pk_tail)) (pkn _))) ?_
    refine H_take (i := 5) (some 22) rfl rfl (by kernel_rfl) (by kernel_rfl) (by kernel_rfl) rfl (ps_move rfl).pl (by kernel_rfl) (pkc (by repeat (first | exact pk_head _ _ | apply pk_tail)) (pkc (by repeat (first | exact pk_head _ _ | apply pk_tail)) (pkn _))) ?_
    refine H_branch (rs := [6]) (by kernel_rfl) (by simp) ?_
    refine HR.cons1 (i := 6) (some 23) rfl rfl rfl (os_call1 hps Try.func15 (by decide +kernel) rfl rfl (by repeat (first | exact pk_head _ _ | apply pk_tail))) (pkc (by repeat (first | exact pk_head _ _ | apply pk_tail)) (pkc (by repeat (first | exact pk_head _ _ | apply pk_tail)) (pkn _))) ?_ ?_
    · skip
      refine H_done (by kernel_rfl) ?_
      exact Meet.cut () trivial (by repeat (first | (with_reducible exact Ag.refl _ _) | (with_reducible apply Ag.pu0) | ((with_reducible refine Ag.pu _ ?_ ?_); · exact rfl) | ((with_reducible refine Ag.mix ?_ ?_); · exact rfl) | ((with_reducible refine Ag.pus ?_ ?_); · exact rfl))) ⟨rfl, trivial⟩ (by repeat (first | exact Ent.refl _ | (apply Ent.cons; · repeat (first | exact pk_head _ _ | apply pk_tail)) | apply Ent.skip))
    exact HR.nil
  rintro _ _ _
  try dsimp only
  repeat (first | refine CW.seq ?_ | refine PW.then_ ?_ | refine PW.then_to rfl ?_ | refine CW.block ?_ | refine CW.skip ?_ | refine CW.ret ?_ | refine PW.then_ret ?_ | refine PW.block_ret ?_ | refine Cut.ret ?_ | refine Rnd.ret ?_ | refine PW.block_normal ?_ | refine CW.exit ?_ | refine PW.then_exit ?_ | refine PW.block_hit ?_ | refine PW.block_miss rfl ?_ | refine Cut.exit ?_ | refine Rnd.exit ?_)
  refine CW.cutB (α := Unit) [24, 25, 26, 27, 28, 29, 30] (fun _ => True) (fun _ => []) (fun z => cb x 26 [ptr r, .int .i64 (l'.length : Nat)] :: Nd h 6 r l' :: F) ?_ ?_
  · cases fr with
    | true =>
      refine CW.cond_true rfl ?_
      repeat (first | refine CW.seq ?_ | refine PW.then_ ?_ | refine PW.then_to rfl ?_ | refine CW.block ?_ | refine CW.skip ?_ | refine CW.ret ?_ | refine PW.then_ret ?_ | refine PW.block_ret ?_ | refine Cut.ret ?_ | refine Rnd.ret ?_ | refine PW.block_normal ?_ | refine CW.exit ?_ | refine PW.then_exit ?_ | refine PW.block_hit ?_ | refine PW.block_miss rfl ?_ | refine Cut.exit ?_ | refine Rnd.exit ?_)
      refine CW.region ?_
      refine L1 (ps_move rfl).os ?_
      refine L1 (ps_nil rfl).os ?_
      refine L1 (ps_fa T.fa26_1 (by decide) rfl).os ?_
      refine L1 (os_load1 (b := x) (v := .int .i64 (l.length : Nat)) (by repeat (first | exact pk_head _ _ | apply pk_tail)) T.ag3 rfl rfl) ?_
      refine L1 (ps_to (u := .int .i64 (l'.length : Nat)) (by rw [hli]; rfl) (ps_add_i64 rfl rfl (by omega) (by omega))).os ?_
      refine L1 (ps_nil rfl).os ?_
      refine L1 (ps_fa T.fa26_1 (by decide) rfl).os ?_
      refine L1 (os_store1 (b := x) (by repeat (first | exact pk_head _ _ | apply pk_tail)) T.sz3 rfl rfl (by rfl) (Nat.le_of_ble_eq_true rfl)) ?_
      refine LW.nil ?_
      exact Meet.cut () trivial (by repeat (first | (with_reducible exact Ag.refl _ _) | (with_reducible apply Ag.pu0) | ((with_reducible refine Ag.pu _ ?_ ?_); · exact rfl) | ((with_reducible refine Ag.mix ?_ ?_); · exact rfl) | ((with_reducible refine Ag.pus ?_ ?_); · exact rfl))) trivial (by repeat (first | exact Ent.refl _ | (apply Ent.cons; · repeat (first | exact pk_head _ _ | apply pk_tail)) | apply Ent.skip))
    | false =>
      refine CW.cond_false rfl ?_
      repeat (first | refine CW.seq ?_ | refine PW.then_ ?_ | refine PW.then_to rfl ?_ | refine CW.block ?_ | refine CW.skip ?_ | refine CW.ret ?_ | refine PW.then_ret ?_ | refine PW.block_ret ?_ | refine Cut.ret ?_ | refine Rnd.ret ?_ | refine PW.block_normal ?_ | refine CW.exit ?_ | refine PW.then_exit ?_ | refine PW.block_hit ?_ | refine PW.block_miss rfl ?_ | refine Cut.exit ?_ | refine Rnd.exit ?_)
      have e : l'.length = l.length := hli
      rw [← e]
      exact Meet.cut () trivial (by repeat (first | (with_reducible exact Ag.refl _ _) | (with_reducible apply Ag.pu0) | ((with_reducible refine Ag.pu _ ?_ ?_); · exact rfl) | ((with_reducible refine Ag.mix ?_ ?_); · exact rfl) | ((with_reducible refine Ag.pus ?_ ?_); · exact rfl))) trivial (by repeat (first | exact Ent.refl _ | (apply Ent.cons; · repeat (first | exact pk_head _ _ | apply pk_tail)) | apply Ent.skip))
  rintro _ _ _
  try dsimp only
  refine Nd_open (h := h) (c := 6) (q := r) (l := l') (by repeat (first | exact pk_head _ _ | apply pk_tail)) fun gs rs hgs => ?_
  refine Kids_rs (by repeat (first | exact pk_head _ _ | apply pk_tail)) fun hrs => ?_
  refine Node_open (p := r) (by repeat (first | exact pk_head _ _ | apply pk_tail)) fun kq' kd' vq' vd' cq' cd' hc0' fk' fv' fc' => ?_
  have hnode' : ∀ Bs, Ent (cb r 50 [.slice kq' gs.length kd', .slice vq' gs.length vd', .slice cq' rs.length cd'] :: KSl kq' gs.length kd' gs :: VSl vq' gs.length vd' gs :: CSl cq' rs.length cd' rs :: Bs) (Node r gs rs :: Bs) := fun Bs =>
    Node_mk kq' _ kd' vq' vd' cq' _ cd' rfl rfl hc0'
  repeat (first | refine CW.seq ?_ | refine PW.then_ ?_ | refine PW.then_to rfl ?_ | refine CW.block ?_ | refine CW.skip ?_ | refine CW.ret ?_ | refine PW.then_ret ?_ | refine PW.block_ret ?_ | refine Cut.ret ?_ | refine Rnd.ret ?_ | refine PW.block_normal ?_ | refine CW.exit ?_ | refine PW.then_exit ?_ | refine PW.block_hit ?_ | refine PW.block_miss rfl ?_ | refine Cut.exit ?_ | refine Rnd.exit ?_)
  by_cases h5 : (5 : Int) < (gs.length : Nat)
  · refine CW.region ?_
    refine L1 (ps_move rfl).os ?_
    refine L1 (ps_nil rfl).os ?_
    refine L1 (ps_fa T.fa26_0 (by decide) rfl).os ?_
    refine L1 (os_load1 (b := x) (v := ptr r) (by repeat (first | exact pk_head _ _ | apply pk_tail)) T.ag24 rfl rfl) ?_
    refine L1 (ps_nil rfl).os ?_
    refine L1 (ps_fa T.fa50_0 (by decide) rfl).os ?_
    refine L1 (os_load1 (b := r) (v := .slice kq' gs.length kd') (by repeat (first | exact pk_head _ _ | apply pk_tail)) T.ag22 rfl rfl) ?_
    refine L1 (ps_len_sl T.un22 rfl).os ?_
    refine L1 (ps_t (ps_gtr rfl rfl) (h5)).os ?_
    refine LW.nil ?_
    refine J.ent ((Ent.perm (pkc4 (by repeat (first | exact pk_head _ _ | apply pk_tail)) (by repeat (first | exact pk_head _ _ | apply pk_tail)) (by repeat (first | exact pk_head _ _ | apply pk_tail)) (by repeat (first | exact pk_head _ _ | apply pk_tail)))).trans (hnode' _)) ?_
    repeat (first | refine CW.seq ?_ | refine PW.then_ ?_ | refine PW.then_to rfl ?_ | refine CW.block ?_ | refine CW.skip ?_ | refine CW.ret ?_ | refine PW.then_ret ?_ | refine PW.block_ret ?_ | refine Cut.ret ?_ | refine Rnd.ret ?_ | refine PW.block_normal ?_ | refine CW.exit ?_ | refine PW.then_exit ?_ | refine PW.block_hit ?_ | refine PW.block_miss rfl ?_ | refine Cut.exit ?_ | refine Rnd.exit ?_)
    refine CW.cond_true rfl ?_
    repeat (first | refine CW.seq ?_ | refine PW.then_ ?_ | refine PW.then_to rfl ?_ | refine CW.block ?_ | refine CW.skip ?_ | refine CW.ret ?_ | refine PW.then_ret ?_ | refine PW.block_ret ?_ | refine Cut.ret ?_ | refine Rnd.ret ?_ | refine PW.block_normal ?_ | refine CW.exit ?_ | refine PW.then_exit ?_ | refine PW.block_hit ?_ | refine PW.block_miss rfl ?_ | refine Cut.exit ?_ | refine Rnd.exit ?_)
    refine CW.region ?_
    refine L1 (ps_move rfl).os ?_
    refine L1 (ps_nil rfl).os ?_
    refine L1 (ps_fa T.fa26_0 (by decide) rfl).os ?_
    refine L1 (os_load1 (b := x) (v := ptr r) (by repeat (first | exact pk_head _ _ | apply pk_tail)) T.ag24 rfl rfl) ?_
    refine L1 (ps_assign rfl).os ?_
    refine LW.nil ?_
    repeat (first | refine CW.seq ?_ | refine PW.then_ ?_ | refine PW.then_to rfl ?_ | refine CW.block ?_ | refine CW.skip ?_ | refine CW.ret ?_ | refine PW.then_ret ?_ | refine PW.block_ret ?_ | refine Cut.ret ?_ | refine Rnd.ret ?_ | refine PW.block_normal ?_ | refine CW.exit ?_ | refine PW.then_exit ?_ | refine PW.block_hit ?_ | refine PW.block_miss rfl ?_ | refine Cut.exit ?_ | refine Rnd.exit ?_)
    refine CW.region ?_
    refine L1 (ps_move rfl).os ?_
    refine L1 (ps_move rfl).os ?_
    refine LE (os_bslv (vs := [ptr r]) T.un48 T.ti24 (by rfl) (by rfl) rfl (by simp [Value.oneCell']) (by decide) (by decide)) ?_
    rintro _ _ ⟨b46, rfl, rfl⟩
    refine L1 (ps_build (by rfl) (T.bd50_2 _ _ _)).os ?_
    refine LE (os_box (vs := [.slice none 0 0, .slice none 0 0, .slice (some ⟨b46, 0, none⟩) 1 1]) rfl (by rfl)) ?_
    rintro _ _ ⟨nr, rfl, rfl⟩
    refine L1 (ps_nil rfl).os ?_
    refine L1 (ps_fa T.fa26_0 (by decide) rfl).os ?_
    refine L1 (os_store1 (b := x) (by repeat (first | exact pk_head _ _ | apply pk_tail)) T.sz24 rfl rfl (by rfl) (Nat.le_of_ble_eq_true rfl)) ?_
    refine LW.nil ?_
    have hg3 : gs[3]? = some (gs[3]'(by omega)) := List.getElem?_eq_getElem (by omega)
    have hpt := part_spec nr r 0 3 [] gs [r] rs (gs[3]'(by omega)) (by simp) rfl rfl (by simp) (by omega) (by omega) hg3 hrs
    generalize gs[3]'(by omega) = e at hg3 hpt
    refine J.ent ((Ent.perm (Bs := cb b46 24 [ptr r] :: _) (by repeat (first | exact pk_head _ _ | apply pk_tail))).trans (Ent.slMk (size := 1) (m := 1) (cap := 1) (xs := pc [r]) (Nat.le_refl _) (by decide) (by exact Nat.le_refl _) rfl _)) ?_
    refine J.ent ((Ent.slNil 29 2 _).trans (Ent.slNil 3 1 _)) ?_
    refine J.ent (Node_mk2 (p := nr) (n := 0) (m := 0) (l := 1) (es := []) (ps := [r]) (kq := none) (vq := none) (cq := some ⟨b46, 0, none⟩) (kd := 0) (vd := 0) (cd := 1) (pkc4 (by repeat (first | exact pk_head _ _ | apply pk_tail)) (by repeat (first | exact pk_head _ _ | apply pk_tail)) (by repeat (first | exact pk_head _ _ | apply pk_tail)) (by repeat (first | exact pk_head _ _ | apply pk_tail))) rfl rfl rfl (fun h => by cases h)) ?_
    repeat (first | refine CW.seq ?_ | refine PW.then_ ?_ | refine PW.then_to rfl ?_ | refine CW.block ?_ | refine CW.skip ?_ | refine CW.ret ?_ | refine PW.then_ret ?_ | refine PW.block_ret ?_ | refine Cut.ret ?_ | refine Rnd.ret ?_ | refine PW.block_normal ?_ | refine CW.exit ?_ | refine PW.then_exit ?_ | refine PW.block_hit ?_ | refine PW.block_miss rfl ?_ | refine Cut.exit ?_ | refine Rnd.exit ?_)
    refine CW.region ?_
    refine L1 (ps_move rfl).os ?_
    refine L1 (ps_nil rfl).os ?_
    refine L1 (ps_fa T.fa26_0 (by decide) rfl).os ?_
    refine L1 (os_load1 (b := x) (v := ptr nr) (by repeat (first | exact pk_head _ _ | apply pk_tail)) T.ag24 rfl rfl) ?_
    refine LE (os_call hpt Try.func16 (by decide +kernel) rfl rfl (pkc (by repeat (first | exact pk_head _ _ | apply pk_tail)) (pkc (by repeat (first | exact pk_head _ _ | apply pk_tail)) (pkn _)))) ?_
    rintro _ _ ⟨_, ⟨rfl, r2, rfl⟩, rfl⟩
    refine LW.nil ?_
    refine Kids_part hg3 (by repeat (first | exact pk_head _ _ | apply pk_tail)) fun l1 l2 hl12 => ?_
    have hwv : weave ([(r, l1), (r2, l2)].map (·.2)) [e] = l' := hl12.symm
    refine J.ent (Nd_mk' (h := h) (c := 5) (q := r2) (l := l2) (fs := gs.drop (3 + 1)) (qs := rs.drop (3 + 1)) (pk2 (by repeat (first | exact pk_head _ _ | apply pk_tail)) (by repeat (first | exact pk_head _ _ | apply pk_tail))) (by rw [List.length_drop]; omega)) ?_
    refine J.ent (Nd_mk' (h := h) (c := 5) (q := r) (l := l1) (fs := gs.take 3) (qs := rs.take (3 + 1)) (pk2 (by repeat (first | exact pk_head _ _ | apply pk_tail)) (by repeat (first | exact pk_head _ _ | apply pk_tail))) (by rw [List.length_take]; omega)) ?_
    refine J.ent (Ent.all [kidA h (r, l1), kidA h (r2, l2)] _) ?_
    refine J.ent (KidsS_mk (h := h) (fs := [e]) [(r, l1), (r2, l2)] rfl _) ?_
    rw [hwv]
    refine J.ent (Nd_mk' (h := h + 1) (c := 5) (q := nr) (l := l') (fs := [e]) (qs := [r, r2]) (pk2 (by repeat (first | exact pk_head _ _ | apply pk_tail)) (by repeat (first | exact pk_head _ _ | apply pk_tail))) (by simp)) ?_
    repeat (first | refine CW.seq ?_ | refine PW.then_ ?_ | refine PW.then_to rfl ?_ | refine CW.block ?_ | refine CW.skip ?_ | refine CW.ret ?_ | refine PW.then_ret ?_ | refine PW.block_ret ?_ | refine Cut.ret ?_ | refine Rnd.ret ?_ | refine PW.block_normal ?_ | refine CW.exit ?_ | refine PW.then_exit ?_ | refine PW.block_hit ?_ | refine PW.block_miss rfl ?_ | refine Cut.exit ?_ | refine Rnd.exit ?_)
    exact Fin.end0 rfl [_] ⟨rfl, rfl⟩ (Ix_mk (n := l'.length) (h := h + 1) (r := nr) rfl (pk2 (by repeat (first | exact pk_head _ _ | apply pk_tail)) (by repeat (first | exact pk_head _ _ | apply pk_tail))))
  · refine CW.region ?_
    refine L1 (ps_move rfl).os ?_
    refine L1 (ps_nil rfl).os ?_
    refine L1 (ps_fa T.fa26_0 (by decide) rfl).os ?_
    refine L1 (os_load1 (b := x) (v := ptr r) (by repeat (first | exact pk_head _ _ | apply pk_tail)) T.ag24 rfl rfl) ?_
    refine L1 (ps_nil rfl).os ?_
    refine L1 (ps_fa T.fa50_0 (by decide) rfl).os ?_
    refine L1 (os_load1 (b := r) (v := .slice kq' gs.length kd') (by repeat (first | exact pk_head _ _ | apply pk_tail)) T.ag22 rfl rfl) ?_
    refine L1 (ps_len_sl T.un22 rfl).os ?_
    refine L1 (ps_f (ps_gtr rfl rfl) (h5)).os ?_
    refine LW.nil ?_
    refine J.ent ((Ent.perm (pkc4 (by repeat (first | exact pk_head _ _ | apply pk_tail)) (by repeat (first | exact pk_head _ _ | apply pk_tail)) (by repeat (first | exact pk_head _ _ | apply pk_tail)) (by repeat (first | exact pk_head _ _ | apply pk_tail)))).trans (hnode' _)) ?_
    refine J.ent (Nd_mk' (h := h) (c := 5) (q := r) (l := l') (fs := gs) (qs := rs) (pk2 (by repeat (first | exact pk_head _ _ | apply pk_tail)) (by repeat (first | exact pk_head _ _ | apply pk_tail))) (by omega)) ?_
    repeat (first | refine CW.seq ?_ | refine PW.then_ ?_ | refine PW.then_to rfl ?_ | refine CW.block ?_ | refine CW.skip ?_ | refine CW.ret ?_ | refine PW.then_ret ?_ | refine PW.block_ret ?_ | refine Cut.ret ?_ | refine Rnd.ret ?_ | refine PW.block_normal ?_ | refine CW.exit ?_ | refine PW.then_exit ?_ | refine PW.block_hit ?_ | refine PW.block_miss rfl ?_ | refine Cut.exit ?_ | refine Rnd.exit ?_)
    refine CW.cond_false rfl ?_
    repeat (first | refine CW.seq ?_ | refine PW.then_ ?_ | refine PW.then_to rfl ?_ | refine CW.block ?_ | refine CW.skip ?_ | refine CW.ret ?_ | refine PW.then_ret ?_ | refine PW.block_ret ?_ | refine Cut.ret ?_ | refine Rnd.ret ?_ | refine PW.block_normal ?_ | refine CW.exit ?_ | refine PW.then_exit ?_ | refine PW.block_hit ?_ | refine PW.block_miss rfl ?_ | refine Cut.exit ?_ | refine Rnd.exit ?_)
    exact Fin.end0 rfl [_] ⟨rfl, rfl⟩ (Ix_mk (n := l'.length) (h := h) (r := r) rfl (pk2 (by repeat (first | exact pk_head _ _ | apply pk_tail)) (by repeat (first | exact pk_head _ _ | apply pk_tail))))
end Go.Proofs.Ytejphoheaeplbaa
