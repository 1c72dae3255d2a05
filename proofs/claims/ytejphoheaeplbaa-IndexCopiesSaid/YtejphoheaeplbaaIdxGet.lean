/- The index's Get: its contract over the entries. -/
import Derived.Test.YtejphoheaeplbaaIdxApi
namespace Go.Proofs.Ytejphoheaeplbaa
set_option linter.unusedVariables false
set_option linter.unusedSimpArgs false
open Go Go.SL

theorem Kids_sub {h : Nat} {fs : List En} {qs : List Nat} {l : List En} : ∀ L, Kids h fs qs l L → ∀ e ∈ fs, e ∈ l := by
  cases h with
  | zero => rintro L ⟨⟨rfl, rfl⟩, _⟩ e he; exact he
  | succ h => rintro L ⟨ts, ⟨h1, rfl, rfl⟩, _⟩ e he; exact weave_mem (by rw [List.length_map, h1]) he
theorem Kids_hit {h key : Nat} {fs : List En} {qs : List Nat} {l : List En} (hs : Srt l) (hh : hit key fs = true) : ∀ L, Kids h fs qs l L → lkp key l = (fs[pl key fs]?).map (·.2) := by
  cases h with
  | zero => rintro L ⟨⟨rfl, rfl⟩, _⟩; exact (leaf_hit (v := 0) hh).2
  | succ h => rintro L ⟨ts, ⟨h1, rfl, rfl⟩, _⟩; exact (node_hit (v := 0) (by rw [List.length_map, h1]) hs hh).2
theorem KidsS_open {h : Nat} {fs : List En} {qs : List Nat} {l : List En} {w0 : World} {As Bs : List Asn} {G : World → Prop} (hp : As.Perm (Kids (h + 1) fs qs l :: Bs))
    (k : ∀ ts : List (Nat × List En), ts.length = fs.length + 1 → qs = ts.map (·.1) → l = weave (ts.map (·.2)) fs → J w0 (AllP (ts.map (kidA h)) :: Bs) G) : J w0 As G := J.mk fun w hw => by
  obtain ⟨L, a1, L1, L2, a3, ⟨ts, ⟨h1, h2, h3⟩, h4⟩, a5⟩ := hw.perm hp
  exact (k ts h1 h2 h3).run w ⟨L, a1, L1, L2, a3, h4, a5⟩
theorem Kids0_open {fs : List En} {qs : List Nat} {l : List En} {w0 : World} {As Bs : List Asn} {G : World → Prop} (hp : As.Perm (Kids 0 fs qs l :: Bs)) (k : qs = [] → l = fs → J w0 Bs G) : J w0 As G := J.mk fun w hw => by
  obtain ⟨L, a1, L1, L2, a3, ⟨⟨h1, h2⟩, rfl⟩, a5⟩ := hw.perm hp
  exact (k h1 h2).run w ⟨L, a1, sat_perm a5 a3.symm⟩
def gotV : Option Int → Value
  | some v => .tuple #[.int .i64 v, .bool true]
  | none => .tuple #[.int .i64 0, .bool false]
theorem Get_spec (x key : Nat) (l : List En) (hk : key < M128) (hs : Srt l) (hm : ∀ e ∈ l, e.1 < M128) :
    FSpec Try.prog 11 [ptr x, .agg (nc key).toArray] [Ix x l] (fun v As => v = gotV (lkp key l) ∧ As = [Ix x l]) := by
  have hM := M128_eq
  refine FSpec.intro Try.func11 rfl 41 Try.ntmps11 (Nat.le_of_ble_eq_true rfl) fun w0 F => ?_
  show CW _ _ _ _ _ _ (_ :: F)
  refine Ix_open (pk_head _ _) fun rv X hX => ?_
  repeat (first | refine CW.seq ?_ | refine PW.then_ ?_ | refine PW.then_to rfl ?_ | refine CW.block ?_ | refine CW.skip ?_ | refine CW.ret ?_ | refine PW.then_ret ?_ | refine PW.block_ret ?_ | refine Cut.ret ?_ | refine Rnd.ret ?_ | refine PW.block_normal ?_ | refine CW.exit ?_ | refine PW.then_exit ?_ | refine PW.block_hit ?_ | refine PW.block_miss rfl ?_ | refine Cut.exit ?_ | refine Rnd.exit ?_)
  refine CW.region ?_
  refine LE (os_box (vs := nc key) rfl (by rfl)) ?_
  rintro _ _ ⟨b3, rfl, rfl⟩
  refine L1 (ps_assign rfl).os ?_
  refine L1 (ps_assign rfl).os ?_
  refine LW.nil ?_
  repeat (first | refine CW.seq ?_ | refine PW.then_ ?_ | refine PW.then_to rfl ?_ | refine CW.block ?_ | refine CW.skip ?_ | refine CW.ret ?_ | refine PW.then_ret ?_ | refine PW.block_ret ?_ | refine Cut.ret ?_ | refine Rnd.ret ?_ | refine PW.block_normal ?_ | refine CW.exit ?_ | refine PW.then_exit ?_ | refine PW.block_hit ?_ | refine PW.block_miss rfl ?_ | refine Cut.exit ?_ | refine Rnd.exit ?_)
  refine CW.region ?_
  refine L1 (ps_move rfl).os ?_
  refine L1 (ps_nil rfl).os ?_
  refine L1 (ps_fa T.fa26_0 (by decide) rfl).os ?_
  refine L1 (os_load1 (b := x) (v := .pointer rv) (by repeat (first | exact pk_head _ _ | apply pk_tail)) T.ag24 rfl rfl) ?_
  refine L1 (ps_assign rfl).os ?_
  refine LW.nil ?_
  repeat (first | refine CW.seq ?_ | refine PW.then_ ?_ | refine PW.then_to rfl ?_ | refine CW.block ?_ | refine CW.skip ?_ | refine CW.ret ?_ | refine PW.then_ret ?_ | refine PW.block_ret ?_ | refine Cut.ret ?_ | refine Rnd.ret ?_ | refine PW.block_normal ?_ | refine CW.exit ?_ | refine PW.then_exit ?_ | refine PW.block_hit ?_ | refine PW.block_miss rfl ?_ | refine Cut.exit ?_ | refine Rnd.exit ?_)
  rcases hX with ⟨rfl, rfl, rfl⟩ | ⟨h, r, rfl, rfl⟩
  · refine CW.loopM (α := Unit) [4, 5, 6, 7, 8, 13, 14, 15, 16, 17, 18, 19, 20, 21, 22, 23, 24, 25, 26, 27, 28, 29, 30, 31, 32, 33, 34, 35, 36, 37, 38, 39, 40] (fun _ _ => True) (fun _ => [(6, .pointer none)]) (fun _ => cb x 26 [.pointer none, .int .i64 0] :: F) 0 () trivial ⟨rfl, trivial⟩ (by repeat (first | exact Ent.refl _ | (apply Ent.cons; · repeat (first | exact pk_head _ _ | apply pk_tail)) | apply Ent.skip)) ?_
    rintro _ _ _ _
    repeat (first | refine CW.seq ?_ | refine PW.then_ ?_ | refine PW.then_to rfl ?_ | refine CW.block ?_ | refine CW.skip ?_ | refine CW.ret ?_ | refine PW.then_ret ?_ | refine PW.block_ret ?_ | refine Cut.ret ?_ | refine Rnd.ret ?_ | refine PW.block_normal ?_ | refine CW.exit ?_ | refine PW.then_exit ?_ | refine PW.block_hit ?_ | refine PW.block_miss rfl ?_ | refine Cut.exit ?_ | refine Rnd.exit ?_)
    refine CW.region ?_
    refine L1 (ps_move rfl).os ?_
    refine L1 (ps_ptr_neq_nil T.un24 rfl rfl).os ?_
    refine LW.nil ?_
    repeat (first | refine CW.seq ?_ | refine PW.then_ ?_ | refine PW.then_to rfl ?_ | refine CW.block ?_ | refine CW.skip ?_ | refine CW.ret ?_ | refine PW.then_ret ?_ | refine PW.block_ret ?_ | refine Cut.ret ?_ | refine Rnd.ret ?_ | refine PW.block_normal ?_ | refine CW.exit ?_ | refine PW.then_exit ?_ | refine PW.block_hit ?_ | refine PW.block_miss rfl ?_ | refine Cut.exit ?_ | refine Rnd.exit ?_)
    refine CW.cond_false rfl ?_
    repeat (first | refine CW.seq ?_ | refine PW.then_ ?_ | refine PW.then_to rfl ?_ | refine CW.block ?_ | refine CW.skip ?_ | refine CW.ret ?_ | refine PW.then_ret ?_ | refine PW.block_ret ?_ | refine Cut.ret ?_ | refine Rnd.ret ?_ | refine PW.block_normal ?_ | refine CW.exit ?_ | refine PW.then_exit ?_ | refine PW.block_hit ?_ | refine PW.block_miss rfl ?_ | refine Cut.exit ?_ | refine Rnd.exit ?_)
    refine CW.region ?_
    refine L1 (ps_assign rfl).os ?_
    refine L1 (ps_assign rfl).os ?_
    refine LW.nil ?_
    repeat (first | refine CW.seq ?_ | refine PW.then_ ?_ | refine PW.then_to rfl ?_ | refine CW.block ?_ | refine CW.skip ?_ | refine CW.ret ?_ | refine PW.then_ret ?_ | refine PW.block_ret ?_ | refine Cut.ret ?_ | refine Rnd.ret ?_ | refine PW.block_normal ?_ | refine CW.exit ?_ | refine PW.then_exit ?_ | refine PW.block_hit ?_ | refine PW.block_miss rfl ?_ | refine Cut.exit ?_ | refine Rnd.exit ?_)
    exact Fin.ret2 (v1 := .int .i64 0) (v2 := .bool false) rfl [_] rfl rfl ⟨rfl, rfl⟩ (Ix_new x F)
  refine CW.loopM (α := Nat × Nat × List En × Asn) [4, 5, 6, 7, 8, 13, 14, 15, 16, 17, 18, 19, 20, 21, 22, 23, 24, 25, 26, 27, 28, 29, 30, 31, 32, 33, 34, 35, 36, 37, 38, 39, 40] (fun k a => k = a.1 ∧ lkp key a.2.2.1 = lkp key l ∧ Srt a.2.2.1 ∧ (∀ e ∈ a.2.2.1, e.1 < M128) ∧ ∀ Bs, Ent (Nd a.1 5 a.2.1 a.2.2.1 :: a.2.2.2 :: Bs) (Ix x l :: Bs))
    (fun a => [(6, ptr a.2.1)]) (fun a => Nd a.1 5 a.2.1 a.2.2.1 :: a.2.2.2 :: cb b3 29 (nc key) :: F) h (h, r, l, cb x 26 [ptr r, .int .i64 (l.length : Nat)]) ⟨rfl, rfl, hs, hm, fun Bs => Ix_mk (h := h) (r := r) rfl (pk2 (by repeat (first | exact pk_head _ _ | apply pk_tail)) (by repeat (first | exact pk_head _ _ | apply pk_tail)))⟩ ⟨rfl, trivial⟩ (by repeat (first | exact Ent.refl _ | (apply Ent.cons; · repeat (first | exact pk_head _ _ | apply pk_tail)) | apply Ent.skip)) ?_
  rintro k ⟨h, q, lc, X⟩ g ⟨hkh, hlk, hsc, hmc, hX⟩
  dsimp only at hkh hlk hsc hmc hX ⊢
  refine Nd_open (pk_head _ _) fun fs qs hfs => ?_
  refine J.fact (p := ∀ e ∈ fs, e.1 < M128) (A := Kids h fs qs lc) (by repeat (first | exact pk_head _ _ | apply pk_tail)) (fun L hL e he => hmc e (Kids_sub L hL e he)) fun hmf => ?_
  refine Kids_rs (by repeat (first | exact pk_head _ _ | apply pk_tail)) fun hrs => ?_
  refine Node_open (p := q) (by repeat (first | exact pk_head _ _ | apply pk_tail)) fun kq kd vq vd cq cd hc0 fk fv fc => ?_
  have hnode : ∀ Bs, Ent (cb q 50 [.slice kq fs.length kd, .slice vq fs.length vd, .slice cq qs.length cd] :: KSl kq fs.length kd fs :: VSl vq fs.length vd fs :: CSl cq qs.length cd qs :: Bs) (Node q fs qs :: Bs) := fun Bs =>
    Node_mk kq _ kd vq vd cq _ cd rfl rfl hc0
  have hp := fun vv cv => place_spec q key fs fs.length kd kq vv cv (KSl kq fs.length kd fs) rfl (kc_rows rfl fk) hk hmf
  repeat (first | refine CW.seq ?_ | refine PW.then_ ?_ | refine PW.then_to rfl ?_ | refine CW.block ?_ | refine CW.skip ?_ | refine CW.ret ?_ | refine PW.then_ret ?_ | refine PW.block_ret ?_ | refine Cut.ret ?_ | refine Rnd.ret ?_ | refine PW.block_normal ?_ | refine CW.exit ?_ | refine PW.then_exit ?_ | refine PW.block_hit ?_ | refine PW.block_miss rfl ?_ | refine Cut.exit ?_ | refine Rnd.exit ?_)
  refine CW.region ?_
  refine L1 (ps_move rfl).os ?_
  refine L1 (ps_ptr_neq_nil T.un24 rfl rfl).os ?_
  refine LW.nil ?_
  repeat (first | refine CW.seq ?_ | refine PW.then_ ?_ | refine PW.then_to rfl ?_ | refine CW.block ?_ | refine CW.skip ?_ | refine CW.ret ?_ | refine PW.then_ret ?_ | refine PW.block_ret ?_ | refine Cut.ret ?_ | refine Rnd.ret ?_ | refine PW.block_normal ?_ | refine CW.exit ?_ | refine PW.then_exit ?_ | refine PW.block_hit ?_ | refine PW.block_miss rfl ?_ | refine Cut.exit ?_ | refine Rnd.exit ?_)
  refine CW.cond_true rfl ?_
  repeat (first | refine CW.seq ?_ | refine PW.then_ ?_ | refine PW.then_to rfl ?_ | refine CW.block ?_ | refine CW.skip ?_ | refine CW.ret ?_ | refine PW.then_ret ?_ | refine PW.block_ret ?_ | refine Cut.ret ?_ | refine Rnd.ret ?_ | refine PW.block_normal ?_ | refine CW.exit ?_ | refine PW.then_exit ?_ | refine PW.block_hit ?_ | refine PW.block_miss rfl ?_ | refine Cut.exit ?_ | refine Rnd.exit ?_)
  refine CW.region ?_
  refine L1 (ps_move rfl).os ?_
  refine L1 (os_loadAll (b := b3) (cs := nc key) (by repeat (first | exact pk_head _ _ | apply pk_tail)) T.ag29 (by exact T.sz29) rfl) ?_
  refine L1 (os_call2 (hp _ _) Try.func18 (by decide +kernel) rfl rfl (by repeat (first | exact pk_head _ _ | apply pk_tail)) (by repeat (first | exact pk_head _ _ | apply pk_tail))) ?_
  refine L1 (ps_move rfl).os ?_
  refine L1 (ps_extract rfl rfl).os ?_
  refine L1 (ps_extract rfl rfl).os ?_
  refine L1 (ps_assign rfl).os ?_
  refine L1 (ps_assign rfl).os ?_
  refine LW.nil ?_
  repeat (first | refine CW.seq ?_ | refine PW.then_ ?_ | refine PW.then_to rfl ?_ | refine CW.block ?_ | refine CW.skip ?_ | refine CW.ret ?_ | refine PW.then_ret ?_ | refine PW.block_ret ?_ | refine Cut.ret ?_ | refine Rnd.ret ?_ | refine PW.block_normal ?_ | refine CW.exit ?_ | refine PW.then_exit ?_ | refine PW.block_hit ?_ | refine PW.block_miss rfl ?_ | refine Cut.exit ?_ | refine Rnd.exit ?_)
  refine CW.region ?_
  refine L1 (ps_move rfl).os ?_
  refine LW.nil ?_
  repeat (first | refine CW.seq ?_ | refine PW.then_ ?_ | refine PW.then_to rfl ?_ | refine CW.block ?_ | refine CW.skip ?_ | refine CW.ret ?_ | refine PW.then_ret ?_ | refine PW.block_ret ?_ | refine Cut.ret ?_ | refine Rnd.ret ?_ | refine PW.block_normal ?_ | refine CW.exit ?_ | refine PW.then_exit ?_ | refine PW.block_hit ?_ | refine PW.block_miss rfl ?_ | refine Cut.exit ?_ | refine Rnd.exit ?_)
  cases hh : hit key fs with
  | true =>
    refine CW.cond_true rfl ?_
    repeat (first | refine CW.seq ?_ | refine PW.then_ ?_ | refine PW.then_to rfl ?_ | refine CW.block ?_ | refine CW.skip ?_ | refine CW.ret ?_ | refine PW.then_ret ?_ | refine PW.block_ret ?_ | refine Cut.ret ?_ | refine Rnd.ret ?_ | refine PW.block_normal ?_ | refine CW.exit ?_ | refine PW.then_exit ?_ | refine PW.block_hit ?_ | refine PW.block_miss rfl ?_ | refine Cut.exit ?_ | refine Rnd.exit ?_)
    obtain ⟨hpl, hkey⟩ := hit_true hh
    refine J.fact (p := lkp key lc = some fs[pl key fs].2) (A := Kids h fs qs lc) (by repeat (first | exact pk_head _ _ | apply pk_tail)) (fun L hL => by rw [Kids_hit hsc hh L hL, List.getElem?_eq_getElem hpl]; rfl) fun hlc => ?_
    obtain ⟨vg, rfl⟩ := fv.at_ (by omega)
    have hve := vc_at (List.getElem?_eq_getElem hpl)
    have hlv : lkp key l = some fs[pl key fs].2 := hlk.symm.trans hlc
    generalize fs[pl key fs].2 = u at *
    refine CW.region ?_
    refine L1 (ps_move rfl).os ?_
    refine L1 (ps_nil rfl).os ?_
    refine L1 (ps_fa T.fa50_1 (by decide) rfl).os ?_
    refine L1 (os_load1 (b := q) (v := .slice (some ⟨vg, 0, none⟩) fs.length vd) (by repeat (first | exact pk_head _ _ | apply pk_tail)) T.ag47 rfl rfl) ?_
    refine L1 (ps_move rfl).os ?_
    refine L1 (ps_ia_slice T.un47 T.sz3 rfl rfl (by omega) (by omega)).os ?_
    refine L1 (os_loadS1 (v := .int .i64 u) (Src.part (i := pl key fs * 1) (Src.ownG (xs := vc fs) (by repeat (first | exact pk_head _ _ | apply pk_tail)) (fun _ => ⟨_, rfl⟩)) hve) T.ag3 rfl) ?_
    refine L1 (ps_assign rfl).os ?_
    refine L1 (ps_assign rfl).os ?_
    refine LW.nil ?_
    repeat (first | refine CW.seq ?_ | refine PW.then_ ?_ | refine PW.then_to rfl ?_ | refine CW.block ?_ | refine CW.skip ?_ | refine CW.ret ?_ | refine PW.then_ret ?_ | refine PW.block_ret ?_ | refine Cut.ret ?_ | refine Rnd.ret ?_ | refine PW.block_normal ?_ | refine CW.exit ?_ | refine PW.then_exit ?_ | refine PW.block_hit ?_ | refine PW.block_miss rfl ?_ | refine Cut.exit ?_ | refine Rnd.exit ?_)
    refine Fin.ret2 (v1 := .int .i64 u) (v2 := .bool true) rfl [_] rfl rfl ⟨by rw [hlv]; rfl, rfl⟩ ?_
    refine ((Ent.perm (pkc4 (by repeat (first | exact pk_head _ _ | apply pk_tail)) (by repeat (first | exact pk_head _ _ | apply pk_tail)) (by repeat (first | exact pk_head _ _ | apply pk_tail)) (by repeat (first | exact pk_head _ _ | apply pk_tail)))).trans (hnode _)).trans ?_
    refine (Nd_mk' (h := h) (c := 5) (q := q) (l := lc) (fs := fs) (qs := qs) (pk2 (by repeat (first | exact pk_head _ _ | apply pk_tail)) (by repeat (first | exact pk_head _ _ | apply pk_tail))) hfs).trans ?_
    refine (Ent.perm (pk2 (by repeat (first | exact pk_head _ _ | apply pk_tail)) (B := X) (by repeat (first | exact pk_head _ _ | apply pk_tail)))).trans ((hX _).trans ?_)
    exact (by repeat (first | exact Ent.refl _ | (apply Ent.cons; · repeat (first | exact pk_head _ _ | apply pk_tail)) | apply Ent.skip))
  | false =>
    refine CW.cond_false rfl ?_
    repeat (first | refine CW.seq ?_ | refine PW.then_ ?_ | refine PW.then_to rfl ?_ | refine CW.block ?_ | refine CW.skip ?_ | refine CW.ret ?_ | refine PW.then_ret ?_ | refine PW.block_ret ?_ | refine Cut.ret ?_ | refine Rnd.ret ?_ | refine PW.block_normal ?_ | refine CW.exit ?_ | refine PW.then_exit ?_ | refine PW.block_hit ?_ | refine PW.block_miss rfl ?_ | refine Cut.exit ?_ | refine Rnd.exit ?_)
    have hple := pl_le key fs
    cases h with
    | zero =>
      refine Kids0_open (fs := fs) (qs := qs) (l := lc) (by repeat (first | exact pk_head _ _ | apply pk_tail)) fun h1 h2 => ?_
      subst h1
      subst h2
      obtain ⟨rfl, rfl⟩ := hc0 rfl
      refine CW.region ?_
      refine L1 (ps_move rfl).os ?_
      refine L1 (ps_nil rfl).os ?_
      refine L1 (ps_fa T.fa50_2 (by decide) rfl).os ?_
      refine L1 (os_load1 (b := q) (v := .slice none 0 0) (by repeat (first | exact pk_head _ _ | apply pk_tail)) T.ag48 rfl rfl) ?_
      refine L1 (ps_sl_eql_nil T.un48 rfl rfl).os ?_
      refine LW.nil ?_
      repeat (first | refine CW.seq ?_ | refine PW.then_ ?_ | refine PW.then_to rfl ?_ | refine CW.block ?_ | refine CW.skip ?_ | refine CW.ret ?_ | refine PW.then_ret ?_ | refine PW.block_ret ?_ | refine Cut.ret ?_ | refine Rnd.ret ?_ | refine PW.block_normal ?_ | refine CW.exit ?_ | refine PW.then_exit ?_ | refine PW.block_hit ?_ | refine PW.block_miss rfl ?_ | refine Cut.exit ?_ | refine Rnd.exit ?_)
      refine CW.cond_true rfl ?_
      repeat (first | refine CW.seq ?_ | refine PW.then_ ?_ | refine PW.then_to rfl ?_ | refine CW.block ?_ | refine CW.skip ?_ | refine CW.ret ?_ | refine PW.then_ret ?_ | refine PW.block_ret ?_ | refine Cut.ret ?_ | refine Rnd.ret ?_ | refine PW.block_normal ?_ | refine CW.exit ?_ | refine PW.then_exit ?_ | refine PW.block_hit ?_ | refine PW.block_miss rfl ?_ | refine Cut.exit ?_ | refine Rnd.exit ?_)
      refine CW.region ?_
      refine L1 (ps_assign rfl).os ?_
      refine L1 (ps_assign rfl).os ?_
      refine LW.nil ?_
      repeat (first | refine CW.seq ?_ | refine PW.then_ ?_ | refine PW.then_to rfl ?_ | refine CW.block ?_ | refine CW.skip ?_ | refine CW.ret ?_ | refine PW.then_ret ?_ | refine PW.block_ret ?_ | refine Cut.ret ?_ | refine Rnd.ret ?_ | refine PW.block_normal ?_ | refine CW.exit ?_ | refine PW.then_exit ?_ | refine PW.block_hit ?_ | refine PW.block_miss rfl ?_ | refine Cut.exit ?_ | refine Rnd.exit ?_)
      refine Fin.ret2 (v1 := .int .i64 0) (v2 := .bool false) rfl [_] rfl rfl ⟨by rw [← hlk, (leaf_miss (v := 0) hsc hh).2]; rfl, rfl⟩ ?_
      refine ((Ent.perm (pkc4 (by repeat (first | exact pk_head _ _ | apply pk_tail)) (by repeat (first | exact pk_head _ _ | apply pk_tail)) (by repeat (first | exact pk_head _ _ | apply pk_tail)) (by repeat (first | exact pk_head _ _ | apply pk_tail)))).trans (hnode _)).trans ?_
      refine (Kids0_mk lc _).trans ((Nd_mk' (h := 0) (c := 5) (q := q) (l := lc) (fs := lc) (qs := []) (pk2 (by repeat (first | exact pk_head _ _ | apply pk_tail)) (by repeat (first | exact pk_head _ _ | apply pk_tail))) hfs).trans ?_)
      refine (Ent.perm (pk2 (by repeat (first | exact pk_head _ _ | apply pk_tail)) (B := X) (by repeat (first | exact pk_head _ _ | apply pk_tail)))).trans ((hX _).trans ?_)
      exact (by repeat (first | exact Ent.refl _ | (apply Ent.cons; · repeat (first | exact pk_head _ _ | apply pk_tail)) | apply Ent.skip))
    | succ h =>
      refine KidsS_open (h := h) (fs := fs) (qs := qs) (l := lc) (by repeat (first | exact pk_head _ _ | apply pk_tail)) fun ts h1 h2 h3 => ?_
      subst h2
      subst h3
      have hqs : (ts.map (·.1)).length = fs.length + 1 := by rw [List.length_map, h1]
      obtain ⟨cg, rfl⟩ := fc.at_ (by omega)
      have lc0 := fc.le
      have mc := fc.mx
      unfold maxLen at mc
      have hp : pl key fs < (ts.map (·.2)).length := by rw [List.length_map, h1]; omega
      have hpt : pl key fs < ts.length := by omega
      obtain ⟨_, e2, e3, e4⟩ := node_miss (v := 0) (by rw [List.length_map, h1]) hsc hh hp
      rw [List.getElem_map] at e2 e3 e4
      have hpq := pc_at (ps := ts.map (·.1)) (i := pl key fs) (q := ts[pl key fs].1) (by rw [List.getElem?_map, List.getElem?_eq_getElem hpt]; rfl)
      have hall := Ent.allOutM (kidA h) ts (pl key fs) hpt
      have hall2 := Ent.allInM (kidA h) ts (pl key fs) hpt
      refine CW.region ?_
      refine L1 (ps_move rfl).os ?_
      refine L1 (ps_nil rfl).os ?_
      refine L1 (ps_fa T.fa50_2 (by decide) rfl).os ?_
      refine L1 (os_load1 (b := q) (v := .slice (some ⟨cg, 0, none⟩) (ts.map (·.1)).length cd) (by repeat (first | exact pk_head _ _ | apply pk_tail)) T.ag48 rfl rfl) ?_
      refine L1 (ps_sl_eql_nil T.un48 rfl rfl).os ?_
      refine LW.nil ?_
      repeat (first | refine CW.seq ?_ | refine PW.then_ ?_ | refine PW.then_to rfl ?_ | refine CW.block ?_ | refine CW.skip ?_ | refine CW.ret ?_ | refine PW.then_ret ?_ | refine PW.block_ret ?_ | refine Cut.ret ?_ | refine Rnd.ret ?_ | refine PW.block_normal ?_ | refine CW.exit ?_ | refine PW.then_exit ?_ | refine PW.block_hit ?_ | refine PW.block_miss rfl ?_ | refine Cut.exit ?_ | refine Rnd.exit ?_)
      refine CW.cond_false rfl ?_
      repeat (first | refine CW.seq ?_ | refine PW.then_ ?_ | refine PW.then_to rfl ?_ | refine CW.block ?_ | refine CW.skip ?_ | refine CW.ret ?_ | refine PW.then_ret ?_ | refine PW.block_ret ?_ | refine Cut.ret ?_ | refine Rnd.ret ?_ | refine PW.block_normal ?_ | refine CW.exit ?_ | refine PW.then_exit ?_ | refine PW.block_hit ?_ | refine PW.block_miss rfl ?_ | refine Cut.exit ?_ | refine Rnd.exit ?_)
      refine CW.region ?_
      refine L1 (ps_move rfl).os ?_
      refine L1 (ps_nil rfl).os ?_
      refine L1 (ps_fa T.fa50_2 (by decide) rfl).os ?_
      refine L1 (os_load1 (b := q) (v := .slice (some ⟨cg, 0, none⟩) (ts.map (·.1)).length cd) (by repeat (first | exact pk_head _ _ | apply pk_tail)) T.ag48 rfl rfl) ?_
      refine L1 (ps_move rfl).os ?_
      refine L1 (ps_ia_slice T.un48 T.sz24 rfl rfl (by omega) (by omega)).os ?_
      refine L1 (os_loadS1 (v := ptr ts[pl key fs].1) (Src.part (i := pl key fs * 1) (Src.ownG (xs := pc (ts.map (·.1))) (by repeat (first | exact pk_head _ _ | apply pk_tail)) (fun _ => ⟨_, rfl⟩)) hpq) T.ag24 rfl) ?_
      refine L1 (ps_assign rfl).os ?_
      refine LW.nil ?_
      repeat (first | refine CW.seq ?_ | refine PW.then_ ?_ | refine PW.then_to rfl ?_ | refine CW.block ?_ | refine CW.skip ?_ | refine CW.ret ?_ | refine PW.then_ret ?_ | refine PW.block_ret ?_ | refine Cut.ret ?_ | refine Rnd.ret ?_ | refine PW.block_normal ?_ | refine CW.exit ?_ | refine PW.then_exit ?_ | refine PW.block_hit ?_ | refine PW.block_miss rfl ?_ | refine Cut.exit ?_ | refine Rnd.exit ?_)
      refine Meet.round h (h, ts[pl key fs].1, ts[pl key fs].2, AllP [Node q fs (ts.map (·.1)), AllP ((ts.take (pl key fs) ++ ts.drop (pl key fs + 1)).map (kidA h)), X]) (by omega) ⟨rfl, by rw [← hlk, e2], e3, fun e he => hmc e (e4 e he), fun Bs => ?_⟩ (by repeat (first | (with_reducible exact Ag.refl _ _) | (with_reducible apply Ag.pu0) | ((with_reducible refine Ag.pu _ ?_ ?_); · exact rfl) | ((with_reducible refine Ag.mix ?_ ?_); · exact rfl) | ((with_reducible refine Ag.pus ?_ ?_); · exact rfl))) ⟨rfl, trivial⟩ ?_
      · dsimp only
        refine (Ent.cons (pk_head _ _) (Ent.unall _ _)).trans ?_
        refine Ent.trans (Bs := kidA h ts[pl key fs] :: AllP ((ts.take (pl key fs) ++ ts.drop (pl key fs + 1)).map (kidA h)) :: Node q fs (ts.map (·.1)) :: X :: Bs) (by repeat (first | exact Ent.refl _ | (apply Ent.cons; · repeat (first | exact pk_head _ _ | apply pk_tail)) | apply Ent.skip)) ?_
        refine (hall2 _).trans ?_
        refine (KidsS_mk (h := h) (fs := fs) ts h1 _).trans ?_
        refine (Nd_mk' (h := h + 1) (c := 5) (q := q) (l := weave (ts.map (·.2)) fs) (fs := fs) (qs := ts.map (·.1)) (pk2 (by repeat (first | exact pk_head _ _ | apply pk_tail)) (by repeat (first | exact pk_head _ _ | apply pk_tail))) hfs).trans ?_
        exact hX Bs
      · dsimp only
        refine ((Ent.perm (pkc4 (by repeat (first | exact pk_head _ _ | apply pk_tail)) (by repeat (first | exact pk_head _ _ | apply pk_tail)) (by repeat (first | exact pk_head _ _ | apply pk_tail)) (by repeat (first | exact pk_head _ _ | apply pk_tail)))).trans (hnode _)).trans ?_
        refine Ent.trans (Bs := AllP (ts.map (kidA h)) :: Node q fs (ts.map (·.1)) :: X :: cb b3 29 (nc key) :: F) (by repeat (first | exact Ent.refl _ | (apply Ent.cons; · repeat (first | exact pk_head _ _ | apply pk_tail)) | apply Ent.skip)) ?_
        refine (hall _).trans ?_
        refine Ent.trans (Bs := [Node q fs (ts.map (·.1)), AllP ((ts.take (pl key fs) ++ ts.drop (pl key fs + 1)).map (kidA h)), X] ++ kidA h ts[pl key fs] :: cb b3 29 (nc key) :: F) (by repeat (first | exact Ent.refl _ | (apply Ent.cons; · repeat (first | exact pk_head _ _ | apply pk_tail)) | apply Ent.skip)) ?_
        refine (Ent.all _ _).trans ?_
        exact (by repeat (first | exact Ent.refl _ | (apply Ent.cons; · repeat (first | exact pk_head _ _ | apply pk_tail)) | apply Ent.skip))
end Go.Proofs.Ytejphoheaeplbaa
