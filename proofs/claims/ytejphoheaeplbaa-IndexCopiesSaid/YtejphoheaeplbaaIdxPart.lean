/- A node's kid is parted in two: the contract of 'part'. -/
import Derived.Test.YtejphoheaeplbaaIdx
namespace Go.Proofs.Ytejphoheaeplbaa
set_option linter.unusedVariables false
set_option linter.unusedSimpArgs false
open Go Go.SL

theorem kc_ins (es : List En) (i : Nat) (e : En) : kc (es.take i ++ e :: es.drop i) = (kc es).take (i * 2) ++ (nc e.1 ++ (kc es).drop (i * 2)) := by rw [kc_append, kc_cons, kc_take, kc_drop]
theorem vc_ins (es : List En) (i : Nat) (e : En) : vc (es.take i ++ e :: es.drop i) = (vc es).take (i * 1) ++ ([.int .i64 e.2] ++ (vc es).drop (i * 1)) := by simp [vc]
theorem pc_ins (es : List Nat) (i : Nat) (e : Nat) : pc (es.take i ++ e :: es.drop i) = (pc es).take (i * 1) ++ ([ptr e] ++ (pc es).drop (i * 1)) := by simp [pc]
theorem KSl_drop (q : Option Addr) (n d i : Nat) (es : List En) : KSl q n d (es.drop i) = slOwn 29 2 (.slice q n d) n ((kc es).drop (i * 2)) := by unfold KSl; rw [kc_drop]
theorem VSl_drop (q : Option Addr) (n d i : Nat) (es : List En) : VSl q n d (es.drop i) = slOwn 3 1 (.slice q n d) n ((vc es).drop (i * 1)) := by unfold VSl; simp [vc]
theorem CSl_drop (q : Option Addr) (n d i : Nat) (es : List Nat) : CSl q n d (es.drop i) = slOwn 24 1 (.slice q n d) n ((pc es).drop (i * 1)) := by unfold CSl; simp [pc]
theorem KSl_take (q : Option Addr) (n d i : Nat) (es : List En) : KSl q n d (es.take i) = slOwn 29 2 (.slice q n d) n ((kc es).take (i * 2)) := by unfold KSl; rw [kc_take]
theorem VSl_take (q : Option Addr) (n d i : Nat) (es : List En) : VSl q n d (es.take i) = slOwn 3 1 (.slice q n d) n ((vc es).take (i * 1)) := by unfold VSl; simp [vc]
theorem CSl_take (q : Option Addr) (n d i : Nat) (es : List Nat) : CSl q n d (es.take i) = slOwn 24 1 (.slice q n d) n ((pc es).take (i * 1)) := by unfold CSl; simp [pc]
theorem KSl_ins (q : Option Addr) (n d i : Nat) (es : List En) (e : En) : KSl q n d (es.take i ++ e :: es.drop i) = slOwn 29 2 (.slice q n d) n ((kc es).take (i * 2) ++ (nc e.1 ++ (kc es).drop (i * 2))) := by unfold KSl; rw [kc_ins]
theorem VSl_ins (q : Option Addr) (n d i : Nat) (es : List En) (e : En) : VSl q n d (es.take i ++ e :: es.drop i) = slOwn 3 1 (.slice q n d) n ((vc es).take (i * 1) ++ ([.int .i64 e.2] ++ (vc es).drop (i * 1))) := by unfold VSl; rw [vc_ins]
theorem CSl_ins (q : Option Addr) (n d i : Nat) (es : List Nat) (e : Nat) : CSl q n d (es.take i ++ e :: es.drop i) = slOwn 24 1 (.slice q n d) n ((pc es).take (i * 1) ++ ([ptr e] ++ (pc es).drop (i * 1))) := by unfold CSl; rw [pc_ins]
theorem kc_ne {es : List En} {n : Nat} (hn : es.length = n) (h : kc es ≠ []) : n ≠ 0 := fun h0 => h (List.eq_nil_of_length_eq_zero (by rw [kc_len]; omega))
theorem vc_ne {es : List En} {n : Nat} (hn : es.length = n) (h : vc es ≠ []) : n ≠ 0 := fun h0 => h (List.eq_nil_of_length_eq_zero (by rw [vc_len]; omega))
theorem pc_ne {es : List Nat} {n : Nat} (hn : es.length = n) (h : pc es ≠ []) : n ≠ 0 := fun h0 => h (List.eq_nil_of_length_eq_zero (by rw [pc_len]; omega))
theorem own_at {q : Option Addr} {n d : Nat} {p : Prop} (h : Fits q n d) (hp : p → n ≠ 0) (hh : p) : ∃ g, q = some ⟨g, 0, none⟩ := h.at_ (hp hh)
theorem one_app {a b : List Value} (ha : ∀ u ∈ a, u.oneCell' = true) (hb : ∀ u ∈ b, u.oneCell' = true) : ∀ u ∈ a ++ b, u.oneCell' = true := fun u hu => by
  rcases List.mem_append.1 hu with h | h
  · exact ha u h
  · exact hb u h
theorem drop_take1 {α : Type} {l : List α} {i : Nat} {x : α} (h : l[i]? = some x) : (l.drop i).take 1 = [x] := by
  obtain ⟨hi, rfl⟩ := List.getElem?_eq_some_iff.1 h
  rw [← List.getElem_cons_drop (h := hi)]; rfl
theorem kc_at {es : List En} {i : Nat} {e : En} (h : es[i]? = some e) : ((kc es).drop (i * 2)).take (nc e.1).length = nc e.1 := by
  obtain ⟨hi, rfl⟩ := List.getElem?_eq_some_iff.1 h
  rw [← kc_drop, ← List.getElem_cons_drop (h := hi), kc_cons]
  simp
theorem vc_at {es : List En} {i : Nat} {e : En} (h : es[i]? = some e) : ((vc es).drop (i * 1)).take 1 = [.int .i64 e.2] := drop_take1 (by simp [vc, h])
theorem pc_at {ps : List Nat} {i q : Nat} (h : ps[i]? = some q) : ((pc ps).drop (i * 1)).take 1 = [ptr q] := drop_take1 (by simp [pc, h])
theorem Node_mk2 {p n m l : Nat} {es : List En} {ps : List Nat} {As Bs : List Asn} {kq vq cq : Option Addr} {kd vd cd : Nat}
    (hp : As.Perm (cb p 50 [.slice kq n kd, .slice vq m vd, .slice cq l cd] :: KSl kq n kd es :: VSl vq m vd es :: CSl cq l cd ps :: Bs)) (hn : es.length = n) (hm : es.length = m) (hl : ps.length = l) (h0 : ps = [] → cq = none ∧ cd = 0) : Ent As (Node p es ps :: Bs) := by
  subst hn
  subst hm
  subst hl
  exact (Ent.perm hp).trans (Node_mk kq _ kd vq vd cq _ cd rfl rfl h0)

theorem pkc4 {A B C D : Asn} {As Bs Cs Ds Es : List Asn} (h1 : As.Perm (A :: Bs)) (h2 : Bs.Perm (B :: Cs)) (h3 : Cs.Perm (C :: Ds)) (h4 : Ds.Perm (D :: Es)) : As.Perm (A :: B :: C :: D :: Es) :=
  h1.trans ((h2.trans ((h3.trans (h4.cons C)).cons B)).cons A)
theorem part_spec (p q i m : Nat) (es fs : List En) (ps qs : List Nat) (e : En) (hi : i ≤ es.length) (hps : ps.length = es.length + 1) (hq : ps[i]? = some q) (hes : es.length ≤ 1000) (hfs : fs.length ≤ 1000) (hm : m = fs.length / 2) (he : fs[m]? = some e)
    (hqs : qs = [] ∨ qs.length = fs.length + 1) :
    FSpec Try.prog 16 [ptr p, .int .i64 (i : Nat)] [Node p es ps, Node q fs qs]
      (fun v As => v = .tuple #[] ∧ ∃ r, As = [Node p (es.take i ++ e :: es.drop i) (ps.take (i + 1) ++ r :: ps.drop (i + 1)), Node q (fs.take m) (qs.take (m + 1)), Node r (fs.drop (m + 1)) (qs.drop (m + 1))]) := by
  obtain ⟨hml, hem⟩ := List.getElem?_eq_some_iff.1 he
  refine FSpec.intro Try.func16 rfl 161 Try.ntmps16 (Nat.le_of_ble_eq_true rfl) fun w0 F => ?_
  show CW _ _ _ _ _ _ (_ :: _ :: F)
  refine Node_open (pk_head _ _) fun kq kd vq vd cq cd hc0 fk fv fc => ?_
  refine Node_open (p := q) (by repeat (first | exact pk_head _ _ | apply pk_tail)) fun kq' kd' vq' vd' cq' cd' hc0' fk' fv' fc' => ?_
  obtain ⟨cg, rfl⟩ := fc.at_ (by omega)
  obtain ⟨kg', rfl⟩ := fk'.at_ (by omega)
  obtain ⟨vg', rfl⟩ := fv'.at_ (by omega)
  have hpq := pc_at hq
  have hke := kc_at he
  have hve := vc_at he
  have lk := fk.le
  have lv := fv.le
  have lc := fc.le
  have lk' := fk'.le
  have lv' := fv'.le
  have lc' := fc'.le
  have mk := fk.mx
  have mv := fv.mx
  have mc := fc.mx
  have mk' := fk'.mx
  have mv' := fv'.mx
  have mc' := fc'.mx
  unfold maxLen at mk mv mc mk' mv' mc'
  clear hem
  generalize hn : es.length = n at *
  generalize hn' : fs.length = n' at *
  generalize hl : ps.length = l at *
  generalize hl' : qs.length = l' at *
  repeat (first | refine CW.seq ?_ | refine PW.then_ ?_ | refine PW.then_to rfl ?_ | refine CW.block ?_ | refine CW.skip ?_ | refine CW.ret ?_ | refine PW.then_ret ?_ | refine PW.block_ret ?_ | refine Cut.ret ?_ | refine Rnd.ret ?_ | refine PW.block_normal ?_ | refine CW.exit ?_ | refine PW.then_exit ?_ | refine PW.block_hit ?_ | refine PW.block_miss rfl ?_ | refine Cut.exit ?_ | refine Rnd.exit ?_)
  refine CW.region ?_
  refine L1 (ps_move rfl).os ?_
  refine L1 (ps_nil rfl).os ?_
  refine L1 (ps_fa T.fa50_2 (by decide) rfl).os ?_
  refine L1 (os_load1 (b := p) (v := .slice (some ⟨cg, 0, none⟩) l cd) (by repeat (first | exact pk_head _ _ | apply pk_tail)) T.ag48 rfl rfl) ?_
  refine L1 (ps_move rfl).os ?_
  refine L1 (ps_ia_slice T.un48 T.sz24 rfl rfl (by omega) (by omega)).os ?_
  refine L1 (os_loadS1 (v := ptr q) (Src.part (i := i * 1) (Src.ownG (xs := pc ps) (by repeat (first | exact pk_head _ _ | apply pk_tail)) (fun _ => ⟨_, rfl⟩)) hpq) T.ag24 rfl) ?_
  refine L1 (ps_assign rfl).os ?_
  refine LW.nil ?_
  repeat (first | refine CW.seq ?_ | refine PW.then_ ?_ | refine PW.then_to rfl ?_ | refine CW.block ?_ | refine CW.skip ?_ | refine CW.ret ?_ | refine PW.then_ret ?_ | refine PW.block_ret ?_ | refine Cut.ret ?_ | refine Rnd.ret ?_ | refine PW.block_normal ?_ | refine CW.exit ?_ | refine PW.then_exit ?_ | refine PW.block_hit ?_ | refine PW.block_miss rfl ?_ | refine Cut.exit ?_ | refine Rnd.exit ?_)
  refine CW.region ?_
  refine L1 (ps_move rfl).os ?_
  refine L1 (ps_nil rfl).os ?_
  refine L1 (ps_fa T.fa50_0 (by decide) rfl).os ?_
  refine L1 (os_load1 (b := q) (v := .slice (some ⟨kg', 0, none⟩) n' kd') (by repeat (first | exact pk_head _ _ | apply pk_tail)) T.ag22 rfl rfl) ?_
  refine L1 (ps_len_sl T.un22 rfl).os ?_
  refine L1 (ps_to (u := .int .i64 ((m : Nat) : Int)) (by congr 1; omega) (ps_quo_i64 rfl rfl (by omega) (by omega))).os ?_
  refine L1 (ps_assign rfl).os ?_
  refine LW.nil ?_
  repeat (first | refine CW.seq ?_ | refine PW.then_ ?_ | refine PW.then_to rfl ?_ | refine CW.block ?_ | refine CW.skip ?_ | refine CW.ret ?_ | refine PW.then_ret ?_ | refine PW.block_ret ?_ | refine Cut.ret ?_ | refine Rnd.ret ?_ | refine PW.block_normal ?_ | refine CW.exit ?_ | refine PW.then_exit ?_ | refine PW.block_hit ?_ | refine PW.block_miss rfl ?_ | refine Cut.exit ?_ | refine Rnd.exit ?_)
  refine CW.cutB (α := Nat) [6, 7, 22, 23, 24, 25, 26, 27, 28, 29, 30, 31, 32, 33, 34, 35] (fun _ => True) (fun z => [(6, ptr z), (7, .int .i64 e.2)]) (fun z => cb z 29 (nc e.1) :: cb q 50 [.slice (some ⟨kg', 0, none⟩) n' kd', .slice (some ⟨vg', 0, none⟩) n' vd', .slice cq' l' cd'] :: KSl (some ⟨kg', 0, none⟩) n' kd' fs :: VSl (some ⟨vg', 0, none⟩) n' vd' fs :: CSl cq' l' cd' qs ::
      cb p 50 [.slice kq n kd, .slice vq n vd, .slice (some ⟨cg, 0, none⟩) l cd] :: KSl kq n kd es :: VSl vq n vd es :: CSl (some ⟨cg, 0, none⟩) l cd ps :: F) ?_ ?_
  · refine CW.drawH [cb q 50 [.slice (some ⟨kg', 0, none⟩) n' kd', .slice (some ⟨vg', 0, none⟩) n' vd', .slice cq' l' cd'], KSl (some ⟨kg', 0, none⟩) n' kd' fs, VSl (some ⟨vg', 0, none⟩) n' vd' fs] [] T.mixed ?_
    refine H_take (i := 0) (some 22) rfl rfl (by kernel_rfl) (by kernel_rfl) (by kernel_rfl) rfl (ps_move rfl).pl (by kernel_rfl) (pkc (by repeat (first | exact pk_head _ _ | apply pk_tail)) (pkc (by repeat (first | exact pk_head _ _ | apply pk_tail)) (pkc (by repeat (first | exact pk_head _ _ | apply pk_tail)) (pkn _)))) ?_
    refine H_take (i := 1) (some 23) rfl rfl (by kernel_rfl) (by kernel_rfl) (by kernel_rfl) rfl (ps_nil rfl).pl (by kernel_rfl) (pkc (by repeat (first | exact pk_head _ _ | apply pk_tail)) (pkc (by repeat (first | exact pk_head _ _ | apply pk_tail)) (pkc (by repeat (first | exact pk_head _ _ | apply pk_tail)) (pkn _)))) ?_
    refine H_take (i := 2) (some 24) rfl rfl (by kernel_rfl) (by kernel_rfl) (by kernel_rfl) rfl (ps_fa T.fa50_0 (by decide) rfl).pl (by kernel_rfl) (pkc (by repeat (first | exact pk_head _ _ | apply pk_tail)) (pkc (by repeat (first | exact pk_head _ _ | apply pk_tail)) (pkc (by repeat (first | exact pk_head _ _ | apply pk_tail)) (pkn _)))) ?_
    refine H_take (i := 3) (some 25) rfl rfl (by kernel_rfl) (by kernel_rfl) (by kernel_rfl) rfl (pl_load1 (b := q) (v := .slice (some ⟨kg', 0, none⟩) n' kd') (by repeat (first | exact pk_head _ _ | apply pk_tail)) T.ag22 rfl rfl) (by kernel_rfl) (pkc (by repeat (first | exact pk_head _ _ | apply pk_tail)) (pkc (by repeat (first | exact pk_head _ _ | apply pk_tail)) (pkc (by repeat (first | exact pk_head _ _ | apply pk_tail)) (pkn _)))) ?_
    refine H_take (i := 4) (some 26) rfl rfl (by kernel_rfl) (by kernel_rfl) (by kernel_rfl) rfl (ps_move rfl).pl (by kernel_rfl) (pkc (by repeat (first | exact pk_head _ _ | apply pk_tail)) (pkc (by repeat (first | exact pk_head _ _ | apply pk_tail)) (pkc (by repeat (first | exact pk_head _ _ | apply pk_tail)) (pkn _)))) ?_
    refine H_take (i := 5) (some 27) rfl rfl (by kernel_rfl) (by kernel_rfl) (by kernel_rfl) rfl (ps_ia_slice T.un22 T.sz29 rfl rfl (by omega) (by omega)).pl (by kernel_rfl) (pkc (by repeat (first | exact pk_head _ _ | apply pk_tail)) (pkc (by repeat (first | exact pk_head _ _ | apply pk_tail)) (pkc (by repeat (first | exact pk_head _ _ | apply pk_tail)) (pkn _)))) ?_
    refine H_take (i := 6) (some 28) rfl rfl (by kernel_rfl) (by kernel_rfl) (by kernel_rfl) rfl (pl_loadS (vs := nc e.1) (fun Bs => Src.part (i := m * 2) (Src.ownG (xs := kc fs) (by repeat (first | exact pk_head _ _ | apply pk_tail)) (fun _ => ⟨_, rfl⟩)) hke) (by simp [nc]) T.ag29 (by exact T.sz29) rfl) (by kernel_rfl) (pkc (by repeat (first | exact pk_head _ _ | apply pk_tail)) (pkc (by repeat (first | exact pk_head _ _ | apply pk_tail)) (pkc (by repeat (first | exact pk_head _ _ | apply pk_tail)) (pkn _)))) ?_
    refine H_take (i := 7) (some 29) rfl rfl (by kernel_rfl) (by kernel_rfl) (by kernel_rfl) rfl (ps_move rfl).pl (by kernel_rfl) (pkc (by repeat (first | exact pk_head _ _ | apply pk_tail)) (pkc (by repeat (first | exact pk_head _ _ | apply pk_tail)) (pkc (by repeat (first | exact pk_head _ _ | apply pk_tail)) (pkn _)))) ?_
    refine H_take (i := 8) (some 30) rfl rfl (by kernel_rfl) (by kernel_rfl) (by kernel_rfl) rfl (ps_nil rfl).pl (by kernel_rfl) (pkc (by repeat (first | exact pk_head _ _ | apply pk_tail)) (pkc (by repeat (first | exact pk_head _ _ | apply pk_tail)) (pkc (by repeat (first | exact pk_head _ _ | apply pk_tail)) (pkn _)))) ?_
    refine H_take (i := 9) (some 31) rfl rfl (by kernel_rfl) (by kernel_rfl) (by kernel_rfl) rfl (ps_fa T.fa50_1 (by decide) rfl).pl (by kernel_rfl) (pkc (by repeat (first | exact pk_head _ _ | apply pk_tail)) (pkc (by repeat (first | exact pk_head _ _ | apply pk_tail)) (pkc (by repeat (first | exact pk_head _ _ | apply pk_tail)) (pkn _)))) ?_
    refine H_take (i := 10) (some 32) rfl rfl (by kernel_rfl) (by kernel_rfl) (by kernel_rfl) rfl (pl_load1 (b := q) (v := .slice (some ⟨vg', 0, none⟩) n' vd') (by repeat (first | exact pk_head _ _ | apply pk_tail)) T.ag47 rfl rfl) (by kernel_rfl) (pkc (by repeat (first | exact pk_head _ _ | apply pk_tail)) (pkc (by repeat (first | exact pk_head _ _ | apply pk_tail)) (pkc (by repeat (first | exact pk_head _ _ | apply pk_tail)) (pkn _)))) ?_
    refine H_take (i := 11) (some 33) rfl rfl (by kernel_rfl) (by kernel_rfl) (by kernel_rfl) rfl (ps_move rfl).pl (by kernel_rfl) (pkc (by repeat (first | exact pk_head _ _ | apply pk_tail)) (pkc (by repeat (first | exact pk_head _ _ | apply pk_tail)) (pkc (by repeat (first | exact pk_head _ _ | apply pk_tail)) (pkn _)))) ?_
    refine H_take (i := 12) (some 34) rfl rfl (by kernel_rfl) (by kernel_rfl) (by kernel_rfl) rfl (ps_ia_slice T.un47 T.sz3 rfl rfl (by omega) (by omega)).pl (by kernel_rfl) (pkc (by repeat (first | exact pk_head _ _ | apply pk_tail)) (pkc (by repeat (first | exact pk_head _ _ | apply pk_tail)) (pkc (by repeat (first | exact pk_head _ _ | apply pk_tail)) (pkn _)))) ?_
    refine H_take (i := 13) (some 35) rfl rfl (by kernel_rfl) (by kernel_rfl) (by kernel_rfl) rfl (pl_loadS1 (v := .int .i64 e.2) (fun Bs => Src.part (i := m * 1) (Src.ownG (xs := vc fs) (by repeat (first | exact pk_head _ _ | apply pk_tail)) (fun _ => ⟨_, rfl⟩)) hve) T.ag3 rfl) (by kernel_rfl) (pkc (by repeat (first | exact pk_head _ _ | apply pk_tail)) (pkc (by repeat (first | exact pk_head _ _ | apply pk_tail)) (pkc (by repeat (first | exact pk_head _ _ | apply pk_tail)) (pkn _)))) ?_
    refine H_branch (rs := [14]) (by kernel_rfl) (by simp) ?_
    refine HR.consE (i := 14) (some 6) rfl rfl rfl (os_alloc T.ti29) ?_ ?_
    · rintro _ _ ⟨b6, rfl, rfl⟩
      refine ⟨fun _ => ⟨_, (pkc (by repeat (first | exact pk_head _ _ | apply pk_tail)) (pkc (by repeat (first | exact pk_head _ _ | apply pk_tail)) (pkc (by repeat (first | exact pk_head _ _ | apply pk_tail)) (pkn _))))⟩, ?_⟩
      refine H_branch (rs := [15]) (by kernel_rfl) (by simp) ?_
      refine HR.cons1 (i := 15) none rfl rfl rfl (os_storeAll (b := b6) (vs := nc e.1) (by repeat (first | exact pk_head _ _ | apply pk_tail)) (by exact T.sz29) rfl rfl (nc_one _) (by rfl)) (pkc (by repeat (first | exact pk_head _ _ | apply pk_tail)) (pkc (by repeat (first | exact pk_head _ _ | apply pk_tail)) (pkc (by repeat (first | exact pk_head _ _ | apply pk_tail)) (pkn _)))) ?_ ?_
      · skip
        refine H_take (i := 16) (some 7) rfl rfl (by kernel_rfl) (by kernel_rfl) (by kernel_rfl) rfl (ps_assign rfl).pl (by kernel_rfl) (pkc (by repeat (first | exact pk_head _ _ | apply pk_tail)) (pkc (by repeat (first | exact pk_head _ _ | apply pk_tail)) (pkc (by repeat (first | exact pk_head _ _ | apply pk_tail)) (pkn _)))) ?_
        refine H_done (by kernel_rfl) ?_
        exact Meet.cut b6 trivial (by repeat (first | (with_reducible exact Ag.refl _ _) | (with_reducible apply Ag.pu0) | ((with_reducible refine Ag.pu _ ?_ ?_); · exact rfl) | ((with_reducible refine Ag.mix ?_ ?_); · exact rfl) | ((with_reducible refine Ag.pus ?_ ?_); · exact rfl))) ⟨rfl, rfl, trivial⟩ (by repeat (first | exact Ent.refl _ | (apply Ent.cons; · repeat (first | exact pk_head _ _ | apply pk_tail)) | apply Ent.skip))
      exact HR.nil
    exact HR.nil
  rintro b6 _ _
  try dsimp only
  repeat (first | refine CW.seq ?_ | refine PW.then_ ?_ | refine PW.then_to rfl ?_ | refine CW.block ?_ | refine CW.skip ?_ | refine CW.ret ?_ | refine PW.then_ret ?_ | refine PW.block_ret ?_ | refine Cut.ret ?_ | refine Rnd.ret ?_ | refine PW.block_normal ?_ | refine CW.exit ?_ | refine PW.then_exit ?_ | refine PW.block_hit ?_ | refine PW.block_miss rfl ?_ | refine Cut.exit ?_ | refine Rnd.exit ?_)
  refine CW.cutB (α := Nat × (Option Addr × Nat) × (Option Addr × Nat)) [8, 36, 37, 38, 39, 40, 41, 42, 43, 44, 45, 46, 47, 48, 49, 50, 51, 52, 53] (fun z => Fits z.2.1.1 (n' - (m + 1)) z.2.1.2 ∧ Fits z.2.2.1 (n' - (m + 1)) z.2.2.2) (fun z => [(8, ptr z.1)])
    (fun z => cb z.1 50 [.slice z.2.1.1 (n' - (m + 1)) z.2.1.2, .slice z.2.2.1 (n' - (m + 1)) z.2.2.2, .slice none 0 0] :: KSl z.2.1.1 (n' - (m + 1)) z.2.1.2 (fs.drop (m + 1)) :: VSl z.2.2.1 (n' - (m + 1)) z.2.2.2 (fs.drop (m + 1)) ::
      cb b6 29 (nc e.1) :: cb q 50 [.slice (some ⟨kg', 0, none⟩) n' kd', .slice (some ⟨vg', 0, none⟩) n' vd', .slice cq' l' cd'] :: KSl (some ⟨kg', 0, none⟩) n' kd' fs :: VSl (some ⟨vg', 0, none⟩) n' vd' fs :: CSl cq' l' cd' qs ::
      cb p 50 [.slice kq n kd, .slice vq n vd, .slice (some ⟨cg, 0, none⟩) l cd] :: KSl kq n kd es :: VSl vq n vd es :: CSl (some ⟨cg, 0, none⟩) l cd ps :: F) ?_ ?_
  · refine CW.drawH [cb q 50 [.slice (some ⟨kg', 0, none⟩) n' kd', .slice (some ⟨vg', 0, none⟩) n' vd', .slice cq' l' cd']] [] T.mixed ?_
    refine H_take (i := 0) (some 36) rfl rfl (by kernel_rfl) (by kernel_rfl) (by kernel_rfl) rfl (ps_move rfl).pl (by kernel_rfl) (pkc (by repeat (first | exact pk_head _ _ | apply pk_tail)) (pkn _)) ?_
    refine H_take (i := 1) (some 37) rfl rfl (by kernel_rfl) (by kernel_rfl) (by kernel_rfl) rfl (ps_nil rfl).pl (by kernel_rfl) (pkc (by repeat (first | exact pk_head _ _ | apply pk_tail)) (pkn _)) ?_
    refine H_take (i := 2) (some 38) rfl rfl (by kernel_rfl) (by kernel_rfl) (by kernel_rfl) rfl (ps_fa T.fa50_0 (by decide) rfl).pl (by kernel_rfl) (pkc (by repeat (first | exact pk_head _ _ | apply pk_tail)) (pkn _)) ?_
    refine H_take (i := 3) (some 39) rfl rfl (by kernel_rfl) (by kernel_rfl) (by kernel_rfl) rfl (pl_load1 (b := q) (v := .slice (some ⟨kg', 0, none⟩) n' kd') (by repeat (first | exact pk_head _ _ | apply pk_tail)) T.ag22 rfl rfl) (by kernel_rfl) (pkc (by repeat (first | exact pk_head _ _ | apply pk_tail)) (pkn _)) ?_
    refine H_take (i := 4) (some 40) rfl rfl (by kernel_rfl) (by kernel_rfl) (by kernel_rfl) rfl (ps_move rfl).pl (by kernel_rfl) (pkc (by repeat (first | exact pk_head _ _ | apply pk_tail)) (pkn _)) ?_
    refine H_take (i := 5) (some 41) rfl rfl (by kernel_rfl) (by kernel_rfl) (by kernel_rfl) rfl (ps_to (u := .int .i64 ((m + 1 : Nat) : Int)) (by rfl) (ps_add_i64 rfl rfl (by omega) (by omega))).pl (by kernel_rfl) (pkc (by repeat (first | exact pk_head _ _ | apply pk_tail)) (pkn _)) ?_
    refine H_take (i := 6) (some 42) rfl rfl (by kernel_rfl) (by kernel_rfl) (by kernel_rfl) rfl (ps_to (u := .slice (cutS (some ⟨kg', 0, none⟩) (m + 1) kd' 2) (n' - (m + 1)) (kd' - (m + 1))) (by rfl) (ps_sl_lg T.un22 T.sz29 rfl rfl (by omega) (by omega))).pl (by kernel_rfl) (pkc (by repeat (first | exact pk_head _ _ | apply pk_tail)) (pkn _)) ?_
    refine H_take (i := 8) (some 44) rfl rfl (by kernel_rfl) (by kernel_rfl) (by kernel_rfl) rfl (ps_move rfl).pl (by kernel_rfl) (pkc (by repeat (first | exact pk_head _ _ | apply pk_tail)) (pkn _)) ?_
    refine H_take (i := 9) (some 45) rfl rfl (by kernel_rfl) (by kernel_rfl) (by kernel_rfl) rfl (ps_nil rfl).pl (by kernel_rfl) (pkc (by repeat (first | exact pk_head _ _ | apply pk_tail)) (pkn _)) ?_
    refine H_take (i := 10) (some 46) rfl rfl (by kernel_rfl) (by kernel_rfl) (by kernel_rfl) rfl (ps_fa T.fa50_1 (by decide) rfl).pl (by kernel_rfl) (pkc (by repeat (first | exact pk_head _ _ | apply pk_tail)) (pkn _)) ?_
    refine H_take (i := 11) (some 47) rfl rfl (by kernel_rfl) (by kernel_rfl) (by kernel_rfl) rfl (pl_load1 (b := q) (v := .slice (some ⟨vg', 0, none⟩) n' vd') (by repeat (first | exact pk_head _ _ | apply pk_tail)) T.ag47 rfl rfl) (by kernel_rfl) (pkc (by repeat (first | exact pk_head _ _ | apply pk_tail)) (pkn _)) ?_
    refine H_take (i := 12) (some 48) rfl rfl (by kernel_rfl) (by kernel_rfl) (by kernel_rfl) rfl (ps_move rfl).pl (by kernel_rfl) (pkc (by repeat (first | exact pk_head _ _ | apply pk_tail)) (pkn _)) ?_
    refine H_take (i := 13) (some 49) rfl rfl (by kernel_rfl) (by kernel_rfl) (by kernel_rfl) rfl (ps_to (u := .int .i64 ((m + 1 : Nat) : Int)) (by rfl) (ps_add_i64 rfl rfl (by omega) (by omega))).pl (by kernel_rfl) (pkc (by repeat (first | exact pk_head _ _ | apply pk_tail)) (pkn _)) ?_
    refine H_take (i := 14) (some 50) rfl rfl (by kernel_rfl) (by kernel_rfl) (by kernel_rfl) rfl (ps_to (u := .slice (cutS (some ⟨vg', 0, none⟩) (m + 1) vd' 1) (n' - (m + 1)) (vd' - (m + 1))) (by rfl) (ps_sl_lg T.un47 T.sz3 rfl rfl (by omega) (by omega))).pl (by kernel_rfl) (pkc (by repeat (first | exact pk_head _ _ | apply pk_tail)) (pkn _)) ?_
    refine H_branch (rs := [7]) (by kernel_rfl) (by simp) ?_
    refine HR.consE (i := 7) (some 43) rfl rfl rfl (os_append0 (news := (kc fs).drop ((m + 1) * 2)) T.un22 T.ti29 (by rfl) (by decide) rfl rfl (by rw [List.length_drop, kc_len]; omega) (Src.dropS (Src.ownG (m := n') (d := kd') (xs := kc fs) (by repeat (first | exact pk_head _ _ | apply pk_tail)) (fun _ => ⟨_, rfl⟩)) (by rw [kc_len]; omega)) (fun u hu => kc_one _ u (List.mem_of_mem_drop hu)) (by unfold maxLen; omega) (by omega)) ?_ ?_
    · rintro _ _ ⟨zq, zd, rfl, rfl, hz⟩
      refine ⟨fun _ => ⟨_, (pkc (by repeat (first | exact pk_head _ _ | apply pk_tail)) (pkn _))⟩, ?_⟩
      refine H_branch (rs := [15]) (by kernel_rfl) (by simp) ?_
      refine HR.consE (i := 15) (some 51) rfl rfl rfl (os_append0 (news := (vc fs).drop ((m + 1) * 1)) T.un47 T.ti3 (by rfl) (by decide) rfl rfl (by rw [List.length_drop, vc_len]; omega) (Src.dropS (Src.ownG (m := n') (d := vd') (xs := vc fs) (by repeat (first | exact pk_head _ _ | apply pk_tail)) (fun _ => ⟨_, rfl⟩)) (by rw [vc_len]; omega)) (fun u hu => vc_one _ u (List.mem_of_mem_drop hu)) (by unfold maxLen; omega) (by omega)) ?_ ?_
      · rintro _ _ ⟨yq, yd, rfl, rfl, hy⟩
        refine ⟨fun _ => ⟨_, (pkc (by repeat (first | exact pk_head _ _ | apply pk_tail)) (pkn _))⟩, ?_⟩
        refine slOwn_info (m := n' - (m + 1)) (q := zq) (d := zd) (by repeat (first | exact pk_head _ _ | apply pk_tail)) fun z1 z2 z3 => ?_
        refine slOwn_info (m := n' - (m + 1)) (q := yq) (d := yd) (by repeat (first | exact pk_head _ _ | apply pk_tail)) fun y1 y2 y3 => ?_
        refine H_take (i := 16) (some 52) rfl rfl (by kernel_rfl) (by kernel_rfl) (by kernel_rfl) rfl (ps_build (by rfl) (T.bd50_0_1 _ _ _ _ _ _)).pl (by kernel_rfl) (pkc (by repeat (first | exact pk_head _ _ | apply pk_tail)) (pkn _)) ?_
        refine H_branch (rs := [17]) (by kernel_rfl) (by simp) ?_
        refine HR.consE (i := 17) (some 53) rfl rfl rfl (os_box (vs := [.slice zq (n' - (m + 1)) zd, .slice yq (n' - (m + 1)) yd, .slice none 0 0]) rfl (by rfl)) ?_ ?_
        · rintro _ _ ⟨r, rfl, rfl⟩
          refine ⟨fun _ => ⟨_, (pkc (by repeat (first | exact pk_head _ _ | apply pk_tail)) (pkn _))⟩, ?_⟩
          refine H_take (i := 18) (some 8) rfl rfl (by kernel_rfl) (by kernel_rfl) (by kernel_rfl) rfl (ps_assign rfl).pl (by kernel_rfl) (pkc (by repeat (first | exact pk_head _ _ | apply pk_tail)) (pkn _)) ?_
          refine H_done (by kernel_rfl) ?_
          exact Meet.cut (r, (zq, zd), (yq, yd)) ⟨⟨z1, z2, z3⟩, ⟨y1, y2, y3⟩⟩ (by repeat (first | (with_reducible exact Ag.refl _ _) | (with_reducible apply Ag.pu0) | ((with_reducible refine Ag.pu _ ?_ ?_); · exact rfl) | ((with_reducible refine Ag.mix ?_ ?_); · exact rfl) | ((with_reducible refine Ag.pus ?_ ?_); · exact rfl))) ⟨rfl, trivial⟩ (by dsimp only; rw [KSl_drop, VSl_drop]; exact (by repeat (first | exact Ent.refl _ | (apply Ent.cons; · repeat (first | exact pk_head _ _ | apply pk_tail)) | apply Ent.skip)))
        exact HR.nil
      exact HR.nil
    exact HR.nil
  rintro ⟨r, ⟨zq, zd⟩, ⟨yq, yd⟩⟩ _ ⟨fz, fy⟩
  repeat (first | refine CW.seq ?_ | refine PW.then_ ?_ | refine PW.then_to rfl ?_ | refine CW.block ?_ | refine CW.skip ?_ | refine CW.ret ?_ | refine PW.then_ret ?_ | refine PW.block_ret ?_ | refine Cut.ret ?_ | refine Rnd.ret ?_ | refine PW.block_normal ?_ | refine CW.exit ?_ | refine PW.then_exit ?_ | refine PW.block_hit ?_ | refine PW.block_miss rfl ?_ | refine Cut.exit ?_ | refine Rnd.exit ?_)
  refine CW.region ?_
  refine L1 (ps_move rfl).os ?_
  refine L1 (ps_nil rfl).os ?_
  refine L1 (ps_fa T.fa50_2 (by decide) rfl).os ?_
  refine L1 (os_load1 (b := q) (v := .slice cq' l' cd') (by repeat (first | exact pk_head _ _ | apply pk_tail)) T.ag48 rfl rfl) ?_
  refine L1 (ps_sl_neq_nil T.un48 rfl rfl).os ?_
  refine LW.nil ?_
  repeat (first | refine CW.seq ?_ | refine PW.then_ ?_ | refine PW.then_to rfl ?_ | refine CW.block ?_ | refine CW.skip ?_ | refine CW.ret ?_ | refine PW.then_ret ?_ | refine PW.block_ret ?_ | refine Cut.ret ?_ | refine Rnd.ret ?_ | refine PW.block_normal ?_ | refine CW.exit ?_ | refine PW.then_exit ?_ | refine PW.block_hit ?_ | refine PW.block_miss rfl ?_ | refine Cut.exit ?_ | refine Rnd.exit ?_)
  refine CW.cutB (α := (Option Addr × Nat) × (Option Addr × Nat)) [59, 60, 61, 62, 63, 64, 65, 66, 67, 68, 69, 70, 71, 72, 73, 74, 75, 76, 77, 78, 79, 80, 81] (fun z => (qs = [] → z.1.1 = none ∧ z.1.2 = 0) ∧ (qs = [] → z.2.1 = none ∧ z.2.2 = 0)) (fun z => [])
    (fun z => cb r 50 [.slice zq (n' - (m + 1)) zd, .slice yq (n' - (m + 1)) yd, .slice z.1.1 (l' - (m + 1)) z.1.2] :: KSl zq (n' - (m + 1)) zd (fs.drop (m + 1)) :: VSl yq (n' - (m + 1)) yd (fs.drop (m + 1)) :: CSl z.1.1 (l' - (m + 1)) z.1.2 (qs.drop (m + 1)) ::
      cb b6 29 (nc e.1) :: cb q 50 [.slice (some ⟨kg', 0, none⟩) n' kd', .slice (some ⟨vg', 0, none⟩) n' vd', .slice z.2.1 (min (m + 1) l') z.2.2] :: KSl (some ⟨kg', 0, none⟩) n' kd' fs :: VSl (some ⟨vg', 0, none⟩) n' vd' fs :: CSl z.2.1 (min (m + 1) l') z.2.2 (qs.take (m + 1)) ::
      cb p 50 [.slice kq n kd, .slice vq n vd, .slice (some ⟨cg, 0, none⟩) l cd] :: KSl kq n kd es :: VSl vq n vd es :: CSl (some ⟨cg, 0, none⟩) l cd ps :: F) ?_ ?_
  · rcases hqs with hqs | hqs
    · subst hqs
      have hl0 : l' = 0 := hl'.symm
      subst hl0
      obtain ⟨rfl, rfl⟩ := hc0' rfl
      refine CW.cond_false rfl ?_
      repeat (first | refine CW.seq ?_ | refine PW.then_ ?_ | refine PW.then_to rfl ?_ | refine CW.block ?_ | refine CW.skip ?_ | refine CW.ret ?_ | refine PW.then_ret ?_ | refine PW.block_ret ?_ | refine Cut.ret ?_ | refine Rnd.ret ?_ | refine PW.block_normal ?_ | refine CW.exit ?_ | refine PW.then_exit ?_ | refine PW.block_hit ?_ | refine PW.block_miss rfl ?_ | refine Cut.exit ?_ | refine Rnd.exit ?_)
      refine Meet.cut ((none, 0), (none, 0)) ⟨fun _ => ⟨rfl, rfl⟩, fun _ => ⟨rfl, rfl⟩⟩ (by repeat (first | (with_reducible exact Ag.refl _ _) | (with_reducible apply Ag.pu0) | ((with_reducible refine Ag.pu _ ?_ ?_); · exact rfl) | ((with_reducible refine Ag.mix ?_ ?_); · exact rfl) | ((with_reducible refine Ag.pus ?_ ?_); · exact rfl))) trivial ?_
      dsimp only
      rw [show (0 : Nat) - (m + 1) = 0 by omega, show min (m + 1) 0 = 0 by omega, List.drop_nil, List.take_nil]
      refine (Ent.slNil 24 1 _).trans ?_
      exact (by repeat (first | exact Ent.refl _ | (apply Ent.cons; · repeat (first | exact pk_head _ _ | apply pk_tail)) | apply Ent.skip))
    · have hne : qs ≠ [] := fun h => by subst h; simp at hl'; omega
      obtain ⟨cg', rfl⟩ := fc'.at_ (by omega)
      refine CW.cond_true rfl ?_
      repeat (first | refine CW.seq ?_ | refine PW.then_ ?_ | refine PW.then_to rfl ?_ | refine CW.block ?_ | refine CW.skip ?_ | refine CW.ret ?_ | refine PW.then_ret ?_ | refine PW.block_ret ?_ | refine Cut.ret ?_ | refine Rnd.ret ?_ | refine PW.block_normal ?_ | refine CW.exit ?_ | refine PW.then_exit ?_ | refine PW.block_hit ?_ | refine PW.block_miss rfl ?_ | refine Cut.exit ?_ | refine Rnd.exit ?_)
      refine CW.region ?_
      refine L1 (ps_move rfl).os ?_
      refine L1 (ps_move rfl).os ?_
      refine L1 (ps_nil rfl).os ?_
      refine L1 (ps_fa T.fa50_2 (by decide) rfl).os ?_
      refine L1 (os_load1 (b := q) (v := .slice (some ⟨cg', 0, none⟩) l' cd') (by repeat (first | exact pk_head _ _ | apply pk_tail)) T.ag48 rfl rfl) ?_
      refine L1 (ps_move rfl).os ?_
      refine L1 (ps_to (u := .int .i64 ((m + 1 : Nat) : Int)) (by rfl) (ps_add_i64 rfl rfl (by omega) (by omega))).os ?_
      refine L1 (ps_to (u := .slice (cutS (some ⟨cg', 0, none⟩) (m + 1) cd' 1) (l' - (m + 1)) (cd' - (m + 1))) (by rfl) (ps_sl_lg T.un48 T.sz24 rfl rfl (by omega) (by omega))).os ?_
      refine LE (os_append0 (news := (pc qs).drop ((m + 1) * 1)) T.un48 T.ti24 (by rfl) (by decide) rfl rfl (by rw [List.length_drop, pc_len]; omega) (Src.dropS (Src.ownG (m := l') (d := cd') (xs := pc qs) (by repeat (first | exact pk_head _ _ | apply pk_tail)) (fun _ => ⟨_, rfl⟩)) (by rw [pc_len]; omega)) (fun u hu => pc_one _ u (List.mem_of_mem_drop hu)) (by unfold maxLen; omega) (by omega)) ?_
      rintro _ _ ⟨xq, xd, rfl, rfl, hx⟩
      refine L1 (ps_nil rfl).os ?_
      refine L1 (ps_fa T.fa50_2 (by decide) rfl).os ?_
      refine L1 (os_store1 (b := r) (by repeat (first | exact pk_head _ _ | apply pk_tail)) T.sz48 rfl rfl (by rfl) (Nat.le_of_ble_eq_true rfl)) ?_
      refine LW.nil ?_
      repeat (first | refine CW.seq ?_ | refine PW.then_ ?_ | refine PW.then_to rfl ?_ | refine CW.block ?_ | refine CW.skip ?_ | refine CW.ret ?_ | refine PW.then_ret ?_ | refine PW.block_ret ?_ | refine Cut.ret ?_ | refine Rnd.ret ?_ | refine PW.block_normal ?_ | refine CW.exit ?_ | refine PW.then_exit ?_ | refine PW.block_hit ?_ | refine PW.block_miss rfl ?_ | refine Cut.exit ?_ | refine Rnd.exit ?_)
      refine CW.region ?_
      refine L1 (ps_move rfl).os ?_
      refine L1 (ps_move rfl).os ?_
      refine L1 (ps_nil rfl).os ?_
      refine L1 (ps_fa T.fa50_2 (by decide) rfl).os ?_
      refine L1 (os_load1 (b := q) (v := .slice (some ⟨cg', 0, none⟩) l' cd') (by repeat (first | exact pk_head _ _ | apply pk_tail)) T.ag48 rfl rfl) ?_
      refine L1 (ps_move rfl).os ?_
      refine L1 (ps_to (u := .int .i64 ((m + 1 : Nat) : Int)) (by rfl) (ps_add_i64 rfl rfl (by omega) (by omega))).os ?_
      refine L1 (ps_move rfl).os ?_
      refine L1 (ps_to (u := .int .i64 ((m + 1 : Nat) : Int)) (by rfl) (ps_add_i64 rfl rfl (by omega) (by omega))).os ?_
      refine L1 (ps_to (u := .slice (some ⟨cg', 0, none⟩) (m + 1) (m + 1)) (by rfl) (ps_sl_hm T.un48 T.sz24 rfl rfl rfl (by omega) (by omega) (by omega))).os ?_
      refine L1 (ps_nil rfl).os ?_
      refine L1 (ps_fa T.fa50_2 (by decide) rfl).os ?_
      refine L1 (os_store1 (b := q) (by repeat (first | exact pk_head _ _ | apply pk_tail)) T.sz48 rfl rfl (by rfl) (Nat.le_of_ble_eq_true rfl)) ?_
      refine LW.nil ?_
      repeat (first | refine CW.seq ?_ | refine PW.then_ ?_ | refine PW.then_to rfl ?_ | refine CW.block ?_ | refine CW.skip ?_ | refine CW.ret ?_ | refine PW.then_ret ?_ | refine PW.block_ret ?_ | refine Cut.ret ?_ | refine Rnd.ret ?_ | refine PW.block_normal ?_ | refine CW.exit ?_ | refine PW.then_exit ?_ | refine PW.block_hit ?_ | refine PW.block_miss rfl ?_ | refine Cut.exit ?_ | refine Rnd.exit ?_)
      refine Meet.cut ((xq, xd), (some ⟨cg', 0, none⟩, m + 1)) ⟨fun h => absurd h hne, fun h => absurd h hne⟩ (by repeat (first | (with_reducible exact Ag.refl _ _) | (with_reducible apply Ag.pu0) | ((with_reducible refine Ag.pu _ ?_ ?_); · exact rfl) | ((with_reducible refine Ag.mix ?_ ?_); · exact rfl) | ((with_reducible refine Ag.pus ?_ ?_); · exact rfl))) trivial ?_
      dsimp only
      rw [show min (m + 1) l' = m + 1 by omega, CSl_drop, CSl_take]
      exact ((Ent.perm (Bs := slOwn 24 1 (.slice (some ⟨cg', 0, none⟩) l' cd') l' (pc qs) :: _) (by repeat (first | exact pk_head _ _ | apply pk_tail))).trans (Ent.slTakeM (m + 1) (by omega) _)).trans (by repeat (first | exact Ent.refl _ | (apply Ent.cons; · repeat (first | exact pk_head _ _ | apply pk_tail)) | apply Ent.skip))
  rintro ⟨⟨xq, xd⟩, ⟨wq, wd⟩⟩ _ ⟨hx, hw⟩
  try dsimp only at hx hw ⊢
  repeat (first | refine CW.seq ?_ | refine PW.then_ ?_ | refine PW.then_to rfl ?_ | refine CW.block ?_ | refine CW.skip ?_ | refine CW.ret ?_ | refine PW.then_ret ?_ | refine PW.block_ret ?_ | refine Cut.ret ?_ | refine Rnd.ret ?_ | refine PW.block_normal ?_ | refine CW.exit ?_ | refine PW.then_exit ?_ | refine PW.block_hit ?_ | refine PW.block_miss rfl ?_ | refine Cut.exit ?_ | refine Rnd.exit ?_)
  refine CW.cutB (α := Unit) [82, 83, 84, 85, 86, 87, 88, 89, 90, 91, 92, 93, 94, 95, 96, 97, 98, 99, 100, 101] (fun z => True) (fun z => [])
    (fun z => cb r 50 [.slice zq (n' - (m + 1)) zd, .slice yq (n' - (m + 1)) yd, .slice xq (l' - (m + 1)) xd] :: KSl zq (n' - (m + 1)) zd (fs.drop (m + 1)) :: VSl yq (n' - (m + 1)) yd (fs.drop (m + 1)) :: CSl xq (l' - (m + 1)) xd (qs.drop (m + 1)) ::
      cb b6 29 (nc e.1) :: cb q 50 [.slice (some ⟨kg', 0, none⟩) m m, .slice (some ⟨vg', 0, none⟩) m m, .slice wq (min (m + 1) l') wd] :: KSl (some ⟨kg', 0, none⟩) n' kd' fs :: VSl (some ⟨vg', 0, none⟩) n' vd' fs :: CSl wq (min (m + 1) l') wd (qs.take (m + 1)) ::
      cb p 50 [.slice kq n kd, .slice vq n vd, .slice (some ⟨cg, 0, none⟩) l cd] :: KSl kq n kd es :: VSl vq n vd es :: CSl (some ⟨cg, 0, none⟩) l cd ps :: F) ?_ ?_
  · refine CW.draw T.mixed ?_
    refine A_take (i := 0) (some 82) rfl rfl (by kernel_rfl) (by kernel_rfl) (by kernel_rfl) rfl (ps_move rfl) ?_
    refine A_take (i := 1) (some 83) rfl rfl (by kernel_rfl) (by kernel_rfl) (by kernel_rfl) rfl (ps_move rfl) ?_
    refine A_take (i := 2) (some 84) rfl rfl (by kernel_rfl) (by kernel_rfl) (by kernel_rfl) rfl (ps_move rfl) ?_
    refine A_take (i := 3) (some 85) rfl rfl (by kernel_rfl) (by kernel_rfl) (by kernel_rfl) rfl (ps_nil rfl) ?_
    refine A_take (i := 4) (some 86) rfl rfl (by kernel_rfl) (by kernel_rfl) (by kernel_rfl) rfl (ps_fa T.fa50_0 (by decide) rfl) ?_
    refine A_take (i := 6) (some 88) rfl rfl (by kernel_rfl) (by kernel_rfl) (by kernel_rfl) rfl (ps_move rfl) ?_
    refine A_take (i := 7) (some 89) rfl rfl (by kernel_rfl) (by kernel_rfl) (by kernel_rfl) rfl (ps_move rfl) ?_
    refine A_take (i := 9) (some 91) rfl rfl (by kernel_rfl) (by kernel_rfl) (by kernel_rfl) rfl (ps_move rfl) ?_
    refine A_take (i := 10) (some 92) rfl rfl (by kernel_rfl) (by kernel_rfl) (by kernel_rfl) rfl (ps_nil rfl) ?_
    refine A_take (i := 11) (some 93) rfl rfl (by kernel_rfl) (by kernel_rfl) (by kernel_rfl) rfl (ps_fa T.fa50_1 (by decide) rfl) ?_
    refine A_take (i := 13) (some 95) rfl rfl (by kernel_rfl) (by kernel_rfl) (by kernel_rfl) rfl (ps_move rfl) ?_
    refine A_take (i := 14) (some 96) rfl rfl (by kernel_rfl) (by kernel_rfl) (by kernel_rfl) rfl (ps_move rfl) ?_
    refine A_branch (rs := [5, 12]) (by kernel_rfl) (by simp) ?_
    refine AR.cons1 (i := 5) (some 87) rfl rfl rfl (os_load1 (b := q) (v := .slice (some ⟨kg', 0, none⟩) n' kd') (by repeat (first | exact pk_head _ _ | apply pk_tail)) T.ag22 rfl rfl) ?_ ?_
    · skip
      refine A_take (i := 8) (some 90) rfl rfl (by kernel_rfl) (by kernel_rfl) (by kernel_rfl) rfl (ps_to (u := .slice (some ⟨kg', 0, none⟩) m m) (by rfl) (ps_sl_hm T.un22 T.sz29 rfl rfl rfl (by omega) (by omega) (by omega))) ?_
      refine A_branch (rs := [12]) (by kernel_rfl) (by simp) ?_
      refine AR.cons1 (i := 12) (some 94) rfl rfl rfl (os_load1 (b := q) (v := .slice (some ⟨vg', 0, none⟩) n' vd') (by repeat (first | exact pk_head _ _ | apply pk_tail)) T.ag47 rfl rfl) ?_ ?_
      · skip
        refine A_take (i := 15) (some 97) rfl rfl (by kernel_rfl) (by kernel_rfl) (by kernel_rfl) rfl (ps_to (u := .slice (some ⟨vg', 0, none⟩) m m) (by rfl) (ps_sl_hm T.un47 T.sz3 rfl rfl rfl (by omega) (by omega) (by omega))) ?_
        refine A_take (i := 16) (some 98) rfl rfl (by kernel_rfl) (by kernel_rfl) (by kernel_rfl) rfl (ps_nil rfl) ?_
        refine A_take (i := 17) (some 99) rfl rfl (by kernel_rfl) (by kernel_rfl) (by kernel_rfl) rfl (ps_fa T.fa50_0 (by decide) rfl) ?_
        refine A_branch (rs := [18]) (by kernel_rfl) (by simp) ?_
        refine AR.cons1 (i := 18) none rfl rfl rfl (os_store1 (b := q) (by repeat (first | exact pk_head _ _ | apply pk_tail)) T.sz22 rfl rfl (by rfl) (Nat.le_of_ble_eq_true rfl)) ?_ ?_
        · skip
          refine A_take (i := 19) (some 100) rfl rfl (by kernel_rfl) (by kernel_rfl) (by kernel_rfl) rfl (ps_nil rfl) ?_
          refine A_take (i := 20) (some 101) rfl rfl (by kernel_rfl) (by kernel_rfl) (by kernel_rfl) rfl (ps_fa T.fa50_1 (by decide) rfl) ?_
          refine A_branch (rs := [21]) (by kernel_rfl) (by simp) ?_
          refine AR.cons1 (i := 21) none rfl rfl rfl (os_store1 (b := q) (by repeat (first | exact pk_head _ _ | apply pk_tail)) T.sz47 rfl rfl (by rfl) (Nat.le_of_ble_eq_true rfl)) ?_ ?_
          · skip
            refine A_done (by kernel_rfl) ?_
            exact Meet.cut () trivial (by repeat (first | (with_reducible exact Ag.refl _ _) | (with_reducible apply Ag.pu0) | ((with_reducible refine Ag.pu _ ?_ ?_); · exact rfl) | ((with_reducible refine Ag.mix ?_ ?_); · exact rfl) | ((with_reducible refine Ag.pus ?_ ?_); · exact rfl))) trivial (by repeat (first | exact Ent.refl _ | (apply Ent.cons; · repeat (first | exact pk_head _ _ | apply pk_tail)) | apply Ent.skip))
          exact AR.nil
        exact AR.nil
      exact AR.nil
    refine AR.cons1 (i := 12) (some 94) rfl rfl rfl (os_load1 (b := q) (v := .slice (some ⟨vg', 0, none⟩) n' vd') (by repeat (first | exact pk_head _ _ | apply pk_tail)) T.ag47 rfl rfl) ?_ ?_
    · skip
      refine A_take (i := 15) (some 97) rfl rfl (by kernel_rfl) (by kernel_rfl) (by kernel_rfl) rfl (ps_to (u := .slice (some ⟨vg', 0, none⟩) m m) (by rfl) (ps_sl_hm T.un47 T.sz3 rfl rfl rfl (by omega) (by omega) (by omega))) ?_
      refine A_branch (rs := [5]) (by kernel_rfl) (by simp) ?_
      refine AR.cons1 (i := 5) (some 87) rfl rfl rfl (os_load1 (b := q) (v := .slice (some ⟨kg', 0, none⟩) n' kd') (by repeat (first | exact pk_head _ _ | apply pk_tail)) T.ag22 rfl rfl) ?_ ?_
      · skip
        refine A_take (i := 8) (some 90) rfl rfl (by kernel_rfl) (by kernel_rfl) (by kernel_rfl) rfl (ps_to (u := .slice (some ⟨kg', 0, none⟩) m m) (by rfl) (ps_sl_hm T.un22 T.sz29 rfl rfl rfl (by omega) (by omega) (by omega))) ?_
        refine A_take (i := 16) (some 98) rfl rfl (by kernel_rfl) (by kernel_rfl) (by kernel_rfl) rfl (ps_nil rfl) ?_
        refine A_take (i := 17) (some 99) rfl rfl (by kernel_rfl) (by kernel_rfl) (by kernel_rfl) rfl (ps_fa T.fa50_0 (by decide) rfl) ?_
        refine A_branch (rs := [18]) (by kernel_rfl) (by simp) ?_
        refine AR.cons1 (i := 18) none rfl rfl rfl (os_store1 (b := q) (by repeat (first | exact pk_head _ _ | apply pk_tail)) T.sz22 rfl rfl (by rfl) (Nat.le_of_ble_eq_true rfl)) ?_ ?_
        · skip
          refine A_take (i := 19) (some 100) rfl rfl (by kernel_rfl) (by kernel_rfl) (by kernel_rfl) rfl (ps_nil rfl) ?_
          refine A_take (i := 20) (some 101) rfl rfl (by kernel_rfl) (by kernel_rfl) (by kernel_rfl) rfl (ps_fa T.fa50_1 (by decide) rfl) ?_
          refine A_branch (rs := [21]) (by kernel_rfl) (by simp) ?_
          refine AR.cons1 (i := 21) none rfl rfl rfl (os_store1 (b := q) (by repeat (first | exact pk_head _ _ | apply pk_tail)) T.sz47 rfl rfl (by rfl) (Nat.le_of_ble_eq_true rfl)) ?_ ?_
          · skip
            refine A_done (by kernel_rfl) ?_
            exact Meet.cut () trivial (by repeat (first | (with_reducible exact Ag.refl _ _) | (with_reducible apply Ag.pu0) | ((with_reducible refine Ag.pu _ ?_ ?_); · exact rfl) | ((with_reducible refine Ag.mix ?_ ?_); · exact rfl) | ((with_reducible refine Ag.pus ?_ ?_); · exact rfl))) trivial (by repeat (first | exact Ent.refl _ | (apply Ent.cons; · repeat (first | exact pk_head _ _ | apply pk_tail)) | apply Ent.skip))
          exact AR.nil
        exact AR.nil
      exact AR.nil
    exact AR.nil
  rintro _ _ _
  have hd1 : (fs.drop (m + 1)).length = n' - (m + 1) := by rw [List.length_drop, hn']
  have hd2 : (fs.take m).length = m := by rw [List.length_take, hn']; omega
  have hd3 : (qs.drop (m + 1)).length = l' - (m + 1) := by rw [List.length_drop, hl']
  have hd4 : (qs.take (m + 1)).length = min (m + 1) l' := by rw [List.length_take, hl']
  have hdn : qs.drop (m + 1) = [] → qs = [] := fun h => by
    rcases hqs with h1 | h1
    · exact h1
    · have := congrArg List.length h; rw [hd3] at this; simp at this; omega
  have htn : qs.take (m + 1) = [] → qs = [] := fun h => by
    rcases hqs with h1 | h1
    · exact h1
    · have := congrArg List.length h; rw [hd4] at this; simp at this; omega
  refine J.ent (Node_mk2 (p := r) (es := fs.drop (m + 1)) (ps := qs.drop (m + 1)) (n := n' - (m + 1)) (m := n' - (m + 1)) (l := l' - (m + 1)) (kq := zq) (kd := zd) (vq := yq) (vd := yd) (cq := xq) (cd := xd) (by exact List.Perm.refl _) hd1 hd1 hd3 (fun h => hx (hdn h))) ?_
  refine J.ent ((Ent.perm (Bs := slOwn 29 2 (.slice (some ⟨kg', 0, none⟩) n' kd') n' (kc fs) :: _) (by repeat (first | exact pk_head _ _ | apply pk_tail))).trans (Ent.slTakeM m (by omega) _)) ?_
  refine J.ent ((Ent.perm (Bs := slOwn 3 1 (.slice (some ⟨vg', 0, none⟩) n' vd') n' (vc fs) :: _) (by repeat (first | exact pk_head _ _ | apply pk_tail))).trans (Ent.slTakeM m (by omega) _)) ?_
  rw [← KSl_take, ← VSl_take]
  refine J.ent (Node_mk2 (p := q) (es := fs.take m) (ps := qs.take (m + 1)) (n := m) (m := m) (l := min (m + 1) l') (kq := some ⟨kg', 0, none⟩) (kd := m) (vq := some ⟨vg', 0, none⟩) (vd := m) (cq := wq) (cd := wd) (pkc4 (by repeat (first | exact pk_head _ _ | apply pk_tail)) (by repeat (first | exact pk_head _ _ | apply pk_tail)) (by repeat (first | exact pk_head _ _ | apply pk_tail)) (by repeat (first | exact pk_head _ _ | apply pk_tail))) hd2 hd2 hd4 (fun h => hw (htn h))) ?_
  obtain ⟨NR, hNR⟩ : ∃ NR, Node r (fs.drop (m + 1)) (qs.drop (m + 1)) = NR := ⟨_, rfl⟩
  obtain ⟨NQ, hNQ⟩ : ∃ NQ, Node q (fs.take m) (qs.take (m + 1)) = NQ := ⟨_, rfl⟩
  rw [hNR, hNQ]
  repeat (first | refine CW.seq ?_ | refine PW.then_ ?_ | refine PW.then_to rfl ?_ | refine CW.block ?_ | refine CW.skip ?_ | refine CW.ret ?_ | refine PW.then_ret ?_ | refine PW.block_ret ?_ | refine Cut.ret ?_ | refine Rnd.ret ?_ | refine PW.block_normal ?_ | refine CW.exit ?_ | refine PW.then_exit ?_ | refine PW.block_hit ?_ | refine PW.block_miss rfl ?_ | refine Cut.exit ?_ | refine Rnd.exit ?_)
  refine CW.cutB (α := Option Addr × Nat) [102, 103, 104, 105, 106, 107, 108, 109, 110, 111, 112, 113, 114, 115, 116, 117, 118, 119, 120] (fun _ => True) (fun _ => []) (fun z => cb p 50 [.slice z.1 (n + 1) z.2, .slice vq n vd, .slice (some ⟨cg, 0, none⟩) l cd] :: KSl z.1 (n + 1) z.2 (es.take (i) ++ e :: es.drop (i)) :: VSl vq n vd es :: CSl (some ⟨cg, 0, none⟩) l cd ps :: cb b6 29 (nc e.1) :: NQ :: NR :: F) ?_ ?_
  · refine CW.drawH [cb p 50 [.slice kq n kd, .slice vq n vd, .slice (some ⟨cg, 0, none⟩) l cd], cb b6 29 (nc e.1)] [17, 18, 19] T.mixed ?_
    refine H_take (i := 0) (some 102) rfl rfl (by kernel_rfl) (by kernel_rfl) (by kernel_rfl) rfl (ps_move rfl).pl (by kernel_rfl) (pkc (by repeat (first | exact pk_head _ _ | apply pk_tail)) (pkc (by repeat (first | exact pk_head _ _ | apply pk_tail)) (pkn _))) ?_
    refine H_take (i := 1) (some 103) rfl rfl (by kernel_rfl) (by kernel_rfl) (by kernel_rfl) rfl (ps_move rfl).pl (by kernel_rfl) (pkc (by repeat (first | exact pk_head _ _ | apply pk_tail)) (pkc (by repeat (first | exact pk_head _ _ | apply pk_tail)) (pkn _))) ?_
    refine H_take (i := 2) (some 104) rfl rfl (by kernel_rfl) (by kernel_rfl) (by kernel_rfl) rfl (ps_nil rfl).pl (by kernel_rfl) (pkc (by repeat (first | exact pk_head _ _ | apply pk_tail)) (pkc (by repeat (first | exact pk_head _ _ | apply pk_tail)) (pkn _))) ?_
    refine H_take (i := 3) (some 105) rfl rfl (by kernel_rfl) (by kernel_rfl) (by kernel_rfl) rfl (ps_fa T.fa50_0 (by decide) rfl).pl (by kernel_rfl) (pkc (by repeat (first | exact pk_head _ _ | apply pk_tail)) (pkc (by repeat (first | exact pk_head _ _ | apply pk_tail)) (pkn _))) ?_
    refine H_take (i := 4) (some 106) rfl rfl (by kernel_rfl) (by kernel_rfl) (by kernel_rfl) rfl (pl_load1 (b := p) (v := .slice kq n kd) (by repeat (first | exact pk_head _ _ | apply pk_tail)) T.ag22 rfl rfl) (by kernel_rfl) (pkc (by repeat (first | exact pk_head _ _ | apply pk_tail)) (pkc (by repeat (first | exact pk_head _ _ | apply pk_tail)) (pkn _))) ?_
    refine H_take (i := 5) (some 107) rfl rfl (by kernel_rfl) (by kernel_rfl) (by kernel_rfl) rfl (ps_move rfl).pl (by kernel_rfl) (pkc (by repeat (first | exact pk_head _ _ | apply pk_tail)) (pkc (by repeat (first | exact pk_head _ _ | apply pk_tail)) (pkn _))) ?_
    refine H_take (i := 6) (some 108) rfl rfl (by kernel_rfl) (by kernel_rfl) (by kernel_rfl) rfl (ps_to (u := .slice kq (i) kd) (by rfl) (ps_sl_h T.un22 T.sz29 rfl rfl (by omega) (by omega))).pl (by kernel_rfl) (pkc (by repeat (first | exact pk_head _ _ | apply pk_tail)) (pkc (by repeat (first | exact pk_head _ _ | apply pk_tail)) (pkn _))) ?_
    refine H_take (i := 7) (some 109) rfl rfl (by kernel_rfl) (by kernel_rfl) (by kernel_rfl) rfl (pl_loadAll (b := b6) (cs := nc e.1) (by repeat (first | exact pk_head _ _ | apply pk_tail)) T.ag29 (by exact T.sz29) rfl) (by kernel_rfl) (pkc (by repeat (first | exact pk_head _ _ | apply pk_tail)) (pkc (by repeat (first | exact pk_head _ _ | apply pk_tail)) (pkn _))) ?_
    refine H_take (i := 9) (some 111) rfl rfl (by kernel_rfl) (by kernel_rfl) (by kernel_rfl) rfl (ps_move rfl).pl (by kernel_rfl) (pkc (by repeat (first | exact pk_head _ _ | apply pk_tail)) (pkc (by repeat (first | exact pk_head _ _ | apply pk_tail)) (pkn _))) ?_
    refine H_take (i := 10) (some 112) rfl rfl (by kernel_rfl) (by kernel_rfl) (by kernel_rfl) rfl (ps_nil rfl).pl (by kernel_rfl) (pkc (by repeat (first | exact pk_head _ _ | apply pk_tail)) (pkc (by repeat (first | exact pk_head _ _ | apply pk_tail)) (pkn _))) ?_
    refine H_take (i := 11) (some 113) rfl rfl (by kernel_rfl) (by kernel_rfl) (by kernel_rfl) rfl (ps_fa T.fa50_0 (by decide) rfl).pl (by kernel_rfl) (pkc (by repeat (first | exact pk_head _ _ | apply pk_tail)) (pkc (by repeat (first | exact pk_head _ _ | apply pk_tail)) (pkn _))) ?_
    refine H_take (i := 12) (some 114) rfl rfl (by kernel_rfl) (by kernel_rfl) (by kernel_rfl) rfl (pl_load1 (b := p) (v := .slice kq n kd) (by repeat (first | exact pk_head _ _ | apply pk_tail)) T.ag22 rfl rfl) (by kernel_rfl) (pkc (by repeat (first | exact pk_head _ _ | apply pk_tail)) (pkc (by repeat (first | exact pk_head _ _ | apply pk_tail)) (pkn _))) ?_
    refine H_take (i := 13) (some 115) rfl rfl (by kernel_rfl) (by kernel_rfl) (by kernel_rfl) rfl (ps_move rfl).pl (by kernel_rfl) (pkc (by repeat (first | exact pk_head _ _ | apply pk_tail)) (pkc (by repeat (first | exact pk_head _ _ | apply pk_tail)) (pkn _))) ?_
    refine H_take (i := 14) (some 116) rfl rfl (by kernel_rfl) (by kernel_rfl) (by kernel_rfl) rfl (ps_to (u := .slice (cutS kq (i) kd 2) (n - (i)) (kd - (i))) (by rfl) (ps_sl_lg T.un22 T.sz29 rfl rfl (by omega) (by omega))).pl (by kernel_rfl) (pkc (by repeat (first | exact pk_head _ _ | apply pk_tail)) (pkc (by repeat (first | exact pk_head _ _ | apply pk_tail)) (pkn _))) ?_
    refine H_branch (rs := [8]) (by kernel_rfl) (by simp) ?_
    refine HR.consE (i := 8) (some 110) rfl rfl rfl (os_bsl1 (vs := nc e.1) T.un22 T.ti29 rfl rfl (by rfl) rfl (by decide) (by decide)) ?_ ?_
    · rintro _ _ ⟨bz, rfl, rfl⟩
      refine ⟨fun _ => ⟨_, (pkc (by repeat (first | exact pk_head _ _ | apply pk_tail)) (pkc (by repeat (first | exact pk_head _ _ | apply pk_tail)) (pkn _)))⟩, ?_⟩
      refine J.ent ((Ent.perm (Bs := cb bz 29 (nc e.1) :: _) (by repeat (first | exact pk_head _ _ | apply pk_tail))).trans (Ent.slMk (m := 1) (cap := 1) (size := 2) (xs := nc e.1) (Nat.le_refl _) (by decide) (by exact Nat.le_refl _) rfl _)) ?_
      refine H_branch (rs := [15]) (by kernel_rfl) (by simp) ?_
      refine HR.consE (i := 15) (some 117) rfl rfl rfl (os_append (xs := nc e.1) (news := (kc es).drop ((i) * 2)) (by repeat (first | exact pk_head _ _ | apply pk_tail)) T.un22 T.ti29 (by rfl) (by decide) rfl rfl (by rw [List.length_drop, kc_len]; omega) (Src.dropS (Src.ownG (m := n) (d := kd) (e := 29) (s := 2) (xs := kc es) (by repeat (first | exact pk_head _ _ | apply pk_tail)) (own_at fk (kc_ne hn))) (by rw [kc_len]; have := fk.le; omega)) (fun u hu => kc_one _ u (List.mem_of_mem_drop hu)) (by unfold maxLen; omega) (by omega)) ?_ ?_
      · rintro _ _ ⟨zq, zd, rfl, rfl, hz⟩
        refine ⟨fun _ => ⟨_, (pkc (by repeat (first | exact pk_head _ _ | apply pk_tail)) (pkc (by repeat (first | exact pk_head _ _ | apply pk_tail)) (pkn _)))⟩, ?_⟩
        refine slOwn_info (m := 1 + (n - (i))) (q := zq) (d := zd) (by repeat (first | exact pk_head _ _ | apply pk_tail)) fun z1 z2 z3 => ?_
        refine J.ent ((Ent.perm (Bs := slOwn 29 2 (.slice kq n kd) n (kc es) :: _) (by repeat (first | exact pk_head _ _ | apply pk_tail))).trans (Ent.slTake (i) (by omega) _)) ?_
        refine H_branch (rs := [16]) (by kernel_rfl) (by simp) ?_
        refine HR.consE (i := 16) (some 118) rfl rfl rfl (os_append (xs := (kc es).take ((i) * 2)) (news := nc e.1 ++ (kc es).drop ((i) * 2)) (by repeat (first | exact pk_head _ _ | apply pk_tail)) T.un22 T.ti29 (by rfl) (by decide) rfl rfl (by rw [List.length_append, List.length_drop, kc_len]; simp only [nc_len, List.length_cons, List.length_nil]; omega) (Src.ownG (by repeat (first | exact pk_head _ _ | apply pk_tail)) (fun _ => z3 (by omega))) (one_app (nc_one _) (fun u hu => kc_one _ u (List.mem_of_mem_drop hu))) (by unfold maxLen; omega) (by omega)) ?_ ?_
        · rintro _ _ ⟨yq, yd, rfl, rfl, hy⟩
          refine ⟨fun _ => ⟨_, (pkc (by repeat (first | exact pk_head _ _ | apply pk_tail)) (pkc (by repeat (first | exact pk_head _ _ | apply pk_tail)) (pkn _)))⟩, ?_⟩
          refine H_takeP (i := 17) (some 119) rfl rfl (by kernel_rfl) (by kernel_rfl) (by kernel_rfl) rfl (ps_nil rfl) (by decide) ?_
          refine H_takeP (i := 18) (some 120) rfl rfl (by kernel_rfl) (by kernel_rfl) (by kernel_rfl) rfl (ps_fa T.fa50_0 (by decide) rfl) (by decide) ?_
          refine H_branch (rs := [19]) (by kernel_rfl) (by simp) ?_
          refine HR.consL (i := 19) none rfl rfl rfl (os_store1 (b := p) (by repeat (first | exact pk_head _ _ | apply pk_tail)) T.sz22 rfl rfl (by rfl) (Nat.le_of_ble_eq_true rfl)) (by decide) ?_ ?_
          · skip
            refine H_done (by kernel_rfl) ?_
            exact Meet.cut (yq, yd) trivial (by repeat (first | (with_reducible exact Ag.refl _ _) | (with_reducible apply Ag.pu0) | ((with_reducible refine Ag.pu _ ?_ ?_); · exact rfl) | ((with_reducible refine Ag.mix ?_ ?_); · exact rfl) | ((with_reducible refine Ag.pus ?_ ?_); · exact rfl))) trivial (by dsimp only; rw [show (i) + (1 + (n - (i))) = n + 1 by omega, KSl_ins]; exact (by repeat (first | exact Ent.refl _ | (apply Ent.cons; · repeat (first | exact pk_head _ _ | apply pk_tail)) | apply Ent.skip)))
          exact HR.nil
        exact HR.nil
      exact HR.nil
    exact HR.nil
  rintro ⟨kq1, kd1⟩ _ _
  try dsimp only
  repeat (first | refine CW.seq ?_ | refine PW.then_ ?_ | refine PW.then_to rfl ?_ | refine CW.block ?_ | refine CW.skip ?_ | refine CW.ret ?_ | refine PW.then_ret ?_ | refine PW.block_ret ?_ | refine Cut.ret ?_ | refine Rnd.ret ?_ | refine PW.block_normal ?_ | refine CW.exit ?_ | refine PW.then_exit ?_ | refine PW.block_hit ?_ | refine PW.block_miss rfl ?_ | refine Cut.exit ?_ | refine Rnd.exit ?_)
  refine CW.cutB (α := Option Addr × Nat) [121, 122, 123, 124, 125, 126, 127, 128, 129, 130, 131, 132, 133, 134, 135, 136, 137, 138, 139] (fun _ => True) (fun _ => []) (fun z => cb p 50 [.slice kq1 (n + 1) kd1, .slice z.1 (n + 1) z.2, .slice (some ⟨cg, 0, none⟩) l cd] :: VSl z.1 (n + 1) z.2 (es.take (i) ++ e :: es.drop (i)) :: KSl kq1 (n + 1) kd1 (es.take i ++ e :: es.drop i) :: CSl (some ⟨cg, 0, none⟩) l cd ps :: NQ :: NR :: F) ?_ ?_
  · refine CW.drawH [cb p 50 [.slice kq1 (n + 1) kd1, .slice vq n vd, .slice (some ⟨cg, 0, none⟩) l cd]] [17, 18, 19] T.mixed ?_
    refine H_take (i := 0) (some 121) rfl rfl (by kernel_rfl) (by kernel_rfl) (by kernel_rfl) rfl (ps_move rfl).pl (by kernel_rfl) (pkc (by repeat (first | exact pk_head _ _ | apply pk_tail)) (pkn _)) ?_
    refine H_take (i := 1) (some 122) rfl rfl (by kernel_rfl) (by kernel_rfl) (by kernel_rfl) rfl (ps_move rfl).pl (by kernel_rfl) (pkc (by repeat (first | exact pk_head _ _ | apply pk_tail)) (pkn _)) ?_
    refine H_take (i := 2) (some 123) rfl rfl (by kernel_rfl) (by kernel_rfl) (by kernel_rfl) rfl (ps_nil rfl).pl (by kernel_rfl) (pkc (by repeat (first | exact pk_head _ _ | apply pk_tail)) (pkn _)) ?_
    refine H_take (i := 3) (some 124) rfl rfl (by kernel_rfl) (by kernel_rfl) (by kernel_rfl) rfl (ps_fa T.fa50_1 (by decide) rfl).pl (by kernel_rfl) (pkc (by repeat (first | exact pk_head _ _ | apply pk_tail)) (pkn _)) ?_
    refine H_take (i := 4) (some 125) rfl rfl (by kernel_rfl) (by kernel_rfl) (by kernel_rfl) rfl (pl_load1 (b := p) (v := .slice vq n vd) (by repeat (first | exact pk_head _ _ | apply pk_tail)) T.ag47 rfl rfl) (by kernel_rfl) (pkc (by repeat (first | exact pk_head _ _ | apply pk_tail)) (pkn _)) ?_
    refine H_take (i := 5) (some 126) rfl rfl (by kernel_rfl) (by kernel_rfl) (by kernel_rfl) rfl (ps_move rfl).pl (by kernel_rfl) (pkc (by repeat (first | exact pk_head _ _ | apply pk_tail)) (pkn _)) ?_
    refine H_take (i := 6) (some 127) rfl rfl (by kernel_rfl) (by kernel_rfl) (by kernel_rfl) rfl (ps_to (u := .slice vq (i) vd) (by rfl) (ps_sl_h T.un47 T.sz3 rfl rfl (by omega) (by omega))).pl (by kernel_rfl) (pkc (by repeat (first | exact pk_head _ _ | apply pk_tail)) (pkn _)) ?_
    refine H_take (i := 7) (some 128) rfl rfl (by kernel_rfl) (by kernel_rfl) (by kernel_rfl) rfl (ps_move rfl).pl (by kernel_rfl) (pkc (by repeat (first | exact pk_head _ _ | apply pk_tail)) (pkn _)) ?_
    refine H_take (i := 9) (some 130) rfl rfl (by kernel_rfl) (by kernel_rfl) (by kernel_rfl) rfl (ps_move rfl).pl (by kernel_rfl) (pkc (by repeat (first | exact pk_head _ _ | apply pk_tail)) (pkn _)) ?_
    refine H_take (i := 10) (some 131) rfl rfl (by kernel_rfl) (by kernel_rfl) (by kernel_rfl) rfl (ps_nil rfl).pl (by kernel_rfl) (pkc (by repeat (first | exact pk_head _ _ | apply pk_tail)) (pkn _)) ?_
    refine H_take (i := 11) (some 132) rfl rfl (by kernel_rfl) (by kernel_rfl) (by kernel_rfl) rfl (ps_fa T.fa50_1 (by decide) rfl).pl (by kernel_rfl) (pkc (by repeat (first | exact pk_head _ _ | apply pk_tail)) (pkn _)) ?_
    refine H_take (i := 12) (some 133) rfl rfl (by kernel_rfl) (by kernel_rfl) (by kernel_rfl) rfl (pl_load1 (b := p) (v := .slice vq n vd) (by repeat (first | exact pk_head _ _ | apply pk_tail)) T.ag47 rfl rfl) (by kernel_rfl) (pkc (by repeat (first | exact pk_head _ _ | apply pk_tail)) (pkn _)) ?_
    refine H_take (i := 13) (some 134) rfl rfl (by kernel_rfl) (by kernel_rfl) (by kernel_rfl) rfl (ps_move rfl).pl (by kernel_rfl) (pkc (by repeat (first | exact pk_head _ _ | apply pk_tail)) (pkn _)) ?_
    refine H_take (i := 14) (some 135) rfl rfl (by kernel_rfl) (by kernel_rfl) (by kernel_rfl) rfl (ps_to (u := .slice (cutS vq (i) vd 1) (n - (i)) (vd - (i))) (by rfl) (ps_sl_lg T.un47 T.sz3 rfl rfl (by omega) (by omega))).pl (by kernel_rfl) (pkc (by repeat (first | exact pk_head _ _ | apply pk_tail)) (pkn _)) ?_
    refine H_branch (rs := [8]) (by kernel_rfl) (by simp) ?_
    refine HR.consE (i := 8) (some 129) rfl rfl rfl (os_bsl1 (vs := [.int .i64 e.2]) T.un47 T.ti3 rfl rfl (by rfl) rfl (by decide) (by decide)) ?_ ?_
    · rintro _ _ ⟨bz, rfl, rfl⟩
      refine ⟨fun _ => ⟨_, (pkc (by repeat (first | exact pk_head _ _ | apply pk_tail)) (pkn _))⟩, ?_⟩
      refine J.ent ((Ent.perm (Bs := cb bz 3 ([.int .i64 e.2]) :: _) (by repeat (first | exact pk_head _ _ | apply pk_tail))).trans (Ent.slMk (m := 1) (cap := 1) (size := 1) (xs := [.int .i64 e.2]) (Nat.le_refl _) (by decide) (by exact Nat.le_refl _) rfl _)) ?_
      refine H_branch (rs := [15]) (by kernel_rfl) (by simp) ?_
      refine HR.consE (i := 15) (some 136) rfl rfl rfl (os_append (xs := [.int .i64 e.2]) (news := (vc es).drop ((i) * 1)) (by repeat (first | exact pk_head _ _ | apply pk_tail)) T.un47 T.ti3 (by rfl) (by decide) rfl rfl (by rw [List.length_drop, vc_len]; omega) (Src.dropS (Src.ownG (m := n) (d := vd) (e := 3) (s := 1) (xs := vc es) (by repeat (first | exact pk_head _ _ | apply pk_tail)) (own_at fv (vc_ne hn))) (by rw [vc_len]; have := fv.le; omega)) (fun u hu => vc_one _ u (List.mem_of_mem_drop hu)) (by unfold maxLen; omega) (by omega)) ?_ ?_
      · rintro _ _ ⟨zq, zd, rfl, rfl, hz⟩
        refine ⟨fun _ => ⟨_, (pkc (by repeat (first | exact pk_head _ _ | apply pk_tail)) (pkn _))⟩, ?_⟩
        refine slOwn_info (m := 1 + (n - (i))) (q := zq) (d := zd) (by repeat (first | exact pk_head _ _ | apply pk_tail)) fun z1 z2 z3 => ?_
        refine J.ent ((Ent.perm (Bs := slOwn 3 1 (.slice vq n vd) n (vc es) :: _) (by repeat (first | exact pk_head _ _ | apply pk_tail))).trans (Ent.slTake (i) (by omega) _)) ?_
        refine H_branch (rs := [16]) (by kernel_rfl) (by simp) ?_
        refine HR.consE (i := 16) (some 137) rfl rfl rfl (os_append (xs := (vc es).take ((i) * 1)) (news := [.int .i64 e.2] ++ (vc es).drop ((i) * 1)) (by repeat (first | exact pk_head _ _ | apply pk_tail)) T.un47 T.ti3 (by rfl) (by decide) rfl rfl (by rw [List.length_append, List.length_drop, vc_len]; simp only [nc_len, List.length_cons, List.length_nil]; omega) (Src.ownG (by repeat (first | exact pk_head _ _ | apply pk_tail)) (fun _ => z3 (by omega))) (one_app (by simp [Value.oneCell']) (fun u hu => vc_one _ u (List.mem_of_mem_drop hu))) (by unfold maxLen; omega) (by omega)) ?_ ?_
        · rintro _ _ ⟨yq, yd, rfl, rfl, hy⟩
          refine ⟨fun _ => ⟨_, (pkc (by repeat (first | exact pk_head _ _ | apply pk_tail)) (pkn _))⟩, ?_⟩
          refine H_takeP (i := 17) (some 138) rfl rfl (by kernel_rfl) (by kernel_rfl) (by kernel_rfl) rfl (ps_nil rfl) (by decide) ?_
          refine H_takeP (i := 18) (some 139) rfl rfl (by kernel_rfl) (by kernel_rfl) (by kernel_rfl) rfl (ps_fa T.fa50_1 (by decide) rfl) (by decide) ?_
          refine H_branch (rs := [19]) (by kernel_rfl) (by simp) ?_
          refine HR.consL (i := 19) none rfl rfl rfl (os_store1 (b := p) (by repeat (first | exact pk_head _ _ | apply pk_tail)) T.sz47 rfl rfl (by rfl) (Nat.le_of_ble_eq_true rfl)) (by decide) ?_ ?_
          · skip
            refine H_done (by kernel_rfl) ?_
            exact Meet.cut (yq, yd) trivial (by repeat (first | (with_reducible exact Ag.refl _ _) | (with_reducible apply Ag.pu0) | ((with_reducible refine Ag.pu _ ?_ ?_); · exact rfl) | ((with_reducible refine Ag.mix ?_ ?_); · exact rfl) | ((with_reducible refine Ag.pus ?_ ?_); · exact rfl))) trivial (by dsimp only; rw [show (i) + (1 + (n - (i))) = n + 1 by omega, VSl_ins]; exact (by repeat (first | exact Ent.refl _ | (apply Ent.cons; · repeat (first | exact pk_head _ _ | apply pk_tail)) | apply Ent.skip)))
          exact HR.nil
        exact HR.nil
      exact HR.nil
    exact HR.nil
  rintro ⟨vq1, vd1⟩ _ _
  try dsimp only
  repeat (first | refine CW.seq ?_ | refine PW.then_ ?_ | refine PW.then_to rfl ?_ | refine CW.block ?_ | refine CW.skip ?_ | refine CW.ret ?_ | refine PW.then_ret ?_ | refine PW.block_ret ?_ | refine Cut.ret ?_ | refine Rnd.ret ?_ | refine PW.block_normal ?_ | refine CW.exit ?_ | refine PW.then_exit ?_ | refine PW.block_hit ?_ | refine PW.block_miss rfl ?_ | refine Cut.exit ?_ | refine Rnd.exit ?_)
  refine CW.cutB (α := Option Addr × Nat) [140, 141, 142, 143, 144, 145, 146, 147, 148, 149, 150, 151, 152, 153, 154, 155, 156, 157, 158, 159, 160] (fun _ => True) (fun _ => []) (fun z => cb p 50 [.slice kq1 (n + 1) kd1, .slice vq1 (n + 1) vd1, .slice z.1 (l + 1) z.2] :: CSl z.1 (l + 1) z.2 (ps.take (i + 1) ++ r :: ps.drop (i + 1)) :: KSl kq1 (n + 1) kd1 (es.take i ++ e :: es.drop i) :: VSl vq1 (n + 1) vd1 (es.take i ++ e :: es.drop i) :: NQ :: NR :: F) ?_ ?_
  · refine CW.drawH [cb p 50 [.slice kq1 (n + 1) kd1, .slice vq1 (n + 1) vd1, .slice (some ⟨cg, 0, none⟩) l cd]] [19, 20, 21] T.mixed ?_
    refine H_take (i := 0) (some 140) rfl rfl (by kernel_rfl) (by kernel_rfl) (by kernel_rfl) rfl (ps_move rfl).pl (by kernel_rfl) (pkc (by repeat (first | exact pk_head _ _ | apply pk_tail)) (pkn _)) ?_
    refine H_take (i := 1) (some 141) rfl rfl (by kernel_rfl) (by kernel_rfl) (by kernel_rfl) rfl (ps_move rfl).pl (by kernel_rfl) (pkc (by repeat (first | exact pk_head _ _ | apply pk_tail)) (pkn _)) ?_
    refine H_take (i := 2) (some 142) rfl rfl (by kernel_rfl) (by kernel_rfl) (by kernel_rfl) rfl (ps_nil rfl).pl (by kernel_rfl) (pkc (by repeat (first | exact pk_head _ _ | apply pk_tail)) (pkn _)) ?_
    refine H_take (i := 3) (some 143) rfl rfl (by kernel_rfl) (by kernel_rfl) (by kernel_rfl) rfl (ps_fa T.fa50_2 (by decide) rfl).pl (by kernel_rfl) (pkc (by repeat (first | exact pk_head _ _ | apply pk_tail)) (pkn _)) ?_
    refine H_take (i := 4) (some 144) rfl rfl (by kernel_rfl) (by kernel_rfl) (by kernel_rfl) rfl (pl_load1 (b := p) (v := .slice (some ⟨cg, 0, none⟩) l cd) (by repeat (first | exact pk_head _ _ | apply pk_tail)) T.ag48 rfl rfl) (by kernel_rfl) (pkc (by repeat (first | exact pk_head _ _ | apply pk_tail)) (pkn _)) ?_
    refine H_take (i := 5) (some 145) rfl rfl (by kernel_rfl) (by kernel_rfl) (by kernel_rfl) rfl (ps_move rfl).pl (by kernel_rfl) (pkc (by repeat (first | exact pk_head _ _ | apply pk_tail)) (pkn _)) ?_
    refine H_take (i := 6) (some 146) rfl rfl (by kernel_rfl) (by kernel_rfl) (by kernel_rfl) rfl (ps_to (u := .int .i64 ((i + 1 : Nat) : Int)) (by rfl) (ps_add_i64 rfl rfl (by omega) (by omega))).pl (by kernel_rfl) (pkc (by repeat (first | exact pk_head _ _ | apply pk_tail)) (pkn _)) ?_
    refine H_take (i := 7) (some 147) rfl rfl (by kernel_rfl) (by kernel_rfl) (by kernel_rfl) rfl (ps_to (u := .slice (some ⟨cg, 0, none⟩) (i + 1) cd) (by rfl) (ps_sl_h T.un48 T.sz24 rfl rfl (by omega) (by omega))).pl (by kernel_rfl) (pkc (by repeat (first | exact pk_head _ _ | apply pk_tail)) (pkn _)) ?_
    refine H_take (i := 8) (some 148) rfl rfl (by kernel_rfl) (by kernel_rfl) (by kernel_rfl) rfl (ps_move rfl).pl (by kernel_rfl) (pkc (by repeat (first | exact pk_head _ _ | apply pk_tail)) (pkn _)) ?_
    refine H_take (i := 10) (some 150) rfl rfl (by kernel_rfl) (by kernel_rfl) (by kernel_rfl) rfl (ps_move rfl).pl (by kernel_rfl) (pkc (by repeat (first | exact pk_head _ _ | apply pk_tail)) (pkn _)) ?_
    refine H_take (i := 11) (some 151) rfl rfl (by kernel_rfl) (by kernel_rfl) (by kernel_rfl) rfl (ps_nil rfl).pl (by kernel_rfl) (pkc (by repeat (first | exact pk_head _ _ | apply pk_tail)) (pkn _)) ?_
    refine H_take (i := 12) (some 152) rfl rfl (by kernel_rfl) (by kernel_rfl) (by kernel_rfl) rfl (ps_fa T.fa50_2 (by decide) rfl).pl (by kernel_rfl) (pkc (by repeat (first | exact pk_head _ _ | apply pk_tail)) (pkn _)) ?_
    refine H_take (i := 13) (some 153) rfl rfl (by kernel_rfl) (by kernel_rfl) (by kernel_rfl) rfl (pl_load1 (b := p) (v := .slice (some ⟨cg, 0, none⟩) l cd) (by repeat (first | exact pk_head _ _ | apply pk_tail)) T.ag48 rfl rfl) (by kernel_rfl) (pkc (by repeat (first | exact pk_head _ _ | apply pk_tail)) (pkn _)) ?_
    refine H_take (i := 14) (some 154) rfl rfl (by kernel_rfl) (by kernel_rfl) (by kernel_rfl) rfl (ps_move rfl).pl (by kernel_rfl) (pkc (by repeat (first | exact pk_head _ _ | apply pk_tail)) (pkn _)) ?_
    refine H_take (i := 15) (some 155) rfl rfl (by kernel_rfl) (by kernel_rfl) (by kernel_rfl) rfl (ps_to (u := .int .i64 ((i + 1 : Nat) : Int)) (by rfl) (ps_add_i64 rfl rfl (by omega) (by omega))).pl (by kernel_rfl) (pkc (by repeat (first | exact pk_head _ _ | apply pk_tail)) (pkn _)) ?_
    refine H_take (i := 16) (some 156) rfl rfl (by kernel_rfl) (by kernel_rfl) (by kernel_rfl) rfl (ps_to (u := .slice (cutS (some ⟨cg, 0, none⟩) (i + 1) cd 1) (l - (i + 1)) (cd - (i + 1))) (by rfl) (ps_sl_lg T.un48 T.sz24 rfl rfl (by omega) (by omega))).pl (by kernel_rfl) (pkc (by repeat (first | exact pk_head _ _ | apply pk_tail)) (pkn _)) ?_
    refine H_branch (rs := [9]) (by kernel_rfl) (by simp) ?_
    refine HR.consE (i := 9) (some 149) rfl rfl rfl (os_bsl1 (vs := [ptr r]) T.un48 T.ti24 rfl rfl (by rfl) rfl (by decide) (by decide)) ?_ ?_
    · rintro _ _ ⟨bz, rfl, rfl⟩
      refine ⟨fun _ => ⟨_, (pkc (by repeat (first | exact pk_head _ _ | apply pk_tail)) (pkn _))⟩, ?_⟩
      refine J.ent ((Ent.perm (Bs := cb bz 24 ([ptr r]) :: _) (by repeat (first | exact pk_head _ _ | apply pk_tail))).trans (Ent.slMk (m := 1) (cap := 1) (size := 1) (xs := [ptr r]) (Nat.le_refl _) (by decide) (by exact Nat.le_refl _) rfl _)) ?_
      refine H_branch (rs := [17]) (by kernel_rfl) (by simp) ?_
      refine HR.consE (i := 17) (some 157) rfl rfl rfl (os_append (xs := [ptr r]) (news := (pc ps).drop ((i + 1) * 1)) (by repeat (first | exact pk_head _ _ | apply pk_tail)) T.un48 T.ti24 (by rfl) (by decide) rfl rfl (by rw [List.length_drop, pc_len]; omega) (Src.dropS (Src.ownG (m := l) (d := cd) (e := 24) (s := 1) (xs := pc ps) (by repeat (first | exact pk_head _ _ | apply pk_tail)) (own_at fc (pc_ne hl))) (by rw [pc_len]; have := fc.le; omega)) (fun u hu => pc_one _ u (List.mem_of_mem_drop hu)) (by unfold maxLen; omega) (by omega)) ?_ ?_
      · rintro _ _ ⟨zq, zd, rfl, rfl, hz⟩
        refine ⟨fun _ => ⟨_, (pkc (by repeat (first | exact pk_head _ _ | apply pk_tail)) (pkn _))⟩, ?_⟩
        refine slOwn_info (m := 1 + (l - (i + 1))) (q := zq) (d := zd) (by repeat (first | exact pk_head _ _ | apply pk_tail)) fun z1 z2 z3 => ?_
        refine J.ent ((Ent.perm (Bs := slOwn 24 1 (.slice (some ⟨cg, 0, none⟩) l cd) l (pc ps) :: _) (by repeat (first | exact pk_head _ _ | apply pk_tail))).trans (Ent.slTake (i + 1) (by omega) _)) ?_
        refine H_branch (rs := [18]) (by kernel_rfl) (by simp) ?_
        refine HR.consE (i := 18) (some 158) rfl rfl rfl (os_append (xs := (pc ps).take ((i + 1) * 1)) (news := [ptr r] ++ (pc ps).drop ((i + 1) * 1)) (by repeat (first | exact pk_head _ _ | apply pk_tail)) T.un48 T.ti24 (by rfl) (by decide) rfl rfl (by rw [List.length_append, List.length_drop, pc_len]; simp only [nc_len, List.length_cons, List.length_nil]; omega) (Src.ownG (by repeat (first | exact pk_head _ _ | apply pk_tail)) (fun _ => z3 (by omega))) (one_app (by simp [Value.oneCell']) (fun u hu => pc_one _ u (List.mem_of_mem_drop hu))) (by unfold maxLen; omega) (by omega)) ?_ ?_
        · rintro _ _ ⟨yq, yd, rfl, rfl, hy⟩
          refine ⟨fun _ => ⟨_, (pkc (by repeat (first | exact pk_head _ _ | apply pk_tail)) (pkn _))⟩, ?_⟩
          refine H_takeP (i := 19) (some 159) rfl rfl (by kernel_rfl) (by kernel_rfl) (by kernel_rfl) rfl (ps_nil rfl) (by decide) ?_
          refine H_takeP (i := 20) (some 160) rfl rfl (by kernel_rfl) (by kernel_rfl) (by kernel_rfl) rfl (ps_fa T.fa50_2 (by decide) rfl) (by decide) ?_
          refine H_branch (rs := [21]) (by kernel_rfl) (by simp) ?_
          refine HR.consL (i := 21) none rfl rfl rfl (os_store1 (b := p) (by repeat (first | exact pk_head _ _ | apply pk_tail)) T.sz48 rfl rfl (by rfl) (Nat.le_of_ble_eq_true rfl)) (by decide) ?_ ?_
          · skip
            refine H_done (by kernel_rfl) ?_
            exact Meet.cut (yq, yd) trivial (by repeat (first | (with_reducible exact Ag.refl _ _) | (with_reducible apply Ag.pu0) | ((with_reducible refine Ag.pu _ ?_ ?_); · exact rfl) | ((with_reducible refine Ag.mix ?_ ?_); · exact rfl) | ((with_reducible refine Ag.pus ?_ ?_); · exact rfl))) trivial (by dsimp only; rw [show (i + 1) + (1 + (l - (i + 1))) = l + 1 by omega, CSl_ins]; exact (by repeat (first | exact Ent.refl _ | (apply Ent.cons; · repeat (first | exact pk_head _ _ | apply pk_tail)) | apply Ent.skip)))
          exact HR.nil
        exact HR.nil
      exact HR.nil
    exact HR.nil
  rintro ⟨cq1, cd1⟩ _ _
  try dsimp only
  subst hNR hNQ
  have hk1 : (es.take i ++ e :: es.drop i).length = n + 1 := by rw [List.length_append, List.length_take, List.length_cons, List.length_drop, hn]; omega
  have hk2 : (ps.take (i + 1) ++ r :: ps.drop (i + 1)).length = l + 1 := by rw [List.length_append, List.length_take, List.length_cons, List.length_drop, hl]; omega
  refine J.ent (Node_mk2 (p := p) (es := es.take i ++ e :: es.drop i) (ps := ps.take (i + 1) ++ r :: ps.drop (i + 1)) (n := n + 1) (m := n + 1) (l := l + 1) (kq := kq1) (kd := kd1) (vq := vq1) (vd := vd1) (cq := cq1) (cd := cd1) (pkc4 (by repeat (first | exact pk_head _ _ | apply pk_tail)) (by repeat (first | exact pk_head _ _ | apply pk_tail)) (by repeat (first | exact pk_head _ _ | apply pk_tail)) (by repeat (first | exact pk_head _ _ | apply pk_tail))) hk1 hk1 hk2 (fun h => by simp at h)) ?_
  repeat (first | refine CW.seq ?_ | refine PW.then_ ?_ | refine PW.then_to rfl ?_ | refine CW.block ?_ | refine CW.skip ?_ | refine CW.ret ?_ | refine PW.then_ret ?_ | refine PW.block_ret ?_ | refine Cut.ret ?_ | refine Rnd.ret ?_ | refine PW.block_normal ?_ | refine CW.exit ?_ | refine PW.then_exit ?_ | refine PW.block_hit ?_ | refine PW.block_miss rfl ?_ | refine Cut.exit ?_ | refine Rnd.exit ?_)
  exact Fin.end0 rfl [_, _, _] ⟨rfl, r, rfl⟩ (by repeat (first | exact Ent.refl _ | (apply Ent.cons; · repeat (first | exact pk_head _ _ | apply pk_tail)) | apply Ent.skip))
end Go.Proofs.Ytejphoheaeplbaa
