/- A tree under a node, and the contract of a node's 'put'. -/
import Derived.Test.YtejphoheaeplbaaIdxPart
namespace Go.Proofs.Ytejphoheaeplbaa
set_option linter.unusedVariables false
set_option linter.unusedSimpArgs false
open Go Go.SL

theorem FSpec.ex {P : Program} {ι : Type} {g : FuncId} {args : List Value} {A : Asn} {C : ι → Prop} {B : ι → List Asn} {Rest : List Asn} {post : Value → List Asn → Prop} (hA : ∀ L, A L → ∃ x, C x ∧ sat (B x) L)
    (h : ∀ x, C x → FSpec P g args (B x ++ Rest) post) : FSpec P g args (A :: Rest) post := fun w0 F => J.mk fun w hw => by
  obtain ⟨L, a1, L1, L2, a3, a4, a5⟩ := hw
  obtain ⟨x, hx, hs⟩ := hA _ a4
  refine (h x hx w0 F).run w ?_
  rw [List.append_assoc]
  exact ⟨L, a1, sat_mk a3 hs a5⟩
def NdOf (K : List En → List Nat → List En → Asn) (c q : Nat) (l : List En) : Asn := fun L => ∃ fs qs, fs.length ≤ c ∧ sat [Node q fs qs, K fs qs l] L
/-- What is under a node: trees of one height between its entries. -/
def Kids : Nat → List En → List Nat → List En → Asn
  | 0, fs, qs, l => fun L => (qs = [] ∧ l = fs) ∧ L = []
  | h + 1, fs, qs, l => fun L => ∃ ts : List (Nat × List En), (ts.length = fs.length + 1 ∧ qs = ts.map (·.1) ∧ l = weave (ts.map (·.2)) fs) ∧ sat (ts.map fun t => NdOf (Kids h) 5 t.1 t.2) L
/-- A tree: its height, how many entries its top has at most, all entries in order. -/
def Nd (h c q : Nat) (l : List En) : Asn := NdOf (Kids h) c q l
abbrev kidA (h : Nat) (t : Nat × List En) : Asn := Nd h 5 t.1 t.2
section
variable {w0 : World} {As Bs : List Asn} {G : World → Prop} {h c q : Nat} {l : List En} {fs : List En} {qs : List Nat}
theorem Nd_open (hp : As.Perm (Nd h c q l :: Bs)) (k : ∀ fs qs, fs.length ≤ c → J w0 (Node q fs qs :: Kids h fs qs l :: Bs) G) : J w0 As G := J.mk fun w hw => by
  obtain ⟨L, a1, L1, L2, a3, ⟨fs, qs, h1, h2⟩, a5⟩ := hw.perm hp
  exact (k fs qs h1).run w ⟨L, a1, sat_mk a3 h2 a5⟩
theorem Nd_mk (hf : fs.length ≤ c) (Bs : List Asn) : Ent (Node q fs qs :: Kids h fs qs l :: Bs) (Nd h c q l :: Bs) := Ent.fold (As := [_, _]) fun L hs => ⟨fs, qs, hf, hs⟩
theorem Nd_mk' (hp : As.Perm (Node q fs qs :: Kids h fs qs l :: Bs)) (hf : fs.length ≤ c) : Ent As (Nd h c q l :: Bs) := (Ent.perm hp).trans (Nd_mk hf Bs)
theorem Nd_le {c c' : Nat} (hc : c ≤ c') (Bs : List Asn) : Ent (Nd h c q l :: Bs) (Nd h c' q l :: Bs) := fun L hs => by
  obtain ⟨L1, L2, a1, ⟨fs, qs, h1, h2⟩, a3⟩ := hs
  exact ⟨L1, L2, a1, ⟨fs, qs, Nat.le_trans h1 hc, h2⟩, a3⟩
theorem Kids0_mk (fs : List En) (Bs : List Asn) : Ent Bs (Kids 0 fs [] fs :: Bs) := fun L hs => ⟨[], L, List.Perm.refl _, ⟨⟨rfl, rfl⟩, rfl⟩, hs⟩
theorem KidsS_mk (ts : List (Nat × List En)) (hl : ts.length = fs.length + 1) (Bs : List Asn) : Ent (AllP (ts.map (kidA h)) :: Bs) (Kids (h + 1) fs (ts.map (·.1)) (weave (ts.map (·.2)) fs) :: Bs) := fun L hs => by
  obtain ⟨L1, L2, a1, a2, a3⟩ := hs
  exact ⟨L1, L2, a1, ⟨ts, ⟨hl, rfl, rfl⟩, a2⟩, a3⟩
theorem Kids_len : ∀ L, Kids h fs qs l L → (qs = [] ∨ qs.length = fs.length + 1) := by
  cases h with
  | zero => exact fun L hs => Or.inl hs.1.1
  | succ h =>
    rintro L ⟨ts, ⟨h1, rfl, _⟩, _⟩
    exact Or.inr (by rw [List.length_map, h1])
theorem NdOf_eq (t : Nat × List En) : NdOf (Kids h) 5 t.1 t.2 = kidA h t := rfl
theorem Kids_part {m : Nat} {e : En} (he : fs[m]? = some e) (hp : As.Perm (Kids h fs qs l :: Bs)) (k : ∀ l1 l2, l = l1 ++ e :: l2 → J w0 (Kids h (fs.take m) (qs.take (m + 1)) l1 :: Kids h (fs.drop (m + 1)) (qs.drop (m + 1)) l2 :: Bs) G) : J w0 As G := J.mk fun w hw => by
  obtain ⟨hm, rfl⟩ := List.getElem?_eq_some_iff.1 he
  obtain ⟨L, a1, L1, L2, a3, a4, a5⟩ := hw.perm hp
  cases h with
  | zero =>
    obtain ⟨⟨rfl, rfl⟩, rfl⟩ := a4
    refine (k (l.take m) (l.drop (m + 1)) (by rw [List.getElem_cons_drop, List.take_append_drop])).run w ⟨L, a1, ?_⟩
    rw [List.take_nil, List.drop_nil]
    exact ⟨[], L, List.Perm.refl _, ⟨⟨rfl, rfl⟩, rfl⟩, [], L, List.Perm.refl _, ⟨⟨rfl, rfl⟩, rfl⟩, sat_perm a5 a3.symm⟩
  | succ h =>
    obtain ⟨ts, ⟨h1, rfl, rfl⟩, h2⟩ := a4
    have e2 : ts = ts.take (m + 1) ++ ts.drop (m + 1) := (List.take_append_drop _ _).symm
    have e1 : fs = fs.take m ++ fs[m] :: fs.drop (m + 1) := by rw [List.getElem_cons_drop, List.take_append_drop]
    have hl1 : (ts.take (m + 1)).length = (fs.take m).length + 1 := by rw [List.length_take, List.length_take]; omega
    have hl2 : (ts.drop (m + 1)).length = (fs.drop (m + 1)).length + 1 := by rw [List.length_drop, List.length_drop]; omega
    have hw' := weave_part ((ts.take (m + 1)).map (·.2)) (fs.take m) fs[m] ((ts.drop (m + 1)).map (·.2)) (fs.drop (m + 1)) (by rw [List.length_map]; exact hl1)
    rw [← List.map_append, ← e2, ← e1] at hw'
    refine (k _ _ hw').run w ⟨L, a1, ?_⟩
    rw [e2, List.map_append] at h2
    obtain ⟨M1, M2, m1, m2, m3⟩ := sat_app h2
    refine ⟨M1, M2 ++ L2, ?_, ⟨ts.take (m + 1), ⟨hl1, by rw [List.map_take], rfl⟩, m2⟩, M2, L2, List.Perm.refl _, ⟨ts.drop (m + 1), ⟨hl2, by rw [List.map_drop], rfl⟩, m3⟩, a5⟩
    rw [← List.append_assoc]
    exact a3.trans (m1.append_right _)
end
theorem vc_set (es : List En) (i : Nat) (k : Nat) (v : Int) : vc (es.set i (k, v)) = (vc es).set i (.int .i64 v) := by simp [vc, List.map_set]
theorem kc_set {es : List En} {k : Nat} (v : Int) (h : hit k es = true) : kc (es.set (pl k es) (k, v)) = kc es := by
  obtain ⟨hi, he⟩ := hit_true h
  unfold kc
  rw [List.map_set]
  congr 1
  apply List.ext_getElem
  · simp
  · intro j h1 h2
    simp only [List.getElem_set, List.getElem_map]
    split
    · rename_i hj; subst hj; rw [he]
    · rfl
/-- The key is in this node. -/
theorem put_hit (key : Nat) (val : Int) (hk : key < M128) (q : Nat) (fs : List En) (qs : List Nat) (hfs : fs.length ≤ 1000) (hm : ∀ e ∈ fs, e.1 < M128) (hh : hit key fs = true) :
    FSpec Try.prog 15 [ptr q, .agg (nc key).toArray, .int .i64 val] [Node q fs qs] (fun v As => v = .bool false ∧ As = [Node q (fs.set (pl key fs) (key, val)) qs]) := by
  have hM := M128_eq
  have hpl := (hit_true hh).1
  refine FSpec.intro Try.func15 rfl 93 Try.ntmps15 (Nat.le_of_ble_eq_true rfl) fun w0 F => ?_
  show CW _ _ _ _ _ _ (_ :: F)
  refine Node_open (pk_head _ _) fun kq kd vq vd cq cd hc0 fk fv fc => ?_
  have hkr := kc_rows rfl fk
  have hp := fun vv cv => place_spec q key fs fs.length kd kq vv cv (KSl kq fs.length kd fs) rfl hkr hk hm
  rw [hh] at hp
  obtain ⟨vg, rfl⟩ := fv.at_ (by omega)
  obtain ⟨KS, hKS⟩ : ∃ KS, KSl kq fs.length kd fs = KS := ⟨_, rfl⟩
  rw [hKS] at hp ⊢
  have lv := fv.le
  have mv := fv.mx
  unfold maxLen at mv
  generalize hi : pl key fs = i at *
  have hset := vc_set fs i key val
  have hkset := kc_set val hh
  rw [hi] at hkset
  have hlen : (fs.set i (key, val)).length = fs.length := List.length_set ..
  generalize hn : fs.length = n at *
  repeat (first | refine CW.seq ?_ | refine PW.then_ ?_ | refine PW.then_to rfl ?_ | refine CW.block ?_ | refine CW.skip ?_ | refine CW.ret ?_ | refine PW.then_ret ?_ | refine PW.block_ret ?_ | refine Cut.ret ?_ | refine Rnd.ret ?_ | refine PW.block_normal ?_ | refine CW.exit ?_ | refine PW.then_exit ?_ | refine PW.block_hit ?_ | refine PW.block_miss rfl ?_ | refine Cut.exit ?_ | refine Rnd.exit ?_)
  refine CW.region ?_
  refine LE (os_box (vs := nc key) rfl (by rfl)) ?_
  rintro _ _ ⟨b4, rfl, rfl⟩
  refine L1 (ps_assign rfl).os ?_
  refine LW.nil ?_
  repeat (first | refine CW.seq ?_ | refine PW.then_ ?_ | refine PW.then_to rfl ?_ | refine CW.block ?_ | refine CW.skip ?_ | refine CW.ret ?_ | refine PW.then_ret ?_ | refine PW.block_ret ?_ | refine Cut.ret ?_ | refine Rnd.ret ?_ | refine PW.block_normal ?_ | refine CW.exit ?_ | refine PW.then_exit ?_ | refine PW.block_hit ?_ | refine PW.block_miss rfl ?_ | refine Cut.exit ?_ | refine Rnd.exit ?_)
  refine CW.region ?_
  refine L1 (ps_move rfl).os ?_
  refine L1 (os_loadAll (b := b4) (cs := nc key) (by repeat (first | exact pk_head _ _ | apply pk_tail)) T.ag29 (by exact T.sz29) rfl) ?_
  refine L1 (os_call2 (hp _ _) Try.func18 (by decide +kernel) rfl rfl (by repeat (first | exact pk_head _ _ | apply pk_tail)) (by repeat (first | exact pk_head _ _ | apply pk_tail))) ?_
  refine L1 (ps_move rfl).os ?_
  refine L1 (ps_extract rfl rfl).os ?_
  refine L1 (ps_extract rfl rfl).os ?_
  refine L1 (ps_assign rfl).os ?_
  refine L1 (ps_assign rfl).os ?_
  refine LW.nil ?_
  repeat (first | refine CW.seq ?_ | refine PW.then_ ?_ | refine PW.then_to rfl ?_ | refine CW.block ?_ | refine CW.skip ?_ | refine CW.ret ?_ | refine PW.then_ret ?_ | refine PW.block_ret ?_ | refine Cut.ret ?_ | refine Rnd.ret ?_ | refine PW.block_normal ?_ | refine CW.exit ?_ | refine PW.then_exit ?_ | refine PW.block_hit ?_ | refine PW.block_miss rfl ?_ | refine Cut.exit ?_ | refine Rnd.exit ?_)
  refine CW.region ?_
  refine L1 (ps_move rfl).os ?_
  refine LW.nil ?_
  repeat (first | refine CW.seq ?_ | refine PW.then_ ?_ | refine PW.then_to rfl ?_ | refine CW.block ?_ | refine CW.skip ?_ | refine CW.ret ?_ | refine PW.then_ret ?_ | refine PW.block_ret ?_ | refine Cut.ret ?_ | refine Rnd.ret ?_ | refine PW.block_normal ?_ | refine CW.exit ?_ | refine PW.then_exit ?_ | refine PW.block_hit ?_ | refine PW.block_miss rfl ?_ | refine Cut.exit ?_ | refine Rnd.exit ?_)
  refine CW.cond_true rfl ?_
  repeat (first | refine CW.seq ?_ | refine PW.then_ ?_ | refine PW.then_to rfl ?_ | refine CW.block ?_ | refine CW.skip ?_ | refine CW.ret ?_ | refine PW.then_ret ?_ | refine PW.block_ret ?_ | refine Cut.ret ?_ | refine Rnd.ret ?_ | refine PW.block_normal ?_ | refine CW.exit ?_ | refine PW.then_exit ?_ | refine PW.block_hit ?_ | refine PW.block_miss rfl ?_ | refine Cut.exit ?_ | refine Rnd.exit ?_)
  refine CW.region ?_
  refine L1 (ps_move rfl).os ?_
  refine L1 (ps_nil rfl).os ?_
  refine L1 (ps_fa T.fa50_1 (by decide) rfl).os ?_
  refine L1 (os_load1 (b := q) (v := .slice (some ⟨vg, 0, none⟩) n vd) (by repeat (first | exact pk_head _ _ | apply pk_tail)) T.ag47 rfl rfl) ?_
  refine L1 (ps_move rfl).os ?_
  refine L1 (ps_move rfl).os ?_
  refine L1 (ps_to (u := .pointer (some ⟨vg, i, none⟩)) (by show Value.pointer (some ⟨vg, 0 + i * 1, none⟩) = _; rw [Nat.zero_add, Nat.mul_one]) (ps_ia_slice T.un47 T.sz3 rfl rfl (by omega) (by omega))).os ?_
  refine L1 (os_store_own (v := .int .i64 val) (g := vg) (m := n) (d := vd) (xs := vc fs) (by repeat (first | exact pk_head _ _ | apply pk_tail)) T.sz3 rfl rfl (by rfl) hpl) ?_
  refine LW.nil ?_
  repeat (first | refine CW.seq ?_ | refine PW.then_ ?_ | refine PW.then_to rfl ?_ | refine CW.block ?_ | refine CW.skip ?_ | refine CW.ret ?_ | refine PW.then_ret ?_ | refine PW.block_ret ?_ | refine Cut.ret ?_ | refine Rnd.ret ?_ | refine PW.block_normal ?_ | refine CW.exit ?_ | refine PW.then_exit ?_ | refine PW.block_hit ?_ | refine PW.block_miss rfl ?_ | refine Cut.exit ?_ | refine Rnd.exit ?_)
  refine CW.region ?_
  refine L1 (ps_assign rfl).os ?_
  refine LW.nil ?_
  repeat (first | refine CW.seq ?_ | refine PW.then_ ?_ | refine PW.then_to rfl ?_ | refine CW.block ?_ | refine CW.skip ?_ | refine CW.ret ?_ | refine PW.then_ret ?_ | refine PW.block_ret ?_ | refine Cut.ret ?_ | refine Rnd.ret ?_ | refine PW.block_normal ?_ | refine CW.exit ?_ | refine PW.then_exit ?_ | refine PW.block_hit ?_ | refine PW.block_miss rfl ?_ | refine Cut.exit ?_ | refine Rnd.exit ?_)
  rw [← hset]
  subst hKS
  refine Fin.ret1 (v := .bool false) rfl [_] rfl ⟨rfl, rfl⟩ ?_
  refine Ent.trans ?_ (Node_mk2 (p := q) (es := fs.set i (key, val)) (ps := qs) (n := n) (m := n) (l := qs.length) (kq := kq) (kd := kd) (vq := some ⟨vg, 0, none⟩) (vd := vd) (cq := cq) (cd := cd) (Bs := F) (List.Perm.refl _) hlen hlen rfl hc0)
  unfold KSl
  rw [hkset]
  exact (by repeat (first | exact Ent.refl _ | (apply Ent.cons; · repeat (first | exact pk_head _ _ | apply pk_tail)) | apply Ent.skip))
/-- A leaf that hasn't the key. -/
theorem put_leaf (key : Nat) (val : Int) (hk : key < M128) (q : Nat) (fs : List En) (hfs : fs.length ≤ 1000) (hm : ∀ e ∈ fs, e.1 < M128) (hh : hit key fs = false) :
    FSpec Try.prog 15 [ptr q, .agg (nc key).toArray, .int .i64 val] [Node q fs []] (fun v As => v = .bool true ∧ As = [Node q (fs.take (pl key fs) ++ (key, val) :: fs.drop (pl key fs)) []]) := by
  have hM := M128_eq
  have hpl := pl_le key fs
  refine FSpec.intro Try.func15 rfl 93 Try.ntmps15 (Nat.le_of_ble_eq_true rfl) fun w0 F => ?_
  show CW _ _ _ _ _ _ (_ :: F)
  refine Node_open (pk_head _ _) fun kq kd vq vd cq cd hc0 fk fv fc => ?_
  obtain ⟨rfl, rfl⟩ := hc0 rfl
  rw [List.length_nil]
  have hkr := kc_rows rfl fk
  have hp := fun vv cv => place_spec q key fs fs.length kd kq vv cv (KSl kq fs.length kd fs) rfl hkr hk hm
  rw [hh] at hp
  have lk := fk.le
  have lv := fv.le
  have mk := fk.mx
  have mv := fv.mx
  unfold maxLen at mk mv
  generalize pl key fs = i at *
  generalize hn : fs.length = n at *
  repeat (first | refine CW.seq ?_ | refine PW.then_ ?_ | refine PW.then_to rfl ?_ | refine CW.block ?_ | refine CW.skip ?_ | refine CW.ret ?_ | refine PW.then_ret ?_ | refine PW.block_ret ?_ | refine Cut.ret ?_ | refine Rnd.ret ?_ | refine PW.block_normal ?_ | refine CW.exit ?_ | refine PW.then_exit ?_ | refine PW.block_hit ?_ | refine PW.block_miss rfl ?_ | refine Cut.exit ?_ | refine Rnd.exit ?_)
  refine CW.region ?_
  refine LE (os_box (vs := nc key) rfl (by rfl)) ?_
  rintro _ _ ⟨b4, rfl, rfl⟩
  refine L1 (ps_assign rfl).os ?_
  refine LW.nil ?_
  repeat (first | refine CW.seq ?_ | refine PW.then_ ?_ | refine PW.then_to rfl ?_ | refine CW.block ?_ | refine CW.skip ?_ | refine CW.ret ?_ | refine PW.then_ret ?_ | refine PW.block_ret ?_ | refine Cut.ret ?_ | refine Rnd.ret ?_ | refine PW.block_normal ?_ | refine CW.exit ?_ | refine PW.then_exit ?_ | refine PW.block_hit ?_ | refine PW.block_miss rfl ?_ | refine Cut.exit ?_ | refine Rnd.exit ?_)
  refine CW.region ?_
  refine L1 (ps_move rfl).os ?_
  refine L1 (os_loadAll (b := b4) (cs := nc key) (by repeat (first | exact pk_head _ _ | apply pk_tail)) T.ag29 (by exact T.sz29) rfl) ?_
  refine L1 (os_call2 (hp _ _) Try.func18 (by decide +kernel) rfl rfl (by repeat (first | exact pk_head _ _ | apply pk_tail)) (by repeat (first | exact pk_head _ _ | apply pk_tail))) ?_
  refine L1 (ps_move rfl).os ?_
  refine L1 (ps_extract rfl rfl).os ?_
  refine L1 (ps_extract rfl rfl).os ?_
  refine L1 (ps_assign rfl).os ?_
  refine L1 (ps_assign rfl).os ?_
  refine LW.nil ?_
  repeat (first | refine CW.seq ?_ | refine PW.then_ ?_ | refine PW.then_to rfl ?_ | refine CW.block ?_ | refine CW.skip ?_ | refine CW.ret ?_ | refine PW.then_ret ?_ | refine PW.block_ret ?_ | refine Cut.ret ?_ | refine Rnd.ret ?_ | refine PW.block_normal ?_ | refine CW.exit ?_ | refine PW.then_exit ?_ | refine PW.block_hit ?_ | refine PW.block_miss rfl ?_ | refine Cut.exit ?_ | refine Rnd.exit ?_)
  refine CW.region ?_
  refine L1 (ps_move rfl).os ?_
  refine LW.nil ?_
  repeat (first | refine CW.seq ?_ | refine PW.then_ ?_ | refine PW.then_to rfl ?_ | refine CW.block ?_ | refine CW.skip ?_ | refine CW.ret ?_ | refine PW.then_ret ?_ | refine PW.block_ret ?_ | refine Cut.ret ?_ | refine Rnd.ret ?_ | refine PW.block_normal ?_ | refine CW.exit ?_ | refine PW.then_exit ?_ | refine PW.block_hit ?_ | refine PW.block_miss rfl ?_ | refine Cut.exit ?_ | refine Rnd.exit ?_)
  refine CW.cond_false rfl ?_
  repeat (first | refine CW.seq ?_ | refine PW.then_ ?_ | refine PW.then_to rfl ?_ | refine CW.block ?_ | refine CW.skip ?_ | refine CW.ret ?_ | refine PW.then_ret ?_ | refine PW.block_ret ?_ | refine Cut.ret ?_ | refine Rnd.ret ?_ | refine PW.block_normal ?_ | refine CW.exit ?_ | refine PW.then_exit ?_ | refine PW.block_hit ?_ | refine PW.block_miss rfl ?_ | refine Cut.exit ?_ | refine Rnd.exit ?_)
  refine CW.region ?_
  refine L1 (ps_move rfl).os ?_
  refine L1 (ps_nil rfl).os ?_
  refine L1 (ps_fa T.fa50_2 (by decide) rfl).os ?_
  refine L1 (os_load1 (b := q) (v := .slice none 0 0) (by repeat (first | exact pk_head _ _ | apply pk_tail)) T.ag48 rfl rfl) ?_
  refine L1 (ps_sl_eql_nil T.un48 rfl rfl).os ?_
  refine LW.nil ?_
  repeat (first | refine CW.seq ?_ | refine PW.then_ ?_ | refine PW.then_to rfl ?_ | refine CW.block ?_ | refine CW.skip ?_ | refine CW.ret ?_ | refine PW.then_ret ?_ | refine PW.block_ret ?_ | refine Cut.ret ?_ | refine Rnd.ret ?_ | refine PW.block_normal ?_ | refine CW.exit ?_ | refine PW.then_exit ?_ | refine PW.block_hit ?_ | refine PW.block_miss rfl ?_ | refine Cut.exit ?_ | refine Rnd.exit ?_)
  refine CW.cond_true rfl ?_
  repeat (first | refine CW.seq ?_ | refine PW.then_ ?_ | refine PW.then_to rfl ?_ | refine CW.block ?_ | refine CW.skip ?_ | refine CW.ret ?_ | refine PW.then_ret ?_ | refine PW.block_ret ?_ | refine Cut.ret ?_ | refine Rnd.ret ?_ | refine PW.block_normal ?_ | refine CW.exit ?_ | refine PW.then_exit ?_ | refine PW.block_hit ?_ | refine PW.block_miss rfl ?_ | refine Cut.exit ?_ | refine Rnd.exit ?_)
  refine CW.cutB (α := Option Addr × Nat) [29, 30, 31, 32, 33, 34, 35, 36, 37, 38, 39, 40, 41, 42, 43, 44, 45, 46, 47] (fun _ => True) (fun _ => []) (fun z => cb q 50 [.slice z.1 (n + 1) z.2, .slice vq n vd, .slice none 0 0] :: KSl z.1 (n + 1) z.2 (fs.take (i) ++ (key, val) :: fs.drop (i)) :: VSl vq n vd fs :: CSl none 0 0 [] :: cb b4 29 (nc key) :: F) ?_ ?_
  · refine CW.drawH [cb q 50 [.slice kq n kd, .slice vq n vd, .slice none 0 0], cb b4 29 (nc key)] [17, 18, 19] T.mixed ?_
    refine H_take (i := 0) (some 29) rfl rfl (by kernel_rfl) (by kernel_rfl) (by kernel_rfl) rfl (ps_move rfl).pl (by kernel_rfl) (pkc (by repeat (first | exact pk_head _ _ | apply pk_tail)) (pkc (by repeat (first | exact pk_head _ _ | apply pk_tail)) (pkn _))) ?_
    refine H_take (i := 1) (some 30) rfl rfl (by kernel_rfl) (by kernel_rfl) (by kernel_rfl) rfl (ps_move rfl).pl (by kernel_rfl) (pkc (by repeat (first | exact pk_head _ _ | apply pk_tail)) (pkc (by repeat (first | exact pk_head _ _ | apply pk_tail)) (pkn _))) ?_
    refine H_take (i := 2) (some 31) rfl rfl (by kernel_rfl) (by kernel_rfl) (by kernel_rfl) rfl (ps_nil rfl).pl (by kernel_rfl) (pkc (by repeat (first | exact pk_head _ _ | apply pk_tail)) (pkc (by repeat (first | exact pk_head _ _ | apply pk_tail)) (pkn _))) ?_
    refine H_take (i := 3) (some 32) rfl rfl (by kernel_rfl) (by kernel_rfl) (by kernel_rfl) rfl (ps_fa T.fa50_0 (by decide) rfl).pl (by kernel_rfl) (pkc (by repeat (first | exact pk_head _ _ | apply pk_tail)) (pkc (by repeat (first | exact pk_head _ _ | apply pk_tail)) (pkn _))) ?_
    refine H_take (i := 4) (some 33) rfl rfl (by kernel_rfl) (by kernel_rfl) (by kernel_rfl) rfl (pl_load1 (b := q) (v := .slice kq n kd) (by repeat (first | exact pk_head _ _ | apply pk_tail)) T.ag22 rfl rfl) (by kernel_rfl) (pkc (by repeat (first | exact pk_head _ _ | apply pk_tail)) (pkc (by repeat (first | exact pk_head _ _ | apply pk_tail)) (pkn _))) ?_
    refine H_take (i := 5) (some 34) rfl rfl (by kernel_rfl) (by kernel_rfl) (by kernel_rfl) rfl (ps_move rfl).pl (by kernel_rfl) (pkc (by repeat (first | exact pk_head _ _ | apply pk_tail)) (pkc (by repeat (first | exact pk_head _ _ | apply pk_tail)) (pkn _))) ?_
    refine H_take (i := 6) (some 35) rfl rfl (by kernel_rfl) (by kernel_rfl) (by kernel_rfl) rfl (ps_to (u := .slice kq (i) kd) (by rfl) (ps_sl_h T.un22 T.sz29 rfl rfl (by omega) (by omega))).pl (by kernel_rfl) (pkc (by repeat (first | exact pk_head _ _ | apply pk_tail)) (pkc (by repeat (first | exact pk_head _ _ | apply pk_tail)) (pkn _))) ?_
    refine H_take (i := 7) (some 36) rfl rfl (by kernel_rfl) (by kernel_rfl) (by kernel_rfl) rfl (pl_loadAll (b := b4) (cs := nc key) (by repeat (first | exact pk_head _ _ | apply pk_tail)) T.ag29 (by exact T.sz29) rfl) (by kernel_rfl) (pkc (by repeat (first | exact pk_head _ _ | apply pk_tail)) (pkc (by repeat (first | exact pk_head _ _ | apply pk_tail)) (pkn _))) ?_
    refine H_take (i := 9) (some 38) rfl rfl (by kernel_rfl) (by kernel_rfl) (by kernel_rfl) rfl (ps_move rfl).pl (by kernel_rfl) (pkc (by repeat (first | exact pk_head _ _ | apply pk_tail)) (pkc (by repeat (first | exact pk_head _ _ | apply pk_tail)) (pkn _))) ?_
    refine H_take (i := 10) (some 39) rfl rfl (by kernel_rfl) (by kernel_rfl) (by kernel_rfl) rfl (ps_nil rfl).pl (by kernel_rfl) (pkc (by repeat (first | exact pk_head _ _ | apply pk_tail)) (pkc (by repeat (first | exact pk_head _ _ | apply pk_tail)) (pkn _))) ?_
    refine H_take (i := 11) (some 40) rfl rfl (by kernel_rfl) (by kernel_rfl) (by kernel_rfl) rfl (ps_fa T.fa50_0 (by decide) rfl).pl (by kernel_rfl) (pkc (by repeat (first | exact pk_head _ _ | apply pk_tail)) (pkc (by repeat (first | exact pk_head _ _ | apply pk_tail)) (pkn _))) ?_
    refine H_take (i := 12) (some 41) rfl rfl (by kernel_rfl) (by kernel_rfl) (by kernel_rfl) rfl (pl_load1 (b := q) (v := .slice kq n kd) (by repeat (first | exact pk_head _ _ | apply pk_tail)) T.ag22 rfl rfl) (by kernel_rfl) (pkc (by repeat (first | exact pk_head _ _ | apply pk_tail)) (pkc (by repeat (first | exact pk_head _ _ | apply pk_tail)) (pkn _))) ?_
    refine H_take (i := 13) (some 42) rfl rfl (by kernel_rfl) (by kernel_rfl) (by kernel_rfl) rfl (ps_move rfl).pl (by kernel_rfl) (pkc (by repeat (first | exact pk_head _ _ | apply pk_tail)) (pkc (by repeat (first | exact pk_head _ _ | apply pk_tail)) (pkn _))) ?_
    refine H_take (i := 14) (some 43) rfl rfl (by kernel_rfl) (by kernel_rfl) (by kernel_rfl) rfl (ps_to (u := .slice (cutS kq (i) kd 2) (n - (i)) (kd - (i))) (by rfl) (ps_sl_lg T.un22 T.sz29 rfl rfl (by omega) (by omega))).pl (by kernel_rfl) (pkc (by repeat (first | exact pk_head _ _ | apply pk_tail)) (pkc (by repeat (first | exact pk_head _ _ | apply pk_tail)) (pkn _))) ?_
    refine H_branch (rs := [8]) (by kernel_rfl) (by simp) ?_
    refine HR.consE (i := 8) (some 37) rfl rfl rfl (os_bsl1 (vs := nc key) T.un22 T.ti29 rfl rfl (by rfl) rfl (by decide) (by decide)) ?_ ?_
    · rintro _ _ ⟨bz, rfl, rfl⟩
      refine ⟨fun _ => ⟨_, (pkc (by repeat (first | exact pk_head _ _ | apply pk_tail)) (pkc (by repeat (first | exact pk_head _ _ | apply pk_tail)) (pkn _)))⟩, ?_⟩
      refine J.ent ((Ent.perm (Bs := cb bz 29 (nc key) :: _) (by repeat (first | exact pk_head _ _ | apply pk_tail))).trans (Ent.slMk (m := 1) (cap := 1) (size := 2) (xs := nc key) (Nat.le_refl _) (by decide) (by exact Nat.le_refl _) rfl _)) ?_
      refine H_branch (rs := [15]) (by kernel_rfl) (by simp) ?_
      refine HR.consE (i := 15) (some 44) rfl rfl rfl (os_append (xs := nc key) (news := (kc fs).drop ((i) * 2)) (by repeat (first | exact pk_head _ _ | apply pk_tail)) T.un22 T.ti29 (by rfl) (by decide) rfl rfl (by rw [List.length_drop, kc_len]; omega) (Src.dropS (Src.ownG (m := n) (d := kd) (e := 29) (s := 2) (xs := kc fs) (by repeat (first | exact pk_head _ _ | apply pk_tail)) (own_at fk (kc_ne hn))) (by rw [kc_len]; have := fk.le; omega)) (fun u hu => kc_one _ u (List.mem_of_mem_drop hu)) (by unfold maxLen; omega) (by omega)) ?_ ?_
      · rintro _ _ ⟨zq, zd, rfl, rfl, hz⟩
        refine ⟨fun _ => ⟨_, (pkc (by repeat (first | exact pk_head _ _ | apply pk_tail)) (pkc (by repeat (first | exact pk_head _ _ | apply pk_tail)) (pkn _)))⟩, ?_⟩
        refine slOwn_info (m := 1 + (n - (i))) (q := zq) (d := zd) (by repeat (first | exact pk_head _ _ | apply pk_tail)) fun z1 z2 z3 => ?_
        refine J.ent ((Ent.perm (Bs := slOwn 29 2 (.slice kq n kd) n (kc fs) :: _) (by repeat (first | exact pk_head _ _ | apply pk_tail))).trans (Ent.slTake (i) (by omega) _)) ?_
        refine H_branch (rs := [16]) (by kernel_rfl) (by simp) ?_
        refine HR.consE (i := 16) (some 45) rfl rfl rfl (os_append (xs := (kc fs).take ((i) * 2)) (news := nc key ++ (kc fs).drop ((i) * 2)) (by repeat (first | exact pk_head _ _ | apply pk_tail)) T.un22 T.ti29 (by rfl) (by decide) rfl rfl (by rw [List.length_append, List.length_drop, kc_len]; simp only [nc_len, List.length_cons, List.length_nil]; omega) (Src.ownG (by repeat (first | exact pk_head _ _ | apply pk_tail)) (fun _ => z3 (by omega))) (one_app (nc_one _) (fun u hu => kc_one _ u (List.mem_of_mem_drop hu))) (by unfold maxLen; omega) (by omega)) ?_ ?_
        · rintro _ _ ⟨yq, yd, rfl, rfl, hy⟩
          refine ⟨fun _ => ⟨_, (pkc (by repeat (first | exact pk_head _ _ | apply pk_tail)) (pkc (by repeat (first | exact pk_head _ _ | apply pk_tail)) (pkn _)))⟩, ?_⟩
          refine H_takeP (i := 17) (some 46) rfl rfl (by kernel_rfl) (by kernel_rfl) (by kernel_rfl) rfl (ps_nil rfl) (by decide) ?_
          refine H_takeP (i := 18) (some 47) rfl rfl (by kernel_rfl) (by kernel_rfl) (by kernel_rfl) rfl (ps_fa T.fa50_0 (by decide) rfl) (by decide) ?_
          refine H_branch (rs := [19]) (by kernel_rfl) (by simp) ?_
          refine HR.consL (i := 19) none rfl rfl rfl (os_store1 (b := q) (by repeat (first | exact pk_head _ _ | apply pk_tail)) T.sz22 rfl rfl (by rfl) (Nat.le_of_ble_eq_true rfl)) (by decide) ?_ ?_
          · skip
            refine H_done (by kernel_rfl) ?_
            exact Meet.cut (yq, yd) trivial (by repeat (first | (with_reducible exact Ag.refl _ _) | (with_reducible apply Ag.pu0) | ((with_reducible refine Ag.pu _ ?_ ?_); · exact rfl) | ((with_reducible refine Ag.mix ?_ ?_); · exact rfl) | ((with_reducible refine Ag.pus ?_ ?_); · exact rfl))) trivial (by dsimp only; rw [show (i) + (1 + (n - (i))) = n + 1 by omega, KSl_ins]; exact (by repeat (first | exact Ent.refl _ | (apply Ent.cons; · repeat (first | exact pk_head _ _ | apply pk_tail)) | apply Ent.skip)))
          exact HR.nil
        exact HR.nil
      exact HR.nil
    exact HR.nil
  rintro ⟨kq1, kd1⟩ _ _
  try dsimp only
  repeat (first | refine CW.seq ?_ | refine PW.then_ ?_ | refine PW.then_to rfl ?_ | refine CW.block ?_ | refine CW.skip ?_ | refine CW.ret ?_ | refine PW.then_ret ?_ | refine PW.block_ret ?_ | refine Cut.ret ?_ | refine Rnd.ret ?_ | refine PW.block_normal ?_ | refine CW.exit ?_ | refine PW.then_exit ?_ | refine PW.block_hit ?_ | refine PW.block_miss rfl ?_ | refine Cut.exit ?_ | refine Rnd.exit ?_)
  refine CW.cutB (α := Option Addr × Nat) [48, 49, 50, 51, 52, 53, 54, 55, 56, 57, 58, 59, 60, 61, 62, 63, 64, 65, 66] (fun _ => True) (fun _ => []) (fun z => cb q 50 [.slice kq1 (n + 1) kd1, .slice z.1 (n + 1) z.2, .slice none 0 0] :: VSl z.1 (n + 1) z.2 (fs.take (i) ++ (key, val) :: fs.drop (i)) :: KSl kq1 (n + 1) kd1 (fs.take i ++ (key, val) :: fs.drop i) :: CSl none 0 0 [] :: F) ?_ ?_
  · refine CW.drawH [cb q 50 [.slice kq1 (n + 1) kd1, .slice vq n vd, .slice none 0 0]] [17, 18, 19] T.mixed ?_
    refine H_take (i := 0) (some 48) rfl rfl (by kernel_rfl) (by kernel_rfl) (by kernel_rfl) rfl (ps_move rfl).pl (by kernel_rfl) (pkc (by repeat (first | exact pk_head _ _ | apply pk_tail)) (pkn _)) ?_
    refine H_take (i := 1) (some 49) rfl rfl (by kernel_rfl) (by kernel_rfl) (by kernel_rfl) rfl (ps_move rfl).pl (by kernel_rfl) (pkc (by repeat (first | exact pk_head _ _ | apply pk_tail)) (pkn _)) ?_
    refine H_take (i := 2) (some 50) rfl rfl (by kernel_rfl) (by kernel_rfl) (by kernel_rfl) rfl (ps_nil rfl).pl (by kernel_rfl) (pkc (by repeat (first | exact pk_head _ _ | apply pk_tail)) (pkn _)) ?_
    refine H_take (i := 3) (some 51) rfl rfl (by kernel_rfl) (by kernel_rfl) (by kernel_rfl) rfl (ps_fa T.fa50_1 (by decide) rfl).pl (by kernel_rfl) (pkc (by repeat (first | exact pk_head _ _ | apply pk_tail)) (pkn _)) ?_
    refine H_take (i := 4) (some 52) rfl rfl (by kernel_rfl) (by kernel_rfl) (by kernel_rfl) rfl (pl_load1 (b := q) (v := .slice vq n vd) (by repeat (first | exact pk_head _ _ | apply pk_tail)) T.ag47 rfl rfl) (by kernel_rfl) (pkc (by repeat (first | exact pk_head _ _ | apply pk_tail)) (pkn _)) ?_
    refine H_take (i := 5) (some 53) rfl rfl (by kernel_rfl) (by kernel_rfl) (by kernel_rfl) rfl (ps_move rfl).pl (by kernel_rfl) (pkc (by repeat (first | exact pk_head _ _ | apply pk_tail)) (pkn _)) ?_
    refine H_take (i := 6) (some 54) rfl rfl (by kernel_rfl) (by kernel_rfl) (by kernel_rfl) rfl (ps_to (u := .slice vq (i) vd) (by rfl) (ps_sl_h T.un47 T.sz3 rfl rfl (by omega) (by omega))).pl (by kernel_rfl) (pkc (by repeat (first | exact pk_head _ _ | apply pk_tail)) (pkn _)) ?_
    refine H_take (i := 7) (some 55) rfl rfl (by kernel_rfl) (by kernel_rfl) (by kernel_rfl) rfl (ps_move rfl).pl (by kernel_rfl) (pkc (by repeat (first | exact pk_head _ _ | apply pk_tail)) (pkn _)) ?_
    refine H_take (i := 9) (some 57) rfl rfl (by kernel_rfl) (by kernel_rfl) (by kernel_rfl) rfl (ps_move rfl).pl (by kernel_rfl) (pkc (by repeat (first | exact pk_head _ _ | apply pk_tail)) (pkn _)) ?_
    refine H_take (i := 10) (some 58) rfl rfl (by kernel_rfl) (by kernel_rfl) (by kernel_rfl) rfl (ps_nil rfl).pl (by kernel_rfl) (pkc (by repeat (first | exact pk_head _ _ | apply pk_tail)) (pkn _)) ?_
    refine H_take (i := 11) (some 59) rfl rfl (by kernel_rfl) (by kernel_rfl) (by kernel_rfl) rfl (ps_fa T.fa50_1 (by decide) rfl).pl (by kernel_rfl) (pkc (by repeat (first | exact pk_head _ _ | apply pk_tail)) (pkn _)) ?_
    refine H_take (i := 12) (some 60) rfl rfl (by kernel_rfl) (by kernel_rfl) (by kernel_rfl) rfl (pl_load1 (b := q) (v := .slice vq n vd) (by repeat (first | exact pk_head _ _ | apply pk_tail)) T.ag47 rfl rfl) (by kernel_rfl) (pkc (by repeat (first | exact pk_head _ _ | apply pk_tail)) (pkn _)) ?_
    refine H_take (i := 13) (some 61) rfl rfl (by kernel_rfl) (by kernel_rfl) (by kernel_rfl) rfl (ps_move rfl).pl (by kernel_rfl) (pkc (by repeat (first | exact pk_head _ _ | apply pk_tail)) (pkn _)) ?_
    refine H_take (i := 14) (some 62) rfl rfl (by kernel_rfl) (by kernel_rfl) (by kernel_rfl) rfl (ps_to (u := .slice (cutS vq (i) vd 1) (n - (i)) (vd - (i))) (by rfl) (ps_sl_lg T.un47 T.sz3 rfl rfl (by omega) (by omega))).pl (by kernel_rfl) (pkc (by repeat (first | exact pk_head _ _ | apply pk_tail)) (pkn _)) ?_
    refine H_branch (rs := [8]) (by kernel_rfl) (by simp) ?_
    refine HR.consE (i := 8) (some 56) rfl rfl rfl (os_bsl1 (vs := [.int .i64 val]) T.un47 T.ti3 rfl rfl (by rfl) rfl (by decide) (by decide)) ?_ ?_
    · rintro _ _ ⟨bz, rfl, rfl⟩
      refine ⟨fun _ => ⟨_, (pkc (by repeat (first | exact pk_head _ _ | apply pk_tail)) (pkn _))⟩, ?_⟩
      refine J.ent ((Ent.perm (Bs := cb bz 3 ([.int .i64 val]) :: _) (by repeat (first | exact pk_head _ _ | apply pk_tail))).trans (Ent.slMk (m := 1) (cap := 1) (size := 1) (xs := [.int .i64 val]) (Nat.le_refl _) (by decide) (by exact Nat.le_refl _) rfl _)) ?_
      refine H_branch (rs := [15]) (by kernel_rfl) (by simp) ?_
      refine HR.consE (i := 15) (some 63) rfl rfl rfl (os_append (xs := [.int .i64 val]) (news := (vc fs).drop ((i) * 1)) (by repeat (first | exact pk_head _ _ | apply pk_tail)) T.un47 T.ti3 (by rfl) (by decide) rfl rfl (by rw [List.length_drop, vc_len]; omega) (Src.dropS (Src.ownG (m := n) (d := vd) (e := 3) (s := 1) (xs := vc fs) (by repeat (first | exact pk_head _ _ | apply pk_tail)) (own_at fv (vc_ne hn))) (by rw [vc_len]; have := fv.le; omega)) (fun u hu => vc_one _ u (List.mem_of_mem_drop hu)) (by unfold maxLen; omega) (by omega)) ?_ ?_
      · rintro _ _ ⟨zq, zd, rfl, rfl, hz⟩
        refine ⟨fun _ => ⟨_, (pkc (by repeat (first | exact pk_head _ _ | apply pk_tail)) (pkn _))⟩, ?_⟩
        refine slOwn_info (m := 1 + (n - (i))) (q := zq) (d := zd) (by repeat (first | exact pk_head _ _ | apply pk_tail)) fun z1 z2 z3 => ?_
        refine J.ent ((Ent.perm (Bs := slOwn 3 1 (.slice vq n vd) n (vc fs) :: _) (by repeat (first | exact pk_head _ _ | apply pk_tail))).trans (Ent.slTake (i) (by omega) _)) ?_
        refine H_branch (rs := [16]) (by kernel_rfl) (by simp) ?_
        refine HR.consE (i := 16) (some 64) rfl rfl rfl (os_append (xs := (vc fs).take ((i) * 1)) (news := [.int .i64 val] ++ (vc fs).drop ((i) * 1)) (by repeat (first | exact pk_head _ _ | apply pk_tail)) T.un47 T.ti3 (by rfl) (by decide) rfl rfl (by rw [List.length_append, List.length_drop, vc_len]; simp only [nc_len, List.length_cons, List.length_nil]; omega) (Src.ownG (by repeat (first | exact pk_head _ _ | apply pk_tail)) (fun _ => z3 (by omega))) (one_app (by simp [Value.oneCell']) (fun u hu => vc_one _ u (List.mem_of_mem_drop hu))) (by unfold maxLen; omega) (by omega)) ?_ ?_
        · rintro _ _ ⟨yq, yd, rfl, rfl, hy⟩
          refine ⟨fun _ => ⟨_, (pkc (by repeat (first | exact pk_head _ _ | apply pk_tail)) (pkn _))⟩, ?_⟩
          refine H_takeP (i := 17) (some 65) rfl rfl (by kernel_rfl) (by kernel_rfl) (by kernel_rfl) rfl (ps_nil rfl) (by decide) ?_
          refine H_takeP (i := 18) (some 66) rfl rfl (by kernel_rfl) (by kernel_rfl) (by kernel_rfl) rfl (ps_fa T.fa50_1 (by decide) rfl) (by decide) ?_
          refine H_branch (rs := [19]) (by kernel_rfl) (by simp) ?_
          refine HR.consL (i := 19) none rfl rfl rfl (os_store1 (b := q) (by repeat (first | exact pk_head _ _ | apply pk_tail)) T.sz47 rfl rfl (by rfl) (Nat.le_of_ble_eq_true rfl)) (by decide) ?_ ?_
          · skip
            refine H_done (by kernel_rfl) ?_
            exact Meet.cut (yq, yd) trivial (by repeat (first | (with_reducible exact Ag.refl _ _) | (with_reducible apply Ag.pu0) | ((with_reducible refine Ag.pu _ ?_ ?_); · exact rfl) | ((with_reducible refine Ag.mix ?_ ?_); · exact rfl) | ((with_reducible refine Ag.pus ?_ ?_); · exact rfl))) trivial (by dsimp only; rw [show (i) + (1 + (n - (i))) = n + 1 by omega, VSl_ins]; exact (by repeat (first | exact Ent.refl _ | (apply Ent.cons; · repeat (first | exact pk_head _ _ | apply pk_tail)) | apply Ent.skip)))
          exact HR.nil
        exact HR.nil
      exact HR.nil
    exact HR.nil
  rintro ⟨vq1, vd1⟩ _ _
  try dsimp only
  have hk1 : (fs.take i ++ (key, val) :: fs.drop i).length = n + 1 := by rw [List.length_append, List.length_take, List.length_cons, List.length_drop, hn]; omega
  refine J.ent (Node_mk2 (p := q) (es := fs.take i ++ (key, val) :: fs.drop i) (ps := []) (n := n + 1) (m := n + 1) (l := 0) (kq := kq1) (kd := kd1) (vq := vq1) (vd := vd1) (cq := none) (cd := 0) (pkc4 (by repeat (first | exact pk_head _ _ | apply pk_tail)) (by repeat (first | exact pk_head _ _ | apply pk_tail)) (by repeat (first | exact pk_head _ _ | apply pk_tail)) (by repeat (first | exact pk_head _ _ | apply pk_tail))) hk1 hk1 rfl (fun _ => ⟨rfl, rfl⟩)) ?_
  repeat (first | refine CW.seq ?_ | refine PW.then_ ?_ | refine PW.then_to rfl ?_ | refine CW.block ?_ | refine CW.skip ?_ | refine CW.ret ?_ | refine PW.then_ret ?_ | refine PW.block_ret ?_ | refine Cut.ret ?_ | refine Rnd.ret ?_ | refine PW.block_normal ?_ | refine CW.exit ?_ | refine PW.then_exit ?_ | refine PW.block_hit ?_ | refine PW.block_miss rfl ?_ | refine Cut.exit ?_ | refine Rnd.exit ?_)
  refine CW.region ?_
  refine L1 (ps_assign rfl).os ?_
  refine LW.nil ?_
  repeat (first | refine CW.seq ?_ | refine PW.then_ ?_ | refine PW.then_to rfl ?_ | refine CW.block ?_ | refine CW.skip ?_ | refine CW.ret ?_ | refine PW.then_ret ?_ | refine PW.block_ret ?_ | refine Cut.ret ?_ | refine Rnd.ret ?_ | refine PW.block_normal ?_ | refine CW.exit ?_ | refine PW.then_exit ?_ | refine PW.block_hit ?_ | refine PW.block_miss rfl ?_ | refine Cut.exit ?_ | refine Rnd.exit ?_)
  exact Fin.ret1 (v := .bool true) rfl [_] rfl ⟨rfl, rfl⟩ (by repeat (first | exact Ent.refl _ | (apply Ent.cons; · repeat (first | exact pk_head _ _ | apply pk_tail)) | apply Ent.skip))
theorem Kids_rs {h : Nat} {fs : List En} {qs : List Nat} {l : List En} {w0 : World} {As Bs : List Asn} {G : World → Prop} (hp : As.Perm (Kids h fs qs l :: Bs)) (k : (qs = [] ∨ qs.length = fs.length + 1) → J w0 As G) : J w0 As G := J.fact hp Kids_len k
/-- Into a kid, which is parted if it has too many then. -/
theorem put_deep (key : Nat) (val : Int) (hk : key < M128) (q : Nat) (fs : List En) (qs : List Nat) (hfs : fs.length ≤ 5) (hqs : qs.length = fs.length + 1) (hm : ∀ e ∈ fs, e.1 < M128) (hh : hit key fs = false) (h qc : Nat) (lc lc' : List En) (fresh : Bool) (hqc : qs[pl key fs]? = some qc)
    (ih : FSpec Try.prog 15 [ptr qc, .agg (nc key).toArray, .int .i64 val] [Nd h 5 qc lc] (fun v As => v = .bool fresh ∧ As = [Nd h 6 qc lc'])) :
    FSpec Try.prog 15 [ptr q, .agg (nc key).toArray, .int .i64 val] [Node q fs qs, Nd h 5 qc lc]
      (fun v As => v = .bool fresh ∧ (As = [Node q fs qs, Nd h 5 qc lc'] ∨ ∃ e r l1 l2, lc' = l1 ++ e :: l2 ∧
        As = [Node q (fs.take (pl key fs) ++ e :: fs.drop (pl key fs)) (qs.take (pl key fs + 1) ++ r :: qs.drop (pl key fs + 1)), Nd h 5 qc l1, Nd h 5 r l2])) := by
  have hM := M128_eq
  have hpl := pl_le key fs
  refine FSpec.intro Try.func15 rfl 93 Try.ntmps15 (Nat.le_of_ble_eq_true rfl) fun w0 F => ?_
  show CW _ _ _ _ _ _ (_ :: _ :: F)
  refine Node_open (pk_head _ _) fun kq kd vq vd cq cd hc0 fk fv fc => ?_
  have hkr := kc_rows rfl fk
  have hp := fun vv cv => place_spec q key fs fs.length kd kq vv cv (KSl kq fs.length kd fs) rfl hkr hk hm
  rw [hh] at hp
  obtain ⟨cg, rfl⟩ := fc.at_ (by omega)
  have hpq := pc_at hqc
  have lc0 := fc.le
  have mc := fc.mx
  unfold maxLen at mc
  generalize hi : pl key fs = i at *
  generalize hn : fs.length = n at *
  generalize hl : qs.length = l at *
  have hnode : ∀ Bs, Ent (cb q 50 [.slice kq n kd, .slice vq n vd, .slice (some ⟨cg, 0, none⟩) l cd] :: KSl kq n kd fs :: VSl vq n vd fs :: CSl (some ⟨cg, 0, none⟩) l cd qs :: Bs) (Node q fs qs :: Bs) := fun Bs =>
    Node_mk kq n kd vq vd _ l cd hn.symm hl.symm hc0
  repeat (first | refine CW.seq ?_ | refine PW.then_ ?_ | refine PW.then_to rfl ?_ | refine CW.block ?_ | refine CW.skip ?_ | refine CW.ret ?_ | refine PW.then_ret ?_ | refine PW.block_ret ?_ | refine Cut.ret ?_ | refine Rnd.ret ?_ | refine PW.block_normal ?_ | refine CW.exit ?_ | refine PW.then_exit ?_ | refine PW.block_hit ?_ | refine PW.block_miss rfl ?_ | refine Cut.exit ?_ | refine Rnd.exit ?_)
  refine CW.region ?_
  refine LE (os_box (vs := nc key) rfl (by rfl)) ?_
  rintro _ _ ⟨b4, rfl, rfl⟩
  refine L1 (ps_assign rfl).os ?_
  refine LW.nil ?_
  repeat (first | refine CW.seq ?_ | refine PW.then_ ?_ | refine PW.then_to rfl ?_ | refine CW.block ?_ | refine CW.skip ?_ | refine CW.ret ?_ | refine PW.then_ret ?_ | refine PW.block_ret ?_ | refine Cut.ret ?_ | refine Rnd.ret ?_ | refine PW.block_normal ?_ | refine CW.exit ?_ | refine PW.then_exit ?_ | refine PW.block_hit ?_ | refine PW.block_miss rfl ?_ | refine Cut.exit ?_ | refine Rnd.exit ?_)
  refine CW.region ?_
  refine L1 (ps_move rfl).os ?_
  refine L1 (os_loadAll (b := b4) (cs := nc key) (by repeat (first | exact pk_head _ _ | apply pk_tail)) T.ag29 (by exact T.sz29) rfl) ?_
  refine L1 (os_call2 (hp _ _) Try.func18 (by decide +kernel) rfl rfl (by repeat (first | exact pk_head _ _ | apply pk_tail)) (by repeat (first | exact pk_head _ _ | apply pk_tail))) ?_
  refine L1 (ps_move rfl).os ?_
  refine L1 (ps_extract rfl rfl).os ?_
  refine L1 (ps_extract rfl rfl).os ?_
  refine L1 (ps_assign rfl).os ?_
  refine L1 (ps_assign rfl).os ?_
  refine LW.nil ?_
  repeat (first | refine CW.seq ?_ | refine PW.then_ ?_ | refine PW.then_to rfl ?_ | refine CW.block ?_ | refine CW.skip ?_ | refine CW.ret ?_ | refine PW.then_ret ?_ | refine PW.block_ret ?_ | refine Cut.ret ?_ | refine Rnd.ret ?_ | refine PW.block_normal ?_ | refine CW.exit ?_ | refine PW.then_exit ?_ | refine PW.block_hit ?_ | refine PW.block_miss rfl ?_ | refine Cut.exit ?_ | refine Rnd.exit ?_)
  refine CW.region ?_
  refine L1 (ps_move rfl).os ?_
  refine LW.nil ?_
  repeat (first | refine CW.seq ?_ | refine PW.then_ ?_ | refine PW.then_to rfl ?_ | refine CW.block ?_ | refine CW.skip ?_ | refine CW.ret ?_ | refine PW.then_ret ?_ | refine PW.block_ret ?_ | refine Cut.ret ?_ | refine Rnd.ret ?_ | refine PW.block_normal ?_ | refine CW.exit ?_ | refine PW.then_exit ?_ | refine PW.block_hit ?_ | refine PW.block_miss rfl ?_ | refine Cut.exit ?_ | refine Rnd.exit ?_)
  refine CW.cond_false rfl ?_
  repeat (first | refine CW.seq ?_ | refine PW.then_ ?_ | refine PW.then_to rfl ?_ | refine CW.block ?_ | refine CW.skip ?_ | refine CW.ret ?_ | refine PW.then_ret ?_ | refine PW.block_ret ?_ | refine Cut.ret ?_ | refine Rnd.ret ?_ | refine PW.block_normal ?_ | refine CW.exit ?_ | refine PW.then_exit ?_ | refine PW.block_hit ?_ | refine PW.block_miss rfl ?_ | refine Cut.exit ?_ | refine Rnd.exit ?_)
  refine CW.region ?_
  refine L1 (ps_move rfl).os ?_
  refine L1 (ps_nil rfl).os ?_
  refine L1 (ps_fa T.fa50_2 (by decide) rfl).os ?_
  refine L1 (os_load1 (b := q) (v := .slice (some ⟨cg, 0, none⟩) l cd) (by repeat (first | exact pk_head _ _ | apply pk_tail)) T.ag48 rfl rfl) ?_
  refine L1 (ps_sl_eql_nil T.un48 rfl rfl).os ?_
  refine LW.nil ?_
  repeat (first | refine CW.seq ?_ | refine PW.then_ ?_ | refine PW.then_to rfl ?_ | refine CW.block ?_ | refine CW.skip ?_ | refine CW.ret ?_ | refine PW.then_ret ?_ | refine PW.block_ret ?_ | refine Cut.ret ?_ | refine Rnd.ret ?_ | refine PW.block_normal ?_ | refine CW.exit ?_ | refine PW.then_exit ?_ | refine PW.block_hit ?_ | refine PW.block_miss rfl ?_ | refine Cut.exit ?_ | refine Rnd.exit ?_)
  refine CW.cond_false rfl ?_
  repeat (first | refine CW.seq ?_ | refine PW.then_ ?_ | refine PW.then_to rfl ?_ | refine CW.block ?_ | refine CW.skip ?_ | refine CW.ret ?_ | refine PW.then_ret ?_ | refine PW.block_ret ?_ | refine Cut.ret ?_ | refine Rnd.ret ?_ | refine PW.block_normal ?_ | refine CW.exit ?_ | refine PW.then_exit ?_ | refine PW.block_hit ?_ | refine PW.block_miss rfl ?_ | refine Cut.exit ?_ | refine Rnd.exit ?_)
  refine CW.cutB (α := Unit) [9, 67, 68, 69, 70, 71, 72, 73, 74, 75, 76] (fun _ => True) (fun _ => [(9, .bool fresh)]) (fun _ => cb q 50 [.slice kq n kd, .slice vq n vd, .slice (some ⟨cg, 0, none⟩) l cd] :: KSl kq n kd fs :: VSl vq n vd fs :: CSl (some ⟨cg, 0, none⟩) l cd qs :: Nd h 6 qc lc' :: F) ?_ ?_
  · refine CW.drawH [cb q 50 [.slice kq n kd, .slice vq n vd, .slice (some ⟨cg, 0, none⟩) l cd], CSl (some ⟨cg, 0, none⟩) l cd qs, cb b4 29 (nc key)] [] T.mixed ?_
    refine H_take (i := 0) (some 67) rfl rfl (by kernel_rfl) (by kernel_rfl) (by kernel_rfl) rfl (ps_move rfl).pl (by kernel_rfl) (pkc (by repeat (first | exact pk_head _ _ | apply pk_tail)) (pkc (by repeat (first | exact pk_head _ _ | apply pk_tail)) (pkc (by repeat (first | exact pk_head _ _ | apply pk_tail)) (pkn _)))) ?_
    refine H_take (i := 1) (some 68) rfl rfl (by kernel_rfl) (by kernel_rfl) (by kernel_rfl) rfl (ps_nil rfl).pl (by kernel_rfl) (pkc (by repeat (first | exact pk_head _ _ | apply pk_tail)) (pkc (by repeat (first | exact pk_head _ _ | apply pk_tail)) (pkc (by repeat (first | exact pk_head _ _ | apply pk_tail)) (pkn _)))) ?_
    refine H_take (i := 2) (some 69) rfl rfl (by kernel_rfl) (by kernel_rfl) (by kernel_rfl) rfl (ps_fa T.fa50_2 (by decide) rfl).pl (by kernel_rfl) (pkc (by repeat (first | exact pk_head _ _ | apply pk_tail)) (pkc (by repeat (first | exact pk_head _ _ | apply pk_tail)) (pkc (by repeat (first | exact pk_head _ _ | apply pk_tail)) (pkn _)))) ?_
    refine H_take (i := 3) (some 70) rfl rfl (by kernel_rfl) (by kernel_rfl) (by kernel_rfl) rfl (pl_load1 (b := q) (v := .slice (some ⟨cg, 0, none⟩) l cd) (by repeat (first | exact pk_head _ _ | apply pk_tail)) T.ag48 rfl rfl) (by kernel_rfl) (pkc (by repeat (first | exact pk_head _ _ | apply pk_tail)) (pkc (by repeat (first | exact pk_head _ _ | apply pk_tail)) (pkc (by repeat (first | exact pk_head _ _ | apply pk_tail)) (pkn _)))) ?_
    refine H_take (i := 4) (some 71) rfl rfl (by kernel_rfl) (by kernel_rfl) (by kernel_rfl) rfl (ps_move rfl).pl (by kernel_rfl) (pkc (by repeat (first | exact pk_head _ _ | apply pk_tail)) (pkc (by repeat (first | exact pk_head _ _ | apply pk_tail)) (pkc (by repeat (first | exact pk_head _ _ | apply pk_tail)) (pkn _)))) ?_
    refine H_take (i := 5) (some 72) rfl rfl (by kernel_rfl) (by kernel_rfl) (by kernel_rfl) rfl (ps_ia_slice T.un48 T.sz24 rfl rfl (by omega) (by omega)).pl (by kernel_rfl) (pkc (by repeat (first | exact pk_head _ _ | apply pk_tail)) (pkc (by repeat (first | exact pk_head _ _ | apply pk_tail)) (pkc (by repeat (first | exact pk_head _ _ | apply pk_tail)) (pkn _)))) ?_
    refine H_take (i := 6) (some 73) rfl rfl (by kernel_rfl) (by kernel_rfl) (by kernel_rfl) rfl (pl_loadS1 (v := ptr qc) (fun Bs => Src.part (i := i * 1) (Src.ownG (xs := pc qs) (by repeat (first | exact pk_head _ _ | apply pk_tail)) (fun _ => ⟨_, rfl⟩)) hpq) T.ag24 rfl) (by kernel_rfl) (pkc (by repeat (first | exact pk_head _ _ | apply pk_tail)) (pkc (by repeat (first | exact pk_head _ _ | apply pk_tail)) (pkc (by repeat (first | exact pk_head _ _ | apply pk_tail)) (pkn _)))) ?_
    refine H_take (i := 7) (some 74) rfl rfl (by kernel_rfl) (by kernel_rfl) (by kernel_rfl) rfl (pl_loadAll (b := b4) (cs := nc key) (by repeat (first | exact pk_head _ _ | apply pk_tail)) T.ag29 (by exact T.sz29) rfl) (by kernel_rfl) (pkc (by repeat (first | exact pk_head _ _ | apply pk_tail)) (pkc (by repeat (first | exact pk_head _ _ | apply pk_tail)) (pkc (by repeat (first | exact pk_head _ _ | apply pk_tail)) (pkn _)))) ?_
    refine H_take (i := 8) (some 75) rfl rfl (by kernel_rfl) (by kernel_rfl) (by kernel_rfl) rfl (ps_move rfl).pl (by kernel_rfl) (pkc (by repeat (first | exact pk_head _ _ | apply pk_tail)) (pkc (by repeat (first | exact pk_head _ _ | apply pk_tail)) (pkc (by repeat (first | exact pk_head _ _ | apply pk_tail)) (pkn _)))) ?_
    refine H_branch (rs := [9]) (by kernel_rfl) (by simp) ?_
    refine HR.cons1 (i := 9) (some 76) rfl rfl rfl (os_call1 ih Try.func15 (by decide +kernel) rfl rfl (by repeat (first | exact pk_head _ _ | apply pk_tail))) (pkc (by repeat (first | exact pk_head _ _ | apply pk_tail)) (pkc (by repeat (first | exact pk_head _ _ | apply pk_tail)) (pkc (by repeat (first | exact pk_head _ _ | apply pk_tail)) (pkn _)))) ?_ ?_
    · skip
      refine H_take (i := 10) (some 9) rfl rfl (by kernel_rfl) (by kernel_rfl) (by kernel_rfl) rfl (ps_assign rfl).pl (by kernel_rfl) (pkc (by repeat (first | exact pk_head _ _ | apply pk_tail)) (pkc (by repeat (first | exact pk_head _ _ | apply pk_tail)) (pkc (by repeat (first | exact pk_head _ _ | apply pk_tail)) (pkn _)))) ?_
      refine H_done (by kernel_rfl) ?_
      exact Meet.cut () trivial (by repeat (first | (with_reducible exact Ag.refl _ _) | (with_reducible apply Ag.pu0) | ((with_reducible refine Ag.pu _ ?_ ?_); · exact rfl) | ((with_reducible refine Ag.mix ?_ ?_); · exact rfl) | ((with_reducible refine Ag.pus ?_ ?_); · exact rfl))) ⟨rfl, trivial⟩ (by repeat (first | exact Ent.refl _ | (apply Ent.cons; · repeat (first | exact pk_head _ _ | apply pk_tail)) | apply Ent.skip))
    exact HR.nil
  rintro _ _ _
  try dsimp only
  refine Nd_open (h := h) (c := 6) (q := qc) (l := lc') (by repeat (first | exact pk_head _ _ | apply pk_tail)) fun gs rs hgs => ?_
  refine Kids_rs (by repeat (first | exact pk_head _ _ | apply pk_tail)) fun hrs => ?_
  refine Node_open (p := qc) (by repeat (first | exact pk_head _ _ | apply pk_tail)) fun kq' kd' vq' vd' cq' cd' hc0' fk' fv' fc' => ?_
  have hnode' : ∀ Bs, Ent (cb qc 50 [.slice kq' gs.length kd', .slice vq' gs.length vd', .slice cq' rs.length cd'] :: KSl kq' gs.length kd' gs :: VSl vq' gs.length vd' gs :: CSl cq' rs.length cd' rs :: Bs) (Node qc gs rs :: Bs) := fun Bs =>
    Node_mk kq' _ kd' vq' vd' cq' _ cd' rfl rfl hc0'
  repeat (first | refine CW.seq ?_ | refine PW.then_ ?_ | refine PW.then_to rfl ?_ | refine CW.block ?_ | refine CW.skip ?_ | refine CW.ret ?_ | refine PW.then_ret ?_ | refine PW.block_ret ?_ | refine Cut.ret ?_ | refine Rnd.ret ?_ | refine PW.block_normal ?_ | refine CW.exit ?_ | refine PW.then_exit ?_ | refine PW.block_hit ?_ | refine PW.block_miss rfl ?_ | refine Cut.exit ?_ | refine Rnd.exit ?_)
  by_cases h5 : (5 : Int) < (gs.length : Nat)
  · refine CW.region ?_
    refine L1 (ps_move rfl).os ?_
    refine L1 (ps_nil rfl).os ?_
    refine L1 (ps_fa T.fa50_2 (by decide) rfl).os ?_
    refine L1 (os_load1 (b := q) (v := .slice (some ⟨cg, 0, none⟩) l cd) (by repeat (first | exact pk_head _ _ | apply pk_tail)) T.ag48 rfl rfl) ?_
    refine L1 (ps_move rfl).os ?_
    refine L1 (ps_ia_slice T.un48 T.sz24 rfl rfl (by omega) (by omega)).os ?_
    refine L1 (os_loadS1 (v := ptr qc) (Src.part (i := i * 1) (Src.ownG (xs := pc qs) (by repeat (first | exact pk_head _ _ | apply pk_tail)) (fun _ => ⟨_, rfl⟩)) hpq) T.ag24 rfl) ?_
    refine L1 (ps_nil rfl).os ?_
    refine L1 (ps_fa T.fa50_0 (by decide) rfl).os ?_
    refine L1 (os_load1 (b := qc) (v := .slice kq' gs.length kd') (by repeat (first | exact pk_head _ _ | apply pk_tail)) T.ag22 rfl rfl) ?_
    refine L1 (ps_len_sl T.un22 rfl).os ?_
    refine L1 (ps_t (ps_gtr rfl rfl) (h5)).os ?_
    refine LW.nil ?_
    have hg3 : gs[3]? = some (gs[3]'(by omega)) := List.getElem?_eq_getElem (by omega)
    have hpt := part_spec q qc i 3 fs gs qs rs (gs[3]'(by omega)) (by omega) (by omega) hqc (by omega) (by omega) (by omega) hg3 hrs
    generalize gs[3]'(by omega) = e at hg3 hpt
    refine J.ent ((Ent.perm (pkc4 (by repeat (first | exact pk_head _ _ | apply pk_tail)) (by repeat (first | exact pk_head _ _ | apply pk_tail)) (by repeat (first | exact pk_head _ _ | apply pk_tail)) (by repeat (first | exact pk_head _ _ | apply pk_tail)))).trans (hnode' _)) ?_
    refine J.ent ((Ent.perm (pkc4 (by repeat (first | exact pk_head _ _ | apply pk_tail)) (by repeat (first | exact pk_head _ _ | apply pk_tail)) (by repeat (first | exact pk_head _ _ | apply pk_tail)) (by repeat (first | exact pk_head _ _ | apply pk_tail)))).trans (hnode _)) ?_
    repeat (first | refine CW.seq ?_ | refine PW.then_ ?_ | refine PW.then_to rfl ?_ | refine CW.block ?_ | refine CW.skip ?_ | refine CW.ret ?_ | refine PW.then_ret ?_ | refine PW.block_ret ?_ | refine Cut.ret ?_ | refine Rnd.ret ?_ | refine PW.block_normal ?_ | refine CW.exit ?_ | refine PW.then_exit ?_ | refine PW.block_hit ?_ | refine PW.block_miss rfl ?_ | refine Cut.exit ?_ | refine Rnd.exit ?_)
    refine CW.cond_true rfl ?_
    repeat (first | refine CW.seq ?_ | refine PW.then_ ?_ | refine PW.then_to rfl ?_ | refine CW.block ?_ | refine CW.skip ?_ | refine CW.ret ?_ | refine PW.then_ret ?_ | refine PW.block_ret ?_ | refine Cut.ret ?_ | refine Rnd.ret ?_ | refine PW.block_normal ?_ | refine CW.exit ?_ | refine PW.then_exit ?_ | refine PW.block_hit ?_ | refine PW.block_miss rfl ?_ | refine Cut.exit ?_ | refine Rnd.exit ?_)
    refine CW.region ?_
    refine L1 (ps_move rfl).os ?_
    refine L1 (ps_move rfl).os ?_
    refine LE (os_call hpt Try.func16 (by decide +kernel) rfl rfl (pkc (by repeat (first | exact pk_head _ _ | apply pk_tail)) (pkc (by repeat (first | exact pk_head _ _ | apply pk_tail)) (pkn _)))) ?_
    rintro _ _ ⟨_, ⟨rfl, r, rfl⟩, rfl⟩
    refine LW.nil ?_
    repeat (first | refine CW.seq ?_ | refine PW.then_ ?_ | refine PW.then_to rfl ?_ | refine CW.block ?_ | refine CW.skip ?_ | refine CW.ret ?_ | refine PW.then_ret ?_ | refine PW.block_ret ?_ | refine Cut.ret ?_ | refine Rnd.ret ?_ | refine PW.block_normal ?_ | refine CW.exit ?_ | refine PW.then_exit ?_ | refine PW.block_hit ?_ | refine PW.block_miss rfl ?_ | refine Cut.exit ?_ | refine Rnd.exit ?_)
    refine Kids_part hg3 (by repeat (first | exact pk_head _ _ | apply pk_tail)) fun l1 l2 hl12 => ?_
    refine J.ent (Nd_mk' (h := h) (c := 5) (q := qc) (l := l1) (fs := gs.take 3) (qs := rs.take (3 + 1)) (pk2 (by repeat (first | exact pk_head _ _ | apply pk_tail)) (by repeat (first | exact pk_head _ _ | apply pk_tail))) (by rw [List.length_take]; omega)) ?_
    refine J.ent (Nd_mk' (h := h) (c := 5) (q := r) (l := l2) (fs := gs.drop (3 + 1)) (qs := rs.drop (3 + 1)) (pk2 (by repeat (first | exact pk_head _ _ | apply pk_tail)) (by repeat (first | exact pk_head _ _ | apply pk_tail))) (by rw [List.length_drop]; omega)) ?_
    refine CW.region ?_
    refine L1 (ps_move rfl).os ?_
    refine L1 (ps_assign rfl).os ?_
    refine LW.nil ?_
    repeat (first | refine CW.seq ?_ | refine PW.then_ ?_ | refine PW.then_to rfl ?_ | refine CW.block ?_ | refine CW.skip ?_ | refine CW.ret ?_ | refine PW.then_ret ?_ | refine PW.block_ret ?_ | refine Cut.ret ?_ | refine Rnd.ret ?_ | refine PW.block_normal ?_ | refine CW.exit ?_ | refine PW.then_exit ?_ | refine PW.block_hit ?_ | refine PW.block_miss rfl ?_ | refine Cut.exit ?_ | refine Rnd.exit ?_)
    exact Fin.ret1 (v := .bool fresh) rfl [_, _, _] rfl ⟨rfl, Or.inr ⟨e, r, l1, l2, hl12, rfl⟩⟩ (by repeat (first | exact Ent.refl _ | (apply Ent.cons; · repeat (first | exact pk_head _ _ | apply pk_tail)) | apply Ent.skip))
  · refine CW.region ?_
    refine L1 (ps_move rfl).os ?_
    refine L1 (ps_nil rfl).os ?_
    refine L1 (ps_fa T.fa50_2 (by decide) rfl).os ?_
    refine L1 (os_load1 (b := q) (v := .slice (some ⟨cg, 0, none⟩) l cd) (by repeat (first | exact pk_head _ _ | apply pk_tail)) T.ag48 rfl rfl) ?_
    refine L1 (ps_move rfl).os ?_
    refine L1 (ps_ia_slice T.un48 T.sz24 rfl rfl (by omega) (by omega)).os ?_
    refine L1 (os_loadS1 (v := ptr qc) (Src.part (i := i * 1) (Src.ownG (xs := pc qs) (by repeat (first | exact pk_head _ _ | apply pk_tail)) (fun _ => ⟨_, rfl⟩)) hpq) T.ag24 rfl) ?_
    refine L1 (ps_nil rfl).os ?_
    refine L1 (ps_fa T.fa50_0 (by decide) rfl).os ?_
    refine L1 (os_load1 (b := qc) (v := .slice kq' gs.length kd') (by repeat (first | exact pk_head _ _ | apply pk_tail)) T.ag22 rfl rfl) ?_
    refine L1 (ps_len_sl T.un22 rfl).os ?_
    refine L1 (ps_f (ps_gtr rfl rfl) (h5)).os ?_
    refine LW.nil ?_
    refine J.ent ((Ent.perm (pkc4 (by repeat (first | exact pk_head _ _ | apply pk_tail)) (by repeat (first | exact pk_head _ _ | apply pk_tail)) (by repeat (first | exact pk_head _ _ | apply pk_tail)) (by repeat (first | exact pk_head _ _ | apply pk_tail)))).trans (hnode' _)) ?_
    refine J.ent ((Ent.perm (pkc4 (by repeat (first | exact pk_head _ _ | apply pk_tail)) (by repeat (first | exact pk_head _ _ | apply pk_tail)) (by repeat (first | exact pk_head _ _ | apply pk_tail)) (by repeat (first | exact pk_head _ _ | apply pk_tail)))).trans (hnode _)) ?_
    refine J.ent (Nd_mk' (h := h) (c := 5) (q := qc) (l := lc') (fs := gs) (qs := rs) (pk2 (by repeat (first | exact pk_head _ _ | apply pk_tail)) (by repeat (first | exact pk_head _ _ | apply pk_tail))) (by omega)) ?_
    repeat (first | refine CW.seq ?_ | refine PW.then_ ?_ | refine PW.then_to rfl ?_ | refine CW.block ?_ | refine CW.skip ?_ | refine CW.ret ?_ | refine PW.then_ret ?_ | refine PW.block_ret ?_ | refine Cut.ret ?_ | refine Rnd.ret ?_ | refine PW.block_normal ?_ | refine CW.exit ?_ | refine PW.then_exit ?_ | refine PW.block_hit ?_ | refine PW.block_miss rfl ?_ | refine Cut.exit ?_ | refine Rnd.exit ?_)
    refine CW.cond_false rfl ?_
    repeat (first | refine CW.seq ?_ | refine PW.then_ ?_ | refine PW.then_to rfl ?_ | refine CW.block ?_ | refine CW.skip ?_ | refine CW.ret ?_ | refine PW.then_ret ?_ | refine PW.block_ret ?_ | refine Cut.ret ?_ | refine Rnd.ret ?_ | refine PW.block_normal ?_ | refine CW.exit ?_ | refine PW.then_exit ?_ | refine PW.block_hit ?_ | refine PW.block_miss rfl ?_ | refine Cut.exit ?_ | refine Rnd.exit ?_)
    refine CW.region ?_
    refine L1 (ps_move rfl).os ?_
    refine L1 (ps_assign rfl).os ?_
    refine LW.nil ?_
    repeat (first | refine CW.seq ?_ | refine PW.then_ ?_ | refine PW.then_to rfl ?_ | refine CW.block ?_ | refine CW.skip ?_ | refine CW.ret ?_ | refine PW.then_ret ?_ | refine PW.block_ret ?_ | refine Cut.ret ?_ | refine Rnd.ret ?_ | refine PW.block_normal ?_ | refine CW.exit ?_ | refine PW.then_exit ?_ | refine PW.block_hit ?_ | refine PW.block_miss rfl ?_ | refine Cut.exit ?_ | refine Rnd.exit ?_)
    exact Fin.ret1 (v := .bool fresh) rfl [_, _] rfl ⟨rfl, Or.inl rfl⟩ (by repeat (first | exact Ent.refl _ | (apply Ent.cons; · repeat (first | exact pk_head _ _ | apply pk_tail)) | apply Ent.skip))
theorem set_take_drop {α : Type} (l : List α) (i : Nat) (x : α) (h : i < l.length) : l.set i x = l.take i ++ x :: l.drop (i + 1) := by rw [List.set_eq_take_append_cons_drop, if_pos h]
/-- Into a tree. -/
theorem put_spec (key : Nat) (val : Int) (hk : key < M128) : ∀ (h q : Nat) (l : List En), Srt l → (∀ e ∈ l, e.1 < M128) →
    FSpec Try.prog 15 [ptr q, .agg (nc key).toArray, .int .i64 val] [Nd h 5 q l] (fun v As => v = .bool (lkp key l).isNone ∧ As = [Nd h 6 q (ins key val l)])
  | 0, q, l, hs, hm => by
    refine FSpec.ex (ι := List En) (C := fun fs => fs.length ≤ 5 ∧ l = fs) (B := fun fs => [Node q fs []]) ?_ ?_
    · rintro L ⟨fs, qs, h1, h2⟩
      obtain ⟨L1, L2, a1, a2, L3, L4, a3, ⟨⟨rfl, rfl⟩, rfl⟩, a5⟩ := h2
      exact ⟨_, ⟨h1, rfl⟩, L1, L2, a1, a2, trivial⟩
    · rintro fs ⟨h1, rfl⟩
      cases hh : hit key l with
      | true =>
        obtain ⟨e1, e2⟩ := leaf_hit (v := val) hh
        have hp := (hit_true hh).1
        refine (put_hit key val hk q l [] (by omega) hm hh).mono (Ent.refl _) ?_
        rintro v As ⟨rfl, rfl⟩
        refine ⟨_, ⟨by rw [e2, List.getElem?_eq_getElem hp]; rfl, rfl⟩, ?_⟩
        rw [e1]
        exact (Ent.cons (pk_head _ _) (Kids0_mk _ [])).trans (Nd_mk (by rw [List.length_set]; omega) _)
      | false =>
        obtain ⟨e1, e2⟩ := leaf_miss (v := val) hs hh
        refine (put_leaf key val hk q l (by omega) hm hh).mono (Ent.refl _) ?_
        rintro v As ⟨rfl, rfl⟩
        refine ⟨_, ⟨by rw [e2]; rfl, rfl⟩, ?_⟩
        have hlen := len_ins key val hs
        rw [e2] at hlen
        rw [← e1]
        exact (Ent.cons (pk_head _ _) (Kids0_mk _ [])).trans (Nd_mk (by rw [hlen]; simp; omega) _)
  | h + 1, q, l, hs, hm => by
    refine FSpec.ex (ι := List En × List (Nat × List En)) (C := fun x => x.1.length ≤ 5 ∧ x.2.length = x.1.length + 1 ∧ l = weave (x.2.map (·.2)) x.1) (B := fun x => [Node q x.1 (x.2.map (·.1)), AllP (x.2.map (kidA h))]) ?_ ?_
    · rintro L ⟨fs, qs, h1, h2⟩
      obtain ⟨L1, L2, a1, a2, L3, L4, a3, ⟨ts, ⟨b1, rfl, rfl⟩, b2⟩, a5⟩ := h2
      exact ⟨(fs, ts), ⟨h1, b1, rfl⟩, L1, L2, a1, a2, L3, L4, a3, b2, a5⟩
    · rintro ⟨fs, ts⟩ ⟨h1, h2, rfl⟩
      dsimp only at h1 h2 hs hm ⊢
      have hmf : ∀ e ∈ fs, e.1 < M128 := fun e he => hm e (weave_mem (by rw [List.length_map, h2]) he)
      have hwl : (ts.map (·.2)).length = fs.length + 1 := by rw [List.length_map, h2]
      cases hh : hit key fs with
      | true =>
        obtain ⟨e1, e2⟩ := node_hit (v := val) hwl hs hh
        have hp := (hit_true hh).1
        refine ((put_hit key val hk q fs _ (by omega) hmf hh).frame [AllP (ts.map (kidA h))]).mono (Ent.refl _) ?_
        rintro v As ⟨Cs, ⟨rfl, rfl⟩, rfl⟩
        refine ⟨_, ⟨by rw [e2, List.getElem?_eq_getElem hp]; rfl, rfl⟩, ?_⟩
        rw [e1]
        exact (Ent.cons (pk_head _ _) (KidsS_mk (fs := fs.set (pl key fs) (key, val)) ts (by rw [List.length_set]; exact h2) [])).trans (Nd_mk (by rw [List.length_set]; omega) _)
      | false =>
        have hple := pl_le key fs
        have hp : pl key fs < (ts.map (·.2)).length := by rw [hwl]; omega
        have hpt : pl key fs < ts.length := by omega
        obtain ⟨e1, e2, e3, e4⟩ := node_miss (v := val) hwl hs hh hp
        rw [List.getElem_map] at e1 e2 e3 e4
        have hts : ts = ts.take (pl key fs) ++ ts[pl key fs] :: ts.drop (pl key fs + 1) := by rw [List.getElem_cons_drop, List.take_append_drop]
        have hq : (ts.map (·.1))[pl key fs]? = some ts[pl key fs].1 := by rw [List.getElem?_map, List.getElem?_eq_getElem hpt]; rfl
        have ih := put_spec key val hk h ts[pl key fs].1 ts[pl key fs].2 e3 (fun e he => hm e (e4 e he))
        have hd := put_deep key val hk q fs (ts.map (·.1)) h1 (by rw [List.length_map, h2]) hmf hh h ts[pl key fs].1 _ _ _ hq ih
        refine (hd.frame [AllP ((ts.take (pl key fs) ++ ts.drop (pl key fs + 1)).map (kidA h))]).mono ?_ ?_
        · show Ent [Node q fs (ts.map (·.1)), AllP (ts.map (kidA h))] [Node q fs (ts.map (·.1)), kidA h ts[pl key fs], AllP ((ts.take (pl key fs) ++ ts.drop (pl key fs + 1)).map (kidA h))]
          refine Ent.cons (pk_head _ _) ?_
          have := Ent.allOut (kidA h ts[pl key fs]) ((ts.take (pl key fs)).map (kidA h)) ((ts.drop (pl key fs + 1)).map (kidA h)) []
          rw [← List.map_cons, ← List.map_append, ← hts, ← List.map_append] at this
          exact this
        rintro v As ⟨Cs, ⟨rfl, hCs⟩, rfl⟩
        refine ⟨_, ⟨by rw [e2], rfl⟩, ?_⟩
        rw [e1]
        generalize hi : pl key fs = i at *
        generalize hz : ts[i] = z at *
        obtain ⟨zq, zl⟩ := z
        dsimp only at *
        rcases hCs with rfl | ⟨e, r, l1, l2, hl, rfl⟩
        · have hset : ts.set i (zq, ins key val zl) = ts.take i ++ (zq, ins key val zl) :: ts.drop (i + 1) := set_take_drop _ _ _ hpt
          have m1 : (ts.map (·.2)).set i (ins key val zl) = (ts.set i (zq, ins key val zl)).map (·.2) := by rw [List.map_set]
          have m2 : ts.map (·.1) = (ts.set i (zq, ins key val zl)).map (·.1) := by
            rw [List.map_set]
            apply List.ext_getElem
            · simp
            · intro j a b
              rw [List.getElem_set]
              split
              · rename_i hj; subst hj; simp [hz]
              · rfl
          rw [m1, m2]
          refine Ent.trans (Bs := [Node q fs ((ts.set i (zq, ins key val zl)).map (·.1)), AllP ((ts.set i (zq, ins key val zl)).map (kidA h))]) ?_ ?_
          · refine Ent.cons (pk_head _ _) ?_
            have := Ent.allIn (kidA h (zq, ins key val zl)) ((ts.take i).map (kidA h)) ((ts.drop (i + 1)).map (kidA h)) []
            rw [hset, List.map_append, List.map_append, List.map_cons]
            exact this
          · exact (Ent.cons (pk_head _ _) (KidsS_mk _ (by rw [List.length_set]; exact h2) [])).trans (Nd_mk (by omega) _)
        · have hnew : ∀ Bs, Ent (Nd h 5 zq l1 :: Nd h 5 r l2 :: AllP ((ts.take i ++ ts.drop (i + 1)).map (kidA h)) :: Bs) (AllP ((ts.take i ++ (zq, l1) :: (r, l2) :: ts.drop (i + 1)).map (kidA h)) :: Bs) := fun Bs => by
            have a1 := Ent.allIn (kidA h (r, l2)) ((ts.take i).map (kidA h)) ((ts.drop (i + 1)).map (kidA h)) Bs
            have a2 := Ent.allIn (kidA h (zq, l1)) ((ts.take i).map (kidA h)) (((r, l2) :: ts.drop (i + 1)).map (kidA h)) Bs
            rw [← List.map_cons, ← List.map_append, ← List.map_append] at a1 a2
            exact (Ent.cons (pk_head _ _) a1).trans a2
          have hfl : (fs.take i ++ e :: fs.drop i).length = fs.length + 1 := by rw [List.length_append, List.length_take, List.length_cons, List.length_drop]; omega
          have htl : (ts.take i ++ (zq, l1) :: (r, l2) :: ts.drop (i + 1)).length = fs.length + 2 := by rw [List.length_append, List.length_take, List.length_cons, List.length_cons, List.length_drop]; omega
          have m2 : (ts.map (·.1)).take (i + 1) ++ r :: (ts.map (·.1)).drop (i + 1) = (ts.take i ++ (zq, l1) :: (r, l2) :: ts.drop (i + 1)).map (·.1) := by
            rw [← List.map_take, ← List.map_drop, List.take_succ_eq_append_getElem hpt, hz]; simp
          have m1 : weave ((ts.map (·.2)).set i (ins key val zl)) fs = weave ((ts.take i ++ (zq, l1) :: (r, l2) :: ts.drop (i + 1)).map (·.2)) (fs.take i ++ e :: fs.drop i) := by
            rw [set_take_drop _ _ _ hp, hl]
            have hf : fs = fs.take i ++ fs.drop i := (List.take_append_drop _ _).symm
            have w1 := weave_mid ((ts.map (·.2)).take i) (fs.take i) (l1 ++ e :: l2) ((ts.map (·.2)).drop (i + 1)) (fs.drop i) (by rw [List.length_take, List.length_take]; omega) (by rw [List.length_drop, List.length_drop]; omega)
            rw [← hf] at w1
            have w2 := weave_mid ((ts.map (·.2)).take i) (fs.take i) l1 (l2 :: (ts.map (·.2)).drop (i + 1)) (e :: fs.drop i) (by rw [List.length_take, List.length_take]; omega) (by rw [List.length_cons, List.length_cons, List.length_drop, List.length_drop]; omega)
            rw [w1]
            simp only [List.map_append, List.map_cons, List.map_take, List.map_drop]
            rw [w2]
            simp [wr]
          rw [m1, m2]
          refine Ent.trans (Ent.cons (pk_head _ _) (hnew [])) ?_
          exact (Ent.cons (pk_head _ _) (KidsS_mk _ (by rw [htl, hfl]) [])).trans (Nd_mk (by omega) _)
end Go.Proofs.Ytejphoheaeplbaa
