/- The index's nodes: what they are in memory, and the search in one. -/
import Derived.Test.YtejphoheaeplbaaIdxP
import Derived.Test.YtejphoheaeplbaaSl
import Derived.Test.YtejphoheaeplbaaUx
import Derived.Test.YtejphoheaeplbaaRng
namespace Go.Proofs.Ytejphoheaeplbaa
set_option linter.unusedVariables false
set_option linter.unusedSimpArgs false
open Go Go.SL

abbrev ptr (p : Nat) : Value := .pointer (some ⟨p, 0, none⟩)
def kc (es : List En) : List Value := (es.map fun e => nc e.1).flatten
def vc (es : List En) : List Value := es.map fun e => .int .i64 e.2
def pc (ps : List Nat) : List Value := ps.map ptr
theorem kc_len (es : List En) : (kc es).length = es.length * 2 := by
  unfold kc
  induction es with
  | nil => rfl
  | cons e es ih => simp only [List.map_cons, List.flatten_cons, List.length_append, List.length_cons, ih, nc_len]; omega
theorem kc_append (a b : List En) : kc (a ++ b) = kc a ++ kc b := by simp [kc]
theorem kc_cons (e : En) (b : List En) : kc (e :: b) = nc e.1 ++ kc b := by simp [kc]
theorem kc_take (es : List En) (i : Nat) : kc (es.take i) = (kc es).take (i * 2) := by
  induction es generalizing i with
  | nil => simp [kc]
  | cons e es ih =>
    cases i with
    | zero => simp [kc]
    | succ i => rw [List.take_succ_cons, kc_cons, kc_cons, ih, List.take_append, nc_len, List.take_of_length_le (l := nc e.1) (by rw [nc_len]; omega)]; congr 2; omega
theorem kc_drop (es : List En) (i : Nat) : kc (es.drop i) = (kc es).drop (i * 2) := by
  induction es generalizing i with
  | nil => simp [kc]
  | cons e es ih =>
    cases i with
    | zero => simp
    | succ i => rw [List.drop_succ_cons, kc_cons, ih, List.drop_append, nc_len, List.drop_of_length_le (l := nc e.1) (by rw [nc_len]; omega)]; rw [List.nil_append]; congr 1; omega
theorem kc_one (es : List En) : ∀ u ∈ kc es, u.oneCell' = true := fun u hu => by
  obtain ⟨l, hl, hu⟩ := List.mem_flatten.1 hu
  obtain ⟨e, _, rfl⟩ := List.mem_map.1 hl
  exact nc_one _ u hu
theorem vc_len (es : List En) : (vc es).length = es.length := List.length_map ..
theorem vc_one (es : List En) : ∀ u ∈ vc es, u.oneCell' = true := fun u hu => by
  obtain ⟨e, _, rfl⟩ := List.mem_map.1 hu
  simp [Value.oneCell']
theorem pc_len (ps : List Nat) : (pc ps).length = ps.length := List.length_map ..
theorem pc_one (ps : List Nat) : ∀ u ∈ pc ps, u.oneCell' = true := fun u hu => by
  obtain ⟨e, _, rfl⟩ := List.mem_map.1 hu
  simp [Value.oneCell']
abbrev KSl (q : Option Addr) (n d : Nat) (es : List En) : Asn := slOwn 29 2 (.slice q n d) n (kc es)
abbrev VSl (q : Option Addr) (n d : Nat) (es : List En) : Asn := slOwn 3 1 (.slice q n d) n (vc es)
abbrev CSl (q : Option Addr) (n d : Nat) (ps : List Nat) : Asn := slOwn 24 1 (.slice q n d) n (pc ps)
def nodeC (n m : Nat) (kq : Option Addr) (kd : Nat) (vq : Option Addr) (vd : Nat) (cq : Option Addr) (cd : Nat) : List Value := [.slice kq n kd, .slice vq n vd, .slice cq m cd]
/-- A node: its entries, its kids; it is a leaf if it has none. -/
def Node (p : Nat) (es : List En) (ps : List Nat) : Asn := fun L => ∃ kq kd vq vd cq cd, (ps = [] → cq = none ∧ cd = 0) ∧
  sat [cb p 50 [.slice kq es.length kd, .slice vq es.length vd, .slice cq ps.length cd], KSl kq es.length kd es, VSl vq es.length vd es, CSl cq ps.length cd ps] L
structure Fits (q : Option Addr) (n d : Nat) : Prop where
  le : n ≤ d
  mx : d ≤ maxLen
  at_ : n ≠ 0 → ∃ g, q = some ⟨g, 0, none⟩
theorem Node_open {w0 : World} {As Bs : List Asn} {G : World → Prop} {p : Nat} {es : List En} {ps : List Nat} (hp : As.Perm (Node p es ps :: Bs))
    (k : ∀ kq kd vq vd cq cd, (ps = [] → cq = none ∧ cd = 0) → Fits kq es.length kd → Fits vq es.length vd → Fits cq ps.length cd →
      J w0 (cb p 50 [.slice kq es.length kd, .slice vq es.length vd, .slice cq ps.length cd] :: KSl kq es.length kd es :: VSl vq es.length vd es :: CSl cq ps.length cd ps :: Bs) G) : J w0 As G := J.mk fun w hw => by
  obtain ⟨L, a1, L1, L2, a3, ⟨kq, kd, vq, vd, cq, cd, h0, hs⟩, a5⟩ := hw.perm hp
  have hw' : Heap w0 w ([cb p 50 [.slice kq es.length kd, .slice vq es.length vd, .slice cq ps.length cd], KSl kq es.length kd es, VSl vq es.length vd es, CSl cq ps.length cd ps] ++ Bs) := ⟨L, a1, sat_mk a3 hs a5⟩
  refine (slOwn_info (m := es.length) (q := kq) (d := kd) (xs := kc es) (by repeat (first | exact pk_head _ _ | apply pk_tail)) fun k1 k2 k3 => ?_ : J w0 _ G).run w hw'
  refine slOwn_info (m := es.length) (q := vq) (d := vd) (xs := vc es) (by repeat (first | exact pk_head _ _ | apply pk_tail)) fun v1 v2 v3 => ?_
  refine slOwn_info (m := ps.length) (q := cq) (d := cd) (xs := pc ps) (by repeat (first | exact pk_head _ _ | apply pk_tail)) fun c1 c2 c3 => ?_
  exact k kq kd vq vd cq cd h0 ⟨k1, k2, k3⟩ ⟨v1, v2, v3⟩ ⟨c1, c2, c3⟩
theorem Node_mk {p : Nat} {es : List En} {ps : List Nat} {Bs : List Asn} (kq : Option Addr) (n kd : Nat) (vq : Option Addr) (vd : Nat) (cq : Option Addr) (m cd : Nat) (hn : n = es.length) (hm : m = ps.length) (h0 : ps = [] → cq = none ∧ cd = 0) :
    Ent (cb p 50 [.slice kq n kd, .slice vq n vd, .slice cq m cd] :: KSl kq n kd es :: VSl vq n vd es :: CSl cq m cd ps :: Bs) (Node p es ps :: Bs) := by
  subst hn
  subst hm
  exact Ent.fold (As := [_, _, _, _]) fun L h => ⟨kq, kd, vq, vd, cq, cd, h0, h⟩
theorem kc_rows {q : Option Addr} {n d : Nat} {es : List En} (hn : es.length = n) (h : Fits q n d) : RowsR (KSl q n d es) (.slice q n d) 2 (es.map fun e => nc e.1) :=
  RowsR.own _ (fun r hr => by obtain ⟨e, _, rfl⟩ := List.mem_map.1 hr; exact nc_len _) (by simpa using hn) h.le h.mx h.at_

theorem place_spec (p key : Nat) (es : List En) (n kd : Nat) (kq : Option Addr) (vv cv : Value) (KS : Asn) (hn : es.length = n) (hr : RowsR KS (.slice kq n kd) 2 (es.map fun e => nc e.1)) (hk : key < M128) (he : ∀ e ∈ es, e.1 < M128) :
    FSpec Try.prog 18 [ptr p, .agg (nc key).toArray] [cb p 50 [.slice kq n kd, vv, cv], KS]
      (fun r As => r = .tuple #[.int .i64 (pl key es : Nat), .bool (hit key es)] ∧ As = [cb p 50 [.slice kq n kd, vv, cv], KS]) := by
  have hM := M128_eq
  subst hn
  obtain ⟨pv, cap, hpe, hcap1, hcap2, hpv⟩ := hr.len
  rw [List.length_map] at hcap1 hpe
  cases hpe
  have hcapm : es.length < 9223372036854775808 := by unfold maxLen at hcap2; omega
  refine FSpec.intro Try.func18 rfl 33 Try.ntmps18 (Nat.le_of_ble_eq_true rfl) fun w0 F => ?_
  show CW _ _ _ _ _ _ (_ :: _ :: F)
  repeat (first | refine CW.seq ?_ | refine PW.then_ ?_ | refine PW.then_to rfl ?_ | refine CW.block ?_ | refine CW.skip ?_ | refine CW.ret ?_ | refine PW.then_ret ?_ | refine PW.block_ret ?_ | refine Cut.ret ?_ | refine Rnd.ret ?_ | refine PW.block_normal ?_ | refine CW.exit ?_ | refine PW.then_exit ?_ | refine PW.block_hit ?_ | refine PW.block_miss rfl ?_ | refine Cut.exit ?_ | refine Rnd.exit ?_)
  refine CW.region ?_
  refine LE (os_box (vs := nc key) rfl (by rfl)) ?_
  rintro _ _ ⟨b3, rfl, rfl⟩
  refine L1 (ps_assign rfl).os ?_
  refine L1 (ps_assign rfl).os ?_
  refine LW.nil ?_
  repeat (first | refine CW.seq ?_ | refine PW.then_ ?_ | refine PW.then_to rfl ?_ | refine CW.block ?_ | refine CW.skip ?_ | refine CW.ret ?_ | refine PW.then_ret ?_ | refine PW.block_ret ?_ | refine Cut.ret ?_ | refine Rnd.ret ?_ | refine PW.block_normal ?_ | refine CW.exit ?_ | refine PW.then_exit ?_ | refine PW.block_hit ?_ | refine PW.block_miss rfl ?_ | refine Cut.exit ?_ | refine Rnd.exit ?_)
  refine CW.region ?_
  refine L1 (ps_move rfl).os ?_
  refine L1 (ps_nil rfl).os ?_
  refine L1 (ps_fa T.fa50_0 (by decide) rfl).os ?_
  refine L1 (os_load1 (b := p) (v := .slice kq es.length kd) (by repeat (first | exact pk_head _ _ | apply pk_tail)) T.ag22 rfl rfl) ?_
  refine L1 (ps_len_sl T.un22 rfl).os ?_
  refine L1 (ps_move rfl).os ?_
  refine LW.nil ?_
  repeat (first | refine CW.seq ?_ | refine PW.then_ ?_ | refine PW.then_to rfl ?_ | refine CW.block ?_ | refine CW.skip ?_ | refine CW.ret ?_ | refine PW.then_ret ?_ | refine PW.block_ret ?_ | refine Cut.ret ?_ | refine Rnd.ret ?_ | refine PW.block_normal ?_ | refine CW.exit ?_ | refine PW.then_exit ?_ | refine PW.block_hit ?_ | refine PW.block_miss rfl ?_ | refine Cut.exit ?_ | refine Rnd.exit ?_)
  refine CW.loopM (α := Nat) [4, 5, 6, 7, 8, 14, 15, 16, 17, 18, 19, 20, 21, 22, 23, 24, 25, 26, 27] (fun k i => i ≤ es.length ∧ (∀ e ∈ es.take i, e.1 < key) ∧ k = es.length - i) (fun i => [(14, .int .i64 i)])
    (fun i => cb b3 29 (nc key) :: cb p 50 [.slice kq es.length kd, vv, cv] :: KS :: F) es.length 0 ⟨Nat.zero_le _, by simp, rfl⟩ ⟨rfl, trivial⟩ (by repeat (first | exact Ent.refl _ | (apply Ent.cons; · repeat (first | exact pk_head _ _ | apply pk_tail)) | apply Ent.skip)) ?_
  rintro k i g ⟨hi, hlow, hkk⟩
  repeat (first | refine CW.seq ?_ | refine PW.then_ ?_ | refine PW.then_to rfl ?_ | refine CW.block ?_ | refine CW.skip ?_ | refine CW.ret ?_ | refine PW.then_ret ?_ | refine PW.block_ret ?_ | refine Cut.ret ?_ | refine Rnd.ret ?_ | refine PW.block_normal ?_ | refine CW.exit ?_ | refine PW.then_exit ?_ | refine PW.block_hit ?_ | refine PW.block_miss rfl ?_ | refine Cut.exit ?_ | refine Rnd.exit ?_)
  by_cases hlt : i < es.length
  · have hx := he es[i] (List.getElem_mem hlt)
    obtain ⟨vb, vo, rfl⟩ := hpv (fun h => by have := congrArg List.length h; simp at this; subst this; exact absurd hlt (Nat.not_lt_zero _))
    have hsrc := fun As Bs (hp : List.Perm As (KS :: Bs)) => hr.src (i := i) (by simpa using hlt) hp
    simp only [List.getElem_map] at hsrc
    have hnext : es[i].1 < key → ∀ e ∈ es.take (i + 1), e.1 < key := fun h e hm => by
      rw [List.take_succ_eq_append_getElem hlt] at hm
      rcases List.mem_append.1 hm with hm | hm
      · exact hlow e hm
      · obtain rfl := List.mem_singleton.1 hm; exact h
    have hpl : key ≤ es[i].1 → pl key es = i := fun h => pl_eq hi hlow fun _ => h
    have hhit : key ≤ es[i].1 → hit key es = decide (es[i].1 = key) := fun h => by
      unfold hit; rw [hpl h, List.getElem?_eq_getElem hlt]
      simp
    generalize es[i].1 = x at hx hsrc hnext hpl hhit
    refine CW.region ?_
    refine L1 (ps_t (ps_lss rfl rfl) (by omega)).os ?_
    refine LW.nil ?_
    repeat (first | refine CW.seq ?_ | refine PW.then_ ?_ | refine PW.then_to rfl ?_ | refine CW.block ?_ | refine CW.skip ?_ | refine CW.ret ?_ | refine PW.then_ret ?_ | refine PW.block_ret ?_ | refine Cut.ret ?_ | refine Rnd.ret ?_ | refine PW.block_normal ?_ | refine CW.exit ?_ | refine PW.then_exit ?_ | refine PW.block_hit ?_ | refine PW.block_miss rfl ?_ | refine Cut.exit ?_ | refine Rnd.exit ?_)
    refine CW.cond_true rfl ?_
    repeat (first | refine CW.seq ?_ | refine PW.then_ ?_ | refine PW.then_to rfl ?_ | refine CW.block ?_ | refine CW.skip ?_ | refine CW.ret ?_ | refine PW.then_ret ?_ | refine PW.block_ret ?_ | refine Cut.ret ?_ | refine Rnd.ret ?_ | refine PW.block_normal ?_ | refine CW.exit ?_ | refine PW.then_exit ?_ | refine PW.block_hit ?_ | refine PW.block_miss rfl ?_ | refine Cut.exit ?_ | refine Rnd.exit ?_)
    refine CW.region ?_
    refine L1 (ps_move rfl).os ?_
    refine L1 (ps_ia_slice T.un22 T.sz29 rfl rfl (by omega) (by omega)).os ?_
    refine L1 (os_loadS (vs := nc x) (hsrc _ _ (by repeat (first | exact pk_head _ _ | apply pk_tail))) (by simp [nc]) T.ag29 (by exact T.sz29) rfl) ?_
    refine LE (os_alloc T.ti29) ?_
    rintro _ _ ⟨b7, rfl, rfl⟩
    refine L1 (ps_assign rfl).os ?_
    refine L1 (os_storeAll (b := b7) (vs := nc x) (by repeat (first | exact pk_head _ _ | apply pk_tail)) (by exact T.sz29) rfl rfl (nc_one x) (by rfl)) ?_
    refine LW.nil ?_
    refine PW.then_ ?_
    repeat (first | refine CW.seq ?_ | refine PW.then_ ?_ | refine PW.then_to rfl ?_ | refine CW.block ?_ | refine CW.skip ?_ | refine CW.ret ?_ | refine PW.then_ret ?_ | refine PW.block_ret ?_ | refine Cut.ret ?_ | refine Rnd.ret ?_ | refine PW.block_normal ?_ | refine CW.exit ?_ | refine PW.then_exit ?_ | refine PW.block_hit ?_ | refine PW.block_miss rfl ?_ | refine Cut.exit ?_ | refine Rnd.exit ?_)
    refine CW.region ?_
    refine L1 (os_loadAll (b := b7) (by repeat (first | exact pk_head _ _ | apply pk_tail)) T.ag29 (by exact T.sz29) rfl) ?_
    refine L1 (os_loadAll (b := b3) (by repeat (first | exact pk_head _ _ | apply pk_tail)) T.ag29 (by exact T.sz29) rfl) ?_
    refine L1 (os_call0 (Compare_spec x key hx hk) Try.func12 (by decide +kernel) rfl rfl) ?_
    refine L1 (ps_assign rfl).os ?_
    refine LW.nil ?_
    repeat (first | refine CW.seq ?_ | refine PW.then_ ?_ | refine PW.then_to rfl ?_ | refine CW.block ?_ | refine CW.skip ?_ | refine CW.ret ?_ | refine PW.then_ret ?_ | refine PW.block_ret ?_ | refine Cut.ret ?_ | refine Rnd.ret ?_ | refine PW.block_normal ?_ | refine CW.exit ?_ | refine PW.then_exit ?_ | refine PW.block_hit ?_ | refine PW.block_miss rfl ?_ | refine Cut.exit ?_ | refine Rnd.exit ?_)
    by_cases hxk : key ≤ x
    · refine CW.region ?_
      refine L1 (ps_move rfl).os ?_
      refine L1 (ps_t (ps_geq rfl rfl) (by have := (cmpN_ge0 (a := x) (b := key)).2 hxk; omega)).os ?_
      refine LW.nil ?_
      repeat (first | refine CW.seq ?_ | refine PW.then_ ?_ | refine PW.then_to rfl ?_ | refine CW.block ?_ | refine CW.skip ?_ | refine CW.ret ?_ | refine PW.then_ret ?_ | refine PW.block_ret ?_ | refine Cut.ret ?_ | refine Rnd.ret ?_ | refine PW.block_normal ?_ | refine CW.exit ?_ | refine PW.then_exit ?_ | refine PW.block_hit ?_ | refine PW.block_miss rfl ?_ | refine Cut.exit ?_ | refine Rnd.exit ?_)
      refine CW.cond_true rfl ?_
      repeat (first | refine CW.seq ?_ | refine PW.then_ ?_ | refine PW.then_to rfl ?_ | refine CW.block ?_ | refine CW.skip ?_ | refine CW.ret ?_ | refine PW.then_ret ?_ | refine PW.block_ret ?_ | refine Cut.ret ?_ | refine Rnd.ret ?_ | refine PW.block_normal ?_ | refine CW.exit ?_ | refine PW.then_exit ?_ | refine PW.block_hit ?_ | refine PW.block_miss rfl ?_ | refine Cut.exit ?_ | refine Rnd.exit ?_)
      refine CW.region ?_
      refine L1 (ps_move rfl).os ?_
      refine L1 (ps_move rfl).os ?_
      refine L1 (ps_eql rfl rfl).os ?_
      refine L1 (ps_assign rfl).os ?_
      refine L1 (ps_assign rfl).os ?_
      refine LW.nil ?_
      repeat (first | refine CW.seq ?_ | refine PW.then_ ?_ | refine PW.then_to rfl ?_ | refine CW.block ?_ | refine CW.skip ?_ | refine CW.ret ?_ | refine PW.then_ret ?_ | refine PW.block_ret ?_ | refine Cut.ret ?_ | refine Rnd.ret ?_ | refine PW.block_normal ?_ | refine CW.exit ?_ | refine PW.then_exit ?_ | refine PW.block_hit ?_ | refine PW.block_miss rfl ?_ | refine Cut.exit ?_ | refine Rnd.exit ?_)
      exact Fin.ret2 (v1 := .int .i64 (i : Nat)) (v2 := .bool (decide (cmpN x key = 0))) rfl [_, _] rfl rfl ⟨by rw [hpl hxk, hhit hxk]; simp only [cmpN_eq0], rfl⟩ (by repeat (first | exact Ent.refl _ | (apply Ent.cons; · repeat (first | exact pk_head _ _ | apply pk_tail)) | apply Ent.skip))
    · refine CW.region ?_
      refine L1 (ps_move rfl).os ?_
      refine L1 (ps_f (ps_geq rfl rfl) (by have := (cmpN_lt0 (a := x) (b := key)).2 (by omega); omega)).os ?_
      refine LW.nil ?_
      repeat (first | refine CW.seq ?_ | refine PW.then_ ?_ | refine PW.then_to rfl ?_ | refine CW.block ?_ | refine CW.skip ?_ | refine CW.ret ?_ | refine PW.then_ret ?_ | refine PW.block_ret ?_ | refine Cut.ret ?_ | refine Rnd.ret ?_ | refine PW.block_normal ?_ | refine CW.exit ?_ | refine PW.then_exit ?_ | refine PW.block_hit ?_ | refine PW.block_miss rfl ?_ | refine Cut.exit ?_ | refine Rnd.exit ?_)
      refine CW.cond_false rfl ?_
      repeat (first | refine CW.seq ?_ | refine PW.then_ ?_ | refine PW.then_to rfl ?_ | refine CW.block ?_ | refine CW.skip ?_ | refine CW.ret ?_ | refine PW.then_ret ?_ | refine PW.block_ret ?_ | refine Cut.ret ?_ | refine Rnd.ret ?_ | refine PW.block_normal ?_ | refine CW.exit ?_ | refine PW.then_exit ?_ | refine PW.block_hit ?_ | refine PW.block_miss rfl ?_ | refine Cut.exit ?_ | refine Rnd.exit ?_)
      refine CW.region ?_
      refine L1 (ps_add_i64 rfl rfl (by omega) (by omega)).os ?_
      refine L1 (ps_move rfl).os ?_
      refine LW.nil ?_
      exact Meet.round (es.length - (i + 1)) (i + 1) (by omega) ⟨hlt, hnext (by omega), rfl⟩ (by repeat (first | (with_reducible exact Ag.refl _ _) | (with_reducible apply Ag.pu0) | ((with_reducible refine Ag.pu _ ?_ ?_); · exact rfl) | ((with_reducible refine Ag.mix ?_ ?_); · exact rfl) | ((with_reducible refine Ag.pus ?_ ?_); · exact rfl))) ⟨rfl, trivial⟩ (by repeat (first | exact Ent.refl _ | (apply Ent.cons; · repeat (first | exact pk_head _ _ | apply pk_tail)) | apply Ent.skip))
  · have hil : i = es.length := by omega
    subst hil
    rw [List.take_length] at hlow
    have hpl : pl key es = es.length := pl_eq (Nat.le_refl _) (by rw [List.take_length]; exact hlow) fun h => absurd h (Nat.lt_irrefl _)
    have hhit : hit key es = false := by unfold hit; rw [hpl, List.getElem?_eq_none (Nat.le_refl _)]; simp
    refine CW.region ?_
    refine L1 (ps_f (ps_lss rfl rfl) (by omega)).os ?_
    refine LW.nil ?_
    repeat (first | refine CW.seq ?_ | refine PW.then_ ?_ | refine PW.then_to rfl ?_ | refine CW.block ?_ | refine CW.skip ?_ | refine CW.ret ?_ | refine PW.then_ret ?_ | refine PW.block_ret ?_ | refine Cut.ret ?_ | refine Rnd.ret ?_ | refine PW.block_normal ?_ | refine CW.exit ?_ | refine PW.then_exit ?_ | refine PW.block_hit ?_ | refine PW.block_miss rfl ?_ | refine Cut.exit ?_ | refine Rnd.exit ?_)
    refine CW.cond_false rfl ?_
    repeat (first | refine CW.seq ?_ | refine PW.then_ ?_ | refine PW.then_to rfl ?_ | refine CW.block ?_ | refine CW.skip ?_ | refine CW.ret ?_ | refine PW.then_ret ?_ | refine PW.block_ret ?_ | refine Cut.ret ?_ | refine Rnd.ret ?_ | refine PW.block_normal ?_ | refine CW.exit ?_ | refine PW.then_exit ?_ | refine PW.block_hit ?_ | refine PW.block_miss rfl ?_ | refine Cut.exit ?_ | refine Rnd.exit ?_)
    refine CW.region ?_
    refine L1 (ps_move rfl).os ?_
    refine L1 (ps_nil rfl).os ?_
    refine L1 (ps_fa T.fa50_0 (by decide) rfl).os ?_
    refine L1 (os_load1 (b := p) (v := .slice kq es.length kd) (by repeat (first | exact pk_head _ _ | apply pk_tail)) T.ag22 rfl rfl) ?_
    refine L1 (ps_len_sl T.un22 rfl).os ?_
    refine L1 (ps_assign rfl).os ?_
    refine L1 (ps_assign rfl).os ?_
    refine LW.nil ?_
    repeat (first | refine CW.seq ?_ | refine PW.then_ ?_ | refine PW.then_to rfl ?_ | refine CW.block ?_ | refine CW.skip ?_ | refine CW.ret ?_ | refine PW.then_ret ?_ | refine PW.block_ret ?_ | refine Cut.ret ?_ | refine Rnd.ret ?_ | refine PW.block_normal ?_ | refine CW.exit ?_ | refine PW.then_exit ?_ | refine PW.block_hit ?_ | refine PW.block_miss rfl ?_ | refine Cut.exit ?_ | refine Rnd.exit ?_)
    exact Fin.ret2 (v1 := .int .i64 (es.length : Nat)) (v2 := .bool false) rfl [_, _] rfl rfl ⟨by rw [hpl, hhit], rfl⟩ (by repeat (first | exact Ent.refl _ | (apply Ent.cons; · repeat (first | exact pk_head _ _ | apply pk_tail)) | apply Ent.skip))
end Go.Proofs.Ytejphoheaeplbaa
