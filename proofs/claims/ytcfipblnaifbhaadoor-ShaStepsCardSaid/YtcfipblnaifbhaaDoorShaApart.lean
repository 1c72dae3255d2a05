/- The law ShaApart: the same bytes have the same hash, however they are parted: it answers true for all bytes (no condition beyond the two tables, which the card ties). -/
import Derived.Test.YtcfipblnaifbhaaDoorShaL
import Derived.Test.YtcfipblnaifbhaaDoorTie
import Derived.Test.YtcfipblnaifbhaaDoorCards
namespace Go.Proofs.YtcfipblnaifbhaaDoor
open Go Go.SL
set_option linter.unusedVariables false
set_option linter.unusedSimpArgs false

open Classical in
theorem ps_agg_same {P : Program} {ty : TypeId} {n : FN} {f : Nat → Value} {x y : Operand} {t yt : TypeId} {ks : List IntKind} {xs : List Value} (h : EQ P t ks) (hx : ev n f x = .agg xs.toArray) (hy : ev n f y = .agg xs.toArray) (kx : KV ks xs) : PS P (.binOp .eql t x y yt) ty n f (.bool true) := ps_t (ps_agg_eql h hx hy kx kx) rfl
theorem sum_kv (bs : List UInt8) : KV (List.replicate 32 .u8) (bv (sumM bs)) := by
  have h := KV.bv (sumM bs)
  rwa [sumM_len] at h
/-- Parts that all lie in one place: in a fresh row. -/
theorem Of_row (E : Asn) (hE : Env E) (b n : Nat) (l : List (Value × List UInt8)) (hn : l.length = n) (hnm : n ≤ maxLen) (hB : ∀ x ∈ l, ByR E x.1 x.2) (bs : List UInt8) (hbs : (l.map (·.2)).flatten = bs) (hlen : bs.length ≤ 1000000) :
    FSpec Tryd.prog 9 [.pointer none, .slice (some ⟨b, 0, none⟩) n n] [cb b 22 (l.map (·.1)), E] (fun r As => r = .agg (bv (sumM bs)).toArray ∧ As = [cb b 22 (l.map (·.1)), E]) :=
  OfL_spec [cb b 22 (l.map (·.1)), E] _ l ⟨E, by simp, hE⟩ ⟨_, List.mem_cons_self, RowsR.cb (by
    have : ∀ l : List (Value × List UInt8), (l.map fun x => [x.1]).flatten = l.map (·.1) := by
      intro l
      induction l with
      | nil => rfl
      | cons a l ih => simp [ih]
    rw [this, List.take_of_length_le (by simp)]) (fun r hr => by obtain ⟨x, _, rfl⟩ := List.mem_map.1 hr; rfl) (by simpa using hn) (Nat.le_refl _) hnm⟩ (fun x hx => ⟨E, by simp, hB x hx⟩) bs hbs hlen
theorem Of_own (E : Asn) (hE : Env E) (b m d : Nat) (q : Option Addr) (bs : List UInt8) (hm : bs.length = m) (z1 : m ≤ d) (z3 : m ≠ 0 → ∃ g, q = some ⟨g, 0, none⟩) (hlen : bs.length ≤ 1000000) (xs : List Value) (hxs : xs = bv bs) :
    FSpec Tryd.prog 9 [.pointer none, .slice (some ⟨b, 0, none⟩) 1 1] [cb b 22 [.slice q m d], slOwn 5 1 (.slice q m d) m xs, E] (fun r As => r = .agg (bv (sumM bs)).toArray ∧ As = [cb b 22 [.slice q m d], slOwn 5 1 (.slice q m d) m xs, E]) := by
  subst hxs
  refine OfL_spec _ _ [(.slice q m d, bs)] ⟨E, by simp, hE⟩ ⟨_, List.mem_cons_self, RowsR.cb rfl (by simp) rfl (Nat.le_refl _) (by show 1 ≤ maxLen; decide)⟩ (fun x hx => ?_) bs (by simp) hlen
  obtain rfl := List.mem_singleton.1 hx
  exact ⟨_, List.mem_cons_of_mem _ List.mem_cons_self, ByR.own hm z1 z3⟩
theorem ShaApart_law (W : World) (hE : Env (bag (blks W))) (v0 : Value) (x : List UInt8) (hx : ByR (bag (blks W)) v0 x) (hxm : x.length ≤ maxLen) (hxz : x.length ≤ 140737488351232) (v1 : Value) (y : List UInt8) (hy : ByR (bag (blks W)) v1 y) (hym : y.length ≤ maxLen) (hyz : y.length ≤ 140737488351232) :
    LawOf Tryd.prog 4 [v0, v1] W := by
  have hx0 := hx
  have hy0 := hy
  obtain ⟨px, cx, rfl, hcx, -⟩ := hx0
  obtain ⟨py, cy, rfl, hcy, -⟩ := hy0
  unfold maxLen at hxm hym
  generalize hE0 : bag (blks W) = E at hE hx hy
  have hnil := ByR.nil' E
  refine FSpec.intro Tryd.func4 rfl 51 Tryd.ntmps4 (Nat.le_of_ble_eq_true rfl) fun w0 F => ?_
  show CW _ _ _ _ _ _ (_ :: F)
  rw [hE0]
  repeat (first | refine CW.seq ?_ | refine PW.then_ ?_ | refine PW.then_to rfl ?_ | refine CW.block ?_ | refine CW.skip ?_ | refine CW.ret ?_ | refine PW.then_ret ?_ | refine PW.block_ret ?_ | refine Cut.ret ?_ | refine Rnd.ret ?_ | refine PW.block_normal ?_ | refine CW.exit ?_ | refine PW.then_exit ?_ | refine PW.block_hit ?_ | refine PW.block_miss rfl ?_ | refine Cut.exit ?_ | refine Rnd.exit ?_)
  refine CW.region ?_
  refine L1 (ps_assign rfl).os ?_
  refine LW.nil ?_
  repeat (first | refine CW.seq ?_ | refine PW.then_ ?_ | refine PW.then_to rfl ?_ | refine CW.block ?_ | refine CW.skip ?_ | refine CW.ret ?_ | refine PW.then_ret ?_ | refine PW.block_ret ?_ | refine Cut.ret ?_ | refine Rnd.ret ?_ | refine PW.block_normal ?_ | refine CW.exit ?_ | refine PW.then_exit ?_ | refine PW.block_hit ?_ | refine PW.block_miss rfl ?_ | refine Cut.exit ?_ | refine Rnd.exit ?_)
  refine CW.region ?_
  refine L1 (os_call1 (fit_spec E hE) Tryd.func8 (by decide +kernel) rfl rfl (by repeat (first | exact pk_head _ _ | apply pk_tail))) ?_
  refine L1 (ps_not rfl).os ?_
  refine LW.nil ?_
  repeat (first | refine CW.seq ?_ | refine PW.then_ ?_ | refine PW.then_to rfl ?_ | refine CW.block ?_ | refine CW.skip ?_ | refine CW.ret ?_ | refine PW.then_ret ?_ | refine PW.block_ret ?_ | refine Cut.ret ?_ | refine Rnd.ret ?_ | refine PW.block_normal ?_ | refine CW.exit ?_ | refine PW.then_exit ?_ | refine PW.block_hit ?_ | refine PW.block_miss rfl ?_ | refine Cut.exit ?_ | refine Rnd.exit ?_)
  refine CW.cond_false rfl ?_
  repeat (first | refine CW.seq ?_ | refine PW.then_ ?_ | refine PW.then_to rfl ?_ | refine CW.block ?_ | refine CW.skip ?_ | refine CW.ret ?_ | refine PW.then_ret ?_ | refine PW.block_ret ?_ | refine Cut.ret ?_ | refine Rnd.ret ?_ | refine PW.block_normal ?_ | refine CW.exit ?_ | refine PW.then_exit ?_ | refine PW.block_hit ?_ | refine PW.block_miss rfl ?_ | refine Cut.exit ?_ | refine Rnd.exit ?_)
  by_cases hlen : (2000 : Int) < (x.length : Int) + y.length
  · refine CW.region ?_
    refine L1 (ps_move rfl).os ?_
    refine L1 (ps_len_sl T.un22 rfl).os ?_
    refine L1 (ps_move rfl).os ?_
    refine L1 (ps_len_sl T.un22 rfl).os ?_
    refine L1 (ps_add_i64 rfl rfl (by omega) (by omega)).os ?_
    refine L1 (ps_t (ps_gtr rfl rfl) (hlen)).os ?_
    refine LW.nil ?_
    repeat (first | refine CW.seq ?_ | refine PW.then_ ?_ | refine PW.then_to rfl ?_ | refine CW.block ?_ | refine CW.skip ?_ | refine CW.ret ?_ | refine PW.then_ret ?_ | refine PW.block_ret ?_ | refine Cut.ret ?_ | refine Rnd.ret ?_ | refine PW.block_normal ?_ | refine CW.exit ?_ | refine PW.then_exit ?_ | refine PW.block_hit ?_ | refine PW.block_miss rfl ?_ | refine Cut.exit ?_ | refine Rnd.exit ?_)
    refine CW.cond_true rfl ?_
    repeat (first | refine CW.seq ?_ | refine PW.then_ ?_ | refine PW.then_to rfl ?_ | refine CW.block ?_ | refine CW.skip ?_ | refine CW.ret ?_ | refine PW.then_ret ?_ | refine PW.block_ret ?_ | refine Cut.ret ?_ | refine Rnd.ret ?_ | refine PW.block_normal ?_ | refine CW.exit ?_ | refine PW.then_exit ?_ | refine PW.block_hit ?_ | refine PW.block_miss rfl ?_ | refine Cut.exit ?_ | refine Rnd.exit ?_)
    refine CW.region ?_
    refine L1 (ps_assign rfl).os ?_
    refine LW.nil ?_
    repeat (first | refine CW.seq ?_ | refine PW.then_ ?_ | refine PW.then_to rfl ?_ | refine CW.block ?_ | refine CW.skip ?_ | refine CW.ret ?_ | refine PW.then_ret ?_ | refine PW.block_ret ?_ | refine Cut.ret ?_ | refine Rnd.ret ?_ | refine PW.block_normal ?_ | refine CW.exit ?_ | refine PW.then_exit ?_ | refine PW.block_hit ?_ | refine PW.block_miss rfl ?_ | refine Cut.exit ?_ | refine Rnd.exit ?_)
    exact Fin.ret1 (v := .bool true) rfl [E] rfl ⟨rfl, rfl⟩ (by repeat (first | exact Ent.refl _ | (apply Ent.cons; · repeat (first | exact pk_head _ _ | apply pk_tail)) | apply Ent.skip))
  refine CW.region ?_
  refine L1 (ps_move rfl).os ?_
  refine L1 (ps_len_sl T.un22 rfl).os ?_
  refine L1 (ps_move rfl).os ?_
  refine L1 (ps_len_sl T.un22 rfl).os ?_
  refine L1 (ps_add_i64 rfl rfl (by omega) (by omega)).os ?_
  refine L1 (ps_f (ps_gtr rfl rfl) (hlen)).os ?_
  refine LW.nil ?_
  repeat (first | refine CW.seq ?_ | refine PW.then_ ?_ | refine PW.then_to rfl ?_ | refine CW.block ?_ | refine CW.skip ?_ | refine CW.ret ?_ | refine PW.then_ret ?_ | refine PW.block_ret ?_ | refine Cut.ret ?_ | refine Rnd.ret ?_ | refine PW.block_normal ?_ | refine CW.exit ?_ | refine PW.then_exit ?_ | refine PW.block_hit ?_ | refine PW.block_miss rfl ?_ | refine Cut.exit ?_ | refine Rnd.exit ?_)
  refine CW.cond_false rfl ?_
  repeat (first | refine CW.seq ?_ | refine PW.then_ ?_ | refine PW.then_to rfl ?_ | refine CW.block ?_ | refine CW.skip ?_ | refine CW.ret ?_ | refine PW.then_ret ?_ | refine PW.block_ret ?_ | refine Cut.ret ?_ | refine Rnd.ret ?_ | refine PW.block_normal ?_ | refine CW.exit ?_ | refine PW.then_exit ?_ | refine PW.block_hit ?_ | refine PW.block_miss rfl ?_ | refine Cut.exit ?_ | refine Rnd.exit ?_)
  have hxy : (x ++ y).length ≤ 1000000 := by rw [List.length_append]; omega
  have o1 := fun b => Of_row E hE b 1 [(.slice px x.length cx, x)] rfl (by decide) (by simpa using hx) x (by simp) (by omega)
  have o2 := fun b => Of_row E hE b 1 [(.slice py y.length cy, y)] rfl (by decide) (by simpa using hy) y (by simp) (by omega)
  have o3 := fun b => Of_row E hE b 2 [(.slice px x.length cx, x), (.slice py y.length cy, y)] rfl (by decide) (by simp [hx, hy]) (x ++ y) (by simp) hxy
  have o4 := fun b => Of_row E hE b 3 [(.slice px x.length cx, x), (.slice none 0 0, []), (.slice py y.length cy, y)] rfl (by decide) (by simp [hx, hy, hnil]) (x ++ y) (by simp) hxy
  have hone1 : ∀ u ∈ [Value.slice px x.length cx], u.oneCell' = true := by simp [Value.oneCell']
  have hone2 : ∀ u ∈ [Value.slice py y.length cy], u.oneCell' = true := by simp [Value.oneCell']
  have hone3 : ∀ u ∈ [Value.slice px x.length cx, .slice py y.length cy], u.oneCell' = true := by simp [Value.oneCell']
  have hone4 : ∀ u ∈ [Value.slice px x.length cx, .slice none 0 0, .slice py y.length cy], u.oneCell' = true := by simp [Value.oneCell']
  by_cases hne : x = y
  · subst hne
    refine CW.region ?_
    refine L1 (ps_move rfl).os ?_
    refine L1 (os_str x T.un22 T.un5 T.un9 rfl rfl (hx.src (by repeat (first | exact pk_head _ _ | apply pk_tail)))) ?_
    refine L1 (ps_move rfl).os ?_
    refine L1 (os_str x T.un22 T.un5 T.un9 rfl rfl (hy.src (by repeat (first | exact pk_head _ _ | apply pk_tail)))) ?_
    refine L1 (ps_f (ps_strV_neq x x rfl rfl) (fun h => h rfl)).os ?_
    refine L1 (ps_move rfl).os ?_
    refine LG1 ?_ (ps_move rfl).os ?_
    · exact rfl
    refine LGE ?_ (os_bslv (vs := [.slice px x.length cx]) T.un30 T.ti22 (by rfl) (by rfl) rfl hone1 (by decide) (by decide)) ?_
    · exact rfl
    rintro _ _ ⟨b20, rfl, rfl⟩
    refine LG1 ?_ (os_call2 (o1 b20) Tryd.func9 (by decide +kernel) rfl rfl (by repeat (first | exact pk_head _ _ | apply pk_tail)) (by repeat (first | exact pk_head _ _ | apply pk_tail))) ?_
    · exact rfl
    refine LG1 ?_ (ps_move rfl).os ?_
    · exact rfl
    refine LGE ?_ (os_bslv (vs := [.slice py x.length cy]) T.un30 T.ti22 (by rfl) (by rfl) rfl hone2 (by decide) (by decide)) ?_
    · exact rfl
    rintro _ _ ⟨b23, rfl, rfl⟩
    refine LG1 ?_ (os_call2 (o2 b23) Tryd.func9 (by decide +kernel) rfl rfl (by repeat (first | exact pk_head _ _ | apply pk_tail)) (by repeat (first | exact pk_head _ _ | apply pk_tail))) ?_
    · exact rfl
    refine LG1 ?_ (ps_agg_same T.eq25 rfl rfl (by exact sum_kv x)).os ?_
    · exact rfl
    refine L1 (ps_pick_f rfl rfl).os ?_
    refine L1 (ps_move rfl).os ?_
    refine LG1 ?_ (ps_move rfl).os ?_
    · exact rfl
    refine LG1 ?_ (ps_move rfl).os ?_
    · exact rfl
    refine LGE ?_ (os_bslv (vs := [.slice px x.length cx, .slice py x.length cy]) T.un30 T.ti22 (by rfl) (by rfl) rfl hone3 (by decide) (by decide)) ?_
    · exact rfl
    rintro _ _ ⟨b30, rfl, rfl⟩
    refine LG1 ?_ (os_call2 (o3 b30) Tryd.func9 (by decide +kernel) rfl rfl (by repeat (first | exact pk_head _ _ | apply pk_tail)) (by repeat (first | exact pk_head _ _ | apply pk_tail))) ?_
    · exact rfl
    refine LG1 ?_ (ps_move rfl).os ?_
    · exact rfl
    refine LGE ?_ (os_append0 (news := bv x) T.un22 T.ti5 (by rfl) (by decide) rfl rfl (by simp) (hx.src (by repeat (first | exact pk_head _ _ | apply pk_tail))) (bv_one _) (by unfold maxLen; omega) (by omega)) ?_
    · exact rfl
    rintro _ _ ⟨q1, d1, rfl, rfl, hq1⟩
    refine LG1 ?_ (ps_move rfl).os ?_
    · exact rfl
    refine LGE ?_ (os_append (xs := bv x) (news := bv x) (by repeat (first | exact pk_head _ _ | apply pk_tail)) T.un22 T.ti5 (by rfl) (by decide) rfl rfl (by simp) (hy.src (by repeat (first | exact pk_head _ _ | apply pk_tail))) (bv_one _) (by unfold maxLen; omega) (by omega)) ?_
    · exact rfl
    rintro _ _ ⟨q2, d2, rfl, rfl, hq2⟩
    refine slOwn_info (pk_head _ _) fun z1 z2 z3 => ?_
    refine LGE ?_ (os_bslv (vs := [.slice q2 (x.length + x.length) d2]) T.un30 T.ti22 (by rfl) (by rfl) rfl (by simp [Value.oneCell']) (by decide) (by decide)) ?_
    · exact rfl
    rintro _ _ ⟨b36, rfl, rfl⟩
    refine LG1 ?_ (os_callI (Of_own E hE b36 (x.length + x.length) d2 q2 (x ++ x) (by simp) z1 z3 hxy _ (bv_append _ _).symm) Tryd.func9 (by decide +kernel) rfl rfl (pkc (by repeat (first | exact pk_head _ _ | apply pk_tail)) (pkc (by repeat (first | exact pk_head _ _ | apply pk_tail)) (pkc (by repeat (first | exact pk_head _ _ | apply pk_tail)) (pkn _))))) ?_
    · exact rfl
    refine LG1 ?_ (ps_agg_same T.eq25 rfl rfl (by exact sum_kv (x ++ x))).os ?_
    · exact rfl
    refine L1 (ps_pick_t rfl rfl).os ?_
    refine L1 (ps_move rfl).os ?_
    refine LG1 ?_ (ps_move rfl).os ?_
    · exact rfl
    refine LG1 ?_ (ps_move rfl).os ?_
    · exact rfl
    refine LGE ?_ (os_bslv (vs := [.slice px x.length cx, .slice none 0 0, .slice py x.length cy]) T.un30 T.ti22 (by rfl) (by rfl) rfl hone4 (by decide) (by decide)) ?_
    · exact rfl
    rintro _ _ ⟨b43, rfl, rfl⟩
    refine LG1 ?_ (os_call2 (o4 b43) Tryd.func9 (by decide +kernel) rfl rfl (by repeat (first | exact pk_head _ _ | apply pk_tail)) (by repeat (first | exact pk_head _ _ | apply pk_tail))) ?_
    · exact rfl
    refine LG1 ?_ (ps_move rfl).os ?_
    · exact rfl
    refine LG1 ?_ (ps_move rfl).os ?_
    · exact rfl
    refine LGE ?_ (os_bslv (vs := [.slice px x.length cx, .slice py x.length cy]) T.un30 T.ti22 (by rfl) (by rfl) rfl hone3 (by decide) (by decide)) ?_
    · exact rfl
    rintro _ _ ⟨b47, rfl, rfl⟩
    refine LG1 ?_ (os_call2 (o3 b47) Tryd.func9 (by decide +kernel) rfl rfl (by repeat (first | exact pk_head _ _ | apply pk_tail)) (by repeat (first | exact pk_head _ _ | apply pk_tail))) ?_
    · exact rfl
    refine LG1 ?_ (ps_agg_same T.eq25 rfl rfl (by exact sum_kv (x ++ x))).os ?_
    · exact rfl
    refine L1 (ps_pick_t rfl rfl).os ?_
    refine L1 (ps_assign rfl).os ?_
    refine LW.nil ?_
    repeat (first | refine CW.seq ?_ | refine PW.then_ ?_ | refine PW.then_to rfl ?_ | refine CW.block ?_ | refine CW.skip ?_ | refine CW.ret ?_ | refine PW.then_ret ?_ | refine PW.block_ret ?_ | refine Cut.ret ?_ | refine Rnd.ret ?_ | refine PW.block_normal ?_ | refine CW.exit ?_ | refine PW.then_exit ?_ | refine PW.block_hit ?_ | refine PW.block_miss rfl ?_ | refine Cut.exit ?_ | refine Rnd.exit ?_)
    exact Fin.ret1 (v := .bool true) rfl [E] rfl ⟨rfl, rfl⟩ (by repeat (first | exact Ent.refl _ | (apply Ent.cons; · repeat (first | exact pk_head _ _ | apply pk_tail)) | apply Ent.skip))
  · refine CW.region ?_
    refine L1 (ps_move rfl).os ?_
    refine L1 (os_str x T.un22 T.un5 T.un9 rfl rfl (hx.src (by repeat (first | exact pk_head _ _ | apply pk_tail)))) ?_
    refine L1 (ps_move rfl).os ?_
    refine L1 (os_str y T.un22 T.un5 T.un9 rfl rfl (hy.src (by repeat (first | exact pk_head _ _ | apply pk_tail)))) ?_
    refine L1 (ps_t (ps_strV_neq x y rfl rfl) hne).os ?_
    refine L1 (ps_move rfl).os ?_
    refine LG0f ?_ ?_
    · exact rfl
    refine LG0f ?_ ?_
    · exact rfl
    refine LG0f ?_ ?_
    · exact rfl
    refine LG0f ?_ ?_
    · exact rfl
    refine LG0f ?_ ?_
    · exact rfl
    refine LG0f ?_ ?_
    · exact rfl
    refine LG0f ?_ ?_
    · exact rfl
    refine L1 (ps_pick_t rfl rfl).os ?_
    refine L1 (ps_move rfl).os ?_
    refine LG1 ?_ (ps_move rfl).os ?_
    · exact rfl
    refine LG1 ?_ (ps_move rfl).os ?_
    · exact rfl
    refine LGE ?_ (os_bslv (vs := [.slice px x.length cx, .slice py y.length cy]) T.un30 T.ti22 (by rfl) (by rfl) rfl hone3 (by decide) (by decide)) ?_
    · exact rfl
    rintro _ _ ⟨b30, rfl, rfl⟩
    refine LG1 ?_ (os_call2 (o3 b30) Tryd.func9 (by decide +kernel) rfl rfl (by repeat (first | exact pk_head _ _ | apply pk_tail)) (by repeat (first | exact pk_head _ _ | apply pk_tail))) ?_
    · exact rfl
    refine LG1 ?_ (ps_move rfl).os ?_
    · exact rfl
    refine LGE ?_ (os_append0 (news := bv x) T.un22 T.ti5 (by rfl) (by decide) rfl rfl (by simp) (hx.src (by repeat (first | exact pk_head _ _ | apply pk_tail))) (bv_one _) (by unfold maxLen; omega) (by omega)) ?_
    · exact rfl
    rintro _ _ ⟨q1, d1, rfl, rfl, hq1⟩
    refine LG1 ?_ (ps_move rfl).os ?_
    · exact rfl
    refine LGE ?_ (os_append (xs := bv x) (news := bv y) (by repeat (first | exact pk_head _ _ | apply pk_tail)) T.un22 T.ti5 (by rfl) (by decide) rfl rfl (by simp) (hy.src (by repeat (first | exact pk_head _ _ | apply pk_tail))) (bv_one _) (by unfold maxLen; omega) (by omega)) ?_
    · exact rfl
    rintro _ _ ⟨q2, d2, rfl, rfl, hq2⟩
    refine slOwn_info (pk_head _ _) fun z1 z2 z3 => ?_
    refine LGE ?_ (os_bslv (vs := [.slice q2 (x.length + y.length) d2]) T.un30 T.ti22 (by rfl) (by rfl) rfl (by simp [Value.oneCell']) (by decide) (by decide)) ?_
    · exact rfl
    rintro _ _ ⟨b36, rfl, rfl⟩
    refine LG1 ?_ (os_callI (Of_own E hE b36 (x.length + y.length) d2 q2 (x ++ y) (by simp) z1 z3 hxy _ (bv_append _ _).symm) Tryd.func9 (by decide +kernel) rfl rfl (pkc (by repeat (first | exact pk_head _ _ | apply pk_tail)) (pkc (by repeat (first | exact pk_head _ _ | apply pk_tail)) (pkc (by repeat (first | exact pk_head _ _ | apply pk_tail)) (pkn _))))) ?_
    · exact rfl
    refine LG1 ?_ (ps_agg_same T.eq25 rfl rfl (by exact sum_kv (x ++ y))).os ?_
    · exact rfl
    refine L1 (ps_pick_t rfl rfl).os ?_
    refine L1 (ps_move rfl).os ?_
    refine LG1 ?_ (ps_move rfl).os ?_
    · exact rfl
    refine LG1 ?_ (ps_move rfl).os ?_
    · exact rfl
    refine LGE ?_ (os_bslv (vs := [.slice px x.length cx, .slice none 0 0, .slice py y.length cy]) T.un30 T.ti22 (by rfl) (by rfl) rfl hone4 (by decide) (by decide)) ?_
    · exact rfl
    rintro _ _ ⟨b43, rfl, rfl⟩
    refine LG1 ?_ (os_call2 (o4 b43) Tryd.func9 (by decide +kernel) rfl rfl (by repeat (first | exact pk_head _ _ | apply pk_tail)) (by repeat (first | exact pk_head _ _ | apply pk_tail))) ?_
    · exact rfl
    refine LG1 ?_ (ps_move rfl).os ?_
    · exact rfl
    refine LG1 ?_ (ps_move rfl).os ?_
    · exact rfl
    refine LGE ?_ (os_bslv (vs := [.slice px x.length cx, .slice py y.length cy]) T.un30 T.ti22 (by rfl) (by rfl) rfl hone3 (by decide) (by decide)) ?_
    · exact rfl
    rintro _ _ ⟨b47, rfl, rfl⟩
    refine LG1 ?_ (os_call2 (o3 b47) Tryd.func9 (by decide +kernel) rfl rfl (by repeat (first | exact pk_head _ _ | apply pk_tail)) (by repeat (first | exact pk_head _ _ | apply pk_tail))) ?_
    · exact rfl
    refine LG1 ?_ (ps_agg_same T.eq25 rfl rfl (by exact sum_kv (x ++ y))).os ?_
    · exact rfl
    refine L1 (ps_pick_t rfl rfl).os ?_
    refine L1 (ps_assign rfl).os ?_
    refine LW.nil ?_
    repeat (first | refine CW.seq ?_ | refine PW.then_ ?_ | refine PW.then_to rfl ?_ | refine CW.block ?_ | refine CW.skip ?_ | refine CW.ret ?_ | refine PW.then_ret ?_ | refine PW.block_ret ?_ | refine Cut.ret ?_ | refine Rnd.ret ?_ | refine PW.block_normal ?_ | refine CW.exit ?_ | refine PW.then_exit ?_ | refine PW.block_hit ?_ | refine PW.block_miss rfl ?_ | refine Cut.exit ?_ | refine Rnd.exit ?_)
    exact Fin.ret1 (v := .bool true) rfl [E] rfl ⟨rfl, rfl⟩ (by repeat (first | exact Ent.refl _ | (apply Ent.cons; · repeat (first | exact pk_head _ _ | apply pk_tail)) | apply Ent.skip))

namespace shaApart
open Go.ChangeShapes Go.WideShapes Go.ChangeAt Go.RowKit
theorem own : ownKnob Tryd.prog.godebug = none := by kernel_rfl
theorem laidOut : laidOutB Tryd.prog = true := by kernel_rfl
set_option maxRecDepth 100000 in
theorem lifted (os : Os) (started : os.Started) (H : Type) (enc : TypeId × Value → H) :
    ReturnsInHanded {} Tryd.checked os 4 .any (fun w args => (Rows.shaApartSpec.pre enc Tryd.prog Tryd.f4 [] false w args ∧ laidMetH Tryd.prog laidL w) ∧ sizedMet enc Tryd.prog Tryd.f4 (OpenSpec.ofChange Rows.shaApartSpec) false w args) (Rows.shaApartSpec.post enc Tryd.prog Tryd.f4 false true false false) := by
  refine returnsInHanded_of_change_and (C := Tryd.checked) (X := fun w _ => laidMetH Tryd.prog laidL w) (fun _ _ _ hh h => h.of_heap hh) own started (by kernel_rfl) Tryd.func4
    (ChangeSpec.witness_shaped (enc := enc) (C := Tryd.checked) (os := os) (X := fun w _ => laidMetH Tryd.prog laidL w) false (World.doorLaid Tryd.prog 400 os) #[(Value.slice none 0 0), (Value.slice none 0 0)] 8 rfl (World.shaped_of_RefB (by kernel_rfl) (by kernel_rfl)) (by kernel_rfl) (by kernel_rfl) (by kernel_rfl) (door_met os _)) ?_
  intro W base args ds gs before hval0 hW hcnd hsz hL _
  have hval : ∀ (j : Nat) t v, Tryd.f4.params[j]? = some t → args[j]? = some v → Value.okWide Tryd.prog W .any base t v := hval0
  have hW' := hW
  obtain ⟨p, q, hA0, hV, rfl, hfz, hnd⟩ := hW
  have hA : DataW.TrodAll enc Tryd.prog W 0 (fun _ => true) true Tryd.f4.params.toList args.toList ds p := hA0
  rw [Tryd.params4] at hA hval
  obtain ⟨v0, vs0, d0, ds0, p0, q0, hargs, rfl, rfl, h0, r0⟩ := trodAll_cons hA
  obtain ⟨v1, vs1, d1, ds1, p1, q1, rfl, rfl, rfl, h1, r1⟩ := trodAll_cons r0
  obtain ⟨rfl, rfl, rfl⟩ := trodAll_nil r1
  obtain rfl : args = #[v0, v1] := by cases args; simp_all
  obtain ⟨rfl, rfl⟩ := trodVars_none hV
  obtain ⟨_, _, _, rfl⟩ := okWide_slice T.un22 (hval 0 22 v0 rfl rfl)
  obtain ⟨fu0, hf0⟩ := h0
  obtain ⟨a0, b0, w0⟩ := open_bytes T.un22 T.un5 T.co5 hf0
  have z0 := sized_bytes (j := 0) hsz (by kernel_rfl) rfl T.un22 (by kernel_rfl) hf0 b0
  obtain ⟨_, _, _, rfl⟩ := okWide_slice T.un22 (hval 1 22 v1 rfl rfl)
  obtain ⟨fu1, hf1⟩ := h1
  obtain ⟨a1, b1, w1⟩ := open_bytes T.un22 T.un5 T.co5 hf1
  have z1 := sized_bytes (j := 1) hsz (by kernel_rfl) rfl T.un22 (by kernel_rfl) hf1 b1
  simp only [List.append_nil] at hW'
  refine (LawOf.calls (ShaApart_law W (env_of_laid hL) _ a0 b0 w0 z0 _ a1 b1 w1 z1)).mono fun e W' ⟨he, hb⟩ => ?_
  subst he
  exact ⟨_, rfl, law_post laidOut rfl (tb := 4) (by kernel_rfl) T.un4 (by intro t ht; rw [Tryd.params4] at ht; simp only [List.mem_cons, List.not_mem_nil, or_false] at ht; rcases ht with rfl | rfl <;> exact ⟨by kernel_rfl, by decide +kernel⟩) rfl hW' hb⟩
theorem said : Rows.ShaApartSaid :=
  OpenClaim.holds_of_wide 4 Tryd.f4 rfl rfl rfl rfl rfl rfl rfl ⟨rfl, rfl, rfl, rfl, rfl⟩ rfl rfl rfl rfl rfl (by kernel_rfl) Tryd.func4 (by kernel_rfl)
    (of_decide_eq_true (by kernel_rfl)) (by unfold Func.isWrapper; rw [if_neg (of_decide_eq_false (by kernel_rfl))]; exact ⟨rfl, rfl⟩)
    (fun os started H enc _ => lifted os started H enc)
theorem holds : Rows.ShaApartCardSaid :=
  Claim7.holds_tied_plain_at .later [] [.data, .data] true (true, "c59000682bd1665af73ad339d840365669250ffdffb6e3f54f5429959ac91e75") false
    said (fun _ h => by cases h) (by kernel_rfl) (fun _ h => by cases h) shaApart_row_tie rfl ⟨rfl, rfl⟩ (by kernel_rfl) rfl
    (fun f fn hf hfn => by
      obtain rfl : f = 4 := Option.some.inj ((show Tryd.prog.funcNamed "pacioli/paciolilaw02.ShaApart" = some 4 by kernel_rfl).symm.trans hf) |>.symm
      obtain rfl : fn = Tryd.f4 := (Option.some.inj (Tryd.func4.symm.trans hfn)).symm
      exact ⟨by kernel_rfl, fun j t ht => by
        rw [Tryd.params4] at ht
        have hm : t ∈ [22, 22] := by simpa using Array.mem_of_getElem? ht
        have hall : ([22, 22].all fun u => !Tryd.prog.wantsStandIn u) = true := by kernel_rfl
        exact (show Tryd.prog.wantsStandIn t = false by simpa using List.all_eq_true.1 hall t hm)⟩)
    (by kernel_rfl)
end shaApart
end Go.Proofs.YtcfipblnaifbhaaDoor
