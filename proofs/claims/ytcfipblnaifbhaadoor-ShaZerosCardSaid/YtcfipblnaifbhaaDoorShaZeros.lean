/- The law ShaZeros: parts without bytes play no part; zeros at the end do: it answers true. -/
import Derived.Test.YtcfipblnaifbhaaDoorShaCut
import Derived.Test.YtcfipblnaifbhaaDoorZer
namespace Go.Proofs.YtcfipblnaifbhaaDoor
open Go Go.SL
set_option linter.unusedVariables false
set_option linter.unusedSimpArgs false

theorem zeros8 : ∀ k : Nat, (List.replicate k [Value.int .u8 0]).flatten = bv (List.replicate k 0)
  | 0 => rfl
  | k + 1 => by rw [List.replicate_succ, List.flatten_cons, zeros8 k, List.replicate_succ]; rfl
theorem os_make8 {P : Program} {ty : TypeId} {n : FN} {f : Nat → Value} {w0 : World} {As : List Asn} {x y : Operand} {t e : TypeId} {kl kc : IntKind} (k : Nat) (ht : P.underlying t = some (.slice e)) (hi : TI P e 1 1 [.int .u8 0]) (hx : ev n f x = .int kl (k : Nat)) (hy : ev n f y = .int kc (k : Nat)) (hb : k ≤ 70368744177664) :
    OS P (.makeSlice t x y) ty n f w0 As (NewSl e (bv (List.replicate k 0)) k k As) := by
  have h := os_make (P := P) (ty := ty) (w0 := w0) (As := As) ht hi rfl hx hy (by omega) (by omega) (by omega) (by omega)
  rw [Int.toNat_natCast, zeros8] at h
  exact h
/-- Some bytes, and zeros that were made behind them. -/
theorem Of_two (E : Asn) (hE : Env E) (b z k : Nat) (p : Option Addr) (c : Nat) (x : List UInt8) (hx : ByR E (.slice p x.length c) x) (hlen : (x ++ List.replicate k 0).length ≤ 1000000) :
    FSpec Tryd.prog 9 [.pointer none, .slice (some ⟨b, 0, none⟩) 2 2] [cb b 22 [.slice p x.length c, .slice (some ⟨z, 0, none⟩) k k], cb z 5 (bv (List.replicate k 0)), E]
      (fun r As => r = .agg (bv (sumM (x ++ List.replicate k 0))).toArray ∧ As = [cb b 22 [.slice p x.length c, .slice (some ⟨z, 0, none⟩) k k], cb z 5 (bv (List.replicate k 0)), E]) := by
  refine OfL_spec _ _ [(.slice p x.length c, x), (.slice (some ⟨z, 0, none⟩) k k, List.replicate k 0)] ⟨E, by simp, hE⟩ ⟨_, List.mem_cons_self, RowsR.cb rfl (by simp) rfl (Nat.le_refl _) (by show 2 ≤ maxLen; decide)⟩ (fun y hy => ?_) _ (by simp) hlen
  rcases List.mem_cons.1 hy with rfl | hy
  · exact ⟨E, by simp, hx⟩
  · obtain rfl := List.mem_singleton.1 hy
    exact ⟨_, List.mem_cons_of_mem _ List.mem_cons_self, ByR.cb (by rw [List.drop_zero, List.take_of_length_le (by rw [length_bv]; exact Nat.le_refl _)]) (by simp) (Nat.le_refl _)⟩
theorem Of_none (E : Asn) (hE : Env E) : FSpec Tryd.prog 9 [.pointer none, .slice none 0 0] [E] (fun r As => r = .agg (bv (sumM [])).toArray ∧ As = [E]) :=
  OfL_spec [E] _ [] ⟨E, by simp, hE⟩ ⟨E, by simp, RowsR.nil _ _⟩ (fun x hx => by cases hx) [] rfl (by decide)
theorem ShaZeros_law (W : World) (hE : Env (bag (blks W))) (v0 : Value) (x : List UInt8) (hx : ByR (bag (blks W)) v0 x) (hxm : x.length ≤ maxLen) (hxz : x.length ≤ 140737488351232) (n0 : Int) (hn0 : -9223372036854775808 ≤ n0 ∧ n0 < 9223372036854775808) :
    LawOf Tryd.prog 5 [v0, .int .i64 n0] W := by
  have hx0 := hx
  obtain ⟨px, cx, rfl, hcx, -⟩ := hx0
  unfold maxLen at hxm
  generalize hE0 : bag (blks W) = E at hE hx
  have hnil := ByR.nil' E
  obtain ⟨m, hm, hm127⟩ : ∃ m : Nat, n0 % ((2 ^ 7 : Nat) : Int) = m ∧ m ≤ 127 := ⟨(n0 % ((2 ^ 7 : Nat) : Int)).toNat, by omega, by omega⟩
  obtain ⟨n, hn⟩ : ∃ n : Nat, m + 1 = n := ⟨_, rfl⟩
  have hmn : (m : Int) + 1 = (n : Int) := by omega
  refine FSpec.intro Tryd.func5 rfl 41 Tryd.ntmps5 (Nat.le_of_ble_eq_true rfl) fun w0 F => ?_
  show CW _ _ _ _ _ _ (_ :: F)
  rw [hE0]
  repeat (first | refine CW.seq ?_ | refine PW.then_ ?_ | refine CW.block ?_ | refine CW.skip ?_ | refine CW.ret ?_ | refine PW.then_ret ?_ | refine PW.block_ret ?_ | refine Cut.ret ?_ | refine Rnd.ret ?_ | refine PW.block_normal ?_ | refine CW.exit ?_ | refine PW.then_exit ?_ | refine PW.block_hit ?_ | refine PW.block_miss rfl ?_ | refine Cut.exit ?_ | refine Rnd.exit ?_)
  refine CW.region ?_
  refine L1 (ps_assign rfl).os ?_
  refine LW.nil ?_
  repeat (first | refine CW.seq ?_ | refine PW.then_ ?_ | refine CW.block ?_ | refine CW.skip ?_ | refine CW.ret ?_ | refine PW.then_ret ?_ | refine PW.block_ret ?_ | refine Cut.ret ?_ | refine Rnd.ret ?_ | refine PW.block_normal ?_ | refine CW.exit ?_ | refine PW.then_exit ?_ | refine PW.block_hit ?_ | refine PW.block_miss rfl ?_ | refine Cut.exit ?_ | refine Rnd.exit ?_)
  refine CW.region ?_
  refine L1 (os_call1 (fit_spec E hE) Tryd.func8 (by decide +kernel) rfl rfl (by repeat (first | exact pk_head _ _ | apply pk_tail))) ?_
  refine L1 (ps_not rfl).os ?_
  refine LW.nil ?_
  repeat (first | refine CW.seq ?_ | refine PW.then_ ?_ | refine CW.block ?_ | refine CW.skip ?_ | refine CW.ret ?_ | refine PW.then_ret ?_ | refine PW.block_ret ?_ | refine Cut.ret ?_ | refine Rnd.ret ?_ | refine PW.block_normal ?_ | refine CW.exit ?_ | refine PW.then_exit ?_ | refine PW.block_hit ?_ | refine PW.block_miss rfl ?_ | refine Cut.exit ?_ | refine Rnd.exit ?_)
  refine CW.cond_false rfl ?_
  repeat (first | refine CW.seq ?_ | refine PW.then_ ?_ | refine CW.block ?_ | refine CW.skip ?_ | refine CW.ret ?_ | refine PW.then_ret ?_ | refine PW.block_ret ?_ | refine Cut.ret ?_ | refine Rnd.ret ?_ | refine PW.block_normal ?_ | refine CW.exit ?_ | refine PW.then_exit ?_ | refine PW.block_hit ?_ | refine PW.block_miss rfl ?_ | refine Cut.exit ?_ | refine Rnd.exit ?_)
  by_cases hlen : (300 : Int) < (x.length : Int)
  · refine CW.region ?_
    refine L1 (ps_move rfl).os ?_
    refine L1 (ps_len_sl T.un22 rfl).os ?_
    refine L1 (ps_t (ps_gtr rfl rfl) (hlen)).os ?_
    refine LW.nil ?_
    repeat (first | refine CW.seq ?_ | refine PW.then_ ?_ | refine CW.block ?_ | refine CW.skip ?_ | refine CW.ret ?_ | refine PW.then_ret ?_ | refine PW.block_ret ?_ | refine Cut.ret ?_ | refine Rnd.ret ?_ | refine PW.block_normal ?_ | refine CW.exit ?_ | refine PW.then_exit ?_ | refine PW.block_hit ?_ | refine PW.block_miss rfl ?_ | refine Cut.exit ?_ | refine Rnd.exit ?_)
    refine CW.cond_true rfl ?_
    repeat (first | refine CW.seq ?_ | refine PW.then_ ?_ | refine CW.block ?_ | refine CW.skip ?_ | refine CW.ret ?_ | refine PW.then_ret ?_ | refine PW.block_ret ?_ | refine Cut.ret ?_ | refine Rnd.ret ?_ | refine PW.block_normal ?_ | refine CW.exit ?_ | refine PW.then_exit ?_ | refine PW.block_hit ?_ | refine PW.block_miss rfl ?_ | refine Cut.exit ?_ | refine Rnd.exit ?_)
    refine CW.region ?_
    refine L1 (ps_assign rfl).os ?_
    refine LW.nil ?_
    repeat (first | refine CW.seq ?_ | refine PW.then_ ?_ | refine CW.block ?_ | refine CW.skip ?_ | refine CW.ret ?_ | refine PW.then_ret ?_ | refine PW.block_ret ?_ | refine Cut.ret ?_ | refine Rnd.ret ?_ | refine PW.block_normal ?_ | refine CW.exit ?_ | refine PW.then_exit ?_ | refine PW.block_hit ?_ | refine PW.block_miss rfl ?_ | refine Cut.exit ?_ | refine Rnd.exit ?_)
    exact Fin.ret1 (v := .bool true) rfl [E] rfl ⟨rfl, rfl⟩ (by repeat (first | exact Ent.refl _ | (apply Ent.cons; · repeat (first | exact pk_head _ _ | apply pk_tail)) | apply Ent.skip))
  refine CW.region ?_
  refine L1 (ps_move rfl).os ?_
  refine L1 (ps_len_sl T.un22 rfl).os ?_
  refine L1 (ps_f (ps_gtr rfl rfl) (hlen)).os ?_
  refine LW.nil ?_
  repeat (first | refine CW.seq ?_ | refine PW.then_ ?_ | refine CW.block ?_ | refine CW.skip ?_ | refine CW.ret ?_ | refine PW.then_ret ?_ | refine PW.block_ret ?_ | refine Cut.ret ?_ | refine Rnd.ret ?_ | refine PW.block_normal ?_ | refine CW.exit ?_ | refine PW.then_exit ?_ | refine PW.block_hit ?_ | refine PW.block_miss rfl ?_ | refine Cut.exit ?_ | refine Rnd.exit ?_)
  refine CW.cond_false rfl ?_
  repeat (first | refine CW.seq ?_ | refine PW.then_ ?_ | refine CW.block ?_ | refine CW.skip ?_ | refine CW.ret ?_ | refine PW.then_ret ?_ | refine PW.block_ret ?_ | refine Cut.ret ?_ | refine Rnd.ret ?_ | refine PW.block_normal ?_ | refine CW.exit ?_ | refine PW.then_exit ?_ | refine PW.block_hit ?_ | refine PW.block_miss rfl ?_ | refine Cut.exit ?_ | refine Rnd.exit ?_)
  refine CW.region ?_
  refine L1 (ps_move rfl).os ?_
  refine L1 (ps_to (u := .int .i64 (m : Int)) (congrArg _ hm) (ps_mask_i64 (m := 7) rfl rfl rfl (by decide))).os ?_
  refine L1 (ps_to (u := .int .i64 (n : Int)) (congrArg _ hmn) (ps_add_i64 rfl rfl (by omega) (by omega))).os ?_
  refine L1 (ps_assign rfl).os ?_
  refine LW.nil ?_
  repeat (first | refine CW.seq ?_ | refine PW.then_ ?_ | refine CW.block ?_ | refine CW.skip ?_ | refine CW.ret ?_ | refine PW.then_ret ?_ | refine PW.block_ret ?_ | refine Cut.ret ?_ | refine Rnd.ret ?_ | refine PW.block_normal ?_ | refine CW.exit ?_ | refine PW.then_exit ?_ | refine PW.block_hit ?_ | refine PW.block_miss rfl ?_ | refine Cut.exit ?_ | refine Rnd.exit ?_)
  have hxn : (x ++ List.replicate n 0).length = x.length + n := by simp
  have hone1 : ∀ z, ∀ u ∈ [Value.slice px x.length cx, .slice (some ⟨z, 0, none⟩) n n], u.oneCell' = true := by simp [Value.oneCell']
  have hone3 : ∀ u ∈ [Value.slice px x.length cx, .slice none 0 0, .slice none 0 0], u.oneCell' = true := by simp [Value.oneCell']
  have hone2 : ∀ u ∈ [Value.slice none 0 0, .slice px x.length cx], u.oneCell' = true := by simp [Value.oneCell']
  have o1 := fun b z => Of_two E hE b z n px cx x hx (by omega)
  have o2 := fun b => Of_row E hE b 3 [(.slice px x.length cx, x), (.slice none 0 0, []), (.slice none 0 0, [])] rfl (by decide) (by simp [hx, hnil]) x (by simp) (by omega)
  have o3 := fun b => Of_row E hE b 2 [(.slice none 0 0, []), (.slice px x.length cx, x)] rfl (by decide) (by simp [hx, hnil]) x (by simp) (by omega)
  have o4 := Of_none E hE
  have o5 := fun b => Of_row E hE b 1 [(.slice none 0 0, [])] rfl (by decide) (by simp [hnil]) [] (by simp) (by decide)
  have hz : bv x ++ zerL [.int .u8 0] n = bv (x ++ List.replicate n 0) := by rw [zerL_one, bv_append]; congr 1; simp [bv]
  have hS := fun A v h => rSum_spec A v (x ++ List.replicate n 0) h (by omega)
  have hk1 := sum_kv (x ++ List.replicate n 0)
  have hk2 := sum_kv x
  have hk3 := sum_kv []
  generalize sumM (x ++ List.replicate n 0) = oa at o1 hS hk1
  generalize sumM x = ob at o2 o3 hk2
  generalize sumM [] = oc at o4 o5 hk3
  refine CW.region ?_
  refine L1 (ps_move rfl).os ?_
  refine LE (os_append0 (news := bv x) T.un22 T.ti5 (by rfl) (by decide) rfl rfl (by simp) (hx.src (by repeat (first | exact pk_head _ _ | apply pk_tail))) (bv_one _) (by unfold maxLen; omega) (by omega)) ?_
  rintro _ _ ⟨q1, d1, rfl, rfl, hq1⟩
  refine L1 (ps_move rfl).os ?_
  refine LE (os_appendZ (k := n) (xs := bv x) (by repeat (first | exact pk_head _ _ | apply pk_tail)) T.un22 T.un3 T.ti5 (by rfl) (by decide) rfl rfl (by simp [Value.oneCell']) (by unfold maxLen; omega) (by omega)) ?_
  rintro _ _ ⟨q2, d2, rfl, rfl, hq2⟩
  refine slOwn_info (pk_head _ _) fun z1 z2 z3 => ?_
  rw [hz]
  refine L1 (ps_assign rfl).os ?_
  refine LW.nil ?_
  repeat (first | refine CW.seq ?_ | refine PW.then_ ?_ | refine CW.block ?_ | refine CW.skip ?_ | refine CW.ret ?_ | refine PW.then_ret ?_ | refine PW.block_ret ?_ | refine Cut.ret ?_ | refine Rnd.ret ?_ | refine PW.block_normal ?_ | refine CW.exit ?_ | refine PW.then_exit ?_ | refine PW.block_hit ?_ | refine PW.block_miss rfl ?_ | refine Cut.exit ?_ | refine Rnd.exit ?_)
  have hby := ByR.own (e := 5) hxn z1 z3
  refine CW.region ?_
  refine L1 (ps_move rfl).os ?_
  refine L1 (ps_move rfl).os ?_
  refine LE (os_make8 n T.un22 T.ti5 rfl rfl (by omega)) ?_
  rintro _ _ ⟨b20, rfl, rfl⟩
  refine LE (os_bslv (vs := [.slice px x.length cx, .slice (some ⟨b20, 0, none⟩) n n]) T.un30 T.ti22 (by rfl) (by rfl) rfl (hone1 _) (by decide) (by decide)) ?_
  rintro _ _ ⟨b21, rfl, rfl⟩
  refine L1 (os_callI (o1 b21 b20) Tryd.func9 (by decide +kernel) rfl rfl (pkc (by repeat (first | exact pk_head _ _ | apply pk_tail)) (pkc (by repeat (first | exact pk_head _ _ | apply pk_tail)) (pkc (by repeat (first | exact pk_head _ _ | apply pk_tail)) (pkn _))))) ?_
  refine L1 (ps_move rfl).os ?_
  refine L1 (os_call1 (hS _ _ hby) Tryd.func10 (by decide +kernel) rfl rfl (by repeat (first | exact pk_head _ _ | apply pk_tail))) ?_
  refine L1 (ps_agg_same T.eq25 rfl rfl (by exact hk1)).os ?_
  refine L1 (ps_move rfl).os ?_
  refine LG1 ?_ (ps_move rfl).os ?_
  · exact rfl
  refine LGE ?_ (os_bslv (vs := [.slice px x.length cx, .slice none 0 0, .slice none 0 0]) T.un30 T.ti22 (by rfl) (by rfl) rfl hone3 (by decide) (by decide)) ?_
  · exact rfl
  rintro _ _ ⟨b28, rfl, rfl⟩
  refine LG1 ?_ (os_call2 (o2 b28) Tryd.func9 (by decide +kernel) rfl rfl (by repeat (first | exact pk_head _ _ | apply pk_tail)) (by repeat (first | exact pk_head _ _ | apply pk_tail))) ?_
  · exact rfl
  refine LG1 ?_ (ps_move rfl).os ?_
  · exact rfl
  refine LGE ?_ (os_bslv (vs := [.slice none 0 0, .slice px x.length cx]) T.un30 T.ti22 (by rfl) (by rfl) rfl hone2 (by decide) (by decide)) ?_
  · exact rfl
  rintro _ _ ⟨b31, rfl, rfl⟩
  refine LG1 ?_ (os_call2 (o3 b31) Tryd.func9 (by decide +kernel) rfl rfl (by repeat (first | exact pk_head _ _ | apply pk_tail)) (by repeat (first | exact pk_head _ _ | apply pk_tail))) ?_
  · exact rfl
  refine LG1 ?_ (ps_agg_same T.eq25 rfl rfl (by exact hk2)).os ?_
  · exact rfl
  refine L1 (ps_pick_t rfl rfl).os ?_
  refine L1 (ps_move rfl).os ?_
  refine LG1 ?_ (os_call1 o4 Tryd.func9 (by decide +kernel) rfl rfl (by repeat (first | exact pk_head _ _ | apply pk_tail))) ?_
  · exact rfl
  refine LGE ?_ (os_bslv (vs := [.slice none 0 0]) T.un30 T.ti22 (by rfl) (by rfl) rfl (by simp [Value.oneCell']) (by decide) (by decide)) ?_
  · exact rfl
  rintro _ _ ⟨b37, rfl, rfl⟩
  refine LG1 ?_ (os_call2 (o5 b37) Tryd.func9 (by decide +kernel) rfl rfl (by repeat (first | exact pk_head _ _ | apply pk_tail)) (by repeat (first | exact pk_head _ _ | apply pk_tail))) ?_
  · exact rfl
  refine LG1 ?_ (ps_agg_same T.eq25 rfl rfl (by exact hk3)).os ?_
  · exact rfl
  refine L1 (ps_pick_t rfl rfl).os ?_
  refine L1 (ps_assign rfl).os ?_
  refine LW.nil ?_
  repeat (first | refine CW.seq ?_ | refine PW.then_ ?_ | refine CW.block ?_ | refine CW.skip ?_ | refine CW.ret ?_ | refine PW.then_ret ?_ | refine PW.block_ret ?_ | refine Cut.ret ?_ | refine Rnd.ret ?_ | refine PW.block_normal ?_ | refine CW.exit ?_ | refine PW.then_exit ?_ | refine PW.block_hit ?_ | refine PW.block_miss rfl ?_ | refine Cut.exit ?_ | refine Rnd.exit ?_)
  exact Fin.ret1 (v := .bool true) rfl [E] rfl ⟨rfl, rfl⟩ (by repeat (first | exact Ent.refl _ | (apply Ent.cons; · repeat (first | exact pk_head _ _ | apply pk_tail)) | apply Ent.skip))

namespace shaZeros
open Go.ChangeShapes Go.WideShapes Go.ChangeAt Go.RowKit
theorem own : ownKnob Tryd.prog.godebug = none := by kernel_rfl
theorem laidOut : laidOutB Tryd.prog = true := by kernel_rfl
set_option maxRecDepth 100000 in
theorem lifted (os : Os) (started : os.Started) (H : Type) (enc : TypeId × Value → H) :
    ReturnsInHanded {} Tryd.checked os 5 .any (fun w args => (Rows.shaZerosSpec.pre enc Tryd.prog Tryd.f5 [] false w args ∧ laidMetH Tryd.prog laidL w) ∧ sizedMet enc Tryd.prog Tryd.f5 (OpenSpec.ofChange Rows.shaZerosSpec) false w args) (Rows.shaZerosSpec.post enc Tryd.prog Tryd.f5 false true false false) := by
  refine returnsInHanded_of_change_and (C := Tryd.checked) (X := fun w _ => laidMetH Tryd.prog laidL w) (fun _ _ _ hh h => h.of_heap hh) own started (by kernel_rfl) Tryd.func5
    (ChangeSpec.witness_shaped (enc := enc) (C := Tryd.checked) (os := os) (X := fun w _ => laidMetH Tryd.prog laidL w) false (World.doorLaid Tryd.prog 400 os) #[(Value.slice none 0 0), (Value.int .i64 0)] 8 rfl (World.shaped_of_RefB (by kernel_rfl) (by kernel_rfl)) (by kernel_rfl) (by kernel_rfl) (by kernel_rfl) (door_met os _)) ?_
  intro W base args ds gs before hval0 hW hcnd hsz hL _
  have hval : ∀ (j : Nat) t v, Tryd.f5.params[j]? = some t → args[j]? = some v → Value.okWide Tryd.prog W .any base t v := hval0
  have hW' := hW
  obtain ⟨p, q, hA0, hV, rfl, hfz, hnd⟩ := hW
  have hA : DataW.TrodAll enc Tryd.prog W 0 (fun _ => true) true Tryd.f5.params.toList args.toList ds p := hA0
  rw [Tryd.params5] at hA hval
  obtain ⟨v0, vs0, d0, ds0, p0, q0, hargs, rfl, rfl, h0, r0⟩ := trodAll_cons hA
  obtain ⟨v1, vs1, d1, ds1, p1, q1, rfl, rfl, rfl, h1, r1⟩ := trodAll_cons r0
  obtain ⟨rfl, rfl, rfl⟩ := trodAll_nil r1
  obtain rfl : args = #[v0, v1] := by cases args; simp_all
  obtain ⟨rfl, rfl⟩ := trodVars_none hV
  obtain ⟨_, _, _, rfl⟩ := okWide_slice T.un22 (hval 0 22 v0 rfl rfl)
  obtain ⟨fu0, hf0⟩ := h0
  obtain ⟨a0, b0, w0⟩ := open_bytes T.un22 T.un5 T.co5 hf0
  have z0 := sized_bytes (j := 0) hsz (by kernel_rfl) rfl T.un22 (by kernel_rfl) hf0 b0
  obtain ⟨a1, rfl, rfl, rfl, wf1⟩ := open_int T.un3 (hval 1 3 v1 rfl rfl) h1
  have w1 := bounds_i64' wf1
  simp only [List.append_nil] at hW'
  refine (LawOf.calls (ShaZeros_law W (env_of_laid hL) _ a0 b0 w0 z0 a1 w1)).mono fun e W' ⟨he, hb⟩ => ?_
  subst he
  exact ⟨_, rfl, law_post laidOut rfl (tb := 4) (by kernel_rfl) T.un4 (by intro t ht; rw [Tryd.params5] at ht; simp only [List.mem_cons, List.not_mem_nil, or_false] at ht; rcases ht with rfl | rfl <;> exact ⟨by kernel_rfl, by decide +kernel⟩) rfl hW' hb⟩
theorem said : Rows.ShaZerosSaid :=
  OpenClaim.holds_of_wide 5 Tryd.f5 rfl rfl rfl rfl rfl rfl rfl ⟨rfl, rfl, rfl, rfl, rfl⟩ rfl rfl rfl rfl rfl (by kernel_rfl) Tryd.func5 (by kernel_rfl)
    (of_decide_eq_true (by kernel_rfl)) (by unfold Func.isWrapper; rw [if_neg (of_decide_eq_false (by kernel_rfl))]; exact ⟨rfl, rfl⟩)
    (fun os started H enc _ => lifted os started H enc)
theorem holds : Rows.ShaZerosCardSaid :=
  Claim7.holds_tied_plain_at .later [] [.data, .data] true (true, "c59000682bd1665af73ad339d840365669250ffdffb6e3f54f5429959ac91e75") false
    said (fun _ h => by cases h) (by kernel_rfl) (fun _ h => by cases h) shaZeros_row_tie rfl ⟨rfl, rfl⟩ (by kernel_rfl) rfl
    (fun f fn hf hfn => by
      obtain rfl : f = 5 := Option.some.inj ((show Tryd.prog.funcNamed "pacioli/paciolilaw02.ShaZeros" = some 5 by kernel_rfl).symm.trans hf) |>.symm
      obtain rfl : fn = Tryd.f5 := (Option.some.inj (Tryd.func5.symm.trans hfn)).symm
      exact ⟨by kernel_rfl, fun j t ht => by
        rw [Tryd.params5] at ht
        have hm : t ∈ [22, 3] := by simpa using Array.mem_of_getElem? ht
        have hall : ([22, 3].all fun u => !Tryd.prog.wantsStandIn u) = true := by kernel_rfl
        exact (show Tryd.prog.wantsStandIn t = false by simpa using List.all_eq_true.1 hall t hm)⟩)
    (by kernel_rfl)
end shaZeros
end Go.Proofs.YtcfipblnaifbhaaDoor
