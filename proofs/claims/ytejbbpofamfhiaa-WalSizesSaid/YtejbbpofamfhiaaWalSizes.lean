/- The law WalSizes: a log has as many sectors as its records need; none of them is shared: it answers true for every list of numbers (no condition). -/
import Derived.Test.YtejbbpofamfhiaaWalLaw
import Derived.Test.YtejbbpofamfhiaaRows
namespace Go.Proofs.Ytejbbpofamfhiaa
open Go Go.SL
set_option linter.unusedVariables false
set_option linter.unusedSimpArgs false

def IntsR (A : Asn) (v : Value) (l : List Int) : Prop := RowsR A v 1 (l.map fun x => [.int .i64 x])
theorem open_Slint {H : Type} {enc : TypeId × Value → H} {W : World} {base : Nat} {held : Bool} {fuel : Nat} {v : Value} {x : DataW H × List MemPlace} (h : DataW.trod enc Try.prog W base (fun _ => true) held fuel 63 [v] = some x) : ∃ l, IntsR (bag (blks W)) v l := by
  obtain ⟨rows, hr, hq⟩ := open_rows (by decide) T.un63 T.co3 h
  have key : ∀ rows : List (List Value), (∀ r ∈ rows, ∃ n : Int, r = [.int .i64 n]) → ∃ l : List Int, rows = l.map fun x => [.int .i64 x] := by
    intro rows
    induction rows with
    | nil => exact fun _ => ⟨[], rfl⟩
    | cons r rows ih =>
      intro h
      obtain ⟨n, rfl⟩ := h r (by simp)
      obtain ⟨l, rfl⟩ := ih fun q hq => h q (by simp [hq])
      exact ⟨n :: l, rfl⟩
  obtain ⟨l, rfl⟩ := key rows fun r hrm => by
    obtain ⟨m, y, hy⟩ := hq r hrm
    have hl : r.length = 1 := hr.choose_spec.choose_spec.2.2.2.1 r hrm
    obtain ⟨u, rfl⟩ : ∃ u, r = [u] := by
      match r, hl with
      | [a], _ => exact ⟨a, rfl⟩
    obtain ⟨n, h1, _, _⟩ := DataW.trod_int T.un3 hy
    exact ⟨n, h1⟩
  exact ⟨l, hr⟩
set_option maxHeartbeats 4000000 in
theorem WalSizes_law (W : World) (v : Value) (l : List Int) (hv : IntsR (bag (blks W)) v l) : LawOf Try.prog 14 [v] W := by
  unfold IntsR at hv
  obtain ⟨pv, cap, rfl, hcap1, hcap2, hpv⟩ := hv.len
  rw [show (l.map fun x => [Value.int .i64 x]).length = l.length from List.length_map ..] at *
  have hcm := hcap2
  unfold maxLen at hcm
  obtain ⟨n1, n2, n3, n4, n5⟩ := new_log (n := 2000) (by decide)
  have ho1 := fun p => Open_log p (DS.new 2000) [] n1 n2 (by rw [n4]; decide)
  have hs0 := n1.stamp (B := 0) (fun r h => by cases h)
  rw [Nat.le_zero.1 hs0] at ho1
  have hnew := New_yes 2000 (by decide) (by decide)
  generalize DS.new 2000 = st0 at *
  refine FSpec.intro Try.func14 rfl 55 Try.ntmps14 (Nat.le_of_ble_eq_true rfl) fun w0 F => ?_
  show CW _ _ _ _ _ _ (_ :: F)
  generalize bag (blks W) = E at hv ⊢
  repeat (first | refine CW.seq ?_ | refine PW.then_ ?_ | refine PW.then_to rfl ?_ | refine CW.block ?_ | refine CW.skip ?_ | refine CW.ret ?_ | refine PW.then_ret ?_ | refine PW.block_ret ?_ | refine Cut.ret ?_ | refine Rnd.ret ?_ | refine PW.block_normal ?_ | refine CW.exit ?_ | refine PW.then_exit ?_ | refine PW.block_hit ?_ | refine PW.block_miss rfl ?_ | refine Cut.exit ?_ | refine Rnd.exit ?_ | refine CW.scope ?_ | refine CW.label ?_ | refine PW.scope_normal ?_ | refine PW.scope_ret ?_ | refine PW.scope_exit ?_)
  refine CW.region ?_
  refine L1 (ps_assign rfl).os ?_
  refine LW.nil ?_
  repeat (first | refine CW.seq ?_ | refine PW.then_ ?_ | refine PW.then_to rfl ?_ | refine CW.block ?_ | refine CW.skip ?_ | refine CW.ret ?_ | refine PW.then_ret ?_ | refine PW.block_ret ?_ | refine Cut.ret ?_ | refine Rnd.ret ?_ | refine PW.block_normal ?_ | refine CW.exit ?_ | refine PW.then_exit ?_ | refine PW.block_hit ?_ | refine PW.block_miss rfl ?_ | refine Cut.exit ?_ | refine Rnd.exit ?_ | refine CW.scope ?_ | refine CW.label ?_ | refine PW.scope_normal ?_ | refine PW.scope_ret ?_ | refine PW.scope_exit ?_)
  refine CW.region ?_
  refine L1 (os_call0 fitW_spec Try.func28 (by decide +kernel) rfl rfl) ?_
  refine L1 (ps_not rfl).os ?_
  refine LW.nil ?_
  repeat (first | refine CW.seq ?_ | refine PW.then_ ?_ | refine PW.then_to rfl ?_ | refine CW.block ?_ | refine CW.skip ?_ | refine CW.ret ?_ | refine PW.then_ret ?_ | refine PW.block_ret ?_ | refine Cut.ret ?_ | refine Rnd.ret ?_ | refine PW.block_normal ?_ | refine CW.exit ?_ | refine PW.then_exit ?_ | refine PW.block_hit ?_ | refine PW.block_miss rfl ?_ | refine Cut.exit ?_ | refine Rnd.exit ?_ | refine CW.scope ?_ | refine CW.label ?_ | refine PW.scope_normal ?_ | refine PW.scope_ret ?_ | refine PW.scope_exit ?_)
  refine CW.cond_false rfl ?_
  repeat (first | refine CW.seq ?_ | refine PW.then_ ?_ | refine PW.then_to rfl ?_ | refine CW.block ?_ | refine CW.skip ?_ | refine CW.ret ?_ | refine PW.then_ret ?_ | refine PW.block_ret ?_ | refine Cut.ret ?_ | refine Rnd.ret ?_ | refine PW.block_normal ?_ | refine CW.exit ?_ | refine PW.then_exit ?_ | refine PW.block_hit ?_ | refine PW.block_miss rfl ?_ | refine Cut.exit ?_ | refine Rnd.exit ?_ | refine CW.scope ?_ | refine CW.label ?_ | refine PW.scope_normal ?_ | refine PW.scope_ret ?_ | refine PW.scope_exit ?_)
  by_cases h30 : (30 : Int) < (l.length : Int)
  · refine CW.region ?_
    refine L1 (ps_move rfl).os ?_
    refine L1 (ps_len_sl T.un63 rfl).os ?_
    refine L1 (ps_t (ps_gtr rfl rfl) (h30)).os ?_
    refine LW.nil ?_
    repeat (first | refine CW.seq ?_ | refine PW.then_ ?_ | refine PW.then_to rfl ?_ | refine CW.block ?_ | refine CW.skip ?_ | refine CW.ret ?_ | refine PW.then_ret ?_ | refine PW.block_ret ?_ | refine Cut.ret ?_ | refine Rnd.ret ?_ | refine PW.block_normal ?_ | refine CW.exit ?_ | refine PW.then_exit ?_ | refine PW.block_hit ?_ | refine PW.block_miss rfl ?_ | refine Cut.exit ?_ | refine Rnd.exit ?_ | refine CW.scope ?_ | refine CW.label ?_ | refine PW.scope_normal ?_ | refine PW.scope_ret ?_ | refine PW.scope_exit ?_)
    refine CW.cond_true rfl ?_
    repeat (first | refine CW.seq ?_ | refine PW.then_ ?_ | refine PW.then_to rfl ?_ | refine CW.block ?_ | refine CW.skip ?_ | refine CW.ret ?_ | refine PW.then_ret ?_ | refine PW.block_ret ?_ | refine Cut.ret ?_ | refine Rnd.ret ?_ | refine PW.block_normal ?_ | refine CW.exit ?_ | refine PW.then_exit ?_ | refine PW.block_hit ?_ | refine PW.block_miss rfl ?_ | refine Cut.exit ?_ | refine Rnd.exit ?_ | refine CW.scope ?_ | refine CW.label ?_ | refine PW.scope_normal ?_ | refine PW.scope_ret ?_ | refine PW.scope_exit ?_)
    refine CW.region ?_
    refine L1 (ps_assign rfl).os ?_
    refine LW.nil ?_
    repeat (first | refine CW.seq ?_ | refine PW.then_ ?_ | refine PW.then_to rfl ?_ | refine CW.block ?_ | refine CW.skip ?_ | refine CW.ret ?_ | refine PW.then_ret ?_ | refine PW.block_ret ?_ | refine Cut.ret ?_ | refine Rnd.ret ?_ | refine PW.block_normal ?_ | refine CW.exit ?_ | refine PW.then_exit ?_ | refine PW.block_hit ?_ | refine PW.block_miss rfl ?_ | refine Cut.exit ?_ | refine Rnd.exit ?_ | refine CW.scope ?_ | refine CW.label ?_ | refine PW.scope_normal ?_ | refine PW.scope_ret ?_ | refine PW.scope_exit ?_)
    exact Fin.ret1 (v := .bool true) rfl [E] rfl ⟨rfl, rfl⟩ (by repeat (first | exact Ent.refl _ | (apply Ent.cons; · repeat (first | exact pk_head _ _ | apply pk_tail)) | apply Ent.skip))
  refine CW.region ?_
  refine L1 (ps_move rfl).os ?_
  refine L1 (ps_len_sl T.un63 rfl).os ?_
  refine L1 (ps_f (ps_gtr rfl rfl) (h30)).os ?_
  refine LW.nil ?_
  repeat (first | refine CW.seq ?_ | refine PW.then_ ?_ | refine PW.then_to rfl ?_ | refine CW.block ?_ | refine CW.skip ?_ | refine CW.ret ?_ | refine PW.then_ret ?_ | refine PW.block_ret ?_ | refine Cut.ret ?_ | refine Rnd.ret ?_ | refine PW.block_normal ?_ | refine CW.exit ?_ | refine PW.then_exit ?_ | refine PW.block_hit ?_ | refine PW.block_miss rfl ?_ | refine Cut.exit ?_ | refine Rnd.exit ?_ | refine CW.scope ?_ | refine CW.label ?_ | refine PW.scope_normal ?_ | refine PW.scope_ret ?_ | refine PW.scope_exit ?_)
  refine CW.cond_false rfl ?_
  repeat (first | refine CW.seq ?_ | refine PW.then_ ?_ | refine PW.then_to rfl ?_ | refine CW.block ?_ | refine CW.skip ?_ | refine CW.ret ?_ | refine PW.then_ret ?_ | refine PW.block_ret ?_ | refine Cut.ret ?_ | refine Rnd.ret ?_ | refine PW.block_normal ?_ | refine CW.exit ?_ | refine PW.then_exit ?_ | refine PW.block_hit ?_ | refine PW.block_miss rfl ?_ | refine Cut.exit ?_ | refine Rnd.exit ?_ | refine CW.scope ?_ | refine CW.label ?_ | refine PW.scope_normal ?_ | refine PW.scope_ret ?_ | refine PW.scope_exit ?_)
  refine CW.region ?_
  refine LE (os_call hnew Try.func17 (by decide +kernel) rfl rfl (List.Perm.refl _)) ?_
  rintro _ _ ⟨_, ⟨p, rfl, rfl⟩, rfl⟩
  refine L1 (ps_assign rfl).os ?_
  refine LW.nil ?_
  repeat (first | refine CW.seq ?_ | refine PW.then_ ?_ | refine PW.then_to rfl ?_ | refine CW.block ?_ | refine CW.skip ?_ | refine CW.ret ?_ | refine PW.then_ret ?_ | refine PW.block_ret ?_ | refine Cut.ret ?_ | refine Rnd.ret ?_ | refine PW.block_normal ?_ | refine CW.exit ?_ | refine PW.then_exit ?_ | refine PW.block_hit ?_ | refine PW.block_miss rfl ?_ | refine Cut.exit ?_ | refine Rnd.exit ?_ | refine CW.scope ?_ | refine CW.label ?_ | refine PW.scope_normal ?_ | refine PW.scope_ret ?_ | refine PW.scope_exit ?_)
  refine CW.region ?_
  refine L1 (ps_move rfl).os ?_
  refine LE (os_call (ho1 p) Try.func29 (by decide +kernel) rfl rfl (pkc (by repeat (first | exact pk_head _ _ | apply pk_tail)) (pkn _))) ?_
  rintro _ _ ⟨_, ⟨w, es, q, d, e1, e2, rfl, rfl⟩, rfl⟩
  refine L1 (ps_move rfl).os ?_
  refine L1 (ps_extract rfl rfl).os ?_
  refine L1 (ps_extract rfl rfl).os ?_
  refine L1 (ps_extract rfl rfl).os ?_
  refine L1 (ps_assign rfl).os ?_
  refine L1 (ps_assign rfl).os ?_
  refine L1 (ps_assign rfl).os ?_
  refine LW.nil ?_
  repeat (first | refine CW.seq ?_ | refine PW.then_ ?_ | refine PW.then_to rfl ?_ | refine CW.block ?_ | refine CW.skip ?_ | refine CW.ret ?_ | refine PW.then_ret ?_ | refine PW.block_ret ?_ | refine Cut.ret ?_ | refine Rnd.ret ?_ | refine PW.block_normal ?_ | refine CW.exit ?_ | refine PW.then_exit ?_ | refine PW.block_hit ?_ | refine PW.block_miss rfl ?_ | refine Cut.exit ?_ | refine Rnd.exit ?_ | refine CW.scope ?_ | refine CW.label ?_ | refine PW.scope_normal ?_ | refine PW.scope_ret ?_ | refine PW.scope_exit ?_)
  refine CW.region ?_
  refine L1 (ps_assign rfl).os ?_
  refine LW.nil ?_
  repeat (first | refine CW.seq ?_ | refine PW.then_ ?_ | refine PW.then_to rfl ?_ | refine CW.block ?_ | refine CW.skip ?_ | refine CW.ret ?_ | refine PW.then_ret ?_ | refine PW.block_ret ?_ | refine Cut.ret ?_ | refine Rnd.ret ?_ | refine PW.block_normal ?_ | refine CW.exit ?_ | refine PW.then_exit ?_ | refine PW.block_hit ?_ | refine PW.block_miss rfl ?_ | refine Cut.exit ?_ | refine Rnd.exit ?_ | refine CW.scope ?_ | refine CW.label ?_ | refine PW.scope_normal ?_ | refine PW.scope_ret ?_ | refine PW.scope_exit ?_)
  refine CW.region ?_
  refine L1 (ps_move rfl).os ?_
  refine L1 (ps_len_sl T.un63 rfl).os ?_
  refine L1 (ps_move rfl).os ?_
  refine LW.nil ?_
  repeat (first | refine CW.seq ?_ | refine PW.then_ ?_ | refine PW.then_to rfl ?_ | refine CW.block ?_ | refine CW.skip ?_ | refine CW.ret ?_ | refine PW.then_ret ?_ | refine PW.block_ret ?_ | refine Cut.ret ?_ | refine Rnd.ret ?_ | refine PW.block_normal ?_ | refine CW.exit ?_ | refine PW.then_exit ?_ | refine PW.block_hit ?_ | refine PW.block_miss rfl ?_ | refine Cut.exit ?_ | refine Rnd.exit ?_ | refine CW.scope ?_ | refine CW.label ?_ | refine PW.scope_normal ?_ | refine PW.scope_ret ?_ | refine PW.scope_exit ?_)
  refine CW.loopM (α := Nat × Rs × DS) (List.range 55)
    (fun k z => z.1 ≤ l.length ∧ LogD z.2.2 z.2.1 ∧ z.2.2.armed = false ∧ z.2.2.data.length = 2000 ∧ z.2.1.length = z.1 ∧ endR z.2.1 ≤ 19 * z.1 ∧ z.2.2.count = (endR z.2.1 : Nat) ∧ k = l.length - z.1)
    (fun z => [(24, .int .i64 (z.1 : Nat)), (7, .int .i64 (endR z.2.1 : Nat)), (3, ptr p), (4, ptr w), (22, .slice pv l.length cap), (23, .int .i64 (l.length : Nat))])
    (fun z => cb w 83 (walC p (endR z.2.1) z.2.1.length z.1) :: DiskAt p z.2.2 :: E :: F) l.length (0, [], st0)
    ⟨Nat.zero_le _, n1, n2, n3, rfl, Nat.zero_le _, n4, rfl⟩ ⟨rfl, rfl, rfl, rfl, rfl, rfl, trivial⟩ (by repeat (first | exact Ent.refl _ | (apply Ent.cons; · repeat (first | exact pk_head _ _ | apply pk_tail)) | apply Ent.skip)) ?_
  rintro k ⟨i, rs, st⟩ g ⟨hi, hL, ha, hd, hrl, hE, hc, hk⟩
  dsimp only at hi hL ha hd hrl hE hc hk ⊢
  generalize hmx : mix (List.range 55) g _ = f0
  have hf0 := agmix hmx
  clear hmx
  repeat (first | refine CW.seq ?_ | refine PW.then_ ?_ | refine PW.then_to rfl ?_ | refine CW.block ?_ | refine CW.skip ?_ | refine CW.ret ?_ | refine PW.then_ret ?_ | refine PW.block_ret ?_ | refine Cut.ret ?_ | refine Rnd.ret ?_ | refine PW.block_normal ?_ | refine CW.exit ?_ | refine PW.then_exit ?_ | refine PW.block_hit ?_ | refine PW.block_miss rfl ?_ | refine Cut.exit ?_ | refine Rnd.exit ?_ | refine CW.scope ?_ | refine CW.label ?_ | refine PW.scope_normal ?_ | refine PW.scope_ret ?_ | refine PW.scope_exit ?_)
  by_cases hlt : i < l.length
  · obtain ⟨vb, vo, rfl⟩ := hpv (fun h => by have := congrArg List.length h; simp at this; subst this; exact absurd hlt (Nat.not_lt_zero _))
    have hsrc := fun As Bs (hp : List.Perm As (E :: Bs)) => hv.src (i := i) (by rw [List.length_map]; exact hlt) hp
    simp only [List.getElem_map] at hsrc
    generalize l[i] = x at hsrc
    obtain ⟨m, hm⟩ := Int.eq_ofNat_of_zero_le (show 0 ≤ x % 1024 by omega)
    have hm2 : m < 1024 := by omega
    have hsz : sz m ≤ 19 := by unfold sz; omega
    have hsz2 : sz m = 1 + (m + 7) / 56 := by unfold sz; omega
    have hbl : (List.replicate m (0 : UInt8)).length = m := List.length_replicate
    have hby : ∀ z, ByR (cb z 5 (bv (List.replicate m 0))) (.slice (some ⟨z, 0, none⟩) m m) (List.replicate m 0) := fun z => ByR.cb (by rw [List.drop_zero, List.take_of_length_le (by simp [bv])]) hbl (Nat.le_refl _)
    have hE2 := endR_snoc rs (i + 1) (List.replicate m 0)
    have hn2 : (rs ++ [(i + 1, List.replicate m (0 : UInt8))]).length = rs.length + 1 := by simp
    obtain ⟨st', l1, l2, l3, l4, l5, hap⟩ := Append_one i st rs (List.replicate m 0) (by rw [hbl]; omega) hL (by omega) (by omega) (by omega) (by rw [hbl, hd]; omega) ha
    rw [hbl] at l4 hE2
    have hap' := fun z => hap w p _ _ (hby z)
    clear hap
    generalize rs ++ [(i + 1, List.replicate m 0)] = rs' at *
    have hen := WEnd_spec w p (endR rs') rs'.length (i + 1)
    have hwa := Waits_spec p st'
    rw [l1.wait] at hwa
    refine CW.region ?_
    refine L1 (ps_t (ps_lss rfl rfl) (by omega)).os ?_
    refine LW.nil ?_
    repeat (first | refine CW.seq ?_ | refine PW.then_ ?_ | refine PW.then_to rfl ?_ | refine CW.block ?_ | refine CW.skip ?_ | refine CW.ret ?_ | refine PW.then_ret ?_ | refine PW.block_ret ?_ | refine Cut.ret ?_ | refine Rnd.ret ?_ | refine PW.block_normal ?_ | refine CW.exit ?_ | refine PW.then_exit ?_ | refine PW.block_hit ?_ | refine PW.block_miss rfl ?_ | refine Cut.exit ?_ | refine Rnd.exit ?_ | refine CW.scope ?_ | refine CW.label ?_ | refine PW.scope_normal ?_ | refine PW.scope_ret ?_ | refine PW.scope_exit ?_)
    refine CW.cond_true rfl ?_
    repeat (first | refine CW.seq ?_ | refine PW.then_ ?_ | refine PW.then_to rfl ?_ | refine CW.block ?_ | refine CW.skip ?_ | refine CW.ret ?_ | refine PW.then_ret ?_ | refine PW.block_ret ?_ | refine Cut.ret ?_ | refine Rnd.ret ?_ | refine PW.block_normal ?_ | refine CW.exit ?_ | refine PW.then_exit ?_ | refine PW.block_hit ?_ | refine PW.block_miss rfl ?_ | refine Cut.exit ?_ | refine Rnd.exit ?_ | refine CW.scope ?_ | refine CW.label ?_ | refine PW.scope_normal ?_ | refine PW.scope_ret ?_ | refine PW.scope_exit ?_)
    refine CW.region ?_
    refine L1 (ps_ia_slice T.un63 T.sz3 rfl rfl (by omega) (by omega)).os ?_
    refine L1 (os_loadS1 (v := .int .i64 x) (hsrc _ _ (by repeat (first | exact pk_head _ _ | apply pk_tail))) T.ag3 rfl) ?_
    refine L1 (ps_assign rfl).os ?_
    refine LW.nil ?_
    repeat (first | refine CW.seq ?_ | refine PW.then_ ?_ | refine PW.then_to rfl ?_ | refine CW.block ?_ | refine CW.skip ?_ | refine CW.ret ?_ | refine PW.then_ret ?_ | refine PW.block_ret ?_ | refine Cut.ret ?_ | refine Rnd.ret ?_ | refine PW.block_normal ?_ | refine CW.exit ?_ | refine PW.then_exit ?_ | refine PW.block_hit ?_ | refine PW.block_miss rfl ?_ | refine Cut.exit ?_ | refine Rnd.exit ?_ | refine CW.scope ?_ | refine CW.label ?_ | refine PW.scope_normal ?_ | refine PW.scope_ret ?_ | refine PW.scope_exit ?_)
    refine CW.region ?_
    refine L1 (ps_move rfl).os ?_
    refine L1 (ps_to (u := .int .i64 (m : Nat)) (by rw [← hm]; rfl) (ps_mask_i64 (m := 10) rfl rfl rfl (by decide))).os ?_
    refine L1 (ps_assign rfl).os ?_
    refine LW.nil ?_
    repeat (first | refine CW.seq ?_ | refine PW.then_ ?_ | refine PW.then_to rfl ?_ | refine CW.block ?_ | refine CW.skip ?_ | refine CW.ret ?_ | refine PW.then_ret ?_ | refine PW.block_ret ?_ | refine Cut.ret ?_ | refine Rnd.ret ?_ | refine PW.block_normal ?_ | refine CW.exit ?_ | refine PW.then_exit ?_ | refine PW.block_hit ?_ | refine PW.block_miss rfl ?_ | refine Cut.exit ?_ | refine Rnd.exit ?_ | refine CW.scope ?_ | refine CW.label ?_ | refine PW.scope_normal ?_ | refine PW.scope_ret ?_ | refine PW.scope_exit ?_)
    refine CW.region ?_
    refine L1 (ps_move rfl).os ?_
    refine L1 (ps_move rfl).os ?_
    refine LE (os_zeros m T.un27 T.ti5 rfl rfl (by omega)) ?_
    rintro _ _ ⟨b32, rfl, rfl⟩
    refine L1 (os_callI (hap' b32) Try.func30 (by decide +kernel) rfl rfl (pkc (by repeat (first | exact pk_head _ _ | apply pk_tail)) (pkc (by repeat (first | exact pk_head _ _ | apply pk_tail)) (pkc (by repeat (first | exact pk_head _ _ | apply pk_tail)) (pkn _))))) ?_
    refine L1 (ps_f (ps_neq rfl rfl) (by decide)).os ?_
    refine LW.nil ?_
    repeat (first | refine CW.seq ?_ | refine PW.then_ ?_ | refine PW.then_to rfl ?_ | refine CW.block ?_ | refine CW.skip ?_ | refine CW.ret ?_ | refine PW.then_ret ?_ | refine PW.block_ret ?_ | refine Cut.ret ?_ | refine Rnd.ret ?_ | refine PW.block_normal ?_ | refine CW.exit ?_ | refine PW.then_exit ?_ | refine PW.block_hit ?_ | refine PW.block_miss rfl ?_ | refine Cut.exit ?_ | refine Rnd.exit ?_ | refine CW.scope ?_ | refine CW.label ?_ | refine PW.scope_normal ?_ | refine PW.scope_ret ?_ | refine PW.scope_exit ?_)
    refine CW.cond_false rfl ?_
    repeat (first | refine CW.seq ?_ | refine PW.then_ ?_ | refine PW.then_to rfl ?_ | refine CW.block ?_ | refine CW.skip ?_ | refine CW.ret ?_ | refine PW.then_ret ?_ | refine PW.block_ret ?_ | refine Cut.ret ?_ | refine Rnd.ret ?_ | refine PW.block_normal ?_ | refine CW.exit ?_ | refine PW.then_exit ?_ | refine PW.block_hit ?_ | refine PW.block_miss rfl ?_ | refine Cut.exit ?_ | refine Rnd.exit ?_ | refine CW.scope ?_ | refine CW.label ?_ | refine PW.scope_normal ?_ | refine PW.scope_ret ?_ | refine PW.scope_exit ?_)
    refine CW.region ?_
    refine L1 (ps_move rfl).os ?_
    refine L1 (ps_move rfl).os ?_
    refine L1 (ps_add_i64 rfl rfl (by omega) (by omega)).os ?_
    refine L1 (ps_to (u := .int .i64 (((m + 7) / 56 : Nat) : Int)) (by rfl) (ps_quo_i64 rfl rfl (by omega) (by omega))).os ?_
    refine L1 (ps_to (u := .int .i64 ((sz m : Nat) : Int)) (by rw [hsz2]; rfl) (ps_add_i64 rfl rfl (by omega) (by omega))).os ?_
    refine L1 (ps_to (u := .int .i64 (endR rs' : Nat)) (by rw [hE2]; rfl) (ps_add_i64 rfl rfl (by omega) (by omega))).os ?_
    refine L1 (ps_assign rfl).os ?_
    refine LW.nil ?_
    repeat (first | refine CW.seq ?_ | refine PW.then_ ?_ | refine PW.then_to rfl ?_ | refine CW.block ?_ | refine CW.skip ?_ | refine CW.ret ?_ | refine PW.then_ret ?_ | refine PW.block_ret ?_ | refine Cut.ret ?_ | refine Rnd.ret ?_ | refine PW.block_normal ?_ | refine CW.exit ?_ | refine PW.then_exit ?_ | refine PW.block_hit ?_ | refine PW.block_miss rfl ?_ | refine Cut.exit ?_ | refine Rnd.exit ?_ | refine CW.scope ?_ | refine CW.label ?_ | refine PW.scope_normal ?_ | refine PW.scope_ret ?_ | refine PW.scope_exit ?_)
    refine CW.region ?_
    refine L1 (ps_move rfl).os ?_
    refine L1 (os_call1 hen Try.func32 (by decide +kernel) rfl rfl (by repeat (first | exact pk_head _ _ | apply pk_tail))) ?_
    refine L1 (ps_move rfl).os ?_
    refine L1 (ps_f (ps_neq rfl rfl) (fun h => h rfl)).os ?_
    refine L1 (ps_move rfl).os ?_
    refine LG1 ?_ (ps_move rfl).os ?_
    · exact rfl
    refine LG1 ?_ (os_call1 hwa Try.func21 (by decide +kernel) rfl rfl (by repeat (first | exact pk_head _ _ | apply pk_tail))) ?_
    · exact rfl
    refine LG1 ?_ (ps_f (ps_neq rfl rfl) (by decide)).os ?_
    · exact rfl
    refine L1 (ps_pick_f rfl rfl).os ?_
    refine LW.nil ?_
    repeat (first | refine CW.seq ?_ | refine PW.then_ ?_ | refine PW.then_to rfl ?_ | refine CW.block ?_ | refine CW.skip ?_ | refine CW.ret ?_ | refine PW.then_ret ?_ | refine PW.block_ret ?_ | refine Cut.ret ?_ | refine Rnd.ret ?_ | refine PW.block_normal ?_ | refine CW.exit ?_ | refine PW.then_exit ?_ | refine PW.block_hit ?_ | refine PW.block_miss rfl ?_ | refine Cut.exit ?_ | refine Rnd.exit ?_ | refine CW.scope ?_ | refine CW.label ?_ | refine PW.scope_normal ?_ | refine PW.scope_ret ?_ | refine PW.scope_exit ?_)
    refine CW.cond_false rfl ?_
    repeat (first | refine CW.seq ?_ | refine PW.then_ ?_ | refine PW.then_to rfl ?_ | refine CW.block ?_ | refine CW.skip ?_ | refine CW.ret ?_ | refine PW.then_ret ?_ | refine PW.block_ret ?_ | refine Cut.ret ?_ | refine Rnd.ret ?_ | refine PW.block_normal ?_ | refine CW.exit ?_ | refine PW.then_exit ?_ | refine PW.block_hit ?_ | refine PW.block_miss rfl ?_ | refine Cut.exit ?_ | refine Rnd.exit ?_ | refine CW.scope ?_ | refine CW.label ?_ | refine PW.scope_normal ?_ | refine PW.scope_ret ?_ | refine PW.scope_exit ?_)
    refine CW.region ?_
    refine L1 (ps_to (u := .int .i64 ((i + 1 : Nat) : Int)) (by rfl) (ps_add_i64 rfl rfl (by omega) (by omega))).os ?_
    refine L1 (ps_move rfl).os ?_
    refine LW.nil ?_
    exact Meet.round (l.length - (i + 1)) (i + 1, rs', st') (by omega) ⟨hlt, l1, l2, by rw [l3]; exact hd, by dsimp only; omega, by dsimp only; omega, by rw [l4]; dsimp only; omega, rfl⟩ (by repeat (first | (with_reducible exact Ag.refl _ _) | (with_reducible assumption) | (with_reducible apply Ag.pu0) | ((with_reducible refine Ag.pu _ ?_ ?_); · exact rfl) | ((with_reducible refine Ag.mix ?_ ?_); · exact rfl) | ((with_reducible refine Ag.pus ?_ ?_); · exact rfl))) ⟨rfl, rfl, rfl, rfl, rfl, rfl, trivial⟩ (by repeat (first | exact Ent.refl _ | (apply Ent.cons; · repeat (first | exact pk_head _ _ | apply pk_tail)) | apply Ent.skip))
  have hil : i = l.length := by omega
  subst hil
  have hwr := Writes_spec p st
  rw [hc] at hwr
  refine CW.region ?_
  refine L1 (ps_f (ps_lss rfl rfl) (by omega)).os ?_
  refine LW.nil ?_
  repeat (first | refine CW.seq ?_ | refine PW.then_ ?_ | refine PW.then_to rfl ?_ | refine CW.block ?_ | refine CW.skip ?_ | refine CW.ret ?_ | refine PW.then_ret ?_ | refine PW.block_ret ?_ | refine Cut.ret ?_ | refine Rnd.ret ?_ | refine PW.block_normal ?_ | refine CW.exit ?_ | refine PW.then_exit ?_ | refine PW.block_hit ?_ | refine PW.block_miss rfl ?_ | refine Cut.exit ?_ | refine Rnd.exit ?_ | refine CW.scope ?_ | refine CW.label ?_ | refine PW.scope_normal ?_ | refine PW.scope_ret ?_ | refine PW.scope_exit ?_)
  refine CW.cond_false rfl ?_
  repeat (first | refine CW.seq ?_ | refine PW.then_ ?_ | refine PW.then_to rfl ?_ | refine CW.block ?_ | refine CW.skip ?_ | refine CW.ret ?_ | refine PW.then_ret ?_ | refine PW.block_ret ?_ | refine Cut.ret ?_ | refine Rnd.ret ?_ | refine PW.block_normal ?_ | refine CW.exit ?_ | refine PW.then_exit ?_ | refine PW.block_hit ?_ | refine PW.block_miss rfl ?_ | refine Cut.exit ?_ | refine Rnd.exit ?_ | refine CW.scope ?_ | refine CW.label ?_ | refine PW.scope_normal ?_ | refine PW.scope_ret ?_ | refine PW.scope_exit ?_)
  refine CW.region ?_
  refine L1 (ps_move rfl).os ?_
  refine L1 (os_call1 hwr Try.func22 (by decide +kernel) rfl rfl (by repeat (first | exact pk_head _ _ | apply pk_tail))) ?_
  refine L1 (ps_move rfl).os ?_
  refine L1 (ps_t (ps_eql rfl rfl) (rfl)).os ?_
  refine L1 (ps_assign rfl).os ?_
  refine LW.nil ?_
  repeat (first | refine CW.seq ?_ | refine PW.then_ ?_ | refine PW.then_to rfl ?_ | refine CW.block ?_ | refine CW.skip ?_ | refine CW.ret ?_ | refine PW.then_ret ?_ | refine PW.block_ret ?_ | refine Cut.ret ?_ | refine Rnd.ret ?_ | refine PW.block_normal ?_ | refine CW.exit ?_ | refine PW.then_exit ?_ | refine PW.block_hit ?_ | refine PW.block_miss rfl ?_ | refine Cut.exit ?_ | refine Rnd.exit ?_ | refine CW.scope ?_ | refine CW.label ?_ | refine PW.scope_normal ?_ | refine PW.scope_ret ?_ | refine PW.scope_exit ?_)
  exact Fin.ret1 (v := .bool true) rfl [E] rfl ⟨rfl, rfl⟩ (by repeat (first | exact Ent.refl _ | (apply Ent.cons; · repeat (first | exact pk_head _ _ | apply pk_tail)) | apply Ent.skip))

namespace walSizes
open Go.ChangeShapes Go.WideShapes Go.ChangeAt Go.RowKit
theorem own : ownKnob Try.prog.godebug = none := by kernel_rfl
theorem laidOut : laidOutB Try.prog = true := by kernel_rfl
set_option maxRecDepth 100000 in
theorem lifted (os : Os) (started : os.Started) (H : Type) (enc : TypeId × Value → H) :
    ReturnsInHanded {} Try.checked os 14 .any (Rows.walSizesSpec.pre6 enc Try.prog Try.f14 Rows.walSizesRow.domain false) (Rows.walSizesSpec.post enc Try.prog Try.f14 false true false false) := by
  refine returnsInHanded_of_change (C := Try.checked) own started (by kernel_rfl) Try.func14
    (ChangeSpec.witness6 (enc := enc) (C := Try.checked) false ⟨#[], #[(Value.slice none 0 0)], []⟩ 8 (by kernel_rfl) (by kernel_rfl) (by kernel_rfl) (by kernel_rfl)) ?_
  intro W base args ds gs before hval0 hW hcnd _
  have hval : ∀ (j : Nat) t v, Try.f14.params[j]? = some t → args[j]? = some v → Value.okWide Try.prog W .any base t v := hval0
  have hW' := hW
  obtain ⟨p, q, hA0, hV, rfl, hfz, hnd⟩ := hW
  have hA : DataW.TrodAll enc Try.prog W 0 (fun _ => true) true Try.f14.params.toList args.toList ds p := hA0
  rw [Try.params14] at hA hval
  obtain ⟨v0, vs0, d0, ds0, p0, q0, hargs, rfl, rfl, h0, r0⟩ := trodAll_cons hA
  obtain ⟨rfl, rfl, rfl⟩ := trodAll_nil r0
  obtain rfl : args = #[v0] := by cases args; simp_all
  obtain ⟨rfl, rfl⟩ := trodVars_none hV
  obtain ⟨_, _, _, rfl⟩ := okWide_slice T.un63 (hval 0 63 v0 rfl rfl)
  obtain ⟨fu0, hf0⟩ := h0
  obtain ⟨a0, b0⟩ := open_Slint hf0
  simp only [List.append_nil] at hW'
  refine (LawOf.calls (WalSizes_law W _ a0 b0)).mono fun e W' ⟨he, hb⟩ => ?_
  subst he
  exact ⟨_, rfl, law_post laidOut rfl (tb := 4) (by kernel_rfl) T.un4 (by intro t ht; rw [Try.params14] at ht; simp only [List.mem_cons, List.not_mem_nil, or_false] at ht; rcases ht with rfl <;> exact ⟨by kernel_rfl, by decide +kernel⟩) rfl hW' hb⟩
theorem holds : Rows.WalSizesSaid :=
  OpenClaim.holds_of_wide 14 Try.f14 rfl rfl rfl rfl rfl rfl rfl ⟨rfl, rfl, rfl, rfl, rfl⟩ rfl rfl rfl rfl rfl (by kernel_rfl) Try.func14 (by kernel_rfl)
    (of_decide_eq_true (by kernel_rfl)) (by unfold Func.isWrapper; rw [if_neg (of_decide_eq_false (by kernel_rfl))]; exact ⟨rfl, rfl⟩)
    (fun os started H enc _ => lifted os started H enc)
end walSizes
end Go.Proofs.Ytejbbpofamfhiaa
