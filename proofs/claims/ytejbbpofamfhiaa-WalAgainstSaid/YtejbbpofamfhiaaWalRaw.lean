/- Raw of a writer: its contract (of WireH, for this seat). -/
import Derived.Test.YtejbbpofamfhiaaWalLaw2
namespace Go.Proofs.Ytejbbpofamfhiaa
open Go Go.SL
set_option linter.unusedVariables false
set_option linter.unusedSimpArgs false

theorem take_flat {α : Type} (g : α → List UInt8) (l : List α) (i : Nat) (h : i < l.length) : ((l.take (i + 1)).map g).flatten = ((l.take i).map g).flatten ++ g l[i] := by
  rw [List.take_succ_eq_append_getElem h, List.map_append, List.flatten_append]; simp
theorem hs_len (hs : List (List UInt8)) (c : Nat) (h : ∀ x ∈ hs, x.length ≤ c) : hs.flatten.length ≤ hs.length * c := by
  induction hs with
  | nil => simp
  | cons x xs ih =>
    rw [List.flatten_cons, List.length_append, List.length_cons, Nat.succ_mul]
    have h1 := h x (by simp)
    have h2 := ih fun y hy => h y (by simp [hy])
    omega
theorem WRaw_spec (p : Nat) (bs : List UInt8) (A B : Asn) (v : Value) (l : List (Value × List UInt8)) (hr : RowsR A v 1 (l.map fun x => [x.1])) (hB : ∀ x ∈ l, ByR B x.1 x.2) (hm : ∀ x ∈ l, x.2.length ≤ 10000) (hb : bs.length ≤ 1000000) (hx : l.length ≤ 1000) :
    FSpec Try.prog 35 [ptr p, v] [WrAt p bs, A, B] (fun r As => r = ptr p ∧ As = [WrAt p (bs ++ (l.map (·.2)).flatten), A, B]) := by
  obtain ⟨pv, cap, rfl, hcap1, hcap2, hpv⟩ := hr.len
  rw [show (List.map (fun x : Value × List UInt8 => [x.1]) l).length = l.length from List.length_map ..] at *
  refine FSpec.intro Try.func35 rfl 24 Try.ntmps35 (Nat.le_of_ble_eq_true rfl) fun w0 F => ?_
  show CW _ _ _ _ _ _ (_ :: _ :: _ :: F)
  repeat (first | refine CW.seq ?_ | refine PW.then_ ?_ | refine PW.then_to rfl ?_ | refine CW.block ?_ | refine CW.skip ?_ | refine CW.ret ?_ | refine PW.then_ret ?_ | refine PW.block_ret ?_ | refine Cut.ret ?_ | refine Rnd.ret ?_ | refine PW.block_normal ?_ | refine CW.exit ?_ | refine PW.then_exit ?_ | refine PW.block_hit ?_ | refine PW.block_miss rfl ?_ | refine Cut.exit ?_ | refine Rnd.exit ?_ | refine CW.scope ?_ | refine CW.label ?_ | refine PW.scope_normal ?_ | refine PW.scope_ret ?_ | refine PW.scope_exit ?_)
  refine CW.region ?_
  refine L1 (ps_assign rfl).os ?_
  refine LW.nil ?_
  repeat (first | refine CW.seq ?_ | refine PW.then_ ?_ | refine PW.then_to rfl ?_ | refine CW.block ?_ | refine CW.skip ?_ | refine CW.ret ?_ | refine PW.then_ret ?_ | refine PW.block_ret ?_ | refine Cut.ret ?_ | refine Rnd.ret ?_ | refine PW.block_normal ?_ | refine CW.exit ?_ | refine PW.then_exit ?_ | refine PW.block_hit ?_ | refine PW.block_miss rfl ?_ | refine Cut.exit ?_ | refine Rnd.exit ?_ | refine CW.scope ?_ | refine CW.label ?_ | refine PW.scope_normal ?_ | refine PW.scope_ret ?_ | refine PW.scope_exit ?_)
  refine CW.region ?_
  refine L1 (ps_move rfl).os ?_
  refine L1 (ps_len_sl T.un48 rfl).os ?_
  refine L1 (ps_move rfl).os ?_
  refine LW.nil ?_
  repeat (first | refine CW.seq ?_ | refine PW.then_ ?_ | refine PW.then_to rfl ?_ | refine CW.block ?_ | refine CW.skip ?_ | refine CW.ret ?_ | refine PW.then_ret ?_ | refine PW.block_ret ?_ | refine Cut.ret ?_ | refine Rnd.ret ?_ | refine PW.block_normal ?_ | refine CW.exit ?_ | refine PW.then_exit ?_ | refine PW.block_hit ?_ | refine PW.block_miss rfl ?_ | refine Cut.exit ?_ | refine Rnd.exit ?_ | refine CW.scope ?_ | refine CW.label ?_ | refine PW.scope_normal ?_ | refine PW.scope_ret ?_ | refine PW.scope_exit ?_)
  refine CW.loopM (α := Nat) [6, 9, 10, 11, 12, 13, 14, 15, 16, 17, 18, 19, 20, 21, 22] (fun k i => i ≤ l.length ∧ k = l.length - i) (fun i => [(9, .int .i64 i)])
    (fun i => WrAt p (bs ++ ((l.take i).map (·.2)).flatten) :: A :: B :: F) l.length 0 ⟨Nat.zero_le _, rfl⟩ ⟨rfl, trivial⟩ (by simp only [List.take_zero, List.map_nil, List.flatten_nil, List.append_nil]; exact (by repeat (first | exact Ent.refl _ | (apply Ent.cons; · repeat (first | exact pk_head _ _ | apply pk_tail)) | apply Ent.skip))) ?_
  rintro k i g ⟨hi, hk⟩
  repeat (first | refine CW.seq ?_ | refine PW.then_ ?_ | refine PW.then_to rfl ?_ | refine CW.block ?_ | refine CW.skip ?_ | refine CW.ret ?_ | refine PW.then_ret ?_ | refine PW.block_ret ?_ | refine Cut.ret ?_ | refine Rnd.ret ?_ | refine PW.block_normal ?_ | refine CW.exit ?_ | refine PW.then_exit ?_ | refine PW.block_hit ?_ | refine PW.block_miss rfl ?_ | refine Cut.exit ?_ | refine Rnd.exit ?_ | refine CW.scope ?_ | refine CW.label ?_ | refine PW.scope_normal ?_ | refine PW.scope_ret ?_ | refine PW.scope_exit ?_)
  by_cases hlt : i < l.length
  · have hsx := take_flat (·.2) l i hlt
    have hxi := hm l[i] (List.getElem_mem hlt)
    have hbi := hB l[i] (List.getElem_mem hlt)
    obtain ⟨vb, vo, rfl⟩ := hpv (fun h => by have := congrArg List.length h; simp at this; subst this; exact absurd hlt (Nat.not_lt_zero _))
    have hsrc := fun As Bs (hp : List.Perm As (A :: Bs)) => hr.src (i := i) (by simpa using hlt) hp
    simp only [List.getElem_map] at hsrc
    have hle : ((l.take i).map (·.2)).flatten.length ≤ 10000000 := by
      have := hs_len ((l.take i).map (·.2)) 10000 (fun y hy => by obtain ⟨z, hz, rfl⟩ := List.mem_map.1 hy; exact hm z (List.mem_of_mem_take hz))
      rw [List.length_map, List.length_take] at this; omega
    obtain ⟨⟨vv, c⟩, hlc⟩ : ∃ x, l[i] = x := ⟨_, rfl⟩
    rw [hlc] at hsx hxi hbi hsrc
    dsimp only at hsx hxi hbi hsrc
    have hbi0 := hbi
    obtain ⟨cq, cc, rfl, hcc, -⟩ := hbi0
    generalize ((l.take i).map (·.2)).flatten = pre at hsx hle
    have hpl : (bs ++ pre).length ≤ 11000000 := by rw [List.length_append]; omega
    generalize hbs : bs ++ pre = all at hpl
    refine CW.region ?_
    refine L1 (ps_t (ps_lss rfl rfl) (by omega)).os ?_
    refine LW.nil ?_
    repeat (first | refine CW.seq ?_ | refine PW.then_ ?_ | refine PW.then_to rfl ?_ | refine CW.block ?_ | refine CW.skip ?_ | refine CW.ret ?_ | refine PW.then_ret ?_ | refine PW.block_ret ?_ | refine Cut.ret ?_ | refine Rnd.ret ?_ | refine PW.block_normal ?_ | refine CW.exit ?_ | refine PW.then_exit ?_ | refine PW.block_hit ?_ | refine PW.block_miss rfl ?_ | refine Cut.exit ?_ | refine Rnd.exit ?_ | refine CW.scope ?_ | refine CW.label ?_ | refine PW.scope_normal ?_ | refine PW.scope_ret ?_ | refine PW.scope_exit ?_)
    refine CW.cond_true rfl ?_
    repeat (first | refine CW.seq ?_ | refine PW.then_ ?_ | refine PW.then_to rfl ?_ | refine CW.block ?_ | refine CW.skip ?_ | refine CW.ret ?_ | refine PW.then_ret ?_ | refine PW.block_ret ?_ | refine Cut.ret ?_ | refine Rnd.ret ?_ | refine PW.block_normal ?_ | refine CW.exit ?_ | refine PW.then_exit ?_ | refine PW.block_hit ?_ | refine PW.block_miss rfl ?_ | refine Cut.exit ?_ | refine Rnd.exit ?_ | refine CW.scope ?_ | refine CW.label ?_ | refine PW.scope_normal ?_ | refine PW.scope_ret ?_ | refine PW.scope_exit ?_)
    refine CW.region ?_
    refine L1 (ps_ia_slice T.un48 T.sz27 rfl rfl (by omega) (by omega)).os ?_
    refine L1 (os_loadS1 (v := .slice cq c.length cc) (hsrc _ _ (by repeat (first | exact pk_head _ _ | apply pk_tail))) T.ag27 rfl) ?_
    refine L1 (ps_assign rfl).os ?_
    refine LW.nil ?_
    repeat (first | refine CW.seq ?_ | refine PW.then_ ?_ | refine PW.then_to rfl ?_ | refine CW.block ?_ | refine CW.skip ?_ | refine CW.ret ?_ | refine PW.then_ret ?_ | refine PW.block_ret ?_ | refine Cut.ret ?_ | refine Rnd.ret ?_ | refine PW.block_normal ?_ | refine CW.exit ?_ | refine PW.then_exit ?_ | refine PW.block_hit ?_ | refine PW.block_miss rfl ?_ | refine Cut.exit ?_ | refine Rnd.exit ?_ | refine CW.scope ?_ | refine CW.label ?_ | refine PW.scope_normal ?_ | refine PW.scope_ret ?_ | refine PW.scope_exit ?_)
    refine J.open_ (A := WrAt p all) (by repeat (first | exact pk_head _ _ | apply pk_tail)) WrAt.op ?_
    rintro _ ⟨q, d, rfl⟩
    show CW _ _ _ _ _ _ (_ :: _ :: A :: B :: F)
    refine CW.region ?_
    refine L1 (ps_move rfl).os ?_
    refine L1 (ps_move rfl).os ?_
    refine L1 (ps_nil rfl).os ?_
    refine L1 (ps_fa T.fa67_0 (by decide) rfl).os ?_
    refine L1 (os_load1 (by repeat (first | exact pk_head _ _ | apply pk_tail)) T.ag27 rfl (by rfl)) ?_
    refine L1 (ps_move rfl).os ?_
    refine LE (os_append (xs := bv all) (news := bv c) (by repeat (first | exact pk_head _ _ | apply pk_tail)) T.un27 T.ti5 (by rfl) (by decide) rfl rfl (by simp) (hbi.src (by repeat (first | exact pk_head _ _ | apply pk_tail))) (bv_one _) (by unfold maxLen; omega) (by omega)) ?_
    rintro _ _ ⟨q', d', rfl, rfl, hq'⟩
    refine L1 (ps_nil rfl).os ?_
    refine L1 (ps_fa T.fa67_0 (by decide) rfl).os ?_
    refine L1 (os_store1 (by repeat (first | exact pk_head _ _ | apply pk_tail)) T.sz27 rfl rfl (by rfl) (Nat.le_of_ble_eq_true rfl)) ?_
    refine LW.nil ?_
    repeat (first | refine CW.seq ?_ | refine PW.then_ ?_ | refine PW.then_to rfl ?_ | refine CW.block ?_ | refine CW.skip ?_ | refine CW.ret ?_ | refine PW.then_ret ?_ | refine PW.block_ret ?_ | refine Cut.ret ?_ | refine Rnd.ret ?_ | refine PW.block_normal ?_ | refine CW.exit ?_ | refine PW.then_exit ?_ | refine PW.block_hit ?_ | refine PW.block_miss rfl ?_ | refine Cut.exit ?_ | refine Rnd.exit ?_ | refine CW.scope ?_ | refine CW.label ?_ | refine PW.scope_normal ?_ | refine PW.scope_ret ?_ | refine PW.scope_exit ?_)
    refine CW.region ?_
    refine L1 (ps_add_i64 rfl rfl (by omega) (by omega)).os ?_
    refine L1 (ps_move rfl).os ?_
    refine LW.nil ?_
    exact Meet.round (l.length - (i + 1)) (i + 1) (by omega) ⟨hlt, rfl⟩ (by repeat (first | (with_reducible exact Ag.refl _ _) | (with_reducible assumption) | (with_reducible apply Ag.pu0) | ((with_reducible refine Ag.pu _ ?_ ?_); · exact rfl) | ((with_reducible refine Ag.mix ?_ ?_); · exact rfl) | ((with_reducible refine Ag.pus ?_ ?_); · exact rfl))) ⟨rfl, trivial⟩ (by rw [hsx, ← List.append_assoc, hbs]; exact Ent.trans (Bs := cb p 67 [.slice q' (all.length + c.length) d'] :: slOwn 5 1 (.slice q' (all.length + c.length) d') (all.length + c.length) (bv all ++ bv c) :: A :: B :: F) (by repeat (first | exact Ent.refl _ | (apply Ent.cons; · repeat (first | exact pk_head _ _ | apply pk_tail)) | apply Ent.skip)) (WrAt.foldL q' d' _ (by simp) _ (bv_append _ _).symm))
  · have hil : i = l.length := by omega
    subst hil
    rw [List.take_length]
    refine CW.region ?_
    refine L1 (ps_f (ps_lss rfl rfl) (by omega)).os ?_
    refine LW.nil ?_
    repeat (first | refine CW.seq ?_ | refine PW.then_ ?_ | refine PW.then_to rfl ?_ | refine CW.block ?_ | refine CW.skip ?_ | refine CW.ret ?_ | refine PW.then_ret ?_ | refine PW.block_ret ?_ | refine Cut.ret ?_ | refine Rnd.ret ?_ | refine PW.block_normal ?_ | refine CW.exit ?_ | refine PW.then_exit ?_ | refine PW.block_hit ?_ | refine PW.block_miss rfl ?_ | refine Cut.exit ?_ | refine Rnd.exit ?_ | refine CW.scope ?_ | refine CW.label ?_ | refine PW.scope_normal ?_ | refine PW.scope_ret ?_ | refine PW.scope_exit ?_)
    refine CW.cond_false rfl ?_
    repeat (first | refine CW.seq ?_ | refine PW.then_ ?_ | refine PW.then_to rfl ?_ | refine CW.block ?_ | refine CW.skip ?_ | refine CW.ret ?_ | refine PW.then_ret ?_ | refine PW.block_ret ?_ | refine Cut.ret ?_ | refine Rnd.ret ?_ | refine PW.block_normal ?_ | refine CW.exit ?_ | refine PW.then_exit ?_ | refine PW.block_hit ?_ | refine PW.block_miss rfl ?_ | refine Cut.exit ?_ | refine Rnd.exit ?_ | refine CW.scope ?_ | refine CW.label ?_ | refine PW.scope_normal ?_ | refine PW.scope_ret ?_ | refine PW.scope_exit ?_)
    refine CW.region ?_
    refine L1 (ps_move rfl).os ?_
    refine L1 (ps_assign rfl).os ?_
    refine LW.nil ?_
    repeat (first | refine CW.seq ?_ | refine PW.then_ ?_ | refine PW.then_to rfl ?_ | refine CW.block ?_ | refine CW.skip ?_ | refine CW.ret ?_ | refine PW.then_ret ?_ | refine PW.block_ret ?_ | refine Cut.ret ?_ | refine Rnd.ret ?_ | refine PW.block_normal ?_ | refine CW.exit ?_ | refine PW.then_exit ?_ | refine PW.block_hit ?_ | refine PW.block_miss rfl ?_ | refine Cut.exit ?_ | refine Rnd.exit ?_ | refine CW.scope ?_ | refine CW.label ?_ | refine PW.scope_normal ?_ | refine PW.scope_ret ?_ | refine PW.scope_exit ?_)
    exact Fin.ret1 (v := ptr p) rfl [_, _, _] rfl ⟨rfl, rfl⟩ (Ent.refl _)
end Go.Proofs.Ytejbbpofamfhiaa
