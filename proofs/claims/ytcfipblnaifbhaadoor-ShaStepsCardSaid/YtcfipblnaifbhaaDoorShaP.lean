/- The hash of parts; the law's own example. -/
import Derived.Test.YtcfipblnaifbhaaDoorShaO
import Derived.Test.YtcfipblnaifbhaaDoorEq
namespace Go.Proofs.YtcfipblnaifbhaaDoor
set_option linter.unusedVariables false
set_option linter.unusedSimpArgs false
open Go Go.SL

theorem RowsR.all {Bs : List Asn} {B : Asn} (hm : B ∈ Bs) {v : Value} {s : Nat} {rows : List (List Value)} (h : RowsR B v s rows) : RowsR (AllP Bs) v s rows := by
  obtain ⟨p, cap, e, h1, h2, h3, h4, h5⟩ := h
  exact ⟨p, cap, e, h1, h2, h3, h4, fun i hi b o hp As Cs hperm => Src.all hm (fun As' Cs' hp' => h5 i hi b o hp As' Cs' hp') hperm⟩
theorem take_flat {α : Type} (g : α → List UInt8) (l : List α) (i : Nat) (h : i < l.length) : ((l.take (i + 1)).map g).flatten = ((l.take i).map g).flatten ++ g l[i] := by
  rw [List.take_succ_eq_append_getElem h, List.map_append, List.flatten_append]; simp
theorem flat_take_le {α : Type} (g : α → List UInt8) (l : List α) (i : Nat) : (((l.take i).map g).flatten).length ≤ ((l.map g).flatten).length := by
  conv => rhs; rw [← List.take_append_drop i l, List.map_append, List.flatten_append, List.length_append]
  omega
theorem Of1_spec (E : Asn) (hE : Env E) (v : Value) (l : List (Value × List UInt8)) (hr : RowsR E v 1 (l.map fun x => [x.1])) (hB : ∀ x ∈ l, ByR E x.1 x.2) (hlen : (l.map (·.2)).flatten.length ≤ 1000000) :
    FSpec Tryd.prog 9 [.pointer none, v] [E] (fun r As => r = .agg (bv (sumM (l.map (·.2)).flatten)).toArray ∧ As = [E]) := by
  obtain ⟨pv, cap, rfl, hcap1, hcap2, hpv⟩ := hr.len
  rw [show (List.map (fun x : Value × List UInt8 => [x.1]) l).length = l.length from List.length_map ..] at *
  have hcm := hcap2
  unfold maxLen at hcm
  refine FSpec.intro Tryd.func9 rfl 33 Tryd.ntmps9 (Nat.le_of_ble_eq_true rfl) fun w0 F => ?_
  show CW _ _ _ _ _ _ (_ :: F)
  repeat (first | refine CW.seq ?_ | refine PW.then_ ?_ | refine PW.then_to rfl ?_ | refine CW.block ?_ | refine CW.skip ?_ | refine CW.ret ?_ | refine PW.then_ret ?_ | refine PW.block_ret ?_ | refine Cut.ret ?_ | refine Rnd.ret ?_ | refine PW.block_normal ?_ | refine CW.exit ?_ | refine PW.then_exit ?_ | refine PW.block_hit ?_ | refine PW.block_miss rfl ?_ | refine Cut.exit ?_ | refine Rnd.exit ?_)
  refine CW.region ?_
  refine LE (os_alloc T.ti25) ?_
  rintro _ _ ⟨b4, rfl, rfl⟩
  refine LW.nil ?_
  repeat (first | refine CW.seq ?_ | refine PW.then_ ?_ | refine PW.then_to rfl ?_ | refine CW.block ?_ | refine CW.skip ?_ | refine CW.ret ?_ | refine PW.then_ret ?_ | refine PW.block_ret ?_ | refine Cut.ret ?_ | refine Rnd.ret ?_ | refine PW.block_normal ?_ | refine CW.exit ?_ | refine PW.then_exit ?_ | refine PW.block_hit ?_ | refine PW.block_miss rfl ?_ | refine Cut.exit ?_ | refine Rnd.exit ?_)
  refine CW.region ?_
  refine L1 (ps_assign rfl).os ?_
  refine LW.nil ?_
  repeat (first | refine CW.seq ?_ | refine PW.then_ ?_ | refine PW.then_to rfl ?_ | refine CW.block ?_ | refine CW.skip ?_ | refine CW.ret ?_ | refine PW.then_ret ?_ | refine PW.block_ret ?_ | refine Cut.ret ?_ | refine Rnd.ret ?_ | refine PW.block_normal ?_ | refine CW.exit ?_ | refine PW.then_exit ?_ | refine PW.block_hit ?_ | refine PW.block_miss rfl ?_ | refine Cut.exit ?_ | refine Rnd.exit ?_)
  refine CW.region ?_
  refine L1 (ps_move rfl).os ?_
  refine L1 (ps_len_sl T.un30 rfl).os ?_
  refine L1 (ps_move rfl).os ?_
  refine LW.nil ?_
  repeat (first | refine CW.seq ?_ | refine PW.then_ ?_ | refine PW.then_to rfl ?_ | refine CW.block ?_ | refine CW.skip ?_ | refine CW.ret ?_ | refine PW.then_ret ?_ | refine PW.block_ret ?_ | refine Cut.ret ?_ | refine Rnd.ret ?_ | refine PW.block_normal ?_ | refine CW.exit ?_ | refine PW.then_exit ?_ | refine PW.block_hit ?_ | refine PW.block_miss rfl ?_ | refine Cut.exit ?_ | refine Rnd.exit ?_)
  refine J.ent (Ent.slNil 5 1 _) ?_
  refine CW.loopM (α := Nat × Option Addr × Nat) [5, 7, 10, 11, 12, 13, 14, 15, 16, 17] (fun k a => a.1 ≤ l.length ∧ k = l.length - a.1) (fun a => [(10, .int .i64 a.1), (5, .slice a.2.1 (((l.take a.1).map (·.2)).flatten).length a.2.2)])
    (fun a => slOwn 5 1 (.slice a.2.1 (((l.take a.1).map (·.2)).flatten).length a.2.2) (((l.take a.1).map (·.2)).flatten).length (bv (((l.take a.1).map (·.2)).flatten)) :: cb b4 25 (List.replicate 32 (.int .u8 0)) :: E :: F) l.length (0, none, 0) ⟨Nat.zero_le _, rfl⟩ ⟨rfl, rfl, trivial⟩ (by repeat (first | exact Ent.refl _ | (apply Ent.cons; · repeat (first | exact pk_head _ _ | apply pk_tail)) | apply Ent.skip)) ?_
  rintro k ⟨i, q, d⟩ g ⟨hi, hk⟩
  dsimp only at hi hk ⊢
  repeat (first | refine CW.seq ?_ | refine PW.then_ ?_ | refine PW.then_to rfl ?_ | refine CW.block ?_ | refine CW.skip ?_ | refine CW.ret ?_ | refine PW.then_ret ?_ | refine PW.block_ret ?_ | refine Cut.ret ?_ | refine Rnd.ret ?_ | refine PW.block_normal ?_ | refine CW.exit ?_ | refine PW.then_exit ?_ | refine PW.block_hit ?_ | refine PW.block_miss rfl ?_ | refine Cut.exit ?_ | refine Rnd.exit ?_)
  by_cases hlt : i < l.length
  · have hsx := take_flat (·.2) l i hlt
    have hle := flat_take_le (·.2) l (i + 1)
    have hbi := hB l[i] (List.getElem_mem hlt)
    obtain ⟨vb, vo, rfl⟩ := hpv (fun h => by have := congrArg List.length h; simp at this; subst this; exact absurd hlt (Nat.not_lt_zero _))
    have hsrc := fun As Bs (hp : List.Perm As (E :: Bs)) => hr.src (i := i) (by simpa using hlt) hp
    simp only [List.getElem_map] at hsrc
    obtain ⟨⟨vv, c⟩, hlc⟩ : ∃ x, l[i] = x := ⟨_, rfl⟩
    rw [hlc] at hsx hbi hsrc
    dsimp only at hsx hbi hsrc
    have hbi0 := hbi
    obtain ⟨cq, cc, rfl, hcc, -⟩ := hbi0
    generalize ((l.take i).map (·.2)).flatten = pre at hsx ⊢
    have hpl : pre.length + c.length ≤ 1000000 := by rw [hsx, List.length_append] at hle; omega
    have hbva : bv (pre ++ c) = bv pre ++ bv c := bv_append _ _
    have hal : (pre ++ c).length = pre.length + c.length := List.length_append
    refine CW.region ?_
    refine L1 (ps_t (ps_lss rfl rfl) (by omega)).os ?_
    refine LW.nil ?_
    repeat (first | refine CW.seq ?_ | refine PW.then_ ?_ | refine PW.then_to rfl ?_ | refine CW.block ?_ | refine CW.skip ?_ | refine CW.ret ?_ | refine PW.then_ret ?_ | refine PW.block_ret ?_ | refine Cut.ret ?_ | refine Rnd.ret ?_ | refine PW.block_normal ?_ | refine CW.exit ?_ | refine PW.then_exit ?_ | refine PW.block_hit ?_ | refine PW.block_miss rfl ?_ | refine Cut.exit ?_ | refine Rnd.exit ?_)
    refine CW.cond_true rfl ?_
    repeat (first | refine CW.seq ?_ | refine PW.then_ ?_ | refine PW.then_to rfl ?_ | refine CW.block ?_ | refine CW.skip ?_ | refine CW.ret ?_ | refine PW.then_ret ?_ | refine PW.block_ret ?_ | refine Cut.ret ?_ | refine Rnd.ret ?_ | refine PW.block_normal ?_ | refine CW.exit ?_ | refine PW.then_exit ?_ | refine PW.block_hit ?_ | refine PW.block_miss rfl ?_ | refine Cut.exit ?_ | refine Rnd.exit ?_)
    refine CW.region ?_
    refine L1 (ps_ia_slice T.un30 T.sz22 rfl rfl (by omega) (by omega)).os ?_
    refine L1 (os_loadS1 (v := .slice cq c.length cc) (hsrc _ _ (by repeat (first | exact pk_head _ _ | apply pk_tail))) T.ag22 rfl) ?_
    refine L1 (ps_assign rfl).os ?_
    refine LW.nil ?_
    repeat (first | refine CW.seq ?_ | refine PW.then_ ?_ | refine PW.then_to rfl ?_ | refine CW.block ?_ | refine CW.skip ?_ | refine CW.ret ?_ | refine PW.then_ret ?_ | refine PW.block_ret ?_ | refine Cut.ret ?_ | refine Rnd.ret ?_ | refine PW.block_normal ?_ | refine CW.exit ?_ | refine PW.then_exit ?_ | refine PW.block_hit ?_ | refine PW.block_miss rfl ?_ | refine Cut.exit ?_ | refine Rnd.exit ?_)
    refine CW.region ?_
    refine L1 (ps_move rfl).os ?_
    refine L1 (ps_move rfl).os ?_
    refine LE (os_append (xs := bv pre) (news := bv c) (by repeat (first | exact pk_head _ _ | apply pk_tail)) T.un22 T.ti5 (by rfl) (by decide) rfl rfl (by simp) (hbi.src (by repeat (first | exact pk_head _ _ | apply pk_tail))) (bv_one _) (by unfold maxLen; omega) (by omega)) ?_
    rintro _ _ ⟨q', d', rfl, rfl, hq'⟩
    refine L1 (ps_assign rfl).os ?_
    refine LW.nil ?_
    repeat (first | refine CW.seq ?_ | refine PW.then_ ?_ | refine PW.then_to rfl ?_ | refine CW.block ?_ | refine CW.skip ?_ | refine CW.ret ?_ | refine PW.then_ret ?_ | refine PW.block_ret ?_ | refine Cut.ret ?_ | refine Rnd.ret ?_ | refine PW.block_normal ?_ | refine CW.exit ?_ | refine PW.then_exit ?_ | refine PW.block_hit ?_ | refine PW.block_miss rfl ?_ | refine Cut.exit ?_ | refine Rnd.exit ?_)
    refine CW.region ?_
    refine L1 (ps_add_i64 rfl rfl (by omega) (by omega)).os ?_
    refine L1 (ps_move rfl).os ?_
    refine LW.nil ?_
    exact Meet.round (l.length - (i + 1)) (i + 1, q', d') (by omega) ⟨hlt, rfl⟩ (by repeat (first | (with_reducible exact Ag.refl _ _) | (with_reducible apply Ag.pu0) | ((with_reducible refine Ag.pu _ ?_ ?_); · exact rfl) | ((with_reducible refine Ag.mix ?_ ?_); · exact rfl) | ((with_reducible refine Ag.pus ?_ ?_); · exact rfl))) (by dsimp only; rw [hsx, hal]; exact ⟨rfl, rfl, trivial⟩) (by dsimp only; rw [hsx, hbva, hal]; exact (by repeat (first | exact Ent.refl _ | (apply Ent.cons; · repeat (first | exact pk_head _ _ | apply pk_tail)) | apply Ent.skip)))
  have hil : i = l.length := by omega
  subst hil
  rw [List.take_length]
  generalize ((l.map (·.2)).flatten) = bs at hlen ⊢
  refine slOwn_info (m := bs.length) (xs := bv bs) (by repeat (first | exact pk_head _ _ | apply pk_tail)) fun o1 o2 o3 => ?_
  have hby := ByR.own (e := 5) (d := d) (q := q) (bs := bs) rfl o1 o3
  generalize slOwn 5 1 (.slice q bs.length d) bs.length (bv bs) = Y at hby ⊢
  have hsm := sum_spec Y E hE _ bs hby hlen
  have hbl : (bv (sumM bs)).length = 32 := by rw [length_bv, sumM_len]
  generalize sumM bs = o at hsm hbl ⊢
  refine CW.region ?_
  refine L1 (ps_f (ps_lss rfl rfl) (by omega)).os ?_
  refine LW.nil ?_
  repeat (first | refine CW.seq ?_ | refine PW.then_ ?_ | refine PW.then_to rfl ?_ | refine CW.block ?_ | refine CW.skip ?_ | refine CW.ret ?_ | refine PW.then_ret ?_ | refine PW.block_ret ?_ | refine Cut.ret ?_ | refine Rnd.ret ?_ | refine PW.block_normal ?_ | refine CW.exit ?_ | refine PW.then_exit ?_ | refine PW.block_hit ?_ | refine PW.block_miss rfl ?_ | refine Cut.exit ?_ | refine Rnd.exit ?_)
  refine CW.cond_false rfl ?_
  repeat (first | refine CW.seq ?_ | refine PW.then_ ?_ | refine PW.then_to rfl ?_ | refine CW.block ?_ | refine CW.skip ?_ | refine CW.ret ?_ | refine PW.then_ret ?_ | refine PW.block_ret ?_ | refine Cut.ret ?_ | refine Rnd.ret ?_ | refine PW.block_normal ?_ | refine CW.exit ?_ | refine PW.then_exit ?_ | refine PW.block_hit ?_ | refine PW.block_miss rfl ?_ | refine Cut.exit ?_ | refine Rnd.exit ?_)
  refine CW.region ?_
  refine L1 (ps_move rfl).os ?_
  refine L1 (ps_ptr_neq_nil T.un31 rfl rfl).os ?_
  refine LW.nil ?_
  repeat (first | refine CW.seq ?_ | refine PW.then_ ?_ | refine PW.then_to rfl ?_ | refine CW.block ?_ | refine CW.skip ?_ | refine CW.ret ?_ | refine PW.then_ret ?_ | refine PW.block_ret ?_ | refine Cut.ret ?_ | refine Rnd.ret ?_ | refine PW.block_normal ?_ | refine CW.exit ?_ | refine PW.then_exit ?_ | refine PW.block_hit ?_ | refine PW.block_miss rfl ?_ | refine Cut.exit ?_ | refine Rnd.exit ?_)
  refine CW.cond_false rfl ?_
  repeat (first | refine CW.seq ?_ | refine PW.then_ ?_ | refine PW.then_to rfl ?_ | refine CW.block ?_ | refine CW.skip ?_ | refine CW.ret ?_ | refine PW.then_ret ?_ | refine PW.block_ret ?_ | refine Cut.ret ?_ | refine Rnd.ret ?_ | refine PW.block_normal ?_ | refine CW.exit ?_ | refine PW.then_exit ?_ | refine PW.block_hit ?_ | refine PW.block_miss rfl ?_ | refine Cut.exit ?_ | refine Rnd.exit ?_)
  refine CW.region ?_
  refine L1 (ps_move rfl).os ?_
  refine L1 (os_call2 hsm Tryd.func14 (by decide +kernel) rfl rfl (by repeat (first | exact pk_head _ _ | apply pk_tail)) (by repeat (first | exact pk_head _ _ | apply pk_tail))) ?_
  refine L1 (os_storeAll (b := b4) (vs := bv o) (by repeat (first | exact pk_head _ _ | apply pk_tail)) (by rw [hbl]; exact T.sz25) rfl rfl (bv_one _) (by rw [hbl]; rfl)) ?_
  refine LW.nil ?_
  repeat (first | refine CW.seq ?_ | refine PW.then_ ?_ | refine PW.then_to rfl ?_ | refine CW.block ?_ | refine CW.skip ?_ | refine CW.ret ?_ | refine PW.then_ret ?_ | refine PW.block_ret ?_ | refine Cut.ret ?_ | refine Rnd.ret ?_ | refine PW.block_normal ?_ | refine CW.exit ?_ | refine PW.then_exit ?_ | refine PW.block_hit ?_ | refine PW.block_miss rfl ?_ | refine Cut.exit ?_ | refine Rnd.exit ?_)
  exact Fin.retCell (b := b4) (cs := bv o) rfl (by repeat (first | exact pk_head _ _ | apply pk_tail)) T.ag25 (by rw [hbl]; exact T.sz25) rfl [_] ⟨rfl, rfl⟩ (by repeat (first | exact Ent.refl _ | (apply Ent.cons; · repeat (first | exact pk_head _ _ | apply pk_tail)) | apply Ent.skip))
/-- The same over whatever parts. -/
theorem OfL_spec (Ps : List Asn) (v : Value) (l : List (Value × List UInt8)) (hE : ∃ E, E ∈ Ps ∧ Env E) (hr : ∃ A, A ∈ Ps ∧ RowsR A v 1 (l.map fun x => [x.1])) (hB : ∀ x ∈ l, ∃ B, B ∈ Ps ∧ ByR B x.1 x.2) (bs : List UInt8) (hbs : (l.map (·.2)).flatten = bs) (hlen : bs.length ≤ 1000000) :
    FSpec Tryd.prog 9 [.pointer none, v] Ps (fun r As => r = .agg (bv (sumM bs)).toArray ∧ As = Ps) := by
  subst hbs
  obtain ⟨E, e1, e2⟩ := hE
  obtain ⟨A, a1, a2⟩ := hr
  refine (Of1_spec (AllP Ps) (Env.all e1 e2) v l (RowsR.all a1 a2) (fun x hx => let ⟨B, b1, b2⟩ := hB x hx; ByR.all b1 b2) hlen).mono (by have := Ent.all Ps []; rwa [List.append_nil] at this) ?_
  rintro r As ⟨rfl, rfl⟩
  exact ⟨Ps, ⟨rfl, rfl⟩, by have := Ent.unall Ps []; rwa [List.append_nil] at this⟩
section
variable {P : Program} {ty : TypeId} {n : FN} {f : Nat → Value} {t e : TypeId} {x : Operand} {w0 : World} {As Bs : List Asn}
/-- A row of bytes that a constant string was turned into: marked behind its last cell. -/
def mk (b : Nat) (e : TypeId) (cs : List Value) : Asn := SL.pt b (.cells cs.toArray e (cs.length, cs.length + 1))
theorem ByR.mk {b : Nat} {e : TypeId} {bs : List UInt8} {m : Nat} (hm : bs.length = m) : ByR (mk b e (bv bs)) (.slice (some ⟨b, 0, none⟩) m m) bs := by
  subst hm
  exact ⟨_, _, rfl, Nat.le_refl _, fun As Bs hp => Src.rd hp (Rd.pt _ _) (by rw [List.drop_zero, List.take_length])⟩
theorem os_convB {b m c : Nat} {cs : List Value} (hp : As.Perm (cb b e cs :: Bs)) (ht : P.underlying t = some (.slice e)) (he : P.underlying e = some (.int .u8)) (hx : ev n f x = .slice (some ⟨b, 0, none⟩) m c) :
    OS P (.convert t t x) ty n f w0 As (Is (.slice (some ⟨b, 0, none⟩) m c) (mk b e cs :: Bs)) :=
  OS.of_run fun w hw o' ho _ => by
    have hw' := hw.perm hp
    have hg := heap_get hw'
    have hsh : w.shape? b = some (e, cs.length) := by unfold World.shape?; rw [hg]; simp
    have hlt : b < w.heap.size := by
      rcases Nat.lt_or_ge b w.heap.size with h | h
      · exact h
      · rw [Array.getElem?_eq_none h] at hg; cases hg
    have hfz : w.freeze ⟨b, cs.length, none⟩ 1 = { w with heap := w.heap.modify b fun | .cells c elem (lo, hi) => .cells c elem (if lo == hi then (cs.length, cs.length + 1) else (min lo cs.length, max hi (cs.length + 1))) | o => o } := by
      unfold World.freeze
      rw [if_neg (by decide)]
      rfl
    have hset := heap_set (w' := w.freeze ⟨b, cs.length, none⟩ 1) hw' (by rw [hfz]) (by rw [hfz]) (by rw [hfz]) (by rw [hfz]; simp) (o' := .cells cs.toArray e (cs.length, cs.length + 1)) (by
      rw [hfz]
      show (w.heap.modify b _)[b]? = _
      rw [Array.getElem?_modify, if_pos rfl, hg]; rfl) (fun k hk => by
      rw [hfz]
      show (w.heap.modify b _)[k]? = _
      rw [Array.getElem?_modify, if_neg (Ne.symm hk)])
    exact ⟨_, _, _, by simp [execOp, ho, hx, convert, run_underlying ht, run_underlying he, markStringish, hsh], ⟨rfl, rfl⟩, hset⟩
end
theorem fit_spec (E : Asn) (hE : Env E) : FSpec Tryd.prog 8 [] [E] (fun v As => v = .bool true ∧ As = [E]) := by
  have hOf : ∀ c2 c4 c6, FSpec Tryd.prog 9 [.pointer none, .slice (some ⟨c6, 0, none⟩) 2 2] [cb c6 22 [.slice (some ⟨c2, 0, none⟩) 1 1, .slice (some ⟨c4, 0, none⟩) 2 2], mk c4 5 (bv [98, 99]), mk c2 5 (bv [97]), E]
      (fun r As => r = .agg (bv (sumM [97, 98, 99])).toArray ∧ As = [cb c6 22 [.slice (some ⟨c2, 0, none⟩) 1 1, .slice (some ⟨c4, 0, none⟩) 2 2], mk c4 5 (bv [98, 99]), mk c2 5 (bv [97]), E]) := fun c2 c4 c6 => by
    refine OfL_spec _ _ [(.slice (some ⟨c2, 0, none⟩) 1 1, [97]), (.slice (some ⟨c4, 0, none⟩) 2 2, [98, 99])] ⟨E, by simp, hE⟩ ⟨_, List.mem_cons_self, RowsR.cb rfl (by simp) rfl (Nat.le_refl _) (by show 2 ≤ maxLen; decide)⟩ ?_ [97, 98, 99] rfl (by decide)
    intro x hx
    rcases List.mem_cons.1 hx with rfl | hx
    · exact ⟨_, List.mem_cons_of_mem _ (List.mem_cons_of_mem _ List.mem_cons_self), ByR.mk rfl⟩
    · obtain rfl := List.mem_singleton.1 hx
      exact ⟨_, List.mem_cons_of_mem _ List.mem_cons_self, ByR.mk rfl⟩
  obtain ⟨o, ho⟩ : ∃ o, sumM [97, 98, 99] = o := ⟨_, rfl⟩
  rw [ho] at hOf
  have h0 : o[0]? = some 186 := by rw [← ho]; decide +kernel
  have h1 : o[1]? = some 120 := by rw [← ho]; decide +kernel
  have h31 : o[31]? = some 173 := by rw [← ho]; decide +kernel
  have hol : o.length = 32 := by rw [← ho]; exact sumM_len _
  have hbl : (bv o).length = 32 := by rw [length_bv, hol]
  have g0 : (bv o)[0 + (0 : Int).toNat * 1]? = some (.int .u8 186) := by show (bv o)[0]? = _; rw [bv, List.getElem?_map, h0]; rfl
  have g1 : (bv o)[0 + (1 : Int).toNat * 1]? = some (.int .u8 120) := by show (bv o)[1]? = _; rw [bv, List.getElem?_map, h1]; rfl
  have g31 : (bv o)[0 + (31 : Int).toNat * 1]? = some (.int .u8 173) := by show (bv o)[31]? = _; rw [bv, List.getElem?_map, h31]; rfl
  refine FSpec.intro Tryd.func8 rfl 23 Tryd.ntmps8 (Nat.le_of_ble_eq_true rfl) fun w0 F => ?_
  show CW _ _ _ _ _ _ (_ :: F)
  repeat (first | refine CW.seq ?_ | refine PW.then_ ?_ | refine PW.then_to rfl ?_ | refine CW.block ?_ | refine CW.skip ?_ | refine CW.ret ?_ | refine PW.then_ret ?_ | refine PW.block_ret ?_ | refine Cut.ret ?_ | refine Rnd.ret ?_ | refine PW.block_normal ?_ | refine CW.exit ?_ | refine PW.then_exit ?_ | refine PW.block_hit ?_ | refine PW.block_miss rfl ?_ | refine Cut.exit ?_ | refine Rnd.exit ?_)
  refine CW.region ?_
  refine L1 (ps_assign rfl).os ?_
  refine LW.nil ?_
  repeat (first | refine CW.seq ?_ | refine PW.then_ ?_ | refine PW.then_to rfl ?_ | refine CW.block ?_ | refine CW.skip ?_ | refine CW.ret ?_ | refine PW.then_ret ?_ | refine PW.block_ret ?_ | refine Cut.ret ?_ | refine Rnd.ret ?_ | refine PW.block_normal ?_ | refine CW.exit ?_ | refine PW.then_exit ?_ | refine PW.block_hit ?_ | refine PW.block_miss rfl ?_ | refine Cut.exit ?_ | refine Rnd.exit ?_)
  refine CW.region ?_
  refine LE (os_bslv (vs := bv [97]) T.un22 T.ti5 (by rfl) (by rfl) rfl (bv_one _) (by decide) (by decide)) ?_
  rintro _ _ ⟨c2, rfl, rfl⟩
  refine L1 (os_convB (b := c2) (by repeat (first | exact pk_head _ _ | apply pk_tail)) T.un22 T.un5 rfl) ?_
  refine LE (os_bslv (vs := bv [98, 99]) T.un22 T.ti5 (by rfl) (by rfl) rfl (bv_one _) (by decide) (by decide)) ?_
  rintro _ _ ⟨c4, rfl, rfl⟩
  refine L1 (os_convB (b := c4) (by repeat (first | exact pk_head _ _ | apply pk_tail)) T.un22 T.un5 rfl) ?_
  refine LE (os_bslv (vs := [.slice (some ⟨c2, 0, none⟩) 1 1, .slice (some ⟨c4, 0, none⟩) 2 2]) T.un30 T.ti22 (by rfl) (by rfl) rfl (by simp [Value.oneCell']) (by decide) (by decide)) ?_
  rintro _ _ ⟨c6, rfl, rfl⟩
  refine L1 (os_callI (hOf c2 c4 c6) Tryd.func9 (by decide +kernel) rfl rfl (pkc (by repeat (first | exact pk_head _ _ | apply pk_tail)) (pkc (by repeat (first | exact pk_head _ _ | apply pk_tail)) (pkc (by repeat (first | exact pk_head _ _ | apply pk_tail)) (pkc (by repeat (first | exact pk_head _ _ | apply pk_tail)) (pkn _)))))) ?_
  refine LE (os_alloc T.ti25) ?_
  rintro _ _ ⟨b1, rfl, rfl⟩
  refine L1 (os_storeAll (b := b1) (vs := bv o) (by repeat (first | exact pk_head _ _ | apply pk_tail)) (by rw [hbl]; exact T.sz25) rfl rfl (bv_one _) (by rw [hbl]; rfl)) ?_
  refine LW.nil ?_
  repeat (first | refine CW.seq ?_ | refine PW.then_ ?_ | refine PW.then_to rfl ?_ | refine CW.block ?_ | refine CW.skip ?_ | refine CW.ret ?_ | refine PW.then_ret ?_ | refine PW.block_ret ?_ | refine Cut.ret ?_ | refine Rnd.ret ?_ | refine PW.block_normal ?_ | refine CW.exit ?_ | refine PW.then_exit ?_ | refine PW.block_hit ?_ | refine PW.block_miss rfl ?_ | refine Cut.exit ?_ | refine Rnd.exit ?_)
  refine CW.region ?_
  refine L1 (ps_ia_arr T.un25 T.sz5 rfl rfl (by decide) (by decide)).os ?_
  refine L1 (os_load1 (b := b1) (v := .int .u8 186) (by repeat (first | exact pk_head _ _ | apply pk_tail)) T.ag5 rfl g0) ?_
  refine L1 (ps_t (ps_eql rfl rfl) (rfl)).os ?_
  refine L1 (ps_move rfl).os ?_
  refine LG1 ?_ (ps_ia_arr T.un25 T.sz5 rfl rfl (by decide) (by decide)).os ?_
  · exact rfl
  refine LG1 ?_ (os_load1 (b := b1) (v := .int .u8 120) (by repeat (first | exact pk_head _ _ | apply pk_tail)) T.ag5 rfl g1) ?_
  · exact rfl
  refine LG1 ?_ (ps_t (ps_eql rfl rfl) (rfl)).os ?_
  · exact rfl
  refine L1 (ps_pick_t rfl rfl).os ?_
  refine L1 (ps_move rfl).os ?_
  refine LG1 ?_ (ps_ia_arr T.un25 T.sz5 rfl rfl (by decide) (by decide)).os ?_
  · exact rfl
  refine LG1 ?_ (os_load1 (b := b1) (v := .int .u8 173) (by repeat (first | exact pk_head _ _ | apply pk_tail)) T.ag5 rfl g31) ?_
  · exact rfl
  refine LG1 ?_ (ps_t (ps_eql rfl rfl) (rfl)).os ?_
  · exact rfl
  refine L1 (ps_pick_t rfl rfl).os ?_
  refine L1 (ps_move rfl).os ?_
  refine L1 (ps_pick_t rfl rfl).os ?_
  refine L1 (ps_assign rfl).os ?_
  refine LW.nil ?_
  repeat (first | refine CW.seq ?_ | refine PW.then_ ?_ | refine PW.then_to rfl ?_ | refine CW.block ?_ | refine CW.skip ?_ | refine CW.ret ?_ | refine PW.then_ret ?_ | refine PW.block_ret ?_ | refine Cut.ret ?_ | refine Rnd.ret ?_ | refine PW.block_normal ?_ | refine CW.exit ?_ | refine PW.then_exit ?_ | refine PW.block_hit ?_ | refine PW.block_miss rfl ?_ | refine Cut.exit ?_ | refine Rnd.exit ?_)
  exact Fin.ret1 (v := .bool true) rfl [E] rfl ⟨rfl, rfl⟩ (by repeat (first | exact Ent.refl _ | (apply Ent.cons; · repeat (first | exact pk_head _ _ | apply pk_tail)) | apply Ent.skip))
end Go.Proofs.YtcfipblnaifbhaaDoor
