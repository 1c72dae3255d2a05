/- The law ShaTapes: a tape has what was hashed, in order, and nothing that is changed later: it answers true. -/
import Derived.Test.YtcfipblnaifbhaaDoorShaTp
import Derived.Test.YtcfipblnaifbhaaDoorPiece
namespace Go.Proofs.YtcfipblnaifbhaaDoor
open Go Go.SL
set_option linter.unusedVariables false
set_option linter.unusedSimpArgs false

theorem RowsR.own {e s m d : Nat} {q : Option Addr} (rows : List (List Value)) (hs : ∀ r ∈ rows, r.length = s) (hm : rows.length = m) (h1 : m ≤ d) (h2 : d ≤ maxLen) (hq : m ≠ 0 → ∃ g, q = some ⟨g, 0, none⟩) :
    RowsR (slOwn e s (.slice q m d) m rows.flatten) (.slice q m d) s rows := by
  subst hm
  refine ⟨q, d, rfl, h1, h2, hs, fun hne => ?_, fun i hi b o hp As Bs hperm => ?_⟩
  · obtain ⟨g, hg⟩ := hq (fun h => hne (List.eq_nil_of_length_eq_zero h))
    exact ⟨g, 0, hg⟩
  · subst hp
    intro hne
    refine ⟨_, rfl, fun w0 w hw j u hj => ?_⟩
    obtain ⟨L, a1, L1, L2, a3, a4, a5⟩ := hw.perm hperm
    rcases a4.2 with ⟨b1, _⟩ | ⟨g', cap, cur, b1, b2, b3, b4, b5, b6⟩
    · cases b1
    · cases b1
      have hgg : w.heap[b]? = some (.cells cur.toArray e (0, 0)) := a1.mem (b, _) (a3.mem_iff.2 (List.mem_append_left _ (by rw [b6]; exact List.mem_singleton.2 rfl)))
      have hsrc : Src [cb b e cur] (some ⟨b, 0 + i * s, none⟩) rows[i] := (RowsR.cb (t := e) (cs := cur) (cap := d) b5 hs rfl h1 h2).src hi (pk_head _ _)
      obtain ⟨a, ha, hc⟩ := hsrc hne
      cases ha
      have hw2 : Heap w0 w [cb b e cur] := ⟨[(b, .cells cur.toArray e (0, 0))], ⟨a1.os, a1.tape, a1.output, a1.size, by simp, fun p hp => by
        have : p = (b, .cells cur.toArray e (0, 0)) := by simpa using hp
        subst this; exact hgg⟩, [(b, .cells cur.toArray e (0, 0))], [], by simp, rfl, trivial⟩
      exact hc w0 w hw2 j u hj

theorem flat_single : ∀ l : List Value, (l.map fun v => [v]).flatten = l
  | [] => rfl
  | v :: l => by rw [List.map_cons, List.flatten_cons, flat_single l]; rfl
/-- Every byte is made another one. -/
theorem bump (q : Option Addr) (m d : Nat) (cs : List UInt8) (hm : cs.length = m) (hmb : m ≤ 1000) (z3 : m ≠ 0 → ∃ g, q = some ⟨g, 0, none⟩) :
    Piece (α := List UInt8) Tryd.prog (sub Tryd.f6 [true, true, true, true, true, false, true, true, true, true, true, false, true, true, true, true, true, true, true]) 106 [10, 50, 51, 52, 53, 54, 55, 56, 57, 58, 59] [(50, .int .i64 ((0 : Nat) : Int)), (49, .int .i64 (m : Int)), (9, .slice q m d)]
      [slOwn 5 1 (.slice q m d) m (bv cs)] (fun cs' => cs'.length = m) (fun _ => []) (fun cs' => [slOwn 5 1 (.slice q m d) m (bv cs')]) := by
  intro Q f w0 F
  show CW _ (Code.block _ (Code.loop _)) _ _ _ _ (_ :: F)
  repeat (first | refine CW.seq ?_ | refine PW.then_ ?_ | refine PW.then_to rfl ?_ | refine CW.block ?_ | refine CW.skip ?_ | refine CW.ret ?_ | refine PW.then_ret ?_ | refine PW.block_ret ?_ | refine Cut.ret ?_ | refine Rnd.ret ?_ | refine PW.block_normal ?_ | refine CW.exit ?_ | refine PW.then_exit ?_ | refine PW.block_hit ?_ | refine PW.block_miss rfl ?_ | refine Cut.exit ?_ | refine Rnd.exit ?_)
  refine CW.loopM (α := Nat × List UInt8) [10, 50, 51, 52, 53, 54, 55, 56, 57, 58, 59] (fun k a => a.1 ≤ m ∧ a.2.length = m ∧ k = m - a.1) (fun a => [(50, .int .i64 a.1)])
    (fun a => slOwn 5 1 (.slice q m d) m (bv a.2) :: F) m (0, cs) ⟨Nat.zero_le _, hm, rfl⟩ ⟨rfl, trivial⟩ (by repeat (first | exact Ent.refl _ | (apply Ent.cons; · repeat (first | exact pk_head _ _ | apply pk_tail)) | apply Ent.skip)) ?_
  rintro k ⟨i, xs⟩ g ⟨hi, hxl, hk⟩
  dsimp only at hi hxl hk ⊢
  repeat (first | refine CW.seq ?_ | refine PW.then_ ?_ | refine PW.then_to rfl ?_ | refine CW.block ?_ | refine CW.skip ?_ | refine CW.ret ?_ | refine PW.then_ret ?_ | refine PW.block_ret ?_ | refine Cut.ret ?_ | refine Rnd.ret ?_ | refine PW.block_normal ?_ | refine CW.exit ?_ | refine PW.then_exit ?_ | refine PW.block_hit ?_ | refine PW.block_miss rfl ?_ | refine Cut.exit ?_ | refine Rnd.exit ?_)
  by_cases hlt : i < m
  · obtain ⟨gb, rfl⟩ := z3 (by omega)
    have hby : ByR (slOwn 5 1 (.slice (some ⟨gb, 0, none⟩) m d) m (bv xs)) (.slice (some ⟨gb, 0, none⟩) m (max m d)) xs := ⟨_, _, by rw [hxl], by rw [hxl]; exact Nat.le_max_left _ _, fun As Bs hp => Src.own (by rw [length_bv, hxl]) (fun _ => ⟨gb, rfl⟩) hp⟩
    have hat := fun As Bs (hp : List.Perm As (_ :: Bs)) => ByR.atN hby i (by omega) hp
    obtain ⟨x, hx⟩ : ∃ x, xs[i]'(by omega) = x := ⟨_, rfl⟩
    rw [hx] at hat
    have hset : (bv xs).set i (.int .u8 ((x + 1).toNat : Int)) = bv (xs.set i (x + 1)) := by unfold bv; rw [List.map_set]
    have hadd : IntKind.u8.wrap ((x.toNat : Int) + 1) = ((x + 1).toNat : Int) := by
      rw [wrap_u8, UInt8.toNat_add]
      show _ = ((((x.toNat + 1) % 256 : Nat)) : Int)
      omega
    refine CW.region ?_
    refine L1 (ps_t (ps_lss rfl rfl) (by omega)).os ?_
    refine LW.nil ?_
    repeat (first | refine CW.seq ?_ | refine PW.then_ ?_ | refine PW.then_to rfl ?_ | refine CW.block ?_ | refine CW.skip ?_ | refine CW.ret ?_ | refine PW.then_ret ?_ | refine PW.block_ret ?_ | refine Cut.ret ?_ | refine Rnd.ret ?_ | refine PW.block_normal ?_ | refine CW.exit ?_ | refine PW.then_exit ?_ | refine PW.block_hit ?_ | refine PW.block_miss rfl ?_ | refine Cut.exit ?_ | refine Rnd.exit ?_)
    refine CW.cond_true rfl ?_
    repeat (first | refine CW.seq ?_ | refine PW.then_ ?_ | refine PW.then_to rfl ?_ | refine CW.block ?_ | refine CW.skip ?_ | refine CW.ret ?_ | refine PW.then_ret ?_ | refine PW.block_ret ?_ | refine Cut.ret ?_ | refine Rnd.ret ?_ | refine PW.block_normal ?_ | refine CW.exit ?_ | refine PW.then_exit ?_ | refine PW.block_hit ?_ | refine PW.block_miss rfl ?_ | refine Cut.exit ?_ | refine Rnd.exit ?_)
    refine CW.region ?_
    refine L1 (ps_move rfl).os ?_
    refine L1 (ps_assign rfl).os ?_
    refine LW.nil ?_
    repeat (first | refine CW.seq ?_ | refine PW.then_ ?_ | refine PW.then_to rfl ?_ | refine CW.block ?_ | refine CW.skip ?_ | refine CW.ret ?_ | refine PW.then_ret ?_ | refine PW.block_ret ?_ | refine Cut.ret ?_ | refine Rnd.ret ?_ | refine PW.block_normal ?_ | refine CW.exit ?_ | refine PW.then_exit ?_ | refine PW.block_hit ?_ | refine PW.block_miss rfl ?_ | refine Cut.exit ?_ | refine Rnd.exit ?_)
    refine CW.region ?_
    refine L1 (ps_move rfl).os ?_
    refine L1 (ps_move rfl).os ?_
    refine L1 (ps_ia_slice T.un22 T.sz5 rfl rfl (by omega) (by omega)).os ?_
    refine L1 (os_loadS1 (v := .int .u8 (x.toNat : Int)) (hat _ _ (by repeat (first | exact pk_head _ _ | apply pk_tail))) T.ag5 rfl) ?_
    refine L1 (ps_to (u := .int .u8 ((x + 1).toNat : Int)) (congrArg (Value.int .u8) hadd) (ps_add rfl rfl)).os ?_
    refine L1 (ps_ia_slice T.un22 T.sz5 rfl rfl (by omega) (by omega)).os ?_
    refine L1 (os_storeOwn (i := i) (by repeat (first | exact pk_head _ _ | apply pk_tail)) T.sz5 rfl rfl (by rfl) hlt) ?_
    refine LW.nil ?_
    repeat (first | refine CW.seq ?_ | refine PW.then_ ?_ | refine PW.then_to rfl ?_ | refine CW.block ?_ | refine CW.skip ?_ | refine CW.ret ?_ | refine PW.then_ret ?_ | refine PW.block_ret ?_ | refine Cut.ret ?_ | refine Rnd.ret ?_ | refine PW.block_normal ?_ | refine CW.exit ?_ | refine PW.then_exit ?_ | refine PW.block_hit ?_ | refine PW.block_miss rfl ?_ | refine Cut.exit ?_ | refine Rnd.exit ?_)
    refine CW.region ?_
    refine L1 (ps_add_i64 rfl rfl (by omega) (by omega)).os ?_
    refine L1 (ps_move rfl).os ?_
    refine LW.nil ?_
    exact Meet.round (m - (i + 1)) (i + 1, xs.set i (x + 1)) (by omega) ⟨hlt, by rw [List.length_set]; exact hxl, rfl⟩ (by repeat (first | (with_reducible exact Ag.refl _ _) | (with_reducible apply Ag.pu0) | ((with_reducible refine Ag.pu _ ?_ ?_); · exact rfl) | ((with_reducible refine Ag.mix ?_ ?_); · exact rfl) | ((with_reducible refine Ag.pus ?_ ?_); · exact rfl))) ⟨rfl, trivial⟩ (by dsimp only; rw [← hset]; exact (by repeat (first | exact Ent.refl _ | (apply Ent.cons; · repeat (first | exact pk_head _ _ | apply pk_tail)) | apply Ent.skip)))
  have him : i = m := by omega
  subst him
  refine CW.region ?_
  refine L1 (ps_f (ps_lss rfl rfl) (by omega)).os ?_
  refine LW.nil ?_
  repeat (first | refine CW.seq ?_ | refine PW.then_ ?_ | refine PW.then_to rfl ?_ | refine CW.block ?_ | refine CW.skip ?_ | refine CW.ret ?_ | refine PW.then_ret ?_ | refine PW.block_ret ?_ | refine Cut.ret ?_ | refine Rnd.ret ?_ | refine PW.block_normal ?_ | refine CW.exit ?_ | refine PW.then_exit ?_ | refine PW.block_hit ?_ | refine PW.block_miss rfl ?_ | refine Cut.exit ?_ | refine Rnd.exit ?_)
  refine CW.cond_false rfl ?_
  repeat (first | refine CW.seq ?_ | refine PW.then_ ?_ | refine PW.then_to rfl ?_ | refine CW.block ?_ | refine CW.skip ?_ | refine CW.ret ?_ | refine PW.then_ret ?_ | refine PW.block_ret ?_ | refine Cut.ret ?_ | refine Rnd.ret ?_ | refine PW.block_normal ?_ | refine CW.exit ?_ | refine PW.then_exit ?_ | refine PW.block_hit ?_ | refine PW.block_miss rfl ?_ | refine Cut.exit ?_ | refine Rnd.exit ?_)
  exact Meet.cut xs hxl (by repeat (first | (with_reducible exact Ag.refl _ _) | (with_reducible apply Ag.pu0) | ((with_reducible refine Ag.pu _ ?_ ?_); · exact rfl) | ((with_reducible refine Ag.mix ?_ ?_); · exact rfl) | ((with_reducible refine Ag.pus ?_ ?_); · exact rfl))) (by exact trivial) (by repeat (first | exact Ent.refl _ | (apply Ent.cons; · repeat (first | exact pk_head _ _ | apply pk_tail)) | apply Ent.skip))
/-- What a tape keeps of one hash. -/
def entA (e : Value × List UInt8) : Asn := slOwn 5 1 e.1 e.2.length (bv e.2)
theorem ent_all (es : List (Value × List UInt8)) (v : Value) (bs : List UInt8) (F : List Asn) : Ent (slOwn 5 1 v bs.length (bv bs) :: AllP (es.map entA) :: F) (AllP ((es ++ [(v, bs)]).map entA) :: F) := by
  refine Ent.trans (Ent.cons (List.Perm.refl _) (Ent.unall _ F)) ?_
  refine Ent.trans ?_ (Ent.all _ F)
  refine Ent.perm ?_
  rw [List.map_append, List.map_cons, List.map_nil, List.append_assoc]
  exact List.perm_middle.symm
set_option maxHeartbeats 4000000 in
theorem ShaTapes_law (W : World) (hE : Env (bag (blks W))) (v0 : Value) (l : List (Value × List UInt8)) (hb : RowsR (bag (blks W)) v0 1 (l.map fun x => [x.1]) ∧ ∀ x ∈ l, ByR (bag (blks W)) x.1 x.2) (stop : Int) (hst : -9223372036854775808 ≤ stop ∧ stop < 9223372036854775808) :
    LawOf Tryd.prog 6 [v0, .int .i64 stop] W := by
  obtain ⟨hr, hB⟩ := hb
  obtain ⟨pv, cap, rfl, hcap1, hcap2, hpv⟩ := hr.len
  rw [show (List.map (fun x : Value × List UInt8 => [x.1]) l).length = l.length from List.length_map ..] at *
  have hcm := hcap2
  unfold maxLen at hcm
  generalize hE0 : bag (blks W) = E at hE hr hB
  refine FSpec.intro Tryd.func6 rfl 106 Tryd.ntmps6 (Nat.le_of_ble_eq_true rfl) fun w0 F => ?_
  show CW _ _ _ _ _ _ (_ :: F)
  rw [hE0]
  repeat (first | refine CW.seq ?_ | refine PW.then_ ?_ | refine PW.then_to rfl ?_ | refine CW.block ?_ | refine CW.skip ?_ | refine CW.ret ?_ | refine PW.then_ret ?_ | refine PW.block_ret ?_ | refine Cut.ret ?_ | refine Rnd.ret ?_ | refine PW.block_normal ?_ | refine CW.exit ?_ | refine PW.then_exit ?_ | refine PW.block_hit ?_ | refine PW.block_miss rfl ?_ | refine Cut.exit ?_ | refine Rnd.exit ?_)
  refine CW.region ?_
  refine LE (os_box (vs := [.int .i64 stop]) rfl (by rfl)) ?_
  rintro _ _ ⟨b3, rfl, rfl⟩
  refine LE (os_alloc T.ti4) ?_
  rintro _ _ ⟨b4, rfl, rfl⟩
  refine LW.nil ?_
  repeat (first | refine CW.seq ?_ | refine PW.then_ ?_ | refine PW.then_to rfl ?_ | refine CW.block ?_ | refine CW.skip ?_ | refine CW.ret ?_ | refine PW.then_ret ?_ | refine PW.block_ret ?_ | refine Cut.ret ?_ | refine Rnd.ret ?_ | refine PW.block_normal ?_ | refine CW.exit ?_ | refine PW.then_exit ?_ | refine PW.block_hit ?_ | refine PW.block_miss rfl ?_ | refine Cut.exit ?_ | refine Rnd.exit ?_)
  refine CW.region ?_
  refine L1 (os_call1 (fit_spec E hE) Tryd.func8 (by decide +kernel) rfl rfl (by repeat (first | exact pk_head _ _ | apply pk_tail))) ?_
  refine L1 (ps_not rfl).os ?_
  refine LW.nil ?_
  repeat (first | refine CW.seq ?_ | refine PW.then_ ?_ | refine PW.then_to rfl ?_ | refine CW.block ?_ | refine CW.skip ?_ | refine CW.ret ?_ | refine PW.then_ret ?_ | refine PW.block_ret ?_ | refine Cut.ret ?_ | refine Rnd.ret ?_ | refine PW.block_normal ?_ | refine CW.exit ?_ | refine PW.then_exit ?_ | refine PW.block_hit ?_ | refine PW.block_miss rfl ?_ | refine Cut.exit ?_ | refine Rnd.exit ?_)
  refine CW.cond_false rfl ?_
  repeat (first | refine CW.seq ?_ | refine PW.then_ ?_ | refine PW.then_to rfl ?_ | refine CW.block ?_ | refine CW.skip ?_ | refine CW.ret ?_ | refine PW.then_ret ?_ | refine PW.block_ret ?_ | refine Cut.ret ?_ | refine Rnd.ret ?_ | refine PW.block_normal ?_ | refine CW.exit ?_ | refine PW.then_exit ?_ | refine PW.block_hit ?_ | refine PW.block_miss rfl ?_ | refine Cut.exit ?_ | refine Rnd.exit ?_)
  by_cases hlen : (20 : Int) < (l.length : Int)
  · refine CW.region ?_
    refine L1 (ps_move rfl).os ?_
    refine L1 (ps_len_sl T.un30 rfl).os ?_
    refine L1 (ps_t (ps_gtr rfl rfl) (hlen)).os ?_
    refine LW.nil ?_
    repeat (first | refine CW.seq ?_ | refine PW.then_ ?_ | refine PW.then_to rfl ?_ | refine CW.block ?_ | refine CW.skip ?_ | refine CW.ret ?_ | refine PW.then_ret ?_ | refine PW.block_ret ?_ | refine Cut.ret ?_ | refine Rnd.ret ?_ | refine PW.block_normal ?_ | refine CW.exit ?_ | refine PW.then_exit ?_ | refine PW.block_hit ?_ | refine PW.block_miss rfl ?_ | refine Cut.exit ?_ | refine Rnd.exit ?_)
    refine CW.cond_true rfl ?_
    repeat (first | refine CW.seq ?_ | refine PW.then_ ?_ | refine PW.then_to rfl ?_ | refine CW.block ?_ | refine CW.skip ?_ | refine CW.ret ?_ | refine PW.then_ret ?_ | refine PW.block_ret ?_ | refine Cut.ret ?_ | refine Rnd.ret ?_ | refine PW.block_normal ?_ | refine CW.exit ?_ | refine PW.then_exit ?_ | refine PW.block_hit ?_ | refine PW.block_miss rfl ?_ | refine Cut.exit ?_ | refine Rnd.exit ?_)
    refine CW.region ?_
    refine L1 (os_store1 (by repeat (first | exact pk_head _ _ | apply pk_tail)) T.sz4 rfl rfl (by rfl) (Nat.le_of_ble_eq_true rfl)) ?_
    refine LW.nil ?_
    repeat (first | refine CW.seq ?_ | refine PW.then_ ?_ | refine PW.then_to rfl ?_ | refine CW.block ?_ | refine CW.skip ?_ | refine CW.ret ?_ | refine PW.then_ret ?_ | refine PW.block_ret ?_ | refine Cut.ret ?_ | refine Rnd.ret ?_ | refine PW.block_normal ?_ | refine CW.exit ?_ | refine PW.then_exit ?_ | refine PW.block_hit ?_ | refine PW.block_miss rfl ?_ | refine Cut.exit ?_ | refine Rnd.exit ?_)
    exact Fin.retC1 (b := b4) (v := .bool true) rfl (by repeat (first | exact pk_head _ _ | apply pk_tail)) T.ag4 rfl rfl [E] ⟨rfl, rfl⟩ (by repeat (first | exact Ent.refl _ | (apply Ent.cons; · repeat (first | exact pk_head _ _ | apply pk_tail)) | apply Ent.skip))
  refine CW.region ?_
  refine L1 (ps_move rfl).os ?_
  refine L1 (ps_len_sl T.un30 rfl).os ?_
  refine L1 (ps_f (ps_gtr rfl rfl) (hlen)).os ?_
  refine LW.nil ?_
  repeat (first | refine CW.seq ?_ | refine PW.then_ ?_ | refine PW.then_to rfl ?_ | refine CW.block ?_ | refine CW.skip ?_ | refine CW.ret ?_ | refine PW.then_ret ?_ | refine PW.block_ret ?_ | refine Cut.ret ?_ | refine Rnd.ret ?_ | refine PW.block_normal ?_ | refine CW.exit ?_ | refine PW.then_exit ?_ | refine PW.block_hit ?_ | refine PW.block_miss rfl ?_ | refine Cut.exit ?_ | refine Rnd.exit ?_)
  refine CW.cond_false rfl ?_
  repeat (first | refine CW.seq ?_ | refine PW.then_ ?_ | refine PW.then_to rfl ?_ | refine CW.block ?_ | refine CW.skip ?_ | refine CW.ret ?_ | refine PW.then_ret ?_ | refine PW.block_ret ?_ | refine Cut.ret ?_ | refine Rnd.ret ?_ | refine PW.block_normal ?_ | refine CW.exit ?_ | refine PW.then_exit ?_ | refine PW.block_hit ?_ | refine PW.block_miss rfl ?_ | refine Cut.exit ?_ | refine Rnd.exit ?_)
  refine CW.region ?_
  refine L1 (ps_build (by rfl) (T.bd33)).os ?_
  refine LE (os_box (vs := [.slice none 0 0]) rfl (by rfl)) ?_
  rintro _ _ ⟨tb, rfl, rfl⟩
  refine L1 (ps_assign rfl).os ?_
  refine LW.nil ?_
  repeat (first | refine CW.seq ?_ | refine PW.then_ ?_ | refine PW.then_to rfl ?_ | refine CW.block ?_ | refine CW.skip ?_ | refine CW.ret ?_ | refine PW.then_ret ?_ | refine PW.block_ret ?_ | refine Cut.ret ?_ | refine Rnd.ret ?_ | refine PW.block_normal ?_ | refine CW.exit ?_ | refine PW.then_exit ?_ | refine PW.block_hit ?_ | refine PW.block_miss rfl ?_ | refine Cut.exit ?_ | refine Rnd.exit ?_)
  refine CW.region ?_
  refine LE (os_alloc T.ti34) ?_
  rintro _ _ ⟨b6, rfl, rfl⟩
  refine LW.nil ?_
  repeat (first | refine CW.seq ?_ | refine PW.then_ ?_ | refine PW.then_to rfl ?_ | refine CW.block ?_ | refine CW.skip ?_ | refine CW.ret ?_ | refine PW.then_ret ?_ | refine PW.block_ret ?_ | refine Cut.ret ?_ | refine Rnd.ret ?_ | refine PW.block_normal ?_ | refine CW.exit ?_ | refine PW.then_exit ?_ | refine PW.block_hit ?_ | refine PW.block_miss rfl ?_ | refine Cut.exit ?_ | refine Rnd.exit ?_)
  refine CW.region ?_
  refine L1 (ps_move rfl).os ?_
  refine L1 (ps_len_sl T.un30 rfl).os ?_
  refine L1 (ps_move rfl).os ?_
  refine LW.nil ?_
  repeat (first | refine CW.seq ?_ | refine PW.then_ ?_ | refine PW.then_to rfl ?_ | refine CW.block ?_ | refine CW.skip ?_ | refine CW.ret ?_ | refine PW.then_ret ?_ | refine PW.block_ret ?_ | refine Cut.ret ?_ | refine Rnd.ret ?_ | refine PW.block_normal ?_ | refine CW.exit ?_ | refine PW.then_exit ?_ | refine PW.block_hit ?_ | refine PW.block_miss rfl ?_ | refine Cut.exit ?_ | refine Rnd.exit ?_)
  refine J.ent (Ent.slNil 9 1 _) ?_
  refine J.ent (Ent.slNil 22 1 _) ?_
  refine J.ent (Ent.all [] _) ?_
  refine CW.loopM (α := Nat × (Option Addr × Nat) × (Option Addr × Nat) × List (Value × List UInt8)) [8, 9, 10, 23, 24, 25, 26, 27, 28, 29, 30, 31, 32, 33, 34, 35, 36, 37, 38, 39, 40, 41, 42, 43, 44, 45, 46, 47, 48, 49, 50, 51, 52, 53, 54, 55, 56, 57, 58, 59, 60] (fun k a => a.1 ≤ l.length ∧ a.2.2.2.map (·.2) = (l.take a.1).map (fun x => x.2 ++ [7]) ∧ (∀ e ∈ a.2.2.2, ByR (entA e) e.1 e.2) ∧ k = l.length - a.1) (fun a => [(23, .int .i64 a.1)])
    (fun a => cb tb 33 [.slice a.2.1.1 a.1 a.2.1.2] :: slOwn 22 1 (.slice a.2.1.1 a.1 a.2.1.2) a.1 (a.2.2.2.map (·.1)) :: AllP (a.2.2.2.map entA) :: cb b6 34 [.slice a.2.2.1.1 a.1 a.2.2.1.2] :: slOwn 9 1 (.slice a.2.2.1.1 a.1 a.2.2.1.2) a.1 ((a.2.2.2.map (·.2)).map strV) :: cb b4 4 [.bool false] :: cb b3 3 [.int .i64 stop] :: E :: F)
    l.length (0, (none, 0), (none, 0), []) ⟨Nat.zero_le _, rfl, (fun e he => by cases he), rfl⟩ ⟨rfl, trivial⟩ (by repeat (first | exact Ent.refl _ | (apply Ent.cons; · repeat (first | exact pk_head _ _ | apply pk_tail)) | apply Ent.skip)) ?_
  rintro k ⟨i, ⟨tq, td⟩, ⟨wq, wd⟩, es⟩ g ⟨hi, hes, hby, hk⟩
  dsimp only at hi hes hby hk ⊢
  repeat (first | refine CW.seq ?_ | refine PW.then_ ?_ | refine PW.then_to rfl ?_ | refine CW.block ?_ | refine CW.skip ?_ | refine CW.ret ?_ | refine PW.then_ret ?_ | refine PW.block_ret ?_ | refine Cut.ret ?_ | refine Rnd.ret ?_ | refine PW.block_normal ?_ | refine CW.exit ?_ | refine PW.then_exit ?_ | refine PW.block_hit ?_ | refine PW.block_miss rfl ?_ | refine Cut.exit ?_ | refine Rnd.exit ?_)
  by_cases hlt : i < l.length
  · have hbi := hB l[i] (List.getElem_mem hlt)
    have hes2 : (l.take (i + 1)).map (fun x => x.2 ++ [7]) = es.map (·.2) ++ [l[i].2 ++ [7]] := by rw [List.take_succ_eq_append_getElem hlt, List.map_append, ← hes]; rfl
    obtain ⟨vb, vo, rfl⟩ := hpv (fun h => by have := congrArg List.length h; simp at this; subst this; exact absurd hlt (Nat.not_lt_zero _))
    have hsrc := fun As Bs (hp : List.Perm As (E :: Bs)) => hr.src (i := i) (by simpa using hlt) hp
    simp only [List.getElem_map] at hsrc
    obtain ⟨⟨vv, c⟩, hlc⟩ : ∃ x, l[i] = x := ⟨_, rfl⟩
    rw [hlc] at hbi hsrc hes2
    dsimp only at hbi hsrc hes2
    have hbi0 := hbi
    obtain ⟨cq, cc, rfl, hcc, -⟩ := hbi0
    refine CW.region ?_
    refine L1 (ps_t (ps_lss rfl rfl) (by omega)).os ?_
    refine LW.nil ?_
    repeat (first | refine CW.seq ?_ | refine PW.then_ ?_ | refine PW.then_to rfl ?_ | refine CW.block ?_ | refine CW.skip ?_ | refine CW.ret ?_ | refine PW.then_ret ?_ | refine PW.block_ret ?_ | refine Cut.ret ?_ | refine Rnd.ret ?_ | refine PW.block_normal ?_ | refine CW.exit ?_ | refine PW.then_exit ?_ | refine PW.block_hit ?_ | refine PW.block_miss rfl ?_ | refine Cut.exit ?_ | refine Rnd.exit ?_)
    refine CW.cond_true rfl ?_
    repeat (first | refine CW.seq ?_ | refine PW.then_ ?_ | refine PW.then_to rfl ?_ | refine CW.block ?_ | refine CW.skip ?_ | refine CW.ret ?_ | refine PW.then_ret ?_ | refine PW.block_ret ?_ | refine Cut.ret ?_ | refine Rnd.ret ?_ | refine PW.block_normal ?_ | refine CW.exit ?_ | refine PW.then_exit ?_ | refine PW.block_hit ?_ | refine PW.block_miss rfl ?_ | refine Cut.exit ?_ | refine Rnd.exit ?_)
    refine CW.region ?_
    refine L1 (ps_ia_slice T.un30 T.sz22 rfl rfl (by omega) (by omega)).os ?_
    refine L1 (os_loadS1 (v := .slice cq c.length cc) (hsrc _ _ (by repeat (first | exact pk_head _ _ | apply pk_tail))) T.ag22 rfl) ?_
    refine L1 (ps_assign rfl).os ?_
    refine LW.nil ?_
    repeat (first | refine CW.seq ?_ | refine PW.then_ ?_ | refine PW.then_to rfl ?_ | refine CW.block ?_ | refine CW.skip ?_ | refine CW.ret ?_ | refine PW.then_ret ?_ | refine PW.block_ret ?_ | refine Cut.ret ?_ | refine Rnd.ret ?_ | refine PW.block_normal ?_ | refine CW.exit ?_ | refine PW.then_exit ?_ | refine PW.block_hit ?_ | refine PW.block_miss rfl ?_ | refine Cut.exit ?_ | refine Rnd.exit ?_)
    by_cases hc200 : (200 : Int) < (c.length : Int)
    · refine CW.region ?_
      refine L1 (ps_move rfl).os ?_
      refine L1 (ps_len_sl T.un22 rfl).os ?_
      refine L1 (ps_t (ps_gtr rfl rfl) (hc200)).os ?_
      refine LW.nil ?_
      repeat (first | refine CW.seq ?_ | refine PW.then_ ?_ | refine PW.then_to rfl ?_ | refine CW.block ?_ | refine CW.skip ?_ | refine CW.ret ?_ | refine PW.then_ret ?_ | refine PW.block_ret ?_ | refine Cut.ret ?_ | refine Rnd.ret ?_ | refine PW.block_normal ?_ | refine CW.exit ?_ | refine PW.then_exit ?_ | refine PW.block_hit ?_ | refine PW.block_miss rfl ?_ | refine Cut.exit ?_ | refine Rnd.exit ?_)
      refine CW.cond_true rfl ?_
      repeat (first | refine CW.seq ?_ | refine PW.then_ ?_ | refine PW.then_to rfl ?_ | refine CW.block ?_ | refine CW.skip ?_ | refine CW.ret ?_ | refine PW.then_ret ?_ | refine PW.block_ret ?_ | refine Cut.ret ?_ | refine Rnd.ret ?_ | refine PW.block_normal ?_ | refine CW.exit ?_ | refine PW.then_exit ?_ | refine PW.block_hit ?_ | refine PW.block_miss rfl ?_ | refine Cut.exit ?_ | refine Rnd.exit ?_)
      refine CW.region ?_
      refine L1 (os_store1 (by repeat (first | exact pk_head _ _ | apply pk_tail)) T.sz4 rfl rfl (by rfl) (Nat.le_of_ble_eq_true rfl)) ?_
      refine LW.nil ?_
      repeat (first | refine CW.seq ?_ | refine PW.then_ ?_ | refine PW.then_to rfl ?_ | refine CW.block ?_ | refine CW.skip ?_ | refine CW.ret ?_ | refine PW.then_ret ?_ | refine PW.block_ret ?_ | refine Cut.ret ?_ | refine Rnd.ret ?_ | refine PW.block_normal ?_ | refine CW.exit ?_ | refine PW.then_exit ?_ | refine PW.block_hit ?_ | refine PW.block_miss rfl ?_ | refine Cut.exit ?_ | refine Rnd.exit ?_)
      exact Fin.retC1 (b := b4) (v := .bool true) rfl (by repeat (first | exact pk_head _ _ | apply pk_tail)) T.ag4 rfl rfl [E] ⟨rfl, rfl⟩ (by repeat (first | exact Ent.refl _ | (apply Ent.cons; · repeat (first | exact pk_head _ _ | apply pk_tail)) | apply Ent.skip))
    refine CW.region ?_
    refine L1 (ps_move rfl).os ?_
    refine L1 (ps_len_sl T.un22 rfl).os ?_
    refine L1 (ps_f (ps_gtr rfl rfl) (hc200)).os ?_
    refine LW.nil ?_
    repeat (first | refine CW.seq ?_ | refine PW.then_ ?_ | refine PW.then_to rfl ?_ | refine CW.block ?_ | refine CW.skip ?_ | refine CW.ret ?_ | refine PW.then_ret ?_ | refine PW.block_ret ?_ | refine Cut.ret ?_ | refine Rnd.ret ?_ | refine PW.block_normal ?_ | refine CW.exit ?_ | refine PW.then_exit ?_ | refine PW.block_hit ?_ | refine PW.block_miss rfl ?_ | refine Cut.exit ?_ | refine Rnd.exit ?_)
    refine CW.cond_false rfl ?_
    repeat (first | refine CW.seq ?_ | refine PW.then_ ?_ | refine PW.then_to rfl ?_ | refine CW.block ?_ | refine CW.skip ?_ | refine CW.ret ?_ | refine PW.then_ret ?_ | refine PW.block_ret ?_ | refine Cut.ret ?_ | refine Rnd.ret ?_ | refine PW.block_normal ?_ | refine CW.exit ?_ | refine PW.then_exit ?_ | refine PW.block_hit ?_ | refine PW.block_miss rfl ?_ | refine Cut.exit ?_ | refine Rnd.exit ?_)
    refine CW.region ?_
    refine L1 (ps_move rfl).os ?_
    refine LE (os_append0 (news := bv c) T.un22 T.ti5 (by rfl) (by decide) rfl rfl (by simp) (hbi.src (by repeat (first | exact pk_head _ _ | apply pk_tail))) (bv_one _) (by unfold maxLen; omega) (by omega)) ?_
    rintro _ _ ⟨xq, xd, rfl, rfl, hxq⟩
    refine slOwn_info (pk_head _ _) fun x1 x2 x3 => ?_
    refine L1 (ps_assign rfl).os ?_
    refine LW.nil ?_
    repeat (first | refine CW.seq ?_ | refine PW.then_ ?_ | refine PW.then_to rfl ?_ | refine CW.block ?_ | refine CW.skip ?_ | refine CW.ret ?_ | refine PW.then_ret ?_ | refine PW.block_ret ?_ | refine Cut.ret ?_ | refine Rnd.ret ?_ | refine PW.block_normal ?_ | refine CW.exit ?_ | refine PW.then_exit ?_ | refine PW.block_hit ?_ | refine PW.block_miss rfl ?_ | refine Cut.exit ?_ | refine Rnd.exit ?_)
    have hc7 : (c ++ [(7 : UInt8)]).length ≤ 1000000 := by rw [List.length_append]; simp; omega
    have hone2 : ∀ p m d b, ∀ u ∈ [Value.slice p m d, .slice (some ⟨b, 0, none⟩) 1 1], u.oneCell' = true := by simp [Value.oneCell']
    have hof := fun b34 b35 => OfTL_spec tb i td tq (es.map (·.1)) (by omega) [cb b35 22 [.slice xq c.length xd, .slice (some ⟨b34, 0, none⟩) 1 1], slOwn 5 1 (.slice xq c.length xd) c.length (bv c), cb b34 5 (bv [7]), E]
      (.slice (some ⟨b35, 0, none⟩) 2 2) [(.slice xq c.length xd, c), (.slice (some ⟨b34, 0, none⟩) 1 1, [7])] ⟨E, by simp, hE⟩ ⟨_, List.mem_cons_self, RowsR.cb rfl (by simp) rfl (Nat.le_refl _) (by show 2 ≤ maxLen; decide)⟩ (fun y hy => by
        rcases List.mem_cons.1 hy with rfl | hy
        · exact ⟨_, List.mem_cons_of_mem _ List.mem_cons_self, ByR.own rfl x1 x3⟩
        · obtain rfl := List.mem_singleton.1 hy
          exact ⟨_, List.mem_cons_of_mem _ (List.mem_cons_of_mem _ List.mem_cons_self), ByR.cb rfl rfl (Nat.le_refl _)⟩) (c ++ [7]) (by simp) hc7
    have ho2 := fun b38 b39 => OfL_spec [cb b39 22 [.slice cq c.length cc, .slice (some ⟨b38, 0, none⟩) 1 1], cb b38 5 (bv [7]), E]
      (.slice (some ⟨b39, 0, none⟩) 2 2) [(.slice cq c.length cc, c), (.slice (some ⟨b38, 0, none⟩) 1 1, [7])] ⟨E, by simp, hE⟩ ⟨_, List.mem_cons_self, RowsR.cb rfl (by simp) rfl (Nat.le_refl _) (by show 2 ≤ maxLen; decide)⟩ (fun y hy => by
        rcases List.mem_cons.1 hy with rfl | hy
        · exact ⟨E, by simp, hbi⟩
        · obtain rfl := List.mem_singleton.1 hy
          exact ⟨_, List.mem_cons_of_mem _ List.mem_cons_self, ByR.cb rfl rfl (Nat.le_refl _)⟩) (c ++ [7]) (by simp) hc7
    have hkv := sum_kv (c ++ [7])
    generalize sumM (c ++ [7]) = o at hof ho2 hkv
    refine CW.region ?_
    refine L1 (ps_move rfl).os ?_
    refine L1 (ps_move rfl).os ?_
    refine LE (os_bslv (vs := bv [7]) T.un22 T.ti5 (by rfl) (by rfl) rfl (bv_one _) (by decide) (by decide)) ?_
    rintro _ _ ⟨b34, rfl, rfl⟩
    refine LE (os_bslv (vs := [.slice xq c.length xd, .slice (some ⟨b34, 0, none⟩) 1 1]) T.un30 T.ti22 (by rfl) (by rfl) rfl (hone2 _ _ _ _) (by decide) (by decide)) ?_
    rintro _ _ ⟨b35, rfl, rfl⟩
    refine LE (os_call (hof b34 b35) Tryd.func9 (by decide +kernel) rfl rfl (pkc (by repeat (first | exact pk_head _ _ | apply pk_tail)) (pkc (by repeat (first | exact pk_head _ _ | apply pk_tail)) (pkc (by repeat (first | exact pk_head _ _ | apply pk_tail)) (pkc (by repeat (first | exact pk_head _ _ | apply pk_tail)) (pkc (by repeat (first | exact pk_head _ _ | apply pk_tail)) (pkc (by repeat (first | exact pk_head _ _ | apply pk_tail)) (pkn _)))))))) ?_
    rintro _ _ ⟨_, ⟨rfl, tq', td', tp, tc, rfl⟩, rfl⟩
    refine slOwn_info (m := (c ++ [7]).length) (q := tp) (d := tc) (xs := bv (c ++ [7])) (by repeat (first | exact pk_head _ _ | apply pk_tail)) fun y1 y2 y3 => ?_
    refine L1 (ps_move rfl).os ?_
    refine LE (os_bslv (vs := bv [7]) T.un22 T.ti5 (by rfl) (by rfl) rfl (bv_one _) (by decide) (by decide)) ?_
    rintro _ _ ⟨b38, rfl, rfl⟩
    refine LE (os_bslv (vs := [.slice cq c.length cc, .slice (some ⟨b38, 0, none⟩) 1 1]) T.un30 T.ti22 (by rfl) (by rfl) rfl (hone2 _ _ _ _) (by decide) (by decide)) ?_
    rintro _ _ ⟨b39, rfl, rfl⟩
    refine L1 (os_callI (ho2 b38 b39) Tryd.func9 (by decide +kernel) rfl rfl (pkc (by repeat (first | exact pk_head _ _ | apply pk_tail)) (pkc (by repeat (first | exact pk_head _ _ | apply pk_tail)) (pkc (by repeat (first | exact pk_head _ _ | apply pk_tail)) (pkn _))))) ?_
    refine L1 (ps_agg_diff T.eq25 rfl rfl (by exact hkv)).os ?_
    refine LW.nil ?_
    repeat (first | refine CW.seq ?_ | refine PW.then_ ?_ | refine PW.then_to rfl ?_ | refine CW.block ?_ | refine CW.skip ?_ | refine CW.ret ?_ | refine PW.then_ret ?_ | refine PW.block_ret ?_ | refine Cut.ret ?_ | refine Rnd.ret ?_ | refine PW.block_normal ?_ | refine CW.exit ?_ | refine PW.then_exit ?_ | refine PW.block_hit ?_ | refine PW.block_miss rfl ?_ | refine Cut.exit ?_ | refine Rnd.exit ?_)
    refine CW.cond_false rfl ?_
    repeat (first | refine CW.seq ?_ | refine PW.then_ ?_ | refine PW.then_to rfl ?_ | refine CW.block ?_ | refine CW.skip ?_ | refine CW.ret ?_ | refine PW.then_ret ?_ | refine PW.block_ret ?_ | refine Cut.ret ?_ | refine Rnd.ret ?_ | refine PW.block_normal ?_ | refine CW.exit ?_ | refine PW.then_exit ?_ | refine PW.block_hit ?_ | refine PW.block_miss rfl ?_ | refine Cut.exit ?_ | refine Rnd.exit ?_)
    refine CW.region ?_
    refine L1 (os_load1 (b := b6) (v := .slice wq i wd) (by repeat (first | exact pk_head _ _ | apply pk_tail)) T.ag34 rfl rfl) ?_
    refine L1 (ps_move rfl).os ?_
    refine L1 (os_str c T.un22 T.un5 T.un9 rfl rfl (hbi.src (by repeat (first | exact pk_head _ _ | apply pk_tail)))) ?_
    refine L1 (ps_strV_add c [7] rfl rfl (by unfold maxLen; simp only [List.length_cons, List.length_nil]; omega)).os ?_
    refine LE (os_bslv (vs := [strV (c ++ [7])]) T.un34 T.ti9 (by rfl) (by rfl) rfl (by simp [strV, Value.oneCell']) (by decide) (by decide)) ?_
    rintro _ _ ⟨b46, rfl, rfl⟩
    refine LE (os_append (xs := (es.map (·.2)).map strV) (news := [strV (c ++ [7])]) (by repeat (first | exact pk_head _ _ | apply pk_tail)) T.un34 T.ti9 (by rfl) (by decide) rfl rfl rfl (Src.cb (b := b46) (by repeat (first | exact pk_head _ _ | apply pk_tail)) rfl) (by simp [strV, Value.oneCell']) (by unfold maxLen; omega) (by omega)) ?_
    rintro _ _ ⟨wq', wd', rfl, rfl, hwq'⟩
    refine L1 (os_store1 (b := b6) (by repeat (first | exact pk_head _ _ | apply pk_tail)) T.sz34 rfl rfl (by rfl) (by exact Nat.zero_lt_one)) ?_
    refine LW.nil ?_
    repeat (first | refine CW.seq ?_ | refine PW.then_ ?_ | refine PW.then_to rfl ?_ | refine CW.block ?_ | refine CW.skip ?_ | refine CW.ret ?_ | refine PW.then_ret ?_ | refine PW.block_ret ?_ | refine Cut.ret ?_ | refine Rnd.ret ?_ | refine PW.block_normal ?_ | refine CW.exit ?_ | refine PW.then_exit ?_ | refine PW.block_hit ?_ | refine PW.block_miss rfl ?_ | refine Cut.exit ?_ | refine Rnd.exit ?_)
    refine CW.region ?_
    refine L1 (ps_move rfl).os ?_
    refine L1 (ps_len_sl T.un22 rfl).os ?_
    refine L1 (ps_move rfl).os ?_
    refine LW.nil ?_
    repeat (first | refine CW.seq ?_ | refine PW.then_ ?_)
    refine Piece.use (bump xq c.length xd c rfl (by omega) x3) ⟨rfl, rfl, rfl, trivial⟩ (pkc (by repeat (first | exact pk_head _ _ | apply pk_tail)) (pkn _)) ?_
    rintro cs' _ _
    show PW _ _ _ _ _ (_ :: _)
    repeat (first | refine CW.seq ?_ | refine PW.then_ ?_ | refine PW.then_to rfl ?_ | refine CW.block ?_ | refine CW.skip ?_ | refine CW.ret ?_ | refine PW.then_ret ?_ | refine PW.block_ret ?_ | refine Cut.ret ?_ | refine Rnd.ret ?_ | refine PW.block_normal ?_ | refine CW.exit ?_ | refine PW.then_exit ?_ | refine PW.block_hit ?_ | refine PW.block_miss rfl ?_ | refine Cut.exit ?_ | refine Rnd.exit ?_)
    refine CW.region ?_
    refine L1 (ps_add_i64 rfl rfl (by omega) (by omega)).os ?_
    refine L1 (ps_move rfl).os ?_
    refine LW.nil ?_
    have hnew : ∀ e ∈ es ++ [(Value.slice tp (c ++ [7]).length tc, c ++ [7])], ByR (entA e) e.1 e.2 := fun e he => by
      rcases List.mem_append.1 he with he | he
      · exact hby e he
      · obtain rfl := List.mem_singleton.1 he
        exact ByR.own rfl y1 y3
    refine Meet.round (l.length - (i + 1)) (i + 1, (tq', td'), (wq', wd'), es ++ [(Value.slice tp (c ++ [7]).length tc, c ++ [7])]) (by omega) ⟨hlt, by rw [List.map_append, hes2]; rfl, hnew, rfl⟩ (by repeat (first | (with_reducible exact Ag.refl _ _) | (with_reducible apply Ag.pu0) | ((with_reducible refine Ag.pu _ ?_ ?_); · exact rfl) | ((with_reducible refine Ag.mix ?_ ?_); · exact rfl) | ((with_reducible refine Ag.pus ?_ ?_); · exact rfl))) ⟨rfl, trivial⟩ ?_
    dsimp only
    have e1 : (es ++ [(Value.slice tp (c ++ [7]).length tc, c ++ [(7 : UInt8)])]).map (fun x : Value × List UInt8 => x.1) = es.map (fun x : Value × List UInt8 => x.1) ++ [.slice tp (c ++ [7]).length tc] := by rw [List.map_append]; rfl
    have e2 : ((es ++ [(Value.slice tp (c ++ [7]).length tc, c ++ [(7 : UInt8)])]).map (fun x : Value × List UInt8 => x.2)).map strV = (es.map (fun x : Value × List UInt8 => x.2)).map strV ++ [strV (c ++ [7])] := by rw [List.map_append, List.map_append]; rfl
    rw [e1, e2]
    exact Ent.trans (Bs := slOwn 5 1 (.slice tp (c ++ [7]).length tc) (c ++ [7]).length (bv (c ++ [7])) :: AllP (es.map entA) :: cb tb 33 [.slice tq' (i + 1) td'] :: slOwn 22 1 (.slice tq' (i + 1) td') (i + 1) (es.map (·.1) ++ [.slice tp (c ++ [7]).length tc]) :: cb b6 34 [.slice wq' (i + 1) wd'] :: slOwn 9 1 (.slice wq' (i + 1) wd') (i + 1) ((es.map (·.2)).map strV ++ [strV (c ++ [7])]) :: cb b4 4 [.bool false] :: cb b3 3 [.int .i64 stop] :: E :: F) (by repeat (first | exact Ent.refl _ | (apply Ent.cons; · repeat (first | exact pk_head _ _ | apply pk_tail)) | apply Ent.skip)) (Ent.trans (ent_all es _ _ _) (by repeat (first | exact Ent.refl _ | (apply Ent.cons; · repeat (first | exact pk_head _ _ | apply pk_tail)) | apply Ent.skip)))
  have hil : i = l.length := by omega
  subst hil
  have hel : es.length = l.length := by have := congrArg List.length hes; simpa using this
  generalize hn : l.length = n at *
  refine CW.region ?_
  refine L1 (ps_f (ps_lss rfl rfl) (by omega)).os ?_
  refine LW.nil ?_
  repeat (first | refine CW.seq ?_ | refine PW.then_ ?_ | refine PW.then_to rfl ?_ | refine CW.block ?_ | refine CW.skip ?_ | refine CW.ret ?_ | refine PW.then_ret ?_ | refine PW.block_ret ?_ | refine Cut.ret ?_ | refine Rnd.ret ?_ | refine PW.block_normal ?_ | refine CW.exit ?_ | refine PW.then_exit ?_ | refine PW.block_hit ?_ | refine PW.block_miss rfl ?_ | refine Cut.exit ?_ | refine Rnd.exit ?_)
  refine CW.cond_false rfl ?_
  repeat (first | refine CW.seq ?_ | refine PW.then_ ?_ | refine PW.then_to rfl ?_ | refine CW.block ?_ | refine CW.skip ?_ | refine CW.ret ?_ | refine PW.then_ret ?_ | refine PW.block_ret ?_ | refine Cut.ret ?_ | refine Rnd.ret ?_ | refine PW.block_normal ?_ | refine CW.exit ?_ | refine PW.then_exit ?_ | refine PW.block_hit ?_ | refine PW.block_miss rfl ?_ | refine Cut.exit ?_ | refine Rnd.exit ?_)
  refine CW.region ?_
  refine LE (os_alloc T.ti3) ?_
  rintro _ _ ⟨b11, rfl, rfl⟩
  refine L1 (os_store1 (by repeat (first | exact pk_head _ _ | apply pk_tail)) T.sz3 rfl rfl (by rfl) (Nat.le_of_ble_eq_true rfl)) ?_
  refine LW.nil ?_
  repeat (first | refine CW.seq ?_ | refine PW.then_ ?_ | refine PW.then_to rfl ?_ | refine CW.block ?_ | refine CW.skip ?_ | refine CW.ret ?_ | refine PW.then_ret ?_ | refine PW.block_ret ?_ | refine Cut.ret ?_ | refine Rnd.ret ?_ | refine PW.block_normal ?_ | refine CW.exit ?_ | refine PW.then_exit ?_ | refine PW.block_hit ?_ | refine PW.block_miss rfl ?_ | refine Cut.exit ?_ | refine Rnd.exit ?_)
  refine CW.region ?_
  refine L1 (ps_move rfl).os ?_
  refine L1 (ps_func (va := #[.pointer (some ⟨tb, 0, none⟩)]) (vb := #[]) (by simp only [List.map_toArray, List.map_cons, List.map_nil]; rfl) (by simp)).os ?_
  refine LW.nil ?_
  repeat (first | refine CW.seq ?_ | refine PW.then_ ?_)
  refine slOwn_info (m := n) (q := wq) (d := wd) (xs := (es.map (·.2)).map strV) (by repeat (first | exact pk_head _ _ | apply pk_tail)) fun w1 w2 w3 => ?_
  refine slOwn_info (m := n) (q := tq) (d := td) (xs := es.map (·.1)) (by repeat (first | exact pk_head _ _ | apply pk_tail)) fun t1 t2 t3 => ?_
  have hRw : RowsR (slOwn 22 1 (.slice tq n td) n (es.map (·.1))) (.slice tq n td) 1 ((es.map (·.1)).map fun v => [v]) := by
    have := RowsR.own (e := 22) (s := 1) (m := n) (d := td) (q := tq) ((es.map (·.1)).map fun v => [v]) (fun r hr => by obtain ⟨x, _, rfl⟩ := List.mem_map.1 hr; rfl) (by simpa using hel) t1 t2 t3
    rwa [flat_single] at this
  have hnm : n ≤ 20 := by omega
  have hbE : ∀ e ∈ es, ByR (AllP (es.map entA)) e.1 e.2 := fun e he => ByR.all (List.mem_map.2 ⟨e, he, rfl⟩) (hby e he)
  obtain ⟨EN, hEN⟩ : ∃ EN, AllP (es.map entA) = EN := ⟨_, rfl⟩
  rw [hEN] at hbE
  obtain ⟨TV, hTV⟩ : ∃ TV, slOwn 22 1 (.slice tq n td) n (es.map (·.1)) = TV := ⟨_, rfl⟩
  rw [hTV] at hRw
  have hWS := fun As Bs (hp : List.Perm As (slOwn 9 1 (.slice wq n wd) n ((es.map (·.2)).map strV) :: Bs)) => Src.own (by simpa using hel) w3 hp
  obtain ⟨WS, hWSe⟩ : ∃ WS, slOwn 9 1 (.slice wq n wd) n ((es.map (·.2)).map strV) = WS := ⟨_, rfl⟩
  rw [hWSe] at hWS
  rw [hEN, hTV, hWSe]
  have hvl : (es.map (fun x : Value × List UInt8 => x.1)).length = n := by simpa using hel
  refine CW.rangeBlock (bound := [.pointer (some ⟨tb, 0, none⟩)]) (caps := []) (fun Cs => ∃ kk : Nat, (kk = n ∨ (kk : Int) = stop) ∧ kk ≤ n ∧ Cs = cb tb 33 [.slice tq n td] :: cb b11 3 [.int .i64 (kk : Int)] :: cb b4 4 [.bool false] :: cb b3 3 [.int .i64 stop] :: E :: F) rfl Tryd.func11 (by decide +kernel) rfl ?_ ?_
  · intro fid D L rec hrec
    refine (All_spec tb n td tq L (es.map (·.1)) hvl (by omega) TV hRw
      (fun kk As => As = pt L (.loop (rec .ready none)) :: pt D (.deferred (some [])) :: EN :: cb b6 34 [.slice wq n wd] :: WS :: cb b11 3 [.int .i64 (kk : Int)] :: cb b4 4 [.bool false] :: cb b3 3 [.int .i64 stop] :: E :: F)
      (fun kk As => (kk : Int) = stop ∧ As = pt L (.loop (rec .done (some (.exit 4)))) :: pt D (.deferred (some [])) :: EN :: cb b6 34 [.slice wq n wd] :: WS :: cb b11 3 [.int .i64 (kk : Int)] :: cb b4 4 [.bool false] :: cb b3 3 [.int .i64 stop] :: E :: F)
      ?_ _ rfl).mono ?_ ?_
    · rintro kk hkk As rfl
      have hke : kk < es.length := by simpa using hkk
      simp only [List.getElem_map]
      obtain ⟨wb, rfl⟩ := w3 (by omega)
      have hbk := hbE es[kk] (List.getElem_mem hke)
      have hwk : ∀ As Bs : List Asn, As.Perm (WS :: Bs) → Src As (some ⟨wb, 0 + ((kk : Nat) : Int).toNat * 1, none⟩) [strV es[kk].2] := fun As Bs hp => by
        rw [show 0 + ((kk : Nat) : Int).toNat * 1 = 0 + kk by omega]
        exact Src.get (hWS As Bs hp) (by simp [hke])
      obtain ⟨⟨vv, c⟩, hec⟩ : ∃ x, es[kk] = x := ⟨_, rfl⟩
      rw [hec] at hbk hwk ⊢
      dsimp only at hbk hwk ⊢
      have hbk0 := hbk
      obtain ⟨cq, cc, rfl, hcc, -⟩ := hbk0
      refine (YSpec.rnd1 (As := cb tb 33 [.slice tq n td] :: TV :: pt D (.deferred (some [])) :: EN :: cb b6 34 [.slice (some ⟨wb, 0, none⟩) n wd] :: WS :: cb b11 3 [.int .i64 (kk : Int)] :: cb b4 4 [.bool false] :: cb b3 3 [.int .i64 stop] :: E :: F)
        (post := fun b Bs => (b = true ∧ Bs = pt L (.loop (rec .ready none)) :: cb tb 33 [.slice tq n td] :: TV :: pt D (.deferred (some [])) :: EN :: cb b6 34 [.slice (some ⟨wb, 0, none⟩) n wd] :: WS :: cb b11 3 [.int .i64 ((kk + 1 : Nat) : Int)] :: cb b4 4 [.bool false] :: cb b3 3 [.int .i64 stop] :: E :: F) ∨
          (b = false ∧ (kk : Int) = stop ∧ Bs = pt L (.loop (rec .done (some (.exit 4)))) :: cb tb 33 [.slice tq n td] :: TV :: pt D (.deferred (some [])) :: EN :: cb b6 34 [.slice (some ⟨wb, 0, none⟩) n wd] :: WS :: cb b11 3 [.int .i64 (kk : Int)] :: cb b4 4 [.bool false] :: cb b3 3 [.int .i64 stop] :: E :: F)) hrec fun hLR w1 G => ?_).mono (by repeat (first | exact Ent.refl _ | (apply Ent.cons; · repeat (first | exact pk_head _ _ | apply pk_tail)) | apply Ent.skip)) ?_
      · show CW _ _ _ _ _ _ (_ :: _ :: _ :: _ :: _ :: _ :: _ :: _ :: _ :: _ :: _ :: (F ++ G))
        repeat (first | refine CW.seq ?_ | refine PW.then_ ?_ | refine PW.then_to rfl ?_ | refine CW.block ?_ | refine CW.skip ?_ | refine CW.ret ?_ | refine PW.then_ret ?_ | refine PW.block_ret ?_ | refine Cut.ret ?_ | refine Rnd.ret ?_ | refine PW.block_normal ?_ | refine CW.exit ?_ | refine PW.then_exit ?_ | refine PW.block_hit ?_ | refine PW.block_miss rfl ?_ | refine Cut.exit ?_ | refine Rnd.exit ?_)
        refine CW.region ?_
        refine L1 (ps_assign rfl).os ?_
        refine LW.nil ?_
        refine RA.begin hLR (by repeat (first | exact pk_head _ _ | apply pk_tail)) ?_
        repeat (first | refine CW.seq ?_ | refine PW.then_ ?_ | refine PW.then_to rfl ?_ | refine CW.block ?_ | refine CW.skip ?_ | refine CW.ret ?_ | refine PW.then_ret ?_ | refine PW.block_ret ?_ | refine Cut.ret ?_ | refine Rnd.ret ?_ | refine PW.block_normal ?_ | refine CW.exit ?_ | refine PW.then_exit ?_ | refine PW.block_hit ?_ | refine PW.block_miss rfl ?_ | refine Cut.exit ?_ | refine Rnd.exit ?_)
        by_cases hks : (kk : Int) = stop
        · refine CW.region ?_
          refine L1 (os_load1 (b := b11) (v := .int .i64 (kk : Int)) (by repeat (first | exact pk_head _ _ | apply pk_tail)) T.ag3 rfl rfl) ?_
          refine L1 (os_load1 (b := b3) (v := .int .i64 stop) (by repeat (first | exact pk_head _ _ | apply pk_tail)) T.ag3 rfl rfl) ?_
          refine L1 (ps_t (ps_eql rfl rfl) (hks)).os ?_
          refine LW.nil ?_
          repeat (first | refine CW.seq ?_ | refine PW.then_ ?_ | refine PW.then_to rfl ?_ | refine CW.block ?_ | refine CW.skip ?_ | refine CW.ret ?_ | refine PW.then_ret ?_ | refine PW.block_ret ?_ | refine Cut.ret ?_ | refine Rnd.ret ?_ | refine PW.block_normal ?_ | refine CW.exit ?_ | refine PW.then_exit ?_ | refine PW.block_hit ?_ | refine PW.block_miss rfl ?_ | refine Cut.exit ?_ | refine Rnd.exit ?_)
          refine CW.cond_true rfl ?_
          repeat (first | refine CW.seq ?_ | refine PW.then_ ?_ | refine PW.then_to rfl ?_ | refine CW.block ?_ | refine CW.skip ?_ | refine CW.ret ?_ | refine PW.then_ret ?_ | refine PW.block_ret ?_ | refine Cut.ret ?_ | refine Rnd.ret ?_ | refine PW.block_normal ?_ | refine CW.exit ?_ | refine PW.then_exit ?_ | refine PW.block_hit ?_ | refine PW.block_miss rfl ?_ | refine Cut.exit ?_ | refine Rnd.exit ?_)
          exact RQ.out hLR (by repeat (first | exact pk_head _ _ | apply pk_tail)) (by repeat (first | exact Ent.refl _ | (apply Ent.cons; · repeat (first | exact pk_head _ _ | apply pk_tail)) | apply Ent.skip)) (Or.inr ⟨rfl, hks, rfl⟩)
        · refine CW.region ?_
          refine L1 (os_load1 (b := b11) (v := .int .i64 (kk : Int)) (by repeat (first | exact pk_head _ _ | apply pk_tail)) T.ag3 rfl rfl) ?_
          refine L1 (os_load1 (b := b3) (v := .int .i64 stop) (by repeat (first | exact pk_head _ _ | apply pk_tail)) T.ag3 rfl rfl) ?_
          refine L1 (ps_f (ps_eql rfl rfl) (hks)).os ?_
          refine LW.nil ?_
          repeat (first | refine CW.seq ?_ | refine PW.then_ ?_ | refine PW.then_to rfl ?_ | refine CW.block ?_ | refine CW.skip ?_ | refine CW.ret ?_ | refine PW.then_ret ?_ | refine PW.block_ret ?_ | refine Cut.ret ?_ | refine Rnd.ret ?_ | refine PW.block_normal ?_ | refine CW.exit ?_ | refine PW.then_exit ?_ | refine PW.block_hit ?_ | refine PW.block_miss rfl ?_ | refine Cut.exit ?_ | refine Rnd.exit ?_)
          refine CW.cond_false rfl ?_
          repeat (first | refine CW.seq ?_ | refine PW.then_ ?_ | refine PW.then_to rfl ?_ | refine CW.block ?_ | refine CW.skip ?_ | refine CW.ret ?_ | refine PW.then_ret ?_ | refine PW.block_ret ?_ | refine Cut.ret ?_ | refine Rnd.ret ?_ | refine PW.block_normal ?_ | refine CW.exit ?_ | refine PW.then_exit ?_ | refine PW.block_hit ?_ | refine PW.block_miss rfl ?_ | refine Cut.exit ?_ | refine Rnd.exit ?_)
          refine CW.cutB (α := Unit) [67, 68, 69, 70, 71, 72, 73, 74, 75, 76, 77, 78, 79] (fun _ => True) (fun _ => [(79, .bool false)]) (fun _ => pt L (.loop (rec .busy none)) :: cb tb 33 [.slice tq n td] :: TV :: pt D (.deferred (some [])) :: EN :: cb b6 34 [.slice (some ⟨wb, 0, none⟩) n wd] :: WS :: cb b11 3 [.int .i64 (kk : Int)] :: cb b4 4 [.bool false] :: cb b3 3 [.int .i64 stop] :: E :: (F ++ G)) ?_ ?_
          · refine CW.drawHR [cb b11 3 [.int .i64 (kk : Int)], cb b6 34 [.slice (some ⟨wb, 0, none⟩) n wd], WS] [] T.mixed ?_ (by kernel_rfl)
            refine H_take (i := 0) (some 67) rfl rfl (by kernel_rfl) (by kernel_rfl) (by kernel_rfl) rfl (pl_load1 (b := b11) (v := .int .i64 (kk : Int)) (by repeat (first | exact pk_head _ _ | apply pk_tail)) T.ag3 rfl rfl) (by kernel_rfl) (pkc (by repeat (first | exact pk_head _ _ | apply pk_tail)) (pkc (by repeat (first | exact pk_head _ _ | apply pk_tail)) (pkc (by repeat (first | exact pk_head _ _ | apply pk_tail)) (pkn _)))) ?_
            refine H_take (i := 1) (some 68) rfl rfl (by kernel_rfl) (by kernel_rfl) (by kernel_rfl) rfl (pl_load1 (b := b6) (v := .slice (some ⟨wb, 0, none⟩) n wd) (by repeat (first | exact pk_head _ _ | apply pk_tail)) T.ag34 rfl rfl) (by kernel_rfl) (pkc (by repeat (first | exact pk_head _ _ | apply pk_tail)) (pkc (by repeat (first | exact pk_head _ _ | apply pk_tail)) (pkc (by repeat (first | exact pk_head _ _ | apply pk_tail)) (pkn _)))) ?_
            refine H_take (i := 2) (some 69) rfl rfl (by kernel_rfl) (by kernel_rfl) (by kernel_rfl) rfl (ps_len_sl T.un34 rfl).pl (by kernel_rfl) (pkc (by repeat (first | exact pk_head _ _ | apply pk_tail)) (pkc (by repeat (first | exact pk_head _ _ | apply pk_tail)) (pkc (by repeat (first | exact pk_head _ _ | apply pk_tail)) (pkn _)))) ?_
            refine H_take (i := 3) (some 70) rfl rfl (by kernel_rfl) (by kernel_rfl) (by kernel_rfl) rfl (ps_f (ps_geq rfl rfl) (by omega)).pl (by kernel_rfl) (pkc (by repeat (first | exact pk_head _ _ | apply pk_tail)) (pkc (by repeat (first | exact pk_head _ _ | apply pk_tail)) (pkc (by repeat (first | exact pk_head _ _ | apply pk_tail)) (pkn _)))) ?_
            refine H_take (i := 4) (some 71) rfl rfl (by kernel_rfl) (by kernel_rfl) (by kernel_rfl) rfl (ps_move rfl).pl (by kernel_rfl) (pkc (by repeat (first | exact pk_head _ _ | apply pk_tail)) (pkc (by repeat (first | exact pk_head _ _ | apply pk_tail)) (pkc (by repeat (first | exact pk_head _ _ | apply pk_tail)) (pkn _)))) ?_
            refine H_take (i := 5) (some 72) rfl rfl (by kernel_rfl) (by kernel_rfl) (by kernel_rfl) rfl (ps_move rfl).pl (by kernel_rfl) (pkc (by repeat (first | exact pk_head _ _ | apply pk_tail)) (pkc (by repeat (first | exact pk_head _ _ | apply pk_tail)) (pkc (by repeat (first | exact pk_head _ _ | apply pk_tail)) (pkn _)))) ?_
            refine H_take (i := 7) (some 74) rfl rfl (by kernel_rfl) (by kernel_rfl) (by kernel_rfl) rfl (pl_load1 (b := b6) (v := .slice (some ⟨wb, 0, none⟩) n wd) (by repeat (first | exact pk_head _ _ | apply pk_tail)) T.ag34 rfl rfl) (by kernel_rfl) (pkc (by repeat (first | exact pk_head _ _ | apply pk_tail)) (pkc (by repeat (first | exact pk_head _ _ | apply pk_tail)) (pkc (by repeat (first | exact pk_head _ _ | apply pk_tail)) (pkn _)))) ?_
            refine H_take (i := 8) (some 75) rfl rfl (by kernel_rfl) (by kernel_rfl) (by kernel_rfl) rfl (pl_load1 (b := b11) (v := .int .i64 (kk : Int)) (by repeat (first | exact pk_head _ _ | apply pk_tail)) T.ag3 rfl rfl) (by kernel_rfl) (pkc (by repeat (first | exact pk_head _ _ | apply pk_tail)) (pkc (by repeat (first | exact pk_head _ _ | apply pk_tail)) (pkc (by repeat (first | exact pk_head _ _ | apply pk_tail)) (pkn _)))) ?_
            refine H_take (i := 9) (some 76) rfl rfl (by kernel_rfl) (by kernel_rfl) (by kernel_rfl) rfl (ps_ia_slice T.un34 T.sz9 rfl rfl (by omega) (by omega)).pl (by kernel_rfl) (pkc (by repeat (first | exact pk_head _ _ | apply pk_tail)) (pkc (by repeat (first | exact pk_head _ _ | apply pk_tail)) (pkc (by repeat (first | exact pk_head _ _ | apply pk_tail)) (pkn _)))) ?_
            refine H_take (i := 10) (some 77) rfl rfl (by kernel_rfl) (by kernel_rfl) (by kernel_rfl) rfl (pl_loadS1 (v := strV c) (fun Bs => hwk _ _ (by repeat (first | exact pk_head _ _ | apply pk_tail))) T.ag9 rfl) (by kernel_rfl) (pkc (by repeat (first | exact pk_head _ _ | apply pk_tail)) (pkc (by repeat (first | exact pk_head _ _ | apply pk_tail)) (pkc (by repeat (first | exact pk_head _ _ | apply pk_tail)) (pkn _)))) ?_
            refine H_branch (rs := [6]) (by kernel_rfl) (by simp) ?_
            refine HR.cons1 (i := 6) (some 73) rfl rfl rfl (os_str c T.un22 T.un5 T.un9 rfl rfl (hbk.src (by repeat (first | exact pk_head _ _ | apply pk_tail)))) (pkc (by repeat (first | exact pk_head _ _ | apply pk_tail)) (pkc (by repeat (first | exact pk_head _ _ | apply pk_tail)) (pkc (by repeat (first | exact pk_head _ _ | apply pk_tail)) (pkn _)))) ?_ ?_
            · skip
              refine H_take (i := 11) (some 78) rfl rfl (by kernel_rfl) (by kernel_rfl) (by kernel_rfl) rfl (ps_f (ps_strV_neq c c rfl rfl) (fun h => h rfl)).pl (by kernel_rfl) (pkc (by repeat (first | exact pk_head _ _ | apply pk_tail)) (pkc (by repeat (first | exact pk_head _ _ | apply pk_tail)) (pkc (by repeat (first | exact pk_head _ _ | apply pk_tail)) (pkn _)))) ?_
              refine H_take (i := 12) (some 79) rfl rfl (by kernel_rfl) (by kernel_rfl) (by kernel_rfl) rfl (ps_pick_f rfl rfl).pl (by kernel_rfl) (pkc (by repeat (first | exact pk_head _ _ | apply pk_tail)) (pkc (by repeat (first | exact pk_head _ _ | apply pk_tail)) (pkc (by repeat (first | exact pk_head _ _ | apply pk_tail)) (pkn _)))) ?_
              refine H_done (by kernel_rfl) ?_
              refine PW.toRound (r := some L) ?_
              exact Meet.cut () trivial (by repeat (first | (with_reducible exact Ag.refl _ _) | (with_reducible apply Ag.pu0) | ((with_reducible refine Ag.pu _ ?_ ?_); · exact rfl) | ((with_reducible refine Ag.mix ?_ ?_); · exact rfl) | ((with_reducible refine Ag.pus ?_ ?_); · exact rfl))) ⟨rfl, trivial⟩ (by repeat (first | exact Ent.refl _ | (apply Ent.cons; · repeat (first | exact pk_head _ _ | apply pk_tail)) | apply Ent.skip))
            exact HR.nil
          intro _ _ _
          repeat (first | refine CW.seq ?_ | refine PW.then_ ?_ | refine PW.then_to rfl ?_ | refine CW.block ?_ | refine CW.skip ?_ | refine CW.ret ?_ | refine PW.then_ret ?_ | refine PW.block_ret ?_ | refine Cut.ret ?_ | refine Rnd.ret ?_ | refine PW.block_normal ?_ | refine CW.exit ?_ | refine PW.then_exit ?_ | refine PW.block_hit ?_ | refine PW.block_miss rfl ?_ | refine Cut.exit ?_ | refine Rnd.exit ?_)
          refine CW.cond_false rfl ?_
          repeat (first | refine CW.seq ?_ | refine PW.then_ ?_ | refine PW.then_to rfl ?_ | refine CW.block ?_ | refine CW.skip ?_ | refine CW.ret ?_ | refine PW.then_ret ?_ | refine PW.block_ret ?_ | refine Cut.ret ?_ | refine Rnd.ret ?_ | refine PW.block_normal ?_ | refine CW.exit ?_ | refine PW.then_exit ?_ | refine PW.block_hit ?_ | refine PW.block_miss rfl ?_ | refine Cut.exit ?_ | refine Rnd.exit ?_)
          refine CW.region ?_
          refine L1 (os_load1 (b := b11) (v := .int .i64 (kk : Int)) (by repeat (first | exact pk_head _ _ | apply pk_tail)) T.ag3 rfl rfl) ?_
          refine L1 (ps_to (u := .int .i64 ((kk + 1 : Nat) : Int)) (by rfl) (ps_add_i64 rfl rfl (by omega) (by omega))).os ?_
          refine L1 (os_store1 (b := b11) (by repeat (first | exact pk_head _ _ | apply pk_tail)) T.sz3 rfl rfl (by rfl) (by exact Nat.zero_lt_one)) ?_
          refine LW.nil ?_
          repeat (first | refine CW.seq ?_ | refine PW.then_ ?_ | refine PW.then_to rfl ?_ | refine CW.block ?_ | refine CW.skip ?_ | refine CW.ret ?_ | refine PW.then_ret ?_ | refine PW.block_ret ?_ | refine Cut.ret ?_ | refine Rnd.ret ?_ | refine PW.block_normal ?_ | refine CW.exit ?_ | refine PW.then_exit ?_ | refine PW.block_hit ?_ | refine PW.block_miss rfl ?_ | refine Cut.exit ?_ | refine Rnd.exit ?_)
          exact RQ.on hLR (by repeat (first | exact pk_head _ _ | apply pk_tail)) (by repeat (first | exact Ent.refl _ | (apply Ent.cons; · repeat (first | exact pk_head _ _ | apply pk_tail)) | apply Ent.skip)) (Or.inl ⟨rfl, rfl⟩)
      · rintro b Bs (⟨rfl, rfl⟩ | ⟨rfl, hks, rfl⟩)
        · exact ⟨_, ⟨_, Or.inl ⟨rfl, rfl⟩, rfl⟩, (by repeat (first | exact Ent.refl _ | (apply Ent.cons; · repeat (first | exact pk_head _ _ | apply pk_tail)) | apply Ent.skip))⟩
        · exact ⟨_, ⟨_, Or.inr ⟨rfl, hks, rfl⟩, rfl⟩, (by repeat (first | exact Ent.refl _ | (apply Ent.cons; · repeat (first | exact pk_head _ _ | apply pk_tail)) | apply Ent.skip))⟩
    · exact (by repeat (first | exact Ent.refl _ | (apply Ent.cons; · repeat (first | exact pk_head _ _ | apply pk_tail)) | apply Ent.skip))
    · rintro r As ⟨rfl, As', (rfl | ⟨kk, hkn, hks, rfl⟩), rfl⟩
      · exact ⟨_, ⟨none, .ready, _, (fun h => by cases h), Or.inl rfl, ⟨n, Or.inl rfl, Nat.le_refl _, rfl⟩, rfl⟩, (by repeat (first | exact Ent.refl _ | (apply Ent.cons; · repeat (first | exact pk_head _ _ | apply pk_tail)) | apply Ent.skip))⟩
      · exact ⟨_, ⟨_, .done, _, (fun h => by cases h), Or.inr rfl, ⟨kk, Or.inr hks, by omega, rfl⟩, rfl⟩, (by repeat (first | exact Ent.refl _ | (apply Ent.cons; · repeat (first | exact pk_head _ _ | apply pk_tail)) | apply Ent.skip))⟩
  · rintro D _ ⟨kk, hkk, hkn, rfl⟩
    repeat (first | refine CW.seq ?_ | refine PW.then_ ?_ | refine PW.then_to rfl ?_ | refine CW.block ?_ | refine CW.skip ?_ | refine CW.ret ?_ | refine PW.then_ret ?_ | refine PW.block_ret ?_ | refine Cut.ret ?_ | refine Rnd.ret ?_ | refine PW.block_normal ?_ | refine CW.exit ?_ | refine PW.then_exit ?_ | refine PW.block_hit ?_ | refine PW.block_miss rfl ?_ | refine Cut.exit ?_ | refine Rnd.exit ?_)
    refine CW.region ?_
    refine L1 (ps_assign rfl).os ?_
    refine LW.nil ?_
    repeat (first | refine CW.seq ?_ | refine PW.then_ ?_ | refine PW.then_to rfl ?_ | refine CW.block ?_ | refine CW.skip ?_ | refine CW.ret ?_ | refine PW.then_ret ?_ | refine PW.block_ret ?_ | refine Cut.ret ?_ | refine Rnd.ret ?_ | refine PW.block_normal ?_ | refine CW.exit ?_ | refine PW.then_exit ?_ | refine PW.block_hit ?_ | refine PW.block_miss rfl ?_ | refine Cut.exit ?_ | refine Rnd.exit ?_)
    refine CW.region ?_
    refine L1 (ps_move rfl).os ?_
    refine L1 (ps_func (va := #[.pointer none]) (vb := #[]) (by simp only [List.map_toArray, List.map_cons, List.map_nil]; rfl) (by simp)).os ?_
    refine LW.nil ?_
    repeat (first | refine CW.seq ?_ | refine PW.then_ ?_ | refine PW.then_to rfl ?_)
    refine CW.rangeBlock (bound := [.pointer none]) (caps := []) (fun Cs => Cs = pt D (.deferred (some [])) :: cb tb 33 [.slice tq n td] :: cb b11 3 [.int .i64 (kk : Int)] :: cb b4 4 [.bool false] :: cb b3 3 [.int .i64 stop] :: E :: F) rfl Tryd.func11 (by decide +kernel) rfl ?_ ?_
    · intro fid D2 L rec hrec
      refine ((All_nil _).frame _).mono (Ent.refl _) ?_
      rintro r As ⟨Cs, ⟨rfl, rfl⟩, rfl⟩
      exact ⟨_, ⟨none, .ready, _, (fun h => by cases h), Or.inl rfl, rfl, rfl⟩, (by repeat (first | exact Ent.refl _ | (apply Ent.cons; · repeat (first | exact pk_head _ _ | apply pk_tail)) | apply Ent.skip))⟩
    · rintro D2 _ rfl
      repeat (first | refine CW.seq ?_ | refine PW.then_ ?_ | refine PW.then_to rfl ?_ | refine CW.block ?_ | refine CW.skip ?_ | refine CW.ret ?_ | refine PW.then_ret ?_ | refine PW.block_ret ?_ | refine Cut.ret ?_ | refine Rnd.ret ?_ | refine PW.block_normal ?_ | refine CW.exit ?_ | refine PW.then_exit ?_ | refine PW.block_hit ?_ | refine PW.block_miss rfl ?_ | refine Cut.exit ?_ | refine Rnd.exit ?_)
      by_cases hkl : (kk : Int) = (n : Int)
      · refine CW.region ?_
        refine L1 (ps_move rfl).os ?_
        refine L1 (os_call1 (Len_spec tb n td tq) Tryd.func12 (by decide +kernel) rfl rfl (by repeat (first | exact pk_head _ _ | apply pk_tail))) ?_
        refine L1 (ps_move rfl).os ?_
        refine L1 (ps_len_sl T.un30 rfl).os ?_
        refine L1 (ps_t (ps_eql rfl rfl) (rfl)).os ?_
        refine L1 (ps_move rfl).os ?_
        refine LG1 ?_ (ps_move rfl).os ?_
        · exact rfl
        refine LG1 ?_ (os_call0 Len_nil Tryd.func12 (by decide +kernel) rfl rfl) ?_
        · exact rfl
        refine LG1 ?_ (ps_t (ps_eql rfl rfl) (rfl)).os ?_
        · exact rfl
        refine L1 (ps_pick_t rfl rfl).os ?_
        refine L1 (ps_move rfl).os ?_
        refine LG1 ?_ (os_load1 (b := b11) (v := .int .i64 (kk : Int)) (by repeat (first | exact pk_head _ _ | apply pk_tail)) T.ag3 rfl rfl) ?_
        · exact rfl
        refine LG1 ?_ (ps_move rfl).os ?_
        · exact rfl
        refine LG1 ?_ (ps_len_sl T.un30 rfl).os ?_
        · exact rfl
        refine LG1 ?_ (ps_t (ps_eql rfl rfl) (hkl)).os ?_
        · exact rfl
        refine LG1 ?_ (ps_move rfl).os ?_
        · exact rfl
        refine LG0f ?_ ?_
        · exact rfl
        refine LG0f ?_ ?_
        · exact rfl
        refine LG0f ?_ ?_
        · exact rfl
        refine LG1 ?_ (ps_pick_t rfl rfl).os ?_
        · exact rfl
        refine L1 (ps_pick_t rfl rfl).os ?_
        refine L1 (os_store1 (by repeat (first | exact pk_head _ _ | apply pk_tail)) T.sz4 rfl rfl (by rfl) (Nat.le_of_ble_eq_true rfl)) ?_
        refine LW.nil ?_
        repeat (first | refine CW.seq ?_ | refine PW.then_ ?_ | refine PW.then_to rfl ?_ | refine CW.block ?_ | refine CW.skip ?_ | refine CW.ret ?_ | refine PW.then_ret ?_ | refine PW.block_ret ?_ | refine Cut.ret ?_ | refine Rnd.ret ?_ | refine PW.block_normal ?_ | refine CW.exit ?_ | refine PW.then_exit ?_ | refine PW.block_hit ?_ | refine PW.block_miss rfl ?_ | refine Cut.exit ?_ | refine Rnd.exit ?_)
        refine Fin.mark rfl (by repeat (first | exact pk_head _ _ | apply pk_tail)) ?_
        refine Fin.mark rfl (by repeat (first | exact pk_head _ _ | apply pk_tail)) ?_
        exact Fin.retC1 (b := b4) (v := .bool true) rfl (by repeat (first | exact pk_head _ _ | apply pk_tail)) T.ag4 rfl rfl [E] ⟨rfl, rfl⟩ (by repeat (first | exact Ent.refl _ | (apply Ent.cons; · repeat (first | exact pk_head _ _ | apply pk_tail)) | apply Ent.skip))
      · have hks : (kk : Int) = stop := by rcases hkk with h | h <;> omega
        refine CW.region ?_
        refine L1 (ps_move rfl).os ?_
        refine L1 (os_call1 (Len_spec tb n td tq) Tryd.func12 (by decide +kernel) rfl rfl (by repeat (first | exact pk_head _ _ | apply pk_tail))) ?_
        refine L1 (ps_move rfl).os ?_
        refine L1 (ps_len_sl T.un30 rfl).os ?_
        refine L1 (ps_t (ps_eql rfl rfl) (rfl)).os ?_
        refine L1 (ps_move rfl).os ?_
        refine LG1 ?_ (ps_move rfl).os ?_
        · exact rfl
        refine LG1 ?_ (os_call0 Len_nil Tryd.func12 (by decide +kernel) rfl rfl) ?_
        · exact rfl
        refine LG1 ?_ (ps_t (ps_eql rfl rfl) (rfl)).os ?_
        · exact rfl
        refine L1 (ps_pick_t rfl rfl).os ?_
        refine L1 (ps_move rfl).os ?_
        refine LG1 ?_ (os_load1 (b := b11) (v := .int .i64 (kk : Int)) (by repeat (first | exact pk_head _ _ | apply pk_tail)) T.ag3 rfl rfl) ?_
        · exact rfl
        refine LG1 ?_ (ps_move rfl).os ?_
        · exact rfl
        refine LG1 ?_ (ps_len_sl T.un30 rfl).os ?_
        · exact rfl
        refine LG1 ?_ (ps_f (ps_eql rfl rfl) (hkl)).os ?_
        · exact rfl
        refine LG1 ?_ (ps_move rfl).os ?_
        · exact rfl
        refine LG1 ?_ (os_load1 (b := b11) (v := .int .i64 (kk : Int)) (by repeat (first | exact pk_head _ _ | apply pk_tail)) T.ag3 rfl rfl) ?_
        · exact rfl
        refine LG1 ?_ (os_load1 (b := b3) (v := .int .i64 stop) (by repeat (first | exact pk_head _ _ | apply pk_tail)) T.ag3 rfl rfl) ?_
        · exact rfl
        refine LG1 ?_ (ps_t (ps_eql rfl rfl) (hks)).os ?_
        · exact rfl
        refine LG1 ?_ (ps_pick_f rfl rfl).os ?_
        · exact rfl
        refine L1 (ps_pick_t rfl rfl).os ?_
        refine L1 (os_store1 (by repeat (first | exact pk_head _ _ | apply pk_tail)) T.sz4 rfl rfl (by rfl) (Nat.le_of_ble_eq_true rfl)) ?_
        refine LW.nil ?_
        repeat (first | refine CW.seq ?_ | refine PW.then_ ?_ | refine PW.then_to rfl ?_ | refine CW.block ?_ | refine CW.skip ?_ | refine CW.ret ?_ | refine PW.then_ret ?_ | refine PW.block_ret ?_ | refine Cut.ret ?_ | refine Rnd.ret ?_ | refine PW.block_normal ?_ | refine CW.exit ?_ | refine PW.then_exit ?_ | refine PW.block_hit ?_ | refine PW.block_miss rfl ?_ | refine Cut.exit ?_ | refine Rnd.exit ?_)
        refine Fin.mark rfl (by repeat (first | exact pk_head _ _ | apply pk_tail)) ?_
        refine Fin.mark rfl (by repeat (first | exact pk_head _ _ | apply pk_tail)) ?_
        exact Fin.retC1 (b := b4) (v := .bool true) rfl (by repeat (first | exact pk_head _ _ | apply pk_tail)) T.ag4 rfl rfl [E] ⟨rfl, rfl⟩ (by repeat (first | exact Ent.refl _ | (apply Ent.cons; · repeat (first | exact pk_head _ _ | apply pk_tail)) | apply Ent.skip))

namespace shaTapes
open Go.ChangeShapes Go.WideShapes Go.ChangeAt Go.RowKit
theorem own : ownKnob Tryd.prog.godebug = none := by kernel_rfl
theorem laidOut : laidOutB Tryd.prog = true := by kernel_rfl
set_option maxRecDepth 100000 in
theorem lifted (os : Os) (started : os.Started) (H : Type) (enc : TypeId × Value → H) :
    ReturnsInHanded {} Tryd.checked os 6 .any (fun w args => (Rows.shaTapesSpec.pre enc Tryd.prog Tryd.f6 [] false w args ∧ laidMetH Tryd.prog laidL w) ∧ sizedMet enc Tryd.prog Tryd.f6 (OpenSpec.ofChange Rows.shaTapesSpec) false w args) (Rows.shaTapesSpec.post enc Tryd.prog Tryd.f6 false true false false) := by
  refine returnsInHanded_of_change_and (C := Tryd.checked) (X := fun w _ => laidMetH Tryd.prog laidL w) (fun _ _ _ hh h => h.of_heap hh) own started (by kernel_rfl) Tryd.func6
    (ChangeSpec.witness_shaped (enc := enc) (C := Tryd.checked) (os := os) (X := fun w _ => laidMetH Tryd.prog laidL w) false (World.doorLaid Tryd.prog 400 os) #[(Value.slice none 0 0), (Value.int .i64 0)] 8 rfl (World.shaped_of_RefB (by kernel_rfl) (by kernel_rfl)) (by kernel_rfl) (by kernel_rfl) (by kernel_rfl) (door_met os _)) ?_
  intro W base args ds gs before hval0 hW hcnd hsz hL _
  have hval : ∀ (j : Nat) t v, Tryd.f6.params[j]? = some t → args[j]? = some v → Value.okWide Tryd.prog W .any base t v := hval0
  have hW' := hW
  obtain ⟨p, q, hA0, hV, rfl, hfz, hnd⟩ := hW
  have hA : DataW.TrodAll enc Tryd.prog W 0 (fun _ => true) true Tryd.f6.params.toList args.toList ds p := hA0
  rw [Tryd.params6] at hA hval
  obtain ⟨v0, vs0, d0, ds0, p0, q0, hargs, rfl, rfl, h0, r0⟩ := trodAll_cons hA
  obtain ⟨v1, vs1, d1, ds1, p1, q1, rfl, rfl, rfl, h1, r1⟩ := trodAll_cons r0
  obtain ⟨rfl, rfl, rfl⟩ := trodAll_nil r1
  obtain rfl : args = #[v0, v1] := by cases args; simp_all
  obtain ⟨rfl, rfl⟩ := trodVars_none hV
  obtain ⟨_, _, _, rfl⟩ := okWide_slice T.un30 (hval 0 30 v0 rfl rfl)
  obtain ⟨fu0, hf0⟩ := h0
  obtain ⟨a0, b0⟩ := open_SlSluint8 hf0
  obtain ⟨a1, rfl, rfl, rfl, wf1⟩ := open_int T.un3 (hval 1 3 v1 rfl rfl) h1
  have w1 := bounds_i64' wf1
  simp only [List.append_nil] at hW'
  refine (LawOf.calls (ShaTapes_law W (env_of_laid hL) _ a0 b0 a1 w1)).mono fun e W' ⟨he, hb⟩ => ?_
  subst he
  exact ⟨_, rfl, law_post laidOut rfl (tb := 4) (by kernel_rfl) T.un4 (by intro t ht; rw [Tryd.params6] at ht; simp only [List.mem_cons, List.not_mem_nil, or_false] at ht; rcases ht with rfl | rfl <;> exact ⟨by kernel_rfl, by decide +kernel⟩) rfl hW' hb⟩
theorem said : Rows.ShaTapesSaid :=
  OpenClaim.holds_of_wide 6 Tryd.f6 rfl rfl rfl rfl rfl rfl rfl ⟨rfl, rfl, rfl, rfl, rfl⟩ rfl rfl rfl rfl rfl (by kernel_rfl) Tryd.func6 (by kernel_rfl)
    (of_decide_eq_true (by kernel_rfl)) (by unfold Func.isWrapper; rw [if_neg (of_decide_eq_false (by kernel_rfl))]; exact ⟨rfl, rfl⟩)
    (fun os started H enc _ => lifted os started H enc)
theorem holds : Rows.ShaTapesCardSaid :=
  Claim7.holds_tied_plain_at .later [] [.data, .data] true (true, "c59000682bd1665af73ad339d840365669250ffdffb6e3f54f5429959ac91e75") false
    said (fun _ h => by cases h) (by kernel_rfl) (fun _ h => by cases h) shaTapes_row_tie rfl ⟨rfl, rfl⟩ (by kernel_rfl) rfl
    (fun f fn hf hfn => by
      obtain rfl : f = 6 := Option.some.inj ((show Tryd.prog.funcNamed "pacioli/paciolilaw02.ShaTapes" = some 6 by kernel_rfl).symm.trans hf) |>.symm
      obtain rfl : fn = Tryd.f6 := (Option.some.inj (Tryd.func6.symm.trans hfn)).symm
      exact ⟨by kernel_rfl, fun j t ht => by
        rw [Tryd.params6] at ht
        have hm : t ∈ [30, 3] := by simpa using Array.mem_of_getElem? ht
        have hall : ([30, 3].all fun u => !Tryd.prog.wantsStandIn u) = true := by kernel_rfl
        exact (show Tryd.prog.wantsStandIn t = false by simpa using List.all_eq_true.1 hall t hm)⟩)
    (by kernel_rfl)
end shaTapes
end Go.Proofs.YtcfipblnaifbhaaDoor
