/- The law U128Parses: a text is a number just if it is what that is told as: it answers true for every number and every text (no condition). -/
import Derived.Test.YtafalcebolbbeaaUxParse
import Derived.ChangeMaps5
import Derived.Test.YtafalcebolbbeaaRows
namespace Go.Proofs.Ytafalcebolbbeaa
open Go Go.SL
set_option linter.unusedVariables false
set_option linter.unusedSimpArgs false

def digB (c : UInt8) : Bool := decide (48 ≤ c.toNat) && decide (c.toNat ≤ 57)
def d0 (l : List UInt8) : Bool := decide (1 ≤ l.length) && decide (l.length ≤ 39) && (decide ((l.headD 0).toNat ≠ 48) || decide (l.length = 1))
theorem canon_iff (l : List UInt8) : (d0 l && l.all digB) = true ↔ Canon l := by
  simp only [d0, digB, Bool.and_eq_true, Bool.or_eq_true, decide_eq_true_eq, List.all_eq_true]
  constructor
  · rintro ⟨⟨⟨h1, h2⟩, h3⟩, h4⟩
    exact ⟨h4, h1, h2, h3.symm⟩
  · rintro ⟨h1, h2, h3, h4⟩
    exact ⟨⟨⟨h2, h3⟩, h4.symm⟩, h1⟩
theorem all_succ (l : List UInt8) (i : Nat) (h : i < l.length) : (l.take (i + 1)).all digB = ((l.take i).all digB && digB l[i]) := by
  rw [List.take_succ_eq_append_getElem h, List.all_append]; simp
theorem parse_facts (l : List UInt8) : ∃ y o, FSpec Try.prog 20 [strV l] [] (fun r As => r = .tuple #[.agg (nc y).toArray, .bool o] ∧ As = []) ∧
    (o = true → (y < M128 ∧ digs y = l) ∧ (d0 l && l.all digB) = true) ∧ (o = false → y = 0) ∧ (o = false → (d0 l && l.all digB) = true → l.length = 39 ∧ (!(Op.bytesLess l (digs (M128 - 1)) || l == digs (M128 - 1))) = true) := by
  refine ⟨(parseN l).1, (parseN l).2, Parse_spec l, fun h => ?_, parse_no, fun h hc => ?_⟩
  · obtain ⟨h1, h2⟩ := parse_yes h
    exact ⟨⟨h1, h2⟩, (canon_iff l).2 (h2 ▸ (digs_canon _ h1).1)⟩
  · exact ⟨(parse_big h ((canon_iff l).1 hc)).1, parse_gtr h ((canon_iff l).1 hc)⟩
theorem U128Parses_law (W : World) (cs0 : List Value) (a : Nat) (e0 : cs0 = nc a) (ha : a < M128) (z : ByteArray) (hz : z.size ≤ maxLen) : LawOf Try.prog 7 [.agg cs0.toArray, .string z] W := by
  subst e0
  obtain ⟨l, rfl⟩ : ∃ l : List UInt8, z = ⟨l.toArray⟩ := ⟨z.data.toList, by cases z; simp⟩
  have hll : l.length < 9223372036854775808 := by
    have : l.toArray.size ≤ maxLen := hz
    unfold maxLen at this
    simp at this
    omega
  change LawOf Try.prog 7 [.agg (nc a).toArray, strV l] W
  obtain ⟨y, o, hpa, ho1, ho0, hob⟩ := parse_facts l
  have hpr := Print_spec a ha
  have hpb := Parse_spec (digs a)
  rw [parse_digs a ha] at hpb
  refine FSpec.intro Try.func7 rfl 94 Try.ntmps7 (Nat.le_of_ble_eq_true rfl) fun w0 F => ?_
  show CW _ _ _ _ _ _ (_ :: F)
  repeat (first | refine CW.seq ?_ | refine PW.then_ ?_ | refine CW.block ?_ | refine CW.skip ?_ | refine CW.ret ?_ | refine PW.then_ret ?_ | refine PW.block_ret ?_ | refine Cut.ret ?_ | refine Rnd.ret ?_ | refine PW.block_normal ?_ | refine CW.exit ?_ | refine PW.then_exit ?_ | refine PW.block_hit ?_ | refine PW.block_miss rfl ?_ | refine Cut.exit ?_ | refine Rnd.exit ?_)
  refine CW.region ?_
  refine LE (os_box rfl (by rfl)) ?_
  rintro _ _ ⟨b2, rfl, rfl⟩
  refine L1 (ps_assign rfl).os ?_
  refine LW.nil ?_
  repeat (first | refine CW.seq ?_ | refine PW.then_ ?_ | refine CW.block ?_ | refine CW.skip ?_ | refine CW.ret ?_ | refine PW.then_ret ?_ | refine PW.block_ret ?_ | refine Cut.ret ?_ | refine Rnd.ret ?_ | refine PW.block_normal ?_ | refine CW.exit ?_ | refine PW.then_exit ?_ | refine PW.block_hit ?_ | refine PW.block_miss rfl ?_ | refine Cut.exit ?_ | refine Rnd.exit ?_)
  refine CW.region ?_
  refine L1 (os_call0 fit_spec Try.func13 (by decide +kernel) rfl rfl) ?_
  refine L1 (ps_not rfl).os ?_
  refine LW.nil ?_
  repeat (first | refine CW.seq ?_ | refine PW.then_ ?_ | refine CW.block ?_ | refine CW.skip ?_ | refine CW.ret ?_ | refine PW.then_ret ?_ | refine PW.block_ret ?_ | refine Cut.ret ?_ | refine Rnd.ret ?_ | refine PW.block_normal ?_ | refine CW.exit ?_ | refine PW.then_exit ?_ | refine PW.block_hit ?_ | refine PW.block_miss rfl ?_ | refine Cut.exit ?_ | refine Rnd.exit ?_)
  refine CW.cond_false rfl ?_
  repeat (first | refine CW.seq ?_ | refine PW.then_ ?_ | refine CW.block ?_ | refine CW.skip ?_ | refine CW.ret ?_ | refine PW.then_ret ?_ | refine PW.block_ret ?_ | refine Cut.ret ?_ | refine Rnd.ret ?_ | refine PW.block_normal ?_ | refine CW.exit ?_ | refine PW.then_exit ?_ | refine PW.block_hit ?_ | refine PW.block_miss rfl ?_ | refine Cut.exit ?_ | refine Rnd.exit ?_)
  by_cases hlen : (100 : Int) < l.length
  · refine CW.region ?_
    refine L1 (ps_move rfl).os ?_
    refine L1 (ps_len_strV l T.un9 rfl).os ?_
    refine L1 (ps_t (ps_gtr rfl rfl) (hlen)).os ?_
    refine LW.nil ?_
    repeat (first | refine CW.seq ?_ | refine PW.then_ ?_ | refine CW.block ?_ | refine CW.skip ?_ | refine CW.ret ?_ | refine PW.then_ret ?_ | refine PW.block_ret ?_ | refine Cut.ret ?_ | refine Rnd.ret ?_ | refine PW.block_normal ?_ | refine CW.exit ?_ | refine PW.then_exit ?_ | refine PW.block_hit ?_ | refine PW.block_miss rfl ?_ | refine Cut.exit ?_ | refine Rnd.exit ?_)
    refine CW.cond_true rfl ?_
    repeat (first | refine CW.seq ?_ | refine PW.then_ ?_ | refine CW.block ?_ | refine CW.skip ?_ | refine CW.ret ?_ | refine PW.then_ret ?_ | refine PW.block_ret ?_ | refine Cut.ret ?_ | refine Rnd.ret ?_ | refine PW.block_normal ?_ | refine CW.exit ?_ | refine PW.then_exit ?_ | refine PW.block_hit ?_ | refine PW.block_miss rfl ?_ | refine Cut.exit ?_ | refine Rnd.exit ?_)
    refine CW.region ?_
    refine L1 (ps_assign rfl).os ?_
    refine LW.nil ?_
    repeat (first | refine CW.seq ?_ | refine PW.then_ ?_ | refine CW.block ?_ | refine CW.skip ?_ | refine CW.ret ?_ | refine PW.then_ret ?_ | refine PW.block_ret ?_ | refine Cut.ret ?_ | refine Rnd.ret ?_ | refine PW.block_normal ?_ | refine CW.exit ?_ | refine PW.then_exit ?_ | refine PW.block_hit ?_ | refine PW.block_miss rfl ?_ | refine Cut.exit ?_ | refine Rnd.exit ?_)
    exact Fin.ret1 (v := .bool true) rfl [bag (blks W)] rfl ⟨rfl, rfl⟩ (by repeat (first | exact Ent.refl _ | (apply Ent.cons; · repeat (first | exact pk_head _ _ | apply pk_tail)) | apply Ent.skip))
  refine CW.region ?_
  refine L1 (ps_move rfl).os ?_
  refine L1 (ps_len_strV l T.un9 rfl).os ?_
  refine L1 (ps_f (ps_gtr rfl rfl) (hlen)).os ?_
  refine LW.nil ?_
  repeat (first | refine CW.seq ?_ | refine PW.then_ ?_ | refine CW.block ?_ | refine CW.skip ?_ | refine CW.ret ?_ | refine PW.then_ret ?_ | refine PW.block_ret ?_ | refine Cut.ret ?_ | refine Rnd.ret ?_ | refine PW.block_normal ?_ | refine CW.exit ?_ | refine PW.then_exit ?_ | refine PW.block_hit ?_ | refine PW.block_miss rfl ?_ | refine Cut.exit ?_ | refine Rnd.exit ?_)
  refine CW.cond_false rfl ?_
  repeat (first | refine CW.seq ?_ | refine PW.then_ ?_ | refine CW.block ?_ | refine CW.skip ?_ | refine CW.ret ?_ | refine PW.then_ret ?_ | refine PW.block_ret ?_ | refine Cut.ret ?_ | refine Rnd.ret ?_ | refine PW.block_normal ?_ | refine CW.exit ?_ | refine PW.then_exit ?_ | refine PW.block_hit ?_ | refine PW.block_miss rfl ?_ | refine Cut.exit ?_ | refine Rnd.exit ?_)
  refine CW.region ?_
  refine L1 (os_loadAll (by repeat (first | exact pk_head _ _ | apply pk_tail)) T.ag27 (by exact T.sz27) rfl) ?_
  refine L1 (os_call0 hpr Try.func16 (by decide +kernel) rfl rfl) ?_
  refine L1 (os_call0 hpb Try.func20 (by decide +kernel) rfl rfl) ?_
  refine L1 (ps_move rfl).os ?_
  refine L1 (ps_extract rfl rfl).os ?_
  refine L1 (ps_extract rfl rfl).os ?_
  refine LE (os_alloc T.ti27) ?_
  rintro _ _ ⟨b5, rfl, rfl⟩
  refine L1 (os_storeAll (b := b5) (vs := nc a) (by repeat (first | exact pk_head _ _ | apply pk_tail)) (by exact T.sz27) rfl rfl (nc_one _) (by rfl)) ?_
  refine L1 (ps_assign rfl).os ?_
  refine LW.nil ?_
  repeat (first | refine CW.seq ?_ | refine PW.then_ ?_ | refine CW.block ?_ | refine CW.skip ?_ | refine CW.ret ?_ | refine PW.then_ret ?_ | refine PW.block_ret ?_ | refine Cut.ret ?_ | refine Rnd.ret ?_ | refine PW.block_normal ?_ | refine CW.exit ?_ | refine PW.then_exit ?_ | refine PW.block_hit ?_ | refine PW.block_miss rfl ?_ | refine Cut.exit ?_ | refine Rnd.exit ?_)
  refine CW.region ?_
  refine L1 (ps_move rfl).os ?_
  refine L1 (os_call0 hpa Try.func20 (by decide +kernel) rfl rfl) ?_
  refine L1 (ps_move rfl).os ?_
  refine L1 (ps_extract rfl rfl).os ?_
  refine L1 (ps_extract rfl rfl).os ?_
  refine LE (os_alloc T.ti27) ?_
  rintro _ _ ⟨b7, rfl, rfl⟩
  refine L1 (os_storeAll (b := b7) (vs := nc y) (by repeat (first | exact pk_head _ _ | apply pk_tail)) (by exact T.sz27) rfl rfl (nc_one _) (by rfl)) ?_
  refine L1 (ps_assign rfl).os ?_
  refine LW.nil ?_
  repeat (first | refine CW.seq ?_ | refine PW.then_ ?_ | refine CW.block ?_ | refine CW.skip ?_ | refine CW.ret ?_ | refine PW.then_ret ?_ | refine PW.block_ret ?_ | refine Cut.ret ?_ | refine Rnd.ret ?_ | refine PW.block_normal ?_ | refine CW.exit ?_ | refine PW.then_exit ?_ | refine PW.block_hit ?_ | refine PW.block_miss rfl ?_ | refine Cut.exit ?_ | refine Rnd.exit ?_)
  refine CW.region ?_
  refine L1 (ps_move rfl).os ?_
  refine L1 (ps_not rfl).os ?_
  refine L1 (ps_move rfl).os ?_
  refine LG1 ?_ (os_loadAll (by repeat (first | exact pk_head _ _ | apply pk_tail)) T.ag27 (by exact T.sz27) rfl) ?_
  · exact rfl
  refine LG1 ?_ (os_loadAll (by repeat (first | exact pk_head _ _ | apply pk_tail)) T.ag27 (by exact T.sz27) rfl) ?_
  · exact rfl
  refine LG1 ?_ (ps_f (ps_num_neq a a T.eq27 rfl rfl) (fun h => h rfl)).os ?_
  · exact rfl
  refine L1 (ps_pick_f rfl rfl).os ?_
  refine LW.nil ?_
  repeat (first | refine CW.seq ?_ | refine PW.then_ ?_ | refine CW.block ?_ | refine CW.skip ?_ | refine CW.ret ?_ | refine PW.then_ret ?_ | refine PW.block_ret ?_ | refine Cut.ret ?_ | refine Rnd.ret ?_ | refine PW.block_normal ?_ | refine CW.exit ?_ | refine PW.then_exit ?_ | refine PW.block_hit ?_ | refine PW.block_miss rfl ?_ | refine Cut.exit ?_ | refine Rnd.exit ?_)
  refine CW.cond_false rfl ?_
  repeat (first | refine CW.seq ?_ | refine PW.then_ ?_ | refine CW.block ?_ | refine CW.skip ?_ | refine CW.ret ?_ | refine PW.then_ret ?_ | refine PW.block_ret ?_ | refine Cut.ret ?_ | refine Rnd.ret ?_ | refine PW.block_normal ?_ | refine CW.exit ?_ | refine PW.then_exit ?_ | refine PW.block_hit ?_ | refine PW.block_miss rfl ?_ | refine Cut.exit ?_ | refine Rnd.exit ?_)
  refine CW.cutB (α := Unit) [9, 34, 35, 36, 37, 38, 39, 40, 41, 42, 43, 44, 45, 46, 47, 48, 49, 50, 51] (fun _ => True) (fun _ => [(9, .bool (d0 l))]) (fun _ => cb b7 27 (nc y) :: bag (blks W) :: F) ?_ ?_
  · by_cases h1 : 1 ≤ l.length
    · by_cases h2 : l.length ≤ 39
      · have hhd : l[0] = l.headD 0 := by
          cases l with
          | nil => simp at h1
          | cons c l => rfl
        have hdd : d0 l = (decide ((l.headD 0).toNat ≠ 48) || decide (l.length = 1)) := by simp [d0, h1, h2]
        rw [hdd, ← hhd]
        by_cases h3 : l[0].toNat = 48
        · have e3 : decide ((l.length : Int) = 1) = (decide (l[0].toNat ≠ 48) || decide (l.length = 1)) := by
            rw [Bool.eq_iff_iff]; simp [h3]; omega
          refine CW.region ?_
          refine L1 (ps_move rfl).os ?_
          refine L1 (ps_len_strV l T.un9 rfl).os ?_
          refine L1 (ps_t (ps_gtr rfl rfl) (by omega)).os ?_
          refine L1 (ps_move rfl).os ?_
          refine LG1 ?_ (ps_move rfl).os ?_
          · exact rfl
          refine LG1 ?_ (ps_len_strV l T.un9 rfl).os ?_
          · exact rfl
          refine LG1 ?_ (ps_t (ps_leq rfl rfl) (by omega)).os ?_
          · exact rfl
          refine L1 (ps_pick_t rfl rfl).os ?_
          refine L1 (ps_move rfl).os ?_
          refine LG1 ?_ (ps_move rfl).os ?_
          · exact rfl
          refine LG1 ?_ (ps_idx_strV l 0 h1 T.un9 rfl rfl rfl).os ?_
          · exact rfl
          refine LG1 ?_ (ps_f (ps_neq rfl rfl) (by omega)).os ?_
          · exact rfl
          refine LG1 ?_ (ps_move rfl).os ?_
          · exact rfl
          refine LG1 ?_ (ps_move rfl).os ?_
          · exact rfl
          refine LG1 ?_ (ps_len_strV l T.un9 rfl).os ?_
          · exact rfl
          refine LG1 ?_ (ps_to (congrArg Value.bool e3) (ps_eql rfl rfl)).os ?_
          · exact rfl
          refine LG1 ?_ (ps_pick_f rfl rfl).os ?_
          · exact rfl
          refine L1 (ps_pick_t rfl rfl).os ?_
          refine L1 (ps_assign rfl).os ?_
          refine LW.nil ?_
          exact Meet.cut () trivial (by repeat (first | (with_reducible exact Ag.refl _ _) | (with_reducible apply Ag.pu0) | ((with_reducible refine Ag.pu _ ?_ ?_); · exact rfl) | ((with_reducible refine Ag.mix ?_ ?_); · exact rfl) | ((with_reducible refine Ag.pus ?_ ?_); · exact rfl))) ⟨rfl, trivial⟩ (by repeat (first | exact Ent.refl _ | (apply Ent.cons; · repeat (first | exact pk_head _ _ | apply pk_tail)) | apply Ent.skip))
        · have e3 : true = (decide (l[0].toNat ≠ 48) || decide (l.length = 1)) := by simp [h3]
          rw [← e3]
          refine CW.region ?_
          refine L1 (ps_move rfl).os ?_
          refine L1 (ps_len_strV l T.un9 rfl).os ?_
          refine L1 (ps_t (ps_gtr rfl rfl) (by omega)).os ?_
          refine L1 (ps_move rfl).os ?_
          refine LG1 ?_ (ps_move rfl).os ?_
          · exact rfl
          refine LG1 ?_ (ps_len_strV l T.un9 rfl).os ?_
          · exact rfl
          refine LG1 ?_ (ps_t (ps_leq rfl rfl) (by omega)).os ?_
          · exact rfl
          refine L1 (ps_pick_t rfl rfl).os ?_
          refine L1 (ps_move rfl).os ?_
          refine LG1 ?_ (ps_move rfl).os ?_
          · exact rfl
          refine LG1 ?_ (ps_idx_strV l 0 h1 T.un9 rfl rfl rfl).os ?_
          · exact rfl
          refine LG1 ?_ (ps_t (ps_neq rfl rfl) (by omega)).os ?_
          · exact rfl
          refine LG1 ?_ (ps_move rfl).os ?_
          · exact rfl
          refine LG0f ?_ ?_
          · exact rfl
          refine LG0f ?_ ?_
          · exact rfl
          refine LG0f ?_ ?_
          · exact rfl
          refine LG1 ?_ (ps_pick_t rfl rfl).os ?_
          · exact rfl
          refine L1 (ps_pick_t rfl rfl).os ?_
          refine L1 (ps_assign rfl).os ?_
          refine LW.nil ?_
          exact Meet.cut () trivial (by repeat (first | (with_reducible exact Ag.refl _ _) | (with_reducible apply Ag.pu0) | ((with_reducible refine Ag.pu _ ?_ ?_); · exact rfl) | ((with_reducible refine Ag.mix ?_ ?_); · exact rfl) | ((with_reducible refine Ag.pus ?_ ?_); · exact rfl))) ⟨rfl, trivial⟩ (by repeat (first | exact Ent.refl _ | (apply Ent.cons; · repeat (first | exact pk_head _ _ | apply pk_tail)) | apply Ent.skip))
      · have e3 : d0 l = false := by simp [d0, h1, h2]
        rw [e3]
        refine CW.region ?_
        refine L1 (ps_move rfl).os ?_
        refine L1 (ps_len_strV l T.un9 rfl).os ?_
        refine L1 (ps_t (ps_gtr rfl rfl) (by omega)).os ?_
        refine L1 (ps_move rfl).os ?_
        refine LG1 ?_ (ps_move rfl).os ?_
        · exact rfl
        refine LG1 ?_ (ps_len_strV l T.un9 rfl).os ?_
        · exact rfl
        refine LG1 ?_ (ps_f (ps_leq rfl rfl) (by omega)).os ?_
        · exact rfl
        refine L1 (ps_pick_t rfl rfl).os ?_
        refine L1 (ps_move rfl).os ?_
        refine LG0t ?_ ?_
        · exact rfl
        refine LG0t ?_ ?_
        · exact rfl
        refine LG0t ?_ ?_
        · exact rfl
        refine LG0t ?_ ?_
        · exact rfl
        refine LGU ?_ ?_
        · exact rfl
        refine LGU ?_ ?_
        · exact rfl
        refine LGU ?_ ?_
        · exact rfl
        refine LG0t ?_ ?_
        · exact rfl
        refine L1 (ps_pick_f rfl rfl).os ?_
        refine L1 (ps_assign rfl).os ?_
        refine LW.nil ?_
        exact Meet.cut () trivial (by repeat (first | (with_reducible exact Ag.refl _ _) | (with_reducible apply Ag.pu0) | ((with_reducible refine Ag.pu _ ?_ ?_); · exact rfl) | ((with_reducible refine Ag.mix ?_ ?_); · exact rfl) | ((with_reducible refine Ag.pus ?_ ?_); · exact rfl))) ⟨rfl, trivial⟩ (by repeat (first | exact Ent.refl _ | (apply Ent.cons; · repeat (first | exact pk_head _ _ | apply pk_tail)) | apply Ent.skip))
    · have e3 : d0 l = false := by simp [d0, h1]
      rw [e3]
      refine CW.region ?_
      refine L1 (ps_move rfl).os ?_
      refine L1 (ps_len_strV l T.un9 rfl).os ?_
      refine L1 (ps_f (ps_gtr rfl rfl) (by omega)).os ?_
      refine L1 (ps_move rfl).os ?_
      refine LG0t ?_ ?_
      · exact rfl
      refine LG0t ?_ ?_
      · exact rfl
      refine LG0t ?_ ?_
      · exact rfl
      refine L1 (ps_pick_f rfl rfl).os ?_
      refine L1 (ps_move rfl).os ?_
      refine LG0t ?_ ?_
      · exact rfl
      refine LG0t ?_ ?_
      · exact rfl
      refine LG0t ?_ ?_
      · exact rfl
      refine LG0t ?_ ?_
      · exact rfl
      refine LGU ?_ ?_
      · exact rfl
      refine LGU ?_ ?_
      · exact rfl
      refine LGU ?_ ?_
      · exact rfl
      refine LG0t ?_ ?_
      · exact rfl
      refine L1 (ps_pick_f rfl rfl).os ?_
      refine L1 (ps_assign rfl).os ?_
      refine LW.nil ?_
      exact Meet.cut () trivial (by repeat (first | (with_reducible exact Ag.refl _ _) | (with_reducible apply Ag.pu0) | ((with_reducible refine Ag.pu _ ?_ ?_); · exact rfl) | ((with_reducible refine Ag.mix ?_ ?_); · exact rfl) | ((with_reducible refine Ag.pus ?_ ?_); · exact rfl))) ⟨rfl, trivial⟩ (by repeat (first | exact Ent.refl _ | (apply Ent.cons; · repeat (first | exact pk_head _ _ | apply pk_tail)) | apply Ent.skip))
  intro _ g9 _
  repeat (first | refine CW.seq ?_ | refine PW.then_ ?_ | refine CW.block ?_ | refine CW.skip ?_ | refine CW.ret ?_ | refine PW.then_ret ?_ | refine PW.block_ret ?_ | refine Cut.ret ?_ | refine Rnd.ret ?_ | refine PW.block_normal ?_ | refine CW.exit ?_ | refine PW.then_exit ?_ | refine PW.block_hit ?_ | refine PW.block_miss rfl ?_ | refine Cut.exit ?_ | refine Rnd.exit ?_)
  refine CW.region ?_
  refine L1 (ps_move rfl).os ?_
  refine L1 (ps_len_strV l T.un9 rfl).os ?_
  refine L1 (ps_move rfl).os ?_
  refine LW.nil ?_
  repeat (first | refine CW.seq ?_ | refine PW.then_ ?_ | refine CW.block ?_ | refine CW.skip ?_ | refine CW.ret ?_ | refine PW.then_ret ?_ | refine PW.block_ret ?_ | refine Cut.ret ?_ | refine Rnd.ret ?_ | refine PW.block_normal ?_ | refine CW.exit ?_ | refine PW.then_exit ?_ | refine PW.block_hit ?_ | refine PW.block_miss rfl ?_ | refine Cut.exit ?_ | refine Rnd.exit ?_)
  refine CW.loopM (α := Nat × Bool) [9, 10, 54, 55, 56, 57, 58, 59, 60, 61, 62, 63, 64, 65, 66, 67, 68, 69, 70] (fun k s => s.1 ≤ l.length ∧ k = l.length - s.1 ∧ s.2 = (d0 l && (l.take s.1).all digB)) (fun s => [(54, .int .i64 s.1), (9, .bool s.2)])
    (fun s => cb b7 27 (nc y) :: bag (blks W) :: F) l.length (0, d0 l) ⟨Nat.zero_le _, rfl, by simp⟩ ⟨rfl, rfl, trivial⟩ (by repeat (first | exact Ent.refl _ | (apply Ent.cons; · repeat (first | exact pk_head _ _ | apply pk_tail)) | apply Ent.skip)) ?_
  rintro k ⟨i, q⟩ g ⟨hi, hk, hq⟩
  dsimp only at hi hk hq ⊢
  repeat (first | refine CW.seq ?_ | refine PW.then_ ?_ | refine CW.block ?_ | refine CW.skip ?_ | refine CW.ret ?_ | refine PW.then_ret ?_ | refine PW.block_ret ?_ | refine Cut.ret ?_ | refine Rnd.ret ?_ | refine PW.block_normal ?_ | refine CW.exit ?_ | refine PW.then_exit ?_ | refine PW.block_hit ?_ | refine PW.block_miss rfl ?_ | refine Cut.exit ?_ | refine Rnd.exit ?_)
  by_cases hlt : i < l.length
  · have hsx := all_succ l i hlt
    have hst : (q && digB l[i]) = (d0 l && (l.take (i + 1)).all digB) := by rw [hsx, ← Bool.and_assoc, ← hq]
    refine CW.region ?_
    refine L1 (ps_t (ps_lss rfl rfl) (by omega)).os ?_
    refine LW.nil ?_
    repeat (first | refine CW.seq ?_ | refine PW.then_ ?_ | refine CW.block ?_ | refine CW.skip ?_ | refine CW.ret ?_ | refine PW.then_ret ?_ | refine PW.block_ret ?_ | refine Cut.ret ?_ | refine Rnd.ret ?_ | refine PW.block_normal ?_ | refine CW.exit ?_ | refine PW.then_exit ?_ | refine PW.block_hit ?_ | refine PW.block_miss rfl ?_ | refine Cut.exit ?_ | refine Rnd.exit ?_)
    refine CW.cond_true rfl ?_
    repeat (first | refine CW.seq ?_ | refine PW.then_ ?_ | refine CW.block ?_ | refine CW.skip ?_ | refine CW.ret ?_ | refine PW.then_ret ?_ | refine PW.block_ret ?_ | refine Cut.ret ?_ | refine Rnd.ret ?_ | refine PW.block_normal ?_ | refine CW.exit ?_ | refine PW.then_exit ?_ | refine PW.block_hit ?_ | refine PW.block_miss rfl ?_ | refine Cut.exit ?_ | refine Rnd.exit ?_)
    refine CW.region ?_
    refine L1 (ps_move rfl).os ?_
    refine L1 (ps_assign rfl).os ?_
    refine LW.nil ?_
    repeat (first | refine CW.seq ?_ | refine PW.then_ ?_ | refine CW.block ?_ | refine CW.skip ?_ | refine CW.ret ?_ | refine PW.then_ret ?_ | refine PW.block_ret ?_ | refine Cut.ret ?_ | refine Rnd.ret ?_ | refine PW.block_normal ?_ | refine CW.exit ?_ | refine PW.then_exit ?_ | refine PW.block_hit ?_ | refine PW.block_miss rfl ?_ | refine Cut.exit ?_ | refine Rnd.exit ?_)
    cases q
    · rw [Bool.false_and] at hst
      refine CW.region ?_
      refine L1 (ps_move rfl).os ?_
      refine L1 (ps_move rfl).os ?_
      refine LG0t ?_ ?_
      · exact rfl
      refine LG0t ?_ ?_
      · exact rfl
      refine LG0t ?_ ?_
      · exact rfl
      refine LG0t ?_ ?_
      · exact rfl
      refine L1 (ps_pick_f rfl rfl).os ?_
      refine L1 (ps_move rfl).os ?_
      refine LG0t ?_ ?_
      · exact rfl
      refine LG0t ?_ ?_
      · exact rfl
      refine LG0t ?_ ?_
      · exact rfl
      refine LG0t ?_ ?_
      · exact rfl
      refine L1 (ps_pick_f rfl rfl).os ?_
      refine L1 (ps_assign rfl).os ?_
      refine LW.nil ?_
      repeat (first | refine CW.seq ?_ | refine PW.then_ ?_ | refine CW.block ?_ | refine CW.skip ?_ | refine CW.ret ?_ | refine PW.then_ret ?_ | refine PW.block_ret ?_ | refine Cut.ret ?_ | refine Rnd.ret ?_ | refine PW.block_normal ?_ | refine CW.exit ?_ | refine PW.then_exit ?_ | refine PW.block_hit ?_ | refine PW.block_miss rfl ?_ | refine Cut.exit ?_ | refine Rnd.exit ?_)
      refine CW.region ?_
      refine L1 (ps_add_i64 rfl rfl (by omega) (by omega)).os ?_
      refine L1 (ps_move rfl).os ?_
      refine LW.nil ?_
      exact Meet.round (l.length - (i + 1)) (i + 1, false) (by omega) ⟨hlt, rfl, hst⟩ (by repeat (first | (with_reducible exact Ag.refl _ _) | (with_reducible apply Ag.pu0) | ((with_reducible refine Ag.pu _ ?_ ?_); · exact rfl) | ((with_reducible refine Ag.mix ?_ ?_); · exact rfl) | ((with_reducible refine Ag.pus ?_ ?_); · exact rfl))) ⟨rfl, rfl, trivial⟩ (by repeat (first | exact Ent.refl _ | (apply Ent.cons; · repeat (first | exact pk_head _ _ | apply pk_tail)) | apply Ent.skip))
    · rw [Bool.true_and] at hst
      by_cases h1 : 48 ≤ l[i].toNat
      · by_cases h2 : l[i].toNat ≤ 57
        · have hst2 : true = (d0 l && (l.take (i + 1)).all digB) := by rw [← hst]; simp [digB, h1, h2]
          refine CW.region ?_
          refine L1 (ps_move rfl).os ?_
          refine L1 (ps_move rfl).os ?_
          refine LG1 ?_ (ps_move rfl).os ?_
          · exact rfl
          refine LG1 ?_ (ps_move rfl).os ?_
          · exact rfl
          refine LG1 ?_ (ps_idx_strV l i hlt T.un9 rfl rfl rfl).os ?_
          · exact rfl
          refine LG1 ?_ (ps_t (ps_geq rfl rfl) (by omega)).os ?_
          · exact rfl
          refine L1 (ps_pick_t rfl rfl).os ?_
          refine L1 (ps_move rfl).os ?_
          refine LG1 ?_ (ps_move rfl).os ?_
          · exact rfl
          refine LG1 ?_ (ps_move rfl).os ?_
          · exact rfl
          refine LG1 ?_ (ps_idx_strV l i hlt T.un9 rfl rfl rfl).os ?_
          · exact rfl
          refine LG1 ?_ (ps_t (ps_leq rfl rfl) (by omega)).os ?_
          · exact rfl
          refine L1 (ps_pick_t rfl rfl).os ?_
          refine L1 (ps_assign rfl).os ?_
          refine LW.nil ?_
          repeat (first | refine CW.seq ?_ | refine PW.then_ ?_ | refine CW.block ?_ | refine CW.skip ?_ | refine CW.ret ?_ | refine PW.then_ret ?_ | refine PW.block_ret ?_ | refine Cut.ret ?_ | refine Rnd.ret ?_ | refine PW.block_normal ?_ | refine CW.exit ?_ | refine PW.then_exit ?_ | refine PW.block_hit ?_ | refine PW.block_miss rfl ?_ | refine Cut.exit ?_ | refine Rnd.exit ?_)
          refine CW.region ?_
          refine L1 (ps_add_i64 rfl rfl (by omega) (by omega)).os ?_
          refine L1 (ps_move rfl).os ?_
          refine LW.nil ?_
          exact Meet.round (l.length - (i + 1)) (i + 1, true) (by omega) ⟨hlt, rfl, hst2⟩ (by repeat (first | (with_reducible exact Ag.refl _ _) | (with_reducible apply Ag.pu0) | ((with_reducible refine Ag.pu _ ?_ ?_); · exact rfl) | ((with_reducible refine Ag.mix ?_ ?_); · exact rfl) | ((with_reducible refine Ag.pus ?_ ?_); · exact rfl))) ⟨rfl, rfl, trivial⟩ (by repeat (first | exact Ent.refl _ | (apply Ent.cons; · repeat (first | exact pk_head _ _ | apply pk_tail)) | apply Ent.skip))
        · have hst2 : false = (d0 l && (l.take (i + 1)).all digB) := by rw [← hst]; simp [digB, h1, h2]
          refine CW.region ?_
          refine L1 (ps_move rfl).os ?_
          refine L1 (ps_move rfl).os ?_
          refine LG1 ?_ (ps_move rfl).os ?_
          · exact rfl
          refine LG1 ?_ (ps_move rfl).os ?_
          · exact rfl
          refine LG1 ?_ (ps_idx_strV l i hlt T.un9 rfl rfl rfl).os ?_
          · exact rfl
          refine LG1 ?_ (ps_t (ps_geq rfl rfl) (by omega)).os ?_
          · exact rfl
          refine L1 (ps_pick_t rfl rfl).os ?_
          refine L1 (ps_move rfl).os ?_
          refine LG1 ?_ (ps_move rfl).os ?_
          · exact rfl
          refine LG1 ?_ (ps_move rfl).os ?_
          · exact rfl
          refine LG1 ?_ (ps_idx_strV l i hlt T.un9 rfl rfl rfl).os ?_
          · exact rfl
          refine LG1 ?_ (ps_f (ps_leq rfl rfl) (by omega)).os ?_
          · exact rfl
          refine L1 (ps_pick_t rfl rfl).os ?_
          refine L1 (ps_assign rfl).os ?_
          refine LW.nil ?_
          repeat (first | refine CW.seq ?_ | refine PW.then_ ?_ | refine CW.block ?_ | refine CW.skip ?_ | refine CW.ret ?_ | refine PW.then_ret ?_ | refine PW.block_ret ?_ | refine Cut.ret ?_ | refine Rnd.ret ?_ | refine PW.block_normal ?_ | refine CW.exit ?_ | refine PW.then_exit ?_ | refine PW.block_hit ?_ | refine PW.block_miss rfl ?_ | refine Cut.exit ?_ | refine Rnd.exit ?_)
          refine CW.region ?_
          refine L1 (ps_add_i64 rfl rfl (by omega) (by omega)).os ?_
          refine L1 (ps_move rfl).os ?_
          refine LW.nil ?_
          exact Meet.round (l.length - (i + 1)) (i + 1, false) (by omega) ⟨hlt, rfl, hst2⟩ (by repeat (first | (with_reducible exact Ag.refl _ _) | (with_reducible apply Ag.pu0) | ((with_reducible refine Ag.pu _ ?_ ?_); · exact rfl) | ((with_reducible refine Ag.mix ?_ ?_); · exact rfl) | ((with_reducible refine Ag.pus ?_ ?_); · exact rfl))) ⟨rfl, rfl, trivial⟩ (by repeat (first | exact Ent.refl _ | (apply Ent.cons; · repeat (first | exact pk_head _ _ | apply pk_tail)) | apply Ent.skip))
      · have hst2 : false = (d0 l && (l.take (i + 1)).all digB) := by rw [← hst]; simp [digB, h1]
        refine CW.region ?_
        refine L1 (ps_move rfl).os ?_
        refine L1 (ps_move rfl).os ?_
        refine LG1 ?_ (ps_move rfl).os ?_
        · exact rfl
        refine LG1 ?_ (ps_move rfl).os ?_
        · exact rfl
        refine LG1 ?_ (ps_idx_strV l i hlt T.un9 rfl rfl rfl).os ?_
        · exact rfl
        refine LG1 ?_ (ps_f (ps_geq rfl rfl) (by omega)).os ?_
        · exact rfl
        refine L1 (ps_pick_t rfl rfl).os ?_
        refine L1 (ps_move rfl).os ?_
        refine LG0t ?_ ?_
        · exact rfl
        refine LG0t ?_ ?_
        · exact rfl
        refine LG0t ?_ ?_
        · exact rfl
        refine LG0t ?_ ?_
        · exact rfl
        refine L1 (ps_pick_f rfl rfl).os ?_
        refine L1 (ps_assign rfl).os ?_
        refine LW.nil ?_
        repeat (first | refine CW.seq ?_ | refine PW.then_ ?_ | refine CW.block ?_ | refine CW.skip ?_ | refine CW.ret ?_ | refine PW.then_ret ?_ | refine PW.block_ret ?_ | refine Cut.ret ?_ | refine Rnd.ret ?_ | refine PW.block_normal ?_ | refine CW.exit ?_ | refine PW.then_exit ?_ | refine PW.block_hit ?_ | refine PW.block_miss rfl ?_ | refine Cut.exit ?_ | refine Rnd.exit ?_)
        refine CW.region ?_
        refine L1 (ps_add_i64 rfl rfl (by omega) (by omega)).os ?_
        refine L1 (ps_move rfl).os ?_
        refine LW.nil ?_
        exact Meet.round (l.length - (i + 1)) (i + 1, false) (by omega) ⟨hlt, rfl, hst2⟩ (by repeat (first | (with_reducible exact Ag.refl _ _) | (with_reducible apply Ag.pu0) | ((with_reducible refine Ag.pu _ ?_ ?_); · exact rfl) | ((with_reducible refine Ag.mix ?_ ?_); · exact rfl) | ((with_reducible refine Ag.pus ?_ ?_); · exact rfl))) ⟨rfl, rfl, trivial⟩ (by repeat (first | exact Ent.refl _ | (apply Ent.cons; · repeat (first | exact pk_head _ _ | apply pk_tail)) | apply Ent.skip))
  · have hil : i = l.length := by omega
    subst hil
    rw [List.take_length] at hq
    rw [← hq] at ho1 hob
    refine CW.region ?_
    refine L1 (ps_f (ps_lss rfl rfl) (by omega)).os ?_
    refine LW.nil ?_
    repeat (first | refine CW.seq ?_ | refine PW.then_ ?_ | refine CW.block ?_ | refine CW.skip ?_ | refine CW.ret ?_ | refine PW.then_ret ?_ | refine PW.block_ret ?_ | refine Cut.ret ?_ | refine Rnd.ret ?_ | refine PW.block_normal ?_ | refine CW.exit ?_ | refine PW.then_exit ?_ | refine PW.block_hit ?_ | refine PW.block_miss rfl ?_ | refine Cut.exit ?_ | refine Rnd.exit ?_)
    refine CW.cond_false rfl ?_
    repeat (first | refine CW.seq ?_ | refine PW.then_ ?_ | refine CW.block ?_ | refine CW.skip ?_ | refine CW.ret ?_ | refine PW.then_ret ?_ | refine PW.block_ret ?_ | refine Cut.ret ?_ | refine Rnd.ret ?_ | refine PW.block_normal ?_ | refine CW.exit ?_ | refine PW.then_exit ?_ | refine PW.block_hit ?_ | refine PW.block_miss rfl ?_ | refine Cut.exit ?_ | refine Rnd.exit ?_)
    cases q
    · have hof : o = false := by
        cases o
        · rfl
        · exact absurd (ho1 rfl).2 (by decide)
      subst hof
      have hy0 := ho0 rfl
      subst hy0
      refine CW.region ?_
      refine L1 (ps_move rfl).os ?_
      refine L1 (ps_not rfl).os ?_
      refine LW.nil ?_
      repeat (first | refine CW.seq ?_ | refine PW.then_ ?_ | refine CW.block ?_ | refine CW.skip ?_ | refine CW.ret ?_ | refine PW.then_ret ?_ | refine PW.block_ret ?_ | refine Cut.ret ?_ | refine Rnd.ret ?_ | refine PW.block_normal ?_ | refine CW.exit ?_ | refine PW.then_exit ?_ | refine PW.block_hit ?_ | refine PW.block_miss rfl ?_ | refine Cut.exit ?_ | refine Rnd.exit ?_)
      refine CW.cond_true rfl ?_
      repeat (first | refine CW.seq ?_ | refine PW.then_ ?_ | refine CW.block ?_ | refine CW.skip ?_ | refine CW.ret ?_ | refine PW.then_ret ?_ | refine PW.block_ret ?_ | refine Cut.ret ?_ | refine Rnd.ret ?_ | refine PW.block_normal ?_ | refine CW.exit ?_ | refine PW.then_exit ?_ | refine PW.block_hit ?_ | refine PW.block_miss rfl ?_ | refine Cut.exit ?_ | refine Rnd.exit ?_)
      refine CW.region ?_
      refine L1 (ps_move rfl).os ?_
      refine L1 (ps_not rfl).os ?_
      refine L1 (ps_move rfl).os ?_
      refine LG1 ?_ (os_loadAll (by repeat (first | exact pk_head _ _ | apply pk_tail)) T.ag27 (by exact T.sz27) rfl) ?_
      · exact rfl
      refine LG1 ?_ (ps_build (by rfl) (T.bd27)).os ?_
      · exact rfl
      refine LG1 ?_ (ps_t (ps_num_eql 0 0 T.eq27 rfl rfl) rfl).os ?_
      · exact rfl
      refine L1 (ps_pick_t rfl rfl).os ?_
      refine L1 (ps_assign rfl).os ?_
      refine LW.nil ?_
      repeat (first | refine CW.seq ?_ | refine PW.then_ ?_ | refine CW.block ?_ | refine CW.skip ?_ | refine CW.ret ?_ | refine PW.then_ret ?_ | refine PW.block_ret ?_ | refine Cut.ret ?_ | refine Rnd.ret ?_ | refine PW.block_normal ?_ | refine CW.exit ?_ | refine PW.then_exit ?_ | refine PW.block_hit ?_ | refine PW.block_miss rfl ?_ | refine Cut.exit ?_ | refine Rnd.exit ?_)
      exact Fin.ret1 (v := .bool true) rfl [bag (blks W)] rfl ⟨rfl, rfl⟩ (by repeat (first | exact Ent.refl _ | (apply Ent.cons; · repeat (first | exact pk_head _ _ | apply pk_tail)) | apply Ent.skip))
    · refine CW.region ?_
      refine L1 (ps_move rfl).os ?_
      refine L1 (ps_not rfl).os ?_
      refine LW.nil ?_
      repeat (first | refine CW.seq ?_ | refine PW.then_ ?_ | refine CW.block ?_ | refine CW.skip ?_ | refine CW.ret ?_ | refine PW.then_ret ?_ | refine PW.block_ret ?_ | refine Cut.ret ?_ | refine Rnd.ret ?_ | refine PW.block_normal ?_ | refine CW.exit ?_ | refine PW.then_exit ?_ | refine PW.block_hit ?_ | refine PW.block_miss rfl ?_ | refine Cut.exit ?_ | refine Rnd.exit ?_)
      refine CW.cond_false rfl ?_
      repeat (first | refine CW.seq ?_ | refine PW.then_ ?_ | refine CW.block ?_ | refine CW.skip ?_ | refine CW.ret ?_ | refine PW.then_ret ?_ | refine PW.block_ret ?_ | refine Cut.ret ?_ | refine Rnd.ret ?_ | refine PW.block_normal ?_ | refine CW.exit ?_ | refine PW.then_exit ?_ | refine PW.block_hit ?_ | refine PW.block_miss rfl ?_ | refine Cut.exit ?_ | refine Rnd.exit ?_)
      cases o
      · obtain ⟨h39, hgt⟩ := hob rfl rfl
        have h39' : (l.length : Int) = 39 := by omega
        have hmx := Print_spec (M128 - 1) (by have := M128_pos; omega)
        generalize digs (M128 - 1) = dm at hgt hmx
        refine CW.region ?_
        refine L1 (ps_move rfl).os ?_
        refine LW.nil ?_
        repeat (first | refine CW.seq ?_ | refine PW.then_ ?_ | refine CW.block ?_ | refine CW.skip ?_ | refine CW.ret ?_ | refine PW.then_ret ?_ | refine PW.block_ret ?_ | refine Cut.ret ?_ | refine Rnd.ret ?_ | refine PW.block_normal ?_ | refine CW.exit ?_ | refine PW.then_exit ?_ | refine PW.block_hit ?_ | refine PW.block_miss rfl ?_ | refine Cut.exit ?_ | refine Rnd.exit ?_)
        refine CW.cond_false rfl ?_
        repeat (first | refine CW.seq ?_ | refine PW.then_ ?_ | refine CW.block ?_ | refine CW.skip ?_ | refine CW.ret ?_ | refine PW.then_ret ?_ | refine PW.block_ret ?_ | refine Cut.ret ?_ | refine Rnd.ret ?_ | refine PW.block_normal ?_ | refine CW.exit ?_ | refine PW.then_exit ?_ | refine PW.block_hit ?_ | refine PW.block_miss rfl ?_ | refine Cut.exit ?_ | refine Rnd.exit ?_)
        refine CW.region ?_
        refine L1 (ps_move rfl).os ?_
        refine L1 (ps_len_strV l T.un9 rfl).os ?_
        refine L1 (ps_t (ps_eql rfl rfl) (h39')).os ?_
        refine L1 (ps_move rfl).os ?_
        refine LG1 ?_ (ps_move rfl).os ?_
        · exact rfl
        refine LG1 ?_ (os_call0 Max_spec Try.func21 (by decide +kernel) rfl rfl) ?_
        · exact rfl
        refine LG1 ?_ (os_call0 hmx Try.func16 (by decide +kernel) rfl rfl) ?_
        · exact rfl
        refine LG1 ?_ (ps_to (congrArg Value.bool hgt) (ps_str_gtr (a := ⟨l.toArray⟩) (b := ⟨dm.toArray⟩) rfl rfl)).os ?_
        · exact rfl
        refine L1 (ps_pick_t rfl rfl).os ?_
        refine L1 (ps_assign rfl).os ?_
        refine LW.nil ?_
        repeat (first | refine CW.seq ?_ | refine PW.then_ ?_ | refine CW.block ?_ | refine CW.skip ?_ | refine CW.ret ?_ | refine PW.then_ret ?_ | refine PW.block_ret ?_ | refine Cut.ret ?_ | refine Rnd.ret ?_ | refine PW.block_normal ?_ | refine CW.exit ?_ | refine PW.then_exit ?_ | refine PW.block_hit ?_ | refine PW.block_miss rfl ?_ | refine Cut.exit ?_ | refine Rnd.exit ?_)
        exact Fin.ret1 (v := .bool true) rfl [bag (blks W)] rfl ⟨rfl, rfl⟩ (by repeat (first | exact Ent.refl _ | (apply Ent.cons; · repeat (first | exact pk_head _ _ | apply pk_tail)) | apply Ent.skip))
      · obtain ⟨⟨hyM, hyd⟩, -⟩ := ho1 rfl
        have hpy := Print_spec y hyM
        rw [hyd] at hpy
        refine CW.region ?_
        refine L1 (ps_move rfl).os ?_
        refine LW.nil ?_
        repeat (first | refine CW.seq ?_ | refine PW.then_ ?_ | refine CW.block ?_ | refine CW.skip ?_ | refine CW.ret ?_ | refine PW.then_ret ?_ | refine PW.block_ret ?_ | refine Cut.ret ?_ | refine Rnd.ret ?_ | refine PW.block_normal ?_ | refine CW.exit ?_ | refine PW.then_exit ?_ | refine PW.block_hit ?_ | refine PW.block_miss rfl ?_ | refine Cut.exit ?_ | refine Rnd.exit ?_)
        refine CW.cond_true rfl ?_
        repeat (first | refine CW.seq ?_ | refine PW.then_ ?_ | refine CW.block ?_ | refine CW.skip ?_ | refine CW.ret ?_ | refine PW.then_ret ?_ | refine PW.block_ret ?_ | refine Cut.ret ?_ | refine Rnd.ret ?_ | refine PW.block_normal ?_ | refine CW.exit ?_ | refine PW.then_exit ?_ | refine PW.block_hit ?_ | refine PW.block_miss rfl ?_ | refine Cut.exit ?_ | refine Rnd.exit ?_)
        refine CW.region ?_
        refine L1 (os_loadAll (by repeat (first | exact pk_head _ _ | apply pk_tail)) T.ag27 (by exact T.sz27) rfl) ?_
        refine L1 (os_call0 hpy Try.func16 (by decide +kernel) rfl rfl) ?_
        refine L1 (ps_move rfl).os ?_
        refine L1 (ps_t (ps_strV_eql l l rfl rfl) rfl).os ?_
        refine L1 (ps_assign rfl).os ?_
        refine LW.nil ?_
        repeat (first | refine CW.seq ?_ | refine PW.then_ ?_ | refine CW.block ?_ | refine CW.skip ?_ | refine CW.ret ?_ | refine PW.then_ret ?_ | refine PW.block_ret ?_ | refine Cut.ret ?_ | refine Rnd.ret ?_ | refine PW.block_normal ?_ | refine CW.exit ?_ | refine PW.then_exit ?_ | refine PW.block_hit ?_ | refine PW.block_miss rfl ?_ | refine Cut.exit ?_ | refine Rnd.exit ?_)
        exact Fin.ret1 (v := .bool true) rfl [bag (blks W)] rfl ⟨rfl, rfl⟩ (by repeat (first | exact Ent.refl _ | (apply Ent.cons; · repeat (first | exact pk_head _ _ | apply pk_tail)) | apply Ent.skip))

namespace u128Parses
open Go.ChangeShapes Go.WideShapes Go.ChangeAt Go.RowKit
theorem own : ownKnob Try.prog.godebug = none := by kernel_rfl
theorem laidOut : laidOutB Try.prog = true := by kernel_rfl
set_option maxRecDepth 100000 in
theorem lifted (os : Os) (started : os.Started) (H : Type) (enc : TypeId × Value → H) :
    ReturnsInHanded {} Try.checked os 7 .any (Rows.u128ParsesSpec.pre6 enc Try.prog Try.f7 Rows.u128ParsesRow.domain false) (Rows.u128ParsesSpec.post enc Try.prog Try.f7 false true false false) := by
  refine returnsInHanded_of_change (C := Try.checked) own started (by kernel_rfl) Try.func7
    (ChangeSpec.witness6 (enc := enc) (C := Try.checked) false ⟨#[], #[(.agg (([Value.int .u64 0]) ++ ([Value.int .u64 0])).toArray), (Value.string ByteArray.empty)], []⟩ 8 (by kernel_rfl) (by kernel_rfl) (by kernel_rfl) (by kernel_rfl)) ?_
  intro W base args ds gs before hval0 hW hcnd _
  have hval : ∀ (j : Nat) t v, Try.f7.params[j]? = some t → args[j]? = some v → Value.okWide Try.prog W .any base t v := hval0
  have hW' := hW
  obtain ⟨p, q, hA0, hV, rfl, hfz, hnd⟩ := hW
  have hA : DataW.TrodAll enc Try.prog W 0 (fun _ => true) true Try.f7.params.toList args.toList ds p := hA0
  rw [Try.params7] at hA hval
  obtain ⟨v0, vs0, d0, ds0, p0, q0, hargs, rfl, rfl, h0, r0⟩ := trodAll_cons hA
  obtain ⟨v1, vs1, d1, ds1, p1, q1, rfl, rfl, rfl, h1, r1⟩ := trodAll_cons r0
  obtain ⟨rfl, rfl, rfl⟩ := trodAll_nil r1
  obtain rfl : args = #[v0, v1] := by cases args; simp_all
  obtain ⟨rfl, rfl⟩ := trodVars_none hV
  obtain ⟨cs0, rfl, hcs0⟩ := okWide_agg T.ag27 (hval 0 27 v0 rfl rfl)
  obtain ⟨fu0, hf0⟩ := h0
  obtain ⟨a0, b0, c0⟩ := open_apiNum hf0
  obtain ⟨a1, rfl, rfl, rfl, w1⟩ := Go.ChangeMaps.open_string T.un9 (hval 1 9 v1 rfl rfl) h1
  simp only [List.append_nil] at hW'
  refine (LawOf.calls (U128Parses_law W _ a0 b0 c0 a1 w1)).mono fun e W' ⟨he, hb⟩ => ?_
  subst he
  exact ⟨_, rfl, law_post laidOut rfl (tb := 4) (by kernel_rfl) T.un4 (by intro t ht; rw [Try.params7] at ht; simp only [List.mem_cons, List.not_mem_nil, or_false] at ht; rcases ht with rfl | rfl <;> exact ⟨by kernel_rfl, by decide +kernel⟩) rfl hW' hb⟩
theorem holds : Rows.U128ParsesSaid :=
  OpenClaim.holds_of_wide 7 Try.f7 rfl rfl rfl rfl rfl rfl rfl ⟨rfl, rfl, rfl, rfl, rfl⟩ rfl rfl rfl rfl rfl (by kernel_rfl) Try.func7 (by kernel_rfl)
    (of_decide_eq_true (by kernel_rfl)) (by unfold Func.isWrapper; rw [if_neg (of_decide_eq_false (by kernel_rfl))]; exact ⟨rfl, rfl⟩)
    (fun os started H enc _ => lifted os started H enc)
end u128Parses
end Go.Proofs.Ytafalcebolbbeaa
