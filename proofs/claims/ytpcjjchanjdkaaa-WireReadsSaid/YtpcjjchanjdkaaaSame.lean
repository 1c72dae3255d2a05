/- Same, light; what the bytes of a tame request lead back to. -/
import Derived.Test.YtpcjjchanjdkaaaTame
namespace Go.Proofs.Ytpcjjchanjdkaaa
set_option linter.unusedVariables false
set_option linter.unusedSimpArgs false
open Go Go.SL

theorem light_spec (q : RQ) (a b : Option Addr) (c d la lt : Nat) :
    FSpec Try.prog 12 [.agg (rqCells q (.slice a la c) (.slice b lt d)).toArray] [] (fun r As => r = .bool (decide (IntKind.i64.wrap ((la : Int) + lt) < 100)) ∧ As = []) := by
  refine FSpec.intro Try.func12 rfl 11 Try.ntmps12 (Nat.le_of_ble_eq_true rfl) fun w0 F => ?_
  show CW _ _ _ _ _ _ (F)
  repeat (first | refine CW.seq ?_ | refine PW.then_ ?_ | refine CW.block ?_ | refine CW.skip ?_ | refine CW.ret ?_ | refine PW.then_ret ?_ | refine PW.block_ret ?_ | refine Cut.ret ?_ | refine Rnd.ret ?_ | refine PW.block_normal ?_ | refine CW.exit ?_ | refine PW.then_exit ?_ | refine PW.block_hit ?_ | refine PW.block_miss rfl ?_ | refine Cut.exit ?_ | refine Rnd.exit ?_)
  refine CW.region ?_
  refine LE (os_box rfl (by rfl)) ?_
  rintro _ _ ⟨b1, rfl, rfl⟩
  refine L1 (ps_assign rfl).os ?_
  refine LW.nil ?_
  repeat (first | refine CW.seq ?_ | refine PW.then_ ?_ | refine CW.block ?_ | refine CW.skip ?_ | refine CW.ret ?_ | refine PW.then_ret ?_ | refine PW.block_ret ?_ | refine Cut.ret ?_ | refine Rnd.ret ?_ | refine PW.block_normal ?_ | refine CW.exit ?_ | refine PW.then_exit ?_ | refine PW.block_hit ?_ | refine PW.block_miss rfl ?_ | refine Cut.exit ?_ | refine Rnd.exit ?_)
  refine CW.region ?_
  refine L1 (ps_fa T.fa28_1 (by decide) rfl).os ?_
  refine L1 (os_load1 (by repeat (first | exact pk_head _ _ | apply pk_tail)) T.ag22 rfl (by rfl)) ?_
  refine L1 (ps_len_sl T.un22 rfl).os ?_
  refine L1 (ps_fa T.fa28_2 (by decide) rfl).os ?_
  refine L1 (os_load1 (by repeat (first | exact pk_head _ _ | apply pk_tail)) T.ag23 rfl (by rfl)) ?_
  refine L1 (ps_len_sl T.un23 rfl).os ?_
  refine L1 (ps_add rfl rfl).os ?_
  refine L1 (ps_lss rfl rfl).os ?_
  refine L1 (ps_assign rfl).os ?_
  refine LW.nil ?_
  repeat (first | refine CW.seq ?_ | refine PW.then_ ?_ | refine CW.block ?_ | refine CW.skip ?_ | refine CW.ret ?_ | refine PW.then_ret ?_ | refine PW.block_ret ?_ | refine Cut.ret ?_ | refine Rnd.ret ?_ | refine PW.block_normal ?_ | refine CW.exit ?_ | refine PW.then_exit ?_ | refine PW.block_hit ?_ | refine PW.block_miss rfl ?_ | refine Cut.exit ?_ | refine Rnd.exit ?_)
  exact Fin.ret1 (v := .bool (decide (IntKind.i64.wrap ((la : Int) + lt) < 100))) rfl [] rfl ⟨rfl, rfl⟩ (by repeat (first | exact Ent.refl _ | (apply Ent.cons; · repeat (first | exact pk_head _ _ | apply pk_tail)) | apply Ent.skip))
theorem light_of {A : Asn} {q : RQ} {av tv : Value} {r1 r2 : List (List Value)} (h1 : RowsR A av 46 r1) (h2 : RowsR A tv 16 r2) : ∃ o : Bool, FSpec Try.prog 12 [.agg (rqCells q av tv).toArray] [] (fun r As => r = .bool o ∧ As = []) := by
  obtain ⟨_, _, e1, _⟩ := h1.len
  obtain ⟨_, _, e2, _⟩ := h2.len
  subst e1; subst e2
  exact ⟨_, light_spec q _ _ _ _ _ _⟩
theorem accCells_inj {a b : AccS} (h : accCells a = accCells b) : a = b := by
  have h0 : nc a.id = nc b.id := by
    have := congrArg (List.take 2) h
    exact this
  have h1 := congrArg (·[2]?) h
  have h2 := congrArg (·[3]?) h
  have e1 : some (Value.int .i64 a.led) = some (Value.int .i64 b.led) := h1
  have e2 : some (Value.int .i64 a.fl) = some (Value.int .i64 b.fl) := h2
  cases a; cases b
  simp only [Option.some.injEq, Value.int.injEq, true_and] at e1 e2
  dsimp only at h0
  rw [nc_inj] at h0
  subst h0; subst e1; subst e2; rfl
theorem trCells_inj {a b : TrS} (h : trCells a = trCells b) : a = b := by
  have n1 : nc a.id = nc b.id := congrArg (List.take 2) h
  have n2 : nc a.deb = nc b.deb := congrArg (fun l => (List.drop 2 l).take 2) h
  have n3 : nc a.cre = nc b.cre := congrArg (fun l => (List.drop 4 l).take 2) h
  have n4 : nc a.amo = nc b.amo := congrArg (fun l => (List.drop 6 l).take 2) h
  have n5 : nc a.pen = nc b.pen := congrArg (fun l => (List.drop 8 l).take 2) h
  have e1 : some (Value.int .i64 a.tim) = some (Value.int .i64 b.tim) := congrArg (·[10]?) h
  have e2 : some (Value.int .i64 a.led) = some (Value.int .i64 b.led) := congrArg (·[11]?) h
  have e3 : some (Value.int .i64 a.fl) = some (Value.int .i64 b.fl) := congrArg (·[12]?) h
  cases a; cases b
  simp only [Option.some.injEq, Value.int.injEq, true_and] at e1 e2 e3
  dsimp only at n1 n2 n3 n4 n5
  rw [nc_inj] at n1 n2 n3 n4 n5
  subst n1; subst n2; subst n3; subst n4; subst n5; subst e1; subst e2; subst e3; rfl
open Classical in
theorem ps_agg_neq_f {P : Program} {ty : TypeId} {n : FN} {f : Nat → Value} {x y : Operand} {t yt : TypeId} {ks : List IntKind} {xs ys : List Value} (h : EQ P t ks) (hx : ev n f x = .agg xs.toArray) (hy : ev n f y = .agg ys.toArray) (kx : KV ks xs) (ky : KV ks ys) (e : xs = ys) : PS P (.binOp .neq t x y yt) ty n f (.bool false) :=
  ps_to (congrArg Value.bool (decide_eq_false (fun h => h e))) (ps_agg_neq h hx hy kx ky)
open Classical in
theorem ps_agg_neq_t {P : Program} {ty : TypeId} {n : FN} {f : Nat → Value} {x y : Operand} {t yt : TypeId} {ks : List IntKind} {xs ys : List Value} (h : EQ P t ks) (hx : ev n f x = .agg xs.toArray) (hy : ev n f y = .agg ys.toArray) (kx : KV ks xs) (ky : KV ks ys) (e : xs ≠ ys) : PS P (.binOp .neq t x y yt) ty n f (.bool true) :=
  ps_to (congrArg Value.bool (decide_eq_true e)) (ps_agg_neq h hx hy kx ky)
open Classical in
noncomputable def sameB (q r : RQ) : Bool := decide (q = r)
open Classical in
theorem sameB_t {q r : RQ} (h : q = r) : sameB q r = true := by unfold sameB; exact decide_eq_true h
open Classical in
theorem sameB_f {q r : RQ} (h : q ≠ r) : sameB q r = false := by unfold sameB; exact decide_eq_false h
theorem take_eq_succ {α : Type} {l m : List α} {i : Nat} (h : l.take i = m.take i) (hl : i < l.length) (hm : i < m.length) (e : l[i] = m[i]) : l.take (i + 1) = m.take (i + 1) := by
  rw [List.take_succ_eq_append_getElem hl, List.take_succ_eq_append_getElem hm, h, e]
theorem Same_spec (A B : Asn) (q r : RQ) (av tv bv' sv : Value) (ra1 : RowsR A av 46 (q.accs.map accCells)) (ra2 : RowsR A tv 16 (q.trs.map trCells)) (rb1 : RowsR B bv' 46 (r.accs.map accCells)) (rb2 : RowsR B sv 16 (r.trs.map trCells)) :
    FSpec Try.prog 15 [.agg (rqCells q av tv).toArray, .agg (rqCells r bv' sv).toArray] [A, B] (fun z As => z = .bool (sameB q r) ∧ As = [A, B]) := by
  obtain ⟨pa, ca, rfl, ha1, ha2, hpa⟩ := ra1.len
  obtain ⟨pt, ct, rfl, ht1, ht2, hpt⟩ := ra2.len
  obtain ⟨qa, da, rfl, hb1, hb2, hqa⟩ := rb1.len
  obtain ⟨qt, dt, rfl, hs1, hs2, hqt⟩ := rb2.len
  rw [show (List.map accCells q.accs).length = q.accs.length from List.length_map ..] at *
  rw [show (List.map trCells q.trs).length = q.trs.length from List.length_map ..] at *
  rw [show (List.map accCells r.accs).length = r.accs.length from List.length_map ..] at *
  rw [show (List.map trCells r.trs).length = r.trs.length from List.length_map ..] at *
  have hmA : q.accs.length < 9223372036854775808 := by unfold maxLen at ha2; omega
  have hmT : q.trs.length < 9223372036854775808 := by unfold maxLen at ht2; omega
  refine FSpec.intro Try.func15 rfl 94 Try.ntmps15 (Nat.le_of_ble_eq_true rfl) fun w0 F => ?_
  show CW _ _ _ _ _ _ (_ :: _ :: F)
  repeat (first | refine CW.seq ?_ | refine PW.then_ ?_ | refine CW.block ?_ | refine CW.skip ?_ | refine CW.ret ?_ | refine PW.then_ret ?_ | refine PW.block_ret ?_ | refine Cut.ret ?_ | refine Rnd.ret ?_ | refine PW.block_normal ?_ | refine CW.exit ?_ | refine PW.then_exit ?_ | refine PW.block_hit ?_ | refine PW.block_miss rfl ?_ | refine Cut.exit ?_ | refine Rnd.exit ?_)
  refine CW.region ?_
  refine LE (os_box rfl (by rfl)) ?_
  rintro _ _ ⟨b2, rfl, rfl⟩
  refine LE (os_box rfl (by rfl)) ?_
  rintro _ _ ⟨b3, rfl, rfl⟩
  refine L1 (ps_assign rfl).os ?_
  refine LW.nil ?_
  repeat (first | refine CW.seq ?_ | refine PW.then_ ?_ | refine CW.block ?_ | refine CW.skip ?_ | refine CW.ret ?_ | refine PW.then_ret ?_ | refine PW.block_ret ?_ | refine Cut.ret ?_ | refine Rnd.ret ?_ | refine PW.block_normal ?_ | refine CW.exit ?_ | refine PW.then_exit ?_ | refine PW.block_hit ?_ | refine PW.block_miss rfl ?_ | refine Cut.exit ?_ | refine Rnd.exit ?_)
  refine CW.cutB (α := Bool) [7, 8, 9, 10, 11, 12, 13, 14, 15, 16, 17, 18, 19, 20, 21, 22, 23, 24, 25, 26, 27, 28, 29, 30, 31, 32, 33, 34, 35, 36, 37, 38, 39, 40, 41, 42, 43, 44, 45, 46, 47, 48, 49, 50, 51, 52, 53, 54, 55, 56, 57] (fun o => (o = false → q.kind = r.kind ∧ q.id = r.id ∧ q.fro = r.fro ∧ q.to = r.to ∧ q.lim = r.lim ∧ q.accs.length = r.accs.length ∧ q.trs.length = r.trs.length) ∧ (o = true → q ≠ r)) (fun o => [(57, .bool o)])
    (fun _ => cb b2 28 (rqCells q (.slice pa q.accs.length ca) (.slice pt q.trs.length ct)) :: cb b3 28 (rqCells r (.slice qa r.accs.length da) (.slice qt r.trs.length dt)) :: A :: B :: F) ?_ ?_
  · by_cases e0 : q.kind = r.kind
    · by_cases e1 : q.id = r.id
      · by_cases e2 : q.fro = r.fro
        · by_cases e3 : q.to = r.to
          · by_cases e4 : q.lim = r.lim
            · by_cases e5 : q.accs.length = r.accs.length
              · by_cases e6 : q.trs.length = r.trs.length
                · refine CW.region ?_
                  refine L1 (ps_fa T.fa28_0 (by decide) rfl).os ?_
                  refine L1 (os_load1 (by repeat (first | exact pk_head _ _ | apply pk_tail)) T.ag3 rfl (by rfl)) ?_
                  refine L1 (ps_fa T.fa28_0 (by decide) rfl).os ?_
                  refine L1 (os_load1 (by repeat (first | exact pk_head _ _ | apply pk_tail)) T.ag3 rfl (by rfl)) ?_
                  refine L1 (ps_f (ps_neq rfl rfl) (fun h => h e0)).os ?_
                  refine L1 (ps_move rfl).os ?_
                  refine LG1 ?_ (ps_fa T.fa28_3 (by decide) rfl).os ?_
                  · exact rfl
                  refine LG1 ?_ (os_loadN (vs := nc q.id) (by repeat (first | exact pk_head _ _ | apply pk_tail)) T.ag26 T.sz26 rfl (by rfl) (by rfl)) ?_
                  · exact rfl
                  refine LG1 ?_ (ps_fa T.fa28_3 (by decide) rfl).os ?_
                  · exact rfl
                  refine LG1 ?_ (os_loadN (vs := nc r.id) (by repeat (first | exact pk_head _ _ | apply pk_tail)) T.ag26 T.sz26 rfl (by rfl) (by rfl)) ?_
                  · exact rfl
                  refine LG1 ?_ (ps_f (ps_num_neq q.id r.id T.eq26 rfl rfl) (fun h => h e1)).os ?_
                  · exact rfl
                  refine L1 (ps_pick_f rfl rfl).os ?_
                  refine L1 (ps_move rfl).os ?_
                  refine LG1 ?_ (ps_fa T.fa28_4 (by decide) rfl).os ?_
                  · exact rfl
                  refine LG1 ?_ (os_load1 (by repeat (first | exact pk_head _ _ | apply pk_tail)) T.ag3 rfl (by rfl)) ?_
                  · exact rfl
                  refine LG1 ?_ (ps_fa T.fa28_4 (by decide) rfl).os ?_
                  · exact rfl
                  refine LG1 ?_ (os_load1 (by repeat (first | exact pk_head _ _ | apply pk_tail)) T.ag3 rfl (by rfl)) ?_
                  · exact rfl
                  refine LG1 ?_ (ps_f (ps_neq rfl rfl) (fun h => h e2)).os ?_
                  · exact rfl
                  refine L1 (ps_pick_f rfl rfl).os ?_
                  refine L1 (ps_move rfl).os ?_
                  refine LG1 ?_ (ps_fa T.fa28_5 (by decide) rfl).os ?_
                  · exact rfl
                  refine LG1 ?_ (os_load1 (by repeat (first | exact pk_head _ _ | apply pk_tail)) T.ag3 rfl (by rfl)) ?_
                  · exact rfl
                  refine LG1 ?_ (ps_fa T.fa28_5 (by decide) rfl).os ?_
                  · exact rfl
                  refine LG1 ?_ (os_load1 (by repeat (first | exact pk_head _ _ | apply pk_tail)) T.ag3 rfl (by rfl)) ?_
                  · exact rfl
                  refine LG1 ?_ (ps_f (ps_neq rfl rfl) (fun h => h e3)).os ?_
                  · exact rfl
                  refine L1 (ps_pick_f rfl rfl).os ?_
                  refine L1 (ps_move rfl).os ?_
                  refine LG1 ?_ (ps_fa T.fa28_6 (by decide) rfl).os ?_
                  · exact rfl
                  refine LG1 ?_ (os_load1 (by repeat (first | exact pk_head _ _ | apply pk_tail)) T.ag3 rfl (by rfl)) ?_
                  · exact rfl
                  refine LG1 ?_ (ps_fa T.fa28_6 (by decide) rfl).os ?_
                  · exact rfl
                  refine LG1 ?_ (os_load1 (by repeat (first | exact pk_head _ _ | apply pk_tail)) T.ag3 rfl (by rfl)) ?_
                  · exact rfl
                  refine LG1 ?_ (ps_f (ps_neq rfl rfl) (fun h => h e4)).os ?_
                  · exact rfl
                  refine L1 (ps_pick_f rfl rfl).os ?_
                  refine L1 (ps_move rfl).os ?_
                  refine LG1 ?_ (ps_fa T.fa28_1 (by decide) rfl).os ?_
                  · exact rfl
                  refine LG1 ?_ (os_load1 (by repeat (first | exact pk_head _ _ | apply pk_tail)) T.ag22 rfl (by rfl)) ?_
                  · exact rfl
                  refine LG1 ?_ (ps_len_sl T.un22 rfl).os ?_
                  · exact rfl
                  refine LG1 ?_ (ps_fa T.fa28_1 (by decide) rfl).os ?_
                  · exact rfl
                  refine LG1 ?_ (os_load1 (by repeat (first | exact pk_head _ _ | apply pk_tail)) T.ag22 rfl (by rfl)) ?_
                  · exact rfl
                  refine LG1 ?_ (ps_len_sl T.un22 rfl).os ?_
                  · exact rfl
                  refine LG1 ?_ (ps_f (ps_neq rfl rfl) (fun h => h (congrArg Nat.cast e5))).os ?_
                  · exact rfl
                  refine L1 (ps_pick_f rfl rfl).os ?_
                  refine L1 (ps_move rfl).os ?_
                  refine LG1 ?_ (ps_fa T.fa28_2 (by decide) rfl).os ?_
                  · exact rfl
                  refine LG1 ?_ (os_load1 (by repeat (first | exact pk_head _ _ | apply pk_tail)) T.ag23 rfl (by rfl)) ?_
                  · exact rfl
                  refine LG1 ?_ (ps_len_sl T.un23 rfl).os ?_
                  · exact rfl
                  refine LG1 ?_ (ps_fa T.fa28_2 (by decide) rfl).os ?_
                  · exact rfl
                  refine LG1 ?_ (os_load1 (by repeat (first | exact pk_head _ _ | apply pk_tail)) T.ag23 rfl (by rfl)) ?_
                  · exact rfl
                  refine LG1 ?_ (ps_len_sl T.un23 rfl).os ?_
                  · exact rfl
                  refine LG1 ?_ (ps_f (ps_neq rfl rfl) (fun h => h (congrArg Nat.cast e6))).os ?_
                  · exact rfl
                  refine L1 (ps_pick_f rfl rfl).os ?_
                  refine LW.nil ?_
                  exact Meet.cut false ⟨fun _ => ⟨e0, e1, e2, e3, e4, e5, e6⟩, fun h => by cases h⟩ (by repeat (first | (with_reducible exact Ag.refl _ _) | (with_reducible apply Ag.pu0) | ((with_reducible refine Ag.pu _ ?_ ?_); · exact rfl) | ((with_reducible refine Ag.mix ?_ ?_); · exact rfl) | ((with_reducible refine Ag.pus ?_ ?_); · exact rfl))) ⟨rfl, trivial⟩ (by repeat (first | exact Ent.refl _ | (apply Ent.cons; · repeat (first | exact pk_head _ _ | apply pk_tail)) | apply Ent.skip))
                · refine CW.region ?_
                  refine L1 (ps_fa T.fa28_0 (by decide) rfl).os ?_
                  refine L1 (os_load1 (by repeat (first | exact pk_head _ _ | apply pk_tail)) T.ag3 rfl (by rfl)) ?_
                  refine L1 (ps_fa T.fa28_0 (by decide) rfl).os ?_
                  refine L1 (os_load1 (by repeat (first | exact pk_head _ _ | apply pk_tail)) T.ag3 rfl (by rfl)) ?_
                  refine L1 (ps_f (ps_neq rfl rfl) (fun h => h e0)).os ?_
                  refine L1 (ps_move rfl).os ?_
                  refine LG1 ?_ (ps_fa T.fa28_3 (by decide) rfl).os ?_
                  · exact rfl
                  refine LG1 ?_ (os_loadN (vs := nc q.id) (by repeat (first | exact pk_head _ _ | apply pk_tail)) T.ag26 T.sz26 rfl (by rfl) (by rfl)) ?_
                  · exact rfl
                  refine LG1 ?_ (ps_fa T.fa28_3 (by decide) rfl).os ?_
                  · exact rfl
                  refine LG1 ?_ (os_loadN (vs := nc r.id) (by repeat (first | exact pk_head _ _ | apply pk_tail)) T.ag26 T.sz26 rfl (by rfl) (by rfl)) ?_
                  · exact rfl
                  refine LG1 ?_ (ps_f (ps_num_neq q.id r.id T.eq26 rfl rfl) (fun h => h e1)).os ?_
                  · exact rfl
                  refine L1 (ps_pick_f rfl rfl).os ?_
                  refine L1 (ps_move rfl).os ?_
                  refine LG1 ?_ (ps_fa T.fa28_4 (by decide) rfl).os ?_
                  · exact rfl
                  refine LG1 ?_ (os_load1 (by repeat (first | exact pk_head _ _ | apply pk_tail)) T.ag3 rfl (by rfl)) ?_
                  · exact rfl
                  refine LG1 ?_ (ps_fa T.fa28_4 (by decide) rfl).os ?_
                  · exact rfl
                  refine LG1 ?_ (os_load1 (by repeat (first | exact pk_head _ _ | apply pk_tail)) T.ag3 rfl (by rfl)) ?_
                  · exact rfl
                  refine LG1 ?_ (ps_f (ps_neq rfl rfl) (fun h => h e2)).os ?_
                  · exact rfl
                  refine L1 (ps_pick_f rfl rfl).os ?_
                  refine L1 (ps_move rfl).os ?_
                  refine LG1 ?_ (ps_fa T.fa28_5 (by decide) rfl).os ?_
                  · exact rfl
                  refine LG1 ?_ (os_load1 (by repeat (first | exact pk_head _ _ | apply pk_tail)) T.ag3 rfl (by rfl)) ?_
                  · exact rfl
                  refine LG1 ?_ (ps_fa T.fa28_5 (by decide) rfl).os ?_
                  · exact rfl
                  refine LG1 ?_ (os_load1 (by repeat (first | exact pk_head _ _ | apply pk_tail)) T.ag3 rfl (by rfl)) ?_
                  · exact rfl
                  refine LG1 ?_ (ps_f (ps_neq rfl rfl) (fun h => h e3)).os ?_
                  · exact rfl
                  refine L1 (ps_pick_f rfl rfl).os ?_
                  refine L1 (ps_move rfl).os ?_
                  refine LG1 ?_ (ps_fa T.fa28_6 (by decide) rfl).os ?_
                  · exact rfl
                  refine LG1 ?_ (os_load1 (by repeat (first | exact pk_head _ _ | apply pk_tail)) T.ag3 rfl (by rfl)) ?_
                  · exact rfl
                  refine LG1 ?_ (ps_fa T.fa28_6 (by decide) rfl).os ?_
                  · exact rfl
                  refine LG1 ?_ (os_load1 (by repeat (first | exact pk_head _ _ | apply pk_tail)) T.ag3 rfl (by rfl)) ?_
                  · exact rfl
                  refine LG1 ?_ (ps_f (ps_neq rfl rfl) (fun h => h e4)).os ?_
                  · exact rfl
                  refine L1 (ps_pick_f rfl rfl).os ?_
                  refine L1 (ps_move rfl).os ?_
                  refine LG1 ?_ (ps_fa T.fa28_1 (by decide) rfl).os ?_
                  · exact rfl
                  refine LG1 ?_ (os_load1 (by repeat (first | exact pk_head _ _ | apply pk_tail)) T.ag22 rfl (by rfl)) ?_
                  · exact rfl
                  refine LG1 ?_ (ps_len_sl T.un22 rfl).os ?_
                  · exact rfl
                  refine LG1 ?_ (ps_fa T.fa28_1 (by decide) rfl).os ?_
                  · exact rfl
                  refine LG1 ?_ (os_load1 (by repeat (first | exact pk_head _ _ | apply pk_tail)) T.ag22 rfl (by rfl)) ?_
                  · exact rfl
                  refine LG1 ?_ (ps_len_sl T.un22 rfl).os ?_
                  · exact rfl
                  refine LG1 ?_ (ps_f (ps_neq rfl rfl) (fun h => h (congrArg Nat.cast e5))).os ?_
                  · exact rfl
                  refine L1 (ps_pick_f rfl rfl).os ?_
                  refine L1 (ps_move rfl).os ?_
                  refine LG1 ?_ (ps_fa T.fa28_2 (by decide) rfl).os ?_
                  · exact rfl
                  refine LG1 ?_ (os_load1 (by repeat (first | exact pk_head _ _ | apply pk_tail)) T.ag23 rfl (by rfl)) ?_
                  · exact rfl
                  refine LG1 ?_ (ps_len_sl T.un23 rfl).os ?_
                  · exact rfl
                  refine LG1 ?_ (ps_fa T.fa28_2 (by decide) rfl).os ?_
                  · exact rfl
                  refine LG1 ?_ (os_load1 (by repeat (first | exact pk_head _ _ | apply pk_tail)) T.ag23 rfl (by rfl)) ?_
                  · exact rfl
                  refine LG1 ?_ (ps_len_sl T.un23 rfl).os ?_
                  · exact rfl
                  refine LG1 ?_ (ps_t (ps_neq rfl rfl) (fun h => e6 (Int.ofNat.inj h))).os ?_
                  · exact rfl
                  refine L1 (ps_pick_f rfl rfl).os ?_
                  refine LW.nil ?_
                  exact Meet.cut true ⟨fun h => (by cases h), fun _ h => e6 (by rw [h])⟩ (by repeat (first | (with_reducible exact Ag.refl _ _) | (with_reducible apply Ag.pu0) | ((with_reducible refine Ag.pu _ ?_ ?_); · exact rfl) | ((with_reducible refine Ag.mix ?_ ?_); · exact rfl) | ((with_reducible refine Ag.pus ?_ ?_); · exact rfl))) ⟨rfl, trivial⟩ (by repeat (first | exact Ent.refl _ | (apply Ent.cons; · repeat (first | exact pk_head _ _ | apply pk_tail)) | apply Ent.skip))
              · refine CW.region ?_
                refine L1 (ps_fa T.fa28_0 (by decide) rfl).os ?_
                refine L1 (os_load1 (by repeat (first | exact pk_head _ _ | apply pk_tail)) T.ag3 rfl (by rfl)) ?_
                refine L1 (ps_fa T.fa28_0 (by decide) rfl).os ?_
                refine L1 (os_load1 (by repeat (first | exact pk_head _ _ | apply pk_tail)) T.ag3 rfl (by rfl)) ?_
                refine L1 (ps_f (ps_neq rfl rfl) (fun h => h e0)).os ?_
                refine L1 (ps_move rfl).os ?_
                refine LG1 ?_ (ps_fa T.fa28_3 (by decide) rfl).os ?_
                · exact rfl
                refine LG1 ?_ (os_loadN (vs := nc q.id) (by repeat (first | exact pk_head _ _ | apply pk_tail)) T.ag26 T.sz26 rfl (by rfl) (by rfl)) ?_
                · exact rfl
                refine LG1 ?_ (ps_fa T.fa28_3 (by decide) rfl).os ?_
                · exact rfl
                refine LG1 ?_ (os_loadN (vs := nc r.id) (by repeat (first | exact pk_head _ _ | apply pk_tail)) T.ag26 T.sz26 rfl (by rfl) (by rfl)) ?_
                · exact rfl
                refine LG1 ?_ (ps_f (ps_num_neq q.id r.id T.eq26 rfl rfl) (fun h => h e1)).os ?_
                · exact rfl
                refine L1 (ps_pick_f rfl rfl).os ?_
                refine L1 (ps_move rfl).os ?_
                refine LG1 ?_ (ps_fa T.fa28_4 (by decide) rfl).os ?_
                · exact rfl
                refine LG1 ?_ (os_load1 (by repeat (first | exact pk_head _ _ | apply pk_tail)) T.ag3 rfl (by rfl)) ?_
                · exact rfl
                refine LG1 ?_ (ps_fa T.fa28_4 (by decide) rfl).os ?_
                · exact rfl
                refine LG1 ?_ (os_load1 (by repeat (first | exact pk_head _ _ | apply pk_tail)) T.ag3 rfl (by rfl)) ?_
                · exact rfl
                refine LG1 ?_ (ps_f (ps_neq rfl rfl) (fun h => h e2)).os ?_
                · exact rfl
                refine L1 (ps_pick_f rfl rfl).os ?_
                refine L1 (ps_move rfl).os ?_
                refine LG1 ?_ (ps_fa T.fa28_5 (by decide) rfl).os ?_
                · exact rfl
                refine LG1 ?_ (os_load1 (by repeat (first | exact pk_head _ _ | apply pk_tail)) T.ag3 rfl (by rfl)) ?_
                · exact rfl
                refine LG1 ?_ (ps_fa T.fa28_5 (by decide) rfl).os ?_
                · exact rfl
                refine LG1 ?_ (os_load1 (by repeat (first | exact pk_head _ _ | apply pk_tail)) T.ag3 rfl (by rfl)) ?_
                · exact rfl
                refine LG1 ?_ (ps_f (ps_neq rfl rfl) (fun h => h e3)).os ?_
                · exact rfl
                refine L1 (ps_pick_f rfl rfl).os ?_
                refine L1 (ps_move rfl).os ?_
                refine LG1 ?_ (ps_fa T.fa28_6 (by decide) rfl).os ?_
                · exact rfl
                refine LG1 ?_ (os_load1 (by repeat (first | exact pk_head _ _ | apply pk_tail)) T.ag3 rfl (by rfl)) ?_
                · exact rfl
                refine LG1 ?_ (ps_fa T.fa28_6 (by decide) rfl).os ?_
                · exact rfl
                refine LG1 ?_ (os_load1 (by repeat (first | exact pk_head _ _ | apply pk_tail)) T.ag3 rfl (by rfl)) ?_
                · exact rfl
                refine LG1 ?_ (ps_f (ps_neq rfl rfl) (fun h => h e4)).os ?_
                · exact rfl
                refine L1 (ps_pick_f rfl rfl).os ?_
                refine L1 (ps_move rfl).os ?_
                refine LG1 ?_ (ps_fa T.fa28_1 (by decide) rfl).os ?_
                · exact rfl
                refine LG1 ?_ (os_load1 (by repeat (first | exact pk_head _ _ | apply pk_tail)) T.ag22 rfl (by rfl)) ?_
                · exact rfl
                refine LG1 ?_ (ps_len_sl T.un22 rfl).os ?_
                · exact rfl
                refine LG1 ?_ (ps_fa T.fa28_1 (by decide) rfl).os ?_
                · exact rfl
                refine LG1 ?_ (os_load1 (by repeat (first | exact pk_head _ _ | apply pk_tail)) T.ag22 rfl (by rfl)) ?_
                · exact rfl
                refine LG1 ?_ (ps_len_sl T.un22 rfl).os ?_
                · exact rfl
                refine LG1 ?_ (ps_t (ps_neq rfl rfl) (fun h => e5 (Int.ofNat.inj h))).os ?_
                · exact rfl
                refine L1 (ps_pick_f rfl rfl).os ?_
                refine L1 (ps_move rfl).os ?_
                refine LG0f ?_ ?_
                · exact rfl
                refine LG0f ?_ ?_
                · exact rfl
                refine LG0f ?_ ?_
                · exact rfl
                refine LG0f ?_ ?_
                · exact rfl
                refine LG0f ?_ ?_
                · exact rfl
                refine LG0f ?_ ?_
                · exact rfl
                refine LG0f ?_ ?_
                · exact rfl
                refine L1 (ps_pick_t rfl rfl).os ?_
                refine LW.nil ?_
                exact Meet.cut true ⟨fun h => (by cases h), fun _ h => e5 (by rw [h])⟩ (by repeat (first | (with_reducible exact Ag.refl _ _) | (with_reducible apply Ag.pu0) | ((with_reducible refine Ag.pu _ ?_ ?_); · exact rfl) | ((with_reducible refine Ag.mix ?_ ?_); · exact rfl) | ((with_reducible refine Ag.pus ?_ ?_); · exact rfl))) ⟨rfl, trivial⟩ (by repeat (first | exact Ent.refl _ | (apply Ent.cons; · repeat (first | exact pk_head _ _ | apply pk_tail)) | apply Ent.skip))
            · refine CW.region ?_
              refine L1 (ps_fa T.fa28_0 (by decide) rfl).os ?_
              refine L1 (os_load1 (by repeat (first | exact pk_head _ _ | apply pk_tail)) T.ag3 rfl (by rfl)) ?_
              refine L1 (ps_fa T.fa28_0 (by decide) rfl).os ?_
              refine L1 (os_load1 (by repeat (first | exact pk_head _ _ | apply pk_tail)) T.ag3 rfl (by rfl)) ?_
              refine L1 (ps_f (ps_neq rfl rfl) (fun h => h e0)).os ?_
              refine L1 (ps_move rfl).os ?_
              refine LG1 ?_ (ps_fa T.fa28_3 (by decide) rfl).os ?_
              · exact rfl
              refine LG1 ?_ (os_loadN (vs := nc q.id) (by repeat (first | exact pk_head _ _ | apply pk_tail)) T.ag26 T.sz26 rfl (by rfl) (by rfl)) ?_
              · exact rfl
              refine LG1 ?_ (ps_fa T.fa28_3 (by decide) rfl).os ?_
              · exact rfl
              refine LG1 ?_ (os_loadN (vs := nc r.id) (by repeat (first | exact pk_head _ _ | apply pk_tail)) T.ag26 T.sz26 rfl (by rfl) (by rfl)) ?_
              · exact rfl
              refine LG1 ?_ (ps_f (ps_num_neq q.id r.id T.eq26 rfl rfl) (fun h => h e1)).os ?_
              · exact rfl
              refine L1 (ps_pick_f rfl rfl).os ?_
              refine L1 (ps_move rfl).os ?_
              refine LG1 ?_ (ps_fa T.fa28_4 (by decide) rfl).os ?_
              · exact rfl
              refine LG1 ?_ (os_load1 (by repeat (first | exact pk_head _ _ | apply pk_tail)) T.ag3 rfl (by rfl)) ?_
              · exact rfl
              refine LG1 ?_ (ps_fa T.fa28_4 (by decide) rfl).os ?_
              · exact rfl
              refine LG1 ?_ (os_load1 (by repeat (first | exact pk_head _ _ | apply pk_tail)) T.ag3 rfl (by rfl)) ?_
              · exact rfl
              refine LG1 ?_ (ps_f (ps_neq rfl rfl) (fun h => h e2)).os ?_
              · exact rfl
              refine L1 (ps_pick_f rfl rfl).os ?_
              refine L1 (ps_move rfl).os ?_
              refine LG1 ?_ (ps_fa T.fa28_5 (by decide) rfl).os ?_
              · exact rfl
              refine LG1 ?_ (os_load1 (by repeat (first | exact pk_head _ _ | apply pk_tail)) T.ag3 rfl (by rfl)) ?_
              · exact rfl
              refine LG1 ?_ (ps_fa T.fa28_5 (by decide) rfl).os ?_
              · exact rfl
              refine LG1 ?_ (os_load1 (by repeat (first | exact pk_head _ _ | apply pk_tail)) T.ag3 rfl (by rfl)) ?_
              · exact rfl
              refine LG1 ?_ (ps_f (ps_neq rfl rfl) (fun h => h e3)).os ?_
              · exact rfl
              refine L1 (ps_pick_f rfl rfl).os ?_
              refine L1 (ps_move rfl).os ?_
              refine LG1 ?_ (ps_fa T.fa28_6 (by decide) rfl).os ?_
              · exact rfl
              refine LG1 ?_ (os_load1 (by repeat (first | exact pk_head _ _ | apply pk_tail)) T.ag3 rfl (by rfl)) ?_
              · exact rfl
              refine LG1 ?_ (ps_fa T.fa28_6 (by decide) rfl).os ?_
              · exact rfl
              refine LG1 ?_ (os_load1 (by repeat (first | exact pk_head _ _ | apply pk_tail)) T.ag3 rfl (by rfl)) ?_
              · exact rfl
              refine LG1 ?_ (ps_t (ps_neq rfl rfl) (e4)).os ?_
              · exact rfl
              refine L1 (ps_pick_f rfl rfl).os ?_
              refine L1 (ps_move rfl).os ?_
              refine LG0f ?_ ?_
              · exact rfl
              refine LG0f ?_ ?_
              · exact rfl
              refine LG0f ?_ ?_
              · exact rfl
              refine LG0f ?_ ?_
              · exact rfl
              refine LG0f ?_ ?_
              · exact rfl
              refine LG0f ?_ ?_
              · exact rfl
              refine LG0f ?_ ?_
              · exact rfl
              refine L1 (ps_pick_t rfl rfl).os ?_
              refine L1 (ps_move rfl).os ?_
              refine LG0f ?_ ?_
              · exact rfl
              refine LG0f ?_ ?_
              · exact rfl
              refine LG0f ?_ ?_
              · exact rfl
              refine LG0f ?_ ?_
              · exact rfl
              refine LG0f ?_ ?_
              · exact rfl
              refine LG0f ?_ ?_
              · exact rfl
              refine LG0f ?_ ?_
              · exact rfl
              refine L1 (ps_pick_t rfl rfl).os ?_
              refine LW.nil ?_
              exact Meet.cut true ⟨fun h => (by cases h), fun _ h => e4 (by rw [h])⟩ (by repeat (first | (with_reducible exact Ag.refl _ _) | (with_reducible apply Ag.pu0) | ((with_reducible refine Ag.pu _ ?_ ?_); · exact rfl) | ((with_reducible refine Ag.mix ?_ ?_); · exact rfl) | ((with_reducible refine Ag.pus ?_ ?_); · exact rfl))) ⟨rfl, trivial⟩ (by repeat (first | exact Ent.refl _ | (apply Ent.cons; · repeat (first | exact pk_head _ _ | apply pk_tail)) | apply Ent.skip))
          · refine CW.region ?_
            refine L1 (ps_fa T.fa28_0 (by decide) rfl).os ?_
            refine L1 (os_load1 (by repeat (first | exact pk_head _ _ | apply pk_tail)) T.ag3 rfl (by rfl)) ?_
            refine L1 (ps_fa T.fa28_0 (by decide) rfl).os ?_
            refine L1 (os_load1 (by repeat (first | exact pk_head _ _ | apply pk_tail)) T.ag3 rfl (by rfl)) ?_
            refine L1 (ps_f (ps_neq rfl rfl) (fun h => h e0)).os ?_
            refine L1 (ps_move rfl).os ?_
            refine LG1 ?_ (ps_fa T.fa28_3 (by decide) rfl).os ?_
            · exact rfl
            refine LG1 ?_ (os_loadN (vs := nc q.id) (by repeat (first | exact pk_head _ _ | apply pk_tail)) T.ag26 T.sz26 rfl (by rfl) (by rfl)) ?_
            · exact rfl
            refine LG1 ?_ (ps_fa T.fa28_3 (by decide) rfl).os ?_
            · exact rfl
            refine LG1 ?_ (os_loadN (vs := nc r.id) (by repeat (first | exact pk_head _ _ | apply pk_tail)) T.ag26 T.sz26 rfl (by rfl) (by rfl)) ?_
            · exact rfl
            refine LG1 ?_ (ps_f (ps_num_neq q.id r.id T.eq26 rfl rfl) (fun h => h e1)).os ?_
            · exact rfl
            refine L1 (ps_pick_f rfl rfl).os ?_
            refine L1 (ps_move rfl).os ?_
            refine LG1 ?_ (ps_fa T.fa28_4 (by decide) rfl).os ?_
            · exact rfl
            refine LG1 ?_ (os_load1 (by repeat (first | exact pk_head _ _ | apply pk_tail)) T.ag3 rfl (by rfl)) ?_
            · exact rfl
            refine LG1 ?_ (ps_fa T.fa28_4 (by decide) rfl).os ?_
            · exact rfl
            refine LG1 ?_ (os_load1 (by repeat (first | exact pk_head _ _ | apply pk_tail)) T.ag3 rfl (by rfl)) ?_
            · exact rfl
            refine LG1 ?_ (ps_f (ps_neq rfl rfl) (fun h => h e2)).os ?_
            · exact rfl
            refine L1 (ps_pick_f rfl rfl).os ?_
            refine L1 (ps_move rfl).os ?_
            refine LG1 ?_ (ps_fa T.fa28_5 (by decide) rfl).os ?_
            · exact rfl
            refine LG1 ?_ (os_load1 (by repeat (first | exact pk_head _ _ | apply pk_tail)) T.ag3 rfl (by rfl)) ?_
            · exact rfl
            refine LG1 ?_ (ps_fa T.fa28_5 (by decide) rfl).os ?_
            · exact rfl
            refine LG1 ?_ (os_load1 (by repeat (first | exact pk_head _ _ | apply pk_tail)) T.ag3 rfl (by rfl)) ?_
            · exact rfl
            refine LG1 ?_ (ps_t (ps_neq rfl rfl) (e3)).os ?_
            · exact rfl
            refine L1 (ps_pick_f rfl rfl).os ?_
            refine L1 (ps_move rfl).os ?_
            refine LG0f ?_ ?_
            · exact rfl
            refine LG0f ?_ ?_
            · exact rfl
            refine LG0f ?_ ?_
            · exact rfl
            refine LG0f ?_ ?_
            · exact rfl
            refine LG0f ?_ ?_
            · exact rfl
            refine L1 (ps_pick_t rfl rfl).os ?_
            refine L1 (ps_move rfl).os ?_
            refine LG0f ?_ ?_
            · exact rfl
            refine LG0f ?_ ?_
            · exact rfl
            refine LG0f ?_ ?_
            · exact rfl
            refine LG0f ?_ ?_
            · exact rfl
            refine LG0f ?_ ?_
            · exact rfl
            refine LG0f ?_ ?_
            · exact rfl
            refine LG0f ?_ ?_
            · exact rfl
            refine L1 (ps_pick_t rfl rfl).os ?_
            refine L1 (ps_move rfl).os ?_
            refine LG0f ?_ ?_
            · exact rfl
            refine LG0f ?_ ?_
            · exact rfl
            refine LG0f ?_ ?_
            · exact rfl
            refine LG0f ?_ ?_
            · exact rfl
            refine LG0f ?_ ?_
            · exact rfl
            refine LG0f ?_ ?_
            · exact rfl
            refine LG0f ?_ ?_
            · exact rfl
            refine L1 (ps_pick_t rfl rfl).os ?_
            refine LW.nil ?_
            exact Meet.cut true ⟨fun h => (by cases h), fun _ h => e3 (by rw [h])⟩ (by repeat (first | (with_reducible exact Ag.refl _ _) | (with_reducible apply Ag.pu0) | ((with_reducible refine Ag.pu _ ?_ ?_); · exact rfl) | ((with_reducible refine Ag.mix ?_ ?_); · exact rfl) | ((with_reducible refine Ag.pus ?_ ?_); · exact rfl))) ⟨rfl, trivial⟩ (by repeat (first | exact Ent.refl _ | (apply Ent.cons; · repeat (first | exact pk_head _ _ | apply pk_tail)) | apply Ent.skip))
        · refine CW.region ?_
          refine L1 (ps_fa T.fa28_0 (by decide) rfl).os ?_
          refine L1 (os_load1 (by repeat (first | exact pk_head _ _ | apply pk_tail)) T.ag3 rfl (by rfl)) ?_
          refine L1 (ps_fa T.fa28_0 (by decide) rfl).os ?_
          refine L1 (os_load1 (by repeat (first | exact pk_head _ _ | apply pk_tail)) T.ag3 rfl (by rfl)) ?_
          refine L1 (ps_f (ps_neq rfl rfl) (fun h => h e0)).os ?_
          refine L1 (ps_move rfl).os ?_
          refine LG1 ?_ (ps_fa T.fa28_3 (by decide) rfl).os ?_
          · exact rfl
          refine LG1 ?_ (os_loadN (vs := nc q.id) (by repeat (first | exact pk_head _ _ | apply pk_tail)) T.ag26 T.sz26 rfl (by rfl) (by rfl)) ?_
          · exact rfl
          refine LG1 ?_ (ps_fa T.fa28_3 (by decide) rfl).os ?_
          · exact rfl
          refine LG1 ?_ (os_loadN (vs := nc r.id) (by repeat (first | exact pk_head _ _ | apply pk_tail)) T.ag26 T.sz26 rfl (by rfl) (by rfl)) ?_
          · exact rfl
          refine LG1 ?_ (ps_f (ps_num_neq q.id r.id T.eq26 rfl rfl) (fun h => h e1)).os ?_
          · exact rfl
          refine L1 (ps_pick_f rfl rfl).os ?_
          refine L1 (ps_move rfl).os ?_
          refine LG1 ?_ (ps_fa T.fa28_4 (by decide) rfl).os ?_
          · exact rfl
          refine LG1 ?_ (os_load1 (by repeat (first | exact pk_head _ _ | apply pk_tail)) T.ag3 rfl (by rfl)) ?_
          · exact rfl
          refine LG1 ?_ (ps_fa T.fa28_4 (by decide) rfl).os ?_
          · exact rfl
          refine LG1 ?_ (os_load1 (by repeat (first | exact pk_head _ _ | apply pk_tail)) T.ag3 rfl (by rfl)) ?_
          · exact rfl
          refine LG1 ?_ (ps_t (ps_neq rfl rfl) (e2)).os ?_
          · exact rfl
          refine L1 (ps_pick_f rfl rfl).os ?_
          refine L1 (ps_move rfl).os ?_
          refine LG0f ?_ ?_
          · exact rfl
          refine LG0f ?_ ?_
          · exact rfl
          refine LG0f ?_ ?_
          · exact rfl
          refine LG0f ?_ ?_
          · exact rfl
          refine LG0f ?_ ?_
          · exact rfl
          refine L1 (ps_pick_t rfl rfl).os ?_
          refine L1 (ps_move rfl).os ?_
          refine LG0f ?_ ?_
          · exact rfl
          refine LG0f ?_ ?_
          · exact rfl
          refine LG0f ?_ ?_
          · exact rfl
          refine LG0f ?_ ?_
          · exact rfl
          refine LG0f ?_ ?_
          · exact rfl
          refine L1 (ps_pick_t rfl rfl).os ?_
          refine L1 (ps_move rfl).os ?_
          refine LG0f ?_ ?_
          · exact rfl
          refine LG0f ?_ ?_
          · exact rfl
          refine LG0f ?_ ?_
          · exact rfl
          refine LG0f ?_ ?_
          · exact rfl
          refine LG0f ?_ ?_
          · exact rfl
          refine LG0f ?_ ?_
          · exact rfl
          refine LG0f ?_ ?_
          · exact rfl
          refine L1 (ps_pick_t rfl rfl).os ?_
          refine L1 (ps_move rfl).os ?_
          refine LG0f ?_ ?_
          · exact rfl
          refine LG0f ?_ ?_
          · exact rfl
          refine LG0f ?_ ?_
          · exact rfl
          refine LG0f ?_ ?_
          · exact rfl
          refine LG0f ?_ ?_
          · exact rfl
          refine LG0f ?_ ?_
          · exact rfl
          refine LG0f ?_ ?_
          · exact rfl
          refine L1 (ps_pick_t rfl rfl).os ?_
          refine LW.nil ?_
          exact Meet.cut true ⟨fun h => (by cases h), fun _ h => e2 (by rw [h])⟩ (by repeat (first | (with_reducible exact Ag.refl _ _) | (with_reducible apply Ag.pu0) | ((with_reducible refine Ag.pu _ ?_ ?_); · exact rfl) | ((with_reducible refine Ag.mix ?_ ?_); · exact rfl) | ((with_reducible refine Ag.pus ?_ ?_); · exact rfl))) ⟨rfl, trivial⟩ (by repeat (first | exact Ent.refl _ | (apply Ent.cons; · repeat (first | exact pk_head _ _ | apply pk_tail)) | apply Ent.skip))
      · refine CW.region ?_
        refine L1 (ps_fa T.fa28_0 (by decide) rfl).os ?_
        refine L1 (os_load1 (by repeat (first | exact pk_head _ _ | apply pk_tail)) T.ag3 rfl (by rfl)) ?_
        refine L1 (ps_fa T.fa28_0 (by decide) rfl).os ?_
        refine L1 (os_load1 (by repeat (first | exact pk_head _ _ | apply pk_tail)) T.ag3 rfl (by rfl)) ?_
        refine L1 (ps_f (ps_neq rfl rfl) (fun h => h e0)).os ?_
        refine L1 (ps_move rfl).os ?_
        refine LG1 ?_ (ps_fa T.fa28_3 (by decide) rfl).os ?_
        · exact rfl
        refine LG1 ?_ (os_loadN (vs := nc q.id) (by repeat (first | exact pk_head _ _ | apply pk_tail)) T.ag26 T.sz26 rfl (by rfl) (by rfl)) ?_
        · exact rfl
        refine LG1 ?_ (ps_fa T.fa28_3 (by decide) rfl).os ?_
        · exact rfl
        refine LG1 ?_ (os_loadN (vs := nc r.id) (by repeat (first | exact pk_head _ _ | apply pk_tail)) T.ag26 T.sz26 rfl (by rfl) (by rfl)) ?_
        · exact rfl
        refine LG1 ?_ (ps_t (ps_num_neq q.id r.id T.eq26 rfl rfl) e1).os ?_
        · exact rfl
        refine L1 (ps_pick_f rfl rfl).os ?_
        refine L1 (ps_move rfl).os ?_
        refine LG0f ?_ ?_
        · exact rfl
        refine LG0f ?_ ?_
        · exact rfl
        refine LG0f ?_ ?_
        · exact rfl
        refine LG0f ?_ ?_
        · exact rfl
        refine LG0f ?_ ?_
        · exact rfl
        refine L1 (ps_pick_t rfl rfl).os ?_
        refine L1 (ps_move rfl).os ?_
        refine LG0f ?_ ?_
        · exact rfl
        refine LG0f ?_ ?_
        · exact rfl
        refine LG0f ?_ ?_
        · exact rfl
        refine LG0f ?_ ?_
        · exact rfl
        refine LG0f ?_ ?_
        · exact rfl
        refine L1 (ps_pick_t rfl rfl).os ?_
        refine L1 (ps_move rfl).os ?_
        refine LG0f ?_ ?_
        · exact rfl
        refine LG0f ?_ ?_
        · exact rfl
        refine LG0f ?_ ?_
        · exact rfl
        refine LG0f ?_ ?_
        · exact rfl
        refine LG0f ?_ ?_
        · exact rfl
        refine L1 (ps_pick_t rfl rfl).os ?_
        refine L1 (ps_move rfl).os ?_
        refine LG0f ?_ ?_
        · exact rfl
        refine LG0f ?_ ?_
        · exact rfl
        refine LG0f ?_ ?_
        · exact rfl
        refine LG0f ?_ ?_
        · exact rfl
        refine LG0f ?_ ?_
        · exact rfl
        refine LG0f ?_ ?_
        · exact rfl
        refine LG0f ?_ ?_
        · exact rfl
        refine L1 (ps_pick_t rfl rfl).os ?_
        refine L1 (ps_move rfl).os ?_
        refine LG0f ?_ ?_
        · exact rfl
        refine LG0f ?_ ?_
        · exact rfl
        refine LG0f ?_ ?_
        · exact rfl
        refine LG0f ?_ ?_
        · exact rfl
        refine LG0f ?_ ?_
        · exact rfl
        refine LG0f ?_ ?_
        · exact rfl
        refine LG0f ?_ ?_
        · exact rfl
        refine L1 (ps_pick_t rfl rfl).os ?_
        refine LW.nil ?_
        exact Meet.cut true ⟨fun h => (by cases h), fun _ h => e1 (by rw [h])⟩ (by repeat (first | (with_reducible exact Ag.refl _ _) | (with_reducible apply Ag.pu0) | ((with_reducible refine Ag.pu _ ?_ ?_); · exact rfl) | ((with_reducible refine Ag.mix ?_ ?_); · exact rfl) | ((with_reducible refine Ag.pus ?_ ?_); · exact rfl))) ⟨rfl, trivial⟩ (by repeat (first | exact Ent.refl _ | (apply Ent.cons; · repeat (first | exact pk_head _ _ | apply pk_tail)) | apply Ent.skip))
    · refine CW.region ?_
      refine L1 (ps_fa T.fa28_0 (by decide) rfl).os ?_
      refine L1 (os_load1 (by repeat (first | exact pk_head _ _ | apply pk_tail)) T.ag3 rfl (by rfl)) ?_
      refine L1 (ps_fa T.fa28_0 (by decide) rfl).os ?_
      refine L1 (os_load1 (by repeat (first | exact pk_head _ _ | apply pk_tail)) T.ag3 rfl (by rfl)) ?_
      refine L1 (ps_t (ps_neq rfl rfl) (e0)).os ?_
      refine L1 (ps_move rfl).os ?_
      refine LG0f ?_ ?_
      · exact rfl
      refine LG0f ?_ ?_
      · exact rfl
      refine LG0f ?_ ?_
      · exact rfl
      refine LG0f ?_ ?_
      · exact rfl
      refine LG0f ?_ ?_
      · exact rfl
      refine L1 (ps_pick_t rfl rfl).os ?_
      refine L1 (ps_move rfl).os ?_
      refine LG0f ?_ ?_
      · exact rfl
      refine LG0f ?_ ?_
      · exact rfl
      refine LG0f ?_ ?_
      · exact rfl
      refine LG0f ?_ ?_
      · exact rfl
      refine LG0f ?_ ?_
      · exact rfl
      refine L1 (ps_pick_t rfl rfl).os ?_
      refine L1 (ps_move rfl).os ?_
      refine LG0f ?_ ?_
      · exact rfl
      refine LG0f ?_ ?_
      · exact rfl
      refine LG0f ?_ ?_
      · exact rfl
      refine LG0f ?_ ?_
      · exact rfl
      refine LG0f ?_ ?_
      · exact rfl
      refine L1 (ps_pick_t rfl rfl).os ?_
      refine L1 (ps_move rfl).os ?_
      refine LG0f ?_ ?_
      · exact rfl
      refine LG0f ?_ ?_
      · exact rfl
      refine LG0f ?_ ?_
      · exact rfl
      refine LG0f ?_ ?_
      · exact rfl
      refine LG0f ?_ ?_
      · exact rfl
      refine L1 (ps_pick_t rfl rfl).os ?_
      refine L1 (ps_move rfl).os ?_
      refine LG0f ?_ ?_
      · exact rfl
      refine LG0f ?_ ?_
      · exact rfl
      refine LG0f ?_ ?_
      · exact rfl
      refine LG0f ?_ ?_
      · exact rfl
      refine LG0f ?_ ?_
      · exact rfl
      refine LG0f ?_ ?_
      · exact rfl
      refine LG0f ?_ ?_
      · exact rfl
      refine L1 (ps_pick_t rfl rfl).os ?_
      refine L1 (ps_move rfl).os ?_
      refine LG0f ?_ ?_
      · exact rfl
      refine LG0f ?_ ?_
      · exact rfl
      refine LG0f ?_ ?_
      · exact rfl
      refine LG0f ?_ ?_
      · exact rfl
      refine LG0f ?_ ?_
      · exact rfl
      refine LG0f ?_ ?_
      · exact rfl
      refine LG0f ?_ ?_
      · exact rfl
      refine L1 (ps_pick_t rfl rfl).os ?_
      refine LW.nil ?_
      exact Meet.cut true ⟨fun h => (by cases h), fun _ h => e0 (by rw [h])⟩ (by repeat (first | (with_reducible exact Ag.refl _ _) | (with_reducible apply Ag.pu0) | ((with_reducible refine Ag.pu _ ?_ ?_); · exact rfl) | ((with_reducible refine Ag.mix ?_ ?_); · exact rfl) | ((with_reducible refine Ag.pus ?_ ?_); · exact rfl))) ⟨rfl, trivial⟩ (by repeat (first | exact Ent.refl _ | (apply Ent.cons; · repeat (first | exact pk_head _ _ | apply pk_tail)) | apply Ent.skip))
  rintro o g1 ⟨ho0, ho1⟩
  repeat (first | refine CW.seq ?_ | refine PW.then_ ?_ | refine CW.block ?_ | refine CW.skip ?_ | refine CW.ret ?_ | refine PW.then_ret ?_ | refine PW.block_ret ?_ | refine Cut.ret ?_ | refine Rnd.ret ?_ | refine PW.block_normal ?_ | refine CW.exit ?_ | refine PW.then_exit ?_ | refine PW.block_hit ?_ | refine PW.block_miss rfl ?_ | refine Cut.exit ?_ | refine Rnd.exit ?_)
  by_cases hot : o = true
  · subst hot
    rw [sameB_f (ho1 rfl)]
    refine CW.cond_true rfl ?_
    repeat (first | refine CW.seq ?_ | refine PW.then_ ?_ | refine CW.block ?_ | refine CW.skip ?_ | refine CW.ret ?_ | refine PW.then_ret ?_ | refine PW.block_ret ?_ | refine Cut.ret ?_ | refine Rnd.ret ?_ | refine PW.block_normal ?_ | refine CW.exit ?_ | refine PW.then_exit ?_ | refine PW.block_hit ?_ | refine PW.block_miss rfl ?_ | refine Cut.exit ?_ | refine Rnd.exit ?_)
    refine CW.region ?_
    refine L1 (ps_assign rfl).os ?_
    refine LW.nil ?_
    repeat (first | refine CW.seq ?_ | refine PW.then_ ?_ | refine CW.block ?_ | refine CW.skip ?_ | refine CW.ret ?_ | refine PW.then_ret ?_ | refine PW.block_ret ?_ | refine Cut.ret ?_ | refine Rnd.ret ?_ | refine PW.block_normal ?_ | refine CW.exit ?_ | refine PW.then_exit ?_ | refine PW.block_hit ?_ | refine PW.block_miss rfl ?_ | refine Cut.exit ?_ | refine Rnd.exit ?_)
    exact Fin.ret1 (v := .bool false) rfl [A, B] rfl ⟨rfl, rfl⟩ (by repeat (first | exact Ent.refl _ | (apply Ent.cons; · repeat (first | exact pk_head _ _ | apply pk_tail)) | apply Ent.skip))
  obtain rfl : o = false := by simpa using hot
  obtain ⟨e0, e1, e2, e3, e4, e5, e6⟩ := ho0 rfl
  refine CW.cond_false rfl ?_
  repeat (first | refine CW.seq ?_ | refine PW.then_ ?_ | refine CW.block ?_ | refine CW.skip ?_ | refine CW.ret ?_ | refine PW.then_ret ?_ | refine PW.block_ret ?_ | refine Cut.ret ?_ | refine Rnd.ret ?_ | refine PW.block_normal ?_ | refine CW.exit ?_ | refine PW.then_exit ?_ | refine PW.block_hit ?_ | refine PW.block_miss rfl ?_ | refine Cut.exit ?_ | refine Rnd.exit ?_)
  refine CW.region ?_
  refine L1 (ps_fa T.fa28_1 (by decide) rfl).os ?_
  refine L1 (os_load1 (by repeat (first | exact pk_head _ _ | apply pk_tail)) T.ag22 rfl (by rfl)) ?_
  refine L1 (ps_len_sl T.un22 rfl).os ?_
  refine L1 (ps_move rfl).os ?_
  refine LW.nil ?_
  repeat (first | refine CW.seq ?_ | refine PW.then_ ?_ | refine CW.block ?_ | refine CW.skip ?_ | refine CW.ret ?_ | refine PW.then_ret ?_ | refine PW.block_ret ?_ | refine Cut.ret ?_ | refine Rnd.ret ?_ | refine PW.block_normal ?_ | refine CW.exit ?_ | refine PW.then_exit ?_ | refine PW.block_hit ?_ | refine PW.block_miss rfl ?_ | refine Cut.exit ?_ | refine Rnd.exit ?_)
  refine CW.loopM (α := Nat) [4, 5, 61, 62, 63, 64, 65, 66, 67, 68, 69, 70, 71, 72, 73, 74, 75] (fun kk i => i ≤ q.accs.length ∧ kk = q.accs.length - i ∧ q.accs.take i = r.accs.take i) (fun i => [(61, .int .i64 i)])
    (fun _ => cb b2 28 (rqCells q (.slice pa q.accs.length ca) (.slice pt q.trs.length ct)) :: cb b3 28 (rqCells r (.slice qa r.accs.length da) (.slice qt r.trs.length dt)) :: A :: B :: F) q.accs.length 0 ⟨Nat.zero_le _, rfl, rfl⟩ ⟨rfl, trivial⟩ (by repeat (first | exact Ent.refl _ | (apply Ent.cons; · repeat (first | exact pk_head _ _ | apply pk_tail)) | apply Ent.skip)) ?_
  rintro kk i g ⟨hi, hkk, htk⟩
  repeat (first | refine CW.seq ?_ | refine PW.then_ ?_ | refine CW.block ?_ | refine CW.skip ?_ | refine CW.ret ?_ | refine PW.then_ret ?_ | refine PW.block_ret ?_ | refine Cut.ret ?_ | refine Rnd.ret ?_ | refine PW.block_normal ?_ | refine CW.exit ?_ | refine PW.then_exit ?_ | refine PW.block_hit ?_ | refine PW.block_miss rfl ?_ | refine Cut.exit ?_ | refine Rnd.exit ?_)
  by_cases hlt : i < q.accs.length
  · obtain ⟨vb, vo, rfl⟩ := hpa (fun h => by have := congrArg List.length h; simp at this; rw [this] at hlt; exact absurd hlt (Nat.not_lt_zero _))
    obtain ⟨ub, uo, rfl⟩ := hqa (fun h => by have := congrArg List.length h; simp at this; rw [e5, this] at hlt; exact absurd hlt (Nat.not_lt_zero _))
    have hltr : i < r.accs.length := by omega
    have hsa := fun As Bs (hp : List.Perm As (A :: Bs)) => ra1.src (i := i) (by simpa using hlt) hp
    have hsb := fun As Bs (hp : List.Perm As (B :: Bs)) => rb1.src (i := i) (by simpa using hltr) hp
    simp only [List.getElem_map] at hsa hsb
    have hstep := take_eq_succ htk hlt hltr
    have hne : q.accs[i] ≠ r.accs[i] → q ≠ r := fun h1 h2 => h1 (by subst h2; rfl)
    generalize q.accs[i] = x at hsa hstep hne
    generalize r.accs[i] = y at hsb hstep hne
    refine CW.region ?_
    refine L1 (ps_t (ps_lss rfl rfl) (by omega)).os ?_
    refine LW.nil ?_
    repeat (first | refine CW.seq ?_ | refine PW.then_ ?_ | refine CW.block ?_ | refine CW.skip ?_ | refine CW.ret ?_ | refine PW.then_ret ?_ | refine PW.block_ret ?_ | refine Cut.ret ?_ | refine Rnd.ret ?_ | refine PW.block_normal ?_ | refine CW.exit ?_ | refine PW.then_exit ?_ | refine PW.block_hit ?_ | refine PW.block_miss rfl ?_ | refine Cut.exit ?_ | refine Rnd.exit ?_)
    refine CW.cond_true rfl ?_
    repeat (first | refine CW.seq ?_ | refine PW.then_ ?_ | refine CW.block ?_ | refine CW.skip ?_ | refine CW.ret ?_ | refine PW.then_ret ?_ | refine PW.block_ret ?_ | refine Cut.ret ?_ | refine Rnd.ret ?_ | refine PW.block_normal ?_ | refine CW.exit ?_ | refine PW.then_exit ?_ | refine PW.block_hit ?_ | refine PW.block_miss rfl ?_ | refine Cut.exit ?_ | refine Rnd.exit ?_)
    refine CW.region ?_
    refine L1 (ps_move rfl).os ?_
    refine L1 (ps_assign rfl).os ?_
    refine LW.nil ?_
    repeat (first | refine CW.seq ?_ | refine PW.then_ ?_ | refine CW.block ?_ | refine CW.skip ?_ | refine CW.ret ?_ | refine PW.then_ret ?_ | refine PW.block_ret ?_ | refine Cut.ret ?_ | refine Rnd.ret ?_ | refine PW.block_normal ?_ | refine CW.exit ?_ | refine PW.then_exit ?_ | refine PW.block_hit ?_ | refine PW.block_miss rfl ?_ | refine Cut.exit ?_ | refine Rnd.exit ?_)
    by_cases hxy : x = y
    · skip
      refine CW.cutB (α := Unit) [64, 65, 66, 67, 68, 69, 70, 71, 72, 73, 74] (fun _ => True) (fun _ => [(74, .bool false)]) (fun _ => cb b2 28 (rqCells q (.slice (some ⟨vb, vo, none⟩) q.accs.length ca) (.slice pt q.trs.length ct)) :: cb b3 28 (rqCells r (.slice (some ⟨ub, uo, none⟩) r.accs.length da) (.slice qt r.trs.length dt)) :: A :: B :: F) ?_ ?_
      · refine CW.drawH [cb b2 28 (rqCells q (.slice (some ⟨vb, vo, none⟩) q.accs.length ca) (.slice pt q.trs.length ct)), cb b3 28 (rqCells r (.slice (some ⟨ub, uo, none⟩) r.accs.length da) (.slice qt r.trs.length dt)), A, B] [] T.mixed ?_
        refine H_take (i := 0) (some 64) rfl rfl (by kernel_rfl) (by kernel_rfl) (by kernel_rfl) rfl (ps_fa T.fa28_1 (by decide) rfl).pl (by kernel_rfl) (pkc (by repeat (first | exact pk_head _ _ | apply pk_tail)) (pkc (by repeat (first | exact pk_head _ _ | apply pk_tail)) (pkc (by repeat (first | exact pk_head _ _ | apply pk_tail)) (pkc (by repeat (first | exact pk_head _ _ | apply pk_tail)) (pkn _))))) ?_
        refine H_take (i := 1) (some 65) rfl rfl (by kernel_rfl) (by kernel_rfl) (by kernel_rfl) rfl (pl_load1 (by repeat (first | exact pk_head _ _ | apply pk_tail)) T.ag22 rfl (by rfl)) (by kernel_rfl) (pkc (by repeat (first | exact pk_head _ _ | apply pk_tail)) (pkc (by repeat (first | exact pk_head _ _ | apply pk_tail)) (pkc (by repeat (first | exact pk_head _ _ | apply pk_tail)) (pkc (by repeat (first | exact pk_head _ _ | apply pk_tail)) (pkn _))))) ?_
        refine H_take (i := 2) (some 66) rfl rfl (by kernel_rfl) (by kernel_rfl) (by kernel_rfl) rfl (ps_move rfl).pl (by kernel_rfl) (pkc (by repeat (first | exact pk_head _ _ | apply pk_tail)) (pkc (by repeat (first | exact pk_head _ _ | apply pk_tail)) (pkc (by repeat (first | exact pk_head _ _ | apply pk_tail)) (pkc (by repeat (first | exact pk_head _ _ | apply pk_tail)) (pkn _))))) ?_
        refine H_take (i := 3) (some 67) rfl rfl (by kernel_rfl) (by kernel_rfl) (by kernel_rfl) rfl (ps_ia_slice T.un22 T.sz59 rfl rfl (by omega) (by omega)).pl (by kernel_rfl) (pkc (by repeat (first | exact pk_head _ _ | apply pk_tail)) (pkc (by repeat (first | exact pk_head _ _ | apply pk_tail)) (pkc (by repeat (first | exact pk_head _ _ | apply pk_tail)) (pkc (by repeat (first | exact pk_head _ _ | apply pk_tail)) (pkn _))))) ?_
        refine H_take (i := 4) (some 68) rfl rfl (by kernel_rfl) (by kernel_rfl) (by kernel_rfl) rfl (pl_loadS (vs := accCells x) (fun Bs => hsa _ _ (by repeat (first | exact pk_head _ _ | apply pk_tail))) (by simp [accCells, nc]) T.ag59 (by exact T.sz59) rfl) (by kernel_rfl) (pkc (by repeat (first | exact pk_head _ _ | apply pk_tail)) (pkc (by repeat (first | exact pk_head _ _ | apply pk_tail)) (pkc (by repeat (first | exact pk_head _ _ | apply pk_tail)) (pkc (by repeat (first | exact pk_head _ _ | apply pk_tail)) (pkn _))))) ?_
        refine H_take (i := 5) (some 69) rfl rfl (by kernel_rfl) (by kernel_rfl) (by kernel_rfl) rfl (ps_fa T.fa28_1 (by decide) rfl).pl (by kernel_rfl) (pkc (by repeat (first | exact pk_head _ _ | apply pk_tail)) (pkc (by repeat (first | exact pk_head _ _ | apply pk_tail)) (pkc (by repeat (first | exact pk_head _ _ | apply pk_tail)) (pkc (by repeat (first | exact pk_head _ _ | apply pk_tail)) (pkn _))))) ?_
        refine H_take (i := 6) (some 70) rfl rfl (by kernel_rfl) (by kernel_rfl) (by kernel_rfl) rfl (pl_load1 (by repeat (first | exact pk_head _ _ | apply pk_tail)) T.ag22 rfl (by rfl)) (by kernel_rfl) (pkc (by repeat (first | exact pk_head _ _ | apply pk_tail)) (pkc (by repeat (first | exact pk_head _ _ | apply pk_tail)) (pkc (by repeat (first | exact pk_head _ _ | apply pk_tail)) (pkc (by repeat (first | exact pk_head _ _ | apply pk_tail)) (pkn _))))) ?_
        refine H_take (i := 7) (some 71) rfl rfl (by kernel_rfl) (by kernel_rfl) (by kernel_rfl) rfl (ps_move rfl).pl (by kernel_rfl) (pkc (by repeat (first | exact pk_head _ _ | apply pk_tail)) (pkc (by repeat (first | exact pk_head _ _ | apply pk_tail)) (pkc (by repeat (first | exact pk_head _ _ | apply pk_tail)) (pkc (by repeat (first | exact pk_head _ _ | apply pk_tail)) (pkn _))))) ?_
        refine H_take (i := 8) (some 72) rfl rfl (by kernel_rfl) (by kernel_rfl) (by kernel_rfl) rfl (ps_ia_slice T.un22 T.sz59 rfl rfl (by omega) (by omega)).pl (by kernel_rfl) (pkc (by repeat (first | exact pk_head _ _ | apply pk_tail)) (pkc (by repeat (first | exact pk_head _ _ | apply pk_tail)) (pkc (by repeat (first | exact pk_head _ _ | apply pk_tail)) (pkc (by repeat (first | exact pk_head _ _ | apply pk_tail)) (pkn _))))) ?_
        refine H_take (i := 9) (some 73) rfl rfl (by kernel_rfl) (by kernel_rfl) (by kernel_rfl) rfl (pl_loadS (vs := accCells y) (fun Bs => hsb _ _ (by repeat (first | exact pk_head _ _ | apply pk_tail))) (by simp [accCells, nc]) T.ag59 (by exact T.sz59) rfl) (by kernel_rfl) (pkc (by repeat (first | exact pk_head _ _ | apply pk_tail)) (pkc (by repeat (first | exact pk_head _ _ | apply pk_tail)) (pkc (by repeat (first | exact pk_head _ _ | apply pk_tail)) (pkc (by repeat (first | exact pk_head _ _ | apply pk_tail)) (pkn _))))) ?_
        refine H_take (i := 10) (some 74) rfl rfl (by kernel_rfl) (by kernel_rfl) (by kernel_rfl) rfl (ps_agg_neq_f T.eq59 rfl rfl (by exact rfl) (by exact rfl) (congrArg accCells hxy)).pl (by kernel_rfl) (pkc (by repeat (first | exact pk_head _ _ | apply pk_tail)) (pkc (by repeat (first | exact pk_head _ _ | apply pk_tail)) (pkc (by repeat (first | exact pk_head _ _ | apply pk_tail)) (pkc (by repeat (first | exact pk_head _ _ | apply pk_tail)) (pkn _))))) ?_
        refine H_done (by kernel_rfl) ?_
        exact Meet.cut () trivial (by repeat (first | (with_reducible exact Ag.refl _ _) | (with_reducible apply Ag.pu0) | ((with_reducible refine Ag.pu _ ?_ ?_); · exact rfl) | ((with_reducible refine Ag.mix ?_ ?_); · exact rfl) | ((with_reducible refine Ag.pus ?_ ?_); · exact rfl))) ⟨rfl, trivial⟩ (by repeat (first | exact Ent.refl _ | (apply Ent.cons; · repeat (first | exact pk_head _ _ | apply pk_tail)) | apply Ent.skip))
      intro _ _ _
      repeat (first | refine CW.seq ?_ | refine PW.then_ ?_ | refine CW.block ?_ | refine CW.skip ?_ | refine CW.ret ?_ | refine PW.then_ret ?_ | refine PW.block_ret ?_ | refine Cut.ret ?_ | refine Rnd.ret ?_ | refine PW.block_normal ?_ | refine CW.exit ?_ | refine PW.then_exit ?_ | refine PW.block_hit ?_ | refine PW.block_miss rfl ?_ | refine Cut.exit ?_ | refine Rnd.exit ?_)
      refine CW.cond_false rfl ?_
      repeat (first | refine CW.seq ?_ | refine PW.then_ ?_ | refine CW.block ?_ | refine CW.skip ?_ | refine CW.ret ?_ | refine PW.then_ret ?_ | refine PW.block_ret ?_ | refine Cut.ret ?_ | refine Rnd.ret ?_ | refine PW.block_normal ?_ | refine CW.exit ?_ | refine PW.then_exit ?_ | refine PW.block_hit ?_ | refine PW.block_miss rfl ?_ | refine Cut.exit ?_ | refine Rnd.exit ?_)
      refine CW.region ?_
      refine L1 (ps_add_i64 rfl rfl (by omega) (by omega)).os ?_
      refine L1 (ps_move rfl).os ?_
      refine LW.nil ?_
      exact Meet.round (q.accs.length - (i + 1)) (i + 1) (by omega) ⟨hlt, rfl, hstep hxy⟩ (by repeat (first | (with_reducible exact Ag.refl _ _) | (with_reducible apply Ag.pu0) | ((with_reducible refine Ag.pu _ ?_ ?_); · exact rfl) | ((with_reducible refine Ag.mix ?_ ?_); · exact rfl) | ((with_reducible refine Ag.pus ?_ ?_); · exact rfl))) ⟨rfl, trivial⟩ (by repeat (first | exact Ent.refl _ | (apply Ent.cons; · repeat (first | exact pk_head _ _ | apply pk_tail)) | apply Ent.skip))
    · rw [sameB_f (hne hxy)]
      refine CW.cutB (α := Unit) [64, 65, 66, 67, 68, 69, 70, 71, 72, 73, 74] (fun _ => True) (fun _ => [(74, .bool true)]) (fun _ => cb b2 28 (rqCells q (.slice (some ⟨vb, vo, none⟩) q.accs.length ca) (.slice pt q.trs.length ct)) :: cb b3 28 (rqCells r (.slice (some ⟨ub, uo, none⟩) r.accs.length da) (.slice qt r.trs.length dt)) :: A :: B :: F) ?_ ?_
      · refine CW.drawH [cb b2 28 (rqCells q (.slice (some ⟨vb, vo, none⟩) q.accs.length ca) (.slice pt q.trs.length ct)), cb b3 28 (rqCells r (.slice (some ⟨ub, uo, none⟩) r.accs.length da) (.slice qt r.trs.length dt)), A, B] [] T.mixed ?_
        refine H_take (i := 0) (some 64) rfl rfl (by kernel_rfl) (by kernel_rfl) (by kernel_rfl) rfl (ps_fa T.fa28_1 (by decide) rfl).pl (by kernel_rfl) (pkc (by repeat (first | exact pk_head _ _ | apply pk_tail)) (pkc (by repeat (first | exact pk_head _ _ | apply pk_tail)) (pkc (by repeat (first | exact pk_head _ _ | apply pk_tail)) (pkc (by repeat (first | exact pk_head _ _ | apply pk_tail)) (pkn _))))) ?_
        refine H_take (i := 1) (some 65) rfl rfl (by kernel_rfl) (by kernel_rfl) (by kernel_rfl) rfl (pl_load1 (by repeat (first | exact pk_head _ _ | apply pk_tail)) T.ag22 rfl (by rfl)) (by kernel_rfl) (pkc (by repeat (first | exact pk_head _ _ | apply pk_tail)) (pkc (by repeat (first | exact pk_head _ _ | apply pk_tail)) (pkc (by repeat (first | exact pk_head _ _ | apply pk_tail)) (pkc (by repeat (first | exact pk_head _ _ | apply pk_tail)) (pkn _))))) ?_
        refine H_take (i := 2) (some 66) rfl rfl (by kernel_rfl) (by kernel_rfl) (by kernel_rfl) rfl (ps_move rfl).pl (by kernel_rfl) (pkc (by repeat (first | exact pk_head _ _ | apply pk_tail)) (pkc (by repeat (first | exact pk_head _ _ | apply pk_tail)) (pkc (by repeat (first | exact pk_head _ _ | apply pk_tail)) (pkc (by repeat (first | exact pk_head _ _ | apply pk_tail)) (pkn _))))) ?_
        refine H_take (i := 3) (some 67) rfl rfl (by kernel_rfl) (by kernel_rfl) (by kernel_rfl) rfl (ps_ia_slice T.un22 T.sz59 rfl rfl (by omega) (by omega)).pl (by kernel_rfl) (pkc (by repeat (first | exact pk_head _ _ | apply pk_tail)) (pkc (by repeat (first | exact pk_head _ _ | apply pk_tail)) (pkc (by repeat (first | exact pk_head _ _ | apply pk_tail)) (pkc (by repeat (first | exact pk_head _ _ | apply pk_tail)) (pkn _))))) ?_
        refine H_take (i := 4) (some 68) rfl rfl (by kernel_rfl) (by kernel_rfl) (by kernel_rfl) rfl (pl_loadS (vs := accCells x) (fun Bs => hsa _ _ (by repeat (first | exact pk_head _ _ | apply pk_tail))) (by simp [accCells, nc]) T.ag59 (by exact T.sz59) rfl) (by kernel_rfl) (pkc (by repeat (first | exact pk_head _ _ | apply pk_tail)) (pkc (by repeat (first | exact pk_head _ _ | apply pk_tail)) (pkc (by repeat (first | exact pk_head _ _ | apply pk_tail)) (pkc (by repeat (first | exact pk_head _ _ | apply pk_tail)) (pkn _))))) ?_
        refine H_take (i := 5) (some 69) rfl rfl (by kernel_rfl) (by kernel_rfl) (by kernel_rfl) rfl (ps_fa T.fa28_1 (by decide) rfl).pl (by kernel_rfl) (pkc (by repeat (first | exact pk_head _ _ | apply pk_tail)) (pkc (by repeat (first | exact pk_head _ _ | apply pk_tail)) (pkc (by repeat (first | exact pk_head _ _ | apply pk_tail)) (pkc (by repeat (first | exact pk_head _ _ | apply pk_tail)) (pkn _))))) ?_
        refine H_take (i := 6) (some 70) rfl rfl (by kernel_rfl) (by kernel_rfl) (by kernel_rfl) rfl (pl_load1 (by repeat (first | exact pk_head _ _ | apply pk_tail)) T.ag22 rfl (by rfl)) (by kernel_rfl) (pkc (by repeat (first | exact pk_head _ _ | apply pk_tail)) (pkc (by repeat (first | exact pk_head _ _ | apply pk_tail)) (pkc (by repeat (first | exact pk_head _ _ | apply pk_tail)) (pkc (by repeat (first | exact pk_head _ _ | apply pk_tail)) (pkn _))))) ?_
        refine H_take (i := 7) (some 71) rfl rfl (by kernel_rfl) (by kernel_rfl) (by kernel_rfl) rfl (ps_move rfl).pl (by kernel_rfl) (pkc (by repeat (first | exact pk_head _ _ | apply pk_tail)) (pkc (by repeat (first | exact pk_head _ _ | apply pk_tail)) (pkc (by repeat (first | exact pk_head _ _ | apply pk_tail)) (pkc (by repeat (first | exact pk_head _ _ | apply pk_tail)) (pkn _))))) ?_
        refine H_take (i := 8) (some 72) rfl rfl (by kernel_rfl) (by kernel_rfl) (by kernel_rfl) rfl (ps_ia_slice T.un22 T.sz59 rfl rfl (by omega) (by omega)).pl (by kernel_rfl) (pkc (by repeat (first | exact pk_head _ _ | apply pk_tail)) (pkc (by repeat (first | exact pk_head _ _ | apply pk_tail)) (pkc (by repeat (first | exact pk_head _ _ | apply pk_tail)) (pkc (by repeat (first | exact pk_head _ _ | apply pk_tail)) (pkn _))))) ?_
        refine H_take (i := 9) (some 73) rfl rfl (by kernel_rfl) (by kernel_rfl) (by kernel_rfl) rfl (pl_loadS (vs := accCells y) (fun Bs => hsb _ _ (by repeat (first | exact pk_head _ _ | apply pk_tail))) (by simp [accCells, nc]) T.ag59 (by exact T.sz59) rfl) (by kernel_rfl) (pkc (by repeat (first | exact pk_head _ _ | apply pk_tail)) (pkc (by repeat (first | exact pk_head _ _ | apply pk_tail)) (pkc (by repeat (first | exact pk_head _ _ | apply pk_tail)) (pkc (by repeat (first | exact pk_head _ _ | apply pk_tail)) (pkn _))))) ?_
        refine H_take (i := 10) (some 74) rfl rfl (by kernel_rfl) (by kernel_rfl) (by kernel_rfl) rfl (ps_agg_neq_t T.eq59 rfl rfl (by exact rfl) (by exact rfl) (fun h => hxy (accCells_inj h))).pl (by kernel_rfl) (pkc (by repeat (first | exact pk_head _ _ | apply pk_tail)) (pkc (by repeat (first | exact pk_head _ _ | apply pk_tail)) (pkc (by repeat (first | exact pk_head _ _ | apply pk_tail)) (pkc (by repeat (first | exact pk_head _ _ | apply pk_tail)) (pkn _))))) ?_
        refine H_done (by kernel_rfl) ?_
        exact Meet.cut () trivial (by repeat (first | (with_reducible exact Ag.refl _ _) | (with_reducible apply Ag.pu0) | ((with_reducible refine Ag.pu _ ?_ ?_); · exact rfl) | ((with_reducible refine Ag.mix ?_ ?_); · exact rfl) | ((with_reducible refine Ag.pus ?_ ?_); · exact rfl))) ⟨rfl, trivial⟩ (by repeat (first | exact Ent.refl _ | (apply Ent.cons; · repeat (first | exact pk_head _ _ | apply pk_tail)) | apply Ent.skip))
      intro _ _ _
      repeat (first | refine CW.seq ?_ | refine PW.then_ ?_ | refine CW.block ?_ | refine CW.skip ?_ | refine CW.ret ?_ | refine PW.then_ret ?_ | refine PW.block_ret ?_ | refine Cut.ret ?_ | refine Rnd.ret ?_ | refine PW.block_normal ?_ | refine CW.exit ?_ | refine PW.then_exit ?_ | refine PW.block_hit ?_ | refine PW.block_miss rfl ?_ | refine Cut.exit ?_ | refine Rnd.exit ?_)
      refine CW.cond_true rfl ?_
      repeat (first | refine CW.seq ?_ | refine PW.then_ ?_ | refine CW.block ?_ | refine CW.skip ?_ | refine CW.ret ?_ | refine PW.then_ret ?_ | refine PW.block_ret ?_ | refine Cut.ret ?_ | refine Rnd.ret ?_ | refine PW.block_normal ?_ | refine CW.exit ?_ | refine PW.then_exit ?_ | refine PW.block_hit ?_ | refine PW.block_miss rfl ?_ | refine Cut.exit ?_ | refine Rnd.exit ?_)
      refine CW.region ?_
      refine L1 (ps_assign rfl).os ?_
      refine LW.nil ?_
      repeat (first | refine CW.seq ?_ | refine PW.then_ ?_ | refine CW.block ?_ | refine CW.skip ?_ | refine CW.ret ?_ | refine PW.then_ret ?_ | refine PW.block_ret ?_ | refine Cut.ret ?_ | refine Rnd.ret ?_ | refine PW.block_normal ?_ | refine CW.exit ?_ | refine PW.then_exit ?_ | refine PW.block_hit ?_ | refine PW.block_miss rfl ?_ | refine Cut.exit ?_ | refine Rnd.exit ?_)
      exact Fin.ret1 (v := .bool false) rfl [A, B] rfl ⟨rfl, rfl⟩ (by repeat (first | exact Ent.refl _ | (apply Ent.cons; · repeat (first | exact pk_head _ _ | apply pk_tail)) | apply Ent.skip))
  have hil : i = q.accs.length := by omega
  subst hil
  rw [List.take_length, e5, List.take_length] at htk
  refine CW.region ?_
  refine L1 (ps_f (ps_lss rfl rfl) (by omega)).os ?_
  refine LW.nil ?_
  repeat (first | refine CW.seq ?_ | refine PW.then_ ?_ | refine CW.block ?_ | refine CW.skip ?_ | refine CW.ret ?_ | refine PW.then_ret ?_ | refine PW.block_ret ?_ | refine Cut.ret ?_ | refine Rnd.ret ?_ | refine PW.block_normal ?_ | refine CW.exit ?_ | refine PW.then_exit ?_ | refine PW.block_hit ?_ | refine PW.block_miss rfl ?_ | refine Cut.exit ?_ | refine Rnd.exit ?_)
  refine CW.cond_false rfl ?_
  repeat (first | refine CW.seq ?_ | refine PW.then_ ?_ | refine CW.block ?_ | refine CW.skip ?_ | refine CW.ret ?_ | refine PW.then_ret ?_ | refine PW.block_ret ?_ | refine Cut.ret ?_ | refine Rnd.ret ?_ | refine PW.block_normal ?_ | refine CW.exit ?_ | refine PW.then_exit ?_ | refine PW.block_hit ?_ | refine PW.block_miss rfl ?_ | refine Cut.exit ?_ | refine Rnd.exit ?_)
  refine CW.region ?_
  refine L1 (ps_fa T.fa28_2 (by decide) rfl).os ?_
  refine L1 (os_load1 (by repeat (first | exact pk_head _ _ | apply pk_tail)) T.ag23 rfl (by rfl)) ?_
  refine L1 (ps_len_sl T.un23 rfl).os ?_
  refine L1 (ps_move rfl).os ?_
  refine LW.nil ?_
  repeat (first | refine CW.seq ?_ | refine PW.then_ ?_ | refine CW.block ?_ | refine CW.skip ?_ | refine CW.ret ?_ | refine PW.then_ret ?_ | refine PW.block_ret ?_ | refine Cut.ret ?_ | refine Rnd.ret ?_ | refine PW.block_normal ?_ | refine CW.exit ?_ | refine PW.then_exit ?_ | refine PW.block_hit ?_ | refine PW.block_miss rfl ?_ | refine Cut.exit ?_ | refine Rnd.exit ?_)
  refine CW.loopM (α := Nat) [4, 6, 79, 80, 81, 82, 83, 84, 85, 86, 87, 88, 89, 90, 91, 92, 93] (fun kk i => i ≤ q.trs.length ∧ kk = q.trs.length - i ∧ q.trs.take i = r.trs.take i) (fun i => [(79, .int .i64 i)])
    (fun _ => cb b2 28 (rqCells q (.slice pa q.accs.length ca) (.slice pt q.trs.length ct)) :: cb b3 28 (rqCells r (.slice qa r.accs.length da) (.slice qt r.trs.length dt)) :: A :: B :: F) q.trs.length 0 ⟨Nat.zero_le _, rfl, rfl⟩ ⟨rfl, trivial⟩ (by repeat (first | exact Ent.refl _ | (apply Ent.cons; · repeat (first | exact pk_head _ _ | apply pk_tail)) | apply Ent.skip)) ?_
  rintro kk i g ⟨hi, hkk, htk2⟩
  repeat (first | refine CW.seq ?_ | refine PW.then_ ?_ | refine CW.block ?_ | refine CW.skip ?_ | refine CW.ret ?_ | refine PW.then_ret ?_ | refine PW.block_ret ?_ | refine Cut.ret ?_ | refine Rnd.ret ?_ | refine PW.block_normal ?_ | refine CW.exit ?_ | refine PW.then_exit ?_ | refine PW.block_hit ?_ | refine PW.block_miss rfl ?_ | refine Cut.exit ?_ | refine Rnd.exit ?_)
  by_cases hlt : i < q.trs.length
  · obtain ⟨vb, vo, rfl⟩ := hpt (fun h => by have := congrArg List.length h; simp at this; rw [this] at hlt; exact absurd hlt (Nat.not_lt_zero _))
    obtain ⟨ub, uo, rfl⟩ := hqt (fun h => by have := congrArg List.length h; simp at this; rw [e6, this] at hlt; exact absurd hlt (Nat.not_lt_zero _))
    have hltr : i < r.trs.length := by omega
    have hsa := fun As Bs (hp : List.Perm As (A :: Bs)) => ra2.src (i := i) (by simpa using hlt) hp
    have hsb := fun As Bs (hp : List.Perm As (B :: Bs)) => rb2.src (i := i) (by simpa using hltr) hp
    simp only [List.getElem_map] at hsa hsb
    have hstep := take_eq_succ htk2 hlt hltr
    have hne : q.trs[i] ≠ r.trs[i] → q ≠ r := fun h1 h2 => h1 (by subst h2; rfl)
    generalize q.trs[i] = x at hsa hstep hne
    generalize r.trs[i] = y at hsb hstep hne
    refine CW.region ?_
    refine L1 (ps_t (ps_lss rfl rfl) (by omega)).os ?_
    refine LW.nil ?_
    repeat (first | refine CW.seq ?_ | refine PW.then_ ?_ | refine CW.block ?_ | refine CW.skip ?_ | refine CW.ret ?_ | refine PW.then_ret ?_ | refine PW.block_ret ?_ | refine Cut.ret ?_ | refine Rnd.ret ?_ | refine PW.block_normal ?_ | refine CW.exit ?_ | refine PW.then_exit ?_ | refine PW.block_hit ?_ | refine PW.block_miss rfl ?_ | refine Cut.exit ?_ | refine Rnd.exit ?_)
    refine CW.cond_true rfl ?_
    repeat (first | refine CW.seq ?_ | refine PW.then_ ?_ | refine CW.block ?_ | refine CW.skip ?_ | refine CW.ret ?_ | refine PW.then_ret ?_ | refine PW.block_ret ?_ | refine Cut.ret ?_ | refine Rnd.ret ?_ | refine PW.block_normal ?_ | refine CW.exit ?_ | refine PW.then_exit ?_ | refine PW.block_hit ?_ | refine PW.block_miss rfl ?_ | refine Cut.exit ?_ | refine Rnd.exit ?_)
    refine CW.region ?_
    refine L1 (ps_move rfl).os ?_
    refine L1 (ps_assign rfl).os ?_
    refine LW.nil ?_
    repeat (first | refine CW.seq ?_ | refine PW.then_ ?_ | refine CW.block ?_ | refine CW.skip ?_ | refine CW.ret ?_ | refine PW.then_ret ?_ | refine PW.block_ret ?_ | refine Cut.ret ?_ | refine Rnd.ret ?_ | refine PW.block_normal ?_ | refine CW.exit ?_ | refine PW.then_exit ?_ | refine PW.block_hit ?_ | refine PW.block_miss rfl ?_ | refine Cut.exit ?_ | refine Rnd.exit ?_)
    by_cases hxy : x = y
    · skip
      refine CW.cutB (α := Unit) [82, 83, 84, 85, 86, 87, 88, 89, 90, 91, 92] (fun _ => True) (fun _ => [(92, .bool false)]) (fun _ => cb b2 28 (rqCells q (.slice pa q.accs.length ca) (.slice (some ⟨vb, vo, none⟩) q.trs.length ct)) :: cb b3 28 (rqCells r (.slice qa r.accs.length da) (.slice (some ⟨ub, uo, none⟩) r.trs.length dt)) :: A :: B :: F) ?_ ?_
      · refine CW.drawH [cb b2 28 (rqCells q (.slice pa q.accs.length ca) (.slice (some ⟨vb, vo, none⟩) q.trs.length ct)), cb b3 28 (rqCells r (.slice qa r.accs.length da) (.slice (some ⟨ub, uo, none⟩) r.trs.length dt)), A, B] [] T.mixed ?_
        refine H_take (i := 0) (some 82) rfl rfl (by kernel_rfl) (by kernel_rfl) (by kernel_rfl) rfl (ps_fa T.fa28_2 (by decide) rfl).pl (by kernel_rfl) (pkc (by repeat (first | exact pk_head _ _ | apply pk_tail)) (pkc (by repeat (first | exact pk_head _ _ | apply pk_tail)) (pkc (by repeat (first | exact pk_head _ _ | apply pk_tail)) (pkc (by repeat (first | exact pk_head _ _ | apply pk_tail)) (pkn _))))) ?_
        refine H_take (i := 1) (some 83) rfl rfl (by kernel_rfl) (by kernel_rfl) (by kernel_rfl) rfl (pl_load1 (by repeat (first | exact pk_head _ _ | apply pk_tail)) T.ag23 rfl (by rfl)) (by kernel_rfl) (pkc (by repeat (first | exact pk_head _ _ | apply pk_tail)) (pkc (by repeat (first | exact pk_head _ _ | apply pk_tail)) (pkc (by repeat (first | exact pk_head _ _ | apply pk_tail)) (pkc (by repeat (first | exact pk_head _ _ | apply pk_tail)) (pkn _))))) ?_
        refine H_take (i := 2) (some 84) rfl rfl (by kernel_rfl) (by kernel_rfl) (by kernel_rfl) rfl (ps_move rfl).pl (by kernel_rfl) (pkc (by repeat (first | exact pk_head _ _ | apply pk_tail)) (pkc (by repeat (first | exact pk_head _ _ | apply pk_tail)) (pkc (by repeat (first | exact pk_head _ _ | apply pk_tail)) (pkc (by repeat (first | exact pk_head _ _ | apply pk_tail)) (pkn _))))) ?_
        refine H_take (i := 3) (some 85) rfl rfl (by kernel_rfl) (by kernel_rfl) (by kernel_rfl) rfl (ps_ia_slice T.un23 T.sz71 rfl rfl (by omega) (by omega)).pl (by kernel_rfl) (pkc (by repeat (first | exact pk_head _ _ | apply pk_tail)) (pkc (by repeat (first | exact pk_head _ _ | apply pk_tail)) (pkc (by repeat (first | exact pk_head _ _ | apply pk_tail)) (pkc (by repeat (first | exact pk_head _ _ | apply pk_tail)) (pkn _))))) ?_
        refine H_take (i := 4) (some 86) rfl rfl (by kernel_rfl) (by kernel_rfl) (by kernel_rfl) rfl (pl_loadS (vs := trCells x) (fun Bs => hsa _ _ (by repeat (first | exact pk_head _ _ | apply pk_tail))) (by simp [trCells, nc]) T.ag71 (by exact T.sz71) rfl) (by kernel_rfl) (pkc (by repeat (first | exact pk_head _ _ | apply pk_tail)) (pkc (by repeat (first | exact pk_head _ _ | apply pk_tail)) (pkc (by repeat (first | exact pk_head _ _ | apply pk_tail)) (pkc (by repeat (first | exact pk_head _ _ | apply pk_tail)) (pkn _))))) ?_
        refine H_take (i := 5) (some 87) rfl rfl (by kernel_rfl) (by kernel_rfl) (by kernel_rfl) rfl (ps_fa T.fa28_2 (by decide) rfl).pl (by kernel_rfl) (pkc (by repeat (first | exact pk_head _ _ | apply pk_tail)) (pkc (by repeat (first | exact pk_head _ _ | apply pk_tail)) (pkc (by repeat (first | exact pk_head _ _ | apply pk_tail)) (pkc (by repeat (first | exact pk_head _ _ | apply pk_tail)) (pkn _))))) ?_
        refine H_take (i := 6) (some 88) rfl rfl (by kernel_rfl) (by kernel_rfl) (by kernel_rfl) rfl (pl_load1 (by repeat (first | exact pk_head _ _ | apply pk_tail)) T.ag23 rfl (by rfl)) (by kernel_rfl) (pkc (by repeat (first | exact pk_head _ _ | apply pk_tail)) (pkc (by repeat (first | exact pk_head _ _ | apply pk_tail)) (pkc (by repeat (first | exact pk_head _ _ | apply pk_tail)) (pkc (by repeat (first | exact pk_head _ _ | apply pk_tail)) (pkn _))))) ?_
        refine H_take (i := 7) (some 89) rfl rfl (by kernel_rfl) (by kernel_rfl) (by kernel_rfl) rfl (ps_move rfl).pl (by kernel_rfl) (pkc (by repeat (first | exact pk_head _ _ | apply pk_tail)) (pkc (by repeat (first | exact pk_head _ _ | apply pk_tail)) (pkc (by repeat (first | exact pk_head _ _ | apply pk_tail)) (pkc (by repeat (first | exact pk_head _ _ | apply pk_tail)) (pkn _))))) ?_
        refine H_take (i := 8) (some 90) rfl rfl (by kernel_rfl) (by kernel_rfl) (by kernel_rfl) rfl (ps_ia_slice T.un23 T.sz71 rfl rfl (by omega) (by omega)).pl (by kernel_rfl) (pkc (by repeat (first | exact pk_head _ _ | apply pk_tail)) (pkc (by repeat (first | exact pk_head _ _ | apply pk_tail)) (pkc (by repeat (first | exact pk_head _ _ | apply pk_tail)) (pkc (by repeat (first | exact pk_head _ _ | apply pk_tail)) (pkn _))))) ?_
        refine H_take (i := 9) (some 91) rfl rfl (by kernel_rfl) (by kernel_rfl) (by kernel_rfl) rfl (pl_loadS (vs := trCells y) (fun Bs => hsb _ _ (by repeat (first | exact pk_head _ _ | apply pk_tail))) (by simp [trCells, nc]) T.ag71 (by exact T.sz71) rfl) (by kernel_rfl) (pkc (by repeat (first | exact pk_head _ _ | apply pk_tail)) (pkc (by repeat (first | exact pk_head _ _ | apply pk_tail)) (pkc (by repeat (first | exact pk_head _ _ | apply pk_tail)) (pkc (by repeat (first | exact pk_head _ _ | apply pk_tail)) (pkn _))))) ?_
        refine H_take (i := 10) (some 92) rfl rfl (by kernel_rfl) (by kernel_rfl) (by kernel_rfl) rfl (ps_agg_neq_f T.eq71 rfl rfl (by exact rfl) (by exact rfl) (congrArg trCells hxy)).pl (by kernel_rfl) (pkc (by repeat (first | exact pk_head _ _ | apply pk_tail)) (pkc (by repeat (first | exact pk_head _ _ | apply pk_tail)) (pkc (by repeat (first | exact pk_head _ _ | apply pk_tail)) (pkc (by repeat (first | exact pk_head _ _ | apply pk_tail)) (pkn _))))) ?_
        refine H_done (by kernel_rfl) ?_
        exact Meet.cut () trivial (by repeat (first | (with_reducible exact Ag.refl _ _) | (with_reducible apply Ag.pu0) | ((with_reducible refine Ag.pu _ ?_ ?_); · exact rfl) | ((with_reducible refine Ag.mix ?_ ?_); · exact rfl) | ((with_reducible refine Ag.pus ?_ ?_); · exact rfl))) ⟨rfl, trivial⟩ (by repeat (first | exact Ent.refl _ | (apply Ent.cons; · repeat (first | exact pk_head _ _ | apply pk_tail)) | apply Ent.skip))
      intro _ _ _
      repeat (first | refine CW.seq ?_ | refine PW.then_ ?_ | refine CW.block ?_ | refine CW.skip ?_ | refine CW.ret ?_ | refine PW.then_ret ?_ | refine PW.block_ret ?_ | refine Cut.ret ?_ | refine Rnd.ret ?_ | refine PW.block_normal ?_ | refine CW.exit ?_ | refine PW.then_exit ?_ | refine PW.block_hit ?_ | refine PW.block_miss rfl ?_ | refine Cut.exit ?_ | refine Rnd.exit ?_)
      refine CW.cond_false rfl ?_
      repeat (first | refine CW.seq ?_ | refine PW.then_ ?_ | refine CW.block ?_ | refine CW.skip ?_ | refine CW.ret ?_ | refine PW.then_ret ?_ | refine PW.block_ret ?_ | refine Cut.ret ?_ | refine Rnd.ret ?_ | refine PW.block_normal ?_ | refine CW.exit ?_ | refine PW.then_exit ?_ | refine PW.block_hit ?_ | refine PW.block_miss rfl ?_ | refine Cut.exit ?_ | refine Rnd.exit ?_)
      refine CW.region ?_
      refine L1 (ps_add_i64 rfl rfl (by omega) (by omega)).os ?_
      refine L1 (ps_move rfl).os ?_
      refine LW.nil ?_
      exact Meet.round (q.trs.length - (i + 1)) (i + 1) (by omega) ⟨hlt, rfl, hstep hxy⟩ (by repeat (first | (with_reducible exact Ag.refl _ _) | (with_reducible apply Ag.pu0) | ((with_reducible refine Ag.pu _ ?_ ?_); · exact rfl) | ((with_reducible refine Ag.mix ?_ ?_); · exact rfl) | ((with_reducible refine Ag.pus ?_ ?_); · exact rfl))) ⟨rfl, trivial⟩ (by repeat (first | exact Ent.refl _ | (apply Ent.cons; · repeat (first | exact pk_head _ _ | apply pk_tail)) | apply Ent.skip))
    · rw [sameB_f (hne hxy)]
      refine CW.cutB (α := Unit) [82, 83, 84, 85, 86, 87, 88, 89, 90, 91, 92] (fun _ => True) (fun _ => [(92, .bool true)]) (fun _ => cb b2 28 (rqCells q (.slice pa q.accs.length ca) (.slice (some ⟨vb, vo, none⟩) q.trs.length ct)) :: cb b3 28 (rqCells r (.slice qa r.accs.length da) (.slice (some ⟨ub, uo, none⟩) r.trs.length dt)) :: A :: B :: F) ?_ ?_
      · refine CW.drawH [cb b2 28 (rqCells q (.slice pa q.accs.length ca) (.slice (some ⟨vb, vo, none⟩) q.trs.length ct)), cb b3 28 (rqCells r (.slice qa r.accs.length da) (.slice (some ⟨ub, uo, none⟩) r.trs.length dt)), A, B] [] T.mixed ?_
        refine H_take (i := 0) (some 82) rfl rfl (by kernel_rfl) (by kernel_rfl) (by kernel_rfl) rfl (ps_fa T.fa28_2 (by decide) rfl).pl (by kernel_rfl) (pkc (by repeat (first | exact pk_head _ _ | apply pk_tail)) (pkc (by repeat (first | exact pk_head _ _ | apply pk_tail)) (pkc (by repeat (first | exact pk_head _ _ | apply pk_tail)) (pkc (by repeat (first | exact pk_head _ _ | apply pk_tail)) (pkn _))))) ?_
        refine H_take (i := 1) (some 83) rfl rfl (by kernel_rfl) (by kernel_rfl) (by kernel_rfl) rfl (pl_load1 (by repeat (first | exact pk_head _ _ | apply pk_tail)) T.ag23 rfl (by rfl)) (by kernel_rfl) (pkc (by repeat (first | exact pk_head _ _ | apply pk_tail)) (pkc (by repeat (first | exact pk_head _ _ | apply pk_tail)) (pkc (by repeat (first | exact pk_head _ _ | apply pk_tail)) (pkc (by repeat (first | exact pk_head _ _ | apply pk_tail)) (pkn _))))) ?_
        refine H_take (i := 2) (some 84) rfl rfl (by kernel_rfl) (by kernel_rfl) (by kernel_rfl) rfl (ps_move rfl).pl (by kernel_rfl) (pkc (by repeat (first | exact pk_head _ _ | apply pk_tail)) (pkc (by repeat (first | exact pk_head _ _ | apply pk_tail)) (pkc (by repeat (first | exact pk_head _ _ | apply pk_tail)) (pkc (by repeat (first | exact pk_head _ _ | apply pk_tail)) (pkn _))))) ?_
        refine H_take (i := 3) (some 85) rfl rfl (by kernel_rfl) (by kernel_rfl) (by kernel_rfl) rfl (ps_ia_slice T.un23 T.sz71 rfl rfl (by omega) (by omega)).pl (by kernel_rfl) (pkc (by repeat (first | exact pk_head _ _ | apply pk_tail)) (pkc (by repeat (first | exact pk_head _ _ | apply pk_tail)) (pkc (by repeat (first | exact pk_head _ _ | apply pk_tail)) (pkc (by repeat (first | exact pk_head _ _ | apply pk_tail)) (pkn _))))) ?_
        refine H_take (i := 4) (some 86) rfl rfl (by kernel_rfl) (by kernel_rfl) (by kernel_rfl) rfl (pl_loadS (vs := trCells x) (fun Bs => hsa _ _ (by repeat (first | exact pk_head _ _ | apply pk_tail))) (by simp [trCells, nc]) T.ag71 (by exact T.sz71) rfl) (by kernel_rfl) (pkc (by repeat (first | exact pk_head _ _ | apply pk_tail)) (pkc (by repeat (first | exact pk_head _ _ | apply pk_tail)) (pkc (by repeat (first | exact pk_head _ _ | apply pk_tail)) (pkc (by repeat (first | exact pk_head _ _ | apply pk_tail)) (pkn _))))) ?_
        refine H_take (i := 5) (some 87) rfl rfl (by kernel_rfl) (by kernel_rfl) (by kernel_rfl) rfl (ps_fa T.fa28_2 (by decide) rfl).pl (by kernel_rfl) (pkc (by repeat (first | exact pk_head _ _ | apply pk_tail)) (pkc (by repeat (first | exact pk_head _ _ | apply pk_tail)) (pkc (by repeat (first | exact pk_head _ _ | apply pk_tail)) (pkc (by repeat (first | exact pk_head _ _ | apply pk_tail)) (pkn _))))) ?_
        refine H_take (i := 6) (some 88) rfl rfl (by kernel_rfl) (by kernel_rfl) (by kernel_rfl) rfl (pl_load1 (by repeat (first | exact pk_head _ _ | apply pk_tail)) T.ag23 rfl (by rfl)) (by kernel_rfl) (pkc (by repeat (first | exact pk_head _ _ | apply pk_tail)) (pkc (by repeat (first | exact pk_head _ _ | apply pk_tail)) (pkc (by repeat (first | exact pk_head _ _ | apply pk_tail)) (pkc (by repeat (first | exact pk_head _ _ | apply pk_tail)) (pkn _))))) ?_
        refine H_take (i := 7) (some 89) rfl rfl (by kernel_rfl) (by kernel_rfl) (by kernel_rfl) rfl (ps_move rfl).pl (by kernel_rfl) (pkc (by repeat (first | exact pk_head _ _ | apply pk_tail)) (pkc (by repeat (first | exact pk_head _ _ | apply pk_tail)) (pkc (by repeat (first | exact pk_head _ _ | apply pk_tail)) (pkc (by repeat (first | exact pk_head _ _ | apply pk_tail)) (pkn _))))) ?_
        refine H_take (i := 8) (some 90) rfl rfl (by kernel_rfl) (by kernel_rfl) (by kernel_rfl) rfl (ps_ia_slice T.un23 T.sz71 rfl rfl (by omega) (by omega)).pl (by kernel_rfl) (pkc (by repeat (first | exact pk_head _ _ | apply pk_tail)) (pkc (by repeat (first | exact pk_head _ _ | apply pk_tail)) (pkc (by repeat (first | exact pk_head _ _ | apply pk_tail)) (pkc (by repeat (first | exact pk_head _ _ | apply pk_tail)) (pkn _))))) ?_
        refine H_take (i := 9) (some 91) rfl rfl (by kernel_rfl) (by kernel_rfl) (by kernel_rfl) rfl (pl_loadS (vs := trCells y) (fun Bs => hsb _ _ (by repeat (first | exact pk_head _ _ | apply pk_tail))) (by simp [trCells, nc]) T.ag71 (by exact T.sz71) rfl) (by kernel_rfl) (pkc (by repeat (first | exact pk_head _ _ | apply pk_tail)) (pkc (by repeat (first | exact pk_head _ _ | apply pk_tail)) (pkc (by repeat (first | exact pk_head _ _ | apply pk_tail)) (pkc (by repeat (first | exact pk_head _ _ | apply pk_tail)) (pkn _))))) ?_
        refine H_take (i := 10) (some 92) rfl rfl (by kernel_rfl) (by kernel_rfl) (by kernel_rfl) rfl (ps_agg_neq_t T.eq71 rfl rfl (by exact rfl) (by exact rfl) (fun h => hxy (trCells_inj h))).pl (by kernel_rfl) (pkc (by repeat (first | exact pk_head _ _ | apply pk_tail)) (pkc (by repeat (first | exact pk_head _ _ | apply pk_tail)) (pkc (by repeat (first | exact pk_head _ _ | apply pk_tail)) (pkc (by repeat (first | exact pk_head _ _ | apply pk_tail)) (pkn _))))) ?_
        refine H_done (by kernel_rfl) ?_
        exact Meet.cut () trivial (by repeat (first | (with_reducible exact Ag.refl _ _) | (with_reducible apply Ag.pu0) | ((with_reducible refine Ag.pu _ ?_ ?_); · exact rfl) | ((with_reducible refine Ag.mix ?_ ?_); · exact rfl) | ((with_reducible refine Ag.pus ?_ ?_); · exact rfl))) ⟨rfl, trivial⟩ (by repeat (first | exact Ent.refl _ | (apply Ent.cons; · repeat (first | exact pk_head _ _ | apply pk_tail)) | apply Ent.skip))
      intro _ _ _
      repeat (first | refine CW.seq ?_ | refine PW.then_ ?_ | refine CW.block ?_ | refine CW.skip ?_ | refine CW.ret ?_ | refine PW.then_ret ?_ | refine PW.block_ret ?_ | refine Cut.ret ?_ | refine Rnd.ret ?_ | refine PW.block_normal ?_ | refine CW.exit ?_ | refine PW.then_exit ?_ | refine PW.block_hit ?_ | refine PW.block_miss rfl ?_ | refine Cut.exit ?_ | refine Rnd.exit ?_)
      refine CW.cond_true rfl ?_
      repeat (first | refine CW.seq ?_ | refine PW.then_ ?_ | refine CW.block ?_ | refine CW.skip ?_ | refine CW.ret ?_ | refine PW.then_ret ?_ | refine PW.block_ret ?_ | refine Cut.ret ?_ | refine Rnd.ret ?_ | refine PW.block_normal ?_ | refine CW.exit ?_ | refine PW.then_exit ?_ | refine PW.block_hit ?_ | refine PW.block_miss rfl ?_ | refine Cut.exit ?_ | refine Rnd.exit ?_)
      refine CW.region ?_
      refine L1 (ps_assign rfl).os ?_
      refine LW.nil ?_
      repeat (first | refine CW.seq ?_ | refine PW.then_ ?_ | refine CW.block ?_ | refine CW.skip ?_ | refine CW.ret ?_ | refine PW.then_ret ?_ | refine PW.block_ret ?_ | refine Cut.ret ?_ | refine Rnd.ret ?_ | refine PW.block_normal ?_ | refine CW.exit ?_ | refine PW.then_exit ?_ | refine PW.block_hit ?_ | refine PW.block_miss rfl ?_ | refine Cut.exit ?_ | refine Rnd.exit ?_)
      exact Fin.ret1 (v := .bool false) rfl [A, B] rfl ⟨rfl, rfl⟩ (by repeat (first | exact Ent.refl _ | (apply Ent.cons; · repeat (first | exact pk_head _ _ | apply pk_tail)) | apply Ent.skip))
  have hil : i = q.trs.length := by omega
  subst hil
  rw [List.take_length, e6, List.take_length] at htk2
  refine CW.region ?_
  refine L1 (ps_f (ps_lss rfl rfl) (by omega)).os ?_
  refine LW.nil ?_
  repeat (first | refine CW.seq ?_ | refine PW.then_ ?_ | refine CW.block ?_ | refine CW.skip ?_ | refine CW.ret ?_ | refine PW.then_ret ?_ | refine PW.block_ret ?_ | refine Cut.ret ?_ | refine Rnd.ret ?_ | refine PW.block_normal ?_ | refine CW.exit ?_ | refine PW.then_exit ?_ | refine PW.block_hit ?_ | refine PW.block_miss rfl ?_ | refine Cut.exit ?_ | refine Rnd.exit ?_)
  refine CW.cond_false rfl ?_
  repeat (first | refine CW.seq ?_ | refine PW.then_ ?_ | refine CW.block ?_ | refine CW.skip ?_ | refine CW.ret ?_ | refine PW.then_ret ?_ | refine PW.block_ret ?_ | refine Cut.ret ?_ | refine Rnd.ret ?_ | refine PW.block_normal ?_ | refine CW.exit ?_ | refine PW.then_exit ?_ | refine PW.block_hit ?_ | refine PW.block_miss rfl ?_ | refine Cut.exit ?_ | refine Rnd.exit ?_)
  have hall : q = r := by
    cases q; cases r
    simp only at e0 e1 e2 e3 e4 htk htk2
    subst e0; subst e1; subst e2; subst e3; subst e4; subst htk; subst htk2
    rfl
  rw [sameB_t hall]
  refine CW.region ?_
  refine L1 (ps_assign rfl).os ?_
  refine LW.nil ?_
  repeat (first | refine CW.seq ?_ | refine PW.then_ ?_ | refine CW.block ?_ | refine CW.skip ?_ | refine CW.ret ?_ | refine PW.then_ret ?_ | refine PW.block_ret ?_ | refine Cut.ret ?_ | refine Rnd.ret ?_ | refine PW.block_normal ?_ | refine CW.exit ?_ | refine PW.then_exit ?_ | refine PW.block_hit ?_ | refine PW.block_miss rfl ?_ | refine Cut.exit ?_ | refine Rnd.exit ?_)
  exact Fin.ret1 (v := .bool true) rfl [A, B] rfl ⟨rfl, rfl⟩ (by repeat (first | exact Ent.refl _ | (apply Ent.cons; · repeat (first | exact pk_head _ _ | apply pk_tail)) | apply Ent.skip))
end Go.Proofs.Ytpcjjchanjdkaaa
