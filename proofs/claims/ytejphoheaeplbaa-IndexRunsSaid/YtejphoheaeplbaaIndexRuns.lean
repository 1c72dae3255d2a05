/- The law IndexRuns: call by call keys have the numbers that they were given last, in order: it answers true for every list of calls and every number asked for (no condition). -/
import Derived.Test.YtejphoheaeplbaaMpN
import Derived.Test.YtejphoheaeplbaaRows
namespace Go.Proofs.Ytejphoheaeplbaa
open Go Go.SL
set_option linter.unusedVariables false
set_option linter.unusedSimpArgs false

def mfill (c : List En) : List En := c.foldl (fun l e => upd e.1 e.2 l) []
theorem mfill_succ (c : List En) (i : Nat) (hi : i < c.length) : mfill (c.take (i + 1)) = upd c[i].1 c[i].2 (mfill (c.take i)) := by
  rw [List.take_succ_eq_append_getElem hi, mfill, List.foldl_append]; rfl
theorem fill_mfill (c : List En) (hc : ∀ e ∈ c, e.1 < M128) : ∀ i, i ≤ c.length → (∀ q, lkp q (fill [] (c.take i)) = lkp q (mfill (c.take i))) ∧ (fill [] (c.take i)).length = (mfill (c.take i)).length
  | 0, _ => by simp [fill, mfill]
  | i + 1, h => by
    obtain ⟨h1, h2⟩ := fill_mfill c hc i (by omega)
    have hg := fill_good (c := c.take i) Good.nil fun e he => hc e (List.mem_of_mem_take he)
    rw [fill_succ [] c i (by omega), mfill_succ c i (by omega)]
    refine ⟨fun q => by rw [lkp_ins, lkp_upd, h1], ?_⟩
    rw [len_ins _ _ hg.srt, len_upd, h1, h2]
def lastK (l : List En) : Nat := (l.getLast?.map (·.1)).getD 0
theorem lastK_lt {pre post : List En} {e : En} (h : Good (pre ++ e :: post)) : lastK pre < M128 ∧ (pre ≠ [] → lastK pre < e.1) := by
  rcases List.eq_nil_or_concat pre with rfl | ⟨p, x, rfl⟩
  · exact ⟨by have := M128_eq; simp [lastK], fun h => absurd rfl h⟩
  · simp only [List.concat_eq_append] at h ⊢
    have e1 : lastK (p ++ [x]) = x.1 := by simp [lastK]
    rw [e1]
    refine ⟨h.low x (by simp), fun _ => ?_⟩
    exact (List.pairwise_append.1 h.srt).2.2 x (by simp) e (by simp)
set_option maxHeartbeats 2000000 in
theorem IndexRuns_law (W : World) (v : Value) (l : List En) (hv : CallsR (bag (blks W)) v l) (cs1 : List Value) (a : Nat) (e1 : cs1 = nc a) (ha : a < M128) :
    LawOf Try.prog 4 [v, .agg cs1.toArray] W := by
  have hM := M128_eq
  subst e1
  obtain ⟨pv, cap, rfl, hcap1, hcap2, hpv⟩ := hv.len
  have hcm := hcap2
  unfold maxLen at hcm
  have hlow : ∀ e ∈ l, e.1 < M128 := fun e he => (hv.2 e he).1
  refine FSpec.intro Try.func4 rfl 117 Try.ntmps4 (Nat.le_of_ble_eq_true rfl) fun w0 F => ?_
  show CW _ _ _ _ _ _ (_ :: F)
  generalize bag (blks W) = E at hv ⊢
  repeat (first | refine CW.seq ?_ | refine PW.then_ ?_ | refine PW.then_to rfl ?_ | refine CW.block ?_ | refine CW.skip ?_ | refine CW.ret ?_ | refine PW.then_ret ?_ | refine PW.block_ret ?_ | refine Cut.ret ?_ | refine Rnd.ret ?_ | refine PW.block_normal ?_ | refine CW.exit ?_ | refine PW.then_exit ?_ | refine PW.block_hit ?_ | refine PW.block_miss rfl ?_ | refine Cut.exit ?_ | refine Rnd.exit ?_)
  refine CW.region ?_
  refine LE (os_box (vs := nc a) rfl (by rfl)) ?_
  rintro _ _ ⟨b3, rfl, rfl⟩
  refine LE (os_alloc T.ti4) ?_
  rintro _ _ ⟨b4, rfl, rfl⟩
  refine LW.nil ?_
  repeat (first | refine CW.seq ?_ | refine PW.then_ ?_ | refine PW.then_to rfl ?_ | refine CW.block ?_ | refine CW.skip ?_ | refine CW.ret ?_ | refine PW.then_ret ?_ | refine PW.block_ret ?_ | refine Cut.ret ?_ | refine Rnd.ret ?_ | refine PW.block_normal ?_ | refine CW.exit ?_ | refine PW.then_exit ?_ | refine PW.block_hit ?_ | refine PW.block_miss rfl ?_ | refine Cut.exit ?_ | refine Rnd.exit ?_)
  refine CW.region ?_
  refine L1 (os_call0 fit_spec Try.func7 (by decide +kernel) rfl rfl) ?_
  refine L1 (ps_not rfl).os ?_
  refine LW.nil ?_
  repeat (first | refine CW.seq ?_ | refine PW.then_ ?_ | refine PW.then_to rfl ?_ | refine CW.block ?_ | refine CW.skip ?_ | refine CW.ret ?_ | refine PW.then_ret ?_ | refine PW.block_ret ?_ | refine Cut.ret ?_ | refine Rnd.ret ?_ | refine PW.block_normal ?_ | refine CW.exit ?_ | refine PW.then_exit ?_ | refine PW.block_hit ?_ | refine PW.block_miss rfl ?_ | refine Cut.exit ?_ | refine Rnd.exit ?_)
  refine CW.cond_false rfl ?_
  repeat (first | refine CW.seq ?_ | refine PW.then_ ?_ | refine PW.then_to rfl ?_ | refine CW.block ?_ | refine CW.skip ?_ | refine CW.ret ?_ | refine PW.then_ret ?_ | refine PW.block_ret ?_ | refine Cut.ret ?_ | refine Rnd.ret ?_ | refine PW.block_normal ?_ | refine CW.exit ?_ | refine PW.then_exit ?_ | refine PW.block_hit ?_ | refine PW.block_miss rfl ?_ | refine Cut.exit ?_ | refine Rnd.exit ?_)
  by_cases h3 : (300 : Int) < (l.length : Int)
  · refine CW.region ?_
    refine L1 (ps_move rfl).os ?_
    refine L1 (ps_len_sl T.un34 rfl).os ?_
    refine L1 (ps_t (ps_gtr rfl rfl) (h3)).os ?_
    refine LW.nil ?_
    repeat (first | refine CW.seq ?_ | refine PW.then_ ?_ | refine PW.then_to rfl ?_ | refine CW.block ?_ | refine CW.skip ?_ | refine CW.ret ?_ | refine PW.then_ret ?_ | refine PW.block_ret ?_ | refine Cut.ret ?_ | refine Rnd.ret ?_ | refine PW.block_normal ?_ | refine CW.exit ?_ | refine PW.then_exit ?_ | refine PW.block_hit ?_ | refine PW.block_miss rfl ?_ | refine Cut.exit ?_ | refine Rnd.exit ?_)
    refine CW.cond_true rfl ?_
    repeat (first | refine CW.seq ?_ | refine PW.then_ ?_ | refine PW.then_to rfl ?_ | refine CW.block ?_ | refine CW.skip ?_ | refine CW.ret ?_ | refine PW.then_ret ?_ | refine PW.block_ret ?_ | refine Cut.ret ?_ | refine Rnd.ret ?_ | refine PW.block_normal ?_ | refine CW.exit ?_ | refine PW.then_exit ?_ | refine PW.block_hit ?_ | refine PW.block_miss rfl ?_ | refine Cut.exit ?_ | refine Rnd.exit ?_)
    refine CW.region ?_
    refine L1 (os_store1 (b := b4) (by repeat (first | exact pk_head _ _ | apply pk_tail)) T.sz4 rfl rfl (by rfl) (Nat.le_of_ble_eq_true rfl)) ?_
    refine LW.nil ?_
    repeat (first | refine CW.seq ?_ | refine PW.then_ ?_ | refine PW.then_to rfl ?_ | refine CW.block ?_ | refine CW.skip ?_ | refine CW.ret ?_ | refine PW.then_ret ?_ | refine PW.block_ret ?_ | refine Cut.ret ?_ | refine Rnd.ret ?_ | refine PW.block_normal ?_ | refine CW.exit ?_ | refine PW.then_exit ?_ | refine PW.block_hit ?_ | refine PW.block_miss rfl ?_ | refine Cut.exit ?_ | refine Rnd.exit ?_)
    exact Fin.retC1 (b := b4) (v := .bool true) rfl (by repeat (first | exact pk_head _ _ | apply pk_tail)) T.ag4 rfl rfl [E] ⟨rfl, rfl⟩ (by repeat (first | exact Ent.refl _ | (apply Ent.cons; · repeat (first | exact pk_head _ _ | apply pk_tail)) | apply Ent.skip))
  refine CW.region ?_
  refine L1 (ps_move rfl).os ?_
  refine L1 (ps_len_sl T.un34 rfl).os ?_
  refine L1 (ps_f (ps_gtr rfl rfl) (h3)).os ?_
  refine LW.nil ?_
  repeat (first | refine CW.seq ?_ | refine PW.then_ ?_ | refine PW.then_to rfl ?_ | refine CW.block ?_ | refine CW.skip ?_ | refine CW.ret ?_ | refine PW.then_ret ?_ | refine PW.block_ret ?_ | refine Cut.ret ?_ | refine Rnd.ret ?_ | refine PW.block_normal ?_ | refine CW.exit ?_ | refine PW.then_exit ?_ | refine PW.block_hit ?_ | refine PW.block_miss rfl ?_ | refine Cut.exit ?_ | refine Rnd.exit ?_)
  refine CW.cond_false rfl ?_
  repeat (first | refine CW.seq ?_ | refine PW.then_ ?_ | refine PW.then_to rfl ?_ | refine CW.block ?_ | refine CW.skip ?_ | refine CW.ret ?_ | refine PW.then_ret ?_ | refine PW.block_ret ?_ | refine Cut.ret ?_ | refine Rnd.ret ?_ | refine PW.block_normal ?_ | refine CW.exit ?_ | refine PW.then_exit ?_ | refine PW.block_hit ?_ | refine PW.block_miss rfl ?_ | refine Cut.exit ?_ | refine Rnd.exit ?_)
  refine CW.region ?_
  refine LE (os_alloc T.ti26) ?_
  rintro _ _ ⟨x, rfl, rfl⟩
  refine LW.nil ?_
  refine J.ent (Ix_new x _) ?_
  repeat (first | refine CW.seq ?_ | refine PW.then_ ?_ | refine PW.then_to rfl ?_ | refine CW.block ?_ | refine CW.skip ?_ | refine CW.ret ?_ | refine PW.then_ret ?_ | refine PW.block_ret ?_ | refine Cut.ret ?_ | refine Rnd.ret ?_ | refine PW.block_normal ?_ | refine CW.exit ?_ | refine PW.then_exit ?_ | refine PW.block_hit ?_ | refine PW.block_miss rfl ?_ | refine Cut.exit ?_ | refine Rnd.exit ?_)
  refine CW.region ?_
  refine LE (os_makeMapN) ?_
  rintro _ _ ⟨mb, rfl, rfl⟩
  refine LE (os_alloc T.ti35) ?_
  rintro _ _ ⟨b6, rfl, rfl⟩
  refine L1 (os_store1 (b := b6) (by repeat (first | exact pk_head _ _ | apply pk_tail)) T.sz35 rfl rfl (by rfl) (Nat.le_of_ble_eq_true rfl)) ?_
  refine LW.nil ?_
  repeat (first | refine CW.seq ?_ | refine PW.then_ ?_ | refine PW.then_to rfl ?_ | refine CW.block ?_ | refine CW.skip ?_ | refine CW.ret ?_ | refine PW.then_ret ?_ | refine PW.block_ret ?_ | refine Cut.ret ?_ | refine Rnd.ret ?_ | refine PW.block_normal ?_ | refine CW.exit ?_ | refine PW.then_exit ?_ | refine PW.block_hit ?_ | refine PW.block_miss rfl ?_ | refine Cut.exit ?_ | refine Rnd.exit ?_)
  refine CW.region ?_
  refine L1 (ps_move rfl).os ?_
  refine L1 (ps_len_sl T.un34 rfl).os ?_
  refine L1 (ps_move rfl).os ?_
  refine LW.nil ?_
  repeat (first | refine CW.seq ?_ | refine PW.then_ ?_ | refine PW.then_to rfl ?_ | refine CW.block ?_ | refine CW.skip ?_ | refine CW.ret ?_ | refine PW.then_ret ?_ | refine PW.block_ret ?_ | refine Cut.ret ?_ | refine Rnd.ret ?_ | refine PW.block_normal ?_ | refine CW.exit ?_ | refine PW.then_exit ?_ | refine PW.block_hit ?_ | refine PW.block_miss rfl ?_ | refine Cut.exit ?_ | refine Rnd.exit ?_)
  have hfm := fill_mfill l hlow
  have hgood : ∀ i, Good (fill [] (l.take i)) := fun i => fill_good Good.nil fun e he => hlow e (List.mem_of_mem_take he)
  have hflen : ∀ i, (fill [] (l.take i)).length ≤ l.length := fun i => by
    have := fill_len (c := l.take i) Good.nil fun e he => hlow e (List.mem_of_mem_take he)
    rw [List.length_take] at this; simp only [List.length_nil] at this; omega
  have hfs := fill_succ [] l
  have hms := mfill_succ l
  refine CW.loopM (α := Nat) [8, 9, 10, 29, 30, 31, 32, 33, 34, 35, 36, 37, 38, 39, 40, 41, 42, 43, 44, 45, 46, 47, 48, 49, 50, 51, 52, 53, 54, 55, 56, 57, 58, 59, 60, 61, 62, 63] (fun k i => i ≤ l.length ∧ k = l.length - i) (fun i => [(29, .int .i64 (i : Nat))])
    (fun i => Ix x (fill [] (l.take i)) :: mapN mb (mfill (l.take i)) :: cb b6 35 [.map (some mb)] :: cb b3 29 (nc a) :: cb b4 4 [.bool false] :: E :: F) l.length 0 ⟨Nat.zero_le _, rfl⟩ ⟨rfl, trivial⟩ (by repeat (first | exact Ent.refl _ | (apply Ent.cons; · repeat (first | exact pk_head _ _ | apply pk_tail)) | apply Ent.skip)) ?_
  rintro k i g ⟨hi, hk⟩
  repeat (first | refine CW.seq ?_ | refine PW.then_ ?_ | refine PW.then_to rfl ?_ | refine CW.block ?_ | refine CW.skip ?_ | refine CW.ret ?_ | refine PW.then_ret ?_ | refine PW.block_ret ?_ | refine Cut.ret ?_ | refine Rnd.ret ?_ | refine PW.block_normal ?_ | refine CW.exit ?_ | refine PW.then_exit ?_ | refine PW.block_hit ?_ | refine PW.block_miss rfl ?_ | refine Cut.exit ?_ | refine Rnd.exit ?_)
  by_cases hlt : i < l.length
  · obtain ⟨vb, vo, rfl⟩ := hpv (fun h => by subst h; exact absurd hlt (Nat.not_lt_zero _))
    have hsrc := fun As Bs (hp : List.Perm As (E :: Bs)) => hv.src hlt hp
    have hf1 := hfs i hlt
    have hm1 := hms i hlt
    have hci := hv.2 l[i] (List.getElem_mem hlt)
    obtain ⟨hq, hln⟩ := hfm (i + 1) (by omega)
    have hput := Put_good (x := x) (key := l[i].1) (val := l[i].2) hci.1 (hgood i) (by have := hflen i; omega)
    have hget := Get_spec x l[i].1 (fill [] (l.take (i + 1))) hci.1 (hgood (i + 1)).srt (hgood (i + 1)).low
    rw [show lkp l[i].1 (fill [] (l.take (i + 1))) = some l[i].2 by rw [hf1, lkp_ins, if_pos rfl]] at hget
    have hlen := Len_spec x (fill [] (l.take (i + 1)))
    rw [← hf1] at hput
    rw [hln] at hlen
    generalize l[i] = c at *
    obtain ⟨ck, cv⟩ := c
    dsimp only at hput hget hm1 hci
    generalize hX1 : fill [] (l.take (i + 1)) = X1 at *
    generalize fill [] (l.take i) = X0 at *
    generalize mfill (l.take i) = M0 at *
    generalize hM1 : mfill (l.take (i + 1)) = M1 at *
    refine CW.region ?_
    refine L1 (ps_t (ps_lss rfl rfl) (by omega)).os ?_
    refine LW.nil ?_
    repeat (first | refine CW.seq ?_ | refine PW.then_ ?_ | refine PW.then_to rfl ?_ | refine CW.block ?_ | refine CW.skip ?_ | refine CW.ret ?_ | refine PW.then_ret ?_ | refine PW.block_ret ?_ | refine Cut.ret ?_ | refine Rnd.ret ?_ | refine PW.block_normal ?_ | refine CW.exit ?_ | refine PW.then_exit ?_ | refine PW.block_hit ?_ | refine PW.block_miss rfl ?_ | refine Cut.exit ?_ | refine Rnd.exit ?_)
    refine CW.cond_true rfl ?_
    repeat (first | refine CW.seq ?_ | refine PW.then_ ?_ | refine PW.then_to rfl ?_ | refine CW.block ?_ | refine CW.skip ?_ | refine CW.ret ?_ | refine PW.then_ret ?_ | refine PW.block_ret ?_ | refine Cut.ret ?_ | refine Rnd.ret ?_ | refine PW.block_normal ?_ | refine CW.exit ?_ | refine PW.then_exit ?_ | refine PW.block_hit ?_ | refine PW.block_miss rfl ?_ | refine Cut.exit ?_ | refine Rnd.exit ?_)
    refine CW.region ?_
    refine L1 (ps_ia_slice T.un34 T.sz37 rfl rfl (by omega) (by omega)).os ?_
    refine L1 (os_loadS (vs := ccl (ck, cv)) (hsrc _ _ (by repeat (first | exact pk_head _ _ | apply pk_tail))) (by simp [ccl, nc]) T.ag37 (by exact T.sz37) rfl) ?_
    refine LE (os_alloc T.ti37) ?_
    rintro _ _ ⟨b8, rfl, rfl⟩
    refine L1 (os_storeAll (b := b8) (vs := ccl (ck, cv)) (by repeat (first | exact pk_head _ _ | apply pk_tail)) (by exact T.sz37) rfl rfl (ccl_one _) (by rfl)) ?_
    refine LW.nil ?_
    repeat (first | refine CW.seq ?_ | refine PW.then_ ?_ | refine PW.then_to rfl ?_ | refine CW.block ?_ | refine CW.skip ?_ | refine CW.ret ?_ | refine PW.then_ret ?_ | refine PW.block_ret ?_ | refine Cut.ret ?_ | refine Rnd.ret ?_ | refine PW.block_normal ?_ | refine CW.exit ?_ | refine PW.then_exit ?_ | refine PW.block_hit ?_ | refine PW.block_miss rfl ?_ | refine Cut.exit ?_ | refine Rnd.exit ?_)
    refine CW.region ?_
    refine L1 (ps_fa T.fa37_0 (by decide) rfl).os ?_
    refine L1 (os_loadN (b := b8) (vs := nc ck) (by repeat (first | exact pk_head _ _ | apply pk_tail)) T.ag29 T.sz29 rfl (by rfl) (by rfl)) ?_
    refine L1 (ps_fa T.fa37_1 (by decide) rfl).os ?_
    refine L1 (os_load1 (b := b8) (v := .int .i64 cv) (by repeat (first | exact pk_head _ _ | apply pk_tail)) T.ag3 rfl rfl) ?_
    refine L1 (os_call1 hput Try.func8 (by decide +kernel) rfl rfl (by repeat (first | exact pk_head _ _ | apply pk_tail))) ?_
    refine LW.nil ?_
    repeat (first | refine CW.seq ?_ | refine PW.then_ ?_ | refine PW.then_to rfl ?_ | refine CW.block ?_ | refine CW.skip ?_ | refine CW.ret ?_ | refine PW.then_ret ?_ | refine PW.block_ret ?_ | refine Cut.ret ?_ | refine Rnd.ret ?_ | refine PW.block_normal ?_ | refine CW.exit ?_ | refine PW.then_exit ?_ | refine PW.block_hit ?_ | refine PW.block_miss rfl ?_ | refine Cut.exit ?_ | refine Rnd.exit ?_)
    refine CW.region ?_
    refine L1 (os_load1 (b := b6) (v := .map (some mb)) (by repeat (first | exact pk_head _ _ | apply pk_tail)) T.ag35 rfl rfl) ?_
    refine L1 (ps_fa T.fa37_0 (by decide) rfl).os ?_
    refine L1 (os_loadN (b := b8) (vs := nc ck) (by repeat (first | exact pk_head _ _ | apply pk_tail)) T.ag29 T.sz29 rfl (by rfl) (by rfl)) ?_
    refine L1 (ps_fa T.fa37_1 (by decide) rfl).os ?_
    refine L1 (os_load1 (b := b8) (v := .int .i64 cv) (by repeat (first | exact pk_head _ _ | apply pk_tail)) T.ag3 rfl rfl) ?_
    refine L1 (os_updN (b := mb) (l := M0) (k := ck) (v := cv) (by repeat (first | exact pk_head _ _ | apply pk_tail)) T.un35 rfl rfl rfl) ?_
    refine LW.nil ?_
    rw [← hm1]
    repeat (first | refine CW.seq ?_ | refine PW.then_ ?_ | refine PW.then_to rfl ?_ | refine CW.block ?_ | refine CW.skip ?_ | refine CW.ret ?_ | refine PW.then_ret ?_ | refine PW.block_ret ?_ | refine Cut.ret ?_ | refine Rnd.ret ?_ | refine PW.block_normal ?_ | refine CW.exit ?_ | refine PW.then_exit ?_ | refine PW.block_hit ?_ | refine PW.block_miss rfl ?_ | refine Cut.exit ?_ | refine Rnd.exit ?_)
    refine CW.region ?_
    refine L1 (ps_fa T.fa37_0 (by decide) rfl).os ?_
    refine L1 (os_loadN (b := b8) (vs := nc ck) (by repeat (first | exact pk_head _ _ | apply pk_tail)) T.ag29 T.sz29 rfl (by rfl) (by rfl)) ?_
    refine L1 (os_call1 hget Try.func11 (by decide +kernel) rfl rfl (by repeat (first | exact pk_head _ _ | apply pk_tail))) ?_
    refine L1 (ps_move rfl).os ?_
    refine L1 (ps_extract rfl rfl).os ?_
    refine L1 (ps_extract rfl rfl).os ?_
    refine L1 (ps_assign rfl).os ?_
    refine L1 (ps_assign rfl).os ?_
    refine LW.nil ?_
    repeat (first | refine CW.seq ?_ | refine PW.then_ ?_ | refine PW.then_to rfl ?_ | refine CW.block ?_ | refine CW.skip ?_ | refine CW.ret ?_ | refine PW.then_ret ?_ | refine PW.block_ret ?_ | refine Cut.ret ?_ | refine Rnd.ret ?_ | refine PW.block_normal ?_ | refine CW.exit ?_ | refine PW.then_exit ?_ | refine PW.block_hit ?_ | refine PW.block_miss rfl ?_ | refine Cut.exit ?_ | refine Rnd.exit ?_)
    refine CW.cutB (α := Unit) [49, 50, 51, 52, 53, 54, 55, 56, 57, 58, 59, 60, 61, 62] (fun _ => True) (fun _ => [(62, .bool false)]) (fun _ => Ix x X1 :: mapN mb M1 :: cb b6 35 [.map (some mb)] :: cb b3 29 (nc a) :: cb b4 4 [.bool false] :: E :: F) ?_ ?_
    · refine CW.drawH [cb b8 37 (ccl (ck, cv)), cb b6 35 [.map (some mb)], mapN mb M1] [] T.mixed ?_
      refine H_take (i := 0) (some 49) rfl rfl (by kernel_rfl) (by kernel_rfl) (by kernel_rfl) rfl (ps_move rfl).pl (by kernel_rfl) (pkc (by repeat (first | exact pk_head _ _ | apply pk_tail)) (pkc (by repeat (first | exact pk_head _ _ | apply pk_tail)) (pkc (by repeat (first | exact pk_head _ _ | apply pk_tail)) (pkn _)))) ?_
      refine H_take (i := 1) (some 50) rfl rfl (by kernel_rfl) (by kernel_rfl) (by kernel_rfl) rfl (ps_not rfl).pl (by kernel_rfl) (pkc (by repeat (first | exact pk_head _ _ | apply pk_tail)) (pkc (by repeat (first | exact pk_head _ _ | apply pk_tail)) (pkc (by repeat (first | exact pk_head _ _ | apply pk_tail)) (pkn _)))) ?_
      refine H_take (i := 2) (some 51) rfl rfl (by kernel_rfl) (by kernel_rfl) (by kernel_rfl) rfl (ps_move rfl).pl (by kernel_rfl) (pkc (by repeat (first | exact pk_head _ _ | apply pk_tail)) (pkc (by repeat (first | exact pk_head _ _ | apply pk_tail)) (pkc (by repeat (first | exact pk_head _ _ | apply pk_tail)) (pkn _)))) ?_
      refine H_take (i := 3) (some 52) rfl rfl (by kernel_rfl) (by kernel_rfl) (by kernel_rfl) rfl (ps_move rfl).pl (by kernel_rfl) (pkc (by repeat (first | exact pk_head _ _ | apply pk_tail)) (pkc (by repeat (first | exact pk_head _ _ | apply pk_tail)) (pkc (by repeat (first | exact pk_head _ _ | apply pk_tail)) (pkn _)))) ?_
      refine H_take (i := 4) (some 53) rfl rfl (by kernel_rfl) (by kernel_rfl) (by kernel_rfl) rfl (ps_fa T.fa37_1 (by decide) rfl).pl (by kernel_rfl) (pkc (by repeat (first | exact pk_head _ _ | apply pk_tail)) (pkc (by repeat (first | exact pk_head _ _ | apply pk_tail)) (pkc (by repeat (first | exact pk_head _ _ | apply pk_tail)) (pkn _)))) ?_
      refine H_take (i := 5) (some 54) rfl rfl (by kernel_rfl) (by kernel_rfl) (by kernel_rfl) rfl (pl_load1 (b := b8) (v := .int .i64 cv) (by repeat (first | exact pk_head _ _ | apply pk_tail)) T.ag3 rfl rfl) (by kernel_rfl) (pkc (by repeat (first | exact pk_head _ _ | apply pk_tail)) (pkc (by repeat (first | exact pk_head _ _ | apply pk_tail)) (pkc (by repeat (first | exact pk_head _ _ | apply pk_tail)) (pkn _)))) ?_
      refine H_take (i := 6) (some 55) rfl rfl (by kernel_rfl) (by kernel_rfl) (by kernel_rfl) rfl (ps_f (ps_neq rfl rfl) (fun h => h rfl)).pl (by kernel_rfl) (pkc (by repeat (first | exact pk_head _ _ | apply pk_tail)) (pkc (by repeat (first | exact pk_head _ _ | apply pk_tail)) (pkc (by repeat (first | exact pk_head _ _ | apply pk_tail)) (pkn _)))) ?_
      refine H_take (i := 7) (some 56) rfl rfl (by kernel_rfl) (by kernel_rfl) (by kernel_rfl) rfl (ps_pick_f rfl rfl).pl (by kernel_rfl) (pkc (by repeat (first | exact pk_head _ _ | apply pk_tail)) (pkc (by repeat (first | exact pk_head _ _ | apply pk_tail)) (pkc (by repeat (first | exact pk_head _ _ | apply pk_tail)) (pkn _)))) ?_
      refine H_take (i := 8) (some 57) rfl rfl (by kernel_rfl) (by kernel_rfl) (by kernel_rfl) rfl (ps_move rfl).pl (by kernel_rfl) (pkc (by repeat (first | exact pk_head _ _ | apply pk_tail)) (pkc (by repeat (first | exact pk_head _ _ | apply pk_tail)) (pkc (by repeat (first | exact pk_head _ _ | apply pk_tail)) (pkn _)))) ?_
      refine H_take (i := 10) (some 59) rfl rfl (by kernel_rfl) (by kernel_rfl) (by kernel_rfl) rfl (pl_load1 (b := b6) (v := .map (some mb)) (by repeat (first | exact pk_head _ _ | apply pk_tail)) T.ag35 rfl rfl) (by kernel_rfl) (pkc (by repeat (first | exact pk_head _ _ | apply pk_tail)) (pkc (by repeat (first | exact pk_head _ _ | apply pk_tail)) (pkc (by repeat (first | exact pk_head _ _ | apply pk_tail)) (pkn _)))) ?_
      refine H_branch (rs := [9]) (by kernel_rfl) (by simp) ?_
      refine HR.cons1 (i := 9) (some 58) rfl rfl rfl (os_call1 hlen Try.func10 (by decide +kernel) rfl rfl (by repeat (first | exact pk_head _ _ | apply pk_tail))) (pkc (by repeat (first | exact pk_head _ _ | apply pk_tail)) (pkc (by repeat (first | exact pk_head _ _ | apply pk_tail)) (pkc (by repeat (first | exact pk_head _ _ | apply pk_tail)) (pkn _)))) ?_ ?_
      · skip
        refine H_take (i := 11) (some 60) rfl rfl (by kernel_rfl) (by kernel_rfl) (by kernel_rfl) rfl (pl_lenN (b := mb) (l := M1) (by repeat (first | exact pk_head _ _ | apply pk_tail)) T.un35 rfl) (by kernel_rfl) (pkc (by repeat (first | exact pk_head _ _ | apply pk_tail)) (pkc (by repeat (first | exact pk_head _ _ | apply pk_tail)) (pkc (by repeat (first | exact pk_head _ _ | apply pk_tail)) (pkn _)))) ?_
        refine H_take (i := 12) (some 61) rfl rfl (by kernel_rfl) (by kernel_rfl) (by kernel_rfl) rfl (ps_f (ps_neq rfl rfl) (fun h => h rfl)).pl (by kernel_rfl) (pkc (by repeat (first | exact pk_head _ _ | apply pk_tail)) (pkc (by repeat (first | exact pk_head _ _ | apply pk_tail)) (pkc (by repeat (first | exact pk_head _ _ | apply pk_tail)) (pkn _)))) ?_
        refine H_take (i := 13) (some 62) rfl rfl (by kernel_rfl) (by kernel_rfl) (by kernel_rfl) rfl (ps_pick_f rfl rfl).pl (by kernel_rfl) (pkc (by repeat (first | exact pk_head _ _ | apply pk_tail)) (pkc (by repeat (first | exact pk_head _ _ | apply pk_tail)) (pkc (by repeat (first | exact pk_head _ _ | apply pk_tail)) (pkn _)))) ?_
        refine H_done (by kernel_rfl) ?_
        exact Meet.cut () trivial (by repeat (first | (with_reducible exact Ag.refl _ _) | (with_reducible apply Ag.pu0) | ((with_reducible refine Ag.pu _ ?_ ?_); · exact rfl) | ((with_reducible refine Ag.mix ?_ ?_); · exact rfl) | ((with_reducible refine Ag.pus ?_ ?_); · exact rfl))) ⟨rfl, trivial⟩ (by repeat (first | exact Ent.refl _ | (apply Ent.cons; · repeat (first | exact pk_head _ _ | apply pk_tail)) | apply Ent.skip))
      exact HR.nil
    rintro _ _ _
    repeat (first | refine CW.seq ?_ | refine PW.then_ ?_ | refine PW.then_to rfl ?_ | refine CW.block ?_ | refine CW.skip ?_ | refine CW.ret ?_ | refine PW.then_ret ?_ | refine PW.block_ret ?_ | refine Cut.ret ?_ | refine Rnd.ret ?_ | refine PW.block_normal ?_ | refine CW.exit ?_ | refine PW.then_exit ?_ | refine PW.block_hit ?_ | refine PW.block_miss rfl ?_ | refine Cut.exit ?_ | refine Rnd.exit ?_)
    refine CW.cond_false rfl ?_
    repeat (first | refine CW.seq ?_ | refine PW.then_ ?_ | refine PW.then_to rfl ?_ | refine CW.block ?_ | refine CW.skip ?_ | refine CW.ret ?_ | refine PW.then_ret ?_ | refine PW.block_ret ?_ | refine Cut.ret ?_ | refine Rnd.ret ?_ | refine PW.block_normal ?_ | refine CW.exit ?_ | refine PW.then_exit ?_ | refine PW.block_hit ?_ | refine PW.block_miss rfl ?_ | refine Cut.exit ?_ | refine Rnd.exit ?_)
    refine CW.region ?_
    refine L1 (ps_to (u := .int .i64 ((i + 1 : Nat) : Int)) (by rfl) (ps_add_i64 rfl rfl (by omega) (by omega))).os ?_
    refine L1 (ps_move rfl).os ?_
    refine LW.nil ?_
    exact Meet.round (l.length - (i + 1)) (i + 1) (by omega) ⟨hlt, rfl⟩ (by repeat (first | (with_reducible exact Ag.refl _ _) | (with_reducible apply Ag.pu0) | ((with_reducible refine Ag.pu _ ?_ ?_); · exact rfl) | ((with_reducible refine Ag.mix ?_ ?_); · exact rfl) | ((with_reducible refine Ag.pus ?_ ?_); · exact rfl))) ⟨rfl, trivial⟩ (by rw [hX1, hM1]; exact (by repeat (first | exact Ent.refl _ | (apply Ent.cons; · repeat (first | exact pk_head _ _ | apply pk_tail)) | apply Ent.skip)))
  have hil : i = l.length := by omega
  subst hil
  obtain ⟨hq, hln⟩ := hfm l.length (Nat.le_refl _)
  have hg := hgood l.length
  have hXl := hflen l.length
  rw [List.take_length] at *
  generalize fill [] l = Z at *
  generalize mfill l = M at *
  have hget := Get_spec x a Z ha hg.srt hg.low
  have hqa := hq a
  obtain ⟨u, b, hgv⟩ : ∃ u b, gotV (lkp a Z) = .tuple #[.int .i64 u, .bool b] := by cases lkp a Z <;> exact ⟨_, _, rfl⟩
  rw [hgv] at hget
  have hgm : gotV (lkp a M) = .tuple #[.int .i64 u, .bool b] := by rw [← hqa, hgv]
  refine CW.region ?_
  refine L1 (ps_f (ps_lss rfl rfl) (by omega)).os ?_
  refine LW.nil ?_
  repeat (first | refine CW.seq ?_ | refine PW.then_ ?_ | refine PW.then_to rfl ?_ | refine CW.block ?_ | refine CW.skip ?_ | refine CW.ret ?_ | refine PW.then_ret ?_ | refine PW.block_ret ?_ | refine Cut.ret ?_ | refine Rnd.ret ?_ | refine PW.block_normal ?_ | refine CW.exit ?_ | refine PW.then_exit ?_ | refine PW.block_hit ?_ | refine PW.block_miss rfl ?_ | refine Cut.exit ?_ | refine Rnd.exit ?_)
  refine CW.cond_false rfl ?_
  repeat (first | refine CW.seq ?_ | refine PW.then_ ?_ | refine PW.then_to rfl ?_ | refine CW.block ?_ | refine CW.skip ?_ | refine CW.ret ?_ | refine PW.then_ret ?_ | refine PW.block_ret ?_ | refine Cut.ret ?_ | refine Rnd.ret ?_ | refine PW.block_normal ?_ | refine CW.exit ?_ | refine PW.then_exit ?_ | refine PW.block_hit ?_ | refine PW.block_miss rfl ?_ | refine Cut.exit ?_ | refine Rnd.exit ?_)
  refine CW.region ?_
  refine L1 (os_loadAll (b := b3) (cs := nc a) (by repeat (first | exact pk_head _ _ | apply pk_tail)) T.ag29 (by exact T.sz29) rfl) ?_
  refine L1 (os_call1 hget Try.func11 (by decide +kernel) rfl rfl (by repeat (first | exact pk_head _ _ | apply pk_tail))) ?_
  refine L1 (ps_move rfl).os ?_
  refine L1 (ps_extract rfl rfl).os ?_
  refine L1 (ps_extract rfl rfl).os ?_
  refine L1 (ps_assign rfl).os ?_
  refine L1 (ps_assign rfl).os ?_
  refine LW.nil ?_
  repeat (first | refine CW.seq ?_ | refine PW.then_ ?_ | refine PW.then_to rfl ?_ | refine CW.block ?_ | refine CW.skip ?_ | refine CW.ret ?_ | refine PW.then_ret ?_ | refine PW.block_ret ?_ | refine Cut.ret ?_ | refine Rnd.ret ?_ | refine PW.block_normal ?_ | refine CW.exit ?_ | refine PW.then_exit ?_ | refine PW.block_hit ?_ | refine PW.block_miss rfl ?_ | refine Cut.exit ?_ | refine Rnd.exit ?_)
  refine CW.region ?_
  refine L1 (os_load1 (b := b6) (v := .map (some mb)) (by repeat (first | exact pk_head _ _ | apply pk_tail)) T.ag35 rfl rfl) ?_
  refine L1 (os_loadAll (b := b3) (cs := nc a) (by repeat (first | exact pk_head _ _ | apply pk_tail)) T.ag29 (by exact T.sz29) rfl) ?_
  refine L1 (os_lookN (b := mb) (l := M) hgm (by repeat (first | exact pk_head _ _ | apply pk_tail)) T.un35 rfl rfl) ?_
  refine L1 (ps_move rfl).os ?_
  refine L1 (ps_extract rfl rfl).os ?_
  refine L1 (ps_extract rfl rfl).os ?_
  refine L1 (ps_assign rfl).os ?_
  refine L1 (ps_assign rfl).os ?_
  refine LW.nil ?_
  repeat (first | refine CW.seq ?_ | refine PW.then_ ?_ | refine PW.then_to rfl ?_ | refine CW.block ?_ | refine CW.skip ?_ | refine CW.ret ?_ | refine PW.then_ret ?_ | refine PW.block_ret ?_ | refine Cut.ret ?_ | refine Rnd.ret ?_ | refine PW.block_normal ?_ | refine CW.exit ?_ | refine PW.then_exit ?_ | refine PW.block_hit ?_ | refine PW.block_miss rfl ?_ | refine Cut.exit ?_ | refine Rnd.exit ?_)
  refine CW.region ?_
  refine L1 (ps_move rfl).os ?_
  refine L1 (ps_move rfl).os ?_
  refine L1 (ps_to (u := .bool false) (by simp) (ps_bool_neq T.un4 rfl rfl)).os ?_
  refine L1 (ps_move rfl).os ?_
  refine LG1 ?_ (ps_move rfl).os ?_
  · exact rfl
  refine LG1 ?_ (ps_move rfl).os ?_
  · exact rfl
  refine LG1 ?_ (ps_f (ps_neq rfl rfl) (fun h => h rfl)).os ?_
  · exact rfl
  refine L1 (ps_pick_f rfl rfl).os ?_
  refine LW.nil ?_
  repeat (first | refine CW.seq ?_ | refine PW.then_ ?_ | refine PW.then_to rfl ?_ | refine CW.block ?_ | refine CW.skip ?_ | refine CW.ret ?_ | refine PW.then_ret ?_ | refine PW.block_ret ?_ | refine Cut.ret ?_ | refine Rnd.ret ?_ | refine PW.block_normal ?_ | refine CW.exit ?_ | refine PW.then_exit ?_ | refine PW.block_hit ?_ | refine PW.block_miss rfl ?_ | refine Cut.exit ?_ | refine Rnd.exit ?_)
  refine CW.cond_false rfl ?_
  repeat (first | refine CW.seq ?_ | refine PW.then_ ?_ | refine PW.then_to rfl ?_ | refine CW.block ?_ | refine CW.skip ?_ | refine CW.ret ?_ | refine PW.then_ret ?_ | refine PW.block_ret ?_ | refine Cut.ret ?_ | refine Rnd.ret ?_ | refine PW.block_normal ?_ | refine CW.exit ?_ | refine PW.then_exit ?_ | refine PW.block_hit ?_ | refine PW.block_miss rfl ?_ | refine Cut.exit ?_ | refine Rnd.exit ?_)
  refine CW.region ?_
  refine LE (os_alloc T.ti3) ?_
  rintro _ _ ⟨b15, rfl, rfl⟩
  refine L1 (os_store1 (b := b15) (by repeat (first | exact pk_head _ _ | apply pk_tail)) T.sz3 rfl rfl (by rfl) (Nat.le_of_ble_eq_true rfl)) ?_
  refine LW.nil ?_
  repeat (first | refine CW.seq ?_ | refine PW.then_ ?_ | refine PW.then_to rfl ?_ | refine CW.block ?_ | refine CW.skip ?_ | refine CW.ret ?_ | refine PW.then_ret ?_ | refine PW.block_ret ?_ | refine Cut.ret ?_ | refine Rnd.ret ?_ | refine PW.block_normal ?_ | refine CW.exit ?_ | refine PW.then_exit ?_ | refine PW.block_hit ?_ | refine PW.block_miss rfl ?_ | refine Cut.exit ?_ | refine Rnd.exit ?_)
  refine CW.region ?_
  refine L1 (ps_build (by rfl) (T.bd29)).os ?_
  refine LE (os_alloc T.ti29) ?_
  rintro _ _ ⟨b16, rfl, rfl⟩
  refine L1 (os_storeAll (b := b16) (vs := nc 0) (by repeat (first | exact pk_head _ _ | apply pk_tail)) (by exact T.sz29) rfl rfl (nc_one _) (by rfl)) ?_
  refine LW.nil ?_
  repeat (first | refine CW.seq ?_ | refine PW.then_ ?_ | refine PW.then_to rfl ?_ | refine CW.block ?_ | refine CW.skip ?_ | refine CW.ret ?_ | refine PW.then_ret ?_ | refine PW.block_ret ?_ | refine Cut.ret ?_ | refine Rnd.ret ?_ | refine PW.block_normal ?_ | refine CW.exit ?_ | refine PW.then_exit ?_ | refine PW.block_hit ?_ | refine PW.block_miss rfl ?_ | refine Cut.exit ?_ | refine Rnd.exit ?_)
  refine CW.region ?_
  refine L1 (ps_func (va := #[ptr x]) (vb := #[]) (by simp only [List.map_toArray, List.map_cons, List.map_nil]; rfl) (by simp)).os ?_
  refine LW.nil ?_
  repeat (first | refine CW.seq ?_ | refine PW.then_ ?_)
  refine CW.rangeBlock (bound := [ptr x]) (caps := []) (fun Cs => ∃ z, Cs = Ix x Z :: cb b15 3 [.int .i64 (Z.length : Nat)] :: mapN mb M :: cb b6 35 [.map (some mb)] :: cb b16 29 (nc z) :: cb b4 4 [.bool false] :: E :: F) rfl Try.func9 (by decide +kernel) rfl ?_ ?_
  · intro fid D L rec hrec
    refine ((All_spec (total := Z) (Inv := fun pre S => S = AllP [pt L (.loop (rec .ready none)), cb b15 3 [.int .i64 (pre.length : Nat)], mapN mb M, cb b6 35 [.map (some mb)], cb b16 29 (nc (lastK pre))]) (Stop := fun _ => False) ?_ x _ rfl).frame (pt D (.deferred (some [])) :: cb b4 4 [.bool false] :: E :: F)).mono ?_ ?_
    · rintro pre e post S hsp rfl
      have hgp : Good (pre ++ e :: post) := hsp ▸ hg
      obtain ⟨hlk1, hlk2⟩ := lastK_lt hgp
      have hek := hgp.low e (by simp)
      have hle : lkp e.1 M = some e.2 := by rw [← hq e.1]; exact lkp_of_mem hg.srt (by rw [← hsp]; simp)
      have hgl : gotV (lkp e.1 M) = .tuple #[.int .i64 e.2, .bool true] := by rw [hle]; rfl
      have hpl : pre.length ≤ 300 := by rw [← hsp, List.length_append] at hXl; omega
      have hl2 : (pre ++ [e]).length = pre.length + 1 := by simp
      have hk2 : lastK (pre ++ [e]) = e.1 := by simp [lastK]
      have hn0 : (0 : Int) < (pre.length : Nat) → pre ≠ [] := fun h h0 => by subst h0; simp at h
      refine (YSpec.rnd2 (As := [cb b15 3 [.int .i64 (pre.length : Nat)], mapN mb M, cb b6 35 [.map (some mb)], cb b16 29 (nc (lastK pre))]) (post := fun b Bs => b = true ∧ Bs = [pt L (.loop (rec .ready none)), cb b15 3 [.int .i64 ((pre.length + 1 : Nat) : Int)], mapN mb M, cb b6 35 [.map (some mb)], cb b16 29 (nc e.1)]) hrec ?_).mono (unallI _) ?_
      · clear hsp hgp hl2 hk2 hle
        generalize lastK pre = lk at *
        obtain ⟨ek, ev⟩ := e
        dsimp only at *
        generalize pre.length = m at *
        intro hLR w0 G
        show CW _ _ _ _ _ _ (_ :: _ :: _ :: _ :: _ :: G)
        repeat (first | refine CW.seq ?_ | refine PW.then_ ?_ | refine PW.then_to rfl ?_ | refine CW.block ?_ | refine CW.skip ?_ | refine CW.ret ?_ | refine PW.then_ret ?_ | refine PW.block_ret ?_ | refine Cut.ret ?_ | refine Rnd.ret ?_ | refine PW.block_normal ?_ | refine CW.exit ?_ | refine PW.then_exit ?_ | refine PW.block_hit ?_ | refine PW.block_miss rfl ?_ | refine Cut.exit ?_ | refine Rnd.exit ?_)
        refine CW.region ?_
        refine LE (os_alloc T.ti29) ?_
        rintro _ _ ⟨b17, rfl, rfl⟩
        refine L1 (os_storeAll (b := b17) (vs := nc ek) (by repeat (first | exact pk_head _ _ | apply pk_tail)) (by exact T.sz29) rfl rfl (nc_one _) (by rfl)) ?_
        refine LW.nil ?_
        repeat (first | refine CW.seq ?_ | refine PW.then_ ?_ | refine PW.then_to rfl ?_ | refine CW.block ?_ | refine CW.skip ?_ | refine CW.ret ?_ | refine PW.then_ret ?_ | refine PW.block_ret ?_ | refine Cut.ret ?_ | refine Rnd.ret ?_ | refine PW.block_normal ?_ | refine CW.exit ?_ | refine PW.then_exit ?_ | refine PW.block_hit ?_ | refine PW.block_miss rfl ?_ | refine Cut.exit ?_ | refine Rnd.exit ?_)
        refine CW.region ?_
        refine L1 (ps_assign rfl).os ?_
        refine LW.nil ?_
        refine RA.begin hLR (by repeat (first | exact pk_head _ _ | apply pk_tail)) ?_
        repeat (first | refine CW.seq ?_ | refine PW.then_ ?_ | refine PW.then_to rfl ?_ | refine CW.block ?_ | refine CW.skip ?_ | refine CW.ret ?_ | refine PW.then_ret ?_ | refine PW.block_ret ?_ | refine Cut.ret ?_ | refine Rnd.ret ?_ | refine PW.block_normal ?_ | refine CW.exit ?_ | refine PW.then_exit ?_ | refine PW.block_hit ?_ | refine PW.block_miss rfl ?_ | refine Cut.exit ?_ | refine Rnd.exit ?_)
        refine CW.region ?_
        refine L1 (os_load1 (b := b6) (v := .map (some mb)) (by repeat (first | exact pk_head _ _ | apply pk_tail)) T.ag35 rfl rfl) ?_
        refine L1 (os_loadAll (b := b17) (cs := nc ek) (by repeat (first | exact pk_head _ _ | apply pk_tail)) T.ag29 (by exact T.sz29) rfl) ?_
        refine L1 (os_lookN (b := mb) (l := M) hgl (by repeat (first | exact pk_head _ _ | apply pk_tail)) T.un35 rfl rfl) ?_
        refine L1 (ps_move rfl).os ?_
        refine L1 (ps_extract rfl rfl).os ?_
        refine L1 (ps_extract rfl rfl).os ?_
        refine L1 (ps_assign rfl).os ?_
        refine L1 (ps_assign rfl).os ?_
        refine LW.nil ?_
        repeat (first | refine CW.seq ?_ | refine PW.then_ ?_ | refine PW.then_to rfl ?_ | refine CW.block ?_ | refine CW.skip ?_ | refine CW.ret ?_ | refine PW.then_ret ?_ | refine PW.block_ret ?_ | refine Cut.ret ?_ | refine Rnd.ret ?_ | refine PW.block_normal ?_ | refine CW.exit ?_ | refine PW.then_exit ?_ | refine PW.block_hit ?_ | refine PW.block_miss rfl ?_ | refine Cut.exit ?_ | refine Rnd.exit ?_)
        refine CW.cutB (α := Unit) [93, 94, 95, 96, 97, 98, 99, 100, 101, 102, 103, 104, 105, 106, 107, 108, 109] (fun _ => True) (fun _ => [(109, .bool false)]) (fun _ => cb b17 29 (nc ek) :: pt L (.loop (rec .busy none)) :: cb b15 3 [.int .i64 (m : Nat)] :: mapN mb M :: cb b6 35 [.map (some mb)] :: cb b16 29 (nc lk) :: G) ?_ ?_
        · by_cases hm0 : (0 : Int) < (m : Nat)
          · have hlt := hlk2 (hn0 hm0)
            have hc := (cmpN_lt0 (a := lk) (b := ek)).2 hlt
            refine CW.region ?_
            refine L1 (ps_move rfl).os ?_
            refine L1 (ps_not rfl).os ?_
            refine L1 (ps_move rfl).os ?_
            refine LG1 ?_ (ps_move rfl).os ?_
            · exact rfl
            refine LG1 ?_ (ps_move rfl).os ?_
            · exact rfl
            refine LG1 ?_ (ps_f (ps_neq rfl rfl) (fun h => h rfl)).os ?_
            · exact rfl
            refine L1 (ps_pick_f rfl rfl).os ?_
            refine L1 (ps_move rfl).os ?_
            refine LG1 ?_ (os_load1 (b := b15) (v := .int .i64 (m : Nat)) (by repeat (first | exact pk_head _ _ | apply pk_tail)) T.ag3 rfl rfl) ?_
            · exact rfl
            refine LG1 ?_ (ps_t (ps_gtr rfl rfl) (hm0)).os ?_
            · exact rfl
            refine LG1 ?_ (ps_move rfl).os ?_
            · exact rfl
            refine LG1 ?_ (os_loadAll (b := b16) (cs := nc lk) (by repeat (first | exact pk_head _ _ | apply pk_tail)) T.ag29 (by exact T.sz29) rfl) ?_
            · exact rfl
            refine LG1 ?_ (os_loadAll (b := b17) (cs := nc ek) (by repeat (first | exact pk_head _ _ | apply pk_tail)) T.ag29 (by exact T.sz29) rfl) ?_
            · exact rfl
            refine LG1 ?_ (os_call0 (Compare_spec lk ek hlk1 hek) Try.func12 (by decide +kernel) rfl rfl) ?_
            · exact rfl
            refine LG1 ?_ (ps_f (ps_geq rfl rfl) (by omega)).os ?_
            · exact rfl
            refine LG1 ?_ (ps_pick_t rfl rfl).os ?_
            · exact rfl
            refine L1 (ps_pick_f rfl rfl).os ?_
            refine LW.nil ?_
            exact Meet.cut () trivial (by repeat (first | (with_reducible exact Ag.refl _ _) | (with_reducible apply Ag.pu0) | ((with_reducible refine Ag.pu _ ?_ ?_); · exact rfl) | ((with_reducible refine Ag.mix ?_ ?_); · exact rfl) | ((with_reducible refine Ag.pus ?_ ?_); · exact rfl))) ⟨rfl, trivial⟩ (by repeat (first | exact Ent.refl _ | (apply Ent.cons; · repeat (first | exact pk_head _ _ | apply pk_tail)) | apply Ent.skip))
          · refine CW.region ?_
            refine L1 (ps_move rfl).os ?_
            refine L1 (ps_not rfl).os ?_
            refine L1 (ps_move rfl).os ?_
            refine LG1 ?_ (ps_move rfl).os ?_
            · exact rfl
            refine LG1 ?_ (ps_move rfl).os ?_
            · exact rfl
            refine LG1 ?_ (ps_f (ps_neq rfl rfl) (fun h => h rfl)).os ?_
            · exact rfl
            refine L1 (ps_pick_f rfl rfl).os ?_
            refine L1 (ps_move rfl).os ?_
            refine LG1 ?_ (os_load1 (b := b15) (v := .int .i64 (m : Nat)) (by repeat (first | exact pk_head _ _ | apply pk_tail)) T.ag3 rfl rfl) ?_
            · exact rfl
            refine LG1 ?_ (ps_f (ps_gtr rfl rfl) (hm0)).os ?_
            · exact rfl
            refine LG1 ?_ (ps_move rfl).os ?_
            · exact rfl
            refine LG0t ?_ ?_
            · exact rfl
            refine LG0t ?_ ?_
            · exact rfl
            refine LG0t ?_ ?_
            · exact rfl
            refine LG0t ?_ ?_
            · exact rfl
            refine LG1 ?_ (ps_pick_f rfl rfl).os ?_
            · exact rfl
            refine L1 (ps_pick_f rfl rfl).os ?_
            refine LW.nil ?_
            exact Meet.cut () trivial (by repeat (first | (with_reducible exact Ag.refl _ _) | (with_reducible apply Ag.pu0) | ((with_reducible refine Ag.pu _ ?_ ?_); · exact rfl) | ((with_reducible refine Ag.mix ?_ ?_); · exact rfl) | ((with_reducible refine Ag.pus ?_ ?_); · exact rfl))) ⟨rfl, trivial⟩ (by repeat (first | exact Ent.refl _ | (apply Ent.cons; · repeat (first | exact pk_head _ _ | apply pk_tail)) | apply Ent.skip))
        rintro _ _ _
        repeat (first | refine CW.seq ?_ | refine PW.then_ ?_ | refine PW.then_to rfl ?_ | refine CW.block ?_ | refine CW.skip ?_ | refine CW.ret ?_ | refine PW.then_ret ?_ | refine PW.block_ret ?_ | refine Cut.ret ?_ | refine Rnd.ret ?_ | refine PW.block_normal ?_ | refine CW.exit ?_ | refine PW.then_exit ?_ | refine PW.block_hit ?_ | refine PW.block_miss rfl ?_ | refine Cut.exit ?_ | refine Rnd.exit ?_)
        refine CW.cond_false rfl ?_
        repeat (first | refine CW.seq ?_ | refine PW.then_ ?_ | refine PW.then_to rfl ?_ | refine CW.block ?_ | refine CW.skip ?_ | refine CW.ret ?_ | refine PW.then_ret ?_ | refine PW.block_ret ?_ | refine Cut.ret ?_ | refine Rnd.ret ?_ | refine PW.block_normal ?_ | refine CW.exit ?_ | refine PW.then_exit ?_ | refine PW.block_hit ?_ | refine PW.block_miss rfl ?_ | refine Cut.exit ?_ | refine Rnd.exit ?_)
        refine CW.region ?_
        refine L1 (os_loadAll (b := b17) (cs := nc ek) (by repeat (first | exact pk_head _ _ | apply pk_tail)) T.ag29 (by exact T.sz29) rfl) ?_
        refine L1 (os_storeAll (b := b16) (vs := nc ek) (by repeat (first | exact pk_head _ _ | apply pk_tail)) (by exact T.sz29) rfl rfl (nc_one _) (by rfl)) ?_
        refine LW.nil ?_
        repeat (first | refine CW.seq ?_ | refine PW.then_ ?_ | refine PW.then_to rfl ?_ | refine CW.block ?_ | refine CW.skip ?_ | refine CW.ret ?_ | refine PW.then_ret ?_ | refine PW.block_ret ?_ | refine Cut.ret ?_ | refine Rnd.ret ?_ | refine PW.block_normal ?_ | refine CW.exit ?_ | refine PW.then_exit ?_ | refine PW.block_hit ?_ | refine PW.block_miss rfl ?_ | refine Cut.exit ?_ | refine Rnd.exit ?_)
        refine CW.region ?_
        refine L1 (os_load1 (b := b15) (v := .int .i64 (m : Nat)) (by repeat (first | exact pk_head _ _ | apply pk_tail)) T.ag3 rfl rfl) ?_
        refine L1 (ps_to (u := .int .i64 ((m + 1 : Nat) : Int)) (by rfl) (ps_add_i64 rfl rfl (by omega) (by omega))).os ?_
        refine L1 (os_store1 (b := b15) (by repeat (first | exact pk_head _ _ | apply pk_tail)) T.sz3 rfl rfl (by rfl) (by exact Nat.zero_lt_one)) ?_
        refine LW.nil ?_
        repeat (first | refine CW.seq ?_ | refine PW.then_ ?_ | refine PW.then_to rfl ?_ | refine CW.block ?_ | refine CW.skip ?_ | refine CW.ret ?_ | refine PW.then_ret ?_ | refine PW.block_ret ?_ | refine Cut.ret ?_ | refine Rnd.ret ?_ | refine PW.block_normal ?_ | refine CW.exit ?_ | refine PW.then_exit ?_ | refine PW.block_hit ?_ | refine PW.block_miss rfl ?_ | refine Cut.exit ?_ | refine Rnd.exit ?_)
        exact RQ.on hLR (by repeat (first | exact pk_head _ _ | apply pk_tail)) (by repeat (first | exact Ent.refl _ | (apply Ent.cons; · repeat (first | exact pk_head _ _ | apply pk_tail)) | apply Ent.skip)) ⟨rfl, rfl⟩
      · rintro b Bs ⟨rfl, rfl⟩
        exact ⟨_, ⟨_, Or.inl ⟨rfl, by dsimp only; rw [hl2, hk2]⟩, rfl⟩, allI _⟩
    · exact Ent.trans (Bs := [pt L (.loop (rec .ready none)), cb b15 3 [.int .i64 0], mapN mb M, cb b6 35 [.map (some mb)], cb b16 29 (nc 0)] ++ Ix x Z :: pt D (.deferred (some [])) :: cb b4 4 [.bool false] :: E :: F) (by repeat (first | exact Ent.refl _ | (apply Ent.cons; · repeat (first | exact pk_head _ _ | apply pk_tail)) | apply Ent.skip)) ((Ent.all _ _).trans (by repeat (first | exact Ent.refl _ | (apply Ent.cons; · repeat (first | exact pk_head _ _ | apply pk_tail)) | apply Ent.skip)))
    · rintro r As ⟨Cs, ⟨rfl, S', hS | hS, rfl⟩, rfl⟩
      · subst hS
        refine ⟨_, ⟨none, .ready, _, (fun h => by cases h), Or.inl rfl, ⟨lastK Z, rfl⟩, rfl⟩, ?_⟩
        exact Ent.trans (Bs := AllP [pt L (.loop (rec .ready none)), cb b15 3 [.int .i64 (Z.length : Nat)], mapN mb M, cb b6 35 [.map (some mb)], cb b16 29 (nc (lastK Z))] :: Ix x Z :: pt D (.deferred (some [])) :: cb b4 4 [.bool false] :: E :: F) (by repeat (first | exact Ent.refl _ | (apply Ent.cons; · repeat (first | exact pk_head _ _ | apply pk_tail)) | apply Ent.skip)) ((Ent.unall _ _).trans (by repeat (first | exact Ent.refl _ | (apply Ent.cons; · repeat (first | exact pk_head _ _ | apply pk_tail)) | apply Ent.skip)))
      · exact absurd hS id
  rintro D _ ⟨z, rfl⟩
  rw [hln]
  repeat (first | refine CW.seq ?_ | refine PW.then_ ?_ | refine PW.then_to rfl ?_ | refine CW.block ?_ | refine CW.skip ?_ | refine CW.ret ?_ | refine PW.then_ret ?_ | refine PW.block_ret ?_ | refine Cut.ret ?_ | refine Rnd.ret ?_ | refine PW.block_normal ?_ | refine CW.exit ?_ | refine PW.then_exit ?_ | refine PW.block_hit ?_ | refine PW.block_miss rfl ?_ | refine Cut.exit ?_ | refine Rnd.exit ?_)
  refine CW.region ?_
  refine L1 (os_load1 (b := b15) (v := .int .i64 (M.length : Nat)) (by repeat (first | exact pk_head _ _ | apply pk_tail)) T.ag3 rfl rfl) ?_
  refine L1 (os_load1 (b := b6) (v := .map (some mb)) (by repeat (first | exact pk_head _ _ | apply pk_tail)) T.ag35 rfl rfl) ?_
  refine L1 (os_lenN (b := mb) (l := M) (by repeat (first | exact pk_head _ _ | apply pk_tail)) T.un35 rfl) ?_
  refine L1 (ps_t (ps_eql rfl rfl) (rfl)).os ?_
  refine L1 (os_store1 (b := b4) (by repeat (first | exact pk_head _ _ | apply pk_tail)) T.sz4 rfl rfl (by rfl) (by exact Nat.zero_lt_one)) ?_
  refine LW.nil ?_
  repeat (first | refine CW.seq ?_ | refine PW.then_ ?_ | refine PW.then_to rfl ?_ | refine CW.block ?_ | refine CW.skip ?_ | refine CW.ret ?_ | refine PW.then_ret ?_ | refine PW.block_ret ?_ | refine Cut.ret ?_ | refine Rnd.ret ?_ | refine PW.block_normal ?_ | refine CW.exit ?_ | refine PW.then_exit ?_ | refine PW.block_hit ?_ | refine PW.block_miss rfl ?_ | refine Cut.exit ?_ | refine Rnd.exit ?_)
  refine Fin.mark rfl (by repeat (first | exact pk_head _ _ | apply pk_tail)) ?_
  exact Fin.retC1 (b := b4) (v := .bool true) rfl (by repeat (first | exact pk_head _ _ | apply pk_tail)) T.ag4 rfl rfl [E] ⟨rfl, rfl⟩ (by repeat (first | exact Ent.refl _ | (apply Ent.cons; · repeat (first | exact pk_head _ _ | apply pk_tail)) | apply Ent.skip))

namespace indexRuns
open Go.ChangeShapes Go.WideShapes Go.ChangeAt Go.RowKit
theorem own : ownKnob Try.prog.godebug = none := by kernel_rfl
theorem laidOut : laidOutB Try.prog = true := by kernel_rfl
set_option maxRecDepth 100000 in
theorem lifted (os : Os) (started : os.Started) (H : Type) (enc : TypeId × Value → H) :
    ReturnsInHanded {} Try.checked os 4 .any (Rows.indexRunsSpec.pre6 enc Try.prog Try.f4 Rows.indexRunsRow.domain false) (Rows.indexRunsSpec.post enc Try.prog Try.f4 false true false false) := by
  refine returnsInHanded_of_change (C := Try.checked) own started (by kernel_rfl) Try.func4
    (ChangeSpec.witness6 (enc := enc) (C := Try.checked) false ⟨#[], #[(Value.slice none 0 0), (.agg (([Value.int .u64 0]) ++ ([Value.int .u64 0])).toArray)], []⟩ 8 (by kernel_rfl) (by kernel_rfl) (by kernel_rfl) (by kernel_rfl)) ?_
  intro W base args ds gs before hval0 hW hcnd _
  have hval : ∀ (j : Nat) t v, Try.f4.params[j]? = some t → args[j]? = some v → Value.okWide Try.prog W .any base t v := hval0
  have hW' := hW
  obtain ⟨p, q, hA0, hV, rfl, hfz, hnd⟩ := hW
  have hA : DataW.TrodAll enc Try.prog W 0 (fun _ => true) true Try.f4.params.toList args.toList ds p := hA0
  rw [Try.params4] at hA hval
  obtain ⟨v0, vs0, d0, ds0, p0, q0, hargs, rfl, rfl, h0, r0⟩ := trodAll_cons hA
  obtain ⟨v1, vs1, d1, ds1, p1, q1, rfl, rfl, rfl, h1, r1⟩ := trodAll_cons r0
  obtain ⟨rfl, rfl, rfl⟩ := trodAll_nil r1
  obtain rfl : args = #[v0, v1] := by cases args; simp_all
  obtain ⟨rfl, rfl⟩ := trodVars_none hV
  obtain ⟨_, _, _, rfl⟩ := okWide_slice T.un34 (hval 0 34 v0 rfl rfl)
  obtain ⟨fu0, hf0⟩ := h0
  obtain ⟨a0, b0⟩ := open_Slpaciolilaw08Call hf0
  obtain ⟨cs1, rfl, hcs1⟩ := okWide_agg T.ag29 (hval 1 29 v1 rfl rfl)
  obtain ⟨fu1, hf1⟩ := h1
  obtain ⟨a1, b1, c1⟩ := open_apiNum hf1
  simp only [List.append_nil] at hW'
  refine (LawOf.calls (IndexRuns_law W _ a0 b0 _ a1 b1 c1)).mono fun e W' ⟨he, hb⟩ => ?_
  subst he
  exact ⟨_, rfl, law_post laidOut rfl (tb := 4) (by kernel_rfl) T.un4 (by intro t ht; rw [Try.params4] at ht; simp only [List.mem_cons, List.not_mem_nil, or_false] at ht; rcases ht with rfl | rfl <;> exact ⟨by kernel_rfl, by decide +kernel⟩) rfl hW' hb⟩
theorem holds : Rows.IndexRunsSaid :=
  OpenClaim.holds_of_wide 4 Try.f4 rfl rfl rfl rfl rfl rfl rfl ⟨rfl, rfl, rfl, rfl, rfl⟩ rfl rfl rfl rfl rfl (by kernel_rfl) Try.func4 (by kernel_rfl)
    (of_decide_eq_true (by kernel_rfl)) (by unfold Func.isWrapper; rw [if_neg (of_decide_eq_false (by kernel_rfl))]; exact ⟨rfl, rfl⟩)
    (fun os started H enc _ => lifted os started H enc)
end indexRuns
end Go.Proofs.Ytejphoheaeplbaa
