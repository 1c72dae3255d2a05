/- The law IndexTurns: the order in which keys come plays no part: it answers true for every slice of numbers and every turn (no condition). -/
import Derived.Test.YtejphoheaeplbaaIdxLaw
import Derived.Test.YtejphoheaeplbaaRows
namespace Go.Proofs.Ytejphoheaeplbaa
open Go Go.SL
set_option linter.unusedVariables false
set_option linter.unusedSimpArgs false

def vOf (k : Nat) : Int := ((k % 18446744073709551616 % 65536 : Nat) : Int)
theorem lkp_fill (g : Nat → Int) (q : Nat) : ∀ (L : List Nat) (acc : List En), lkp q (fill acc (L.map fun k => (k, g k))) = if q ∈ L then some (g q) else lkp q acc
  | [], acc => by simp [fill]
  | k :: L, acc => by
    show lkp q (fill (ins k (g k) acc) (L.map fun k => (k, g k))) = _
    rw [lkp_fill g q L, lkp_ins]
    by_cases h1 : q ∈ L
    · simp [h1]
    · by_cases h2 : q = k
      · subst h2; simp
      · simp [h1, h2]
theorem rot_mem {l : List Nat} {tt : Nat} (hT : tt < l.length) (q : Nat) : q ∈ (List.range l.length).map (fun j => l.getD ((j + tt) % l.length) 0) ↔ q ∈ l := by
  constructor
  · intro h
    obtain ⟨j, hj, rfl⟩ := List.mem_map.1 h
    have hlt : (j + tt) % l.length < l.length := Nat.mod_lt _ (by omega)
    rw [List.getD_eq_getElem?_getD, List.getElem?_eq_getElem hlt]
    exact List.getElem_mem hlt
  · intro h
    obtain ⟨i, hi, rfl⟩ := List.getElem_of_mem h
    refine List.mem_map.2 ⟨(i + (l.length - tt)) % l.length, List.mem_range.2 (Nat.mod_lt _ (by omega)), ?_⟩
    have e : ((i + (l.length - tt)) % l.length + tt) % l.length = i := by
      rw [Nat.mod_add_mod, show i + (l.length - tt) + tt = i + l.length by omega, Nat.add_mod_right, Nat.mod_eq_of_lt hi]
    rw [e, List.getD_eq_getElem?_getD, List.getElem?_eq_getElem hi]
    rfl
theorem vOf_mask (k : Nat) : (((k % 18446744073709551616 : Nat) : Int) % ((2 ^ 16 : Nat) : Int)) = ((k % 18446744073709551616 % 65536 : Nat) : Int) := by
  generalize k % 18446744073709551616 = a
  omega
theorem vOf_wrap (k : Nat) : IntKind.i64.wrap ((k % 18446744073709551616 % 65536 : Nat) : Int) = vOf k := by
  unfold vOf
  generalize k % 18446744073709551616 = a
  exact wrap_i64_id (by omega) (by omega)
theorem nc_lo (k : Nat) : (nc k)[1]? = some (.int .u64 ((k % 18446744073709551616 : Nat) : Int)) := rfl
theorem ret4 {w0 : World} {F As Bs : List Asn} {f : Nat → Value} {b4 : Nat} {E : Asn} {n : FN} (hp : As.Perm (cb b4 4 [.bool true] :: Bs)) (he : Ent As (E :: F)) (hv : ev n f (.tmp 4) = .pointer (some ⟨b4, 0, none⟩)) (fn : Func) (hr : fn.results = #[.cell 4 4]) (hd : n.ds = []) :
    PW (Fin Try.prog fn w0 F (fun v As => v = .bool true ∧ As = [E])) .ret n f w0 As := Fin.retC1 (b := b4) (v := .bool true) hr hp T.ag4 rfl hv [E] ⟨rfl, rfl⟩ he hd

set_option maxHeartbeats 2000000 in
theorem IndexTurns_law (W : World) (v : Value) (l : List Nat) (hv : NumsR (bag (blks W)) v l) (t0 : Int) (ht0 : -9223372036854775808 ≤ t0 ∧ t0 < 9223372036854775808) :
    LawOf Try.prog 3 [v, .int .i64 t0] W := by
  have hM := M128_eq
  obtain ⟨hr, hm⟩ := hv
  obtain ⟨pv, cap, rfl, hcap1, hcap2, hpv⟩ := hr.len
  rw [show (List.map nc l).length = l.length from List.length_map ..] at *
  have hcm := hcap2
  unfold maxLen at hcm
  refine FSpec.intro Try.func3 rfl 119 Try.ntmps3 (Nat.le_of_ble_eq_true rfl) fun w0 F => ?_
  show CW _ _ _ _ _ _ (_ :: F)
  generalize bag (blks W) = E at hr ⊢
  repeat (first | refine CW.seq ?_ | refine PW.then_ ?_ | refine PW.then_to rfl ?_ | refine CW.block ?_ | refine CW.skip ?_ | refine CW.ret ?_ | refine PW.then_ret ?_ | refine PW.block_ret ?_ | refine Cut.ret ?_ | refine Rnd.ret ?_ | refine PW.block_normal ?_ | refine CW.exit ?_ | refine PW.then_exit ?_ | refine PW.block_hit ?_ | refine PW.block_miss rfl ?_ | refine Cut.exit ?_ | refine Rnd.exit ?_)
  refine CW.region ?_
  refine LE (os_alloc T.ti4) ?_
  rintro _ _ ⟨b4, rfl, rfl⟩
  refine LW.nil ?_
  repeat (first | refine CW.seq ?_ | refine PW.then_ ?_ | refine PW.then_to rfl ?_ | refine CW.block ?_ | refine CW.skip ?_ | refine CW.ret ?_ | refine PW.then_ret ?_ | refine PW.block_ret ?_ | refine Cut.ret ?_ | refine Rnd.ret ?_ | refine PW.block_normal ?_ | refine CW.exit ?_ | refine PW.then_exit ?_ | refine PW.block_hit ?_ | refine PW.block_miss rfl ?_ | refine Cut.exit ?_ | refine Rnd.exit ?_)
  refine CW.region ?_
  refine L1 (os_call0 fit_spec Try.func7 (by decide +kernel) rfl rfl) ?_
  refine L1 (ps_not rfl).os ?_
  refine LW.nil ?_
  repeat (first | refine CW.seq ?_ | refine PW.then_ ?_ | refine PW.then_to rfl ?_ | refine CW.block ?_ | refine CW.skip ?_ | refine CW.ret ?_ | refine PW.then_ret ?_ | refine PW.block_ret ?_ | refine Cut.ret ?_ | refine Rnd.ret ?_ | refine PW.block_normal ?_ | refine CW.exit ?_ | refine PW.then_exit ?_ | refine PW.block_hit ?_ | refine PW.block_miss rfl ?_ | refine Cut.exit ?_ | refine Rnd.exit ?_)
  refine CW.cond_false rfl ?_
  repeat (first | refine CW.seq ?_ | refine PW.then_ ?_ | refine PW.then_to rfl ?_ | refine CW.block ?_ | refine CW.skip ?_ | refine CW.ret ?_ | refine PW.then_ret ?_ | refine PW.block_ret ?_ | refine Cut.ret ?_ | refine Rnd.ret ?_ | refine PW.block_normal ?_ | refine CW.exit ?_ | refine PW.then_exit ?_ | refine PW.block_hit ?_ | refine PW.block_miss rfl ?_ | refine Cut.exit ?_ | refine Rnd.exit ?_)
  by_cases h0 : (l.length : Int) = 0
  · refine CW.region ?_
    refine L1 (ps_move rfl).os ?_
    refine L1 (ps_len_sl T.un22 rfl).os ?_
    refine L1 (ps_t (ps_eql rfl rfl) (h0)).os ?_
    refine L1 (ps_move rfl).os ?_
    refine LG0f ?_ ?_
    · exact rfl
    refine LG0f ?_ ?_
    · exact rfl
    refine LG0f ?_ ?_
    · exact rfl
    refine L1 (ps_pick_t rfl rfl).os ?_
    refine LW.nil ?_
    repeat (first | refine CW.seq ?_ | refine PW.then_ ?_ | refine PW.then_to rfl ?_ | refine CW.block ?_ | refine CW.skip ?_ | refine CW.ret ?_ | refine PW.then_ret ?_ | refine PW.block_ret ?_ | refine Cut.ret ?_ | refine Rnd.ret ?_ | refine PW.block_normal ?_ | refine CW.exit ?_ | refine PW.then_exit ?_ | refine PW.block_hit ?_ | refine PW.block_miss rfl ?_ | refine Cut.exit ?_ | refine Rnd.exit ?_)
    refine CW.cond_true rfl ?_
    repeat (first | refine CW.seq ?_ | refine PW.then_ ?_ | refine PW.then_to rfl ?_ | refine CW.block ?_ | refine CW.skip ?_ | refine CW.ret ?_ | refine PW.then_ret ?_ | refine PW.block_ret ?_ | refine Cut.ret ?_ | refine Rnd.ret ?_ | refine PW.block_normal ?_ | refine CW.exit ?_ | refine PW.then_exit ?_ | refine PW.block_hit ?_ | refine PW.block_miss rfl ?_ | refine Cut.exit ?_ | refine Rnd.exit ?_)
    refine CW.region ?_
    refine L1 (os_store1 (b := b4) (by repeat (first | exact pk_head _ _ | apply pk_tail)) T.sz4 rfl rfl (by rfl) (Nat.le_of_ble_eq_true rfl)) ?_
    refine LW.nil ?_
    repeat (first | refine CW.seq ?_ | refine PW.then_ ?_ | refine PW.then_to rfl ?_ | refine CW.block ?_ | refine CW.skip ?_ | refine CW.ret ?_ | refine PW.then_ret ?_ | refine PW.block_ret ?_ | refine Cut.ret ?_ | refine Rnd.ret ?_ | refine PW.block_normal ?_ | refine CW.exit ?_ | refine PW.then_exit ?_ | refine PW.block_hit ?_ | refine PW.block_miss rfl ?_ | refine Cut.exit ?_ | refine Rnd.exit ?_)
    exact Fin.retC1 (b := b4) (v := .bool true) rfl (by repeat (first | exact pk_head _ _ | apply pk_tail)) T.ag4 rfl rfl [E] ⟨rfl, rfl⟩ (by repeat (first | exact Ent.refl _ | (apply Ent.cons; · repeat (first | exact pk_head _ _ | apply pk_tail)) | apply Ent.skip))
  by_cases h3 : (300 : Int) < (l.length : Int)
  · refine CW.region ?_
    refine L1 (ps_move rfl).os ?_
    refine L1 (ps_len_sl T.un22 rfl).os ?_
    refine L1 (ps_f (ps_eql rfl rfl) (h0)).os ?_
    refine L1 (ps_move rfl).os ?_
    refine LG1 ?_ (ps_move rfl).os ?_
    · exact rfl
    refine LG1 ?_ (ps_len_sl T.un22 rfl).os ?_
    · exact rfl
    refine LG1 ?_ (ps_t (ps_gtr rfl rfl) (h3)).os ?_
    · exact rfl
    refine L1 (ps_pick_f rfl rfl).os ?_
    refine LW.nil ?_
    repeat (first | refine CW.seq ?_ | refine PW.then_ ?_ | refine PW.then_to rfl ?_ | refine CW.block ?_ | refine CW.skip ?_ | refine CW.ret ?_ | refine PW.then_ret ?_ | refine PW.block_ret ?_ | refine Cut.ret ?_ | refine Rnd.ret ?_ | refine PW.block_normal ?_ | refine CW.exit ?_ | refine PW.then_exit ?_ | refine PW.block_hit ?_ | refine PW.block_miss rfl ?_ | refine Cut.exit ?_ | refine Rnd.exit ?_)
    refine CW.cond_true rfl ?_
    repeat (first | refine CW.seq ?_ | refine PW.then_ ?_ | refine PW.then_to rfl ?_ | refine CW.block ?_ | refine CW.skip ?_ | refine CW.ret ?_ | refine PW.then_ret ?_ | refine PW.block_ret ?_ | refine Cut.ret ?_ | refine Rnd.ret ?_ | refine PW.block_normal ?_ | refine CW.exit ?_ | refine PW.then_exit ?_ | refine PW.block_hit ?_ | refine PW.block_miss rfl ?_ | refine Cut.exit ?_ | refine Rnd.exit ?_)
    refine CW.region ?_
    refine L1 (os_store1 (b := b4) (by repeat (first | exact pk_head _ _ | apply pk_tail)) T.sz4 rfl rfl (by rfl) (Nat.le_of_ble_eq_true rfl)) ?_
    refine LW.nil ?_
    repeat (first | refine CW.seq ?_ | refine PW.then_ ?_ | refine PW.then_to rfl ?_ | refine CW.block ?_ | refine CW.skip ?_ | refine CW.ret ?_ | refine PW.then_ret ?_ | refine PW.block_ret ?_ | refine Cut.ret ?_ | refine Rnd.ret ?_ | refine PW.block_normal ?_ | refine CW.exit ?_ | refine PW.then_exit ?_ | refine PW.block_hit ?_ | refine PW.block_miss rfl ?_ | refine Cut.exit ?_ | refine Rnd.exit ?_)
    exact Fin.retC1 (b := b4) (v := .bool true) rfl (by repeat (first | exact pk_head _ _ | apply pk_tail)) T.ag4 rfl rfl [E] ⟨rfl, rfl⟩ (by repeat (first | exact Ent.refl _ | (apply Ent.cons; · repeat (first | exact pk_head _ _ | apply pk_tail)) | apply Ent.skip))
  refine CW.region ?_
  refine L1 (ps_move rfl).os ?_
  refine L1 (ps_len_sl T.un22 rfl).os ?_
  refine L1 (ps_f (ps_eql rfl rfl) (h0)).os ?_
  refine L1 (ps_move rfl).os ?_
  refine LG1 ?_ (ps_move rfl).os ?_
  · exact rfl
  refine LG1 ?_ (ps_len_sl T.un22 rfl).os ?_
  · exact rfl
  refine LG1 ?_ (ps_f (ps_gtr rfl rfl) (h3)).os ?_
  · exact rfl
  refine L1 (ps_pick_f rfl rfl).os ?_
  refine LW.nil ?_
  repeat (first | refine CW.seq ?_ | refine PW.then_ ?_ | refine PW.then_to rfl ?_ | refine CW.block ?_ | refine CW.skip ?_ | refine CW.ret ?_ | refine PW.then_ret ?_ | refine PW.block_ret ?_ | refine Cut.ret ?_ | refine Rnd.ret ?_ | refine PW.block_normal ?_ | refine CW.exit ?_ | refine PW.then_exit ?_ | refine PW.block_hit ?_ | refine PW.block_miss rfl ?_ | refine Cut.exit ?_ | refine Rnd.exit ?_)
  refine CW.cond_false rfl ?_
  repeat (first | refine CW.seq ?_ | refine PW.then_ ?_ | refine PW.then_to rfl ?_ | refine CW.block ?_ | refine CW.skip ?_ | refine CW.ret ?_ | refine PW.then_ret ?_ | refine PW.block_ret ?_ | refine Cut.ret ?_ | refine Rnd.ret ?_ | refine PW.block_normal ?_ | refine CW.exit ?_ | refine PW.then_exit ?_ | refine PW.block_hit ?_ | refine PW.block_miss rfl ?_ | refine Cut.exit ?_ | refine Rnd.exit ?_)
  have hb1 : t0.tmod (l.length : Int) < (l.length : Int) := Int.tmod_lt_of_pos _ (by omega)
  have hb2 : -(l.length : Int) < t0.tmod (l.length : Int) := Int.lt_tmod_of_pos _ (by omega)
  obtain ⟨tt, hT⟩ := Int.eq_ofNat_of_zero_le (show 0 ≤ (t0.tmod (l.length : Int) + (l.length : Int)) % (l.length : Int) from Int.emod_nonneg _ h0)
  have hTl : tt < l.length := by
    have : (t0.tmod (l.length : Int) + (l.length : Int)) % (l.length : Int) < (l.length : Int) := Int.emod_lt_of_pos _ (by omega)
    omega
  have hXY : fill [] (l.map fun k => (k, vOf k)) = fill [] (((List.range l.length).map (fun j => l.getD ((j + tt) % l.length) 0)).map fun k => (k, vOf k)) := by
    refine srt_ext (fill_good Good.nil ?_).srt (fill_good Good.nil ?_).srt fun q => ?_
    · rintro e he; obtain ⟨k, hk, rfl⟩ := List.mem_map.1 he; exact hm k hk
    · rintro e he; obtain ⟨k, hk, rfl⟩ := List.mem_map.1 he; exact hm k ((rot_mem hTl k).1 hk)
    · rw [lkp_fill, lkp_fill]
      by_cases hq : q ∈ l
      · rw [if_pos hq, if_pos ((rot_mem hTl q).2 hq)]
      · rw [if_neg hq, if_neg (fun h => hq ((rot_mem hTl q).1 h))]
  have hrm : ∀ k ∈ (List.range l.length).map (fun j => l.getD ((j + tt) % l.length) 0), k < M128 := fun k hk => hm k ((rot_mem hTl k).1 hk)
  have hrl : ((List.range l.length).map (fun j => l.getD ((j + tt) % l.length) 0)).length = l.length := by simp
  have hrg : ∀ j (hj : j < l.length), ((List.range l.length).map (fun j => l.getD ((j + tt) % l.length) 0))[j]'(by rw [hrl]; exact hj) = l.getD ((j + tt) % l.length) 0 := fun j hj => by simp
  generalize hR : (List.range l.length).map (fun j => l.getD ((j + tt) % l.length) 0) = R at *
  have gX : Good (fill [] (l.map fun k => (k, vOf k))) := fill_good Good.nil fun e he => by obtain ⟨k, hk, rfl⟩ := List.mem_map.1 he; exact hm k hk
  have hXl : (fill [] (l.map fun k => (k, vOf k))).length ≤ 300 := by
    have := fill_len (c := l.map fun k => (k, vOf k)) Good.nil fun e he => by obtain ⟨k, hk, rfl⟩ := List.mem_map.1 he; exact hm k hk
    rw [List.length_map] at this; simp only [List.length_nil] at this; omega
  have hXv : ∀ e ∈ fill [] (l.map fun k => (k, vOf k)), e.2 = vOf e.1 := fun e he => by
    have h1 := lkp_of_mem gX.srt (k := e.1) (v := e.2) he
    rw [lkp_fill] at h1
    split at h1
    · exact (Option.some.inj h1).symm
    · cases h1
  have putG : ∀ (x : Nat) (c : List Nat) (hc : ∀ k ∈ c, k < M128) (i : Nat) (hi : i < c.length), c.length ≤ 300 → FSpec Try.prog 8 [ptr x, .agg (nc c[i]).toArray, .int .i64 (vOf c[i])] [Ix x (fill [] ((c.map fun k => (k, vOf k)).take i))]
      (fun v As => v = .tuple #[] ∧ As = [Ix x (fill [] ((c.map fun k => (k, vOf k)).take (i + 1)))]) := fun x c hc i hi hl => by
    have hcm' : ∀ e ∈ (c.map fun k => (k, vOf k)).take i, e.1 < M128 := fun e he => by obtain ⟨k, hk, rfl⟩ := List.mem_map.1 (List.mem_of_mem_take he); exact hc k hk
    have := Put_good (x := x) (key := c[i]) (val := vOf c[i]) (hc _ (List.getElem_mem hi)) (fill_good Good.nil hcm') (by
      have := fill_len Good.nil hcm'
      rw [List.length_take, List.length_map] at this; simp only [List.length_nil] at this; omega)
    rw [fill_succ _ _ _ (by rw [List.length_map]; exact hi), List.getElem_map]
    exact this
  refine CW.region ?_
  refine L1 (ps_move rfl).os ?_
  refine L1 (ps_move rfl).os ?_
  refine L1 (ps_len_sl T.un22 rfl).os ?_
  refine L1 (ps_rem rfl rfl (by omega)).os ?_
  refine L1 (ps_move rfl).os ?_
  refine L1 (ps_len_sl T.un22 rfl).os ?_
  refine L1 (ps_add_i64 rfl rfl (by omega) (by omega)).os ?_
  refine L1 (ps_move rfl).os ?_
  refine L1 (ps_len_sl T.un22 rfl).os ?_
  refine L1 (ps_to (u := .int .i64 (tt : Nat)) (by rw [← hT]) (ps_rem_pos rfl rfl (by omega) (by omega))).os ?_
  refine L1 (ps_assign rfl).os ?_
  refine LW.nil ?_
  repeat (first | refine CW.seq ?_ | refine PW.then_ ?_ | refine PW.then_to rfl ?_ | refine CW.block ?_ | refine CW.skip ?_ | refine CW.ret ?_ | refine PW.then_ret ?_ | refine PW.block_ret ?_ | refine Cut.ret ?_ | refine Rnd.ret ?_ | refine PW.block_normal ?_ | refine CW.exit ?_ | refine PW.then_exit ?_ | refine PW.block_hit ?_ | refine PW.block_miss rfl ?_ | refine Cut.exit ?_ | refine Rnd.exit ?_)
  refine CW.region ?_
  refine LE (os_alloc T.ti26) ?_
  rintro _ _ ⟨x, rfl, rfl⟩
  refine LE (os_alloc T.ti26) ?_
  rintro _ _ ⟨y, rfl, rfl⟩
  refine LW.nil ?_
  refine J.ent (Ix_new y _) ?_
  refine J.ent ((Ent.perm (Bs := cb x 26 [.pointer none, .int .i64 0] :: _) (by repeat (first | exact pk_head _ _ | apply pk_tail))).trans (Ix_new x _)) ?_
  repeat (first | refine CW.seq ?_ | refine PW.then_ ?_ | refine PW.then_to rfl ?_ | refine CW.block ?_ | refine CW.skip ?_ | refine CW.ret ?_ | refine PW.then_ret ?_ | refine PW.block_ret ?_ | refine Cut.ret ?_ | refine Rnd.ret ?_ | refine PW.block_normal ?_ | refine CW.exit ?_ | refine PW.then_exit ?_ | refine PW.block_hit ?_ | refine PW.block_miss rfl ?_ | refine Cut.exit ?_ | refine Rnd.exit ?_)
  refine CW.region ?_
  refine L1 (ps_move rfl).os ?_
  refine L1 (ps_len_sl T.un22 rfl).os ?_
  refine L1 (ps_move rfl).os ?_
  refine LW.nil ?_
  repeat (first | refine CW.seq ?_ | refine PW.then_ ?_ | refine PW.then_to rfl ?_ | refine CW.block ?_ | refine CW.skip ?_ | refine CW.ret ?_ | refine PW.then_ret ?_ | refine PW.block_ret ?_ | refine Cut.ret ?_ | refine Rnd.ret ?_ | refine PW.block_normal ?_ | refine CW.exit ?_ | refine PW.then_exit ?_ | refine PW.block_hit ?_ | refine PW.block_miss rfl ?_ | refine Cut.exit ?_ | refine Rnd.exit ?_)
  clear hR
  generalize hn : l.length = n at *
  have hne : l ≠ [] := fun h => by subst h; simp at hn; omega
  obtain ⟨vb, vo, rfl⟩ := hpv (fun h => hne (by simpa using h))
  refine CW.loopM (α := Nat) [7, 8, 9, 38, 39, 40, 41, 42, 43, 44, 45, 46, 47, 48, 49, 50, 51, 52, 53, 54, 55, 56, 57, 58, 59, 60, 61, 62, 63, 64] (fun k i => i ≤ n ∧ k = n - i) (fun i => [(38, .int .i64 (i : Nat))])
    (fun i => Ix x (fill [] ((l.map fun k => (k, vOf k)).take i)) :: Ix y (fill [] ((R.map fun k => (k, vOf k)).take i)) :: cb b4 4 [.bool false] :: E :: F) n 0 ⟨Nat.zero_le _, rfl⟩ ⟨rfl, trivial⟩ (by repeat (first | exact Ent.refl _ | (apply Ent.cons; · repeat (first | exact pk_head _ _ | apply pk_tail)) | apply Ent.skip)) ?_
  rintro k i g ⟨hi, hk⟩
  repeat (first | refine CW.seq ?_ | refine PW.then_ ?_ | refine PW.then_to rfl ?_ | refine CW.block ?_ | refine CW.skip ?_ | refine CW.ret ?_ | refine PW.then_ret ?_ | refine PW.block_ret ?_ | refine Cut.ret ?_ | refine Rnd.ret ?_ | refine PW.block_normal ?_ | refine CW.exit ?_ | refine PW.then_exit ?_ | refine PW.block_hit ?_ | refine PW.block_miss rfl ?_ | refine Cut.exit ?_ | refine Rnd.exit ?_)
  by_cases hlt : i < n
  · have hlt1 : i < l.length := by omega
    have hlt2 : i < R.length := by omega
    have p1 := putG x l hm i hlt1 (by omega)
    have p2 := putG y R hrm i hlt2 (by omega)
    have hz : (i + tt) % n < n := Nat.mod_lt _ (by omega)
    have hzl : (i + tt) % n < l.length := by omega
    have hRi : R[i] = l[(i + tt) % n] := by rw [hrg i hlt, List.getD_eq_getElem?_getD, List.getElem?_eq_getElem hzl]; rfl
    have hrot : ((i : Int) + (tt : Int)) % (n : Int) = (((i + tt) % n : Nat) : Int) := by rw [Int.natCast_emod, Int.natCast_add]
    rw [hRi] at p2
    have hs1 := fun As Bs (hp : List.Perm As (E :: Bs)) => hr.src (i := i) (by rw [List.length_map]; exact hlt1) hp
    have hs2 := fun As Bs (hp : List.Perm As (E :: Bs)) => hr.src (i := (i + tt) % n) (by rw [List.length_map]; exact hzl) hp
    simp only [List.getElem_map] at hs1 hs2
    have w1 := vOf_wrap l[i]
    have w2 := vOf_wrap l[(i + tt) % n]
    have m1 := vOf_mask l[i]
    have m2 := vOf_mask l[(i + tt) % n]
    have n1 := nc_lo l[i]
    have n2 := nc_lo l[(i + tt) % n]
    have o1 := ((l[i] % 18446744073709551616 : Nat) : Int)
    generalize vOf l[i] = v1 at *
    generalize vOf l[(i + tt) % n] = v2 at *
    generalize l[i] % 18446744073709551616 = lo1 at *
    generalize l[(i + tt) % n] % 18446744073709551616 = lo2 at *
    generalize l[i] = k1 at *
    generalize l[(i + tt) % n] = k2 at *
    generalize (i + tt) % n = z at *
    refine CW.region ?_
    refine L1 (ps_t (ps_lss rfl rfl) (by omega)).os ?_
    refine LW.nil ?_
    repeat (first | refine CW.seq ?_ | refine PW.then_ ?_ | refine PW.then_to rfl ?_ | refine CW.block ?_ | refine CW.skip ?_ | refine CW.ret ?_ | refine PW.then_ret ?_ | refine PW.block_ret ?_ | refine Cut.ret ?_ | refine Rnd.ret ?_ | refine PW.block_normal ?_ | refine CW.exit ?_ | refine PW.then_exit ?_ | refine PW.block_hit ?_ | refine PW.block_miss rfl ?_ | refine Cut.exit ?_ | refine Rnd.exit ?_)
    refine CW.cond_true rfl ?_
    repeat (first | refine CW.seq ?_ | refine PW.then_ ?_ | refine PW.then_to rfl ?_ | refine CW.block ?_ | refine CW.skip ?_ | refine CW.ret ?_ | refine PW.then_ret ?_ | refine PW.block_ret ?_ | refine Cut.ret ?_ | refine Rnd.ret ?_ | refine PW.block_normal ?_ | refine CW.exit ?_ | refine PW.then_exit ?_ | refine PW.block_hit ?_ | refine PW.block_miss rfl ?_ | refine Cut.exit ?_ | refine Rnd.exit ?_)
    refine CW.region ?_
    refine L1 (ps_move rfl).os ?_
    refine L1 (ps_ia_slice T.un22 T.sz29 rfl rfl (by omega) (by omega)).os ?_
    refine L1 (os_loadS (vs := nc k1) (hs1 _ _ (by repeat (first | exact pk_head _ _ | apply pk_tail))) (by simp [nc]) T.ag29 (by exact T.sz29) rfl) ?_
    refine LE (os_alloc T.ti29) ?_
    rintro _ _ ⟨b8, rfl, rfl⟩
    refine L1 (ps_assign rfl).os ?_
    refine L1 (os_storeAll (b := b8) (vs := nc k1) (by repeat (first | exact pk_head _ _ | apply pk_tail)) (by exact T.sz29) rfl rfl (nc_one _) (by rfl)) ?_
    refine LW.nil ?_
    repeat (first | refine CW.seq ?_ | refine PW.then_ ?_ | refine PW.then_to rfl ?_ | refine CW.block ?_ | refine CW.skip ?_ | refine CW.ret ?_ | refine PW.then_ret ?_ | refine PW.block_ret ?_ | refine Cut.ret ?_ | refine Rnd.ret ?_ | refine PW.block_normal ?_ | refine CW.exit ?_ | refine PW.then_exit ?_ | refine PW.block_hit ?_ | refine PW.block_miss rfl ?_ | refine Cut.exit ?_ | refine Rnd.exit ?_)
    refine CW.region ?_
    refine L1 (os_loadAll (b := b8) (cs := nc k1) (by repeat (first | exact pk_head _ _ | apply pk_tail)) T.ag29 (by exact T.sz29) rfl) ?_
    refine L1 (ps_fa T.fa29_1 (by decide) rfl).os ?_
    refine L1 (os_load1 (b := b8) (v := .int .u64 (lo1 : Nat)) (by repeat (first | exact pk_head _ _ | apply pk_tail)) T.ag27 rfl n1) ?_
    refine L1 (ps_to (congrArg (Value.int .u64) m1) (ps_mask_u64 (m := 16) rfl rfl rfl (by decide))).os ?_
    refine L1 (ps_to (congrArg (Value.int .i64) w1) (ps_conv (by rw [T.un27]; rfl) T.un3 rfl)).os ?_
    refine L1 (os_call1 p1 Try.func8 (by decide +kernel) rfl rfl (by repeat (first | exact pk_head _ _ | apply pk_tail))) ?_
    refine LW.nil ?_
    repeat (first | refine CW.seq ?_ | refine PW.then_ ?_ | refine PW.then_to rfl ?_ | refine CW.block ?_ | refine CW.skip ?_ | refine CW.ret ?_ | refine PW.then_ret ?_ | refine PW.block_ret ?_ | refine Cut.ret ?_ | refine Rnd.ret ?_ | refine PW.block_normal ?_ | refine CW.exit ?_ | refine PW.then_exit ?_ | refine PW.block_hit ?_ | refine PW.block_miss rfl ?_ | refine Cut.exit ?_ | refine Rnd.exit ?_)
    refine CW.region ?_
    refine L1 (ps_move rfl).os ?_
    refine L1 (ps_move rfl).os ?_
    refine L1 (ps_move rfl).os ?_
    refine L1 (ps_add_i64 rfl rfl (by omega) (by omega)).os ?_
    refine L1 (ps_move rfl).os ?_
    refine L1 (ps_len_sl T.un22 rfl).os ?_
    refine L1 (ps_to (congrArg (Value.int .i64) hrot) (ps_rem_pos rfl rfl (by omega) (by omega))).os ?_
    refine L1 (ps_ia_slice T.un22 T.sz29 rfl rfl (by omega) (by omega)).os ?_
    refine L1 (os_loadS (vs := nc k2) (hs2 _ _ (by repeat (first | exact pk_head _ _ | apply pk_tail))) (by simp [nc]) T.ag29 (by exact T.sz29) rfl) ?_
    refine LE (os_alloc T.ti29) ?_
    rintro _ _ ⟨b9, rfl, rfl⟩
    refine L1 (os_storeAll (b := b9) (vs := nc k2) (by repeat (first | exact pk_head _ _ | apply pk_tail)) (by exact T.sz29) rfl rfl (nc_one _) (by rfl)) ?_
    refine LW.nil ?_
    repeat (first | refine CW.seq ?_ | refine PW.then_ ?_ | refine PW.then_to rfl ?_ | refine CW.block ?_ | refine CW.skip ?_ | refine CW.ret ?_ | refine PW.then_ret ?_ | refine PW.block_ret ?_ | refine Cut.ret ?_ | refine Rnd.ret ?_ | refine PW.block_normal ?_ | refine CW.exit ?_ | refine PW.then_exit ?_ | refine PW.block_hit ?_ | refine PW.block_miss rfl ?_ | refine Cut.exit ?_ | refine Rnd.exit ?_)
    refine CW.region ?_
    refine L1 (os_loadAll (b := b9) (cs := nc k2) (by repeat (first | exact pk_head _ _ | apply pk_tail)) T.ag29 (by exact T.sz29) rfl) ?_
    refine L1 (ps_fa T.fa29_1 (by decide) rfl).os ?_
    refine L1 (os_load1 (b := b9) (v := .int .u64 (lo2 : Nat)) (by repeat (first | exact pk_head _ _ | apply pk_tail)) T.ag27 rfl n2) ?_
    refine L1 (ps_to (congrArg (Value.int .u64) m2) (ps_mask_u64 (m := 16) rfl rfl rfl (by decide))).os ?_
    refine L1 (ps_to (congrArg (Value.int .i64) w2) (ps_conv (by rw [T.un27]; rfl) T.un3 rfl)).os ?_
    refine L1 (os_call1 p2 Try.func8 (by decide +kernel) rfl rfl (by repeat (first | exact pk_head _ _ | apply pk_tail))) ?_
    refine LW.nil ?_
    repeat (first | refine CW.seq ?_ | refine PW.then_ ?_ | refine PW.then_to rfl ?_ | refine CW.block ?_ | refine CW.skip ?_ | refine CW.ret ?_ | refine PW.then_ret ?_ | refine PW.block_ret ?_ | refine Cut.ret ?_ | refine Rnd.ret ?_ | refine PW.block_normal ?_ | refine CW.exit ?_ | refine PW.then_exit ?_ | refine PW.block_hit ?_ | refine PW.block_miss rfl ?_ | refine Cut.exit ?_ | refine Rnd.exit ?_)
    refine CW.region ?_
    refine L1 (ps_to (u := .int .i64 ((i + 1 : Nat) : Int)) (by rfl) (ps_add_i64 rfl rfl (by omega) (by omega))).os ?_
    refine L1 (ps_move rfl).os ?_
    refine LW.nil ?_
    exact Meet.round (n - (i + 1)) (i + 1) (by omega) ⟨hlt, rfl⟩ (by repeat (first | (with_reducible exact Ag.refl _ _) | (with_reducible apply Ag.pu0) | ((with_reducible refine Ag.pu _ ?_ ?_); · exact rfl) | ((with_reducible refine Ag.mix ?_ ?_); · exact rfl) | ((with_reducible refine Ag.pus ?_ ?_); · exact rfl))) ⟨rfl, trivial⟩ (by repeat (first | exact Ent.refl _ | (apply Ent.cons; · repeat (first | exact pk_head _ _ | apply pk_tail)) | apply Ent.skip))
  have hin : i = n := by omega
  subst hin
  rw [List.take_of_length_le (l := l.map fun k => (k, vOf k)) (by rw [List.length_map, hn]; exact Nat.le_refl _), List.take_of_length_le (l := R.map fun k => (k, vOf k)) (by rw [List.length_map, hrl]; exact Nat.le_refl _), ← hXY]
  generalize fill [] (l.map fun k => (k, vOf k)) = Z at gX hXl hXv ⊢
  refine CW.region ?_
  refine L1 (ps_f (ps_lss rfl rfl) (by omega)).os ?_
  refine LW.nil ?_
  repeat (first | refine CW.seq ?_ | refine PW.then_ ?_ | refine PW.then_to rfl ?_ | refine CW.block ?_ | refine CW.skip ?_ | refine CW.ret ?_ | refine PW.then_ret ?_ | refine PW.block_ret ?_ | refine Cut.ret ?_ | refine Rnd.ret ?_ | refine PW.block_normal ?_ | refine CW.exit ?_ | refine PW.then_exit ?_ | refine PW.block_hit ?_ | refine PW.block_miss rfl ?_ | refine Cut.exit ?_ | refine Rnd.exit ?_)
  refine CW.cond_false rfl ?_
  repeat (first | refine CW.seq ?_ | refine PW.then_ ?_ | refine PW.then_to rfl ?_ | refine CW.block ?_ | refine CW.skip ?_ | refine CW.ret ?_ | refine PW.then_ret ?_ | refine PW.block_ret ?_ | refine Cut.ret ?_ | refine Rnd.ret ?_ | refine PW.block_normal ?_ | refine CW.exit ?_ | refine PW.then_exit ?_ | refine PW.block_hit ?_ | refine PW.block_miss rfl ?_ | refine Cut.exit ?_ | refine Rnd.exit ?_)
  refine CW.region ?_
  refine LE (os_alloc T.ti22) ?_
  rintro _ _ ⟨b10, rfl, rfl⟩
  refine LE (os_alloc T.ti22) ?_
  rintro _ _ ⟨b11, rfl, rfl⟩
  refine LW.nil ?_
  refine J.ent ((Ent.slNil 29 2 _).trans (Ent.slNil 29 2 _)) ?_
  repeat (first | refine CW.seq ?_ | refine PW.then_ ?_ | refine PW.then_to rfl ?_ | refine CW.block ?_ | refine CW.skip ?_ | refine CW.ret ?_ | refine PW.then_ret ?_ | refine PW.block_ret ?_ | refine Cut.ret ?_ | refine Rnd.ret ?_ | refine PW.block_normal ?_ | refine CW.exit ?_ | refine PW.then_exit ?_ | refine PW.block_hit ?_ | refine PW.block_miss rfl ?_ | refine Cut.exit ?_ | refine Rnd.exit ?_)
  refine CW.region ?_
  refine L1 (ps_func (va := #[ptr x]) (vb := #[]) (by simp only [List.map_toArray, List.map_cons, List.map_nil]; rfl) (by simp)).os ?_
  refine LW.nil ?_
  repeat (first | refine CW.seq ?_ | refine PW.then_ ?_)
  refine CW.rangeBlock (bound := [ptr x]) (caps := []) (fun Cs => ∃ q d, Cs = Ix x Z :: cb b10 22 [.slice q Z.length d] :: KSl q Z.length d Z :: KSl none 0 0 [] :: cb b11 22 [.slice none 0 0] :: Ix y Z :: cb b4 4 [.bool false] :: E :: F) rfl Try.func9 (by decide +kernel) rfl ?_ ?_
  · intro fid D L rec hrec
    refine ((All_spec (total := Z) (Inv := fun pre S => ∃ q d, S = AllP [pt L (.loop (rec .ready none)), cb b10 22 [.slice q pre.length d], KSl q pre.length d pre]) (Stop := fun _ => False) ?_ x _ ⟨none, 0, rfl⟩).frame (pt D (.deferred (some [])) :: KSl none 0 0 [] :: cb b11 22 [.slice none 0 0] :: Ix y Z :: cb b4 4 [.bool false] :: E :: F)).mono ?_ ?_
    · rintro pre e post S hsp ⟨q, d, rfl⟩
      have hpl : pre.length ≤ 300 := by rw [← hsp, List.length_append] at hXl; omega
      have hev := hXv e (by rw [← hsp]; simp)
      have w1 := vOf_wrap e.1
      have m1 := vOf_mask e.1
      have n1 := nc_lo e.1
      have hk2 : kc (pre ++ [e]) = kc pre ++ nc e.1 := by rw [kc_append]; simp [kc]
      have hl2 : (pre ++ [e]).length = pre.length + 1 := by simp
      refine (YSpec.rnd2 (As := [cb b10 22 [.slice q pre.length d], slOwn 29 2 (.slice q pre.length d) pre.length (kc pre)]) (post := fun b Bs => b = true ∧ ∃ q' d', Bs = [pt L (.loop (rec .ready none)), cb b10 22 [.slice q' (pre.length + 1) d'], slOwn 29 2 (.slice q' (pre.length + 1) d') (pre.length + 1) (kc pre ++ nc e.1)]) hrec ?_).mono (unallI _) ?_
      · generalize kc pre = kp
        generalize e.1 % 18446744073709551616 = lo1 at *
        generalize vOf e.1 = v1 at *
        subst hev
        generalize pre.length = m at *
        generalize e.1 = k1 at *
        intro hLR w0 G
        show CW _ _ _ _ _ _ (_ :: _ :: _ :: G)
        repeat (first | refine CW.seq ?_ | refine PW.then_ ?_ | refine PW.then_to rfl ?_ | refine CW.block ?_ | refine CW.skip ?_ | refine CW.ret ?_ | refine PW.then_ret ?_ | refine PW.block_ret ?_ | refine Cut.ret ?_ | refine Rnd.ret ?_ | refine PW.block_normal ?_ | refine CW.exit ?_ | refine PW.then_exit ?_ | refine PW.block_hit ?_ | refine PW.block_miss rfl ?_ | refine Cut.exit ?_ | refine Rnd.exit ?_)
        refine CW.region ?_
        refine LE (os_alloc T.ti29) ?_
        rintro _ _ ⟨b12, rfl, rfl⟩
        refine L1 (os_storeAll (b := b12) (vs := nc k1) (by repeat (first | exact pk_head _ _ | apply pk_tail)) (by exact T.sz29) rfl rfl (nc_one _) (by rfl)) ?_
        refine LW.nil ?_
        repeat (first | refine CW.seq ?_ | refine PW.then_ ?_ | refine PW.then_to rfl ?_ | refine CW.block ?_ | refine CW.skip ?_ | refine CW.ret ?_ | refine PW.then_ret ?_ | refine PW.block_ret ?_ | refine Cut.ret ?_ | refine Rnd.ret ?_ | refine PW.block_normal ?_ | refine CW.exit ?_ | refine PW.then_exit ?_ | refine PW.block_hit ?_ | refine PW.block_miss rfl ?_ | refine Cut.exit ?_ | refine Rnd.exit ?_)
        refine CW.region ?_
        refine L1 (ps_assign rfl).os ?_
        refine LW.nil ?_
        refine RA.begin hLR (by repeat (first | exact pk_head _ _ | apply pk_tail)) ?_
        repeat (first | refine CW.seq ?_ | refine PW.then_ ?_ | refine PW.then_to rfl ?_ | refine CW.block ?_ | refine CW.skip ?_ | refine CW.ret ?_ | refine PW.then_ret ?_ | refine PW.block_ret ?_ | refine Cut.ret ?_ | refine Rnd.ret ?_ | refine PW.block_normal ?_ | refine CW.exit ?_ | refine PW.then_exit ?_ | refine PW.block_hit ?_ | refine PW.block_miss rfl ?_ | refine Cut.exit ?_ | refine Rnd.exit ?_)
        refine CW.region ?_
        refine L1 (ps_move rfl).os ?_
        refine L1 (ps_fa T.fa29_1 (by decide) rfl).os ?_
        refine L1 (os_load1 (b := b12) (v := .int .u64 (lo1 : Nat)) (by repeat (first | exact pk_head _ _ | apply pk_tail)) T.ag27 rfl n1) ?_
        refine L1 (ps_to (congrArg (Value.int .u64) m1) (ps_mask_u64 (m := 16) rfl rfl rfl (by decide))).os ?_
        refine L1 (ps_to (congrArg (Value.int .i64) w1) (ps_conv (by rw [T.un27]; rfl) T.un3 rfl)).os ?_
        refine L1 (ps_f (ps_neq rfl rfl) (fun h => h rfl)).os ?_
        refine LW.nil ?_
        repeat (first | refine CW.seq ?_ | refine PW.then_ ?_ | refine PW.then_to rfl ?_ | refine CW.block ?_ | refine CW.skip ?_ | refine CW.ret ?_ | refine PW.then_ret ?_ | refine PW.block_ret ?_ | refine Cut.ret ?_ | refine Rnd.ret ?_ | refine PW.block_normal ?_ | refine CW.exit ?_ | refine PW.then_exit ?_ | refine PW.block_hit ?_ | refine PW.block_miss rfl ?_ | refine Cut.exit ?_ | refine Rnd.exit ?_)
        refine CW.cond_false rfl ?_
        repeat (first | refine CW.seq ?_ | refine PW.then_ ?_ | refine PW.then_to rfl ?_ | refine CW.block ?_ | refine CW.skip ?_ | refine CW.ret ?_ | refine PW.then_ret ?_ | refine PW.block_ret ?_ | refine Cut.ret ?_ | refine Rnd.ret ?_ | refine PW.block_normal ?_ | refine CW.exit ?_ | refine PW.then_exit ?_ | refine PW.block_hit ?_ | refine PW.block_miss rfl ?_ | refine Cut.exit ?_ | refine Rnd.exit ?_)
        refine CW.region ?_
        refine L1 (os_load1 (b := b10) (v := .slice q m d) (by repeat (first | exact pk_head _ _ | apply pk_tail)) T.ag22 rfl rfl) ?_
        refine L1 (os_loadAll (b := b12) (cs := nc k1) (by repeat (first | exact pk_head _ _ | apply pk_tail)) T.ag29 (by exact T.sz29) rfl) ?_
        refine LE (os_bsl1 (vs := nc k1) T.un22 T.ti29 rfl rfl (by rfl) rfl (by decide) (by decide)) ?_
        rintro _ _ ⟨b76, rfl, rfl⟩
        refine LE (os_append (xs := kp) (news := nc k1) (by repeat (first | exact pk_head _ _ | apply pk_tail)) T.un22 T.ti29 (by rfl) (by decide) rfl rfl rfl (Src.cb (b := b76) (by repeat (first | exact pk_head _ _ | apply pk_tail)) rfl) (nc_one _) (by unfold maxLen; omega) (by omega)) ?_
        rintro _ _ ⟨q', d', rfl, rfl, hq'⟩
        refine L1 (os_store1 (b := b10) (by repeat (first | exact pk_head _ _ | apply pk_tail)) T.sz22 rfl rfl (by rfl) (by exact Nat.zero_lt_one)) ?_
        refine LW.nil ?_
        repeat (first | refine CW.seq ?_ | refine PW.then_ ?_ | refine PW.then_to rfl ?_ | refine CW.block ?_ | refine CW.skip ?_ | refine CW.ret ?_ | refine PW.then_ret ?_ | refine PW.block_ret ?_ | refine Cut.ret ?_ | refine Rnd.ret ?_ | refine PW.block_normal ?_ | refine CW.exit ?_ | refine PW.then_exit ?_ | refine PW.block_hit ?_ | refine PW.block_miss rfl ?_ | refine Cut.exit ?_ | refine Rnd.exit ?_)
        exact RQ.on hLR (by repeat (first | exact pk_head _ _ | apply pk_tail)) (by repeat (first | exact Ent.refl _ | (apply Ent.cons; · repeat (first | exact pk_head _ _ | apply pk_tail)) | apply Ent.skip)) ⟨rfl, q', d', rfl⟩
      · rintro b Bs ⟨rfl, q', d', rfl⟩
        exact ⟨_, ⟨_, Or.inl ⟨rfl, q', d', by rw [hl2]; unfold KSl; rw [hk2]⟩, rfl⟩, allI _⟩
    · exact Ent.trans (Bs := [pt L (.loop (rec .ready none)), cb b10 22 [.slice none 0 0], KSl none 0 0 []] ++ Ix x Z :: pt D (.deferred (some [])) :: KSl none 0 0 [] :: cb b11 22 [.slice none 0 0] :: Ix y Z :: cb b4 4 [.bool false] :: E :: F) (by repeat (first | exact Ent.refl _ | (apply Ent.cons; · repeat (first | exact pk_head _ _ | apply pk_tail)) | apply Ent.skip)) ((Ent.all _ _).trans (by repeat (first | exact Ent.refl _ | (apply Ent.cons; · repeat (first | exact pk_head _ _ | apply pk_tail)) | apply Ent.skip)))
    · rintro r As ⟨Cs, ⟨rfl, S', ⟨q, d, rfl⟩ | hS, rfl⟩, rfl⟩
      · refine ⟨_, ⟨none, .ready, _, (fun h => by cases h), Or.inl rfl, ⟨q, d, rfl⟩, rfl⟩, ?_⟩
        exact Ent.trans (Bs := AllP [pt L (.loop (rec .ready none)), cb b10 22 [.slice q Z.length d], KSl q Z.length d Z] :: Ix x Z :: pt D (.deferred (some [])) :: KSl none 0 0 [] :: cb b11 22 [.slice none 0 0] :: Ix y Z :: cb b4 4 [.bool false] :: E :: F) (by repeat (first | exact Ent.refl _ | (apply Ent.cons; · repeat (first | exact pk_head _ _ | apply pk_tail)) | apply Ent.skip)) ((Ent.unall _ _).trans (by repeat (first | exact Ent.refl _ | (apply Ent.cons; · repeat (first | exact pk_head _ _ | apply pk_tail)) | apply Ent.skip)))
      · exact absurd hS id
  rintro D _ ⟨qa, da, rfl⟩
  repeat (first | refine CW.seq ?_ | refine PW.then_ ?_ | refine PW.then_to rfl ?_ | refine CW.block ?_ | refine CW.skip ?_ | refine CW.ret ?_ | refine PW.then_ret ?_ | refine PW.block_ret ?_ | refine Cut.ret ?_ | refine Rnd.ret ?_ | refine PW.block_normal ?_ | refine CW.exit ?_ | refine PW.then_exit ?_ | refine PW.block_hit ?_ | refine PW.block_miss rfl ?_ | refine Cut.exit ?_ | refine Rnd.exit ?_)
  refine CW.region ?_
  refine L1 (ps_func (va := #[ptr y]) (vb := #[]) (by simp only [List.map_toArray, List.map_cons, List.map_nil]; rfl) (by simp)).os ?_
  refine LW.nil ?_
  repeat (first | refine CW.seq ?_ | refine PW.then_ ?_ | refine PW.then_to rfl ?_)
  refine CW.rangeBlock (bound := [ptr y]) (caps := []) (fun Cs => ∃ q d, Cs = Ix y Z :: cb b11 22 [.slice q Z.length d] :: KSl q Z.length d Z :: pt D (.deferred (some [])) :: Ix x Z :: cb b10 22 [.slice qa Z.length da] :: KSl qa Z.length da Z :: cb b4 4 [.bool false] :: E :: F) rfl Try.func9 (by decide +kernel) rfl ?_ ?_
  · intro fid D2 L rec hrec
    refine ((All_spec (total := Z) (Inv := fun pre S => ∃ q d, S = AllP [pt L (.loop (rec .ready none)), cb b11 22 [.slice q pre.length d], KSl q pre.length d pre]) (Stop := fun _ => False) ?_ y _ ⟨none, 0, rfl⟩).frame (pt D2 (.deferred (some [])) :: pt D (.deferred (some [])) :: Ix x Z :: cb b10 22 [.slice qa Z.length da] :: KSl qa Z.length da Z :: cb b4 4 [.bool false] :: E :: F)).mono ?_ ?_
    · rintro pre e post S hsp ⟨q, d, rfl⟩
      have hpl : pre.length ≤ 300 := by rw [← hsp, List.length_append] at hXl; omega
      have hk2 : kc (pre ++ [e]) = kc pre ++ nc e.1 := by rw [kc_append]; simp [kc]
      have hl2 : (pre ++ [e]).length = pre.length + 1 := by simp
      refine (YSpec.rnd2 (As := [cb b11 22 [.slice q pre.length d], slOwn 29 2 (.slice q pre.length d) pre.length (kc pre)]) (post := fun b Bs => b = true ∧ ∃ q' d', Bs = [pt L (.loop (rec .ready none)), cb b11 22 [.slice q' (pre.length + 1) d'], slOwn 29 2 (.slice q' (pre.length + 1) d') (pre.length + 1) (kc pre ++ nc e.1)]) hrec ?_).mono (unallI _) ?_
      · generalize kc pre = kp
        generalize pre.length = m at *
        generalize e.1 = k1 at *
        intro hLR w0 G
        show CW _ _ _ _ _ _ (_ :: _ :: _ :: G)
        repeat (first | refine CW.seq ?_ | refine PW.then_ ?_ | refine PW.then_to rfl ?_ | refine CW.block ?_ | refine CW.skip ?_ | refine CW.ret ?_ | refine PW.then_ret ?_ | refine PW.block_ret ?_ | refine Cut.ret ?_ | refine Rnd.ret ?_ | refine PW.block_normal ?_ | refine CW.exit ?_ | refine PW.then_exit ?_ | refine PW.block_hit ?_ | refine PW.block_miss rfl ?_ | refine Cut.exit ?_ | refine Rnd.exit ?_)
        refine CW.region ?_
        refine LE (os_alloc T.ti29) ?_
        rintro _ _ ⟨b14, rfl, rfl⟩
        refine L1 (os_storeAll (b := b14) (vs := nc k1) (by repeat (first | exact pk_head _ _ | apply pk_tail)) (by exact T.sz29) rfl rfl (nc_one _) (by rfl)) ?_
        refine LW.nil ?_
        refine RA.begin hLR (by repeat (first | exact pk_head _ _ | apply pk_tail)) ?_
        repeat (first | refine CW.seq ?_ | refine PW.then_ ?_ | refine PW.then_to rfl ?_ | refine CW.block ?_ | refine CW.skip ?_ | refine CW.ret ?_ | refine PW.then_ret ?_ | refine PW.block_ret ?_ | refine Cut.ret ?_ | refine Rnd.ret ?_ | refine PW.block_normal ?_ | refine CW.exit ?_ | refine PW.then_exit ?_ | refine PW.block_hit ?_ | refine PW.block_miss rfl ?_ | refine Cut.exit ?_ | refine Rnd.exit ?_)
        refine CW.region ?_
        refine L1 (os_load1 (b := b11) (v := .slice q m d) (by repeat (first | exact pk_head _ _ | apply pk_tail)) T.ag22 rfl rfl) ?_
        refine L1 (os_loadAll (b := b14) (cs := nc k1) (by repeat (first | exact pk_head _ _ | apply pk_tail)) T.ag29 (by exact T.sz29) rfl) ?_
        refine LE (os_bsl1 (vs := nc k1) T.un22 T.ti29 rfl rfl (by rfl) rfl (by decide) (by decide)) ?_
        rintro _ _ ⟨b76, rfl, rfl⟩
        refine LE (os_append (xs := kp) (news := nc k1) (by repeat (first | exact pk_head _ _ | apply pk_tail)) T.un22 T.ti29 (by rfl) (by decide) rfl rfl rfl (Src.cb (b := b76) (by repeat (first | exact pk_head _ _ | apply pk_tail)) rfl) (nc_one _) (by unfold maxLen; omega) (by omega)) ?_
        rintro _ _ ⟨q', d', rfl, rfl, hq'⟩
        refine L1 (os_store1 (b := b11) (by repeat (first | exact pk_head _ _ | apply pk_tail)) T.sz22 rfl rfl (by rfl) (by exact Nat.zero_lt_one)) ?_
        refine LW.nil ?_
        repeat (first | refine CW.seq ?_ | refine PW.then_ ?_ | refine PW.then_to rfl ?_ | refine CW.block ?_ | refine CW.skip ?_ | refine CW.ret ?_ | refine PW.then_ret ?_ | refine PW.block_ret ?_ | refine Cut.ret ?_ | refine Rnd.ret ?_ | refine PW.block_normal ?_ | refine CW.exit ?_ | refine PW.then_exit ?_ | refine PW.block_hit ?_ | refine PW.block_miss rfl ?_ | refine Cut.exit ?_ | refine Rnd.exit ?_)
        exact RQ.on hLR (by repeat (first | exact pk_head _ _ | apply pk_tail)) (by repeat (first | exact Ent.refl _ | (apply Ent.cons; · repeat (first | exact pk_head _ _ | apply pk_tail)) | apply Ent.skip)) ⟨rfl, q', d', rfl⟩
      · rintro b Bs ⟨rfl, q', d', rfl⟩
        exact ⟨_, ⟨_, Or.inl ⟨rfl, q', d', by rw [hl2]; unfold KSl; rw [hk2]⟩, rfl⟩, allI _⟩
    · exact Ent.trans (Bs := [pt L (.loop (rec .ready none)), cb b11 22 [.slice none 0 0], KSl none 0 0 []] ++ Ix y Z :: pt D2 (.deferred (some [])) :: pt D (.deferred (some [])) :: Ix x Z :: cb b10 22 [.slice qa Z.length da] :: KSl qa Z.length da Z :: cb b4 4 [.bool false] :: E :: F) (by repeat (first | exact Ent.refl _ | (apply Ent.cons; · repeat (first | exact pk_head _ _ | apply pk_tail)) | apply Ent.skip)) ((Ent.all _ _).trans (by repeat (first | exact Ent.refl _ | (apply Ent.cons; · repeat (first | exact pk_head _ _ | apply pk_tail)) | apply Ent.skip)))
    · rintro r As ⟨Cs, ⟨rfl, S', ⟨q, d, rfl⟩ | hS, rfl⟩, rfl⟩
      · refine ⟨_, ⟨none, .ready, _, (fun h => by cases h), Or.inl rfl, ⟨q, d, rfl⟩, rfl⟩, ?_⟩
        exact Ent.trans (Bs := AllP [pt L (.loop (rec .ready none)), cb b11 22 [.slice q Z.length d], KSl q Z.length d Z] :: Ix y Z :: pt D2 (.deferred (some [])) :: pt D (.deferred (some [])) :: Ix x Z :: cb b10 22 [.slice qa Z.length da] :: KSl qa Z.length da Z :: cb b4 4 [.bool false] :: E :: F) (by repeat (first | exact Ent.refl _ | (apply Ent.cons; · repeat (first | exact pk_head _ _ | apply pk_tail)) | apply Ent.skip)) ((Ent.unall _ _).trans (by repeat (first | exact Ent.refl _ | (apply Ent.cons; · repeat (first | exact pk_head _ _ | apply pk_tail)) | apply Ent.skip)))
      · exact absurd hS id
  rintro D2 _ ⟨qb, db, rfl⟩
  have hkz : ∀ i, i < Z.length → ∃ ki, ((kc Z).drop (i * 2)).take (nc ki).length = nc ki := fun i hi => ⟨_, kc_at (List.getElem?_eq_getElem (l := Z) hi)⟩
  generalize hz : Z.length = zn at *
  refine slOwn_info (m := zn) (q := qa) (d := da) (xs := kc Z) (by repeat (first | exact pk_head _ _ | apply pk_tail)) fun a1 a2 a3 => ?_
  refine slOwn_info (m := zn) (q := qb) (d := db) (xs := kc Z) (by repeat (first | exact pk_head _ _ | apply pk_tail)) fun c1 c2 c3 => ?_
  unfold maxLen at a2 c2
  repeat (first | refine CW.seq ?_ | refine PW.then_ ?_ | refine PW.then_to rfl ?_ | refine CW.block ?_ | refine CW.skip ?_ | refine CW.ret ?_ | refine PW.then_ret ?_ | refine PW.block_ret ?_ | refine Cut.ret ?_ | refine Rnd.ret ?_ | refine PW.block_normal ?_ | refine CW.exit ?_ | refine PW.then_exit ?_ | refine PW.block_hit ?_ | refine PW.block_miss rfl ?_ | refine Cut.exit ?_ | refine Rnd.exit ?_)
  refine CW.region ?_
  refine L1 (os_load1 (b := b10) (v := .slice qa zn da) (by repeat (first | exact pk_head _ _ | apply pk_tail)) T.ag22 rfl rfl) ?_
  refine L1 (ps_len_sl T.un22 rfl).os ?_
  refine L1 (os_load1 (b := b11) (v := .slice qb zn db) (by repeat (first | exact pk_head _ _ | apply pk_tail)) T.ag22 rfl rfl) ?_
  refine L1 (ps_len_sl T.un22 rfl).os ?_
  refine L1 (ps_to (u := .int .i64 (zn : Nat)) (by simp) (ps_min rfl rfl)).os ?_
  refine L1 (ps_move rfl).os ?_
  refine LW.nil ?_
  repeat (first | refine CW.seq ?_ | refine PW.then_ ?_ | refine PW.then_to rfl ?_ | refine CW.block ?_ | refine CW.skip ?_ | refine CW.ret ?_ | refine PW.then_ret ?_ | refine PW.block_ret ?_ | refine Cut.ret ?_ | refine Rnd.ret ?_ | refine PW.block_normal ?_ | refine CW.exit ?_ | refine PW.then_exit ?_ | refine PW.block_hit ?_ | refine PW.block_miss rfl ?_ | refine Cut.exit ?_ | refine Rnd.exit ?_)
  refine CW.loopM (α := Nat) [15, 90, 91, 92, 93, 94, 95, 96, 97, 98, 99, 100, 101, 102] (fun k i => i ≤ zn ∧ k = zn - i) (fun i => [(90, .int .i64 (i : Nat))])
    (fun i => KSl qb zn db Z :: KSl qa zn da Z :: cb b10 22 [.slice qa zn da] :: cb b11 22 [.slice qb zn db] :: Ix x Z :: Ix y Z :: pt D (.deferred (some [])) :: pt D2 (.deferred (some [])) :: cb b4 4 [.bool false] :: E :: F) zn 0 ⟨Nat.zero_le _, rfl⟩ ⟨rfl, trivial⟩ (by repeat (first | exact Ent.refl _ | (apply Ent.cons; · repeat (first | exact pk_head _ _ | apply pk_tail)) | apply Ent.skip)) ?_
  rintro k i g ⟨hi, hk⟩
  repeat (first | refine CW.seq ?_ | refine PW.then_ ?_ | refine PW.then_to rfl ?_ | refine CW.block ?_ | refine CW.skip ?_ | refine CW.ret ?_ | refine PW.then_ret ?_ | refine PW.block_ret ?_ | refine Cut.ret ?_ | refine Rnd.ret ?_ | refine PW.block_normal ?_ | refine CW.exit ?_ | refine PW.then_exit ?_ | refine PW.block_hit ?_ | refine PW.block_miss rfl ?_ | refine Cut.exit ?_ | refine Rnd.exit ?_)
  by_cases hlt : i < zn
  · obtain ⟨ga, rfl⟩ := a3 (by omega)
    obtain ⟨gb, rfl⟩ := c3 (by omega)
    obtain ⟨ki, hki⟩ := hkz i hlt
    refine CW.region ?_
    refine L1 (ps_t (ps_lss rfl rfl) (by omega)).os ?_
    refine LW.nil ?_
    repeat (first | refine CW.seq ?_ | refine PW.then_ ?_ | refine PW.then_to rfl ?_ | refine CW.block ?_ | refine CW.skip ?_ | refine CW.ret ?_ | refine PW.then_ret ?_ | refine PW.block_ret ?_ | refine Cut.ret ?_ | refine Rnd.ret ?_ | refine PW.block_normal ?_ | refine CW.exit ?_ | refine PW.then_exit ?_ | refine PW.block_hit ?_ | refine PW.block_miss rfl ?_ | refine Cut.exit ?_ | refine Rnd.exit ?_)
    refine CW.cond_true rfl ?_
    repeat (first | refine CW.seq ?_ | refine PW.then_ ?_ | refine PW.then_to rfl ?_ | refine CW.block ?_ | refine CW.skip ?_ | refine CW.ret ?_ | refine PW.then_ret ?_ | refine PW.block_ret ?_ | refine Cut.ret ?_ | refine Rnd.ret ?_ | refine PW.block_normal ?_ | refine CW.exit ?_ | refine PW.then_exit ?_ | refine PW.block_hit ?_ | refine PW.block_miss rfl ?_ | refine Cut.exit ?_ | refine Rnd.exit ?_)
    refine CW.region ?_
    refine L1 (ps_move rfl).os ?_
    refine L1 (ps_assign rfl).os ?_
    refine LW.nil ?_
    repeat (first | refine CW.seq ?_ | refine PW.then_ ?_ | refine PW.then_to rfl ?_ | refine CW.block ?_ | refine CW.skip ?_ | refine CW.ret ?_ | refine PW.then_ret ?_ | refine PW.block_ret ?_ | refine Cut.ret ?_ | refine Rnd.ret ?_ | refine PW.block_normal ?_ | refine CW.exit ?_ | refine PW.then_exit ?_ | refine PW.block_hit ?_ | refine PW.block_miss rfl ?_ | refine Cut.exit ?_ | refine Rnd.exit ?_)
    refine CW.cutB (α := Unit) [93, 94, 95, 96, 97, 98, 99, 100, 101] (fun _ => True) (fun _ => [(101, .bool false)]) (fun _ => KSl (some ⟨gb, 0, none⟩) zn db Z :: KSl (some ⟨ga, 0, none⟩) zn da Z :: cb b10 22 [.slice (some ⟨ga, 0, none⟩) zn da] :: cb b11 22 [.slice (some ⟨gb, 0, none⟩) zn db] :: Ix x Z :: Ix y Z :: pt D (.deferred (some [])) :: pt D2 (.deferred (some [])) :: cb b4 4 [.bool false] :: E :: F) ?_ ?_
    · refine CW.drawH [cb b10 22 [.slice (some ⟨ga, 0, none⟩) zn da], cb b11 22 [.slice (some ⟨gb, 0, none⟩) zn db], slOwn 29 2 (.slice (some ⟨ga, 0, none⟩) zn da) zn (kc Z), slOwn 29 2 (.slice (some ⟨gb, 0, none⟩) zn db) zn (kc Z)] [] T.mixed ?_
      refine H_take (i := 0) (some 93) rfl rfl (by kernel_rfl) (by kernel_rfl) (by kernel_rfl) rfl (pl_load1 (b := b10) (v := .slice (some ⟨ga, 0, none⟩) zn da) (by repeat (first | exact pk_head _ _ | apply pk_tail)) T.ag22 rfl rfl) (by kernel_rfl) (pkc (by repeat (first | exact pk_head _ _ | apply pk_tail)) (pkc (by repeat (first | exact pk_head _ _ | apply pk_tail)) (pkc (by repeat (first | exact pk_head _ _ | apply pk_tail)) (pkc (by repeat (first | exact pk_head _ _ | apply pk_tail)) (pkn _))))) ?_
      refine H_take (i := 1) (some 94) rfl rfl (by kernel_rfl) (by kernel_rfl) (by kernel_rfl) rfl (ps_move rfl).pl (by kernel_rfl) (pkc (by repeat (first | exact pk_head _ _ | apply pk_tail)) (pkc (by repeat (first | exact pk_head _ _ | apply pk_tail)) (pkc (by repeat (first | exact pk_head _ _ | apply pk_tail)) (pkc (by repeat (first | exact pk_head _ _ | apply pk_tail)) (pkn _))))) ?_
      refine H_take (i := 2) (some 95) rfl rfl (by kernel_rfl) (by kernel_rfl) (by kernel_rfl) rfl (ps_ia_slice T.un22 T.sz29 rfl rfl (by omega) (by omega)).pl (by kernel_rfl) (pkc (by repeat (first | exact pk_head _ _ | apply pk_tail)) (pkc (by repeat (first | exact pk_head _ _ | apply pk_tail)) (pkc (by repeat (first | exact pk_head _ _ | apply pk_tail)) (pkc (by repeat (first | exact pk_head _ _ | apply pk_tail)) (pkn _))))) ?_
      refine H_take (i := 3) (some 96) rfl rfl (by kernel_rfl) (by kernel_rfl) (by kernel_rfl) rfl (pl_loadS (vs := nc ki) (fun Bs => Src.part (i := i * 2) (Src.ownG (m := zn) (d := da) (xs := kc Z) (by repeat (first | exact pk_head _ _ | apply pk_tail)) (fun _ => ⟨_, rfl⟩)) hki) (by simp [nc]) T.ag29 (by exact T.sz29) rfl) (by kernel_rfl) (pkc (by repeat (first | exact pk_head _ _ | apply pk_tail)) (pkc (by repeat (first | exact pk_head _ _ | apply pk_tail)) (pkc (by repeat (first | exact pk_head _ _ | apply pk_tail)) (pkc (by repeat (first | exact pk_head _ _ | apply pk_tail)) (pkn _))))) ?_
      refine H_take (i := 4) (some 97) rfl rfl (by kernel_rfl) (by kernel_rfl) (by kernel_rfl) rfl (pl_load1 (b := b11) (v := .slice (some ⟨gb, 0, none⟩) zn db) (by repeat (first | exact pk_head _ _ | apply pk_tail)) T.ag22 rfl rfl) (by kernel_rfl) (pkc (by repeat (first | exact pk_head _ _ | apply pk_tail)) (pkc (by repeat (first | exact pk_head _ _ | apply pk_tail)) (pkc (by repeat (first | exact pk_head _ _ | apply pk_tail)) (pkc (by repeat (first | exact pk_head _ _ | apply pk_tail)) (pkn _))))) ?_
      refine H_take (i := 5) (some 98) rfl rfl (by kernel_rfl) (by kernel_rfl) (by kernel_rfl) rfl (ps_move rfl).pl (by kernel_rfl) (pkc (by repeat (first | exact pk_head _ _ | apply pk_tail)) (pkc (by repeat (first | exact pk_head _ _ | apply pk_tail)) (pkc (by repeat (first | exact pk_head _ _ | apply pk_tail)) (pkc (by repeat (first | exact pk_head _ _ | apply pk_tail)) (pkn _))))) ?_
      refine H_take (i := 6) (some 99) rfl rfl (by kernel_rfl) (by kernel_rfl) (by kernel_rfl) rfl (ps_ia_slice T.un22 T.sz29 rfl rfl (by omega) (by omega)).pl (by kernel_rfl) (pkc (by repeat (first | exact pk_head _ _ | apply pk_tail)) (pkc (by repeat (first | exact pk_head _ _ | apply pk_tail)) (pkc (by repeat (first | exact pk_head _ _ | apply pk_tail)) (pkc (by repeat (first | exact pk_head _ _ | apply pk_tail)) (pkn _))))) ?_
      refine H_take (i := 7) (some 100) rfl rfl (by kernel_rfl) (by kernel_rfl) (by kernel_rfl) rfl (pl_loadS (vs := nc ki) (fun Bs => Src.part (i := i * 2) (Src.ownG (m := zn) (d := db) (xs := kc Z) (by repeat (first | exact pk_head _ _ | apply pk_tail)) (fun _ => ⟨_, rfl⟩)) hki) (by simp [nc]) T.ag29 (by exact T.sz29) rfl) (by kernel_rfl) (pkc (by repeat (first | exact pk_head _ _ | apply pk_tail)) (pkc (by repeat (first | exact pk_head _ _ | apply pk_tail)) (pkc (by repeat (first | exact pk_head _ _ | apply pk_tail)) (pkc (by repeat (first | exact pk_head _ _ | apply pk_tail)) (pkn _))))) ?_
      refine H_take (i := 8) (some 101) rfl rfl (by kernel_rfl) (by kernel_rfl) (by kernel_rfl) rfl (ps_f (ps_num_neq ki ki T.eq29 rfl rfl) (fun h => h rfl)).pl (by kernel_rfl) (pkc (by repeat (first | exact pk_head _ _ | apply pk_tail)) (pkc (by repeat (first | exact pk_head _ _ | apply pk_tail)) (pkc (by repeat (first | exact pk_head _ _ | apply pk_tail)) (pkc (by repeat (first | exact pk_head _ _ | apply pk_tail)) (pkn _))))) ?_
      refine H_done (by kernel_rfl) ?_
      exact Meet.cut () trivial (by repeat (first | (with_reducible exact Ag.refl _ _) | (with_reducible apply Ag.pu0) | ((with_reducible refine Ag.pu _ ?_ ?_); · exact rfl) | ((with_reducible refine Ag.mix ?_ ?_); · exact rfl) | ((with_reducible refine Ag.pus ?_ ?_); · exact rfl))) ⟨rfl, trivial⟩ (by repeat (first | exact Ent.refl _ | (apply Ent.cons; · repeat (first | exact pk_head _ _ | apply pk_tail)) | apply Ent.skip))
    rintro _ _ _
    repeat (first | refine CW.seq ?_ | refine PW.then_ ?_ | refine PW.then_to rfl ?_ | refine CW.block ?_ | refine CW.skip ?_ | refine CW.ret ?_ | refine PW.then_ret ?_ | refine PW.block_ret ?_ | refine Cut.ret ?_ | refine Rnd.ret ?_ | refine PW.block_normal ?_ | refine CW.exit ?_ | refine PW.then_exit ?_ | refine PW.block_hit ?_ | refine PW.block_miss rfl ?_ | refine Cut.exit ?_ | refine Rnd.exit ?_)
    refine CW.cond_false rfl ?_
    repeat (first | refine CW.seq ?_ | refine PW.then_ ?_ | refine PW.then_to rfl ?_ | refine CW.block ?_ | refine CW.skip ?_ | refine CW.ret ?_ | refine PW.then_ret ?_ | refine PW.block_ret ?_ | refine Cut.ret ?_ | refine Rnd.ret ?_ | refine PW.block_normal ?_ | refine CW.exit ?_ | refine PW.then_exit ?_ | refine PW.block_hit ?_ | refine PW.block_miss rfl ?_ | refine Cut.exit ?_ | refine Rnd.exit ?_)
    refine CW.region ?_
    refine L1 (ps_to (u := .int .i64 ((i + 1 : Nat) : Int)) (by rfl) (ps_add_i64 rfl rfl (by omega) (by omega))).os ?_
    refine L1 (ps_move rfl).os ?_
    refine LW.nil ?_
    exact Meet.round (zn - (i + 1)) (i + 1) (by omega) ⟨hlt, rfl⟩ (by repeat (first | (with_reducible exact Ag.refl _ _) | (with_reducible apply Ag.pu0) | ((with_reducible refine Ag.pu _ ?_ ?_); · exact rfl) | ((with_reducible refine Ag.mix ?_ ?_); · exact rfl) | ((with_reducible refine Ag.pus ?_ ?_); · exact rfl))) ⟨rfl, trivial⟩ (by repeat (first | exact Ent.refl _ | (apply Ent.cons; · repeat (first | exact pk_head _ _ | apply pk_tail)) | apply Ent.skip))
  have hiz : i = zn := by omega
  subst hiz
  refine CW.region ?_
  refine L1 (ps_f (ps_lss rfl rfl) (by omega)).os ?_
  refine LW.nil ?_
  repeat (first | refine CW.seq ?_ | refine PW.then_ ?_ | refine PW.then_to rfl ?_ | refine CW.block ?_ | refine CW.skip ?_ | refine CW.ret ?_ | refine PW.then_ret ?_ | refine PW.block_ret ?_ | refine Cut.ret ?_ | refine Rnd.ret ?_ | refine PW.block_normal ?_ | refine CW.exit ?_ | refine PW.then_exit ?_ | refine PW.block_hit ?_ | refine PW.block_miss rfl ?_ | refine Cut.exit ?_ | refine Rnd.exit ?_)
  refine CW.cond_false rfl ?_
  repeat (first | refine CW.seq ?_ | refine PW.then_ ?_ | refine PW.then_to rfl ?_ | refine CW.block ?_ | refine CW.skip ?_ | refine CW.ret ?_ | refine PW.then_ret ?_ | refine PW.block_ret ?_ | refine Cut.ret ?_ | refine Rnd.ret ?_ | refine PW.block_normal ?_ | refine CW.exit ?_ | refine PW.then_exit ?_ | refine PW.block_hit ?_ | refine PW.block_miss rfl ?_ | refine Cut.exit ?_ | refine Rnd.exit ?_)
  have hlx := Len_spec x Z
  have hly := Len_spec y Z
  rw [hz] at hlx hly
  refine CW.cutB (α := Unit) [103, 104, 105, 106, 107, 108, 109, 110, 111, 112, 113, 114, 115, 116, 117, 118] (fun _ => True) (fun _ => []) (fun _ => pt D (.deferred (some [])) :: pt D2 (.deferred (some [])) :: cb b4 4 [.bool true] :: E :: F) ?_ ?_
  · refine CW.drawH [cb b10 22 [.slice qa i da], cb b11 22 [.slice qb i db]] [16] T.mixed ?_
    refine H_take (i := 0) (some 103) rfl rfl (by kernel_rfl) (by kernel_rfl) (by kernel_rfl) rfl (pl_load1 (b := b10) (v := .slice qa i da) (by repeat (first | exact pk_head _ _ | apply pk_tail)) T.ag22 rfl rfl) (by kernel_rfl) (pkc (by repeat (first | exact pk_head _ _ | apply pk_tail)) (pkc (by repeat (first | exact pk_head _ _ | apply pk_tail)) (pkn _))) ?_
    refine H_take (i := 1) (some 104) rfl rfl (by kernel_rfl) (by kernel_rfl) (by kernel_rfl) rfl (ps_len_sl T.un22 rfl).pl (by kernel_rfl) (pkc (by repeat (first | exact pk_head _ _ | apply pk_tail)) (pkc (by repeat (first | exact pk_head _ _ | apply pk_tail)) (pkn _))) ?_
    refine H_take (i := 2) (some 105) rfl rfl (by kernel_rfl) (by kernel_rfl) (by kernel_rfl) rfl (pl_load1 (b := b11) (v := .slice qb i db) (by repeat (first | exact pk_head _ _ | apply pk_tail)) T.ag22 rfl rfl) (by kernel_rfl) (pkc (by repeat (first | exact pk_head _ _ | apply pk_tail)) (pkc (by repeat (first | exact pk_head _ _ | apply pk_tail)) (pkn _))) ?_
    refine H_take (i := 3) (some 106) rfl rfl (by kernel_rfl) (by kernel_rfl) (by kernel_rfl) rfl (ps_len_sl T.un22 rfl).pl (by kernel_rfl) (pkc (by repeat (first | exact pk_head _ _ | apply pk_tail)) (pkc (by repeat (first | exact pk_head _ _ | apply pk_tail)) (pkn _))) ?_
    refine H_take (i := 4) (some 107) rfl rfl (by kernel_rfl) (by kernel_rfl) (by kernel_rfl) rfl (ps_t (ps_eql rfl rfl) (rfl)).pl (by kernel_rfl) (pkc (by repeat (first | exact pk_head _ _ | apply pk_tail)) (pkc (by repeat (first | exact pk_head _ _ | apply pk_tail)) (pkn _))) ?_
    refine H_take (i := 5) (some 108) rfl rfl (by kernel_rfl) (by kernel_rfl) (by kernel_rfl) rfl (ps_move rfl).pl (by kernel_rfl) (pkc (by repeat (first | exact pk_head _ _ | apply pk_tail)) (pkc (by repeat (first | exact pk_head _ _ | apply pk_tail)) (pkn _))) ?_
    refine H_take (i := 6) (some 109) rfl rfl (by kernel_rfl) (by kernel_rfl) (by kernel_rfl) rfl (pl_load1 (b := b10) (v := .slice qa i da) (by repeat (first | exact pk_head _ _ | apply pk_tail)) T.ag22 rfl rfl) (by kernel_rfl) (pkc (by repeat (first | exact pk_head _ _ | apply pk_tail)) (pkc (by repeat (first | exact pk_head _ _ | apply pk_tail)) (pkn _))) ?_
    refine H_take (i := 7) (some 110) rfl rfl (by kernel_rfl) (by kernel_rfl) (by kernel_rfl) rfl (ps_len_sl T.un22 rfl).pl (by kernel_rfl) (pkc (by repeat (first | exact pk_head _ _ | apply pk_tail)) (pkc (by repeat (first | exact pk_head _ _ | apply pk_tail)) (pkn _))) ?_
    refine H_branch (rs := [8]) (by kernel_rfl) (by simp) ?_
    refine HR.cons1 (i := 8) (some 111) rfl rfl rfl (os_call1 hlx Try.func10 (by decide +kernel) rfl rfl (by repeat (first | exact pk_head _ _ | apply pk_tail))) (pkc (by repeat (first | exact pk_head _ _ | apply pk_tail)) (pkc (by repeat (first | exact pk_head _ _ | apply pk_tail)) (pkn _))) ?_ ?_
    · skip
      refine H_take (i := 9) (some 112) rfl rfl (by kernel_rfl) (by kernel_rfl) (by kernel_rfl) rfl (ps_t (ps_eql rfl rfl) (rfl)).pl (by kernel_rfl) (pkc (by repeat (first | exact pk_head _ _ | apply pk_tail)) (pkc (by repeat (first | exact pk_head _ _ | apply pk_tail)) (pkn _))) ?_
      refine H_take (i := 10) (some 113) rfl rfl (by kernel_rfl) (by kernel_rfl) (by kernel_rfl) rfl (ps_pick_t rfl rfl).pl (by kernel_rfl) (pkc (by repeat (first | exact pk_head _ _ | apply pk_tail)) (pkc (by repeat (first | exact pk_head _ _ | apply pk_tail)) (pkn _))) ?_
      refine H_take (i := 11) (some 114) rfl rfl (by kernel_rfl) (by kernel_rfl) (by kernel_rfl) rfl (ps_move rfl).pl (by kernel_rfl) (pkc (by repeat (first | exact pk_head _ _ | apply pk_tail)) (pkc (by repeat (first | exact pk_head _ _ | apply pk_tail)) (pkn _))) ?_
      refine H_branch (rs := [12]) (by kernel_rfl) (by simp) ?_
      refine HR.cons1 (i := 12) (some 115) rfl rfl rfl (os_call1 hlx Try.func10 (by decide +kernel) rfl rfl (by repeat (first | exact pk_head _ _ | apply pk_tail))) (pkc (by repeat (first | exact pk_head _ _ | apply pk_tail)) (pkc (by repeat (first | exact pk_head _ _ | apply pk_tail)) (pkn _))) ?_ ?_
      · skip
        refine H_branch (rs := [13]) (by kernel_rfl) (by simp) ?_
        refine HR.cons1 (i := 13) (some 116) rfl rfl rfl (os_call1 hly Try.func10 (by decide +kernel) rfl rfl (by repeat (first | exact pk_head _ _ | apply pk_tail))) (pkc (by repeat (first | exact pk_head _ _ | apply pk_tail)) (pkc (by repeat (first | exact pk_head _ _ | apply pk_tail)) (pkn _))) ?_ ?_
        · skip
          refine H_take (i := 14) (some 117) rfl rfl (by kernel_rfl) (by kernel_rfl) (by kernel_rfl) rfl (ps_t (ps_eql rfl rfl) (rfl)).pl (by kernel_rfl) (pkc (by repeat (first | exact pk_head _ _ | apply pk_tail)) (pkc (by repeat (first | exact pk_head _ _ | apply pk_tail)) (pkn _))) ?_
          refine H_take (i := 15) (some 118) rfl rfl (by kernel_rfl) (by kernel_rfl) (by kernel_rfl) rfl (ps_pick_t rfl rfl).pl (by kernel_rfl) (pkc (by repeat (first | exact pk_head _ _ | apply pk_tail)) (pkc (by repeat (first | exact pk_head _ _ | apply pk_tail)) (pkn _))) ?_
          refine H_branch (rs := [16]) (by kernel_rfl) (by simp) ?_
          refine HR.consL (i := 16) none rfl rfl rfl (os_store1 (b := b4) (by repeat (first | exact pk_head _ _ | apply pk_tail)) T.sz4 rfl rfl (by rfl) (by exact Nat.zero_lt_one)) (by decide) ?_ ?_
          · skip
            refine H_done (by kernel_rfl) ?_
            exact Meet.cut () trivial (by repeat (first | (with_reducible exact Ag.refl _ _) | (with_reducible apply Ag.pu0) | ((with_reducible refine Ag.pu _ ?_ ?_); · exact rfl) | ((with_reducible refine Ag.mix ?_ ?_); · exact rfl) | ((with_reducible refine Ag.pus ?_ ?_); · exact rfl))) trivial (by repeat (first | exact Ent.refl _ | (apply Ent.cons; · repeat (first | exact pk_head _ _ | apply pk_tail)) | apply Ent.skip))
          exact HR.nil
        exact HR.nil
      exact HR.nil
    exact HR.nil
  rintro _ _ _
  repeat (first | refine CW.seq ?_ | refine PW.then_ ?_ | refine PW.then_to rfl ?_ | refine CW.block ?_ | refine CW.skip ?_ | refine CW.ret ?_ | refine PW.then_ret ?_ | refine PW.block_ret ?_ | refine Cut.ret ?_ | refine Rnd.ret ?_ | refine PW.block_normal ?_ | refine CW.exit ?_ | refine PW.then_exit ?_ | refine PW.block_hit ?_ | refine PW.block_miss rfl ?_ | refine Cut.exit ?_ | refine Rnd.exit ?_)
  refine Fin.mark rfl (by repeat (first | exact pk_head _ _ | apply pk_tail)) ?_
  refine Fin.mark rfl (by repeat (first | exact pk_head _ _ | apply pk_tail)) ?_
  exact Fin.retC1 (b := b4) (v := .bool true) rfl (by repeat (first | exact pk_head _ _ | apply pk_tail)) T.ag4 rfl rfl [E] ⟨rfl, rfl⟩ (by repeat (first | exact Ent.refl _ | (apply Ent.cons; · repeat (first | exact pk_head _ _ | apply pk_tail)) | apply Ent.skip))

namespace indexTurns
open Go.ChangeShapes Go.WideShapes Go.ChangeAt Go.RowKit
theorem own : ownKnob Try.prog.godebug = none := by kernel_rfl
theorem laidOut : laidOutB Try.prog = true := by kernel_rfl
set_option maxRecDepth 100000 in
theorem lifted (os : Os) (started : os.Started) (H : Type) (enc : TypeId × Value → H) :
    ReturnsInHanded {} Try.checked os 3 .any (Rows.indexTurnsSpec.pre6 enc Try.prog Try.f3 Rows.indexTurnsRow.domain false) (Rows.indexTurnsSpec.post enc Try.prog Try.f3 false true false false) := by
  refine returnsInHanded_of_change (C := Try.checked) own started (by kernel_rfl) Try.func3
    (ChangeSpec.witness6 (enc := enc) (C := Try.checked) false ⟨#[], #[(Value.slice none 0 0), (Value.int .i64 0)], []⟩ 8 (by kernel_rfl) (by kernel_rfl) (by kernel_rfl) (by kernel_rfl)) ?_
  intro W base args ds gs before hval0 hW hcnd _
  have hval : ∀ (j : Nat) t v, Try.f3.params[j]? = some t → args[j]? = some v → Value.okWide Try.prog W .any base t v := hval0
  have hW' := hW
  obtain ⟨p, q, hA0, hV, rfl, hfz, hnd⟩ := hW
  have hA : DataW.TrodAll enc Try.prog W 0 (fun _ => true) true Try.f3.params.toList args.toList ds p := hA0
  rw [Try.params3] at hA hval
  obtain ⟨v0, vs0, d0, ds0, p0, q0, hargs, rfl, rfl, h0, r0⟩ := trodAll_cons hA
  obtain ⟨v1, vs1, d1, ds1, p1, q1, rfl, rfl, rfl, h1, r1⟩ := trodAll_cons r0
  obtain ⟨rfl, rfl, rfl⟩ := trodAll_nil r1
  obtain rfl : args = #[v0, v1] := by cases args; simp_all
  obtain ⟨rfl, rfl⟩ := trodVars_none hV
  obtain ⟨_, _, _, rfl⟩ := okWide_slice T.un22 (hval 0 22 v0 rfl rfl)
  obtain ⟨fu0, hf0⟩ := h0
  obtain ⟨a0, b0⟩ := open_SlapiNum hf0
  obtain ⟨a1, rfl, rfl, rfl, wf1⟩ := open_int T.un3 (hval 1 3 v1 rfl rfl) h1
  have w1 := bounds_i64' wf1
  simp only [List.append_nil] at hW'
  refine (LawOf.calls (IndexTurns_law W _ a0 b0 a1 w1)).mono fun e W' ⟨he, hb⟩ => ?_
  subst he
  exact ⟨_, rfl, law_post laidOut rfl (tb := 4) (by kernel_rfl) T.un4 (by intro t ht; rw [Try.params3] at ht; simp only [List.mem_cons, List.not_mem_nil, or_false] at ht; rcases ht with rfl | rfl <;> exact ⟨by kernel_rfl, by decide +kernel⟩) rfl hW' hb⟩
theorem holds : Rows.IndexTurnsSaid :=
  OpenClaim.holds_of_wide 3 Try.f3 rfl rfl rfl rfl rfl rfl rfl ⟨rfl, rfl, rfl, rfl, rfl⟩ rfl rfl rfl rfl rfl (by kernel_rfl) Try.func3 (by kernel_rfl)
    (of_decide_eq_true (by kernel_rfl)) (by unfold Func.isWrapper; rw [if_neg (of_decide_eq_false (by kernel_rfl))]; exact ⟨rfl, rfl⟩)
    (fun os started H enc _ => lifted os started H enc)
end indexTurns
end Go.Proofs.Ytejphoheaeplbaa
