/- One block of 64 bytes goes into a state: the contract. -/
import Derived.Test.YtcfipblnaifbhaaDoorSha
namespace Go.Proofs.YtcfipblnaifbhaaDoor
set_option linter.unusedVariables false
set_option linter.unusedSimpArgs false
open Go Go.SL

abbrev ptr (p : Nat) : Value := .pointer (some ⟨p, 0, none⟩)
/-- What stands in the two tables of the program. -/
structure Env (E : Asn) : Prop where
  st : ∀ As Bs, List.Perm As (E :: Bs) → Src As (some ⟨0, 0, none⟩) (wv startL)
  rd : ∀ As Bs, List.Perm As (E :: Bs) → Src As (some ⟨1, 0, none⟩) (wv roundsL)
theorem ByR.cut {A : Asn} {b o l cap : Nat} {bs : List UInt8} (h : ByR A (.slice (some ⟨b, o, none⟩) l cap) bs) (i j : Nat) (hij : i ≤ j) (hj : j ≤ bs.length) : ByR A (.slice (some ⟨b, cutOff o i cap 1 i, none⟩) (j - i) (cap - i)) ((bs.drop i).take (j - i)) := by
  obtain ⟨p', cap', hv, hc, hs⟩ := h
  cases hv
  refine ⟨some ⟨b, cutOff o i cap 1 i, none⟩, cap - i, by rw [List.length_take, List.length_drop, Nat.min_eq_left (by omega)], by rw [List.length_take, List.length_drop]; omega, fun As Bs hp hne => ?_⟩
  have hlt : i < bs.length := by
    rcases Nat.lt_or_ge i bs.length with h | h
    · exact h
    · rw [List.drop_of_length_le h, List.take_nil] at hne; exact absurd rfl hne
  obtain ⟨a, h1, h2⟩ := hs As Bs hp (fun h0 => hne (by
    have : bs = [] := by cases bs with | nil => rfl | cons _ _ => simp [bv] at h0
    subst this; simp at hlt))
  cases h1
  refine ⟨_, rfl, fun w0 w hw k u hk => ?_⟩
  have hcut : cutOff o i cap 1 i = o + i := by
    rw [cutOff_ne (by omega)]; omega
  rw [hcut, add_mk]
  have hk2 : (bv bs)[i + k]? = some u := by
    rw [bv, List.getElem?_map] at hk ⊢
    rw [List.getElem?_take] at hk
    split at hk
    · rwa [List.getElem?_drop] at hk
    · simp at hk
  have h3 := h2 w0 w hw (i + k) u hk2
  rw [add_mk] at h3
  rwa [Nat.add_assoc]
theorem z64 (bs : List UInt8) : (List.replicate 64 (Value.int .u32 0)) = wv (w1 bs 0) := by simp [w1, wv]
theorem w1_set (bs : List UInt8) (i : Nat) (hi : i < 64) : (w1 bs i).set i (wordIn ((bs.drop (4 * i)).take 4)) = w1 bs (i + 1) := by
  unfold w1
  have hl : ((List.range i).map fun k => wordIn ((bs.drop (4 * k)).take 4)).length = i := by simp
  rw [List.set_append, if_neg (by omega), hl, Nat.sub_self, show 64 - i = (64 - (i + 1)) + 1 by omega, List.replicate_succ, List.set_cons_zero, List.range_succ, List.map_append, List.append_assoc]
  rfl
theorem w1_get (bs : List UInt8) (i : Nat) (hi : i < 64) : (w1 bs i).getD i 0 = 0 := by
  unfold w1
  have hl : ((List.range i).map fun k => wordIn ((bs.drop (4 * k)).take 4)).length = i := by simp
  rw [List.getD_eq_getElem?_getD, List.getElem?_append_right (by omega), hl, Nat.sub_self, show 64 - i = (64 - (i + 1)) + 1 by omega, List.replicate_succ]
  rfl
theorem wordIn_succ (q : List UInt8) (j : Nat) (h : j < q.length) : wordIn (q.take (j + 1)) = (wordIn (q.take j) <<< UInt32.ofNat 8) ||| UInt32.ofNat (q[j].toNat) := by
  rw [List.take_succ_eq_append_getElem h, wordIn, List.foldl_append]; rfl
theorem set_set' (l : List UInt32) (i : Nat) (x y : UInt32) : (l.set i x).set i y = l.set i y := List.set_set ..
theorem getD_set (l : List UInt32) (i : Nat) (x : UInt32) (h : i < l.length) : (l.set i x).getD i 0 = x := by
  rw [List.getD_eq_getElem?_getD, List.getElem?_set_self h]; rfl
def mixH (h s : List UInt32) (i : Nat) : List UInt32 := (List.zipWith (· + ·) h s).take i ++ h.drop i
theorem mixH_len (h s : List UInt32) (i : Nat) (h1 : h.length = 8) (h2 : s.length = 8) : (mixH h s i).length = 8 := by simp [mixH, h1, h2]; omega
theorem mixH_get (h s : List UInt32) (i : Nat) (h1 : h.length = 8) (h2 : s.length = 8) (hi : i < 8) : (mixH h s i).getD i 0 = h.getD i 0 := by
  have hl : ((List.zipWith (· + ·) h s).take i).length = i := by simp [h1, h2]; omega
  rw [mixH, List.getD_eq_getElem?_getD, List.getElem?_append_right (by omega), hl, Nat.sub_self, List.getElem?_drop, Nat.add_zero, List.getD_eq_getElem?_getD]
theorem mixH_set (h s : List UInt32) (i : Nat) (h1 : h.length = 8) (h2 : s.length = 8) (hi : i < 8) : (mixH h s i).set i (h.getD i 0 + s.getD i 0) = mixH h s (i + 1) := by
  have hl : ((List.zipWith (· + ·) h s).take i).length = i := by simp [h1, h2]; omega
  have hz : i < (List.zipWith (· + ·) h s).length := by simp [h1, h2]; omega
  rw [mixH, List.set_append, if_neg (by omega), hl, Nat.sub_self, List.drop_eq_getElem_cons (by omega), List.set_cons_zero, mixH, List.take_succ_eq_append_getElem hz, List.append_assoc]
  congr 1
  rw [List.getElem_zipWith, List.getD_eq_getElem?_getD, List.getElem?_eq_getElem (by omega), List.getD_eq_getElem?_getD, List.getElem?_eq_getElem (by omega)]
  rfl
theorem idx32 {l : List UInt32} {i : Nat} (h : i < l.length) : (wv l)[0 + ((i : Nat) : Int).toNat * 1]? = some (w32 (l.getD i 0)) := by
  rw [Nat.zero_add, Nat.mul_one, Int.toNat_natCast]; exact wv_get h
theorem set32 {l : List UInt32} {i : Nat} (x : UInt32) : (wv l).set (0 + ((i : Nat) : Int).toNat * 1) (w32 x) = wv (l.set i x) := by
  rw [Nat.zero_add, Nat.mul_one, Int.toNat_natCast]; exact wv_set l i x

set_option maxHeartbeats 2000000 in
theorem block_spec (p : Nat) (H : List UInt32) (hH : H.length = 8) (B E : Asn) (hE : Env E) (v : Value) (bs : List UInt8) (hb : ByR B v bs) (h64 : bs.length = 64) :
    FSpec Tryd.prog 17 [ptr p, v] [cb p 50 (wv H), B, E] (fun r As => As = [cb p 50 (wv (blockM H bs)), B, E]) := by
  have hb0 := hb
  obtain ⟨q, cap, rfl, hcap, -⟩ := hb0
  rw [h64] at hb
  have hcapz : 64 ≤ cap := by omega
  refine FSpec.intro Tryd.func17 rfl 183 Tryd.ntmps17 (Nat.le_of_ble_eq_true rfl) fun w0 F => ?_
  show CW _ _ _ _ _ _ (_ :: _ :: _ :: F)
  refine hb.form (As := _) (by repeat (first | exact pk_head _ _ | apply pk_tail)) (fun h0 => by rw [h0] at h64; simp at h64) fun vb vo hq => ?_
  subst hq
  repeat (first | refine CW.seq ?_ | refine PW.then_ ?_ | refine PW.then_to rfl ?_ | refine CW.block ?_ | refine CW.skip ?_ | refine CW.ret ?_ | refine PW.then_ret ?_ | refine PW.block_ret ?_ | refine Cut.ret ?_ | refine Rnd.ret ?_ | refine PW.block_normal ?_ | refine CW.exit ?_ | refine PW.then_exit ?_ | refine PW.block_hit ?_ | refine PW.block_miss rfl ?_ | refine Cut.exit ?_ | refine Rnd.exit ?_)
  refine CW.region ?_
  refine LE (os_alloc (z64 bs ▸ T.ti54)) ?_
  rintro _ _ ⟨b4, rfl, rfl⟩
  refine LW.nil ?_
  repeat (first | refine CW.seq ?_ | refine PW.then_ ?_ | refine PW.then_to rfl ?_ | refine CW.block ?_ | refine CW.skip ?_ | refine CW.ret ?_ | refine PW.then_ret ?_ | refine PW.block_ret ?_ | refine Cut.ret ?_ | refine Rnd.ret ?_ | refine PW.block_normal ?_ | refine CW.exit ?_ | refine PW.then_exit ?_ | refine PW.block_hit ?_ | refine PW.block_miss rfl ?_ | refine Cut.exit ?_ | refine Rnd.exit ?_)
  refine CW.region ?_
  refine L1 (ps_move rfl).os ?_
  refine LW.nil ?_
  repeat (first | refine CW.seq ?_ | refine PW.then_ ?_ | refine PW.then_to rfl ?_ | refine CW.block ?_ | refine CW.skip ?_ | refine CW.ret ?_ | refine PW.then_ret ?_ | refine PW.block_ret ?_ | refine Cut.ret ?_ | refine Rnd.ret ?_ | refine PW.block_normal ?_ | refine CW.exit ?_ | refine PW.then_exit ?_ | refine PW.block_hit ?_ | refine PW.block_miss rfl ?_ | refine Cut.exit ?_ | refine Rnd.exit ?_)
  refine CW.loopM (α := Nat) [5, 7, 18, 19, 20, 21, 22, 23, 24, 25, 26, 27, 28, 29, 30, 31, 32, 33, 34, 35, 36, 37, 38, 39, 40, 41, 42, 43] (fun k i => i ≤ 16 ∧ k = 16 - i) (fun i => [(18, .int .i64 i)])
    (fun i => cb b4 54 (wv (w1 bs i)) :: cb p 50 (wv H) :: B :: E :: F) 16 0 ⟨Nat.zero_le _, rfl⟩ ⟨rfl, trivial⟩ (by repeat (first | exact Ent.refl _ | (apply Ent.cons; · repeat (first | exact pk_head _ _ | apply pk_tail)) | apply Ent.skip)) ?_
  rintro k i g ⟨hi, hk⟩
  repeat (first | refine CW.seq ?_ | refine PW.then_ ?_ | refine PW.then_to rfl ?_ | refine CW.block ?_ | refine CW.skip ?_ | refine CW.ret ?_ | refine PW.then_ret ?_ | refine PW.block_ret ?_ | refine Cut.ret ?_ | refine Rnd.ret ?_ | refine PW.block_normal ?_ | refine CW.exit ?_ | refine PW.then_exit ?_ | refine PW.block_hit ?_ | refine PW.block_miss rfl ?_ | refine Cut.exit ?_ | refine Rnd.exit ?_)
  by_cases hlt : i < 16
  · have hbc := ByR.cut hb (4 * i) (4 * i + 4) (by omega) (by omega)
    rw [show 4 * i + 4 - 4 * i = 4 by omega] at hbc
    have hsv : Value.slice (some ⟨vb, cutOff vo (4 * (i : Int)).toNat cap 1 (4 * (i : Int)).toNat, none⟩) ((4 * (i : Int) + 4).toNat - (4 * (i : Int)).toNat) (cap - (4 * (i : Int)).toNat) = .slice (some ⟨vb, cutOff vo (4 * i) cap 1 (4 * i), none⟩) 4 (cap - 4 * i) := by
      rw [show (4 * (i : Int)).toNat = 4 * i by omega, show (4 * (i : Int) + 4).toNat - 4 * i = 4 by omega]
    have hql : ((bs.drop (4 * i)).take 4).length = 4 := by rw [List.length_take, List.length_drop]; omega
    have hset := w1_set bs i (by omega)
    have hg0 := w1_get bs i (by omega)
    have hwl := w1_len bs i (by omega)
    generalize hco : cutOff vo (4 * i) cap 1 (4 * i) = co at hbc hsv
    generalize (bs.drop (4 * i)).take 4 = qs at hbc hql hset
    generalize w1 bs i = w at hset hg0 hwl ⊢
    obtain ⟨w', hw'⟩ : ∃ w', w1 bs (i + 1) = w' := ⟨_, rfl⟩
    rw [hw'] at hset
    refine CW.region ?_
    refine L1 (ps_t (ps_lss rfl rfl) (by omega)).os ?_
    refine LW.nil ?_
    repeat (first | refine CW.seq ?_ | refine PW.then_ ?_ | refine PW.then_to rfl ?_ | refine CW.block ?_ | refine CW.skip ?_ | refine CW.ret ?_ | refine PW.then_ret ?_ | refine PW.block_ret ?_ | refine Cut.ret ?_ | refine Rnd.ret ?_ | refine PW.block_normal ?_ | refine CW.exit ?_ | refine PW.then_exit ?_ | refine PW.block_hit ?_ | refine PW.block_miss rfl ?_ | refine Cut.exit ?_ | refine Rnd.exit ?_)
    refine CW.cond_true rfl ?_
    repeat (first | refine CW.seq ?_ | refine PW.then_ ?_ | refine PW.then_to rfl ?_ | refine CW.block ?_ | refine CW.skip ?_ | refine CW.ret ?_ | refine PW.then_ret ?_ | refine PW.block_ret ?_ | refine Cut.ret ?_ | refine Rnd.ret ?_ | refine PW.block_normal ?_ | refine CW.exit ?_ | refine PW.then_exit ?_ | refine PW.block_hit ?_ | refine PW.block_miss rfl ?_ | refine Cut.exit ?_ | refine Rnd.exit ?_)
    refine CW.region ?_
    refine L1 (ps_move rfl).os ?_
    refine L1 (ps_assign rfl).os ?_
    refine LW.nil ?_
    repeat (first | refine CW.seq ?_ | refine PW.then_ ?_ | refine PW.then_to rfl ?_ | refine CW.block ?_ | refine CW.skip ?_ | refine CW.ret ?_ | refine PW.then_ret ?_ | refine PW.block_ret ?_ | refine Cut.ret ?_ | refine Rnd.ret ?_ | refine PW.block_normal ?_ | refine CW.exit ?_ | refine PW.then_exit ?_ | refine PW.block_hit ?_ | refine PW.block_miss rfl ?_ | refine Cut.exit ?_ | refine Rnd.exit ?_)
    refine CW.region ?_
    refine L1 (ps_move rfl).os ?_
    refine L1 (ps_move rfl).os ?_
    refine L1 (ps_mul_i64 rfl rfl (by omega) (by omega)).os ?_
    refine L1 (ps_move rfl).os ?_
    refine L1 (ps_mul_i64 rfl rfl (by omega) (by omega)).os ?_
    refine L1 (ps_add_i64 rfl rfl (by omega) (by omega)).os ?_
    refine L1 (ps_to (u := .slice (some ⟨vb, co, none⟩) 4 (cap - 4 * i)) hsv (ps_sl_lh T.un22 T.sz5 rfl rfl rfl (by omega) (by omega) (by omega))).os ?_
    refine L1 (ps_len_sl T.un22 rfl).os ?_
    refine L1 (ps_move rfl).os ?_
    refine LW.nil ?_
    repeat (first | refine CW.seq ?_ | refine PW.then_ ?_ | refine PW.then_to rfl ?_ | refine CW.block ?_ | refine CW.skip ?_ | refine CW.ret ?_ | refine PW.then_ret ?_ | refine PW.block_ret ?_ | refine Cut.ret ?_ | refine Rnd.ret ?_ | refine PW.block_normal ?_ | refine CW.exit ?_ | refine PW.then_exit ?_ | refine PW.block_hit ?_ | refine PW.block_miss rfl ?_ | refine Cut.exit ?_ | refine Rnd.exit ?_)
    have hw0 : w.set i (wordIn (qs.take 0)) = w := by
      refine List.ext_getElem? fun m => ?_
      rw [List.getElem?_set]
      split
      · rename_i hm
        subst hm
        rw [if_pos (by omega), List.getElem?_eq_getElem (by omega)]
        rw [List.getD_eq_getElem?_getD, List.getElem?_eq_getElem (by omega)] at hg0
        exact congrArg some hg0.symm
      · rfl
    refine CW.loopM (α := Nat) [7, 29, 30, 31, 32, 33, 34, 35, 36, 37, 38, 39, 40, 41, 42] (fun k j => j ≤ 4 ∧ k = 4 - j) (fun j => [(29, .int .i64 j)])
      (fun j => cb b4 54 (wv (w.set i (wordIn (qs.take j)))) :: cb p 50 (wv H) :: B :: E :: F) 4 0 ⟨Nat.zero_le _, rfl⟩ ⟨rfl, trivial⟩ (by rw [hw0]; exact (by repeat (first | exact Ent.refl _ | (apply Ent.cons; · repeat (first | exact pk_head _ _ | apply pk_tail)) | apply Ent.skip))) ?_
    rintro k' j g' ⟨hj, hk'⟩
    repeat (first | refine CW.seq ?_ | refine PW.then_ ?_ | refine PW.then_to rfl ?_ | refine CW.block ?_ | refine CW.skip ?_ | refine CW.ret ?_ | refine PW.then_ret ?_ | refine PW.block_ret ?_ | refine Cut.ret ?_ | refine Rnd.ret ?_ | refine PW.block_normal ?_ | refine CW.exit ?_ | refine PW.then_exit ?_ | refine PW.block_hit ?_ | refine PW.block_miss rfl ?_ | refine Cut.exit ?_ | refine Rnd.exit ?_)
    by_cases hjt : j < 4
    · have hsrc := fun As Bs (hp : List.Perm As (_ :: Bs)) => hbc.at (i := j) (by omega) hp
      have hws := wordIn_succ qs j (by omega)
      generalize qs[j]'(by omega) = c at hsrc hws
      have hgx : (w.set i (wordIn (qs.take j))).getD i 0 = wordIn (qs.take j) := getD_set w i _ (by omega)
      have hlx : (w.set i (wordIn (qs.take j))).length = 64 := by rw [List.length_set, hwl]
      generalize wordIn (qs.take j) = x at hws hgx hlx
      have hss : (w.set i x).set i (wordIn (qs.take (j + 1))) = w.set i (wordIn (qs.take (j + 1))) := set_set' w i _ _
      have hld := idx32 (l := w.set i x) (i := i) (by omega)
      rw [hgx] at hld
      have hst := set32 (l := w.set i x) (i := i) (wordIn (qs.take (j + 1)))
      rw [hss] at hst
      rw [hws] at hst
      refine CW.region ?_
      refine L1 (ps_t (ps_lss rfl rfl) (by omega)).os ?_
      refine LW.nil ?_
      repeat (first | refine CW.seq ?_ | refine PW.then_ ?_ | refine PW.then_to rfl ?_ | refine CW.block ?_ | refine CW.skip ?_ | refine CW.ret ?_ | refine PW.then_ret ?_ | refine PW.block_ret ?_ | refine Cut.ret ?_ | refine Rnd.ret ?_ | refine PW.block_normal ?_ | refine CW.exit ?_ | refine PW.then_exit ?_ | refine PW.block_hit ?_ | refine PW.block_miss rfl ?_ | refine Cut.exit ?_ | refine Rnd.exit ?_)
      refine CW.cond_true rfl ?_
      repeat (first | refine CW.seq ?_ | refine PW.then_ ?_ | refine PW.then_to rfl ?_ | refine CW.block ?_ | refine CW.skip ?_ | refine CW.ret ?_ | refine PW.then_ret ?_ | refine PW.block_ret ?_ | refine Cut.ret ?_ | refine Rnd.ret ?_ | refine PW.block_normal ?_ | refine CW.exit ?_ | refine PW.then_exit ?_ | refine PW.block_hit ?_ | refine PW.block_miss rfl ?_ | refine Cut.exit ?_ | refine Rnd.exit ?_)
      refine CW.region ?_
      refine L1 (ps_ia_slice T.un22 T.sz5 rfl rfl (by omega) (by omega)).os ?_
      refine L1 (os_loadS1 (v := .int .u8 (c.toNat : Int)) (hsrc _ _ (by repeat (first | exact pk_head _ _ | apply pk_tail))) T.ag5 rfl) ?_
      refine L1 (ps_assign rfl).os ?_
      refine LW.nil ?_
      repeat (first | refine CW.seq ?_ | refine PW.then_ ?_ | refine PW.then_to rfl ?_ | refine CW.block ?_ | refine CW.skip ?_ | refine CW.ret ?_ | refine PW.then_ret ?_ | refine PW.block_ret ?_ | refine Cut.ret ?_ | refine Rnd.ret ?_ | refine PW.block_normal ?_ | refine CW.exit ?_ | refine PW.then_exit ?_ | refine PW.block_hit ?_ | refine PW.block_miss rfl ?_ | refine Cut.exit ?_ | refine Rnd.exit ?_)
      refine CW.region ?_
      refine L1 (ps_move rfl).os ?_
      refine L1 (ps_move rfl).os ?_
      refine L1 (ps_ia_arr T.un54 T.sz45 rfl rfl (by omega) (by omega)).os ?_
      refine L1 (os_load1 (b := b4) (v := w32 x) (by repeat (first | exact pk_head _ _ | apply pk_tail)) T.ag45 rfl hld) ?_
      refine L1 (ps32_shl x 8 rfl rfl rfl (by decide)).os ?_
      refine L1 (ps_move rfl).os ?_
      refine L1 (ps32_conv8 c (by kernel_rfl) T.un45 rfl).os ?_
      refine L1 (ps32_or _ _ rfl rfl).os ?_
      refine L1 (ps_ia_arr T.un54 T.sz45 rfl rfl (by omega) (by omega)).os ?_
      refine L1 (os_cb hst <| os_store1 (b := b4) (by repeat (first | exact pk_head _ _ | apply pk_tail)) T.sz45 rfl rfl (by rfl) (by rw [length_wv, hlx]; omega)) ?_
      refine LW.nil ?_
      repeat (first | refine CW.seq ?_ | refine PW.then_ ?_ | refine PW.then_to rfl ?_ | refine CW.block ?_ | refine CW.skip ?_ | refine CW.ret ?_ | refine PW.then_ret ?_ | refine PW.block_ret ?_ | refine Cut.ret ?_ | refine Rnd.ret ?_ | refine PW.block_normal ?_ | refine CW.exit ?_ | refine PW.then_exit ?_ | refine PW.block_hit ?_ | refine PW.block_miss rfl ?_ | refine Cut.exit ?_ | refine Rnd.exit ?_)
      refine CW.region ?_
      refine L1 (ps_add_i64 rfl rfl (by omega) (by omega)).os ?_
      refine L1 (ps_move rfl).os ?_
      refine LW.nil ?_
      exact Meet.round (4 - (j + 1)) (j + 1) (by omega) ⟨hjt, rfl⟩ (by repeat (first | (with_reducible exact Ag.refl _ _) | (with_reducible apply Ag.pu0) | ((with_reducible refine Ag.pu _ ?_ ?_); · exact rfl) | ((with_reducible refine Ag.mix ?_ ?_); · exact rfl) | ((with_reducible refine Ag.pus ?_ ?_); · exact rfl))) ⟨rfl, trivial⟩ (by rw [hws]; exact (by repeat (first | exact Ent.refl _ | (apply Ent.cons; · repeat (first | exact pk_head _ _ | apply pk_tail)) | apply Ent.skip)))
    · have hj4 : j = 4 := by omega
      subst hj4
      rw [List.take_of_length_le (by omega), hset]
      refine CW.region ?_
      refine L1 (ps_f (ps_lss rfl rfl) (by omega)).os ?_
      refine LW.nil ?_
      repeat (first | refine CW.seq ?_ | refine PW.then_ ?_ | refine PW.then_to rfl ?_ | refine CW.block ?_ | refine CW.skip ?_ | refine CW.ret ?_ | refine PW.then_ret ?_ | refine PW.block_ret ?_ | refine Cut.ret ?_ | refine Rnd.ret ?_ | refine PW.block_normal ?_ | refine CW.exit ?_ | refine PW.then_exit ?_ | refine PW.block_hit ?_ | refine PW.block_miss rfl ?_ | refine Cut.exit ?_ | refine Rnd.exit ?_)
      refine CW.cond_false rfl ?_
      repeat (first | refine CW.seq ?_ | refine PW.then_ ?_ | refine PW.then_to rfl ?_ | refine CW.block ?_ | refine CW.skip ?_ | refine CW.ret ?_ | refine PW.then_ret ?_ | refine PW.block_ret ?_ | refine Cut.ret ?_ | refine Rnd.ret ?_ | refine PW.block_normal ?_ | refine CW.exit ?_ | refine PW.then_exit ?_ | refine PW.block_hit ?_ | refine PW.block_miss rfl ?_ | refine Cut.exit ?_ | refine Rnd.exit ?_)
      refine CW.region ?_
      refine L1 (ps_add_i64 rfl rfl (by omega) (by omega)).os ?_
      refine L1 (ps_move rfl).os ?_
      refine LW.nil ?_
      exact Meet.round (16 - (i + 1)) (i + 1) (by omega) ⟨hlt, rfl⟩ (by repeat (first | (with_reducible exact Ag.refl _ _) | (with_reducible apply Ag.pu0) | ((with_reducible refine Ag.pu _ ?_ ?_); · exact rfl) | ((with_reducible refine Ag.mix ?_ ?_); · exact rfl) | ((with_reducible refine Ag.pus ?_ ?_); · exact rfl))) ⟨rfl, trivial⟩ (by rw [hw']; exact (by repeat (first | exact Ent.refl _ | (apply Ent.cons; · repeat (first | exact pk_head _ _ | apply pk_tail)) | apply Ent.skip)))
  have hi16 : i = 16 := by omega
  subst hi16
  refine CW.region ?_
  refine L1 (ps_f (ps_lss rfl rfl) (by omega)).os ?_
  refine LW.nil ?_
  repeat (first | refine CW.seq ?_ | refine PW.then_ ?_ | refine PW.then_to rfl ?_ | refine CW.block ?_ | refine CW.skip ?_ | refine CW.ret ?_ | refine PW.then_ret ?_ | refine PW.block_ret ?_ | refine Cut.ret ?_ | refine Rnd.ret ?_ | refine PW.block_normal ?_ | refine CW.exit ?_ | refine PW.then_exit ?_ | refine PW.block_hit ?_ | refine PW.block_miss rfl ?_ | refine Cut.exit ?_ | refine Rnd.exit ?_)
  refine CW.cond_false rfl ?_
  repeat (first | refine CW.seq ?_ | refine PW.then_ ?_ | refine PW.then_to rfl ?_ | refine CW.block ?_ | refine CW.skip ?_ | refine CW.ret ?_ | refine PW.then_ret ?_ | refine PW.block_ret ?_ | refine Cut.ret ?_ | refine Rnd.ret ?_ | refine PW.block_normal ?_ | refine CW.exit ?_ | refine PW.then_exit ?_ | refine PW.block_hit ?_ | refine PW.block_miss rfl ?_ | refine Cut.exit ?_ | refine Rnd.exit ?_)
  refine CW.region ?_
  refine L1 (ps_assign rfl).os ?_
  refine LW.nil ?_
  repeat (first | refine CW.seq ?_ | refine PW.then_ ?_ | refine PW.then_to rfl ?_ | refine CW.block ?_ | refine CW.skip ?_ | refine CW.ret ?_ | refine PW.then_ret ?_ | refine PW.block_ret ?_ | refine Cut.ret ?_ | refine Rnd.ret ?_ | refine PW.block_normal ?_ | refine CW.exit ?_ | refine PW.then_exit ?_ | refine PW.block_hit ?_ | refine PW.block_miss rfl ?_ | refine Cut.exit ?_ | refine Rnd.exit ?_)
  refine CW.loopM (α := Nat) [8, 9, 10, 44, 45, 46, 47, 48, 49, 50, 51, 52, 53, 54, 55, 56, 57, 58, 59, 60, 61, 62, 63, 64, 65, 66, 67, 68, 69, 70, 71, 72, 73, 74, 75, 76, 77, 78, 79, 80, 81, 82, 83, 84] (fun k i => i ≤ 48 ∧ k = 48 - i) (fun i => [(8, .int .i64 ((16 + i : Nat) : Int))])
    (fun i => cb b4 54 (wv (w2 bs i)) :: cb p 50 (wv H) :: B :: E :: F) 48 0 ⟨Nat.zero_le _, rfl⟩ ⟨rfl, trivial⟩ (by repeat (first | exact Ent.refl _ | (apply Ent.cons; · repeat (first | exact pk_head _ _ | apply pk_tail)) | apply Ent.skip)) ?_
  rintro k i g ⟨hi, hk⟩
  repeat (first | refine CW.seq ?_ | refine PW.then_ ?_ | refine PW.then_to rfl ?_ | refine CW.block ?_ | refine CW.skip ?_ | refine CW.ret ?_ | refine PW.then_ret ?_ | refine PW.block_ret ?_ | refine Cut.ret ?_ | refine Rnd.ret ?_ | refine PW.block_normal ?_ | refine CW.exit ?_ | refine PW.then_exit ?_ | refine PW.block_hit ?_ | refine PW.block_miss rfl ?_ | refine Cut.exit ?_ | refine Rnd.exit ?_)
  by_cases hlt : i < 48
  · have hwl := w2_len bs i
    have hwn : w2 bs (i + 1) = (w2 bs i).set (16 + i) (wNext (w2 bs i) (16 + i)) := rfl
    unfold wNext at hwn
    rw [show 16 + i - 16 = i by omega, show 16 + i - 15 = i + 1 by omega, show 16 + i - 7 = i + 9 by omega, show 16 + i - 2 = i + 14 by omega] at hwn
    obtain ⟨w', hw'⟩ : ∃ w', w2 bs (i + 1) = w' := ⟨_, rfl⟩
    rw [hw'] at hwn
    generalize w2 bs i = w at hwl hwn ⊢
    have hl0 := idx32 (l := w) (i := i) (by omega)
    have hl1 := idx32 (l := w) (i := i + 1) (by omega)
    have hl9 := idx32 (l := w) (i := i + 9) (by omega)
    have hl14 := idx32 (l := w) (i := i + 14) (by omega)
    have hst := set32 (l := w) (i := 16 + i) (w.getD i 0 + (rotr (w.getD (i + 1) 0) 7 ^^^ rotr (w.getD (i + 1) 0) 18 ^^^ (w.getD (i + 1) 0 >>> UInt32.ofNat 3)) + w.getD (i + 9) 0 + (rotr (w.getD (i + 14) 0) 17 ^^^ rotr (w.getD (i + 14) 0) 19 ^^^ (w.getD (i + 14) 0 >>> UInt32.ofNat 10)))
    rw [← hwn] at hst
    generalize w.getD i 0 = x0 at hl0 hst
    generalize w.getD (i + 1) 0 = x at hl1 hst
    generalize w.getD (i + 9) 0 = x9 at hl9 hst
    generalize w.getD (i + 14) 0 = y at hl14 hst
    clear hwn
    refine CW.region ?_
    refine L1 (ps_move rfl).os ?_
    refine L1 (ps_t (ps_lss rfl rfl) (by omega)).os ?_
    refine LW.nil ?_
    repeat (first | refine CW.seq ?_ | refine PW.then_ ?_ | refine PW.then_to rfl ?_ | refine CW.block ?_ | refine CW.skip ?_ | refine CW.ret ?_ | refine PW.then_ret ?_ | refine PW.block_ret ?_ | refine Cut.ret ?_ | refine Rnd.ret ?_ | refine PW.block_normal ?_ | refine CW.exit ?_ | refine PW.then_exit ?_ | refine PW.block_hit ?_ | refine PW.block_miss rfl ?_ | refine Cut.exit ?_ | refine Rnd.exit ?_)
    refine CW.cond_true rfl ?_
    repeat (first | refine CW.seq ?_ | refine PW.then_ ?_ | refine PW.then_to rfl ?_ | refine CW.block ?_ | refine CW.skip ?_ | refine CW.ret ?_ | refine PW.then_ret ?_ | refine PW.block_ret ?_ | refine Cut.ret ?_ | refine Rnd.ret ?_ | refine PW.block_normal ?_ | refine CW.exit ?_ | refine PW.then_exit ?_ | refine PW.block_hit ?_ | refine PW.block_miss rfl ?_ | refine Cut.exit ?_ | refine Rnd.exit ?_)
    refine CW.cutB (α := Unit) [9, 10, 48, 49, 50, 51, 52, 53, 54, 55] (fun _ => True) (fun _ => [(9, w32 x), (10, w32 y)]) (fun _ => cb b4 54 (wv w) :: cb p 50 (wv H) :: B :: E :: F) ?_ ?_
    · refine CW.drawH [cb b4 54 (wv w)] [] T.mixed ?_
      refine H_take (i := 0) (some 48) rfl rfl (by kernel_rfl) (by kernel_rfl) (by kernel_rfl) rfl (ps_move rfl).pl (by kernel_rfl) (pkc (by repeat (first | exact pk_head _ _ | apply pk_tail)) (pkn _)) ?_
      refine H_take (i := 1) (some 49) rfl rfl (by kernel_rfl) (by kernel_rfl) (by kernel_rfl) rfl (ps_to (u := .int .i64 ((i + 1 : Nat) : Int)) (congrArg _ (by omega)) (ps_sub_i64 rfl rfl (by omega) (by omega))).pl (by kernel_rfl) (pkc (by repeat (first | exact pk_head _ _ | apply pk_tail)) (pkn _)) ?_
      refine H_take (i := 2) (some 50) rfl rfl (by kernel_rfl) (by kernel_rfl) (by kernel_rfl) rfl (ps_ia_arr T.un54 T.sz45 rfl rfl (by omega) (by omega)).pl (by kernel_rfl) (pkc (by repeat (first | exact pk_head _ _ | apply pk_tail)) (pkn _)) ?_
      refine H_take (i := 3) (some 51) rfl rfl (by kernel_rfl) (by kernel_rfl) (by kernel_rfl) rfl (pl_load1 (b := b4) (v := w32 x) (by repeat (first | exact pk_head _ _ | apply pk_tail)) T.ag45 rfl hl1) (by kernel_rfl) (pkc (by repeat (first | exact pk_head _ _ | apply pk_tail)) (pkn _)) ?_
      refine H_take (i := 4) (some 52) rfl rfl (by kernel_rfl) (by kernel_rfl) (by kernel_rfl) rfl (ps_move rfl).pl (by kernel_rfl) (pkc (by repeat (first | exact pk_head _ _ | apply pk_tail)) (pkn _)) ?_
      refine H_take (i := 5) (some 53) rfl rfl (by kernel_rfl) (by kernel_rfl) (by kernel_rfl) rfl (ps_to (u := .int .i64 ((i + 14 : Nat) : Int)) (congrArg _ (by omega)) (ps_sub_i64 rfl rfl (by omega) (by omega))).pl (by kernel_rfl) (pkc (by repeat (first | exact pk_head _ _ | apply pk_tail)) (pkn _)) ?_
      refine H_take (i := 6) (some 54) rfl rfl (by kernel_rfl) (by kernel_rfl) (by kernel_rfl) rfl (ps_ia_arr T.un54 T.sz45 rfl rfl (by omega) (by omega)).pl (by kernel_rfl) (pkc (by repeat (first | exact pk_head _ _ | apply pk_tail)) (pkn _)) ?_
      refine H_take (i := 7) (some 55) rfl rfl (by kernel_rfl) (by kernel_rfl) (by kernel_rfl) rfl (pl_load1 (b := b4) (v := w32 y) (by repeat (first | exact pk_head _ _ | apply pk_tail)) T.ag45 rfl hl14) (by kernel_rfl) (pkc (by repeat (first | exact pk_head _ _ | apply pk_tail)) (pkn _)) ?_
      refine H_take (i := 8) (some 9) rfl rfl (by kernel_rfl) (by kernel_rfl) (by kernel_rfl) rfl (ps_assign rfl).pl (by kernel_rfl) (pkc (by repeat (first | exact pk_head _ _ | apply pk_tail)) (pkn _)) ?_
      refine H_take (i := 9) (some 10) rfl rfl (by kernel_rfl) (by kernel_rfl) (by kernel_rfl) rfl (ps_assign rfl).pl (by kernel_rfl) (pkc (by repeat (first | exact pk_head _ _ | apply pk_tail)) (pkn _)) ?_
      refine H_done (by kernel_rfl) ?_
      exact Meet.cut () trivial (by repeat (first | (with_reducible exact Ag.refl _ _) | (with_reducible apply Ag.pu0) | ((with_reducible refine Ag.pu _ ?_ ?_); · exact rfl) | ((with_reducible refine Ag.mix ?_ ?_); · exact rfl) | ((with_reducible refine Ag.pus ?_ ?_); · exact rfl))) ⟨rfl, rfl, trivial⟩ (by repeat (first | exact Ent.refl _ | (apply Ent.cons; · repeat (first | exact pk_head _ _ | apply pk_tail)) | apply Ent.skip))
    intro _ _ _
    repeat (first | refine CW.seq ?_ | refine PW.then_ ?_ | refine PW.then_to rfl ?_ | refine CW.block ?_ | refine CW.skip ?_ | refine CW.ret ?_ | refine PW.then_ret ?_ | refine PW.block_ret ?_ | refine Cut.ret ?_ | refine Rnd.ret ?_ | refine PW.block_normal ?_ | refine CW.exit ?_ | refine PW.then_exit ?_ | refine PW.block_hit ?_ | refine PW.block_miss rfl ?_ | refine Cut.exit ?_ | refine Rnd.exit ?_)
    refine CW.cutB (α := Unit) [56, 57, 58, 59, 60, 61, 62, 63, 64, 65, 66, 67, 68, 69, 70, 71, 72, 73, 74, 75, 76, 77, 78, 79, 80, 81, 82, 83, 84] (fun _ => True) (fun _ => []) (fun _ => cb b4 54 (wv w') :: cb p 50 (wv H) :: B :: E :: F) ?_ ?_
    · refine CW.drawH [cb b4 54 (wv w)] [28, 29] T.mixed ?_
      refine H_take (i := 0) (some 56) rfl rfl (by kernel_rfl) (by kernel_rfl) (by kernel_rfl) rfl (ps_move rfl).pl (by kernel_rfl) (pkc (by repeat (first | exact pk_head _ _ | apply pk_tail)) (pkn _)) ?_
      refine H_take (i := 1) (some 57) rfl rfl (by kernel_rfl) (by kernel_rfl) (by kernel_rfl) rfl (ps_move rfl).pl (by kernel_rfl) (pkc (by repeat (first | exact pk_head _ _ | apply pk_tail)) (pkn _)) ?_
      refine H_take (i := 2) (some 58) rfl rfl (by kernel_rfl) (by kernel_rfl) (by kernel_rfl) rfl (ps_to (u := .int .i64 ((i : Nat) : Int)) (congrArg _ (by omega)) (ps_sub_i64 rfl rfl (by omega) (by omega))).pl (by kernel_rfl) (pkc (by repeat (first | exact pk_head _ _ | apply pk_tail)) (pkn _)) ?_
      refine H_take (i := 3) (some 59) rfl rfl (by kernel_rfl) (by kernel_rfl) (by kernel_rfl) rfl (ps_ia_arr T.un54 T.sz45 rfl rfl (by omega) (by omega)).pl (by kernel_rfl) (pkc (by repeat (first | exact pk_head _ _ | apply pk_tail)) (pkn _)) ?_
      refine H_take (i := 4) (some 60) rfl rfl (by kernel_rfl) (by kernel_rfl) (by kernel_rfl) rfl (pl_load1 (b := b4) (v := w32 x0) (by repeat (first | exact pk_head _ _ | apply pk_tail)) T.ag45 rfl hl0) (by kernel_rfl) (pkc (by repeat (first | exact pk_head _ _ | apply pk_tail)) (pkn _)) ?_
      refine H_take (i := 5) (some 61) rfl rfl (by kernel_rfl) (by kernel_rfl) (by kernel_rfl) rfl (ps_move rfl).pl (by kernel_rfl) (pkc (by repeat (first | exact pk_head _ _ | apply pk_tail)) (pkn _)) ?_
      refine H_take (i := 7) (some 63) rfl rfl (by kernel_rfl) (by kernel_rfl) (by kernel_rfl) rfl (ps_move rfl).pl (by kernel_rfl) (pkc (by repeat (first | exact pk_head _ _ | apply pk_tail)) (pkn _)) ?_
      refine H_take (i := 10) (some 66) rfl rfl (by kernel_rfl) (by kernel_rfl) (by kernel_rfl) rfl (ps_move rfl).pl (by kernel_rfl) (pkc (by repeat (first | exact pk_head _ _ | apply pk_tail)) (pkn _)) ?_
      refine H_take (i := 11) (some 67) rfl rfl (by kernel_rfl) (by kernel_rfl) (by kernel_rfl) rfl (ps32_shr x 3 rfl rfl rfl (by decide)).pl (by kernel_rfl) (pkc (by repeat (first | exact pk_head _ _ | apply pk_tail)) (pkn _)) ?_
      refine H_take (i := 14) (some 70) rfl rfl (by kernel_rfl) (by kernel_rfl) (by kernel_rfl) rfl (ps_move rfl).pl (by kernel_rfl) (pkc (by repeat (first | exact pk_head _ _ | apply pk_tail)) (pkn _)) ?_
      refine H_take (i := 15) (some 71) rfl rfl (by kernel_rfl) (by kernel_rfl) (by kernel_rfl) rfl (ps_to (u := .int .i64 ((i + 9 : Nat) : Int)) (congrArg _ (by omega)) (ps_sub_i64 rfl rfl (by omega) (by omega))).pl (by kernel_rfl) (pkc (by repeat (first | exact pk_head _ _ | apply pk_tail)) (pkn _)) ?_
      refine H_take (i := 16) (some 72) rfl rfl (by kernel_rfl) (by kernel_rfl) (by kernel_rfl) rfl (ps_ia_arr T.un54 T.sz45 rfl rfl (by omega) (by omega)).pl (by kernel_rfl) (pkc (by repeat (first | exact pk_head _ _ | apply pk_tail)) (pkn _)) ?_
      refine H_take (i := 17) (some 73) rfl rfl (by kernel_rfl) (by kernel_rfl) (by kernel_rfl) rfl (pl_load1 (b := b4) (v := w32 x9) (by repeat (first | exact pk_head _ _ | apply pk_tail)) T.ag45 rfl hl9) (by kernel_rfl) (pkc (by repeat (first | exact pk_head _ _ | apply pk_tail)) (pkn _)) ?_
      refine H_take (i := 19) (some 75) rfl rfl (by kernel_rfl) (by kernel_rfl) (by kernel_rfl) rfl (ps_move rfl).pl (by kernel_rfl) (pkc (by repeat (first | exact pk_head _ _ | apply pk_tail)) (pkn _)) ?_
      refine H_take (i := 21) (some 77) rfl rfl (by kernel_rfl) (by kernel_rfl) (by kernel_rfl) rfl (ps_move rfl).pl (by kernel_rfl) (pkc (by repeat (first | exact pk_head _ _ | apply pk_tail)) (pkn _)) ?_
      refine H_take (i := 24) (some 80) rfl rfl (by kernel_rfl) (by kernel_rfl) (by kernel_rfl) rfl (ps_move rfl).pl (by kernel_rfl) (pkc (by repeat (first | exact pk_head _ _ | apply pk_tail)) (pkn _)) ?_
      refine H_take (i := 25) (some 81) rfl rfl (by kernel_rfl) (by kernel_rfl) (by kernel_rfl) rfl (ps32_shr y 10 rfl rfl rfl (by decide)).pl (by kernel_rfl) (pkc (by repeat (first | exact pk_head _ _ | apply pk_tail)) (pkn _)) ?_
      refine H_branch (rs := [6]) (by kernel_rfl) (by simp) ?_
      refine HR.cons1 (i := 6) (some 62) rfl rfl rfl (os_call0 (turn_spec x 7 (by decide) (by decide)) Tryd.func19 (by decide +kernel) rfl rfl) (pkc (by repeat (first | exact pk_head _ _ | apply pk_tail)) (pkn _)) ?_ ?_
      · skip
        refine H_branch (rs := [8]) (by kernel_rfl) (by simp) ?_
        refine HR.cons1 (i := 8) (some 64) rfl rfl rfl (os_call0 (turn_spec x 18 (by decide) (by decide)) Tryd.func19 (by decide +kernel) rfl rfl) (pkc (by repeat (first | exact pk_head _ _ | apply pk_tail)) (pkn _)) ?_ ?_
        · skip
          refine H_take (i := 9) (some 65) rfl rfl (by kernel_rfl) (by kernel_rfl) (by kernel_rfl) rfl (ps32_xor _ _ rfl rfl).pl (by kernel_rfl) (pkc (by repeat (first | exact pk_head _ _ | apply pk_tail)) (pkn _)) ?_
          refine H_take (i := 12) (some 68) rfl rfl (by kernel_rfl) (by kernel_rfl) (by kernel_rfl) rfl (ps32_xor _ _ rfl rfl).pl (by kernel_rfl) (pkc (by repeat (first | exact pk_head _ _ | apply pk_tail)) (pkn _)) ?_
          refine H_take (i := 13) (some 69) rfl rfl (by kernel_rfl) (by kernel_rfl) (by kernel_rfl) rfl (ps32_add _ _ rfl rfl).pl (by kernel_rfl) (pkc (by repeat (first | exact pk_head _ _ | apply pk_tail)) (pkn _)) ?_
          refine H_take (i := 18) (some 74) rfl rfl (by kernel_rfl) (by kernel_rfl) (by kernel_rfl) rfl (ps32_add _ _ rfl rfl).pl (by kernel_rfl) (pkc (by repeat (first | exact pk_head _ _ | apply pk_tail)) (pkn _)) ?_
          refine H_branch (rs := [20]) (by kernel_rfl) (by simp) ?_
          refine HR.cons1 (i := 20) (some 76) rfl rfl rfl (os_call0 (turn_spec y 17 (by decide) (by decide)) Tryd.func19 (by decide +kernel) rfl rfl) (pkc (by repeat (first | exact pk_head _ _ | apply pk_tail)) (pkn _)) ?_ ?_
          · skip
            refine H_branch (rs := [22]) (by kernel_rfl) (by simp) ?_
            refine HR.cons1 (i := 22) (some 78) rfl rfl rfl (os_call0 (turn_spec y 19 (by decide) (by decide)) Tryd.func19 (by decide +kernel) rfl rfl) (pkc (by repeat (first | exact pk_head _ _ | apply pk_tail)) (pkn _)) ?_ ?_
            · skip
              refine H_take (i := 23) (some 79) rfl rfl (by kernel_rfl) (by kernel_rfl) (by kernel_rfl) rfl (ps32_xor _ _ rfl rfl).pl (by kernel_rfl) (pkc (by repeat (first | exact pk_head _ _ | apply pk_tail)) (pkn _)) ?_
              refine H_take (i := 26) (some 82) rfl rfl (by kernel_rfl) (by kernel_rfl) (by kernel_rfl) rfl (ps32_xor _ _ rfl rfl).pl (by kernel_rfl) (pkc (by repeat (first | exact pk_head _ _ | apply pk_tail)) (pkn _)) ?_
              refine H_take (i := 27) (some 83) rfl rfl (by kernel_rfl) (by kernel_rfl) (by kernel_rfl) rfl (ps32_add _ _ rfl rfl).pl (by kernel_rfl) (pkc (by repeat (first | exact pk_head _ _ | apply pk_tail)) (pkn _)) ?_
              refine H_takeP (i := 28) (some 84) rfl rfl (by kernel_rfl) (by kernel_rfl) (by kernel_rfl) rfl (ps_ia_arr T.un54 T.sz45 rfl rfl (by omega) (by omega)) (by decide) ?_
              refine H_branch (rs := [29]) (by kernel_rfl) (by simp) ?_
              refine HR.consL (i := 29) none rfl rfl rfl (os_cb hst <| os_store1 (b := b4) (by repeat (first | exact pk_head _ _ | apply pk_tail)) T.sz45 rfl rfl (by rfl) (by rw [length_wv, hwl]; omega)) (by decide) ?_ ?_
              · skip
                refine H_done (by kernel_rfl) ?_
                exact Meet.cut () trivial (by repeat (first | (with_reducible exact Ag.refl _ _) | (with_reducible apply Ag.pu0) | ((with_reducible refine Ag.pu _ ?_ ?_); · exact rfl) | ((with_reducible refine Ag.mix ?_ ?_); · exact rfl) | ((with_reducible refine Ag.pus ?_ ?_); · exact rfl))) (by exact trivial) (by repeat (first | exact Ent.refl _ | (apply Ent.cons; · repeat (first | exact pk_head _ _ | apply pk_tail)) | apply Ent.skip))
              exact HR.nil
            exact HR.nil
          exact HR.nil
        exact HR.nil
      exact HR.nil
    intro _ _ _
    repeat (first | refine CW.seq ?_ | refine PW.then_ ?_ | refine PW.then_to rfl ?_ | refine CW.block ?_ | refine CW.skip ?_ | refine CW.ret ?_ | refine PW.then_ret ?_ | refine PW.block_ret ?_ | refine Cut.ret ?_ | refine Rnd.ret ?_ | refine PW.block_normal ?_ | refine CW.exit ?_ | refine PW.then_exit ?_ | refine PW.block_hit ?_ | refine PW.block_miss rfl ?_ | refine Cut.exit ?_ | refine Rnd.exit ?_)
    refine CW.region ?_
    refine L1 (ps_move rfl).os ?_
    refine L1 (ps_to (u := .int .i64 ((16 + (i + 1) : Nat) : Int)) (congrArg _ (by omega)) (ps_add_i64 rfl rfl (by omega) (by omega))).os ?_
    refine L1 (ps_assign rfl).os ?_
    refine LW.nil ?_
    exact Meet.round (48 - (i + 1)) (i + 1) (by omega) ⟨hlt, rfl⟩ (by repeat (first | (with_reducible exact Ag.refl _ _) | (with_reducible apply Ag.pu0) | ((with_reducible refine Ag.pu _ ?_ ?_); · exact rfl) | ((with_reducible refine Ag.mix ?_ ?_); · exact rfl) | ((with_reducible refine Ag.pus ?_ ?_); · exact rfl))) ⟨rfl, trivial⟩ (by rw [hw']; exact (by repeat (first | exact Ent.refl _ | (apply Ent.cons; · repeat (first | exact pk_head _ _ | apply pk_tail)) | apply Ent.skip)))
  have hi48 : i = 48 := by omega
  subst hi48
  have hwl := w2_len bs 48
  have hbm : blockM H bs = List.zipWith (· + ·) H (rds H (w2 bs 48) 64) := rfl
  generalize w2 bs 48 = w at hwl hbm ⊢
  rw [hbm]
  refine CW.region ?_
  refine L1 (ps_move rfl).os ?_
  refine L1 (ps_f (ps_lss rfl rfl) (by omega)).os ?_
  refine LW.nil ?_
  repeat (first | refine CW.seq ?_ | refine PW.then_ ?_ | refine PW.then_to rfl ?_ | refine CW.block ?_ | refine CW.skip ?_ | refine CW.ret ?_ | refine PW.then_ret ?_ | refine PW.block_ret ?_ | refine Cut.ret ?_ | refine Rnd.ret ?_ | refine PW.block_normal ?_ | refine CW.exit ?_ | refine PW.then_exit ?_ | refine PW.block_hit ?_ | refine PW.block_miss rfl ?_ | refine Cut.exit ?_ | refine Rnd.exit ?_)
  refine CW.cond_false rfl ?_
  repeat (first | refine CW.seq ?_ | refine PW.then_ ?_ | refine PW.then_to rfl ?_ | refine CW.block ?_ | refine CW.skip ?_ | refine CW.ret ?_ | refine PW.then_ret ?_ | refine PW.block_ret ?_ | refine Cut.ret ?_ | refine Rnd.ret ?_ | refine PW.block_normal ?_ | refine CW.exit ?_ | refine PW.then_exit ?_ | refine PW.block_hit ?_ | refine PW.block_miss rfl ?_ | refine Cut.exit ?_ | refine Rnd.exit ?_)
  have hHv : (wv H).length = 8 := by rw [length_wv, hH]
  refine CW.region ?_
  refine L1 (ps_move rfl).os ?_
  refine L1 (ps_nil rfl).os ?_
  refine L1 (os_loadAll (b := p) (cs := wv H) (by repeat (first | exact pk_head _ _ | apply pk_tail)) T.ag50 (by rw [hHv]; exact T.sz50) rfl) ?_
  refine LE (os_alloc T.ti50) ?_
  rintro _ _ ⟨b11, rfl, rfl⟩
  refine L1 (os_storeAll (b := b11) (vs := wv H) (by repeat (first | exact pk_head _ _ | apply pk_tail)) (by rw [hHv]; exact T.sz50) rfl rfl (wv_one _) (by rw [hHv]; rfl)) ?_
  refine LW.nil ?_
  repeat (first | refine CW.seq ?_ | refine PW.then_ ?_ | refine PW.then_to rfl ?_ | refine CW.block ?_ | refine CW.skip ?_ | refine CW.ret ?_ | refine PW.then_ret ?_ | refine PW.block_ret ?_ | refine Cut.ret ?_ | refine Rnd.ret ?_ | refine PW.block_normal ?_ | refine CW.exit ?_ | refine PW.then_exit ?_ | refine PW.block_hit ?_ | refine PW.block_miss rfl ?_ | refine Cut.exit ?_ | refine Rnd.exit ?_)
  refine CW.region ?_
  refine L1 (ps_move rfl).os ?_
  refine LW.nil ?_
  repeat (first | refine CW.seq ?_ | refine PW.then_ ?_ | refine PW.then_to rfl ?_ | refine CW.block ?_ | refine CW.skip ?_ | refine CW.ret ?_ | refine PW.then_ret ?_ | refine PW.block_ret ?_ | refine Cut.ret ?_ | refine Rnd.ret ?_ | refine PW.block_normal ?_ | refine CW.exit ?_ | refine PW.then_exit ?_ | refine PW.block_hit ?_ | refine PW.block_miss rfl ?_ | refine Cut.exit ?_ | refine Rnd.exit ?_)
  refine CW.loopM (α := Nat) [12, 13, 14, 15, 16, 88, 89, 90, 91, 92, 93, 94, 95, 96, 97, 98, 99, 100, 101, 102, 103, 104, 105, 106, 107, 108, 109, 110, 111, 112, 113, 114, 115, 116, 117, 118, 119, 120, 121, 122, 123, 124, 125, 126, 127, 128, 129, 130, 131, 132, 133, 134, 135, 136, 137, 138, 139, 140, 141, 142, 143, 144, 145, 146, 147, 148, 149, 150, 151, 152, 153, 154, 155, 156, 157, 158, 159, 160, 161, 162, 163, 164, 165, 166, 167] (fun k i => i ≤ 64 ∧ k = 64 - i) (fun i => [(88, .int .i64 i)])
    (fun i => cb b11 50 (wv (rds H w i)) :: cb b4 54 (wv w) :: cb p 50 (wv H) :: B :: E :: F) 64 0 ⟨Nat.zero_le _, rfl⟩ ⟨rfl, trivial⟩ (by repeat (first | exact Ent.refl _ | (apply Ent.cons; · repeat (first | exact pk_head _ _ | apply pk_tail)) | apply Ent.skip)) ?_
  rintro k i g ⟨hi, hk⟩
  repeat (first | refine CW.seq ?_ | refine PW.then_ ?_ | refine PW.then_to rfl ?_ | refine CW.block ?_ | refine CW.skip ?_ | refine CW.ret ?_ | refine PW.then_ret ?_ | refine PW.block_ret ?_ | refine Cut.ret ?_ | refine Rnd.ret ?_ | refine PW.block_normal ?_ | refine CW.exit ?_ | refine PW.then_exit ?_ | refine PW.block_hit ?_ | refine PW.block_miss rfl ?_ | refine Cut.exit ?_ | refine Rnd.exit ?_)
  by_cases hlt : i < 64
  · have hsl := rds_len H w hH i
    have hsn : rds H w (i + 1) = rd1 (rds H w i) (roundsL.getD i 0) (w.getD i 0) := rfl
    have hlw := idx32 (l := w) (i := i) (by omega)
    have hlr := fun As Bs hp => Src.get (hE.rd As Bs hp) (wv_get (l := roundsL) (i := i) hlt)
    generalize rds H w i = s at hsl hsn ⊢
    generalize roundsL.getD i 0 = kr at hsn hlr
    generalize w.getD i 0 = ww at hsn hlw
    obtain ⟨a, b, c, d, e, f5, f6, f7, rfl⟩ : ∃ a b c d e f5 f6 f7, s = [a, b, c, d, e, f5, f6, f7] := by
      match s, hsl with
      | [a, b, c, d, e, f5, f6, f7], _ => exact ⟨a, b, c, d, e, f5, f6, f7, rfl⟩
    refine CW.region ?_
    refine L1 (ps_t (ps_lss rfl rfl) (by omega)).os ?_
    refine LW.nil ?_
    repeat (first | refine CW.seq ?_ | refine PW.then_ ?_ | refine PW.then_to rfl ?_ | refine CW.block ?_ | refine CW.skip ?_ | refine CW.ret ?_ | refine PW.then_ret ?_ | refine PW.block_ret ?_ | refine Cut.ret ?_ | refine Rnd.ret ?_ | refine PW.block_normal ?_ | refine CW.exit ?_ | refine PW.then_exit ?_ | refine PW.block_hit ?_ | refine PW.block_miss rfl ?_ | refine Cut.exit ?_ | refine Rnd.exit ?_)
    refine CW.cond_true rfl ?_
    repeat (first | refine CW.seq ?_ | refine PW.then_ ?_ | refine PW.then_to rfl ?_ | refine CW.block ?_ | refine CW.skip ?_ | refine CW.ret ?_ | refine PW.then_ret ?_ | refine PW.block_ret ?_ | refine Cut.ret ?_ | refine Rnd.ret ?_ | refine PW.block_normal ?_ | refine CW.exit ?_ | refine PW.then_exit ?_ | refine PW.block_hit ?_ | refine PW.block_miss rfl ?_ | refine Cut.exit ?_ | refine Rnd.exit ?_)
    refine CW.region ?_
    refine L1 (ps_move rfl).os ?_
    refine L1 (ps_assign rfl).os ?_
    refine LW.nil ?_
    repeat (first | refine CW.seq ?_ | refine PW.then_ ?_ | refine PW.then_to rfl ?_ | refine CW.block ?_ | refine CW.skip ?_ | refine CW.ret ?_ | refine PW.then_ret ?_ | refine PW.block_ret ?_ | refine Cut.ret ?_ | refine Rnd.ret ?_ | refine PW.block_normal ?_ | refine CW.exit ?_ | refine PW.then_exit ?_ | refine PW.block_hit ?_ | refine PW.block_miss rfl ?_ | refine Cut.exit ?_ | refine Rnd.exit ?_)
    refine CW.cutB (α := Unit) [13, 14, 91, 92, 93, 94] (fun _ => True) (fun _ => [(13, w32 a), (14, w32 e)]) (fun _ => cb b11 50 (wv [a, b, c, d, e, f5, f6, f7]) :: cb b4 54 (wv w) :: cb p 50 (wv H) :: B :: E :: F) ?_ ?_
    · refine CW.drawH [cb b11 50 (wv [a, b, c, d, e, f5, f6, f7])] [] T.mixed ?_
      refine H_take (i := 0) (some 91) rfl rfl (by kernel_rfl) (by kernel_rfl) (by kernel_rfl) rfl (ps_ia_arr T.un50 T.sz45 rfl rfl (by decide) (by decide)).pl (by kernel_rfl) (pkc (by repeat (first | exact pk_head _ _ | apply pk_tail)) (pkn _)) ?_
      refine H_take (i := 1) (some 92) rfl rfl (by kernel_rfl) (by kernel_rfl) (by kernel_rfl) rfl (pl_load1 (by repeat (first | exact pk_head _ _ | apply pk_tail)) T.ag45 rfl (by rfl)) (by kernel_rfl) (pkc (by repeat (first | exact pk_head _ _ | apply pk_tail)) (pkn _)) ?_
      refine H_take (i := 2) (some 93) rfl rfl (by kernel_rfl) (by kernel_rfl) (by kernel_rfl) rfl (ps_ia_arr T.un50 T.sz45 rfl rfl (by decide) (by decide)).pl (by kernel_rfl) (pkc (by repeat (first | exact pk_head _ _ | apply pk_tail)) (pkn _)) ?_
      refine H_take (i := 3) (some 94) rfl rfl (by kernel_rfl) (by kernel_rfl) (by kernel_rfl) rfl (pl_load1 (by repeat (first | exact pk_head _ _ | apply pk_tail)) T.ag45 rfl (by rfl)) (by kernel_rfl) (pkc (by repeat (first | exact pk_head _ _ | apply pk_tail)) (pkn _)) ?_
      refine H_take (i := 4) (some 13) rfl rfl (by kernel_rfl) (by kernel_rfl) (by kernel_rfl) rfl (ps_assign rfl).pl (by kernel_rfl) (pkc (by repeat (first | exact pk_head _ _ | apply pk_tail)) (pkn _)) ?_
      refine H_take (i := 5) (some 14) rfl rfl (by kernel_rfl) (by kernel_rfl) (by kernel_rfl) rfl (ps_assign rfl).pl (by kernel_rfl) (pkc (by repeat (first | exact pk_head _ _ | apply pk_tail)) (pkn _)) ?_
      refine H_done (by kernel_rfl) ?_
      exact Meet.cut () trivial (by repeat (first | (with_reducible exact Ag.refl _ _) | (with_reducible apply Ag.pu0) | ((with_reducible refine Ag.pu _ ?_ ?_); · exact rfl) | ((with_reducible refine Ag.mix ?_ ?_); · exact rfl) | ((with_reducible refine Ag.pus ?_ ?_); · exact rfl))) ⟨rfl, rfl, trivial⟩ (by repeat (first | exact Ent.refl _ | (apply Ent.cons; · repeat (first | exact pk_head _ _ | apply pk_tail)) | apply Ent.skip))
    intro _ _ _
    repeat (first | refine CW.seq ?_ | refine PW.then_ ?_ | refine PW.then_to rfl ?_ | refine CW.block ?_ | refine CW.skip ?_ | refine CW.ret ?_ | refine PW.then_ret ?_ | refine PW.block_ret ?_ | refine Cut.ret ?_ | refine Rnd.ret ?_ | refine PW.block_normal ?_ | refine CW.exit ?_ | refine PW.then_exit ?_ | refine PW.block_hit ?_ | refine PW.block_miss rfl ?_ | refine Cut.exit ?_ | refine Rnd.exit ?_)
    refine CW.cutB (α := Unit) [15, 95, 96, 97, 98, 99, 100, 101, 102, 103, 104, 105, 106, 107, 108, 109, 110, 111, 112, 113, 114, 115, 116, 117, 118, 119, 120, 121, 122, 123, 124] (fun _ => True) (fun _ => [(15, w32 (tOf [a, b, c, d, e, f5, f6, f7] kr ww))]) (fun _ => cb b11 50 (wv [a, b, c, d, e, f5, f6, f7]) :: cb b4 54 (wv w) :: cb p 50 (wv H) :: B :: E :: F) ?_ ?_
    · refine CW.drawH [cb b11 50 (wv [a, b, c, d, e, f5, f6, f7]), cb b4 54 (wv w), E] [] T.mixed ?_
      refine H_take (i := 0) (some 95) rfl rfl (by kernel_rfl) (by kernel_rfl) (by kernel_rfl) rfl (ps_ia_arr T.un50 T.sz45 rfl rfl (by decide) (by decide)).pl (by kernel_rfl) (pkc (by repeat (first | exact pk_head _ _ | apply pk_tail)) (pkc (by repeat (first | exact pk_head _ _ | apply pk_tail)) (pkc (by repeat (first | exact pk_head _ _ | apply pk_tail)) (pkn _)))) ?_
      refine H_take (i := 1) (some 96) rfl rfl (by kernel_rfl) (by kernel_rfl) (by kernel_rfl) rfl (pl_load1 (by repeat (first | exact pk_head _ _ | apply pk_tail)) T.ag45 rfl (by rfl)) (by kernel_rfl) (pkc (by repeat (first | exact pk_head _ _ | apply pk_tail)) (pkc (by repeat (first | exact pk_head _ _ | apply pk_tail)) (pkc (by repeat (first | exact pk_head _ _ | apply pk_tail)) (pkn _)))) ?_
      refine H_take (i := 2) (some 97) rfl rfl (by kernel_rfl) (by kernel_rfl) (by kernel_rfl) rfl (ps_move rfl).pl (by kernel_rfl) (pkc (by repeat (first | exact pk_head _ _ | apply pk_tail)) (pkc (by repeat (first | exact pk_head _ _ | apply pk_tail)) (pkc (by repeat (first | exact pk_head _ _ | apply pk_tail)) (pkn _)))) ?_
      refine H_take (i := 4) (some 99) rfl rfl (by kernel_rfl) (by kernel_rfl) (by kernel_rfl) rfl (ps_move rfl).pl (by kernel_rfl) (pkc (by repeat (first | exact pk_head _ _ | apply pk_tail)) (pkc (by repeat (first | exact pk_head _ _ | apply pk_tail)) (pkc (by repeat (first | exact pk_head _ _ | apply pk_tail)) (pkn _)))) ?_
      refine H_take (i := 7) (some 102) rfl rfl (by kernel_rfl) (by kernel_rfl) (by kernel_rfl) rfl (ps_move rfl).pl (by kernel_rfl) (pkc (by repeat (first | exact pk_head _ _ | apply pk_tail)) (pkc (by repeat (first | exact pk_head _ _ | apply pk_tail)) (pkc (by repeat (first | exact pk_head _ _ | apply pk_tail)) (pkn _)))) ?_
      refine H_take (i := 11) (some 106) rfl rfl (by kernel_rfl) (by kernel_rfl) (by kernel_rfl) rfl (ps_move rfl).pl (by kernel_rfl) (pkc (by repeat (first | exact pk_head _ _ | apply pk_tail)) (pkc (by repeat (first | exact pk_head _ _ | apply pk_tail)) (pkc (by repeat (first | exact pk_head _ _ | apply pk_tail)) (pkn _)))) ?_
      refine H_take (i := 12) (some 107) rfl rfl (by kernel_rfl) (by kernel_rfl) (by kernel_rfl) rfl (ps_ia_arr T.un50 T.sz45 rfl rfl (by decide) (by decide)).pl (by kernel_rfl) (pkc (by repeat (first | exact pk_head _ _ | apply pk_tail)) (pkc (by repeat (first | exact pk_head _ _ | apply pk_tail)) (pkc (by repeat (first | exact pk_head _ _ | apply pk_tail)) (pkn _)))) ?_
      refine H_take (i := 13) (some 108) rfl rfl (by kernel_rfl) (by kernel_rfl) (by kernel_rfl) rfl (pl_load1 (by repeat (first | exact pk_head _ _ | apply pk_tail)) T.ag45 rfl (by rfl)) (by kernel_rfl) (pkc (by repeat (first | exact pk_head _ _ | apply pk_tail)) (pkc (by repeat (first | exact pk_head _ _ | apply pk_tail)) (pkc (by repeat (first | exact pk_head _ _ | apply pk_tail)) (pkn _)))) ?_
      refine H_take (i := 14) (some 109) rfl rfl (by kernel_rfl) (by kernel_rfl) (by kernel_rfl) rfl (ps32_and _ _ rfl rfl).pl (by kernel_rfl) (pkc (by repeat (first | exact pk_head _ _ | apply pk_tail)) (pkc (by repeat (first | exact pk_head _ _ | apply pk_tail)) (pkc (by repeat (first | exact pk_head _ _ | apply pk_tail)) (pkn _)))) ?_
      refine H_take (i := 15) (some 110) rfl rfl (by kernel_rfl) (by kernel_rfl) (by kernel_rfl) rfl (ps_move rfl).pl (by kernel_rfl) (pkc (by repeat (first | exact pk_head _ _ | apply pk_tail)) (pkc (by repeat (first | exact pk_head _ _ | apply pk_tail)) (pkc (by repeat (first | exact pk_head _ _ | apply pk_tail)) (pkn _)))) ?_
      refine H_take (i := 16) (some 111) rfl rfl (by kernel_rfl) (by kernel_rfl) (by kernel_rfl) rfl (ps32_com _ rfl).pl (by kernel_rfl) (pkc (by repeat (first | exact pk_head _ _ | apply pk_tail)) (pkc (by repeat (first | exact pk_head _ _ | apply pk_tail)) (pkc (by repeat (first | exact pk_head _ _ | apply pk_tail)) (pkn _)))) ?_
      refine H_take (i := 17) (some 112) rfl rfl (by kernel_rfl) (by kernel_rfl) (by kernel_rfl) rfl (ps_ia_arr T.un50 T.sz45 rfl rfl (by decide) (by decide)).pl (by kernel_rfl) (pkc (by repeat (first | exact pk_head _ _ | apply pk_tail)) (pkc (by repeat (first | exact pk_head _ _ | apply pk_tail)) (pkc (by repeat (first | exact pk_head _ _ | apply pk_tail)) (pkn _)))) ?_
      refine H_take (i := 18) (some 113) rfl rfl (by kernel_rfl) (by kernel_rfl) (by kernel_rfl) rfl (pl_load1 (by repeat (first | exact pk_head _ _ | apply pk_tail)) T.ag45 rfl (by rfl)) (by kernel_rfl) (pkc (by repeat (first | exact pk_head _ _ | apply pk_tail)) (pkc (by repeat (first | exact pk_head _ _ | apply pk_tail)) (pkc (by repeat (first | exact pk_head _ _ | apply pk_tail)) (pkn _)))) ?_
      refine H_take (i := 19) (some 114) rfl rfl (by kernel_rfl) (by kernel_rfl) (by kernel_rfl) rfl (ps32_and _ _ rfl rfl).pl (by kernel_rfl) (pkc (by repeat (first | exact pk_head _ _ | apply pk_tail)) (pkc (by repeat (first | exact pk_head _ _ | apply pk_tail)) (pkc (by repeat (first | exact pk_head _ _ | apply pk_tail)) (pkn _)))) ?_
      refine H_take (i := 20) (some 115) rfl rfl (by kernel_rfl) (by kernel_rfl) (by kernel_rfl) rfl (ps32_xor _ _ rfl rfl).pl (by kernel_rfl) (pkc (by repeat (first | exact pk_head _ _ | apply pk_tail)) (pkc (by repeat (first | exact pk_head _ _ | apply pk_tail)) (pkc (by repeat (first | exact pk_head _ _ | apply pk_tail)) (pkn _)))) ?_
      refine H_take (i := 22) (some 117) rfl rfl (by kernel_rfl) (by kernel_rfl) (by kernel_rfl) rfl (ps_move rfl).pl (by kernel_rfl) (pkc (by repeat (first | exact pk_head _ _ | apply pk_tail)) (pkc (by repeat (first | exact pk_head _ _ | apply pk_tail)) (pkc (by repeat (first | exact pk_head _ _ | apply pk_tail)) (pkn _)))) ?_
      refine H_take (i := 23) (some 118) rfl rfl (by kernel_rfl) (by kernel_rfl) (by kernel_rfl) rfl (ps_to (u := .pointer (some ⟨1, 0 + i, none⟩)) (by simp) (ps_ia_arr T.un54 T.sz45 rfl rfl (by omega) (by omega))).pl (by kernel_rfl) (pkc (by repeat (first | exact pk_head _ _ | apply pk_tail)) (pkc (by repeat (first | exact pk_head _ _ | apply pk_tail)) (pkc (by repeat (first | exact pk_head _ _ | apply pk_tail)) (pkn _)))) ?_
      refine H_take (i := 24) (some 119) rfl rfl (by kernel_rfl) (by kernel_rfl) (by kernel_rfl) rfl (pl_loadS1 (v := w32 kr) (fun Bs => hlr _ _ (by repeat (first | exact pk_head _ _ | apply pk_tail))) T.ag45 rfl) (by kernel_rfl) (pkc (by repeat (first | exact pk_head _ _ | apply pk_tail)) (pkc (by repeat (first | exact pk_head _ _ | apply pk_tail)) (pkc (by repeat (first | exact pk_head _ _ | apply pk_tail)) (pkn _)))) ?_
      refine H_take (i := 26) (some 121) rfl rfl (by kernel_rfl) (by kernel_rfl) (by kernel_rfl) rfl (ps_move rfl).pl (by kernel_rfl) (pkc (by repeat (first | exact pk_head _ _ | apply pk_tail)) (pkc (by repeat (first | exact pk_head _ _ | apply pk_tail)) (pkc (by repeat (first | exact pk_head _ _ | apply pk_tail)) (pkn _)))) ?_
      refine H_take (i := 27) (some 122) rfl rfl (by kernel_rfl) (by kernel_rfl) (by kernel_rfl) rfl (ps_ia_arr T.un54 T.sz45 rfl rfl (by omega) (by omega)).pl (by kernel_rfl) (pkc (by repeat (first | exact pk_head _ _ | apply pk_tail)) (pkc (by repeat (first | exact pk_head _ _ | apply pk_tail)) (pkc (by repeat (first | exact pk_head _ _ | apply pk_tail)) (pkn _)))) ?_
      refine H_take (i := 28) (some 123) rfl rfl (by kernel_rfl) (by kernel_rfl) (by kernel_rfl) rfl (pl_load1 (b := b4) (v := w32 ww) (by repeat (first | exact pk_head _ _ | apply pk_tail)) T.ag45 rfl hlw) (by kernel_rfl) (pkc (by repeat (first | exact pk_head _ _ | apply pk_tail)) (pkc (by repeat (first | exact pk_head _ _ | apply pk_tail)) (pkc (by repeat (first | exact pk_head _ _ | apply pk_tail)) (pkn _)))) ?_
      refine H_branch (rs := [3]) (by kernel_rfl) (by simp) ?_
      refine HR.cons1 (i := 3) (some 98) rfl rfl rfl (os_call0 (turn_spec e 6 (by decide) (by decide)) Tryd.func19 (by decide +kernel) rfl rfl) (pkc (by repeat (first | exact pk_head _ _ | apply pk_tail)) (pkc (by repeat (first | exact pk_head _ _ | apply pk_tail)) (pkc (by repeat (first | exact pk_head _ _ | apply pk_tail)) (pkn _)))) ?_ ?_
      · skip
        refine H_branch (rs := [5]) (by kernel_rfl) (by simp) ?_
        refine HR.cons1 (i := 5) (some 100) rfl rfl rfl (os_call0 (turn_spec e 11 (by decide) (by decide)) Tryd.func19 (by decide +kernel) rfl rfl) (pkc (by repeat (first | exact pk_head _ _ | apply pk_tail)) (pkc (by repeat (first | exact pk_head _ _ | apply pk_tail)) (pkc (by repeat (first | exact pk_head _ _ | apply pk_tail)) (pkn _)))) ?_ ?_
        · skip
          refine H_take (i := 6) (some 101) rfl rfl (by kernel_rfl) (by kernel_rfl) (by kernel_rfl) rfl (ps32_xor _ _ rfl rfl).pl (by kernel_rfl) (pkc (by repeat (first | exact pk_head _ _ | apply pk_tail)) (pkc (by repeat (first | exact pk_head _ _ | apply pk_tail)) (pkc (by repeat (first | exact pk_head _ _ | apply pk_tail)) (pkn _)))) ?_
          refine H_branch (rs := [8]) (by kernel_rfl) (by simp) ?_
          refine HR.cons1 (i := 8) (some 103) rfl rfl rfl (os_call0 (turn_spec e 25 (by decide) (by decide)) Tryd.func19 (by decide +kernel) rfl rfl) (pkc (by repeat (first | exact pk_head _ _ | apply pk_tail)) (pkc (by repeat (first | exact pk_head _ _ | apply pk_tail)) (pkc (by repeat (first | exact pk_head _ _ | apply pk_tail)) (pkn _)))) ?_ ?_
          · skip
            refine H_take (i := 9) (some 104) rfl rfl (by kernel_rfl) (by kernel_rfl) (by kernel_rfl) rfl (ps32_xor _ _ rfl rfl).pl (by kernel_rfl) (pkc (by repeat (first | exact pk_head _ _ | apply pk_tail)) (pkc (by repeat (first | exact pk_head _ _ | apply pk_tail)) (pkc (by repeat (first | exact pk_head _ _ | apply pk_tail)) (pkn _)))) ?_
            refine H_take (i := 10) (some 105) rfl rfl (by kernel_rfl) (by kernel_rfl) (by kernel_rfl) rfl (ps32_add _ _ rfl rfl).pl (by kernel_rfl) (pkc (by repeat (first | exact pk_head _ _ | apply pk_tail)) (pkc (by repeat (first | exact pk_head _ _ | apply pk_tail)) (pkc (by repeat (first | exact pk_head _ _ | apply pk_tail)) (pkn _)))) ?_
            refine H_take (i := 21) (some 116) rfl rfl (by kernel_rfl) (by kernel_rfl) (by kernel_rfl) rfl (ps32_add _ _ rfl rfl).pl (by kernel_rfl) (pkc (by repeat (first | exact pk_head _ _ | apply pk_tail)) (pkc (by repeat (first | exact pk_head _ _ | apply pk_tail)) (pkc (by repeat (first | exact pk_head _ _ | apply pk_tail)) (pkn _)))) ?_
            refine H_take (i := 25) (some 120) rfl rfl (by kernel_rfl) (by kernel_rfl) (by kernel_rfl) rfl (ps32_add _ _ rfl rfl).pl (by kernel_rfl) (pkc (by repeat (first | exact pk_head _ _ | apply pk_tail)) (pkc (by repeat (first | exact pk_head _ _ | apply pk_tail)) (pkc (by repeat (first | exact pk_head _ _ | apply pk_tail)) (pkn _)))) ?_
            refine H_take (i := 29) (some 124) rfl rfl (by kernel_rfl) (by kernel_rfl) (by kernel_rfl) rfl (ps32_add _ _ rfl rfl).pl (by kernel_rfl) (pkc (by repeat (first | exact pk_head _ _ | apply pk_tail)) (pkc (by repeat (first | exact pk_head _ _ | apply pk_tail)) (pkc (by repeat (first | exact pk_head _ _ | apply pk_tail)) (pkn _)))) ?_
            refine H_take (i := 30) (some 15) rfl rfl (by kernel_rfl) (by kernel_rfl) (by kernel_rfl) rfl (ps_assign rfl).pl (by kernel_rfl) (pkc (by repeat (first | exact pk_head _ _ | apply pk_tail)) (pkc (by repeat (first | exact pk_head _ _ | apply pk_tail)) (pkc (by repeat (first | exact pk_head _ _ | apply pk_tail)) (pkn _)))) ?_
            refine H_done (by kernel_rfl) ?_
            exact Meet.cut () trivial (by repeat (first | (with_reducible exact Ag.refl _ _) | (with_reducible apply Ag.pu0) | ((with_reducible refine Ag.pu _ ?_ ?_); · exact rfl) | ((with_reducible refine Ag.mix ?_ ?_); · exact rfl) | ((with_reducible refine Ag.pus ?_ ?_); · exact rfl))) ⟨rfl, trivial⟩ (by repeat (first | exact Ent.refl _ | (apply Ent.cons; · repeat (first | exact pk_head _ _ | apply pk_tail)) | apply Ent.skip))
          exact HR.nil
        exact HR.nil
      exact HR.nil
    intro _ _ _
    repeat (first | refine CW.seq ?_ | refine PW.then_ ?_ | refine PW.then_to rfl ?_ | refine CW.block ?_ | refine CW.skip ?_ | refine CW.ret ?_ | refine PW.then_ret ?_ | refine PW.block_ret ?_ | refine Cut.ret ?_ | refine Rnd.ret ?_ | refine PW.block_normal ?_ | refine CW.exit ?_ | refine PW.then_exit ?_ | refine PW.block_hit ?_ | refine PW.block_miss rfl ?_ | refine Cut.exit ?_ | refine Rnd.exit ?_)
    refine CW.cutB (α := Unit) [16, 125, 126, 127, 128, 129, 130, 131, 132, 133, 134, 135, 136, 137, 138, 139, 140, 141, 142, 143, 144, 145, 146, 147, 148] (fun _ => True) (fun _ => [(16, w32 (uOf [a, b, c, d, e, f5, f6, f7]))]) (fun _ => cb b11 50 (wv [a, b, c, d, e, f5, f6, f7]) :: cb b4 54 (wv w) :: cb p 50 (wv H) :: B :: E :: F) ?_ ?_
    · refine CW.drawH [cb b11 50 (wv [a, b, c, d, e, f5, f6, f7])] [] T.mixed ?_
      refine H_take (i := 0) (some 125) rfl rfl (by kernel_rfl) (by kernel_rfl) (by kernel_rfl) rfl (ps_move rfl).pl (by kernel_rfl) (pkc (by repeat (first | exact pk_head _ _ | apply pk_tail)) (pkn _)) ?_
      refine H_take (i := 2) (some 127) rfl rfl (by kernel_rfl) (by kernel_rfl) (by kernel_rfl) rfl (ps_move rfl).pl (by kernel_rfl) (pkc (by repeat (first | exact pk_head _ _ | apply pk_tail)) (pkn _)) ?_
      refine H_take (i := 5) (some 130) rfl rfl (by kernel_rfl) (by kernel_rfl) (by kernel_rfl) rfl (ps_move rfl).pl (by kernel_rfl) (pkc (by repeat (first | exact pk_head _ _ | apply pk_tail)) (pkn _)) ?_
      refine H_take (i := 8) (some 133) rfl rfl (by kernel_rfl) (by kernel_rfl) (by kernel_rfl) rfl (ps_move rfl).pl (by kernel_rfl) (pkc (by repeat (first | exact pk_head _ _ | apply pk_tail)) (pkn _)) ?_
      refine H_take (i := 9) (some 134) rfl rfl (by kernel_rfl) (by kernel_rfl) (by kernel_rfl) rfl (ps_ia_arr T.un50 T.sz45 rfl rfl (by decide) (by decide)).pl (by kernel_rfl) (pkc (by repeat (first | exact pk_head _ _ | apply pk_tail)) (pkn _)) ?_
      refine H_take (i := 10) (some 135) rfl rfl (by kernel_rfl) (by kernel_rfl) (by kernel_rfl) rfl (pl_load1 (by repeat (first | exact pk_head _ _ | apply pk_tail)) T.ag45 rfl (by rfl)) (by kernel_rfl) (pkc (by repeat (first | exact pk_head _ _ | apply pk_tail)) (pkn _)) ?_
      refine H_take (i := 11) (some 136) rfl rfl (by kernel_rfl) (by kernel_rfl) (by kernel_rfl) rfl (ps32_and _ _ rfl rfl).pl (by kernel_rfl) (pkc (by repeat (first | exact pk_head _ _ | apply pk_tail)) (pkn _)) ?_
      refine H_take (i := 12) (some 137) rfl rfl (by kernel_rfl) (by kernel_rfl) (by kernel_rfl) rfl (ps_move rfl).pl (by kernel_rfl) (pkc (by repeat (first | exact pk_head _ _ | apply pk_tail)) (pkn _)) ?_
      refine H_take (i := 13) (some 138) rfl rfl (by kernel_rfl) (by kernel_rfl) (by kernel_rfl) rfl (ps_ia_arr T.un50 T.sz45 rfl rfl (by decide) (by decide)).pl (by kernel_rfl) (pkc (by repeat (first | exact pk_head _ _ | apply pk_tail)) (pkn _)) ?_
      refine H_take (i := 14) (some 139) rfl rfl (by kernel_rfl) (by kernel_rfl) (by kernel_rfl) rfl (pl_load1 (by repeat (first | exact pk_head _ _ | apply pk_tail)) T.ag45 rfl (by rfl)) (by kernel_rfl) (pkc (by repeat (first | exact pk_head _ _ | apply pk_tail)) (pkn _)) ?_
      refine H_take (i := 15) (some 140) rfl rfl (by kernel_rfl) (by kernel_rfl) (by kernel_rfl) rfl (ps32_and _ _ rfl rfl).pl (by kernel_rfl) (pkc (by repeat (first | exact pk_head _ _ | apply pk_tail)) (pkn _)) ?_
      refine H_take (i := 16) (some 141) rfl rfl (by kernel_rfl) (by kernel_rfl) (by kernel_rfl) rfl (ps32_xor _ _ rfl rfl).pl (by kernel_rfl) (pkc (by repeat (first | exact pk_head _ _ | apply pk_tail)) (pkn _)) ?_
      refine H_take (i := 17) (some 142) rfl rfl (by kernel_rfl) (by kernel_rfl) (by kernel_rfl) rfl (ps_ia_arr T.un50 T.sz45 rfl rfl (by decide) (by decide)).pl (by kernel_rfl) (pkc (by repeat (first | exact pk_head _ _ | apply pk_tail)) (pkn _)) ?_
      refine H_take (i := 18) (some 143) rfl rfl (by kernel_rfl) (by kernel_rfl) (by kernel_rfl) rfl (pl_load1 (by repeat (first | exact pk_head _ _ | apply pk_tail)) T.ag45 rfl (by rfl)) (by kernel_rfl) (pkc (by repeat (first | exact pk_head _ _ | apply pk_tail)) (pkn _)) ?_
      refine H_take (i := 19) (some 144) rfl rfl (by kernel_rfl) (by kernel_rfl) (by kernel_rfl) rfl (ps_ia_arr T.un50 T.sz45 rfl rfl (by decide) (by decide)).pl (by kernel_rfl) (pkc (by repeat (first | exact pk_head _ _ | apply pk_tail)) (pkn _)) ?_
      refine H_take (i := 20) (some 145) rfl rfl (by kernel_rfl) (by kernel_rfl) (by kernel_rfl) rfl (pl_load1 (by repeat (first | exact pk_head _ _ | apply pk_tail)) T.ag45 rfl (by rfl)) (by kernel_rfl) (pkc (by repeat (first | exact pk_head _ _ | apply pk_tail)) (pkn _)) ?_
      refine H_take (i := 21) (some 146) rfl rfl (by kernel_rfl) (by kernel_rfl) (by kernel_rfl) rfl (ps32_and _ _ rfl rfl).pl (by kernel_rfl) (pkc (by repeat (first | exact pk_head _ _ | apply pk_tail)) (pkn _)) ?_
      refine H_take (i := 22) (some 147) rfl rfl (by kernel_rfl) (by kernel_rfl) (by kernel_rfl) rfl (ps32_xor _ _ rfl rfl).pl (by kernel_rfl) (pkc (by repeat (first | exact pk_head _ _ | apply pk_tail)) (pkn _)) ?_
      refine H_branch (rs := [1]) (by kernel_rfl) (by simp) ?_
      refine HR.cons1 (i := 1) (some 126) rfl rfl rfl (os_call0 (turn_spec a 2 (by decide) (by decide)) Tryd.func19 (by decide +kernel) rfl rfl) (pkc (by repeat (first | exact pk_head _ _ | apply pk_tail)) (pkn _)) ?_ ?_
      · skip
        refine H_branch (rs := [3]) (by kernel_rfl) (by simp) ?_
        refine HR.cons1 (i := 3) (some 128) rfl rfl rfl (os_call0 (turn_spec a 13 (by decide) (by decide)) Tryd.func19 (by decide +kernel) rfl rfl) (pkc (by repeat (first | exact pk_head _ _ | apply pk_tail)) (pkn _)) ?_ ?_
        · skip
          refine H_take (i := 4) (some 129) rfl rfl (by kernel_rfl) (by kernel_rfl) (by kernel_rfl) rfl (ps32_xor _ _ rfl rfl).pl (by kernel_rfl) (pkc (by repeat (first | exact pk_head _ _ | apply pk_tail)) (pkn _)) ?_
          refine H_branch (rs := [6]) (by kernel_rfl) (by simp) ?_
          refine HR.cons1 (i := 6) (some 131) rfl rfl rfl (os_call0 (turn_spec a 22 (by decide) (by decide)) Tryd.func19 (by decide +kernel) rfl rfl) (pkc (by repeat (first | exact pk_head _ _ | apply pk_tail)) (pkn _)) ?_ ?_
          · skip
            refine H_take (i := 7) (some 132) rfl rfl (by kernel_rfl) (by kernel_rfl) (by kernel_rfl) rfl (ps32_xor _ _ rfl rfl).pl (by kernel_rfl) (pkc (by repeat (first | exact pk_head _ _ | apply pk_tail)) (pkn _)) ?_
            refine H_take (i := 23) (some 148) rfl rfl (by kernel_rfl) (by kernel_rfl) (by kernel_rfl) rfl (ps32_add _ _ rfl rfl).pl (by kernel_rfl) (pkc (by repeat (first | exact pk_head _ _ | apply pk_tail)) (pkn _)) ?_
            refine H_take (i := 24) (some 16) rfl rfl (by kernel_rfl) (by kernel_rfl) (by kernel_rfl) rfl (ps_assign rfl).pl (by kernel_rfl) (pkc (by repeat (first | exact pk_head _ _ | apply pk_tail)) (pkn _)) ?_
            refine H_done (by kernel_rfl) ?_
            exact Meet.cut () trivial (by repeat (first | (with_reducible exact Ag.refl _ _) | (with_reducible apply Ag.pu0) | ((with_reducible refine Ag.pu _ ?_ ?_); · exact rfl) | ((with_reducible refine Ag.mix ?_ ?_); · exact rfl) | ((with_reducible refine Ag.pus ?_ ?_); · exact rfl))) ⟨rfl, trivial⟩ (by repeat (first | exact Ent.refl _ | (apply Ent.cons; · repeat (first | exact pk_head _ _ | apply pk_tail)) | apply Ent.skip))
          exact HR.nil
        exact HR.nil
      exact HR.nil
    intro _ _ _
    repeat (first | refine CW.seq ?_ | refine PW.then_ ?_ | refine PW.then_to rfl ?_ | refine CW.block ?_ | refine CW.skip ?_ | refine CW.ret ?_ | refine PW.then_ret ?_ | refine PW.block_ret ?_ | refine Cut.ret ?_ | refine Rnd.ret ?_ | refine PW.block_normal ?_ | refine CW.exit ?_ | refine PW.then_exit ?_ | refine PW.block_hit ?_ | refine PW.block_miss rfl ?_ | refine Cut.exit ?_ | refine Rnd.exit ?_)
    refine CW.region ?_
    refine L1 (ps_move rfl).os ?_
    refine L1 (ps_move rfl).os ?_
    refine L1 (ps32_add _ _ rfl rfl).os ?_
    refine L1 (ps_move rfl).os ?_
    refine L1 (ps_ia_arr T.un50 T.sz45 rfl rfl (by decide) (by decide)).os ?_
    refine L1 (os_load1 (by repeat (first | exact pk_head _ _ | apply pk_tail)) T.ag45 rfl (by rfl)) ?_
    refine L1 (ps_ia_arr T.un50 T.sz45 rfl rfl (by decide) (by decide)).os ?_
    refine L1 (os_load1 (by repeat (first | exact pk_head _ _ | apply pk_tail)) T.ag45 rfl (by rfl)) ?_
    refine L1 (ps_ia_arr T.un50 T.sz45 rfl rfl (by decide) (by decide)).os ?_
    refine L1 (os_load1 (by repeat (first | exact pk_head _ _ | apply pk_tail)) T.ag45 rfl (by rfl)) ?_
    refine L1 (ps_move rfl).os ?_
    refine L1 (ps32_add _ _ rfl rfl).os ?_
    refine L1 (ps_move rfl).os ?_
    refine L1 (ps_ia_arr T.un50 T.sz45 rfl rfl (by decide) (by decide)).os ?_
    refine L1 (os_load1 (by repeat (first | exact pk_head _ _ | apply pk_tail)) T.ag45 rfl (by rfl)) ?_
    refine L1 (ps_ia_arr T.un50 T.sz45 rfl rfl (by decide) (by decide)).os ?_
    refine L1 (os_load1 (by repeat (first | exact pk_head _ _ | apply pk_tail)) T.ag45 rfl (by rfl)) ?_
    refine L1 (ps_to (u := .agg (wv (rd1 [a, b, c, d, e, f5, f6, f7] kr ww)).toArray) (by rfl) (ps_build (by rfl) (by kernel_rfl))).os ?_
    refine L1 (os_storeAll (b := b11) (vs := wv (rd1 [a, b, c, d, e, f5, f6, f7] kr ww)) (by repeat (first | exact pk_head _ _ | apply pk_tail)) (by exact T.sz50) rfl rfl (wv_one _) (by rfl)) ?_
    refine LW.nil ?_
    repeat (first | refine CW.seq ?_ | refine PW.then_ ?_ | refine PW.then_to rfl ?_ | refine CW.block ?_ | refine CW.skip ?_ | refine CW.ret ?_ | refine PW.then_ret ?_ | refine PW.block_ret ?_ | refine Cut.ret ?_ | refine Rnd.ret ?_ | refine PW.block_normal ?_ | refine CW.exit ?_ | refine PW.then_exit ?_ | refine PW.block_hit ?_ | refine PW.block_miss rfl ?_ | refine Cut.exit ?_ | refine Rnd.exit ?_)
    refine CW.region ?_
    refine L1 (ps_add_i64 rfl rfl (by omega) (by omega)).os ?_
    refine L1 (ps_move rfl).os ?_
    refine LW.nil ?_
    exact Meet.round (64 - (i + 1)) (i + 1) (by omega) ⟨hlt, rfl⟩ (by repeat (first | (with_reducible exact Ag.refl _ _) | (with_reducible apply Ag.pu0) | ((with_reducible refine Ag.pu _ ?_ ?_); · exact rfl) | ((with_reducible refine Ag.mix ?_ ?_); · exact rfl) | ((with_reducible refine Ag.pus ?_ ?_); · exact rfl))) ⟨rfl, trivial⟩ (by rw [hsn]; exact (by repeat (first | exact Ent.refl _ | (apply Ent.cons; · repeat (first | exact pk_head _ _ | apply pk_tail)) | apply Ent.skip)))
  have hi64 : i = 64 := by omega
  subst hi64
  have hsl := rds_len H w hH 64
  generalize rds H w 64 = s at hsl ⊢
  refine CW.region ?_
  refine L1 (ps_f (ps_lss rfl rfl) (by omega)).os ?_
  refine LW.nil ?_
  repeat (first | refine CW.seq ?_ | refine PW.then_ ?_ | refine PW.then_to rfl ?_ | refine CW.block ?_ | refine CW.skip ?_ | refine CW.ret ?_ | refine PW.then_ret ?_ | refine PW.block_ret ?_ | refine Cut.ret ?_ | refine Rnd.ret ?_ | refine PW.block_normal ?_ | refine CW.exit ?_ | refine PW.then_exit ?_ | refine PW.block_hit ?_ | refine PW.block_miss rfl ?_ | refine Cut.exit ?_ | refine Rnd.exit ?_)
  refine CW.cond_false rfl ?_
  repeat (first | refine CW.seq ?_ | refine PW.then_ ?_ | refine PW.then_to rfl ?_ | refine CW.block ?_ | refine CW.skip ?_ | refine CW.ret ?_ | refine PW.then_ret ?_ | refine PW.block_ret ?_ | refine Cut.ret ?_ | refine Rnd.ret ?_ | refine PW.block_normal ?_ | refine CW.exit ?_ | refine PW.then_exit ?_ | refine PW.block_hit ?_ | refine PW.block_miss rfl ?_ | refine Cut.exit ?_ | refine Rnd.exit ?_)
  refine CW.region ?_
  refine L1 (ps_move rfl).os ?_
  refine LW.nil ?_
  repeat (first | refine CW.seq ?_ | refine PW.then_ ?_ | refine PW.then_to rfl ?_ | refine CW.block ?_ | refine CW.skip ?_ | refine CW.ret ?_ | refine PW.then_ret ?_ | refine PW.block_ret ?_ | refine Cut.ret ?_ | refine Rnd.ret ?_ | refine PW.block_normal ?_ | refine CW.exit ?_ | refine PW.then_exit ?_ | refine PW.block_hit ?_ | refine PW.block_miss rfl ?_ | refine Cut.exit ?_ | refine Rnd.exit ?_)
  have hm0 : mixH H s 0 = H := by simp [mixH]
  refine CW.loopM (α := Nat) [17, 168, 169, 170, 171, 172, 173, 174, 175, 176, 177, 178, 179, 180, 181, 182] (fun k i => i ≤ 8 ∧ k = 8 - i) (fun i => [(168, .int .i64 i)])
    (fun i => cb p 50 (wv (mixH H s i)) :: cb b11 50 (wv s) :: B :: E :: F) 8 0 ⟨Nat.zero_le _, rfl⟩ ⟨rfl, trivial⟩ (by rw [hm0]; exact (by repeat (first | exact Ent.refl _ | (apply Ent.cons; · repeat (first | exact pk_head _ _ | apply pk_tail)) | apply Ent.skip))) ?_
  rintro k i g ⟨hi, hk⟩
  repeat (first | refine CW.seq ?_ | refine PW.then_ ?_ | refine PW.then_to rfl ?_ | refine CW.block ?_ | refine CW.skip ?_ | refine CW.ret ?_ | refine PW.then_ret ?_ | refine PW.block_ret ?_ | refine Cut.ret ?_ | refine Rnd.ret ?_ | refine PW.block_normal ?_ | refine CW.exit ?_ | refine PW.then_exit ?_ | refine PW.block_hit ?_ | refine PW.block_miss rfl ?_ | refine Cut.exit ?_ | refine Rnd.exit ?_)
  by_cases hlt : i < 8
  · have hml := mixH_len H s i hH hsl
    have hmg := mixH_get H s i hH hsl hlt
    have hms := mixH_set H s i hH hsl hlt
    have hl1 := idx32 (l := mixH H s i) (i := i) (by omega)
    have hl2 := idx32 (l := s) (i := i) (by omega)
    have hst := set32 (l := mixH H s i) (i := i) (H.getD i 0 + s.getD i 0)
    rw [hmg] at hl1
    rw [hms] at hst
    obtain ⟨h', hh'⟩ : ∃ h', mixH H s (i + 1) = h' := ⟨_, rfl⟩
    rw [hh'] at hst
    generalize mixH H s i = h at hml hl1 hst ⊢
    generalize H.getD i 0 = x at hl1 hst
    generalize s.getD i 0 = y at hl2 hst
    refine CW.region ?_
    refine L1 (ps_t (ps_lss rfl rfl) (by omega)).os ?_
    refine LW.nil ?_
    repeat (first | refine CW.seq ?_ | refine PW.then_ ?_ | refine PW.then_to rfl ?_ | refine CW.block ?_ | refine CW.skip ?_ | refine CW.ret ?_ | refine PW.then_ret ?_ | refine PW.block_ret ?_ | refine Cut.ret ?_ | refine Rnd.ret ?_ | refine PW.block_normal ?_ | refine CW.exit ?_ | refine PW.then_exit ?_ | refine PW.block_hit ?_ | refine PW.block_miss rfl ?_ | refine Cut.exit ?_ | refine Rnd.exit ?_)
    refine CW.cond_true rfl ?_
    repeat (first | refine CW.seq ?_ | refine PW.then_ ?_ | refine PW.then_to rfl ?_ | refine CW.block ?_ | refine CW.skip ?_ | refine CW.ret ?_ | refine PW.then_ret ?_ | refine PW.block_ret ?_ | refine Cut.ret ?_ | refine Rnd.ret ?_ | refine PW.block_normal ?_ | refine CW.exit ?_ | refine PW.then_exit ?_ | refine PW.block_hit ?_ | refine PW.block_miss rfl ?_ | refine Cut.exit ?_ | refine Rnd.exit ?_)
    refine CW.region ?_
    refine L1 (ps_move rfl).os ?_
    refine L1 (ps_assign rfl).os ?_
    refine LW.nil ?_
    repeat (first | refine CW.seq ?_ | refine PW.then_ ?_ | refine PW.then_to rfl ?_ | refine CW.block ?_ | refine CW.skip ?_ | refine CW.ret ?_ | refine PW.then_ret ?_ | refine PW.block_ret ?_ | refine Cut.ret ?_ | refine Rnd.ret ?_ | refine PW.block_normal ?_ | refine CW.exit ?_ | refine PW.then_exit ?_ | refine PW.block_hit ?_ | refine PW.block_miss rfl ?_ | refine Cut.exit ?_ | refine Rnd.exit ?_)
    refine CW.cutB (α := Unit) [171, 172, 173, 174, 175, 176, 177, 178, 179, 180, 181] (fun _ => True) (fun _ => []) (fun _ => cb p 50 (wv h') :: cb b11 50 (wv s) :: B :: E :: F) ?_ ?_
    · refine CW.drawH [cb b11 50 (wv s)] [] T.mixed ?_
      refine H_take (i := 0) (some 171) rfl rfl (by kernel_rfl) (by kernel_rfl) (by kernel_rfl) rfl (ps_move rfl).pl (by kernel_rfl) (pkc (by repeat (first | exact pk_head _ _ | apply pk_tail)) (pkn _)) ?_
      refine H_take (i := 1) (some 172) rfl rfl (by kernel_rfl) (by kernel_rfl) (by kernel_rfl) rfl (ps_move rfl).pl (by kernel_rfl) (pkc (by repeat (first | exact pk_head _ _ | apply pk_tail)) (pkn _)) ?_
      refine H_take (i := 2) (some 173) rfl rfl (by kernel_rfl) (by kernel_rfl) (by kernel_rfl) rfl (ps_nil rfl).pl (by kernel_rfl) (pkc (by repeat (first | exact pk_head _ _ | apply pk_tail)) (pkn _)) ?_
      refine H_take (i := 3) (some 174) rfl rfl (by kernel_rfl) (by kernel_rfl) (by kernel_rfl) rfl (ps_ia_arr T.un50 T.sz45 rfl rfl (by omega) (by omega)).pl (by kernel_rfl) (pkc (by repeat (first | exact pk_head _ _ | apply pk_tail)) (pkn _)) ?_
      refine H_take (i := 5) (some 176) rfl rfl (by kernel_rfl) (by kernel_rfl) (by kernel_rfl) rfl (ps_move rfl).pl (by kernel_rfl) (pkc (by repeat (first | exact pk_head _ _ | apply pk_tail)) (pkn _)) ?_
      refine H_take (i := 6) (some 177) rfl rfl (by kernel_rfl) (by kernel_rfl) (by kernel_rfl) rfl (ps_ia_arr T.un50 T.sz45 rfl rfl (by omega) (by omega)).pl (by kernel_rfl) (pkc (by repeat (first | exact pk_head _ _ | apply pk_tail)) (pkn _)) ?_
      refine H_take (i := 7) (some 178) rfl rfl (by kernel_rfl) (by kernel_rfl) (by kernel_rfl) rfl (pl_load1 (b := b11) (v := w32 y) (by repeat (first | exact pk_head _ _ | apply pk_tail)) T.ag45 rfl hl2) (by kernel_rfl) (pkc (by repeat (first | exact pk_head _ _ | apply pk_tail)) (pkn _)) ?_
      refine H_take (i := 9) (some 180) rfl rfl (by kernel_rfl) (by kernel_rfl) (by kernel_rfl) rfl (ps_nil rfl).pl (by kernel_rfl) (pkc (by repeat (first | exact pk_head _ _ | apply pk_tail)) (pkn _)) ?_
      refine H_branch (rs := [4]) (by kernel_rfl) (by simp) ?_
      refine HR.cons1 (i := 4) (some 175) rfl rfl rfl (os_load1 (b := p) (v := w32 x) (by repeat (first | exact pk_head _ _ | apply pk_tail)) T.ag45 rfl hl1) (pkc (by repeat (first | exact pk_head _ _ | apply pk_tail)) (pkn _)) ?_ ?_
      · skip
        refine H_take (i := 8) (some 179) rfl rfl (by kernel_rfl) (by kernel_rfl) (by kernel_rfl) rfl (ps32_add _ _ rfl rfl).pl (by kernel_rfl) (pkc (by repeat (first | exact pk_head _ _ | apply pk_tail)) (pkn _)) ?_
        refine H_take (i := 10) (some 181) rfl rfl (by kernel_rfl) (by kernel_rfl) (by kernel_rfl) rfl (ps_ia_arr T.un50 T.sz45 rfl rfl (by omega) (by omega)).pl (by kernel_rfl) (pkc (by repeat (first | exact pk_head _ _ | apply pk_tail)) (pkn _)) ?_
        refine H_branch (rs := [11]) (by kernel_rfl) (by simp) ?_
        refine HR.cons1 (i := 11) none rfl rfl rfl (os_cb hst <| os_store1 (b := p) (by repeat (first | exact pk_head _ _ | apply pk_tail)) T.sz45 rfl rfl (by rfl) (by rw [length_wv, hml]; omega)) (pkc (by repeat (first | exact pk_head _ _ | apply pk_tail)) (pkn _)) ?_ ?_
        · skip
          refine H_done (by kernel_rfl) ?_
          exact Meet.cut () trivial (by repeat (first | (with_reducible exact Ag.refl _ _) | (with_reducible apply Ag.pu0) | ((with_reducible refine Ag.pu _ ?_ ?_); · exact rfl) | ((with_reducible refine Ag.mix ?_ ?_); · exact rfl) | ((with_reducible refine Ag.pus ?_ ?_); · exact rfl))) (by exact trivial) (by repeat (first | exact Ent.refl _ | (apply Ent.cons; · repeat (first | exact pk_head _ _ | apply pk_tail)) | apply Ent.skip))
        exact HR.nil
      exact HR.nil
    intro _ _ _
    repeat (first | refine CW.seq ?_ | refine PW.then_ ?_ | refine PW.then_to rfl ?_ | refine CW.block ?_ | refine CW.skip ?_ | refine CW.ret ?_ | refine PW.then_ret ?_ | refine PW.block_ret ?_ | refine Cut.ret ?_ | refine Rnd.ret ?_ | refine PW.block_normal ?_ | refine CW.exit ?_ | refine PW.then_exit ?_ | refine PW.block_hit ?_ | refine PW.block_miss rfl ?_ | refine Cut.exit ?_ | refine Rnd.exit ?_)
    refine CW.region ?_
    refine L1 (ps_add_i64 rfl rfl (by omega) (by omega)).os ?_
    refine L1 (ps_move rfl).os ?_
    refine LW.nil ?_
    exact Meet.round (8 - (i + 1)) (i + 1) (by omega) ⟨hlt, rfl⟩ (by repeat (first | (with_reducible exact Ag.refl _ _) | (with_reducible apply Ag.pu0) | ((with_reducible refine Ag.pu _ ?_ ?_); · exact rfl) | ((with_reducible refine Ag.mix ?_ ?_); · exact rfl) | ((with_reducible refine Ag.pus ?_ ?_); · exact rfl))) ⟨rfl, trivial⟩ (by rw [hh']; exact (by repeat (first | exact Ent.refl _ | (apply Ent.cons; · repeat (first | exact pk_head _ _ | apply pk_tail)) | apply Ent.skip)))
  have hi8 : i = 8 := by omega
  subst hi8
  have hm8 : mixH H s 8 = List.zipWith (· + ·) H s := by
    unfold mixH
    rw [List.take_of_length_le (by rw [List.length_zipWith, hH, hsl]; decide), List.drop_of_length_le (by omega), List.append_nil]
  rw [hm8]
  refine CW.region ?_
  refine L1 (ps_f (ps_lss rfl rfl) (by omega)).os ?_
  refine LW.nil ?_
  repeat (first | refine CW.seq ?_ | refine PW.then_ ?_ | refine PW.then_to rfl ?_ | refine CW.block ?_ | refine CW.skip ?_ | refine CW.ret ?_ | refine PW.then_ret ?_ | refine PW.block_ret ?_ | refine Cut.ret ?_ | refine Rnd.ret ?_ | refine PW.block_normal ?_ | refine CW.exit ?_ | refine PW.then_exit ?_ | refine PW.block_hit ?_ | refine PW.block_miss rfl ?_ | refine Cut.exit ?_ | refine Rnd.exit ?_)
  refine CW.cond_false rfl ?_
  repeat (first | refine CW.seq ?_ | refine PW.then_ ?_ | refine PW.then_to rfl ?_ | refine CW.block ?_ | refine CW.skip ?_ | refine CW.ret ?_ | refine PW.then_ret ?_ | refine PW.block_ret ?_ | refine Cut.ret ?_ | refine Rnd.ret ?_ | refine PW.block_normal ?_ | refine CW.exit ?_ | refine PW.then_exit ?_ | refine PW.block_hit ?_ | refine PW.block_miss rfl ?_ | refine Cut.exit ?_ | refine Rnd.exit ?_)
  exact Fin.end0 rfl [_, _, _] rfl (by repeat (first | exact Ent.refl _ | (apply Ent.cons; · repeat (first | exact pk_head _ _ | apply pk_tail)) | apply Ent.skip))
end Go.Proofs.YtcfipblnaifbhaaDoor
