/- The law WireAny: any bytes are a request, whose bytes they are, or have an error: it answers true for all bytes (no condition). -/
import Derived.Test.YtpcjjchanjdkaaaReqQ
import Derived.Test.YtpcjjchanjdkaaaRows
namespace Go.Proofs.Ytpcjjchanjdkaaa
open Go Go.SL
set_option linter.unusedVariables false
set_option linter.unusedSimpArgs false

/-- A request's own tame form, one kind less. -/
theorem tame_back (q : RQ) (h : TameOk q) : tameQ ⟨q.kind - 1, q.accs, q.trs, q.id, q.fro, q.to, q.lim⟩ = q := by
  have hk : tameK (q.kind - 1) = q.kind := by have := h.kind; unfold tameK; omega
  have ha : q.accs.take 8 = q.accs := List.take_of_length_le h.la
  have ht : q.trs.take 8 = q.trs := List.take_of_length_le h.lt
  have fa : q.accs.map tameA = q.accs := by
    rw [List.map_congr_left (g := id)]
    · simp
    · intro a hm
      have := h.accs a hm
      obtain ⟨l1, l2⟩ := this.led
      obtain ⟨f1, f2⟩ := this.fl
      unfold tameA four
      rw [Int.emod_eq_of_lt l1 (by omega), Int.emod_eq_of_lt f1 (by omega)]; rfl
  have ft : q.trs.map tameT = q.trs := by
    rw [List.map_congr_left (g := id)]
    · simp
    · intro a hm
      have := h.trs a hm
      obtain ⟨l1, l2⟩ := this.led
      obtain ⟨f1, f2⟩ := this.fl
      obtain ⟨t1, t2⟩ := this.tim
      unfold tameT four
      rw [Int.emod_eq_of_lt l1 (by omega), Int.emod_eq_of_lt f1 (by omega), Int.emod_eq_of_lt t1 (by omega)]; rfl
  unfold tameQ
  dsimp only
  rw [hk, ha, ht, fa, ft]
  by_cases k1 : q.kind = 1
  · rw [if_pos k1, k1]; exact (h.k1 k1).symm
  rw [if_neg k1]
  by_cases k2 : q.kind = 2
  · rw [if_pos k2, k2]; exact (h.k2 k2).symm
  rw [if_neg k2]
  by_cases k3 : q.kind = 3
  · obtain ⟨e, l⟩ := h.k3 k3
    rw [if_pos k3, k3, show four q.fro = q.fro from Int.emod_eq_of_lt h.fro (by omega)]; exact e.symm
  rw [if_neg k3]
  by_cases k4 : q.kind = 4 ∨ q.kind = 5 ∨ q.kind = 7
  · rw [if_pos k4]; exact (h.k457 k4).symm
  rw [if_neg k4]
  by_cases k6 : q.kind = 6 ∨ q.kind = 8
  · obtain ⟨e, l1, l2⟩ := h.k68 k6
    obtain ⟨m1, m2⟩ := h.lim
    rw [if_pos k6, Int.emod_eq_of_lt h.fro (by omega), Int.emod_eq_of_lt h.to (by omega), Int.emod_eq_of_lt m1 (by omega)]; exact e.symm
  rw [if_neg k6]
  have k9 : q.kind = 9 := by have := h.kind; omega
  obtain ⟨e, l1, l2⟩ := h.k9 k9
  rw [k9, show four q.fro = q.fro from Int.emod_eq_of_lt h.fro (by omega), show four q.to = q.to from Int.emod_eq_of_lt h.to (by omega)]; exact e.symm
/-- Are these bytes too long a batch? -/
def longB (bs : List UInt8) : Bool := decide (1 < bs.length) && (decide ((bs.getD 0 0).toNat = 1) || decide ((bs.getD 0 0).toNat = 2)) && decide (8 < (bs.getD 1 0).toNat)
theorem rdBody_err (k : Nat) (s : RS) : (rdBody k s).2.1 = if (k = 1 ∨ k = 2) ∧ 8 < (rdn 1 s).1 then 2 else if 1 ≤ k ∧ k ≤ 9 then 0 else 1 := by
  unfold rdBody
  by_cases k1 : k = 1
  · rw [if_pos k1]
    by_cases h8 : 8 < (rdn 1 s).1
    · simp [h8, k1]
    · simp [h8, k1]
  rw [if_neg k1]
  by_cases k2 : k = 2
  · rw [if_pos k2]
    by_cases h8 : 8 < (rdn 1 s).1
    · simp [h8, k2]
    · simp [h8, k2]
  rw [if_neg k2, if_neg (by omega : ¬ ((k = 1 ∨ k = 2) ∧ 8 < (rdn 1 s).1))]
  by_cases k3 : k = 3
  · rw [if_pos k3, if_pos (by omega)]
  rw [if_neg k3]
  by_cases k4 : k = 4 ∨ k = 5 ∨ k = 7
  · rw [if_pos k4, if_pos (by omega)]
  rw [if_neg k4]
  by_cases k6 : k = 6 ∨ k = 8
  · rw [if_pos k6, if_pos (by omega)]
  rw [if_neg k6]
  by_cases k9 : k = 9
  · rw [if_pos k9, if_pos (by omega)]
  rw [if_neg k9, if_neg (by omega)]
theorem rdn1_c (c : UInt8) (l : List UInt8) : rdn 1 (c :: l, false) = (c.toNat, (l, false)) := by
  have := rdn_app 1 [c] l rfl
  simpa [num] using this
theorem rdn1_nil (b : Bool) : (rdn 1 ([], b)).1 = 0 := by cases b <;> rfl
/-- Bytes with an error: which. -/
theorem readReq_err {bs : List UInt8} {q : RQ} {e : Nat} (h : readReq bs = (q, e)) (he : e ≠ 0) : q = RQ.zero ∧ e = if longB bs = true then 2 else 1 := by
  have hz : ∀ k s, readReq bs = (let r := rdBody k s; if r.2.1 ≠ 0 then (RQ.zero, r.2.1) else if r.2.2.2 = true ∨ r.2.2.1 ≠ [] then (RQ.zero, 1) else (r.1, 0)) → q = RQ.zero ∧ e = if (rdBody k s).2.1 ≠ 0 then (rdBody k s).2.1 else 1 := by
    intro k s hr
    rw [h] at hr
    dsimp only at hr
    by_cases h1 : (rdBody k s).2.1 ≠ 0
    · rw [if_pos h1] at hr ⊢
      exact Prod.mk.inj hr
    · rw [if_neg h1] at hr ⊢
      by_cases h2 : (rdBody k s).2.2.2 = true ∨ (rdBody k s).2.2.1 ≠ []
      · rw [if_pos h2] at hr; exact Prod.mk.inj hr
      · rw [if_neg h2] at hr; exact absurd (Prod.mk.inj hr).2 he
  obtain ⟨z1, z2⟩ := hz _ _ rfl
  refine ⟨z1, z2.trans ?_⟩
  rw [rdBody_err]
  match bs with
  | [] => rfl
  | [c] =>
    have e1 := rdn1_c c []
    rw [e1]
    dsimp only
    rw [rdn1_nil]
    have hl : longB [c] = false := rfl
    rw [hl]
    simp
  | c :: d :: l =>
    have e1 := rdn1_c c (d :: l)
    have e2 := rdn1_c d l
    rw [e1]
    dsimp only
    rw [e2]
    dsimp only
    by_cases hl : (c.toNat = 1 ∨ c.toNat = 2) ∧ 8 < d.toNat
    · have : longB (c :: d :: l) = true := by simp [longB, hl.1, hl.2]
      rw [if_pos hl, this]; rfl
    · have : longB (c :: d :: l) = false := by
        rw [← Bool.not_eq_true]
        intro hx
        simp [longB] at hx
        exact hl ⟨hx.1, hx.2⟩
      rw [if_neg hl, this]
      by_cases h9 : 1 ≤ c.toNat ∧ c.toNat ≤ 9
      · rw [if_pos h9]; rfl
      · rw [if_neg h9]; rfl
theorem gaOf (l : List AccS) : l.map accCells = (l.map fun a => (a, accRest)).map fun x => gAcc x.1 x.2 := by
  rw [List.map_map]; rfl
theorem gtOf (l : List TrS) : l.map trCells = (l.map fun a => (a, trRest)).map fun x => gTr x.1 x.2 := by
  rw [List.map_map]; rfl
theorem accRest_ok : accRest.length = 42 ∧ ∀ u ∈ accRest, u.oneCell' = true := by
  refine ⟨rfl, fun u hu => ?_⟩
  simp only [accRest, List.mem_append, List.mem_cons, List.not_mem_nil, or_false, List.mem_replicate] at hu
  rcases hu with h | ⟨_, rfl⟩
  · rcases h with rfl | rfl | rfl | rfl | rfl | rfl | rfl | rfl | rfl | rfl <;> rfl
  · rfl
theorem trRest_ok : trRest.length = 3 ∧ ∀ u ∈ trRest, u.oneCell' = true := by
  refine ⟨rfl, fun u hu => ?_⟩
  simp only [trRest, List.mem_cons, List.not_mem_nil, or_false] at hu
  rcases hu with rfl | rfl | rfl <;> rfl
/-- Tame over a request that was read. -/
theorem Tame_read (A : Asn) (q : RQ) (av tv : Value) (h1 : RowsR A av 46 (q.accs.map accCells)) (h2 : RowsR A tv 16 (q.trs.map trCells)) :
    FSpec Try.prog 13 [.agg (rqCells q av tv).toArray] [A] (fun r As => ∃ av' tv' B, r = .agg (rqCells (tameQ q) av' tv').toArray ∧ As = [B, A] ∧ RowsR B av' 46 ((tameQ q).accs.map accCells) ∧ RowsR B tv' 16 ((tameQ q).trs.map trCells)) :=
  Tame_spec A q av tv (q.accs.map fun a => (a, accRest)) (q.trs.map fun a => (a, trRest)) (by simp [List.map_map, Function.comp_def]) (by simp [List.map_map, Function.comp_def]) (gaOf _ ▸ h1) (gtOf _ ▸ h2)
    (fun x hx => by obtain ⟨a, _, rfl⟩ := List.mem_map.1 hx; exact accRest_ok) (fun x hx => by obtain ⟨a, _, rfl⟩ := List.mem_map.1 hx; exact trRest_ok)
theorem WireAny_law (W : World) (v : Value) (bs : List UInt8) (hv : ByR (bag (blks W)) v bs) (hm : bs.length ≤ maxLen) : LawOf Try.prog 10 [v] W := by
  have hv0 := hv
  obtain ⟨vq, vc, rfl, hcap, -⟩ := hv0
  have hmm := hm
  unfold maxLen at hmm
  obtain ⟨q, e, hr⟩ : ∃ q e, readReq bs = (q, e) := ⟨_, _, rfl⟩
  refine FSpec.intro Try.func10 rfl 82 Try.ntmps10 (Nat.le_of_ble_eq_true rfl) fun w0 F => ?_
  show CW _ _ _ _ _ _ (_ :: F)
  repeat (first | refine CW.seq ?_ | refine PW.then_ ?_ | refine CW.block ?_ | refine CW.skip ?_ | refine CW.ret ?_ | refine PW.then_ret ?_ | refine PW.block_ret ?_ | refine Cut.ret ?_ | refine Rnd.ret ?_ | refine PW.block_normal ?_ | refine CW.exit ?_ | refine PW.then_exit ?_ | refine PW.block_hit ?_ | refine PW.block_miss rfl ?_ | refine Cut.exit ?_ | refine Rnd.exit ?_)
  refine CW.region ?_
  refine L1 (ps_assign rfl).os ?_
  refine LW.nil ?_
  repeat (first | refine CW.seq ?_ | refine PW.then_ ?_ | refine CW.block ?_ | refine CW.skip ?_ | refine CW.ret ?_ | refine PW.then_ret ?_ | refine PW.block_ret ?_ | refine Cut.ret ?_ | refine Rnd.ret ?_ | refine PW.block_normal ?_ | refine CW.exit ?_ | refine PW.then_exit ?_ | refine PW.block_hit ?_ | refine PW.block_miss rfl ?_ | refine Cut.exit ?_ | refine Rnd.exit ?_)
  refine CW.region ?_
  refine L1 (os_call0 fit_spec Try.func11 (by decide +kernel) rfl rfl) ?_
  refine L1 (ps_not rfl).os ?_
  refine LW.nil ?_
  repeat (first | refine CW.seq ?_ | refine PW.then_ ?_ | refine CW.block ?_ | refine CW.skip ?_ | refine CW.ret ?_ | refine PW.then_ret ?_ | refine PW.block_ret ?_ | refine Cut.ret ?_ | refine Rnd.ret ?_ | refine PW.block_normal ?_ | refine CW.exit ?_ | refine PW.then_exit ?_ | refine PW.block_hit ?_ | refine PW.block_miss rfl ?_ | refine Cut.exit ?_ | refine Rnd.exit ?_)
  refine CW.cond_false rfl ?_
  repeat (first | refine CW.seq ?_ | refine PW.then_ ?_ | refine CW.block ?_ | refine CW.skip ?_ | refine CW.ret ?_ | refine PW.then_ret ?_ | refine PW.block_ret ?_ | refine Cut.ret ?_ | refine Rnd.ret ?_ | refine PW.block_normal ?_ | refine CW.exit ?_ | refine PW.then_exit ?_ | refine PW.block_hit ?_ | refine PW.block_miss rfl ?_ | refine Cut.exit ?_ | refine Rnd.exit ?_)
  by_cases hlen : (2000 : Int) < bs.length
  · refine CW.region ?_
    refine L1 (ps_move rfl).os ?_
    refine L1 (ps_len_sl T.un32 rfl).os ?_
    refine L1 (ps_t (ps_gtr rfl rfl) (hlen)).os ?_
    refine LW.nil ?_
    repeat (first | refine CW.seq ?_ | refine PW.then_ ?_ | refine CW.block ?_ | refine CW.skip ?_ | refine CW.ret ?_ | refine PW.then_ret ?_ | refine PW.block_ret ?_ | refine Cut.ret ?_ | refine Rnd.ret ?_ | refine PW.block_normal ?_ | refine CW.exit ?_ | refine PW.then_exit ?_ | refine PW.block_hit ?_ | refine PW.block_miss rfl ?_ | refine Cut.exit ?_ | refine Rnd.exit ?_)
    refine CW.cond_true rfl ?_
    repeat (first | refine CW.seq ?_ | refine PW.then_ ?_ | refine CW.block ?_ | refine CW.skip ?_ | refine CW.ret ?_ | refine PW.then_ret ?_ | refine PW.block_ret ?_ | refine Cut.ret ?_ | refine Rnd.ret ?_ | refine PW.block_normal ?_ | refine CW.exit ?_ | refine PW.then_exit ?_ | refine PW.block_hit ?_ | refine PW.block_miss rfl ?_ | refine Cut.exit ?_ | refine Rnd.exit ?_)
    refine CW.region ?_
    refine L1 (ps_assign rfl).os ?_
    refine LW.nil ?_
    repeat (first | refine CW.seq ?_ | refine PW.then_ ?_ | refine CW.block ?_ | refine CW.skip ?_ | refine CW.ret ?_ | refine PW.then_ret ?_ | refine PW.block_ret ?_ | refine Cut.ret ?_ | refine Rnd.ret ?_ | refine PW.block_normal ?_ | refine CW.exit ?_ | refine PW.then_exit ?_ | refine PW.block_hit ?_ | refine PW.block_miss rfl ?_ | refine Cut.exit ?_ | refine Rnd.exit ?_)
    exact Fin.ret1 (v := .bool true) rfl [bag (blks W)] rfl ⟨rfl, rfl⟩ (by repeat (first | exact Ent.refl _ | (apply Ent.cons; · repeat (first | exact pk_head _ _ | apply pk_tail)) | apply Ent.skip))
  refine CW.region ?_
  refine L1 (ps_move rfl).os ?_
  refine L1 (ps_len_sl T.un32 rfl).os ?_
  refine L1 (ps_f (ps_gtr rfl rfl) (hlen)).os ?_
  refine LW.nil ?_
  repeat (first | refine CW.seq ?_ | refine PW.then_ ?_ | refine CW.block ?_ | refine CW.skip ?_ | refine CW.ret ?_ | refine PW.then_ret ?_ | refine PW.block_ret ?_ | refine Cut.ret ?_ | refine Rnd.ret ?_ | refine PW.block_normal ?_ | refine CW.exit ?_ | refine PW.then_exit ?_ | refine PW.block_hit ?_ | refine PW.block_miss rfl ?_ | refine Cut.exit ?_ | refine Rnd.exit ?_)
  refine CW.cond_false rfl ?_
  repeat (first | refine CW.seq ?_ | refine PW.then_ ?_ | refine CW.block ?_ | refine CW.skip ?_ | refine CW.ret ?_ | refine PW.then_ret ?_ | refine PW.block_ret ?_ | refine Cut.ret ?_ | refine Rnd.ret ?_ | refine PW.block_normal ?_ | refine CW.exit ?_ | refine PW.then_exit ?_ | refine PW.block_hit ?_ | refine PW.block_miss rfl ?_ | refine Cut.exit ?_ | refine Rnd.exit ?_)
  refine CW.region ?_
  refine L1 (ps_move rfl).os ?_
  refine LE (os_call (ReadRequest_to hv hm hr) Try.func16 (by decide +kernel) rfl rfl (by repeat (first | exact pk_head _ _ | apply pk_tail))) ?_
  rintro _ _ ⟨_, ⟨av, tv, B, rfl, rfl, r1, r2⟩, rfl⟩
  refine L1 (ps_move rfl).os ?_
  refine L1 (ps_extract rfl rfl).os ?_
  refine L1 (ps_extract rfl rfl).os ?_
  refine LE (os_alloc T.ti28) ?_
  rintro _ _ ⟨b3, rfl, rfl⟩
  refine L1 (os_storeAll (b := b3) (vs := rqCells q av tv) (by repeat (first | exact pk_head _ _ | apply pk_tail)) (by exact T.sz28) rfl rfl (rqCells_one r1 r2) (by rfl)) ?_
  refine L1 (ps_assign rfl).os ?_
  refine LW.nil ?_
  repeat (first | refine CW.seq ?_ | refine PW.then_ ?_ | refine CW.block ?_ | refine CW.skip ?_ | refine CW.ret ?_ | refine PW.then_ret ?_ | refine PW.block_ret ?_ | refine Cut.ret ?_ | refine Rnd.ret ?_ | refine PW.block_normal ?_ | refine CW.exit ?_ | refine PW.then_exit ?_ | refine PW.block_hit ?_ | refine PW.block_miss rfl ?_ | refine Cut.exit ?_ | refine Rnd.exit ?_)
  by_cases he : e = 0
  · subst he
    obtain ⟨hx, ok⟩ := readReq_inv hr
    obtain ⟨pa, ca, rfl, -, -, -⟩ := r1.len
    obtain ⟨pt0, ct, rfl, -, -, -⟩ := r2.len
    generalize hna : (q.accs.map accCells).length = na at *
    generalize hnt : (q.trs.map trCells).length = nt at *
    have hB := Request_spec B q _ _ ok.rq r1 r2
    rw [hx] at hB
    have htm := Tame_read B ⟨q.kind - 1, q.accs, q.trs, q.id, q.fro, q.to, q.lim⟩ _ _ r1 r2
    rw [tame_back q ok] at htm
    have hk := ok.kind
    refine CW.region ?_
    refine L1 (ps_move rfl).os ?_
    refine L1 (ps_t (ps_eql rfl rfl) (rfl)).os ?_
    refine LW.nil ?_
    repeat (first | refine CW.seq ?_ | refine PW.then_ ?_ | refine CW.block ?_ | refine CW.skip ?_ | refine CW.ret ?_ | refine PW.then_ret ?_ | refine PW.block_ret ?_ | refine Cut.ret ?_ | refine Rnd.ret ?_ | refine PW.block_normal ?_ | refine CW.exit ?_ | refine PW.then_exit ?_ | refine PW.block_hit ?_ | refine PW.block_miss rfl ?_ | refine Cut.exit ?_ | refine Rnd.exit ?_)
    refine CW.cond_true rfl ?_
    repeat (first | refine CW.seq ?_ | refine PW.then_ ?_ | refine CW.block ?_ | refine CW.skip ?_ | refine CW.ret ?_ | refine PW.then_ret ?_ | refine PW.block_ret ?_ | refine Cut.ret ?_ | refine Rnd.ret ?_ | refine PW.block_normal ?_ | refine CW.exit ?_ | refine PW.then_exit ?_ | refine PW.block_hit ?_ | refine PW.block_miss rfl ?_ | refine Cut.exit ?_ | refine Rnd.exit ?_)
    refine CW.drawH [cb b3 28 (rqCells q (.slice pa na ca) (.slice pt0 nt ct))] [] T.mixed ?_
    refine H_take (i := 0) (some 18) rfl rfl (by kernel_rfl) (by kernel_rfl) (by kernel_rfl) rfl (pl_loadAll (b := b3) (cs := rqCells q (.slice pa na ca) (.slice pt0 nt ct)) (by repeat (first | exact pk_head _ _ | apply pk_tail)) T.ag28 (by exact T.sz28) rfl) (by kernel_rfl) (pkc (by repeat (first | exact pk_head _ _ | apply pk_tail)) (pkn _)) ?_
    refine H_take (i := 3) (some 21) rfl rfl (by kernel_rfl) (by kernel_rfl) (by kernel_rfl) rfl (ps_move rfl).pl (by kernel_rfl) (pkc (by repeat (first | exact pk_head _ _ | apply pk_tail)) (pkn _)) ?_
    refine H_branch (rs := [1, 4]) (by kernel_rfl) (by simp) ?_
    refine HR.consE (i := 1) (some 19) rfl rfl rfl (os_call hB Try.func14 (by decide +kernel) rfl rfl (by repeat (first | exact pk_head _ _ | apply pk_tail))) ?_ ?_
    · rintro _ _ ⟨_, ⟨u1, d1, rfl, rfl⟩, rfl⟩
      refine ⟨fun _ => ⟨_, (pkc (by repeat (first | exact pk_head _ _ | apply pk_tail)) (pkn _))⟩, ?_⟩
      refine slOwn_info (pk_head _ _) fun m1 m2 m3 => ?_
      refine H_branch (rs := [2, 4]) (by kernel_rfl) (by simp) ?_
      refine HR.cons1 (i := 2) (some 20) rfl rfl rfl (os_str bs T.un32 T.un5 T.un9 rfl rfl ((ByR.own rfl m1 m3).src (by repeat (first | exact pk_head _ _ | apply pk_tail)))) (pkc (by repeat (first | exact pk_head _ _ | apply pk_tail)) (pkn _)) ?_ ?_
      · skip
        refine H_branch (rs := [4]) (by kernel_rfl) (by simp) ?_
        refine HR.cons1 (i := 4) (some 22) rfl rfl rfl (os_str bs T.un32 T.un5 T.un9 rfl rfl (hv.src (by repeat (first | exact pk_head _ _ | apply pk_tail)))) (pkc (by repeat (first | exact pk_head _ _ | apply pk_tail)) (pkn _)) ?_ ?_
        · skip
          refine H_take (i := 5) (some 23) rfl rfl (by kernel_rfl) (by kernel_rfl) (by kernel_rfl) rfl (ps_t (ps_strV_eql bs bs rfl rfl) rfl).pl (by kernel_rfl) (pkc (by repeat (first | exact pk_head _ _ | apply pk_tail)) (pkn _)) ?_
          refine H_take (i := 6) (some 24) rfl rfl (by kernel_rfl) (by kernel_rfl) (by kernel_rfl) rfl (ps_move rfl).pl (by kernel_rfl) (pkc (by repeat (first | exact pk_head _ _ | apply pk_tail)) (pkn _)) ?_
          refine H_take (i := 7) (some 25) rfl rfl (by kernel_rfl) (by kernel_rfl) (by kernel_rfl) rfl (ps_fa T.fa28_0 (by decide) rfl).pl (by kernel_rfl) (pkc (by repeat (first | exact pk_head _ _ | apply pk_tail)) (pkn _)) ?_
          refine H_take (i := 8) (some 26) rfl rfl (by kernel_rfl) (by kernel_rfl) (by kernel_rfl) rfl (pl_load1 (by repeat (first | exact pk_head _ _ | apply pk_tail)) T.ag3 rfl (by rfl)) (by kernel_rfl) (pkc (by repeat (first | exact pk_head _ _ | apply pk_tail)) (pkn _)) ?_
          refine H_take (i := 9) (some 27) rfl rfl (by kernel_rfl) (by kernel_rfl) (by kernel_rfl) rfl (ps_sub_i64 rfl rfl (by omega) (by omega)).pl (by kernel_rfl) (pkc (by repeat (first | exact pk_head _ _ | apply pk_tail)) (pkn _)) ?_
          refine H_take (i := 10) (some 28) rfl rfl (by kernel_rfl) (by kernel_rfl) (by kernel_rfl) rfl (ps_fa T.fa28_1 (by decide) rfl).pl (by kernel_rfl) (pkc (by repeat (first | exact pk_head _ _ | apply pk_tail)) (pkn _)) ?_
          refine H_take (i := 11) (some 29) rfl rfl (by kernel_rfl) (by kernel_rfl) (by kernel_rfl) rfl (pl_load1 (by repeat (first | exact pk_head _ _ | apply pk_tail)) T.ag22 rfl (by rfl)) (by kernel_rfl) (pkc (by repeat (first | exact pk_head _ _ | apply pk_tail)) (pkn _)) ?_
          refine H_take (i := 12) (some 30) rfl rfl (by kernel_rfl) (by kernel_rfl) (by kernel_rfl) rfl (ps_fa T.fa28_2 (by decide) rfl).pl (by kernel_rfl) (pkc (by repeat (first | exact pk_head _ _ | apply pk_tail)) (pkn _)) ?_
          refine H_take (i := 13) (some 31) rfl rfl (by kernel_rfl) (by kernel_rfl) (by kernel_rfl) rfl (pl_load1 (by repeat (first | exact pk_head _ _ | apply pk_tail)) T.ag23 rfl (by rfl)) (by kernel_rfl) (pkc (by repeat (first | exact pk_head _ _ | apply pk_tail)) (pkn _)) ?_
          refine H_take (i := 14) (some 32) rfl rfl (by kernel_rfl) (by kernel_rfl) (by kernel_rfl) rfl (ps_fa T.fa28_3 (by decide) rfl).pl (by kernel_rfl) (pkc (by repeat (first | exact pk_head _ _ | apply pk_tail)) (pkn _)) ?_
          refine H_take (i := 15) (some 33) rfl rfl (by kernel_rfl) (by kernel_rfl) (by kernel_rfl) rfl (pl_loadN (vs := nc q.id) (by repeat (first | exact pk_head _ _ | apply pk_tail)) T.ag26 T.sz26 rfl (by rfl) (by rfl)) (by kernel_rfl) (pkc (by repeat (first | exact pk_head _ _ | apply pk_tail)) (pkn _)) ?_
          refine H_take (i := 16) (some 34) rfl rfl (by kernel_rfl) (by kernel_rfl) (by kernel_rfl) rfl (ps_fa T.fa28_4 (by decide) rfl).pl (by kernel_rfl) (pkc (by repeat (first | exact pk_head _ _ | apply pk_tail)) (pkn _)) ?_
          refine H_take (i := 17) (some 35) rfl rfl (by kernel_rfl) (by kernel_rfl) (by kernel_rfl) rfl (pl_load1 (by repeat (first | exact pk_head _ _ | apply pk_tail)) T.ag3 rfl (by rfl)) (by kernel_rfl) (pkc (by repeat (first | exact pk_head _ _ | apply pk_tail)) (pkn _)) ?_
          refine H_take (i := 18) (some 36) rfl rfl (by kernel_rfl) (by kernel_rfl) (by kernel_rfl) rfl (ps_fa T.fa28_5 (by decide) rfl).pl (by kernel_rfl) (pkc (by repeat (first | exact pk_head _ _ | apply pk_tail)) (pkn _)) ?_
          refine H_take (i := 19) (some 37) rfl rfl (by kernel_rfl) (by kernel_rfl) (by kernel_rfl) rfl (pl_load1 (by repeat (first | exact pk_head _ _ | apply pk_tail)) T.ag3 rfl (by rfl)) (by kernel_rfl) (pkc (by repeat (first | exact pk_head _ _ | apply pk_tail)) (pkn _)) ?_
          refine H_take (i := 20) (some 38) rfl rfl (by kernel_rfl) (by kernel_rfl) (by kernel_rfl) rfl (ps_fa T.fa28_6 (by decide) rfl).pl (by kernel_rfl) (pkc (by repeat (first | exact pk_head _ _ | apply pk_tail)) (pkn _)) ?_
          refine H_take (i := 21) (some 39) rfl rfl (by kernel_rfl) (by kernel_rfl) (by kernel_rfl) rfl (pl_load1 (by repeat (first | exact pk_head _ _ | apply pk_tail)) T.ag3 rfl (by rfl)) (by kernel_rfl) (pkc (by repeat (first | exact pk_head _ _ | apply pk_tail)) (pkn _)) ?_
          refine H_take (i := 22) (some 40) rfl rfl (by kernel_rfl) (by kernel_rfl) (by kernel_rfl) rfl (ps_to (u := .agg (rqCells ⟨q.kind - 1, q.accs, q.trs, q.id, q.fro, q.to, q.lim⟩ (.slice pa na ca) (.slice pt0 nt ct)).toArray) (by rfl) (ps_build (by rfl) (by kernel_rfl))).pl (by kernel_rfl) (pkc (by repeat (first | exact pk_head _ _ | apply pk_tail)) (pkn _)) ?_
          refine H_take (i := 24) (some 42) rfl rfl (by kernel_rfl) (by kernel_rfl) (by kernel_rfl) rfl (pl_loadAll (b := b3) (cs := rqCells q (.slice pa na ca) (.slice pt0 nt ct)) (by repeat (first | exact pk_head _ _ | apply pk_tail)) T.ag28 (by exact T.sz28) rfl) (by kernel_rfl) (pkc (by repeat (first | exact pk_head _ _ | apply pk_tail)) (pkn _)) ?_
          refine H_branch (rs := [23]) (by kernel_rfl) (by simp) ?_
          refine HR.consE (i := 23) (some 41) rfl rfl rfl (os_call htm Try.func13 (by decide +kernel) rfl rfl (by repeat (first | exact pk_head _ _ | apply pk_tail))) ?_ ?_
          · rintro _ _ ⟨_, ⟨a2, t2, B2, rfl, rfl, r3, r4⟩, rfl⟩
            refine ⟨fun _ => ⟨_, (pkc (by repeat (first | exact pk_head _ _ | apply pk_tail)) (pkn _))⟩, ?_⟩
            refine H_branch (rs := [25]) (by kernel_rfl) (by simp) ?_
            refine HR.cons1 (i := 25) (some 43) rfl rfl rfl (os_call2 (sameB_t (rfl : q = q) ▸ Same_spec B2 B q q a2 t2 _ _ r3 r4 r1 r2) Try.func15 (by decide +kernel) rfl rfl (by repeat (first | exact pk_head _ _ | apply pk_tail)) (by repeat (first | exact pk_head _ _ | apply pk_tail))) (pkc (by repeat (first | exact pk_head _ _ | apply pk_tail)) (pkn _)) ?_ ?_
            · skip
              refine H_take (i := 26) (some 44) rfl rfl (by kernel_rfl) (by kernel_rfl) (by kernel_rfl) rfl (ps_pick_t rfl rfl).pl (by kernel_rfl) (pkc (by repeat (first | exact pk_head _ _ | apply pk_tail)) (pkn _)) ?_
              refine H_take (i := 27) (some 2) rfl rfl (by kernel_rfl) (by kernel_rfl) (by kernel_rfl) rfl (ps_assign rfl).pl (by kernel_rfl) (pkc (by repeat (first | exact pk_head _ _ | apply pk_tail)) (pkn _)) ?_
              refine H_done (by kernel_rfl) ?_
              repeat (first | refine CW.seq ?_ | refine PW.then_ ?_ | refine CW.block ?_ | refine CW.skip ?_ | refine CW.ret ?_ | refine PW.then_ret ?_ | refine PW.block_ret ?_ | refine Cut.ret ?_ | refine Rnd.ret ?_ | refine PW.block_normal ?_ | refine CW.exit ?_ | refine PW.then_exit ?_ | refine PW.block_hit ?_ | refine PW.block_miss rfl ?_ | refine Cut.exit ?_ | refine Rnd.exit ?_)
              exact Fin.ret1 (v := .bool true) rfl [bag (blks W)] rfl ⟨rfl, rfl⟩ (by repeat (first | exact Ent.refl _ | (apply Ent.cons; · repeat (first | exact pk_head _ _ | apply pk_tail)) | apply Ent.skip))
            exact HR.nil
          exact HR.nil
        exact HR.nil
      refine HR.cons1 (i := 4) (some 22) rfl rfl rfl (os_str bs T.un32 T.un5 T.un9 rfl rfl (hv.src (by repeat (first | exact pk_head _ _ | apply pk_tail)))) (pkc (by repeat (first | exact pk_head _ _ | apply pk_tail)) (pkn _)) ?_ ?_
      · skip
        refine H_branch (rs := [2]) (by kernel_rfl) (by simp) ?_
        refine HR.cons1 (i := 2) (some 20) rfl rfl rfl (os_str bs T.un32 T.un5 T.un9 rfl rfl ((ByR.own rfl m1 m3).src (by repeat (first | exact pk_head _ _ | apply pk_tail)))) (pkc (by repeat (first | exact pk_head _ _ | apply pk_tail)) (pkn _)) ?_ ?_
        · skip
          refine H_take (i := 5) (some 23) rfl rfl (by kernel_rfl) (by kernel_rfl) (by kernel_rfl) rfl (ps_t (ps_strV_eql bs bs rfl rfl) rfl).pl (by kernel_rfl) (pkc (by repeat (first | exact pk_head _ _ | apply pk_tail)) (pkn _)) ?_
          refine H_take (i := 6) (some 24) rfl rfl (by kernel_rfl) (by kernel_rfl) (by kernel_rfl) rfl (ps_move rfl).pl (by kernel_rfl) (pkc (by repeat (first | exact pk_head _ _ | apply pk_tail)) (pkn _)) ?_
          refine H_take (i := 7) (some 25) rfl rfl (by kernel_rfl) (by kernel_rfl) (by kernel_rfl) rfl (ps_fa T.fa28_0 (by decide) rfl).pl (by kernel_rfl) (pkc (by repeat (first | exact pk_head _ _ | apply pk_tail)) (pkn _)) ?_
          refine H_take (i := 8) (some 26) rfl rfl (by kernel_rfl) (by kernel_rfl) (by kernel_rfl) rfl (pl_load1 (by repeat (first | exact pk_head _ _ | apply pk_tail)) T.ag3 rfl (by rfl)) (by kernel_rfl) (pkc (by repeat (first | exact pk_head _ _ | apply pk_tail)) (pkn _)) ?_
          refine H_take (i := 9) (some 27) rfl rfl (by kernel_rfl) (by kernel_rfl) (by kernel_rfl) rfl (ps_sub_i64 rfl rfl (by omega) (by omega)).pl (by kernel_rfl) (pkc (by repeat (first | exact pk_head _ _ | apply pk_tail)) (pkn _)) ?_
          refine H_take (i := 10) (some 28) rfl rfl (by kernel_rfl) (by kernel_rfl) (by kernel_rfl) rfl (ps_fa T.fa28_1 (by decide) rfl).pl (by kernel_rfl) (pkc (by repeat (first | exact pk_head _ _ | apply pk_tail)) (pkn _)) ?_
          refine H_take (i := 11) (some 29) rfl rfl (by kernel_rfl) (by kernel_rfl) (by kernel_rfl) rfl (pl_load1 (by repeat (first | exact pk_head _ _ | apply pk_tail)) T.ag22 rfl (by rfl)) (by kernel_rfl) (pkc (by repeat (first | exact pk_head _ _ | apply pk_tail)) (pkn _)) ?_
          refine H_take (i := 12) (some 30) rfl rfl (by kernel_rfl) (by kernel_rfl) (by kernel_rfl) rfl (ps_fa T.fa28_2 (by decide) rfl).pl (by kernel_rfl) (pkc (by repeat (first | exact pk_head _ _ | apply pk_tail)) (pkn _)) ?_
          refine H_take (i := 13) (some 31) rfl rfl (by kernel_rfl) (by kernel_rfl) (by kernel_rfl) rfl (pl_load1 (by repeat (first | exact pk_head _ _ | apply pk_tail)) T.ag23 rfl (by rfl)) (by kernel_rfl) (pkc (by repeat (first | exact pk_head _ _ | apply pk_tail)) (pkn _)) ?_
          refine H_take (i := 14) (some 32) rfl rfl (by kernel_rfl) (by kernel_rfl) (by kernel_rfl) rfl (ps_fa T.fa28_3 (by decide) rfl).pl (by kernel_rfl) (pkc (by repeat (first | exact pk_head _ _ | apply pk_tail)) (pkn _)) ?_
          refine H_take (i := 15) (some 33) rfl rfl (by kernel_rfl) (by kernel_rfl) (by kernel_rfl) rfl (pl_loadN (vs := nc q.id) (by repeat (first | exact pk_head _ _ | apply pk_tail)) T.ag26 T.sz26 rfl (by rfl) (by rfl)) (by kernel_rfl) (pkc (by repeat (first | exact pk_head _ _ | apply pk_tail)) (pkn _)) ?_
          refine H_take (i := 16) (some 34) rfl rfl (by kernel_rfl) (by kernel_rfl) (by kernel_rfl) rfl (ps_fa T.fa28_4 (by decide) rfl).pl (by kernel_rfl) (pkc (by repeat (first | exact pk_head _ _ | apply pk_tail)) (pkn _)) ?_
          refine H_take (i := 17) (some 35) rfl rfl (by kernel_rfl) (by kernel_rfl) (by kernel_rfl) rfl (pl_load1 (by repeat (first | exact pk_head _ _ | apply pk_tail)) T.ag3 rfl (by rfl)) (by kernel_rfl) (pkc (by repeat (first | exact pk_head _ _ | apply pk_tail)) (pkn _)) ?_
          refine H_take (i := 18) (some 36) rfl rfl (by kernel_rfl) (by kernel_rfl) (by kernel_rfl) rfl (ps_fa T.fa28_5 (by decide) rfl).pl (by kernel_rfl) (pkc (by repeat (first | exact pk_head _ _ | apply pk_tail)) (pkn _)) ?_
          refine H_take (i := 19) (some 37) rfl rfl (by kernel_rfl) (by kernel_rfl) (by kernel_rfl) rfl (pl_load1 (by repeat (first | exact pk_head _ _ | apply pk_tail)) T.ag3 rfl (by rfl)) (by kernel_rfl) (pkc (by repeat (first | exact pk_head _ _ | apply pk_tail)) (pkn _)) ?_
          refine H_take (i := 20) (some 38) rfl rfl (by kernel_rfl) (by kernel_rfl) (by kernel_rfl) rfl (ps_fa T.fa28_6 (by decide) rfl).pl (by kernel_rfl) (pkc (by repeat (first | exact pk_head _ _ | apply pk_tail)) (pkn _)) ?_
          refine H_take (i := 21) (some 39) rfl rfl (by kernel_rfl) (by kernel_rfl) (by kernel_rfl) rfl (pl_load1 (by repeat (first | exact pk_head _ _ | apply pk_tail)) T.ag3 rfl (by rfl)) (by kernel_rfl) (pkc (by repeat (first | exact pk_head _ _ | apply pk_tail)) (pkn _)) ?_
          refine H_take (i := 22) (some 40) rfl rfl (by kernel_rfl) (by kernel_rfl) (by kernel_rfl) rfl (ps_to (u := .agg (rqCells ⟨q.kind - 1, q.accs, q.trs, q.id, q.fro, q.to, q.lim⟩ (.slice pa na ca) (.slice pt0 nt ct)).toArray) (by rfl) (ps_build (by rfl) (by kernel_rfl))).pl (by kernel_rfl) (pkc (by repeat (first | exact pk_head _ _ | apply pk_tail)) (pkn _)) ?_
          refine H_take (i := 24) (some 42) rfl rfl (by kernel_rfl) (by kernel_rfl) (by kernel_rfl) rfl (pl_loadAll (b := b3) (cs := rqCells q (.slice pa na ca) (.slice pt0 nt ct)) (by repeat (first | exact pk_head _ _ | apply pk_tail)) T.ag28 (by exact T.sz28) rfl) (by kernel_rfl) (pkc (by repeat (first | exact pk_head _ _ | apply pk_tail)) (pkn _)) ?_
          refine H_branch (rs := [23]) (by kernel_rfl) (by simp) ?_
          refine HR.consE (i := 23) (some 41) rfl rfl rfl (os_call htm Try.func13 (by decide +kernel) rfl rfl (by repeat (first | exact pk_head _ _ | apply pk_tail))) ?_ ?_
          · rintro _ _ ⟨_, ⟨a2, t2, B2, rfl, rfl, r3, r4⟩, rfl⟩
            refine ⟨fun _ => ⟨_, (pkc (by repeat (first | exact pk_head _ _ | apply pk_tail)) (pkn _))⟩, ?_⟩
            refine H_branch (rs := [25]) (by kernel_rfl) (by simp) ?_
            refine HR.cons1 (i := 25) (some 43) rfl rfl rfl (os_call2 (sameB_t (rfl : q = q) ▸ Same_spec B2 B q q a2 t2 _ _ r3 r4 r1 r2) Try.func15 (by decide +kernel) rfl rfl (by repeat (first | exact pk_head _ _ | apply pk_tail)) (by repeat (first | exact pk_head _ _ | apply pk_tail))) (pkc (by repeat (first | exact pk_head _ _ | apply pk_tail)) (pkn _)) ?_ ?_
            · skip
              refine H_take (i := 26) (some 44) rfl rfl (by kernel_rfl) (by kernel_rfl) (by kernel_rfl) rfl (ps_pick_t rfl rfl).pl (by kernel_rfl) (pkc (by repeat (first | exact pk_head _ _ | apply pk_tail)) (pkn _)) ?_
              refine H_take (i := 27) (some 2) rfl rfl (by kernel_rfl) (by kernel_rfl) (by kernel_rfl) rfl (ps_assign rfl).pl (by kernel_rfl) (pkc (by repeat (first | exact pk_head _ _ | apply pk_tail)) (pkn _)) ?_
              refine H_done (by kernel_rfl) ?_
              repeat (first | refine CW.seq ?_ | refine PW.then_ ?_ | refine CW.block ?_ | refine CW.skip ?_ | refine CW.ret ?_ | refine PW.then_ret ?_ | refine PW.block_ret ?_ | refine Cut.ret ?_ | refine Rnd.ret ?_ | refine PW.block_normal ?_ | refine CW.exit ?_ | refine PW.then_exit ?_ | refine PW.block_hit ?_ | refine PW.block_miss rfl ?_ | refine Cut.exit ?_ | refine Rnd.exit ?_)
              exact Fin.ret1 (v := .bool true) rfl [bag (blks W)] rfl ⟨rfl, rfl⟩ (by repeat (first | exact Ent.refl _ | (apply Ent.cons; · repeat (first | exact pk_head _ _ | apply pk_tail)) | apply Ent.skip))
            exact HR.nil
          exact HR.nil
        exact HR.nil
      exact HR.nil
    refine HR.cons1 (i := 4) (some 22) rfl rfl rfl (os_str bs T.un32 T.un5 T.un9 rfl rfl (hv.src (by repeat (first | exact pk_head _ _ | apply pk_tail)))) (pkc (by repeat (first | exact pk_head _ _ | apply pk_tail)) (pkn _)) ?_ ?_
    · skip
      refine H_branch (rs := [1]) (by kernel_rfl) (by simp) ?_
      refine HR.consE (i := 1) (some 19) rfl rfl rfl (os_call hB Try.func14 (by decide +kernel) rfl rfl (by repeat (first | exact pk_head _ _ | apply pk_tail))) ?_ ?_
      · rintro _ _ ⟨_, ⟨u1, d1, rfl, rfl⟩, rfl⟩
        refine ⟨fun _ => ⟨_, (pkc (by repeat (first | exact pk_head _ _ | apply pk_tail)) (pkn _))⟩, ?_⟩
        refine slOwn_info (pk_head _ _) fun m1 m2 m3 => ?_
        refine H_branch (rs := [2]) (by kernel_rfl) (by simp) ?_
        refine HR.cons1 (i := 2) (some 20) rfl rfl rfl (os_str bs T.un32 T.un5 T.un9 rfl rfl ((ByR.own rfl m1 m3).src (by repeat (first | exact pk_head _ _ | apply pk_tail)))) (pkc (by repeat (first | exact pk_head _ _ | apply pk_tail)) (pkn _)) ?_ ?_
        · skip
          refine H_take (i := 5) (some 23) rfl rfl (by kernel_rfl) (by kernel_rfl) (by kernel_rfl) rfl (ps_t (ps_strV_eql bs bs rfl rfl) rfl).pl (by kernel_rfl) (pkc (by repeat (first | exact pk_head _ _ | apply pk_tail)) (pkn _)) ?_
          refine H_take (i := 6) (some 24) rfl rfl (by kernel_rfl) (by kernel_rfl) (by kernel_rfl) rfl (ps_move rfl).pl (by kernel_rfl) (pkc (by repeat (first | exact pk_head _ _ | apply pk_tail)) (pkn _)) ?_
          refine H_take (i := 7) (some 25) rfl rfl (by kernel_rfl) (by kernel_rfl) (by kernel_rfl) rfl (ps_fa T.fa28_0 (by decide) rfl).pl (by kernel_rfl) (pkc (by repeat (first | exact pk_head _ _ | apply pk_tail)) (pkn _)) ?_
          refine H_take (i := 8) (some 26) rfl rfl (by kernel_rfl) (by kernel_rfl) (by kernel_rfl) rfl (pl_load1 (by repeat (first | exact pk_head _ _ | apply pk_tail)) T.ag3 rfl (by rfl)) (by kernel_rfl) (pkc (by repeat (first | exact pk_head _ _ | apply pk_tail)) (pkn _)) ?_
          refine H_take (i := 9) (some 27) rfl rfl (by kernel_rfl) (by kernel_rfl) (by kernel_rfl) rfl (ps_sub_i64 rfl rfl (by omega) (by omega)).pl (by kernel_rfl) (pkc (by repeat (first | exact pk_head _ _ | apply pk_tail)) (pkn _)) ?_
          refine H_take (i := 10) (some 28) rfl rfl (by kernel_rfl) (by kernel_rfl) (by kernel_rfl) rfl (ps_fa T.fa28_1 (by decide) rfl).pl (by kernel_rfl) (pkc (by repeat (first | exact pk_head _ _ | apply pk_tail)) (pkn _)) ?_
          refine H_take (i := 11) (some 29) rfl rfl (by kernel_rfl) (by kernel_rfl) (by kernel_rfl) rfl (pl_load1 (by repeat (first | exact pk_head _ _ | apply pk_tail)) T.ag22 rfl (by rfl)) (by kernel_rfl) (pkc (by repeat (first | exact pk_head _ _ | apply pk_tail)) (pkn _)) ?_
          refine H_take (i := 12) (some 30) rfl rfl (by kernel_rfl) (by kernel_rfl) (by kernel_rfl) rfl (ps_fa T.fa28_2 (by decide) rfl).pl (by kernel_rfl) (pkc (by repeat (first | exact pk_head _ _ | apply pk_tail)) (pkn _)) ?_
          refine H_take (i := 13) (some 31) rfl rfl (by kernel_rfl) (by kernel_rfl) (by kernel_rfl) rfl (pl_load1 (by repeat (first | exact pk_head _ _ | apply pk_tail)) T.ag23 rfl (by rfl)) (by kernel_rfl) (pkc (by repeat (first | exact pk_head _ _ | apply pk_tail)) (pkn _)) ?_
          refine H_take (i := 14) (some 32) rfl rfl (by kernel_rfl) (by kernel_rfl) (by kernel_rfl) rfl (ps_fa T.fa28_3 (by decide) rfl).pl (by kernel_rfl) (pkc (by repeat (first | exact pk_head _ _ | apply pk_tail)) (pkn _)) ?_
          refine H_take (i := 15) (some 33) rfl rfl (by kernel_rfl) (by kernel_rfl) (by kernel_rfl) rfl (pl_loadN (vs := nc q.id) (by repeat (first | exact pk_head _ _ | apply pk_tail)) T.ag26 T.sz26 rfl (by rfl) (by rfl)) (by kernel_rfl) (pkc (by repeat (first | exact pk_head _ _ | apply pk_tail)) (pkn _)) ?_
          refine H_take (i := 16) (some 34) rfl rfl (by kernel_rfl) (by kernel_rfl) (by kernel_rfl) rfl (ps_fa T.fa28_4 (by decide) rfl).pl (by kernel_rfl) (pkc (by repeat (first | exact pk_head _ _ | apply pk_tail)) (pkn _)) ?_
          refine H_take (i := 17) (some 35) rfl rfl (by kernel_rfl) (by kernel_rfl) (by kernel_rfl) rfl (pl_load1 (by repeat (first | exact pk_head _ _ | apply pk_tail)) T.ag3 rfl (by rfl)) (by kernel_rfl) (pkc (by repeat (first | exact pk_head _ _ | apply pk_tail)) (pkn _)) ?_
          refine H_take (i := 18) (some 36) rfl rfl (by kernel_rfl) (by kernel_rfl) (by kernel_rfl) rfl (ps_fa T.fa28_5 (by decide) rfl).pl (by kernel_rfl) (pkc (by repeat (first | exact pk_head _ _ | apply pk_tail)) (pkn _)) ?_
          refine H_take (i := 19) (some 37) rfl rfl (by kernel_rfl) (by kernel_rfl) (by kernel_rfl) rfl (pl_load1 (by repeat (first | exact pk_head _ _ | apply pk_tail)) T.ag3 rfl (by rfl)) (by kernel_rfl) (pkc (by repeat (first | exact pk_head _ _ | apply pk_tail)) (pkn _)) ?_
          refine H_take (i := 20) (some 38) rfl rfl (by kernel_rfl) (by kernel_rfl) (by kernel_rfl) rfl (ps_fa T.fa28_6 (by decide) rfl).pl (by kernel_rfl) (pkc (by repeat (first | exact pk_head _ _ | apply pk_tail)) (pkn _)) ?_
          refine H_take (i := 21) (some 39) rfl rfl (by kernel_rfl) (by kernel_rfl) (by kernel_rfl) rfl (pl_load1 (by repeat (first | exact pk_head _ _ | apply pk_tail)) T.ag3 rfl (by rfl)) (by kernel_rfl) (pkc (by repeat (first | exact pk_head _ _ | apply pk_tail)) (pkn _)) ?_
          refine H_take (i := 22) (some 40) rfl rfl (by kernel_rfl) (by kernel_rfl) (by kernel_rfl) rfl (ps_to (u := .agg (rqCells ⟨q.kind - 1, q.accs, q.trs, q.id, q.fro, q.to, q.lim⟩ (.slice pa na ca) (.slice pt0 nt ct)).toArray) (by rfl) (ps_build (by rfl) (by kernel_rfl))).pl (by kernel_rfl) (pkc (by repeat (first | exact pk_head _ _ | apply pk_tail)) (pkn _)) ?_
          refine H_take (i := 24) (some 42) rfl rfl (by kernel_rfl) (by kernel_rfl) (by kernel_rfl) rfl (pl_loadAll (b := b3) (cs := rqCells q (.slice pa na ca) (.slice pt0 nt ct)) (by repeat (first | exact pk_head _ _ | apply pk_tail)) T.ag28 (by exact T.sz28) rfl) (by kernel_rfl) (pkc (by repeat (first | exact pk_head _ _ | apply pk_tail)) (pkn _)) ?_
          refine H_branch (rs := [23]) (by kernel_rfl) (by simp) ?_
          refine HR.consE (i := 23) (some 41) rfl rfl rfl (os_call htm Try.func13 (by decide +kernel) rfl rfl (by repeat (first | exact pk_head _ _ | apply pk_tail))) ?_ ?_
          · rintro _ _ ⟨_, ⟨a2, t2, B2, rfl, rfl, r3, r4⟩, rfl⟩
            refine ⟨fun _ => ⟨_, (pkc (by repeat (first | exact pk_head _ _ | apply pk_tail)) (pkn _))⟩, ?_⟩
            refine H_branch (rs := [25]) (by kernel_rfl) (by simp) ?_
            refine HR.cons1 (i := 25) (some 43) rfl rfl rfl (os_call2 (sameB_t (rfl : q = q) ▸ Same_spec B2 B q q a2 t2 _ _ r3 r4 r1 r2) Try.func15 (by decide +kernel) rfl rfl (by repeat (first | exact pk_head _ _ | apply pk_tail)) (by repeat (first | exact pk_head _ _ | apply pk_tail))) (pkc (by repeat (first | exact pk_head _ _ | apply pk_tail)) (pkn _)) ?_ ?_
            · skip
              refine H_take (i := 26) (some 44) rfl rfl (by kernel_rfl) (by kernel_rfl) (by kernel_rfl) rfl (ps_pick_t rfl rfl).pl (by kernel_rfl) (pkc (by repeat (first | exact pk_head _ _ | apply pk_tail)) (pkn _)) ?_
              refine H_take (i := 27) (some 2) rfl rfl (by kernel_rfl) (by kernel_rfl) (by kernel_rfl) rfl (ps_assign rfl).pl (by kernel_rfl) (pkc (by repeat (first | exact pk_head _ _ | apply pk_tail)) (pkn _)) ?_
              refine H_done (by kernel_rfl) ?_
              repeat (first | refine CW.seq ?_ | refine PW.then_ ?_ | refine CW.block ?_ | refine CW.skip ?_ | refine CW.ret ?_ | refine PW.then_ret ?_ | refine PW.block_ret ?_ | refine Cut.ret ?_ | refine Rnd.ret ?_ | refine PW.block_normal ?_ | refine CW.exit ?_ | refine PW.then_exit ?_ | refine PW.block_hit ?_ | refine PW.block_miss rfl ?_ | refine Cut.exit ?_ | refine Rnd.exit ?_)
              exact Fin.ret1 (v := .bool true) rfl [bag (blks W)] rfl ⟨rfl, rfl⟩ (by repeat (first | exact Ent.refl _ | (apply Ent.cons; · repeat (first | exact pk_head _ _ | apply pk_tail)) | apply Ent.skip))
            exact HR.nil
          exact HR.nil
        exact HR.nil
      exact HR.nil
    exact HR.nil
  obtain ⟨rfl, hel⟩ := readReq_err hr he
  obtain ⟨lo, hlo⟩ : ∃ lo, longB bs = lo := ⟨_, rfl⟩
  rw [hlo] at hel
  refine CW.region ?_
  refine L1 (ps_move rfl).os ?_
  refine L1 (ps_f (ps_eql rfl rfl) (by omega)).os ?_
  refine LW.nil ?_
  repeat (first | refine CW.seq ?_ | refine PW.then_ ?_ | refine CW.block ?_ | refine CW.skip ?_ | refine CW.ret ?_ | refine PW.then_ret ?_ | refine PW.block_ret ?_ | refine Cut.ret ?_ | refine Rnd.ret ?_ | refine PW.block_normal ?_ | refine CW.exit ?_ | refine PW.then_exit ?_ | refine PW.block_hit ?_ | refine PW.block_miss rfl ?_ | refine Cut.exit ?_ | refine Rnd.exit ?_)
  refine CW.cond_false rfl ?_
  repeat (first | refine CW.seq ?_ | refine PW.then_ ?_ | refine CW.block ?_ | refine CW.skip ?_ | refine CW.ret ?_ | refine PW.then_ret ?_ | refine PW.block_ret ?_ | refine Cut.ret ?_ | refine Rnd.ret ?_ | refine PW.block_normal ?_ | refine CW.exit ?_ | refine PW.then_exit ?_ | refine PW.block_hit ?_ | refine PW.block_miss rfl ?_ | refine Cut.exit ?_ | refine Rnd.exit ?_)
  refine CW.cutB (α := Unit) [5, 45, 46, 47, 48, 49, 50, 51, 52, 53, 54, 55, 56, 57, 58, 59, 60, 61, 62, 63, 64, 65] (fun _ => True) (fun _ => [(5, .bool lo)]) (fun _ => bag [] :: cb b3 28 (rqCells RQ.zero av tv) :: B :: bag (blks W) :: F) ?_ ?_
  · by_cases h1 : 1 < bs.length
    · have hi1 : (1 : Int) < bs.length := by omega
      refine hv.form (by repeat (first | exact pk_head _ _ | apply pk_tail)) (fun h0 => by rw [h0] at h1; simp at h1) fun vb vo hq => ?_
      subst hq
      have hs0 := fun As Bs (hp : List.Perm As (_ :: Bs)) => hv.at (i := 0) (by omega) hp
      have hs1 := fun As Bs (hp : List.Perm As (_ :: Bs)) => hv.at (i := 1) (by omega) hp
      have hlg : lo = ((decide (bs[0].toNat = 1) || decide (bs[0].toNat = 2)) && decide (8 < bs[1].toNat)) := by
        rw [← hlo]; unfold longB
        rw [decide_eq_true h1, List.getD_eq_getElem?_getD, List.getElem?_eq_getElem (by omega), List.getD_eq_getElem?_getD, List.getElem?_eq_getElem (by omega)]
        simp
      have hc0 := (bs[0]'(by omega)).toNat_lt
      have hc1 := (bs[1]'(by omega)).toNat_lt
      generalize (bs[0]'(by omega)).toNat = c0 at hs0 hlg hc0
      generalize (bs[1]'(by omega)).toNat = c1 at hs1 hlg hc1
      by_cases k1 : c0 = 1
      · subst k1
        by_cases h8 : 8 < c1
        · have i8 : (8 : Int) < c1 := by omega
          obtain rfl : lo = true := by rw [hlg]; simp [h8]
          refine CW.region ?_
          refine L1 (ps_move rfl).os ?_
          refine L1 (ps_len_sl T.un32 rfl).os ?_
          refine L1 (ps_t (ps_gtr rfl rfl) (hi1)).os ?_
          refine L1 (ps_move rfl).os ?_
          refine LG1 ?_ (ps_move rfl).os ?_
          · exact rfl
          refine LG1 ?_ (ps_ia_slice T.un32 T.sz5 rfl rfl (by omega) (by omega)).os ?_
          · exact rfl
          refine LG1 ?_ (os_loadS1 (v := .int .u8 ((1 : Nat) : Int)) (hs0 _ _ (by repeat (first | exact pk_head _ _ | apply pk_tail))) T.ag5 rfl) ?_
          · exact rfl
          refine LG1 ?_ (ps_t (ps_eql rfl rfl) (rfl)).os ?_
          · exact rfl
          refine LG1 ?_ (ps_move rfl).os ?_
          · exact rfl
          refine LG0f ?_ ?_
          · exact rfl
          refine LG0f ?_ ?_
          · exact rfl
          refine LG0f ?_ ?_
          · exact rfl
          refine LG0f ?_ ?_
          · exact rfl
          refine LG1 ?_ (ps_pick_t rfl rfl).os ?_
          · exact rfl
          refine L1 (ps_pick_t rfl rfl).os ?_
          refine L1 (ps_move rfl).os ?_
          refine LG1 ?_ (ps_move rfl).os ?_
          · exact rfl
          refine LG1 ?_ (ps_ia_slice T.un32 T.sz5 rfl rfl (by omega) (by omega)).os ?_
          · exact rfl
          refine LG1 ?_ (os_loadS1 (v := .int .u8 (c1 : Int)) (hs1 _ _ (by repeat (first | exact pk_head _ _ | apply pk_tail))) T.ag5 rfl) ?_
          · exact rfl
          refine LG1 ?_ (ps_t (ps_gtr rfl rfl) (i8)).os ?_
          · exact rfl
          refine L1 (ps_pick_t rfl rfl).os ?_
          refine L1 (ps_assign rfl).os ?_
          refine LW.nil ?_
          exact Meet.cut () trivial (by repeat (first | (with_reducible exact Ag.refl _ _) | (with_reducible apply Ag.pu0) | ((with_reducible refine Ag.pu _ ?_ ?_); · exact rfl) | ((with_reducible refine Ag.mix ?_ ?_); · exact rfl) | ((with_reducible refine Ag.pus ?_ ?_); · exact rfl))) ⟨rfl, trivial⟩ (Ent.trans (Bs := cb b3 28 (rqCells RQ.zero av tv) :: B :: bag (blks W) :: F) (by repeat (first | exact Ent.refl _ | (apply Ent.cons; · repeat (first | exact pk_head _ _ | apply pk_tail)) | apply Ent.skip)) (Ent.emp _))
        · have i8 : ¬ (8 : Int) < c1 := by omega
          obtain rfl : lo = false := by rw [hlg]; simp [h8]
          refine CW.region ?_
          refine L1 (ps_move rfl).os ?_
          refine L1 (ps_len_sl T.un32 rfl).os ?_
          refine L1 (ps_t (ps_gtr rfl rfl) (hi1)).os ?_
          refine L1 (ps_move rfl).os ?_
          refine LG1 ?_ (ps_move rfl).os ?_
          · exact rfl
          refine LG1 ?_ (ps_ia_slice T.un32 T.sz5 rfl rfl (by omega) (by omega)).os ?_
          · exact rfl
          refine LG1 ?_ (os_loadS1 (v := .int .u8 ((1 : Nat) : Int)) (hs0 _ _ (by repeat (first | exact pk_head _ _ | apply pk_tail))) T.ag5 rfl) ?_
          · exact rfl
          refine LG1 ?_ (ps_t (ps_eql rfl rfl) (rfl)).os ?_
          · exact rfl
          refine LG1 ?_ (ps_move rfl).os ?_
          · exact rfl
          refine LG0f ?_ ?_
          · exact rfl
          refine LG0f ?_ ?_
          · exact rfl
          refine LG0f ?_ ?_
          · exact rfl
          refine LG0f ?_ ?_
          · exact rfl
          refine LG1 ?_ (ps_pick_t rfl rfl).os ?_
          · exact rfl
          refine L1 (ps_pick_t rfl rfl).os ?_
          refine L1 (ps_move rfl).os ?_
          refine LG1 ?_ (ps_move rfl).os ?_
          · exact rfl
          refine LG1 ?_ (ps_ia_slice T.un32 T.sz5 rfl rfl (by omega) (by omega)).os ?_
          · exact rfl
          refine LG1 ?_ (os_loadS1 (v := .int .u8 (c1 : Int)) (hs1 _ _ (by repeat (first | exact pk_head _ _ | apply pk_tail))) T.ag5 rfl) ?_
          · exact rfl
          refine LG1 ?_ (ps_f (ps_gtr rfl rfl) (i8)).os ?_
          · exact rfl
          refine L1 (ps_pick_t rfl rfl).os ?_
          refine L1 (ps_assign rfl).os ?_
          refine LW.nil ?_
          exact Meet.cut () trivial (by repeat (first | (with_reducible exact Ag.refl _ _) | (with_reducible apply Ag.pu0) | ((with_reducible refine Ag.pu _ ?_ ?_); · exact rfl) | ((with_reducible refine Ag.mix ?_ ?_); · exact rfl) | ((with_reducible refine Ag.pus ?_ ?_); · exact rfl))) ⟨rfl, trivial⟩ (Ent.trans (Bs := cb b3 28 (rqCells RQ.zero av tv) :: B :: bag (blks W) :: F) (by repeat (first | exact Ent.refl _ | (apply Ent.cons; · repeat (first | exact pk_head _ _ | apply pk_tail)) | apply Ent.skip)) (Ent.emp _))
      have n1 : ¬ (c0 : Int) = 1 := by omega
      by_cases k2 : c0 = 2
      · subst k2
        by_cases h8 : 8 < c1
        · have i8 : (8 : Int) < c1 := by omega
          obtain rfl : lo = true := by rw [hlg]; simp [h8]
          refine CW.region ?_
          refine L1 (ps_move rfl).os ?_
          refine L1 (ps_len_sl T.un32 rfl).os ?_
          refine L1 (ps_t (ps_gtr rfl rfl) (hi1)).os ?_
          refine L1 (ps_move rfl).os ?_
          refine LG1 ?_ (ps_move rfl).os ?_
          · exact rfl
          refine LG1 ?_ (ps_ia_slice T.un32 T.sz5 rfl rfl (by omega) (by omega)).os ?_
          · exact rfl
          refine LG1 ?_ (os_loadS1 (v := .int .u8 ((2 : Nat) : Int)) (hs0 _ _ (by repeat (first | exact pk_head _ _ | apply pk_tail))) T.ag5 rfl) ?_
          · exact rfl
          refine LG1 ?_ (ps_f (ps_eql rfl rfl) (n1)).os ?_
          · exact rfl
          refine LG1 ?_ (ps_move rfl).os ?_
          · exact rfl
          refine LG1 ?_ (ps_move rfl).os ?_
          · exact rfl
          refine LG1 ?_ (ps_ia_slice T.un32 T.sz5 rfl rfl (by omega) (by omega)).os ?_
          · exact rfl
          refine LG1 ?_ (os_loadS1 (v := .int .u8 ((2 : Nat) : Int)) (hs0 _ _ (by repeat (first | exact pk_head _ _ | apply pk_tail))) T.ag5 rfl) ?_
          · exact rfl
          refine LG1 ?_ (ps_t (ps_eql rfl rfl) (rfl)).os ?_
          · exact rfl
          refine LG1 ?_ (ps_pick_f rfl rfl).os ?_
          · exact rfl
          refine L1 (ps_pick_t rfl rfl).os ?_
          refine L1 (ps_move rfl).os ?_
          refine LG1 ?_ (ps_move rfl).os ?_
          · exact rfl
          refine LG1 ?_ (ps_ia_slice T.un32 T.sz5 rfl rfl (by omega) (by omega)).os ?_
          · exact rfl
          refine LG1 ?_ (os_loadS1 (v := .int .u8 (c1 : Int)) (hs1 _ _ (by repeat (first | exact pk_head _ _ | apply pk_tail))) T.ag5 rfl) ?_
          · exact rfl
          refine LG1 ?_ (ps_t (ps_gtr rfl rfl) (i8)).os ?_
          · exact rfl
          refine L1 (ps_pick_t rfl rfl).os ?_
          refine L1 (ps_assign rfl).os ?_
          refine LW.nil ?_
          exact Meet.cut () trivial (by repeat (first | (with_reducible exact Ag.refl _ _) | (with_reducible apply Ag.pu0) | ((with_reducible refine Ag.pu _ ?_ ?_); · exact rfl) | ((with_reducible refine Ag.mix ?_ ?_); · exact rfl) | ((with_reducible refine Ag.pus ?_ ?_); · exact rfl))) ⟨rfl, trivial⟩ (Ent.trans (Bs := cb b3 28 (rqCells RQ.zero av tv) :: B :: bag (blks W) :: F) (by repeat (first | exact Ent.refl _ | (apply Ent.cons; · repeat (first | exact pk_head _ _ | apply pk_tail)) | apply Ent.skip)) (Ent.emp _))
        · have i8 : ¬ (8 : Int) < c1 := by omega
          obtain rfl : lo = false := by rw [hlg]; simp [h8]
          refine CW.region ?_
          refine L1 (ps_move rfl).os ?_
          refine L1 (ps_len_sl T.un32 rfl).os ?_
          refine L1 (ps_t (ps_gtr rfl rfl) (hi1)).os ?_
          refine L1 (ps_move rfl).os ?_
          refine LG1 ?_ (ps_move rfl).os ?_
          · exact rfl
          refine LG1 ?_ (ps_ia_slice T.un32 T.sz5 rfl rfl (by omega) (by omega)).os ?_
          · exact rfl
          refine LG1 ?_ (os_loadS1 (v := .int .u8 ((2 : Nat) : Int)) (hs0 _ _ (by repeat (first | exact pk_head _ _ | apply pk_tail))) T.ag5 rfl) ?_
          · exact rfl
          refine LG1 ?_ (ps_f (ps_eql rfl rfl) (n1)).os ?_
          · exact rfl
          refine LG1 ?_ (ps_move rfl).os ?_
          · exact rfl
          refine LG1 ?_ (ps_move rfl).os ?_
          · exact rfl
          refine LG1 ?_ (ps_ia_slice T.un32 T.sz5 rfl rfl (by omega) (by omega)).os ?_
          · exact rfl
          refine LG1 ?_ (os_loadS1 (v := .int .u8 ((2 : Nat) : Int)) (hs0 _ _ (by repeat (first | exact pk_head _ _ | apply pk_tail))) T.ag5 rfl) ?_
          · exact rfl
          refine LG1 ?_ (ps_t (ps_eql rfl rfl) (rfl)).os ?_
          · exact rfl
          refine LG1 ?_ (ps_pick_f rfl rfl).os ?_
          · exact rfl
          refine L1 (ps_pick_t rfl rfl).os ?_
          refine L1 (ps_move rfl).os ?_
          refine LG1 ?_ (ps_move rfl).os ?_
          · exact rfl
          refine LG1 ?_ (ps_ia_slice T.un32 T.sz5 rfl rfl (by omega) (by omega)).os ?_
          · exact rfl
          refine LG1 ?_ (os_loadS1 (v := .int .u8 (c1 : Int)) (hs1 _ _ (by repeat (first | exact pk_head _ _ | apply pk_tail))) T.ag5 rfl) ?_
          · exact rfl
          refine LG1 ?_ (ps_f (ps_gtr rfl rfl) (i8)).os ?_
          · exact rfl
          refine L1 (ps_pick_t rfl rfl).os ?_
          refine L1 (ps_assign rfl).os ?_
          refine LW.nil ?_
          exact Meet.cut () trivial (by repeat (first | (with_reducible exact Ag.refl _ _) | (with_reducible apply Ag.pu0) | ((with_reducible refine Ag.pu _ ?_ ?_); · exact rfl) | ((with_reducible refine Ag.mix ?_ ?_); · exact rfl) | ((with_reducible refine Ag.pus ?_ ?_); · exact rfl))) ⟨rfl, trivial⟩ (Ent.trans (Bs := cb b3 28 (rqCells RQ.zero av tv) :: B :: bag (blks W) :: F) (by repeat (first | exact Ent.refl _ | (apply Ent.cons; · repeat (first | exact pk_head _ _ | apply pk_tail)) | apply Ent.skip)) (Ent.emp _))
      have n2 : ¬ (c0 : Int) = 2 := by omega
      obtain rfl : lo = false := by rw [hlg]; simp [k1, k2]
      refine CW.region ?_
      refine L1 (ps_move rfl).os ?_
      refine L1 (ps_len_sl T.un32 rfl).os ?_
      refine L1 (ps_t (ps_gtr rfl rfl) (hi1)).os ?_
      refine L1 (ps_move rfl).os ?_
      refine LG1 ?_ (ps_move rfl).os ?_
      · exact rfl
      refine LG1 ?_ (ps_ia_slice T.un32 T.sz5 rfl rfl (by omega) (by omega)).os ?_
      · exact rfl
      refine LG1 ?_ (os_loadS1 (v := .int .u8 (c0 : Int)) (hs0 _ _ (by repeat (first | exact pk_head _ _ | apply pk_tail))) T.ag5 rfl) ?_
      · exact rfl
      refine LG1 ?_ (ps_f (ps_eql rfl rfl) (n1)).os ?_
      · exact rfl
      refine LG1 ?_ (ps_move rfl).os ?_
      · exact rfl
      refine LG1 ?_ (ps_move rfl).os ?_
      · exact rfl
      refine LG1 ?_ (ps_ia_slice T.un32 T.sz5 rfl rfl (by omega) (by omega)).os ?_
      · exact rfl
      refine LG1 ?_ (os_loadS1 (v := .int .u8 (c0 : Int)) (hs0 _ _ (by repeat (first | exact pk_head _ _ | apply pk_tail))) T.ag5 rfl) ?_
      · exact rfl
      refine LG1 ?_ (ps_f (ps_eql rfl rfl) (n2)).os ?_
      · exact rfl
      refine LG1 ?_ (ps_pick_f rfl rfl).os ?_
      · exact rfl
      refine L1 (ps_pick_t rfl rfl).os ?_
      refine L1 (ps_move rfl).os ?_
      refine LG0t ?_ ?_
      · exact rfl
      refine LG0t ?_ ?_
      · exact rfl
      refine LG0t ?_ ?_
      · exact rfl
      refine LG0t ?_ ?_
      · exact rfl
      refine L1 (ps_pick_f rfl rfl).os ?_
      refine L1 (ps_assign rfl).os ?_
      refine LW.nil ?_
      exact Meet.cut () trivial (by repeat (first | (with_reducible exact Ag.refl _ _) | (with_reducible apply Ag.pu0) | ((with_reducible refine Ag.pu _ ?_ ?_); · exact rfl) | ((with_reducible refine Ag.mix ?_ ?_); · exact rfl) | ((with_reducible refine Ag.pus ?_ ?_); · exact rfl))) ⟨rfl, trivial⟩ (Ent.trans (Bs := cb b3 28 (rqCells RQ.zero av tv) :: B :: bag (blks W) :: F) (by repeat (first | exact Ent.refl _ | (apply Ent.cons; · repeat (first | exact pk_head _ _ | apply pk_tail)) | apply Ent.skip)) (Ent.emp _))
    · have n1 : ¬ (1 : Int) < bs.length := by omega
      obtain rfl : lo = false := by rw [← hlo]; unfold longB; rw [decide_eq_false h1]; rfl
      refine CW.region ?_
      refine L1 (ps_move rfl).os ?_
      refine L1 (ps_len_sl T.un32 rfl).os ?_
      refine L1 (ps_f (ps_gtr rfl rfl) (n1)).os ?_
      refine L1 (ps_move rfl).os ?_
      refine LG0t ?_ ?_
      · exact rfl
      refine LG0t ?_ ?_
      · exact rfl
      refine LG0t ?_ ?_
      · exact rfl
      refine LG0t ?_ ?_
      · exact rfl
      refine LG0t ?_ ?_
      · exact rfl
      refine LGU ?_ ?_
      · exact rfl
      refine LGU ?_ ?_
      · exact rfl
      refine LGU ?_ ?_
      · exact rfl
      refine LGU ?_ ?_
      · exact rfl
      refine LG0t ?_ ?_
      · exact rfl
      refine L1 (ps_pick_f rfl rfl).os ?_
      refine L1 (ps_move rfl).os ?_
      refine LG0t ?_ ?_
      · exact rfl
      refine LG0t ?_ ?_
      · exact rfl
      refine LG0t ?_ ?_
      · exact rfl
      refine LG0t ?_ ?_
      · exact rfl
      refine L1 (ps_pick_f rfl rfl).os ?_
      refine L1 (ps_assign rfl).os ?_
      refine LW.nil ?_
      exact Meet.cut () trivial (by repeat (first | (with_reducible exact Ag.refl _ _) | (with_reducible apply Ag.pu0) | ((with_reducible refine Ag.pu _ ?_ ?_); · exact rfl) | ((with_reducible refine Ag.mix ?_ ?_); · exact rfl) | ((with_reducible refine Ag.pus ?_ ?_); · exact rfl))) ⟨rfl, trivial⟩ (Ent.trans (Bs := cb b3 28 (rqCells RQ.zero av tv) :: B :: bag (blks W) :: F) (by repeat (first | exact Ent.refl _ | (apply Ent.cons; · repeat (first | exact pk_head _ _ | apply pk_tail)) | apply Ent.skip)) (Ent.emp _))
  intro _ _ _
  have hS := Same_spec B (bag []) RQ.zero RQ.zero av tv (.slice none 0 0) (.slice none 0 0) r1 r2 (RowsR.nil _ _) (RowsR.nil _ _)
  rw [sameB_t rfl] at hS
  repeat (first | refine CW.seq ?_ | refine PW.then_ ?_ | refine CW.block ?_ | refine CW.skip ?_ | refine CW.ret ?_ | refine PW.then_ret ?_ | refine PW.block_ret ?_ | refine Cut.ret ?_ | refine Rnd.ret ?_ | refine PW.block_normal ?_ | refine CW.exit ?_ | refine PW.then_exit ?_ | refine PW.block_hit ?_ | refine PW.block_miss rfl ?_ | refine Cut.exit ?_ | refine Rnd.exit ?_)
  cases lo
  · obtain rfl : e = 1 := hel
    refine CW.region ?_
    refine L1 (os_loadAll (b := b3) (cs := rqCells RQ.zero av tv) (by repeat (first | exact pk_head _ _ | apply pk_tail)) T.ag28 (by exact T.sz28) rfl) ?_
    refine L1 (ps_to (u := .agg (rqCells RQ.zero (.slice none 0 0) (.slice none 0 0)).toArray) (by rfl) (ps_build (by rfl) (by kernel_rfl))).os ?_
    refine L1 (os_call2 hS Try.func15 (by decide +kernel) rfl rfl (by repeat (first | exact pk_head _ _ | apply pk_tail)) (by repeat (first | exact pk_head _ _ | apply pk_tail))) ?_
    refine L1 (ps_move rfl).os ?_
    refine LG1 ?_ (ps_move rfl).os ?_
    · exact rfl
    refine LG1 ?_ (ps_f (ps_eql rfl rfl) (by decide)).os ?_
    · exact rfl
    refine LG1 ?_ (ps_move rfl).os ?_
    · exact rfl
    refine LG1 ?_ (ps_to (u := .bool true) (by rfl) (ps_bool_eql T.un4 rfl rfl)).os ?_
    · exact rfl
    refine L1 (ps_pick_t rfl rfl).os ?_
    refine L1 (ps_move rfl).os ?_
    refine LG1 ?_ (ps_move rfl).os ?_
    · exact rfl
    refine LG1 ?_ (ps_move rfl).os ?_
    · exact rfl
    refine LG1 ?_ (ps_move rfl).os ?_
    · exact rfl
    refine LG1 ?_ (ps_t (ps_eql rfl rfl) (rfl)).os ?_
    · exact rfl
    refine LG1 ?_ (ps_pick_f rfl rfl).os ?_
    · exact rfl
    refine L1 (ps_pick_t rfl rfl).os ?_
    refine L1 (ps_assign rfl).os ?_
    refine LW.nil ?_
    repeat (first | refine CW.seq ?_ | refine PW.then_ ?_ | refine CW.block ?_ | refine CW.skip ?_ | refine CW.ret ?_ | refine PW.then_ret ?_ | refine PW.block_ret ?_ | refine Cut.ret ?_ | refine Rnd.ret ?_ | refine PW.block_normal ?_ | refine CW.exit ?_ | refine PW.then_exit ?_ | refine PW.block_hit ?_ | refine PW.block_miss rfl ?_ | refine Cut.exit ?_ | refine Rnd.exit ?_)
    exact Fin.ret1 (v := .bool true) rfl [bag (blks W)] rfl ⟨rfl, rfl⟩ (by repeat (first | exact Ent.refl _ | (apply Ent.cons; · repeat (first | exact pk_head _ _ | apply pk_tail)) | apply Ent.skip))
  · obtain rfl : e = 2 := hel
    refine CW.region ?_
    refine L1 (os_loadAll (b := b3) (cs := rqCells RQ.zero av tv) (by repeat (first | exact pk_head _ _ | apply pk_tail)) T.ag28 (by exact T.sz28) rfl) ?_
    refine L1 (ps_to (u := .agg (rqCells RQ.zero (.slice none 0 0) (.slice none 0 0)).toArray) (by rfl) (ps_build (by rfl) (by kernel_rfl))).os ?_
    refine L1 (os_call2 hS Try.func15 (by decide +kernel) rfl rfl (by repeat (first | exact pk_head _ _ | apply pk_tail)) (by repeat (first | exact pk_head _ _ | apply pk_tail))) ?_
    refine L1 (ps_move rfl).os ?_
    refine LG1 ?_ (ps_move rfl).os ?_
    · exact rfl
    refine LG1 ?_ (ps_t (ps_eql rfl rfl) (rfl)).os ?_
    · exact rfl
    refine LG1 ?_ (ps_move rfl).os ?_
    · exact rfl
    refine LG1 ?_ (ps_to (u := .bool true) (by rfl) (ps_bool_eql T.un4 rfl rfl)).os ?_
    · exact rfl
    refine L1 (ps_pick_t rfl rfl).os ?_
    refine L1 (ps_move rfl).os ?_
    refine LG1 ?_ (ps_move rfl).os ?_
    · exact rfl
    refine LG1 ?_ (ps_move rfl).os ?_
    · exact rfl
    refine LG0f ?_ ?_
    · exact rfl
    refine LG0f ?_ ?_
    · exact rfl
    refine LG1 ?_ (ps_pick_t rfl rfl).os ?_
    · exact rfl
    refine L1 (ps_pick_t rfl rfl).os ?_
    refine L1 (ps_assign rfl).os ?_
    refine LW.nil ?_
    repeat (first | refine CW.seq ?_ | refine PW.then_ ?_ | refine CW.block ?_ | refine CW.skip ?_ | refine CW.ret ?_ | refine PW.then_ret ?_ | refine PW.block_ret ?_ | refine Cut.ret ?_ | refine Rnd.ret ?_ | refine PW.block_normal ?_ | refine CW.exit ?_ | refine PW.then_exit ?_ | refine PW.block_hit ?_ | refine PW.block_miss rfl ?_ | refine Cut.exit ?_ | refine Rnd.exit ?_)
    exact Fin.ret1 (v := .bool true) rfl [bag (blks W)] rfl ⟨rfl, rfl⟩ (by repeat (first | exact Ent.refl _ | (apply Ent.cons; · repeat (first | exact pk_head _ _ | apply pk_tail)) | apply Ent.skip))

namespace wireAny
open Go.ChangeShapes Go.WideShapes Go.ChangeAt Go.RowKit
theorem own : ownKnob Try.prog.godebug = none := by kernel_rfl
theorem laidOut : laidOutB Try.prog = true := by kernel_rfl
set_option maxRecDepth 100000 in
theorem lifted (os : Os) (started : os.Started) (H : Type) (enc : TypeId × Value → H) :
    ReturnsInHanded {} Try.checked os 10 .any (Rows.wireAnySpec.pre6 enc Try.prog Try.f10 Rows.wireAnyRow.domain false) (Rows.wireAnySpec.post enc Try.prog Try.f10 false true false false) := by
  refine returnsInHanded_of_change (C := Try.checked) own started (by kernel_rfl) Try.func10
    (ChangeSpec.witness6 (enc := enc) (C := Try.checked) false ⟨#[], #[(Value.slice none 0 0)], []⟩ 8 (by kernel_rfl) (by kernel_rfl) (by kernel_rfl) (by kernel_rfl)) ?_
  intro W base args ds gs before hval0 hW hcnd _
  have hval : ∀ (j : Nat) t v, Try.f10.params[j]? = some t → args[j]? = some v → Value.okWide Try.prog W .any base t v := hval0
  have hW' := hW
  obtain ⟨p, q, hA0, hV, rfl, hfz, hnd⟩ := hW
  have hA : DataW.TrodAll enc Try.prog W 0 (fun _ => true) true Try.f10.params.toList args.toList ds p := hA0
  rw [Try.params10] at hA hval
  obtain ⟨v0, vs0, d0, ds0, p0, q0, hargs, rfl, rfl, h0, r0⟩ := trodAll_cons hA
  obtain ⟨rfl, rfl, rfl⟩ := trodAll_nil r0
  obtain rfl : args = #[v0] := by cases args; simp_all
  obtain ⟨rfl, rfl⟩ := trodVars_none hV
  obtain ⟨_, _, _, rfl⟩ := okWide_slice T.un32 (hval 0 32 v0 rfl rfl)
  obtain ⟨fu0, hf0⟩ := h0
  obtain ⟨a0, b0, w0⟩ := open_bytes T.un32 T.un5 T.co5 hf0
  simp only [List.append_nil] at hW'
  refine (LawOf.calls (WireAny_law W _ a0 b0 w0)).mono fun e W' ⟨he, hb⟩ => ?_
  subst he
  exact ⟨_, rfl, law_post laidOut rfl (tb := 4) (by kernel_rfl) T.un4 (by intro t ht; rw [Try.params10] at ht; simp only [List.mem_cons, List.not_mem_nil, or_false] at ht; rcases ht with rfl <;> exact ⟨by kernel_rfl, by decide +kernel⟩) rfl hW' hb⟩
theorem holds : Rows.WireAnySaid :=
  OpenClaim.holds_of_wide 10 Try.f10 rfl rfl rfl rfl rfl rfl rfl ⟨rfl, rfl, rfl, rfl, rfl⟩ rfl rfl rfl rfl rfl (by kernel_rfl) Try.func10 (by kernel_rfl)
    (of_decide_eq_true (by kernel_rfl)) (by unfold Func.isWrapper; rw [if_neg (of_decide_eq_false (by kernel_rfl))]; exact ⟨rfl, rfl⟩)
    (fun os started H enc _ => lifted os started H enc)
end wireAny
end Go.Proofs.Ytpcjjchanjdkaaa
