/- The law DiskRuns: call by call sectors are what was written, what waits is sure, torn or lost, and the disk goes down, as the document has it: it answers true for every list of calls (no condition). -/
import Derived.Test.YtejbbpofamfhiaaDiskLaw
import Derived.Test.YtejbbpofamfhiaaRows
namespace Go.Proofs.Ytejbbpofamfhiaa
open Go Go.SL
set_option linter.unusedVariables false
set_option linter.unusedSimpArgs false

theorem spl_zeros (bs : List UInt8) (h : bs.length ≤ 64) : spl (List.replicate 64 (Value.int .u8 0)) 0 (bv bs) = bv (pad 64 bs) := by
  unfold spl pad
  rw [bv_append, length_bv, Nat.zero_add, List.drop_replicate, List.take_zero, List.nil_append]
  simp [bv]

theorem full_spec (A : Asn) (v : Value) (bs : List UInt8) (hb : ByR A v bs) (h : bs.length ≤ 64) :
    FSpec Try.prog 27 [v] [A] (fun r As => r = .agg (bv (pad 64 bs)).toArray ∧ As = [A]) := by
  obtain ⟨pa, cap, rfl, hcap, hsrc⟩ := hb
  have hl := length_pad h
  have hlen : (bv (pad 64 bs)).length = 64 := by rw [length_bv, hl]
  refine FSpec.intro Try.func27 rfl 8 Try.ntmps27 (Nat.le_of_ble_eq_true rfl) fun w0 F => ?_
  show CW _ _ _ _ _ _ (_ :: F)
  repeat (first | refine CW.seq ?_ | refine PW.then_ ?_ | refine CW.block ?_ | refine CW.skip ?_ | refine CW.ret ?_ | refine PW.then_ret ?_ | refine PW.block_ret ?_ | refine Cut.ret ?_ | refine Rnd.ret ?_ | refine PW.block_normal ?_ | refine CW.exit ?_ | refine PW.then_exit ?_ | refine PW.block_hit ?_ | refine PW.block_miss rfl ?_ | refine Cut.exit ?_ | refine Rnd.exit ?_)
  refine CW.region ?_
  refine LE (os_alloc T.ti43) ?_
  rintro _ _ ⟨b2, rfl, rfl⟩
  refine LW.nil ?_
  repeat (first | refine CW.seq ?_ | refine PW.then_ ?_ | refine CW.block ?_ | refine CW.skip ?_ | refine CW.ret ?_ | refine PW.then_ret ?_ | refine PW.block_ret ?_ | refine Cut.ret ?_ | refine Rnd.ret ?_ | refine PW.block_normal ?_ | refine CW.exit ?_ | refine PW.then_exit ?_ | refine PW.block_hit ?_ | refine PW.block_miss rfl ?_ | refine Cut.exit ?_ | refine Rnd.exit ?_)
  refine CW.region ?_
  refine LE (os_alloc T.ti43) ?_
  rintro _ _ ⟨b3, rfl, rfl⟩
  refine LW.nil ?_
  repeat (first | refine CW.seq ?_ | refine PW.then_ ?_ | refine CW.block ?_ | refine CW.skip ?_ | refine CW.ret ?_ | refine PW.then_ret ?_ | refine PW.block_ret ?_ | refine Cut.ret ?_ | refine Rnd.ret ?_ | refine PW.block_normal ?_ | refine CW.exit ?_ | refine PW.then_exit ?_ | refine PW.block_hit ?_ | refine PW.block_miss rfl ?_ | refine Cut.exit ?_ | refine Rnd.exit ?_)
  refine CW.region ?_
  refine L1 (ps_as_all T.un43 T.sz5 rfl).os ?_
  refine L1 (ps_move rfl).os ?_
  refine L1 (os_cb (spl_zeros bs h) <| os_copy (b := b3) (news := bv bs) (by repeat (first | exact pk_head _ _ | apply pk_tail)) T.un27 T.sz5 rfl rfl (by rw [length_bv]; exact (Nat.min_eq_left (by omega)).symm) (hsrc _ _ (by repeat (first | exact pk_head _ _ | apply pk_tail))) (bv_one _) (.inr (by rw [List.length_replicate, length_bv]; omega))) ?_
  refine LW.nil ?_
  repeat (first | refine CW.seq ?_ | refine PW.then_ ?_ | refine CW.block ?_ | refine CW.skip ?_ | refine CW.ret ?_ | refine PW.then_ret ?_ | refine PW.block_ret ?_ | refine Cut.ret ?_ | refine Rnd.ret ?_ | refine PW.block_normal ?_ | refine CW.exit ?_ | refine PW.then_exit ?_ | refine PW.block_hit ?_ | refine PW.block_miss rfl ?_ | refine Cut.exit ?_ | refine Rnd.exit ?_)
  refine CW.region ?_
  refine L1 (os_loadAll (b := b3) (by repeat (first | exact pk_head _ _ | apply pk_tail)) T.ag43 (by rw [hlen]; exact T.sz43) rfl) ?_
  refine L1 (os_storeAll (b := b2) (vs := bv (pad 64 bs)) (by repeat (first | exact pk_head _ _ | apply pk_tail)) (by rw [hlen]; exact T.sz43) rfl rfl (bv_one _) (by rw [hlen]; rfl)) ?_
  refine LW.nil ?_
  repeat (first | refine CW.seq ?_ | refine PW.then_ ?_ | refine CW.block ?_ | refine CW.skip ?_ | refine CW.ret ?_ | refine PW.then_ret ?_ | refine PW.block_ret ?_ | refine Cut.ret ?_ | refine Rnd.ret ?_ | refine PW.block_normal ?_ | refine CW.exit ?_ | refine PW.then_exit ?_ | refine PW.block_hit ?_ | refine PW.block_miss rfl ?_ | refine Cut.exit ?_ | refine Rnd.exit ?_)
  exact Fin.retCell (b := b2) (cs := bv (pad 64 bs)) rfl (by repeat (first | exact pk_head _ _ | apply pk_tail)) T.ag43 (by rw [hlen]; exact T.sz43) rfl [A] ⟨rfl, rfl⟩ (by repeat (first | exact Ent.refl _ | (apply Ent.cons; · repeat (first | exact pk_head _ _ | apply pk_tail)) | apply Ent.skip))

def wFull (c : CallS) : Nat × List UInt8 := (c.at_.toNat, pad 64 c.data)
def lv (st : DS) : Int := if st.armed then st.left else -1
structure RunI (A : Asn) (i : Nat) (w : List CallS) (st : DS) : Prop where
  ok : st.Ok
  dl : st.data.length = 6
  wait : st.wait = w.map wFull
  ws : ∀ c ∈ w, CallOk A c ∧ 0 ≤ c.at_ ∧ c.at_ < 6 ∧ c.data.length ≤ 64
  ll : 0 ≤ st.left ∧ st.left < 9223372036854775808
  cnt : 0 ≤ st.count ∧ st.count ≤ i
  wl : w.length ≤ i
theorem RunI.wlen {A : Asn} {i : Nat} {w : List CallS} {st : DS} (h : RunI A i w st) : st.wait.length = w.length := by rw [h.wait, List.length_map]
theorem lv_down {st : DS} : st.down = decide (lv st = 0) := by
  unfold lv DS.down
  cases h : st.armed <;> simp
theorem lv_bounds {A : Asn} {i : Nat} {w : List CallS} {st : DS} (h : RunI A i w st) : -1 ≤ lv st ∧ lv st < 9223372036854775808 := by
  have := h.ll
  unfold lv; split <;> omega
theorem RunI.step {A : Asn} {i : Nat} {w : List CallS} {st : DS} (h : RunI A i w st) : RunI A (i + 1) w st :=
  ⟨h.ok, h.dl, h.wait, h.ws, h.ll, ⟨h.cnt.1, by have := h.cnt.2; omega⟩, by have := h.wl; omega⟩
theorem RunI.write {A : Asn} {i : Nat} {w : List CallS} {st : DS} (h : RunI A i w st) {c : CallS} (hc : CallOk A c) (h1 : 0 ≤ c.at_) (h2 : c.at_ < 6) (h3 : c.data.length ≤ 64) (hd : lv st ≠ 0) :
    ∃ st', st.write c.at_ c.data = (0, st') ∧ RunI A (i + 1) (w ++ [c]) st' ∧ lv st' = max (lv st - 1) (min (lv st) 0) ∧ st'.count = st.count + 1 ∧ st'.data = st.data := by
  have hdn : st.down = false := by rw [lv_down]; simpa using hd
  have wr := write_fine (st := st) (at_ := c.at_) (bs := c.data) h1 (by rw [h.dl]; exact h2) h3 hdn
  have hok := DS.write_ok h.ok c.at_ c.data
  rw [wr] at hok
  have hll := h.ll
  refine ⟨_, wr, ⟨hok, h.dl, ?_, ?_, ?_, ?_, ?_⟩, ?_, rfl, rfl⟩
  · simp [h.wait, wFull]
  · intro x hx
    rcases List.mem_append.1 hx with hx | hx
    · exact h.ws x hx
    · rw [List.mem_singleton.1 hx]; exact ⟨hc, h1, h2, h3⟩
  · unfold lv at hd
    cases ha : st.armed
    · simp [hll]
    · simp only [ha, if_true] at hd ⊢; omega
  · have := h.cnt; simp only; omega
  · have := h.wl; simp; omega
  · unfold lv at hd ⊢
    cases ha : st.armed
    · simp; decide
    · simp only [ha, if_true] at hd ⊢; omega
theorem RunI.flush {A : Asn} {i : Nat} {w : List CallS} {st : DS} (h : RunI A i w st) : RunI A (i + 1) [] st.flush ∧ lv st.flush = lv st ∧ st.flush.count = st.count :=
  ⟨⟨DS.flush_ok h.ok, by rw [DS.flush_len, h.dl], rfl, by simp, h.ll, ⟨h.cnt.1, by have := h.cnt.2; show st.count ≤ _; omega⟩, by simp⟩, rfl, rfl⟩
theorem RunI.crash {A : Asn} {i : Nat} {w : List CallS} {st : DS} (h : RunI A i w st) (mask : Nat) (torn cut : Int) : RunI A (i + 1) [] (st.crash mask torn cut) ∧ lv (st.crash mask torn cut) = -1 ∧ (st.crash mask torn cut).count = st.count :=
  ⟨⟨DS.crash_ok h.ok _ _ _, by rw [DS.crash_len h.ok, h.dl], rfl, by simp, h.ll, ⟨h.cnt.1, by have := h.cnt.2; show st.count ≤ _; omega⟩, by simp⟩, rfl, rfl⟩
theorem RunI.arm {A : Asn} {i : Nat} {w : List CallS} {st : DS} (h : RunI A i w st) (k : Int) (hk : k < 9223372036854775808) : RunI A (i + 1) w { st with armed := true, left := max k 0 } ∧ lv { st with armed := true, left := max k 0 } = max k 0 := by
  refine ⟨⟨⟨h.ok.dlen, h.ok.n, h.ok.wlen⟩, h.dl, h.wait, h.ws, ?_, ⟨h.cnt.1, by have := h.cnt.2; show st.count ≤ _; omega⟩, by have := h.wl; omega⟩, rfl⟩
  show 0 ≤ max k 0 ∧ max k 0 < _
  omega
theorem call_open {A : Asn} (e : CallS) (h : CallOk A e ∧ 0 ≤ e.at_ ∧ e.at_ < 6 ∧ e.data.length ≤ 64) : ∃ (kind : Int) (an : Nat) (pe : Option Addr) (cape : Nat) (cm torn cut : Int) (data : List UInt8),
    callCells e = [.int .i64 kind, .int .i64 (an : Int), .slice pe data.length cape, .int .u64 cm, .int .i64 torn, .int .i64 cut] ∧ wFull e = (an, pad 64 data) ∧ ByR A (.slice pe data.length cape) data ∧ data.length ≤ 64 ∧
    ∀ u ∈ [Value.int .i64 kind, .int .i64 (an : Int), .slice pe data.length cape, .int .u64 cm, .int .i64 torn, .int .i64 cut], u.oneCell' = true := by
  obtain ⟨kind, at_, dv, data, cm, torn, cut⟩ := e
  obtain ⟨ok, h0, h6, hle⟩ := h
  have hd := ok.data
  have hone := callCells_one ok
  obtain ⟨pe, cape, hdv, _, _⟩ := ok.data
  dsimp only at hdv hd h0 hle
  subst hdv
  obtain ⟨an, rfl⟩ := Int.eq_ofNat_of_zero_le h0
  exact ⟨kind, an, pe, cape, cm, torn, cut, data, rfl, rfl, hd, hle, hone⟩
def ptrOf : Value → Option Addr
  | .slice p _ _ => p
  | _ => none
def capOf : Value → Nat
  | .slice _ _ c => c
  | _ => 0
def cCells (e : CallS) : List Value := [.int .i64 e.kind, .int .i64 ((e.at_.toNat : Nat) : Int), .slice (ptrOf e.dv) e.data.length (capOf e.dv), .int .u64 e.mask, .int .i64 e.torn, .int .i64 e.cut]
theorem call_has {A : Asn} (e : CallS) (h : CallOk A e ∧ 0 ≤ e.at_ ∧ e.at_ < 6 ∧ e.data.length ≤ 64) : callCells e = cCells e ∧ wFull e = (e.at_.toNat, pad 64 e.data) ∧ ByR A (.slice (ptrOf e.dv) e.data.length (capOf e.dv)) e.data ∧ e.data.length ≤ 64 ∧ ∀ u ∈ cCells e, u.oneCell' = true := by
  obtain ⟨kind, at_, dv, data, cm, torn, cut⟩ := e
  obtain ⟨ok, h0, h6, hle⟩ := h
  have hd := ok.data
  have hone := callCells_one ok
  obtain ⟨pe, cape, hdv, _, _⟩ := ok.data
  dsimp only at hdv hd h0 hle
  subst hdv
  obtain ⟨an, rfl⟩ := Int.eq_ofNat_of_zero_le h0
  exact ⟨rfl, rfl, hd, hle, hone⟩
theorem m0 : (List.replicate 6 (List.replicate 64 (Value.int .u8 0))).flatten = ((DS.new 6).data.map bv).flatten := by
  simp [DS.new, bv]
theorem row_of {w : List CallS} {cur : List Value} (htk : cur.take (w.length * 6) = (w.map callCells).flatten) {j : Nat} (hj : j < w.length) : (cur.drop (0 + (j : Int).toNat * 6)).take 6 = callCells w[j] := by
  rw [Nat.zero_add, Int.toNat_natCast, rows_get' htk j (by simpa using hj) (by simp) (by
    intro r hr
    obtain ⟨q, hq, rfl⟩ := List.mem_map.1 hr
    rfl)]
  simp

theorem set_row {dat : List (List UInt8)} (hd : ∀ q ∈ dat, q.length = 64) {k : Nat} (hk : k < dat.length) {r : List UInt8} (hr : r.length ≤ 64) :
    spl (dat.map bv).flatten (0 + (k : Int).toNat * 64) (bv r) = ((dat.set k (r ++ (dat.getD k []).drop r.length)).map bv).flatten := by
  rw [Nat.zero_add, Int.toNat_natCast, rows_spl _ _ _ (by simpa using hk) (bv_rows hd) (by simpa using hr), List.map_set]
  congr 2
  rw [bv_append, bv_drop, List.getElem_map, length_bv, List.getD_eq_getElem?_getD, List.getElem?_eq_getElem hk]
  rfl
theorem runF_succ {w : List CallS} {D : List (List UInt8)} {j : Nat} (hj : j < w.length) : ((w.map wFull).take (j + 1)).foldl putW D = (((w.map wFull).take j).foldl putW D).set w[j].at_.toNat (pad 64 w[j].data) := by
  rw [List.take_succ_eq_append_getElem (by simpa using hj), List.foldl_append]
  simp [putW, wFull]
theorem runC_succ {w : List CallS} {D : List (List UInt8)} {j mask : Nat} {torn cut : Int} (hj : j < w.length) : crashTo mask torn cut ((w.map wFull).take (j + 1)) D = crash1 mask torn cut (crashTo mask torn cut ((w.map wFull).take j) D) (wFull w[j], j) := by
  have := crashTo_succ (mask := mask) (torn := torn) (cut := cut) (l := w.map wFull) (d := D) (i := j) (by simpa using hj)
  simpa using this
theorem RunI.lens {A : Asn} {i : Nat} {w : List CallS} {st : DS} (h : RunI A i w st) (j : Nat) : ∀ x ∈ (w.map wFull).take j, x.2.length = 64 ∧ x.1 < st.data.length := by
  intro x hx
  rw [← h.wait] at hx
  exact h.ok.wlen x (List.mem_of_mem_take hx)
theorem cur_row {dat : List (List UInt8)} (hd : ∀ q ∈ dat, q.length = 64) {k : Nat} (hk : k < dat.length) : ((dat.map bv).flatten.drop (0 + (k : Int).toNat * 64)).take 64 = bv (dat.getD k []) := by
  rw [Nat.zero_add, Int.toNat_natCast, rows_get _ _ (by simpa using hk) (bv_rows hd), List.getElem_map, List.getD_eq_getElem?_getD, List.getElem?_eq_getElem hk]
  rfl

set_option maxHeartbeats 2000000 in
set_option maxRecDepth 4000 in
theorem DiskRuns_law (W : World) (v : Value) (l : List CallS) (hv : CallsR (bag (blks W)) v l) : LawOf Try.prog 8 [v] W := by
  obtain ⟨pv, capv, rfl, hcap1, hcap2, hpv⟩ := hv.len
  have hcapm : l.length < 9223372036854775808 := by unfold maxLen at hcap2; omega
  refine FSpec.intro Try.func8 rfl 245 Try.ntmps8 (Nat.le_of_ble_eq_true rfl) fun w0 F => ?_
  show CW _ _ _ _ _ _ (_ :: F)
  repeat (first | refine CW.seq ?_ | refine PW.then_ ?_ | refine CW.block ?_ | refine CW.skip ?_ | refine CW.ret ?_ | refine PW.then_ret ?_ | refine PW.block_ret ?_ | refine Cut.ret ?_ | refine Rnd.ret ?_ | refine PW.block_normal ?_ | refine CW.exit ?_ | refine PW.then_exit ?_ | refine PW.block_hit ?_ | refine PW.block_miss rfl ?_ | refine Cut.exit ?_ | refine Rnd.exit ?_)
  refine CW.region ?_
  refine L1 (ps_assign rfl).os ?_
  refine LW.nil ?_
  repeat (first | refine CW.seq ?_ | refine PW.then_ ?_ | refine CW.block ?_ | refine CW.skip ?_ | refine CW.ret ?_ | refine PW.then_ret ?_ | refine PW.block_ret ?_ | refine Cut.ret ?_ | refine Rnd.ret ?_ | refine PW.block_normal ?_ | refine CW.exit ?_ | refine PW.then_exit ?_ | refine PW.block_hit ?_ | refine PW.block_miss rfl ?_ | refine Cut.exit ?_ | refine Rnd.exit ?_)
  refine CW.region ?_
  refine LE (os_call (pre := []) fit_spec Try.func16 (by decide +kernel) rfl rfl (List.Perm.refl _)) ?_
  rintro _ _ ⟨_, ⟨rfl, rfl⟩, rfl⟩
  refine L1 (ps_not rfl).os ?_
  refine LW.nil ?_
  repeat (first | refine CW.seq ?_ | refine PW.then_ ?_ | refine CW.block ?_ | refine CW.skip ?_ | refine CW.ret ?_ | refine PW.then_ret ?_ | refine PW.block_ret ?_ | refine Cut.ret ?_ | refine Rnd.ret ?_ | refine PW.block_normal ?_ | refine CW.exit ?_ | refine PW.then_exit ?_ | refine PW.block_hit ?_ | refine PW.block_miss rfl ?_ | refine Cut.exit ?_ | refine Rnd.exit ?_)
  refine CW.cond_false rfl ?_
  repeat (first | refine CW.seq ?_ | refine PW.then_ ?_ | refine CW.block ?_ | refine CW.skip ?_ | refine CW.ret ?_ | refine PW.then_ret ?_ | refine PW.block_ret ?_ | refine Cut.ret ?_ | refine Rnd.ret ?_ | refine PW.block_normal ?_ | refine CW.exit ?_ | refine PW.then_exit ?_ | refine PW.block_hit ?_ | refine PW.block_miss rfl ?_ | refine Cut.exit ?_ | refine Rnd.exit ?_)
  by_cases hlen : (200 : Int) < l.length
  · refine CW.region ?_
    refine L1 (ps_move rfl).os ?_
    refine L1 (ps_len_sl T.un22 rfl).os ?_
    refine L1 (ps_t (ps_gtr rfl rfl) (hlen)).os ?_
    refine LW.nil ?_
    repeat (first | refine CW.seq ?_ | refine PW.then_ ?_ | refine CW.block ?_ | refine CW.skip ?_ | refine CW.ret ?_ | refine PW.then_ret ?_ | refine PW.block_ret ?_ | refine Cut.ret ?_ | refine Rnd.ret ?_ | refine PW.block_normal ?_ | refine CW.exit ?_ | refine PW.then_exit ?_ | refine PW.block_hit ?_ | refine PW.block_miss rfl ?_ | refine Cut.exit ?_ | refine Rnd.exit ?_)
    refine CW.cond_true rfl ?_
    repeat (first | refine CW.seq ?_ | refine PW.then_ ?_ | refine CW.block ?_ | refine CW.skip ?_ | refine CW.ret ?_ | refine PW.then_ret ?_ | refine PW.block_ret ?_ | refine Cut.ret ?_ | refine Rnd.ret ?_ | refine PW.block_normal ?_ | refine CW.exit ?_ | refine PW.then_exit ?_ | refine PW.block_hit ?_ | refine PW.block_miss rfl ?_ | refine Cut.exit ?_ | refine Rnd.exit ?_)
    refine CW.region ?_
    refine L1 (ps_assign rfl).os ?_
    refine LW.nil ?_
    repeat (first | refine CW.seq ?_ | refine PW.then_ ?_ | refine CW.block ?_ | refine CW.skip ?_ | refine CW.ret ?_ | refine PW.then_ret ?_ | refine PW.block_ret ?_ | refine Cut.ret ?_ | refine Rnd.ret ?_ | refine PW.block_normal ?_ | refine CW.exit ?_ | refine PW.then_exit ?_ | refine PW.block_hit ?_ | refine PW.block_miss rfl ?_ | refine Cut.exit ?_ | refine Rnd.exit ?_)
    exact Fin.ret1 (v := .bool true) rfl [bag (blks W)] rfl ⟨rfl, rfl⟩ (by repeat (first | exact Ent.refl _ | (apply Ent.cons; · repeat (first | exact pk_head _ _ | apply pk_tail)) | apply Ent.skip))
  have hlen64 : l.length ≤ 200 := by omega
  refine CW.region ?_
  refine L1 (ps_move rfl).os ?_
  refine L1 (ps_len_sl T.un22 rfl).os ?_
  refine L1 (ps_f (ps_gtr rfl rfl) (hlen)).os ?_
  refine LW.nil ?_
  repeat (first | refine CW.seq ?_ | refine PW.then_ ?_ | refine CW.block ?_ | refine CW.skip ?_ | refine CW.ret ?_ | refine PW.then_ret ?_ | refine PW.block_ret ?_ | refine Cut.ret ?_ | refine Rnd.ret ?_ | refine PW.block_normal ?_ | refine CW.exit ?_ | refine PW.then_exit ?_ | refine PW.block_hit ?_ | refine PW.block_miss rfl ?_ | refine Cut.exit ?_ | refine Rnd.exit ?_)
  refine CW.cond_false rfl ?_
  repeat (first | refine CW.seq ?_ | refine PW.then_ ?_ | refine CW.block ?_ | refine CW.skip ?_ | refine CW.ret ?_ | refine PW.then_ret ?_ | refine PW.block_ret ?_ | refine Cut.ret ?_ | refine Rnd.ret ?_ | refine PW.block_normal ?_ | refine CW.exit ?_ | refine PW.then_exit ?_ | refine PW.block_hit ?_ | refine PW.block_miss rfl ?_ | refine Cut.exit ?_ | refine Rnd.exit ?_)
  refine CW.region ?_
  refine LE (os_call (pre := []) (New_yes 6 (by decide) (by decide)) Try.func17 (by decide +kernel) rfl rfl (List.Perm.refl _)) ?_
  rintro _ _ ⟨_, ⟨p, rfl, rfl⟩, rfl⟩
  refine L1 (ps_assign rfl).os ?_
  refine LW.nil ?_
  repeat (first | refine CW.seq ?_ | refine PW.then_ ?_ | refine CW.block ?_ | refine CW.skip ?_ | refine CW.ret ?_ | refine PW.then_ret ?_ | refine PW.block_ret ?_ | refine Cut.ret ?_ | refine Rnd.ret ?_ | refine PW.block_normal ?_ | refine CW.exit ?_ | refine PW.then_exit ?_ | refine PW.block_hit ?_ | refine PW.block_miss rfl ?_ | refine Cut.exit ?_ | refine Rnd.exit ?_)
  refine CW.region ?_
  refine LE (os_alloc (m0 ▸ T.ti44)) ?_
  rintro _ _ ⟨M, rfl, rfl⟩
  refine LW.nil ?_
  repeat (first | refine CW.seq ?_ | refine PW.then_ ?_ | refine CW.block ?_ | refine CW.skip ?_ | refine CW.ret ?_ | refine PW.then_ret ?_ | refine PW.block_ret ?_ | refine Cut.ret ?_ | refine Rnd.ret ?_ | refine PW.block_normal ?_ | refine CW.exit ?_ | refine PW.then_exit ?_ | refine PW.block_hit ?_ | refine PW.block_miss rfl ?_ | refine Cut.exit ?_ | refine Rnd.exit ?_)
  refine CW.region ?_
  refine L1 (ps_assign rfl).os ?_
  refine LW.nil ?_
  repeat (first | refine CW.seq ?_ | refine PW.then_ ?_ | refine CW.block ?_ | refine CW.skip ?_ | refine CW.ret ?_ | refine PW.then_ret ?_ | refine PW.block_ret ?_ | refine Cut.ret ?_ | refine Rnd.ret ?_ | refine PW.block_normal ?_ | refine CW.exit ?_ | refine PW.then_exit ?_ | refine PW.block_hit ?_ | refine PW.block_miss rfl ?_ | refine Cut.exit ?_ | refine Rnd.exit ?_)
  refine CW.region ?_
  refine L1 (ps_assign rfl).os ?_
  refine L1 (ps_assign rfl).os ?_
  refine LW.nil ?_
  repeat (first | refine CW.seq ?_ | refine PW.then_ ?_ | refine CW.block ?_ | refine CW.skip ?_ | refine CW.ret ?_ | refine PW.then_ret ?_ | refine PW.block_ret ?_ | refine Cut.ret ?_ | refine Rnd.ret ?_ | refine PW.block_normal ?_ | refine CW.exit ?_ | refine PW.then_exit ?_ | refine PW.block_hit ?_ | refine PW.block_miss rfl ?_ | refine Cut.exit ?_ | refine Rnd.exit ?_)
  refine CW.region ?_
  refine L1 (ps_assign rfl).os ?_
  refine LW.nil ?_
  repeat (first | refine CW.seq ?_ | refine PW.then_ ?_ | refine CW.block ?_ | refine CW.skip ?_ | refine CW.ret ?_ | refine PW.then_ret ?_ | refine PW.block_ret ?_ | refine Cut.ret ?_ | refine Rnd.ret ?_ | refine PW.block_normal ?_ | refine CW.exit ?_ | refine PW.then_exit ?_ | refine PW.block_hit ?_ | refine PW.block_miss rfl ?_ | refine Cut.exit ?_ | refine Rnd.exit ?_)
  refine CW.region ?_
  refine L1 (ps_move rfl).os ?_
  refine L1 (ps_len_sl T.un22 rfl).os ?_
  refine L1 (ps_move rfl).os ?_
  refine LW.nil ?_
  repeat (first | refine CW.seq ?_ | refine PW.then_ ?_ | refine CW.block ?_ | refine CW.skip ?_ | refine CW.ret ?_ | refine PW.then_ret ?_ | refine PW.block_ret ?_ | refine Cut.ret ?_ | refine Rnd.ret ?_ | refine PW.block_normal ?_ | refine CW.exit ?_ | refine PW.then_exit ?_ | refine PW.block_hit ?_ | refine PW.block_miss rfl ?_ | refine Cut.exit ?_ | refine Rnd.exit ?_)
  refine J.ent (Ent.slNil 29 6 _) ?_
  refine CW.loopM (α := Nat × Option Addr × Nat × List CallS × DS) [2, 5, 6, 7, 10, 11, 12, 13, 15, 16, 17, 18, 19, 20, 21, 23, 24, 25, 38, 39, 40, 41, 42, 43, 44, 45, 46, 47, 48, 49, 50, 51, 52, 53, 54, 55, 56, 57, 58, 59, 60, 61, 62, 63, 64, 65, 66, 67, 68, 69, 70, 71, 72, 73, 74, 75, 76, 77, 78, 79, 80, 81, 82, 83, 84, 85, 86, 87, 88, 89, 90, 91, 92, 93, 94, 95, 96, 97, 98, 99, 100, 101, 102, 103, 104, 105, 106, 107, 108, 109, 110, 111, 112, 113, 114, 115, 116, 117, 118, 119, 120, 121, 122, 123, 124, 125, 126, 127, 128, 129, 130, 131, 132, 133, 134, 135, 136, 137, 138, 139, 140, 141, 142, 143, 144, 145, 146, 147, 148, 149, 150, 151, 152, 153, 154, 155, 156, 157, 158, 159, 160, 161, 162, 163, 164, 165, 166, 167, 168, 169, 170, 171, 172, 173, 174, 175, 176, 177, 178, 179, 180, 181, 182, 183, 184, 185, 186, 187, 188, 189, 190, 191, 192, 193, 194, 195, 196, 197, 198, 199, 200, 201, 202, 203, 204, 205, 206, 207, 208, 209, 210, 211, 212, 213, 214, 215, 216, 217, 218, 219, 220, 221, 222, 223, 224, 225, 226, 227, 228] (fun k a => a.1 ≤ l.length ∧ k = l.length - a.1 ∧ RunI (bag (blks W)) a.1 a.2.2.2.1 a.2.2.2.2)
    (fun a => [(38, .int .i64 a.1), (5, .slice a.2.1 a.2.2.2.1.length a.2.2.1), (6, .int .i64 (lv a.2.2.2.2)), (7, .int .i64 a.2.2.2.2.count)])
    (fun a => DiskAt p a.2.2.2.2 :: cb M 44 ((a.2.2.2.2.data.map bv).flatten) :: slOwn 29 6 (.slice a.2.1 a.2.2.2.1.length a.2.2.1) a.2.2.2.1.length (a.2.2.2.1.map callCells).flatten :: bag (blks W) :: F) l.length (0, none, 0, [], DS.new 6)
    ⟨Nat.zero_le _, rfl, DS.new_ok (by decide), by simp [DS.new], rfl, by simp, by decide, by decide, Nat.le_refl _⟩ ⟨rfl, rfl, rfl, rfl, trivial⟩ (by repeat (first | exact Ent.refl _ | (apply Ent.cons; · repeat (first | exact pk_head _ _ | apply pk_tail)) | apply Ent.skip)) ?_
  rintro k ⟨i, q, d, w, st⟩ g ⟨hi, hk, hs⟩
  dsimp only at hi hk hs
  dsimp only
  repeat (first | refine CW.seq ?_ | refine PW.then_ ?_ | refine CW.block ?_ | refine CW.skip ?_ | refine CW.ret ?_ | refine PW.then_ret ?_ | refine PW.block_ret ?_ | refine Cut.ret ?_ | refine Rnd.ret ?_ | refine PW.block_normal ?_ | refine CW.exit ?_ | refine PW.then_exit ?_ | refine PW.block_hit ?_ | refine PW.block_miss rfl ?_ | refine Cut.exit ?_ | refine Rnd.exit ?_)
  by_cases hlt : i < l.length
  · refine CW.region ?_
    refine L1 (ps_t (ps_lss rfl rfl) (by omega)).os ?_
    refine LW.nil ?_
    repeat (first | refine CW.seq ?_ | refine PW.then_ ?_ | refine CW.block ?_ | refine CW.skip ?_ | refine CW.ret ?_ | refine PW.then_ret ?_ | refine PW.block_ret ?_ | refine Cut.ret ?_ | refine Rnd.ret ?_ | refine PW.block_normal ?_ | refine CW.exit ?_ | refine PW.then_exit ?_ | refine PW.block_hit ?_ | refine PW.block_miss rfl ?_ | refine Cut.exit ?_ | refine Rnd.exit ?_)
    refine CW.cond_true rfl ?_
    repeat (first | refine CW.seq ?_ | refine PW.then_ ?_ | refine CW.block ?_ | refine CW.skip ?_ | refine CW.ret ?_ | refine PW.then_ret ?_ | refine PW.block_ret ?_ | refine Cut.ret ?_ | refine Rnd.ret ?_ | refine PW.block_normal ?_ | refine CW.exit ?_ | refine PW.then_exit ?_ | refine PW.block_hit ?_ | refine PW.block_miss rfl ?_ | refine Cut.exit ?_ | refine Rnd.exit ?_)
    obtain ⟨vb, vo, rfl⟩ := hpv (fun h => by rw [h] at hlt; exact absurd hlt (Nat.not_lt_zero _))
    have hok := hv.2 l[i] (List.getElem_mem hlt)
    have hsrc := fun As Bs (hp : List.Perm As (bag (blks W) :: Bs)) => hv.src hlt hp
    have hone := callCells_one hok
    have hwr := hs.write hok
    generalize l[i] = c at hok hsrc hone hwr
    obtain ⟨kind, at_, dv, data, cmask, torn, cut⟩ := c
    have hok0 := hok
    obtain ⟨hkind, hat, hd, hdl, hcm, htorn, hcut⟩ := hok
    have hd1 := hd
    obtain ⟨pd, capd, hdv, hcd, -⟩ := hd1
    dsimp only at hdv hd hdl hcd hkind hat hcm htorn hcut hwr
    subst hdv
    obtain ⟨mk, rfl⟩ := Int.eq_ofNat_of_zero_le hcm.1
    have hmk : mk < 18446744073709551616 := by omega
    unfold maxLen at hdl
    unfold is64 at hkind hat htorn hcut
    refine CW.region ?_
    refine L1 (ps_ia_slice T.un22 T.sz29 rfl rfl (by omega) (by omega)).os ?_
    refine L1 (os_loadS (hsrc _ _ (by repeat (first | exact pk_head _ _ | apply pk_tail))) (by simp [callCells]) T.ag29 T.sz29 rfl) ?_
    refine LE (os_alloc T.ti29) ?_
    rintro _ _ ⟨b10, rfl, rfl⟩
    refine L1 (os_storeAll (b := b10) (vs := [.int .i64 kind, .int .i64 at_, .slice pd data.length capd, .int .u64 mk, .int .i64 torn, .int .i64 cut]) (by repeat (first | exact pk_head _ _ | apply pk_tail)) T.sz29 rfl rfl hone (by rfl)) ?_
    refine LW.nil ?_
    repeat (first | refine CW.seq ?_ | refine PW.then_ ?_ | refine CW.block ?_ | refine CW.skip ?_ | refine CW.ret ?_ | refine PW.then_ret ?_ | refine PW.block_ret ?_ | refine Cut.ret ?_ | refine Rnd.ret ?_ | refine PW.block_normal ?_ | refine CW.exit ?_ | refine PW.then_exit ?_ | refine PW.block_hit ?_ | refine PW.block_miss rfl ?_ | refine Cut.exit ?_ | refine Rnd.exit ?_)
    by_cases hdat : (100 : Int) < data.length
    · refine CW.region ?_
      refine L1 (ps_fa T.fa29_2 (by decide) rfl).os ?_
      refine L1 (os_load1 (by repeat (first | exact pk_head _ _ | apply pk_tail)) T.ag27 rfl (by rfl)) ?_
      refine L1 (ps_len_sl T.un27 rfl).os ?_
      refine L1 (ps_t (ps_gtr rfl rfl) (hdat)).os ?_
      refine LW.nil ?_
      repeat (first | refine CW.seq ?_ | refine PW.then_ ?_ | refine CW.block ?_ | refine CW.skip ?_ | refine CW.ret ?_ | refine PW.then_ret ?_ | refine PW.block_ret ?_ | refine Cut.ret ?_ | refine Rnd.ret ?_ | refine PW.block_normal ?_ | refine CW.exit ?_ | refine PW.then_exit ?_ | refine PW.block_hit ?_ | refine PW.block_miss rfl ?_ | refine Cut.exit ?_ | refine Rnd.exit ?_)
      refine CW.cond_true rfl ?_
      repeat (first | refine CW.seq ?_ | refine PW.then_ ?_ | refine CW.block ?_ | refine CW.skip ?_ | refine CW.ret ?_ | refine PW.then_ret ?_ | refine PW.block_ret ?_ | refine Cut.ret ?_ | refine Rnd.ret ?_ | refine PW.block_normal ?_ | refine CW.exit ?_ | refine PW.then_exit ?_ | refine PW.block_hit ?_ | refine PW.block_miss rfl ?_ | refine Cut.exit ?_ | refine Rnd.exit ?_)
      refine CW.region ?_
      refine L1 (ps_assign rfl).os ?_
      refine LW.nil ?_
      repeat (first | refine CW.seq ?_ | refine PW.then_ ?_ | refine CW.block ?_ | refine CW.skip ?_ | refine CW.ret ?_ | refine PW.then_ret ?_ | refine PW.block_ret ?_ | refine Cut.ret ?_ | refine Rnd.ret ?_ | refine PW.block_normal ?_ | refine CW.exit ?_ | refine PW.then_exit ?_ | refine PW.block_hit ?_ | refine PW.block_miss rfl ?_ | refine Cut.exit ?_ | refine Rnd.exit ?_)
      exact Fin.ret1 (v := .bool true) rfl [bag (blks W)] rfl ⟨rfl, rfl⟩ (by repeat (first | exact Ent.refl _ | (apply Ent.cons; · repeat (first | exact pk_head _ _ | apply pk_tail)) | apply Ent.skip))
    refine CW.region ?_
    refine L1 (ps_fa T.fa29_2 (by decide) rfl).os ?_
    refine L1 (os_load1 (by repeat (first | exact pk_head _ _ | apply pk_tail)) T.ag27 rfl (by rfl)) ?_
    refine L1 (ps_len_sl T.un27 rfl).os ?_
    refine L1 (ps_f (ps_gtr rfl rfl) (hdat)).os ?_
    refine LW.nil ?_
    repeat (first | refine CW.seq ?_ | refine PW.then_ ?_ | refine CW.block ?_ | refine CW.skip ?_ | refine CW.ret ?_ | refine PW.then_ret ?_ | refine PW.block_ret ?_ | refine Cut.ret ?_ | refine Rnd.ret ?_ | refine PW.block_normal ?_ | refine CW.exit ?_ | refine PW.then_exit ?_ | refine PW.block_hit ?_ | refine PW.block_miss rfl ?_ | refine Cut.exit ?_ | refine Rnd.exit ?_)
    refine CW.cond_false rfl ?_
    refine CW.skip ?_
    refine PW.then_ ?_
    refine CW.cutM (α := Bool) [11, 46, 47, 48, 49, 50, 51, 52, 53] (fun a => (a = true ∧ 0 ≤ at_ ∧ at_ < 6) ∨ (a = false ∧ (at_ < 0 ∨ 6 ≤ at_))) (fun a => [(11, .bool a)])
      (fun a => cb b10 29 ([.int .i64 kind, .int .i64 at_, .slice pd data.length capd, .int .u64 mk, .int .i64 torn, .int .i64 cut]) :: DiskAt p st :: cb M 44 ((st.data.map bv).flatten) :: slOwn 29 6 (.slice q w.length d) w.length (w.map callCells).flatten :: bag (blks W) :: F) ?_ ?_
    · by_cases h0 : 0 ≤ at_
      · by_cases h6 : at_ < 6
        · refine CW.region ?_
          refine L1 (ps_fa T.fa29_1 (by decide) rfl).os ?_
          refine L1 (os_load1 (by repeat (first | exact pk_head _ _ | apply pk_tail)) T.ag3 rfl (by rfl)) ?_
          refine L1 (ps_t (ps_geq rfl rfl) (h0)).os ?_
          refine L1 (ps_move rfl).os ?_
          refine LG1 ?_ (ps_fa T.fa29_1 (by decide) rfl).os ?_
          · exact rfl
          refine LG1 ?_ (os_load1 (by repeat (first | exact pk_head _ _ | apply pk_tail)) T.ag3 rfl (by rfl)) ?_
          · exact rfl
          refine LG1 ?_ (ps_t (ps_lss rfl rfl) (h6)).os ?_
          · exact rfl
          refine L1 (ps_pick_t rfl rfl).os ?_
          refine L1 (ps_assign rfl).os ?_
          refine LW.nil ?_
          exact Meet.cut true (.inl ⟨rfl, h0, h6⟩) (by repeat (first | (with_reducible exact Ag.refl _ _) | (with_reducible apply Ag.pu0) | ((with_reducible refine Ag.pu _ ?_ ?_); · exact rfl) | ((with_reducible refine Ag.mix ?_ ?_); · exact rfl) | ((with_reducible refine Ag.pus ?_ ?_); · exact rfl))) ⟨rfl, trivial⟩ (by repeat (first | exact Ent.refl _ | (apply Ent.cons; · repeat (first | exact pk_head _ _ | apply pk_tail)) | apply Ent.skip))
        · refine CW.region ?_
          refine L1 (ps_fa T.fa29_1 (by decide) rfl).os ?_
          refine L1 (os_load1 (by repeat (first | exact pk_head _ _ | apply pk_tail)) T.ag3 rfl (by rfl)) ?_
          refine L1 (ps_t (ps_geq rfl rfl) (h0)).os ?_
          refine L1 (ps_move rfl).os ?_
          refine LG1 ?_ (ps_fa T.fa29_1 (by decide) rfl).os ?_
          · exact rfl
          refine LG1 ?_ (os_load1 (by repeat (first | exact pk_head _ _ | apply pk_tail)) T.ag3 rfl (by rfl)) ?_
          · exact rfl
          refine LG1 ?_ (ps_f (ps_lss rfl rfl) (h6)).os ?_
          · exact rfl
          refine L1 (ps_pick_t rfl rfl).os ?_
          refine L1 (ps_assign rfl).os ?_
          refine LW.nil ?_
          exact Meet.cut false (.inr ⟨rfl, by omega⟩) (by repeat (first | (with_reducible exact Ag.refl _ _) | (with_reducible apply Ag.pu0) | ((with_reducible refine Ag.pu _ ?_ ?_); · exact rfl) | ((with_reducible refine Ag.mix ?_ ?_); · exact rfl) | ((with_reducible refine Ag.pus ?_ ?_); · exact rfl))) ⟨rfl, trivial⟩ (by repeat (first | exact Ent.refl _ | (apply Ent.cons; · repeat (first | exact pk_head _ _ | apply pk_tail)) | apply Ent.skip))
      · refine CW.region ?_
        refine L1 (ps_fa T.fa29_1 (by decide) rfl).os ?_
        refine L1 (os_load1 (by repeat (first | exact pk_head _ _ | apply pk_tail)) T.ag3 rfl (by rfl)) ?_
        refine L1 (ps_f (ps_geq rfl rfl) (h0)).os ?_
        refine L1 (ps_move rfl).os ?_
        refine LG0t ?_ ?_
        · exact rfl
        refine LG0t ?_ ?_
        · exact rfl
        refine LG0t ?_ ?_
        · exact rfl
        refine L1 (ps_pick_f rfl rfl).os ?_
        refine L1 (ps_assign rfl).os ?_
        refine LW.nil ?_
        exact Meet.cut false (.inr ⟨rfl, by omega⟩) (by repeat (first | (with_reducible exact Ag.refl _ _) | (with_reducible apply Ag.pu0) | ((with_reducible refine Ag.pu _ ?_ ?_); · exact rfl) | ((with_reducible refine Ag.mix ?_ ?_); · exact rfl) | ((with_reducible refine Ag.pus ?_ ?_); · exact rfl))) ⟨rfl, trivial⟩ (by repeat (first | exact Ent.refl _ | (apply Ent.cons; · repeat (first | exact pk_head _ _ | apply pk_tail)) | apply Ent.skip))
    intro there g1 hth
    refine CW.cutM (α := Option Addr × Nat × List CallS × DS) [2, 5, 6, 7, 12, 13, 15, 16, 17, 18, 19, 54, 55, 56, 57, 58, 59, 60, 61, 62, 63, 64, 65, 66, 67, 68, 69, 70, 71, 72, 73, 74, 75, 76, 77, 78, 79, 80, 81, 82, 83, 84, 85, 86, 87, 88, 89, 90, 91, 92, 93, 94, 95, 96, 97, 98, 99, 100, 101, 102, 103, 104, 105, 106, 107, 108, 109, 110, 111, 112, 113, 114, 115, 116, 117, 118, 119, 120, 121, 122, 123, 124, 125, 126, 127, 128, 129, 130, 131, 132, 133, 134, 135, 136, 137, 138, 139, 140, 141, 142, 143, 144, 145, 146, 147, 148, 149, 150, 151, 152, 153, 154, 155, 156, 157, 158, 159, 160, 161, 162, 163, 164, 165, 166, 167] (fun a => RunI (bag (blks W)) (i + 1) a.2.2.1 a.2.2.2) (fun a => [(5, .slice a.1 a.2.2.1.length a.2.1), (6, .int .i64 (lv a.2.2.2)), (7, .int .i64 a.2.2.2.count)])
      (fun a => cb b10 29 ([.int .i64 kind, .int .i64 at_, .slice pd data.length capd, .int .u64 mk, .int .i64 torn, .int .i64 cut]) :: DiskAt p a.2.2.2 :: cb M 44 ((a.2.2.2.data.map bv).flatten) :: slOwn 29 6 (.slice a.1 a.2.2.1.length a.2.1) a.2.2.1.length (a.2.2.1.map callCells).flatten :: bag (blks W) :: F) ?_ ?_
    · have h5 : -5 < kind.tmod 5 ∧ kind.tmod 5 < 5 := ⟨Int.lt_tmod_of_pos _ (by decide), Int.tmod_lt_of_pos _ (by decide)⟩
      have hlb := lv_bounds hs
      have hsl := hs.wlen
      have hwl := hs.wl
      refine CW.seq ?_
      refine CW.region ?_
      refine L1 (ps_fa T.fa29_0 (by decide) rfl).os ?_
      refine L1 (os_load1 (by repeat (first | exact pk_head _ _ | apply pk_tail)) T.ag3 rfl (by rfl)) ?_
      refine L1 (ps_rem rfl rfl (by decide)).os ?_
      refine L1 (ps_add_i64 rfl rfl (by omega) (by omega)).os ?_
      refine L1 (ps_rem_pos rfl rfl (by omega) (by decide)).os ?_
      refine LW.nil ?_
      generalize hkd : (kind.tmod 5 + 5) % 5 = kd
      have hk5 : 0 ≤ kd ∧ kd < 5 := by omega
      refine PW.then_ (CW.block ?_)
      refine CW.cutM (α := Bool) [66, 67, 68] (fun a => a = decide (kd = 0 ∨ kd = 1)) (fun a => [(66, .bool a)]) (fun a => cb b10 29 ([.int .i64 kind, .int .i64 at_, .slice pd data.length capd, .int .u64 mk, .int .i64 torn, .int .i64 cut]) :: DiskAt p st :: cb M 44 ((st.data.map bv).flatten) :: slOwn 29 6 (.slice q w.length d) w.length (w.map callCells).flatten :: bag (blks W) :: F) ?_ ?_
      · repeat (first | refine CW.seq ?_ | refine PW.then_ ?_ | refine CW.block ?_ | refine CW.skip ?_ | refine CW.ret ?_ | refine PW.then_ret ?_ | refine PW.block_ret ?_ | refine Cut.ret ?_ | refine Rnd.ret ?_ | refine PW.block_normal ?_ | refine CW.exit ?_ | refine PW.then_exit ?_ | refine PW.block_hit ?_ | refine PW.block_miss rfl ?_ | refine Cut.exit ?_ | refine Rnd.exit ?_)
        by_cases h0 : kd = 0
        · refine CW.region ?_
          refine L1 (ps_t (ps_eql rfl rfl) (h0)).os ?_
          refine L1 (ps_assign rfl).os ?_
          refine LW.nil ?_
          repeat (first | refine CW.seq ?_ | refine PW.then_ ?_ | refine CW.block ?_ | refine CW.skip ?_ | refine CW.ret ?_ | refine PW.then_ret ?_ | refine PW.block_ret ?_ | refine Cut.ret ?_ | refine Rnd.ret ?_ | refine PW.block_normal ?_ | refine CW.exit ?_ | refine PW.then_exit ?_ | refine PW.block_hit ?_ | refine PW.block_miss rfl ?_ | refine Cut.exit ?_ | refine Rnd.exit ?_)
          refine CW.cond_true rfl ?_
          repeat (first | refine CW.seq ?_ | refine PW.then_ ?_ | refine CW.block ?_ | refine CW.skip ?_ | refine CW.ret ?_ | refine PW.then_ret ?_ | refine PW.block_ret ?_ | refine Cut.ret ?_ | refine Rnd.ret ?_ | refine PW.block_normal ?_ | refine CW.exit ?_ | refine PW.then_exit ?_ | refine PW.block_hit ?_ | refine PW.block_miss rfl ?_ | refine Cut.exit ?_ | refine Rnd.exit ?_)
          exact Meet.cut true (by simp [h0]) (by repeat (first | (with_reducible exact Ag.refl _ _) | (with_reducible apply Ag.pu0) | ((with_reducible refine Ag.pu _ ?_ ?_); · exact rfl) | ((with_reducible refine Ag.mix ?_ ?_); · exact rfl) | ((with_reducible refine Ag.pus ?_ ?_); · exact rfl))) ⟨rfl, trivial⟩ (by repeat (first | exact Ent.refl _ | (apply Ent.cons; · repeat (first | exact pk_head _ _ | apply pk_tail)) | apply Ent.skip))
        · refine CW.region ?_
          refine L1 (ps_f (ps_eql rfl rfl) (h0)).os ?_
          refine L1 (ps_assign rfl).os ?_
          refine LW.nil ?_
          repeat (first | refine CW.seq ?_ | refine PW.then_ ?_ | refine CW.block ?_ | refine CW.skip ?_ | refine CW.ret ?_ | refine PW.then_ret ?_ | refine PW.block_ret ?_ | refine Cut.ret ?_ | refine Rnd.ret ?_ | refine PW.block_normal ?_ | refine CW.exit ?_ | refine PW.then_exit ?_ | refine PW.block_hit ?_ | refine PW.block_miss rfl ?_ | refine Cut.exit ?_ | refine Rnd.exit ?_)
          refine CW.cond_false rfl ?_
          repeat (first | refine CW.seq ?_ | refine PW.then_ ?_ | refine CW.block ?_ | refine CW.skip ?_ | refine CW.ret ?_ | refine PW.then_ret ?_ | refine PW.block_ret ?_ | refine Cut.ret ?_ | refine Rnd.ret ?_ | refine PW.block_normal ?_ | refine CW.exit ?_ | refine PW.then_exit ?_ | refine PW.block_hit ?_ | refine PW.block_miss rfl ?_ | refine Cut.exit ?_ | refine Rnd.exit ?_)
          by_cases h1 : kd = 1
          · refine CW.region ?_
            refine L1 (ps_t (ps_eql rfl rfl) (h1)).os ?_
            refine L1 (ps_assign rfl).os ?_
            refine LW.nil ?_
            repeat (first | refine CW.seq ?_ | refine PW.then_ ?_ | refine CW.block ?_ | refine CW.skip ?_ | refine CW.ret ?_ | refine PW.then_ret ?_ | refine PW.block_ret ?_ | refine Cut.ret ?_ | refine Rnd.ret ?_ | refine PW.block_normal ?_ | refine CW.exit ?_ | refine PW.then_exit ?_ | refine PW.block_hit ?_ | refine PW.block_miss rfl ?_ | refine Cut.exit ?_ | refine Rnd.exit ?_)
            exact Meet.cut true (by simp [h1]) (by repeat (first | (with_reducible exact Ag.refl _ _) | (with_reducible apply Ag.pu0) | ((with_reducible refine Ag.pu _ ?_ ?_); · exact rfl) | ((with_reducible refine Ag.mix ?_ ?_); · exact rfl) | ((with_reducible refine Ag.pus ?_ ?_); · exact rfl))) ⟨rfl, trivial⟩ (by repeat (first | exact Ent.refl _ | (apply Ent.cons; · repeat (first | exact pk_head _ _ | apply pk_tail)) | apply Ent.skip))
          · refine CW.region ?_
            refine L1 (ps_f (ps_eql rfl rfl) (h1)).os ?_
            refine L1 (ps_assign rfl).os ?_
            refine LW.nil ?_
            repeat (first | refine CW.seq ?_ | refine PW.then_ ?_ | refine CW.block ?_ | refine CW.skip ?_ | refine CW.ret ?_ | refine PW.then_ret ?_ | refine PW.block_ret ?_ | refine Cut.ret ?_ | refine Rnd.ret ?_ | refine PW.block_normal ?_ | refine CW.exit ?_ | refine PW.then_exit ?_ | refine PW.block_hit ?_ | refine PW.block_miss rfl ?_ | refine Cut.exit ?_ | refine Rnd.exit ?_)
            exact Meet.cut false (by simp [h0, h1]) (by repeat (first | (with_reducible exact Ag.refl _ _) | (with_reducible apply Ag.pu0) | ((with_reducible refine Ag.pu _ ?_ ?_); · exact rfl) | ((with_reducible refine Ag.mix ?_ ?_); · exact rfl) | ((with_reducible refine Ag.pus ?_ ?_); · exact rfl))) ⟨rfl, trivial⟩ (by repeat (first | exact Ent.refl _ | (apply Ent.cons; · repeat (first | exact pk_head _ _ | apply pk_tail)) | apply Ent.skip))
      intro a g2 ha
      dsimp only
      by_cases h01 : kd = 0 ∨ kd = 1
      · obtain rfl : a = true := by rw [ha]; simpa using h01
        refine CW.cond_true rfl ?_
        have q1 : st.wait.length ≤ 1000000 := by omega
        have q2 : 0 ≤ st.count ∧ st.count ≤ 1000000000 := by have := hs.cnt; omega
        have hdl6 := hs.dl
        repeat (first | refine CW.seq ?_ | refine PW.then_ ?_ | refine CW.block ?_ | refine CW.skip ?_ | refine CW.ret ?_ | refine PW.then_ret ?_ | refine PW.block_ret ?_ | refine Cut.ret ?_ | refine Rnd.ret ?_ | refine PW.block_normal ?_ | refine CW.exit ?_ | refine PW.then_exit ?_ | refine PW.block_hit ?_ | refine PW.block_miss rfl ?_ | refine Cut.exit ?_ | refine Rnd.exit ?_)
        refine CW.region ?_
        refine L1 (ps_assign rfl).os ?_
        refine LW.nil ?_
        repeat (first | refine CW.seq ?_ | refine PW.then_ ?_ | refine CW.block ?_ | refine CW.skip ?_ | refine CW.ret ?_ | refine PW.then_ret ?_ | refine PW.block_ret ?_ | refine Cut.ret ?_ | refine Rnd.ret ?_ | refine PW.block_normal ?_ | refine CW.exit ?_ | refine PW.then_exit ?_ | refine PW.block_hit ?_ | refine PW.block_miss rfl ?_ | refine Cut.exit ?_ | refine Rnd.exit ?_)
        rcases hth with ⟨rfl, h0, h6⟩ | ⟨rfl, hoff⟩
        · by_cases h64 : (64 : Int) < data.length
          · have hwo : st.write at_ data = (5, st) := write_off (.inr (.inr (by omega)))
            refine CW.region ?_
            refine L1 (ps_move rfl).os ?_
            refine L1 (ps_not rfl).os ?_
            refine L1 (ps_move rfl).os ?_
            refine LG1 ?_ (ps_fa T.fa29_2 (by decide) rfl).os ?_
            · exact rfl
            refine LG1 ?_ (os_load1 (by repeat (first | exact pk_head _ _ | apply pk_tail)) T.ag27 rfl (by rfl)) ?_
            · exact rfl
            refine LG1 ?_ (ps_len_sl T.un27 rfl).os ?_
            · exact rfl
            refine LG1 ?_ (ps_t (ps_gtr rfl rfl) (h64)).os ?_
            · exact rfl
            refine L1 (ps_pick_f rfl rfl).os ?_
            refine L1 (ps_assign rfl).os ?_
            refine LW.nil ?_
            repeat (first | refine CW.seq ?_ | refine PW.then_ ?_ | refine CW.block ?_ | refine CW.skip ?_ | refine CW.ret ?_ | refine PW.then_ret ?_ | refine PW.block_ret ?_ | refine Cut.ret ?_ | refine Rnd.ret ?_ | refine PW.block_normal ?_ | refine CW.exit ?_ | refine PW.then_exit ?_ | refine PW.block_hit ?_ | refine PW.block_miss rfl ?_ | refine Cut.exit ?_ | refine Rnd.exit ?_)
            refine CW.cond_true rfl ?_
            repeat (first | refine CW.seq ?_ | refine PW.then_ ?_ | refine CW.block ?_ | refine CW.skip ?_ | refine CW.ret ?_ | refine PW.then_ret ?_ | refine PW.block_ret ?_ | refine Cut.ret ?_ | refine Rnd.ret ?_ | refine PW.block_normal ?_ | refine CW.exit ?_ | refine PW.then_exit ?_ | refine PW.block_hit ?_ | refine PW.block_miss rfl ?_ | refine Cut.exit ?_ | refine Rnd.exit ?_)
            refine CW.region ?_
            refine L1 (ps_assign rfl).os ?_
            refine LW.nil ?_
            repeat (first | refine CW.seq ?_ | refine PW.then_ ?_ | refine CW.block ?_ | refine CW.skip ?_ | refine CW.ret ?_ | refine PW.then_ret ?_ | refine PW.block_ret ?_ | refine Cut.ret ?_ | refine Rnd.ret ?_ | refine PW.block_normal ?_ | refine CW.exit ?_ | refine PW.then_exit ?_ | refine PW.block_hit ?_ | refine PW.block_miss rfl ?_ | refine Cut.exit ?_ | refine Rnd.exit ?_)
            refine CW.region ?_
            refine L1 (ps_move rfl).os ?_
            refine L1 (ps_fa T.fa29_1 (by decide) rfl).os ?_
            refine L1 (os_load1 (by repeat (first | exact pk_head _ _ | apply pk_tail)) T.ag3 rfl (by rfl)) ?_
            refine L1 (ps_fa T.fa29_2 (by decide) rfl).os ?_
            refine L1 (os_load1 (by repeat (first | exact pk_head _ _ | apply pk_tail)) T.ag27 rfl (by rfl)) ?_
            refine LE (os_call (Write_to hwo hd q1 q2 hs.ll) Try.func18 (by decide +kernel) rfl rfl (pk2 (by repeat (first | exact pk_head _ _ | apply pk_tail)) (by repeat (first | exact pk_head _ _ | apply pk_tail)))) ?_
            rintro _ _ ⟨_, ⟨rfl, rfl⟩, rfl⟩
            refine L1 (ps_move rfl).os ?_
            refine L1 (ps_f (ps_neq rfl rfl) (by decide)).os ?_
            refine LW.nil ?_
            repeat (first | refine CW.seq ?_ | refine PW.then_ ?_ | refine CW.block ?_ | refine CW.skip ?_ | refine CW.ret ?_ | refine PW.then_ret ?_ | refine PW.block_ret ?_ | refine Cut.ret ?_ | refine Rnd.ret ?_ | refine PW.block_normal ?_ | refine CW.exit ?_ | refine PW.then_exit ?_ | refine PW.block_hit ?_ | refine PW.block_miss rfl ?_ | refine Cut.exit ?_ | refine Rnd.exit ?_)
            refine CW.cond_false rfl ?_
            repeat (first | refine CW.seq ?_ | refine PW.then_ ?_ | refine CW.block ?_ | refine CW.skip ?_ | refine CW.ret ?_ | refine PW.then_ret ?_ | refine PW.block_ret ?_ | refine Cut.ret ?_ | refine Rnd.ret ?_ | refine PW.block_normal ?_ | refine CW.exit ?_ | refine PW.then_exit ?_ | refine PW.block_hit ?_ | refine PW.block_miss rfl ?_ | refine Cut.exit ?_ | refine Rnd.exit ?_)
            exact Meet.cut (q, d, w, st) hs.step (by repeat (first | (with_reducible exact Ag.refl _ _) | (with_reducible apply Ag.pu0) | ((with_reducible refine Ag.pu _ ?_ ?_); · exact rfl) | ((with_reducible refine Ag.mix ?_ ?_); · exact rfl) | ((with_reducible refine Ag.pus ?_ ?_); · exact rfl))) ⟨rfl, rfl, rfl, trivial⟩ (by repeat (first | exact Ent.refl _ | (apply Ent.cons; · repeat (first | exact pk_head _ _ | apply pk_tail)) | apply Ent.skip))
          · have h64' : data.length ≤ 64 := by omega
            by_cases hz : lv st = 0
            · have hwo : st.write at_ data = (4, st) := write_sunk h0 (by rw [hdl6]; exact h6) h64' (by rw [lv_down]; simpa using hz)
              refine CW.region ?_
              refine L1 (ps_move rfl).os ?_
              refine L1 (ps_not rfl).os ?_
              refine L1 (ps_move rfl).os ?_
              refine LG1 ?_ (ps_fa T.fa29_2 (by decide) rfl).os ?_
              · exact rfl
              refine LG1 ?_ (os_load1 (by repeat (first | exact pk_head _ _ | apply pk_tail)) T.ag27 rfl (by rfl)) ?_
              · exact rfl
              refine LG1 ?_ (ps_len_sl T.un27 rfl).os ?_
              · exact rfl
              refine LG1 ?_ (ps_f (ps_gtr rfl rfl) (h64)).os ?_
              · exact rfl
              refine L1 (ps_pick_f rfl rfl).os ?_
              refine L1 (ps_assign rfl).os ?_
              refine LW.nil ?_
              repeat (first | refine CW.seq ?_ | refine PW.then_ ?_ | refine CW.block ?_ | refine CW.skip ?_ | refine CW.ret ?_ | refine PW.then_ret ?_ | refine PW.block_ret ?_ | refine Cut.ret ?_ | refine Rnd.ret ?_ | refine PW.block_normal ?_ | refine CW.exit ?_ | refine PW.then_exit ?_ | refine PW.block_hit ?_ | refine PW.block_miss rfl ?_ | refine Cut.exit ?_ | refine Rnd.exit ?_)
              refine CW.cond_false rfl ?_
              repeat (first | refine CW.seq ?_ | refine PW.then_ ?_ | refine CW.block ?_ | refine CW.skip ?_ | refine CW.ret ?_ | refine PW.then_ret ?_ | refine PW.block_ret ?_ | refine Cut.ret ?_ | refine Rnd.ret ?_ | refine PW.block_normal ?_ | refine CW.exit ?_ | refine PW.then_exit ?_ | refine PW.block_hit ?_ | refine PW.block_miss rfl ?_ | refine Cut.exit ?_ | refine Rnd.exit ?_)
              refine CW.region ?_
              refine L1 (ps_move rfl).os ?_
              refine L1 (ps_t (ps_eql rfl rfl) (hz)).os ?_
              refine L1 (ps_assign rfl).os ?_
              refine LW.nil ?_
              repeat (first | refine CW.seq ?_ | refine PW.then_ ?_ | refine CW.block ?_ | refine CW.skip ?_ | refine CW.ret ?_ | refine PW.then_ret ?_ | refine PW.block_ret ?_ | refine Cut.ret ?_ | refine Rnd.ret ?_ | refine PW.block_normal ?_ | refine CW.exit ?_ | refine PW.then_exit ?_ | refine PW.block_hit ?_ | refine PW.block_miss rfl ?_ | refine Cut.exit ?_ | refine Rnd.exit ?_)
              refine CW.cond_true rfl ?_
              repeat (first | refine CW.seq ?_ | refine PW.then_ ?_ | refine CW.block ?_ | refine CW.skip ?_ | refine CW.ret ?_ | refine PW.then_ret ?_ | refine PW.block_ret ?_ | refine Cut.ret ?_ | refine Rnd.ret ?_ | refine PW.block_normal ?_ | refine CW.exit ?_ | refine PW.then_exit ?_ | refine PW.block_hit ?_ | refine PW.block_miss rfl ?_ | refine Cut.exit ?_ | refine Rnd.exit ?_)
              refine CW.region ?_
              refine L1 (ps_assign rfl).os ?_
              refine LW.nil ?_
              repeat (first | refine CW.seq ?_ | refine PW.then_ ?_ | refine CW.block ?_ | refine CW.skip ?_ | refine CW.ret ?_ | refine PW.then_ret ?_ | refine PW.block_ret ?_ | refine Cut.ret ?_ | refine Rnd.ret ?_ | refine PW.block_normal ?_ | refine CW.exit ?_ | refine PW.then_exit ?_ | refine PW.block_hit ?_ | refine PW.block_miss rfl ?_ | refine Cut.exit ?_ | refine Rnd.exit ?_)
              refine CW.region ?_
              refine L1 (ps_move rfl).os ?_
              refine L1 (ps_fa T.fa29_1 (by decide) rfl).os ?_
              refine L1 (os_load1 (by repeat (first | exact pk_head _ _ | apply pk_tail)) T.ag3 rfl (by rfl)) ?_
              refine L1 (ps_fa T.fa29_2 (by decide) rfl).os ?_
              refine L1 (os_load1 (by repeat (first | exact pk_head _ _ | apply pk_tail)) T.ag27 rfl (by rfl)) ?_
              refine LE (os_call (Write_to hwo hd q1 q2 hs.ll) Try.func18 (by decide +kernel) rfl rfl (pk2 (by repeat (first | exact pk_head _ _ | apply pk_tail)) (by repeat (first | exact pk_head _ _ | apply pk_tail)))) ?_
              rintro _ _ ⟨_, ⟨rfl, rfl⟩, rfl⟩
              refine L1 (ps_move rfl).os ?_
              refine L1 (ps_f (ps_neq rfl rfl) (by decide)).os ?_
              refine LW.nil ?_
              repeat (first | refine CW.seq ?_ | refine PW.then_ ?_ | refine CW.block ?_ | refine CW.skip ?_ | refine CW.ret ?_ | refine PW.then_ret ?_ | refine PW.block_ret ?_ | refine Cut.ret ?_ | refine Rnd.ret ?_ | refine PW.block_normal ?_ | refine CW.exit ?_ | refine PW.then_exit ?_ | refine PW.block_hit ?_ | refine PW.block_miss rfl ?_ | refine Cut.exit ?_ | refine Rnd.exit ?_)
              refine CW.cond_false rfl ?_
              repeat (first | refine CW.seq ?_ | refine PW.then_ ?_ | refine CW.block ?_ | refine CW.skip ?_ | refine CW.ret ?_ | refine PW.then_ret ?_ | refine PW.block_ret ?_ | refine Cut.ret ?_ | refine Rnd.ret ?_ | refine PW.block_normal ?_ | refine CW.exit ?_ | refine PW.then_exit ?_ | refine PW.block_hit ?_ | refine PW.block_miss rfl ?_ | refine Cut.exit ?_ | refine Rnd.exit ?_)
              exact Meet.cut (q, d, w, st) hs.step (by repeat (first | (with_reducible exact Ag.refl _ _) | (with_reducible apply Ag.pu0) | ((with_reducible refine Ag.pu _ ?_ ?_); · exact rfl) | ((with_reducible refine Ag.mix ?_ ?_); · exact rfl) | ((with_reducible refine Ag.pus ?_ ?_); · exact rfl))) ⟨rfl, rfl, rfl, trivial⟩ (by repeat (first | exact Ent.refl _ | (apply Ent.cons; · repeat (first | exact pk_head _ _ | apply pk_tail)) | apply Ent.skip))
            · obtain ⟨st', hwo, hI, hlv, hct, hda⟩ := hwr h0 h6 h64' hz
              have hlw : (w ++ [(⟨kind, at_, .slice pd data.length capd, data, mk, torn, cut⟩ : CallS)]).length = w.length + 1 := by simp
              have hfl : ((w ++ [(⟨kind, at_, .slice pd data.length capd, data, mk, torn, cut⟩ : CallS)]).map callCells).flatten = (w.map callCells).flatten ++ [.int .i64 kind, .int .i64 at_, .slice pd data.length capd, .int .u64 mk, .int .i64 torn, .int .i64 cut] := by simp [callCells]
              have hmx : w.length + 1 ≤ maxLen := by unfold maxLen; omega
              have hby : (w.length + 1) * 64 ≤ 140737488355328 := by omega
              refine CW.region ?_
              refine L1 (ps_move rfl).os ?_
              refine L1 (ps_not rfl).os ?_
              refine L1 (ps_move rfl).os ?_
              refine LG1 ?_ (ps_fa T.fa29_2 (by decide) rfl).os ?_
              · exact rfl
              refine LG1 ?_ (os_load1 (by repeat (first | exact pk_head _ _ | apply pk_tail)) T.ag27 rfl (by rfl)) ?_
              · exact rfl
              refine LG1 ?_ (ps_len_sl T.un27 rfl).os ?_
              · exact rfl
              refine LG1 ?_ (ps_f (ps_gtr rfl rfl) (h64)).os ?_
              · exact rfl
              refine L1 (ps_pick_f rfl rfl).os ?_
              refine L1 (ps_assign rfl).os ?_
              refine LW.nil ?_
              repeat (first | refine CW.seq ?_ | refine PW.then_ ?_ | refine CW.block ?_ | refine CW.skip ?_ | refine CW.ret ?_ | refine PW.then_ret ?_ | refine PW.block_ret ?_ | refine Cut.ret ?_ | refine Rnd.ret ?_ | refine PW.block_normal ?_ | refine CW.exit ?_ | refine PW.then_exit ?_ | refine PW.block_hit ?_ | refine PW.block_miss rfl ?_ | refine Cut.exit ?_ | refine Rnd.exit ?_)
              refine CW.cond_false rfl ?_
              repeat (first | refine CW.seq ?_ | refine PW.then_ ?_ | refine CW.block ?_ | refine CW.skip ?_ | refine CW.ret ?_ | refine PW.then_ret ?_ | refine PW.block_ret ?_ | refine Cut.ret ?_ | refine Rnd.ret ?_ | refine PW.block_normal ?_ | refine CW.exit ?_ | refine PW.then_exit ?_ | refine PW.block_hit ?_ | refine PW.block_miss rfl ?_ | refine Cut.exit ?_ | refine Rnd.exit ?_)
              refine CW.region ?_
              refine L1 (ps_move rfl).os ?_
              refine L1 (ps_f (ps_eql rfl rfl) (hz)).os ?_
              refine L1 (ps_assign rfl).os ?_
              refine LW.nil ?_
              repeat (first | refine CW.seq ?_ | refine PW.then_ ?_ | refine CW.block ?_ | refine CW.skip ?_ | refine CW.ret ?_ | refine PW.then_ret ?_ | refine PW.block_ret ?_ | refine Cut.ret ?_ | refine Rnd.ret ?_ | refine PW.block_normal ?_ | refine CW.exit ?_ | refine PW.then_exit ?_ | refine PW.block_hit ?_ | refine PW.block_miss rfl ?_ | refine Cut.exit ?_ | refine Rnd.exit ?_)
              refine CW.cond_false rfl ?_
              repeat (first | refine CW.seq ?_ | refine PW.then_ ?_ | refine CW.block ?_ | refine CW.skip ?_ | refine CW.ret ?_ | refine PW.then_ret ?_ | refine PW.block_ret ?_ | refine Cut.ret ?_ | refine Rnd.ret ?_ | refine PW.block_normal ?_ | refine CW.exit ?_ | refine PW.then_exit ?_ | refine PW.block_hit ?_ | refine PW.block_miss rfl ?_ | refine Cut.exit ?_ | refine Rnd.exit ?_)
              refine CW.region ?_
              refine L1 (ps_move rfl).os ?_
              refine L1 (os_loadN (b := b10) (vs := [.int .i64 kind, .int .i64 at_, .slice pd data.length capd, .int .u64 mk, .int .i64 torn, .int .i64 cut]) (by repeat (first | exact pk_head _ _ | apply pk_tail)) T.ag29 T.sz29 rfl (by rfl) (by rfl)) ?_
              refine LE (os_bsl1 T.un22 T.ti29 (by rfl) rfl (by rfl) (by rfl) (by decide) (by decide)) ?_
              rintro _ _ ⟨b71, rfl, rfl⟩
              refine LE (os_append (news := [.int .i64 kind, .int .i64 at_, .slice pd data.length capd, .int .u64 mk, .int .i64 torn, .int .i64 cut]) (by repeat (first | exact pk_head _ _ | apply pk_tail)) T.un22 T.ti29 (by rfl) (by decide) rfl rfl rfl (Src.cb (b := b71) (by repeat (first | exact pk_head _ _ | apply pk_tail)) rfl) hone hmx hby) ?_
              rintro _ _ ⟨q', d', rfl, rfl, -⟩
              refine L1 (ps_assign rfl).os ?_
              refine LW.nil ?_
              repeat (first | refine CW.seq ?_ | refine PW.then_ ?_ | refine CW.block ?_ | refine CW.skip ?_ | refine CW.ret ?_ | refine PW.then_ret ?_ | refine PW.block_ret ?_ | refine Cut.ret ?_ | refine Rnd.ret ?_ | refine PW.block_normal ?_ | refine CW.exit ?_ | refine PW.then_exit ?_ | refine PW.block_hit ?_ | refine PW.block_miss rfl ?_ | refine Cut.exit ?_ | refine Rnd.exit ?_)
              refine CW.region ?_
              refine L1 (ps_move rfl).os ?_
              refine L1 (ps_to (u := .int .i64 st'.count) (by rw [hct]) (ps_add_i64 rfl rfl (by omega) (by omega))).os ?_
              refine L1 (ps_assign rfl).os ?_
              refine LW.nil ?_
              repeat (first | refine CW.seq ?_ | refine PW.then_ ?_ | refine CW.block ?_ | refine CW.skip ?_ | refine CW.ret ?_ | refine PW.then_ret ?_ | refine PW.block_ret ?_ | refine Cut.ret ?_ | refine Rnd.ret ?_ | refine PW.block_normal ?_ | refine CW.exit ?_ | refine PW.then_exit ?_ | refine PW.block_hit ?_ | refine PW.block_miss rfl ?_ | refine Cut.exit ?_ | refine Rnd.exit ?_)
              refine CW.region ?_
              refine L1 (ps_move rfl).os ?_
              refine L1 (ps_sub_i64 rfl rfl (by omega) (by omega)).os ?_
              refine L1 (ps_move rfl).os ?_
              refine L1 (ps_to (u := .int .i64 (min (lv st) 0)) (by congr 1; omega) (ps_min rfl rfl)).os ?_
              refine L1 (ps_to (u := .int .i64 (lv st')) (by rw [hlv]; congr 1; omega) (ps_max rfl rfl)).os ?_
              refine L1 (ps_assign rfl).os ?_
              refine LW.nil ?_
              repeat (first | refine CW.seq ?_ | refine PW.then_ ?_ | refine CW.block ?_ | refine CW.skip ?_ | refine CW.ret ?_ | refine PW.then_ret ?_ | refine PW.block_ret ?_ | refine Cut.ret ?_ | refine Rnd.ret ?_ | refine PW.block_normal ?_ | refine CW.exit ?_ | refine PW.then_exit ?_ | refine PW.block_hit ?_ | refine PW.block_miss rfl ?_ | refine Cut.exit ?_ | refine Rnd.exit ?_)
              refine CW.region ?_
              refine L1 (ps_move rfl).os ?_
              refine L1 (ps_fa T.fa29_1 (by decide) rfl).os ?_
              refine L1 (os_load1 (by repeat (first | exact pk_head _ _ | apply pk_tail)) T.ag3 rfl (by rfl)) ?_
              refine L1 (ps_fa T.fa29_2 (by decide) rfl).os ?_
              refine L1 (os_load1 (by repeat (first | exact pk_head _ _ | apply pk_tail)) T.ag27 rfl (by rfl)) ?_
              refine LE (os_call (Write_to hwo hd q1 q2 hs.ll) Try.func18 (by decide +kernel) rfl rfl (pk2 (by repeat (first | exact pk_head _ _ | apply pk_tail)) (by repeat (first | exact pk_head _ _ | apply pk_tail)))) ?_
              rintro _ _ ⟨_, ⟨rfl, rfl⟩, rfl⟩
              refine L1 (ps_move rfl).os ?_
              refine L1 (ps_f (ps_neq rfl rfl) (by decide)).os ?_
              refine LW.nil ?_
              repeat (first | refine CW.seq ?_ | refine PW.then_ ?_ | refine CW.block ?_ | refine CW.skip ?_ | refine CW.ret ?_ | refine PW.then_ret ?_ | refine PW.block_ret ?_ | refine Cut.ret ?_ | refine Rnd.ret ?_ | refine PW.block_normal ?_ | refine CW.exit ?_ | refine PW.then_exit ?_ | refine PW.block_hit ?_ | refine PW.block_miss rfl ?_ | refine Cut.exit ?_ | refine Rnd.exit ?_)
              refine CW.cond_false rfl ?_
              repeat (first | refine CW.seq ?_ | refine PW.then_ ?_ | refine CW.block ?_ | refine CW.skip ?_ | refine CW.ret ?_ | refine PW.then_ret ?_ | refine PW.block_ret ?_ | refine Cut.ret ?_ | refine Rnd.ret ?_ | refine PW.block_normal ?_ | refine CW.exit ?_ | refine PW.then_exit ?_ | refine PW.block_hit ?_ | refine PW.block_miss rfl ?_ | refine Cut.exit ?_ | refine Rnd.exit ?_)
              refine Meet.cut (q', d', w ++ [⟨kind, at_, .slice pd data.length capd, data, mk, torn, cut⟩], st') hI (by repeat (first | (with_reducible exact Ag.refl _ _) | (with_reducible apply Ag.pu0) | ((with_reducible refine Ag.pu _ ?_ ?_); · exact rfl) | ((with_reducible refine Ag.mix ?_ ?_); · exact rfl) | ((with_reducible refine Ag.pus ?_ ?_); · exact rfl))) ⟨congrArg (fun n => Value.slice q' n d') hlw.symm, rfl, rfl, trivial⟩ ?_
              dsimp only
              rw [hfl, hlw, hda]
              exact (by repeat (first | exact Ent.refl _ | (apply Ent.cons; · repeat (first | exact pk_head _ _ | apply pk_tail)) | apply Ent.skip))
        · have hwo : st.write at_ data = (5, st) := write_off (by rw [hdl6]; omega)
          refine CW.region ?_
          refine L1 (ps_move rfl).os ?_
          refine L1 (ps_not rfl).os ?_
          refine L1 (ps_move rfl).os ?_
          refine LG0f ?_ ?_
          · exact rfl
          refine LG0f ?_ ?_
          · exact rfl
          refine LG0f ?_ ?_
          · exact rfl
          refine LG0f ?_ ?_
          · exact rfl
          refine L1 (ps_pick_t rfl rfl).os ?_
          refine L1 (ps_assign rfl).os ?_
          refine LW.nil ?_
          repeat (first | refine CW.seq ?_ | refine PW.then_ ?_ | refine CW.block ?_ | refine CW.skip ?_ | refine CW.ret ?_ | refine PW.then_ret ?_ | refine PW.block_ret ?_ | refine Cut.ret ?_ | refine Rnd.ret ?_ | refine PW.block_normal ?_ | refine CW.exit ?_ | refine PW.then_exit ?_ | refine PW.block_hit ?_ | refine PW.block_miss rfl ?_ | refine Cut.exit ?_ | refine Rnd.exit ?_)
          refine CW.cond_true rfl ?_
          repeat (first | refine CW.seq ?_ | refine PW.then_ ?_ | refine CW.block ?_ | refine CW.skip ?_ | refine CW.ret ?_ | refine PW.then_ret ?_ | refine PW.block_ret ?_ | refine Cut.ret ?_ | refine Rnd.ret ?_ | refine PW.block_normal ?_ | refine CW.exit ?_ | refine PW.then_exit ?_ | refine PW.block_hit ?_ | refine PW.block_miss rfl ?_ | refine Cut.exit ?_ | refine Rnd.exit ?_)
          refine CW.region ?_
          refine L1 (ps_assign rfl).os ?_
          refine LW.nil ?_
          repeat (first | refine CW.seq ?_ | refine PW.then_ ?_ | refine CW.block ?_ | refine CW.skip ?_ | refine CW.ret ?_ | refine PW.then_ret ?_ | refine PW.block_ret ?_ | refine Cut.ret ?_ | refine Rnd.ret ?_ | refine PW.block_normal ?_ | refine CW.exit ?_ | refine PW.then_exit ?_ | refine PW.block_hit ?_ | refine PW.block_miss rfl ?_ | refine Cut.exit ?_ | refine Rnd.exit ?_)
          refine CW.region ?_
          refine L1 (ps_move rfl).os ?_
          refine L1 (ps_fa T.fa29_1 (by decide) rfl).os ?_
          refine L1 (os_load1 (by repeat (first | exact pk_head _ _ | apply pk_tail)) T.ag3 rfl (by rfl)) ?_
          refine L1 (ps_fa T.fa29_2 (by decide) rfl).os ?_
          refine L1 (os_load1 (by repeat (first | exact pk_head _ _ | apply pk_tail)) T.ag27 rfl (by rfl)) ?_
          refine LE (os_call (Write_to hwo hd q1 q2 hs.ll) Try.func18 (by decide +kernel) rfl rfl (pk2 (by repeat (first | exact pk_head _ _ | apply pk_tail)) (by repeat (first | exact pk_head _ _ | apply pk_tail)))) ?_
          rintro _ _ ⟨_, ⟨rfl, rfl⟩, rfl⟩
          refine L1 (ps_move rfl).os ?_
          refine L1 (ps_f (ps_neq rfl rfl) (by decide)).os ?_
          refine LW.nil ?_
          repeat (first | refine CW.seq ?_ | refine PW.then_ ?_ | refine CW.block ?_ | refine CW.skip ?_ | refine CW.ret ?_ | refine PW.then_ret ?_ | refine PW.block_ret ?_ | refine Cut.ret ?_ | refine Rnd.ret ?_ | refine PW.block_normal ?_ | refine CW.exit ?_ | refine PW.then_exit ?_ | refine PW.block_hit ?_ | refine PW.block_miss rfl ?_ | refine Cut.exit ?_ | refine Rnd.exit ?_)
          refine CW.cond_false rfl ?_
          repeat (first | refine CW.seq ?_ | refine PW.then_ ?_ | refine CW.block ?_ | refine CW.skip ?_ | refine CW.ret ?_ | refine PW.then_ret ?_ | refine PW.block_ret ?_ | refine Cut.ret ?_ | refine Rnd.ret ?_ | refine PW.block_normal ?_ | refine CW.exit ?_ | refine PW.then_exit ?_ | refine PW.block_hit ?_ | refine PW.block_miss rfl ?_ | refine Cut.exit ?_ | refine Rnd.exit ?_)
          exact Meet.cut (q, d, w, st) hs.step (by repeat (first | (with_reducible exact Ag.refl _ _) | (with_reducible apply Ag.pu0) | ((with_reducible refine Ag.pu _ ?_ ?_); · exact rfl) | ((with_reducible refine Ag.mix ?_ ?_); · exact rfl) | ((with_reducible refine Ag.pus ?_ ?_); · exact rfl))) ⟨rfl, rfl, rfl, trivial⟩ (by repeat (first | exact Ent.refl _ | (apply Ent.cons; · repeat (first | exact pk_head _ _ | apply pk_tail)) | apply Ent.skip))
      · obtain rfl : a = false := by rw [ha]; simpa using h01
        refine CW.cond_false rfl ?_
        have q1 : st.wait.length ≤ 1000000 := by omega
        have hdl6 := hs.dl
        repeat (first | refine CW.seq ?_ | refine PW.then_ ?_ | refine CW.block ?_ | refine CW.skip ?_ | refine CW.ret ?_ | refine PW.then_ret ?_ | refine PW.block_ret ?_ | refine Cut.ret ?_ | refine Rnd.ret ?_ | refine PW.block_normal ?_ | refine CW.exit ?_ | refine PW.then_exit ?_ | refine PW.block_hit ?_ | refine PW.block_miss rfl ?_ | refine Cut.exit ?_ | refine Rnd.exit ?_)
        by_cases h2 : kd = 2
        · refine CW.region ?_
          refine L1 (ps_t (ps_eql rfl rfl) (h2)).os ?_
          refine L1 (ps_assign rfl).os ?_
          refine LW.nil ?_
          repeat (first | refine CW.seq ?_ | refine PW.then_ ?_ | refine CW.block ?_ | refine CW.skip ?_ | refine CW.ret ?_ | refine PW.then_ret ?_ | refine PW.block_ret ?_ | refine Cut.ret ?_ | refine Rnd.ret ?_ | refine PW.block_normal ?_ | refine CW.exit ?_ | refine PW.then_exit ?_ | refine PW.block_hit ?_ | refine PW.block_miss rfl ?_ | refine Cut.exit ?_ | refine Rnd.exit ?_)
          refine CW.cond_true rfl ?_
          repeat (first | refine CW.seq ?_ | refine PW.then_ ?_ | refine CW.block ?_ | refine CW.skip ?_ | refine CW.ret ?_ | refine PW.then_ret ?_ | refine PW.block_ret ?_ | refine Cut.ret ?_ | refine Rnd.ret ?_ | refine PW.block_normal ?_ | refine CW.exit ?_ | refine PW.then_exit ?_ | refine PW.block_hit ?_ | refine PW.block_miss rfl ?_ | refine Cut.exit ?_ | refine Rnd.exit ?_)
          refine CW.region ?_
          refine L1 (ps_assign rfl).os ?_
          refine LW.nil ?_
          repeat (first | refine CW.seq ?_ | refine PW.then_ ?_ | refine CW.block ?_ | refine CW.skip ?_ | refine CW.ret ?_ | refine PW.then_ret ?_ | refine PW.block_ret ?_ | refine Cut.ret ?_ | refine Rnd.ret ?_ | refine PW.block_normal ?_ | refine CW.exit ?_ | refine PW.then_exit ?_ | refine PW.block_hit ?_ | refine PW.block_miss rfl ?_ | refine Cut.exit ?_ | refine Rnd.exit ?_)
          by_cases hz : lv st = 0
          · have hdn : st.down = true := by rw [lv_down]; simpa using hz
            refine CW.region ?_
            refine L1 (ps_move rfl).os ?_
            refine L1 (ps_t (ps_eql rfl rfl) (hz)).os ?_
            refine LW.nil ?_
            repeat (first | refine CW.seq ?_ | refine PW.then_ ?_ | refine CW.block ?_ | refine CW.skip ?_ | refine CW.ret ?_ | refine PW.then_ret ?_ | refine PW.block_ret ?_ | refine Cut.ret ?_ | refine Rnd.ret ?_ | refine PW.block_normal ?_ | refine CW.exit ?_ | refine PW.then_exit ?_ | refine PW.block_hit ?_ | refine PW.block_miss rfl ?_ | refine Cut.exit ?_ | refine Rnd.exit ?_)
            refine CW.cond_true rfl ?_
            repeat (first | refine CW.seq ?_ | refine PW.then_ ?_ | refine CW.block ?_ | refine CW.skip ?_ | refine CW.ret ?_ | refine PW.then_ret ?_ | refine PW.block_ret ?_ | refine Cut.ret ?_ | refine Rnd.ret ?_ | refine PW.block_normal ?_ | refine CW.exit ?_ | refine PW.then_exit ?_ | refine PW.block_hit ?_ | refine PW.block_miss rfl ?_ | refine Cut.exit ?_ | refine Rnd.exit ?_)
            refine CW.region ?_
            refine L1 (ps_assign rfl).os ?_
            refine LW.nil ?_
            repeat (first | refine CW.seq ?_ | refine PW.then_ ?_ | refine CW.block ?_ | refine CW.skip ?_ | refine CW.ret ?_ | refine PW.then_ret ?_ | refine PW.block_ret ?_ | refine Cut.ret ?_ | refine Rnd.ret ?_ | refine PW.block_normal ?_ | refine CW.exit ?_ | refine PW.then_exit ?_ | refine PW.block_hit ?_ | refine PW.block_miss rfl ?_ | refine Cut.exit ?_ | refine Rnd.exit ?_)
            refine CW.region ?_
            refine L1 (ps_move rfl).os ?_
            refine LE (os_call (Flush_down p st hdn) Try.func23 (by decide +kernel) rfl rfl (by repeat (first | exact pk_head _ _ | apply pk_tail))) ?_
            rintro _ _ ⟨_, ⟨rfl, rfl⟩, rfl⟩
            refine L1 (ps_move rfl).os ?_
            refine L1 (ps_f (ps_neq rfl rfl) (by decide)).os ?_
            refine LW.nil ?_
            repeat (first | refine CW.seq ?_ | refine PW.then_ ?_ | refine CW.block ?_ | refine CW.skip ?_ | refine CW.ret ?_ | refine PW.then_ret ?_ | refine PW.block_ret ?_ | refine Cut.ret ?_ | refine Rnd.ret ?_ | refine PW.block_normal ?_ | refine CW.exit ?_ | refine PW.then_exit ?_ | refine PW.block_hit ?_ | refine PW.block_miss rfl ?_ | refine Cut.exit ?_ | refine Rnd.exit ?_)
            refine CW.cond_false rfl ?_
            repeat (first | refine CW.seq ?_ | refine PW.then_ ?_ | refine CW.block ?_ | refine CW.skip ?_ | refine CW.ret ?_ | refine PW.then_ret ?_ | refine PW.block_ret ?_ | refine Cut.ret ?_ | refine Rnd.ret ?_ | refine PW.block_normal ?_ | refine CW.exit ?_ | refine PW.then_exit ?_ | refine PW.block_hit ?_ | refine PW.block_miss rfl ?_ | refine Cut.exit ?_ | refine Rnd.exit ?_)
            exact Meet.cut (q, d, w, st) hs.step (by repeat (first | (with_reducible exact Ag.refl _ _) | (with_reducible apply Ag.pu0) | ((with_reducible refine Ag.pu _ ?_ ?_); · exact rfl) | ((with_reducible refine Ag.mix ?_ ?_); · exact rfl) | ((with_reducible refine Ag.pus ?_ ?_); · exact rfl))) ⟨rfl, rfl, rfl, trivial⟩ (by repeat (first | exact Ent.refl _ | (apply Ent.cons; · repeat (first | exact pk_head _ _ | apply pk_tail)) | apply Ent.skip))
          have hdn : st.down = false := by rw [lv_down]; simpa using hz
          refine CW.region ?_
          refine L1 (ps_move rfl).os ?_
          refine L1 (ps_f (ps_eql rfl rfl) (hz)).os ?_
          refine LW.nil ?_
          repeat (first | refine CW.seq ?_ | refine PW.then_ ?_ | refine CW.block ?_ | refine CW.skip ?_ | refine CW.ret ?_ | refine PW.then_ret ?_ | refine PW.block_ret ?_ | refine Cut.ret ?_ | refine Rnd.ret ?_ | refine PW.block_normal ?_ | refine CW.exit ?_ | refine PW.then_exit ?_ | refine PW.block_hit ?_ | refine PW.block_miss rfl ?_ | refine Cut.exit ?_ | refine Rnd.exit ?_)
          refine CW.cond_false rfl ?_
          repeat (first | refine CW.seq ?_ | refine PW.then_ ?_ | refine CW.block ?_ | refine CW.skip ?_ | refine CW.ret ?_ | refine PW.then_ret ?_ | refine PW.block_ret ?_ | refine Cut.ret ?_ | refine Rnd.ret ?_ | refine PW.block_normal ?_ | refine CW.exit ?_ | refine PW.then_exit ?_ | refine PW.block_hit ?_ | refine PW.block_miss rfl ?_ | refine Cut.exit ?_ | refine Rnd.exit ?_)
          refine CW.region ?_
          refine L1 (ps_move rfl).os ?_
          refine L1 (ps_len_sl T.un22 rfl).os ?_
          refine L1 (ps_move rfl).os ?_
          refine LW.nil ?_
          repeat (first | refine CW.seq ?_ | refine PW.then_ ?_ | refine CW.block ?_ | refine CW.skip ?_ | refine CW.ret ?_ | refine PW.then_ret ?_ | refine PW.block_ret ?_ | refine Cut.ret ?_ | refine Rnd.ret ?_ | refine PW.block_normal ?_ | refine CW.exit ?_ | refine PW.then_exit ?_ | refine PW.block_hit ?_ | refine PW.block_miss rfl ?_ | refine Cut.exit ?_ | refine Rnd.exit ?_)
          refine CW.loopM (α := Nat) [15, 106, 107, 108, 109, 110, 111, 112, 113, 114, 115, 116, 117] (fun k j => j ≤ w.length ∧ k = w.length - j) (fun j => [(106, .int .i64 j)])
            (fun j => DiskAt p st :: cb M 44 ((((w.map wFull).take j).foldl putW st.data).map bv).flatten :: slOwn 29 6 (.slice q w.length d) w.length (w.map callCells).flatten :: cb b10 29 [.int .i64 kind, .int .i64 at_, .slice pd data.length capd, .int .u64 mk, .int .i64 torn, .int .i64 cut] :: bag (blks W) :: F) w.length 0 ⟨Nat.zero_le _, rfl⟩ ⟨rfl, trivial⟩ (by repeat (first | exact Ent.refl _ | (apply Ent.cons; · repeat (first | exact pk_head _ _ | apply pk_tail)) | apply Ent.skip)) ?_
          rintro k' j g3 ⟨hj, hk'⟩
          repeat (first | refine CW.seq ?_ | refine PW.then_ ?_ | refine CW.block ?_ | refine CW.skip ?_ | refine CW.ret ?_ | refine PW.then_ret ?_ | refine PW.block_ret ?_ | refine Cut.ret ?_ | refine Rnd.ret ?_ | refine PW.block_normal ?_ | refine CW.exit ?_ | refine PW.then_exit ?_ | refine PW.block_hit ?_ | refine PW.block_miss rfl ?_ | refine Cut.exit ?_ | refine Rnd.exit ?_)
          by_cases hjt : j < w.length
          · have hdlj := putW_len ((w.map wFull).take j) st.data
            have hdaj := putW_all ((w.map wFull).take j) st.data (fun x hx => (hs.lens j x hx).1) hs.ok.dlen
            refine CW.region ?_
            refine L1 (ps_t (ps_lss rfl rfl) (by omega)).os ?_
            refine LW.nil ?_
            refine PW.then_ (CW.seq ?_)
            refine CW.cond_true rfl ?_
            refine CW.skip (PW.then_ ?_)
            refine CW.cutM (α := Unit) [15, 108, 109, 110, 111, 112, 113, 114, 115, 116] (fun _ => True) (fun _ => []) (fun _ => DiskAt p st :: cb M 44 ((((w.map wFull).take (j + 1)).foldl putW st.data).map bv).flatten :: slOwn 29 6 (.slice q w.length d) w.length (w.map callCells).flatten :: cb b10 29 [.int .i64 kind, .int .i64 at_, .slice pd data.length capd, .int .u64 mk, .int .i64 torn, .int .i64 cut] :: bag (blks W) :: F) ?_ ?_
            · repeat (first | refine CW.seq ?_ | refine PW.then_ ?_ | refine CW.block ?_ | refine CW.skip ?_ | refine CW.ret ?_ | refine PW.then_ret ?_ | refine PW.block_ret ?_ | refine Cut.ret ?_ | refine Rnd.ret ?_ | refine PW.block_normal ?_ | refine CW.exit ?_ | refine PW.then_exit ?_ | refine PW.block_hit ?_ | refine PW.block_miss rfl ?_ | refine Cut.exit ?_ | refine Rnd.exit ?_)
              refine slOwn_open (by repeat (first | exact pk_head _ _ | apply pk_tail)) (fun _ h0 _ => absurd hjt (by omega)) ?_
              rintro gg cap cur hv' hmc hcmx hcl2 htk hxl
              cases hv'
              have hrow := row_of htk hjt
              have hws := hs.ws w[j] (List.getElem_mem hjt)
              have hone' := callCells_one hws.1
              have hsucc := runF_succ (D := st.data) hjt
              generalize w[j] = e at hrow hws hone' hsucc
              obtain ⟨kind', at', dv', data', cm', torn', cut'⟩ := e
              obtain ⟨hok', ha0, ha6, hle⟩ := hws
              have hde := hok'.data
              have hd1' := hde
              obtain ⟨pe, cape, hdv', hce, -⟩ := hd1'
              dsimp only at hdv' ha0 ha6 hle hde hsucc hce
              subst hdv'
              obtain ⟨an, rfl⟩ := Int.eq_ofNat_of_zero_le ha0
              have han : an < 6 := by omega
              have hp64 := length_pad hle
              have hbv64 : (bv (pad 64 data')).length = 64 := by rw [length_bv, hp64]
              have hset := set_row hdaj (k := an) (by rw [hdlj, hdl6]; exact han) (r := pad 64 data') (by omega)
              have hdrop : (List.drop (pad 64 data').length ((((w.map wFull).take j).foldl putW st.data).getD an [])) = [] := by
                have hlt6 : an < (((w.map wFull).take j).foldl putW st.data).length := by rw [hdlj, hdl6]; exact han
                rw [List.getD_eq_getElem?_getD, List.getElem?_eq_getElem hlt6]
                exact List.drop_eq_nil_of_le (by rw [hp64]; exact Nat.le_of_eq (hdaj _ (List.getElem_mem hlt6)))
              rw [hdrop, List.append_nil] at hset
              have hcells : ((((w.map wFull).take j).foldl putW st.data).map bv).flatten.length = 6 * 64 := by rw [len_rows (s := 64) _ (bv_rows hdaj)]; simp [hdlj, hdl6]
              have hfit : 0 + ((an : Nat) : Int).toNat * 64 + (bv (pad 64 data')).length ≤ ((((w.map wFull).take j).foldl putW st.data).map bv).flatten.length := by rw [hcells, hbv64]; omega
              refine CW.region ?_
              refine L1 (ps_ia_slice T.un22 T.sz29 rfl rfl (by omega) (by omega)).os ?_
              refine L1 (os_loadN (b := gg) (vs := [.int .i64 kind', .int .i64 (an : Nat), .slice pe data'.length cape, .int .u64 cm', .int .i64 torn', .int .i64 cut']) (by repeat (first | exact pk_head _ _ | apply pk_tail)) T.ag29 T.sz29 rfl hrow rfl) ?_
              refine LE (os_alloc T.ti29) ?_
              rintro _ _ ⟨b15, rfl, rfl⟩
              refine L1 (os_storeAll (b := b15) (vs := [.int .i64 kind', .int .i64 (an : Nat), .slice pe data'.length cape, .int .u64 cm', .int .i64 torn', .int .i64 cut']) (by repeat (first | exact pk_head _ _ | apply pk_tail)) T.sz29 rfl rfl hone' (by rfl)) ?_
              refine LW.nil ?_
              refine PW.then_ ?_
              refine CW.draw T.mixed ?_
              refine A_take (i := 0) (some 110) rfl rfl (by kernel_rfl) (by kernel_rfl) (by kernel_rfl) rfl (ps_fa T.fa29_1 (by decide) rfl) ?_
              refine A_take (i := 2) (some 112) rfl rfl (by kernel_rfl) (by kernel_rfl) (by kernel_rfl) rfl (ps_move rfl) ?_
              refine A_take (i := 3) (some 113) rfl rfl (by kernel_rfl) (by kernel_rfl) (by kernel_rfl) rfl (ps_fa T.fa29_2 (by decide) rfl) ?_
              refine A_branch (rs := [1, 4]) (by kernel_rfl) (by simp) ?_
              refine AR.cons1 (i := 1) (some 111) rfl rfl rfl (os_load1 (by repeat (first | exact pk_head _ _ | apply pk_tail)) T.ag3 rfl (by rfl)) ?_ ?_
              · skip
                refine A_branch (rs := [4]) (by kernel_rfl) (by simp) ?_
                refine AR.cons1 (i := 4) (some 114) rfl rfl rfl (os_load1 (by repeat (first | exact pk_head _ _ | apply pk_tail)) T.ag27 rfl (by rfl)) ?_ ?_
                · skip
                  refine A_branch (rs := [5]) (by kernel_rfl) (by simp) ?_
                  refine AR.consE (i := 5) (some 115) rfl rfl rfl (os_callv (full_spec (bag (blks W)) (.slice pe data'.length cape) data' hde hle) Try.func27 (by decide +kernel) rfl rfl rfl (by repeat (first | exact pk_head _ _ | apply pk_tail))) ?_ ?_
                  · rintro _ _ ⟨_, ⟨rfl, rfl⟩, rfl⟩
                    refine A_take (i := 6) (some 116) rfl rfl (by kernel_rfl) (by kernel_rfl) (by kernel_rfl) rfl (ps_ia_arr T.un44 T.sz43 rfl rfl (by omega) (by omega)) ?_
                    refine A_branch (rs := [7]) (by kernel_rfl) (by simp) ?_
                    refine AR.cons1 (i := 7) none rfl rfl rfl (os_cb hset <| os_storeN (b := M) (vs := bv (pad 64 data')) (by repeat (first | exact pk_head _ _ | apply pk_tail)) (by rw [hbv64]; exact T.sz43) rfl rfl (bv_one _) hfit) ?_ ?_
                    · skip
                      refine A_done (by kernel_rfl) ?_
                      refine PW.block_normal (Meet.cut () trivial (by repeat (first | (with_reducible exact Ag.refl _ _) | (with_reducible apply Ag.pu0) | ((with_reducible refine Ag.pu _ ?_ ?_); · exact rfl) | ((with_reducible refine Ag.mix ?_ ?_); · exact rfl) | ((with_reducible refine Ag.pus ?_ ?_); · exact rfl))) trivial ?_)
                      rw [hsucc]
                      exact (Ent.perm (Bs := cb gg _ cur :: _) (by repeat (first | exact pk_head _ _ | apply pk_tail))).trans ((Ent.slMk hmc hcmx hcl2 htk _).trans (by repeat (first | exact Ent.refl _ | (apply Ent.cons; · repeat (first | exact pk_head _ _ | apply pk_tail)) | apply Ent.skip)))
                    exact AR.nil
                  exact AR.nil
                exact AR.nil
              refine AR.cons1 (i := 4) (some 114) rfl rfl rfl (os_load1 (by repeat (first | exact pk_head _ _ | apply pk_tail)) T.ag27 rfl (by rfl)) ?_ ?_
              · skip
                refine A_branch (rs := [1, 5]) (by kernel_rfl) (by simp) ?_
                refine AR.cons1 (i := 1) (some 111) rfl rfl rfl (os_load1 (by repeat (first | exact pk_head _ _ | apply pk_tail)) T.ag3 rfl (by rfl)) ?_ ?_
                · skip
                  refine A_branch (rs := [5]) (by kernel_rfl) (by simp) ?_
                  refine AR.consE (i := 5) (some 115) rfl rfl rfl (os_callv (full_spec (bag (blks W)) (.slice pe data'.length cape) data' hde hle) Try.func27 (by decide +kernel) rfl rfl rfl (by repeat (first | exact pk_head _ _ | apply pk_tail))) ?_ ?_
                  · rintro _ _ ⟨_, ⟨rfl, rfl⟩, rfl⟩
                    refine A_take (i := 6) (some 116) rfl rfl (by kernel_rfl) (by kernel_rfl) (by kernel_rfl) rfl (ps_ia_arr T.un44 T.sz43 rfl rfl (by omega) (by omega)) ?_
                    refine A_branch (rs := [7]) (by kernel_rfl) (by simp) ?_
                    refine AR.cons1 (i := 7) none rfl rfl rfl (os_cb hset <| os_storeN (b := M) (vs := bv (pad 64 data')) (by repeat (first | exact pk_head _ _ | apply pk_tail)) (by rw [hbv64]; exact T.sz43) rfl rfl (bv_one _) hfit) ?_ ?_
                    · skip
                      refine A_done (by kernel_rfl) ?_
                      refine PW.block_normal (Meet.cut () trivial (by repeat (first | (with_reducible exact Ag.refl _ _) | (with_reducible apply Ag.pu0) | ((with_reducible refine Ag.pu _ ?_ ?_); · exact rfl) | ((with_reducible refine Ag.mix ?_ ?_); · exact rfl) | ((with_reducible refine Ag.pus ?_ ?_); · exact rfl))) trivial ?_)
                      rw [hsucc]
                      exact (Ent.perm (Bs := cb gg _ cur :: _) (by repeat (first | exact pk_head _ _ | apply pk_tail))).trans ((Ent.slMk hmc hcmx hcl2 htk _).trans (by repeat (first | exact Ent.refl _ | (apply Ent.cons; · repeat (first | exact pk_head _ _ | apply pk_tail)) | apply Ent.skip)))
                    exact AR.nil
                  exact AR.nil
                refine AR.consE (i := 5) (some 115) rfl rfl rfl (os_callv (full_spec (bag (blks W)) (.slice pe data'.length cape) data' hde hle) Try.func27 (by decide +kernel) rfl rfl rfl (by repeat (first | exact pk_head _ _ | apply pk_tail))) ?_ ?_
                · rintro _ _ ⟨_, ⟨rfl, rfl⟩, rfl⟩
                  refine A_branch (rs := [1]) (by kernel_rfl) (by simp) ?_
                  refine AR.cons1 (i := 1) (some 111) rfl rfl rfl (os_load1 (by repeat (first | exact pk_head _ _ | apply pk_tail)) T.ag3 rfl (by rfl)) ?_ ?_
                  · skip
                    refine A_take (i := 6) (some 116) rfl rfl (by kernel_rfl) (by kernel_rfl) (by kernel_rfl) rfl (ps_ia_arr T.un44 T.sz43 rfl rfl (by omega) (by omega)) ?_
                    refine A_branch (rs := [7]) (by kernel_rfl) (by simp) ?_
                    refine AR.cons1 (i := 7) none rfl rfl rfl (os_cb hset <| os_storeN (b := M) (vs := bv (pad 64 data')) (by repeat (first | exact pk_head _ _ | apply pk_tail)) (by rw [hbv64]; exact T.sz43) rfl rfl (bv_one _) hfit) ?_ ?_
                    · skip
                      refine A_done (by kernel_rfl) ?_
                      refine PW.block_normal (Meet.cut () trivial (by repeat (first | (with_reducible exact Ag.refl _ _) | (with_reducible apply Ag.pu0) | ((with_reducible refine Ag.pu _ ?_ ?_); · exact rfl) | ((with_reducible refine Ag.mix ?_ ?_); · exact rfl) | ((with_reducible refine Ag.pus ?_ ?_); · exact rfl))) trivial ?_)
                      rw [hsucc]
                      exact (Ent.perm (Bs := cb gg _ cur :: _) (by repeat (first | exact pk_head _ _ | apply pk_tail))).trans ((Ent.slMk hmc hcmx hcl2 htk _).trans (by repeat (first | exact Ent.refl _ | (apply Ent.cons; · repeat (first | exact pk_head _ _ | apply pk_tail)) | apply Ent.skip)))
                    exact AR.nil
                  exact AR.nil
                exact AR.nil
              exact AR.nil
            intro _ g4 _
            refine CW.region ?_
            refine L1 (ps_add_i64 rfl rfl (by omega) (by omega)).os ?_
            refine L1 (ps_move rfl).os ?_
            refine LW.nil ?_
            exact Meet.round (w.length - (j + 1)) (j + 1) (by omega) ⟨hjt, rfl⟩ (by repeat (first | (with_reducible exact Ag.refl _ _) | (with_reducible apply Ag.pu0) | ((with_reducible refine Ag.pu _ ?_ ?_); · exact rfl) | ((with_reducible refine Ag.mix ?_ ?_); · exact rfl) | ((with_reducible refine Ag.pus ?_ ?_); · exact rfl))) ⟨rfl, trivial⟩ (by repeat (first | exact Ent.refl _ | (apply Ent.cons; · repeat (first | exact pk_head _ _ | apply pk_tail)) | apply Ent.skip))
          · have hjw : j = (w.map wFull).length := by rw [List.length_map]; omega
            have hfl := hs.flush
            have hdata : ((w.map wFull).take j).foldl putW st.data = st.flush.data := by rw [hjw, List.take_length, ← hs.wait]; rfl
            have hfs := Flush_ok p st hs.ok q1 hdn
            refine CW.region ?_
            refine L1 (ps_f (ps_lss rfl rfl) (by omega)).os ?_
            refine LW.nil ?_
            repeat (first | refine CW.seq ?_ | refine PW.then_ ?_ | refine CW.block ?_ | refine CW.skip ?_ | refine CW.ret ?_ | refine PW.then_ret ?_ | refine PW.block_ret ?_ | refine Cut.ret ?_ | refine Rnd.ret ?_ | refine PW.block_normal ?_ | refine CW.exit ?_ | refine PW.then_exit ?_ | refine PW.block_hit ?_ | refine PW.block_miss rfl ?_ | refine Cut.exit ?_ | refine Rnd.exit ?_)
            refine CW.cond_false rfl ?_
            repeat (first | refine CW.seq ?_ | refine PW.then_ ?_ | refine CW.block ?_ | refine CW.skip ?_ | refine CW.ret ?_ | refine PW.then_ret ?_ | refine PW.block_ret ?_ | refine Cut.ret ?_ | refine Rnd.ret ?_ | refine PW.block_normal ?_ | refine CW.exit ?_ | refine PW.then_exit ?_ | refine PW.block_hit ?_ | refine PW.block_miss rfl ?_ | refine Cut.exit ?_ | refine Rnd.exit ?_)
            refine CW.region ?_
            refine L1 (ps_assign rfl).os ?_
            refine LW.nil ?_
            repeat (first | refine CW.seq ?_ | refine PW.then_ ?_ | refine CW.block ?_ | refine CW.skip ?_ | refine CW.ret ?_ | refine PW.then_ret ?_ | refine PW.block_ret ?_ | refine Cut.ret ?_ | refine Rnd.ret ?_ | refine PW.block_normal ?_ | refine CW.exit ?_ | refine PW.then_exit ?_ | refine PW.block_hit ?_ | refine PW.block_miss rfl ?_ | refine Cut.exit ?_ | refine Rnd.exit ?_)
            refine CW.region ?_
            refine L1 (ps_move rfl).os ?_
            refine LE (os_call hfs Try.func23 (by decide +kernel) rfl rfl (by repeat (first | exact pk_head _ _ | apply pk_tail))) ?_
            rintro _ _ ⟨_, ⟨rfl, rfl⟩, rfl⟩
            refine L1 (ps_move rfl).os ?_
            refine L1 (ps_f (ps_neq rfl rfl) (by decide)).os ?_
            refine LW.nil ?_
            repeat (first | refine CW.seq ?_ | refine PW.then_ ?_ | refine CW.block ?_ | refine CW.skip ?_ | refine CW.ret ?_ | refine PW.then_ret ?_ | refine PW.block_ret ?_ | refine Cut.ret ?_ | refine Rnd.ret ?_ | refine PW.block_normal ?_ | refine CW.exit ?_ | refine PW.then_exit ?_ | refine PW.block_hit ?_ | refine PW.block_miss rfl ?_ | refine Cut.exit ?_ | refine Rnd.exit ?_)
            refine CW.cond_false rfl ?_
            repeat (first | refine CW.seq ?_ | refine PW.then_ ?_ | refine CW.block ?_ | refine CW.skip ?_ | refine CW.ret ?_ | refine PW.then_ret ?_ | refine PW.block_ret ?_ | refine Cut.ret ?_ | refine Rnd.ret ?_ | refine PW.block_normal ?_ | refine CW.exit ?_ | refine PW.then_exit ?_ | refine PW.block_hit ?_ | refine PW.block_miss rfl ?_ | refine Cut.exit ?_ | refine Rnd.exit ?_)
            refine Meet.cut (none, 0, [], st.flush) hfl.1 (by repeat (first | (with_reducible exact Ag.refl _ _) | (with_reducible apply Ag.pu0) | ((with_reducible refine Ag.pu _ ?_ ?_); · exact rfl) | ((with_reducible refine Ag.mix ?_ ?_); · exact rfl) | ((with_reducible refine Ag.pus ?_ ?_); · exact rfl))) ⟨rfl, rfl, rfl, trivial⟩ ?_
            dsimp only
            rw [hdata]
            refine Ent.cons (by repeat (first | exact pk_head _ _ | apply pk_tail)) (Ent.cons (by repeat (first | exact pk_head _ _ | apply pk_tail)) (Ent.cons (by repeat (first | exact pk_head _ _ | apply pk_tail)) ?_))
            exact Ent.trans (Bs := bag (blks W) :: F) (by repeat (first | exact Ent.refl _ | (apply Ent.cons; · repeat (first | exact pk_head _ _ | apply pk_tail)) | apply Ent.skip)) (Ent.slNil _ _ _)
        · refine CW.region ?_
          refine L1 (ps_f (ps_eql rfl rfl) (h2)).os ?_
          refine L1 (ps_assign rfl).os ?_
          refine LW.nil ?_
          repeat (first | refine CW.seq ?_ | refine PW.then_ ?_ | refine CW.block ?_ | refine CW.skip ?_ | refine CW.ret ?_ | refine PW.then_ret ?_ | refine PW.block_ret ?_ | refine Cut.ret ?_ | refine Rnd.ret ?_ | refine PW.block_normal ?_ | refine CW.exit ?_ | refine PW.then_exit ?_ | refine PW.block_hit ?_ | refine PW.block_miss rfl ?_ | refine Cut.exit ?_ | refine Rnd.exit ?_)
          refine CW.cond_false rfl ?_
          repeat (first | refine CW.seq ?_ | refine PW.then_ ?_ | refine CW.block ?_ | refine CW.skip ?_ | refine CW.ret ?_ | refine PW.then_ret ?_ | refine PW.block_ret ?_ | refine Cut.ret ?_ | refine Rnd.ret ?_ | refine PW.block_normal ?_ | refine CW.exit ?_ | refine PW.then_exit ?_ | refine PW.block_hit ?_ | refine PW.block_miss rfl ?_ | refine Cut.exit ?_ | refine Rnd.exit ?_)
          by_cases h3 : kd = 3
          · refine CW.region ?_
            refine L1 (ps_t (ps_eql rfl rfl) (h3)).os ?_
            refine L1 (ps_assign rfl).os ?_
            refine LW.nil ?_
            repeat (first | refine CW.seq ?_ | refine PW.then_ ?_ | refine CW.block ?_ | refine CW.skip ?_ | refine CW.ret ?_ | refine PW.then_ret ?_ | refine PW.block_ret ?_ | refine Cut.ret ?_ | refine Rnd.ret ?_ | refine PW.block_normal ?_ | refine CW.exit ?_ | refine PW.then_exit ?_ | refine PW.block_hit ?_ | refine PW.block_miss rfl ?_ | refine Cut.exit ?_ | refine Rnd.exit ?_)
            refine CW.cond_true rfl ?_
            repeat (first | refine CW.seq ?_ | refine PW.then_ ?_ | refine CW.block ?_ | refine CW.skip ?_ | refine CW.ret ?_ | refine PW.then_ret ?_ | refine PW.block_ret ?_ | refine Cut.ret ?_ | refine Rnd.ret ?_ | refine PW.block_normal ?_ | refine CW.exit ?_ | refine PW.then_exit ?_ | refine PW.block_hit ?_ | refine PW.block_miss rfl ?_ | refine Cut.exit ?_ | refine Rnd.exit ?_)
            refine CW.region ?_
            refine L1 (ps_move rfl).os ?_
            refine L1 (ps_fa T.fa29_3 (by decide) rfl).os ?_
            refine L1 (os_load1 (by repeat (first | exact pk_head _ _ | apply pk_tail)) T.ag23 rfl (by rfl)) ?_
            refine L1 (ps_fa T.fa29_4 (by decide) rfl).os ?_
            refine L1 (os_load1 (by repeat (first | exact pk_head _ _ | apply pk_tail)) T.ag3 rfl (by rfl)) ?_
            refine L1 (ps_fa T.fa29_5 (by decide) rfl).os ?_
            refine L1 (os_load1 (by repeat (first | exact pk_head _ _ | apply pk_tail)) T.ag3 rfl (by rfl)) ?_
            refine LE (os_call (Crash_spec p st hs.ok q1 mk hmk torn cut) Try.func19 (by decide +kernel) rfl rfl (by repeat (first | exact pk_head _ _ | apply pk_tail))) ?_
            rintro _ _ ⟨_, ⟨rfl, rfl⟩, rfl⟩
            refine LW.nil ?_
            repeat (first | refine CW.seq ?_ | refine PW.then_ ?_ | refine CW.block ?_ | refine CW.skip ?_ | refine CW.ret ?_ | refine PW.then_ret ?_ | refine PW.block_ret ?_ | refine Cut.ret ?_ | refine Rnd.ret ?_ | refine PW.block_normal ?_ | refine CW.exit ?_ | refine PW.then_exit ?_ | refine PW.block_hit ?_ | refine PW.block_miss rfl ?_ | refine Cut.exit ?_ | refine Rnd.exit ?_)
            refine CW.region ?_
            refine L1 (ps_move rfl).os ?_
            refine L1 (ps_len_sl T.un22 rfl).os ?_
            refine L1 (ps_move rfl).os ?_
            refine LW.nil ?_
            repeat (first | refine CW.seq ?_ | refine PW.then_ ?_ | refine CW.block ?_ | refine CW.skip ?_ | refine CW.ret ?_ | refine PW.then_ret ?_ | refine PW.block_ret ?_ | refine Cut.ret ?_ | refine Rnd.ret ?_ | refine PW.block_normal ?_ | refine CW.exit ?_ | refine PW.then_exit ?_ | refine PW.block_hit ?_ | refine PW.block_miss rfl ?_ | refine Cut.exit ?_ | refine Rnd.exit ?_)
            refine CW.loopM (α := Nat) [16, 17, 18, 19, 134, 135, 136, 137, 138, 139, 140, 141, 142, 143, 144, 145, 146, 147, 148, 149, 150, 151, 152, 153, 154, 155, 156, 157, 158, 159, 160, 161, 162, 163, 164, 165, 166, 167] (fun k j => j ≤ w.length ∧ k = w.length - j) (fun j => [(134, .int .i64 j)])
              (fun j => DiskAt p (st.crash mk torn cut) :: cb M 44 ((crashTo mk torn cut ((w.map wFull).take j) st.data).map bv).flatten :: slOwn 29 6 (.slice q w.length d) w.length (w.map callCells).flatten :: cb b10 29 [.int .i64 kind, .int .i64 at_, .slice pd data.length capd, .int .u64 mk, .int .i64 torn, .int .i64 cut] :: bag (blks W) :: F) w.length 0 ⟨Nat.zero_le _, rfl⟩ ⟨rfl, trivial⟩ (by repeat (first | exact Ent.refl _ | (apply Ent.cons; · repeat (first | exact pk_head _ _ | apply pk_tail)) | apply Ent.skip)) ?_
            rintro k' j g3 ⟨hj, hk'⟩
            repeat (first | refine CW.seq ?_ | refine PW.then_ ?_ | refine CW.block ?_ | refine CW.skip ?_ | refine CW.ret ?_ | refine PW.then_ret ?_ | refine PW.block_ret ?_ | refine Cut.ret ?_ | refine Rnd.ret ?_ | refine PW.block_normal ?_ | refine CW.exit ?_ | refine PW.then_exit ?_ | refine PW.block_hit ?_ | refine PW.block_miss rfl ?_ | refine Cut.exit ?_ | refine Rnd.exit ?_)
            by_cases hjt : j < w.length
            · have hcr := crashTo_ok (mask := mk) (torn := torn) (cut := cut) (l := (w.map wFull).take j) (d := st.data) (hs.lens j) hs.ok.dlen
              refine CW.region ?_
              refine L1 (ps_t (ps_lss rfl rfl) (by omega)).os ?_
              refine LW.nil ?_
              refine PW.then_ (CW.seq ?_)
              refine CW.cond_true rfl ?_
              refine CW.skip (PW.then_ ?_)
              refine CW.cutM (α := Unit) [16, 17, 18, 19, 136, 137, 138, 139, 140, 141, 142, 143, 144, 145, 146, 147, 148, 149, 150, 151, 152, 153, 154, 155, 156, 157, 158, 159, 160, 161, 162, 163, 164, 165, 166] (fun _ => True) (fun _ => []) (fun _ => DiskAt p (st.crash mk torn cut) :: cb M 44 ((crashTo mk torn cut ((w.map wFull).take (j + 1)) st.data).map bv).flatten :: slOwn 29 6 (.slice q w.length d) w.length (w.map callCells).flatten :: cb b10 29 [.int .i64 kind, .int .i64 at_, .slice pd data.length capd, .int .u64 mk, .int .i64 torn, .int .i64 cut] :: bag (blks W) :: F) ?_ ?_
              · repeat (first | refine CW.seq ?_ | refine PW.then_ ?_ | refine CW.block ?_ | refine CW.skip ?_ | refine CW.ret ?_ | refine PW.then_ret ?_ | refine PW.block_ret ?_ | refine Cut.ret ?_ | refine Rnd.ret ?_ | refine PW.block_normal ?_ | refine CW.exit ?_ | refine PW.then_exit ?_ | refine PW.block_hit ?_ | refine PW.block_miss rfl ?_ | refine Cut.exit ?_ | refine Rnd.exit ?_)
                refine slOwn_open (by repeat (first | exact pk_head _ _ | apply pk_tail)) (fun _ h0 _ => absurd hjt (by omega)) ?_
                rintro gg cap cur hv' hmc hcmx hcl2 htk hxl
                cases hv'
                have hrow := row_of htk hjt
                have hws := hs.ws w[j] (List.getElem_mem hjt)
                have hone' := callCells_one hws.1
                have hsucc := runC_succ (D := st.data) (mask := mk) (torn := torn) (cut := cut) hjt
                generalize w[j] = e at hrow hws hone' hsucc
                obtain ⟨kind', at', dv', data', cm', torn', cut'⟩ := e
                obtain ⟨hok', ha0, ha6, hle⟩ := hws
                have hde := hok'.data
                have hd1' := hde
                obtain ⟨pe, cape, hdv', hce, -⟩ := hd1'
                dsimp only at hdv' ha0 ha6 hle hde hsucc hce
                subst hdv'
                obtain ⟨an, rfl⟩ := Int.eq_ofNat_of_zero_le ha0
                have han : an < 6 := by omega
                have hp64 := length_pad hle
                have hbv64 : (bv (pad 64 data')).length = 64 := by rw [length_bv, hp64]
                have hwf : wFull ⟨kind', (an : Nat), .slice pe data'.length cape, data', cm', torn', cut'⟩ = (an, pad 64 data') := rfl
                rw [hwf] at hsucc
                rw [hsucc]
                generalize crashTo mk torn cut ((w.map wFull).take j) st.data = dat at hcr
                have hdl1 : dat.length = 6 := hcr.1.trans hdl6
                have hcle := cutLen_le torn cut j
                have hcells : (dat.map bv).flatten.length = 6 * 64 := by rw [len_rows (s := 64) _ (bv_rows hcr.2)]; simp [hdl1]
                refine CW.region ?_
                refine L1 (ps_move rfl).os ?_
                refine L1 (ps_ia_slice T.un22 T.sz29 rfl rfl (by omega) (by omega)).os ?_
                refine L1 (os_loadN (b := gg) (vs := [.int .i64 kind', .int .i64 (an : Nat), .slice pe data'.length cape, .int .u64 cm', .int .i64 torn', .int .i64 cut']) (by repeat (first | exact pk_head _ _ | apply pk_tail)) T.ag29 T.sz29 rfl hrow rfl) ?_
                refine LE (os_alloc T.ti29) ?_
                rintro _ _ ⟨b17, rfl, rfl⟩
                refine L1 (ps_assign rfl).os ?_
                refine L1 (os_storeAll (b := b17) (vs := [.int .i64 kind', .int .i64 (an : Nat), .slice pe data'.length cape, .int .u64 cm', .int .i64 torn', .int .i64 cut']) (by repeat (first | exact pk_head _ _ | apply pk_tail)) T.sz29 rfl rfl hone' (by rfl)) ?_
                refine LW.nil ?_
                repeat (first | refine CW.seq ?_ | refine PW.then_ ?_ | refine CW.block ?_ | refine CW.skip ?_ | refine CW.ret ?_ | refine PW.then_ret ?_ | refine PW.block_ret ?_ | refine Cut.ret ?_ | refine Rnd.ret ?_ | refine PW.block_normal ?_ | refine CW.exit ?_ | refine PW.then_exit ?_ | refine PW.block_hit ?_ | refine PW.block_miss rfl ?_ | refine Cut.exit ?_ | refine Rnd.exit ?_)
                by_cases hbit : mk / 2 ^ (j % 64) % 2 = 1
                · refine CW.region ?_
                  refine L1 (ps_fa T.fa29_3 (by decide) rfl).os ?_
                  refine L1 (os_load1 (by repeat (first | exact pk_head _ _ | apply pk_tail)) T.ag23 rfl (by rfl)) ?_
                  refine L1 (ps_move rfl).os ?_
                  refine L1 (ps_to (u := .int .u64 (j : Nat)) (congrArg _ (wrap_u64_id (by omega) (by omega))) (ps_conv (by rw [T.un3]; rfl) T.un46 rfl)).os ?_
                  refine L1 (ps_to (u := .int .u64 ((j % 64 : Nat) : Int)) (by congr 1) (ps_rem_pos rfl rfl (by omega) (by decide))).os ?_
                  refine L1 (ps_shr rfl rfl (by omega)).os ?_
                  refine L1 (ps_to (u := .int .u64 ((mk / 2 ^ (j % 64) % 2 : Nat) : Int)) (congrArg (Value.int .u64) (shr_bit mk j)) (ps_mask_u64 (m := 1) rfl rfl rfl (by decide))).os ?_
                  refine L1 (ps_t (ps_eql rfl rfl) (by exact_mod_cast hbit)).os ?_
                  refine LW.nil ?_
                  repeat (first | refine CW.seq ?_ | refine PW.then_ ?_ | refine CW.block ?_ | refine CW.skip ?_ | refine CW.ret ?_ | refine PW.then_ret ?_ | refine PW.block_ret ?_ | refine Cut.ret ?_ | refine Rnd.ret ?_ | refine PW.block_normal ?_ | refine CW.exit ?_ | refine PW.then_exit ?_ | refine PW.block_hit ?_ | refine PW.block_miss rfl ?_ | refine Cut.exit ?_ | refine Rnd.exit ?_)
                  refine CW.cond_true rfl ?_
                  repeat (first | refine CW.seq ?_ | refine PW.then_ ?_ | refine CW.block ?_ | refine CW.skip ?_ | refine CW.ret ?_ | refine PW.then_ret ?_ | refine PW.block_ret ?_ | refine Cut.ret ?_ | refine Rnd.ret ?_ | refine PW.block_normal ?_ | refine CW.exit ?_ | refine PW.then_exit ?_ | refine PW.block_hit ?_ | refine PW.block_miss rfl ?_ | refine Cut.exit ?_ | refine Rnd.exit ?_)
                  refine CW.region ?_
                  refine L1 (ps_move rfl).os ?_
                  refine L1 (ps_fa T.fa29_2 (by decide) rfl).os ?_
                  refine L1 (os_load1 (by repeat (first | exact pk_head _ _ | apply pk_tail)) T.ag27 rfl (by rfl)) ?_
                  refine LE (os_callv (full_spec (bag (blks W)) (.slice pe data'.length cape) data' hde hle) Try.func27 (by decide +kernel) rfl rfl rfl (by repeat (first | exact pk_head _ _ | apply pk_tail))) ?_
                  rintro _ _ ⟨_, ⟨rfl, rfl⟩, rfl⟩
                  refine LE (os_alloc T.ti43) ?_
                  rintro _ _ ⟨b18, rfl, rfl⟩
                  refine L1 (os_storeAll (b := b18) (vs := bv (pad 64 data')) (by repeat (first | exact pk_head _ _ | apply pk_tail)) (by rw [hbv64]; exact T.sz43) rfl rfl (bv_one _) (by rw [hbv64]; rfl)) ?_
                  refine L1 (ps_assign rfl).os ?_
                  refine LW.nil ?_
                  refine PW.then_ ?_
                  refine CW.cutM (α := Unit) [19, 151, 152, 153, 154, 155, 156, 157, 158] (fun _ => True) (fun _ => [(19, .int .i64 (cutLen torn cut j))])
                    (fun _ => cb b18 43 (bv (pad 64 data')) :: cb b17 29 [.int .i64 kind', .int .i64 (an : Nat), .slice pe data'.length cape, .int .u64 cm', .int .i64 torn', .int .i64 cut'] :: cb gg 29 cur :: DiskAt p (st.crash mk torn cut) :: cb M 44 (dat.map bv).flatten :: cb b10 29 [.int .i64 kind, .int .i64 at_, .slice pd data.length capd, .int .u64 mk, .int .i64 torn, .int .i64 cut] :: bag (blks W) :: F) ?_ ?_
                  · repeat (first | refine CW.seq ?_ | refine PW.then_ ?_ | refine CW.block ?_ | refine CW.skip ?_ | refine CW.ret ?_ | refine PW.then_ret ?_ | refine PW.block_ret ?_ | refine Cut.ret ?_ | refine Rnd.ret ?_ | refine PW.block_normal ?_ | refine CW.exit ?_ | refine PW.then_exit ?_ | refine PW.block_hit ?_ | refine PW.block_miss rfl ?_ | refine Cut.exit ?_ | refine Rnd.exit ?_)
                    by_cases htn : (j : Int) = torn
                    · refine CW.region ?_
                      refine L1 (ps_move rfl).os ?_
                      refine L1 (ps_fa T.fa29_4 (by decide) rfl).os ?_
                      refine L1 (os_load1 (by repeat (first | exact pk_head _ _ | apply pk_tail)) T.ag3 rfl (by rfl)) ?_
                      refine L1 (ps_t (ps_eql rfl rfl) (htn)).os ?_
                      refine LW.nil ?_
                      repeat (first | refine CW.seq ?_ | refine PW.then_ ?_ | refine CW.block ?_ | refine CW.skip ?_ | refine CW.ret ?_ | refine PW.then_ret ?_ | refine PW.block_ret ?_ | refine Cut.ret ?_ | refine Rnd.ret ?_ | refine PW.block_normal ?_ | refine CW.exit ?_ | refine PW.then_exit ?_ | refine PW.block_hit ?_ | refine PW.block_miss rfl ?_ | refine Cut.exit ?_ | refine Rnd.exit ?_)
                      refine CW.cond_true rfl ?_
                      refine CW.region ?_
                      refine L1 (ps_fa T.fa29_5 (by decide) rfl).os ?_
                      refine L1 (os_load1 (by repeat (first | exact pk_head _ _ | apply pk_tail)) T.ag3 rfl (by rfl)) ?_
                      refine L1 (ps_min rfl rfl).os ?_
                      refine L1 (ps_max rfl rfl).os ?_
                      refine L1 (ps_assign rfl).os ?_
                      refine LW.nil ?_
                      exact Meet.cut () trivial (by repeat (first | (with_reducible exact Ag.refl _ _) | (with_reducible apply Ag.pu0) | ((with_reducible refine Ag.pu _ ?_ ?_); · exact rfl) | ((with_reducible refine Ag.mix ?_ ?_); · exact rfl) | ((with_reducible refine Ag.pus ?_ ?_); · exact rfl))) ⟨by simp only [cutLen, htn, if_true, clampN]; show Value.int .i64 _ = _; congr 1; omega, trivial⟩ (by repeat (first | exact Ent.refl _ | (apply Ent.cons; · repeat (first | exact pk_head _ _ | apply pk_tail)) | apply Ent.skip))
                    · refine CW.region ?_
                      refine L1 (ps_move rfl).os ?_
                      refine L1 (ps_fa T.fa29_4 (by decide) rfl).os ?_
                      refine L1 (os_load1 (by repeat (first | exact pk_head _ _ | apply pk_tail)) T.ag3 rfl (by rfl)) ?_
                      refine L1 (ps_f (ps_eql rfl rfl) (htn)).os ?_
                      refine LW.nil ?_
                      repeat (first | refine CW.seq ?_ | refine PW.then_ ?_ | refine CW.block ?_ | refine CW.skip ?_ | refine CW.ret ?_ | refine PW.then_ret ?_ | refine PW.block_ret ?_ | refine Cut.ret ?_ | refine Rnd.ret ?_ | refine PW.block_normal ?_ | refine CW.exit ?_ | refine PW.then_exit ?_ | refine PW.block_hit ?_ | refine PW.block_miss rfl ?_ | refine Cut.exit ?_ | refine Rnd.exit ?_)
                      refine CW.cond_false rfl ?_
                      repeat (first | refine CW.seq ?_ | refine PW.then_ ?_ | refine CW.block ?_ | refine CW.skip ?_ | refine CW.ret ?_ | refine PW.then_ret ?_ | refine PW.block_ret ?_ | refine Cut.ret ?_ | refine Rnd.ret ?_ | refine PW.block_normal ?_ | refine CW.exit ?_ | refine PW.then_exit ?_ | refine PW.block_hit ?_ | refine PW.block_miss rfl ?_ | refine Cut.exit ?_ | refine Rnd.exit ?_)
                      exact Meet.cut () trivial (by repeat (first | (with_reducible exact Ag.refl _ _) | (with_reducible apply Ag.pu0) | ((with_reducible refine Ag.pu _ ?_ ?_); · exact rfl) | ((with_reducible refine Ag.mix ?_ ?_); · exact rfl) | ((with_reducible refine Ag.pus ?_ ?_); · exact rfl))) ⟨by simp only [cutLen, htn, if_false]; rfl, trivial⟩ (by repeat (first | exact Ent.refl _ | (apply Ent.cons; · repeat (first | exact pk_head _ _ | apply pk_tail)) | apply Ent.skip))
                  intro _ g5 _
                  have htl : ((pad 64 data').take (cutLen torn cut j)).length = cutLen torn cut j := by rw [List.length_take, hp64]; omega
                  have hset := set_row hcr.2 (k := an) (by rw [hdl1]; exact han) (r := (pad 64 data').take (cutLen torn cut j)) (by omega)
                  rw [htl] at hset
                  have hc1 : crash1 mk torn cut dat ((an, pad 64 data'), j) = dat.set an ((pad 64 data').take (cutLen torn cut j) ++ (dat.getD an []).drop (cutLen torn cut j)) := by
                    unfold crash1
                    rw [if_neg (by simp only; omega)]
                  have hnl : (bv ((pad 64 data').take (cutLen torn cut j))).length = Nat.min (cutLen torn cut j) (cutLen torn cut j) := by rw [length_bv, htl]; exact (Nat.min_self _).symm
                  have hs18 : ((bv (pad 64 data')).drop 0).take (bv ((pad 64 data').take (cutLen torn cut j))).length = bv ((pad 64 data').take (cutLen torn cut j)) := by rw [length_bv, htl, List.drop_zero, bv_take]
                  have hfit : 0 + ((an : Nat) : Int).toNat * 64 + (bv ((pad 64 data').take (cutLen torn cut j))).length ≤ (dat.map bv).flatten.length := by rw [hcells, length_bv, htl]; omega
                  refine CW.draw T.mixed ?_
                  refine A_take (i := 0) (some 159) rfl rfl (by kernel_rfl) (by kernel_rfl) (by kernel_rfl) rfl (ps_fa T.fa29_1 (by decide) rfl) ?_
                  refine A_take (i := 3) (some 162) rfl rfl (by kernel_rfl) (by kernel_rfl) (by kernel_rfl) rfl (ps_move rfl) ?_
                  refine A_take (i := 5) (some 164) rfl rfl (by kernel_rfl) (by kernel_rfl) (by kernel_rfl) rfl (ps_move rfl) ?_
                  refine A_take (i := 6) (some 165) rfl rfl (by kernel_rfl) (by kernel_rfl) (by kernel_rfl) rfl (ps_as_h T.un43 T.sz5 rfl rfl (by omega) (by omega)) ?_
                  refine A_branch (rs := [1]) (by kernel_rfl) (by simp) ?_
                  refine AR.cons1 (i := 1) (some 160) rfl rfl rfl (os_load1 (by repeat (first | exact pk_head _ _ | apply pk_tail)) T.ag3 rfl (by rfl)) ?_ ?_
                  · skip
                    refine A_take (i := 2) (some 161) rfl rfl (by kernel_rfl) (by kernel_rfl) (by kernel_rfl) rfl (ps_ia_arr T.un44 T.sz43 rfl rfl (by omega) (by omega)) ?_
                    refine A_take (i := 4) (some 163) rfl rfl (by kernel_rfl) (by kernel_rfl) (by kernel_rfl) rfl (ps_as_h T.un43 T.sz5 rfl rfl (by omega) (by omega)) ?_
                    refine A_branch (rs := [7]) (by kernel_rfl) (by simp) ?_
                    refine AR.cons1 (i := 7) (some 166) rfl rfl rfl (os_cb hset <| os_copy (b := M) (news := bv ((pad 64 data').take (cutLen torn cut j))) (by repeat (first | exact pk_head _ _ | apply pk_tail)) T.un27 T.sz5 rfl rfl hnl (Src.cb (b := b18) (by repeat (first | exact pk_head _ _ | apply pk_tail)) hs18) (bv_one _) (.inr hfit)) ?_ ?_
                    · skip
                      refine A_done (by kernel_rfl) ?_
                      refine PW.block_normal (Meet.cut () trivial (by repeat (first | (with_reducible exact Ag.refl _ _) | (with_reducible apply Ag.pu0) | ((with_reducible refine Ag.pu _ ?_ ?_); · exact rfl) | ((with_reducible refine Ag.mix ?_ ?_); · exact rfl) | ((with_reducible refine Ag.pus ?_ ?_); · exact rfl))) trivial ?_)
                      rw [hc1]
                      exact (Ent.perm (Bs := cb gg _ cur :: _) (by repeat (first | exact pk_head _ _ | apply pk_tail))).trans ((Ent.slMk hmc hcmx hcl2 htk _).trans (by repeat (first | exact Ent.refl _ | (apply Ent.cons; · repeat (first | exact pk_head _ _ | apply pk_tail)) | apply Ent.skip)))
                    exact AR.nil
                  exact AR.nil
                · have hb0 : mk / 2 ^ (j % 64) % 2 = 0 := by omega
                  refine CW.region ?_
                  refine L1 (ps_fa T.fa29_3 (by decide) rfl).os ?_
                  refine L1 (os_load1 (by repeat (first | exact pk_head _ _ | apply pk_tail)) T.ag23 rfl (by rfl)) ?_
                  refine L1 (ps_move rfl).os ?_
                  refine L1 (ps_to (u := .int .u64 (j : Nat)) (congrArg _ (wrap_u64_id (by omega) (by omega))) (ps_conv (by rw [T.un3]; rfl) T.un46 rfl)).os ?_
                  refine L1 (ps_to (u := .int .u64 ((j % 64 : Nat) : Int)) (by congr 1) (ps_rem_pos rfl rfl (by omega) (by decide))).os ?_
                  refine L1 (ps_shr rfl rfl (by omega)).os ?_
                  refine L1 (ps_to (u := .int .u64 ((mk / 2 ^ (j % 64) % 2 : Nat) : Int)) (congrArg (Value.int .u64) (shr_bit mk j)) (ps_mask_u64 (m := 1) rfl rfl rfl (by decide))).os ?_
                  refine L1 (ps_f (ps_eql rfl rfl) (by exact_mod_cast hbit)).os ?_
                  refine LW.nil ?_
                  repeat (first | refine CW.seq ?_ | refine PW.then_ ?_ | refine CW.block ?_ | refine CW.skip ?_ | refine CW.ret ?_ | refine PW.then_ret ?_ | refine PW.block_ret ?_ | refine Cut.ret ?_ | refine Rnd.ret ?_ | refine PW.block_normal ?_ | refine CW.exit ?_ | refine PW.then_exit ?_ | refine PW.block_hit ?_ | refine PW.block_miss rfl ?_ | refine Cut.exit ?_ | refine Rnd.exit ?_)
                  refine CW.cond_false rfl ?_
                  repeat (first | refine CW.seq ?_ | refine PW.then_ ?_ | refine CW.block ?_ | refine CW.skip ?_ | refine CW.ret ?_ | refine PW.then_ret ?_ | refine PW.block_ret ?_ | refine Cut.ret ?_ | refine Rnd.ret ?_ | refine PW.block_normal ?_ | refine CW.exit ?_ | refine PW.then_exit ?_ | refine PW.block_hit ?_ | refine PW.block_miss rfl ?_ | refine Cut.exit ?_ | refine Rnd.exit ?_)
                  have hc1 : crash1 mk torn cut dat ((an, pad 64 data'), j) = dat := by
                    unfold crash1
                    rw [if_pos hb0]
                  refine Meet.cut () trivial (by repeat (first | (with_reducible exact Ag.refl _ _) | (with_reducible apply Ag.pu0) | ((with_reducible refine Ag.pu _ ?_ ?_); · exact rfl) | ((with_reducible refine Ag.mix ?_ ?_); · exact rfl) | ((with_reducible refine Ag.pus ?_ ?_); · exact rfl))) trivial ?_
                  rw [hc1]
                  exact (Ent.perm (Bs := cb gg _ cur :: _) (by repeat (first | exact pk_head _ _ | apply pk_tail))).trans ((Ent.slMk hmc hcmx hcl2 htk _).trans (by repeat (first | exact Ent.refl _ | (apply Ent.cons; · repeat (first | exact pk_head _ _ | apply pk_tail)) | apply Ent.skip)))
              intro _ g4 _
              refine CW.region ?_
              refine L1 (ps_add_i64 rfl rfl (by omega) (by omega)).os ?_
              refine L1 (ps_move rfl).os ?_
              refine LW.nil ?_
              exact Meet.round (w.length - (j + 1)) (j + 1) (by omega) ⟨hjt, rfl⟩ (by repeat (first | (with_reducible exact Ag.refl _ _) | (with_reducible apply Ag.pu0) | ((with_reducible refine Ag.pu _ ?_ ?_); · exact rfl) | ((with_reducible refine Ag.mix ?_ ?_); · exact rfl) | ((with_reducible refine Ag.pus ?_ ?_); · exact rfl))) ⟨rfl, trivial⟩ (by repeat (first | exact Ent.refl _ | (apply Ent.cons; · repeat (first | exact pk_head _ _ | apply pk_tail)) | apply Ent.skip))
            · have hjw : j = (w.map wFull).length := by rw [List.length_map]; omega
              have hfl := hs.crash mk torn cut
              have hdata : crashTo mk torn cut ((w.map wFull).take j) st.data = (st.crash mk torn cut).data := by rw [hjw, List.take_length, ← hs.wait]; rfl
              refine CW.region ?_
              refine L1 (ps_f (ps_lss rfl rfl) (by omega)).os ?_
              refine LW.nil ?_
              repeat (first | refine CW.seq ?_ | refine PW.then_ ?_ | refine CW.block ?_ | refine CW.skip ?_ | refine CW.ret ?_ | refine PW.then_ret ?_ | refine PW.block_ret ?_ | refine Cut.ret ?_ | refine Rnd.ret ?_ | refine PW.block_normal ?_ | refine CW.exit ?_ | refine PW.then_exit ?_ | refine PW.block_hit ?_ | refine PW.block_miss rfl ?_ | refine Cut.exit ?_ | refine Rnd.exit ?_)
              refine CW.cond_false rfl ?_
              repeat (first | refine CW.seq ?_ | refine PW.then_ ?_ | refine CW.block ?_ | refine CW.skip ?_ | refine CW.ret ?_ | refine PW.then_ret ?_ | refine PW.block_ret ?_ | refine Cut.ret ?_ | refine Rnd.ret ?_ | refine PW.block_normal ?_ | refine CW.exit ?_ | refine PW.then_exit ?_ | refine PW.block_hit ?_ | refine PW.block_miss rfl ?_ | refine Cut.exit ?_ | refine Rnd.exit ?_)
              refine CW.region ?_
              refine L1 (ps_assign rfl).os ?_
              refine L1 (ps_assign rfl).os ?_
              refine LW.nil ?_
              repeat (first | refine CW.seq ?_ | refine PW.then_ ?_ | refine CW.block ?_ | refine CW.skip ?_ | refine CW.ret ?_ | refine PW.then_ret ?_ | refine PW.block_ret ?_ | refine Cut.ret ?_ | refine Rnd.ret ?_ | refine PW.block_normal ?_ | refine CW.exit ?_ | refine PW.then_exit ?_ | refine PW.block_hit ?_ | refine PW.block_miss rfl ?_ | refine Cut.exit ?_ | refine Rnd.exit ?_)
              refine Meet.cut (none, 0, [], st.crash mk torn cut) hfl.1 (by repeat (first | (with_reducible exact Ag.refl _ _) | (with_reducible apply Ag.pu0) | ((with_reducible refine Ag.pu _ ?_ ?_); · exact rfl) | ((with_reducible refine Ag.mix ?_ ?_); · exact rfl) | ((with_reducible refine Ag.pus ?_ ?_); · exact rfl))) ⟨rfl, rfl, rfl, trivial⟩ ?_
              dsimp only
              rw [hdata]
              refine Ent.cons (by repeat (first | exact pk_head _ _ | apply pk_tail)) (Ent.cons (by repeat (first | exact pk_head _ _ | apply pk_tail)) (Ent.cons (by repeat (first | exact pk_head _ _ | apply pk_tail)) ?_))
              exact Ent.trans (Bs := bag (blks W) :: F) (by repeat (first | exact Ent.refl _ | (apply Ent.cons; · repeat (first | exact pk_head _ _ | apply pk_tail)) | apply Ent.skip)) (Ent.slNil _ _ _)
          · have harm := hs.arm at_ hat.2
            refine CW.region ?_
            refine L1 (ps_f (ps_eql rfl rfl) (h3)).os ?_
            refine L1 (ps_assign rfl).os ?_
            refine LW.nil ?_
            repeat (first | refine CW.seq ?_ | refine PW.then_ ?_ | refine CW.block ?_ | refine CW.skip ?_ | refine CW.ret ?_ | refine PW.then_ret ?_ | refine PW.block_ret ?_ | refine Cut.ret ?_ | refine Rnd.ret ?_ | refine PW.block_normal ?_ | refine CW.exit ?_ | refine PW.then_exit ?_ | refine PW.block_hit ?_ | refine PW.block_miss rfl ?_ | refine Cut.exit ?_ | refine Rnd.exit ?_)
            refine CW.cond_false rfl ?_
            repeat (first | refine CW.seq ?_ | refine PW.then_ ?_ | refine CW.block ?_ | refine CW.skip ?_ | refine CW.ret ?_ | refine PW.then_ret ?_ | refine PW.block_ret ?_ | refine Cut.ret ?_ | refine Rnd.ret ?_ | refine PW.block_normal ?_ | refine CW.exit ?_ | refine PW.then_exit ?_ | refine PW.block_hit ?_ | refine PW.block_miss rfl ?_ | refine Cut.exit ?_ | refine Rnd.exit ?_)
            refine CW.region ?_
            refine L1 (ps_move rfl).os ?_
            refine L1 (ps_fa T.fa29_1 (by decide) rfl).os ?_
            refine L1 (os_load1 (by repeat (first | exact pk_head _ _ | apply pk_tail)) T.ag3 rfl (by rfl)) ?_
            refine LE (os_call (Arm_spec p st at_) Try.func25 (by decide +kernel) rfl rfl (by repeat (first | exact pk_head _ _ | apply pk_tail))) ?_
            rintro _ _ ⟨_, ⟨rfl, rfl⟩, rfl⟩
            refine LW.nil ?_
            repeat (first | refine CW.seq ?_ | refine PW.then_ ?_ | refine CW.block ?_ | refine CW.skip ?_ | refine CW.ret ?_ | refine PW.then_ret ?_ | refine PW.block_ret ?_ | refine Cut.ret ?_ | refine Rnd.ret ?_ | refine PW.block_normal ?_ | refine CW.exit ?_ | refine PW.then_exit ?_ | refine PW.block_hit ?_ | refine PW.block_miss rfl ?_ | refine Cut.exit ?_ | refine Rnd.exit ?_)
            refine CW.region ?_
            refine L1 (ps_fa T.fa29_1 (by decide) rfl).os ?_
            refine L1 (os_load1 (by repeat (first | exact pk_head _ _ | apply pk_tail)) T.ag3 rfl (by rfl)) ?_
            refine L1 (ps_to (u := .int .i64 (max at_ 0)) (by congr 1; omega) (ps_max rfl rfl)).os ?_
            refine L1 (ps_assign rfl).os ?_
            refine LW.nil ?_
            repeat (first | refine CW.seq ?_ | refine PW.then_ ?_ | refine CW.block ?_ | refine CW.skip ?_ | refine CW.ret ?_ | refine PW.then_ret ?_ | refine PW.block_ret ?_ | refine Cut.ret ?_ | refine Rnd.ret ?_ | refine PW.block_normal ?_ | refine CW.exit ?_ | refine PW.then_exit ?_ | refine PW.block_hit ?_ | refine PW.block_miss rfl ?_ | refine Cut.exit ?_ | refine Rnd.exit ?_)
            exact Meet.cut (q, d, w, { st with armed := true, left := max at_ 0 }) harm.1 (by repeat (first | (with_reducible exact Ag.refl _ _) | (with_reducible apply Ag.pu0) | ((with_reducible refine Ag.pu _ ?_ ?_); · exact rfl) | ((with_reducible refine Ag.mix ?_ ?_); · exact rfl) | ((with_reducible refine Ag.pus ?_ ?_); · exact rfl))) ⟨rfl, congrArg (Value.int .i64) harm.2.symm, rfl, trivial⟩ (by repeat (first | exact Ent.refl _ | (apply Ent.cons; · repeat (first | exact pk_head _ _ | apply pk_tail)) | apply Ent.skip))
    clear hs hwr hth
    rintro ⟨q2, d2, w2, st2⟩ g6 hs2
    dsimp only at hs2
    try dsimp only
    have hwl2 := hs2.wlen
    have hwl3 := hs2.wl
    have hdl2 := hs2.dl
    have hr1 : st2.wait.length ≤ 1000000 := by omega
    have hcn2 := hs2.cnt
    repeat (first | refine CW.seq ?_ | refine PW.then_ ?_ | refine CW.block ?_ | refine CW.skip ?_ | refine CW.ret ?_ | refine PW.then_ret ?_ | refine PW.block_ret ?_ | refine Cut.ret ?_ | refine Rnd.ret ?_ | refine PW.block_normal ?_ | refine CW.exit ?_ | refine PW.then_exit ?_ | refine PW.block_hit ?_ | refine PW.block_miss rfl ?_ | refine Cut.exit ?_ | refine Rnd.exit ?_)
    refine CW.region ?_
    refine L1 (ps_move rfl).os ?_
    refine LE (os_call (Waits_spec p st2) Try.func21 (by decide +kernel) rfl rfl (by repeat (first | exact pk_head _ _ | apply pk_tail))) ?_
    rintro _ _ ⟨_, ⟨rfl, rfl⟩, rfl⟩
    refine L1 (ps_move rfl).os ?_
    refine L1 (ps_len_sl T.un22 rfl).os ?_
    refine L1 (ps_f (ps_neq rfl rfl) (by rw [hwl2]; exact fun h => h rfl)).os ?_
    refine L1 (ps_move rfl).os ?_
    refine LG1 ?_ (ps_move rfl).os ?_
    · exact rfl
    refine LGE ?_ (os_call (Writes_spec p st2) Try.func22 (by decide +kernel) rfl rfl (by repeat (first | exact pk_head _ _ | apply pk_tail))) ?_
    · exact rfl
    rintro _ _ ⟨_, ⟨rfl, rfl⟩, rfl⟩
    refine LG1 ?_ (ps_move rfl).os ?_
    · exact rfl
    refine LG1 ?_ (ps_f (ps_neq rfl rfl) (fun h => h rfl)).os ?_
    · exact rfl
    refine L1 (ps_pick_f rfl rfl).os ?_
    refine L1 (ps_move rfl).os ?_
    refine LG1 ?_ (ps_move rfl).os ?_
    · exact rfl
    refine LGE ?_ (os_call (Down_to (lv_down (st := st2))) Try.func26 (by decide +kernel) rfl rfl (by repeat (first | exact pk_head _ _ | apply pk_tail))) ?_
    · exact rfl
    rintro _ _ ⟨_, ⟨rfl, rfl⟩, rfl⟩
    refine LG1 ?_ (ps_move rfl).os ?_
    · exact rfl
    refine LG1 ?_ (ps_eql rfl rfl).os ?_
    · exact rfl
    refine LG1 ?_ (ps_to (u := .bool false) (by simp) (ps_bool_neq T.un4 rfl rfl)).os ?_
    · exact rfl
    refine L1 (ps_pick_f rfl rfl).os ?_
    refine L1 (ps_move rfl).os ?_
    refine LG1 ?_ (ps_move rfl).os ?_
    · exact rfl
    refine LGE ?_ (os_call (Len_spec p st2) Try.func24 (by decide +kernel) rfl rfl (by repeat (first | exact pk_head _ _ | apply pk_tail))) ?_
    · exact rfl
    rintro _ _ ⟨_, ⟨rfl, rfl⟩, rfl⟩
    refine LG1 ?_ (ps_f (ps_neq rfl rfl) (by rw [hdl2]; exact fun h => h rfl)).os ?_
    · exact rfl
    refine L1 (ps_pick_f rfl rfl).os ?_
    refine LW.nil ?_
    repeat (first | refine CW.seq ?_ | refine PW.then_ ?_ | refine CW.block ?_ | refine CW.skip ?_ | refine CW.ret ?_ | refine PW.then_ret ?_ | refine PW.block_ret ?_ | refine Cut.ret ?_ | refine Rnd.ret ?_ | refine PW.block_normal ?_ | refine CW.exit ?_ | refine PW.then_exit ?_ | refine PW.block_hit ?_ | refine PW.block_miss rfl ?_ | refine Cut.exit ?_ | refine Rnd.exit ?_)
    refine CW.cond_false rfl ?_
    repeat (first | refine CW.seq ?_ | refine PW.then_ ?_ | refine CW.block ?_ | refine CW.skip ?_ | refine CW.ret ?_ | refine PW.then_ret ?_ | refine PW.block_ret ?_ | refine Cut.ret ?_ | refine Rnd.ret ?_ | refine PW.block_normal ?_ | refine CW.exit ?_ | refine PW.then_exit ?_ | refine PW.block_hit ?_ | refine PW.block_miss rfl ?_ | refine Cut.exit ?_ | refine Rnd.exit ?_)
    refine CW.region ?_
    refine L1 (ps_move rfl).os ?_
    refine LW.nil ?_
    repeat (first | refine CW.seq ?_ | refine PW.then_ ?_ | refine CW.block ?_ | refine CW.skip ?_ | refine CW.ret ?_ | refine PW.then_ret ?_ | refine PW.block_ret ?_ | refine Cut.ret ?_ | refine Rnd.ret ?_ | refine PW.block_normal ?_ | refine CW.exit ?_ | refine PW.then_exit ?_ | refine PW.block_hit ?_ | refine PW.block_miss rfl ?_ | refine Cut.exit ?_ | refine Rnd.exit ?_)
    refine CW.loopM (α := Nat) [2, 20, 21, 23, 24, 25, 191, 192, 193, 194, 195, 196, 197, 198, 199, 200, 201, 202, 203, 204, 205, 206, 207, 208, 209, 210, 211, 212, 213, 214, 215, 216, 217, 218, 219, 220, 221, 222, 223, 224, 225, 226, 227] (fun k kk => kk ≤ 6 ∧ k = 6 - kk) (fun kk => [(191, .int .i64 kk)])
      (fun kk => DiskAt p st2 :: cb M 44 (st2.data.map bv).flatten :: slOwn 29 6 (.slice q2 w2.length d2) w2.length (w2.map callCells).flatten :: bag (blks W) :: F) 6 0 ⟨Nat.zero_le _, rfl⟩ ⟨rfl, trivial⟩ (by repeat (first | exact Ent.refl _ | (apply Ent.cons; · repeat (first | exact pk_head _ _ | apply pk_tail)) | apply Ent.skip)) ?_
    rintro k2 kk g7 ⟨hkk, hk2⟩
    repeat (first | refine CW.seq ?_ | refine PW.then_ ?_ | refine CW.block ?_ | refine CW.skip ?_ | refine CW.ret ?_ | refine PW.then_ret ?_ | refine PW.block_ret ?_ | refine Cut.ret ?_ | refine Rnd.ret ?_ | refine PW.block_normal ?_ | refine CW.exit ?_ | refine PW.then_exit ?_ | refine PW.block_hit ?_ | refine PW.block_miss rfl ?_ | refine Cut.exit ?_ | refine Rnd.exit ?_)
    by_cases hkt : kk < 6
    · have hkd : kk < st2.data.length := by omega
      have hcl := DS.cur_len st2 hs2.ok kk hkd
      have hrow0 := cur_row hs2.ok.dlen hkd
      have hcb0 : (bv (st2.cur kk 0)).length = 64 := by rw [length_bv, hcl]
      have hrd := Read_ok p st2 hs2.ok hr1 kk hkd
      have hcr : st2.read kk = st2.cur kk w2.length := by unfold DS.cur DS.read; rw [← hwl2, List.take_length]
      rw [hcr] at hrd
      refine CW.region ?_
      refine L1 (ps_t (ps_lss rfl rfl) (by omega)).os ?_
      refine LW.nil ?_
      repeat (first | refine CW.seq ?_ | refine PW.then_ ?_ | refine CW.block ?_ | refine CW.skip ?_ | refine CW.ret ?_ | refine PW.then_ret ?_ | refine PW.block_ret ?_ | refine Cut.ret ?_ | refine Rnd.ret ?_ | refine PW.block_normal ?_ | refine CW.exit ?_ | refine PW.then_exit ?_ | refine PW.block_hit ?_ | refine PW.block_miss rfl ?_ | refine Cut.exit ?_ | refine Rnd.exit ?_)
      refine CW.cond_true rfl ?_
      repeat (first | refine CW.seq ?_ | refine PW.then_ ?_ | refine CW.block ?_ | refine CW.skip ?_ | refine CW.ret ?_ | refine PW.then_ret ?_ | refine PW.block_ret ?_ | refine Cut.ret ?_ | refine Rnd.ret ?_ | refine PW.block_normal ?_ | refine CW.exit ?_ | refine PW.then_exit ?_ | refine PW.block_hit ?_ | refine PW.block_miss rfl ?_ | refine Cut.exit ?_ | refine Rnd.exit ?_)
      refine CW.region ?_
      refine L1 (ps_move rfl).os ?_
      refine L1 (ps_assign rfl).os ?_
      refine LW.nil ?_
      repeat (first | refine CW.seq ?_ | refine PW.then_ ?_ | refine CW.block ?_ | refine CW.skip ?_ | refine CW.ret ?_ | refine PW.then_ret ?_ | refine PW.block_ret ?_ | refine Cut.ret ?_ | refine Rnd.ret ?_ | refine PW.block_normal ?_ | refine CW.exit ?_ | refine PW.then_exit ?_ | refine PW.block_hit ?_ | refine PW.block_miss rfl ?_ | refine Cut.exit ?_ | refine Rnd.exit ?_)
      refine CW.region ?_
      refine L1 (ps_move rfl).os ?_
      refine L1 (ps_ia_arr T.un44 T.sz43 rfl rfl (by omega) (by omega)).os ?_
      refine L1 (os_loadN (b := M) (vs := bv (st2.cur kk 0)) (by repeat (first | exact pk_head _ _ | apply pk_tail)) T.ag43 T.sz43 rfl hrow0 hcb0) ?_
      refine LE (os_alloc T.ti43) ?_
      rintro _ _ ⟨b21, rfl, rfl⟩
      refine L1 (os_storeAll (b := b21) (vs := bv (st2.cur kk 0)) (by repeat (first | exact pk_head _ _ | apply pk_tail)) (by rw [hcb0]; exact T.sz43) rfl rfl (bv_one _) (by rw [hcb0]; rfl)) ?_
      refine LW.nil ?_
      repeat (first | refine CW.seq ?_ | refine PW.then_ ?_ | refine CW.block ?_ | refine CW.skip ?_ | refine CW.ret ?_ | refine PW.then_ret ?_ | refine PW.block_ret ?_ | refine Cut.ret ?_ | refine Rnd.ret ?_ | refine PW.block_normal ?_ | refine CW.exit ?_ | refine PW.then_exit ?_ | refine PW.block_hit ?_ | refine PW.block_miss rfl ?_ | refine Cut.exit ?_ | refine Rnd.exit ?_)
      refine CW.region ?_
      refine L1 (ps_move rfl).os ?_
      refine L1 (ps_len_sl T.un22 rfl).os ?_
      refine L1 (ps_move rfl).os ?_
      refine LW.nil ?_
      repeat (first | refine CW.seq ?_ | refine PW.then_ ?_ | refine CW.block ?_ | refine CW.skip ?_ | refine CW.ret ?_ | refine PW.then_ret ?_ | refine PW.block_ret ?_ | refine Cut.ret ?_ | refine Rnd.ret ?_ | refine PW.block_normal ?_ | refine CW.exit ?_ | refine PW.then_exit ?_ | refine PW.block_hit ?_ | refine PW.block_miss rfl ?_ | refine Cut.exit ?_ | refine Rnd.exit ?_)
      refine CW.loopM (α := Nat) [23, 199, 200, 201, 202, 203, 204, 205, 206, 207, 208, 209, 210, 211] (fun k j => j ≤ w2.length ∧ k = w2.length - j) (fun j => [(199, .int .i64 j)])
        (fun j => cb b21 43 (bv (st2.cur kk j)) :: DiskAt p st2 :: cb M 44 (st2.data.map bv).flatten :: slOwn 29 6 (.slice q2 w2.length d2) w2.length (w2.map callCells).flatten :: bag (blks W) :: F) w2.length 0 ⟨Nat.zero_le _, rfl⟩ ⟨rfl, trivial⟩ (by repeat (first | exact Ent.refl _ | (apply Ent.cons; · repeat (first | exact pk_head _ _ | apply pk_tail)) | apply Ent.skip)) ?_
      rintro k3 j g8 ⟨hj, hk3⟩
      repeat (first | refine CW.seq ?_ | refine PW.then_ ?_ | refine CW.block ?_ | refine CW.skip ?_ | refine CW.ret ?_ | refine PW.then_ret ?_ | refine PW.block_ret ?_ | refine Cut.ret ?_ | refine Rnd.ret ?_ | refine PW.block_normal ?_ | refine CW.exit ?_ | refine PW.then_exit ?_ | refine PW.block_hit ?_ | refine PW.block_miss rfl ?_ | refine Cut.exit ?_ | refine Rnd.exit ?_)
      by_cases hjt : j < w2.length
      · have hcs := DS.cur_succ st2 kk j (by omega)
        have hcbj : (bv (st2.cur kk j)).length = 64 := by rw [length_bv, hcl]
        refine CW.region ?_
        refine L1 (ps_t (ps_lss rfl rfl) (by omega)).os ?_
        refine LW.nil ?_
        refine PW.then_ (CW.seq ?_)
        refine CW.cond_true rfl ?_
        refine CW.skip (PW.then_ ?_)
        refine CW.cutM (α := Unit) [23, 201, 202, 203, 204, 205, 206, 207, 208, 209, 210] (fun _ => True) (fun _ => [])
          (fun _ => cb b21 43 (bv (st2.cur kk (j + 1))) :: DiskAt p st2 :: cb M 44 (st2.data.map bv).flatten :: slOwn 29 6 (.slice q2 w2.length d2) w2.length (w2.map callCells).flatten :: bag (blks W) :: F) ?_ ?_
        · repeat (first | refine CW.seq ?_ | refine PW.then_ ?_ | refine CW.block ?_ | refine CW.skip ?_ | refine CW.ret ?_ | refine PW.then_ret ?_ | refine PW.block_ret ?_ | refine Cut.ret ?_ | refine Rnd.ret ?_ | refine PW.block_normal ?_ | refine CW.exit ?_ | refine PW.then_exit ?_ | refine PW.block_hit ?_ | refine PW.block_miss rfl ?_ | refine Cut.exit ?_ | refine Rnd.exit ?_)
          refine slOwn_open (by repeat (first | exact pk_head _ _ | apply pk_tail)) (fun _ h0 _ => absurd hjt (by omega)) ?_
          rintro gg cap cur hv' hmc hcmx hcl2 htk hxl
          have hsv : Value.slice q2 w2.length d2 = .slice (some ⟨gg, 0, none⟩) w2.length cap := hv'
          have hrow := row_of htk hjt
          have h5 := call_has w2[j] (hs2.ws w2[j] (List.getElem_mem hjt))
          have hcl' := h5.1
          have hwf := h5.2.1
          have hde := h5.2.2.1
          have hle := h5.2.2.2.1
          have hone' := h5.2.2.2.2
          have hwj : st2.wait[j]'(by omega) = wFull w2[j] := by simp [hs2.wait]
          rw [hwj, hwf] at hcs
          rw [hcl'] at hrow
          dsimp only at hcs
          have hp64 := length_pad hle
          have hbv64 : (bv (pad 64 w2[j].data)).length = 64 := by rw [length_bv, hp64]
          refine CW.region ?_
          refine L1 (ps_ia_slice (b := gg) (o := 0) (len := w2.length) (cap := cap) (j := (j : Int)) T.un22 T.sz29 (by exact hsv) rfl (by omega) (by omega)).os ?_
          refine L1 (os_loadN (b := gg) (vs := cCells w2[j]) (by repeat (first | exact pk_head _ _ | apply pk_tail)) T.ag29 T.sz29 rfl hrow rfl) ?_
          refine LE (os_alloc T.ti29) ?_
          rintro _ _ ⟨b23, rfl, rfl⟩
          refine L1 (os_storeAll (b := b23) (vs := cCells w2[j]) (by repeat (first | exact pk_head _ _ | apply pk_tail)) T.sz29 rfl rfl hone' (by rfl)) ?_
          refine LW.nil ?_
          repeat (first | refine CW.seq ?_ | refine PW.then_ ?_ | refine CW.block ?_ | refine CW.skip ?_ | refine CW.ret ?_ | refine PW.then_ret ?_ | refine PW.block_ret ?_ | refine Cut.ret ?_ | refine Rnd.ret ?_ | refine PW.block_normal ?_ | refine CW.exit ?_ | refine PW.then_exit ?_ | refine PW.block_hit ?_ | refine PW.block_miss rfl ?_ | refine Cut.exit ?_ | refine Rnd.exit ?_)
          by_cases hak : w2[j].at_.toNat = kk
          · rw [if_pos hak] at hcs
            refine CW.region ?_
            refine L1 (ps_fa T.fa29_1 (by decide) rfl).os ?_
            refine L1 (os_load1 (by repeat (first | exact pk_head _ _ | apply pk_tail)) T.ag3 rfl (by rfl)) ?_
            refine L1 (ps_move rfl).os ?_
            refine L1 (ps_t (ps_eql rfl rfl) (by exact_mod_cast hak)).os ?_
            refine LW.nil ?_
            repeat (first | refine CW.seq ?_ | refine PW.then_ ?_ | refine CW.block ?_ | refine CW.skip ?_ | refine CW.ret ?_ | refine PW.then_ret ?_ | refine PW.block_ret ?_ | refine Cut.ret ?_ | refine Rnd.ret ?_ | refine PW.block_normal ?_ | refine CW.exit ?_ | refine PW.then_exit ?_ | refine PW.block_hit ?_ | refine PW.block_miss rfl ?_ | refine Cut.exit ?_ | refine Rnd.exit ?_)
            refine CW.cond_true rfl ?_
            refine CW.region ?_
            refine L1 (ps_move rfl).os ?_
            refine L1 (ps_fa T.fa29_2 (by decide) rfl).os ?_
            refine L1 (os_load1 (by repeat (first | exact pk_head _ _ | apply pk_tail)) T.ag27 rfl (by rfl)) ?_
            refine LE (os_callv (full_spec (bag (blks W)) (.slice (ptrOf w2[j].dv) w2[j].data.length (capOf w2[j].dv)) w2[j].data hde hle) Try.func27 (by decide +kernel) rfl rfl rfl (by repeat (first | exact pk_head _ _ | apply pk_tail))) ?_
            rintro _ _ ⟨_, ⟨rfl, rfl⟩, rfl⟩
            refine L1 (os_storeAll (b := b21) (vs := bv (pad 64 w2[j].data)) (by repeat (first | exact pk_head _ _ | apply pk_tail)) (by rw [hbv64]; exact T.sz43) rfl rfl (bv_one _) (by rw [hbv64, hcbj])) ?_
            refine LW.nil ?_
            repeat (first | refine CW.seq ?_ | refine PW.then_ ?_ | refine CW.block ?_ | refine CW.skip ?_ | refine CW.ret ?_ | refine PW.then_ret ?_ | refine PW.block_ret ?_ | refine Cut.ret ?_ | refine Rnd.ret ?_ | refine PW.block_normal ?_ | refine CW.exit ?_ | refine PW.then_exit ?_ | refine PW.block_hit ?_ | refine PW.block_miss rfl ?_ | refine Cut.exit ?_ | refine Rnd.exit ?_)
            refine Meet.cut () trivial (by repeat (first | (with_reducible exact Ag.refl _ _) | (with_reducible apply Ag.pu0) | ((with_reducible refine Ag.pu _ ?_ ?_); · exact rfl) | ((with_reducible refine Ag.mix ?_ ?_); · exact rfl) | ((with_reducible refine Ag.pus ?_ ?_); · exact rfl))) trivial ?_
            rw [hcs, hsv]
            exact Ent.cons (by repeat (first | exact pk_head _ _ | apply pk_tail)) ((Ent.perm (Bs := cb gg _ cur :: _) (by repeat (first | exact pk_head _ _ | apply pk_tail))).trans ((Ent.slMk hmc hcmx hcl2 htk _).trans (by repeat (first | exact Ent.refl _ | (apply Ent.cons; · repeat (first | exact pk_head _ _ | apply pk_tail)) | apply Ent.skip))))
          · rw [if_neg hak] at hcs
            refine CW.region ?_
            refine L1 (ps_fa T.fa29_1 (by decide) rfl).os ?_
            refine L1 (os_load1 (by repeat (first | exact pk_head _ _ | apply pk_tail)) T.ag3 rfl (by rfl)) ?_
            refine L1 (ps_move rfl).os ?_
            refine L1 (ps_f (ps_eql rfl rfl) (by exact_mod_cast hak)).os ?_
            refine LW.nil ?_
            repeat (first | refine CW.seq ?_ | refine PW.then_ ?_ | refine CW.block ?_ | refine CW.skip ?_ | refine CW.ret ?_ | refine PW.then_ret ?_ | refine PW.block_ret ?_ | refine Cut.ret ?_ | refine Rnd.ret ?_ | refine PW.block_normal ?_ | refine CW.exit ?_ | refine PW.then_exit ?_ | refine PW.block_hit ?_ | refine PW.block_miss rfl ?_ | refine Cut.exit ?_ | refine Rnd.exit ?_)
            refine CW.cond_false rfl ?_
            repeat (first | refine CW.seq ?_ | refine PW.then_ ?_ | refine CW.block ?_ | refine CW.skip ?_ | refine CW.ret ?_ | refine PW.then_ret ?_ | refine PW.block_ret ?_ | refine Cut.ret ?_ | refine Rnd.ret ?_ | refine PW.block_normal ?_ | refine CW.exit ?_ | refine PW.then_exit ?_ | refine PW.block_hit ?_ | refine PW.block_miss rfl ?_ | refine Cut.exit ?_ | refine Rnd.exit ?_)
            refine Meet.cut () trivial (by repeat (first | (with_reducible exact Ag.refl _ _) | (with_reducible apply Ag.pu0) | ((with_reducible refine Ag.pu _ ?_ ?_); · exact rfl) | ((with_reducible refine Ag.mix ?_ ?_); · exact rfl) | ((with_reducible refine Ag.pus ?_ ?_); · exact rfl))) trivial ?_
            rw [hcs, hsv]
            exact Ent.cons (by repeat (first | exact pk_head _ _ | apply pk_tail)) ((Ent.perm (Bs := cb gg _ cur :: _) (by repeat (first | exact pk_head _ _ | apply pk_tail))).trans ((Ent.slMk hmc hcmx hcl2 htk _).trans (by repeat (first | exact Ent.refl _ | (apply Ent.cons; · repeat (first | exact pk_head _ _ | apply pk_tail)) | apply Ent.skip))))
        intro _ g9 _
        refine CW.region ?_
        refine L1 (ps_add_i64 rfl rfl (by omega) (by omega)).os ?_
        refine L1 (ps_move rfl).os ?_
        refine LW.nil ?_
        exact Meet.round (w2.length - (j + 1)) (j + 1) (by omega) ⟨hjt, rfl⟩ (by repeat (first | (with_reducible exact Ag.refl _ _) | (with_reducible apply Ag.pu0) | ((with_reducible refine Ag.pu _ ?_ ?_); · exact rfl) | ((with_reducible refine Ag.mix ?_ ?_); · exact rfl) | ((with_reducible refine Ag.pus ?_ ?_); · exact rfl))) ⟨rfl, trivial⟩ (by repeat (first | exact Ent.refl _ | (apply Ent.cons; · repeat (first | exact pk_head _ _ | apply pk_tail)) | apply Ent.skip))
      · have hjw : j = w2.length := by omega
        subst hjw
        have hcb : (st2.cur kk w2.length).length = 64 := hcl _
        have hp1 : ((bv (st2.cur kk w2.length)).drop 0).take (bv (st2.cur kk w2.length)).length = bv (st2.cur kk w2.length) := by rw [List.drop_zero, List.take_length]
        refine CW.region ?_
        refine L1 (ps_f (ps_lss rfl rfl) (by omega)).os ?_
        refine LW.nil ?_
        repeat (first | refine CW.seq ?_ | refine PW.then_ ?_ | refine CW.block ?_ | refine CW.skip ?_ | refine CW.ret ?_ | refine PW.then_ret ?_ | refine PW.block_ret ?_ | refine Cut.ret ?_ | refine Rnd.ret ?_ | refine PW.block_normal ?_ | refine CW.exit ?_ | refine PW.then_exit ?_ | refine PW.block_hit ?_ | refine PW.block_miss rfl ?_ | refine Cut.exit ?_ | refine Rnd.exit ?_)
        refine CW.cond_false rfl ?_
        repeat (first | refine CW.seq ?_ | refine PW.then_ ?_ | refine CW.block ?_ | refine CW.skip ?_ | refine CW.ret ?_ | refine PW.then_ret ?_ | refine PW.block_ret ?_ | refine Cut.ret ?_ | refine Rnd.ret ?_ | refine PW.block_normal ?_ | refine CW.exit ?_ | refine PW.then_exit ?_ | refine PW.block_hit ?_ | refine PW.block_miss rfl ?_ | refine Cut.exit ?_ | refine Rnd.exit ?_)
        refine CW.region ?_
        refine L1 (ps_move rfl).os ?_
        refine L1 (ps_move rfl).os ?_
        refine LE (os_call hrd Try.func20 (by decide +kernel) rfl rfl (by repeat (first | exact pk_head _ _ | apply pk_tail))) ?_
        rintro _ _ ⟨_, ⟨bx, rfl, rfl⟩, rfl⟩
        refine L1 (ps_move rfl).os ?_
        refine L1 (ps_extract rfl rfl).os ?_
        refine L1 (ps_extract rfl rfl).os ?_
        refine L1 (ps_assign rfl).os ?_
        refine L1 (ps_assign rfl).os ?_
        refine LW.nil ?_
        refine PW.then_ ?_
        refine CW.cutM (α := Unit) [218, 219, 220, 221, 222, 223, 224, 225, 226] (fun _ => True) (fun _ => [(226, .bool false)])
          (fun _ => DiskAt p st2 :: cb M 44 (st2.data.map bv).flatten :: slOwn 29 6 (.slice q2 w2.length d2) w2.length (w2.map callCells).flatten :: bag (blks W) :: F) ?_ ?_
        · refine CW.draw T.mixed ?_
          refine A_take (i := 0) (some 218) rfl rfl (by kernel_rfl) (by kernel_rfl) (by kernel_rfl) rfl (ps_move rfl) ?_
          refine A_take (i := 1) (some 219) rfl rfl (by kernel_rfl) (by kernel_rfl) (by kernel_rfl) rfl (ps_f (ps_neq rfl rfl) (fun h => h rfl)) ?_
          refine A_take (i := 2) (some 220) rfl rfl (by kernel_rfl) (by kernel_rfl) (by kernel_rfl) rfl (ps_move rfl) ?_
          refine A_take (i := 3) (some 221) rfl rfl (by kernel_rfl) (by kernel_rfl) (by kernel_rfl) rfl (ps_move rfl) ?_
          refine A_take (i := 5) (some 223) rfl rfl (by kernel_rfl) (by kernel_rfl) (by kernel_rfl) rfl (ps_as_all T.un43 T.sz5 rfl) ?_
          refine A_branch (rs := [4, 6]) (by kernel_rfl) (by simp) ?_
          refine AR.cons1 (i := 4) (some 222) rfl rfl rfl (os_str (st2.cur kk w2.length) T.un27 T.un5 T.un9 rfl hcb (Src.cb (b := bx) (by repeat (first | exact pk_head _ _ | apply pk_tail)) hp1)) ?_ ?_
          · skip
            refine A_branch (rs := [6]) (by kernel_rfl) (by simp) ?_
            refine AR.cons1 (i := 6) (some 224) rfl rfl rfl (os_str (st2.cur kk w2.length) T.un27 T.un5 T.un9 rfl hcb (Src.cb (b := b21) (by repeat (first | exact pk_head _ _ | apply pk_tail)) hp1)) ?_ ?_
            · skip
              refine A_take (i := 7) (some 225) rfl rfl (by kernel_rfl) (by kernel_rfl) (by kernel_rfl) rfl (ps_f (ps_strV_neq _ _ rfl rfl) (fun h => h rfl)) ?_
              refine A_take (i := 8) (some 226) rfl rfl (by kernel_rfl) (by kernel_rfl) (by kernel_rfl) rfl (ps_pick_f rfl rfl) ?_
              refine A_done (by kernel_rfl) ?_
              exact Meet.cut () trivial (by repeat (first | (with_reducible exact Ag.refl _ _) | (with_reducible apply Ag.pu0) | ((with_reducible refine Ag.pu _ ?_ ?_); · exact rfl) | ((with_reducible refine Ag.mix ?_ ?_); · exact rfl) | ((with_reducible refine Ag.pus ?_ ?_); · exact rfl))) ⟨rfl, trivial⟩ (by repeat (first | exact Ent.refl _ | (apply Ent.cons; · repeat (first | exact pk_head _ _ | apply pk_tail)) | apply Ent.skip))
            exact AR.nil
          refine AR.cons1 (i := 6) (some 224) rfl rfl rfl (os_str (st2.cur kk w2.length) T.un27 T.un5 T.un9 rfl hcb (Src.cb (b := b21) (by repeat (first | exact pk_head _ _ | apply pk_tail)) hp1)) ?_ ?_
          · skip
            refine A_branch (rs := [4]) (by kernel_rfl) (by simp) ?_
            refine AR.cons1 (i := 4) (some 222) rfl rfl rfl (os_str (st2.cur kk w2.length) T.un27 T.un5 T.un9 rfl hcb (Src.cb (b := bx) (by repeat (first | exact pk_head _ _ | apply pk_tail)) hp1)) ?_ ?_
            · skip
              refine A_take (i := 7) (some 225) rfl rfl (by kernel_rfl) (by kernel_rfl) (by kernel_rfl) rfl (ps_f (ps_strV_neq _ _ rfl rfl) (fun h => h rfl)) ?_
              refine A_take (i := 8) (some 226) rfl rfl (by kernel_rfl) (by kernel_rfl) (by kernel_rfl) rfl (ps_pick_f rfl rfl) ?_
              refine A_done (by kernel_rfl) ?_
              exact Meet.cut () trivial (by repeat (first | (with_reducible exact Ag.refl _ _) | (with_reducible apply Ag.pu0) | ((with_reducible refine Ag.pu _ ?_ ?_); · exact rfl) | ((with_reducible refine Ag.mix ?_ ?_); · exact rfl) | ((with_reducible refine Ag.pus ?_ ?_); · exact rfl))) ⟨rfl, trivial⟩ (by repeat (first | exact Ent.refl _ | (apply Ent.cons; · repeat (first | exact pk_head _ _ | apply pk_tail)) | apply Ent.skip))
            exact AR.nil
          exact AR.nil
        intro _ g10 _
        refine CW.cond_false rfl ?_
        repeat (first | refine CW.seq ?_ | refine PW.then_ ?_ | refine CW.block ?_ | refine CW.skip ?_ | refine CW.ret ?_ | refine PW.then_ret ?_ | refine PW.block_ret ?_ | refine Cut.ret ?_ | refine Rnd.ret ?_ | refine PW.block_normal ?_ | refine CW.exit ?_ | refine PW.then_exit ?_ | refine PW.block_hit ?_ | refine PW.block_miss rfl ?_ | refine Cut.exit ?_ | refine Rnd.exit ?_)
        refine CW.region ?_
        refine L1 (ps_add_i64 rfl rfl (by omega) (by omega)).os ?_
        refine L1 (ps_move rfl).os ?_
        refine LW.nil ?_
        exact Meet.round (6 - (kk + 1)) (kk + 1) (by omega) ⟨hkt, rfl⟩ (by repeat (first | (with_reducible exact Ag.refl _ _) | (with_reducible apply Ag.pu0) | ((with_reducible refine Ag.pu _ ?_ ?_); · exact rfl) | ((with_reducible refine Ag.mix ?_ ?_); · exact rfl) | ((with_reducible refine Ag.pus ?_ ?_); · exact rfl))) ⟨rfl, trivial⟩ (by repeat (first | exact Ent.refl _ | (apply Ent.cons; · repeat (first | exact pk_head _ _ | apply pk_tail)) | apply Ent.skip))
    · refine CW.region ?_
      refine L1 (ps_f (ps_lss rfl rfl) (by omega)).os ?_
      refine LW.nil ?_
      repeat (first | refine CW.seq ?_ | refine PW.then_ ?_ | refine CW.block ?_ | refine CW.skip ?_ | refine CW.ret ?_ | refine PW.then_ret ?_ | refine PW.block_ret ?_ | refine Cut.ret ?_ | refine Rnd.ret ?_ | refine PW.block_normal ?_ | refine CW.exit ?_ | refine PW.then_exit ?_ | refine PW.block_hit ?_ | refine PW.block_miss rfl ?_ | refine Cut.exit ?_ | refine Rnd.exit ?_)
      refine CW.cond_false rfl ?_
      repeat (first | refine CW.seq ?_ | refine PW.then_ ?_ | refine CW.block ?_ | refine CW.skip ?_ | refine CW.ret ?_ | refine PW.then_ret ?_ | refine PW.block_ret ?_ | refine Cut.ret ?_ | refine Rnd.ret ?_ | refine PW.block_normal ?_ | refine CW.exit ?_ | refine PW.then_exit ?_ | refine PW.block_hit ?_ | refine PW.block_miss rfl ?_ | refine Cut.exit ?_ | refine Rnd.exit ?_)
      refine CW.region ?_
      refine L1 (ps_add_i64 rfl rfl (by omega) (by omega)).os ?_
      refine L1 (ps_move rfl).os ?_
      refine LW.nil ?_
      exact Meet.round (l.length - (i + 1)) (i + 1, q2, d2, w2, st2) (by omega) ⟨hlt, rfl, hs2⟩ (by repeat (first | (with_reducible exact Ag.refl _ _) | (with_reducible apply Ag.pu0) | ((with_reducible refine Ag.pu _ ?_ ?_); · exact rfl) | ((with_reducible refine Ag.mix ?_ ?_); · exact rfl) | ((with_reducible refine Ag.pus ?_ ?_); · exact rfl))) ⟨rfl, rfl, rfl, rfl, trivial⟩ (by repeat (first | exact Ent.refl _ | (apply Ent.cons; · repeat (first | exact pk_head _ _ | apply pk_tail)) | apply Ent.skip))
  · have hb1 := Read_bad p st 6 (.inr (by rw [hs.dl]; decide))
    have hb2 := Read_bad p st (-1) (.inl (by decide))
    refine CW.region ?_
    refine L1 (ps_f (ps_lss rfl rfl) (by omega)).os ?_
    refine LW.nil ?_
    repeat (first | refine CW.seq ?_ | refine PW.then_ ?_ | refine CW.block ?_ | refine CW.skip ?_ | refine CW.ret ?_ | refine PW.then_ret ?_ | refine PW.block_ret ?_ | refine Cut.ret ?_ | refine Rnd.ret ?_ | refine PW.block_normal ?_ | refine CW.exit ?_ | refine PW.then_exit ?_ | refine PW.block_hit ?_ | refine PW.block_miss rfl ?_ | refine Cut.exit ?_ | refine Rnd.exit ?_)
    refine CW.cond_false rfl ?_
    repeat (first | refine CW.seq ?_ | refine PW.then_ ?_ | refine CW.block ?_ | refine CW.skip ?_ | refine CW.ret ?_ | refine PW.then_ret ?_ | refine PW.block_ret ?_ | refine Cut.ret ?_ | refine Rnd.ret ?_ | refine PW.block_normal ?_ | refine CW.exit ?_ | refine PW.then_exit ?_ | refine PW.block_hit ?_ | refine PW.block_miss rfl ?_ | refine Cut.exit ?_ | refine Rnd.exit ?_)
    refine CW.region ?_
    refine L1 (ps_move rfl).os ?_
    refine LE (os_call hb1 Try.func20 (by decide +kernel) rfl rfl (by repeat (first | exact pk_head _ _ | apply pk_tail))) ?_
    rintro _ _ ⟨_, ⟨rfl, rfl⟩, rfl⟩
    refine L1 (ps_move rfl).os ?_
    refine L1 (ps_extract rfl rfl).os ?_
    refine L1 (ps_extract rfl rfl).os ?_
    refine L1 (ps_assign rfl).os ?_
    refine L1 (ps_assign rfl).os ?_
    refine LW.nil ?_
    repeat (first | refine CW.seq ?_ | refine PW.then_ ?_ | refine CW.block ?_ | refine CW.skip ?_ | refine CW.ret ?_ | refine PW.then_ret ?_ | refine PW.block_ret ?_ | refine Cut.ret ?_ | refine Rnd.ret ?_ | refine PW.block_normal ?_ | refine CW.exit ?_ | refine PW.then_exit ?_ | refine PW.block_hit ?_ | refine PW.block_miss rfl ?_ | refine Cut.exit ?_ | refine Rnd.exit ?_)
    refine CW.region ?_
    refine L1 (ps_move rfl).os ?_
    refine LE (os_call hb2 Try.func20 (by decide +kernel) rfl rfl (by repeat (first | exact pk_head _ _ | apply pk_tail))) ?_
    rintro _ _ ⟨_, ⟨rfl, rfl⟩, rfl⟩
    refine L1 (ps_move rfl).os ?_
    refine L1 (ps_extract rfl rfl).os ?_
    refine L1 (ps_extract rfl rfl).os ?_
    refine L1 (ps_assign rfl).os ?_
    refine L1 (ps_assign rfl).os ?_
    refine LW.nil ?_
    repeat (first | refine CW.seq ?_ | refine PW.then_ ?_ | refine CW.block ?_ | refine CW.skip ?_ | refine CW.ret ?_ | refine PW.then_ret ?_ | refine PW.block_ret ?_ | refine Cut.ret ?_ | refine Rnd.ret ?_ | refine PW.block_normal ?_ | refine CW.exit ?_ | refine PW.then_exit ?_ | refine PW.block_hit ?_ | refine PW.block_miss rfl ?_ | refine Cut.exit ?_ | refine Rnd.exit ?_)
    refine CW.region ?_
    refine L1 (ps_move rfl).os ?_
    refine L1 (ps_t (ps_eql rfl rfl) (rfl)).os ?_
    refine L1 (ps_move rfl).os ?_
    refine LG1 ?_ (ps_move rfl).os ?_
    · exact rfl
    refine LG1 ?_ (ps_t (ps_eql rfl rfl) (rfl)).os ?_
    · exact rfl
    refine L1 (ps_pick_t rfl rfl).os ?_
    refine L1 (ps_assign rfl).os ?_
    refine LW.nil ?_
    repeat (first | refine CW.seq ?_ | refine PW.then_ ?_ | refine CW.block ?_ | refine CW.skip ?_ | refine CW.ret ?_ | refine PW.then_ret ?_ | refine PW.block_ret ?_ | refine Cut.ret ?_ | refine Rnd.ret ?_ | refine PW.block_normal ?_ | refine CW.exit ?_ | refine PW.then_exit ?_ | refine PW.block_hit ?_ | refine PW.block_miss rfl ?_ | refine Cut.exit ?_ | refine Rnd.exit ?_)
    exact Fin.ret1 (v := .bool true) rfl [bag (blks W)] rfl ⟨rfl, rfl⟩ (by repeat (first | exact Ent.refl _ | (apply Ent.cons; · repeat (first | exact pk_head _ _ | apply pk_tail)) | apply Ent.skip))

namespace diskRuns
open Go.ChangeShapes Go.WideShapes Go.ChangeAt Go.RowKit
theorem own : ownKnob Try.prog.godebug = none := by kernel_rfl
theorem laidOut : laidOutB Try.prog = true := by kernel_rfl
set_option maxRecDepth 100000 in
theorem lifted (os : Os) (started : os.Started) (H : Type) (enc : TypeId × Value → H) :
    ReturnsInHanded {} Try.checked os 8 .any (Rows.diskRunsSpec.pre6 enc Try.prog Try.f8 Rows.diskRunsRow.domain false) (Rows.diskRunsSpec.post enc Try.prog Try.f8 false true false false) := by
  refine returnsInHanded_of_change (C := Try.checked) own started (by kernel_rfl) Try.func8
    (ChangeSpec.witness6 (enc := enc) (C := Try.checked) false ⟨#[], #[(Value.slice none 0 0)], []⟩ 8 (by kernel_rfl) (by kernel_rfl) (by kernel_rfl) (by kernel_rfl)) ?_
  intro W base args ds gs before hval0 hW hcnd _
  have hval : ∀ (j : Nat) t v, Try.f8.params[j]? = some t → args[j]? = some v → Value.okWide Try.prog W .any base t v := hval0
  have hW' := hW
  obtain ⟨p, q, hA0, hV, rfl, hfz, hnd⟩ := hW
  have hA : DataW.TrodAll enc Try.prog W 0 (fun _ => true) true Try.f8.params.toList args.toList ds p := hA0
  rw [Try.params8] at hA hval
  obtain ⟨v0, vs0, d0, ds0, p0, q0, hargs, rfl, rfl, h0, r0⟩ := trodAll_cons hA
  obtain ⟨rfl, rfl, rfl⟩ := trodAll_nil r0
  obtain rfl : args = #[v0] := by cases args; simp_all
  obtain ⟨rfl, rfl⟩ := trodVars_none hV
  obtain ⟨_, _, _, rfl⟩ := okWide_slice T.un22 (hval 0 22 v0 rfl rfl)
  obtain ⟨fu0, hf0⟩ := h0
  obtain ⟨a0, b0⟩ := open_Slpaciolilaw04Call hf0
  simp only [List.append_nil] at hW'
  refine (LawOf.calls (DiskRuns_law W _ a0 b0)).mono fun e W' ⟨he, hb⟩ => ?_
  subst he
  exact ⟨_, rfl, law_post laidOut rfl (tb := 4) (by kernel_rfl) T.un4 (by intro t ht; rw [Try.params8] at ht; simp only [List.mem_cons, List.not_mem_nil, or_false] at ht; rcases ht with rfl <;> exact ⟨by kernel_rfl, by decide +kernel⟩) rfl hW' hb⟩
theorem holds : Rows.DiskRunsSaid :=
  OpenClaim.holds_of_wide 8 Try.f8 rfl rfl rfl rfl rfl rfl rfl ⟨rfl, rfl, rfl, rfl, rfl⟩ rfl rfl rfl rfl rfl (by kernel_rfl) Try.func8 (by kernel_rfl)
    (of_decide_eq_true (by kernel_rfl)) (by unfold Func.isWrapper; rw [if_neg (of_decide_eq_false (by kernel_rfl))]; exact ⟨rfl, rfl⟩)
    (fun os started H enc _ => lifted os started H enc)
end diskRuns

end Go.Proofs.Ytejbbpofamfhiaa
