/- What the log's laws share: their anchor, fresh disks, one append, their arguments. -/
import Derived.Test.YtejbbpofamfhiaaWalQ
import Derived.SizedLaws
namespace Go.Proofs.Ytejbbpofamfhiaa
set_option linter.unusedVariables false
set_option linter.unusedSimpArgs false
open Go Go.SL

theorem agmix {W : List Nat} {g F f0 : Nat → Value} (h : SL.mix W g F = f0) : Ag W f0 F := fun t ht => by
  subst h
  show cond (W.any (Nat.beq t)) (g t) (F t) = F t
  rw [ht]; rfl
theorem LogD.stamp {st : DS} {rs : Rs} {B : Nat} (h : LogD st rs) (hB : ∀ r ∈ rs, r.1 ≤ B) : stampMax st.data ≤ B := by
  refine stampMax_le fun a ha => ?_
  have hl := encAll_len 1 rs
  rcases Nat.lt_or_ge a (endR rs) with h1 | h1
  · have e := h.log.enc
    generalize st.data.length - endOf (rs.map (·.2)) = k at e
    rw [e, getD_app, if_pos (by rw [hl]; exact h1)]
    exact stamp_enc rs 1 a (fun r hr => ⟨h.log.good r hr, hB r hr⟩) (by rw [hl]; exact h1)
  · rw [h.log.zero a h1 ha]; exact stamp_Z B
theorem new_log {n : Nat} (h : n ≤ 4096) : LogD (DS.new n) [] ∧ (DS.new n).armed = false ∧ (DS.new n).data.length = n ∧ (DS.new n).count = 0 ∧ (DS.new n).left = 0 := by
  have hl : (DS.new n).data.length = n := by simp [DS.new]
  exact ⟨⟨DS.new_ok h, rfl, Log.nil (by rw [hl]; rfl), by simp, by simp [DS.new], by simp [DS.new]⟩, rfl, hl, rfl, rfl⟩
theorem crash_clean {st : DS} {rs : Rs} (h : LogD st rs) (mask : Nat) (torn cut : Int) : LogD (st.crash mask torn cut) rs ∧ (st.crash mask torn cut).armed = false ∧ (st.crash mask torn cut).data = st.data ∧ (st.crash mask torn cut).count = st.count ∧ (st.crash mask torn cut).left = st.left := by
  have hd : (st.crash mask torn cut).data = st.data := by
    show crashTo mask torn cut st.wait st.data = _
    rw [h.wait]; rfl
  exact ⟨⟨DS.crash_ok h.ok mask torn cut, rfl, by rw [hd]; exact h.log, h.num, h.cnt, h.lft⟩, rfl, hd, rfl, rfl⟩
/-- One record more, on a disk with room that isn't armed. -/
theorem Append_one (s : Nat) (st : DS) (rs : Rs) (b : List UInt8) (hl : b.length ≤ 4096) (h : LogD st rs) (hs : s + 1 ≤ 4000000000) (hn : rs.length < 100000) (hc : st.count ≤ 9000000) (hf : endR rs + sz b.length ≤ st.data.length) (ha : st.armed = false) :
    ∃ st', LogD st' (rs ++ [(s + 1, b)]) ∧ st'.armed = false ∧ st'.data.length = st.data.length ∧ st'.count = st.count + (sz b.length : Nat) ∧ st'.left = st.left ∧ ∀ w p A v, ByR A v b →
      FSpec Try.prog 30 [ptr w, v] [cb w 83 (walC p (endR rs) rs.length s), DiskAt p st, A] (fun r As => r = .int .i64 0 ∧ As = [cb w 83 (walC p (endR (rs ++ [(s + 1, b)])) (rs ++ [(s + 1, b)]).length (s + 1)), DiskAt p st', A]) := by
  obtain ⟨h1, h2, h3, h4, h5⟩ := appD_log (s := s) h hl (by unfold G32; omega) hn hf hc (Or.inl ha)
  refine ⟨appD st rs s b, h1, by rw [h2, ha], h3, h4, by rw [h5, ha]; rfl, fun w p A v hb => ?_⟩
  have := Append_go w p s st rs A v b hb hl h (by omega) hf (Or.inl ha)
  have e1 : endR (rs ++ [(s + 1, b)]) = endR rs + sz b.length := endOf_snoc rs (s + 1) b
  have e2 : (rs ++ [(s + 1, b)]).length = rs.length + 1 := by simp
  rw [e1, e2]
  exact this
theorem endR_snoc (rs : Rs) (s : Nat) (b : List UInt8) : endR (rs ++ [(s, b)]) = endR rs + sz b.length := endOf_snoc rs s b
theorem sz_le {n m : Nat} (h : n ≤ m) : sz n ≤ sz m := by unfold sz; exact Nat.div_le_div_right (by omega)
theorem WLen_spec (w p E n s : Nat) : FSpec Try.prog 33 [ptr w] [cb w 83 (walC p E n s)] (fun v As => v = .int .i64 (n : Nat) ∧ As = [cb w 83 (walC p E n s)]) := by
  refine FSpec.intro Try.func33 rfl 7 Try.ntmps33 (Nat.le_of_ble_eq_true rfl) fun w0 F => ?_
  show CW _ _ _ _ _ _ (_ :: F)
  repeat (first | refine CW.seq ?_ | refine PW.then_ ?_ | refine PW.then_to rfl ?_ | refine CW.block ?_ | refine CW.skip ?_ | refine CW.ret ?_ | refine PW.then_ret ?_ | refine PW.block_ret ?_ | refine Cut.ret ?_ | refine Rnd.ret ?_ | refine PW.block_normal ?_ | refine CW.exit ?_ | refine PW.then_exit ?_ | refine PW.block_hit ?_ | refine PW.block_miss rfl ?_ | refine Cut.exit ?_ | refine Rnd.exit ?_ | refine CW.scope ?_ | refine CW.label ?_ | refine PW.scope_normal ?_ | refine PW.scope_ret ?_ | refine PW.scope_exit ?_)
  refine CW.region ?_
  refine L1 (ps_assign rfl).os ?_
  refine LW.nil ?_
  repeat (first | refine CW.seq ?_ | refine PW.then_ ?_ | refine PW.then_to rfl ?_ | refine CW.block ?_ | refine CW.skip ?_ | refine CW.ret ?_ | refine PW.then_ret ?_ | refine PW.block_ret ?_ | refine Cut.ret ?_ | refine Rnd.ret ?_ | refine PW.block_normal ?_ | refine CW.exit ?_ | refine PW.then_exit ?_ | refine PW.block_hit ?_ | refine PW.block_miss rfl ?_ | refine Cut.exit ?_ | refine Rnd.exit ?_ | refine CW.scope ?_ | refine CW.label ?_ | refine PW.scope_normal ?_ | refine PW.scope_ret ?_ | refine PW.scope_exit ?_)
  refine CW.region ?_
  refine L1 (ps_move rfl).os ?_
  refine L1 (ps_nil rfl).os ?_
  refine L1 (ps_fa T.fa83_2 (by decide) rfl).os ?_
  refine L1 (os_load1 (b := w) (v := .int .i64 (n : Nat)) (by repeat (first | exact pk_head _ _ | apply pk_tail)) T.ag3 rfl rfl) ?_
  refine L1 (ps_assign rfl).os ?_
  refine LW.nil ?_
  repeat (first | refine CW.seq ?_ | refine PW.then_ ?_ | refine PW.then_to rfl ?_ | refine CW.block ?_ | refine CW.skip ?_ | refine CW.ret ?_ | refine PW.then_ret ?_ | refine PW.block_ret ?_ | refine Cut.ret ?_ | refine Rnd.ret ?_ | refine PW.block_normal ?_ | refine CW.exit ?_ | refine PW.then_exit ?_ | refine PW.block_hit ?_ | refine PW.block_miss rfl ?_ | refine Cut.exit ?_ | refine Rnd.exit ?_ | refine CW.scope ?_ | refine CW.label ?_ | refine PW.scope_normal ?_ | refine PW.scope_ret ?_ | refine PW.scope_exit ?_)
  exact Fin.ret1 (v := .int .i64 (n : Nat)) rfl [_] rfl ⟨rfl, rfl⟩ (by repeat (first | exact Ent.refl _ | (apply Ent.cons; · repeat (first | exact pk_head _ _ | apply pk_tail)) | apply Ent.skip))
theorem WEnd_spec (w p E n s : Nat) : FSpec Try.prog 32 [ptr w] [cb w 83 (walC p E n s)] (fun v As => v = .int .i64 (E : Nat) ∧ As = [cb w 83 (walC p E n s)]) := by
  refine FSpec.intro Try.func32 rfl 7 Try.ntmps32 (Nat.le_of_ble_eq_true rfl) fun w0 F => ?_
  show CW _ _ _ _ _ _ (_ :: F)
  repeat (first | refine CW.seq ?_ | refine PW.then_ ?_ | refine PW.then_to rfl ?_ | refine CW.block ?_ | refine CW.skip ?_ | refine CW.ret ?_ | refine PW.then_ret ?_ | refine PW.block_ret ?_ | refine Cut.ret ?_ | refine Rnd.ret ?_ | refine PW.block_normal ?_ | refine CW.exit ?_ | refine PW.then_exit ?_ | refine PW.block_hit ?_ | refine PW.block_miss rfl ?_ | refine Cut.exit ?_ | refine Rnd.exit ?_ | refine CW.scope ?_ | refine CW.label ?_ | refine PW.scope_normal ?_ | refine PW.scope_ret ?_ | refine PW.scope_exit ?_)
  refine CW.region ?_
  refine L1 (ps_assign rfl).os ?_
  refine LW.nil ?_
  repeat (first | refine CW.seq ?_ | refine PW.then_ ?_ | refine PW.then_to rfl ?_ | refine CW.block ?_ | refine CW.skip ?_ | refine CW.ret ?_ | refine PW.then_ret ?_ | refine PW.block_ret ?_ | refine Cut.ret ?_ | refine Rnd.ret ?_ | refine PW.block_normal ?_ | refine CW.exit ?_ | refine PW.then_exit ?_ | refine PW.block_hit ?_ | refine PW.block_miss rfl ?_ | refine Cut.exit ?_ | refine Rnd.exit ?_ | refine CW.scope ?_ | refine CW.label ?_ | refine PW.scope_normal ?_ | refine PW.scope_ret ?_ | refine PW.scope_exit ?_)
  refine CW.region ?_
  refine L1 (ps_move rfl).os ?_
  refine L1 (ps_nil rfl).os ?_
  refine L1 (ps_fa T.fa83_1 (by decide) rfl).os ?_
  refine L1 (os_load1 (b := w) (v := .int .i64 (E : Nat)) (by repeat (first | exact pk_head _ _ | apply pk_tail)) T.ag3 rfl rfl) ?_
  refine L1 (ps_assign rfl).os ?_
  refine LW.nil ?_
  repeat (first | refine CW.seq ?_ | refine PW.then_ ?_ | refine PW.then_to rfl ?_ | refine CW.block ?_ | refine CW.skip ?_ | refine CW.ret ?_ | refine PW.then_ret ?_ | refine PW.block_ret ?_ | refine Cut.ret ?_ | refine Rnd.ret ?_ | refine PW.block_normal ?_ | refine CW.exit ?_ | refine PW.then_exit ?_ | refine PW.block_hit ?_ | refine PW.block_miss rfl ?_ | refine Cut.exit ?_ | refine Rnd.exit ?_ | refine CW.scope ?_ | refine CW.label ?_ | refine PW.scope_normal ?_ | refine PW.scope_ret ?_ | refine PW.scope_exit ?_)
  exact Fin.ret1 (v := .int .i64 (E : Nat)) rfl [_] rfl ⟨rfl, rfl⟩ (by repeat (first | exact Ent.refl _ | (apply Ent.cons; · repeat (first | exact pk_head _ _ | apply pk_tail)) | apply Ent.skip))
theorem lsize_spec (q : Option Addr) (n d : Nat) (hn : n ≤ 1000000000) : FSpec Try.prog 31 [.slice q n d] [] (fun v As => v = .int .i64 (sz n : Nat) ∧ As = []) := by
  refine FSpec.intro Try.func31 rfl 8 Try.ntmps31 (Nat.le_of_ble_eq_true rfl) fun w0 F => ?_
  show CW _ _ _ _ _ _ (F)
  repeat (first | refine CW.seq ?_ | refine PW.then_ ?_ | refine PW.then_to rfl ?_ | refine CW.block ?_ | refine CW.skip ?_ | refine CW.ret ?_ | refine PW.then_ret ?_ | refine PW.block_ret ?_ | refine Cut.ret ?_ | refine Rnd.ret ?_ | refine PW.block_normal ?_ | refine CW.exit ?_ | refine PW.then_exit ?_ | refine PW.block_hit ?_ | refine PW.block_miss rfl ?_ | refine Cut.exit ?_ | refine Rnd.exit ?_ | refine CW.scope ?_ | refine CW.label ?_ | refine PW.scope_normal ?_ | refine PW.scope_ret ?_ | refine PW.scope_exit ?_)
  refine CW.region ?_
  refine L1 (ps_assign rfl).os ?_
  refine LW.nil ?_
  repeat (first | refine CW.seq ?_ | refine PW.then_ ?_ | refine PW.then_to rfl ?_ | refine CW.block ?_ | refine CW.skip ?_ | refine CW.ret ?_ | refine PW.then_ret ?_ | refine PW.block_ret ?_ | refine Cut.ret ?_ | refine Rnd.ret ?_ | refine PW.block_normal ?_ | refine CW.exit ?_ | refine PW.then_exit ?_ | refine PW.block_hit ?_ | refine PW.block_miss rfl ?_ | refine Cut.exit ?_ | refine Rnd.exit ?_ | refine CW.scope ?_ | refine CW.label ?_ | refine PW.scope_normal ?_ | refine PW.scope_ret ?_ | refine PW.scope_exit ?_)
  refine CW.region ?_
  refine L1 (ps_move rfl).os ?_
  refine L1 (ps_len_sl T.un27 rfl).os ?_
  refine L1 (ps_add_i64 rfl rfl (by omega) (by omega)).os ?_
  refine L1 (ps_add_i64 rfl rfl (by omega) (by omega)).os ?_
  refine L1 (ps_to (u := .int .i64 (sz n : Nat)) (by unfold sz; congr 1 <;> omega) (ps_quo_i64 rfl rfl (by omega) (by omega))).os ?_
  refine L1 (ps_assign rfl).os ?_
  refine LW.nil ?_
  repeat (first | refine CW.seq ?_ | refine PW.then_ ?_ | refine PW.then_to rfl ?_ | refine CW.block ?_ | refine CW.skip ?_ | refine CW.ret ?_ | refine PW.then_ret ?_ | refine PW.block_ret ?_ | refine Cut.ret ?_ | refine Rnd.ret ?_ | refine PW.block_normal ?_ | refine CW.exit ?_ | refine PW.then_exit ?_ | refine PW.block_hit ?_ | refine PW.block_miss rfl ?_ | refine Cut.exit ?_ | refine Rnd.exit ?_ | refine CW.scope ?_ | refine CW.label ?_ | refine PW.scope_normal ?_ | refine PW.scope_ret ?_ | refine PW.scope_exit ?_)
  exact Fin.ret1 (v := .int .i64 (sz n : Nat)) rfl [] rfl ⟨rfl, rfl⟩ (by repeat (first | exact Ent.refl _ | (apply Ent.cons; · repeat (first | exact pk_head _ _ | apply pk_tail)) | apply Ent.skip))
/-- What an opened log answers: its entries, each one's bytes. -/
theorem es_one {es : WEs} {b : List UInt8} (h : es.map (·.2) = [b]) : ∃ v, es = [(v, b)] := by
  match es, h with
  | [(v, b')], h => simp only [List.map_cons, List.map_nil, List.cons.injEq, and_true] at h; exact ⟨v, by rw [h]⟩
  | [], h => simp at h
  | _ :: _ :: _, h => simp at h
theorem ByR.shape {A : Asn} {v : Value} {bs : List UInt8} (h : ByR A v bs) : ∃ q d, v = .slice q bs.length d := by
  obtain ⟨q, d, e, _⟩ := h
  exact ⟨q, d, e⟩
section
variable {P : Program} {ty : TypeId} {n : FN} {f : Nat → Value} {t e : TypeId} {x : Operand} {w0 : World} {As Bs : List Asn}
/-- A row of bytes that a constant string was turned into: marked behind its last cell. -/
def mk (b : Nat) (e : TypeId) (cs : List Value) : Asn := SL.pt b (.cells cs.toArray e (cs.length, cs.length + 1))
theorem ByR.mk {b : Nat} {e : TypeId} {bs : List UInt8} {m : Nat} (hm : bs.length = m) : ByR (mk b e (bv bs)) (.slice (some ⟨b, 0, none⟩) m m) bs := by
  subst hm
  exact ⟨_, _, rfl, Nat.le_refl _, fun As Bs hp => Src.rd hp (Rd.pt _ _) (by rw [List.drop_zero, List.take_length])⟩
theorem os_convB {b m c : Nat} {cs : List Value} (hp : As.Perm (cb b e cs :: Bs)) (ht : P.underlying t = some (.slice e)) (he : P.underlying e = some (.int .u8)) (hx : ev n f x = .slice (some ⟨b, 0, none⟩) m c) :
    OS P (.convert t t x) ty n f w0 As (Is (.slice (some ⟨b, 0, none⟩) m c) (mk b e cs :: Bs)) :=
  OS.of_run fun w hw o' ho _ => by
    have hw' := hw.perm hp
    have hg := heap_get hw'
    have hsh : w.shape? b = some (e, cs.length) := by unfold World.shape?; rw [hg]; simp
    have hlt : b < w.heap.size := by
      rcases Nat.lt_or_ge b w.heap.size with h | h
      · exact h
      · rw [Array.getElem?_eq_none h] at hg; cases hg
    have hfz : w.freeze ⟨b, cs.length, none⟩ 1 = { w with heap := w.heap.modify b fun | .cells c elem (lo, hi) => .cells c elem (if lo == hi then (cs.length, cs.length + 1) else (min lo cs.length, max hi (cs.length + 1))) | o => o } := by
      unfold World.freeze
      rw [if_neg (by decide)]
      rfl
    have hset := heap_set (w' := w.freeze ⟨b, cs.length, none⟩ 1) hw' (by rw [hfz]) (by rw [hfz]) (by rw [hfz]) (by rw [hfz]; simp) (o' := .cells cs.toArray e (cs.length, cs.length + 1)) (by
      rw [hfz]
      show (w.heap.modify b _)[b]? = _
      rw [Array.getElem?_modify, if_pos rfl, hg]; rfl) (fun k hk => by
      rw [hfz]
      show (w.heap.modify b _)[k]? = _
      rw [Array.getElem?_modify, if_neg (Ne.symm hk)])
    exact ⟨_, _, _, by simp [execOp, ho, hx, convert, run_underlying ht, run_underlying he, markStringish, hsh], ⟨rfl, rfl⟩, hset⟩
end
set_option maxHeartbeats 8000000 in
theorem fitW_spec : FSpec Try.prog 28 [] [] (fun v As => v = .bool true ∧ As = []) := by
  obtain ⟨n1, n2, n3, n4, n5⟩ := new_log (n := 8) (by decide)
  have ho1 := fun p => Open_log p (DS.new 8) [] n1 n2 (by rw [n4]; decide)
  have hs0 := n1.stamp (B := 0) (fun r h => by cases h)
  rw [Nat.le_zero.1 hs0] at ho1
  have ha' : ∀ w p z, FSpec Try.prog 30 [ptr w, .slice (some ⟨z, 0, none⟩) 3 3] [cb w 83 (walC p (endR []) ([] : Rs).length 0), DiskAt p (DS.new 8), mk z 5 (bv [97, 98, 99])]
      (fun r As => r = .int .i64 0 ∧ As = [cb w 83 (walC p (endR [(1, [97, 98, 99])]) 1 1), DiskAt p (appD (DS.new 8) [] 0 [97, 98, 99]), mk z 5 (bv [97, 98, 99])]) := fun w p z =>
    Append_go w p 0 (DS.new 8) [] (mk z 5 (bv [97, 98, 99])) (.slice (some ⟨z, 0, none⟩) 3 3) [97, 98, 99] (ByR.mk rfl) (by decide) n1 (by decide) (by rw [n3]; decide) (Or.inl n2)
  obtain ⟨l1, l2, l3, l4, l5⟩ := appD_log (s := 0) (b := [97, 98, 99]) n1 (by decide) (by decide) (by decide) (by rw [n3]; decide) (by rw [n4]; decide) (Or.inl n2)
  generalize appD (DS.new 8) [] 0 [97, 98, 99] = sa at *
  have hcr := fun p => Crash_spec p sa l1.ok (by rw [l1.wait]; decide) 0 (by decide) (-1) 0
  obtain ⟨c1, c2, c3, c4, c5⟩ := crash_clean l1 0 (-1) 0
  generalize sa.crash 0 (-1) 0 = sc at *
  have ho2 := fun p => Open_log p sc _ c1 c2 (by rw [c4, l4, n4]; decide)
  generalize stampMax sc.data = S at ho2
  have hdone := fun q => RDone_spec (bag []) q [] false
  refine FSpec.intro Try.func28 rfl 61 Try.ntmps28 (Nat.le_of_ble_eq_true rfl) fun w0 F => ?_
  show CW _ _ _ _ _ _ (F)
  repeat (first | refine CW.seq ?_ | refine PW.then_ ?_ | refine PW.then_to rfl ?_ | refine CW.block ?_ | refine CW.skip ?_ | refine CW.ret ?_ | refine PW.then_ret ?_ | refine PW.block_ret ?_ | refine Cut.ret ?_ | refine Rnd.ret ?_ | refine PW.block_normal ?_ | refine CW.exit ?_ | refine PW.then_exit ?_ | refine PW.block_hit ?_ | refine PW.block_miss rfl ?_ | refine Cut.exit ?_ | refine Rnd.exit ?_ | refine CW.scope ?_ | refine CW.label ?_ | refine PW.scope_normal ?_ | refine PW.scope_ret ?_ | refine PW.scope_exit ?_)
  refine CW.region ?_
  refine L1 (ps_assign rfl).os ?_
  refine LW.nil ?_
  repeat (first | refine CW.seq ?_ | refine PW.then_ ?_ | refine PW.then_to rfl ?_ | refine CW.block ?_ | refine CW.skip ?_ | refine CW.ret ?_ | refine PW.then_ret ?_ | refine PW.block_ret ?_ | refine Cut.ret ?_ | refine Rnd.ret ?_ | refine PW.block_normal ?_ | refine CW.exit ?_ | refine PW.then_exit ?_ | refine PW.block_hit ?_ | refine PW.block_miss rfl ?_ | refine Cut.exit ?_ | refine Rnd.exit ?_ | refine CW.scope ?_ | refine CW.label ?_ | refine PW.scope_normal ?_ | refine PW.scope_ret ?_ | refine PW.scope_exit ?_)
  refine CW.region ?_
  refine LE (os_call (New_yes 8 (by decide) (by decide)) Try.func17 (by decide +kernel) rfl rfl (List.Perm.refl _)) ?_
  rintro _ _ ⟨_, ⟨p, rfl, rfl⟩, rfl⟩
  refine L1 (ps_assign rfl).os ?_
  refine LW.nil ?_
  repeat (first | refine CW.seq ?_ | refine PW.then_ ?_ | refine PW.then_to rfl ?_ | refine CW.block ?_ | refine CW.skip ?_ | refine CW.ret ?_ | refine PW.then_ret ?_ | refine PW.block_ret ?_ | refine Cut.ret ?_ | refine Rnd.ret ?_ | refine PW.block_normal ?_ | refine CW.exit ?_ | refine PW.then_exit ?_ | refine PW.block_hit ?_ | refine PW.block_miss rfl ?_ | refine Cut.exit ?_ | refine Rnd.exit ?_ | refine CW.scope ?_ | refine CW.label ?_ | refine PW.scope_normal ?_ | refine PW.scope_ret ?_ | refine PW.scope_exit ?_)
  refine CW.region ?_
  refine L1 (ps_move rfl).os ?_
  refine LE (os_call (ho1 p) Try.func29 (by decide +kernel) rfl rfl (List.Perm.refl _)) ?_
  rintro _ _ ⟨_, ⟨w, es, q, d, e1, e2, rfl, rfl⟩, rfl⟩
  refine L1 (ps_move rfl).os ?_
  refine L1 (ps_extract rfl rfl).os ?_
  refine L1 (ps_extract rfl rfl).os ?_
  refine L1 (ps_extract rfl rfl).os ?_
  refine L1 (ps_assign rfl).os ?_
  refine L1 (ps_assign rfl).os ?_
  refine L1 (ps_assign rfl).os ?_
  refine LW.nil ?_
  have hes : es = [] := by simpa using e1
  subst hes
  repeat (first | refine CW.seq ?_ | refine PW.then_ ?_ | refine PW.then_to rfl ?_ | refine CW.block ?_ | refine CW.skip ?_ | refine CW.ret ?_ | refine PW.then_ret ?_ | refine PW.block_ret ?_ | refine Cut.ret ?_ | refine Rnd.ret ?_ | refine PW.block_normal ?_ | refine CW.exit ?_ | refine PW.then_exit ?_ | refine PW.block_hit ?_ | refine PW.block_miss rfl ?_ | refine Cut.exit ?_ | refine Rnd.exit ?_ | refine CW.scope ?_ | refine CW.label ?_ | refine PW.scope_normal ?_ | refine PW.scope_ret ?_ | refine PW.scope_exit ?_)
  refine CW.region ?_
  refine L1 (ps_move rfl).os ?_
  refine L1 (ps_f (ps_neq rfl rfl) (by decide)).os ?_
  refine L1 (ps_move rfl).os ?_
  refine LG1 ?_ (ps_move rfl).os ?_
  · exact rfl
  refine LG1 ?_ (ps_ptr_eql_nil T.un50 rfl rfl).os ?_
  · exact rfl
  refine L1 (ps_pick_f rfl rfl).os ?_
  refine L1 (ps_move rfl).os ?_
  refine LG1 ?_ (ps_move rfl).os ?_
  · exact rfl
  refine LG1 ?_ (ps_len_sl T.un48 rfl).os ?_
  · exact rfl
  refine LG1 ?_ (ps_f (ps_neq rfl rfl) (by decide)).os ?_
  · exact rfl
  refine L1 (ps_pick_f rfl rfl).os ?_
  refine LW.nil ?_
  repeat (first | refine CW.seq ?_ | refine PW.then_ ?_ | refine PW.then_to rfl ?_ | refine CW.block ?_ | refine CW.skip ?_ | refine CW.ret ?_ | refine PW.then_ret ?_ | refine PW.block_ret ?_ | refine Cut.ret ?_ | refine Rnd.ret ?_ | refine PW.block_normal ?_ | refine CW.exit ?_ | refine PW.then_exit ?_ | refine PW.block_hit ?_ | refine PW.block_miss rfl ?_ | refine Cut.exit ?_ | refine Rnd.exit ?_ | refine CW.scope ?_ | refine CW.label ?_ | refine PW.scope_normal ?_ | refine PW.scope_ret ?_ | refine PW.scope_exit ?_)
  refine CW.cond_false rfl ?_
  repeat (first | refine CW.seq ?_ | refine PW.then_ ?_ | refine PW.then_to rfl ?_ | refine CW.block ?_ | refine CW.skip ?_ | refine CW.ret ?_ | refine PW.then_ret ?_ | refine PW.block_ret ?_ | refine Cut.ret ?_ | refine Rnd.ret ?_ | refine PW.block_normal ?_ | refine CW.exit ?_ | refine PW.then_exit ?_ | refine PW.block_hit ?_ | refine PW.block_miss rfl ?_ | refine Cut.exit ?_ | refine Rnd.exit ?_ | refine CW.scope ?_ | refine CW.label ?_ | refine PW.scope_normal ?_ | refine PW.scope_ret ?_ | refine PW.scope_exit ?_)
  refine CW.region ?_
  refine L1 (ps_move rfl).os ?_
  refine LE (os_bslv (vs := bv [97, 98, 99]) T.un27 T.ti5 (by rfl) (by rfl) rfl (bv_one _) (by decide) (by decide)) ?_
  rintro _ _ ⟨b28, rfl, rfl⟩
  refine L1 (os_convB (b := b28) (by repeat (first | exact pk_head _ _ | apply pk_tail)) T.un27 T.un5 rfl) ?_
  refine L1 (os_callI (ha' w p b28) Try.func30 (by decide +kernel) rfl rfl (pkc (by repeat (first | exact pk_head _ _ | apply pk_tail)) (pkc (by repeat (first | exact pk_head _ _ | apply pk_tail)) (pkc (by repeat (first | exact pk_head _ _ | apply pk_tail)) (pkn _))))) ?_
  refine L1 (ps_assign rfl).os ?_
  refine LW.nil ?_
  repeat (first | refine CW.seq ?_ | refine PW.then_ ?_ | refine PW.then_to rfl ?_ | refine CW.block ?_ | refine CW.skip ?_ | refine CW.ret ?_ | refine PW.then_ret ?_ | refine PW.block_ret ?_ | refine Cut.ret ?_ | refine Rnd.ret ?_ | refine PW.block_normal ?_ | refine CW.exit ?_ | refine PW.then_exit ?_ | refine PW.block_hit ?_ | refine PW.block_miss rfl ?_ | refine Cut.exit ?_ | refine Rnd.exit ?_ | refine CW.scope ?_ | refine CW.label ?_ | refine PW.scope_normal ?_ | refine PW.scope_ret ?_ | refine PW.scope_exit ?_)
  refine CW.region ?_
  refine L1 (ps_move rfl).os ?_
  refine L1 (os_call1 (hcr p) Try.func19 (by decide +kernel) rfl rfl (by repeat (first | exact pk_head _ _ | apply pk_tail))) ?_
  refine LW.nil ?_
  repeat (first | refine CW.seq ?_ | refine PW.then_ ?_ | refine PW.then_to rfl ?_ | refine CW.block ?_ | refine CW.skip ?_ | refine CW.ret ?_ | refine PW.then_ret ?_ | refine PW.block_ret ?_ | refine Cut.ret ?_ | refine Rnd.ret ?_ | refine PW.block_normal ?_ | refine CW.exit ?_ | refine PW.then_exit ?_ | refine PW.block_hit ?_ | refine PW.block_miss rfl ?_ | refine Cut.exit ?_ | refine Rnd.exit ?_ | refine CW.scope ?_ | refine CW.label ?_ | refine PW.scope_normal ?_ | refine PW.scope_ret ?_ | refine PW.scope_exit ?_)
  refine CW.region ?_
  refine L1 (ps_move rfl).os ?_
  refine LE (os_call (ho2 p) Try.func29 (by decide +kernel) rfl rfl (pkc (by repeat (first | exact pk_head _ _ | apply pk_tail)) (pkn _))) ?_
  rintro _ _ ⟨_, ⟨w2, es2, q2, d2, e3, e4, rfl, rfl⟩, rfl⟩
  refine L1 (ps_move rfl).os ?_
  refine L1 (ps_extract rfl rfl).os ?_
  refine L1 (ps_extract rfl rfl).os ?_
  refine L1 (ps_extract rfl rfl).os ?_
  refine L1 (ps_assign rfl).os ?_
  refine L1 (ps_assign rfl).os ?_
  refine L1 (ps_assign rfl).os ?_
  refine LW.nil ?_
  obtain ⟨v2, rfl⟩ := es_one e3
  have hby := e4 _ (List.mem_singleton.2 rfl)
  dsimp only at hby
  obtain ⟨vq, vd, rfl⟩ := Go.Proofs.Ytejbbpofamfhiaa.ByR.shape hby
  have hnew := RNew_spec (bag []) (.slice none 0 0) [] (ByR.nil' _)
  refine J.ent (Ent.trans (Bs := AllP [EnA (.slice vq 3 vd) [97, 98, 99]] :: slOwn 27 1 (.slice q2 1 d2) 1 [.slice vq 3 vd] :: F) (by repeat (first | exact Ent.refl _ | (apply Ent.cons; · repeat (first | exact pk_head _ _ | apply pk_tail)) | apply Ent.skip)) ((Ent.unall _ _).trans (Ent.emp _))) ?_
  refine slOwn_info (m := 1) (q := q2) (d := d2) (xs := [.slice vq 3 vd]) (by repeat (first | exact pk_head _ _ | apply pk_tail)) fun o1 o2 o3 => ?_
  obtain ⟨g2, rfl⟩ := o3 (by decide)
  repeat (first | refine CW.seq ?_ | refine PW.then_ ?_ | refine PW.then_to rfl ?_ | refine CW.block ?_ | refine CW.skip ?_ | refine CW.ret ?_ | refine PW.then_ret ?_ | refine PW.block_ret ?_ | refine Cut.ret ?_ | refine Rnd.ret ?_ | refine PW.block_normal ?_ | refine CW.exit ?_ | refine PW.then_exit ?_ | refine PW.block_hit ?_ | refine PW.block_miss rfl ?_ | refine Cut.exit ?_ | refine Rnd.exit ?_ | refine CW.scope ?_ | refine CW.label ?_ | refine PW.scope_normal ?_ | refine PW.scope_ret ?_ | refine PW.scope_exit ?_)
  refine CW.region ?_
  refine L1 (ps_move rfl).os ?_
  refine L1 (ps_t (ps_eql rfl rfl) (rfl)).os ?_
  refine L1 (ps_move rfl).os ?_
  refine LG1 ?_ (ps_move rfl).os ?_
  · exact rfl
  refine LG1 ?_ (ps_t (ps_eql rfl rfl) (rfl)).os ?_
  · exact rfl
  refine L1 (ps_pick_t rfl rfl).os ?_
  refine L1 (ps_move rfl).os ?_
  refine LG1 ?_ (ps_move rfl).os ?_
  · exact rfl
  refine LG1 ?_ (ps_len_sl T.un48 rfl).os ?_
  · exact rfl
  refine LG1 ?_ (ps_t (ps_eql rfl rfl) (rfl)).os ?_
  · exact rfl
  refine L1 (ps_pick_t rfl rfl).os ?_
  refine L1 (ps_move rfl).os ?_
  refine LG1 ?_ (ps_move rfl).os ?_
  · exact rfl
  refine LG1 ?_ (ps_ia_slice T.un48 T.sz27 rfl rfl (by decide) (by show (0 : Int) < 1; decide)).os ?_
  · exact rfl
  refine LG1 ?_ (os_loadS1 (v := .slice vq 3 vd) (Src.part (i := 0) (Src.ownG (xs := [.slice vq 3 vd]) (by repeat (first | exact pk_head _ _ | apply pk_tail)) (fun _ => ⟨_, rfl⟩)) rfl) T.ag27 rfl) ?_
  · exact rfl
  refine LG1 ?_ (os_str [97, 98, 99] T.un27 T.un5 T.un9 rfl rfl (hby.src (by repeat (first | exact pk_head _ _ | apply pk_tail)))) ?_
  · exact rfl
  refine LG1 ?_ (ps_t (ps_strV_eql [97, 98, 99] [97, 98, 99] rfl rfl) rfl).os ?_
  · exact rfl
  refine L1 (ps_pick_t rfl rfl).os ?_
  refine L1 (ps_move rfl).os ?_
  refine LGE ?_ (os_call hnew Try.func37 (by decide +kernel) rfl rfl (pkc (by repeat (first | exact pk_head _ _ | apply pk_tail)) (pkn _))) ?_
  · exact rfl
  rintro _ _ ⟨_, ⟨q58, rfl, rfl⟩, rfl⟩
  refine LG1 ?_ (os_call1 (hdone q58) Try.func38 (by decide +kernel) rfl rfl (by repeat (first | exact pk_head _ _ | apply pk_tail))) ?_
  · exact rfl
  refine L1 (ps_pick_t rfl rfl).os ?_
  refine L1 (ps_assign rfl).os ?_
  refine LW.nil ?_
  repeat (first | refine CW.seq ?_ | refine PW.then_ ?_ | refine PW.then_to rfl ?_ | refine CW.block ?_ | refine CW.skip ?_ | refine CW.ret ?_ | refine PW.then_ret ?_ | refine PW.block_ret ?_ | refine Cut.ret ?_ | refine Rnd.ret ?_ | refine PW.block_normal ?_ | refine CW.exit ?_ | refine PW.then_exit ?_ | refine PW.block_hit ?_ | refine PW.block_miss rfl ?_ | refine Cut.exit ?_ | refine Rnd.exit ?_ | refine CW.scope ?_ | refine CW.label ?_ | refine PW.scope_normal ?_ | refine PW.scope_ret ?_ | refine PW.scope_exit ?_)
  exact Fin.ret1 (v := .bool true) rfl [] rfl ⟨rfl, rfl⟩ (by repeat (first | exact Ent.refl _ | (apply Ent.cons; · repeat (first | exact pk_head _ _ | apply pk_tail)) | apply Ent.skip))
end Go.Proofs.Ytejbbpofamfhiaa
