/- The laws of u128: what their arguments are, and their first part (fit). -/
import Derived.Test.YtafalcebolbbeaaUx2
namespace Go.Proofs.Ytafalcebolbbeaa
set_option linter.unusedVariables false
set_option linter.unusedSimpArgs false
open Go Go.SL

def NumsR (A : Asn) (v : Value) (l : List Nat) : Prop := RowsR A v 2 (l.map nc) ∧ ∀ x ∈ l, x < M128
section
variable {H : Type} {enc : TypeId × Value → H} {W : World} {base : Nat} {held : Bool} {fuel : Nat}
theorem open_u64 {m : Nat} {t : TypeId} {v : Value} {y : DataW H × List MemPlace} (ht : Try.prog.underlying t = some (.int .u64)) (h : DataW.trod enc Try.prog W base (fun _ => true) held m t [v] = some y) : ∃ n : Nat, v = .int .u64 (n : Int) ∧ n < 18446744073709551616 := by
  obtain ⟨n, h1, _, h2⟩ := DataW.trod_int ht h
  have h3 := bounds_u64' h2
  simp only [List.cons.injEq, and_true] at h1
  obtain ⟨k, rfl⟩ := Int.eq_ofNat_of_zero_le h3.1
  exact ⟨k, h1, by omega⟩
theorem open_apiNum {cs : List Value} {x : DataW H × List MemPlace} (h : DataW.trod enc Try.prog W base (fun _ => true) held fuel 27 cs = some x) : ∃ v, cs = nc v ∧ v < M128 := by
  have hl : cs.length = 2 := (trod_len T.ag27 h).trans T.co27
  obtain ⟨v0, v1, rfl⟩ : ∃ v0 v1, cs = [v0, v1] := by
    match cs, hl with
    | [a, b], _ => exact ⟨a, b, rfl⟩
  obtain ⟨_, _, h0⟩ := trod_field T.ft27_0 T.co25 h
  obtain ⟨_, _, h1⟩ := trod_field T.ft27_1 T.co25 h
  obtain ⟨a, rfl, ha⟩ := open_u64 T.un25 h0
  obtain ⟨b, rfl, hb⟩ := open_u64 T.un25 h1
  exact ⟨a * 18446744073709551616 + b, (nc_of a b hb).symm, by have := M128_eq; omega⟩
theorem rows_of {α : Type} {A : Asn} {v : Value} {s : Nat} {rows : List (List Value)} (g : α → List Value) (Q : α → Prop) (hr : RowsR A v s rows) (h : ∀ r ∈ rows, ∃ c, r = g c ∧ Q c) : ∃ l : List α, RowsR A v s (l.map g) ∧ ∀ c ∈ l, Q c := by
  have key : ∀ rows : List (List Value), (∀ r ∈ rows, ∃ c, r = g c ∧ Q c) → ∃ l : List α, rows = l.map g ∧ ∀ c ∈ l, Q c := by
    intro rows
    induction rows with
    | nil => exact fun _ => ⟨[], rfl, by simp⟩
    | cons r rows ih =>
      intro h
      obtain ⟨c, rfl, hc⟩ := h r (by simp)
      obtain ⟨l, rfl, hl⟩ := ih fun q hq => h q (by simp [hq])
      exact ⟨c :: l, rfl, by simpa using ⟨hc, hl⟩⟩
  obtain ⟨l, rfl, hl⟩ := key rows h
  exact ⟨l, hr, hl⟩
theorem open_SlapiNum {v : Value} {x : DataW H × List MemPlace} (h : DataW.trod enc Try.prog W base (fun _ => true) held fuel 22 [v] = some x) : ∃ l, NumsR (bag (blks W)) v l := by
  obtain ⟨rows, hr, hq⟩ := open_rows (by decide) T.un22 T.co27 h
  exact rows_of nc _ hr fun r hrm => by
    obtain ⟨m, y, hy⟩ := hq r hrm
    exact open_apiNum hy
end
/-- A row of numbers that was just laid. -/
theorem rows_cb {b k : Nat} (l : List Nat) (hk : l.length = k) (hm : k ≤ maxLen) : RowsR (cb b 27 (l.map nc).flatten) (.slice (some ⟨b, 0, none⟩) k k) 2 (l.map nc) :=
  RowsR.cb (by
    apply List.take_of_length_le
    have : ∀ l : List Nat, (l.map nc).flatten.length = l.length * 2 := by
      intro l
      induction l with
      | nil => rfl
      | cons a l ih => simp only [List.map_cons, List.flatten_cons, List.length_append, ih, nc_len, List.length_cons]; omega
    rw [this, List.length_map]; exact Nat.le_refl _) (fun r hr => by obtain ⟨x, _, rfl⟩ := List.mem_map.1 hr; rfl) (by simpa using hk) (Nat.le_refl _) hm
theorem Add_row {b k : Nat} (l : List Nat) (hk : l.length = k) (hm : k ≤ 100) (hl : ∀ x ∈ l, x < M128) {s : Nat} {o : Bool} (ho : addN l = (s, o)) :
    FSpec Try.prog 15 [.slice (some ⟨b, 0, none⟩) k k] [cb b 27 (l.map nc).flatten] (fun r As => r = .tuple #[.agg (nc s).toArray, .bool o] ∧ As = [cb b 27 (l.map nc).flatten]) := by
  have h := Add_spec (cb b 27 (l.map nc).flatten) _ l (rows_cb l hk (by unfold maxLen; omega)) hl
  rw [ho] at h
  exact h
theorem ps_idx_strV {P : Program} {ty : TypeId} {n : FN} {f : Nat → Value} {x y : Operand} {t : TypeId} {k : IntKind} {j : Int} (l : List UInt8) (i : Nat) (hi : i < l.length) (ht : P.underlying t = some .string) (hx : ev n f x = strV l) (hy : ev n f y = .int k j) (hj : j = (i : Int)) : PS P (.index t x y) ty n f (.int .u8 ((l[i].toNat : Nat) : Int)) := by
  subst hj
  exact ps_to (by simp) (ps_idx_str (z := ⟨l.toArray⟩) ht hx hy (by omega) (by simpa using hi))
theorem ps_len_strV {P : Program} {ty : TypeId} {n : FN} {f : Nat → Value} {x : Operand} {t : TypeId} (l : List UInt8) (ht : P.underlying t = some .string) (hx : ev n f x = strV l) : PS P (BI .len #[x] #[t]) ty n f (.int .i64 (l.length : Int)) :=
  ps_to (by show Value.int .i64 ((ByteArray.size ⟨l.toArray⟩ : Nat) : Int) = _; congr 1) (ps_len_str (z := ⟨l.toArray⟩) ht hx)
theorem fit_spec : FSpec Try.prog 13 [] [] (fun v As => v = .bool true ∧ As = []) := by
  have a1 : addN [M128 - 1, 1] = (0, false) := by decide +kernel
  have a2 : addN [18446744073709551615, 1] = (18446744073709551616, true) := by decide +kernel
  have p1 := Print_spec 18446744073709551616 (by decide)
  rw [show digs 18446744073709551616 = [49, 56, 52, 52, 54, 55, 52, 52, 48, 55, 51, 55, 48, 57, 53, 53, 49, 54, 49, 54] by decide +kernel] at p1
  refine FSpec.intro Try.func13 rfl 34 Try.ntmps13 (Nat.le_of_ble_eq_true rfl) fun w0 F => ?_
  show CW _ _ _ _ _ _ (F)
  repeat (first | refine CW.seq ?_ | refine PW.then_ ?_ | refine CW.block ?_ | refine CW.skip ?_ | refine CW.ret ?_ | refine PW.then_ret ?_ | refine PW.block_ret ?_ | refine Cut.ret ?_ | refine Rnd.ret ?_ | refine PW.block_normal ?_ | refine CW.exit ?_ | refine PW.then_exit ?_ | refine PW.block_hit ?_ | refine PW.block_miss rfl ?_ | refine Cut.exit ?_ | refine Rnd.exit ?_)
  refine CW.region ?_
  refine L1 (ps_assign rfl).os ?_
  refine LW.nil ?_
  repeat (first | refine CW.seq ?_ | refine PW.then_ ?_ | refine CW.block ?_ | refine CW.skip ?_ | refine CW.ret ?_ | refine PW.then_ret ?_ | refine PW.block_ret ?_ | refine Cut.ret ?_ | refine Rnd.ret ?_ | refine PW.block_normal ?_ | refine CW.exit ?_ | refine PW.then_exit ?_ | refine PW.block_hit ?_ | refine PW.block_miss rfl ?_ | refine Cut.exit ?_ | refine Rnd.exit ?_)
  refine CW.region ?_
  refine L1 (os_call0 Max_spec Try.func21 (by decide +kernel) rfl rfl) ?_
  refine L1 (os_call0 (Of_spec 1 (by decide)) Try.func17 (by decide +kernel) rfl rfl) ?_
  refine LE (os_bslR ([M128 - 1, 1].map nc) T.un22 T.ti27 (by rfl) (by rfl) (by simp [nc_len]) (by decide) (by decide)) ?_
  rintro _ _ ⟨b8, rfl, rfl⟩
  refine L1 (os_call1 (Add_row [M128 - 1, 1] rfl (by decide) (by decide) a1) Try.func15 (by decide +kernel) rfl rfl (by repeat (first | exact pk_head _ _ | apply pk_tail))) ?_
  refine L1 (ps_move rfl).os ?_
  refine L1 (ps_extract rfl rfl).os ?_
  refine L1 (ps_extract rfl rfl).os ?_
  refine LE (os_alloc T.ti27) ?_
  rintro _ _ ⟨b1, rfl, rfl⟩
  refine L1 (os_storeAll (by repeat (first | exact pk_head _ _ | apply pk_tail)) (by exact T.sz27) rfl rfl (by first | exact nc_one _ | simp [Value.oneCell']) (by rfl)) ?_
  refine L1 (ps_assign rfl).os ?_
  refine LW.nil ?_
  repeat (first | refine CW.seq ?_ | refine PW.then_ ?_ | refine CW.block ?_ | refine CW.skip ?_ | refine CW.ret ?_ | refine PW.then_ret ?_ | refine PW.block_ret ?_ | refine Cut.ret ?_ | refine Rnd.ret ?_ | refine PW.block_normal ?_ | refine CW.exit ?_ | refine PW.then_exit ?_ | refine PW.block_hit ?_ | refine PW.block_miss rfl ?_ | refine Cut.exit ?_ | refine Rnd.exit ?_)
  refine CW.region ?_
  refine L1 (os_call0 (Of_spec 18446744073709551615 (by decide)) Try.func17 (by decide +kernel) rfl rfl) ?_
  refine L1 (os_call0 (Of_spec 1 (by decide)) Try.func17 (by decide +kernel) rfl rfl) ?_
  refine LE (os_bslR ([18446744073709551615, 1].map nc) T.un22 T.ti27 (by rfl) (by rfl) (by simp [nc_len]) (by decide) (by decide)) ?_
  rintro _ _ ⟨b15, rfl, rfl⟩
  refine L1 (os_call1 (Add_row [18446744073709551615, 1] rfl (by decide) (by decide) a2) Try.func15 (by decide +kernel) rfl rfl (by repeat (first | exact pk_head _ _ | apply pk_tail))) ?_
  refine L1 (ps_move rfl).os ?_
  refine L1 (ps_extract rfl rfl).os ?_
  refine L1 (ps_extract rfl rfl).os ?_
  refine LE (os_alloc T.ti27) ?_
  rintro _ _ ⟨b3, rfl, rfl⟩
  refine L1 (os_storeAll (by repeat (first | exact pk_head _ _ | apply pk_tail)) (by exact T.sz27) rfl rfl (by first | exact nc_one _ | simp [Value.oneCell']) (by rfl)) ?_
  refine L1 (ps_assign rfl).os ?_
  refine LW.nil ?_
  repeat (first | refine CW.seq ?_ | refine PW.then_ ?_ | refine CW.block ?_ | refine CW.skip ?_ | refine CW.ret ?_ | refine PW.then_ret ?_ | refine PW.block_ret ?_ | refine Cut.ret ?_ | refine Rnd.ret ?_ | refine PW.block_normal ?_ | refine CW.exit ?_ | refine PW.then_exit ?_ | refine PW.block_hit ?_ | refine PW.block_miss rfl ?_ | refine Cut.exit ?_ | refine Rnd.exit ?_)
  refine CW.region ?_
  refine L1 (ps_move rfl).os ?_
  refine L1 (ps_not rfl).os ?_
  refine L1 (ps_move rfl).os ?_
  refine LG1 ?_ (ps_move rfl).os ?_
  · exact rfl
  refine L1 (ps_pick_t rfl rfl).os ?_
  refine L1 (ps_move rfl).os ?_
  refine LG1 ?_ (os_loadAll (by repeat (first | exact pk_head _ _ | apply pk_tail)) T.ag27 (by exact T.sz27) rfl) ?_
  · exact rfl
  refine LG1 ?_ (ps_build (by rfl) (T.bd27_0 _)).os ?_
  · exact rfl
  refine LG1 ?_ (ps_t (ps_num_eql 18446744073709551616 18446744073709551616 T.eq27 rfl rfl) rfl).os ?_
  · exact rfl
  refine L1 (ps_pick_t rfl rfl).os ?_
  refine L1 (ps_move rfl).os ?_
  refine LG1 ?_ (os_loadAll (by repeat (first | exact pk_head _ _ | apply pk_tail)) T.ag27 (by exact T.sz27) rfl) ?_
  · exact rfl
  refine LG1 ?_ (os_call0 p1 Try.func16 (by decide +kernel) rfl rfl) ?_
  · exact rfl
  refine LG1 ?_ (ps_t (ps_strV_eql [49, 56, 52, 52, 54, 55, 52, 52, 48, 55, 51, 55, 48, 57, 53, 53, 49, 54, 49, 54] _ rfl rfl) rfl).os ?_
  · exact rfl
  refine L1 (ps_pick_t rfl rfl).os ?_
  refine L1 (ps_assign rfl).os ?_
  refine LW.nil ?_
  repeat (first | refine CW.seq ?_ | refine PW.then_ ?_ | refine CW.block ?_ | refine CW.skip ?_ | refine CW.ret ?_ | refine PW.then_ret ?_ | refine PW.block_ret ?_ | refine Cut.ret ?_ | refine Rnd.ret ?_ | refine PW.block_normal ?_ | refine CW.exit ?_ | refine PW.then_exit ?_ | refine PW.block_hit ?_ | refine PW.block_miss rfl ?_ | refine Cut.exit ?_ | refine Rnd.exit ?_)
  exact Fin.ret1 (v := .bool true) rfl [] rfl ⟨rfl, rfl⟩ (by repeat (first | exact Ent.refl _ | (apply Ent.cons; · repeat (first | exact pk_head _ _ | apply pk_tail)) | apply Ent.skip))
end Go.Proofs.Ytafalcebolbbeaa
