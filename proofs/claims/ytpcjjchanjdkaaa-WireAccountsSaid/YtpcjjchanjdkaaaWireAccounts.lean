/- The law WireAccounts: accounts and rows come back from their bytes, one behind the other: it answers true for every account and every row (no condition). -/
import Derived.Test.YtpcjjchanjdkaaaWRow
import Derived.Test.YtpcjjchanjdkaaaRows
namespace Go.Proofs.Ytpcjjchanjdkaaa
open Go Go.SL
set_option linter.unusedVariables false
set_option linter.unusedSimpArgs false

section
variable {H : Type} {enc : TypeId × Value → H} {W : World} {base : Nat} {held : Bool} {fuel : Nat}
theorem open_hash {cs : List Value} {x : DataW H × List MemPlace} (h : DataW.trod enc Try.prog W base (fun _ => true) held fuel 43 cs = some x) : ∃ r : List UInt8, cs = bv r ∧ r.length = 32 := by
  obtain ⟨xs, m, _, _, hl, hx, hi⟩ := DataW.trod_array T.un43 h
  rw [show Try.prog.cellsOf 43 = 32 from T.co43] at hl
  have key : ∀ i (hi' : i < cs.length), ∃ b : UInt8, cs[i] = .int .u8 (b.toNat : Int) := fun i hi' => by
    have h1 := hi i (by omega)
    rw [show Try.prog.cellsOf 5 = 1 from T.co5] at h1
    rw [List.getElem?_eq_getElem (by omega)] at h1
    obtain ⟨n, e, _, hw⟩ := DataW.trod_int T.un5 h1
    have hb := bounds_u8 hw
    have e2 : (cs.drop (i * 1)).take 1 = [cs[i]] := by
      rw [Nat.mul_one, List.drop_eq_getElem_cons hi']; rfl
    rw [e2] at e
    simp only [List.cons.injEq, and_true] at e
    refine ⟨UInt8.ofNat n.toNat, ?_⟩
    rw [e]
    congr 1
    rw [UInt8.toNat_ofNat']
    omega
  refine ⟨cs.map fun v => match v with | .int _ n => UInt8.ofNat n.toNat | _ => 0, ?_, by rw [List.length_map, hl]⟩
  refine List.ext_getElem (by simp) fun i h1 h2 => ?_
  obtain ⟨b, hb⟩ := key i h1
  simp [bv, hb]
theorem open_acct {cs : List Value} {x : DataW H × List MemPlace} (h : DataW.trod enc Try.prog W base (fun _ => true) held fuel 59 cs = some x) : ∃ a : AcctS, cs = acctCells a ∧ AcctOk a := by
  have hl : cs.length = 46 := (trod_len T.ag59 h).trans T.co59
  obtain ⟨_, _, h0⟩ := trod_field T.ft59_0 T.co26 h
  obtain ⟨_, _, h1⟩ := trod_field T.ft59_1 T.co3 h
  obtain ⟨_, _, h2⟩ := trod_field T.ft59_2 T.co3 h
  obtain ⟨_, _, h3⟩ := trod_field T.ft59_3 T.co26 h
  obtain ⟨_, _, h4⟩ := trod_field T.ft59_4 T.co26 h
  obtain ⟨_, _, h5⟩ := trod_field T.ft59_5 T.co26 h
  obtain ⟨_, _, h6⟩ := trod_field T.ft59_6 T.co26 h
  obtain ⟨_, _, h7⟩ := trod_field T.ft59_7 T.co3 h
  obtain ⟨_, _, h8⟩ := trod_field T.ft59_8 T.co3 h
  obtain ⟨_, _, h9⟩ := trod_field T.ft59_9 T.co43 h
  obtain ⟨a0, e0, l0⟩ := open_apiNum h0
  obtain ⟨a1, e1⟩ := open_i64 h1
  obtain ⟨a2, e2⟩ := open_i64 h2
  obtain ⟨a3, e3, l3⟩ := open_apiNum h3
  obtain ⟨a4, e4, l4⟩ := open_apiNum h4
  obtain ⟨a5, e5, l5⟩ := open_apiNum h5
  obtain ⟨a6, e6, l6⟩ := open_apiNum h6
  obtain ⟨a7, e7⟩ := open_i64 h7
  obtain ⟨a8, e8⟩ := open_i64 h8
  obtain ⟨a9, e9, l9⟩ := open_hash h9
  rw [List.take_of_length_le (by simp [hl])] at e9
  have e : cs = (cs.drop 0).take 2 ++ ((cs.drop 2).take 1 ++ ((cs.drop 3).take 1 ++ ((cs.drop 4).take 2 ++ ((cs.drop 6).take 2 ++ ((cs.drop 8).take 2 ++ ((cs.drop 10).take 2 ++ ((cs.drop 12).take 1 ++ ((cs.drop 13).take 1 ++ cs.drop 14)))))))) := by
    rw [← cut_list cs 13 1, ← cut_list cs 12 1, ← cut_list cs 10 2, ← cut_list cs 8 2, ← cut_list cs 6 2, ← cut_list cs 4 2, ← cut_list cs 3 1, ← cut_list cs 2 1, ← cut_list cs 0 2]; rfl
  rw [e0, e1, e2, e3, e4, e5, e6, e7, e8, e9] at e
  exact ⟨⟨a0, a1, a2, a3, a4, a5, a6, a7, a8, a9⟩, by rw [acctCells]; simpa using e, ⟨l0, l3, l4, l5, l6, l9⟩⟩
theorem open_row {cs : List Value} {x : DataW H × List MemPlace} (h : DataW.trod enc Try.prog W base (fun _ => true) held fuel 61 cs = some x) : ∃ a : RowS, cs = rowCells a ∧ RowOk a := by
  have hl : cs.length = 14 := (trod_len T.ag61 h).trans T.co61
  obtain ⟨_, _, h0⟩ := trod_field T.ft61_0 T.co26 h
  obtain ⟨_, _, h1⟩ := trod_field T.ft61_1 T.co3 h
  obtain ⟨_, _, h2⟩ := trod_field T.ft61_2 T.co3 h
  obtain ⟨_, _, h3⟩ := trod_field T.ft61_3 T.co26 h
  obtain ⟨_, _, h4⟩ := trod_field T.ft61_4 T.co26 h
  obtain ⟨_, _, h5⟩ := trod_field T.ft61_5 T.co26 h
  obtain ⟨_, _, h6⟩ := trod_field T.ft61_6 T.co26 h
  obtain ⟨_, _, h7⟩ := trod_field T.ft61_7 T.co26 h
  obtain ⟨a0, e0, l0⟩ := open_apiNum h0
  obtain ⟨a1, e1⟩ := open_i64 h1
  obtain ⟨a2, e2⟩ := open_i64 h2
  obtain ⟨a3, e3, l3⟩ := open_apiNum h3
  obtain ⟨a4, e4, l4⟩ := open_apiNum h4
  obtain ⟨a5, e5, l5⟩ := open_apiNum h5
  obtain ⟨a6, e6, l6⟩ := open_apiNum h6
  obtain ⟨a7, e7, l7⟩ := open_apiNum h7
  rw [List.take_of_length_le (by simp [hl])] at e7
  have e : cs = (cs.drop 0).take 2 ++ ((cs.drop 2).take 1 ++ ((cs.drop 3).take 1 ++ ((cs.drop 4).take 2 ++ ((cs.drop 6).take 2 ++ ((cs.drop 8).take 2 ++ ((cs.drop 10).take 2 ++ cs.drop 12)))))) := by
    rw [← cut_list cs 10 2, ← cut_list cs 8 2, ← cut_list cs 6 2, ← cut_list cs 4 2, ← cut_list cs 3 1, ← cut_list cs 2 1, ← cut_list cs 0 2]; rfl
  rw [e0, e1, e2, e3, e4, e5, e6, e7] at e
  exact ⟨⟨a0, a1, a2, a3, a4, a5, a6, a7⟩, by rw [rowCells]; simpa using e, ⟨l0, l3, l4, l5, l6, l7⟩⟩
end
theorem acct_kv (a : AcctS) (h : AcctOk a) : KV ([.u64, .u64, .i64, .i64, .u64, .u64, .u64, .u64, .u64, .u64, .u64, .u64, .i64, .i64] ++ List.replicate 32 .u8) (acctCells a) := by
  have hb := KV.bv a.root
  rw [h.root] at hb
  exact KV.append (show KV [.u64, .u64, .i64, .i64, .u64, .u64, .u64, .u64, .u64, .u64, .u64, .u64, .i64, .i64] (nc a.id ++ [.int .i64 a.led, .int .i64 a.fl] ++ nc a.dp ++ nc a.dpo ++ nc a.cp ++ nc a.cpo ++ [.int .i64 a.tim, .int .i64 a.rows]) from rfl) hb
open Classical in
theorem ps_agg_same {P : Program} {ty : TypeId} {n : FN} {f : Nat → Value} {x y : Operand} {t yt : TypeId} {ks : List IntKind} {xs : List Value} (h : EQ P t ks) (hx : ev n f x = .agg xs.toArray) (hy : ev n f y = .agg xs.toArray) (kx : KV ks xs) : PS P (.binOp .eql t x y yt) ty n f (.bool true) := ps_t (ps_agg_eql h hx hy kx kx) rfl
theorem RDone_no (A : Asn) (p : Nat) (bs : List UInt8) (h : bs ≠ []) : FSpec Try.prog 27 [ptr p] [RdAt A p bs false] (fun r As => r = .bool false ∧ As = [RdAt A p bs false]) := by
  have := RDone_spec A p bs false
  rwa [decide_eq_false h] at this
theorem RDone_yes (A : Asn) (p : Nat) : FSpec Try.prog 27 [ptr p] [RdAt A p [] false] (fun r As => r = .bool true ∧ As = [RdAt A p [] false]) := RDone_spec A p [] false
theorem WireAccounts_law (W : World) (cs0 : List Value) (a : AcctS) (e0 : cs0 = acctCells a) (oka : AcctOk a) (cs1 : List Value) (x : RowS) (e1 : cs1 = rowCells x) (okx : RowOk x) :
    LawOf Try.prog 8 [.agg cs0.toArray, .agg cs1.toArray] W := by
  subst e0; subst e1
  obtain ⟨id, led, fl, dp, dpo, cp, cpo, tim, rows, root⟩ := a
  obtain ⟨tr, tm, ev, amo, p1, p2, p3, p4⟩ := x
  obtain ⟨led', hled, m1, m2⟩ : ∃ z, led % ((2 ^ 32 : Nat) : Int) = z ∧ 0 ≤ z ∧ z < 256 ^ 4 := ⟨_, rfl, by omega, by omega⟩
  obtain ⟨fl', hfl, m3, m4⟩ : ∃ z, fl % ((2 ^ 16 : Nat) : Int) = z ∧ 0 ≤ z ∧ z < 256 ^ 2 := ⟨_, rfl, by omega, by omega⟩
  obtain ⟨tim', htim, m5, m6⟩ : ∃ z, tim % ((2 ^ 48 : Nat) : Int) = z ∧ 0 ≤ z ∧ z < 256 ^ 6 := ⟨_, rfl, by omega, by omega⟩
  obtain ⟨rows', hrows, m7, m8⟩ : ∃ z, rows % ((2 ^ 48 : Nat) : Int) = z ∧ 0 ≤ z ∧ z < 256 ^ 6 := ⟨_, rfl, by omega, by omega⟩
  obtain ⟨tm', htm, m9, m10⟩ : ∃ z, tm % ((2 ^ 48 : Nat) : Int) = z ∧ 0 ≤ z ∧ z < 256 ^ 6 := ⟨_, rfl, by omega, by omega⟩
  obtain ⟨ev', hev, m11, m12⟩ : ∃ z, ev % ((2 ^ 16 : Nat) : Int) = z + 1 ∧ 0 ≤ z + 1 ∧ z + 1 < 256 ^ 2 := ⟨ev % ((2 ^ 16 : Nat) : Int) - 1, by omega, by omega, by omega⟩
  have okA : AcctRd ⟨id, led', fl', dp, dpo, cp, cpo, tim', rows', root⟩ := ⟨⟨oka.id, oka.dp, oka.dpo, oka.cp, oka.cpo, oka.root⟩, ⟨m1, m2⟩, ⟨m3, m4⟩, ⟨m5, m6⟩, ⟨m7, m8⟩⟩
  have okX : RowRd ⟨tr, tm', ev', amo, p1, p2, p3, p4⟩ := ⟨⟨okx.tr, okx.amo, okx.dp, okx.dpo, okx.cp, okx.cpo⟩, ⟨m9, m10⟩, ⟨m11, m12⟩⟩
  have hAl := acctB_len _ okA.toAcctOk
  have hXl := rowB_len ⟨tr, tm', ev', amo, p1, p2, p3, p4⟩
  have hsz : SZ Try.prog 59 (acctCells ⟨id, led', fl', dp, dpo, cp, cpo, tim', rows', root⟩).length := by rw [acctCells_len _ okA.toAcctOk]; exact T.sz59
  have hkA := acct_kv _ okA.toAcctOk
  have hkX : KV [.u64, .u64, .i64, .i64, .u64, .u64, .u64, .u64, .u64, .u64, .u64, .u64, .u64, .u64] (rowCells ⟨tr, tm', ev', amo, p1, p2, p3, p4⟩) := rfl
  have hev2 : -9223372036854775808 ≤ ev' + 1 ∧ ev' + 1 < 9223372036854775808 := by omega
  have hAS := Account_spec _ okA.toAcctOk
  have hXS := Row_spec _ okX.toRowOk hev2
  have hRA := fun A p => ReadAccount_spec A p _ okA (rowB ⟨tr, tm', ev', amo, p1, p2, p3, p4⟩ ++ []) (by simp [hXl])
  have hRX := fun A p => ReadRow_spec A p _ okX [] (by simp)
  have hne : rowB ⟨tr, tm', ev', amo, p1, p2, p3, p4⟩ ++ [] ≠ [] := fun h => by have := congrArg List.length h; simp [hXl] at this
  refine FSpec.intro Try.func8 rfl 77 Try.ntmps8 (Nat.le_of_ble_eq_true rfl) fun w0 F => ?_
  show CW _ _ _ _ _ _ (_ :: F)
  repeat (first | refine CW.seq ?_ | refine PW.then_ ?_ | refine CW.block ?_ | refine CW.skip ?_ | refine CW.ret ?_ | refine PW.then_ret ?_ | refine PW.block_ret ?_ | refine Cut.ret ?_ | refine Rnd.ret ?_ | refine PW.block_normal ?_ | refine CW.exit ?_ | refine PW.then_exit ?_ | refine PW.block_hit ?_ | refine PW.block_miss rfl ?_ | refine Cut.exit ?_ | refine Rnd.exit ?_)
  refine CW.region ?_
  refine LE (os_box rfl (by rfl)) ?_
  rintro _ _ ⟨b2, rfl, rfl⟩
  refine LE (os_box rfl (by rfl)) ?_
  rintro _ _ ⟨b3, rfl, rfl⟩
  refine L1 (ps_assign rfl).os ?_
  refine LW.nil ?_
  repeat (first | refine CW.seq ?_ | refine PW.then_ ?_ | refine CW.block ?_ | refine CW.skip ?_ | refine CW.ret ?_ | refine PW.then_ret ?_ | refine PW.block_ret ?_ | refine Cut.ret ?_ | refine Rnd.ret ?_ | refine PW.block_normal ?_ | refine CW.exit ?_ | refine PW.then_exit ?_ | refine PW.block_hit ?_ | refine PW.block_miss rfl ?_ | refine Cut.exit ?_ | refine Rnd.exit ?_)
  refine CW.region ?_
  refine L1 (os_call0 fit_spec Try.func11 (by decide +kernel) rfl rfl) ?_
  refine L1 (ps_not rfl).os ?_
  refine LW.nil ?_
  repeat (first | refine CW.seq ?_ | refine PW.then_ ?_ | refine CW.block ?_ | refine CW.skip ?_ | refine CW.ret ?_ | refine PW.then_ret ?_ | refine PW.block_ret ?_ | refine Cut.ret ?_ | refine Rnd.ret ?_ | refine PW.block_normal ?_ | refine CW.exit ?_ | refine PW.then_exit ?_ | refine PW.block_hit ?_ | refine PW.block_miss rfl ?_ | refine Cut.exit ?_ | refine Rnd.exit ?_)
  refine CW.cond_false rfl ?_
  repeat (first | refine CW.seq ?_ | refine PW.then_ ?_ | refine CW.block ?_ | refine CW.skip ?_ | refine CW.ret ?_ | refine PW.then_ret ?_ | refine PW.block_ret ?_ | refine Cut.ret ?_ | refine Rnd.ret ?_ | refine PW.block_normal ?_ | refine CW.exit ?_ | refine PW.then_exit ?_ | refine PW.block_hit ?_ | refine PW.block_miss rfl ?_ | refine Cut.exit ?_ | refine Rnd.exit ?_)
  refine CW.region ?_
  refine L1 (ps_fa T.fa59_1 (by decide) rfl).os ?_
  refine L1 (os_load1 (by repeat (first | exact pk_head _ _ | apply pk_tail)) T.ag3 rfl (by rfl)) ?_
  refine L1 (ps_to (u := .int .i64 led') (congrArg _ hled) (ps_mask_i64 (m := 32) rfl rfl rfl (by decide))).os ?_
  refine L1 (ps_fa T.fa59_2 (by decide) rfl).os ?_
  refine L1 (os_load1 (by repeat (first | exact pk_head _ _ | apply pk_tail)) T.ag3 rfl (by rfl)) ?_
  refine L1 (ps_to (u := .int .i64 fl') (congrArg _ hfl) (ps_mask_i64 (m := 16) rfl rfl rfl (by decide))).os ?_
  refine L1 (ps_fa T.fa59_7 (by decide) rfl).os ?_
  refine L1 (os_load1 (by repeat (first | exact pk_head _ _ | apply pk_tail)) T.ag3 rfl (by rfl)) ?_
  refine L1 (ps_to (u := .int .i64 tim') (congrArg _ htim) (ps_mask_i64 (m := 48) rfl rfl rfl (by decide))).os ?_
  refine L1 (ps_fa T.fa59_8 (by decide) rfl).os ?_
  refine L1 (os_load1 (by repeat (first | exact pk_head _ _ | apply pk_tail)) T.ag3 rfl (by rfl)) ?_
  refine L1 (ps_to (u := .int .i64 rows') (congrArg _ hrows) (ps_mask_i64 (m := 48) rfl rfl rfl (by decide))).os ?_
  refine L1 (ps_fa T.fa59_1 (by decide) rfl).os ?_
  refine L1 (os_cbr (acctCells ⟨id, led', fl, dp, dpo, cp, cpo, tim, rows, root⟩) (os_store1 (b := b2) (by repeat (first | exact pk_head _ _ | apply pk_tail)) T.sz3 rfl rfl (by rfl) (Nat.le_of_ble_eq_true rfl)) (by rfl)) ?_
  refine L1 (ps_fa T.fa59_2 (by decide) rfl).os ?_
  refine L1 (os_cbr (acctCells ⟨id, led', fl', dp, dpo, cp, cpo, tim, rows, root⟩) (os_store1 (b := b2) (by repeat (first | exact pk_head _ _ | apply pk_tail)) T.sz3 rfl rfl (by rfl) (Nat.le_of_ble_eq_true rfl)) (by rfl)) ?_
  refine L1 (ps_fa T.fa59_7 (by decide) rfl).os ?_
  refine L1 (os_cbr (acctCells ⟨id, led', fl', dp, dpo, cp, cpo, tim', rows, root⟩) (os_store1 (b := b2) (by repeat (first | exact pk_head _ _ | apply pk_tail)) T.sz3 rfl rfl (by rfl) (Nat.le_of_ble_eq_true rfl)) (by rfl)) ?_
  refine L1 (ps_fa T.fa59_8 (by decide) rfl).os ?_
  refine L1 (os_cbr (acctCells ⟨id, led', fl', dp, dpo, cp, cpo, tim', rows', root⟩) (os_store1 (b := b2) (by repeat (first | exact pk_head _ _ | apply pk_tail)) T.sz3 rfl rfl (by rfl) (Nat.le_of_ble_eq_true rfl)) (by rfl)) ?_
  refine LW.nil ?_
  repeat (first | refine CW.seq ?_ | refine PW.then_ ?_ | refine CW.block ?_ | refine CW.skip ?_ | refine CW.ret ?_ | refine PW.then_ret ?_ | refine PW.block_ret ?_ | refine Cut.ret ?_ | refine Rnd.ret ?_ | refine PW.block_normal ?_ | refine CW.exit ?_ | refine PW.then_exit ?_ | refine PW.block_hit ?_ | refine PW.block_miss rfl ?_ | refine Cut.exit ?_ | refine Rnd.exit ?_)
  refine CW.region ?_
  refine L1 (ps_fa T.fa61_1 (by decide) rfl).os ?_
  refine L1 (os_load1 (by repeat (first | exact pk_head _ _ | apply pk_tail)) T.ag3 rfl (by rfl)) ?_
  refine L1 (ps_to (u := .int .i64 tm') (congrArg _ htm) (ps_mask_i64 (m := 48) rfl rfl rfl (by decide))).os ?_
  refine L1 (ps_fa T.fa61_2 (by decide) rfl).os ?_
  refine L1 (os_load1 (by repeat (first | exact pk_head _ _ | apply pk_tail)) T.ag3 rfl (by rfl)) ?_
  refine L1 (ps_to (u := .int .i64 (ev' + 1)) (congrArg _ hev) (ps_mask_i64 (m := 16) rfl rfl rfl (by decide))).os ?_
  refine L1 (ps_to (u := .int .i64 ev') (congrArg (Value.int .i64) (by omega)) (ps_sub_i64 rfl rfl (by omega) (by omega))).os ?_
  refine L1 (ps_fa T.fa61_1 (by decide) rfl).os ?_
  refine L1 (os_cbr (rowCells ⟨tr, tm', ev, amo, p1, p2, p3, p4⟩) (os_store1 (b := b3) (by repeat (first | exact pk_head _ _ | apply pk_tail)) T.sz3 rfl rfl (by rfl) (Nat.le_of_ble_eq_true rfl)) (by rfl)) ?_
  refine L1 (ps_fa T.fa61_2 (by decide) rfl).os ?_
  refine L1 (os_cbr (rowCells ⟨tr, tm', ev', amo, p1, p2, p3, p4⟩) (os_store1 (b := b3) (by repeat (first | exact pk_head _ _ | apply pk_tail)) T.sz3 rfl rfl (by rfl) (Nat.le_of_ble_eq_true rfl)) (by rfl)) ?_
  refine LW.nil ?_
  clear hled hfl htim hrows htm hev oka okx
  generalize hga : (⟨id, led', fl', dp, dpo, cp, cpo, tim', rows', root⟩ : AcctS) = a at *
  generalize hgx : (⟨tr, tm', ev', amo, p1, p2, p3, p4⟩ : RowS) = x at *
  repeat (first | refine CW.seq ?_ | refine PW.then_ ?_ | refine CW.block ?_ | refine CW.skip ?_ | refine CW.ret ?_ | refine PW.then_ret ?_ | refine PW.block_ret ?_ | refine Cut.ret ?_ | refine Rnd.ret ?_ | refine PW.block_normal ?_ | refine CW.exit ?_ | refine PW.then_exit ?_ | refine PW.block_hit ?_ | refine PW.block_miss rfl ?_ | refine Cut.exit ?_ | refine Rnd.exit ?_)
  refine CW.cutB (α := Option Addr × Nat) [5, 34, 35, 36, 37, 38] (fun s => ByR (slOwn 5 1 (.slice s.1 234 s.2) 234 (bv (acctB a ++ (rowB x ++ [])))) (.slice s.1 234 s.2) (acctB a ++ (rowB x ++ []))) (fun s => [(5, .slice s.1 234 s.2)])
    (fun s => slOwn 5 1 (.slice s.1 234 s.2) 234 (bv (acctB a ++ (rowB x ++ []))) :: cb b2 59 (acctCells a) :: cb b3 61 (rowCells x) :: bag (blks W) :: F) ?_ ?_
  · refine CW.drawH [cb b2 59 (acctCells a), cb b3 61 (rowCells x)] [] T.mixed ?_
    refine H_take (i := 0) (some 34) rfl rfl (by kernel_rfl) (by kernel_rfl) (by kernel_rfl) rfl (pl_loadAll (b := b2) (cs := acctCells a) (by repeat (first | exact pk_head _ _ | apply pk_tail)) T.ag59 hsz rfl) (by kernel_rfl) (pkc (by repeat (first | exact pk_head _ _ | apply pk_tail)) (pkc (by repeat (first | exact pk_head _ _ | apply pk_tail)) (pkn _))) ?_
    refine H_take (i := 2) (some 36) rfl rfl (by kernel_rfl) (by kernel_rfl) (by kernel_rfl) rfl (pl_loadAll (b := b3) (cs := rowCells x) (by repeat (first | exact pk_head _ _ | apply pk_tail)) T.ag61 (by exact T.sz61) rfl) (by kernel_rfl) (pkc (by repeat (first | exact pk_head _ _ | apply pk_tail)) (pkc (by repeat (first | exact pk_head _ _ | apply pk_tail)) (pkn _))) ?_
    refine H_branch (rs := [1]) (by kernel_rfl) (by simp) ?_
    refine HR.consE (i := 1) (some 35) rfl rfl rfl (os_call (pre := []) hAS Try.func28 (by decide +kernel) rfl rfl (List.Perm.refl _)) ?_ ?_
    · rintro _ _ ⟨_, ⟨u, d, rfl, rfl⟩, rfl⟩
      refine ⟨fun _ => ⟨_, (pkc (by repeat (first | exact pk_head _ _ | apply pk_tail)) (pkc (by repeat (first | exact pk_head _ _ | apply pk_tail)) (pkn _)))⟩, ?_⟩
      refine H_branch (rs := [3]) (by kernel_rfl) (by simp) ?_
      refine HR.consE (i := 3) (some 37) rfl rfl rfl (os_call (pre := []) hXS Try.func29 (by decide +kernel) rfl rfl (List.Perm.refl _)) ?_ ?_
      · rintro _ _ ⟨_, ⟨u2, d2, rfl, rfl⟩, rfl⟩
        refine ⟨fun _ => ⟨_, (pkc (by repeat (first | exact pk_head _ _ | apply pk_tail)) (pkc (by repeat (first | exact pk_head _ _ | apply pk_tail)) (pkn _)))⟩, ?_⟩
        refine slOwn_info (pk_head _ _) fun hmd hdm hqs => ?_
        refine H_branch (rs := [4]) (by kernel_rfl) (by simp) ?_
        refine HR.consE (i := 4) (some 38) rfl rfl rfl (os_append (xs := bv (acctB a)) (news := bv (rowB x)) (by repeat (first | exact pk_head _ _ | apply pk_tail)) T.un32 T.ti5 (by rfl) (by decide) rfl rfl (by rw [length_bv, hXl]) ((ByR.own hXl hmd hqs).src (by repeat (first | exact pk_head _ _ | apply pk_tail))) (bv_one _) (by decide) (by decide)) ?_ ?_
        · rintro _ _ ⟨q', d', rfl, rfl, hq'⟩
          refine ⟨fun _ => ⟨_, (pkc (by repeat (first | exact pk_head _ _ | apply pk_tail)) (pkc (by repeat (first | exact pk_head _ _ | apply pk_tail)) (pkn _)))⟩, ?_⟩
          refine slOwn_info (pk_head _ _) fun hmd2 hdm2 hqs2 => ?_
          refine H_take (i := 5) (some 5) rfl rfl (by kernel_rfl) (by kernel_rfl) (by kernel_rfl) rfl (ps_assign rfl).pl (by kernel_rfl) (pkc (by repeat (first | exact pk_head _ _ | apply pk_tail)) (pkc (by repeat (first | exact pk_head _ _ | apply pk_tail)) (pkn _))) ?_
          refine H_done (by kernel_rfl) ?_
          exact Meet.cut (q', d') (ByR.own (by simp [hAl, hXl]) hmd2 hqs2) (by repeat (first | (with_reducible exact Ag.refl _ _) | (with_reducible apply Ag.pu0) | ((with_reducible refine Ag.pu _ ?_ ?_); · exact rfl) | ((with_reducible refine Ag.mix ?_ ?_); · exact rfl) | ((with_reducible refine Ag.pus ?_ ?_); · exact rfl))) ⟨rfl, trivial⟩ (Ent.trans (Bs := slOwn 5 1 (.slice q' 234 d') 234 (bv (acctB a) ++ bv (rowB x)) :: cb b2 59 (acctCells a) :: cb b3 61 (rowCells x) :: bag (blks W) :: F) (by repeat (first | exact Ent.refl _ | (apply Ent.cons; · repeat (first | exact pk_head _ _ | apply pk_tail)) | apply Ent.skip)) (by rw [List.append_nil, bv_append]; exact Ent.refl _))
        exact HR.nil
      exact HR.nil
    exact HR.nil
  rintro ⟨q, d⟩ g5 hby
  dsimp only at hby ⊢
  repeat (first | refine CW.seq ?_ | refine PW.then_ ?_ | refine CW.block ?_ | refine CW.skip ?_ | refine CW.ret ?_ | refine PW.then_ret ?_ | refine PW.block_ret ?_ | refine Cut.ret ?_ | refine Rnd.ret ?_ | refine PW.block_normal ?_ | refine CW.exit ?_ | refine PW.then_exit ?_ | refine PW.block_hit ?_ | refine PW.block_miss rfl ?_ | refine Cut.exit ?_ | refine Rnd.exit ?_)
  refine CW.region ?_
  refine L1 (ps_move rfl).os ?_
  refine LE (os_call (RNew_spec _ _ _ hby) Try.func22 (by decide +kernel) rfl rfl (by repeat (first | exact pk_head _ _ | apply pk_tail))) ?_
  rintro _ _ ⟨_, ⟨pr, rfl, rfl⟩, rfl⟩
  refine L1 (ps_assign rfl).os ?_
  refine LW.nil ?_
  generalize hZ : slOwn 5 1 (.slice q 234 d) 234 (bv (acctB a ++ (rowB x ++ []))) = Z at *
  have hRA' := hRA Z pr
  have hRX' := hRX Z pr
  repeat (first | refine CW.seq ?_ | refine PW.then_ ?_ | refine CW.block ?_ | refine CW.skip ?_ | refine CW.ret ?_ | refine PW.then_ret ?_ | refine PW.block_ret ?_ | refine Cut.ret ?_ | refine Rnd.ret ?_ | refine PW.block_normal ?_ | refine CW.exit ?_ | refine PW.then_exit ?_ | refine PW.block_hit ?_ | refine PW.block_miss rfl ?_ | refine Cut.exit ?_ | refine Rnd.exit ?_)
  refine CW.drawH [cb b2 59 (acctCells a), cb b3 61 (rowCells x)] [] T.mixed ?_
  refine H_take (i := 0) (some 41) rfl rfl (by kernel_rfl) (by kernel_rfl) (by kernel_rfl) rfl (ps_move rfl).pl (by kernel_rfl) (pkc (by repeat (first | exact pk_head _ _ | apply pk_tail)) (pkc (by repeat (first | exact pk_head _ _ | apply pk_tail)) (pkn _))) ?_
  refine H_take (i := 2) (some 43) rfl rfl (by kernel_rfl) (by kernel_rfl) (by kernel_rfl) rfl (pl_loadAll (b := b2) (cs := acctCells a) (by repeat (first | exact pk_head _ _ | apply pk_tail)) T.ag59 hsz rfl) (by kernel_rfl) (pkc (by repeat (first | exact pk_head _ _ | apply pk_tail)) (pkc (by repeat (first | exact pk_head _ _ | apply pk_tail)) (pkn _))) ?_
  refine H_branch (rs := [1]) (by kernel_rfl) (by simp) ?_
  refine HR.cons1 (i := 1) (some 42) rfl rfl rfl (os_call2 hRA' Try.func30 (by decide +kernel) rfl rfl (by repeat (first | exact pk_head _ _ | apply pk_tail)) (by repeat (first | exact pk_head _ _ | apply pk_tail))) (pkc (by repeat (first | exact pk_head _ _ | apply pk_tail)) (pkc (by repeat (first | exact pk_head _ _ | apply pk_tail)) (pkn _))) ?_ ?_
  · skip
    refine H_take (i := 3) (some 44) rfl rfl (by kernel_rfl) (by kernel_rfl) (by kernel_rfl) rfl (ps_agg_same T.eq59 rfl rfl (by exact hkA)).pl (by kernel_rfl) (pkc (by repeat (first | exact pk_head _ _ | apply pk_tail)) (pkc (by repeat (first | exact pk_head _ _ | apply pk_tail)) (pkn _))) ?_
    refine H_take (i := 4) (some 45) rfl rfl (by kernel_rfl) (by kernel_rfl) (by kernel_rfl) rfl (ps_move rfl).pl (by kernel_rfl) (pkc (by repeat (first | exact pk_head _ _ | apply pk_tail)) (pkc (by repeat (first | exact pk_head _ _ | apply pk_tail)) (pkn _))) ?_
    refine H_take (i := 5) (some 46) rfl rfl (by kernel_rfl) (by kernel_rfl) (by kernel_rfl) rfl (ps_move rfl).pl (by kernel_rfl) (pkc (by repeat (first | exact pk_head _ _ | apply pk_tail)) (pkc (by repeat (first | exact pk_head _ _ | apply pk_tail)) (pkn _))) ?_
    refine H_branch (rs := [6]) (by kernel_rfl) (by simp) ?_
    refine HR.cons1 (i := 6) (some 47) rfl rfl rfl (os_call1 (RDone_no Z pr _ hne) Try.func27 (by decide +kernel) rfl rfl (by repeat (first | exact pk_head _ _ | apply pk_tail))) (pkc (by repeat (first | exact pk_head _ _ | apply pk_tail)) (pkc (by repeat (first | exact pk_head _ _ | apply pk_tail)) (pkn _))) ?_ ?_
    · skip
      refine H_take (i := 7) (some 48) rfl rfl (by kernel_rfl) (by kernel_rfl) (by kernel_rfl) rfl (ps_not rfl).pl (by kernel_rfl) (pkc (by repeat (first | exact pk_head _ _ | apply pk_tail)) (pkc (by repeat (first | exact pk_head _ _ | apply pk_tail)) (pkn _))) ?_
      refine H_take (i := 8) (some 49) rfl rfl (by kernel_rfl) (by kernel_rfl) (by kernel_rfl) rfl (ps_pick_t rfl rfl).pl (by kernel_rfl) (pkc (by repeat (first | exact pk_head _ _ | apply pk_tail)) (pkc (by repeat (first | exact pk_head _ _ | apply pk_tail)) (pkn _))) ?_
      refine H_take (i := 9) (some 50) rfl rfl (by kernel_rfl) (by kernel_rfl) (by kernel_rfl) rfl (ps_move rfl).pl (by kernel_rfl) (pkc (by repeat (first | exact pk_head _ _ | apply pk_tail)) (pkc (by repeat (first | exact pk_head _ _ | apply pk_tail)) (pkn _))) ?_
      refine H_take (i := 10) (some 51) rfl rfl (by kernel_rfl) (by kernel_rfl) (by kernel_rfl) rfl (ps_move rfl).pl (by kernel_rfl) (pkc (by repeat (first | exact pk_head _ _ | apply pk_tail)) (pkc (by repeat (first | exact pk_head _ _ | apply pk_tail)) (pkn _))) ?_
      refine H_take (i := 12) (some 53) rfl rfl (by kernel_rfl) (by kernel_rfl) (by kernel_rfl) rfl (pl_loadAll (b := b3) (cs := rowCells x) (by repeat (first | exact pk_head _ _ | apply pk_tail)) T.ag61 (by exact T.sz61) rfl) (by kernel_rfl) (pkc (by repeat (first | exact pk_head _ _ | apply pk_tail)) (pkc (by repeat (first | exact pk_head _ _ | apply pk_tail)) (pkn _))) ?_
      refine H_branch (rs := [11]) (by kernel_rfl) (by simp) ?_
      refine HR.cons1 (i := 11) (some 52) rfl rfl rfl (os_call2 hRX' Try.func31 (by decide +kernel) rfl rfl (by repeat (first | exact pk_head _ _ | apply pk_tail)) (by repeat (first | exact pk_head _ _ | apply pk_tail))) (pkc (by repeat (first | exact pk_head _ _ | apply pk_tail)) (pkc (by repeat (first | exact pk_head _ _ | apply pk_tail)) (pkn _))) ?_ ?_
      · skip
        refine H_take (i := 13) (some 54) rfl rfl (by kernel_rfl) (by kernel_rfl) (by kernel_rfl) rfl (ps_agg_same T.eq61 rfl rfl (by exact hkX)).pl (by kernel_rfl) (pkc (by repeat (first | exact pk_head _ _ | apply pk_tail)) (pkc (by repeat (first | exact pk_head _ _ | apply pk_tail)) (pkn _))) ?_
        refine H_take (i := 14) (some 55) rfl rfl (by kernel_rfl) (by kernel_rfl) (by kernel_rfl) rfl (ps_pick_t rfl rfl).pl (by kernel_rfl) (pkc (by repeat (first | exact pk_head _ _ | apply pk_tail)) (pkc (by repeat (first | exact pk_head _ _ | apply pk_tail)) (pkn _))) ?_
        refine H_take (i := 15) (some 56) rfl rfl (by kernel_rfl) (by kernel_rfl) (by kernel_rfl) rfl (ps_move rfl).pl (by kernel_rfl) (pkc (by repeat (first | exact pk_head _ _ | apply pk_tail)) (pkc (by repeat (first | exact pk_head _ _ | apply pk_tail)) (pkn _))) ?_
        refine H_take (i := 16) (some 57) rfl rfl (by kernel_rfl) (by kernel_rfl) (by kernel_rfl) rfl (ps_move rfl).pl (by kernel_rfl) (pkc (by repeat (first | exact pk_head _ _ | apply pk_tail)) (pkc (by repeat (first | exact pk_head _ _ | apply pk_tail)) (pkn _))) ?_
        refine H_branch (rs := [17]) (by kernel_rfl) (by simp) ?_
        refine HR.cons1 (i := 17) (some 58) rfl rfl rfl (os_call1 (RDone_yes Z pr) Try.func27 (by decide +kernel) rfl rfl (by repeat (first | exact pk_head _ _ | apply pk_tail))) (pkc (by repeat (first | exact pk_head _ _ | apply pk_tail)) (pkc (by repeat (first | exact pk_head _ _ | apply pk_tail)) (pkn _))) ?_ ?_
        · skip
          refine H_take (i := 18) (some 59) rfl rfl (by kernel_rfl) (by kernel_rfl) (by kernel_rfl) rfl (ps_pick_t rfl rfl).pl (by kernel_rfl) (pkc (by repeat (first | exact pk_head _ _ | apply pk_tail)) (pkc (by repeat (first | exact pk_head _ _ | apply pk_tail)) (pkn _))) ?_
          refine H_take (i := 19) (some 60) rfl rfl (by kernel_rfl) (by kernel_rfl) (by kernel_rfl) rfl (ps_move rfl).pl (by kernel_rfl) (pkc (by repeat (first | exact pk_head _ _ | apply pk_tail)) (pkc (by repeat (first | exact pk_head _ _ | apply pk_tail)) (pkn _))) ?_
          refine H_take (i := 20) (some 61) rfl rfl (by kernel_rfl) (by kernel_rfl) (by kernel_rfl) rfl (ps_move rfl).pl (by kernel_rfl) (pkc (by repeat (first | exact pk_head _ _ | apply pk_tail)) (pkc (by repeat (first | exact pk_head _ _ | apply pk_tail)) (pkn _))) ?_
          refine H_branch (rs := [21]) (by kernel_rfl) (by simp) ?_
          refine HR.cons1 (i := 21) (some 62) rfl rfl rfl (os_call1 (RBad_spec Z pr [] false) Try.func26 (by decide +kernel) rfl rfl (by repeat (first | exact pk_head _ _ | apply pk_tail))) (pkc (by repeat (first | exact pk_head _ _ | apply pk_tail)) (pkc (by repeat (first | exact pk_head _ _ | apply pk_tail)) (pkn _))) ?_ ?_
          · skip
            refine H_take (i := 22) (some 63) rfl rfl (by kernel_rfl) (by kernel_rfl) (by kernel_rfl) rfl (ps_not rfl).pl (by kernel_rfl) (pkc (by repeat (first | exact pk_head _ _ | apply pk_tail)) (pkc (by repeat (first | exact pk_head _ _ | apply pk_tail)) (pkn _))) ?_
            refine H_take (i := 23) (some 64) rfl rfl (by kernel_rfl) (by kernel_rfl) (by kernel_rfl) rfl (ps_pick_t rfl rfl).pl (by kernel_rfl) (pkc (by repeat (first | exact pk_head _ _ | apply pk_tail)) (pkc (by repeat (first | exact pk_head _ _ | apply pk_tail)) (pkn _))) ?_
            refine H_take (i := 24) (some 65) rfl rfl (by kernel_rfl) (by kernel_rfl) (by kernel_rfl) rfl (ps_move rfl).pl (by kernel_rfl) (pkc (by repeat (first | exact pk_head _ _ | apply pk_tail)) (pkc (by repeat (first | exact pk_head _ _ | apply pk_tail)) (pkn _))) ?_
            refine H_take (i := 25) (some 66) rfl rfl (by kernel_rfl) (by kernel_rfl) (by kernel_rfl) rfl (pl_loadAll (b := b2) (cs := acctCells a) (by repeat (first | exact pk_head _ _ | apply pk_tail)) T.ag59 hsz rfl) (by kernel_rfl) (pkc (by repeat (first | exact pk_head _ _ | apply pk_tail)) (pkc (by repeat (first | exact pk_head _ _ | apply pk_tail)) (pkn _))) ?_
            refine H_branch (rs := [26]) (by kernel_rfl) (by simp) ?_
            refine HR.consE (i := 26) (some 67) rfl rfl rfl (os_call (pre := []) hAS Try.func28 (by decide +kernel) rfl rfl (List.Perm.refl _)) ?_ ?_
            · rintro _ _ ⟨_, ⟨u3, d3, rfl, rfl⟩, rfl⟩
              refine ⟨fun _ => ⟨_, (pkc (by repeat (first | exact pk_head _ _ | apply pk_tail)) (pkc (by repeat (first | exact pk_head _ _ | apply pk_tail)) (pkn _)))⟩, ?_⟩
              refine H_take (i := 27) (some 68) rfl rfl (by kernel_rfl) (by kernel_rfl) (by kernel_rfl) rfl (ps_len_sl T.un32 rfl).pl (by kernel_rfl) (pkc (by repeat (first | exact pk_head _ _ | apply pk_tail)) (pkc (by repeat (first | exact pk_head _ _ | apply pk_tail)) (pkn _))) ?_
              refine H_take (i := 28) (some 69) rfl rfl (by kernel_rfl) (by kernel_rfl) (by kernel_rfl) rfl (ps_t (ps_eql rfl rfl) (rfl)).pl (by kernel_rfl) (pkc (by repeat (first | exact pk_head _ _ | apply pk_tail)) (pkc (by repeat (first | exact pk_head _ _ | apply pk_tail)) (pkn _))) ?_
              refine H_take (i := 29) (some 70) rfl rfl (by kernel_rfl) (by kernel_rfl) (by kernel_rfl) rfl (ps_pick_t rfl rfl).pl (by kernel_rfl) (pkc (by repeat (first | exact pk_head _ _ | apply pk_tail)) (pkc (by repeat (first | exact pk_head _ _ | apply pk_tail)) (pkn _))) ?_
              refine H_take (i := 30) (some 71) rfl rfl (by kernel_rfl) (by kernel_rfl) (by kernel_rfl) rfl (ps_move rfl).pl (by kernel_rfl) (pkc (by repeat (first | exact pk_head _ _ | apply pk_tail)) (pkc (by repeat (first | exact pk_head _ _ | apply pk_tail)) (pkn _))) ?_
              refine H_take (i := 31) (some 72) rfl rfl (by kernel_rfl) (by kernel_rfl) (by kernel_rfl) rfl (pl_loadAll (b := b3) (cs := rowCells x) (by repeat (first | exact pk_head _ _ | apply pk_tail)) T.ag61 (by exact T.sz61) rfl) (by kernel_rfl) (pkc (by repeat (first | exact pk_head _ _ | apply pk_tail)) (pkc (by repeat (first | exact pk_head _ _ | apply pk_tail)) (pkn _))) ?_
              refine H_branch (rs := [32]) (by kernel_rfl) (by simp) ?_
              refine HR.consE (i := 32) (some 73) rfl rfl rfl (os_call (pre := []) hXS Try.func29 (by decide +kernel) rfl rfl (List.Perm.refl _)) ?_ ?_
              · rintro _ _ ⟨_, ⟨u4, d4, rfl, rfl⟩, rfl⟩
                refine ⟨fun _ => ⟨_, (pkc (by repeat (first | exact pk_head _ _ | apply pk_tail)) (pkc (by repeat (first | exact pk_head _ _ | apply pk_tail)) (pkn _)))⟩, ?_⟩
                refine H_take (i := 33) (some 74) rfl rfl (by kernel_rfl) (by kernel_rfl) (by kernel_rfl) rfl (ps_len_sl T.un32 rfl).pl (by kernel_rfl) (pkc (by repeat (first | exact pk_head _ _ | apply pk_tail)) (pkc (by repeat (first | exact pk_head _ _ | apply pk_tail)) (pkn _))) ?_
                refine H_take (i := 34) (some 75) rfl rfl (by kernel_rfl) (by kernel_rfl) (by kernel_rfl) rfl (ps_t (ps_eql rfl rfl) (rfl)).pl (by kernel_rfl) (pkc (by repeat (first | exact pk_head _ _ | apply pk_tail)) (pkc (by repeat (first | exact pk_head _ _ | apply pk_tail)) (pkn _))) ?_
                refine H_take (i := 35) (some 76) rfl rfl (by kernel_rfl) (by kernel_rfl) (by kernel_rfl) rfl (ps_pick_t rfl rfl).pl (by kernel_rfl) (pkc (by repeat (first | exact pk_head _ _ | apply pk_tail)) (pkc (by repeat (first | exact pk_head _ _ | apply pk_tail)) (pkn _))) ?_
                refine H_take (i := 36) (some 4) rfl rfl (by kernel_rfl) (by kernel_rfl) (by kernel_rfl) rfl (ps_assign rfl).pl (by kernel_rfl) (pkc (by repeat (first | exact pk_head _ _ | apply pk_tail)) (pkc (by repeat (first | exact pk_head _ _ | apply pk_tail)) (pkn _))) ?_
                refine H_done (by kernel_rfl) ?_
                repeat (first | refine CW.seq ?_ | refine PW.then_ ?_ | refine CW.block ?_ | refine CW.skip ?_ | refine CW.ret ?_ | refine PW.then_ret ?_ | refine PW.block_ret ?_ | refine Cut.ret ?_ | refine Rnd.ret ?_ | refine PW.block_normal ?_ | refine CW.exit ?_ | refine PW.then_exit ?_ | refine PW.block_hit ?_ | refine PW.block_miss rfl ?_ | refine Cut.exit ?_ | refine Rnd.exit ?_)
                exact Fin.ret1 (v := .bool true) rfl [bag (blks W)] rfl ⟨rfl, rfl⟩ (by repeat (first | exact Ent.refl _ | (apply Ent.cons; · repeat (first | exact pk_head _ _ | apply pk_tail)) | apply Ent.skip))
              exact HR.nil
            exact HR.nil
          exact HR.nil
        exact HR.nil
      exact HR.nil
    exact HR.nil
  exact HR.nil

namespace wireAccounts
open Go.ChangeShapes Go.WideShapes Go.ChangeAt Go.RowKit
theorem own : ownKnob Try.prog.godebug = none := by kernel_rfl
theorem laidOut : laidOutB Try.prog = true := by kernel_rfl
set_option maxRecDepth 100000 in
theorem lifted (os : Os) (started : os.Started) (H : Type) (enc : TypeId × Value → H) :
    ReturnsInHanded {} Try.checked os 8 .any (Rows.wireAccountsSpec.pre6 enc Try.prog Try.f8 Rows.wireAccountsRow.domain false) (Rows.wireAccountsSpec.post enc Try.prog Try.f8 false true false false) := by
  refine returnsInHanded_of_change (C := Try.checked) own started (by kernel_rfl) Try.func8
    (ChangeSpec.witness6 (enc := enc) (C := Try.checked) false ⟨#[], #[(.agg ((([Value.int .u64 0]) ++ ([Value.int .u64 0])) ++ ([Value.int .i64 0]) ++ ([Value.int .i64 0]) ++ (([Value.int .u64 0]) ++ ([Value.int .u64 0])) ++ (([Value.int .u64 0]) ++ ([Value.int .u64 0])) ++ (([Value.int .u64 0]) ++ ([Value.int .u64 0])) ++ (([Value.int .u64 0]) ++ ([Value.int .u64 0])) ++ ([Value.int .i64 0]) ++ ([Value.int .i64 0]) ++ (List.replicate 32 (Value.int .u8 0))).toArray), (.agg ((([Value.int .u64 0]) ++ ([Value.int .u64 0])) ++ ([Value.int .i64 0]) ++ ([Value.int .i64 0]) ++ (([Value.int .u64 0]) ++ ([Value.int .u64 0])) ++ (([Value.int .u64 0]) ++ ([Value.int .u64 0])) ++ (([Value.int .u64 0]) ++ ([Value.int .u64 0])) ++ (([Value.int .u64 0]) ++ ([Value.int .u64 0])) ++ (([Value.int .u64 0]) ++ ([Value.int .u64 0]))).toArray)], []⟩ 8 (by kernel_rfl) (by kernel_rfl) (by kernel_rfl) (by kernel_rfl)) ?_
  intro W base args ds gs before hval0 hW hcnd _
  have hval : ∀ (j : Nat) t v, Try.f8.params[j]? = some t → args[j]? = some v → Value.okWide Try.prog W .any base t v := hval0
  have hW' := hW
  obtain ⟨p, q, hA0, hV, rfl, hfz, hnd⟩ := hW
  have hA : DataW.TrodAll enc Try.prog W 0 (fun _ => true) true Try.f8.params.toList args.toList ds p := hA0
  rw [Try.params8] at hA hval
  obtain ⟨v0, vs0, d0, ds0, p0, q0, hargs, rfl, rfl, h0, r0⟩ := trodAll_cons hA
  obtain ⟨v1, vs1, d1, ds1, p1, q1, rfl, rfl, rfl, h1, r1⟩ := trodAll_cons r0
  obtain ⟨rfl, rfl, rfl⟩ := trodAll_nil r1
  obtain rfl : args = #[v0, v1] := by cases args; simp_all
  obtain ⟨rfl, rfl⟩ := trodVars_none hV
  obtain ⟨cs0, rfl, hcs0⟩ := okWide_agg T.ag59 (hval 0 59 v0 rfl rfl)
  obtain ⟨fu0, hf0⟩ := h0
  obtain ⟨a0, b0, c0⟩ := open_acct hf0
  obtain ⟨cs1, rfl, hcs1⟩ := okWide_agg T.ag61 (hval 1 61 v1 rfl rfl)
  obtain ⟨fu1, hf1⟩ := h1
  obtain ⟨a1, b1, c1⟩ := open_row hf1
  simp only [List.append_nil] at hW'
  refine (LawOf.calls (WireAccounts_law W _ a0 b0 c0 _ a1 b1 c1)).mono fun e W' ⟨he, hb⟩ => ?_
  subst he
  exact ⟨_, rfl, law_post laidOut rfl (tb := 4) (by kernel_rfl) T.un4 (by intro t ht; rw [Try.params8] at ht; simp only [List.mem_cons, List.not_mem_nil, or_false] at ht; rcases ht with rfl | rfl <;> exact ⟨by kernel_rfl, by decide +kernel⟩) rfl hW' hb⟩
theorem holds : Rows.WireAccountsSaid :=
  OpenClaim.holds_of_wide 8 Try.f8 rfl rfl rfl rfl rfl rfl rfl ⟨rfl, rfl, rfl, rfl, rfl⟩ rfl rfl rfl rfl rfl (by kernel_rfl) Try.func8 (by kernel_rfl)
    (of_decide_eq_true (by kernel_rfl)) (by unfold Func.isWrapper; rw [if_neg (of_decide_eq_false (by kernel_rfl))]; exact ⟨rfl, rfl⟩)
    (fun os started H enc _ => lifted os started H enc)
end wireAccounts
end Go.Proofs.Ytpcjjchanjdkaaa
