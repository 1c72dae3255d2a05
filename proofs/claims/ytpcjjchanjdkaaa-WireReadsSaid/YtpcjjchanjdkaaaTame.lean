/- Tame, light: a request as its bytes can tell it. -/
import Derived.Test.YtpcjjchanjdkaaaReqW
import Derived.Test.YtpcjjchanjdkaaaKv
namespace Go.Proofs.Ytpcjjchanjdkaaa
set_option linter.unusedVariables false
set_option linter.unusedSimpArgs false
open Go Go.SL

def gAcc (a : AccS) (r : List Value) : List Value := nc a.id ++ [.int .i64 a.led, .int .i64 a.fl] ++ r
def gTr (t : TrS) (r : List Value) : List Value := nc t.id ++ nc t.deb ++ nc t.cre ++ nc t.amo ++ nc t.pen ++ [.int .i64 t.tim, .int .i64 t.led, .int .i64 t.fl] ++ r
theorem gAcc_len (a : AccS) (r : List Value) (h : r.length = 42) : (gAcc a r).length = 46 := by simp [gAcc, nc, h]
theorem gTr_len (a : TrS) (r : List Value) (h : r.length = 3) : (gTr a r).length = 16 := by simp [gTr, nc, h]
theorem gAcc_one (a : AccS) (r : List Value) (h : ∀ u ∈ r, u.oneCell' = true) : ∀ u ∈ gAcc a r, u.oneCell' = true := fun u hu => by
  simp only [gAcc, nc, List.mem_append, List.mem_cons, List.not_mem_nil, or_false] at hu
  rcases hu with ((rfl | rfl) | (rfl | rfl)) | hu
  · rfl
  · rfl
  · rfl
  · rfl
  · exact h u hu
theorem gTr_one (a : TrS) (r : List Value) (h : ∀ u ∈ r, u.oneCell' = true) : ∀ u ∈ gTr a r, u.oneCell' = true := fun u hu => by
  simp only [gTr, nc, List.mem_append, List.mem_cons, List.not_mem_nil, or_false] at hu
  rcases hu with (((((h' | h') | h') | h') | h') | h') | hu
  · rcases h' with rfl | rfl <;> rfl
  · rcases h' with rfl | rfl <;> rfl
  · rcases h' with rfl | rfl <;> rfl
  · rcases h' with rfl | rfl <;> rfl
  · rcases h' with rfl | rfl <;> rfl
  · rcases h' with rfl | rfl | rfl <;> rfl
  · exact h u hu
def accRest : List Value := [.int .u64 0, .int .u64 0, .int .u64 0, .int .u64 0, .int .u64 0, .int .u64 0, .int .u64 0, .int .u64 0, .int .i64 0, .int .i64 0] ++ List.replicate 32 (.int .u8 0)
def trRest : List Value := [.int .i64 0, .int .i64 0, .int .i64 0]
theorem gAcc_rest (a : AccS) : gAcc a accRest = accCells a := rfl
theorem gTr_rest (a : TrS) : gTr a trRest = trCells a := rfl
def four (x : Int) : Int := x % ((2 ^ 32 : Nat) : Int)
def tameA (a : AccS) : AccS := ⟨a.id, four a.led, a.fl % ((2 ^ 16 : Nat) : Int)⟩
def tameT (t : TrS) : TrS := ⟨t.id, t.deb, t.cre, t.amo, t.pen, four t.tim, four t.led, t.fl % ((2 ^ 16 : Nat) : Int)⟩
def tameK (k : Int) : Int := 1 + k % ((2 ^ 8 : Nat) : Int) % 9
def tameQ (q : RQ) : RQ :=
  if tameK q.kind = 1 then ⟨tameK q.kind, (q.accs.take 8).map tameA, [], 0, 0, 0, 0⟩
  else if tameK q.kind = 2 then ⟨tameK q.kind, [], (q.trs.take 8).map tameT, 0, 0, 0, 0⟩
  else if tameK q.kind = 3 then ⟨tameK q.kind, [], [], 0, four q.fro, 0, 0⟩
  else if tameK q.kind = 4 ∨ tameK q.kind = 5 ∨ tameK q.kind = 7 then ⟨tameK q.kind, [], [], q.id, 0, 0, 0⟩
  else if tameK q.kind = 6 ∨ tameK q.kind = 8 then ⟨tameK q.kind, [], [], q.id, q.fro % ((2 ^ 48 : Nat) : Int), q.to % ((2 ^ 48 : Nat) : Int), q.lim % ((2 ^ 8 : Nat) : Int)⟩
  else ⟨tameK q.kind, [], [], 0, four q.fro, four q.to, 0⟩
theorem rows_len (c : Nat) : ∀ l : List (List Value), (∀ r ∈ l, r.length = c) → l.flatten.length = l.length * c
  | [], _ => by simp
  | r :: l, h => by
    rw [List.flatten_cons, List.length_append, rows_len c l fun x hx => h x (by simp [hx]), h r (by simp), List.length_cons, Nat.succ_mul]; omega
theorem os_callv0 {P : Program} {ty : TypeId} {n : FN} {f : Nat → Value} {w0 : World} {As : List Asn} {x : Operand} {g : FuncId} {fn : Func} {args : Array Operand} {ts : Array TypeId} {vals : List Value} {r : Value} (hs : FSpec P g vals [] (fun v As => v = r ∧ As = [])) (hf : P.funcs[g]? = some fn) (hn : (fn.name == "runtime.NumGoroutine") = false) (hb : fn.body.isNone = false)
    (hx : ev n f x = .func (.func g) #[] #[]) (ha : args.toList.map (ev n f) = vals) : OS P (.call { callee := .value x, args := args, argTypes := ts }) ty n f w0 As (Is r As) := fun w hw o ho ht K Q hK =>
  os_callv hs hf hn hb hx ha (List.Perm.refl _) w hw o ho ht K Q fun v As' w' hr hw' => by
    obtain ⟨Ds, ⟨h1, h2⟩, h3⟩ := hr
    subst h2
    exact hK v As' w' ⟨h1, h3⟩ hw'
theorem four_spec (x : Int) : FSpec Try.prog 34 [.int .i64 x] [] (fun v As => v = .int .i64 (four x) ∧ As = []) := by
  refine FSpec.intro Try.func34 rfl 5 Try.ntmps34 (Nat.le_of_ble_eq_true rfl) fun w0 F => ?_
  show CW _ _ _ _ _ _ (F)
  repeat (first | refine CW.seq ?_ | refine PW.then_ ?_ | refine CW.block ?_ | refine CW.skip ?_ | refine CW.ret ?_ | refine PW.then_ret ?_ | refine PW.block_ret ?_ | refine Cut.ret ?_ | refine Rnd.ret ?_ | refine PW.block_normal ?_ | refine CW.exit ?_ | refine PW.then_exit ?_ | refine PW.block_hit ?_ | refine PW.block_miss rfl ?_ | refine Cut.exit ?_ | refine Rnd.exit ?_)
  refine CW.region ?_
  refine L1 (ps_assign rfl).os ?_
  refine LW.nil ?_
  repeat (first | refine CW.seq ?_ | refine PW.then_ ?_ | refine CW.block ?_ | refine CW.skip ?_ | refine CW.ret ?_ | refine PW.then_ret ?_ | refine PW.block_ret ?_ | refine Cut.ret ?_ | refine Rnd.ret ?_ | refine PW.block_normal ?_ | refine CW.exit ?_ | refine PW.then_exit ?_ | refine PW.block_hit ?_ | refine PW.block_miss rfl ?_ | refine Cut.exit ?_ | refine Rnd.exit ?_)
  refine CW.region ?_
  refine L1 (ps_move rfl).os ?_
  refine L1 (ps_mask_i64 (m := 32) rfl rfl rfl (by decide)).os ?_
  refine L1 (ps_assign rfl).os ?_
  refine LW.nil ?_
  repeat (first | refine CW.seq ?_ | refine PW.then_ ?_ | refine CW.block ?_ | refine CW.skip ?_ | refine CW.ret ?_ | refine PW.then_ret ?_ | refine PW.block_ret ?_ | refine Cut.ret ?_ | refine Rnd.ret ?_ | refine PW.block_normal ?_ | refine CW.exit ?_ | refine PW.then_exit ?_ | refine PW.block_hit ?_ | refine PW.block_miss rfl ?_ | refine Cut.exit ?_ | refine Rnd.exit ?_)
  exact Fin.ret1 (v := .int .i64 (four x)) rfl [] rfl ⟨rfl, rfl⟩ (by repeat (first | exact Ent.refl _ | (apply Ent.cons; · repeat (first | exact pk_head _ _ | apply pk_tail)) | apply Ent.skip))
theorem Ent.refl_of {As Bs : List Asn} (h : Ent As Bs) : Ent As Bs := h
theorem Tame_spec (A : Asn) (q : RQ) (av tv : Value) (ga : List (AccS × List Value)) (gt : List (TrS × List Value)) (hga : q.accs = ga.map Prod.fst) (hgt : q.trs = gt.map Prod.fst)
    (h1 : RowsR A av 46 (ga.map fun x => gAcc x.1 x.2)) (h2 : RowsR A tv 16 (gt.map fun x => gTr x.1 x.2)) (hra : ∀ x ∈ ga, x.2.length = 42 ∧ ∀ u ∈ x.2, u.oneCell' = true) (hrt : ∀ x ∈ gt, x.2.length = 3 ∧ ∀ u ∈ x.2, u.oneCell' = true) :
    FSpec Try.prog 13 [.agg (rqCells q av tv).toArray] [A] (fun r As => ∃ av' tv' B, r = .agg (rqCells (tameQ q) av' tv').toArray ∧ As = [B, A] ∧ RowsR B av' 46 ((tameQ q).accs.map accCells) ∧ RowsR B tv' 16 ((tameQ q).trs.map trCells)) := by
  obtain ⟨pva, capa, rfl, hcapa1, hcapa2, hpva⟩ := h1.len
  obtain ⟨pvt, capt, rfl, hcapt1, hcapt2, hpvt⟩ := h2.len
  have hla : (ga.map fun x => gAcc x.1 x.2).length = q.accs.length := by rw [hga, List.length_map, List.length_map]
  have hlt' : (gt.map fun x => gTr x.1 x.2).length = q.trs.length := by rw [hgt, List.length_map, List.length_map]
  rw [hla] at h1 hcapa1 ⊢
  rw [hlt'] at h2 hcapt1 ⊢
  have hmA : q.accs.length < 9223372036854775808 := by unfold maxLen at hcapa2; omega
  have hmT : q.trs.length < 9223372036854775808 := by unfold maxLen at hcapt2; omega
  obtain ⟨K, hK⟩ : ∃ K, tameK q.kind = K := ⟨_, rfl⟩
  refine FSpec.intro Try.func13 rfl 128 Try.ntmps13 (Nat.le_of_ble_eq_true rfl) fun w0 F => ?_
  show CW _ _ _ _ _ _ (_ :: F)
  repeat (first | refine CW.seq ?_ | refine PW.then_ ?_ | refine CW.block ?_ | refine CW.skip ?_ | refine CW.ret ?_ | refine PW.then_ret ?_ | refine PW.block_ret ?_ | refine Cut.ret ?_ | refine Rnd.ret ?_ | refine PW.block_normal ?_ | refine CW.exit ?_ | refine PW.then_exit ?_ | refine PW.block_hit ?_ | refine PW.block_miss rfl ?_ | refine Cut.exit ?_ | refine Rnd.exit ?_)
  refine CW.region ?_
  refine LE (os_box rfl (by rfl)) ?_
  rintro _ _ ⟨b1, rfl, rfl⟩
  refine LE (os_alloc T.ti28) ?_
  rintro _ _ ⟨b2, rfl, rfl⟩
  refine LW.nil ?_
  repeat (first | refine CW.seq ?_ | refine PW.then_ ?_ | refine CW.block ?_ | refine CW.skip ?_ | refine CW.ret ?_ | refine PW.then_ret ?_ | refine PW.block_ret ?_ | refine Cut.ret ?_ | refine Rnd.ret ?_ | refine PW.block_normal ?_ | refine CW.exit ?_ | refine PW.then_exit ?_ | refine PW.block_hit ?_ | refine PW.block_miss rfl ?_ | refine Cut.exit ?_ | refine Rnd.exit ?_)
  refine CW.region ?_
  refine L1 (ps_fa T.fa28_0 (by decide) rfl).os ?_
  refine L1 (os_load1 (by repeat (first | exact pk_head _ _ | apply pk_tail)) T.ag3 rfl (by rfl)) ?_
  refine L1 (ps_mask_i64 (m := 8) rfl rfl rfl (by decide)).os ?_
  refine L1 (ps_rem_pos rfl rfl (by omega) (by decide)).os ?_
  refine L1 (ps_to (congrArg (Value.int .i64) hK) (ps_add_i64 rfl rfl (by omega) (by omega))).os ?_
  refine L1 (ps_build (by rfl) (T.bd28_0 _)).os ?_
  refine LE (os_alloc T.ti28) ?_
  rintro _ _ ⟨b3, rfl, rfl⟩
  refine L1 (os_cb (show _ = rqCells ⟨K, [], [], 0, 0, 0, 0⟩ (.slice none 0 0) (.slice none 0 0) by simp [rqCells, nc]) <| os_storeAll (b := b3) (by repeat (first | exact pk_head _ _ | apply pk_tail)) (by exact T.sz28) rfl rfl (by simp [Value.oneCell']) (by rfl)) ?_
  refine LW.nil ?_
  repeat (first | refine CW.seq ?_ | refine PW.then_ ?_ | refine CW.block ?_ | refine CW.skip ?_ | refine CW.ret ?_ | refine PW.then_ret ?_ | refine PW.block_ret ?_ | refine Cut.ret ?_ | refine Rnd.ret ?_ | refine PW.block_normal ?_ | refine CW.exit ?_ | refine PW.then_exit ?_ | refine PW.block_hit ?_ | refine PW.block_miss rfl ?_ | refine Cut.exit ?_ | refine Rnd.exit ?_)
  refine CW.region ?_
  refine L1 (ps_assign rfl).os ?_
  refine LW.nil ?_
  refine PW.then_ ?_
  refine CW.cutM (α := Value × Value × Asn) [5, 6, 7, 8, 15, 16, 17, 18, 19, 20, 21, 22, 23, 24, 25, 26, 27, 28, 29, 30, 31, 32, 33, 34, 35, 36, 37, 38, 39, 40, 41, 42, 43, 44, 45, 46, 47, 48, 49, 50, 51, 52, 53, 54, 55, 56, 57, 58, 59, 60, 61, 62, 63, 64, 65, 66, 67, 68, 69, 70, 71, 72, 73, 74, 75, 76, 77, 78, 79, 80, 81, 82, 83, 84, 85, 86, 87, 88, 89, 90, 91, 92, 93, 94, 95, 96, 97, 98, 99, 100, 101, 102, 103, 104, 105, 106, 107, 108, 109, 110, 111, 112, 113, 114, 115, 116, 117, 118, 119, 120, 121, 122, 123, 124, 125, 126] (fun a => RowsR a.2.2 a.1 46 ((tameQ q).accs.map accCells) ∧ RowsR a.2.2 a.2.1 16 ((tameQ q).trs.map trCells)) (fun a => [])
    (fun a => cb b3 28 (rqCells (tameQ q) a.1 a.2.1) :: a.2.2 :: A :: cb b2 28 zRow :: F) ?_ ?_
  · repeat (first | refine CW.seq ?_ | refine PW.then_ ?_ | refine CW.block ?_ | refine CW.skip ?_ | refine CW.ret ?_ | refine PW.then_ret ?_ | refine PW.block_ret ?_ | refine Cut.ret ?_ | refine Rnd.ret ?_ | refine PW.block_normal ?_ | refine CW.exit ?_ | refine PW.then_exit ?_ | refine PW.block_hit ?_ | refine PW.block_miss rfl ?_ | refine Cut.exit ?_ | refine Rnd.exit ?_)
    refine CW.region ?_
    refine L1 (ps_fa T.fa28_0 (by decide) rfl).os ?_
    refine L1 (os_load1 (by repeat (first | exact pk_head _ _ | apply pk_tail)) T.ag3 rfl (by rfl)) ?_
    refine LW.nil ?_
    repeat (first | refine CW.seq ?_ | refine PW.then_ ?_ | refine CW.block ?_ | refine CW.skip ?_ | refine CW.ret ?_ | refine PW.then_ret ?_ | refine PW.block_ret ?_ | refine Cut.ret ?_ | refine Rnd.ret ?_ | refine PW.block_normal ?_ | refine CW.exit ?_ | refine PW.then_exit ?_ | refine PW.block_hit ?_ | refine PW.block_miss rfl ?_ | refine Cut.exit ?_ | refine Rnd.exit ?_)
    by_cases k1 : K = 1
    · have hT : tameQ q = ⟨K, (q.accs.take 8).map tameA, [], 0, 0, 0, 0⟩ := by unfold tameQ; rw [hK]; exact if_pos k1
      rw [hT]
      refine CW.region ?_
      refine L1 (ps_t (ps_eql rfl rfl) (k1)).os ?_
      refine L1 (ps_assign rfl).os ?_
      refine LW.nil ?_
      repeat (first | refine CW.seq ?_ | refine PW.then_ ?_ | refine CW.block ?_ | refine CW.skip ?_ | refine CW.ret ?_ | refine PW.then_ret ?_ | refine PW.block_ret ?_ | refine Cut.ret ?_ | refine Rnd.ret ?_ | refine PW.block_normal ?_ | refine CW.exit ?_ | refine PW.then_exit ?_ | refine PW.block_hit ?_ | refine PW.block_miss rfl ?_ | refine Cut.exit ?_ | refine Rnd.exit ?_)
      refine CW.cond_true rfl ?_
      repeat (first | refine CW.seq ?_ | refine PW.then_ ?_ | refine CW.block ?_ | refine CW.skip ?_ | refine CW.ret ?_ | refine PW.then_ret ?_ | refine PW.block_ret ?_ | refine Cut.ret ?_ | refine Rnd.ret ?_ | refine PW.block_normal ?_ | refine CW.exit ?_ | refine PW.then_exit ?_ | refine PW.block_hit ?_ | refine PW.block_miss rfl ?_ | refine Cut.exit ?_ | refine Rnd.exit ?_)
      refine CW.region ?_
      refine L1 (ps_fa T.fa28_1 (by decide) rfl).os ?_
      refine L1 (os_load1 (by repeat (first | exact pk_head _ _ | apply pk_tail)) T.ag22 rfl (by rfl)) ?_
      refine L1 (ps_len_sl T.un22 rfl).os ?_
      refine L1 (ps_move rfl).os ?_
      refine LW.nil ?_
      refine J.ent (Ent.slNil 59 46 _) ?_
      repeat (first | refine CW.seq ?_ | refine PW.then_ ?_ | refine CW.block ?_ | refine CW.skip ?_ | refine CW.ret ?_ | refine PW.then_ret ?_ | refine PW.block_ret ?_ | refine Cut.ret ?_ | refine Rnd.ret ?_ | refine PW.block_normal ?_ | refine CW.exit ?_ | refine PW.then_exit ?_ | refine PW.block_hit ?_ | refine PW.block_miss rfl ?_ | refine Cut.exit ?_ | refine Rnd.exit ?_)
      refine CW.loopM (α := Nat × Option Addr × Nat) [5, 6, 32, 33, 34, 35, 36, 37, 38, 39, 40, 41, 42, 43, 44, 45, 46, 47, 48, 49, 50, 51, 52, 53, 54] (fun kk a => a.1 ≤ q.accs.length ∧ kk = q.accs.length - a.1) (fun a => [(32, .int .i64 a.1)])
        (fun a => cb b3 28 (rqCells ⟨K, [], [], 0, 0, 0, 0⟩ (.slice a.2.1 (min a.1 8) a.2.2) (.slice none 0 0)) :: slOwn 59 46 (.slice a.2.1 (min a.1 8) a.2.2) (min a.1 8) ((((q.accs.take a.1).take 8).map tameA).map accCells).flatten :: A :: cb b2 28 zRow :: F)
        q.accs.length (0, none, 0) ⟨Nat.zero_le _, rfl⟩ ⟨rfl, trivial⟩ (by repeat (first | exact Ent.refl _ | (apply Ent.cons; · repeat (first | exact pk_head _ _ | apply pk_tail)) | apply Ent.skip)) ?_
      rintro kk ⟨i, qq, d⟩ g ⟨hi, hkk⟩
      dsimp only at hi hkk ⊢
      repeat (first | refine CW.seq ?_ | refine PW.then_ ?_ | refine CW.block ?_ | refine CW.skip ?_ | refine CW.ret ?_ | refine PW.then_ret ?_ | refine PW.block_ret ?_ | refine Cut.ret ?_ | refine Rnd.ret ?_ | refine PW.block_normal ?_ | refine CW.exit ?_ | refine PW.then_exit ?_ | refine PW.block_hit ?_ | refine PW.block_miss rfl ?_ | refine Cut.exit ?_ | refine Rnd.exit ?_)
      by_cases hlt : i < q.accs.length
      · have hlg : i < ga.length := by rw [hga, List.length_map] at hlt; exact hlt
        have hfst : (ga[i]).1 = q.accs[i] := by simp only [hga, List.getElem_map]
        have hone := hra ga[i] (List.getElem_mem hlg)
        obtain ⟨vb, vo, rfl⟩ := hpva (fun h => by have := congrArg List.length h; simp at this; rw [this] at hlg; exact absurd hlg (Nat.not_lt_zero _))
        have hsrc := fun As Bs (hp : List.Perm As (A :: Bs)) => h1.src (i := i) (by simpa using hlg) hp
        simp only [List.getElem_map, hfst] at hsrc
        generalize (ga[i]).2 = r at hsrc hone
        refine CW.region ?_
        refine L1 (ps_t (ps_lss rfl rfl) (by omega)).os ?_
        refine LW.nil ?_
        repeat (first | refine CW.seq ?_ | refine PW.then_ ?_ | refine CW.block ?_ | refine CW.skip ?_ | refine CW.ret ?_ | refine PW.then_ret ?_ | refine PW.block_ret ?_ | refine Cut.ret ?_ | refine Rnd.ret ?_ | refine PW.block_normal ?_ | refine CW.exit ?_ | refine PW.then_exit ?_ | refine PW.block_hit ?_ | refine PW.block_miss rfl ?_ | refine Cut.exit ?_ | refine Rnd.exit ?_)
        refine CW.cond_true rfl ?_
        repeat (first | refine CW.seq ?_ | refine PW.then_ ?_ | refine CW.block ?_ | refine CW.skip ?_ | refine CW.ret ?_ | refine PW.then_ret ?_ | refine PW.block_ret ?_ | refine Cut.ret ?_ | refine Rnd.ret ?_ | refine PW.block_normal ?_ | refine CW.exit ?_ | refine PW.then_exit ?_ | refine PW.block_hit ?_ | refine PW.block_miss rfl ?_ | refine Cut.exit ?_ | refine Rnd.exit ?_)
        refine CW.region ?_
        refine L1 (ps_move rfl).os ?_
        refine L1 (ps_ia_slice T.un22 T.sz59 rfl rfl (by omega) (by omega)).os ?_
        refine L1 (os_loadS (vs := gAcc q.accs[i] r) (hsrc _ _ (by repeat (first | exact pk_head _ _ | apply pk_tail))) (by simp [gAcc, nc]) T.ag59 (by rw [gAcc_len _ _ hone.1]; exact T.sz59) rfl) ?_
        refine LE (os_alloc T.ti59) ?_
        rintro _ _ ⟨b6, rfl, rfl⟩
        refine L1 (ps_assign rfl).os ?_
        refine L1 (os_storeAll (b := b6) (vs := gAcc q.accs[i] r) (by repeat (first | exact pk_head _ _ | apply pk_tail)) (by rw [gAcc_len _ _ hone.1]; exact T.sz59) rfl rfl (gAcc_one _ _ hone.2) (by rw [gAcc_len _ _ hone.1]; rfl)) ?_
        refine LW.nil ?_
        repeat (first | refine CW.seq ?_ | refine PW.then_ ?_ | refine CW.block ?_ | refine CW.skip ?_ | refine CW.ret ?_ | refine PW.then_ret ?_ | refine PW.block_ret ?_ | refine Cut.ret ?_ | refine Rnd.ret ?_ | refine PW.block_normal ?_ | refine CW.exit ?_ | refine PW.then_exit ?_ | refine PW.block_hit ?_ | refine PW.block_miss rfl ?_ | refine Cut.exit ?_ | refine Rnd.exit ?_)
        by_cases h8 : i < 8
        · have hm : min i 8 = i := by omega
          have hm2 : min (i + 1) 8 = i + 1 := by omega
          have hxx : (((q.accs.take (i + 1)).take 8).map tameA).map accCells = (((q.accs.take i).take 8).map tameA).map accCells ++ [accCells (tameA q.accs[i])] := by
            rw [List.take_of_length_le (i := 8) (l := q.accs.take (i + 1)) (by rw [List.length_take]; omega), List.take_of_length_le (i := 8) (l := q.accs.take i) (by rw [List.length_take]; omega), List.take_succ_eq_append_getElem hlt, List.map_append, List.map_append]
            rfl
          have hxl : ((((q.accs.take i).take 8).map tameA).map accCells).flatten.length = i * 46 := by
            rw [rows_len 46 _ (fun x hx => by obtain ⟨y, _, rfl⟩ := List.mem_map.1 hx; rfl)]
            simp only [List.length_map, List.length_take]
            omega
          generalize q.accs[i] = a at hxx
          generalize ((((q.accs.take i).take 8).map tameA).map accCells) = old at hxx hxl
          rw [hm]
          refine CW.region ?_
          refine L1 (ps_move rfl).os ?_
          refine L1 (ps_t (ps_lss rfl rfl) (by omega)).os ?_
          refine LW.nil ?_
          repeat (first | refine CW.seq ?_ | refine PW.then_ ?_ | refine CW.block ?_ | refine CW.skip ?_ | refine CW.ret ?_ | refine PW.then_ret ?_ | refine PW.block_ret ?_ | refine Cut.ret ?_ | refine Rnd.ret ?_ | refine PW.block_normal ?_ | refine CW.exit ?_ | refine PW.then_exit ?_ | refine PW.block_hit ?_ | refine PW.block_miss rfl ?_ | refine Cut.exit ?_ | refine Rnd.exit ?_)
          refine CW.cond_true rfl ?_
          repeat (first | refine CW.seq ?_ | refine PW.then_ ?_ | refine CW.block ?_ | refine CW.skip ?_ | refine CW.ret ?_ | refine PW.then_ret ?_ | refine PW.block_ret ?_ | refine Cut.ret ?_ | refine Rnd.ret ?_ | refine PW.block_normal ?_ | refine CW.exit ?_ | refine PW.then_exit ?_ | refine PW.block_hit ?_ | refine PW.block_miss rfl ?_ | refine Cut.exit ?_ | refine Rnd.exit ?_)
          refine CW.cutB (α := Option Addr × Nat) [39, 40, 41, 42, 43, 44, 45, 46, 47, 48, 49, 50, 51, 52, 53] (fun _ => True) (fun _ => [])
            (fun s => cb b3 28 (rqCells ⟨K, [], [], 0, 0, 0, 0⟩ (.slice s.1 (i + 1) s.2) (.slice none 0 0)) :: slOwn 59 46 (.slice s.1 (i + 1) s.2) (i + 1) (old.flatten ++ accCells (tameA a)) :: A :: cb b2 28 zRow :: F) ?_ ?_
          · refine CW.drawH [cb b3 28 (rqCells ⟨K, [], [], 0, 0, 0, 0⟩ (.slice qq i d) (.slice none 0 0)), cb b6 59 (gAcc a r)] [14, 15] T.mixed ?_
            refine H_take (i := 0) (some 39) rfl rfl (by kernel_rfl) (by kernel_rfl) (by kernel_rfl) rfl (ps_fa T.fa28_1 (by decide) rfl).pl (by kernel_rfl) (pkc (by repeat (first | exact pk_head _ _ | apply pk_tail)) (pkc (by repeat (first | exact pk_head _ _ | apply pk_tail)) (pkn _))) ?_
            refine H_take (i := 1) (some 40) rfl rfl (by kernel_rfl) (by kernel_rfl) (by kernel_rfl) rfl (pl_load1 (by repeat (first | exact pk_head _ _ | apply pk_tail)) T.ag22 rfl (by rfl)) (by kernel_rfl) (pkc (by repeat (first | exact pk_head _ _ | apply pk_tail)) (pkc (by repeat (first | exact pk_head _ _ | apply pk_tail)) (pkn _))) ?_
            refine H_take (i := 2) (some 41) rfl rfl (by kernel_rfl) (by kernel_rfl) (by kernel_rfl) rfl (ps_fa T.fa59_0 (by decide) rfl).pl (by kernel_rfl) (pkc (by repeat (first | exact pk_head _ _ | apply pk_tail)) (pkc (by repeat (first | exact pk_head _ _ | apply pk_tail)) (pkn _))) ?_
            refine H_take (i := 3) (some 42) rfl rfl (by kernel_rfl) (by kernel_rfl) (by kernel_rfl) rfl (pl_loadN (vs := nc a.id) (by repeat (first | exact pk_head _ _ | apply pk_tail)) T.ag26 T.sz26 rfl (by rfl) (by rfl)) (by kernel_rfl) (pkc (by repeat (first | exact pk_head _ _ | apply pk_tail)) (pkc (by repeat (first | exact pk_head _ _ | apply pk_tail)) (pkn _))) ?_
            refine H_take (i := 4) (some 43) rfl rfl (by kernel_rfl) (by kernel_rfl) (by kernel_rfl) rfl (ps_move rfl).pl (by kernel_rfl) (pkc (by repeat (first | exact pk_head _ _ | apply pk_tail)) (pkc (by repeat (first | exact pk_head _ _ | apply pk_tail)) (pkn _))) ?_
            refine H_take (i := 5) (some 44) rfl rfl (by kernel_rfl) (by kernel_rfl) (by kernel_rfl) rfl (ps_fa T.fa59_1 (by decide) rfl).pl (by kernel_rfl) (pkc (by repeat (first | exact pk_head _ _ | apply pk_tail)) (pkc (by repeat (first | exact pk_head _ _ | apply pk_tail)) (pkn _))) ?_
            refine H_take (i := 6) (some 45) rfl rfl (by kernel_rfl) (by kernel_rfl) (by kernel_rfl) rfl (pl_load1 (by repeat (first | exact pk_head _ _ | apply pk_tail)) T.ag3 rfl (by rfl)) (by kernel_rfl) (pkc (by repeat (first | exact pk_head _ _ | apply pk_tail)) (pkc (by repeat (first | exact pk_head _ _ | apply pk_tail)) (pkn _))) ?_
            refine H_take (i := 8) (some 47) rfl rfl (by kernel_rfl) (by kernel_rfl) (by kernel_rfl) rfl (ps_fa T.fa59_2 (by decide) rfl).pl (by kernel_rfl) (pkc (by repeat (first | exact pk_head _ _ | apply pk_tail)) (pkc (by repeat (first | exact pk_head _ _ | apply pk_tail)) (pkn _))) ?_
            refine H_take (i := 9) (some 48) rfl rfl (by kernel_rfl) (by kernel_rfl) (by kernel_rfl) rfl (pl_load1 (by repeat (first | exact pk_head _ _ | apply pk_tail)) T.ag3 rfl (by rfl)) (by kernel_rfl) (pkc (by repeat (first | exact pk_head _ _ | apply pk_tail)) (pkc (by repeat (first | exact pk_head _ _ | apply pk_tail)) (pkn _))) ?_
            refine H_take (i := 10) (some 49) rfl rfl (by kernel_rfl) (by kernel_rfl) (by kernel_rfl) rfl (ps_mask_i64 (m := 16) rfl rfl rfl (by decide)).pl (by kernel_rfl) (pkc (by repeat (first | exact pk_head _ _ | apply pk_tail)) (pkc (by repeat (first | exact pk_head _ _ | apply pk_tail)) (pkn _))) ?_
            refine H_branch (rs := [7]) (by kernel_rfl) (by simp) ?_
            refine HR.cons1 (i := 7) (some 46) rfl rfl rfl (os_callv0 (four_spec a.led) Try.func34 (by decide +kernel) rfl rfl rfl) (pkc (by repeat (first | exact pk_head _ _ | apply pk_tail)) (pkc (by repeat (first | exact pk_head _ _ | apply pk_tail)) (pkn _))) ?_ ?_
            · skip
              refine H_take (i := 11) (some 50) rfl rfl (by kernel_rfl) (by kernel_rfl) (by kernel_rfl) rfl (ps_to (u := .agg (accCells (tameA a)).toArray) (by rfl) (ps_build (by rfl) (T.bd59_0_1_2 _ _ _ _))).pl (by kernel_rfl) (pkc (by repeat (first | exact pk_head _ _ | apply pk_tail)) (pkc (by repeat (first | exact pk_head _ _ | apply pk_tail)) (pkn _))) ?_
              refine H_branch (rs := [12]) (by kernel_rfl) (by simp) ?_
              refine HR.consE (i := 12) (some 51) rfl rfl rfl (os_bsl1 (vs := accCells (tameA a)) T.un22 T.ti59 (by rfl) rfl (by rfl) (by rfl) (by decide) (by decide)) ?_ ?_
              · rintro _ _ ⟨b51, rfl, rfl⟩
                refine ⟨fun _ => ⟨_, (pkc (by repeat (first | exact pk_head _ _ | apply pk_tail)) (pkc (by repeat (first | exact pk_head _ _ | apply pk_tail)) (pkn _)))⟩, ?_⟩
                refine H_branch (rs := [13]) (by kernel_rfl) (by simp) ?_
                refine HR.consE (i := 13) (some 52) rfl rfl rfl (os_append (xs := old.flatten) (news := accCells (tameA a)) (by repeat (first | exact pk_head _ _ | apply pk_tail)) T.un22 T.ti59 (by rfl) (by decide) rfl rfl (by rfl) (Src.cb (b := b51) (by repeat (first | exact pk_head _ _ | apply pk_tail)) (by rfl)) (accCells_one _) (by unfold maxLen; omega) (by omega)) ?_ ?_
                · rintro _ _ ⟨q', d', rfl, rfl, hq'⟩
                  refine ⟨fun _ => ⟨_, (pkc (by repeat (first | exact pk_head _ _ | apply pk_tail)) (pkc (by repeat (first | exact pk_head _ _ | apply pk_tail)) (pkn _)))⟩, ?_⟩
                  refine H_takeP (i := 14) (some 53) rfl rfl (by kernel_rfl) (by kernel_rfl) (by kernel_rfl) rfl (ps_fa T.fa28_1 (by decide) rfl) (by decide) ?_
                  refine H_branch (rs := [15]) (by kernel_rfl) (by simp) ?_
                  refine HR.consL (i := 15) none rfl rfl rfl (os_cbr (rqCells ⟨K, [], [], 0, 0, 0, 0⟩ (.slice q' (i + 1) d') (.slice none 0 0)) (os_store1 (b := b3) (by repeat (first | exact pk_head _ _ | apply pk_tail)) T.sz22 rfl rfl (by rfl) (Nat.le_of_ble_eq_true rfl)) (by rfl)) (by decide) ?_ ?_
                  · skip
                    refine H_done (by kernel_rfl) ?_
                    exact Meet.cut (q', d') trivial (by repeat (first | (with_reducible exact Ag.refl _ _) | (with_reducible apply Ag.pu0) | ((with_reducible refine Ag.pu _ ?_ ?_); · exact rfl) | ((with_reducible refine Ag.mix ?_ ?_); · exact rfl) | ((with_reducible refine Ag.pus ?_ ?_); · exact rfl))) (by exact trivial) (by repeat (first | exact Ent.refl _ | (apply Ent.cons; · repeat (first | exact pk_head _ _ | apply pk_tail)) | apply Ent.skip))
                  exact HR.nil
                exact HR.nil
              exact HR.nil
            exact HR.nil
          rintro ⟨q2, d2⟩ g2 _
          dsimp only
          repeat (first | refine CW.seq ?_ | refine PW.then_ ?_ | refine CW.block ?_ | refine CW.skip ?_ | refine CW.ret ?_ | refine PW.then_ret ?_ | refine PW.block_ret ?_ | refine Cut.ret ?_ | refine Rnd.ret ?_ | refine PW.block_normal ?_ | refine CW.exit ?_ | refine PW.then_exit ?_ | refine PW.block_hit ?_ | refine PW.block_miss rfl ?_ | refine Cut.exit ?_ | refine Rnd.exit ?_)
          refine CW.region ?_
          refine L1 (ps_add_i64 rfl rfl (by omega) (by omega)).os ?_
          refine L1 (ps_move rfl).os ?_
          refine LW.nil ?_
          exact Meet.round (q.accs.length - (i + 1)) (i + 1, q2, d2) (by omega) ⟨hlt, rfl⟩ (by repeat (first | (with_reducible exact Ag.refl _ _) | (with_reducible apply Ag.pu0) | ((with_reducible refine Ag.pu _ ?_ ?_); · exact rfl) | ((with_reducible refine Ag.mix ?_ ?_); · exact rfl) | ((with_reducible refine Ag.pus ?_ ?_); · exact rfl))) ⟨rfl, trivial⟩ (by dsimp only; rw [hm2, hxx, List.flatten_append, show [accCells (tameA a)].flatten = accCells (tameA a) by simp]; exact (by repeat (first | exact Ent.refl _ | (apply Ent.cons; · repeat (first | exact pk_head _ _ | apply pk_tail)) | apply Ent.skip)))
        · have hm2 : min (i + 1) 8 = min i 8 := by omega
          have hxx : (q.accs.take (i + 1)).take 8 = (q.accs.take i).take 8 := by
            rw [List.take_take, List.take_take, Nat.min_comm, hm2, Nat.min_comm]
          refine CW.region ?_
          refine L1 (ps_move rfl).os ?_
          refine L1 (ps_f (ps_lss rfl rfl) (by omega)).os ?_
          refine LW.nil ?_
          repeat (first | refine CW.seq ?_ | refine PW.then_ ?_ | refine CW.block ?_ | refine CW.skip ?_ | refine CW.ret ?_ | refine PW.then_ret ?_ | refine PW.block_ret ?_ | refine Cut.ret ?_ | refine Rnd.ret ?_ | refine PW.block_normal ?_ | refine CW.exit ?_ | refine PW.then_exit ?_ | refine PW.block_hit ?_ | refine PW.block_miss rfl ?_ | refine Cut.exit ?_ | refine Rnd.exit ?_)
          refine CW.cond_false rfl ?_
          repeat (first | refine CW.seq ?_ | refine PW.then_ ?_ | refine CW.block ?_ | refine CW.skip ?_ | refine CW.ret ?_ | refine PW.then_ret ?_ | refine PW.block_ret ?_ | refine Cut.ret ?_ | refine Rnd.ret ?_ | refine PW.block_normal ?_ | refine CW.exit ?_ | refine PW.then_exit ?_ | refine PW.block_hit ?_ | refine PW.block_miss rfl ?_ | refine Cut.exit ?_ | refine Rnd.exit ?_)
          refine CW.region ?_
          refine L1 (ps_add_i64 rfl rfl (by omega) (by omega)).os ?_
          refine L1 (ps_move rfl).os ?_
          refine LW.nil ?_
          exact Meet.round (q.accs.length - (i + 1)) (i + 1, qq, d) (by omega) ⟨hlt, rfl⟩ (by repeat (first | (with_reducible exact Ag.refl _ _) | (with_reducible apply Ag.pu0) | ((with_reducible refine Ag.pu _ ?_ ?_); · exact rfl) | ((with_reducible refine Ag.mix ?_ ?_); · exact rfl) | ((with_reducible refine Ag.pus ?_ ?_); · exact rfl))) ⟨rfl, trivial⟩ (by dsimp only; rw [hm2, hxx]; exact (by repeat (first | exact Ent.refl _ | (apply Ent.cons; · repeat (first | exact pk_head _ _ | apply pk_tail)) | apply Ent.skip)))
      · have hin : i = q.accs.length := by omega
        subst hin
        rw [List.take_length]
        refine CW.region ?_
        refine L1 (ps_f (ps_lss rfl rfl) (by omega)).os ?_
        refine LW.nil ?_
        repeat (first | refine CW.seq ?_ | refine PW.then_ ?_ | refine CW.block ?_ | refine CW.skip ?_ | refine CW.ret ?_ | refine PW.then_ret ?_ | refine PW.block_ret ?_ | refine Cut.ret ?_ | refine Rnd.ret ?_ | refine PW.block_normal ?_ | refine CW.exit ?_ | refine PW.then_exit ?_ | refine PW.block_hit ?_ | refine PW.block_miss rfl ?_ | refine Cut.exit ?_ | refine Rnd.exit ?_)
        refine CW.cond_false rfl ?_
        repeat (first | refine CW.seq ?_ | refine PW.then_ ?_ | refine CW.block ?_ | refine CW.skip ?_ | refine CW.ret ?_ | refine PW.then_ret ?_ | refine PW.block_ret ?_ | refine Cut.ret ?_ | refine Rnd.ret ?_ | refine PW.block_normal ?_ | refine CW.exit ?_ | refine PW.then_exit ?_ | refine PW.block_hit ?_ | refine PW.block_miss rfl ?_ | refine Cut.exit ?_ | refine Rnd.exit ?_)
        refine slOwn_info (Bs := _) (xs := (((q.accs.take 8).map tameA).map accCells).flatten) (by repeat (first | exact pk_head _ _ | apply pk_tail)) fun z1 z2 z3 => ?_
        exact Meet.cut (.slice qq (min q.accs.length 8) d, .slice none 0 0, slOwn 59 46 (.slice qq (min q.accs.length 8) d) (min q.accs.length 8) (((q.accs.take 8).map tameA).map accCells).flatten) ⟨RowsR.own _ (accs_len _) (by simp only [List.length_map, List.length_take]; omega) z1 z2 z3, RowsR.nil _ _⟩ (by repeat (first | (with_reducible exact Ag.refl _ _) | (with_reducible apply Ag.pu0) | ((with_reducible refine Ag.pu _ ?_ ?_); · exact rfl) | ((with_reducible refine Ag.mix ?_ ?_); · exact rfl) | ((with_reducible refine Ag.pus ?_ ?_); · exact rfl))) (by exact trivial) (Ent.refl_of (by repeat (first | exact Ent.refl _ | (apply Ent.cons; · repeat (first | exact pk_head _ _ | apply pk_tail)) | apply Ent.skip)))
    refine CW.region ?_
    refine L1 (ps_f (ps_eql rfl rfl) (k1)).os ?_
    refine L1 (ps_assign rfl).os ?_
    refine LW.nil ?_
    repeat (first | refine CW.seq ?_ | refine PW.then_ ?_ | refine CW.block ?_ | refine CW.skip ?_ | refine CW.ret ?_ | refine PW.then_ret ?_ | refine PW.block_ret ?_ | refine Cut.ret ?_ | refine Rnd.ret ?_ | refine PW.block_normal ?_ | refine CW.exit ?_ | refine PW.then_exit ?_ | refine PW.block_hit ?_ | refine PW.block_miss rfl ?_ | refine Cut.exit ?_ | refine Rnd.exit ?_)
    refine CW.cond_false rfl ?_
    repeat (first | refine CW.seq ?_ | refine PW.then_ ?_ | refine CW.block ?_ | refine CW.skip ?_ | refine CW.ret ?_ | refine PW.then_ret ?_ | refine PW.block_ret ?_ | refine Cut.ret ?_ | refine Rnd.ret ?_ | refine PW.block_normal ?_ | refine CW.exit ?_ | refine PW.then_exit ?_ | refine PW.block_hit ?_ | refine PW.block_miss rfl ?_ | refine Cut.exit ?_ | refine Rnd.exit ?_)
    by_cases k2 : K = 2
    · have hT : tameQ q = ⟨K, [], (q.trs.take 8).map tameT, 0, 0, 0, 0⟩ := by unfold tameQ; rw [hK]; exact (if_neg k1).trans (if_pos k2)
      rw [hT]
      refine CW.region ?_
      refine L1 (ps_t (ps_eql rfl rfl) (k2)).os ?_
      refine L1 (ps_assign rfl).os ?_
      refine LW.nil ?_
      repeat (first | refine CW.seq ?_ | refine PW.then_ ?_ | refine CW.block ?_ | refine CW.skip ?_ | refine CW.ret ?_ | refine PW.then_ret ?_ | refine PW.block_ret ?_ | refine Cut.ret ?_ | refine Rnd.ret ?_ | refine PW.block_normal ?_ | refine CW.exit ?_ | refine PW.then_exit ?_ | refine PW.block_hit ?_ | refine PW.block_miss rfl ?_ | refine Cut.exit ?_ | refine Rnd.exit ?_)
      refine CW.cond_true rfl ?_
      repeat (first | refine CW.seq ?_ | refine PW.then_ ?_ | refine CW.block ?_ | refine CW.skip ?_ | refine CW.ret ?_ | refine PW.then_ret ?_ | refine PW.block_ret ?_ | refine Cut.ret ?_ | refine Rnd.ret ?_ | refine PW.block_normal ?_ | refine CW.exit ?_ | refine PW.then_exit ?_ | refine PW.block_hit ?_ | refine PW.block_miss rfl ?_ | refine Cut.exit ?_ | refine Rnd.exit ?_)
      refine CW.region ?_
      refine L1 (ps_fa T.fa28_2 (by decide) rfl).os ?_
      refine L1 (os_load1 (by repeat (first | exact pk_head _ _ | apply pk_tail)) T.ag23 rfl (by rfl)) ?_
      refine L1 (ps_len_sl T.un23 rfl).os ?_
      refine L1 (ps_move rfl).os ?_
      refine LW.nil ?_
      refine J.ent (Ent.slNil 71 16 _) ?_
      repeat (first | refine CW.seq ?_ | refine PW.then_ ?_ | refine CW.block ?_ | refine CW.skip ?_ | refine CW.ret ?_ | refine PW.then_ret ?_ | refine PW.block_ret ?_ | refine Cut.ret ?_ | refine Rnd.ret ?_ | refine PW.block_normal ?_ | refine CW.exit ?_ | refine PW.then_exit ?_ | refine PW.block_hit ?_ | refine PW.block_miss rfl ?_ | refine Cut.exit ?_ | refine Rnd.exit ?_)
      refine CW.loopM (α := Nat × Option Addr × Nat) [7, 8, 60, 61, 62, 63, 64, 65, 66, 67, 68, 69, 70, 71, 72, 73, 74, 75, 76, 77, 78, 79, 80, 81, 82, 83, 84, 85, 86, 87, 88, 89, 90, 91, 92, 93, 94] (fun kk a => a.1 ≤ q.trs.length ∧ kk = q.trs.length - a.1) (fun a => [(60, .int .i64 a.1)])
        (fun a => cb b3 28 (rqCells ⟨K, [], [], 0, 0, 0, 0⟩ (.slice none 0 0) (.slice a.2.1 (min a.1 8) a.2.2)) :: slOwn 71 16 (.slice a.2.1 (min a.1 8) a.2.2) (min a.1 8) ((((q.trs.take a.1).take 8).map tameT).map trCells).flatten :: A :: cb b2 28 zRow :: F)
        q.trs.length (0, none, 0) ⟨Nat.zero_le _, rfl⟩ ⟨rfl, trivial⟩ (by repeat (first | exact Ent.refl _ | (apply Ent.cons; · repeat (first | exact pk_head _ _ | apply pk_tail)) | apply Ent.skip)) ?_
      rintro kk ⟨i, qq, d⟩ g ⟨hi, hkk⟩
      dsimp only at hi hkk ⊢
      repeat (first | refine CW.seq ?_ | refine PW.then_ ?_ | refine CW.block ?_ | refine CW.skip ?_ | refine CW.ret ?_ | refine PW.then_ret ?_ | refine PW.block_ret ?_ | refine Cut.ret ?_ | refine Rnd.ret ?_ | refine PW.block_normal ?_ | refine CW.exit ?_ | refine PW.then_exit ?_ | refine PW.block_hit ?_ | refine PW.block_miss rfl ?_ | refine Cut.exit ?_ | refine Rnd.exit ?_)
      by_cases hlt : i < q.trs.length
      · have hlg : i < gt.length := by rw [hgt, List.length_map] at hlt; exact hlt
        have hfst : (gt[i]).1 = q.trs[i] := by simp only [hgt, List.getElem_map]
        have hone := hrt gt[i] (List.getElem_mem hlg)
        obtain ⟨vb, vo, rfl⟩ := hpvt (fun h => by have := congrArg List.length h; simp at this; rw [this] at hlg; exact absurd hlg (Nat.not_lt_zero _))
        have hsrc := fun As Bs (hp : List.Perm As (A :: Bs)) => h2.src (i := i) (by simpa using hlg) hp
        simp only [List.getElem_map, hfst] at hsrc
        generalize (gt[i]).2 = r at hsrc hone
        refine CW.region ?_
        refine L1 (ps_t (ps_lss rfl rfl) (by omega)).os ?_
        refine LW.nil ?_
        repeat (first | refine CW.seq ?_ | refine PW.then_ ?_ | refine CW.block ?_ | refine CW.skip ?_ | refine CW.ret ?_ | refine PW.then_ret ?_ | refine PW.block_ret ?_ | refine Cut.ret ?_ | refine Rnd.ret ?_ | refine PW.block_normal ?_ | refine CW.exit ?_ | refine PW.then_exit ?_ | refine PW.block_hit ?_ | refine PW.block_miss rfl ?_ | refine Cut.exit ?_ | refine Rnd.exit ?_)
        refine CW.cond_true rfl ?_
        repeat (first | refine CW.seq ?_ | refine PW.then_ ?_ | refine CW.block ?_ | refine CW.skip ?_ | refine CW.ret ?_ | refine PW.then_ret ?_ | refine PW.block_ret ?_ | refine Cut.ret ?_ | refine Rnd.ret ?_ | refine PW.block_normal ?_ | refine CW.exit ?_ | refine PW.then_exit ?_ | refine PW.block_hit ?_ | refine PW.block_miss rfl ?_ | refine Cut.exit ?_ | refine Rnd.exit ?_)
        refine CW.region ?_
        refine L1 (ps_move rfl).os ?_
        refine L1 (ps_ia_slice T.un23 T.sz71 rfl rfl (by omega) (by omega)).os ?_
        refine L1 (os_loadS (vs := gTr q.trs[i] r) (hsrc _ _ (by repeat (first | exact pk_head _ _ | apply pk_tail))) (by simp [gTr, nc]) T.ag71 (by rw [gTr_len _ _ hone.1]; exact T.sz71) rfl) ?_
        refine LE (os_alloc T.ti71) ?_
        rintro _ _ ⟨b8, rfl, rfl⟩
        refine L1 (ps_assign rfl).os ?_
        refine L1 (os_storeAll (b := b8) (vs := gTr q.trs[i] r) (by repeat (first | exact pk_head _ _ | apply pk_tail)) (by rw [gTr_len _ _ hone.1]; exact T.sz71) rfl rfl (gTr_one _ _ hone.2) (by rw [gTr_len _ _ hone.1]; rfl)) ?_
        refine LW.nil ?_
        repeat (first | refine CW.seq ?_ | refine PW.then_ ?_ | refine CW.block ?_ | refine CW.skip ?_ | refine CW.ret ?_ | refine PW.then_ret ?_ | refine PW.block_ret ?_ | refine Cut.ret ?_ | refine Rnd.ret ?_ | refine PW.block_normal ?_ | refine CW.exit ?_ | refine PW.then_exit ?_ | refine PW.block_hit ?_ | refine PW.block_miss rfl ?_ | refine Cut.exit ?_ | refine Rnd.exit ?_)
        by_cases h8 : i < 8
        · have hm : min i 8 = i := by omega
          have hm2 : min (i + 1) 8 = i + 1 := by omega
          have hxx : (((q.trs.take (i + 1)).take 8).map tameT).map trCells = (((q.trs.take i).take 8).map tameT).map trCells ++ [trCells (tameT q.trs[i])] := by
            rw [List.take_of_length_le (i := 8) (l := q.trs.take (i + 1)) (by rw [List.length_take]; omega), List.take_of_length_le (i := 8) (l := q.trs.take i) (by rw [List.length_take]; omega), List.take_succ_eq_append_getElem hlt, List.map_append, List.map_append]
            rfl
          have hxl : ((((q.trs.take i).take 8).map tameT).map trCells).flatten.length = i * 16 := by
            rw [rows_len 16 _ (fun x hx => by obtain ⟨y, _, rfl⟩ := List.mem_map.1 hx; rfl)]
            simp only [List.length_map, List.length_take]
            omega
          generalize q.trs[i] = a at hxx
          generalize ((((q.trs.take i).take 8).map tameT).map trCells) = old at hxx hxl
          rw [hm]
          refine CW.region ?_
          refine L1 (ps_move rfl).os ?_
          refine L1 (ps_t (ps_lss rfl rfl) (by omega)).os ?_
          refine LW.nil ?_
          repeat (first | refine CW.seq ?_ | refine PW.then_ ?_ | refine CW.block ?_ | refine CW.skip ?_ | refine CW.ret ?_ | refine PW.then_ret ?_ | refine PW.block_ret ?_ | refine Cut.ret ?_ | refine Rnd.ret ?_ | refine PW.block_normal ?_ | refine CW.exit ?_ | refine PW.then_exit ?_ | refine PW.block_hit ?_ | refine PW.block_miss rfl ?_ | refine Cut.exit ?_ | refine Rnd.exit ?_)
          refine CW.cond_true rfl ?_
          repeat (first | refine CW.seq ?_ | refine PW.then_ ?_ | refine CW.block ?_ | refine CW.skip ?_ | refine CW.ret ?_ | refine PW.then_ret ?_ | refine PW.block_ret ?_ | refine Cut.ret ?_ | refine Rnd.ret ?_ | refine PW.block_normal ?_ | refine CW.exit ?_ | refine PW.then_exit ?_ | refine PW.block_hit ?_ | refine PW.block_miss rfl ?_ | refine Cut.exit ?_ | refine Rnd.exit ?_)
          refine CW.cutB (α := Option Addr × Nat) [67, 68, 69, 70, 71, 72, 73, 74, 75, 76, 77, 78, 79, 80, 81, 82, 83, 84, 85, 86, 87, 88, 89, 90, 91, 92, 93] (fun _ => True) (fun _ => [])
            (fun s => cb b3 28 (rqCells ⟨K, [], [], 0, 0, 0, 0⟩ (.slice none 0 0) (.slice s.1 (i + 1) s.2)) :: slOwn 71 16 (.slice s.1 (i + 1) s.2) (i + 1) (old.flatten ++ trCells (tameT a)) :: A :: cb b2 28 zRow :: F) ?_ ?_
          · refine CW.drawH [cb b3 28 (rqCells ⟨K, [], [], 0, 0, 0, 0⟩ (.slice none 0 0) (.slice qq i d)), cb b8 71 (gTr a r)] [26, 27] T.mixed ?_
            refine H_take (i := 0) (some 67) rfl rfl (by kernel_rfl) (by kernel_rfl) (by kernel_rfl) rfl (ps_fa T.fa28_2 (by decide) rfl).pl (by kernel_rfl) (pkc (by repeat (first | exact pk_head _ _ | apply pk_tail)) (pkc (by repeat (first | exact pk_head _ _ | apply pk_tail)) (pkn _))) ?_
            refine H_take (i := 1) (some 68) rfl rfl (by kernel_rfl) (by kernel_rfl) (by kernel_rfl) rfl (pl_load1 (by repeat (first | exact pk_head _ _ | apply pk_tail)) T.ag23 rfl (by rfl)) (by kernel_rfl) (pkc (by repeat (first | exact pk_head _ _ | apply pk_tail)) (pkc (by repeat (first | exact pk_head _ _ | apply pk_tail)) (pkn _))) ?_
            refine H_take (i := 2) (some 69) rfl rfl (by kernel_rfl) (by kernel_rfl) (by kernel_rfl) rfl (ps_fa T.fa71_0 (by decide) rfl).pl (by kernel_rfl) (pkc (by repeat (first | exact pk_head _ _ | apply pk_tail)) (pkc (by repeat (first | exact pk_head _ _ | apply pk_tail)) (pkn _))) ?_
            refine H_take (i := 3) (some 70) rfl rfl (by kernel_rfl) (by kernel_rfl) (by kernel_rfl) rfl (pl_loadN (vs := nc a.id) (by repeat (first | exact pk_head _ _ | apply pk_tail)) T.ag26 T.sz26 rfl (by rfl) (by rfl)) (by kernel_rfl) (pkc (by repeat (first | exact pk_head _ _ | apply pk_tail)) (pkc (by repeat (first | exact pk_head _ _ | apply pk_tail)) (pkn _))) ?_
            refine H_take (i := 4) (some 71) rfl rfl (by kernel_rfl) (by kernel_rfl) (by kernel_rfl) rfl (ps_fa T.fa71_1 (by decide) rfl).pl (by kernel_rfl) (pkc (by repeat (first | exact pk_head _ _ | apply pk_tail)) (pkc (by repeat (first | exact pk_head _ _ | apply pk_tail)) (pkn _))) ?_
            refine H_take (i := 5) (some 72) rfl rfl (by kernel_rfl) (by kernel_rfl) (by kernel_rfl) rfl (pl_loadN (vs := nc a.deb) (by repeat (first | exact pk_head _ _ | apply pk_tail)) T.ag26 T.sz26 rfl (by rfl) (by rfl)) (by kernel_rfl) (pkc (by repeat (first | exact pk_head _ _ | apply pk_tail)) (pkc (by repeat (first | exact pk_head _ _ | apply pk_tail)) (pkn _))) ?_
            refine H_take (i := 6) (some 73) rfl rfl (by kernel_rfl) (by kernel_rfl) (by kernel_rfl) rfl (ps_fa T.fa71_2 (by decide) rfl).pl (by kernel_rfl) (pkc (by repeat (first | exact pk_head _ _ | apply pk_tail)) (pkc (by repeat (first | exact pk_head _ _ | apply pk_tail)) (pkn _))) ?_
            refine H_take (i := 7) (some 74) rfl rfl (by kernel_rfl) (by kernel_rfl) (by kernel_rfl) rfl (pl_loadN (vs := nc a.cre) (by repeat (first | exact pk_head _ _ | apply pk_tail)) T.ag26 T.sz26 rfl (by rfl) (by rfl)) (by kernel_rfl) (pkc (by repeat (first | exact pk_head _ _ | apply pk_tail)) (pkc (by repeat (first | exact pk_head _ _ | apply pk_tail)) (pkn _))) ?_
            refine H_take (i := 8) (some 75) rfl rfl (by kernel_rfl) (by kernel_rfl) (by kernel_rfl) rfl (ps_fa T.fa71_3 (by decide) rfl).pl (by kernel_rfl) (pkc (by repeat (first | exact pk_head _ _ | apply pk_tail)) (pkc (by repeat (first | exact pk_head _ _ | apply pk_tail)) (pkn _))) ?_
            refine H_take (i := 9) (some 76) rfl rfl (by kernel_rfl) (by kernel_rfl) (by kernel_rfl) rfl (pl_loadN (vs := nc a.amo) (by repeat (first | exact pk_head _ _ | apply pk_tail)) T.ag26 T.sz26 rfl (by rfl) (by rfl)) (by kernel_rfl) (pkc (by repeat (first | exact pk_head _ _ | apply pk_tail)) (pkc (by repeat (first | exact pk_head _ _ | apply pk_tail)) (pkn _))) ?_
            refine H_take (i := 10) (some 77) rfl rfl (by kernel_rfl) (by kernel_rfl) (by kernel_rfl) rfl (ps_fa T.fa71_4 (by decide) rfl).pl (by kernel_rfl) (pkc (by repeat (first | exact pk_head _ _ | apply pk_tail)) (pkc (by repeat (first | exact pk_head _ _ | apply pk_tail)) (pkn _))) ?_
            refine H_take (i := 11) (some 78) rfl rfl (by kernel_rfl) (by kernel_rfl) (by kernel_rfl) rfl (pl_loadN (vs := nc a.pen) (by repeat (first | exact pk_head _ _ | apply pk_tail)) T.ag26 T.sz26 rfl (by rfl) (by rfl)) (by kernel_rfl) (pkc (by repeat (first | exact pk_head _ _ | apply pk_tail)) (pkc (by repeat (first | exact pk_head _ _ | apply pk_tail)) (pkn _))) ?_
            refine H_take (i := 12) (some 79) rfl rfl (by kernel_rfl) (by kernel_rfl) (by kernel_rfl) rfl (ps_move rfl).pl (by kernel_rfl) (pkc (by repeat (first | exact pk_head _ _ | apply pk_tail)) (pkc (by repeat (first | exact pk_head _ _ | apply pk_tail)) (pkn _))) ?_
            refine H_take (i := 13) (some 80) rfl rfl (by kernel_rfl) (by kernel_rfl) (by kernel_rfl) rfl (ps_fa T.fa71_5 (by decide) rfl).pl (by kernel_rfl) (pkc (by repeat (first | exact pk_head _ _ | apply pk_tail)) (pkc (by repeat (first | exact pk_head _ _ | apply pk_tail)) (pkn _))) ?_
            refine H_take (i := 14) (some 81) rfl rfl (by kernel_rfl) (by kernel_rfl) (by kernel_rfl) rfl (pl_load1 (by repeat (first | exact pk_head _ _ | apply pk_tail)) T.ag3 rfl (by rfl)) (by kernel_rfl) (pkc (by repeat (first | exact pk_head _ _ | apply pk_tail)) (pkc (by repeat (first | exact pk_head _ _ | apply pk_tail)) (pkn _))) ?_
            refine H_take (i := 16) (some 83) rfl rfl (by kernel_rfl) (by kernel_rfl) (by kernel_rfl) rfl (ps_move rfl).pl (by kernel_rfl) (pkc (by repeat (first | exact pk_head _ _ | apply pk_tail)) (pkc (by repeat (first | exact pk_head _ _ | apply pk_tail)) (pkn _))) ?_
            refine H_take (i := 17) (some 84) rfl rfl (by kernel_rfl) (by kernel_rfl) (by kernel_rfl) rfl (ps_fa T.fa71_6 (by decide) rfl).pl (by kernel_rfl) (pkc (by repeat (first | exact pk_head _ _ | apply pk_tail)) (pkc (by repeat (first | exact pk_head _ _ | apply pk_tail)) (pkn _))) ?_
            refine H_take (i := 18) (some 85) rfl rfl (by kernel_rfl) (by kernel_rfl) (by kernel_rfl) rfl (pl_load1 (by repeat (first | exact pk_head _ _ | apply pk_tail)) T.ag3 rfl (by rfl)) (by kernel_rfl) (pkc (by repeat (first | exact pk_head _ _ | apply pk_tail)) (pkc (by repeat (first | exact pk_head _ _ | apply pk_tail)) (pkn _))) ?_
            refine H_take (i := 20) (some 87) rfl rfl (by kernel_rfl) (by kernel_rfl) (by kernel_rfl) rfl (ps_fa T.fa71_7 (by decide) rfl).pl (by kernel_rfl) (pkc (by repeat (first | exact pk_head _ _ | apply pk_tail)) (pkc (by repeat (first | exact pk_head _ _ | apply pk_tail)) (pkn _))) ?_
            refine H_take (i := 21) (some 88) rfl rfl (by kernel_rfl) (by kernel_rfl) (by kernel_rfl) rfl (pl_load1 (by repeat (first | exact pk_head _ _ | apply pk_tail)) T.ag3 rfl (by rfl)) (by kernel_rfl) (pkc (by repeat (first | exact pk_head _ _ | apply pk_tail)) (pkc (by repeat (first | exact pk_head _ _ | apply pk_tail)) (pkn _))) ?_
            refine H_take (i := 22) (some 89) rfl rfl (by kernel_rfl) (by kernel_rfl) (by kernel_rfl) rfl (ps_mask_i64 (m := 16) rfl rfl rfl (by decide)).pl (by kernel_rfl) (pkc (by repeat (first | exact pk_head _ _ | apply pk_tail)) (pkc (by repeat (first | exact pk_head _ _ | apply pk_tail)) (pkn _))) ?_
            refine H_branch (rs := [15]) (by kernel_rfl) (by simp) ?_
            refine HR.cons1 (i := 15) (some 82) rfl rfl rfl (os_callv0 (four_spec a.tim) Try.func34 (by decide +kernel) rfl rfl rfl) (pkc (by repeat (first | exact pk_head _ _ | apply pk_tail)) (pkc (by repeat (first | exact pk_head _ _ | apply pk_tail)) (pkn _))) ?_ ?_
            · skip
              refine H_branch (rs := [19]) (by kernel_rfl) (by simp) ?_
              refine HR.cons1 (i := 19) (some 86) rfl rfl rfl (os_callv0 (four_spec a.led) Try.func34 (by decide +kernel) rfl rfl rfl) (pkc (by repeat (first | exact pk_head _ _ | apply pk_tail)) (pkc (by repeat (first | exact pk_head _ _ | apply pk_tail)) (pkn _))) ?_ ?_
              · skip
                refine H_take (i := 23) (some 90) rfl rfl (by kernel_rfl) (by kernel_rfl) (by kernel_rfl) rfl (ps_to (u := .agg (trCells (tameT a)).toArray) (by rfl) (ps_build (by rfl) (T.bd71_0_1_2_3_4_5_6_7 _ _ _ _ _ _ _ _ _ _ _ _ _))).pl (by kernel_rfl) (pkc (by repeat (first | exact pk_head _ _ | apply pk_tail)) (pkc (by repeat (first | exact pk_head _ _ | apply pk_tail)) (pkn _))) ?_
                refine H_branch (rs := [24]) (by kernel_rfl) (by simp) ?_
                refine HR.consE (i := 24) (some 91) rfl rfl rfl (os_bsl1 (vs := trCells (tameT a)) T.un23 T.ti71 (by rfl) rfl (by rfl) (by rfl) (by decide) (by decide)) ?_ ?_
                · rintro _ _ ⟨b91, rfl, rfl⟩
                  refine ⟨fun _ => ⟨_, (pkc (by repeat (first | exact pk_head _ _ | apply pk_tail)) (pkc (by repeat (first | exact pk_head _ _ | apply pk_tail)) (pkn _)))⟩, ?_⟩
                  refine H_branch (rs := [25]) (by kernel_rfl) (by simp) ?_
                  refine HR.consE (i := 25) (some 92) rfl rfl rfl (os_append (xs := old.flatten) (news := trCells (tameT a)) (by repeat (first | exact pk_head _ _ | apply pk_tail)) T.un23 T.ti71 (by rfl) (by decide) rfl rfl (by rfl) (Src.cb (b := b91) (by repeat (first | exact pk_head _ _ | apply pk_tail)) (by rfl)) (trCells_one _) (by unfold maxLen; omega) (by omega)) ?_ ?_
                  · rintro _ _ ⟨q', d', rfl, rfl, hq'⟩
                    refine ⟨fun _ => ⟨_, (pkc (by repeat (first | exact pk_head _ _ | apply pk_tail)) (pkc (by repeat (first | exact pk_head _ _ | apply pk_tail)) (pkn _)))⟩, ?_⟩
                    refine H_takeP (i := 26) (some 93) rfl rfl (by kernel_rfl) (by kernel_rfl) (by kernel_rfl) rfl (ps_fa T.fa28_2 (by decide) rfl) (by decide) ?_
                    refine H_branch (rs := [27]) (by kernel_rfl) (by simp) ?_
                    refine HR.consL (i := 27) none rfl rfl rfl (os_cbr (rqCells ⟨K, [], [], 0, 0, 0, 0⟩ (.slice none 0 0) (.slice q' (i + 1) d')) (os_store1 (b := b3) (by repeat (first | exact pk_head _ _ | apply pk_tail)) T.sz23 rfl rfl (by rfl) (Nat.le_of_ble_eq_true rfl)) (by rfl)) (by decide) ?_ ?_
                    · skip
                      refine H_done (by kernel_rfl) ?_
                      exact Meet.cut (q', d') trivial (by repeat (first | (with_reducible exact Ag.refl _ _) | (with_reducible apply Ag.pu0) | ((with_reducible refine Ag.pu _ ?_ ?_); · exact rfl) | ((with_reducible refine Ag.mix ?_ ?_); · exact rfl) | ((with_reducible refine Ag.pus ?_ ?_); · exact rfl))) (by exact trivial) (by repeat (first | exact Ent.refl _ | (apply Ent.cons; · repeat (first | exact pk_head _ _ | apply pk_tail)) | apply Ent.skip))
                    exact HR.nil
                  exact HR.nil
                exact HR.nil
              exact HR.nil
            exact HR.nil
          rintro ⟨q2, d2⟩ g2 _
          dsimp only
          repeat (first | refine CW.seq ?_ | refine PW.then_ ?_ | refine CW.block ?_ | refine CW.skip ?_ | refine CW.ret ?_ | refine PW.then_ret ?_ | refine PW.block_ret ?_ | refine Cut.ret ?_ | refine Rnd.ret ?_ | refine PW.block_normal ?_ | refine CW.exit ?_ | refine PW.then_exit ?_ | refine PW.block_hit ?_ | refine PW.block_miss rfl ?_ | refine Cut.exit ?_ | refine Rnd.exit ?_)
          refine CW.region ?_
          refine L1 (ps_add_i64 rfl rfl (by omega) (by omega)).os ?_
          refine L1 (ps_move rfl).os ?_
          refine LW.nil ?_
          exact Meet.round (q.trs.length - (i + 1)) (i + 1, q2, d2) (by omega) ⟨hlt, rfl⟩ (by repeat (first | (with_reducible exact Ag.refl _ _) | (with_reducible apply Ag.pu0) | ((with_reducible refine Ag.pu _ ?_ ?_); · exact rfl) | ((with_reducible refine Ag.mix ?_ ?_); · exact rfl) | ((with_reducible refine Ag.pus ?_ ?_); · exact rfl))) ⟨rfl, trivial⟩ (by dsimp only; rw [hm2, hxx, List.flatten_append, show [trCells (tameT a)].flatten = trCells (tameT a) by simp]; exact (by repeat (first | exact Ent.refl _ | (apply Ent.cons; · repeat (first | exact pk_head _ _ | apply pk_tail)) | apply Ent.skip)))
        · have hm2 : min (i + 1) 8 = min i 8 := by omega
          have hxx : (q.trs.take (i + 1)).take 8 = (q.trs.take i).take 8 := by
            rw [List.take_take, List.take_take, Nat.min_comm, hm2, Nat.min_comm]
          refine CW.region ?_
          refine L1 (ps_move rfl).os ?_
          refine L1 (ps_f (ps_lss rfl rfl) (by omega)).os ?_
          refine LW.nil ?_
          repeat (first | refine CW.seq ?_ | refine PW.then_ ?_ | refine CW.block ?_ | refine CW.skip ?_ | refine CW.ret ?_ | refine PW.then_ret ?_ | refine PW.block_ret ?_ | refine Cut.ret ?_ | refine Rnd.ret ?_ | refine PW.block_normal ?_ | refine CW.exit ?_ | refine PW.then_exit ?_ | refine PW.block_hit ?_ | refine PW.block_miss rfl ?_ | refine Cut.exit ?_ | refine Rnd.exit ?_)
          refine CW.cond_false rfl ?_
          repeat (first | refine CW.seq ?_ | refine PW.then_ ?_ | refine CW.block ?_ | refine CW.skip ?_ | refine CW.ret ?_ | refine PW.then_ret ?_ | refine PW.block_ret ?_ | refine Cut.ret ?_ | refine Rnd.ret ?_ | refine PW.block_normal ?_ | refine CW.exit ?_ | refine PW.then_exit ?_ | refine PW.block_hit ?_ | refine PW.block_miss rfl ?_ | refine Cut.exit ?_ | refine Rnd.exit ?_)
          refine CW.region ?_
          refine L1 (ps_add_i64 rfl rfl (by omega) (by omega)).os ?_
          refine L1 (ps_move rfl).os ?_
          refine LW.nil ?_
          exact Meet.round (q.trs.length - (i + 1)) (i + 1, qq, d) (by omega) ⟨hlt, rfl⟩ (by repeat (first | (with_reducible exact Ag.refl _ _) | (with_reducible apply Ag.pu0) | ((with_reducible refine Ag.pu _ ?_ ?_); · exact rfl) | ((with_reducible refine Ag.mix ?_ ?_); · exact rfl) | ((with_reducible refine Ag.pus ?_ ?_); · exact rfl))) ⟨rfl, trivial⟩ (by dsimp only; rw [hm2, hxx]; exact (by repeat (first | exact Ent.refl _ | (apply Ent.cons; · repeat (first | exact pk_head _ _ | apply pk_tail)) | apply Ent.skip)))
      · have hin : i = q.trs.length := by omega
        subst hin
        rw [List.take_length]
        refine CW.region ?_
        refine L1 (ps_f (ps_lss rfl rfl) (by omega)).os ?_
        refine LW.nil ?_
        repeat (first | refine CW.seq ?_ | refine PW.then_ ?_ | refine CW.block ?_ | refine CW.skip ?_ | refine CW.ret ?_ | refine PW.then_ret ?_ | refine PW.block_ret ?_ | refine Cut.ret ?_ | refine Rnd.ret ?_ | refine PW.block_normal ?_ | refine CW.exit ?_ | refine PW.then_exit ?_ | refine PW.block_hit ?_ | refine PW.block_miss rfl ?_ | refine Cut.exit ?_ | refine Rnd.exit ?_)
        refine CW.cond_false rfl ?_
        repeat (first | refine CW.seq ?_ | refine PW.then_ ?_ | refine CW.block ?_ | refine CW.skip ?_ | refine CW.ret ?_ | refine PW.then_ret ?_ | refine PW.block_ret ?_ | refine Cut.ret ?_ | refine Rnd.ret ?_ | refine PW.block_normal ?_ | refine CW.exit ?_ | refine PW.then_exit ?_ | refine PW.block_hit ?_ | refine PW.block_miss rfl ?_ | refine Cut.exit ?_ | refine Rnd.exit ?_)
        refine slOwn_info (Bs := _) (xs := (((q.trs.take 8).map tameT).map trCells).flatten) (by repeat (first | exact pk_head _ _ | apply pk_tail)) fun z1 z2 z3 => ?_
        exact Meet.cut (.slice none 0 0, .slice qq (min q.trs.length 8) d, slOwn 71 16 (.slice qq (min q.trs.length 8) d) (min q.trs.length 8) (((q.trs.take 8).map tameT).map trCells).flatten) ⟨RowsR.nil _ _, RowsR.own _ (trs_len _) (by simp only [List.length_map, List.length_take]; omega) z1 z2 z3⟩ (by repeat (first | (with_reducible exact Ag.refl _ _) | (with_reducible apply Ag.pu0) | ((with_reducible refine Ag.pu _ ?_ ?_); · exact rfl) | ((with_reducible refine Ag.mix ?_ ?_); · exact rfl) | ((with_reducible refine Ag.pus ?_ ?_); · exact rfl))) (by exact trivial) (Ent.refl_of (by repeat (first | exact Ent.refl _ | (apply Ent.cons; · repeat (first | exact pk_head _ _ | apply pk_tail)) | apply Ent.skip)))
    refine CW.region ?_
    refine L1 (ps_f (ps_eql rfl rfl) (k2)).os ?_
    refine L1 (ps_assign rfl).os ?_
    refine LW.nil ?_
    repeat (first | refine CW.seq ?_ | refine PW.then_ ?_ | refine CW.block ?_ | refine CW.skip ?_ | refine CW.ret ?_ | refine PW.then_ret ?_ | refine PW.block_ret ?_ | refine Cut.ret ?_ | refine Rnd.ret ?_ | refine PW.block_normal ?_ | refine CW.exit ?_ | refine PW.then_exit ?_ | refine PW.block_hit ?_ | refine PW.block_miss rfl ?_ | refine Cut.exit ?_ | refine Rnd.exit ?_)
    refine CW.cond_false rfl ?_
    repeat (first | refine CW.seq ?_ | refine PW.then_ ?_ | refine CW.block ?_ | refine CW.skip ?_ | refine CW.ret ?_ | refine PW.then_ret ?_ | refine PW.block_ret ?_ | refine Cut.ret ?_ | refine Rnd.ret ?_ | refine PW.block_normal ?_ | refine CW.exit ?_ | refine PW.then_exit ?_ | refine PW.block_hit ?_ | refine PW.block_miss rfl ?_ | refine Cut.exit ?_ | refine Rnd.exit ?_)
    by_cases k3 : K = 3
    · have hT : tameQ q = ⟨K, [], [], 0, four q.fro, 0, 0⟩ := by unfold tameQ; rw [hK]; exact (if_neg k1).trans ((if_neg k2).trans (if_pos k3))
      rw [hT]
      refine CW.region ?_
      refine L1 (ps_t (ps_eql rfl rfl) (k3)).os ?_
      refine L1 (ps_assign rfl).os ?_
      refine LW.nil ?_
      repeat (first | refine CW.seq ?_ | refine PW.then_ ?_ | refine CW.block ?_ | refine CW.skip ?_ | refine CW.ret ?_ | refine PW.then_ret ?_ | refine PW.block_ret ?_ | refine Cut.ret ?_ | refine Rnd.ret ?_ | refine PW.block_normal ?_ | refine CW.exit ?_ | refine PW.then_exit ?_ | refine PW.block_hit ?_ | refine PW.block_miss rfl ?_ | refine Cut.exit ?_ | refine Rnd.exit ?_)
      refine CW.cond_true rfl ?_
      repeat (first | refine CW.seq ?_ | refine PW.then_ ?_ | refine CW.block ?_ | refine CW.skip ?_ | refine CW.ret ?_ | refine PW.then_ret ?_ | refine PW.block_ret ?_ | refine Cut.ret ?_ | refine Rnd.ret ?_ | refine PW.block_normal ?_ | refine CW.exit ?_ | refine PW.then_exit ?_ | refine PW.block_hit ?_ | refine PW.block_miss rfl ?_ | refine Cut.exit ?_ | refine Rnd.exit ?_)
      refine CW.region ?_
      refine L1 (ps_move rfl).os ?_
      refine L1 (ps_fa T.fa28_4 (by decide) rfl).os ?_
      refine L1 (os_load1 (by repeat (first | exact pk_head _ _ | apply pk_tail)) T.ag3 rfl (by rfl)) ?_
      refine L1 (os_callv0 (four_spec q.fro) Try.func34 (by decide +kernel) rfl rfl rfl) ?_
      refine L1 (ps_fa T.fa28_4 (by decide) rfl).os ?_
      refine L1 (os_cbr (rqCells ⟨K, [], [], 0, four q.fro, 0, 0⟩ (.slice none 0 0) (.slice none 0 0)) (os_store1 (b := b3) (by repeat (first | exact pk_head _ _ | apply pk_tail)) T.sz3 rfl rfl (by rfl) (Nat.le_of_ble_eq_true rfl)) (by rfl)) ?_
      refine LW.nil ?_
      repeat (first | refine CW.seq ?_ | refine PW.then_ ?_ | refine CW.block ?_ | refine CW.skip ?_ | refine CW.ret ?_ | refine PW.then_ret ?_ | refine PW.block_ret ?_ | refine Cut.ret ?_ | refine Rnd.ret ?_ | refine PW.block_normal ?_ | refine CW.exit ?_ | refine PW.then_exit ?_ | refine PW.block_hit ?_ | refine PW.block_miss rfl ?_ | refine Cut.exit ?_ | refine Rnd.exit ?_)
      exact Meet.cut (.slice none 0 0, .slice none 0 0, bag []) ⟨RowsR.nil _ _, RowsR.nil _ _⟩ (by repeat (first | (with_reducible exact Ag.refl _ _) | (with_reducible apply Ag.pu0) | ((with_reducible refine Ag.pu _ ?_ ?_); · exact rfl) | ((with_reducible refine Ag.mix ?_ ?_); · exact rfl) | ((with_reducible refine Ag.pus ?_ ?_); · exact rfl))) (by exact trivial) (Ent.trans (Bs := cb b3 28 (rqCells ⟨K, [], [], 0, four q.fro, 0, 0⟩ (.slice none 0 0) (.slice none 0 0)) :: A :: cb b2 28 zRow :: F) (by repeat (first | exact Ent.refl _ | (apply Ent.cons; · repeat (first | exact pk_head _ _ | apply pk_tail)) | apply Ent.skip)) (Ent.cons (pk_head _ _) (Ent.emp _)))
    refine CW.region ?_
    refine L1 (ps_f (ps_eql rfl rfl) (k3)).os ?_
    refine L1 (ps_assign rfl).os ?_
    refine LW.nil ?_
    repeat (first | refine CW.seq ?_ | refine PW.then_ ?_ | refine CW.block ?_ | refine CW.skip ?_ | refine CW.ret ?_ | refine PW.then_ret ?_ | refine PW.block_ret ?_ | refine Cut.ret ?_ | refine Rnd.ret ?_ | refine PW.block_normal ?_ | refine CW.exit ?_ | refine PW.then_exit ?_ | refine PW.block_hit ?_ | refine PW.block_miss rfl ?_ | refine Cut.exit ?_ | refine Rnd.exit ?_)
    refine CW.cond_false rfl ?_
    refine CW.seq ?_
    refine CW.cutB (α := Bool) [102, 103, 104, 105] (fun o => o = decide (K = 4 ∨ K = 5 ∨ K = 7)) (fun o => [(102, .bool o)]) (fun _ => cb b3 28 (rqCells ⟨K, [], [], 0, 0, 0, 0⟩ (.slice none 0 0) (.slice none 0 0)) :: A :: cb b1 28 (rqCells q (.slice pva q.accs.length capa) (.slice pvt q.trs.length capt)) :: cb b2 28 zRow :: F) ?_ ?_
    · repeat (first | refine CW.seq ?_ | refine PW.then_ ?_ | refine CW.block ?_ | refine CW.skip ?_ | refine CW.ret ?_ | refine PW.then_ret ?_ | refine PW.block_ret ?_ | refine Cut.ret ?_ | refine Rnd.ret ?_ | refine PW.block_normal ?_ | refine CW.exit ?_ | refine PW.then_exit ?_ | refine PW.block_hit ?_ | refine PW.block_miss rfl ?_ | refine Cut.exit ?_ | refine Rnd.exit ?_)
      by_cases k4 : K = 4
      · refine CW.region ?_
        refine L1 (ps_t (ps_eql rfl rfl) (k4)).os ?_
        refine L1 (ps_assign rfl).os ?_
        refine LW.nil ?_
        repeat (first | refine CW.seq ?_ | refine PW.then_ ?_ | refine CW.block ?_ | refine CW.skip ?_ | refine CW.ret ?_ | refine PW.then_ret ?_ | refine PW.block_ret ?_ | refine Cut.ret ?_ | refine Rnd.ret ?_ | refine PW.block_normal ?_ | refine CW.exit ?_ | refine PW.then_exit ?_ | refine PW.block_hit ?_ | refine PW.block_miss rfl ?_ | refine Cut.exit ?_ | refine Rnd.exit ?_)
        refine CW.cond_true rfl ?_
        repeat (first | refine CW.seq ?_ | refine PW.then_ ?_ | refine CW.block ?_ | refine CW.skip ?_ | refine CW.ret ?_ | refine PW.then_ret ?_ | refine PW.block_ret ?_ | refine Cut.ret ?_ | refine Rnd.ret ?_ | refine PW.block_normal ?_ | refine CW.exit ?_ | refine PW.then_exit ?_ | refine PW.block_hit ?_ | refine PW.block_miss rfl ?_ | refine Cut.exit ?_ | refine Rnd.exit ?_)
        exact Meet.cut true (by simp [k4]) (by repeat (first | (with_reducible exact Ag.refl _ _) | (with_reducible apply Ag.pu0) | ((with_reducible refine Ag.pu _ ?_ ?_); · exact rfl) | ((with_reducible refine Ag.mix ?_ ?_); · exact rfl) | ((with_reducible refine Ag.pus ?_ ?_); · exact rfl))) ⟨rfl, trivial⟩ (by repeat (first | exact Ent.refl _ | (apply Ent.cons; · repeat (first | exact pk_head _ _ | apply pk_tail)) | apply Ent.skip))
      refine CW.region ?_
      refine L1 (ps_f (ps_eql rfl rfl) (k4)).os ?_
      refine L1 (ps_assign rfl).os ?_
      refine LW.nil ?_
      repeat (first | refine CW.seq ?_ | refine PW.then_ ?_ | refine CW.block ?_ | refine CW.skip ?_ | refine CW.ret ?_ | refine PW.then_ret ?_ | refine PW.block_ret ?_ | refine Cut.ret ?_ | refine Rnd.ret ?_ | refine PW.block_normal ?_ | refine CW.exit ?_ | refine PW.then_exit ?_ | refine PW.block_hit ?_ | refine PW.block_miss rfl ?_ | refine Cut.exit ?_ | refine Rnd.exit ?_)
      refine CW.cond_false rfl ?_
      repeat (first | refine CW.seq ?_ | refine PW.then_ ?_ | refine CW.block ?_ | refine CW.skip ?_ | refine CW.ret ?_ | refine PW.then_ret ?_ | refine PW.block_ret ?_ | refine Cut.ret ?_ | refine Rnd.ret ?_ | refine PW.block_normal ?_ | refine CW.exit ?_ | refine PW.then_exit ?_ | refine PW.block_hit ?_ | refine PW.block_miss rfl ?_ | refine Cut.exit ?_ | refine Rnd.exit ?_)
      by_cases k5 : K = 5
      · refine CW.region ?_
        refine L1 (ps_t (ps_eql rfl rfl) (k5)).os ?_
        refine L1 (ps_assign rfl).os ?_
        refine LW.nil ?_
        repeat (first | refine CW.seq ?_ | refine PW.then_ ?_ | refine CW.block ?_ | refine CW.skip ?_ | refine CW.ret ?_ | refine PW.then_ret ?_ | refine PW.block_ret ?_ | refine Cut.ret ?_ | refine Rnd.ret ?_ | refine PW.block_normal ?_ | refine CW.exit ?_ | refine PW.then_exit ?_ | refine PW.block_hit ?_ | refine PW.block_miss rfl ?_ | refine Cut.exit ?_ | refine Rnd.exit ?_)
        refine CW.cond_true rfl ?_
        repeat (first | refine CW.seq ?_ | refine PW.then_ ?_ | refine CW.block ?_ | refine CW.skip ?_ | refine CW.ret ?_ | refine PW.then_ret ?_ | refine PW.block_ret ?_ | refine Cut.ret ?_ | refine Rnd.ret ?_ | refine PW.block_normal ?_ | refine CW.exit ?_ | refine PW.then_exit ?_ | refine PW.block_hit ?_ | refine PW.block_miss rfl ?_ | refine Cut.exit ?_ | refine Rnd.exit ?_)
        exact Meet.cut true (by simp [k5]) (by repeat (first | (with_reducible exact Ag.refl _ _) | (with_reducible apply Ag.pu0) | ((with_reducible refine Ag.pu _ ?_ ?_); · exact rfl) | ((with_reducible refine Ag.mix ?_ ?_); · exact rfl) | ((with_reducible refine Ag.pus ?_ ?_); · exact rfl))) ⟨rfl, trivial⟩ (by repeat (first | exact Ent.refl _ | (apply Ent.cons; · repeat (first | exact pk_head _ _ | apply pk_tail)) | apply Ent.skip))
      refine CW.region ?_
      refine L1 (ps_f (ps_eql rfl rfl) (k5)).os ?_
      refine L1 (ps_assign rfl).os ?_
      refine LW.nil ?_
      repeat (first | refine CW.seq ?_ | refine PW.then_ ?_ | refine CW.block ?_ | refine CW.skip ?_ | refine CW.ret ?_ | refine PW.then_ret ?_ | refine PW.block_ret ?_ | refine Cut.ret ?_ | refine Rnd.ret ?_ | refine PW.block_normal ?_ | refine CW.exit ?_ | refine PW.then_exit ?_ | refine PW.block_hit ?_ | refine PW.block_miss rfl ?_ | refine Cut.exit ?_ | refine Rnd.exit ?_)
      refine CW.cond_false rfl ?_
      repeat (first | refine CW.seq ?_ | refine PW.then_ ?_ | refine CW.block ?_ | refine CW.skip ?_ | refine CW.ret ?_ | refine PW.then_ret ?_ | refine PW.block_ret ?_ | refine Cut.ret ?_ | refine Rnd.ret ?_ | refine PW.block_normal ?_ | refine CW.exit ?_ | refine PW.then_exit ?_ | refine PW.block_hit ?_ | refine PW.block_miss rfl ?_ | refine Cut.exit ?_ | refine Rnd.exit ?_)
      by_cases k7 : K = 7
      · refine CW.region ?_
        refine L1 (ps_t (ps_eql rfl rfl) (k7)).os ?_
        refine L1 (ps_assign rfl).os ?_
        refine LW.nil ?_
        repeat (first | refine CW.seq ?_ | refine PW.then_ ?_ | refine CW.block ?_ | refine CW.skip ?_ | refine CW.ret ?_ | refine PW.then_ret ?_ | refine PW.block_ret ?_ | refine Cut.ret ?_ | refine Rnd.ret ?_ | refine PW.block_normal ?_ | refine CW.exit ?_ | refine PW.then_exit ?_ | refine PW.block_hit ?_ | refine PW.block_miss rfl ?_ | refine Cut.exit ?_ | refine Rnd.exit ?_)
        exact Meet.cut true (by simp [k7]) (by repeat (first | (with_reducible exact Ag.refl _ _) | (with_reducible apply Ag.pu0) | ((with_reducible refine Ag.pu _ ?_ ?_); · exact rfl) | ((with_reducible refine Ag.mix ?_ ?_); · exact rfl) | ((with_reducible refine Ag.pus ?_ ?_); · exact rfl))) ⟨rfl, trivial⟩ (by repeat (first | exact Ent.refl _ | (apply Ent.cons; · repeat (first | exact pk_head _ _ | apply pk_tail)) | apply Ent.skip))
      refine CW.region ?_
      refine L1 (ps_f (ps_eql rfl rfl) (k7)).os ?_
      refine L1 (ps_assign rfl).os ?_
      refine LW.nil ?_
      repeat (first | refine CW.seq ?_ | refine PW.then_ ?_ | refine CW.block ?_ | refine CW.skip ?_ | refine CW.ret ?_ | refine PW.then_ret ?_ | refine PW.block_ret ?_ | refine Cut.ret ?_ | refine Rnd.ret ?_ | refine PW.block_normal ?_ | refine CW.exit ?_ | refine PW.then_exit ?_ | refine PW.block_hit ?_ | refine PW.block_miss rfl ?_ | refine Cut.exit ?_ | refine Rnd.exit ?_)
      exact Meet.cut false (by simp [k4, k5, k7]) (by repeat (first | (with_reducible exact Ag.refl _ _) | (with_reducible apply Ag.pu0) | ((with_reducible refine Ag.pu _ ?_ ?_); · exact rfl) | ((with_reducible refine Ag.mix ?_ ?_); · exact rfl) | ((with_reducible refine Ag.pus ?_ ?_); · exact rfl))) ⟨rfl, trivial⟩ (by repeat (first | exact Ent.refl _ | (apply Ent.cons; · repeat (first | exact pk_head _ _ | apply pk_tail)) | apply Ent.skip))
    intro o g21 ho
    repeat (first | refine CW.seq ?_ | refine PW.then_ ?_ | refine CW.block ?_ | refine CW.skip ?_ | refine CW.ret ?_ | refine PW.then_ret ?_ | refine PW.block_ret ?_ | refine Cut.ret ?_ | refine Rnd.ret ?_ | refine PW.block_normal ?_ | refine CW.exit ?_ | refine PW.then_exit ?_ | refine PW.block_hit ?_ | refine PW.block_miss rfl ?_ | refine Cut.exit ?_ | refine Rnd.exit ?_)
    by_cases k457 : K = 4 ∨ K = 5 ∨ K = 7
    · obtain rfl : o = true := by rw [ho]; simpa using k457
      have hT : tameQ q = ⟨K, [], [], q.id, 0, 0, 0⟩ := by unfold tameQ; rw [hK]; exact (if_neg k1).trans ((if_neg k2).trans ((if_neg k3).trans (if_pos k457)))
      rw [hT]
      refine CW.cond_true rfl ?_
      repeat (first | refine CW.seq ?_ | refine PW.then_ ?_ | refine CW.block ?_ | refine CW.skip ?_ | refine CW.ret ?_ | refine PW.then_ret ?_ | refine PW.block_ret ?_ | refine Cut.ret ?_ | refine Rnd.ret ?_ | refine PW.block_normal ?_ | refine CW.exit ?_ | refine PW.then_exit ?_ | refine PW.block_hit ?_ | refine PW.block_miss rfl ?_ | refine Cut.exit ?_ | refine Rnd.exit ?_)
      refine CW.region ?_
      refine L1 (ps_fa T.fa28_3 (by decide) rfl).os ?_
      refine L1 (os_loadN (vs := nc q.id) (by repeat (first | exact pk_head _ _ | apply pk_tail)) T.ag26 T.sz26 rfl (by rfl) (by rfl)) ?_
      refine L1 (ps_fa T.fa28_3 (by decide) rfl).os ?_
      refine L1 (os_cbr (rqCells ⟨K, [], [], q.id, 0, 0, 0⟩ (.slice none 0 0) (.slice none 0 0)) (os_storeN (b := b3) (vs := nc q.id) (by repeat (first | exact pk_head _ _ | apply pk_tail)) (by exact T.sz26) rfl rfl (nc_one _) (by exact Nat.le_of_ble_eq_true rfl)) (by rfl)) ?_
      refine LW.nil ?_
      repeat (first | refine CW.seq ?_ | refine PW.then_ ?_ | refine CW.block ?_ | refine CW.skip ?_ | refine CW.ret ?_ | refine PW.then_ret ?_ | refine PW.block_ret ?_ | refine Cut.ret ?_ | refine Rnd.ret ?_ | refine PW.block_normal ?_ | refine CW.exit ?_ | refine PW.then_exit ?_ | refine PW.block_hit ?_ | refine PW.block_miss rfl ?_ | refine Cut.exit ?_ | refine Rnd.exit ?_)
      exact Meet.cut (.slice none 0 0, .slice none 0 0, bag []) ⟨RowsR.nil _ _, RowsR.nil _ _⟩ (by repeat (first | (with_reducible exact Ag.refl _ _) | (with_reducible apply Ag.pu0) | ((with_reducible refine Ag.pu _ ?_ ?_); · exact rfl) | ((with_reducible refine Ag.mix ?_ ?_); · exact rfl) | ((with_reducible refine Ag.pus ?_ ?_); · exact rfl))) (by exact trivial) (Ent.trans (Bs := cb b3 28 (rqCells ⟨K, [], [], q.id, 0, 0, 0⟩ (.slice none 0 0) (.slice none 0 0)) :: A :: cb b2 28 zRow :: F) (by repeat (first | exact Ent.refl _ | (apply Ent.cons; · repeat (first | exact pk_head _ _ | apply pk_tail)) | apply Ent.skip)) (Ent.cons (pk_head _ _) (Ent.emp _)))
    obtain rfl : o = false := by rw [ho]; simpa using k457
    refine CW.cond_false rfl ?_
    refine CW.seq ?_
    refine CW.cutB (α := Bool) [109, 110, 111] (fun o => o = decide (K = 6 ∨ K = 8)) (fun o => [(109, .bool o)]) (fun _ => cb b3 28 (rqCells ⟨K, [], [], 0, 0, 0, 0⟩ (.slice none 0 0) (.slice none 0 0)) :: A :: cb b1 28 (rqCells q (.slice pva q.accs.length capa) (.slice pvt q.trs.length capt)) :: cb b2 28 zRow :: F) ?_ ?_
    · repeat (first | refine CW.seq ?_ | refine PW.then_ ?_ | refine CW.block ?_ | refine CW.skip ?_ | refine CW.ret ?_ | refine PW.then_ret ?_ | refine PW.block_ret ?_ | refine Cut.ret ?_ | refine Rnd.ret ?_ | refine PW.block_normal ?_ | refine CW.exit ?_ | refine PW.then_exit ?_ | refine PW.block_hit ?_ | refine PW.block_miss rfl ?_ | refine Cut.exit ?_ | refine Rnd.exit ?_)
      by_cases k6 : K = 6
      · refine CW.region ?_
        refine L1 (ps_t (ps_eql rfl rfl) (k6)).os ?_
        refine L1 (ps_assign rfl).os ?_
        refine LW.nil ?_
        repeat (first | refine CW.seq ?_ | refine PW.then_ ?_ | refine CW.block ?_ | refine CW.skip ?_ | refine CW.ret ?_ | refine PW.then_ret ?_ | refine PW.block_ret ?_ | refine Cut.ret ?_ | refine Rnd.ret ?_ | refine PW.block_normal ?_ | refine CW.exit ?_ | refine PW.then_exit ?_ | refine PW.block_hit ?_ | refine PW.block_miss rfl ?_ | refine Cut.exit ?_ | refine Rnd.exit ?_)
        refine CW.cond_true rfl ?_
        repeat (first | refine CW.seq ?_ | refine PW.then_ ?_ | refine CW.block ?_ | refine CW.skip ?_ | refine CW.ret ?_ | refine PW.then_ret ?_ | refine PW.block_ret ?_ | refine Cut.ret ?_ | refine Rnd.ret ?_ | refine PW.block_normal ?_ | refine CW.exit ?_ | refine PW.then_exit ?_ | refine PW.block_hit ?_ | refine PW.block_miss rfl ?_ | refine Cut.exit ?_ | refine Rnd.exit ?_)
        exact Meet.cut true (by simp [k6]) (by repeat (first | (with_reducible exact Ag.refl _ _) | (with_reducible apply Ag.pu0) | ((with_reducible refine Ag.pu _ ?_ ?_); · exact rfl) | ((with_reducible refine Ag.mix ?_ ?_); · exact rfl) | ((with_reducible refine Ag.pus ?_ ?_); · exact rfl))) ⟨rfl, trivial⟩ (by repeat (first | exact Ent.refl _ | (apply Ent.cons; · repeat (first | exact pk_head _ _ | apply pk_tail)) | apply Ent.skip))
      refine CW.region ?_
      refine L1 (ps_f (ps_eql rfl rfl) (k6)).os ?_
      refine L1 (ps_assign rfl).os ?_
      refine LW.nil ?_
      repeat (first | refine CW.seq ?_ | refine PW.then_ ?_ | refine CW.block ?_ | refine CW.skip ?_ | refine CW.ret ?_ | refine PW.then_ret ?_ | refine PW.block_ret ?_ | refine Cut.ret ?_ | refine Rnd.ret ?_ | refine PW.block_normal ?_ | refine CW.exit ?_ | refine PW.then_exit ?_ | refine PW.block_hit ?_ | refine PW.block_miss rfl ?_ | refine Cut.exit ?_ | refine Rnd.exit ?_)
      refine CW.cond_false rfl ?_
      repeat (first | refine CW.seq ?_ | refine PW.then_ ?_ | refine CW.block ?_ | refine CW.skip ?_ | refine CW.ret ?_ | refine PW.then_ret ?_ | refine PW.block_ret ?_ | refine Cut.ret ?_ | refine Rnd.ret ?_ | refine PW.block_normal ?_ | refine CW.exit ?_ | refine PW.then_exit ?_ | refine PW.block_hit ?_ | refine PW.block_miss rfl ?_ | refine Cut.exit ?_ | refine Rnd.exit ?_)
      by_cases k8 : K = 8
      · refine CW.region ?_
        refine L1 (ps_t (ps_eql rfl rfl) (k8)).os ?_
        refine L1 (ps_assign rfl).os ?_
        refine LW.nil ?_
        repeat (first | refine CW.seq ?_ | refine PW.then_ ?_ | refine CW.block ?_ | refine CW.skip ?_ | refine CW.ret ?_ | refine PW.then_ret ?_ | refine PW.block_ret ?_ | refine Cut.ret ?_ | refine Rnd.ret ?_ | refine PW.block_normal ?_ | refine CW.exit ?_ | refine PW.then_exit ?_ | refine PW.block_hit ?_ | refine PW.block_miss rfl ?_ | refine Cut.exit ?_ | refine Rnd.exit ?_)
        exact Meet.cut true (by simp [k8]) (by repeat (first | (with_reducible exact Ag.refl _ _) | (with_reducible apply Ag.pu0) | ((with_reducible refine Ag.pu _ ?_ ?_); · exact rfl) | ((with_reducible refine Ag.mix ?_ ?_); · exact rfl) | ((with_reducible refine Ag.pus ?_ ?_); · exact rfl))) ⟨rfl, trivial⟩ (by repeat (first | exact Ent.refl _ | (apply Ent.cons; · repeat (first | exact pk_head _ _ | apply pk_tail)) | apply Ent.skip))
      refine CW.region ?_
      refine L1 (ps_f (ps_eql rfl rfl) (k8)).os ?_
      refine L1 (ps_assign rfl).os ?_
      refine LW.nil ?_
      repeat (first | refine CW.seq ?_ | refine PW.then_ ?_ | refine CW.block ?_ | refine CW.skip ?_ | refine CW.ret ?_ | refine PW.then_ret ?_ | refine PW.block_ret ?_ | refine Cut.ret ?_ | refine Rnd.ret ?_ | refine PW.block_normal ?_ | refine CW.exit ?_ | refine PW.then_exit ?_ | refine PW.block_hit ?_ | refine PW.block_miss rfl ?_ | refine Cut.exit ?_ | refine Rnd.exit ?_)
      exact Meet.cut false (by simp [k6, k8]) (by repeat (first | (with_reducible exact Ag.refl _ _) | (with_reducible apply Ag.pu0) | ((with_reducible refine Ag.pu _ ?_ ?_); · exact rfl) | ((with_reducible refine Ag.mix ?_ ?_); · exact rfl) | ((with_reducible refine Ag.pus ?_ ?_); · exact rfl))) ⟨rfl, trivial⟩ (by repeat (first | exact Ent.refl _ | (apply Ent.cons; · repeat (first | exact pk_head _ _ | apply pk_tail)) | apply Ent.skip))
    intro o g25 ho
    repeat (first | refine CW.seq ?_ | refine PW.then_ ?_ | refine CW.block ?_ | refine CW.skip ?_ | refine CW.ret ?_ | refine PW.then_ret ?_ | refine PW.block_ret ?_ | refine Cut.ret ?_ | refine Rnd.ret ?_ | refine PW.block_normal ?_ | refine CW.exit ?_ | refine PW.then_exit ?_ | refine PW.block_hit ?_ | refine PW.block_miss rfl ?_ | refine Cut.exit ?_ | refine Rnd.exit ?_)
    by_cases k68 : K = 6 ∨ K = 8
    · obtain rfl : o = true := by rw [ho]; simpa using k68
      have hT : tameQ q = ⟨K, [], [], q.id, q.fro % ((2 ^ 48 : Nat) : Int), q.to % ((2 ^ 48 : Nat) : Int), q.lim % ((2 ^ 8 : Nat) : Int)⟩ := by unfold tameQ; rw [hK]; exact (if_neg k1).trans ((if_neg k2).trans ((if_neg k3).trans ((if_neg k457).trans (if_pos k68))))
      rw [hT]
      refine CW.cond_true rfl ?_
      repeat (first | refine CW.seq ?_ | refine PW.then_ ?_ | refine CW.block ?_ | refine CW.skip ?_ | refine CW.ret ?_ | refine PW.then_ret ?_ | refine PW.block_ret ?_ | refine Cut.ret ?_ | refine Rnd.ret ?_ | refine PW.block_normal ?_ | refine CW.exit ?_ | refine PW.then_exit ?_ | refine PW.block_hit ?_ | refine PW.block_miss rfl ?_ | refine Cut.exit ?_ | refine Rnd.exit ?_)
      refine CW.drawH [cb b1 28 (rqCells q (.slice pva q.accs.length capa) (.slice pvt q.trs.length capt))] [] T.mixed ?_
      refine H_take (i := 0) (some 112) rfl rfl (by kernel_rfl) (by kernel_rfl) (by kernel_rfl) rfl (ps_fa T.fa28_3 (by decide) rfl).pl (by kernel_rfl) (pkc (by repeat (first | exact pk_head _ _ | apply pk_tail)) (pkn _)) ?_
      refine H_take (i := 1) (some 113) rfl rfl (by kernel_rfl) (by kernel_rfl) (by kernel_rfl) rfl (pl_loadN (vs := nc q.id) (by repeat (first | exact pk_head _ _ | apply pk_tail)) T.ag26 T.sz26 rfl (by rfl) (by rfl)) (by kernel_rfl) (pkc (by repeat (first | exact pk_head _ _ | apply pk_tail)) (pkn _)) ?_
      refine H_take (i := 2) (some 114) rfl rfl (by kernel_rfl) (by kernel_rfl) (by kernel_rfl) rfl (ps_fa T.fa28_4 (by decide) rfl).pl (by kernel_rfl) (pkc (by repeat (first | exact pk_head _ _ | apply pk_tail)) (pkn _)) ?_
      refine H_take (i := 3) (some 115) rfl rfl (by kernel_rfl) (by kernel_rfl) (by kernel_rfl) rfl (pl_load1 (by repeat (first | exact pk_head _ _ | apply pk_tail)) T.ag3 rfl (by rfl)) (by kernel_rfl) (pkc (by repeat (first | exact pk_head _ _ | apply pk_tail)) (pkn _)) ?_
      refine H_take (i := 4) (some 116) rfl rfl (by kernel_rfl) (by kernel_rfl) (by kernel_rfl) rfl (ps_mask_i64 (m := 48) rfl rfl rfl (by decide)).pl (by kernel_rfl) (pkc (by repeat (first | exact pk_head _ _ | apply pk_tail)) (pkn _)) ?_
      refine H_take (i := 5) (some 117) rfl rfl (by kernel_rfl) (by kernel_rfl) (by kernel_rfl) rfl (ps_fa T.fa28_5 (by decide) rfl).pl (by kernel_rfl) (pkc (by repeat (first | exact pk_head _ _ | apply pk_tail)) (pkn _)) ?_
      refine H_take (i := 6) (some 118) rfl rfl (by kernel_rfl) (by kernel_rfl) (by kernel_rfl) rfl (pl_load1 (by repeat (first | exact pk_head _ _ | apply pk_tail)) T.ag3 rfl (by rfl)) (by kernel_rfl) (pkc (by repeat (first | exact pk_head _ _ | apply pk_tail)) (pkn _)) ?_
      refine H_take (i := 7) (some 119) rfl rfl (by kernel_rfl) (by kernel_rfl) (by kernel_rfl) rfl (ps_mask_i64 (m := 48) rfl rfl rfl (by decide)).pl (by kernel_rfl) (pkc (by repeat (first | exact pk_head _ _ | apply pk_tail)) (pkn _)) ?_
      refine H_take (i := 8) (some 120) rfl rfl (by kernel_rfl) (by kernel_rfl) (by kernel_rfl) rfl (ps_fa T.fa28_6 (by decide) rfl).pl (by kernel_rfl) (pkc (by repeat (first | exact pk_head _ _ | apply pk_tail)) (pkn _)) ?_
      refine H_take (i := 9) (some 121) rfl rfl (by kernel_rfl) (by kernel_rfl) (by kernel_rfl) rfl (pl_load1 (by repeat (first | exact pk_head _ _ | apply pk_tail)) T.ag3 rfl (by rfl)) (by kernel_rfl) (pkc (by repeat (first | exact pk_head _ _ | apply pk_tail)) (pkn _)) ?_
      refine H_take (i := 10) (some 122) rfl rfl (by kernel_rfl) (by kernel_rfl) (by kernel_rfl) rfl (ps_mask_i64 (m := 8) rfl rfl rfl (by decide)).pl (by kernel_rfl) (pkc (by repeat (first | exact pk_head _ _ | apply pk_tail)) (pkn _)) ?_
      refine H_take (i := 11) (some 123) rfl rfl (by kernel_rfl) (by kernel_rfl) (by kernel_rfl) rfl (ps_fa T.fa28_3 (by decide) rfl).pl (by kernel_rfl) (pkc (by repeat (first | exact pk_head _ _ | apply pk_tail)) (pkn _)) ?_
      refine H_branch (rs := [12]) (by kernel_rfl) (by simp) ?_
      refine HR.cons1 (i := 12) none rfl rfl rfl (os_cbr (rqCells ⟨K, [], [], q.id, 0, 0, 0⟩ (.slice none 0 0) (.slice none 0 0)) (os_storeN (b := b3) (vs := nc q.id) (by repeat (first | exact pk_head _ _ | apply pk_tail)) (by exact T.sz26) rfl rfl (nc_one _) (by exact Nat.le_of_ble_eq_true rfl)) (by rfl)) (pkc (by repeat (first | exact pk_head _ _ | apply pk_tail)) (pkn _)) ?_ ?_
      · skip
        refine H_take (i := 13) (some 124) rfl rfl (by kernel_rfl) (by kernel_rfl) (by kernel_rfl) rfl (ps_fa T.fa28_4 (by decide) rfl).pl (by kernel_rfl) (pkc (by repeat (first | exact pk_head _ _ | apply pk_tail)) (pkn _)) ?_
        refine H_branch (rs := [14]) (by kernel_rfl) (by simp) ?_
        refine HR.cons1 (i := 14) none rfl rfl rfl (os_cbr (rqCells ⟨K, [], [], q.id, q.fro % ((2 ^ 48 : Nat) : Int), 0, 0⟩ (.slice none 0 0) (.slice none 0 0)) (os_store1 (b := b3) (by repeat (first | exact pk_head _ _ | apply pk_tail)) T.sz3 rfl rfl (by rfl) (Nat.le_of_ble_eq_true rfl)) (by rfl)) (pkc (by repeat (first | exact pk_head _ _ | apply pk_tail)) (pkn _)) ?_ ?_
        · skip
          refine H_take (i := 15) (some 125) rfl rfl (by kernel_rfl) (by kernel_rfl) (by kernel_rfl) rfl (ps_fa T.fa28_5 (by decide) rfl).pl (by kernel_rfl) (pkc (by repeat (first | exact pk_head _ _ | apply pk_tail)) (pkn _)) ?_
          refine H_branch (rs := [16]) (by kernel_rfl) (by simp) ?_
          refine HR.cons1 (i := 16) none rfl rfl rfl (os_cbr (rqCells ⟨K, [], [], q.id, q.fro % ((2 ^ 48 : Nat) : Int), q.to % ((2 ^ 48 : Nat) : Int), 0⟩ (.slice none 0 0) (.slice none 0 0)) (os_store1 (b := b3) (by repeat (first | exact pk_head _ _ | apply pk_tail)) T.sz3 rfl rfl (by rfl) (Nat.le_of_ble_eq_true rfl)) (by rfl)) (pkc (by repeat (first | exact pk_head _ _ | apply pk_tail)) (pkn _)) ?_ ?_
          · skip
            refine H_take (i := 17) (some 126) rfl rfl (by kernel_rfl) (by kernel_rfl) (by kernel_rfl) rfl (ps_fa T.fa28_6 (by decide) rfl).pl (by kernel_rfl) (pkc (by repeat (first | exact pk_head _ _ | apply pk_tail)) (pkn _)) ?_
            refine H_branch (rs := [18]) (by kernel_rfl) (by simp) ?_
            refine HR.cons1 (i := 18) none rfl rfl rfl (os_cbr (rqCells ⟨K, [], [], q.id, q.fro % ((2 ^ 48 : Nat) : Int), q.to % ((2 ^ 48 : Nat) : Int), q.lim % ((2 ^ 8 : Nat) : Int)⟩ (.slice none 0 0) (.slice none 0 0)) (os_store1 (b := b3) (by repeat (first | exact pk_head _ _ | apply pk_tail)) T.sz3 rfl rfl (by rfl) (Nat.le_of_ble_eq_true rfl)) (by rfl)) (pkc (by repeat (first | exact pk_head _ _ | apply pk_tail)) (pkn _)) ?_ ?_
            · skip
              refine H_done (by kernel_rfl) ?_
              repeat (first | refine CW.seq ?_ | refine PW.then_ ?_ | refine CW.block ?_ | refine CW.skip ?_ | refine CW.ret ?_ | refine PW.then_ret ?_ | refine PW.block_ret ?_ | refine Cut.ret ?_ | refine Rnd.ret ?_ | refine PW.block_normal ?_ | refine CW.exit ?_ | refine PW.then_exit ?_ | refine PW.block_hit ?_ | refine PW.block_miss rfl ?_ | refine Cut.exit ?_ | refine Rnd.exit ?_)
              exact Meet.cut (.slice none 0 0, .slice none 0 0, bag []) ⟨RowsR.nil _ _, RowsR.nil _ _⟩ (by repeat (first | (with_reducible exact Ag.refl _ _) | (with_reducible apply Ag.pu0) | ((with_reducible refine Ag.pu _ ?_ ?_); · exact rfl) | ((with_reducible refine Ag.mix ?_ ?_); · exact rfl) | ((with_reducible refine Ag.pus ?_ ?_); · exact rfl))) (by exact trivial) (Ent.trans (Bs := cb b3 28 (rqCells ⟨K, [], [], q.id, q.fro % ((2 ^ 48 : Nat) : Int), q.to % ((2 ^ 48 : Nat) : Int), q.lim % ((2 ^ 8 : Nat) : Int)⟩ (.slice none 0 0) (.slice none 0 0)) :: A :: cb b2 28 zRow :: F) (by repeat (first | exact Ent.refl _ | (apply Ent.cons; · repeat (first | exact pk_head _ _ | apply pk_tail)) | apply Ent.skip)) (Ent.cons (pk_head _ _) (Ent.emp _)))
            exact HR.nil
          exact HR.nil
        exact HR.nil
      exact HR.nil
    obtain rfl : o = false := by rw [ho]; simpa using k68
    have hT : tameQ q = ⟨K, [], [], 0, four q.fro, four q.to, 0⟩ := by unfold tameQ; rw [hK]; exact (if_neg k1).trans ((if_neg k2).trans ((if_neg k3).trans ((if_neg k457).trans (if_neg k68))))
    rw [hT]
    refine CW.cond_false rfl ?_
    repeat (first | refine CW.seq ?_ | refine PW.then_ ?_ | refine CW.block ?_ | refine CW.skip ?_ | refine CW.ret ?_ | refine PW.then_ret ?_ | refine PW.block_ret ?_ | refine Cut.ret ?_ | refine Rnd.ret ?_ | refine PW.block_normal ?_ | refine CW.exit ?_ | refine PW.then_exit ?_ | refine PW.block_hit ?_ | refine PW.block_miss rfl ?_ | refine Cut.exit ?_ | refine Rnd.exit ?_)
    refine CW.drawH [cb b1 28 (rqCells q (.slice pva q.accs.length capa) (.slice pvt q.trs.length capt))] [] T.mixed ?_
    refine H_take (i := 0) (some 17) rfl rfl (by kernel_rfl) (by kernel_rfl) (by kernel_rfl) rfl (ps_move rfl).pl (by kernel_rfl) (pkc (by repeat (first | exact pk_head _ _ | apply pk_tail)) (pkn _)) ?_
    refine H_take (i := 1) (some 18) rfl rfl (by kernel_rfl) (by kernel_rfl) (by kernel_rfl) rfl (ps_fa T.fa28_4 (by decide) rfl).pl (by kernel_rfl) (pkc (by repeat (first | exact pk_head _ _ | apply pk_tail)) (pkn _)) ?_
    refine H_take (i := 2) (some 19) rfl rfl (by kernel_rfl) (by kernel_rfl) (by kernel_rfl) rfl (pl_load1 (by repeat (first | exact pk_head _ _ | apply pk_tail)) T.ag3 rfl (by rfl)) (by kernel_rfl) (pkc (by repeat (first | exact pk_head _ _ | apply pk_tail)) (pkn _)) ?_
    refine H_take (i := 4) (some 21) rfl rfl (by kernel_rfl) (by kernel_rfl) (by kernel_rfl) rfl (ps_move rfl).pl (by kernel_rfl) (pkc (by repeat (first | exact pk_head _ _ | apply pk_tail)) (pkn _)) ?_
    refine H_take (i := 5) (some 22) rfl rfl (by kernel_rfl) (by kernel_rfl) (by kernel_rfl) rfl (ps_fa T.fa28_5 (by decide) rfl).pl (by kernel_rfl) (pkc (by repeat (first | exact pk_head _ _ | apply pk_tail)) (pkn _)) ?_
    refine H_take (i := 6) (some 23) rfl rfl (by kernel_rfl) (by kernel_rfl) (by kernel_rfl) rfl (pl_load1 (by repeat (first | exact pk_head _ _ | apply pk_tail)) T.ag3 rfl (by rfl)) (by kernel_rfl) (pkc (by repeat (first | exact pk_head _ _ | apply pk_tail)) (pkn _)) ?_
    refine H_branch (rs := [3]) (by kernel_rfl) (by simp) ?_
    refine HR.cons1 (i := 3) (some 20) rfl rfl rfl (os_callv0 (four_spec q.fro) Try.func34 (by decide +kernel) rfl rfl rfl) (pkc (by repeat (first | exact pk_head _ _ | apply pk_tail)) (pkn _)) ?_ ?_
    · skip
      refine H_take (i := 8) (some 25) rfl rfl (by kernel_rfl) (by kernel_rfl) (by kernel_rfl) rfl (ps_fa T.fa28_4 (by decide) rfl).pl (by kernel_rfl) (pkc (by repeat (first | exact pk_head _ _ | apply pk_tail)) (pkn _)) ?_
      refine H_branch (rs := [7]) (by kernel_rfl) (by simp) ?_
      refine HR.cons1 (i := 7) (some 24) rfl rfl rfl (os_callv0 (four_spec q.to) Try.func34 (by decide +kernel) rfl rfl rfl) (pkc (by repeat (first | exact pk_head _ _ | apply pk_tail)) (pkn _)) ?_ ?_
      · skip
        refine H_branch (rs := [9]) (by kernel_rfl) (by simp) ?_
        refine HR.cons1 (i := 9) none rfl rfl rfl (os_cbr (rqCells ⟨K, [], [], 0, four q.fro, 0, 0⟩ (.slice none 0 0) (.slice none 0 0)) (os_store1 (b := b3) (by repeat (first | exact pk_head _ _ | apply pk_tail)) T.sz3 rfl rfl (by rfl) (Nat.le_of_ble_eq_true rfl)) (by rfl)) (pkc (by repeat (first | exact pk_head _ _ | apply pk_tail)) (pkn _)) ?_ ?_
        · skip
          refine H_take (i := 10) (some 26) rfl rfl (by kernel_rfl) (by kernel_rfl) (by kernel_rfl) rfl (ps_fa T.fa28_5 (by decide) rfl).pl (by kernel_rfl) (pkc (by repeat (first | exact pk_head _ _ | apply pk_tail)) (pkn _)) ?_
          refine H_branch (rs := [11]) (by kernel_rfl) (by simp) ?_
          refine HR.cons1 (i := 11) none rfl rfl rfl (os_cbr (rqCells ⟨K, [], [], 0, four q.fro, four q.to, 0⟩ (.slice none 0 0) (.slice none 0 0)) (os_store1 (b := b3) (by repeat (first | exact pk_head _ _ | apply pk_tail)) T.sz3 rfl rfl (by rfl) (Nat.le_of_ble_eq_true rfl)) (by rfl)) (pkc (by repeat (first | exact pk_head _ _ | apply pk_tail)) (pkn _)) ?_ ?_
          · skip
            refine H_done (by kernel_rfl) ?_
            repeat (first | refine CW.seq ?_ | refine PW.then_ ?_ | refine CW.block ?_ | refine CW.skip ?_ | refine CW.ret ?_ | refine PW.then_ret ?_ | refine PW.block_ret ?_ | refine Cut.ret ?_ | refine Rnd.ret ?_ | refine PW.block_normal ?_ | refine CW.exit ?_ | refine PW.then_exit ?_ | refine PW.block_hit ?_ | refine PW.block_miss rfl ?_ | refine Cut.exit ?_ | refine Rnd.exit ?_)
            exact Meet.cut (.slice none 0 0, .slice none 0 0, bag []) ⟨RowsR.nil _ _, RowsR.nil _ _⟩ (by repeat (first | (with_reducible exact Ag.refl _ _) | (with_reducible apply Ag.pu0) | ((with_reducible refine Ag.pu _ ?_ ?_); · exact rfl) | ((with_reducible refine Ag.mix ?_ ?_); · exact rfl) | ((with_reducible refine Ag.pus ?_ ?_); · exact rfl))) (by exact trivial) (Ent.trans (Bs := cb b3 28 (rqCells ⟨K, [], [], 0, four q.fro, four q.to, 0⟩ (.slice none 0 0) (.slice none 0 0)) :: A :: cb b2 28 zRow :: F) (by repeat (first | exact Ent.refl _ | (apply Ent.cons; · repeat (first | exact pk_head _ _ | apply pk_tail)) | apply Ent.skip)) (Ent.cons (pk_head _ _) (Ent.emp _)))
          exact HR.nil
        exact HR.nil
      exact HR.nil
    exact HR.nil
  rintro ⟨a1, a2, B⟩ g3 ⟨hr1, hr2⟩
  dsimp only at hr1 hr2 ⊢
  repeat (first | refine CW.seq ?_ | refine PW.then_ ?_ | refine CW.block ?_ | refine CW.skip ?_ | refine CW.ret ?_ | refine PW.then_ret ?_ | refine PW.block_ret ?_ | refine Cut.ret ?_ | refine Rnd.ret ?_ | refine PW.block_normal ?_ | refine CW.exit ?_ | refine PW.then_exit ?_ | refine PW.block_hit ?_ | refine PW.block_miss rfl ?_ | refine Cut.exit ?_ | refine Rnd.exit ?_)
  refine CW.region ?_
  refine L1 (os_loadAll (b := b3) (cs := rqCells (tameQ q) a1 a2) (by repeat (first | exact pk_head _ _ | apply pk_tail)) T.ag28 (by exact T.sz28) rfl) ?_
  refine L1 (os_storeAll (b := b2) (vs := rqCells (tameQ q) a1 a2) (by repeat (first | exact pk_head _ _ | apply pk_tail)) (by exact T.sz28) rfl rfl (rqCells_one hr1 hr2) (by rfl)) ?_
  refine LW.nil ?_
  repeat (first | refine CW.seq ?_ | refine PW.then_ ?_ | refine CW.block ?_ | refine CW.skip ?_ | refine CW.ret ?_ | refine PW.then_ret ?_ | refine PW.block_ret ?_ | refine Cut.ret ?_ | refine Rnd.ret ?_ | refine PW.block_normal ?_ | refine CW.exit ?_ | refine PW.then_exit ?_ | refine PW.block_hit ?_ | refine PW.block_miss rfl ?_ | refine Cut.exit ?_ | refine Rnd.exit ?_)
  exact Fin.retCell (b := b2) (cs := rqCells (tameQ q) a1 a2) rfl (by repeat (first | exact pk_head _ _ | apply pk_tail)) T.ag28 (by exact T.sz28) rfl [B, A] ⟨a1, a2, B, rfl, rfl, hr1, hr2⟩ (by repeat (first | exact Ent.refl _ | (apply Ent.cons; · repeat (first | exact pk_head _ _ | apply pk_tail)) | apply Ent.skip))
end Go.Proofs.Ytpcjjchanjdkaaa
