/- The functions of u128: each one's contract, over the number itself. -/
import Derived.Test.YtejphoheaeplbaaTy
import Derived.Test.YtejphoheaeplbaaNum
import Derived.Test.YtejphoheaeplbaaLaw
import Derived.Shelf.Spec.BitsCarry
namespace Go.Proofs.Ytejphoheaeplbaa
set_option linter.unusedVariables false
set_option linter.unusedSimpArgs false
open Go Go.SL

/-- The cells of a number. -/
def nc (v : Nat) : List Value := [.int .u64 ((v / 18446744073709551616 : Nat) : Int), .int .u64 ((v % 18446744073709551616 : Nat) : Int)]
abbrev M128 : Nat := 340282366920938463463374607431768211456
theorem M128_eq : M128 = 340282366920938463463374607431768211456 := rfl
theorem nc_of (h l : Nat) (hl : l < 18446744073709551616) : nc (h * 18446744073709551616 + l) = [.int .u64 (h : Int), .int .u64 (l : Int)] := by
  unfold nc
  rw [show (h * 18446744073709551616 + l) / 18446744073709551616 = h by omega, show (h * 18446744073709551616 + l) % 18446744073709551616 = l by omega]
theorem nc_small {l : Nat} (hl : l < 18446744073709551616) : nc l = [.int .u64 0, .int .u64 (l : Int)] := by
  have := nc_of 0 l hl
  simpa using this
theorem nc_len (v : Nat) : (nc v).length = 2 := rfl
theorem nc_inj {a b : Nat} : nc a = nc b ↔ a = b := by
  constructor
  · intro h
    simp only [nc, List.cons.injEq, Value.int.injEq, true_and, and_true] at h
    omega
  · rintro rfl; rfl
theorem nc_kv (a : Nat) : KV [.u64, .u64] (nc a) := rfl
theorem ps_num_eql {P : Program} {ty : TypeId} {n : FN} {f : Nat → Value} {x y : Operand} {t yt : TypeId} (a b : Nat) (h : EQ P t [.u64, .u64]) (hx : ev n f x = .agg (nc a).toArray) (hy : ev n f y = .agg (nc b).toArray) : PS P (.binOp .eql t x y yt) ty n f (.bool (decide (a = b))) :=
  ps_to (by congr 1; rw [decide_eq_decide]; exact nc_inj) (ps_agg_eql h hx hy (nc_kv a) (nc_kv b))
theorem ps_num_neq {P : Program} {ty : TypeId} {n : FN} {f : Nat → Value} {x y : Operand} {t yt : TypeId} (a b : Nat) (h : EQ P t [.u64, .u64]) (hx : ev n f x = .agg (nc a).toArray) (hy : ev n f y = .agg (nc b).toArray) : PS P (.binOp .neq t x y yt) ty n f (.bool (decide (a ≠ b))) :=
  ps_to (by congr 1; rw [decide_eq_decide]; exact not_congr nc_inj) (ps_agg_neq h hx hy (nc_kv a) (nc_kv b))

theorem Of_spec (x : Nat) (hx : x < 18446744073709551616) : FSpec Try.prog 13 [.int .u64 (x : Int)] [] (fun v As => v = .agg (nc x).toArray ∧ As = []) := by
  rw [nc_small hx]
  refine FSpec.intro Try.func13 rfl 5 Try.ntmps13 (Nat.le_of_ble_eq_true rfl) fun w0 F => ?_
  show CW _ _ _ _ _ _ (F)
  repeat (first | refine CW.seq ?_ | refine PW.then_ ?_ | refine PW.then_to rfl ?_ | refine CW.block ?_ | refine CW.skip ?_ | refine CW.ret ?_ | refine PW.then_ret ?_ | refine PW.block_ret ?_ | refine Cut.ret ?_ | refine Rnd.ret ?_ | refine PW.block_normal ?_ | refine CW.exit ?_ | refine PW.then_exit ?_ | refine PW.block_hit ?_ | refine PW.block_miss rfl ?_ | refine Cut.exit ?_ | refine Rnd.exit ?_)
  refine CW.region ?_
  refine LE (os_alloc T.ti29) ?_
  rintro _ _ ⟨b2, rfl, rfl⟩
  refine LW.nil ?_
  repeat (first | refine CW.seq ?_ | refine PW.then_ ?_ | refine PW.then_to rfl ?_ | refine CW.block ?_ | refine CW.skip ?_ | refine CW.ret ?_ | refine PW.then_ret ?_ | refine PW.block_ret ?_ | refine Cut.ret ?_ | refine Rnd.ret ?_ | refine PW.block_normal ?_ | refine CW.exit ?_ | refine PW.then_exit ?_ | refine PW.block_hit ?_ | refine PW.block_miss rfl ?_ | refine Cut.exit ?_ | refine Rnd.exit ?_)
  refine CW.region ?_
  refine L1 (ps_move rfl).os ?_
  refine L1 (ps_build (by rfl) (T.bd29_1 _)).os ?_
  refine L1 (os_storeAll (by repeat (first | exact pk_head _ _ | apply pk_tail)) (by exact T.sz29) rfl rfl (by first | exact nc_one _ | simp [Value.oneCell']) (by rfl)) ?_
  refine LW.nil ?_
  repeat (first | refine CW.seq ?_ | refine PW.then_ ?_ | refine PW.then_to rfl ?_ | refine CW.block ?_ | refine CW.skip ?_ | refine CW.ret ?_ | refine PW.then_ret ?_ | refine PW.block_ret ?_ | refine Cut.ret ?_ | refine Rnd.ret ?_ | refine PW.block_normal ?_ | refine CW.exit ?_ | refine PW.then_exit ?_ | refine PW.block_hit ?_ | refine PW.block_miss rfl ?_ | refine Cut.exit ?_ | refine Rnd.exit ?_)
  exact Fin.retCell (b := b2) (cs := [.int .u64 0, .int .u64 (x : Int)]) rfl (by repeat (first | exact pk_head _ _ | apply pk_tail)) T.ag29 (by exact T.sz29) rfl [] ⟨rfl, rfl⟩ (by repeat (first | exact Ent.refl _ | (apply Ent.cons; · repeat (first | exact pk_head _ _ | apply pk_tail)) | apply Ent.skip))
/-! ## Add, Sub, Compare -/
section
variable {P : Program} {ty : TypeId} {n : FN} {f : Nat → Value} {g : FuncId} {fn : Func} {args : Array Operand} {ts : Array TypeId}
theorem ps_add64 (x y c : Nat) (hc : c ≤ 1) (ha : args.toList.map (ev n f) = [.int .u64 (x : Int), .int .u64 (y : Int), .int .u64 (c : Int)]) (hf : P.funcs[g]? = some fn)
    (hname : (fn.name == "runtime.NumGoroutine") = false) (hb : fn.body.isNone = true) (hn : Extern.findNext fn = none) (he : Extern.find fn = some add64Entry) :
    PS P (CALL g args ts) ty n f (.tuple #[.int .u64 (((x + y + c) % 18446744073709551616 : Nat) : Int), .int .u64 (((x + y + c) / 18446744073709551616 : Nat) : Int)]) :=
  ps_extern (fun w => by
    have := run_add64 (P := P) (x : Int) y c (by omega) (by omega) (by omega) (by omega) w
    rw [show [Value.int .u64 (x : Int), .int .u64 (y : Int), .int .u64 (c : Int)].toArray = #[.int .u64 (x : Int), .int .u64 (y : Int), .int .u64 (c : Int)] from rfl, this]
    congr 4 <;> omega) ha hf hname hb hn he
theorem ps_sub64 (x y c : Nat) (hc : c ≤ 1) (ha : args.toList.map (ev n f) = [.int .u64 (x : Int), .int .u64 (y : Int), .int .u64 (c : Int)]) (hf : P.funcs[g]? = some fn)
    (hname : (fn.name == "runtime.NumGoroutine") = false) (hb : fn.body.isNone = true) (hn : Extern.findNext fn = none) (he : Extern.find fn = some sub64Entry) :
    PS P (CALL g args ts) ty n f (.tuple #[.int .u64 (((x + 18446744073709551616 - y - c) % 18446744073709551616 : Nat) : Int), .int .u64 ((if x < y + c then 1 else 0 : Nat) : Int)]) :=
  ps_extern (fun w => run_sub64 x y c hc w) ha hf hname hb hn he
theorem os_add64 {w0 : World} {As : List Asn} (x y c : Nat) (hx : x < 18446744073709551616) (hy : y < 18446744073709551616) (hc : c ≤ 1) (ha : args.toList.map (ev n f) = [.int .u64 (x : Int), .int .u64 (y : Int), .int .u64 (c : Int)]) (hf : P.funcs[g]? = some fn)
    (hname : (fn.name == "runtime.NumGoroutine") = false) (hb : fn.body.isNone = true) (hn : Extern.findNext fn = none) (he : Extern.find fn = some add64Entry) :
    OS P (CALL g args ts) ty n f w0 As (fun v Bs => ∃ d b : Nat, v = .tuple #[.int .u64 (d : Int), .int .u64 (b : Int)] ∧ Bs = As ∧ d < 18446744073709551616 ∧ b ≤ 1 ∧ d + b * 18446744073709551616 = x + y + c) :=
  fun w hw o ho ht K Q hK => (ps_add64 x y c hc ha hf hname hb hn he).os w hw o ho ht K Q fun v As' w' hr hw' => hK v As' w' ⟨_, _, hr.1, hr.2, by omega, by omega, by omega⟩ hw'
theorem os_sub64 {w0 : World} {As : List Asn} (x y c : Nat) (hx : x < 18446744073709551616) (hy : y < 18446744073709551616) (hc : c ≤ 1) (ha : args.toList.map (ev n f) = [.int .u64 (x : Int), .int .u64 (y : Int), .int .u64 (c : Int)]) (hf : P.funcs[g]? = some fn)
    (hname : (fn.name == "runtime.NumGoroutine") = false) (hb : fn.body.isNone = true) (hn : Extern.findNext fn = none) (he : Extern.find fn = some sub64Entry) :
    OS P (CALL g args ts) ty n f w0 As (fun v Bs => ∃ d b : Nat, v = .tuple #[.int .u64 (d : Int), .int .u64 (b : Int)] ∧ Bs = As ∧ d < 18446744073709551616 ∧ b ≤ 1 ∧ d + y + c = x + b * 18446744073709551616) :=
  fun w hw o ho ht K Q hK => (ps_sub64 x y c hc ha hf hname hb hn he).os w hw o ho ht K Q fun v As' w' hr hw' => hK v As' w' ⟨_, _, hr.1, hr.2, by omega, by split <;> omega, by split <;> omega⟩ hw'
end
theorem nc_one (v : Nat) : ∀ u ∈ nc v, u.oneCell' = true := fun u hu => by
  simp only [nc, List.mem_cons, List.not_mem_nil, or_false] at hu
  rcases hu with rfl | rfl <;> rfl
theorem sum_take_le (l : List Nat) (i : Nat) : (l.take i).sum ≤ l.sum := by
  have := List.take_append_drop i l
  have h2 : l.sum = (l.take i).sum + (l.drop i).sum := by rw [← List.sum_append, this]
  omega
theorem sum_take_succ {l : List Nat} {i : Nat} (h : i < l.length) : (l.take (i + 1)).sum = (l.take i).sum + l[i] := by
  rw [List.take_succ_eq_append_getElem h, List.sum_append]; simp
def addN (l : List Nat) : Nat × Bool := if l.sum < M128 then (l.sum, true) else (0, false)
def subN (a b : Nat) : Nat × Bool := if b ≤ a then (a - b, true) else (0, false)
def cmpN (a b : Nat) : Int := if a < b then -1 else if a = b then 0 else 1
theorem Compare_spec (a b : Nat) (ha : a < M128) (hb : b < M128) : FSpec Try.prog 12 [.agg (nc a).toArray, .agg (nc b).toArray] [] (fun r As => r = .int .i64 (cmpN a b) ∧ As = []) := by
  have hM := M128_eq
  refine FSpec.intro Try.func12 rfl 29 Try.ntmps12 (Nat.le_of_ble_eq_true rfl) fun w0 F => ?_
  show CW _ _ _ _ _ _ (F)
  repeat (first | refine CW.seq ?_ | refine PW.then_ ?_ | refine PW.then_to rfl ?_ | refine CW.block ?_ | refine CW.skip ?_ | refine CW.ret ?_ | refine PW.then_ret ?_ | refine PW.block_ret ?_ | refine Cut.ret ?_ | refine Rnd.ret ?_ | refine PW.block_normal ?_ | refine CW.exit ?_ | refine PW.then_exit ?_ | refine PW.block_hit ?_ | refine PW.block_miss rfl ?_ | refine Cut.exit ?_ | refine Rnd.exit ?_)
  refine CW.region ?_
  refine LE (os_box rfl (by rfl)) ?_
  rintro _ _ ⟨b2, rfl, rfl⟩
  refine LE (os_box rfl (by rfl)) ?_
  rintro _ _ ⟨b3, rfl, rfl⟩
  refine L1 (ps_assign rfl).os ?_
  refine LW.nil ?_
  repeat (first | refine CW.seq ?_ | refine PW.then_ ?_ | refine PW.then_to rfl ?_ | refine CW.block ?_ | refine CW.skip ?_ | refine CW.ret ?_ | refine PW.then_ret ?_ | refine PW.block_ret ?_ | refine Cut.ret ?_ | refine Rnd.ret ?_ | refine PW.block_normal ?_ | refine CW.exit ?_ | refine PW.then_exit ?_ | refine PW.block_hit ?_ | refine PW.block_miss rfl ?_ | refine Cut.exit ?_ | refine Rnd.exit ?_)
  by_cases hlt : a < b
  · have ho : cmpN a b = -1 := by unfold cmpN; rw [if_pos hlt]
    rw [ho]
    by_cases h1 : a / 18446744073709551616 < b / 18446744073709551616
    · refine CW.region ?_
      refine L1 (ps_fa T.fa29_0 (by decide) rfl).os ?_
      refine L1 (os_load1 (by repeat (first | exact pk_head _ _ | apply pk_tail)) T.ag27 rfl (by rfl)) ?_
      refine L1 (ps_fa T.fa29_0 (by decide) rfl).os ?_
      refine L1 (os_load1 (by repeat (first | exact pk_head _ _ | apply pk_tail)) T.ag27 rfl (by rfl)) ?_
      refine L1 (ps_t (ps_lss rfl rfl) (by exact_mod_cast h1)).os ?_
      refine L1 (ps_move rfl).os ?_
      refine LG0f ?_ ?_
      · exact rfl
      refine LG0f ?_ ?_
      · exact rfl
      refine LG0f ?_ ?_
      · exact rfl
      refine LG0f ?_ ?_
      · exact rfl
      refine LG0f ?_ ?_
      · exact rfl
      refine LG0f ?_ ?_
      · exact rfl
      refine LGU ?_ ?_
      · exact rfl
      refine LGU ?_ ?_
      · exact rfl
      refine LGU ?_ ?_
      · exact rfl
      refine LGU ?_ ?_
      · exact rfl
      refine LGU ?_ ?_
      · exact rfl
      refine LG0f ?_ ?_
      · exact rfl
      refine L1 (ps_pick_t rfl rfl).os ?_
      refine L1 (ps_assign rfl).os ?_
      refine LW.nil ?_
      repeat (first | refine CW.seq ?_ | refine PW.then_ ?_ | refine PW.then_to rfl ?_ | refine CW.block ?_ | refine CW.skip ?_ | refine CW.ret ?_ | refine PW.then_ret ?_ | refine PW.block_ret ?_ | refine Cut.ret ?_ | refine Rnd.ret ?_ | refine PW.block_normal ?_ | refine CW.exit ?_ | refine PW.then_exit ?_ | refine PW.block_hit ?_ | refine PW.block_miss rfl ?_ | refine Cut.exit ?_ | refine Rnd.exit ?_)
      refine CW.cond_true rfl ?_
      repeat (first | refine CW.seq ?_ | refine PW.then_ ?_ | refine PW.then_to rfl ?_ | refine CW.block ?_ | refine CW.skip ?_ | refine CW.ret ?_ | refine PW.then_ret ?_ | refine PW.block_ret ?_ | refine Cut.ret ?_ | refine Rnd.ret ?_ | refine PW.block_normal ?_ | refine CW.exit ?_ | refine PW.then_exit ?_ | refine PW.block_hit ?_ | refine PW.block_miss rfl ?_ | refine Cut.exit ?_ | refine Rnd.exit ?_)
      refine CW.region ?_
      refine L1 (ps_assign rfl).os ?_
      refine LW.nil ?_
      repeat (first | refine CW.seq ?_ | refine PW.then_ ?_ | refine PW.then_to rfl ?_ | refine CW.block ?_ | refine CW.skip ?_ | refine CW.ret ?_ | refine PW.then_ret ?_ | refine PW.block_ret ?_ | refine Cut.ret ?_ | refine Rnd.ret ?_ | refine PW.block_normal ?_ | refine CW.exit ?_ | refine PW.then_exit ?_ | refine PW.block_hit ?_ | refine PW.block_miss rfl ?_ | refine Cut.exit ?_ | refine Rnd.exit ?_)
      exact Fin.ret1 (v := .int .i64 (-1)) rfl [] rfl ⟨rfl, rfl⟩ (by repeat (first | exact Ent.refl _ | (apply Ent.cons; · repeat (first | exact pk_head _ _ | apply pk_tail)) | apply Ent.skip))
    · have h2 : a / 18446744073709551616 = b / 18446744073709551616 := by omega
      have h3 : a % 18446744073709551616 < b % 18446744073709551616 := by omega
      refine CW.region ?_
      refine L1 (ps_fa T.fa29_0 (by decide) rfl).os ?_
      refine L1 (os_load1 (by repeat (first | exact pk_head _ _ | apply pk_tail)) T.ag27 rfl (by rfl)) ?_
      refine L1 (ps_fa T.fa29_0 (by decide) rfl).os ?_
      refine L1 (os_load1 (by repeat (first | exact pk_head _ _ | apply pk_tail)) T.ag27 rfl (by rfl)) ?_
      refine L1 (ps_f (ps_lss rfl rfl) (by exact_mod_cast h1)).os ?_
      refine L1 (ps_move rfl).os ?_
      refine LG1 ?_ (ps_fa T.fa29_0 (by decide) rfl).os ?_
      · exact rfl
      refine LG1 ?_ (os_load1 (by repeat (first | exact pk_head _ _ | apply pk_tail)) T.ag27 rfl (by rfl)) ?_
      · exact rfl
      refine LG1 ?_ (ps_fa T.fa29_0 (by decide) rfl).os ?_
      · exact rfl
      refine LG1 ?_ (os_load1 (by repeat (first | exact pk_head _ _ | apply pk_tail)) T.ag27 rfl (by rfl)) ?_
      · exact rfl
      refine LG1 ?_ (ps_t (ps_eql rfl rfl) (by exact_mod_cast h2)).os ?_
      · exact rfl
      refine LG1 ?_ (ps_move rfl).os ?_
      · exact rfl
      refine LG1 ?_ (ps_fa T.fa29_1 (by decide) rfl).os ?_
      · exact rfl
      refine LG1 ?_ (os_load1 (by repeat (first | exact pk_head _ _ | apply pk_tail)) T.ag27 rfl (by rfl)) ?_
      · exact rfl
      refine LG1 ?_ (ps_fa T.fa29_1 (by decide) rfl).os ?_
      · exact rfl
      refine LG1 ?_ (os_load1 (by repeat (first | exact pk_head _ _ | apply pk_tail)) T.ag27 rfl (by rfl)) ?_
      · exact rfl
      refine LG1 ?_ (ps_t (ps_lss rfl rfl) (by exact_mod_cast h3)).os ?_
      · exact rfl
      refine LG1 ?_ (ps_pick_t rfl rfl).os ?_
      · exact rfl
      refine L1 (ps_pick_f rfl rfl).os ?_
      refine L1 (ps_assign rfl).os ?_
      refine LW.nil ?_
      repeat (first | refine CW.seq ?_ | refine PW.then_ ?_ | refine PW.then_to rfl ?_ | refine CW.block ?_ | refine CW.skip ?_ | refine CW.ret ?_ | refine PW.then_ret ?_ | refine PW.block_ret ?_ | refine Cut.ret ?_ | refine Rnd.ret ?_ | refine PW.block_normal ?_ | refine CW.exit ?_ | refine PW.then_exit ?_ | refine PW.block_hit ?_ | refine PW.block_miss rfl ?_ | refine Cut.exit ?_ | refine Rnd.exit ?_)
      refine CW.cond_true rfl ?_
      repeat (first | refine CW.seq ?_ | refine PW.then_ ?_ | refine PW.then_to rfl ?_ | refine CW.block ?_ | refine CW.skip ?_ | refine CW.ret ?_ | refine PW.then_ret ?_ | refine PW.block_ret ?_ | refine Cut.ret ?_ | refine Rnd.ret ?_ | refine PW.block_normal ?_ | refine CW.exit ?_ | refine PW.then_exit ?_ | refine PW.block_hit ?_ | refine PW.block_miss rfl ?_ | refine Cut.exit ?_ | refine Rnd.exit ?_)
      refine CW.region ?_
      refine L1 (ps_assign rfl).os ?_
      refine LW.nil ?_
      repeat (first | refine CW.seq ?_ | refine PW.then_ ?_ | refine PW.then_to rfl ?_ | refine CW.block ?_ | refine CW.skip ?_ | refine CW.ret ?_ | refine PW.then_ret ?_ | refine PW.block_ret ?_ | refine Cut.ret ?_ | refine Rnd.ret ?_ | refine PW.block_normal ?_ | refine CW.exit ?_ | refine PW.then_exit ?_ | refine PW.block_hit ?_ | refine PW.block_miss rfl ?_ | refine Cut.exit ?_ | refine Rnd.exit ?_)
      exact Fin.ret1 (v := .int .i64 (-1)) rfl [] rfl ⟨rfl, rfl⟩ (by repeat (first | exact Ent.refl _ | (apply Ent.cons; · repeat (first | exact pk_head _ _ | apply pk_tail)) | apply Ent.skip))
  · have h1 : ¬ a / 18446744073709551616 < b / 18446744073709551616 := by omega
    by_cases h2 : a / 18446744073709551616 = b / 18446744073709551616
    · have h3 : ¬ a % 18446744073709551616 < b % 18446744073709551616 := by omega
      refine CW.region ?_
      refine L1 (ps_fa T.fa29_0 (by decide) rfl).os ?_
      refine L1 (os_load1 (by repeat (first | exact pk_head _ _ | apply pk_tail)) T.ag27 rfl (by rfl)) ?_
      refine L1 (ps_fa T.fa29_0 (by decide) rfl).os ?_
      refine L1 (os_load1 (by repeat (first | exact pk_head _ _ | apply pk_tail)) T.ag27 rfl (by rfl)) ?_
      refine L1 (ps_f (ps_lss rfl rfl) (by exact_mod_cast h1)).os ?_
      refine L1 (ps_move rfl).os ?_
      refine LG1 ?_ (ps_fa T.fa29_0 (by decide) rfl).os ?_
      · exact rfl
      refine LG1 ?_ (os_load1 (by repeat (first | exact pk_head _ _ | apply pk_tail)) T.ag27 rfl (by rfl)) ?_
      · exact rfl
      refine LG1 ?_ (ps_fa T.fa29_0 (by decide) rfl).os ?_
      · exact rfl
      refine LG1 ?_ (os_load1 (by repeat (first | exact pk_head _ _ | apply pk_tail)) T.ag27 rfl (by rfl)) ?_
      · exact rfl
      refine LG1 ?_ (ps_t (ps_eql rfl rfl) (by exact_mod_cast h2)).os ?_
      · exact rfl
      refine LG1 ?_ (ps_move rfl).os ?_
      · exact rfl
      refine LG1 ?_ (ps_fa T.fa29_1 (by decide) rfl).os ?_
      · exact rfl
      refine LG1 ?_ (os_load1 (by repeat (first | exact pk_head _ _ | apply pk_tail)) T.ag27 rfl (by rfl)) ?_
      · exact rfl
      refine LG1 ?_ (ps_fa T.fa29_1 (by decide) rfl).os ?_
      · exact rfl
      refine LG1 ?_ (os_load1 (by repeat (first | exact pk_head _ _ | apply pk_tail)) T.ag27 rfl (by rfl)) ?_
      · exact rfl
      refine LG1 ?_ (ps_f (ps_lss rfl rfl) (by exact_mod_cast h3)).os ?_
      · exact rfl
      refine LG1 ?_ (ps_pick_t rfl rfl).os ?_
      · exact rfl
      refine L1 (ps_pick_f rfl rfl).os ?_
      refine L1 (ps_assign rfl).os ?_
      refine LW.nil ?_
      repeat (first | refine CW.seq ?_ | refine PW.then_ ?_ | refine PW.then_to rfl ?_ | refine CW.block ?_ | refine CW.skip ?_ | refine CW.ret ?_ | refine PW.then_ret ?_ | refine PW.block_ret ?_ | refine Cut.ret ?_ | refine Rnd.ret ?_ | refine PW.block_normal ?_ | refine CW.exit ?_ | refine PW.then_exit ?_ | refine PW.block_hit ?_ | refine PW.block_miss rfl ?_ | refine Cut.exit ?_ | refine Rnd.exit ?_)
      refine CW.cond_false rfl ?_
      repeat (first | refine CW.seq ?_ | refine PW.then_ ?_ | refine PW.then_to rfl ?_ | refine CW.block ?_ | refine CW.skip ?_ | refine CW.ret ?_ | refine PW.then_ret ?_ | refine PW.block_ret ?_ | refine Cut.ret ?_ | refine Rnd.ret ?_ | refine PW.block_normal ?_ | refine CW.exit ?_ | refine PW.then_exit ?_ | refine PW.block_hit ?_ | refine PW.block_miss rfl ?_ | refine Cut.exit ?_ | refine Rnd.exit ?_)
      by_cases he : a = b
      · have ho : cmpN a b = 0 := by unfold cmpN; rw [if_neg hlt, if_pos he]
        rw [ho]
        refine CW.region ?_
        refine L1 (os_loadAll (by repeat (first | exact pk_head _ _ | apply pk_tail)) T.ag29 (by exact T.sz29) rfl) ?_
        refine L1 (os_loadAll (by repeat (first | exact pk_head _ _ | apply pk_tail)) T.ag29 (by exact T.sz29) rfl) ?_
        refine L1 (ps_t (ps_num_eql a b T.eq29 rfl rfl) he).os ?_
        refine L1 (ps_assign rfl).os ?_
        refine LW.nil ?_
        repeat (first | refine CW.seq ?_ | refine PW.then_ ?_ | refine PW.then_to rfl ?_ | refine CW.block ?_ | refine CW.skip ?_ | refine CW.ret ?_ | refine PW.then_ret ?_ | refine PW.block_ret ?_ | refine Cut.ret ?_ | refine Rnd.ret ?_ | refine PW.block_normal ?_ | refine CW.exit ?_ | refine PW.then_exit ?_ | refine PW.block_hit ?_ | refine PW.block_miss rfl ?_ | refine Cut.exit ?_ | refine Rnd.exit ?_)
        refine CW.cond_true rfl ?_
        repeat (first | refine CW.seq ?_ | refine PW.then_ ?_ | refine PW.then_to rfl ?_ | refine CW.block ?_ | refine CW.skip ?_ | refine CW.ret ?_ | refine PW.then_ret ?_ | refine PW.block_ret ?_ | refine Cut.ret ?_ | refine Rnd.ret ?_ | refine PW.block_normal ?_ | refine CW.exit ?_ | refine PW.then_exit ?_ | refine PW.block_hit ?_ | refine PW.block_miss rfl ?_ | refine Cut.exit ?_ | refine Rnd.exit ?_)
        refine CW.region ?_
        refine L1 (ps_assign rfl).os ?_
        refine LW.nil ?_
        repeat (first | refine CW.seq ?_ | refine PW.then_ ?_ | refine PW.then_to rfl ?_ | refine CW.block ?_ | refine CW.skip ?_ | refine CW.ret ?_ | refine PW.then_ret ?_ | refine PW.block_ret ?_ | refine Cut.ret ?_ | refine Rnd.ret ?_ | refine PW.block_normal ?_ | refine CW.exit ?_ | refine PW.then_exit ?_ | refine PW.block_hit ?_ | refine PW.block_miss rfl ?_ | refine Cut.exit ?_ | refine Rnd.exit ?_)
        exact Fin.ret1 (v := .int .i64 0) rfl [] rfl ⟨rfl, rfl⟩ (by repeat (first | exact Ent.refl _ | (apply Ent.cons; · repeat (first | exact pk_head _ _ | apply pk_tail)) | apply Ent.skip))
      · have ho : cmpN a b = 1 := by unfold cmpN; rw [if_neg hlt, if_neg he]
        rw [ho]
        refine CW.region ?_
        refine L1 (os_loadAll (by repeat (first | exact pk_head _ _ | apply pk_tail)) T.ag29 (by exact T.sz29) rfl) ?_
        refine L1 (os_loadAll (by repeat (first | exact pk_head _ _ | apply pk_tail)) T.ag29 (by exact T.sz29) rfl) ?_
        refine L1 (ps_f (ps_num_eql a b T.eq29 rfl rfl) he).os ?_
        refine L1 (ps_assign rfl).os ?_
        refine LW.nil ?_
        repeat (first | refine CW.seq ?_ | refine PW.then_ ?_ | refine PW.then_to rfl ?_ | refine CW.block ?_ | refine CW.skip ?_ | refine CW.ret ?_ | refine PW.then_ret ?_ | refine PW.block_ret ?_ | refine Cut.ret ?_ | refine Rnd.ret ?_ | refine PW.block_normal ?_ | refine CW.exit ?_ | refine PW.then_exit ?_ | refine PW.block_hit ?_ | refine PW.block_miss rfl ?_ | refine Cut.exit ?_ | refine Rnd.exit ?_)
        refine CW.cond_false rfl ?_
        repeat (first | refine CW.seq ?_ | refine PW.then_ ?_ | refine PW.then_to rfl ?_ | refine CW.block ?_ | refine CW.skip ?_ | refine CW.ret ?_ | refine PW.then_ret ?_ | refine PW.block_ret ?_ | refine Cut.ret ?_ | refine Rnd.ret ?_ | refine PW.block_normal ?_ | refine CW.exit ?_ | refine PW.then_exit ?_ | refine PW.block_hit ?_ | refine PW.block_miss rfl ?_ | refine Cut.exit ?_ | refine Rnd.exit ?_)
        refine CW.region ?_
        refine L1 (ps_assign rfl).os ?_
        refine LW.nil ?_
        repeat (first | refine CW.seq ?_ | refine PW.then_ ?_ | refine PW.then_to rfl ?_ | refine CW.block ?_ | refine CW.skip ?_ | refine CW.ret ?_ | refine PW.then_ret ?_ | refine PW.block_ret ?_ | refine Cut.ret ?_ | refine Rnd.ret ?_ | refine PW.block_normal ?_ | refine CW.exit ?_ | refine PW.then_exit ?_ | refine PW.block_hit ?_ | refine PW.block_miss rfl ?_ | refine Cut.exit ?_ | refine Rnd.exit ?_)
        exact Fin.ret1 (v := .int .i64 1) rfl [] rfl ⟨rfl, rfl⟩ (by repeat (first | exact Ent.refl _ | (apply Ent.cons; · repeat (first | exact pk_head _ _ | apply pk_tail)) | apply Ent.skip))
    · have he : a ≠ b := fun h => h2 (by rw [h])
      have ho : cmpN a b = 1 := by unfold cmpN; rw [if_neg hlt, if_neg he]
      rw [ho]
      refine CW.region ?_
      refine L1 (ps_fa T.fa29_0 (by decide) rfl).os ?_
      refine L1 (os_load1 (by repeat (first | exact pk_head _ _ | apply pk_tail)) T.ag27 rfl (by rfl)) ?_
      refine L1 (ps_fa T.fa29_0 (by decide) rfl).os ?_
      refine L1 (os_load1 (by repeat (first | exact pk_head _ _ | apply pk_tail)) T.ag27 rfl (by rfl)) ?_
      refine L1 (ps_f (ps_lss rfl rfl) (by exact_mod_cast h1)).os ?_
      refine L1 (ps_move rfl).os ?_
      refine LG1 ?_ (ps_fa T.fa29_0 (by decide) rfl).os ?_
      · exact rfl
      refine LG1 ?_ (os_load1 (by repeat (first | exact pk_head _ _ | apply pk_tail)) T.ag27 rfl (by rfl)) ?_
      · exact rfl
      refine LG1 ?_ (ps_fa T.fa29_0 (by decide) rfl).os ?_
      · exact rfl
      refine LG1 ?_ (os_load1 (by repeat (first | exact pk_head _ _ | apply pk_tail)) T.ag27 rfl (by rfl)) ?_
      · exact rfl
      refine LG1 ?_ (ps_f (ps_eql rfl rfl) (by exact_mod_cast h2)).os ?_
      · exact rfl
      refine LG1 ?_ (ps_move rfl).os ?_
      · exact rfl
      refine LG0t ?_ ?_
      · exact rfl
      refine LG0t ?_ ?_
      · exact rfl
      refine LG0t ?_ ?_
      · exact rfl
      refine LG0t ?_ ?_
      · exact rfl
      refine LG0t ?_ ?_
      · exact rfl
      refine LG1 ?_ (ps_pick_f rfl rfl).os ?_
      · exact rfl
      refine L1 (ps_pick_f rfl rfl).os ?_
      refine L1 (ps_assign rfl).os ?_
      refine LW.nil ?_
      repeat (first | refine CW.seq ?_ | refine PW.then_ ?_ | refine PW.then_to rfl ?_ | refine CW.block ?_ | refine CW.skip ?_ | refine CW.ret ?_ | refine PW.then_ret ?_ | refine PW.block_ret ?_ | refine Cut.ret ?_ | refine Rnd.ret ?_ | refine PW.block_normal ?_ | refine CW.exit ?_ | refine PW.then_exit ?_ | refine PW.block_hit ?_ | refine PW.block_miss rfl ?_ | refine Cut.exit ?_ | refine Rnd.exit ?_)
      refine CW.cond_false rfl ?_
      repeat (first | refine CW.seq ?_ | refine PW.then_ ?_ | refine PW.then_to rfl ?_ | refine CW.block ?_ | refine CW.skip ?_ | refine CW.ret ?_ | refine PW.then_ret ?_ | refine PW.block_ret ?_ | refine Cut.ret ?_ | refine Rnd.ret ?_ | refine PW.block_normal ?_ | refine CW.exit ?_ | refine PW.then_exit ?_ | refine PW.block_hit ?_ | refine PW.block_miss rfl ?_ | refine Cut.exit ?_ | refine Rnd.exit ?_)
      refine CW.region ?_
      refine L1 (os_loadAll (by repeat (first | exact pk_head _ _ | apply pk_tail)) T.ag29 (by exact T.sz29) rfl) ?_
      refine L1 (os_loadAll (by repeat (first | exact pk_head _ _ | apply pk_tail)) T.ag29 (by exact T.sz29) rfl) ?_
      refine L1 (ps_f (ps_num_eql a b T.eq29 rfl rfl) he).os ?_
      refine L1 (ps_assign rfl).os ?_
      refine LW.nil ?_
      repeat (first | refine CW.seq ?_ | refine PW.then_ ?_ | refine PW.then_to rfl ?_ | refine CW.block ?_ | refine CW.skip ?_ | refine CW.ret ?_ | refine PW.then_ret ?_ | refine PW.block_ret ?_ | refine Cut.ret ?_ | refine Rnd.ret ?_ | refine PW.block_normal ?_ | refine CW.exit ?_ | refine PW.then_exit ?_ | refine PW.block_hit ?_ | refine PW.block_miss rfl ?_ | refine Cut.exit ?_ | refine Rnd.exit ?_)
      refine CW.cond_false rfl ?_
      repeat (first | refine CW.seq ?_ | refine PW.then_ ?_ | refine PW.then_to rfl ?_ | refine CW.block ?_ | refine CW.skip ?_ | refine CW.ret ?_ | refine PW.then_ret ?_ | refine PW.block_ret ?_ | refine Cut.ret ?_ | refine Rnd.ret ?_ | refine PW.block_normal ?_ | refine CW.exit ?_ | refine PW.then_exit ?_ | refine PW.block_hit ?_ | refine PW.block_miss rfl ?_ | refine Cut.exit ?_ | refine Rnd.exit ?_)
      refine CW.region ?_
      refine L1 (ps_assign rfl).os ?_
      refine LW.nil ?_
      repeat (first | refine CW.seq ?_ | refine PW.then_ ?_ | refine PW.then_to rfl ?_ | refine CW.block ?_ | refine CW.skip ?_ | refine CW.ret ?_ | refine PW.then_ret ?_ | refine PW.block_ret ?_ | refine Cut.ret ?_ | refine Rnd.ret ?_ | refine PW.block_normal ?_ | refine CW.exit ?_ | refine PW.then_exit ?_ | refine PW.block_hit ?_ | refine PW.block_miss rfl ?_ | refine Cut.exit ?_ | refine Rnd.exit ?_)
      exact Fin.ret1 (v := .int .i64 1) rfl [] rfl ⟨rfl, rfl⟩ (by repeat (first | exact Ent.refl _ | (apply Ent.cons; · repeat (first | exact pk_head _ _ | apply pk_tail)) | apply Ent.skip))

/-! ## Least, Bit, Bytes, Read -/
theorem cmpN_le0 {a b : Nat} : cmpN a b ≤ 0 ↔ a ≤ b := by unfold cmpN; split <;> (try split) <;> omega
theorem cmpN_gt0 {a b : Nat} : 0 < cmpN a b ↔ b < a := by unfold cmpN; split <;> (try split) <;> omega
theorem cmpN_ge0 {a b : Nat} : 0 ≤ cmpN a b ↔ b ≤ a := by unfold cmpN; split <;> (try split) <;> omega
theorem cmpN_lt0 {a b : Nat} : cmpN a b < 0 ↔ a < b := by unfold cmpN; split <;> (try split) <;> omega
theorem cmpN_eq0 {a b : Nat} : cmpN a b = 0 ↔ a = b := by unfold cmpN; split <;> (try split) <;> omega
theorem cmpN_neg (a b : Nat) : cmpN b a = 0 - cmpN a b := by unfold cmpN; split <;> (try split) <;> (try split) <;> (try split) <;> omega
def minN : List Nat → Nat → Nat
  | [], m => m
  | x :: l, m => minN l (if x < m then x else m)
theorem minN_append (l l' : List Nat) (m : Nat) : minN (l ++ l') m = minN l' (minN l m) := by
  induction l generalizing m with
  | nil => rfl
  | cons x l ih => exact ih _
theorem minN_lt {l : List Nat} {m : Nat} (hl : ∀ x ∈ l, x < M128) (hm : m < M128) : minN l m < M128 := by
  induction l generalizing m with
  | nil => exact hm
  | cons x l ih =>
    refine ih (fun y hy => hl y (by simp [hy])) ?_
    split
    · exact hl x (by simp)
    · exact hm
def bitN (a : Nat) (i : Int) : Int := if i < 0 ∨ 128 ≤ i then 0 else ((a / 2 ^ (127 - i).toNat % 2 : Nat) : Int)
theorem fdiv_pow (a k : Nat) : ((a : Nat) : Int).fdiv (2 ^ k) = ((a / 2 ^ k : Nat) : Int) := by
  rw [Int.fdiv_eq_ediv_of_nonneg _ (by exact_mod_cast Nat.zero_le _)]
  push_cast; rfl
theorem bit_hi (a k : Nat) : a / 18446744073709551616 / 2 ^ k % 2 = a / 2 ^ (64 + k) % 2 := by
  rw [Nat.div_div_eq_div_mul, Nat.pow_add]
theorem bit_lo (a k : Nat) (hk : k < 64) : a % 18446744073709551616 / 2 ^ k % 2 = a / 2 ^ k % 2 := by
  have e : (18446744073709551616 : Nat) = 2 ^ k * (2 * 2 ^ (63 - k)) := by
    rw [← Nat.pow_succ', ← Nat.pow_add, show k + (63 - k + 1) = 64 by omega]
  rw [e, Nat.mod_mul_right_div_self, Nat.mod_mul_right_mod]

theorem byte_hi (a k : Nat) : (a / 18446744073709551616 / 2 ^ (8 * k)) % 256 = (a / 2 ^ (8 * (k + 8))) % 256 := by
  rw [Nat.div_div_eq_div_mul, show 8 * (k + 8) = 64 + 8 * k by omega, Nat.pow_add]
theorem byte_lo (a k : Nat) (hk : k < 8) : (a % 18446744073709551616 / 2 ^ (8 * k)) % 256 = (a / 2 ^ (8 * k)) % 256 := by
  have e : (18446744073709551616 : Nat) = 2 ^ (8 * k) * (256 * 2 ^ (56 - 8 * k)) := by
    rw [show (256 : Nat) = 2 ^ 8 from rfl, ← Nat.pow_add, ← Nat.pow_add, show 8 * k + (8 + (56 - 8 * k)) = 64 by omega]
  rw [e, Nat.mod_mul_right_div_self, Nat.mod_mul_right_mod]
def bytesN (a : Nat) : List UInt8 := be 16 a
def readN (bs : List UInt8) : Nat × Bool := if bs.length = 16 then (num bs, true) else (0, false)
end Go.Proofs.Ytejphoheaeplbaa
