/- The functions of u128: each one's contract, over the number itself. -/
import Derived.Test.YtpcjjchanjdkaaaTy
import Derived.Test.YtpcjjchanjdkaaaNum
import Derived.Test.YtpcjjchanjdkaaaLaw
import Derived.Shelf.Spec.BitsCarry
namespace Go.Proofs.Ytpcjjchanjdkaaa
set_option linter.unusedVariables false
set_option linter.unusedSimpArgs false
open Go Go.SL

/-- The cells of a number. -/
def nc (v : Nat) : List Value := [.int .u64 ((v / 18446744073709551616 : Nat) : Int), .int .u64 ((v % 18446744073709551616 : Nat) : Int)]
abbrev M128 : Nat := 340282366920938463463374607431768211456
theorem M128_eq : M128 = 340282366920938463463374607431768211456 := rfl
theorem nc_of (h l : Nat) (hl : l < 18446744073709551616) : nc (h * 18446744073709551616 + l) = [.int .u64 (h : Int), .int .u64 (l : Int)] := by
  unfold nc
  rw [show (h * 18446744073709551616 + l) / 18446744073709551616 = h by omega, show (h * 18446744073709551616 + l) % 18446744073709551616 = l by omega]
theorem nc_small {l : Nat} (hl : l < 18446744073709551616) : nc l = [.int .u64 0, .int .u64 (l : Int)] := by
  have := nc_of 0 l hl
  simpa using this
theorem nc_len (v : Nat) : (nc v).length = 2 := rfl
theorem nc_inj {a b : Nat} : nc a = nc b ↔ a = b := by
  constructor
  · intro h
    simp only [nc, List.cons.injEq, Value.int.injEq, true_and, and_true] at h
    omega
  · rintro rfl; rfl
theorem nc_kv (a : Nat) : KV [.u64, .u64] (nc a) := rfl
theorem ps_num_eql {P : Program} {ty : TypeId} {n : FN} {f : Nat → Value} {x y : Operand} {t yt : TypeId} (a b : Nat) (h : EQ P t [.u64, .u64]) (hx : ev n f x = .agg (nc a).toArray) (hy : ev n f y = .agg (nc b).toArray) : PS P (.binOp .eql t x y yt) ty n f (.bool (decide (a = b))) :=
  ps_to (by congr 1; rw [decide_eq_decide]; exact nc_inj) (ps_agg_eql h hx hy (nc_kv a) (nc_kv b))
theorem ps_num_neq {P : Program} {ty : TypeId} {n : FN} {f : Nat → Value} {x y : Operand} {t yt : TypeId} (a b : Nat) (h : EQ P t [.u64, .u64]) (hx : ev n f x = .agg (nc a).toArray) (hy : ev n f y = .agg (nc b).toArray) : PS P (.binOp .neq t x y yt) ty n f (.bool (decide (a ≠ b))) :=
  ps_to (by congr 1; rw [decide_eq_decide]; exact not_congr nc_inj) (ps_agg_neq h hx hy (nc_kv a) (nc_kv b))

theorem Of_spec (x : Nat) (hx : x < 18446744073709551616) : FSpec Try.prog 33 [.int .u64 (x : Int)] [] (fun v As => v = .agg (nc x).toArray ∧ As = []) := by
  rw [nc_small hx]
  refine FSpec.intro Try.func33 rfl 5 Try.ntmps33 (Nat.le_of_ble_eq_true rfl) fun w0 F => ?_
  show CW _ _ _ _ _ _ (F)
  repeat (first | refine CW.seq ?_ | refine PW.then_ ?_ | refine CW.block ?_ | refine CW.skip ?_ | refine CW.ret ?_ | refine PW.then_ret ?_ | refine PW.block_ret ?_ | refine Cut.ret ?_ | refine Rnd.ret ?_ | refine PW.block_normal ?_ | refine CW.exit ?_ | refine PW.then_exit ?_ | refine PW.block_hit ?_ | refine PW.block_miss rfl ?_ | refine Cut.exit ?_ | refine Rnd.exit ?_)
  refine CW.region ?_
  refine LE (os_alloc T.ti26) ?_
  rintro _ _ ⟨b2, rfl, rfl⟩
  refine LW.nil ?_
  repeat (first | refine CW.seq ?_ | refine PW.then_ ?_ | refine CW.block ?_ | refine CW.skip ?_ | refine CW.ret ?_ | refine PW.then_ret ?_ | refine PW.block_ret ?_ | refine Cut.ret ?_ | refine Rnd.ret ?_ | refine PW.block_normal ?_ | refine CW.exit ?_ | refine PW.then_exit ?_ | refine PW.block_hit ?_ | refine PW.block_miss rfl ?_ | refine Cut.exit ?_ | refine Rnd.exit ?_)
  refine CW.region ?_
  refine L1 (ps_move rfl).os ?_
  refine L1 (ps_build (by rfl) (T.bd26_1 _)).os ?_
  refine L1 (os_storeAll (by repeat (first | exact pk_head _ _ | apply pk_tail)) (by exact T.sz26) rfl rfl (by first | exact nc_one _ | simp [Value.oneCell']) (by rfl)) ?_
  refine LW.nil ?_
  repeat (first | refine CW.seq ?_ | refine PW.then_ ?_ | refine CW.block ?_ | refine CW.skip ?_ | refine CW.ret ?_ | refine PW.then_ret ?_ | refine PW.block_ret ?_ | refine Cut.ret ?_ | refine Rnd.ret ?_ | refine PW.block_normal ?_ | refine CW.exit ?_ | refine PW.then_exit ?_ | refine PW.block_hit ?_ | refine PW.block_miss rfl ?_ | refine Cut.exit ?_ | refine Rnd.exit ?_)
  exact Fin.retCell (b := b2) (cs := [.int .u64 0, .int .u64 (x : Int)]) rfl (by repeat (first | exact pk_head _ _ | apply pk_tail)) T.ag26 (by exact T.sz26) rfl [] ⟨rfl, rfl⟩ (by repeat (first | exact Ent.refl _ | (apply Ent.cons; · repeat (first | exact pk_head _ _ | apply pk_tail)) | apply Ent.skip))
/-! ## Add, Sub, Compare -/
section
variable {P : Program} {ty : TypeId} {n : FN} {f : Nat → Value} {g : FuncId} {fn : Func} {args : Array Operand} {ts : Array TypeId}
theorem ps_add64 (x y c : Nat) (hc : c ≤ 1) (ha : args.toList.map (ev n f) = [.int .u64 (x : Int), .int .u64 (y : Int), .int .u64 (c : Int)]) (hf : P.funcs[g]? = some fn)
    (hname : (fn.name == "runtime.NumGoroutine") = false) (hb : fn.body.isNone = true) (hn : Extern.findNext fn = none) (he : Extern.find fn = some add64Entry) :
    PS P (CALL g args ts) ty n f (.tuple #[.int .u64 (((x + y + c) % 18446744073709551616 : Nat) : Int), .int .u64 (((x + y + c) / 18446744073709551616 : Nat) : Int)]) :=
  ps_extern (fun w => by
    have := run_add64 (P := P) (x : Int) y c (by omega) (by omega) (by omega) (by omega) w
    rw [show [Value.int .u64 (x : Int), .int .u64 (y : Int), .int .u64 (c : Int)].toArray = #[.int .u64 (x : Int), .int .u64 (y : Int), .int .u64 (c : Int)] from rfl, this]
    congr 4 <;> omega) ha hf hname hb hn he
theorem ps_sub64 (x y c : Nat) (hc : c ≤ 1) (ha : args.toList.map (ev n f) = [.int .u64 (x : Int), .int .u64 (y : Int), .int .u64 (c : Int)]) (hf : P.funcs[g]? = some fn)
    (hname : (fn.name == "runtime.NumGoroutine") = false) (hb : fn.body.isNone = true) (hn : Extern.findNext fn = none) (he : Extern.find fn = some sub64Entry) :
    PS P (CALL g args ts) ty n f (.tuple #[.int .u64 (((x + 18446744073709551616 - y - c) % 18446744073709551616 : Nat) : Int), .int .u64 ((if x < y + c then 1 else 0 : Nat) : Int)]) :=
  ps_extern (fun w => run_sub64 x y c hc w) ha hf hname hb hn he
theorem os_add64 {w0 : World} {As : List Asn} (x y c : Nat) (hx : x < 18446744073709551616) (hy : y < 18446744073709551616) (hc : c ≤ 1) (ha : args.toList.map (ev n f) = [.int .u64 (x : Int), .int .u64 (y : Int), .int .u64 (c : Int)]) (hf : P.funcs[g]? = some fn)
    (hname : (fn.name == "runtime.NumGoroutine") = false) (hb : fn.body.isNone = true) (hn : Extern.findNext fn = none) (he : Extern.find fn = some add64Entry) :
    OS P (CALL g args ts) ty n f w0 As (fun v Bs => ∃ d b : Nat, v = .tuple #[.int .u64 (d : Int), .int .u64 (b : Int)] ∧ Bs = As ∧ d < 18446744073709551616 ∧ b ≤ 1 ∧ d + b * 18446744073709551616 = x + y + c) :=
  fun w hw o ho ht K Q hK => (ps_add64 x y c hc ha hf hname hb hn he).os w hw o ho ht K Q fun v As' w' hr hw' => hK v As' w' ⟨_, _, hr.1, hr.2, by omega, by omega, by omega⟩ hw'
theorem os_sub64 {w0 : World} {As : List Asn} (x y c : Nat) (hx : x < 18446744073709551616) (hy : y < 18446744073709551616) (hc : c ≤ 1) (ha : args.toList.map (ev n f) = [.int .u64 (x : Int), .int .u64 (y : Int), .int .u64 (c : Int)]) (hf : P.funcs[g]? = some fn)
    (hname : (fn.name == "runtime.NumGoroutine") = false) (hb : fn.body.isNone = true) (hn : Extern.findNext fn = none) (he : Extern.find fn = some sub64Entry) :
    OS P (CALL g args ts) ty n f w0 As (fun v Bs => ∃ d b : Nat, v = .tuple #[.int .u64 (d : Int), .int .u64 (b : Int)] ∧ Bs = As ∧ d < 18446744073709551616 ∧ b ≤ 1 ∧ d + y + c = x + b * 18446744073709551616) :=
  fun w hw o ho ht K Q hK => (ps_sub64 x y c hc ha hf hname hb hn he).os w hw o ho ht K Q fun v As' w' hr hw' => hK v As' w' ⟨_, _, hr.1, hr.2, by omega, by split <;> omega, by split <;> omega⟩ hw'
end
theorem nc_one (v : Nat) : ∀ u ∈ nc v, u.oneCell' = true := fun u hu => by
  simp only [nc, List.mem_cons, List.not_mem_nil, or_false] at hu
  rcases hu with rfl | rfl <;> rfl
theorem sum_take_le (l : List Nat) (i : Nat) : (l.take i).sum ≤ l.sum := by
  have := List.take_append_drop i l
  have h2 : l.sum = (l.take i).sum + (l.drop i).sum := by rw [← List.sum_append, this]
  omega
theorem sum_take_succ {l : List Nat} {i : Nat} (h : i < l.length) : (l.take (i + 1)).sum = (l.take i).sum + l[i] := by
  rw [List.take_succ_eq_append_getElem h, List.sum_append]; simp
def addN (l : List Nat) : Nat × Bool := if l.sum < M128 then (l.sum, true) else (0, false)
def subN (a b : Nat) : Nat × Bool := if b ≤ a then (a - b, true) else (0, false)
def cmpN (a b : Nat) : Int := if a < b then -1 else if a = b then 0 else 1
theorem cmpN_le0 {a b : Nat} : cmpN a b ≤ 0 ↔ a ≤ b := by unfold cmpN; split <;> (try split) <;> omega
theorem cmpN_gt0 {a b : Nat} : 0 < cmpN a b ↔ b < a := by unfold cmpN; split <;> (try split) <;> omega
theorem cmpN_ge0 {a b : Nat} : 0 ≤ cmpN a b ↔ b ≤ a := by unfold cmpN; split <;> (try split) <;> omega
theorem cmpN_lt0 {a b : Nat} : cmpN a b < 0 ↔ a < b := by unfold cmpN; split <;> (try split) <;> omega
theorem cmpN_eq0 {a b : Nat} : cmpN a b = 0 ↔ a = b := by unfold cmpN; split <;> (try split) <;> omega
theorem cmpN_neg (a b : Nat) : cmpN b a = 0 - cmpN a b := by unfold cmpN; split <;> (try split) <;> (try split) <;> (try split) <;> omega
def minN : List Nat → Nat → Nat
  | [], m => m
  | x :: l, m => minN l (if x < m then x else m)
theorem minN_append (l l' : List Nat) (m : Nat) : minN (l ++ l') m = minN l' (minN l m) := by
  induction l generalizing m with
  | nil => rfl
  | cons x l ih => exact ih _
theorem minN_lt {l : List Nat} {m : Nat} (hl : ∀ x ∈ l, x < M128) (hm : m < M128) : minN l m < M128 := by
  induction l generalizing m with
  | nil => exact hm
  | cons x l ih =>
    refine ih (fun y hy => hl y (by simp [hy])) ?_
    split
    · exact hl x (by simp)
    · exact hm
def bitN (a : Nat) (i : Int) : Int := if i < 0 ∨ 128 ≤ i then 0 else ((a / 2 ^ (127 - i).toNat % 2 : Nat) : Int)
theorem fdiv_pow (a k : Nat) : ((a : Nat) : Int).fdiv (2 ^ k) = ((a / 2 ^ k : Nat) : Int) := by
  rw [Int.fdiv_eq_ediv_of_nonneg _ (by exact_mod_cast Nat.zero_le _)]
  push_cast; rfl
theorem bit_hi (a k : Nat) : a / 18446744073709551616 / 2 ^ k % 2 = a / 2 ^ (64 + k) % 2 := by
  rw [Nat.div_div_eq_div_mul, Nat.pow_add]
theorem bit_lo (a k : Nat) (hk : k < 64) : a % 18446744073709551616 / 2 ^ k % 2 = a / 2 ^ k % 2 := by
  have e : (18446744073709551616 : Nat) = 2 ^ k * (2 * 2 ^ (63 - k)) := by
    rw [← Nat.pow_succ', ← Nat.pow_add, show k + (63 - k + 1) = 64 by omega]
  rw [e, Nat.mod_mul_right_div_self, Nat.mod_mul_right_mod]

theorem byte_hi (a k : Nat) : (a / 18446744073709551616 / 2 ^ (8 * k)) % 256 = (a / 2 ^ (8 * (k + 8))) % 256 := by
  rw [Nat.div_div_eq_div_mul, show 8 * (k + 8) = 64 + 8 * k by omega, Nat.pow_add]
theorem byte_lo (a k : Nat) (hk : k < 8) : (a % 18446744073709551616 / 2 ^ (8 * k)) % 256 = (a / 2 ^ (8 * k)) % 256 := by
  have e : (18446744073709551616 : Nat) = 2 ^ (8 * k) * (256 * 2 ^ (56 - 8 * k)) := by
    rw [show (256 : Nat) = 2 ^ 8 from rfl, ← Nat.pow_add, ← Nat.pow_add, show 8 * k + (8 + (56 - 8 * k)) = 64 by omega]
  rw [e, Nat.mod_mul_right_div_self, Nat.mod_mul_right_mod]
def bytesN (a : Nat) : List UInt8 := be 16 a
theorem Bytes_spec (a : Nat) (ha : a < M128) : FSpec Try.prog 36 [.agg (nc a).toArray] [] (fun r As => ∃ q d, r = .slice q 16 d ∧ As = [slOwn 5 1 (.slice q 16 d) 16 (bv (be 16 a))]) := by
  have hM := M128_eq
  refine FSpec.intro Try.func36 rfl 27 Try.ntmps36 (Nat.le_of_ble_eq_true rfl) fun w0 F => ?_
  show CW _ _ _ _ _ _ (F)
  repeat (first | refine CW.seq ?_ | refine PW.then_ ?_ | refine CW.block ?_ | refine CW.skip ?_ | refine CW.ret ?_ | refine PW.then_ret ?_ | refine PW.block_ret ?_ | refine Cut.ret ?_ | refine Rnd.ret ?_ | refine PW.block_normal ?_ | refine CW.exit ?_ | refine PW.then_exit ?_ | refine PW.block_hit ?_ | refine PW.block_miss rfl ?_ | refine Cut.exit ?_ | refine Rnd.exit ?_)
  refine CW.region ?_
  refine LE (os_box rfl (by rfl)) ?_
  rintro _ _ ⟨b1, rfl, rfl⟩
  refine L1 (ps_assign rfl).os ?_
  refine LW.nil ?_
  repeat (first | refine CW.seq ?_ | refine PW.then_ ?_ | refine CW.block ?_ | refine CW.skip ?_ | refine CW.ret ?_ | refine PW.then_ret ?_ | refine PW.block_ret ?_ | refine Cut.ret ?_ | refine Rnd.ret ?_ | refine PW.block_normal ?_ | refine CW.exit ?_ | refine PW.then_exit ?_ | refine PW.block_hit ?_ | refine PW.block_miss rfl ?_ | refine Cut.exit ?_ | refine Rnd.exit ?_)
  refine CW.region ?_
  refine LE (os_make T.un32 T.ti5 rfl rfl rfl (by omega) (by omega) (by omega) (by omega)) ?_
  rintro _ _ ⟨b6, rfl, rfl⟩
  refine L1 (ps_assign rfl).os ?_
  refine LW.nil ?_
  refine J.ent (Ent.slMk (m := 0) (cap := 16) (cur := List.replicate 16 (.int .u8 0)) (size := 1) (by decide) (by decide) rfl rfl _) ?_
  repeat (first | refine CW.seq ?_ | refine PW.then_ ?_ | refine CW.block ?_ | refine CW.skip ?_ | refine CW.ret ?_ | refine PW.then_ret ?_ | refine PW.block_ret ?_ | refine Cut.ret ?_ | refine Rnd.ret ?_ | refine PW.block_normal ?_ | refine CW.exit ?_ | refine PW.then_exit ?_ | refine PW.block_hit ?_ | refine PW.block_miss rfl ?_ | refine Cut.exit ?_ | refine Rnd.exit ?_)
  refine CW.region ?_
  refine L1 (ps_assign rfl).os ?_
  refine LW.nil ?_
  repeat (first | refine CW.seq ?_ | refine PW.then_ ?_ | refine CW.block ?_ | refine CW.skip ?_ | refine CW.ret ?_ | refine PW.then_ret ?_ | refine PW.block_ret ?_ | refine Cut.ret ?_ | refine Rnd.ret ?_ | refine PW.block_normal ?_ | refine CW.exit ?_ | refine PW.then_exit ?_ | refine PW.block_hit ?_ | refine PW.block_miss rfl ?_ | refine Cut.exit ?_ | refine Rnd.exit ?_)
  refine CW.loopM (α := Nat × Option Addr × Nat) [3, 4, 5, 7, 8, 9, 10, 11, 12, 13, 14, 15, 16, 17, 18, 19, 20, 21, 22, 23, 24, 25] (fun k s => s.1 ≤ 16 ∧ k = 16 - s.1) (fun s => [(4, .int .i64 (15 - (s.1 : Int))), (3, .slice s.2.1 s.1 s.2.2)])
    (fun s => slOwn 5 1 (.slice s.2.1 s.1 s.2.2) s.1 (bv ((be 16 a).take s.1)) :: cb b1 26 (nc a) :: F) 16 (0, some ⟨b6, 0, none⟩, 16) ⟨Nat.zero_le _, rfl⟩ ⟨rfl, rfl, trivial⟩ (by repeat (first | exact Ent.refl _ | (apply Ent.cons; · repeat (first | exact pk_head _ _ | apply pk_tail)) | apply Ent.skip)) ?_
  rintro k ⟨j, q, d⟩ g ⟨hj, hk⟩
  dsimp only at hj hk ⊢
  repeat (first | refine CW.seq ?_ | refine PW.then_ ?_ | refine CW.block ?_ | refine CW.skip ?_ | refine CW.ret ?_ | refine PW.then_ret ?_ | refine PW.block_ret ?_ | refine Cut.ret ?_ | refine Rnd.ret ?_ | refine PW.block_normal ?_ | refine CW.exit ?_ | refine PW.then_exit ?_ | refine PW.block_hit ?_ | refine PW.block_miss rfl ?_ | refine Cut.exit ?_ | refine Rnd.exit ?_)
  by_cases hlt : j < 16
  · have hsx := be_take_succ 16 (a : Int) j hlt
    refine CW.region ?_
    refine L1 (ps_move rfl).os ?_
    refine L1 (ps_t (ps_geq rfl rfl) (by omega)).os ?_
    refine LW.nil ?_
    repeat (first | refine CW.seq ?_ | refine PW.then_ ?_ | refine CW.block ?_ | refine CW.skip ?_ | refine CW.ret ?_ | refine PW.then_ret ?_ | refine PW.block_ret ?_ | refine Cut.ret ?_ | refine Rnd.ret ?_ | refine PW.block_normal ?_ | refine CW.exit ?_ | refine PW.then_exit ?_ | refine PW.block_hit ?_ | refine PW.block_miss rfl ?_ | refine Cut.exit ?_ | refine Rnd.exit ?_)
    refine CW.cond_true rfl ?_
    repeat (first | refine CW.seq ?_ | refine PW.then_ ?_ | refine CW.block ?_ | refine CW.skip ?_ | refine CW.ret ?_ | refine PW.then_ret ?_ | refine PW.block_ret ?_ | refine Cut.ret ?_ | refine Rnd.ret ?_ | refine PW.block_normal ?_ | refine CW.exit ?_ | refine PW.then_exit ?_ | refine PW.block_hit ?_ | refine PW.block_miss rfl ?_ | refine Cut.exit ?_ | refine Rnd.exit ?_)
    refine CW.region ?_
    refine L1 (ps_fa T.fa26_1 (by decide) rfl).os ?_
    refine L1 (os_load1 (by repeat (first | exact pk_head _ _ | apply pk_tail)) T.ag24 rfl (by rfl)) ?_
    refine L1 (ps_assign rfl).os ?_
    refine LW.nil ?_
    refine PW.then_ ?_
    by_cases h8 : (8 : Int) ≤ 15 - (j : Int)
    · have hv : IntKind.u8.wrap (((a / 18446744073709551616 : Nat) : Int).fdiv (2 ^ (min (8 * ((15 - (j : Int)) % 8)).toNat 64))) = ((by8 ((a : Int) / 2 ^ (8 * (16 - 1 - j)))).toNat : Int) := by
        have e0 : min (8 * ((15 - (j : Int)) % 8)).toNat 64 = 8 * (7 - j) := by omega
        rw [e0, fdiv_pow, by8_toNat, wrap_u8]
        have e := byte_hi a (7 - j)
        rw [show 7 - j + 8 = 16 - 1 - j by omega] at e
        have e2 : ((a : Int) / 2 ^ (8 * (16 - 1 - j))) = ((a / 2 ^ (8 * (16 - 1 - j)) : Nat) : Int) := by push_cast; rfl
        rw [e2]
        omega
      repeat (first | refine CW.seq ?_ | refine PW.then_ ?_ | refine CW.block ?_ | refine CW.skip ?_ | refine CW.ret ?_ | refine PW.then_ret ?_ | refine PW.block_ret ?_ | refine Cut.ret ?_ | refine Rnd.ret ?_ | refine PW.block_normal ?_ | refine CW.exit ?_ | refine PW.then_exit ?_ | refine PW.block_hit ?_ | refine PW.block_miss rfl ?_ | refine Cut.exit ?_ | refine Rnd.exit ?_)
      refine CW.region ?_
      refine L1 (ps_move rfl).os ?_
      refine L1 (ps_t (ps_geq rfl rfl) (h8)).os ?_
      refine LW.nil ?_
      repeat (first | refine CW.seq ?_ | refine PW.then_ ?_ | refine CW.block ?_ | refine CW.skip ?_ | refine CW.ret ?_ | refine PW.then_ret ?_ | refine PW.block_ret ?_ | refine Cut.ret ?_ | refine Rnd.ret ?_ | refine PW.block_normal ?_ | refine CW.exit ?_ | refine PW.then_exit ?_ | refine PW.block_hit ?_ | refine PW.block_miss rfl ?_ | refine Cut.exit ?_ | refine Rnd.exit ?_)
      refine CW.cond_true rfl ?_
      refine CW.region ?_
      refine L1 (ps_fa T.fa26_0 (by decide) rfl).os ?_
      refine L1 (os_load1 (by repeat (first | exact pk_head _ _ | apply pk_tail)) T.ag24 rfl (by rfl)) ?_
      refine L1 (ps_assign rfl).os ?_
      refine LW.nil ?_
      repeat (first | refine CW.seq ?_ | refine PW.then_ ?_ | refine CW.block ?_ | refine CW.skip ?_ | refine CW.ret ?_ | refine PW.then_ret ?_ | refine PW.block_ret ?_ | refine Cut.ret ?_ | refine Rnd.ret ?_ | refine PW.block_normal ?_ | refine CW.exit ?_ | refine PW.then_exit ?_ | refine PW.block_hit ?_ | refine PW.block_miss rfl ?_ | refine Cut.exit ?_ | refine Rnd.exit ?_)
      refine CW.region ?_
      refine L1 (ps_move rfl).os ?_
      refine L1 (ps_move rfl).os ?_
      refine L1 (ps_move rfl).os ?_
      refine L1 (ps_rem_pos rfl rfl (by omega) (by omega)).os ?_
      refine L1 (ps_mul_i64 rfl rfl (by omega) (by omega)).os ?_
      refine L1 (ps_shr rfl rfl (by omega)).os ?_
      refine L1 (ps_to (congrArg (Value.int .u8) hv) (ps_conv (by kernel_rfl) T.un5 rfl)).os ?_
      refine LE (os_bslv (vs := bv [by8 ((a : Int) / 2 ^ (8 * (16 - 1 - j)))]) T.un32 T.ti5 (by rfl) (by rfl) rfl (bv_one _) (by decide) (by decide)) ?_
      rintro _ _ ⟨b24, rfl, rfl⟩
      refine LE (os_append (news := bv [by8 ((a : Int) / 2 ^ (8 * (16 - 1 - j)))]) (by repeat (first | exact pk_head _ _ | apply pk_tail)) T.un32 T.ti5 (by rfl) (by decide) rfl rfl rfl (Src.cb (b := b24) (by repeat (first | exact pk_head _ _ | apply pk_tail)) rfl) (bv_one _) (by unfold maxLen; omega) (by omega)) ?_
      rintro _ _ ⟨q', d', rfl, rfl, hq'⟩
      refine L1 (ps_assign rfl).os ?_
      refine LW.nil ?_
      repeat (first | refine CW.seq ?_ | refine PW.then_ ?_ | refine CW.block ?_ | refine CW.skip ?_ | refine CW.ret ?_ | refine PW.then_ret ?_ | refine PW.block_ret ?_ | refine Cut.ret ?_ | refine Rnd.ret ?_ | refine PW.block_normal ?_ | refine CW.exit ?_ | refine PW.then_exit ?_ | refine PW.block_hit ?_ | refine PW.block_miss rfl ?_ | refine Cut.exit ?_ | refine Rnd.exit ?_)
      refine CW.region ?_
      refine L1 (ps_move rfl).os ?_
      refine L1 (ps_sub_i64 rfl rfl (by omega) (by omega)).os ?_
      refine L1 (ps_assign rfl).os ?_
      refine LW.nil ?_
      exact Meet.round (16 - (j + 1)) (j + 1, q', d') (by omega) ⟨hlt, rfl⟩ (by repeat (first | (with_reducible exact Ag.refl _ _) | (with_reducible apply Ag.pu0) | ((with_reducible refine Ag.pu _ ?_ ?_); · exact rfl) | ((with_reducible refine Ag.mix ?_ ?_); · exact rfl) | ((with_reducible refine Ag.pus ?_ ?_); · exact rfl))) ⟨congrArg (Value.int .i64) (by omega), rfl, trivial⟩ (by dsimp only; rw [hsx, bv_append]; exact (by repeat (first | exact Ent.refl _ | (apply Ent.cons; · repeat (first | exact pk_head _ _ | apply pk_tail)) | apply Ent.skip)))
    · have hv : IntKind.u8.wrap (((a % 18446744073709551616 : Nat) : Int).fdiv (2 ^ (min (8 * ((15 - (j : Int)) % 8)).toNat 64))) = ((by8 ((a : Int) / 2 ^ (8 * (16 - 1 - j)))).toNat : Int) := by
        have e0 : min (8 * ((15 - (j : Int)) % 8)).toNat 64 = 8 * (15 - j) := by omega
        rw [e0, fdiv_pow, by8_toNat, wrap_u8]
        have e := byte_lo a (15 - j) (by omega)
        have e2 : ((a : Int) / 2 ^ (8 * (16 - 1 - j))) = ((a / 2 ^ (8 * (15 - j)) : Nat) : Int) := by push_cast; rfl
        rw [e2]
        omega
      repeat (first | refine CW.seq ?_ | refine PW.then_ ?_ | refine CW.block ?_ | refine CW.skip ?_ | refine CW.ret ?_ | refine PW.then_ret ?_ | refine PW.block_ret ?_ | refine Cut.ret ?_ | refine Rnd.ret ?_ | refine PW.block_normal ?_ | refine CW.exit ?_ | refine PW.then_exit ?_ | refine PW.block_hit ?_ | refine PW.block_miss rfl ?_ | refine Cut.exit ?_ | refine Rnd.exit ?_)
      refine CW.region ?_
      refine L1 (ps_move rfl).os ?_
      refine L1 (ps_f (ps_geq rfl rfl) (h8)).os ?_
      refine LW.nil ?_
      repeat (first | refine CW.seq ?_ | refine PW.then_ ?_ | refine CW.block ?_ | refine CW.skip ?_ | refine CW.ret ?_ | refine PW.then_ret ?_ | refine PW.block_ret ?_ | refine Cut.ret ?_ | refine Rnd.ret ?_ | refine PW.block_normal ?_ | refine CW.exit ?_ | refine PW.then_exit ?_ | refine PW.block_hit ?_ | refine PW.block_miss rfl ?_ | refine Cut.exit ?_ | refine Rnd.exit ?_)
      refine CW.cond_false rfl ?_
      repeat (first | refine CW.seq ?_ | refine PW.then_ ?_ | refine CW.block ?_ | refine CW.skip ?_ | refine CW.ret ?_ | refine PW.then_ret ?_ | refine PW.block_ret ?_ | refine Cut.ret ?_ | refine Rnd.ret ?_ | refine PW.block_normal ?_ | refine CW.exit ?_ | refine PW.then_exit ?_ | refine PW.block_hit ?_ | refine PW.block_miss rfl ?_ | refine Cut.exit ?_ | refine Rnd.exit ?_)
      refine CW.region ?_
      refine L1 (ps_move rfl).os ?_
      refine L1 (ps_move rfl).os ?_
      refine L1 (ps_move rfl).os ?_
      refine L1 (ps_rem_pos rfl rfl (by omega) (by omega)).os ?_
      refine L1 (ps_mul_i64 rfl rfl (by omega) (by omega)).os ?_
      refine L1 (ps_shr rfl rfl (by omega)).os ?_
      refine L1 (ps_to (congrArg (Value.int .u8) hv) (ps_conv (by kernel_rfl) T.un5 rfl)).os ?_
      refine LE (os_bslv (vs := bv [by8 ((a : Int) / 2 ^ (8 * (16 - 1 - j)))]) T.un32 T.ti5 (by rfl) (by rfl) rfl (bv_one _) (by decide) (by decide)) ?_
      rintro _ _ ⟨b24, rfl, rfl⟩
      refine LE (os_append (news := bv [by8 ((a : Int) / 2 ^ (8 * (16 - 1 - j)))]) (by repeat (first | exact pk_head _ _ | apply pk_tail)) T.un32 T.ti5 (by rfl) (by decide) rfl rfl rfl (Src.cb (b := b24) (by repeat (first | exact pk_head _ _ | apply pk_tail)) rfl) (bv_one _) (by unfold maxLen; omega) (by omega)) ?_
      rintro _ _ ⟨q', d', rfl, rfl, hq'⟩
      refine L1 (ps_assign rfl).os ?_
      refine LW.nil ?_
      repeat (first | refine CW.seq ?_ | refine PW.then_ ?_ | refine CW.block ?_ | refine CW.skip ?_ | refine CW.ret ?_ | refine PW.then_ret ?_ | refine PW.block_ret ?_ | refine Cut.ret ?_ | refine Rnd.ret ?_ | refine PW.block_normal ?_ | refine CW.exit ?_ | refine PW.then_exit ?_ | refine PW.block_hit ?_ | refine PW.block_miss rfl ?_ | refine Cut.exit ?_ | refine Rnd.exit ?_)
      refine CW.region ?_
      refine L1 (ps_move rfl).os ?_
      refine L1 (ps_sub_i64 rfl rfl (by omega) (by omega)).os ?_
      refine L1 (ps_assign rfl).os ?_
      refine LW.nil ?_
      exact Meet.round (16 - (j + 1)) (j + 1, q', d') (by omega) ⟨hlt, rfl⟩ (by repeat (first | (with_reducible exact Ag.refl _ _) | (with_reducible apply Ag.pu0) | ((with_reducible refine Ag.pu _ ?_ ?_); · exact rfl) | ((with_reducible refine Ag.mix ?_ ?_); · exact rfl) | ((with_reducible refine Ag.pus ?_ ?_); · exact rfl))) ⟨congrArg (Value.int .i64) (by omega), rfl, trivial⟩ (by dsimp only; rw [hsx, bv_append]; exact (by repeat (first | exact Ent.refl _ | (apply Ent.cons; · repeat (first | exact pk_head _ _ | apply pk_tail)) | apply Ent.skip)))
  · have hil : j = 16 := by omega
    subst hil
    refine CW.region ?_
    refine L1 (ps_move rfl).os ?_
    refine L1 (ps_f (ps_geq rfl rfl) (by omega)).os ?_
    refine LW.nil ?_
    repeat (first | refine CW.seq ?_ | refine PW.then_ ?_ | refine CW.block ?_ | refine CW.skip ?_ | refine CW.ret ?_ | refine PW.then_ret ?_ | refine PW.block_ret ?_ | refine Cut.ret ?_ | refine Rnd.ret ?_ | refine PW.block_normal ?_ | refine CW.exit ?_ | refine PW.then_exit ?_ | refine PW.block_hit ?_ | refine PW.block_miss rfl ?_ | refine Cut.exit ?_ | refine Rnd.exit ?_)
    refine CW.cond_false rfl ?_
    repeat (first | refine CW.seq ?_ | refine PW.then_ ?_ | refine CW.block ?_ | refine CW.skip ?_ | refine CW.ret ?_ | refine PW.then_ret ?_ | refine PW.block_ret ?_ | refine Cut.ret ?_ | refine Rnd.ret ?_ | refine PW.block_normal ?_ | refine CW.exit ?_ | refine PW.then_exit ?_ | refine PW.block_hit ?_ | refine PW.block_miss rfl ?_ | refine Cut.exit ?_ | refine Rnd.exit ?_)
    refine CW.region ?_
    refine L1 (ps_move rfl).os ?_
    refine L1 (ps_assign rfl).os ?_
    refine LW.nil ?_
    repeat (first | refine CW.seq ?_ | refine PW.then_ ?_ | refine CW.block ?_ | refine CW.skip ?_ | refine CW.ret ?_ | refine PW.then_ret ?_ | refine PW.block_ret ?_ | refine Cut.ret ?_ | refine Rnd.ret ?_ | refine PW.block_normal ?_ | refine CW.exit ?_ | refine PW.then_exit ?_ | refine PW.block_hit ?_ | refine PW.block_miss rfl ?_ | refine Cut.exit ?_ | refine Rnd.exit ?_)
    refine Fin.ret1 (v := .slice q 16 d) rfl [slOwn 5 1 (.slice q 16 d) 16 (bv (be 16 a))] rfl ⟨q, d, rfl, rfl⟩ ?_
    rw [List.take_of_length_le (by simp)]
    exact (by repeat (first | exact Ent.refl _ | (apply Ent.cons; · repeat (first | exact pk_head _ _ | apply pk_tail)) | apply Ent.skip))

def readN (bs : List UInt8) : Nat × Bool := if bs.length = 16 then (num bs, true) else (0, false)
theorem Read_no (A : Asn) (v : Value) (bs : List UInt8) (hb : ByR A v bs) (hm : bs.length ≤ maxLen) (h : bs.length ≠ 16) : FSpec Try.prog 38 [v] [A] (fun r As => r = .tuple #[.agg (nc 0).toArray, .bool false] ∧ As = [A]) := by
  obtain ⟨p, cap, rfl, hcap, hsrc⟩ := hb
  unfold maxLen at hm
  refine FSpec.intro Try.func38 rfl 36 Try.ntmps38 (Nat.le_of_ble_eq_true rfl) fun w0 F => ?_
  show CW _ _ _ _ _ _ (_ :: F)
  repeat (first | refine CW.seq ?_ | refine PW.then_ ?_ | refine CW.block ?_ | refine CW.skip ?_ | refine CW.ret ?_ | refine PW.then_ret ?_ | refine PW.block_ret ?_ | refine Cut.ret ?_ | refine Rnd.ret ?_ | refine PW.block_normal ?_ | refine CW.exit ?_ | refine PW.then_exit ?_ | refine PW.block_hit ?_ | refine PW.block_miss rfl ?_ | refine Cut.exit ?_ | refine Rnd.exit ?_)
  refine CW.region ?_
  refine LE (os_alloc T.ti26) ?_
  rintro _ _ ⟨b2, rfl, rfl⟩
  refine L1 (ps_assign rfl).os ?_
  refine LW.nil ?_
  repeat (first | refine CW.seq ?_ | refine PW.then_ ?_ | refine CW.block ?_ | refine CW.skip ?_ | refine CW.ret ?_ | refine PW.then_ret ?_ | refine PW.block_ret ?_ | refine Cut.ret ?_ | refine Rnd.ret ?_ | refine PW.block_normal ?_ | refine CW.exit ?_ | refine PW.then_exit ?_ | refine PW.block_hit ?_ | refine PW.block_miss rfl ?_ | refine Cut.exit ?_ | refine Rnd.exit ?_)
  refine CW.region ?_
  refine L1 (ps_move rfl).os ?_
  refine L1 (ps_len_sl T.un32 rfl).os ?_
  refine L1 (ps_t (ps_neq rfl rfl) (by omega)).os ?_
  refine LW.nil ?_
  repeat (first | refine CW.seq ?_ | refine PW.then_ ?_ | refine CW.block ?_ | refine CW.skip ?_ | refine CW.ret ?_ | refine PW.then_ret ?_ | refine PW.block_ret ?_ | refine Cut.ret ?_ | refine Rnd.ret ?_ | refine PW.block_normal ?_ | refine CW.exit ?_ | refine PW.then_exit ?_ | refine PW.block_hit ?_ | refine PW.block_miss rfl ?_ | refine Cut.exit ?_ | refine Rnd.exit ?_)
  refine CW.cond_true rfl ?_
  repeat (first | refine CW.seq ?_ | refine PW.then_ ?_ | refine CW.block ?_ | refine CW.skip ?_ | refine CW.ret ?_ | refine PW.then_ret ?_ | refine PW.block_ret ?_ | refine Cut.ret ?_ | refine Rnd.ret ?_ | refine PW.block_normal ?_ | refine CW.exit ?_ | refine PW.then_exit ?_ | refine PW.block_hit ?_ | refine PW.block_miss rfl ?_ | refine Cut.exit ?_ | refine Rnd.exit ?_)
  refine CW.region ?_
  refine L1 (ps_build (by rfl) (T.bd26)).os ?_
  refine L1 (os_storeAll (by repeat (first | exact pk_head _ _ | apply pk_tail)) (by exact T.sz26) rfl rfl (by first | exact nc_one _ | simp [Value.oneCell']) (by rfl)) ?_
  refine L1 (ps_assign rfl).os ?_
  refine LW.nil ?_
  repeat (first | refine CW.seq ?_ | refine PW.then_ ?_ | refine CW.block ?_ | refine CW.skip ?_ | refine CW.ret ?_ | refine PW.then_ret ?_ | refine PW.block_ret ?_ | refine Cut.ret ?_ | refine Rnd.ret ?_ | refine PW.block_normal ?_ | refine CW.exit ?_ | refine PW.then_exit ?_ | refine PW.block_hit ?_ | refine PW.block_miss rfl ?_ | refine Cut.exit ?_ | refine Rnd.exit ?_)
  exact Fin.retCT (b := b2) (cs := nc 0) rfl (by repeat (first | exact pk_head _ _ | apply pk_tail)) T.ag26 (by exact T.sz26) rfl (.bool false) rfl [A] ⟨rfl, rfl⟩ (by repeat (first | exact Ent.refl _ | (apply Ent.cons; · repeat (first | exact pk_head _ _ | apply pk_tail)) | apply Ent.skip))
theorem Read_yes (A : Asn) (v : Value) (bs : List UInt8) (hb : ByR A v bs) (h : bs.length = 16) : FSpec Try.prog 38 [v] [A] (fun r As => r = .tuple #[.agg (nc (num bs)).toArray, .bool true] ∧ As = [A]) := by
  have hb0 := hb
  obtain ⟨p, cap, rfl, hcap, -⟩ := hb0
  refine FSpec.intro Try.func38 rfl 36 Try.ntmps38 (Nat.le_of_ble_eq_true rfl) fun w0 F => ?_
  show CW _ _ _ _ _ _ (_ :: F)
  refine hb.form (pk_head _ _) (fun h0 => by rw [h0] at h; simp at h) fun vb vo hp => ?_
  subst hp
  rw [h] at hb hcap ⊢
  repeat (first | refine CW.seq ?_ | refine PW.then_ ?_ | refine CW.block ?_ | refine CW.skip ?_ | refine CW.ret ?_ | refine PW.then_ret ?_ | refine PW.block_ret ?_ | refine Cut.ret ?_ | refine Rnd.ret ?_ | refine PW.block_normal ?_ | refine CW.exit ?_ | refine PW.then_exit ?_ | refine PW.block_hit ?_ | refine PW.block_miss rfl ?_ | refine Cut.exit ?_ | refine Rnd.exit ?_)
  refine CW.region ?_
  refine LE (os_alloc T.ti26) ?_
  rintro _ _ ⟨b2, rfl, rfl⟩
  refine L1 (ps_assign rfl).os ?_
  refine LW.nil ?_
  repeat (first | refine CW.seq ?_ | refine PW.then_ ?_ | refine CW.block ?_ | refine CW.skip ?_ | refine CW.ret ?_ | refine PW.then_ret ?_ | refine PW.block_ret ?_ | refine Cut.ret ?_ | refine Rnd.ret ?_ | refine PW.block_normal ?_ | refine CW.exit ?_ | refine PW.then_exit ?_ | refine PW.block_hit ?_ | refine PW.block_miss rfl ?_ | refine Cut.exit ?_ | refine Rnd.exit ?_)
  refine CW.region ?_
  refine L1 (ps_move rfl).os ?_
  refine L1 (ps_len_sl T.un32 rfl).os ?_
  refine L1 (ps_f (ps_neq rfl rfl) (by omega)).os ?_
  refine LW.nil ?_
  repeat (first | refine CW.seq ?_ | refine PW.then_ ?_ | refine CW.block ?_ | refine CW.skip ?_ | refine CW.ret ?_ | refine PW.then_ret ?_ | refine PW.block_ret ?_ | refine Cut.ret ?_ | refine Rnd.ret ?_ | refine PW.block_normal ?_ | refine CW.exit ?_ | refine PW.then_exit ?_ | refine PW.block_hit ?_ | refine PW.block_miss rfl ?_ | refine Cut.exit ?_ | refine Rnd.exit ?_)
  refine CW.cond_false rfl ?_
  repeat (first | refine CW.seq ?_ | refine PW.then_ ?_ | refine CW.block ?_ | refine CW.skip ?_ | refine CW.ret ?_ | refine PW.then_ret ?_ | refine PW.block_ret ?_ | refine Cut.ret ?_ | refine Rnd.ret ?_ | refine PW.block_normal ?_ | refine CW.exit ?_ | refine PW.then_exit ?_ | refine PW.block_hit ?_ | refine PW.block_miss rfl ?_ | refine Cut.exit ?_ | refine Rnd.exit ?_)
  refine CW.region ?_
  refine LE (os_alloc T.ti26) ?_
  rintro _ _ ⟨b4, rfl, rfl⟩
  refine LW.nil ?_
  repeat (first | refine CW.seq ?_ | refine PW.then_ ?_ | refine CW.block ?_ | refine CW.skip ?_ | refine CW.ret ?_ | refine PW.then_ret ?_ | refine PW.block_ret ?_ | refine Cut.ret ?_ | refine Rnd.ret ?_ | refine PW.block_normal ?_ | refine CW.exit ?_ | refine PW.then_exit ?_ | refine PW.block_hit ?_ | refine PW.block_miss rfl ?_ | refine Cut.exit ?_ | refine Rnd.exit ?_)
  refine CW.region ?_
  refine L1 (ps_move rfl).os ?_
  refine L1 (ps_len_sl T.un32 rfl).os ?_
  refine L1 (ps_move rfl).os ?_
  refine LW.nil ?_
  repeat (first | refine CW.seq ?_ | refine PW.then_ ?_ | refine CW.block ?_ | refine CW.skip ?_ | refine CW.ret ?_ | refine PW.then_ret ?_ | refine PW.block_ret ?_ | refine Cut.ret ?_ | refine Rnd.ret ?_ | refine PW.block_normal ?_ | refine CW.exit ?_ | refine PW.then_exit ?_ | refine PW.block_hit ?_ | refine PW.block_miss rfl ?_ | refine Cut.exit ?_ | refine Rnd.exit ?_)
  refine CW.loopM (α := Nat) [5, 6, 13, 14, 15, 16, 17, 18, 19, 20, 21, 22, 23, 24, 25, 26, 27, 28, 29, 30, 31, 32, 33, 34] (fun k i => i ≤ 16 ∧ k = 16 - i) (fun i => [(13, .int .i64 i)])
    (fun i => cb b4 26 [.int .u64 ((num ((bs.take 8).take i) : Nat) : Int), .int .u64 ((num ((bs.drop 8).take (i - 8)) : Nat) : Int)] :: cb b2 26 [.int .u64 0, .int .u64 0] :: A :: F) 16 0 ⟨Nat.zero_le _, rfl⟩ ⟨rfl, trivial⟩ (by repeat (first | exact Ent.refl _ | (apply Ent.cons; · repeat (first | exact pk_head _ _ | apply pk_tail)) | apply Ent.skip)) ?_
  rintro k i g ⟨hi, hk⟩
  repeat (first | refine CW.seq ?_ | refine PW.then_ ?_ | refine CW.block ?_ | refine CW.skip ?_ | refine CW.ret ?_ | refine PW.then_ret ?_ | refine PW.block_ret ?_ | refine Cut.ret ?_ | refine Rnd.ret ?_ | refine PW.block_normal ?_ | refine CW.exit ?_ | refine PW.then_exit ?_ | refine PW.block_hit ?_ | refine PW.block_miss rfl ?_ | refine Cut.exit ?_ | refine Rnd.exit ?_)
  by_cases hlt : i < 16
  · have hsrc := fun As Bs (hp : List.Perm As (A :: Bs)) => hb.at (i := i) (by omega) hp
    refine CW.region ?_
    refine L1 (ps_t (ps_lss rfl rfl) (by omega)).os ?_
    refine LW.nil ?_
    repeat (first | refine CW.seq ?_ | refine PW.then_ ?_ | refine CW.block ?_ | refine CW.skip ?_ | refine CW.ret ?_ | refine PW.then_ret ?_ | refine PW.block_ret ?_ | refine Cut.ret ?_ | refine Rnd.ret ?_ | refine PW.block_normal ?_ | refine CW.exit ?_ | refine PW.then_exit ?_ | refine PW.block_hit ?_ | refine PW.block_miss rfl ?_ | refine Cut.exit ?_ | refine Rnd.exit ?_)
    refine CW.cond_true rfl ?_
    repeat (first | refine CW.seq ?_ | refine PW.then_ ?_ | refine CW.block ?_ | refine CW.skip ?_ | refine CW.ret ?_ | refine PW.then_ret ?_ | refine PW.block_ret ?_ | refine Cut.ret ?_ | refine Rnd.ret ?_ | refine PW.block_normal ?_ | refine CW.exit ?_ | refine PW.then_exit ?_ | refine PW.block_hit ?_ | refine PW.block_miss rfl ?_ | refine Cut.exit ?_ | refine Rnd.exit ?_)
    refine CW.region ?_
    refine L1 (ps_move rfl).os ?_
    refine L1 (ps_ia_slice T.un32 T.sz5 rfl rfl (by omega) (by omega)).os ?_
    refine L1 (os_loadS1 (hsrc _ _ (by repeat (first | exact pk_head _ _ | apply pk_tail))) T.ag5 rfl) ?_
    refine L1 (ps_assign rfl).os ?_
    refine L1 (ps_assign rfl).os ?_
    refine LW.nil ?_
    refine PW.then_ ?_
    have hc := (bs[i]'(by omega)).toNat_lt
    by_cases h8 : (i : Int) < 8
    · have hx : num ((bs.take 8).take (i + 1)) = num ((bs.take 8).take i) * 256 + (bs[i]'(by omega)).toNat := by
        rw [num_take_succ (by simp; omega)]; simp
      have hy : (bs.drop 8).take (i + 1 - 8) = (bs.drop 8).take (i - 8) := by rw [show i + 1 - 8 = 0 by omega, show i - 8 = 0 by omega]
      have hn := num_lt ((bs.take 8).take i)
      have hl : ((bs.take 8).take i).length ≤ 7 := by simp; omega
      have hn7 : num ((bs.take 8).take i) < 256 ^ 7 := Nat.lt_of_lt_of_le hn (Nat.pow_le_pow_right (by decide) hl)
      generalize num ((bs.take 8).take i) = q at hx hn7
      generalize (bs[i]'(by omega)).toNat = c at hx hc
      have ho := or_low q c 8 hc
      repeat (first | refine CW.seq ?_ | refine PW.then_ ?_ | refine CW.block ?_ | refine CW.skip ?_ | refine CW.ret ?_ | refine PW.then_ret ?_ | refine PW.block_ret ?_ | refine Cut.ret ?_ | refine Rnd.ret ?_ | refine PW.block_normal ?_ | refine CW.exit ?_ | refine PW.then_exit ?_ | refine PW.block_hit ?_ | refine PW.block_miss rfl ?_ | refine Cut.exit ?_ | refine Rnd.exit ?_)
      refine CW.region ?_
      refine L1 (ps_move rfl).os ?_
      refine L1 (ps_t (ps_lss rfl rfl) (h8)).os ?_
      refine LW.nil ?_
      repeat (first | refine CW.seq ?_ | refine PW.then_ ?_ | refine CW.block ?_ | refine CW.skip ?_ | refine CW.ret ?_ | refine PW.then_ret ?_ | refine PW.block_ret ?_ | refine Cut.ret ?_ | refine Rnd.ret ?_ | refine PW.block_normal ?_ | refine CW.exit ?_ | refine PW.then_exit ?_ | refine PW.block_hit ?_ | refine PW.block_miss rfl ?_ | refine Cut.exit ?_ | refine Rnd.exit ?_)
      refine CW.cond_true rfl ?_
      refine CW.region ?_
      refine L1 (ps_fa T.fa26_0 (by decide) rfl).os ?_
      refine L1 (os_load1 (by repeat (first | exact pk_head _ _ | apply pk_tail)) T.ag24 rfl (by rfl)) ?_
      refine L1 (ps_shlN_u64 q 8 rfl rfl rfl (by decide) (by omega)).os ?_
      refine L1 (ps_move rfl).os ?_
      refine L1 (ps_to (u := .int .u64 (c : Int)) (congrArg _ (wrap_u64_id (by omega) (by omega))) (ps_conv (by kernel_rfl) T.un24 rfl)).os ?_
      refine L1 (ps_to (u := .int .u64 ((q * 256 + c : Nat) : Int)) (congrArg (fun z : Nat => Value.int .u64 (z : Int)) ho) (ps_orN_u64 (q * 2 ^ 8) c rfl rfl (by omega) (by omega))).os ?_
      refine L1 (ps_fa T.fa26_0 (by decide) rfl).os ?_
      refine L1 (os_store1 (by repeat (first | exact pk_head _ _ | apply pk_tail)) T.sz24 rfl rfl (by rfl) (Nat.le_of_ble_eq_true rfl)) ?_
      refine LW.nil ?_
      repeat (first | refine CW.seq ?_ | refine PW.then_ ?_ | refine CW.block ?_ | refine CW.skip ?_ | refine CW.ret ?_ | refine PW.then_ret ?_ | refine PW.block_ret ?_ | refine Cut.ret ?_ | refine Rnd.ret ?_ | refine PW.block_normal ?_ | refine CW.exit ?_ | refine PW.then_exit ?_ | refine PW.block_hit ?_ | refine PW.block_miss rfl ?_ | refine Cut.exit ?_ | refine Rnd.exit ?_)
      refine CW.region ?_
      refine L1 (ps_add_i64 rfl rfl (by omega) (by omega)).os ?_
      refine L1 (ps_move rfl).os ?_
      refine LW.nil ?_
      exact Meet.round (16 - (i + 1)) (i + 1) (by omega) ⟨hlt, rfl⟩ (by repeat (first | (with_reducible exact Ag.refl _ _) | (with_reducible apply Ag.pu0) | ((with_reducible refine Ag.pu _ ?_ ?_); · exact rfl) | ((with_reducible refine Ag.mix ?_ ?_); · exact rfl) | ((with_reducible refine Ag.pus ?_ ?_); · exact rfl))) ⟨rfl, trivial⟩ (by rw [hx, hy]; exact (by repeat (first | exact Ent.refl _ | (apply Ent.cons; · repeat (first | exact pk_head _ _ | apply pk_tail)) | apply Ent.skip)))
    · have hx : (bs.take 8).take (i + 1) = (bs.take 8).take i := by
        rw [List.take_of_length_le (i := i + 1) (l := bs.take 8) (by rw [List.length_take]; omega), List.take_of_length_le (i := i) (l := bs.take 8) (by rw [List.length_take]; omega)]
      have hy : num ((bs.drop 8).take (i + 1 - 8)) = num ((bs.drop 8).take (i - 8)) * 256 + (bs[i]'(by omega)).toNat := by
        have e : i + 1 - 8 = i - 8 + 1 := by omega
        rw [e, num_take_succ (by rw [List.length_drop]; omega), List.getElem_drop]
        congr 3; omega
      have hn := num_lt ((bs.drop 8).take (i - 8))
      have hl : ((bs.drop 8).take (i - 8)).length ≤ 7 := by simp; omega
      have hn7 : num ((bs.drop 8).take (i - 8)) < 256 ^ 7 := Nat.lt_of_lt_of_le hn (Nat.pow_le_pow_right (by decide) hl)
      generalize num ((bs.drop 8).take (i - 8)) = q at hy hn7
      generalize (bs[i]'(by omega)).toNat = c at hy hc
      have ho := or_low q c 8 hc
      repeat (first | refine CW.seq ?_ | refine PW.then_ ?_ | refine CW.block ?_ | refine CW.skip ?_ | refine CW.ret ?_ | refine PW.then_ret ?_ | refine PW.block_ret ?_ | refine Cut.ret ?_ | refine Rnd.ret ?_ | refine PW.block_normal ?_ | refine CW.exit ?_ | refine PW.then_exit ?_ | refine PW.block_hit ?_ | refine PW.block_miss rfl ?_ | refine Cut.exit ?_ | refine Rnd.exit ?_)
      refine CW.region ?_
      refine L1 (ps_move rfl).os ?_
      refine L1 (ps_f (ps_lss rfl rfl) (h8)).os ?_
      refine LW.nil ?_
      repeat (first | refine CW.seq ?_ | refine PW.then_ ?_ | refine CW.block ?_ | refine CW.skip ?_ | refine CW.ret ?_ | refine PW.then_ret ?_ | refine PW.block_ret ?_ | refine Cut.ret ?_ | refine Rnd.ret ?_ | refine PW.block_normal ?_ | refine CW.exit ?_ | refine PW.then_exit ?_ | refine PW.block_hit ?_ | refine PW.block_miss rfl ?_ | refine Cut.exit ?_ | refine Rnd.exit ?_)
      refine CW.cond_false rfl ?_
      refine CW.region ?_
      refine L1 (ps_fa T.fa26_1 (by decide) rfl).os ?_
      refine L1 (os_load1 (by repeat (first | exact pk_head _ _ | apply pk_tail)) T.ag24 rfl (by rfl)) ?_
      refine L1 (ps_shlN_u64 q 8 rfl rfl rfl (by decide) (by omega)).os ?_
      refine L1 (ps_move rfl).os ?_
      refine L1 (ps_to (u := .int .u64 (c : Int)) (congrArg _ (wrap_u64_id (by omega) (by omega))) (ps_conv (by kernel_rfl) T.un24 rfl)).os ?_
      refine L1 (ps_to (u := .int .u64 ((q * 256 + c : Nat) : Int)) (congrArg (fun z : Nat => Value.int .u64 (z : Int)) ho) (ps_orN_u64 (q * 2 ^ 8) c rfl rfl (by omega) (by omega))).os ?_
      refine L1 (ps_fa T.fa26_1 (by decide) rfl).os ?_
      refine L1 (os_store1 (by repeat (first | exact pk_head _ _ | apply pk_tail)) T.sz24 rfl rfl (by rfl) (Nat.le_of_ble_eq_true rfl)) ?_
      refine LW.nil ?_
      repeat (first | refine CW.seq ?_ | refine PW.then_ ?_ | refine CW.block ?_ | refine CW.skip ?_ | refine CW.ret ?_ | refine PW.then_ret ?_ | refine PW.block_ret ?_ | refine Cut.ret ?_ | refine Rnd.ret ?_ | refine PW.block_normal ?_ | refine CW.exit ?_ | refine PW.then_exit ?_ | refine PW.block_hit ?_ | refine PW.block_miss rfl ?_ | refine Cut.exit ?_ | refine Rnd.exit ?_)
      refine CW.region ?_
      refine L1 (ps_add_i64 rfl rfl (by omega) (by omega)).os ?_
      refine L1 (ps_move rfl).os ?_
      refine LW.nil ?_
      exact Meet.round (16 - (i + 1)) (i + 1) (by omega) ⟨hlt, rfl⟩ (by repeat (first | (with_reducible exact Ag.refl _ _) | (with_reducible apply Ag.pu0) | ((with_reducible refine Ag.pu _ ?_ ?_); · exact rfl) | ((with_reducible refine Ag.mix ?_ ?_); · exact rfl) | ((with_reducible refine Ag.pus ?_ ?_); · exact rfl))) ⟨rfl, trivial⟩ (by rw [hx, hy]; exact (by repeat (first | exact Ent.refl _ | (apply Ent.cons; · repeat (first | exact pk_head _ _ | apply pk_tail)) | apply Ent.skip)))
  · have hil : i = 16 := by omega
    subst hil
    have hcs : [Value.int .u64 ((num ((bs.take 8).take 16) : Nat) : Int), .int .u64 ((num ((bs.drop 8).take (16 - 8)) : Nat) : Int)] = nc (num bs) := by
      have e1 : (bs.take 8).take 16 = bs.take 8 := List.take_of_length_le (by rw [List.length_take]; omega)
      have e2 : (bs.drop 8).take (16 - 8) = bs.drop 8 := List.take_of_length_le (by simp; omega)
      have e3 : num bs = num (bs.take 8) * 18446744073709551616 + num (bs.drop 8) := by
        have := num_append (bs.take 8) (bs.drop 8)
        rw [List.take_append_drop, show (bs.drop 8).length = 8 by simp; omega] at this
        exact this
      have e4 := num_lt (bs.drop 8)
      rw [show (bs.drop 8).length = 8 by simp; omega] at e4
      rw [e1, e2, e3, nc_of _ _ e4]
    rw [hcs]
    refine CW.region ?_
    refine L1 (ps_f (ps_lss rfl rfl) (by omega)).os ?_
    refine LW.nil ?_
    repeat (first | refine CW.seq ?_ | refine PW.then_ ?_ | refine CW.block ?_ | refine CW.skip ?_ | refine CW.ret ?_ | refine PW.then_ret ?_ | refine PW.block_ret ?_ | refine Cut.ret ?_ | refine Rnd.ret ?_ | refine PW.block_normal ?_ | refine CW.exit ?_ | refine PW.then_exit ?_ | refine PW.block_hit ?_ | refine PW.block_miss rfl ?_ | refine Cut.exit ?_ | refine Rnd.exit ?_)
    refine CW.cond_false rfl ?_
    repeat (first | refine CW.seq ?_ | refine PW.then_ ?_ | refine CW.block ?_ | refine CW.skip ?_ | refine CW.ret ?_ | refine PW.then_ret ?_ | refine PW.block_ret ?_ | refine Cut.ret ?_ | refine Rnd.ret ?_ | refine PW.block_normal ?_ | refine CW.exit ?_ | refine PW.then_exit ?_ | refine PW.block_hit ?_ | refine PW.block_miss rfl ?_ | refine Cut.exit ?_ | refine Rnd.exit ?_)
    refine CW.region ?_
    refine L1 (os_loadAll (by repeat (first | exact pk_head _ _ | apply pk_tail)) T.ag26 (by exact T.sz26) rfl) ?_
    refine L1 (os_storeAll (by repeat (first | exact pk_head _ _ | apply pk_tail)) (by exact T.sz26) rfl rfl (by first | exact nc_one _ | simp [Value.oneCell']) (by rfl)) ?_
    refine L1 (ps_assign rfl).os ?_
    refine LW.nil ?_
    repeat (first | refine CW.seq ?_ | refine PW.then_ ?_ | refine CW.block ?_ | refine CW.skip ?_ | refine CW.ret ?_ | refine PW.then_ret ?_ | refine PW.block_ret ?_ | refine Cut.ret ?_ | refine Rnd.ret ?_ | refine PW.block_normal ?_ | refine CW.exit ?_ | refine PW.then_exit ?_ | refine PW.block_hit ?_ | refine PW.block_miss rfl ?_ | refine Cut.exit ?_ | refine Rnd.exit ?_)
    exact Fin.retCT (b := b2) (cs := nc (num bs)) rfl (by repeat (first | exact pk_head _ _ | apply pk_tail)) T.ag26 (by exact T.sz26) rfl (.bool true) rfl [A] ⟨rfl, rfl⟩ (by repeat (first | exact Ent.refl _ | (apply Ent.cons; · repeat (first | exact pk_head _ _ | apply pk_tail)) | apply Ent.skip))
end Go.Proofs.Ytpcjjchanjdkaaa
