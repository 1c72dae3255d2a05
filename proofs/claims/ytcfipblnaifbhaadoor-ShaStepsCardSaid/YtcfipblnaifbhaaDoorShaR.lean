/- The document's own hash: its numbers from the roots of primes. -/
import Derived.Test.YtcfipblnaifbhaaDoorShaO
import Derived.Test.YtcfipblnaifbhaaDoorU64
namespace Go.Proofs.YtcfipblnaifbhaaDoor
set_option linter.unusedVariables false
set_option linter.unusedSimpArgs false
open Go Go.SL

def mX (a : List UInt32) (m : UInt64) (k : Nat) (s : List UInt32 × UInt64) (i : Nat) : UInt64 := (a.getD i 0).toUInt64 * m + (s.1.getD (i + k) 0).toUInt64 + s.2
def mStep (a : List UInt32) (m : UInt64) (k : Nat) (s : List UInt32 × UInt64) (i : Nat) : List UInt32 × UInt64 := (s.1.set (i + k) (mX a m k s i).toUInt32, mX a m k s i >>> UInt64.ofNat 32)
def mIn (a : List UInt32) (m : UInt64) (k : Nat) (o : List UInt32) : Nat → List UInt32 × UInt64
  | 0 => (o, 0)
  | i + 1 => mStep a m k (mIn a m k o i) i
def mOut (a : List UInt32) (y : UInt64) : Nat → List UInt32
  | 0 => [0, 0, 0, 0]
  | k + 1 => (mIn a ((y >>> UInt64.ofNat (32 * k)) &&& 4294967295) k (mOut a y k) (4 - k)).1
def mulM (a : List UInt32) (y : UInt64) : List UInt32 := mOut a y 2
def cmpM (l : List UInt32) (at_ : Nat) (p : UInt32) : Nat → Bool
  | 0 => false
  | i + 1 => if l.getD i 0 ≠ (if i = at_ then p else 0) then decide ((if i = at_ then p else 0) < l.getD i 0) else cmpM l at_ p i
def aboveM (y p : UInt64) (cube : Bool) : Bool :=
  bif cube then cmpM (mulM (mulM [y.toUInt32, (y >>> UInt64.ofNat 32).toUInt32, 0, 0] y) y) 3 p.toUInt32 4 else cmpM (mulM [y.toUInt32, (y >>> UInt64.ofNat 32).toUInt32, 0, 0] y) 2 p.toUInt32 4
def rootM (p : UInt64) (cube : Bool) : Nat → UInt64
  | 0 => 0
  | j + 1 => bif aboveM (rootM p cube j + ((1 : UInt64) <<< UInt64.ofNat (37 - j))) p cube then rootM p cube j else rootM p cube j + ((1 : UInt64) <<< UInt64.ofNat (37 - j))
def flM (p d : Nat) : Bool := (List.range' 2 (d - 2)).all fun e => p % e != 0
def dEnd (p : Nat) : Nat := 2 + ((List.range' 2 18).filter fun d => d * d ≤ p).length
def primeM (p : Nat) : Bool := flM p (dEnd p)
def outR (cube : Bool) (p : Nat) : List UInt32 := ((List.range' 2 (p - 2)).filter primeM).map fun q => (rootM (UInt64.ofNat q) cube 38).toUInt32

theorem mIn_len (a : List UInt32) (m : UInt64) (k : Nat) (o : List UInt32) : ∀ i, (mIn a m k o i).1.length = o.length
  | 0 => rfl
  | i + 1 => by rw [mIn, mStep, List.length_set, mIn_len a m k o i]
theorem mOut_len (a : List UInt32) (y : UInt64) : ∀ k, (mOut a y k).length = 4
  | 0 => rfl
  | k + 1 => by rw [mOut, mIn_len, mOut_len a y k]

theorem rturn_spec (x : UInt32) (k : Nat) (h0 : 0 < k) (h32 : k < 32) : FSpec Tryd.prog 16 [w32 x, .int .u64 k] [] (fun r As => r = w32 (rotr x k) ∧ As = []) := by
  refine FSpec.intro Tryd.func16 rfl 13 Tryd.ntmps16 (Nat.le_of_ble_eq_true rfl) fun w0 F => ?_
  show CW _ _ _ _ _ _ (F)
  repeat (first | refine CW.seq ?_ | refine PW.then_ ?_ | refine PW.then_to rfl ?_ | refine CW.block ?_ | refine CW.skip ?_ | refine CW.ret ?_ | refine PW.then_ret ?_ | refine PW.block_ret ?_ | refine Cut.ret ?_ | refine Rnd.ret ?_ | refine PW.block_normal ?_ | refine CW.exit ?_ | refine PW.then_exit ?_ | refine PW.block_hit ?_ | refine PW.block_miss rfl ?_ | refine Cut.exit ?_ | refine Rnd.exit ?_)
  refine CW.region ?_
  refine L1 (ps_assign rfl).os ?_
  refine LW.nil ?_
  repeat (first | refine CW.seq ?_ | refine PW.then_ ?_ | refine PW.then_to rfl ?_ | refine CW.block ?_ | refine CW.skip ?_ | refine CW.ret ?_ | refine PW.then_ret ?_ | refine PW.block_ret ?_ | refine Cut.ret ?_ | refine Rnd.ret ?_ | refine PW.block_normal ?_ | refine CW.exit ?_ | refine PW.then_exit ?_ | refine PW.block_hit ?_ | refine PW.block_miss rfl ?_ | refine Cut.exit ?_ | refine Rnd.exit ?_)
  refine CW.region ?_
  refine L1 (ps_move rfl).os ?_
  refine L1 (ps_move rfl).os ?_
  refine L1 (ps32_shr x k rfl rfl rfl h32).os ?_
  refine L1 (ps_move rfl).os ?_
  refine L1 (ps_move rfl).os ?_
  refine L1 (ps_to (u := .int .u64 ((32 - k : Nat) : Int)) (congrArg (Value.int .u64) (show (32 : Int) - (k : Int) = ((32 - k : Nat) : Int) by omega)) (ps_sub_u64 rfl rfl (by omega) (by omega))).os ?_
  refine L1 (ps32_shl x (32 - k) rfl rfl rfl (by omega)).os ?_
  refine L1 (ps32_or _ _ rfl rfl).os ?_
  refine L1 (ps_assign rfl).os ?_
  refine LW.nil ?_
  repeat (first | refine CW.seq ?_ | refine PW.then_ ?_ | refine PW.then_to rfl ?_ | refine CW.block ?_ | refine CW.skip ?_ | refine CW.ret ?_ | refine PW.then_ret ?_ | refine PW.block_ret ?_ | refine Cut.ret ?_ | refine Rnd.ret ?_ | refine PW.block_normal ?_ | refine CW.exit ?_ | refine PW.then_exit ?_ | refine PW.block_hit ?_ | refine PW.block_miss rfl ?_ | refine Cut.exit ?_ | refine Rnd.exit ?_)
  exact Fin.ret1 (v := w32 (rotr x k)) rfl [] rfl ⟨rfl, rfl⟩ (by repeat (first | exact Ent.refl _ | (apply Ent.cons; · repeat (first | exact pk_head _ _ | apply pk_tail)) | apply Ent.skip))

theorem mul_spec (a : List UInt32) (ha : a.length = 4) (y : UInt64) : FSpec Tryd.prog 20 [.agg (wv a).toArray, w64 y] [] (fun r As => r = .agg (wv (mulM a y)).toArray ∧ As = []) := by
  have hav : (wv a).length = 4 := by rw [length_wv, ha]
  have z4 : List.replicate 4 (Value.int .u32 0) = wv (mOut a y 0) := rfl
  refine FSpec.intro Tryd.func20 rfl 51 Tryd.ntmps20 (Nat.le_of_ble_eq_true rfl) fun w0 F => ?_
  show CW _ _ _ _ _ _ (F)
  repeat (first | refine CW.seq ?_ | refine PW.then_ ?_ | refine PW.then_to rfl ?_ | refine CW.block ?_ | refine CW.skip ?_ | refine CW.ret ?_ | refine PW.then_ret ?_ | refine PW.block_ret ?_ | refine Cut.ret ?_ | refine Rnd.ret ?_ | refine PW.block_normal ?_ | refine CW.exit ?_ | refine PW.then_exit ?_ | refine PW.block_hit ?_ | refine PW.block_miss rfl ?_ | refine Cut.exit ?_ | refine Rnd.exit ?_)
  refine CW.region ?_
  refine LE (os_box (vs := wv a) rfl rfl) ?_
  rintro _ _ ⟨b2, rfl, rfl⟩
  refine LE (os_alloc T.ti56) ?_
  rintro _ _ ⟨b4, rfl, rfl⟩
  refine LW.nil ?_
  repeat (first | refine CW.seq ?_ | refine PW.then_ ?_ | refine PW.then_to rfl ?_ | refine CW.block ?_ | refine CW.skip ?_ | refine CW.ret ?_ | refine PW.then_ret ?_ | refine PW.block_ret ?_ | refine Cut.ret ?_ | refine Rnd.ret ?_ | refine PW.block_normal ?_ | refine CW.exit ?_ | refine PW.then_exit ?_ | refine PW.block_hit ?_ | refine PW.block_miss rfl ?_ | refine Cut.exit ?_ | refine Rnd.exit ?_)
  refine CW.region ?_
  refine LE (os_alloc (z4 ▸ T.ti56)) ?_
  rintro _ _ ⟨b5, rfl, rfl⟩
  refine LW.nil ?_
  repeat (first | refine CW.seq ?_ | refine PW.then_ ?_ | refine PW.then_to rfl ?_ | refine CW.block ?_ | refine CW.skip ?_ | refine CW.ret ?_ | refine PW.then_ret ?_ | refine PW.block_ret ?_ | refine Cut.ret ?_ | refine Rnd.ret ?_ | refine PW.block_normal ?_ | refine CW.exit ?_ | refine PW.then_exit ?_ | refine PW.block_hit ?_ | refine PW.block_miss rfl ?_ | refine Cut.exit ?_ | refine Rnd.exit ?_)
  refine CW.region ?_
  refine L1 (ps_assign rfl).os ?_
  refine LW.nil ?_
  repeat (first | refine CW.seq ?_ | refine PW.then_ ?_ | refine PW.then_to rfl ?_ | refine CW.block ?_ | refine CW.skip ?_ | refine CW.ret ?_ | refine PW.then_ret ?_ | refine PW.block_ret ?_ | refine Cut.ret ?_ | refine Rnd.ret ?_ | refine PW.block_normal ?_ | refine CW.exit ?_ | refine PW.then_exit ?_ | refine PW.block_hit ?_ | refine PW.block_miss rfl ?_ | refine Cut.exit ?_ | refine Rnd.exit ?_)
  refine CW.loopM (α := Nat) [6, 7, 8, 9, 10, 11, 12, 13, 14, 15, 16, 17, 18, 19, 20, 21, 22, 23, 24, 25, 26, 27, 28, 29, 30, 31, 32, 33, 34, 35, 36, 37, 38, 39, 40, 41, 42, 43, 44, 45, 46, 47, 48, 49] (fun c k => k ≤ 2 ∧ c = 2 - k) (fun k => [(6, .int .i64 k)])
    (fun k => cb b5 56 (wv (mOut a y k)) :: cb b4 56 (List.replicate 4 (.int .u32 0)) :: cb b2 56 (wv a) :: F) 2 0 ⟨Nat.zero_le _, rfl⟩ ⟨rfl, trivial⟩ (by repeat (first | exact Ent.refl _ | (apply Ent.cons; · repeat (first | exact pk_head _ _ | apply pk_tail)) | apply Ent.skip)) ?_
  rintro c k g ⟨hk, hc⟩
  repeat (first | refine CW.seq ?_ | refine PW.then_ ?_ | refine PW.then_to rfl ?_ | refine CW.block ?_ | refine CW.skip ?_ | refine CW.ret ?_ | refine PW.then_ret ?_ | refine PW.block_ret ?_ | refine Cut.ret ?_ | refine Rnd.ret ?_ | refine PW.block_normal ?_ | refine CW.exit ?_ | refine PW.then_exit ?_ | refine PW.block_hit ?_ | refine PW.block_miss rfl ?_ | refine Cut.exit ?_ | refine Rnd.exit ?_)
  by_cases hlt : k < 2
  · have hol := mOut_len a y k
    have hnx : mOut a y (k + 1) = (mIn a ((y >>> UInt64.ofNat (32 * k)) &&& 4294967295) k (mOut a y k) (4 - k)).1 := rfl
    generalize mOut a y k = o at hol hnx ⊢
    refine CW.region ?_
    refine L1 (ps_move rfl).os ?_
    refine L1 (ps_t (ps_lss rfl rfl) (by omega)).os ?_
    refine LW.nil ?_
    repeat (first | refine CW.seq ?_ | refine PW.then_ ?_ | refine PW.then_to rfl ?_ | refine CW.block ?_ | refine CW.skip ?_ | refine CW.ret ?_ | refine PW.then_ret ?_ | refine PW.block_ret ?_ | refine Cut.ret ?_ | refine Rnd.ret ?_ | refine PW.block_normal ?_ | refine CW.exit ?_ | refine PW.then_exit ?_ | refine PW.block_hit ?_ | refine PW.block_miss rfl ?_ | refine Cut.exit ?_ | refine Rnd.exit ?_)
    refine CW.cond_true rfl ?_
    repeat (first | refine CW.seq ?_ | refine PW.then_ ?_ | refine PW.then_to rfl ?_ | refine CW.block ?_ | refine CW.skip ?_ | refine CW.ret ?_ | refine PW.then_ret ?_ | refine PW.block_ret ?_ | refine Cut.ret ?_ | refine Rnd.ret ?_ | refine PW.block_normal ?_ | refine CW.exit ?_ | refine PW.then_exit ?_ | refine PW.block_hit ?_ | refine PW.block_miss rfl ?_ | refine Cut.exit ?_ | refine Rnd.exit ?_)
    refine CW.region ?_
    refine L1 (ps_move rfl).os ?_
    refine L1 (ps_move rfl).os ?_
    refine L1 (ps_to (u := .int .i64 ((32 * k : Nat) : Int)) (congrArg (Value.int .i64) (show (32 : Int) * (k : Int) = ((32 * k : Nat) : Int) by omega)) (ps_mul_i64 rfl rfl (by omega) (by omega))).os ?_
    refine L1 (ps_to (u := .int .u64 ((32 * k : Nat) : Int)) (congrArg _ (wrap_u64_id (by omega) (by omega))) (ps_conv (by kernel_rfl) T.un42 rfl)).os ?_
    refine L1 (ps64_shr y (32 * k) rfl rfl rfl (by omega)).os ?_
    refine L1 (ps64_and _ (4294967295 : UInt64) rfl rfl).os ?_
    refine L1 (ps_assign rfl).os ?_
    refine LW.nil ?_
    generalize (y >>> UInt64.ofNat (32 * k)) &&& 4294967295 = m at hnx ⊢
    repeat (first | refine CW.seq ?_ | refine PW.then_ ?_ | refine PW.then_to rfl ?_ | refine CW.block ?_ | refine CW.skip ?_ | refine CW.ret ?_ | refine PW.then_ret ?_ | refine PW.block_ret ?_ | refine Cut.ret ?_ | refine Rnd.ret ?_ | refine PW.block_normal ?_ | refine CW.exit ?_ | refine PW.then_exit ?_ | refine PW.block_hit ?_ | refine PW.block_miss rfl ?_ | refine Cut.exit ?_ | refine Rnd.exit ?_)
    refine CW.region ?_
    refine L1 (ps_assign rfl).os ?_
    refine LW.nil ?_
    repeat (first | refine CW.seq ?_ | refine PW.then_ ?_ | refine PW.then_to rfl ?_ | refine CW.block ?_ | refine CW.skip ?_ | refine CW.ret ?_ | refine PW.then_ret ?_ | refine PW.block_ret ?_ | refine Cut.ret ?_ | refine Rnd.ret ?_ | refine PW.block_normal ?_ | refine CW.exit ?_ | refine PW.then_exit ?_ | refine PW.block_hit ?_ | refine PW.block_miss rfl ?_ | refine Cut.exit ?_ | refine Rnd.exit ?_)
    refine CW.region ?_
    refine L1 (ps_assign rfl).os ?_
    refine LW.nil ?_
    repeat (first | refine CW.seq ?_ | refine PW.then_ ?_ | refine PW.then_to rfl ?_ | refine CW.block ?_ | refine CW.skip ?_ | refine CW.ret ?_ | refine PW.then_ret ?_ | refine PW.block_ret ?_ | refine Cut.ret ?_ | refine Rnd.ret ?_ | refine PW.block_normal ?_ | refine CW.exit ?_ | refine PW.then_exit ?_ | refine PW.block_hit ?_ | refine PW.block_miss rfl ?_ | refine Cut.exit ?_ | refine Rnd.exit ?_)
    refine CW.loopM (α := Nat) [8, 9, 10, 21, 22, 23, 24, 25, 26, 27, 28, 29, 30, 31, 32, 33, 34, 35, 36, 37, 38, 39, 40, 41, 42, 43, 44, 45, 46, 47, 48, 49] (fun c i => i ≤ 4 - k ∧ c = 4 - k - i) (fun i => [(8, w64 (mIn a m k o i).2), (9, .int .i64 i)])
      (fun i => cb b5 56 (wv (mIn a m k o i).1) :: cb b4 56 (List.replicate 4 (.int .u32 0)) :: cb b2 56 (wv a) :: F) (4 - k) 0 ⟨Nat.zero_le _, rfl⟩ ⟨rfl, rfl, trivial⟩ (by repeat (first | exact Ent.refl _ | (apply Ent.cons; · repeat (first | exact pk_head _ _ | apply pk_tail)) | apply Ent.skip)) ?_
    rintro c2 i g2 ⟨hi, hc2⟩
    repeat (first | refine CW.seq ?_ | refine PW.then_ ?_ | refine PW.then_to rfl ?_ | refine CW.block ?_ | refine CW.skip ?_ | refine CW.ret ?_ | refine PW.then_ret ?_ | refine PW.block_ret ?_ | refine Cut.ret ?_ | refine Rnd.ret ?_ | refine PW.block_normal ?_ | refine CW.exit ?_ | refine PW.then_exit ?_ | refine PW.block_hit ?_ | refine PW.block_miss rfl ?_ | refine Cut.exit ?_ | refine Rnd.exit ?_)
    by_cases hit : i < 4 - k
    · have hil := mIn_len a m k o i
      rw [hol] at hil
      have hsn : mIn a m k o (i + 1) = mStep a m k (mIn a m k o i) i := rfl
      obtain ⟨⟨o', ca⟩, hs⟩ : ∃ s, mIn a m k o i = s := ⟨_, rfl⟩
      rw [hs] at hil hsn
      dsimp only at hil
      unfold mStep at hsn
      have hx1 : mX a m k (o', ca) i = (a.getD i 0).toUInt64 * m + (o'.getD (i + k) 0).toUInt64 + ca := rfl
      have hl1 := idx32 (l := a) (i := i) (by omega)
      have hl2 := idx32 (l := o') (i := i + k) (by omega)
      generalize a.getD i 0 = x1 at hl1 hx1
      generalize o'.getD (i + k) 0 = x2 at hl2 hx1
      generalize mX a m k (o', ca) i = xx at hsn hx1
      have hst := set32 (l := o') (i := i + k) xx.toUInt32
      rw [hs]
      dsimp only
      refine CW.region ?_
      refine L1 (ps_move rfl).os ?_
      refine L1 (ps_move rfl).os ?_
      refine L1 (ps_to (u := .int .i64 ((i + k : Nat) : Int)) (congrArg (Value.int .i64) (show (i : Int) + (k : Int) = ((i + k : Nat) : Int) by omega)) (ps_add_i64 rfl rfl (by omega) (by omega))).os ?_
      refine L1 (ps_t (ps_lss rfl rfl) (by omega)).os ?_
      refine LW.nil ?_
      repeat (first | refine CW.seq ?_ | refine PW.then_ ?_ | refine PW.then_to rfl ?_ | refine CW.block ?_ | refine CW.skip ?_ | refine CW.ret ?_ | refine PW.then_ret ?_ | refine PW.block_ret ?_ | refine Cut.ret ?_ | refine Rnd.ret ?_ | refine PW.block_normal ?_ | refine CW.exit ?_ | refine PW.then_exit ?_ | refine PW.block_hit ?_ | refine PW.block_miss rfl ?_ | refine Cut.exit ?_ | refine Rnd.exit ?_)
      refine CW.cond_true rfl ?_
      repeat (first | refine CW.seq ?_ | refine PW.then_ ?_ | refine PW.then_to rfl ?_ | refine CW.block ?_ | refine CW.skip ?_ | refine CW.ret ?_ | refine PW.then_ret ?_ | refine PW.block_ret ?_ | refine Cut.ret ?_ | refine Rnd.ret ?_ | refine PW.block_normal ?_ | refine CW.exit ?_ | refine PW.then_exit ?_ | refine PW.block_hit ?_ | refine PW.block_miss rfl ?_ | refine Cut.exit ?_ | refine Rnd.exit ?_)
      refine CW.cutB (α := Unit) [10, 27, 28, 29, 30, 31, 32, 33, 34, 35, 36, 37, 38, 39, 40, 41] (fun _ => True) (fun _ => [(10, w64 xx)]) (fun _ => cb b5 56 (wv o') :: cb b4 56 (List.replicate 4 (.int .u32 0)) :: cb b2 56 (wv a) :: F) ?_ ?_
      · subst hx1
        refine CW.drawH [cb b5 56 (wv o'), cb b2 56 (wv a)] [] T.mixed ?_
        refine H_take (i := 0) (some 27) rfl rfl (by kernel_rfl) (by kernel_rfl) (by kernel_rfl) rfl (ps_move rfl).pl (by kernel_rfl) (pkc (by repeat (first | exact pk_head _ _ | apply pk_tail)) (pkc (by repeat (first | exact pk_head _ _ | apply pk_tail)) (pkn _))) ?_
        refine H_take (i := 1) (some 28) rfl rfl (by kernel_rfl) (by kernel_rfl) (by kernel_rfl) rfl (ps_ia_arr T.un56 T.sz45 rfl rfl (by omega) (by omega)).pl (by kernel_rfl) (pkc (by repeat (first | exact pk_head _ _ | apply pk_tail)) (pkc (by repeat (first | exact pk_head _ _ | apply pk_tail)) (pkn _))) ?_
        refine H_take (i := 2) (some 29) rfl rfl (by kernel_rfl) (by kernel_rfl) (by kernel_rfl) rfl (pl_load1 (b := b2) (v := w32 x1) (by repeat (first | exact pk_head _ _ | apply pk_tail)) T.ag45 rfl hl1) (by kernel_rfl) (pkc (by repeat (first | exact pk_head _ _ | apply pk_tail)) (pkc (by repeat (first | exact pk_head _ _ | apply pk_tail)) (pkn _))) ?_
        refine H_take (i := 3) (some 30) rfl rfl (by kernel_rfl) (by kernel_rfl) (by kernel_rfl) rfl (ps64_of32 x1 (by kernel_rfl) T.un41 rfl).pl (by kernel_rfl) (pkc (by repeat (first | exact pk_head _ _ | apply pk_tail)) (pkc (by repeat (first | exact pk_head _ _ | apply pk_tail)) (pkn _))) ?_
        refine H_take (i := 4) (some 31) rfl rfl (by kernel_rfl) (by kernel_rfl) (by kernel_rfl) rfl (ps_move rfl).pl (by kernel_rfl) (pkc (by repeat (first | exact pk_head _ _ | apply pk_tail)) (pkc (by repeat (first | exact pk_head _ _ | apply pk_tail)) (pkn _))) ?_
        refine H_take (i := 5) (some 32) rfl rfl (by kernel_rfl) (by kernel_rfl) (by kernel_rfl) rfl (ps64_mul _ _ rfl rfl).pl (by kernel_rfl) (pkc (by repeat (first | exact pk_head _ _ | apply pk_tail)) (pkc (by repeat (first | exact pk_head _ _ | apply pk_tail)) (pkn _))) ?_
        refine H_take (i := 6) (some 33) rfl rfl (by kernel_rfl) (by kernel_rfl) (by kernel_rfl) rfl (ps_move rfl).pl (by kernel_rfl) (pkc (by repeat (first | exact pk_head _ _ | apply pk_tail)) (pkc (by repeat (first | exact pk_head _ _ | apply pk_tail)) (pkn _))) ?_
        refine H_take (i := 7) (some 34) rfl rfl (by kernel_rfl) (by kernel_rfl) (by kernel_rfl) rfl (ps_move rfl).pl (by kernel_rfl) (pkc (by repeat (first | exact pk_head _ _ | apply pk_tail)) (pkc (by repeat (first | exact pk_head _ _ | apply pk_tail)) (pkn _))) ?_
        refine H_take (i := 8) (some 35) rfl rfl (by kernel_rfl) (by kernel_rfl) (by kernel_rfl) rfl (ps_to (u := .int .i64 ((i + k : Nat) : Int)) (congrArg (Value.int .i64) (show (i : Int) + (k : Int) = ((i + k : Nat) : Int) by omega)) (ps_add_i64 rfl rfl (by omega) (by omega))).pl (by kernel_rfl) (pkc (by repeat (first | exact pk_head _ _ | apply pk_tail)) (pkc (by repeat (first | exact pk_head _ _ | apply pk_tail)) (pkn _))) ?_
        refine H_take (i := 9) (some 36) rfl rfl (by kernel_rfl) (by kernel_rfl) (by kernel_rfl) rfl (ps_ia_arr T.un56 T.sz45 rfl rfl (by omega) (by omega)).pl (by kernel_rfl) (pkc (by repeat (first | exact pk_head _ _ | apply pk_tail)) (pkc (by repeat (first | exact pk_head _ _ | apply pk_tail)) (pkn _))) ?_
        refine H_take (i := 10) (some 37) rfl rfl (by kernel_rfl) (by kernel_rfl) (by kernel_rfl) rfl (pl_load1 (b := b5) (v := w32 x2) (by repeat (first | exact pk_head _ _ | apply pk_tail)) T.ag45 rfl hl2) (by kernel_rfl) (pkc (by repeat (first | exact pk_head _ _ | apply pk_tail)) (pkc (by repeat (first | exact pk_head _ _ | apply pk_tail)) (pkn _))) ?_
        refine H_take (i := 11) (some 38) rfl rfl (by kernel_rfl) (by kernel_rfl) (by kernel_rfl) rfl (ps64_of32 x2 (by kernel_rfl) T.un41 rfl).pl (by kernel_rfl) (pkc (by repeat (first | exact pk_head _ _ | apply pk_tail)) (pkc (by repeat (first | exact pk_head _ _ | apply pk_tail)) (pkn _))) ?_
        refine H_take (i := 12) (some 39) rfl rfl (by kernel_rfl) (by kernel_rfl) (by kernel_rfl) rfl (ps64_add _ _ rfl rfl).pl (by kernel_rfl) (pkc (by repeat (first | exact pk_head _ _ | apply pk_tail)) (pkc (by repeat (first | exact pk_head _ _ | apply pk_tail)) (pkn _))) ?_
        refine H_take (i := 13) (some 40) rfl rfl (by kernel_rfl) (by kernel_rfl) (by kernel_rfl) rfl (ps_move rfl).pl (by kernel_rfl) (pkc (by repeat (first | exact pk_head _ _ | apply pk_tail)) (pkc (by repeat (first | exact pk_head _ _ | apply pk_tail)) (pkn _))) ?_
        refine H_take (i := 14) (some 41) rfl rfl (by kernel_rfl) (by kernel_rfl) (by kernel_rfl) rfl (ps64_add _ _ rfl rfl).pl (by kernel_rfl) (pkc (by repeat (first | exact pk_head _ _ | apply pk_tail)) (pkc (by repeat (first | exact pk_head _ _ | apply pk_tail)) (pkn _))) ?_
        refine H_take (i := 15) (some 10) rfl rfl (by kernel_rfl) (by kernel_rfl) (by kernel_rfl) rfl (ps_assign rfl).pl (by kernel_rfl) (pkc (by repeat (first | exact pk_head _ _ | apply pk_tail)) (pkc (by repeat (first | exact pk_head _ _ | apply pk_tail)) (pkn _))) ?_
        refine H_done (by kernel_rfl) ?_
        exact Meet.cut () trivial (by repeat (first | (with_reducible exact Ag.refl _ _) | (with_reducible apply Ag.pu0) | ((with_reducible refine Ag.pu _ ?_ ?_); · exact rfl) | ((with_reducible refine Ag.mix ?_ ?_); · exact rfl) | ((with_reducible refine Ag.pus ?_ ?_); · exact rfl))) ⟨rfl, trivial⟩ (by repeat (first | exact Ent.refl _ | (apply Ent.cons; · repeat (first | exact pk_head _ _ | apply pk_tail)) | apply Ent.skip))
      intro _ _ _
      repeat (first | refine CW.seq ?_ | refine PW.then_ ?_ | refine PW.then_to rfl ?_ | refine CW.block ?_ | refine CW.skip ?_ | refine CW.ret ?_ | refine PW.then_ret ?_ | refine PW.block_ret ?_ | refine Cut.ret ?_ | refine Rnd.ret ?_ | refine PW.block_normal ?_ | refine CW.exit ?_ | refine PW.then_exit ?_ | refine PW.block_hit ?_ | refine PW.block_miss rfl ?_ | refine Cut.exit ?_ | refine Rnd.exit ?_)
      refine CW.region ?_
      refine L1 (ps_move rfl).os ?_
      refine L1 (ps_move rfl).os ?_
      refine L1 (ps_to (u := .int .i64 ((i + k : Nat) : Int)) (congrArg (Value.int .i64) (show (i : Int) + (k : Int) = ((i + k : Nat) : Int) by omega)) (ps_add_i64 rfl rfl (by omega) (by omega))).os ?_
      refine L1 (ps_move rfl).os ?_
      refine L1 (ps64_to32 xx (by kernel_rfl) T.un45 rfl).os ?_
      refine L1 (ps_ia_arr T.un56 T.sz45 rfl rfl (by omega) (by omega)).os ?_
      refine L1 (os_cb hst <| os_store1 (b := b5) (by repeat (first | exact pk_head _ _ | apply pk_tail)) T.sz45 rfl rfl (by rfl) (by rw [length_wv, hil]; omega)) ?_
      refine LW.nil ?_
      repeat (first | refine CW.seq ?_ | refine PW.then_ ?_ | refine PW.then_to rfl ?_ | refine CW.block ?_ | refine CW.skip ?_ | refine CW.ret ?_ | refine PW.then_ret ?_ | refine PW.block_ret ?_ | refine Cut.ret ?_ | refine Rnd.ret ?_ | refine PW.block_normal ?_ | refine CW.exit ?_ | refine PW.then_exit ?_ | refine PW.block_hit ?_ | refine PW.block_miss rfl ?_ | refine Cut.exit ?_ | refine Rnd.exit ?_)
      refine CW.region ?_
      refine L1 (ps_move rfl).os ?_
      refine L1 (ps64_shr xx 32 rfl rfl rfl (by decide)).os ?_
      refine L1 (ps_assign rfl).os ?_
      refine LW.nil ?_
      repeat (first | refine CW.seq ?_ | refine PW.then_ ?_ | refine PW.then_to rfl ?_ | refine CW.block ?_ | refine CW.skip ?_ | refine CW.ret ?_ | refine PW.then_ret ?_ | refine PW.block_ret ?_ | refine Cut.ret ?_ | refine Rnd.ret ?_ | refine PW.block_normal ?_ | refine CW.exit ?_ | refine PW.then_exit ?_ | refine PW.block_hit ?_ | refine PW.block_miss rfl ?_ | refine Cut.exit ?_ | refine Rnd.exit ?_)
      refine CW.region ?_
      refine L1 (ps_move rfl).os ?_
      refine L1 (ps_add_i64 rfl rfl (by omega) (by omega)).os ?_
      refine L1 (ps_assign rfl).os ?_
      refine LW.nil ?_
      exact Meet.round (4 - k - (i + 1)) (i + 1) (by omega) ⟨by omega, rfl⟩ (by repeat (first | (with_reducible exact Ag.refl _ _) | (with_reducible apply Ag.pu0) | ((with_reducible refine Ag.pu _ ?_ ?_); · exact rfl) | ((with_reducible refine Ag.mix ?_ ?_); · exact rfl) | ((with_reducible refine Ag.pus ?_ ?_); · exact rfl))) (by rw [hsn]; exact ⟨rfl, rfl, trivial⟩) (by rw [hsn]; exact (by repeat (first | exact Ent.refl _ | (apply Ent.cons; · repeat (first | exact pk_head _ _ | apply pk_tail)) | apply Ent.skip)))
    have hi4 : i = 4 - k := by omega
    subst hi4
    refine CW.region ?_
    refine L1 (ps_move rfl).os ?_
    refine L1 (ps_move rfl).os ?_
    refine L1 (ps_to (u := .int .i64 4) (congrArg (Value.int .i64) (show ((4 - k : Nat) : Int) + (k : Int) = 4 by omega)) (ps_add_i64 rfl rfl (by omega) (by omega))).os ?_
    refine L1 (ps_f (ps_lss rfl rfl) (by decide)).os ?_
    refine LW.nil ?_
    repeat (first | refine CW.seq ?_ | refine PW.then_ ?_ | refine PW.then_to rfl ?_ | refine CW.block ?_ | refine CW.skip ?_ | refine CW.ret ?_ | refine PW.then_ret ?_ | refine PW.block_ret ?_ | refine Cut.ret ?_ | refine Rnd.ret ?_ | refine PW.block_normal ?_ | refine CW.exit ?_ | refine PW.then_exit ?_ | refine PW.block_hit ?_ | refine PW.block_miss rfl ?_ | refine Cut.exit ?_ | refine Rnd.exit ?_)
    refine CW.cond_false rfl ?_
    repeat (first | refine CW.seq ?_ | refine PW.then_ ?_ | refine PW.then_to rfl ?_ | refine CW.block ?_ | refine CW.skip ?_ | refine CW.ret ?_ | refine PW.then_ret ?_ | refine PW.block_ret ?_ | refine Cut.ret ?_ | refine Rnd.ret ?_ | refine PW.block_normal ?_ | refine CW.exit ?_ | refine PW.then_exit ?_ | refine PW.block_hit ?_ | refine PW.block_miss rfl ?_ | refine Cut.exit ?_ | refine Rnd.exit ?_)
    refine CW.region ?_
    refine L1 (ps_move rfl).os ?_
    refine L1 (ps_add_i64 rfl rfl (by omega) (by omega)).os ?_
    refine L1 (ps_assign rfl).os ?_
    refine LW.nil ?_
    exact Meet.round (2 - (k + 1)) (k + 1) (by omega) ⟨hlt, rfl⟩ (by repeat (first | (with_reducible exact Ag.refl _ _) | (with_reducible apply Ag.pu0) | ((with_reducible refine Ag.pu _ ?_ ?_); · exact rfl) | ((with_reducible refine Ag.mix ?_ ?_); · exact rfl) | ((with_reducible refine Ag.pus ?_ ?_); · exact rfl))) ⟨rfl, trivial⟩ (by rw [hnx]; exact (by repeat (first | exact Ent.refl _ | (apply Ent.cons; · repeat (first | exact pk_head _ _ | apply pk_tail)) | apply Ent.skip)))
  have hk2 : k = 2 := by omega
  subst hk2
  have hol := mOut_len a y 2
  have hmm : mulM a y = mOut a y 2 := rfl
  rw [hmm]
  generalize mOut a y 2 = o at hol ⊢
  have hov : (wv o).length = 4 := by rw [length_wv, hol]
  refine CW.region ?_
  refine L1 (ps_move rfl).os ?_
  refine L1 (ps_f (ps_lss rfl rfl) (by omega)).os ?_
  refine LW.nil ?_
  repeat (first | refine CW.seq ?_ | refine PW.then_ ?_ | refine PW.then_to rfl ?_ | refine CW.block ?_ | refine CW.skip ?_ | refine CW.ret ?_ | refine PW.then_ret ?_ | refine PW.block_ret ?_ | refine Cut.ret ?_ | refine Rnd.ret ?_ | refine PW.block_normal ?_ | refine CW.exit ?_ | refine PW.then_exit ?_ | refine PW.block_hit ?_ | refine PW.block_miss rfl ?_ | refine Cut.exit ?_ | refine Rnd.exit ?_)
  refine CW.cond_false rfl ?_
  repeat (first | refine CW.seq ?_ | refine PW.then_ ?_ | refine PW.then_to rfl ?_ | refine CW.block ?_ | refine CW.skip ?_ | refine CW.ret ?_ | refine PW.then_ret ?_ | refine PW.block_ret ?_ | refine Cut.ret ?_ | refine Rnd.ret ?_ | refine PW.block_normal ?_ | refine CW.exit ?_ | refine PW.then_exit ?_ | refine PW.block_hit ?_ | refine PW.block_miss rfl ?_ | refine Cut.exit ?_ | refine Rnd.exit ?_)
  refine CW.region ?_
  refine L1 (os_loadAll (b := b5) (cs := wv o) (by repeat (first | exact pk_head _ _ | apply pk_tail)) T.ag56 (by rw [hov]; exact T.sz56) rfl) ?_
  refine L1 (os_storeAll (b := b4) (vs := wv o) (by repeat (first | exact pk_head _ _ | apply pk_tail)) (by rw [hov]; exact T.sz56) rfl rfl (wv_one _) (by rw [hov]; rfl)) ?_
  refine LW.nil ?_
  repeat (first | refine CW.seq ?_ | refine PW.then_ ?_ | refine PW.then_to rfl ?_ | refine CW.block ?_ | refine CW.skip ?_ | refine CW.ret ?_ | refine PW.then_ret ?_ | refine PW.block_ret ?_ | refine Cut.ret ?_ | refine Rnd.ret ?_ | refine PW.block_normal ?_ | refine CW.exit ?_ | refine PW.then_exit ?_ | refine PW.block_hit ?_ | refine PW.block_miss rfl ?_ | refine Cut.exit ?_ | refine Rnd.exit ?_)
  exact Fin.retCell (b := b4) (cs := wv o) rfl (by repeat (first | exact pk_head _ _ | apply pk_tail)) T.ag56 (by rw [hov]; exact T.sz56) rfl [] ⟨rfl, rfl⟩ (by repeat (first | exact Ent.refl _ | (apply Ent.cons; · repeat (first | exact pk_head _ _ | apply pk_tail)) | apply Ent.skip))

theorem mulM_len (a : List UInt32) (y : UInt64) : (mulM a y).length = 4 := mOut_len a y 2
theorem above_spec (y p : UInt64) (cube : Bool) : FSpec Tryd.prog 18 [w64 y, w64 p, .bool cube] [] (fun r As => r = .bool (aboveM y p cube) ∧ As = []) := by
  obtain ⟨l0, hl0⟩ : ∃ l0, mulM [y.toUInt32, (y >>> UInt64.ofNat 32).toUInt32, 0, 0] y = l0 := ⟨_, rfl⟩
  have m0 := mul_spec [y.toUInt32, (y >>> UInt64.ofNat 32).toUInt32, 0, 0] rfl y
  rw [hl0] at m0
  have hll0 : l0.length = 4 := by rw [← hl0]; exact mulM_len _ _
  have hv0 : (wv l0).length = 4 := by rw [length_wv, hll0]
  obtain ⟨l, at_, hl, hat, hab, hcl⟩ : ∃ l at_, (l = bif cube then mulM l0 y else l0) ∧ (at_ = bif cube then 3 else 2) ∧ aboveM y p cube = cmpM l at_ p.toUInt32 4 ∧ l.length = 4 := by
    cases cube
    · exact ⟨_, _, rfl, rfl, by unfold aboveM; rw [hl0]; rfl, hll0⟩
    · exact ⟨_, _, rfl, rfl, by unfold aboveM; rw [hl0]; rfl, mulM_len _ _⟩
  have hv : (wv l).length = 4 := by rw [length_wv, hcl]
  have m1 := mul_spec l0 hll0 y
  refine FSpec.intro Tryd.func18 rfl 42 Tryd.ntmps18 (Nat.le_of_ble_eq_true rfl) fun w0 F => ?_
  show CW _ _ _ _ _ _ (F)
  repeat (first | refine CW.seq ?_ | refine PW.then_ ?_ | refine PW.then_to rfl ?_ | refine CW.block ?_ | refine CW.skip ?_ | refine CW.ret ?_ | refine PW.then_ret ?_ | refine PW.block_ret ?_ | refine Cut.ret ?_ | refine Rnd.ret ?_ | refine PW.block_normal ?_ | refine CW.exit ?_ | refine PW.then_exit ?_ | refine PW.block_hit ?_ | refine PW.block_miss rfl ?_ | refine Cut.exit ?_ | refine Rnd.exit ?_)
  refine CW.region ?_
  refine L1 (ps_assign rfl).os ?_
  refine LW.nil ?_
  repeat (first | refine CW.seq ?_ | refine PW.then_ ?_ | refine PW.then_to rfl ?_ | refine CW.block ?_ | refine CW.skip ?_ | refine CW.ret ?_ | refine PW.then_ret ?_ | refine PW.block_ret ?_ | refine Cut.ret ?_ | refine Rnd.ret ?_ | refine PW.block_normal ?_ | refine CW.exit ?_ | refine PW.then_exit ?_ | refine PW.block_hit ?_ | refine PW.block_miss rfl ?_ | refine Cut.exit ?_ | refine Rnd.exit ?_)
  refine CW.region ?_
  refine L1 (ps_move rfl).os ?_
  refine L1 (ps64_to32 y (by kernel_rfl) T.un45 rfl).os ?_
  refine L1 (ps_move rfl).os ?_
  refine L1 (ps64_shr y 32 rfl rfl rfl (by decide)).os ?_
  refine L1 (ps64_to32 _ (by kernel_rfl) T.un45 rfl).os ?_
  refine L1 (ps_to (u := .agg (wv [y.toUInt32, (y >>> UInt64.ofNat 32).toUInt32, 0, 0]).toArray) (by rfl) (ps_build (by rfl) (by kernel_rfl))).os ?_
  refine L1 (ps_move rfl).os ?_
  refine L1 (os_call0 m0 Tryd.func20 (by decide +kernel) rfl rfl) ?_
  refine LE (os_alloc T.ti56) ?_
  rintro _ _ ⟨b7, rfl, rfl⟩
  refine L1 (os_storeAll (b := b7) (vs := wv l0) (by repeat (first | exact pk_head _ _ | apply pk_tail)) (by rw [hv0]; exact T.sz56) rfl rfl (wv_one _) (by rw [hv0]; rfl)) ?_
  refine LW.nil ?_
  repeat (first | refine CW.seq ?_ | refine PW.then_ ?_ | refine PW.then_to rfl ?_ | refine CW.block ?_ | refine CW.skip ?_ | refine CW.ret ?_ | refine PW.then_ret ?_ | refine PW.block_ret ?_ | refine Cut.ret ?_ | refine Rnd.ret ?_ | refine PW.block_normal ?_ | refine CW.exit ?_ | refine PW.then_exit ?_ | refine PW.block_hit ?_ | refine PW.block_miss rfl ?_ | refine Cut.exit ?_ | refine Rnd.exit ?_)
  refine CW.region ?_
  refine L1 (ps_assign rfl).os ?_
  refine LW.nil ?_
  repeat (first | refine CW.seq ?_ | refine PW.then_ ?_ | refine PW.then_to rfl ?_ | refine CW.block ?_ | refine CW.skip ?_ | refine CW.ret ?_ | refine PW.then_ret ?_ | refine PW.block_ret ?_ | refine Cut.ret ?_ | refine Rnd.ret ?_ | refine PW.block_normal ?_ | refine CW.exit ?_ | refine PW.then_exit ?_ | refine PW.block_hit ?_ | refine PW.block_miss rfl ?_ | refine Cut.exit ?_ | refine Rnd.exit ?_)
  refine CW.region ?_
  refine L1 (ps_move rfl).os ?_
  refine LW.nil ?_
  repeat (first | refine CW.seq ?_ | refine PW.then_ ?_ | refine PW.then_to rfl ?_ | refine CW.block ?_ | refine CW.skip ?_ | refine CW.ret ?_ | refine PW.then_ret ?_ | refine PW.block_ret ?_ | refine Cut.ret ?_ | refine Rnd.ret ?_ | refine PW.block_normal ?_ | refine CW.exit ?_ | refine PW.then_exit ?_ | refine PW.block_hit ?_ | refine PW.block_miss rfl ?_ | refine Cut.exit ?_ | refine Rnd.exit ?_)
  refine CW.cutB (α := Unit) [8, 20, 21, 22] (fun _ => True) (fun _ => [(8, .int .i64 ((at_ : Nat) : Int))]) (fun _ => cb b7 56 (wv l) :: F) ?_ ?_
  · cases cube
    · obtain rfl : l = l0 := hl
      obtain rfl : at_ = 2 := hat
      refine CW.cond_false rfl ?_
      repeat (first | refine CW.seq ?_ | refine PW.then_ ?_ | refine PW.then_to rfl ?_ | refine CW.block ?_ | refine CW.skip ?_ | refine CW.ret ?_ | refine PW.then_ret ?_ | refine PW.block_ret ?_ | refine Cut.ret ?_ | refine Rnd.ret ?_ | refine PW.block_normal ?_ | refine CW.exit ?_ | refine PW.then_exit ?_ | refine PW.block_hit ?_ | refine PW.block_miss rfl ?_ | refine Cut.exit ?_ | refine Rnd.exit ?_)
      exact Meet.cut () trivial (by repeat (first | (with_reducible exact Ag.refl _ _) | (with_reducible apply Ag.pu0) | ((with_reducible refine Ag.pu _ ?_ ?_); · exact rfl) | ((with_reducible refine Ag.mix ?_ ?_); · exact rfl) | ((with_reducible refine Ag.pus ?_ ?_); · exact rfl))) ⟨rfl, trivial⟩ (by repeat (first | exact Ent.refl _ | (apply Ent.cons; · repeat (first | exact pk_head _ _ | apply pk_tail)) | apply Ent.skip))
    · obtain rfl : l = mulM l0 y := hl
      obtain rfl : at_ = 3 := hat
      refine CW.cond_true rfl ?_
      repeat (first | refine CW.seq ?_ | refine PW.then_ ?_ | refine PW.then_to rfl ?_ | refine CW.block ?_ | refine CW.skip ?_ | refine CW.ret ?_ | refine PW.then_ret ?_ | refine PW.block_ret ?_ | refine Cut.ret ?_ | refine Rnd.ret ?_ | refine PW.block_normal ?_ | refine CW.exit ?_ | refine PW.then_exit ?_ | refine PW.block_hit ?_ | refine PW.block_miss rfl ?_ | refine Cut.exit ?_ | refine Rnd.exit ?_)
      refine CW.region ?_
      refine L1 (os_loadAll (b := b7) (cs := wv l0) (by repeat (first | exact pk_head _ _ | apply pk_tail)) T.ag56 (by rw [hv0]; exact T.sz56) rfl) ?_
      refine L1 (ps_move rfl).os ?_
      refine L1 (os_call0 m1 Tryd.func20 (by decide +kernel) rfl rfl) ?_
      refine L1 (os_storeAll (b := b7) (vs := wv (mulM l0 y)) (by repeat (first | exact pk_head _ _ | apply pk_tail)) (by rw [hv]; exact T.sz56) rfl rfl (wv_one _) (by rw [hv, hv0])) ?_
      refine LW.nil ?_
      repeat (first | refine CW.seq ?_ | refine PW.then_ ?_ | refine PW.then_to rfl ?_ | refine CW.block ?_ | refine CW.skip ?_ | refine CW.ret ?_ | refine PW.then_ret ?_ | refine PW.block_ret ?_ | refine Cut.ret ?_ | refine Rnd.ret ?_ | refine PW.block_normal ?_ | refine CW.exit ?_ | refine PW.then_exit ?_ | refine PW.block_hit ?_ | refine PW.block_miss rfl ?_ | refine Cut.exit ?_ | refine Rnd.exit ?_)
      refine CW.region ?_
      refine L1 (ps_assign rfl).os ?_
      refine LW.nil ?_
      repeat (first | refine CW.seq ?_ | refine PW.then_ ?_ | refine PW.then_to rfl ?_ | refine CW.block ?_ | refine CW.skip ?_ | refine CW.ret ?_ | refine PW.then_ret ?_ | refine PW.block_ret ?_ | refine Cut.ret ?_ | refine Rnd.ret ?_ | refine PW.block_normal ?_ | refine CW.exit ?_ | refine PW.then_exit ?_ | refine PW.block_hit ?_ | refine PW.block_miss rfl ?_ | refine Cut.exit ?_ | refine Rnd.exit ?_)
      exact Meet.cut () trivial (by repeat (first | (with_reducible exact Ag.refl _ _) | (with_reducible apply Ag.pu0) | ((with_reducible refine Ag.pu _ ?_ ?_); · exact rfl) | ((with_reducible refine Ag.mix ?_ ?_); · exact rfl) | ((with_reducible refine Ag.pus ?_ ?_); · exact rfl))) ⟨rfl, trivial⟩ (by repeat (first | exact Ent.refl _ | (apply Ent.cons; · repeat (first | exact pk_head _ _ | apply pk_tail)) | apply Ent.skip))
  intro _ _ _
  rw [hab]
  repeat (first | refine CW.seq ?_ | refine PW.then_ ?_ | refine PW.then_to rfl ?_ | refine CW.block ?_ | refine CW.skip ?_ | refine CW.ret ?_ | refine PW.then_ret ?_ | refine PW.block_ret ?_ | refine Cut.ret ?_ | refine Rnd.ret ?_ | refine PW.block_normal ?_ | refine CW.exit ?_ | refine PW.then_exit ?_ | refine PW.block_hit ?_ | refine PW.block_miss rfl ?_ | refine Cut.exit ?_ | refine Rnd.exit ?_)
  refine CW.region ?_
  refine L1 (ps_assign rfl).os ?_
  refine LW.nil ?_
  repeat (first | refine CW.seq ?_ | refine PW.then_ ?_ | refine PW.then_to rfl ?_ | refine CW.block ?_ | refine CW.skip ?_ | refine CW.ret ?_ | refine PW.then_ret ?_ | refine PW.block_ret ?_ | refine Cut.ret ?_ | refine Rnd.ret ?_ | refine PW.block_normal ?_ | refine CW.exit ?_ | refine PW.then_exit ?_ | refine PW.block_hit ?_ | refine PW.block_miss rfl ?_ | refine Cut.exit ?_ | refine Rnd.exit ?_)
  refine CW.loopM (α := Nat) [6, 9, 10, 23, 24, 25, 26, 27, 28, 29, 30, 31, 32, 33, 34, 35, 36, 37, 38, 39, 40, 41] (fun c i => i ≤ 4 ∧ c = 4 - i ∧ cmpM l at_ p.toUInt32 4 = cmpM l at_ p.toUInt32 (4 - i)) (fun i => [(9, .int .i64 (3 - (i : Int)))])
    (fun i => cb b7 56 (wv l) :: F) 4 0 ⟨Nat.zero_le _, rfl, rfl⟩ ⟨rfl, trivial⟩ (by repeat (first | exact Ent.refl _ | (apply Ent.cons; · repeat (first | exact pk_head _ _ | apply pk_tail)) | apply Ent.skip)) ?_
  rintro c i g ⟨hi, hc, hcm⟩
  repeat (first | refine CW.seq ?_ | refine PW.then_ ?_ | refine PW.then_to rfl ?_ | refine CW.block ?_ | refine CW.skip ?_ | refine CW.ret ?_ | refine PW.then_ret ?_ | refine PW.block_ret ?_ | refine Cut.ret ?_ | refine Rnd.ret ?_ | refine PW.block_normal ?_ | refine CW.exit ?_ | refine PW.then_exit ?_ | refine PW.block_hit ?_ | refine PW.block_miss rfl ?_ | refine Cut.exit ?_ | refine Rnd.exit ?_)
  by_cases hlt : i < 4
  · obtain ⟨j, hj⟩ : ∃ j, 3 - i = j := ⟨_, rfl⟩
    have hsn : cmpM l at_ p.toUInt32 (4 - i) = if l.getD j 0 ≠ (if j = at_ then p.toUInt32 else 0) then decide ((if j = at_ then p.toUInt32 else 0) < l.getD j 0) else cmpM l at_ p.toUInt32 (4 - (i + 1)) := by
      rw [show 4 - i = j + 1 by omega, show 4 - (i + 1) = j by omega]; rfl
    rw [← hcm] at hsn
    have hld := idx32 (l := l) (i := j) (by omega)
    generalize l.getD j 0 = x at hld hsn
    have hji : (3 : Int) - (i : Int) = ((j : Nat) : Int) := by omega
    obtain ⟨w, hw⟩ : ∃ w, (if j = at_ then p.toUInt32 else 0) = w := ⟨_, rfl⟩
    rw [hw] at hsn
    refine CW.region ?_
    refine L1 (ps_move rfl).os ?_
    refine L1 (ps_t (ps_geq rfl rfl) (by omega)).os ?_
    refine LW.nil ?_
    repeat (first | refine CW.seq ?_ | refine PW.then_ ?_ | refine PW.then_to rfl ?_ | refine CW.block ?_ | refine CW.skip ?_ | refine CW.ret ?_ | refine PW.then_ret ?_ | refine PW.block_ret ?_ | refine Cut.ret ?_ | refine Rnd.ret ?_ | refine PW.block_normal ?_ | refine CW.exit ?_ | refine PW.then_exit ?_ | refine PW.block_hit ?_ | refine PW.block_miss rfl ?_ | refine Cut.exit ?_ | refine Rnd.exit ?_)
    refine CW.cond_true rfl ?_
    repeat (first | refine CW.seq ?_ | refine PW.then_ ?_ | refine PW.then_to rfl ?_ | refine CW.block ?_ | refine CW.skip ?_ | refine CW.ret ?_ | refine PW.then_ret ?_ | refine PW.block_ret ?_ | refine Cut.ret ?_ | refine Rnd.ret ?_ | refine PW.block_normal ?_ | refine CW.exit ?_ | refine PW.then_exit ?_ | refine PW.block_hit ?_ | refine PW.block_miss rfl ?_ | refine Cut.exit ?_ | refine Rnd.exit ?_)
    refine CW.region ?_
    refine L1 (ps_assign rfl).os ?_
    refine LW.nil ?_
    repeat (first | refine CW.seq ?_ | refine PW.then_ ?_ | refine PW.then_to rfl ?_ | refine CW.block ?_ | refine CW.skip ?_ | refine CW.ret ?_ | refine PW.then_ret ?_ | refine PW.block_ret ?_ | refine Cut.ret ?_ | refine Rnd.ret ?_ | refine PW.block_normal ?_ | refine CW.exit ?_ | refine PW.then_exit ?_ | refine PW.block_hit ?_ | refine PW.block_miss rfl ?_ | refine Cut.exit ?_ | refine Rnd.exit ?_)
    refine CW.region ?_
    refine L1 (ps_move rfl).os ?_
    refine L1 (ps_move rfl).os ?_
    refine L1 (ps_to (u := .bool (decide (j = at_))) (congrArg Value.bool (decide_eq_decide.2 (by omega))) (ps_eql (i := 3 - (i : Int)) (j := ((at_ : Nat) : Int)) rfl rfl)).os ?_
    refine LW.nil ?_
    repeat (first | refine CW.seq ?_ | refine PW.then_ ?_ | refine PW.then_to rfl ?_ | refine CW.block ?_ | refine CW.skip ?_ | refine CW.ret ?_ | refine PW.then_ret ?_ | refine PW.block_ret ?_ | refine Cut.ret ?_ | refine Rnd.ret ?_ | refine PW.block_normal ?_ | refine CW.exit ?_ | refine PW.then_exit ?_ | refine PW.block_hit ?_ | refine PW.block_miss rfl ?_ | refine Cut.exit ?_ | refine Rnd.exit ?_)
    refine CW.cutB (α := Unit) [10, 30, 31] (fun _ => True) (fun _ => [(10, w32 w)]) (fun _ => cb b7 56 (wv l) :: F) ?_ ?_
    · by_cases hja : j = at_
      · rw [if_pos hja] at hw
        refine CW.cond_true (congrArg Value.bool (decide_eq_true hja)) ?_
        repeat (first | refine CW.seq ?_ | refine PW.then_ ?_ | refine PW.then_to rfl ?_ | refine CW.block ?_ | refine CW.skip ?_ | refine CW.ret ?_ | refine PW.then_ret ?_ | refine PW.block_ret ?_ | refine Cut.ret ?_ | refine Rnd.ret ?_ | refine PW.block_normal ?_ | refine CW.exit ?_ | refine PW.then_exit ?_ | refine PW.block_hit ?_ | refine PW.block_miss rfl ?_ | refine Cut.exit ?_ | refine Rnd.exit ?_)
        refine CW.region ?_
        refine L1 (ps_move rfl).os ?_
        refine L1 (ps64_to32 p (by kernel_rfl) T.un45 rfl).os ?_
        refine L1 (ps_assign rfl).os ?_
        refine LW.nil ?_
        repeat (first | refine CW.seq ?_ | refine PW.then_ ?_ | refine PW.then_to rfl ?_ | refine CW.block ?_ | refine CW.skip ?_ | refine CW.ret ?_ | refine PW.then_ret ?_ | refine PW.block_ret ?_ | refine Cut.ret ?_ | refine Rnd.ret ?_ | refine PW.block_normal ?_ | refine CW.exit ?_ | refine PW.then_exit ?_ | refine PW.block_hit ?_ | refine PW.block_miss rfl ?_ | refine Cut.exit ?_ | refine Rnd.exit ?_)
        exact Meet.cut () trivial (by repeat (first | (with_reducible exact Ag.refl _ _) | (with_reducible apply Ag.pu0) | ((with_reducible refine Ag.pu _ ?_ ?_); · exact rfl) | ((with_reducible refine Ag.mix ?_ ?_); · exact rfl) | ((with_reducible refine Ag.pus ?_ ?_); · exact rfl))) (by rw [← hw]; exact ⟨rfl, trivial⟩) (by repeat (first | exact Ent.refl _ | (apply Ent.cons; · repeat (first | exact pk_head _ _ | apply pk_tail)) | apply Ent.skip))
      · rw [if_neg hja] at hw
        refine CW.cond_false (congrArg Value.bool (decide_eq_false hja)) ?_
        repeat (first | refine CW.seq ?_ | refine PW.then_ ?_ | refine PW.then_to rfl ?_ | refine CW.block ?_ | refine CW.skip ?_ | refine CW.ret ?_ | refine PW.then_ret ?_ | refine PW.block_ret ?_ | refine Cut.ret ?_ | refine Rnd.ret ?_ | refine PW.block_normal ?_ | refine CW.exit ?_ | refine PW.then_exit ?_ | refine PW.block_hit ?_ | refine PW.block_miss rfl ?_ | refine Cut.exit ?_ | refine Rnd.exit ?_)
        exact Meet.cut () trivial (by repeat (first | (with_reducible exact Ag.refl _ _) | (with_reducible apply Ag.pu0) | ((with_reducible refine Ag.pu _ ?_ ?_); · exact rfl) | ((with_reducible refine Ag.mix ?_ ?_); · exact rfl) | ((with_reducible refine Ag.pus ?_ ?_); · exact rfl))) (by rw [← hw]; exact ⟨rfl, trivial⟩) (by repeat (first | exact Ent.refl _ | (apply Ent.cons; · repeat (first | exact pk_head _ _ | apply pk_tail)) | apply Ent.skip))
    intro _ _ _
    have hia : Value.pointer (some ⟨b7, 0 + (3 - (i : Int)).toNat * 1, none⟩) = .pointer (some ⟨b7, 0 + ((j : Nat) : Int).toNat * 1, none⟩) := by rw [hji]
    repeat (first | refine CW.seq ?_ | refine PW.then_ ?_ | refine PW.then_to rfl ?_ | refine CW.block ?_ | refine CW.skip ?_ | refine CW.ret ?_ | refine PW.then_ret ?_ | refine PW.block_ret ?_ | refine Cut.ret ?_ | refine Rnd.ret ?_ | refine PW.block_normal ?_ | refine CW.exit ?_ | refine PW.then_exit ?_ | refine PW.block_hit ?_ | refine PW.block_miss rfl ?_ | refine Cut.exit ?_ | refine Rnd.exit ?_)
    by_cases hne : x ≠ w
    · rw [if_pos hne] at hsn
      refine CW.region ?_
      refine L1 (ps_move rfl).os ?_
      refine L1 (ps_to (u := .pointer (some ⟨b7, 0 + ((j : Nat) : Int).toNat * 1, none⟩)) hia (ps_ia_arr T.un56 T.sz45 rfl rfl (by omega) (by omega))).os ?_
      refine L1 (os_load1 (b := b7) (v := w32 x) (by repeat (first | exact pk_head _ _ | apply pk_tail)) T.ag45 rfl hld) ?_
      refine L1 (ps_move rfl).os ?_
      refine L1 (ps_t (ps32_t_neq x w rfl rfl) hne).os ?_
      refine LW.nil ?_
      repeat (first | refine CW.seq ?_ | refine PW.then_ ?_ | refine PW.then_to rfl ?_ | refine CW.block ?_ | refine CW.skip ?_ | refine CW.ret ?_ | refine PW.then_ret ?_ | refine PW.block_ret ?_ | refine Cut.ret ?_ | refine Rnd.ret ?_ | refine PW.block_normal ?_ | refine CW.exit ?_ | refine PW.then_exit ?_ | refine PW.block_hit ?_ | refine PW.block_miss rfl ?_ | refine Cut.exit ?_ | refine Rnd.exit ?_)
      refine CW.cond_true rfl ?_
      repeat (first | refine CW.seq ?_ | refine PW.then_ ?_ | refine PW.then_to rfl ?_ | refine CW.block ?_ | refine CW.skip ?_ | refine CW.ret ?_ | refine PW.then_ret ?_ | refine PW.block_ret ?_ | refine Cut.ret ?_ | refine Rnd.ret ?_ | refine PW.block_normal ?_ | refine CW.exit ?_ | refine PW.then_exit ?_ | refine PW.block_hit ?_ | refine PW.block_miss rfl ?_ | refine Cut.exit ?_ | refine Rnd.exit ?_)
      refine CW.region ?_
      refine L1 (ps_move rfl).os ?_
      refine L1 (ps_to (u := .pointer (some ⟨b7, 0 + ((j : Nat) : Int).toNat * 1, none⟩)) hia (ps_ia_arr T.un56 T.sz45 rfl rfl (by omega) (by omega))).os ?_
      refine L1 (os_load1 (b := b7) (v := w32 x) (by repeat (first | exact pk_head _ _ | apply pk_tail)) T.ag45 rfl hld) ?_
      refine L1 (ps_move rfl).os ?_
      refine L1 (ps32_gtr x w rfl rfl).os ?_
      refine L1 (ps_assign rfl).os ?_
      refine LW.nil ?_
      repeat (first | refine CW.seq ?_ | refine PW.then_ ?_ | refine PW.then_to rfl ?_ | refine CW.block ?_ | refine CW.skip ?_ | refine CW.ret ?_ | refine PW.then_ret ?_ | refine PW.block_ret ?_ | refine Cut.ret ?_ | refine Rnd.ret ?_ | refine PW.block_normal ?_ | refine CW.exit ?_ | refine PW.then_exit ?_ | refine PW.block_hit ?_ | refine PW.block_miss rfl ?_ | refine Cut.exit ?_ | refine Rnd.exit ?_)
      exact Fin.ret1 (v := .bool (decide (w < x))) rfl [] rfl ⟨by rw [hsn], rfl⟩ (by repeat (first | exact Ent.refl _ | (apply Ent.cons; · repeat (first | exact pk_head _ _ | apply pk_tail)) | apply Ent.skip))
    · rw [if_neg hne] at hsn
      refine CW.region ?_
      refine L1 (ps_move rfl).os ?_
      refine L1 (ps_to (u := .pointer (some ⟨b7, 0 + ((j : Nat) : Int).toNat * 1, none⟩)) hia (ps_ia_arr T.un56 T.sz45 rfl rfl (by omega) (by omega))).os ?_
      refine L1 (os_load1 (b := b7) (v := w32 x) (by repeat (first | exact pk_head _ _ | apply pk_tail)) T.ag45 rfl hld) ?_
      refine L1 (ps_move rfl).os ?_
      refine L1 (ps_f (ps32_t_neq x w rfl rfl) hne).os ?_
      refine LW.nil ?_
      repeat (first | refine CW.seq ?_ | refine PW.then_ ?_ | refine PW.then_to rfl ?_ | refine CW.block ?_ | refine CW.skip ?_ | refine CW.ret ?_ | refine PW.then_ret ?_ | refine PW.block_ret ?_ | refine Cut.ret ?_ | refine Rnd.ret ?_ | refine PW.block_normal ?_ | refine CW.exit ?_ | refine PW.then_exit ?_ | refine PW.block_hit ?_ | refine PW.block_miss rfl ?_ | refine Cut.exit ?_ | refine Rnd.exit ?_)
      refine CW.cond_false rfl ?_
      repeat (first | refine CW.seq ?_ | refine PW.then_ ?_ | refine PW.then_to rfl ?_ | refine CW.block ?_ | refine CW.skip ?_ | refine CW.ret ?_ | refine PW.then_ret ?_ | refine PW.block_ret ?_ | refine Cut.ret ?_ | refine Rnd.ret ?_ | refine PW.block_normal ?_ | refine CW.exit ?_ | refine PW.then_exit ?_ | refine PW.block_hit ?_ | refine PW.block_miss rfl ?_ | refine Cut.exit ?_ | refine Rnd.exit ?_)
      refine CW.region ?_
      refine L1 (ps_move rfl).os ?_
      refine L1 (ps_to (u := .int .i64 (3 - ((i + 1 : Nat) : Int))) (congrArg (Value.int .i64) (show (3 : Int) - (i : Int) - 1 = 3 - ((i + 1 : Nat) : Int) by omega)) (ps_sub_i64 rfl rfl (by omega) (by omega))).os ?_
      refine L1 (ps_assign rfl).os ?_
      refine LW.nil ?_
      exact Meet.round (4 - (i + 1)) (i + 1) (by omega) ⟨hlt, rfl, hsn⟩ (by repeat (first | (with_reducible exact Ag.refl _ _) | (with_reducible apply Ag.pu0) | ((with_reducible refine Ag.pu _ ?_ ?_); · exact rfl) | ((with_reducible refine Ag.mix ?_ ?_); · exact rfl) | ((with_reducible refine Ag.pus ?_ ?_); · exact rfl))) ⟨rfl, trivial⟩ (by repeat (first | exact Ent.refl _ | (apply Ent.cons; · repeat (first | exact pk_head _ _ | apply pk_tail)) | apply Ent.skip))
  have hi4 : i = 4 := by omega
  subst hi4
  refine CW.region ?_
  refine L1 (ps_move rfl).os ?_
  refine L1 (ps_f (ps_geq rfl rfl) (by omega)).os ?_
  refine LW.nil ?_
  repeat (first | refine CW.seq ?_ | refine PW.then_ ?_ | refine PW.then_to rfl ?_ | refine CW.block ?_ | refine CW.skip ?_ | refine CW.ret ?_ | refine PW.then_ret ?_ | refine PW.block_ret ?_ | refine Cut.ret ?_ | refine Rnd.ret ?_ | refine PW.block_normal ?_ | refine CW.exit ?_ | refine PW.then_exit ?_ | refine PW.block_hit ?_ | refine PW.block_miss rfl ?_ | refine Cut.exit ?_ | refine Rnd.exit ?_)
  refine CW.cond_false rfl ?_
  repeat (first | refine CW.seq ?_ | refine PW.then_ ?_ | refine PW.then_to rfl ?_ | refine CW.block ?_ | refine CW.skip ?_ | refine CW.ret ?_ | refine PW.then_ret ?_ | refine PW.block_ret ?_ | refine Cut.ret ?_ | refine Rnd.ret ?_ | refine PW.block_normal ?_ | refine CW.exit ?_ | refine PW.then_exit ?_ | refine PW.block_hit ?_ | refine PW.block_miss rfl ?_ | refine Cut.exit ?_ | refine Rnd.exit ?_)
  refine CW.region ?_
  refine L1 (ps_assign rfl).os ?_
  refine LW.nil ?_
  repeat (first | refine CW.seq ?_ | refine PW.then_ ?_ | refine PW.then_to rfl ?_ | refine CW.block ?_ | refine CW.skip ?_ | refine CW.ret ?_ | refine PW.then_ret ?_ | refine PW.block_ret ?_ | refine Cut.ret ?_ | refine Rnd.ret ?_ | refine PW.block_normal ?_ | refine CW.exit ?_ | refine PW.then_exit ?_ | refine PW.block_hit ?_ | refine PW.block_miss rfl ?_ | refine Cut.exit ?_ | refine Rnd.exit ?_)
  exact Fin.ret1 (v := .bool false) rfl [] rfl ⟨by rw [hcm]; rfl, rfl⟩ (by repeat (first | exact Ent.refl _ | (apply Ent.cons; · repeat (first | exact pk_head _ _ | apply pk_tail)) | apply Ent.skip))
end Go.Proofs.YtcfipblnaifbhaaDoor
