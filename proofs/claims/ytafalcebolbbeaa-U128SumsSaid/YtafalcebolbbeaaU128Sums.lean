/- The law U128Sums: sums are true, byte by byte, or told to be none: it answers true for every list of numbers (no condition). -/
import Derived.Test.YtafalcebolbbeaaUxDig
import Derived.Test.YtafalcebolbbeaaRows
namespace Go.Proofs.Ytafalcebolbbeaa
open Go Go.SL
set_option linter.unusedVariables false
set_option linter.unusedSimpArgs false

/-- What is carried into the i-th byte. -/
def cy (a b i : Nat) : Nat := (a % 256 ^ i + b % 256 ^ i) / 256 ^ i
theorem cy_zero (a b : Nat) : cy a b 0 = 0 := by simp [cy, Nat.mod_one]
theorem cy_le (a b i : Nat) : cy a b i ≤ 1 := by
  have hp : 0 < 256 ^ i := Nat.pow_pos (by decide)
  have h1 := Nat.mod_lt a hp
  have h2 := Nat.mod_lt b hp
  unfold cy
  have : (a % 256 ^ i + b % 256 ^ i) / 256 ^ i < 2 := (Nat.div_lt_iff_lt_mul hp).2 (by omega)
  omega
theorem cy_step (a b i : Nat) : (dgb a i + (dgb b i + cy a b i)) % 256 = dgb (a + b) i ∧ (dgb a i + (dgb b i + cy a b i)) / 256 = cy a b (i + 1) := by
  unfold dgb cy
  have hp : 0 < 256 ^ i := Nat.pow_pos (by decide)
  rw [Nat.pow_succ]
  generalize 256 ^ i = p at hp
  have h1 := Nat.div_add_mod a p
  have h2 := Nat.div_add_mod b p
  have h3 : (a + b) / p = a / p + (b / p + (a % p + b % p) / p) := by
    have : a + b = (a % p + b % p) + p * (a / p + b / p) := by rw [Nat.mul_add]; omega
    rw [this, Nat.add_mul_div_left _ _ hp]; omega
  have h4 : (a % (p * 256) + b % (p * 256)) / (p * 256) = (a / p % 256 + (b / p % 256 + (a % p + b % p) / p)) / 256 := by
    rw [Nat.mod_mul, Nat.mod_mul, ← Nat.div_div_eq_div_mul]
    have : a % p + p * (a / p % 256) + (b % p + p * (b / p % 256)) = (a % p + b % p) + p * (a / p % 256 + b / p % 256) := by rw [Nat.mul_add]; omega
    rw [this, Nat.add_mul_div_left _ _ hp]
    congr 1; omega
  rw [h3, h4]
  refine ⟨?_, rfl⟩
  omega
theorem dgs_eq (x i : Nat) (hx : x < M128) (hi : i < 17) : dgs x i = dgb x i := by
  unfold dgs
  by_cases h : i < 16
  · rw [if_pos h]
  · rw [if_neg h]
    have : i = 16 := by omega
    subst this
    unfold dgb
    rw [Nat.div_eq_of_lt (Nat.lt_of_lt_of_eq hx (by decide +kernel))]
def sumi (a b i : Nat) : Nat → Nat := fun j => if j < i then dgb (a + b) j else dgb a j
theorem top_lt (s : Nat) (h : s < 101 * M128) : (0 < dgb s 16) ↔ M128 ≤ s := by
  unfold dgb
  have e : (256 : Nat) ^ 16 = M128 := by decide +kernel
  rw [e]
  have hM : 0 < M128 := by decide +kernel
  generalize M128 = m at *
  have h1 : s / m < 101 := (Nat.div_lt_iff_lt_mul hM).2 h
  constructor
  · intro hd
    rcases Nat.lt_or_ge s m with h2 | h2
    · rw [Nat.div_eq_of_lt h2] at hd; exact absurd hd (by decide)
    · exact h2
  · intro h2
    have := (Nat.le_div_iff_mul_le hM (x := 1) (y := s)).2 (by omega)
    omega
theorem sum_lt (l : List Nat) (m k : Nat) (h : ∀ x ∈ l, x < m) (hk : l.length ≤ k) : l.sum ≤ k * m := by
  induction l generalizing k with
  | nil => simp
  | cons a l ih =>
    obtain ⟨j, rfl⟩ : ∃ j, k = j + 1 := ⟨k - 1, by simp at hk; omega⟩
    have h1 := ih j (fun x hx => h x (by simp [hx])) (by simpa using hk)
    have h2 := h a (by simp)
    rw [List.sum_cons, Nat.succ_mul]
    omega
theorem U128Sums_law (W : World) (v : Value) (l : List Nat) (hv : NumsR (bag (blks W)) v l) : LawOf Try.prog 3 [v] W := by
  obtain ⟨hr, hm⟩ := hv
  have hadd := Add_spec (bag (blks W)) v l hr hm
  obtain ⟨pv, cap, rfl, hcap1, hcap2, hpv⟩ := hr.len
  rw [show (List.map nc l).length = l.length from List.length_map ..] at *
  have hcapm : l.length < 9223372036854775808 := by unfold maxLen at hcap2; omega
  have hz : ∀ b : Nat, cb b 24 (List.replicate 17 (.int .i64 0)) = cb b 24 (icells (dgb 0)) := fun b => by
    congr 1
  refine FSpec.intro Try.func3 rfl 69 Try.ntmps3 (Nat.le_of_ble_eq_true rfl) fun w0 F => ?_
  show CW _ _ _ _ _ _ (_ :: F)
  repeat (first | refine CW.seq ?_ | refine PW.then_ ?_ | refine CW.block ?_ | refine CW.skip ?_ | refine CW.ret ?_ | refine PW.then_ret ?_ | refine PW.block_ret ?_ | refine Cut.ret ?_ | refine Rnd.ret ?_ | refine PW.block_normal ?_ | refine CW.exit ?_ | refine PW.then_exit ?_ | refine PW.block_hit ?_ | refine PW.block_miss rfl ?_ | refine Cut.exit ?_ | refine Rnd.exit ?_)
  refine CW.region ?_
  refine L1 (ps_assign rfl).os ?_
  refine LW.nil ?_
  repeat (first | refine CW.seq ?_ | refine PW.then_ ?_ | refine CW.block ?_ | refine CW.skip ?_ | refine CW.ret ?_ | refine PW.then_ret ?_ | refine PW.block_ret ?_ | refine Cut.ret ?_ | refine Rnd.ret ?_ | refine PW.block_normal ?_ | refine CW.exit ?_ | refine PW.then_exit ?_ | refine PW.block_hit ?_ | refine PW.block_miss rfl ?_ | refine Cut.exit ?_ | refine Rnd.exit ?_)
  refine CW.region ?_
  refine L1 (os_call0 fit_spec Try.func13 (by decide +kernel) rfl rfl) ?_
  refine L1 (ps_not rfl).os ?_
  refine LW.nil ?_
  repeat (first | refine CW.seq ?_ | refine PW.then_ ?_ | refine CW.block ?_ | refine CW.skip ?_ | refine CW.ret ?_ | refine PW.then_ret ?_ | refine PW.block_ret ?_ | refine Cut.ret ?_ | refine Rnd.ret ?_ | refine PW.block_normal ?_ | refine CW.exit ?_ | refine PW.then_exit ?_ | refine PW.block_hit ?_ | refine PW.block_miss rfl ?_ | refine Cut.exit ?_ | refine Rnd.exit ?_)
  refine CW.cond_false rfl ?_
  repeat (first | refine CW.seq ?_ | refine PW.then_ ?_ | refine CW.block ?_ | refine CW.skip ?_ | refine CW.ret ?_ | refine PW.then_ret ?_ | refine PW.block_ret ?_ | refine Cut.ret ?_ | refine Rnd.ret ?_ | refine PW.block_normal ?_ | refine CW.exit ?_ | refine PW.then_exit ?_ | refine PW.block_hit ?_ | refine PW.block_miss rfl ?_ | refine Cut.exit ?_ | refine Rnd.exit ?_)
  by_cases hlen : (100 : Int) < l.length
  · refine CW.region ?_
    refine L1 (ps_move rfl).os ?_
    refine L1 (ps_len_sl T.un22 rfl).os ?_
    refine L1 (ps_t (ps_gtr rfl rfl) (hlen)).os ?_
    refine LW.nil ?_
    repeat (first | refine CW.seq ?_ | refine PW.then_ ?_ | refine CW.block ?_ | refine CW.skip ?_ | refine CW.ret ?_ | refine PW.then_ret ?_ | refine PW.block_ret ?_ | refine Cut.ret ?_ | refine Rnd.ret ?_ | refine PW.block_normal ?_ | refine CW.exit ?_ | refine PW.then_exit ?_ | refine PW.block_hit ?_ | refine PW.block_miss rfl ?_ | refine Cut.exit ?_ | refine Rnd.exit ?_)
    refine CW.cond_true rfl ?_
    repeat (first | refine CW.seq ?_ | refine PW.then_ ?_ | refine CW.block ?_ | refine CW.skip ?_ | refine CW.ret ?_ | refine PW.then_ret ?_ | refine PW.block_ret ?_ | refine Cut.ret ?_ | refine Rnd.ret ?_ | refine PW.block_normal ?_ | refine CW.exit ?_ | refine PW.then_exit ?_ | refine PW.block_hit ?_ | refine PW.block_miss rfl ?_ | refine Cut.exit ?_ | refine Rnd.exit ?_)
    refine CW.region ?_
    refine L1 (ps_assign rfl).os ?_
    refine LW.nil ?_
    repeat (first | refine CW.seq ?_ | refine PW.then_ ?_ | refine CW.block ?_ | refine CW.skip ?_ | refine CW.ret ?_ | refine PW.then_ret ?_ | refine PW.block_ret ?_ | refine Cut.ret ?_ | refine Rnd.ret ?_ | refine PW.block_normal ?_ | refine CW.exit ?_ | refine PW.then_exit ?_ | refine PW.block_hit ?_ | refine PW.block_miss rfl ?_ | refine Cut.exit ?_ | refine Rnd.exit ?_)
    exact Fin.ret1 (v := .bool true) rfl [bag (blks W)] rfl ⟨rfl, rfl⟩ (by repeat (first | exact Ent.refl _ | (apply Ent.cons; · repeat (first | exact pk_head _ _ | apply pk_tail)) | apply Ent.skip))
  have hsl : l.sum < 101 * M128 := by
    have := sum_lt l M128 100 hm (by omega)
    have hM : 0 < M128 := by decide +kernel
    omega
  refine CW.region ?_
  refine L1 (ps_move rfl).os ?_
  refine L1 (ps_len_sl T.un22 rfl).os ?_
  refine L1 (ps_f (ps_gtr rfl rfl) (hlen)).os ?_
  refine LW.nil ?_
  repeat (first | refine CW.seq ?_ | refine PW.then_ ?_ | refine CW.block ?_ | refine CW.skip ?_ | refine CW.ret ?_ | refine PW.then_ret ?_ | refine PW.block_ret ?_ | refine Cut.ret ?_ | refine Rnd.ret ?_ | refine PW.block_normal ?_ | refine CW.exit ?_ | refine PW.then_exit ?_ | refine PW.block_hit ?_ | refine PW.block_miss rfl ?_ | refine Cut.exit ?_ | refine Rnd.exit ?_)
  refine CW.cond_false rfl ?_
  repeat (first | refine CW.seq ?_ | refine PW.then_ ?_ | refine CW.block ?_ | refine CW.skip ?_ | refine CW.ret ?_ | refine PW.then_ret ?_ | refine PW.block_ret ?_ | refine Cut.ret ?_ | refine Rnd.ret ?_ | refine PW.block_normal ?_ | refine CW.exit ?_ | refine PW.then_exit ?_ | refine PW.block_hit ?_ | refine PW.block_miss rfl ?_ | refine Cut.exit ?_ | refine Rnd.exit ?_)
  refine CW.region ?_
  refine LE (os_alloc T.ti24) ?_
  rintro _ _ ⟨b3, rfl, rfl⟩
  refine LW.nil ?_
  repeat (first | refine CW.seq ?_ | refine PW.then_ ?_ | refine CW.block ?_ | refine CW.skip ?_ | refine CW.ret ?_ | refine PW.then_ret ?_ | refine PW.block_ret ?_ | refine Cut.ret ?_ | refine Rnd.ret ?_ | refine PW.block_normal ?_ | refine CW.exit ?_ | refine PW.then_exit ?_ | refine PW.block_hit ?_ | refine PW.block_miss rfl ?_ | refine Cut.exit ?_ | refine Rnd.exit ?_)
  refine CW.region ?_
  refine L1 (ps_move rfl).os ?_
  refine L1 (ps_len_sl T.un22 rfl).os ?_
  refine L1 (ps_move rfl).os ?_
  refine LW.nil ?_
  repeat (first | refine CW.seq ?_ | refine PW.then_ ?_ | refine CW.block ?_ | refine CW.skip ?_ | refine CW.ret ?_ | refine PW.then_ret ?_ | refine PW.block_ret ?_ | refine Cut.ret ?_ | refine Rnd.ret ?_ | refine PW.block_normal ?_ | refine CW.exit ?_ | refine PW.then_exit ?_ | refine PW.block_hit ?_ | refine PW.block_miss rfl ?_ | refine Cut.exit ?_ | refine Rnd.exit ?_)
  refine CW.loopM (α := Nat) [5, 6, 7, 8, 18, 19, 20, 21, 22, 23, 24, 25, 26, 27, 28, 29, 30, 31, 32, 33, 34, 35, 36, 37, 38, 39, 40, 41, 42, 43, 44, 45, 46] (fun k i => i ≤ l.length ∧ k = l.length - i) (fun i => [(18, .int .i64 i)])
    (fun i => cb b3 24 (icells (dgb (l.take i).sum)) :: bag (blks W) :: F) l.length 0 ⟨Nat.zero_le _, rfl⟩ ⟨rfl, trivial⟩ (by rw [show (l.take 0).sum = 0 from rfl, ← hz]; exact (by repeat (first | exact Ent.refl _ | (apply Ent.cons; · repeat (first | exact pk_head _ _ | apply pk_tail)) | apply Ent.skip))) ?_
  rintro k i g ⟨hi, hk⟩
  repeat (first | refine CW.seq ?_ | refine PW.then_ ?_ | refine CW.block ?_ | refine CW.skip ?_ | refine CW.ret ?_ | refine PW.then_ret ?_ | refine PW.block_ret ?_ | refine Cut.ret ?_ | refine Rnd.ret ?_ | refine PW.block_normal ?_ | refine CW.exit ?_ | refine PW.then_exit ?_ | refine PW.block_hit ?_ | refine PW.block_miss rfl ?_ | refine Cut.exit ?_ | refine Rnd.exit ?_)
  by_cases hlt : i < l.length
  · have hsx := sum_take_succ hlt
    have hx := hm l[i] (List.getElem_mem hlt)
    obtain ⟨vb, vo, rfl⟩ := hpv (fun h => by have := congrArg List.length h; simp at this; subst this; exact absurd hlt (Nat.not_lt_zero _))
    have hsrc := fun As Bs (hp : List.Perm As (bag (blks W) :: Bs)) => hr.src (i := i) (by simpa using hlt) hp
    simp only [List.getElem_map] at hsrc
    generalize l[i] = x at hsx hx hsrc
    obtain ⟨S, hS⟩ : ∃ S, (l.take i).sum = S := ⟨_, rfl⟩
    rw [hS] at hsx ⊢
    refine CW.region ?_
    refine L1 (ps_t (ps_lss rfl rfl) (by omega)).os ?_
    refine LW.nil ?_
    repeat (first | refine CW.seq ?_ | refine PW.then_ ?_ | refine CW.block ?_ | refine CW.skip ?_ | refine CW.ret ?_ | refine PW.then_ret ?_ | refine PW.block_ret ?_ | refine Cut.ret ?_ | refine Rnd.ret ?_ | refine PW.block_normal ?_ | refine CW.exit ?_ | refine PW.then_exit ?_ | refine PW.block_hit ?_ | refine PW.block_miss rfl ?_ | refine Cut.exit ?_ | refine Rnd.exit ?_)
    refine CW.cond_true rfl ?_
    repeat (first | refine CW.seq ?_ | refine PW.then_ ?_ | refine CW.block ?_ | refine CW.skip ?_ | refine CW.ret ?_ | refine PW.then_ret ?_ | refine PW.block_ret ?_ | refine Cut.ret ?_ | refine Rnd.ret ?_ | refine PW.block_normal ?_ | refine CW.exit ?_ | refine PW.then_exit ?_ | refine PW.block_hit ?_ | refine PW.block_miss rfl ?_ | refine Cut.exit ?_ | refine Rnd.exit ?_)
    refine CW.region ?_
    refine L1 (ps_ia_slice T.un22 T.sz27 rfl rfl (by omega) (by omega)).os ?_
    refine L1 (os_loadS (vs := nc x) (hsrc _ _ (by repeat (first | exact pk_head _ _ | apply pk_tail))) (by simp [nc]) T.ag27 (by exact T.sz27) rfl) ?_
    refine LE (os_alloc T.ti27) ?_
    rintro _ _ ⟨b5, rfl, rfl⟩
    refine L1 (os_storeAll (b := b5) (vs := nc x) (by repeat (first | exact pk_head _ _ | apply pk_tail)) (by exact T.sz27) rfl rfl (nc_one x) (by rfl)) ?_
    refine LW.nil ?_
    repeat (first | refine CW.seq ?_ | refine PW.then_ ?_ | refine CW.block ?_ | refine CW.skip ?_ | refine CW.ret ?_ | refine PW.then_ret ?_ | refine PW.block_ret ?_ | refine Cut.ret ?_ | refine Rnd.ret ?_ | refine PW.block_normal ?_ | refine CW.exit ?_ | refine PW.then_exit ?_ | refine PW.block_hit ?_ | refine PW.block_miss rfl ?_ | refine Cut.exit ?_ | refine Rnd.exit ?_)
    refine CW.region ?_
    refine L1 (ps_assign rfl).os ?_
    refine LW.nil ?_
    repeat (first | refine CW.seq ?_ | refine PW.then_ ?_ | refine CW.block ?_ | refine CW.skip ?_ | refine CW.ret ?_ | refine PW.then_ret ?_ | refine PW.block_ret ?_ | refine Cut.ret ?_ | refine Rnd.ret ?_ | refine PW.block_normal ?_ | refine CW.exit ?_ | refine PW.then_exit ?_ | refine PW.block_hit ?_ | refine PW.block_miss rfl ?_ | refine Cut.exit ?_ | refine Rnd.exit ?_)
    refine CW.region ?_
    refine L1 (os_loadAll (by repeat (first | exact pk_head _ _ | apply pk_tail)) T.ag27 (by exact T.sz27) rfl) ?_
    refine L1 (os_call0 (digits_spec x hx) Try.func14 (by decide +kernel) rfl rfl) ?_
    refine L1 (ps_move rfl).os ?_
    refine LW.nil ?_
    repeat (first | refine CW.seq ?_ | refine PW.then_ ?_ | refine CW.block ?_ | refine CW.skip ?_ | refine CW.ret ?_ | refine PW.then_ret ?_ | refine PW.block_ret ?_ | refine Cut.ret ?_ | refine Rnd.ret ?_ | refine PW.block_normal ?_ | refine CW.exit ?_ | refine PW.then_exit ?_ | refine PW.block_hit ?_ | refine PW.block_miss rfl ?_ | refine Cut.exit ?_ | refine Rnd.exit ?_)
    refine CW.loopM (α := Nat × Nat) [6, 7, 8, 24, 25, 26, 27, 28, 29, 30, 31, 32, 33, 34, 35, 36, 37, 38, 39, 40, 41, 42, 43, 44, 45] (fun k s => s.1 ≤ 17 ∧ k = 17 - s.1 ∧ s.2 = cy S x s.1) (fun s => [(24, .int .i64 s.1), (6, .int .i64 s.2)])
      (fun s => cb b3 24 (icells (sumi S x s.1)) :: bag (blks W) :: F) 17 (0, 0) ⟨Nat.zero_le _, rfl, (cy_zero S x).symm⟩ ⟨rfl, rfl, trivial⟩ (by repeat (first | exact Ent.refl _ | (apply Ent.cons; · repeat (first | exact pk_head _ _ | apply pk_tail)) | apply Ent.skip)) ?_
    rintro k' ⟨j, c⟩ g' ⟨hj, hk', hc⟩
    dsimp only at hj hk' hc ⊢
    repeat (first | refine CW.seq ?_ | refine PW.then_ ?_ | refine CW.block ?_ | refine CW.skip ?_ | refine CW.ret ?_ | refine PW.then_ret ?_ | refine PW.block_ret ?_ | refine Cut.ret ?_ | refine Rnd.ret ?_ | refine PW.block_normal ?_ | refine CW.exit ?_ | refine PW.then_exit ?_ | refine PW.block_hit ?_ | refine PW.block_miss rfl ?_ | refine Cut.exit ?_ | refine Rnd.exit ?_)
    by_cases hjl : j < 17
    · obtain ⟨st1, st2⟩ := cy_step S x j
      rw [← hc] at st1 st2
      have hcl := cy_le S x j
      rw [← hc] at hcl
      have l1 := dgb_lt S j
      have l2 := dgb_lt x j
      have g1 : (icells (dgs x))[((j : Int)).toNat]? = some (.int .i64 ((dgb x j : Nat) : Int)) := by
        rw [Int.toNat_natCast, icells_get _ _ hjl, dgs_eq x j hx hjl]
      have g2 : (icells (sumi S x j))[0 + j * 1]? = some (.int .i64 ((dgb S j : Nat) : Int)) := by
        rw [show 0 + j * 1 = j by omega, icells_get _ _ hjl]
        unfold sumi
        rw [if_neg (Nat.lt_irrefl j)]
      obtain ⟨t, ht⟩ : ∃ t, t = dgb S j + (dgb x j + c) := ⟨_, rfl⟩
      have htl : t < 1024 := by omega
      rw [← ht] at st1 st2
      have g3 : ((icells (sumi S x j)).set (0 + j * 1) (.int .i64 (t : Int)))[0 + j * 1]? = some (.int .i64 (t : Int)) := by
        rw [List.getElem?_set_self (by rw [icells_len]; omega)]
      have g4 : ((icells (sumi S x j)).set (0 + j * 1) (.int .i64 (t : Int))).set (0 + j * 1) (.int .i64 ((dgb (S + x) j : Nat) : Int)) = icells (sumi S x (j + 1)) := by
        rw [List.set_set, show 0 + j * 1 = j by omega, icells_set _ _ _ hjl, icells_inj]
        intro i' hi'
        unfold sumi
        by_cases h1 : i' = j
        · subst h1; rw [if_pos rfl, if_pos (by omega)]
        · rw [if_neg h1]
          by_cases h2 : i' < j
          · rw [if_pos h2, if_pos (by omega)]
          · rw [if_neg h2, if_neg (by omega)]
      have et : ((dgb S j : Nat) : Int) + (((dgb x j : Nat) : Int) + (c : Int)) = (t : Int) := by rw [ht]; rfl
      have e8 : ((t / 2 ^ 8 : Nat) : Int) = ((cy S x (j + 1) : Nat) : Int) := congrArg _ st2
      have e9 : ((t : Int) % ((2 ^ 8 : Nat) : Int)) = ((dgb (S + x) j : Nat) : Int) := by rw [← st1]; rfl
      have len3 : 0 + j * 1 < (icells (sumi S x j)).length := by rw [icells_len]; omega
      have len4 : 0 + j * 1 < ((icells (sumi S x j)).set (0 + j * 1) (.int .i64 (t : Int))).length := by rw [List.length_set]; exact len3
      refine CW.region ?_
      refine L1 (ps_t (ps_lss rfl rfl) (by omega)).os ?_
      refine LW.nil ?_
      repeat (first | refine CW.seq ?_ | refine PW.then_ ?_ | refine CW.block ?_ | refine CW.skip ?_ | refine CW.ret ?_ | refine PW.then_ret ?_ | refine PW.block_ret ?_ | refine Cut.ret ?_ | refine Rnd.ret ?_ | refine PW.block_normal ?_ | refine CW.exit ?_ | refine PW.then_exit ?_ | refine PW.block_hit ?_ | refine PW.block_miss rfl ?_ | refine Cut.exit ?_ | refine Rnd.exit ?_)
      refine CW.cond_true rfl ?_
      repeat (first | refine CW.seq ?_ | refine PW.then_ ?_ | refine CW.block ?_ | refine CW.skip ?_ | refine CW.ret ?_ | refine PW.then_ret ?_ | refine PW.block_ret ?_ | refine Cut.ret ?_ | refine Rnd.ret ?_ | refine PW.block_normal ?_ | refine CW.exit ?_ | refine PW.then_exit ?_ | refine PW.block_hit ?_ | refine PW.block_miss rfl ?_ | refine Cut.exit ?_ | refine Rnd.exit ?_)
      refine CW.region ?_
      refine L1 (ps_move rfl).os ?_
      refine L1 (ps_index1 T.un24 T.sz3 T.ag3 rfl rfl (by omega) (by omega) g1).os ?_
      refine L1 (ps_assign rfl).os ?_
      refine L1 (ps_assign rfl).os ?_
      refine LW.nil ?_
      repeat (first | refine CW.seq ?_ | refine PW.then_ ?_ | refine CW.block ?_ | refine CW.skip ?_ | refine CW.ret ?_ | refine PW.then_ret ?_ | refine PW.block_ret ?_ | refine Cut.ret ?_ | refine Rnd.ret ?_ | refine PW.block_normal ?_ | refine CW.exit ?_ | refine PW.then_exit ?_ | refine PW.block_hit ?_ | refine PW.block_miss rfl ?_ | refine Cut.exit ?_ | refine Rnd.exit ?_)
      refine CW.region ?_
      refine L1 (ps_move rfl).os ?_
      refine L1 (ps_ia_arr T.un24 T.sz3 rfl rfl (by omega) (by omega)).os ?_
      refine L1 (os_load1 (b := b3) (by repeat (first | exact pk_head _ _ | apply pk_tail)) T.ag3 rfl g2) ?_
      refine L1 (ps_move rfl).os ?_
      refine L1 (ps_move rfl).os ?_
      refine L1 (ps_add_i64 rfl rfl (by omega) (by omega)).os ?_
      refine L1 (ps_to (congrArg (Value.int .i64) et) (ps_add_i64 rfl rfl (by omega) (by omega))).os ?_
      refine L1 (ps_ia_arr T.un24 T.sz3 rfl rfl (by omega) (by omega)).os ?_
      refine L1 (os_store1 (b := b3) (by repeat (first | exact pk_head _ _ | apply pk_tail)) T.sz3 rfl rfl (by rfl) len3) ?_
      refine LW.nil ?_
      repeat (first | refine CW.seq ?_ | refine PW.then_ ?_ | refine CW.block ?_ | refine CW.skip ?_ | refine CW.ret ?_ | refine PW.then_ret ?_ | refine PW.block_ret ?_ | refine Cut.ret ?_ | refine Rnd.ret ?_ | refine PW.block_normal ?_ | refine CW.exit ?_ | refine PW.then_exit ?_ | refine PW.block_hit ?_ | refine PW.block_miss rfl ?_ | refine Cut.exit ?_ | refine Rnd.exit ?_)
      refine CW.region ?_
      refine L1 (ps_move rfl).os ?_
      refine L1 (ps_ia_arr T.un24 T.sz3 rfl rfl (by omega) (by omega)).os ?_
      refine L1 (os_load1 (b := b3) (by repeat (first | exact pk_head _ _ | apply pk_tail)) T.ag3 rfl g3) ?_
      refine L1 (ps_to (congrArg (Value.int .i64) e8) (ps_shrN t 8 rfl rfl rfl (by decide))).os ?_
      refine L1 (ps_assign rfl).os ?_
      refine LW.nil ?_
      repeat (first | refine CW.seq ?_ | refine PW.then_ ?_ | refine CW.block ?_ | refine CW.skip ?_ | refine CW.ret ?_ | refine PW.then_ret ?_ | refine PW.block_ret ?_ | refine Cut.ret ?_ | refine Rnd.ret ?_ | refine PW.block_normal ?_ | refine CW.exit ?_ | refine PW.then_exit ?_ | refine PW.block_hit ?_ | refine PW.block_miss rfl ?_ | refine Cut.exit ?_ | refine Rnd.exit ?_)
      refine CW.region ?_
      refine L1 (ps_move rfl).os ?_
      refine L1 (ps_ia_arr T.un24 T.sz3 rfl rfl (by omega) (by omega)).os ?_
      refine L1 (os_load1 (b := b3) (by repeat (first | exact pk_head _ _ | apply pk_tail)) T.ag3 rfl g3) ?_
      refine L1 (ps_to (congrArg (Value.int .i64) e9) (ps_mask_i64 (m := 8) rfl rfl rfl (by decide))).os ?_
      refine L1 (ps_ia_arr T.un24 T.sz3 rfl rfl (by omega) (by omega)).os ?_
      refine L1 (os_cb g4 <| os_store1 (b := b3) (by repeat (first | exact pk_head _ _ | apply pk_tail)) T.sz3 rfl rfl (by rfl) len4) ?_
      refine LW.nil ?_
      repeat (first | refine CW.seq ?_ | refine PW.then_ ?_ | refine CW.block ?_ | refine CW.skip ?_ | refine CW.ret ?_ | refine PW.then_ret ?_ | refine PW.block_ret ?_ | refine Cut.ret ?_ | refine Rnd.ret ?_ | refine PW.block_normal ?_ | refine CW.exit ?_ | refine PW.then_exit ?_ | refine PW.block_hit ?_ | refine PW.block_miss rfl ?_ | refine Cut.exit ?_ | refine Rnd.exit ?_)
      refine CW.region ?_
      refine L1 (ps_add_i64 rfl rfl (by omega) (by omega)).os ?_
      refine L1 (ps_move rfl).os ?_
      refine LW.nil ?_
      exact Meet.round (17 - (j + 1)) (j + 1, cy S x (j + 1)) (by omega) ⟨hjl, rfl, rfl⟩ (by repeat (first | (with_reducible exact Ag.refl _ _) | (with_reducible apply Ag.pu0) | ((with_reducible refine Ag.pu _ ?_ ?_); · exact rfl) | ((with_reducible refine Ag.mix ?_ ?_); · exact rfl) | ((with_reducible refine Ag.pus ?_ ?_); · exact rfl))) ⟨rfl, rfl, trivial⟩ (by repeat (first | exact Ent.refl _ | (apply Ent.cons; · repeat (first | exact pk_head _ _ | apply pk_tail)) | apply Ent.skip))
    · have hj17 : j = 17 := by omega
      subst hj17
      have hall : icells (sumi S x 17) = icells (dgb (S + x)) := by
        rw [icells_inj]
        intro i' hi'
        unfold sumi
        rw [if_pos hi']
      rw [hall]
      refine CW.region ?_
      refine L1 (ps_f (ps_lss rfl rfl) (by decide)).os ?_
      refine LW.nil ?_
      repeat (first | refine CW.seq ?_ | refine PW.then_ ?_ | refine CW.block ?_ | refine CW.skip ?_ | refine CW.ret ?_ | refine PW.then_ret ?_ | refine PW.block_ret ?_ | refine Cut.ret ?_ | refine Rnd.ret ?_ | refine PW.block_normal ?_ | refine CW.exit ?_ | refine PW.then_exit ?_ | refine PW.block_hit ?_ | refine PW.block_miss rfl ?_ | refine Cut.exit ?_ | refine Rnd.exit ?_)
      refine CW.cond_false rfl ?_
      repeat (first | refine CW.seq ?_ | refine PW.then_ ?_ | refine CW.block ?_ | refine CW.skip ?_ | refine CW.ret ?_ | refine PW.then_ret ?_ | refine PW.block_ret ?_ | refine Cut.ret ?_ | refine Rnd.ret ?_ | refine PW.block_normal ?_ | refine CW.exit ?_ | refine PW.then_exit ?_ | refine PW.block_hit ?_ | refine PW.block_miss rfl ?_ | refine Cut.exit ?_ | refine Rnd.exit ?_)
      refine CW.region ?_
      refine L1 (ps_add_i64 rfl rfl (by omega) (by omega)).os ?_
      refine L1 (ps_move rfl).os ?_
      refine LW.nil ?_
      exact Meet.round (l.length - (i + 1)) (i + 1) (by omega) ⟨hlt, rfl⟩ (by repeat (first | (with_reducible exact Ag.refl _ _) | (with_reducible apply Ag.pu0) | ((with_reducible refine Ag.pu _ ?_ ?_); · exact rfl) | ((with_reducible refine Ag.mix ?_ ?_); · exact rfl) | ((with_reducible refine Ag.pus ?_ ?_); · exact rfl))) ⟨rfl, trivial⟩ (by rw [hsx]; exact (by repeat (first | exact Ent.refl _ | (apply Ent.cons; · repeat (first | exact pk_head _ _ | apply pk_tail)) | apply Ent.skip)))
  · have hil : i = l.length := by omega
    subst hil
    rw [List.take_length]
    have htop := top_lt l.sum hsl
    have g5 : (icells (dgb l.sum))[0 + 16 * 1]? = some (.int .i64 ((dgb l.sum 16 : Nat) : Int)) := icells_get _ 16 (by decide)
    refine CW.region ?_
    refine L1 (ps_f (ps_lss rfl rfl) (by omega)).os ?_
    refine LW.nil ?_
    repeat (first | refine CW.seq ?_ | refine PW.then_ ?_ | refine CW.block ?_ | refine CW.skip ?_ | refine CW.ret ?_ | refine PW.then_ret ?_ | refine PW.block_ret ?_ | refine Cut.ret ?_ | refine Rnd.ret ?_ | refine PW.block_normal ?_ | refine CW.exit ?_ | refine PW.then_exit ?_ | refine PW.block_hit ?_ | refine PW.block_miss rfl ?_ | refine Cut.exit ?_ | refine Rnd.exit ?_)
    refine CW.cond_false rfl ?_
    repeat (first | refine CW.seq ?_ | refine PW.then_ ?_ | refine CW.block ?_ | refine CW.skip ?_ | refine CW.ret ?_ | refine PW.then_ret ?_ | refine PW.block_ret ?_ | refine Cut.ret ?_ | refine Rnd.ret ?_ | refine PW.block_normal ?_ | refine CW.exit ?_ | refine PW.then_exit ?_ | refine PW.block_hit ?_ | refine PW.block_miss rfl ?_ | refine Cut.exit ?_ | refine Rnd.exit ?_)
    by_cases hov : l.sum < M128
    · have hs : addN l = (l.sum, true) := by unfold addN; rw [if_pos hov]
      rw [hs] at hadd
      have hd := digits_spec l.sum hov
      have hall : icells (dgs l.sum) = icells (dgb l.sum) := by
        rw [icells_inj]
        exact fun i' hi' => dgs_eq _ _ hov hi'
      rw [hall] at hd
      have hkv := icells_kv (dgb l.sum)
      have hno : ¬ (0 : Int) < ((dgb l.sum 16 : Nat) : Int) := by omega
      have hsz : SZ Try.prog 24 (icells (dgb l.sum)).length := by rw [icells_len]; exact T.sz24
      generalize icells (dgb l.sum) = cs at *
      generalize dgb l.sum 16 = q at *
      refine CW.region ?_
      refine L1 (ps_move rfl).os ?_
      refine L1 (os_call1 hadd Try.func15 (by decide +kernel) rfl rfl (by repeat (first | exact pk_head _ _ | apply pk_tail))) ?_
      refine L1 (ps_move rfl).os ?_
      refine L1 (ps_extract rfl rfl).os ?_
      refine L1 (ps_extract rfl rfl).os ?_
      refine LE (os_alloc T.ti27) ?_
      rintro _ _ ⟨b9, rfl, rfl⟩
      refine L1 (os_storeAll (b := b9) (vs := nc l.sum) (by repeat (first | exact pk_head _ _ | apply pk_tail)) (by exact T.sz27) rfl rfl (nc_one _) (by rfl)) ?_
      refine L1 (ps_assign rfl).os ?_
      refine LW.nil ?_
      repeat (first | refine CW.seq ?_ | refine PW.then_ ?_ | refine CW.block ?_ | refine CW.skip ?_ | refine CW.ret ?_ | refine PW.then_ret ?_ | refine PW.block_ret ?_ | refine Cut.ret ?_ | refine Rnd.ret ?_ | refine PW.block_normal ?_ | refine CW.exit ?_ | refine PW.then_exit ?_ | refine PW.block_hit ?_ | refine PW.block_miss rfl ?_ | refine Cut.exit ?_ | refine Rnd.exit ?_)
      refine CW.region ?_
      refine L1 (ps_ia_arr T.un24 T.sz3 rfl rfl (by omega) (by omega)).os ?_
      refine L1 (os_load1 (b := b3) (by repeat (first | exact pk_head _ _ | apply pk_tail)) T.ag3 rfl g5) ?_
      refine L1 (ps_f (ps_gtr rfl rfl) (hno)).os ?_
      refine LW.nil ?_
      repeat (first | refine CW.seq ?_ | refine PW.then_ ?_ | refine CW.block ?_ | refine CW.skip ?_ | refine CW.ret ?_ | refine PW.then_ret ?_ | refine PW.block_ret ?_ | refine Cut.ret ?_ | refine Rnd.ret ?_ | refine PW.block_normal ?_ | refine CW.exit ?_ | refine PW.then_exit ?_ | refine PW.block_hit ?_ | refine PW.block_miss rfl ?_ | refine Cut.exit ?_ | refine Rnd.exit ?_)
      refine CW.cond_false rfl ?_
      repeat (first | refine CW.seq ?_ | refine PW.then_ ?_ | refine CW.block ?_ | refine CW.skip ?_ | refine CW.ret ?_ | refine PW.then_ret ?_ | refine PW.block_ret ?_ | refine Cut.ret ?_ | refine Rnd.ret ?_ | refine PW.block_normal ?_ | refine CW.exit ?_ | refine PW.then_exit ?_ | refine PW.block_hit ?_ | refine PW.block_miss rfl ?_ | refine Cut.exit ?_ | refine Rnd.exit ?_)
      refine CW.drawH [cb b9 27 (nc l.sum), cb b3 24 cs] [] T.mixed ?_
      refine H_take (i := 0) (some 62) rfl rfl (by kernel_rfl) (by kernel_rfl) (by kernel_rfl) rfl (ps_move rfl).pl (by kernel_rfl) (pkc (by repeat (first | exact pk_head _ _ | apply pk_tail)) (pkc (by repeat (first | exact pk_head _ _ | apply pk_tail)) (pkn _))) ?_
      refine H_take (i := 1) (some 63) rfl rfl (by kernel_rfl) (by kernel_rfl) (by kernel_rfl) rfl (ps_move rfl).pl (by kernel_rfl) (pkc (by repeat (first | exact pk_head _ _ | apply pk_tail)) (pkc (by repeat (first | exact pk_head _ _ | apply pk_tail)) (pkn _))) ?_
      refine H_take (i := 2) (some 64) rfl rfl (by kernel_rfl) (by kernel_rfl) (by kernel_rfl) rfl (pl_loadAll (by repeat (first | exact pk_head _ _ | apply pk_tail)) T.ag27 (by exact T.sz27) rfl) (by kernel_rfl) (pkc (by repeat (first | exact pk_head _ _ | apply pk_tail)) (pkc (by repeat (first | exact pk_head _ _ | apply pk_tail)) (pkn _))) ?_
      refine H_take (i := 4) (some 66) rfl rfl (by kernel_rfl) (by kernel_rfl) (by kernel_rfl) rfl (pl_loadAll (by repeat (first | exact pk_head _ _ | apply pk_tail)) T.ag24 hsz rfl) (by kernel_rfl) (pkc (by repeat (first | exact pk_head _ _ | apply pk_tail)) (pkc (by repeat (first | exact pk_head _ _ | apply pk_tail)) (pkn _))) ?_
      refine H_branch (rs := [3]) (by kernel_rfl) (by simp) ?_
      refine HR.cons1 (i := 3) (some 65) rfl rfl rfl (os_call0 hd Try.func14 (by decide +kernel) rfl rfl) (pkc (by repeat (first | exact pk_head _ _ | apply pk_tail)) (pkc (by repeat (first | exact pk_head _ _ | apply pk_tail)) (pkn _))) ?_ ?_
      · skip
        refine H_take (i := 5) (some 67) rfl rfl (by kernel_rfl) (by kernel_rfl) (by kernel_rfl) rfl (ps_agg_same T.eq24 rfl rfl hkv hkv rfl).pl (by kernel_rfl) (pkc (by repeat (first | exact pk_head _ _ | apply pk_tail)) (pkc (by repeat (first | exact pk_head _ _ | apply pk_tail)) (pkn _))) ?_
        refine H_take (i := 6) (some 68) rfl rfl (by kernel_rfl) (by kernel_rfl) (by kernel_rfl) rfl (ps_pick_t rfl rfl).pl (by kernel_rfl) (pkc (by repeat (first | exact pk_head _ _ | apply pk_tail)) (pkc (by repeat (first | exact pk_head _ _ | apply pk_tail)) (pkn _))) ?_
        refine H_take (i := 7) (some 2) rfl rfl (by kernel_rfl) (by kernel_rfl) (by kernel_rfl) rfl (ps_assign rfl).pl (by kernel_rfl) (pkc (by repeat (first | exact pk_head _ _ | apply pk_tail)) (pkc (by repeat (first | exact pk_head _ _ | apply pk_tail)) (pkn _))) ?_
        refine H_done (by kernel_rfl) ?_
        repeat (first | refine CW.seq ?_ | refine PW.then_ ?_ | refine CW.block ?_ | refine CW.skip ?_ | refine CW.ret ?_ | refine PW.then_ret ?_ | refine PW.block_ret ?_ | refine Cut.ret ?_ | refine Rnd.ret ?_ | refine PW.block_normal ?_ | refine CW.exit ?_ | refine PW.then_exit ?_ | refine PW.block_hit ?_ | refine PW.block_miss rfl ?_ | refine Cut.exit ?_ | refine Rnd.exit ?_)
        exact Fin.ret1 (v := .bool true) rfl [bag (blks W)] rfl ⟨rfl, rfl⟩ (by repeat (first | exact Ent.refl _ | (apply Ent.cons; · repeat (first | exact pk_head _ _ | apply pk_tail)) | apply Ent.skip))
      exact HR.nil
    · have hs : addN l = (0, false) := by unfold addN; rw [if_neg hov]
      rw [hs] at hadd
      have hyes : (0 : Int) < ((dgb l.sum 16 : Nat) : Int) := by omega
      generalize icells (dgb l.sum) = cs at *
      generalize dgb l.sum 16 = q at *
      refine CW.region ?_
      refine L1 (ps_move rfl).os ?_
      refine L1 (os_call1 hadd Try.func15 (by decide +kernel) rfl rfl (by repeat (first | exact pk_head _ _ | apply pk_tail))) ?_
      refine L1 (ps_move rfl).os ?_
      refine L1 (ps_extract rfl rfl).os ?_
      refine L1 (ps_extract rfl rfl).os ?_
      refine LE (os_alloc T.ti27) ?_
      rintro _ _ ⟨b9, rfl, rfl⟩
      refine L1 (os_storeAll (b := b9) (vs := nc 0) (by repeat (first | exact pk_head _ _ | apply pk_tail)) (by exact T.sz27) rfl rfl (nc_one _) (by rfl)) ?_
      refine L1 (ps_assign rfl).os ?_
      refine LW.nil ?_
      repeat (first | refine CW.seq ?_ | refine PW.then_ ?_ | refine CW.block ?_ | refine CW.skip ?_ | refine CW.ret ?_ | refine PW.then_ret ?_ | refine PW.block_ret ?_ | refine Cut.ret ?_ | refine Rnd.ret ?_ | refine PW.block_normal ?_ | refine CW.exit ?_ | refine PW.then_exit ?_ | refine PW.block_hit ?_ | refine PW.block_miss rfl ?_ | refine Cut.exit ?_ | refine Rnd.exit ?_)
      refine CW.region ?_
      refine L1 (ps_ia_arr T.un24 T.sz3 rfl rfl (by omega) (by omega)).os ?_
      refine L1 (os_load1 (b := b3) (by repeat (first | exact pk_head _ _ | apply pk_tail)) T.ag3 rfl g5) ?_
      refine L1 (ps_t (ps_gtr rfl rfl) (hyes)).os ?_
      refine LW.nil ?_
      repeat (first | refine CW.seq ?_ | refine PW.then_ ?_ | refine CW.block ?_ | refine CW.skip ?_ | refine CW.ret ?_ | refine PW.then_ret ?_ | refine PW.block_ret ?_ | refine Cut.ret ?_ | refine Rnd.ret ?_ | refine PW.block_normal ?_ | refine CW.exit ?_ | refine PW.then_exit ?_ | refine PW.block_hit ?_ | refine PW.block_miss rfl ?_ | refine Cut.exit ?_ | refine Rnd.exit ?_)
      refine CW.cond_true rfl ?_
      repeat (first | refine CW.seq ?_ | refine PW.then_ ?_ | refine CW.block ?_ | refine CW.skip ?_ | refine CW.ret ?_ | refine PW.then_ret ?_ | refine PW.block_ret ?_ | refine Cut.ret ?_ | refine Rnd.ret ?_ | refine PW.block_normal ?_ | refine CW.exit ?_ | refine PW.then_exit ?_ | refine PW.block_hit ?_ | refine PW.block_miss rfl ?_ | refine Cut.exit ?_ | refine Rnd.exit ?_)
      refine CW.region ?_
      refine L1 (ps_move rfl).os ?_
      refine L1 (ps_not rfl).os ?_
      refine L1 (ps_move rfl).os ?_
      refine LG1 ?_ (os_loadAll (by repeat (first | exact pk_head _ _ | apply pk_tail)) T.ag27 (by exact T.sz27) rfl) ?_
      · exact rfl
      refine LG1 ?_ (ps_build (by rfl) (T.bd27)).os ?_
      · exact rfl
      refine LG1 ?_ (ps_t (ps_num_eql 0 0 T.eq27 rfl rfl) rfl).os ?_
      · exact rfl
      refine L1 (ps_pick_t rfl rfl).os ?_
      refine L1 (ps_assign rfl).os ?_
      refine LW.nil ?_
      repeat (first | refine CW.seq ?_ | refine PW.then_ ?_ | refine CW.block ?_ | refine CW.skip ?_ | refine CW.ret ?_ | refine PW.then_ret ?_ | refine PW.block_ret ?_ | refine Cut.ret ?_ | refine Rnd.ret ?_ | refine PW.block_normal ?_ | refine CW.exit ?_ | refine PW.then_exit ?_ | refine PW.block_hit ?_ | refine PW.block_miss rfl ?_ | refine Cut.exit ?_ | refine Rnd.exit ?_)
      exact Fin.ret1 (v := .bool true) rfl [bag (blks W)] rfl ⟨rfl, rfl⟩ (by repeat (first | exact Ent.refl _ | (apply Ent.cons; · repeat (first | exact pk_head _ _ | apply pk_tail)) | apply Ent.skip))

namespace u128Sums
open Go.ChangeShapes Go.WideShapes Go.ChangeAt Go.RowKit
theorem own : ownKnob Try.prog.godebug = none := by kernel_rfl
theorem laidOut : laidOutB Try.prog = true := by kernel_rfl
set_option maxRecDepth 100000 in
theorem lifted (os : Os) (started : os.Started) (H : Type) (enc : TypeId × Value → H) :
    ReturnsInHanded {} Try.checked os 3 .any (Rows.u128SumsSpec.pre6 enc Try.prog Try.f3 Rows.u128SumsRow.domain false) (Rows.u128SumsSpec.post enc Try.prog Try.f3 false true false false) := by
  refine returnsInHanded_of_change (C := Try.checked) own started (by kernel_rfl) Try.func3
    (ChangeSpec.witness6 (enc := enc) (C := Try.checked) false ⟨#[], #[(Value.slice none 0 0)], []⟩ 8 (by kernel_rfl) (by kernel_rfl) (by kernel_rfl) (by kernel_rfl)) ?_
  intro W base args ds gs before hval0 hW hcnd _
  have hval : ∀ (j : Nat) t v, Try.f3.params[j]? = some t → args[j]? = some v → Value.okWide Try.prog W .any base t v := hval0
  have hW' := hW
  obtain ⟨p, q, hA0, hV, rfl, hfz, hnd⟩ := hW
  have hA : DataW.TrodAll enc Try.prog W 0 (fun _ => true) true Try.f3.params.toList args.toList ds p := hA0
  rw [Try.params3] at hA hval
  obtain ⟨v0, vs0, d0, ds0, p0, q0, hargs, rfl, rfl, h0, r0⟩ := trodAll_cons hA
  obtain ⟨rfl, rfl, rfl⟩ := trodAll_nil r0
  obtain rfl : args = #[v0] := by cases args; simp_all
  obtain ⟨rfl, rfl⟩ := trodVars_none hV
  obtain ⟨_, _, _, rfl⟩ := okWide_slice T.un22 (hval 0 22 v0 rfl rfl)
  obtain ⟨fu0, hf0⟩ := h0
  obtain ⟨a0, b0⟩ := open_SlapiNum hf0
  simp only [List.append_nil] at hW'
  refine (LawOf.calls (U128Sums_law W _ a0 b0)).mono fun e W' ⟨he, hb⟩ => ?_
  subst he
  exact ⟨_, rfl, law_post laidOut rfl (tb := 4) (by kernel_rfl) T.un4 (by intro t ht; rw [Try.params3] at ht; simp only [List.mem_cons, List.not_mem_nil, or_false] at ht; rcases ht with rfl <;> exact ⟨by kernel_rfl, by decide +kernel⟩) rfl hW' hb⟩
theorem holds : Rows.U128SumsSaid :=
  OpenClaim.holds_of_wide 3 Try.f3 rfl rfl rfl rfl rfl rfl rfl ⟨rfl, rfl, rfl, rfl, rfl⟩ rfl rfl rfl rfl rfl (by kernel_rfl) Try.func3 (by kernel_rfl)
    (of_decide_eq_true (by kernel_rfl)) (by unfold Func.isWrapper; rw [if_neg (of_decide_eq_false (by kernel_rfl))]; exact ⟨rfl, rfl⟩)
    (fun os started H enc _ => lifted os started H enc)
end u128Sums
end Go.Proofs.Ytafalcebolbbeaa
