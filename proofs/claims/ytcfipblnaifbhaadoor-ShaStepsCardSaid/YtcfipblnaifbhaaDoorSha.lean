/- SHA-256 of the program: each function's contract over a pure model of it. -/
import Derived.Test.YtcfipblnaifbhaaDoorTy
import Derived.Test.YtcfipblnaifbhaaDoorNum
import Derived.Test.YtcfipblnaifbhaaDoorLaw
import Derived.Test.YtcfipblnaifbhaaDoorU32
namespace Go.Proofs.YtcfipblnaifbhaaDoor
set_option linter.unusedVariables false
set_option linter.unusedSimpArgs false
open Go Go.SL

/-! ## the model -/
def rotr (x : UInt32) (n : Nat) : UInt32 := (x >>> UInt32.ofNat n) ||| (x <<< UInt32.ofNat (32 - n))
def roundsL : List UInt32 := [0x428a2f98, 0x71374491, 0xb5c0fbcf, 0xe9b5dba5, 0x3956c25b, 0x59f111f1, 0x923f82a4, 0xab1c5ed5, 0xd807aa98, 0x12835b01, 0x243185be, 0x550c7dc3, 0x72be5d74, 0x80deb1fe, 0x9bdc06a7, 0xc19bf174, 0xe49b69c1, 0xefbe4786, 0x0fc19dc6, 0x240ca1cc, 0x2de92c6f, 0x4a7484aa, 0x5cb0a9dc, 0x76f988da, 0x983e5152, 0xa831c66d, 0xb00327c8, 0xbf597fc7, 0xc6e00bf3, 0xd5a79147, 0x06ca6351, 0x14292967, 0x27b70a85, 0x2e1b2138, 0x4d2c6dfc, 0x53380d13, 0x650a7354, 0x766a0abb, 0x81c2c92e, 0x92722c85, 0xa2bfe8a1, 0xa81a664b, 0xc24b8b70, 0xc76c51a3, 0xd192e819, 0xd6990624, 0xf40e3585, 0x106aa070, 0x19a4c116, 0x1e376c08, 0x2748774c, 0x34b0bcb5, 0x391c0cb3, 0x4ed8aa4a, 0x5b9cca4f, 0x682e6ff3, 0x748f82ee, 0x78a5636f, 0x84c87814, 0x8cc70208, 0x90befffa, 0xa4506ceb, 0xbef9a3f7, 0xc67178f2]
def startL : List UInt32 := [0x6a09e667, 0xbb67ae85, 0x3c6ef372, 0xa54ff53a, 0x510e527f, 0x9b05688c, 0x1f83d9ab, 0x5be0cd19]
def wordIn (bs : List UInt8) : UInt32 := bs.foldl (fun a c => (a <<< UInt32.ofNat 8) ||| UInt32.ofNat c.toNat) 0
def w1 (bs : List UInt8) (i : Nat) : List UInt32 := ((List.range i).map fun k => wordIn ((bs.drop (4 * k)).take 4)) ++ List.replicate (64 - i) 0
def wNext (w : List UInt32) (i : Nat) : UInt32 :=
  w.getD (i - 16) 0 + (rotr (w.getD (i - 15) 0) 7 ^^^ rotr (w.getD (i - 15) 0) 18 ^^^ (w.getD (i - 15) 0 >>> UInt32.ofNat 3)) + w.getD (i - 7) 0 + (rotr (w.getD (i - 2) 0) 17 ^^^ rotr (w.getD (i - 2) 0) 19 ^^^ (w.getD (i - 2) 0 >>> UInt32.ofNat 10))
def w2 (bs : List UInt8) : Nat → List UInt32
  | 0 => w1 bs 16
  | k + 1 => (w2 bs k).set (16 + k) (wNext (w2 bs k) (16 + k))
def tOf (s : List UInt32) (k w : UInt32) : UInt32 := s.getD 7 0 + (rotr (s.getD 4 0) 6 ^^^ rotr (s.getD 4 0) 11 ^^^ rotr (s.getD 4 0) 25) + ((s.getD 4 0 &&& s.getD 5 0) ^^^ (~~~(s.getD 4 0) &&& s.getD 6 0)) + k + w
def uOf (s : List UInt32) : UInt32 := (rotr (s.getD 0 0) 2 ^^^ rotr (s.getD 0 0) 13 ^^^ rotr (s.getD 0 0) 22) + ((s.getD 0 0 &&& s.getD 1 0) ^^^ (s.getD 0 0 &&& s.getD 2 0) ^^^ (s.getD 1 0 &&& s.getD 2 0))
def rd1 (s : List UInt32) (k w : UInt32) : List UInt32 := [tOf s k w + uOf s, s.getD 0 0, s.getD 1 0, s.getD 2 0, s.getD 3 0 + tOf s k w, s.getD 4 0, s.getD 5 0, s.getD 6 0]
def rds (h : List UInt32) (w : List UInt32) : Nat → List UInt32
  | 0 => h
  | k + 1 => rd1 (rds h w k) (roundsL.getD k 0) (w.getD k 0)
def blockM (h : List UInt32) (bs : List UInt8) : List UInt32 := List.zipWith (· + ·) h (rds h (w2 bs 48) 64)
def padM (bs : List UInt8) : List UInt8 := bs ++ [0x80] ++ List.replicate ((119 - bs.length % 64) % 64) 0 ++ be 8 ((bs.length * 8 : Nat) : Int)
def hM (p : List UInt8) : Nat → List UInt32
  | 0 => startL
  | m + 1 => blockM (hM p m) ((p.drop (64 * m)).take 64)
def outM (h : List UInt32) : List UInt8 := (List.range 32).map fun i => UInt8.ofNat ((h.getD (i / 4) 0 >>> UInt32.ofNat (24 - 8 * (i % 4)))).toNat
def sumM (bs : List UInt8) : List UInt8 := outM (hM (padM bs) ((padM bs).length / 64))

/-! ## lengths -/
theorem w1_len (bs : List UInt8) (i : Nat) (h : i ≤ 64) : (w1 bs i).length = 64 := by simp [w1]; omega
theorem w2_len (bs : List UInt8) : ∀ k, (w2 bs k).length = 64
  | 0 => w1_len bs 16 (by decide)
  | k + 1 => by rw [w2, List.length_set, w2_len bs k]
theorem rds_len (h w : List UInt32) (hl : h.length = 8) : ∀ k, (rds h w k).length = 8
  | 0 => hl
  | k + 1 => rfl
theorem blockM_len (h : List UInt32) (bs : List UInt8) (hl : h.length = 8) : (blockM h bs).length = 8 := by
  rw [blockM, List.length_zipWith, rds_len _ _ hl, hl]; rfl
theorem hM_len (p : List UInt8) : ∀ m, (hM p m).length = 8
  | 0 => rfl
  | m + 1 => blockM_len _ _ (hM_len p m)
theorem outM_len (h : List UInt32) : (outM h).length = 32 := by simp [outM]
theorem sumM_len (bs : List UInt8) : (sumM bs).length = 32 := outM_len _
theorem wv_get {l : List UInt32} {i : Nat} (h : i < l.length) : (wv l)[i]? = some (w32 (l.getD i 0)) := by
  rw [wv, List.getElem?_map, List.getElem?_eq_getElem h, List.getD_eq_getElem?_getD, List.getElem?_eq_getElem h]; rfl
theorem wv_set (l : List UInt32) (i : Nat) (x : UInt32) : (wv l).set i (w32 x) = wv (l.set i x) := by
  rw [wv, wv, List.map_set]
theorem Src.get {As : List Asn} {b o : Nat} {vs : List Value} {v : Value} (h : Src As (some ⟨b, o, none⟩) vs) {i : Nat} (hv : vs[i]? = some v) : Src As (some ⟨b, o + i, none⟩) [v] := fun _ => by
  obtain ⟨a, h1, h2⟩ := h (fun h0 => by rw [h0] at hv; simp at hv)
  cases h1
  refine ⟨_, rfl, fun w0 w hw j u hj => ?_⟩
  cases j with
  | zero =>
    simp only [List.getElem?_cons_zero, Option.some.injEq] at hj
    subst hj
    have h3 := h2 w0 w hw i v hv
    rw [add_mk] at h3 ⊢
    simpa using h3
  | succ j => simp at hj

/-! ## turn -/
theorem turn_spec (x : UInt32) (k : Nat) (h0 : 0 < k) (h32 : k < 32) : FSpec Tryd.prog 19 [w32 x, .int .i64 k] [] (fun r As => r = w32 (rotr x k) ∧ As = []) := by
  refine FSpec.intro Tryd.func19 rfl 13 Tryd.ntmps19 (Nat.le_of_ble_eq_true rfl) fun w0 F => ?_
  show CW _ _ _ _ _ _ (F)
  repeat (first | refine CW.seq ?_ | refine PW.then_ ?_ | refine PW.then_to rfl ?_ | refine CW.block ?_ | refine CW.skip ?_ | refine CW.ret ?_ | refine PW.then_ret ?_ | refine PW.block_ret ?_ | refine Cut.ret ?_ | refine Rnd.ret ?_ | refine PW.block_normal ?_ | refine CW.exit ?_ | refine PW.then_exit ?_ | refine PW.block_hit ?_ | refine PW.block_miss rfl ?_ | refine Cut.exit ?_ | refine Rnd.exit ?_)
  refine CW.region ?_
  refine L1 (ps_assign rfl).os ?_
  refine LW.nil ?_
  repeat (first | refine CW.seq ?_ | refine PW.then_ ?_ | refine PW.then_to rfl ?_ | refine CW.block ?_ | refine CW.skip ?_ | refine CW.ret ?_ | refine PW.then_ret ?_ | refine PW.block_ret ?_ | refine Cut.ret ?_ | refine Rnd.ret ?_ | refine PW.block_normal ?_ | refine CW.exit ?_ | refine PW.then_exit ?_ | refine PW.block_hit ?_ | refine PW.block_miss rfl ?_ | refine Cut.exit ?_ | refine Rnd.exit ?_)
  refine CW.drawH [] [] T.mixed ?_
  refine H_take (i := 0) (some 5) rfl rfl (by kernel_rfl) (by kernel_rfl) (by kernel_rfl) rfl (ps_move rfl).pl (by kernel_rfl) (pkn _) ?_
  refine H_take (i := 1) (some 6) rfl rfl (by kernel_rfl) (by kernel_rfl) (by kernel_rfl) rfl (ps_move rfl).pl (by kernel_rfl) (pkn _) ?_
  refine H_take (i := 2) (some 7) rfl rfl (by kernel_rfl) (by kernel_rfl) (by kernel_rfl) rfl (ps32_shr x k rfl rfl rfl h32).pl (by kernel_rfl) (pkn _) ?_
  refine H_take (i := 3) (some 8) rfl rfl (by kernel_rfl) (by kernel_rfl) (by kernel_rfl) rfl (ps_move rfl).pl (by kernel_rfl) (pkn _) ?_
  refine H_take (i := 4) (some 9) rfl rfl (by kernel_rfl) (by kernel_rfl) (by kernel_rfl) rfl (ps_move rfl).pl (by kernel_rfl) (pkn _) ?_
  refine H_take (i := 5) (some 10) rfl rfl (by kernel_rfl) (by kernel_rfl) (by kernel_rfl) rfl (ps_to (u := .int .i64 ((32 - k : Nat) : Int)) (congrArg _ (by omega)) (ps_sub_i64 rfl rfl (by omega) (by omega))).pl (by kernel_rfl) (pkn _) ?_
  refine H_take (i := 6) (some 11) rfl rfl (by kernel_rfl) (by kernel_rfl) (by kernel_rfl) rfl (ps32_shl x (32 - k) rfl rfl rfl (by omega)).pl (by kernel_rfl) (pkn _) ?_
  refine H_take (i := 7) (some 12) rfl rfl (by kernel_rfl) (by kernel_rfl) (by kernel_rfl) rfl (ps32_or _ _ rfl rfl).pl (by kernel_rfl) (pkn _) ?_
  refine H_take (i := 8) (some 4) rfl rfl (by kernel_rfl) (by kernel_rfl) (by kernel_rfl) rfl (ps_assign rfl).pl (by kernel_rfl) (pkn _) ?_
  refine H_done (by kernel_rfl) ?_
  repeat (first | refine CW.seq ?_ | refine PW.then_ ?_ | refine PW.then_to rfl ?_ | refine CW.block ?_ | refine CW.skip ?_ | refine CW.ret ?_ | refine PW.then_ret ?_ | refine PW.block_ret ?_ | refine Cut.ret ?_ | refine Rnd.ret ?_ | refine PW.block_normal ?_ | refine CW.exit ?_ | refine PW.then_exit ?_ | refine PW.block_hit ?_ | refine PW.block_miss rfl ?_ | refine Cut.exit ?_ | refine Rnd.exit ?_)
  exact Fin.ret1 (v := w32 (rotr x k)) rfl [] rfl ⟨rfl, rfl⟩ (by repeat (first | exact Ent.refl _ | (apply Ent.cons; · repeat (first | exact pk_head _ _ | apply pk_tail)) | apply Ent.skip))
end Go.Proofs.YtcfipblnaifbhaaDoor
