/- The law WalAgainst: a sector laid by hand is a record just when both its stamps are one and not nought, its number is one, and what it holds fits: it answers true for every four numbers (no condition). -/
import Derived.Test.YtejbbpofamfhiaaWalRaw
import Derived.Test.YtejbbpofamfhiaaKv
import Derived.Test.YtejbbpofamfhiaaRows
namespace Go.Proofs.Ytejbbpofamfhiaa
open Go Go.SL
set_option linter.unusedVariables false
set_option linter.unusedSimpArgs false

theorem open_Ar4int {H : Type} {enc : TypeId × Value → H} {W : World} {base : Nat} {held : Bool} {fuel : Nat} {cs : List Value} {x : DataW H × List MemPlace} (h : DataW.trod enc Try.prog W base (fun _ => true) held fuel 65 cs = some x) : ∃ a : Int × Int × Int × Int, cs = [.int .i64 a.1, .int .i64 a.2.1, .int .i64 a.2.2.1, .int .i64 a.2.2.2] ∧ True := by
  have hk : KV [.i64, .i64, .i64, .i64] cs := (trod_kv 12 65 [.i64, .i64, .i64, .i64] (by kernel_rfl)).2 fuel cs x h
  have hl := hk.len
  match cs, hl with
  | [u, v, s, t], _ =>
    unfold KV at hk
    simp only [List.map_cons, List.map_nil, List.cons.injEq, and_true] at hk
    obtain ⟨h1, h2, h3, h4⟩ := hk
    have g1 : ∃ n, u = .int .i64 n := by cases u <;> simp [kindOf] at h1; subst h1; exact ⟨_, rfl⟩
    have g2 : ∃ n, v = .int .i64 n := by cases v <;> simp [kindOf] at h2; subst h2; exact ⟨_, rfl⟩
    have g3 : ∃ n, s = .int .i64 n := by cases s <;> simp [kindOf] at h3; subst h3; exact ⟨_, rfl⟩
    have g4 : ∃ n, t = .int .i64 n := by cases t <;> simp [kindOf] at h4; subst h4; exact ⟨_, rfl⟩
    obtain ⟨n, rfl⟩ := g1
    obtain ⟨m, rfl⟩ := g2
    obtain ⟨k, rfl⟩ := g3
    obtain ⟨l, rfl⟩ := g4
    exact ⟨(n, m, k, l), rfl, trivial⟩
/-! ## the plain law -/
def secC (c m : Nat) : List UInt8 := be 4 (c : Int) ++ (be 4 (m : Int) ++ List.replicate 48 0)
def secX (a c m z : Nat) : List UInt8 := be 4 (a : Int) ++ (secC c m ++ be 4 (z : Int))
theorem secC_len (c m : Nat) : (secC c m).length = 56 := by unfold secC; rw [List.length_append, List.length_append, length_be, length_be, List.length_replicate]
theorem secX_len (a c m z : Nat) : (secX a c m z).length = 64 := by unfold secX; rw [List.length_append, List.length_append, length_be, length_be, secC_len]
theorem secX_sec {a c m z : Nat} (ha : a < G32) (hz : z < G32) : sec (secX a c m z) = (a, secC c m, decide (a = z) && decide (0 < a)) := by
  obtain ⟨e1, e2, e3⟩ := parts3 (Y := be 4 (z : Int)) (length_be 4 (a : Int)) (secC_len c m)
  unfold sec secX
  rw [e1, e2, e3, num_be4 ha, num_be4 hz]
theorem secC_N {c m : Nat} (hc : c < G32) : hdN (secC c m) = c := by
  unfold hdN secC
  rw [List.take_left' (length_be 4 _), num_be4 hc]
theorem secC_L {c m : Nat} (hm : m < G32) : hdL (secC c m) = m := by
  unfold hdL secC
  rw [List.drop_left' (length_be 4 _), List.take_left' (length_be 4 _), num_be4 hm]
def agD (X : List UInt8) : DS := { data := [X, Z64, Z64, Z64], wait := [], armed := false, left := 0, count := 1 }
def agW (X : List UInt8) : DS := { DS.new 4 with wait := [(0, X)], count := 1 }
theorem ag_write {X : List UInt8} (hX : X.length = 64) : (DS.new 4).write 0 X = (0, agW X) := by
  unfold DS.write
  have hd : (DS.new 4).data.length = 4 := rfl
  rw [if_neg (by rw [hd]; omega), if_neg (by decide), pad64 hX]
  rfl
theorem ag_flush (X : List UInt8) : (agW X).flushE = (0, agD X) := rfl
theorem agW_ok {X : List UInt8} (hX : X.length = 64) : (agW X).Ok := ⟨fun s hs => by rw [List.eq_of_mem_replicate hs]; rfl, (show 4 ≤ 4096 by decide), fun w hw => by
  have : w = (0, X) := by simpa [agW] using hw
  subst this
  exact ⟨hX, (show 0 < 4 by decide)⟩⟩
theorem agD_ok {X : List UInt8} (hX : X.length = 64) : (agD X).Ok := ⟨fun s hs => by
    simp only [agD, List.mem_cons, List.not_mem_nil, or_false] at hs
    rcases hs with rfl | rfl | rfl | rfl
    · exact hX
    · rfl
    · rfl
    · rfl, (show 4 ≤ 4096 by decide), fun w hw => by cases hw⟩
theorem ag_whole {a m : Nat} (h0 : 0 < a) (ha : a < 8) (hm : m ≤ 48) : LogD (agD (secX a 1 m a)) [(a, List.replicate m 0)] := by
  have hml : (List.replicate m (0 : UInt8)).length = m := List.length_replicate
  have hsz : sz (List.replicate m (0 : UInt8)).length = 1 := by rw [hml]; unfold sz; omega
  have hE : endOf [List.replicate m (0 : UInt8)] = 1 := by show sz (List.replicate m (0 : UInt8)).length + 0 = 1; rw [hsz]
  refine ⟨agD_ok (secX_len _ _ _ _), rfl, ⟨fun r hr => ?_, ?_, ?_⟩, (show 1 ≤ 100000 by decide), (show (0 : Int) ≤ 1 ∧ (1 : Int) ≤ 10000000 by decide), (show (0 : Int) ≤ 0 ∧ (0 : Int) < 9223372036854775808 by decide)⟩
  · have : r = (a, List.replicate m 0) := by simpa using hr
    subst this
    exact ⟨h0, by unfold G32; dsimp only; omega, by rw [hml]; omega⟩
  · show endOf [List.replicate m 0] ≤ 4
    omega
  · show [secX a 1 m a, Z64, Z64, Z64] = encAll 1 [(a, List.replicate m 0)] ++ List.replicate (4 - endOf [List.replicate m 0]) Z64
    rw [hE]
    have e : encAll 1 [(a, List.replicate m 0)] = [secOf a (payload 1 (List.replicate m 0)) 0] := by
      simp only [encAll, secs, hsz, List.append_nil]
      rfl
    have e2 : secOf a (payload 1 (List.replicate m 0)) 0 = secX a 1 m a := by
      have hp : (payload 1 (List.replicate m 0)).length = m + 8 := by rw [payload_len, hml]
      unfold secOf secX
      rw [Nat.zero_mul, List.drop_zero, List.take_of_length_le (by omega)]
      unfold pad
      rw [hp]
      unfold payload secC
      have hrep : List.replicate m (0 : UInt8) ++ List.replicate (56 - (m + 8)) 0 = List.replicate 48 0 := by rw [List.replicate_append_replicate, show m + (56 - (m + 8)) = 48 by omega]
      rw [hml, ← hrep]
      simp only [List.append_assoc]
    rw [e, e2]
    rfl
theorem ag_part {a c m z : Nat} (ha : a < 8) (hc : c < 8) (hm : m < 64) (hz : z < 8) (h : ¬ (a = z ∧ 0 < a ∧ c = 1 ∧ m ≤ 48)) : recAt (agD (secX a c m z)).data 0 1 = none := by
  have h0 : secAt (agD (secX a c m z)).data 0 = (a, secC c m, decide (a = z) && decide (0 < a)) := (show _ = sec (secX a c m z) from rfl).trans (secX_sec (by unfold G32; omega) (by unfold G32; omega))
  have h1 : secAt (agD (secX a c m z)).data (0 + 1) = sec Z64 := rfl
  unfold recAt
  rw [h0]
  dsimp only
  rw [secC_N (by unfold G32; omega), secC_L (by unfold G32; omega)]
  by_cases g1 : a = z ∧ 0 < a
  · rw [if_neg (by rw [decide_eq_true g1.1, decide_eq_true g1.2]; decide)]
    by_cases g2 : c = 1
    · rw [if_neg (by omega)]
      have hs : sz m - 1 = 0 + 1 := by unfold sz; omega
      rw [hs, gather_step, h1, if_neg (by rw [sec_Z]; simp)]
      rfl
    · rw [if_pos (Or.inl g2)]
  · rw [if_pos (by simpa using g1)]
open Classical in
noncomputable def agR (a c m z : Nat) : List (List UInt8) := if a = z ∧ 0 < a ∧ c = 1 ∧ m ≤ 48 then [List.replicate m 0] else []
theorem ag_open {a c m z : Nat} (ha : a < 8) (hc : c < 8) (hm : m < 64) (hz : z < 8) : ∃ (rs : Rs) (S : Nat) (sd : DS), rs.map (·.2) = agR a c m z ∧ ∀ p,
    FSpec Try.prog 29 [ptr p] [DiskAt p (agD (secX a c m z))] (fun v As => ∃ (w : Nat) (es : WEs) (q : Option Addr) (d : Nat), es.map (·.2) = rs.map (·.2) ∧ (∀ e ∈ es, ByR (EnA e.1 e.2) e.1 e.2) ∧ v = .tuple #[ptr w, .slice q es.length d, .int .i64 0] ∧
      As = OutA w p rs S es q d ++ [DiskAt p sd]) := by
  by_cases h : a = z ∧ 0 < a ∧ c = 1 ∧ m ≤ 48
  · obtain ⟨rfl, h1, rfl, h2⟩ := h
    exact ⟨_, _, _, by unfold agR; rw [if_pos ⟨rfl, h1, rfl, h2⟩]; rfl, fun p => Open_log p _ [(a, List.replicate m 0)] (ag_whole h1 ha h2) rfl (show (1 : Int) ≤ 9000000 by decide)⟩
  · exact ⟨[], _, _, by unfold agR; rw [if_neg h]; rfl, fun p => Open_any p _ [] (agD_ok (secX_len _ _ _ _)) rfl rfl (fun r hr => by cases hr) rfl (by decide) (show (0 : Int) ≤ 1 ∧ (1 : Int) ≤ 9000000 by decide) (show (0 : Int) ≤ 0 ∧ (0 : Int) < 9223372036854775808 by decide) (ag_part ha hc hm hz h)⟩
/-! ## the writer -/
def agX1 (a c m : Nat) : List UInt8 := be 4 (a : Int) ++ (be 4 (c : Int) ++ be 4 (m : Int))
theorem ag_w1 (b z a c m : Nat) : FSpec Try.prog 34 [ptr b, .int .i64 4, .slice (some ⟨z, 0, none⟩) 3 3] [WrAt b [], cb z 3 [.int .i64 (a : Nat), .int .i64 (c : Nat), .int .i64 (m : Nat)]]
    (fun r As => r = ptr b ∧ As = [WrAt b (agX1 a c m), cb z 3 [.int .i64 (a : Nat), .int .i64 (c : Nat), .int .i64 (m : Nat)]]) := by
  have h := WInt_spec b [] (cb z 3 [.int .i64 (a : Nat), .int .i64 (c : Nat), .int .i64 (m : Nat)]) (.slice (some ⟨z, 0, none⟩) 3 3) 4 [(a : Int), (c : Int), (m : Int)]
    (RowsR.cb rfl (fun r hr => by obtain ⟨x, _, rfl⟩ := List.mem_map.1 hr; rfl) rfl (Nat.le_refl _) (by decide)) (by decide) (by simp) (by simp)
  have e : ([] : List UInt8) ++ ([(a : Int), (c : Int), (m : Int)].map (be 4)).flatten = agX1 a c m := by simp [agX1]
  rw [e] at h
  exact h
theorem ag_w2 (b y z : Nat) (x : List UInt8) (hx : x.length = 12) : FSpec Try.prog 35 [ptr b, .slice (some ⟨y, 0, none⟩) 1 1] [WrAt b x, cb y 27 [.slice (some ⟨z, 0, none⟩) 48 48], cb z 5 (bv (List.replicate 48 0))]
    (fun r As => r = ptr b ∧ As = [WrAt b (x ++ List.replicate 48 0), cb y 27 [.slice (some ⟨z, 0, none⟩) 48 48], cb z 5 (bv (List.replicate 48 0))]) := by
  have hb : ByR (cb z 5 (bv (List.replicate 48 0))) (.slice (some ⟨z, 0, none⟩) 48 48) (List.replicate 48 0) := ByR.cb (by rw [List.drop_zero]; exact List.take_of_length_le (by rw [length_bv]; exact Nat.le_refl _)) List.length_replicate (Nat.le_refl _)
  have h := WRaw_spec b x (cb y 27 [.slice (some ⟨z, 0, none⟩) 48 48]) (cb z 5 (bv (List.replicate 48 0))) (.slice (some ⟨y, 0, none⟩) 1 1) [(.slice (some ⟨z, 0, none⟩) 48 48, List.replicate 48 0)]
    (RowsR.cb rfl (fun r hr => by obtain ⟨x, _, rfl⟩ := List.mem_map.1 hr; rfl) rfl (Nat.le_refl _) (by decide)) (fun x hx => by
      rw [List.mem_singleton] at hx
      subst hx
      exact hb) (fun x hx => by
      rw [List.mem_singleton] at hx
      subst hx
      show (List.replicate 48 (0 : UInt8)).length ≤ 10000
      rw [List.length_replicate]; decide) (by omega) (show 1 ≤ 1000 by decide)
  have e : ([((.slice (some ⟨z, 0, none⟩) 48 48 : Value), List.replicate 48 (0 : UInt8))].map (·.2)).flatten = List.replicate 48 0 := List.append_nil _
  rw [e] at h
  exact h
theorem ag_w3 (b y z : Nat) (x : List UInt8) (hx : x.length = 60) : FSpec Try.prog 34 [ptr b, .int .i64 4, .slice (some ⟨y, 0, none⟩) 1 1] [WrAt b x, cb y 3 [.int .i64 (z : Nat)]]
    (fun r As => r = ptr b ∧ As = [WrAt b (x ++ be 4 (z : Int)), cb y 3 [.int .i64 (z : Nat)]]) := by
  have h := WInt_spec b x (cb y 3 [.int .i64 (z : Nat)]) (.slice (some ⟨y, 0, none⟩) 1 1) 4 [(z : Int)]
    (RowsR.cb rfl (fun r hr => by obtain ⟨x, _, rfl⟩ := List.mem_map.1 hr; rfl) rfl (Nat.le_refl _) (by decide)) (by decide) (by omega) (by simp)
  have e : ([(z : Int)].map (be 4)).flatten = be 4 (z : Int) := List.append_nil _
  rw [e] at h
  exact h
/-! ## the walk -/
set_option maxHeartbeats 40000000 in
theorem WalAgainst_law (W : World) (cs0 : List Value) (h : Int × Int × Int × Int) (eh : cs0 = [.int .i64 h.1, .int .i64 h.2.1, .int .i64 h.2.2.1, .int .i64 h.2.2.2]) (_ : True) : LawOf Try.prog 15 [.agg cs0.toArray] W := by
  subst eh
  obtain ⟨h0, h1, h2, h3⟩ := h
  dsimp only
  obtain ⟨c, hc⟩ := Int.eq_ofNat_of_zero_le (show 0 ≤ h0 % 8 by omega)
  obtain ⟨m, hm⟩ := Int.eq_ofNat_of_zero_le (show 0 ≤ h1 % 64 by omega)
  obtain ⟨a, ha⟩ := Int.eq_ofNat_of_zero_le (show 0 ≤ h2 % 8 by omega)
  obtain ⟨z, hz⟩ := Int.eq_ofNat_of_zero_le (show 0 ≤ h3 % 8 by omega)
  have hc2 : c < 8 := by omega
  have hm2 : m < 64 := by omega
  have ha2 : a < 8 := by omega
  have hz2 : z < 8 := by omega
  obtain ⟨rs, S, sd, hR, hop⟩ := ag_open ha2 hc2 hm2 hz2
  have hnew := New_yes 4 (by decide) (by decide)
  have hX := secX_len a c m z
  have hwok := agW_ok hX
  have hw1 := ag_write hX
  have hw2 := ag_flush (secX a c m z)
  have hl1 : (agX1 a c m).length = 12 := by unfold agX1; simp
  have hl2 : (agX1 a c m ++ List.replicate 48 0).length = 60 := by rw [List.length_append, hl1, List.length_replicate]
  have hx3 : (agX1 a c m ++ List.replicate 48 0) ++ be 4 (z : Int) = secX a c m z := by unfold agX1 secX secC; simp only [List.append_assoc]
  have w1 := fun b y => ag_w1 b y a c m
  have w2 := fun b y x => ag_w2 b y x (agX1 a c m) hl1
  have w3 := fun b y => ag_w3 b y z (agX1 a c m ++ List.replicate 48 0) hl2
  rw [hx3] at w3
  have wb := fun b => WBytes_spec b (secX a c m z) (by rw [hX]; decide)
  rw [hX] at wb
  have hdl : (agW (secX a c m z)).wait.length ≤ 1000000 := by show 1 ≤ 1000000; decide
  have hfl := fun p => Flush_to (p := p) hw2 hwok hdl
  clear hl1 hl2 hx3 hwok hdl hw2
  generalize agX1 a c m ++ List.replicate 48 0 = x2 at *
  generalize agX1 a c m = x1 at *
  have hwr := fun p (q : Option Addr) (d : Nat) (g1 : 64 ≤ d) (g3 : 64 ≠ 0 → ∃ g, q = some ⟨g, 0, none⟩) => Write_to (p := p) (A := slOwn 5 1 (.slice q 64 d) 64 (bv (secX a c m z))) hw1 (ByR.own hX g1 g3) (by decide) (by decide) (by decide)
  clear hw1
  generalize agD (secX a c m z) = s2 at *
  generalize agW (secX a c m z) = s1 at *
  generalize secX a c m z = X at *
  generalize DS.new 4 = st0 at *
  refine FSpec.intro Try.func15 rfl 91 Try.ntmps15 (Nat.le_of_ble_eq_true rfl) fun w0 F => ?_
  show CW _ _ _ _ _ _ (_ :: F)
  generalize bag (blks W) = E
  repeat (first | refine CW.seq ?_ | refine PW.then_ ?_ | refine PW.then_to rfl ?_ | refine CW.block ?_ | refine CW.skip ?_ | refine CW.ret ?_ | refine PW.then_ret ?_ | refine PW.block_ret ?_ | refine Cut.ret ?_ | refine Rnd.ret ?_ | refine PW.block_normal ?_ | refine CW.exit ?_ | refine PW.then_exit ?_ | refine PW.block_hit ?_ | refine PW.block_miss rfl ?_ | refine Cut.exit ?_ | refine Rnd.exit ?_ | refine CW.scope ?_ | refine CW.label ?_ | refine PW.scope_normal ?_ | refine PW.scope_ret ?_ | refine PW.scope_exit ?_)
  refine CW.region ?_
  refine LE (os_box (vs := [.int .i64 h0, .int .i64 h1, .int .i64 h2, .int .i64 h3]) rfl (by rfl)) ?_
  rintro _ _ ⟨b1, rfl, rfl⟩
  refine L1 (ps_assign rfl).os ?_
  refine LW.nil ?_
  repeat (first | refine CW.seq ?_ | refine PW.then_ ?_ | refine PW.then_to rfl ?_ | refine CW.block ?_ | refine CW.skip ?_ | refine CW.ret ?_ | refine PW.then_ret ?_ | refine PW.block_ret ?_ | refine Cut.ret ?_ | refine Rnd.ret ?_ | refine PW.block_normal ?_ | refine CW.exit ?_ | refine PW.then_exit ?_ | refine PW.block_hit ?_ | refine PW.block_miss rfl ?_ | refine Cut.exit ?_ | refine Rnd.exit ?_ | refine CW.scope ?_ | refine CW.label ?_ | refine PW.scope_normal ?_ | refine PW.scope_ret ?_ | refine PW.scope_exit ?_)
  refine CW.region ?_
  refine L1 (os_call0 fitW_spec Try.func28 (by decide +kernel) rfl rfl) ?_
  refine L1 (ps_not rfl).os ?_
  refine LW.nil ?_
  repeat (first | refine CW.seq ?_ | refine PW.then_ ?_ | refine PW.then_to rfl ?_ | refine CW.block ?_ | refine CW.skip ?_ | refine CW.ret ?_ | refine PW.then_ret ?_ | refine PW.block_ret ?_ | refine Cut.ret ?_ | refine Rnd.ret ?_ | refine PW.block_normal ?_ | refine CW.exit ?_ | refine PW.then_exit ?_ | refine PW.block_hit ?_ | refine PW.block_miss rfl ?_ | refine Cut.exit ?_ | refine Rnd.exit ?_ | refine CW.scope ?_ | refine CW.label ?_ | refine PW.scope_normal ?_ | refine PW.scope_ret ?_ | refine PW.scope_exit ?_)
  refine CW.cond_false rfl ?_
  repeat (first | refine CW.seq ?_ | refine PW.then_ ?_ | refine PW.then_to rfl ?_ | refine CW.block ?_ | refine CW.skip ?_ | refine CW.ret ?_ | refine PW.then_ret ?_ | refine PW.block_ret ?_ | refine Cut.ret ?_ | refine Rnd.ret ?_ | refine PW.block_normal ?_ | refine CW.exit ?_ | refine PW.then_exit ?_ | refine PW.block_hit ?_ | refine PW.block_miss rfl ?_ | refine Cut.exit ?_ | refine Rnd.exit ?_ | refine CW.scope ?_ | refine CW.label ?_ | refine PW.scope_normal ?_ | refine PW.scope_ret ?_ | refine PW.scope_exit ?_)
  refine CW.cutB (α := Unit) [3, 4, 5, 6, 15, 16, 17, 18, 19, 20, 21, 22, 23, 24, 25, 26] (fun _ => True) (fun _ => [(3, .int .i64 (c : Nat)), (4, .int .i64 (m : Nat)), (5, .int .i64 (a : Nat)), (6, .int .i64 (z : Nat))]) (fun _ => E :: F) ?_ ?_
  · refine CW.drawH [cb b1 65 [.int .i64 h0, .int .i64 h1, .int .i64 h2, .int .i64 h3]] [] T.mixed ?_
    refine H_take (i := 0) (some 15) rfl rfl (by kernel_rfl) (by kernel_rfl) (by kernel_rfl) rfl (ps_ia_arr T.un65 T.sz3 rfl rfl (by omega) (by omega)).pl (by kernel_rfl) (pkc (by repeat (first | exact pk_head _ _ | apply pk_tail)) (pkn _)) ?_
    refine H_take (i := 1) (some 16) rfl rfl (by kernel_rfl) (by kernel_rfl) (by kernel_rfl) rfl (pl_load1 (b := b1) (v := .int .i64 h0) (by repeat (first | exact pk_head _ _ | apply pk_tail)) T.ag3 rfl rfl) (by kernel_rfl) (pkc (by repeat (first | exact pk_head _ _ | apply pk_tail)) (pkn _)) ?_
    refine H_take (i := 2) (some 17) rfl rfl (by kernel_rfl) (by kernel_rfl) (by kernel_rfl) rfl (ps_to (u := .int .i64 (c : Nat)) (by rw [← hc]; rfl) (ps_mask_i64 (m := 3) rfl rfl rfl (by decide))).pl (by kernel_rfl) (pkc (by repeat (first | exact pk_head _ _ | apply pk_tail)) (pkn _)) ?_
    refine H_take (i := 3) (some 18) rfl rfl (by kernel_rfl) (by kernel_rfl) (by kernel_rfl) rfl (ps_ia_arr T.un65 T.sz3 rfl rfl (by omega) (by omega)).pl (by kernel_rfl) (pkc (by repeat (first | exact pk_head _ _ | apply pk_tail)) (pkn _)) ?_
    refine H_take (i := 4) (some 19) rfl rfl (by kernel_rfl) (by kernel_rfl) (by kernel_rfl) rfl (pl_load1 (b := b1) (v := .int .i64 h1) (by repeat (first | exact pk_head _ _ | apply pk_tail)) T.ag3 rfl rfl) (by kernel_rfl) (pkc (by repeat (first | exact pk_head _ _ | apply pk_tail)) (pkn _)) ?_
    refine H_take (i := 5) (some 20) rfl rfl (by kernel_rfl) (by kernel_rfl) (by kernel_rfl) rfl (ps_to (u := .int .i64 (m : Nat)) (by rw [← hm]; rfl) (ps_mask_i64 (m := 6) rfl rfl rfl (by decide))).pl (by kernel_rfl) (pkc (by repeat (first | exact pk_head _ _ | apply pk_tail)) (pkn _)) ?_
    refine H_take (i := 6) (some 21) rfl rfl (by kernel_rfl) (by kernel_rfl) (by kernel_rfl) rfl (ps_ia_arr T.un65 T.sz3 rfl rfl (by omega) (by omega)).pl (by kernel_rfl) (pkc (by repeat (first | exact pk_head _ _ | apply pk_tail)) (pkn _)) ?_
    refine H_take (i := 7) (some 22) rfl rfl (by kernel_rfl) (by kernel_rfl) (by kernel_rfl) rfl (pl_load1 (b := b1) (v := .int .i64 h2) (by repeat (first | exact pk_head _ _ | apply pk_tail)) T.ag3 rfl rfl) (by kernel_rfl) (pkc (by repeat (first | exact pk_head _ _ | apply pk_tail)) (pkn _)) ?_
    refine H_take (i := 8) (some 23) rfl rfl (by kernel_rfl) (by kernel_rfl) (by kernel_rfl) rfl (ps_to (u := .int .i64 (a : Nat)) (by rw [← ha]; rfl) (ps_mask_i64 (m := 3) rfl rfl rfl (by decide))).pl (by kernel_rfl) (pkc (by repeat (first | exact pk_head _ _ | apply pk_tail)) (pkn _)) ?_
    refine H_take (i := 9) (some 24) rfl rfl (by kernel_rfl) (by kernel_rfl) (by kernel_rfl) rfl (ps_ia_arr T.un65 T.sz3 rfl rfl (by omega) (by omega)).pl (by kernel_rfl) (pkc (by repeat (first | exact pk_head _ _ | apply pk_tail)) (pkn _)) ?_
    refine H_take (i := 10) (some 25) rfl rfl (by kernel_rfl) (by kernel_rfl) (by kernel_rfl) rfl (pl_load1 (b := b1) (v := .int .i64 h3) (by repeat (first | exact pk_head _ _ | apply pk_tail)) T.ag3 rfl rfl) (by kernel_rfl) (pkc (by repeat (first | exact pk_head _ _ | apply pk_tail)) (pkn _)) ?_
    refine H_take (i := 11) (some 26) rfl rfl (by kernel_rfl) (by kernel_rfl) (by kernel_rfl) rfl (ps_to (u := .int .i64 (z : Nat)) (by rw [← hz]; rfl) (ps_mask_i64 (m := 3) rfl rfl rfl (by decide))).pl (by kernel_rfl) (pkc (by repeat (first | exact pk_head _ _ | apply pk_tail)) (pkn _)) ?_
    refine H_take (i := 12) (some 3) rfl rfl (by kernel_rfl) (by kernel_rfl) (by kernel_rfl) rfl (ps_assign rfl).pl (by kernel_rfl) (pkc (by repeat (first | exact pk_head _ _ | apply pk_tail)) (pkn _)) ?_
    refine H_take (i := 13) (some 4) rfl rfl (by kernel_rfl) (by kernel_rfl) (by kernel_rfl) rfl (ps_assign rfl).pl (by kernel_rfl) (pkc (by repeat (first | exact pk_head _ _ | apply pk_tail)) (pkn _)) ?_
    refine H_take (i := 14) (some 5) rfl rfl (by kernel_rfl) (by kernel_rfl) (by kernel_rfl) rfl (ps_assign rfl).pl (by kernel_rfl) (pkc (by repeat (first | exact pk_head _ _ | apply pk_tail)) (pkn _)) ?_
    refine H_take (i := 15) (some 6) rfl rfl (by kernel_rfl) (by kernel_rfl) (by kernel_rfl) rfl (ps_assign rfl).pl (by kernel_rfl) (pkc (by repeat (first | exact pk_head _ _ | apply pk_tail)) (pkn _)) ?_
    refine H_done (by kernel_rfl) ?_
    exact Meet.cut () trivial (by repeat (first | (with_reducible exact Ag.refl _ _) | (with_reducible assumption) | (with_reducible apply Ag.pu0) | ((with_reducible refine Ag.pu _ ?_ ?_); · exact rfl) | ((with_reducible refine Ag.mix ?_ ?_); · exact rfl) | ((with_reducible refine Ag.pus ?_ ?_); · exact rfl))) ⟨rfl, rfl, rfl, rfl, trivial⟩ (by repeat (first | exact Ent.refl _ | (apply Ent.cons; · repeat (first | exact pk_head _ _ | apply pk_tail)) | apply Ent.skip))
  rintro _ _ _
  repeat (first | refine CW.seq ?_ | refine PW.then_ ?_ | refine PW.then_to rfl ?_ | refine CW.block ?_ | refine CW.skip ?_ | refine CW.ret ?_ | refine PW.then_ret ?_ | refine PW.block_ret ?_ | refine Cut.ret ?_ | refine Rnd.ret ?_ | refine PW.block_normal ?_ | refine CW.exit ?_ | refine PW.then_exit ?_ | refine PW.block_hit ?_ | refine PW.block_miss rfl ?_ | refine Cut.exit ?_ | refine Rnd.exit ?_ | refine CW.scope ?_ | refine CW.label ?_ | refine PW.scope_normal ?_ | refine PW.scope_ret ?_ | refine PW.scope_exit ?_)
  refine CW.region ?_
  refine LE (os_call hnew Try.func17 (by decide +kernel) rfl rfl (List.Perm.refl _)) ?_
  rintro _ _ ⟨_, ⟨p, rfl, rfl⟩, rfl⟩
  refine L1 (ps_assign rfl).os ?_
  refine LW.nil ?_
  repeat (first | refine CW.seq ?_ | refine PW.then_ ?_ | refine PW.then_to rfl ?_ | refine CW.block ?_ | refine CW.skip ?_ | refine CW.ret ?_ | refine PW.then_ret ?_ | refine PW.block_ret ?_ | refine Cut.ret ?_ | refine Rnd.ret ?_ | refine PW.block_normal ?_ | refine CW.exit ?_ | refine PW.then_exit ?_ | refine PW.block_hit ?_ | refine PW.block_miss rfl ?_ | refine Cut.exit ?_ | refine Rnd.exit ?_ | refine CW.scope ?_ | refine CW.label ?_ | refine PW.scope_normal ?_ | refine PW.scope_ret ?_ | refine PW.scope_exit ?_)
  refine CW.region ?_
  refine LE (os_alloc T.ti67) ?_
  rintro _ _ ⟨b8, rfl, rfl⟩
  refine LW.nil ?_
  refine J.ent (WrAt.fresh b8 _) ?_
  repeat (first | refine CW.seq ?_ | refine PW.then_ ?_ | refine PW.then_to rfl ?_ | refine CW.block ?_ | refine CW.skip ?_ | refine CW.ret ?_ | refine PW.then_ret ?_ | refine PW.block_ret ?_ | refine Cut.ret ?_ | refine Rnd.ret ?_ | refine PW.block_normal ?_ | refine CW.exit ?_ | refine PW.then_exit ?_ | refine PW.block_hit ?_ | refine PW.block_miss rfl ?_ | refine Cut.exit ?_ | refine Rnd.exit ?_ | refine CW.scope ?_ | refine CW.label ?_ | refine PW.scope_normal ?_ | refine PW.scope_ret ?_ | refine PW.scope_exit ?_)
  refine CW.cutB (α := Unit) [28, 29, 30, 31, 32, 33, 34, 35, 36, 37, 38] (fun _ => True) (fun _ => []) (fun _ => WrAt b8 X :: DiskAt p st0 :: E :: F) ?_ ?_
  · refine CW.drawH [] [] T.mixed ?_
    refine H_take (i := 0) (some 28) rfl rfl (by kernel_rfl) (by kernel_rfl) (by kernel_rfl) rfl (ps_move rfl).pl (by kernel_rfl) (pkn _) ?_
    refine H_take (i := 1) (some 29) rfl rfl (by kernel_rfl) (by kernel_rfl) (by kernel_rfl) rfl (ps_move rfl).pl (by kernel_rfl) (pkn _) ?_
    refine H_take (i := 2) (some 30) rfl rfl (by kernel_rfl) (by kernel_rfl) (by kernel_rfl) rfl (ps_move rfl).pl (by kernel_rfl) (pkn _) ?_
    refine H_take (i := 8) (some 36) rfl rfl (by kernel_rfl) (by kernel_rfl) (by kernel_rfl) rfl (ps_move rfl).pl (by kernel_rfl) (pkn _) ?_
    refine H_branch (rs := [3, 5, 9]) (by kernel_rfl) (by simp) ?_
    refine HR.consE (i := 3) (some 31) rfl rfl rfl (os_bslv (vs := [.int .i64 (a : Nat), .int .i64 (c : Nat), .int .i64 (m : Nat)]) T.un63 T.ti3 (by rfl) (by rfl) rfl (by simp [Value.oneCell']) (by decide) (by decide)) ?_ ?_
    · rintro _ _ ⟨b31, rfl, rfl⟩
      refine ⟨fun _ => ⟨_, (pkn _)⟩, ?_⟩
      refine H_branch (rs := [4, 5, 9]) (by kernel_rfl) (by simp) ?_
      refine HR.cons1 (i := 4) (some 32) rfl rfl rfl (os_call2 (w1 b8 b31) Try.func34 (by decide +kernel) rfl rfl (by repeat (first | exact pk_head _ _ | apply pk_tail)) (by repeat (first | exact pk_head _ _ | apply pk_tail))) (pkn _) ?_ ?_
      · skip
        refine H_branch (rs := [5, 9]) (by kernel_rfl) (by simp) ?_
        refine HR.consE (i := 5) (some 33) rfl rfl rfl (os_zeros 48 T.un27 T.ti5 rfl rfl (by decide)) ?_ ?_
        · rintro _ _ ⟨b33, rfl, rfl⟩
          refine ⟨fun _ => ⟨_, (pkn _)⟩, ?_⟩
          refine H_branch (rs := [6, 9]) (by kernel_rfl) (by simp) ?_
          refine HR.consE (i := 6) (some 34) rfl rfl rfl (os_bslv (vs := [.slice (some ⟨b33, 0, none⟩) 48 48]) T.un48 T.ti27 (by rfl) (by rfl) rfl (by simp [Value.oneCell']) (by decide) (by decide)) ?_ ?_
          · rintro _ _ ⟨b34, rfl, rfl⟩
            refine ⟨fun _ => ⟨_, (pkn _)⟩, ?_⟩
            refine H_branch (rs := [7, 9]) (by kernel_rfl) (by simp) ?_
            refine HR.cons1 (i := 7) (some 35) rfl rfl rfl (os_callI (w2 b8 b34 b33) Try.func35 (by decide +kernel) rfl rfl (pkc (by repeat (first | exact pk_head _ _ | apply pk_tail)) (pkc (by repeat (first | exact pk_head _ _ | apply pk_tail)) (pkc (by repeat (first | exact pk_head _ _ | apply pk_tail)) (pkn _))))) (pkn _) ?_ ?_
            · skip
              refine H_branch (rs := [9]) (by kernel_rfl) (by simp) ?_
              refine HR.consE (i := 9) (some 37) rfl rfl rfl (os_bslv (vs := [.int .i64 (z : Nat)]) T.un63 T.ti3 (by rfl) (by rfl) rfl (by simp [Value.oneCell']) (by decide) (by decide)) ?_ ?_
              · rintro _ _ ⟨b37, rfl, rfl⟩
                refine ⟨fun _ => ⟨_, (pkn _)⟩, ?_⟩
                refine H_branch (rs := [10]) (by kernel_rfl) (by simp) ?_
                refine HR.cons1 (i := 10) (some 38) rfl rfl rfl (os_call2 (w3 b8 b37) Try.func34 (by decide +kernel) rfl rfl (by repeat (first | exact pk_head _ _ | apply pk_tail)) (by repeat (first | exact pk_head _ _ | apply pk_tail))) (pkn _) ?_ ?_
                · skip
                  refine H_done (by kernel_rfl) ?_
                  exact Meet.cut () trivial (by repeat (first | (with_reducible exact Ag.refl _ _) | (with_reducible assumption) | (with_reducible apply Ag.pu0) | ((with_reducible refine Ag.pu _ ?_ ?_); · exact rfl) | ((with_reducible refine Ag.mix ?_ ?_); · exact rfl) | ((with_reducible refine Ag.pus ?_ ?_); · exact rfl))) trivial (by repeat (first | exact Ent.refl _ | (apply Ent.cons; · repeat (first | exact pk_head _ _ | apply pk_tail)) | apply Ent.skip))
                exact HR.nil
              exact HR.nil
            refine HR.consE (i := 9) (some 37) rfl rfl rfl (os_bslv (vs := [.int .i64 (z : Nat)]) T.un63 T.ti3 (by rfl) (by rfl) rfl (by simp [Value.oneCell']) (by decide) (by decide)) ?_ ?_
            · rintro _ _ ⟨b37, rfl, rfl⟩
              refine ⟨fun _ => ⟨_, (pkn _)⟩, ?_⟩
              refine H_branch (rs := [7]) (by kernel_rfl) (by simp) ?_
              refine HR.cons1 (i := 7) (some 35) rfl rfl rfl (os_callI (w2 b8 b34 b33) Try.func35 (by decide +kernel) rfl rfl (pkc (by repeat (first | exact pk_head _ _ | apply pk_tail)) (pkc (by repeat (first | exact pk_head _ _ | apply pk_tail)) (pkc (by repeat (first | exact pk_head _ _ | apply pk_tail)) (pkn _))))) (pkn _) ?_ ?_
              · skip
                refine H_branch (rs := [10]) (by kernel_rfl) (by simp) ?_
                refine HR.cons1 (i := 10) (some 38) rfl rfl rfl (os_call2 (w3 b8 b37) Try.func34 (by decide +kernel) rfl rfl (by repeat (first | exact pk_head _ _ | apply pk_tail)) (by repeat (first | exact pk_head _ _ | apply pk_tail))) (pkn _) ?_ ?_
                · skip
                  refine H_done (by kernel_rfl) ?_
                  exact Meet.cut () trivial (by repeat (first | (with_reducible exact Ag.refl _ _) | (with_reducible assumption) | (with_reducible apply Ag.pu0) | ((with_reducible refine Ag.pu _ ?_ ?_); · exact rfl) | ((with_reducible refine Ag.mix ?_ ?_); · exact rfl) | ((with_reducible refine Ag.pus ?_ ?_); · exact rfl))) trivial (by repeat (first | exact Ent.refl _ | (apply Ent.cons; · repeat (first | exact pk_head _ _ | apply pk_tail)) | apply Ent.skip))
                exact HR.nil
              exact HR.nil
            exact HR.nil
          refine HR.consE (i := 9) (some 37) rfl rfl rfl (os_bslv (vs := [.int .i64 (z : Nat)]) T.un63 T.ti3 (by rfl) (by rfl) rfl (by simp [Value.oneCell']) (by decide) (by decide)) ?_ ?_
          · rintro _ _ ⟨b37, rfl, rfl⟩
            refine ⟨fun _ => ⟨_, (pkn _)⟩, ?_⟩
            refine H_branch (rs := [6]) (by kernel_rfl) (by simp) ?_
            refine HR.consE (i := 6) (some 34) rfl rfl rfl (os_bslv (vs := [.slice (some ⟨b33, 0, none⟩) 48 48]) T.un48 T.ti27 (by rfl) (by rfl) rfl (by simp [Value.oneCell']) (by decide) (by decide)) ?_ ?_
            · rintro _ _ ⟨b34, rfl, rfl⟩
              refine ⟨fun _ => ⟨_, (pkn _)⟩, ?_⟩
              refine H_branch (rs := [7]) (by kernel_rfl) (by simp) ?_
              refine HR.cons1 (i := 7) (some 35) rfl rfl rfl (os_callI (w2 b8 b34 b33) Try.func35 (by decide +kernel) rfl rfl (pkc (by repeat (first | exact pk_head _ _ | apply pk_tail)) (pkc (by repeat (first | exact pk_head _ _ | apply pk_tail)) (pkc (by repeat (first | exact pk_head _ _ | apply pk_tail)) (pkn _))))) (pkn _) ?_ ?_
              · skip
                refine H_branch (rs := [10]) (by kernel_rfl) (by simp) ?_
                refine HR.cons1 (i := 10) (some 38) rfl rfl rfl (os_call2 (w3 b8 b37) Try.func34 (by decide +kernel) rfl rfl (by repeat (first | exact pk_head _ _ | apply pk_tail)) (by repeat (first | exact pk_head _ _ | apply pk_tail))) (pkn _) ?_ ?_
                · skip
                  refine H_done (by kernel_rfl) ?_
                  exact Meet.cut () trivial (by repeat (first | (with_reducible exact Ag.refl _ _) | (with_reducible assumption) | (with_reducible apply Ag.pu0) | ((with_reducible refine Ag.pu _ ?_ ?_); · exact rfl) | ((with_reducible refine Ag.mix ?_ ?_); · exact rfl) | ((with_reducible refine Ag.pus ?_ ?_); · exact rfl))) trivial (by repeat (first | exact Ent.refl _ | (apply Ent.cons; · repeat (first | exact pk_head _ _ | apply pk_tail)) | apply Ent.skip))
                exact HR.nil
              exact HR.nil
            exact HR.nil
          exact HR.nil
        refine HR.consE (i := 9) (some 37) rfl rfl rfl (os_bslv (vs := [.int .i64 (z : Nat)]) T.un63 T.ti3 (by rfl) (by rfl) rfl (by simp [Value.oneCell']) (by decide) (by decide)) ?_ ?_
        · rintro _ _ ⟨b37, rfl, rfl⟩
          refine ⟨fun _ => ⟨_, (pkn _)⟩, ?_⟩
          refine H_branch (rs := [5]) (by kernel_rfl) (by simp) ?_
          refine HR.consE (i := 5) (some 33) rfl rfl rfl (os_zeros 48 T.un27 T.ti5 rfl rfl (by decide)) ?_ ?_
          · rintro _ _ ⟨b33, rfl, rfl⟩
            refine ⟨fun _ => ⟨_, (pkn _)⟩, ?_⟩
            refine H_branch (rs := [6]) (by kernel_rfl) (by simp) ?_
            refine HR.consE (i := 6) (some 34) rfl rfl rfl (os_bslv (vs := [.slice (some ⟨b33, 0, none⟩) 48 48]) T.un48 T.ti27 (by rfl) (by rfl) rfl (by simp [Value.oneCell']) (by decide) (by decide)) ?_ ?_
            · rintro _ _ ⟨b34, rfl, rfl⟩
              refine ⟨fun _ => ⟨_, (pkn _)⟩, ?_⟩
              refine H_branch (rs := [7]) (by kernel_rfl) (by simp) ?_
              refine HR.cons1 (i := 7) (some 35) rfl rfl rfl (os_callI (w2 b8 b34 b33) Try.func35 (by decide +kernel) rfl rfl (pkc (by repeat (first | exact pk_head _ _ | apply pk_tail)) (pkc (by repeat (first | exact pk_head _ _ | apply pk_tail)) (pkc (by repeat (first | exact pk_head _ _ | apply pk_tail)) (pkn _))))) (pkn _) ?_ ?_
              · skip
                refine H_branch (rs := [10]) (by kernel_rfl) (by simp) ?_
                refine HR.cons1 (i := 10) (some 38) rfl rfl rfl (os_call2 (w3 b8 b37) Try.func34 (by decide +kernel) rfl rfl (by repeat (first | exact pk_head _ _ | apply pk_tail)) (by repeat (first | exact pk_head _ _ | apply pk_tail))) (pkn _) ?_ ?_
                · skip
                  refine H_done (by kernel_rfl) ?_
                  exact Meet.cut () trivial (by repeat (first | (with_reducible exact Ag.refl _ _) | (with_reducible assumption) | (with_reducible apply Ag.pu0) | ((with_reducible refine Ag.pu _ ?_ ?_); · exact rfl) | ((with_reducible refine Ag.mix ?_ ?_); · exact rfl) | ((with_reducible refine Ag.pus ?_ ?_); · exact rfl))) trivial (by repeat (first | exact Ent.refl _ | (apply Ent.cons; · repeat (first | exact pk_head _ _ | apply pk_tail)) | apply Ent.skip))
                exact HR.nil
              exact HR.nil
            exact HR.nil
          exact HR.nil
        exact HR.nil
      refine HR.consE (i := 5) (some 33) rfl rfl rfl (os_zeros 48 T.un27 T.ti5 rfl rfl (by decide)) ?_ ?_
      · rintro _ _ ⟨b33, rfl, rfl⟩
        refine ⟨fun _ => ⟨_, (pkn _)⟩, ?_⟩
        refine H_branch (rs := [4, 6, 9]) (by kernel_rfl) (by simp) ?_
        refine HR.cons1 (i := 4) (some 32) rfl rfl rfl (os_call2 (w1 b8 b31) Try.func34 (by decide +kernel) rfl rfl (by repeat (first | exact pk_head _ _ | apply pk_tail)) (by repeat (first | exact pk_head _ _ | apply pk_tail))) (pkn _) ?_ ?_
        · skip
          refine H_branch (rs := [6, 9]) (by kernel_rfl) (by simp) ?_
          refine HR.consE (i := 6) (some 34) rfl rfl rfl (os_bslv (vs := [.slice (some ⟨b33, 0, none⟩) 48 48]) T.un48 T.ti27 (by rfl) (by rfl) rfl (by simp [Value.oneCell']) (by decide) (by decide)) ?_ ?_
          · rintro _ _ ⟨b34, rfl, rfl⟩
            refine ⟨fun _ => ⟨_, (pkn _)⟩, ?_⟩
            refine H_branch (rs := [7, 9]) (by kernel_rfl) (by simp) ?_
            refine HR.cons1 (i := 7) (some 35) rfl rfl rfl (os_callI (w2 b8 b34 b33) Try.func35 (by decide +kernel) rfl rfl (pkc (by repeat (first | exact pk_head _ _ | apply pk_tail)) (pkc (by repeat (first | exact pk_head _ _ | apply pk_tail)) (pkc (by repeat (first | exact pk_head _ _ | apply pk_tail)) (pkn _))))) (pkn _) ?_ ?_
            · skip
              refine H_branch (rs := [9]) (by kernel_rfl) (by simp) ?_
              refine HR.consE (i := 9) (some 37) rfl rfl rfl (os_bslv (vs := [.int .i64 (z : Nat)]) T.un63 T.ti3 (by rfl) (by rfl) rfl (by simp [Value.oneCell']) (by decide) (by decide)) ?_ ?_
              · rintro _ _ ⟨b37, rfl, rfl⟩
                refine ⟨fun _ => ⟨_, (pkn _)⟩, ?_⟩
                refine H_branch (rs := [10]) (by kernel_rfl) (by simp) ?_
                refine HR.cons1 (i := 10) (some 38) rfl rfl rfl (os_call2 (w3 b8 b37) Try.func34 (by decide +kernel) rfl rfl (by repeat (first | exact pk_head _ _ | apply pk_tail)) (by repeat (first | exact pk_head _ _ | apply pk_tail))) (pkn _) ?_ ?_
                · skip
                  refine H_done (by kernel_rfl) ?_
                  exact Meet.cut () trivial (by repeat (first | (with_reducible exact Ag.refl _ _) | (with_reducible assumption) | (with_reducible apply Ag.pu0) | ((with_reducible refine Ag.pu _ ?_ ?_); · exact rfl) | ((with_reducible refine Ag.mix ?_ ?_); · exact rfl) | ((with_reducible refine Ag.pus ?_ ?_); · exact rfl))) trivial (by repeat (first | exact Ent.refl _ | (apply Ent.cons; · repeat (first | exact pk_head _ _ | apply pk_tail)) | apply Ent.skip))
                exact HR.nil
              exact HR.nil
            refine HR.consE (i := 9) (some 37) rfl rfl rfl (os_bslv (vs := [.int .i64 (z : Nat)]) T.un63 T.ti3 (by rfl) (by rfl) rfl (by simp [Value.oneCell']) (by decide) (by decide)) ?_ ?_
            · rintro _ _ ⟨b37, rfl, rfl⟩
              refine ⟨fun _ => ⟨_, (pkn _)⟩, ?_⟩
              refine H_branch (rs := [7]) (by kernel_rfl) (by simp) ?_
              refine HR.cons1 (i := 7) (some 35) rfl rfl rfl (os_callI (w2 b8 b34 b33) Try.func35 (by decide +kernel) rfl rfl (pkc (by repeat (first | exact pk_head _ _ | apply pk_tail)) (pkc (by repeat (first | exact pk_head _ _ | apply pk_tail)) (pkc (by repeat (first | exact pk_head _ _ | apply pk_tail)) (pkn _))))) (pkn _) ?_ ?_
              · skip
                refine H_branch (rs := [10]) (by kernel_rfl) (by simp) ?_
                refine HR.cons1 (i := 10) (some 38) rfl rfl rfl (os_call2 (w3 b8 b37) Try.func34 (by decide +kernel) rfl rfl (by repeat (first | exact pk_head _ _ | apply pk_tail)) (by repeat (first | exact pk_head _ _ | apply pk_tail))) (pkn _) ?_ ?_
                · skip
                  refine H_done (by kernel_rfl) ?_
                  exact Meet.cut () trivial (by repeat (first | (with_reducible exact Ag.refl _ _) | (with_reducible assumption) | (with_reducible apply Ag.pu0) | ((with_reducible refine Ag.pu _ ?_ ?_); · exact rfl) | ((with_reducible refine Ag.mix ?_ ?_); · exact rfl) | ((with_reducible refine Ag.pus ?_ ?_); · exact rfl))) trivial (by repeat (first | exact Ent.refl _ | (apply Ent.cons; · repeat (first | exact pk_head _ _ | apply pk_tail)) | apply Ent.skip))
                exact HR.nil
              exact HR.nil
            exact HR.nil
          refine HR.consE (i := 9) (some 37) rfl rfl rfl (os_bslv (vs := [.int .i64 (z : Nat)]) T.un63 T.ti3 (by rfl) (by rfl) rfl (by simp [Value.oneCell']) (by decide) (by decide)) ?_ ?_
          · rintro _ _ ⟨b37, rfl, rfl⟩
            refine ⟨fun _ => ⟨_, (pkn _)⟩, ?_⟩
            refine H_branch (rs := [6]) (by kernel_rfl) (by simp) ?_
            refine HR.consE (i := 6) (some 34) rfl rfl rfl (os_bslv (vs := [.slice (some ⟨b33, 0, none⟩) 48 48]) T.un48 T.ti27 (by rfl) (by rfl) rfl (by simp [Value.oneCell']) (by decide) (by decide)) ?_ ?_
            · rintro _ _ ⟨b34, rfl, rfl⟩
              refine ⟨fun _ => ⟨_, (pkn _)⟩, ?_⟩
              refine H_branch (rs := [7]) (by kernel_rfl) (by simp) ?_
              refine HR.cons1 (i := 7) (some 35) rfl rfl rfl (os_callI (w2 b8 b34 b33) Try.func35 (by decide +kernel) rfl rfl (pkc (by repeat (first | exact pk_head _ _ | apply pk_tail)) (pkc (by repeat (first | exact pk_head _ _ | apply pk_tail)) (pkc (by repeat (first | exact pk_head _ _ | apply pk_tail)) (pkn _))))) (pkn _) ?_ ?_
              · skip
                refine H_branch (rs := [10]) (by kernel_rfl) (by simp) ?_
                refine HR.cons1 (i := 10) (some 38) rfl rfl rfl (os_call2 (w3 b8 b37) Try.func34 (by decide +kernel) rfl rfl (by repeat (first | exact pk_head _ _ | apply pk_tail)) (by repeat (first | exact pk_head _ _ | apply pk_tail))) (pkn _) ?_ ?_
                · skip
                  refine H_done (by kernel_rfl) ?_
                  exact Meet.cut () trivial (by repeat (first | (with_reducible exact Ag.refl _ _) | (with_reducible assumption) | (with_reducible apply Ag.pu0) | ((with_reducible refine Ag.pu _ ?_ ?_); · exact rfl) | ((with_reducible refine Ag.mix ?_ ?_); · exact rfl) | ((with_reducible refine Ag.pus ?_ ?_); · exact rfl))) trivial (by repeat (first | exact Ent.refl _ | (apply Ent.cons; · repeat (first | exact pk_head _ _ | apply pk_tail)) | apply Ent.skip))
                exact HR.nil
              exact HR.nil
            exact HR.nil
          exact HR.nil
        refine HR.consE (i := 6) (some 34) rfl rfl rfl (os_bslv (vs := [.slice (some ⟨b33, 0, none⟩) 48 48]) T.un48 T.ti27 (by rfl) (by rfl) rfl (by simp [Value.oneCell']) (by decide) (by decide)) ?_ ?_
        · rintro _ _ ⟨b34, rfl, rfl⟩
          refine ⟨fun _ => ⟨_, (pkn _)⟩, ?_⟩
          refine H_branch (rs := [4, 9]) (by kernel_rfl) (by simp) ?_
          refine HR.cons1 (i := 4) (some 32) rfl rfl rfl (os_call2 (w1 b8 b31) Try.func34 (by decide +kernel) rfl rfl (by repeat (first | exact pk_head _ _ | apply pk_tail)) (by repeat (first | exact pk_head _ _ | apply pk_tail))) (pkn _) ?_ ?_
          · skip
            refine H_branch (rs := [7, 9]) (by kernel_rfl) (by simp) ?_
            refine HR.cons1 (i := 7) (some 35) rfl rfl rfl (os_callI (w2 b8 b34 b33) Try.func35 (by decide +kernel) rfl rfl (pkc (by repeat (first | exact pk_head _ _ | apply pk_tail)) (pkc (by repeat (first | exact pk_head _ _ | apply pk_tail)) (pkc (by repeat (first | exact pk_head _ _ | apply pk_tail)) (pkn _))))) (pkn _) ?_ ?_
            · skip
              refine H_branch (rs := [9]) (by kernel_rfl) (by simp) ?_
              refine HR.consE (i := 9) (some 37) rfl rfl rfl (os_bslv (vs := [.int .i64 (z : Nat)]) T.un63 T.ti3 (by rfl) (by rfl) rfl (by simp [Value.oneCell']) (by decide) (by decide)) ?_ ?_
              · rintro _ _ ⟨b37, rfl, rfl⟩
                refine ⟨fun _ => ⟨_, (pkn _)⟩, ?_⟩
                refine H_branch (rs := [10]) (by kernel_rfl) (by simp) ?_
                refine HR.cons1 (i := 10) (some 38) rfl rfl rfl (os_call2 (w3 b8 b37) Try.func34 (by decide +kernel) rfl rfl (by repeat (first | exact pk_head _ _ | apply pk_tail)) (by repeat (first | exact pk_head _ _ | apply pk_tail))) (pkn _) ?_ ?_
                · skip
                  refine H_done (by kernel_rfl) ?_
                  exact Meet.cut () trivial (by repeat (first | (with_reducible exact Ag.refl _ _) | (with_reducible assumption) | (with_reducible apply Ag.pu0) | ((with_reducible refine Ag.pu _ ?_ ?_); · exact rfl) | ((with_reducible refine Ag.mix ?_ ?_); · exact rfl) | ((with_reducible refine Ag.pus ?_ ?_); · exact rfl))) trivial (by repeat (first | exact Ent.refl _ | (apply Ent.cons; · repeat (first | exact pk_head _ _ | apply pk_tail)) | apply Ent.skip))
                exact HR.nil
              exact HR.nil
            refine HR.consE (i := 9) (some 37) rfl rfl rfl (os_bslv (vs := [.int .i64 (z : Nat)]) T.un63 T.ti3 (by rfl) (by rfl) rfl (by simp [Value.oneCell']) (by decide) (by decide)) ?_ ?_
            · rintro _ _ ⟨b37, rfl, rfl⟩
              refine ⟨fun _ => ⟨_, (pkn _)⟩, ?_⟩
              refine H_branch (rs := [7]) (by kernel_rfl) (by simp) ?_
              refine HR.cons1 (i := 7) (some 35) rfl rfl rfl (os_callI (w2 b8 b34 b33) Try.func35 (by decide +kernel) rfl rfl (pkc (by repeat (first | exact pk_head _ _ | apply pk_tail)) (pkc (by repeat (first | exact pk_head _ _ | apply pk_tail)) (pkc (by repeat (first | exact pk_head _ _ | apply pk_tail)) (pkn _))))) (pkn _) ?_ ?_
              · skip
                refine H_branch (rs := [10]) (by kernel_rfl) (by simp) ?_
                refine HR.cons1 (i := 10) (some 38) rfl rfl rfl (os_call2 (w3 b8 b37) Try.func34 (by decide +kernel) rfl rfl (by repeat (first | exact pk_head _ _ | apply pk_tail)) (by repeat (first | exact pk_head _ _ | apply pk_tail))) (pkn _) ?_ ?_
                · skip
                  refine H_done (by kernel_rfl) ?_
                  exact Meet.cut () trivial (by repeat (first | (with_reducible exact Ag.refl _ _) | (with_reducible assumption) | (with_reducible apply Ag.pu0) | ((with_reducible refine Ag.pu _ ?_ ?_); · exact rfl) | ((with_reducible refine Ag.mix ?_ ?_); · exact rfl) | ((with_reducible refine Ag.pus ?_ ?_); · exact rfl))) trivial (by repeat (first | exact Ent.refl _ | (apply Ent.cons; · repeat (first | exact pk_head _ _ | apply pk_tail)) | apply Ent.skip))
                exact HR.nil
              exact HR.nil
            exact HR.nil
          refine HR.consE (i := 9) (some 37) rfl rfl rfl (os_bslv (vs := [.int .i64 (z : Nat)]) T.un63 T.ti3 (by rfl) (by rfl) rfl (by simp [Value.oneCell']) (by decide) (by decide)) ?_ ?_
          · rintro _ _ ⟨b37, rfl, rfl⟩
            refine ⟨fun _ => ⟨_, (pkn _)⟩, ?_⟩
            refine H_branch (rs := [4]) (by kernel_rfl) (by simp) ?_
            refine HR.cons1 (i := 4) (some 32) rfl rfl rfl (os_call2 (w1 b8 b31) Try.func34 (by decide +kernel) rfl rfl (by repeat (first | exact pk_head _ _ | apply pk_tail)) (by repeat (first | exact pk_head _ _ | apply pk_tail))) (pkn _) ?_ ?_
            · skip
              refine H_branch (rs := [7]) (by kernel_rfl) (by simp) ?_
              refine HR.cons1 (i := 7) (some 35) rfl rfl rfl (os_callI (w2 b8 b34 b33) Try.func35 (by decide +kernel) rfl rfl (pkc (by repeat (first | exact pk_head _ _ | apply pk_tail)) (pkc (by repeat (first | exact pk_head _ _ | apply pk_tail)) (pkc (by repeat (first | exact pk_head _ _ | apply pk_tail)) (pkn _))))) (pkn _) ?_ ?_
              · skip
                refine H_branch (rs := [10]) (by kernel_rfl) (by simp) ?_
                refine HR.cons1 (i := 10) (some 38) rfl rfl rfl (os_call2 (w3 b8 b37) Try.func34 (by decide +kernel) rfl rfl (by repeat (first | exact pk_head _ _ | apply pk_tail)) (by repeat (first | exact pk_head _ _ | apply pk_tail))) (pkn _) ?_ ?_
                · skip
                  refine H_done (by kernel_rfl) ?_
                  exact Meet.cut () trivial (by repeat (first | (with_reducible exact Ag.refl _ _) | (with_reducible assumption) | (with_reducible apply Ag.pu0) | ((with_reducible refine Ag.pu _ ?_ ?_); · exact rfl) | ((with_reducible refine Ag.mix ?_ ?_); · exact rfl) | ((with_reducible refine Ag.pus ?_ ?_); · exact rfl))) trivial (by repeat (first | exact Ent.refl _ | (apply Ent.cons; · repeat (first | exact pk_head _ _ | apply pk_tail)) | apply Ent.skip))
                exact HR.nil
              exact HR.nil
            exact HR.nil
          exact HR.nil
        refine HR.consE (i := 9) (some 37) rfl rfl rfl (os_bslv (vs := [.int .i64 (z : Nat)]) T.un63 T.ti3 (by rfl) (by rfl) rfl (by simp [Value.oneCell']) (by decide) (by decide)) ?_ ?_
        · rintro _ _ ⟨b37, rfl, rfl⟩
          refine ⟨fun _ => ⟨_, (pkn _)⟩, ?_⟩
          refine H_branch (rs := [4, 6]) (by kernel_rfl) (by simp) ?_
          refine HR.cons1 (i := 4) (some 32) rfl rfl rfl (os_call2 (w1 b8 b31) Try.func34 (by decide +kernel) rfl rfl (by repeat (first | exact pk_head _ _ | apply pk_tail)) (by repeat (first | exact pk_head _ _ | apply pk_tail))) (pkn _) ?_ ?_
          · skip
            refine H_branch (rs := [6]) (by kernel_rfl) (by simp) ?_
            refine HR.consE (i := 6) (some 34) rfl rfl rfl (os_bslv (vs := [.slice (some ⟨b33, 0, none⟩) 48 48]) T.un48 T.ti27 (by rfl) (by rfl) rfl (by simp [Value.oneCell']) (by decide) (by decide)) ?_ ?_
            · rintro _ _ ⟨b34, rfl, rfl⟩
              refine ⟨fun _ => ⟨_, (pkn _)⟩, ?_⟩
              refine H_branch (rs := [7]) (by kernel_rfl) (by simp) ?_
              refine HR.cons1 (i := 7) (some 35) rfl rfl rfl (os_callI (w2 b8 b34 b33) Try.func35 (by decide +kernel) rfl rfl (pkc (by repeat (first | exact pk_head _ _ | apply pk_tail)) (pkc (by repeat (first | exact pk_head _ _ | apply pk_tail)) (pkc (by repeat (first | exact pk_head _ _ | apply pk_tail)) (pkn _))))) (pkn _) ?_ ?_
              · skip
                refine H_branch (rs := [10]) (by kernel_rfl) (by simp) ?_
                refine HR.cons1 (i := 10) (some 38) rfl rfl rfl (os_call2 (w3 b8 b37) Try.func34 (by decide +kernel) rfl rfl (by repeat (first | exact pk_head _ _ | apply pk_tail)) (by repeat (first | exact pk_head _ _ | apply pk_tail))) (pkn _) ?_ ?_
                · skip
                  refine H_done (by kernel_rfl) ?_
                  exact Meet.cut () trivial (by repeat (first | (with_reducible exact Ag.refl _ _) | (with_reducible assumption) | (with_reducible apply Ag.pu0) | ((with_reducible refine Ag.pu _ ?_ ?_); · exact rfl) | ((with_reducible refine Ag.mix ?_ ?_); · exact rfl) | ((with_reducible refine Ag.pus ?_ ?_); · exact rfl))) trivial (by repeat (first | exact Ent.refl _ | (apply Ent.cons; · repeat (first | exact pk_head _ _ | apply pk_tail)) | apply Ent.skip))
                exact HR.nil
              exact HR.nil
            exact HR.nil
          refine HR.consE (i := 6) (some 34) rfl rfl rfl (os_bslv (vs := [.slice (some ⟨b33, 0, none⟩) 48 48]) T.un48 T.ti27 (by rfl) (by rfl) rfl (by simp [Value.oneCell']) (by decide) (by decide)) ?_ ?_
          · rintro _ _ ⟨b34, rfl, rfl⟩
            refine ⟨fun _ => ⟨_, (pkn _)⟩, ?_⟩
            refine H_branch (rs := [4]) (by kernel_rfl) (by simp) ?_
            refine HR.cons1 (i := 4) (some 32) rfl rfl rfl (os_call2 (w1 b8 b31) Try.func34 (by decide +kernel) rfl rfl (by repeat (first | exact pk_head _ _ | apply pk_tail)) (by repeat (first | exact pk_head _ _ | apply pk_tail))) (pkn _) ?_ ?_
            · skip
              refine H_branch (rs := [7]) (by kernel_rfl) (by simp) ?_
              refine HR.cons1 (i := 7) (some 35) rfl rfl rfl (os_callI (w2 b8 b34 b33) Try.func35 (by decide +kernel) rfl rfl (pkc (by repeat (first | exact pk_head _ _ | apply pk_tail)) (pkc (by repeat (first | exact pk_head _ _ | apply pk_tail)) (pkc (by repeat (first | exact pk_head _ _ | apply pk_tail)) (pkn _))))) (pkn _) ?_ ?_
              · skip
                refine H_branch (rs := [10]) (by kernel_rfl) (by simp) ?_
                refine HR.cons1 (i := 10) (some 38) rfl rfl rfl (os_call2 (w3 b8 b37) Try.func34 (by decide +kernel) rfl rfl (by repeat (first | exact pk_head _ _ | apply pk_tail)) (by repeat (first | exact pk_head _ _ | apply pk_tail))) (pkn _) ?_ ?_
                · skip
                  refine H_done (by kernel_rfl) ?_
                  exact Meet.cut () trivial (by repeat (first | (with_reducible exact Ag.refl _ _) | (with_reducible assumption) | (with_reducible apply Ag.pu0) | ((with_reducible refine Ag.pu _ ?_ ?_); · exact rfl) | ((with_reducible refine Ag.mix ?_ ?_); · exact rfl) | ((with_reducible refine Ag.pus ?_ ?_); · exact rfl))) trivial (by repeat (first | exact Ent.refl _ | (apply Ent.cons; · repeat (first | exact pk_head _ _ | apply pk_tail)) | apply Ent.skip))
                exact HR.nil
              exact HR.nil
            exact HR.nil
          exact HR.nil
        exact HR.nil
      refine HR.consE (i := 9) (some 37) rfl rfl rfl (os_bslv (vs := [.int .i64 (z : Nat)]) T.un63 T.ti3 (by rfl) (by rfl) rfl (by simp [Value.oneCell']) (by decide) (by decide)) ?_ ?_
      · rintro _ _ ⟨b37, rfl, rfl⟩
        refine ⟨fun _ => ⟨_, (pkn _)⟩, ?_⟩
        refine H_branch (rs := [4, 5]) (by kernel_rfl) (by simp) ?_
        refine HR.cons1 (i := 4) (some 32) rfl rfl rfl (os_call2 (w1 b8 b31) Try.func34 (by decide +kernel) rfl rfl (by repeat (first | exact pk_head _ _ | apply pk_tail)) (by repeat (first | exact pk_head _ _ | apply pk_tail))) (pkn _) ?_ ?_
        · skip
          refine H_branch (rs := [5]) (by kernel_rfl) (by simp) ?_
          refine HR.consE (i := 5) (some 33) rfl rfl rfl (os_zeros 48 T.un27 T.ti5 rfl rfl (by decide)) ?_ ?_
          · rintro _ _ ⟨b33, rfl, rfl⟩
            refine ⟨fun _ => ⟨_, (pkn _)⟩, ?_⟩
            refine H_branch (rs := [6]) (by kernel_rfl) (by simp) ?_
            refine HR.consE (i := 6) (some 34) rfl rfl rfl (os_bslv (vs := [.slice (some ⟨b33, 0, none⟩) 48 48]) T.un48 T.ti27 (by rfl) (by rfl) rfl (by simp [Value.oneCell']) (by decide) (by decide)) ?_ ?_
            · rintro _ _ ⟨b34, rfl, rfl⟩
              refine ⟨fun _ => ⟨_, (pkn _)⟩, ?_⟩
              refine H_branch (rs := [7]) (by kernel_rfl) (by simp) ?_
              refine HR.cons1 (i := 7) (some 35) rfl rfl rfl (os_callI (w2 b8 b34 b33) Try.func35 (by decide +kernel) rfl rfl (pkc (by repeat (first | exact pk_head _ _ | apply pk_tail)) (pkc (by repeat (first | exact pk_head _ _ | apply pk_tail)) (pkc (by repeat (first | exact pk_head _ _ | apply pk_tail)) (pkn _))))) (pkn _) ?_ ?_
              · skip
                refine H_branch (rs := [10]) (by kernel_rfl) (by simp) ?_
                refine HR.cons1 (i := 10) (some 38) rfl rfl rfl (os_call2 (w3 b8 b37) Try.func34 (by decide +kernel) rfl rfl (by repeat (first | exact pk_head _ _ | apply pk_tail)) (by repeat (first | exact pk_head _ _ | apply pk_tail))) (pkn _) ?_ ?_
                · skip
                  refine H_done (by kernel_rfl) ?_
                  exact Meet.cut () trivial (by repeat (first | (with_reducible exact Ag.refl _ _) | (with_reducible assumption) | (with_reducible apply Ag.pu0) | ((with_reducible refine Ag.pu _ ?_ ?_); · exact rfl) | ((with_reducible refine Ag.mix ?_ ?_); · exact rfl) | ((with_reducible refine Ag.pus ?_ ?_); · exact rfl))) trivial (by repeat (first | exact Ent.refl _ | (apply Ent.cons; · repeat (first | exact pk_head _ _ | apply pk_tail)) | apply Ent.skip))
                exact HR.nil
              exact HR.nil
            exact HR.nil
          exact HR.nil
        refine HR.consE (i := 5) (some 33) rfl rfl rfl (os_zeros 48 T.un27 T.ti5 rfl rfl (by decide)) ?_ ?_
        · rintro _ _ ⟨b33, rfl, rfl⟩
          refine ⟨fun _ => ⟨_, (pkn _)⟩, ?_⟩
          refine H_branch (rs := [4, 6]) (by kernel_rfl) (by simp) ?_
          refine HR.cons1 (i := 4) (some 32) rfl rfl rfl (os_call2 (w1 b8 b31) Try.func34 (by decide +kernel) rfl rfl (by repeat (first | exact pk_head _ _ | apply pk_tail)) (by repeat (first | exact pk_head _ _ | apply pk_tail))) (pkn _) ?_ ?_
          · skip
            refine H_branch (rs := [6]) (by kernel_rfl) (by simp) ?_
            refine HR.consE (i := 6) (some 34) rfl rfl rfl (os_bslv (vs := [.slice (some ⟨b33, 0, none⟩) 48 48]) T.un48 T.ti27 (by rfl) (by rfl) rfl (by simp [Value.oneCell']) (by decide) (by decide)) ?_ ?_
            · rintro _ _ ⟨b34, rfl, rfl⟩
              refine ⟨fun _ => ⟨_, (pkn _)⟩, ?_⟩
              refine H_branch (rs := [7]) (by kernel_rfl) (by simp) ?_
              refine HR.cons1 (i := 7) (some 35) rfl rfl rfl (os_callI (w2 b8 b34 b33) Try.func35 (by decide +kernel) rfl rfl (pkc (by repeat (first | exact pk_head _ _ | apply pk_tail)) (pkc (by repeat (first | exact pk_head _ _ | apply pk_tail)) (pkc (by repeat (first | exact pk_head _ _ | apply pk_tail)) (pkn _))))) (pkn _) ?_ ?_
              · skip
                refine H_branch (rs := [10]) (by kernel_rfl) (by simp) ?_
                refine HR.cons1 (i := 10) (some 38) rfl rfl rfl (os_call2 (w3 b8 b37) Try.func34 (by decide +kernel) rfl rfl (by repeat (first | exact pk_head _ _ | apply pk_tail)) (by repeat (first | exact pk_head _ _ | apply pk_tail))) (pkn _) ?_ ?_
                · skip
                  refine H_done (by kernel_rfl) ?_
                  exact Meet.cut () trivial (by repeat (first | (with_reducible exact Ag.refl _ _) | (with_reducible assumption) | (with_reducible apply Ag.pu0) | ((with_reducible refine Ag.pu _ ?_ ?_); · exact rfl) | ((with_reducible refine Ag.mix ?_ ?_); · exact rfl) | ((with_reducible refine Ag.pus ?_ ?_); · exact rfl))) trivial (by repeat (first | exact Ent.refl _ | (apply Ent.cons; · repeat (first | exact pk_head _ _ | apply pk_tail)) | apply Ent.skip))
                exact HR.nil
              exact HR.nil
            exact HR.nil
          refine HR.consE (i := 6) (some 34) rfl rfl rfl (os_bslv (vs := [.slice (some ⟨b33, 0, none⟩) 48 48]) T.un48 T.ti27 (by rfl) (by rfl) rfl (by simp [Value.oneCell']) (by decide) (by decide)) ?_ ?_
          · rintro _ _ ⟨b34, rfl, rfl⟩
            refine ⟨fun _ => ⟨_, (pkn _)⟩, ?_⟩
            refine H_branch (rs := [4]) (by kernel_rfl) (by simp) ?_
            refine HR.cons1 (i := 4) (some 32) rfl rfl rfl (os_call2 (w1 b8 b31) Try.func34 (by decide +kernel) rfl rfl (by repeat (first | exact pk_head _ _ | apply pk_tail)) (by repeat (first | exact pk_head _ _ | apply pk_tail))) (pkn _) ?_ ?_
            · skip
              refine H_branch (rs := [7]) (by kernel_rfl) (by simp) ?_
              refine HR.cons1 (i := 7) (some 35) rfl rfl rfl (os_callI (w2 b8 b34 b33) Try.func35 (by decide +kernel) rfl rfl (pkc (by repeat (first | exact pk_head _ _ | apply pk_tail)) (pkc (by repeat (first | exact pk_head _ _ | apply pk_tail)) (pkc (by repeat (first | exact pk_head _ _ | apply pk_tail)) (pkn _))))) (pkn _) ?_ ?_
              · skip
                refine H_branch (rs := [10]) (by kernel_rfl) (by simp) ?_
                refine HR.cons1 (i := 10) (some 38) rfl rfl rfl (os_call2 (w3 b8 b37) Try.func34 (by decide +kernel) rfl rfl (by repeat (first | exact pk_head _ _ | apply pk_tail)) (by repeat (first | exact pk_head _ _ | apply pk_tail))) (pkn _) ?_ ?_
                · skip
                  refine H_done (by kernel_rfl) ?_
                  exact Meet.cut () trivial (by repeat (first | (with_reducible exact Ag.refl _ _) | (with_reducible assumption) | (with_reducible apply Ag.pu0) | ((with_reducible refine Ag.pu _ ?_ ?_); · exact rfl) | ((with_reducible refine Ag.mix ?_ ?_); · exact rfl) | ((with_reducible refine Ag.pus ?_ ?_); · exact rfl))) trivial (by repeat (first | exact Ent.refl _ | (apply Ent.cons; · repeat (first | exact pk_head _ _ | apply pk_tail)) | apply Ent.skip))
                exact HR.nil
              exact HR.nil
            exact HR.nil
          exact HR.nil
        exact HR.nil
      exact HR.nil
    refine HR.consE (i := 5) (some 33) rfl rfl rfl (os_zeros 48 T.un27 T.ti5 rfl rfl (by decide)) ?_ ?_
    · rintro _ _ ⟨b33, rfl, rfl⟩
      refine ⟨fun _ => ⟨_, (pkn _)⟩, ?_⟩
      refine H_branch (rs := [3, 6, 9]) (by kernel_rfl) (by simp) ?_
      refine HR.consE (i := 3) (some 31) rfl rfl rfl (os_bslv (vs := [.int .i64 (a : Nat), .int .i64 (c : Nat), .int .i64 (m : Nat)]) T.un63 T.ti3 (by rfl) (by rfl) rfl (by simp [Value.oneCell']) (by decide) (by decide)) ?_ ?_
      · rintro _ _ ⟨b31, rfl, rfl⟩
        refine ⟨fun _ => ⟨_, (pkn _)⟩, ?_⟩
        refine H_branch (rs := [4, 6, 9]) (by kernel_rfl) (by simp) ?_
        refine HR.cons1 (i := 4) (some 32) rfl rfl rfl (os_call2 (w1 b8 b31) Try.func34 (by decide +kernel) rfl rfl (by repeat (first | exact pk_head _ _ | apply pk_tail)) (by repeat (first | exact pk_head _ _ | apply pk_tail))) (pkn _) ?_ ?_
        · skip
          refine H_branch (rs := [6, 9]) (by kernel_rfl) (by simp) ?_
          refine HR.consE (i := 6) (some 34) rfl rfl rfl (os_bslv (vs := [.slice (some ⟨b33, 0, none⟩) 48 48]) T.un48 T.ti27 (by rfl) (by rfl) rfl (by simp [Value.oneCell']) (by decide) (by decide)) ?_ ?_
          · rintro _ _ ⟨b34, rfl, rfl⟩
            refine ⟨fun _ => ⟨_, (pkn _)⟩, ?_⟩
            refine H_branch (rs := [7, 9]) (by kernel_rfl) (by simp) ?_
            refine HR.cons1 (i := 7) (some 35) rfl rfl rfl (os_callI (w2 b8 b34 b33) Try.func35 (by decide +kernel) rfl rfl (pkc (by repeat (first | exact pk_head _ _ | apply pk_tail)) (pkc (by repeat (first | exact pk_head _ _ | apply pk_tail)) (pkc (by repeat (first | exact pk_head _ _ | apply pk_tail)) (pkn _))))) (pkn _) ?_ ?_
            · skip
              refine H_branch (rs := [9]) (by kernel_rfl) (by simp) ?_
              refine HR.consE (i := 9) (some 37) rfl rfl rfl (os_bslv (vs := [.int .i64 (z : Nat)]) T.un63 T.ti3 (by rfl) (by rfl) rfl (by simp [Value.oneCell']) (by decide) (by decide)) ?_ ?_
              · rintro _ _ ⟨b37, rfl, rfl⟩
                refine ⟨fun _ => ⟨_, (pkn _)⟩, ?_⟩
                refine H_branch (rs := [10]) (by kernel_rfl) (by simp) ?_
                refine HR.cons1 (i := 10) (some 38) rfl rfl rfl (os_call2 (w3 b8 b37) Try.func34 (by decide +kernel) rfl rfl (by repeat (first | exact pk_head _ _ | apply pk_tail)) (by repeat (first | exact pk_head _ _ | apply pk_tail))) (pkn _) ?_ ?_
                · skip
                  refine H_done (by kernel_rfl) ?_
                  exact Meet.cut () trivial (by repeat (first | (with_reducible exact Ag.refl _ _) | (with_reducible assumption) | (with_reducible apply Ag.pu0) | ((with_reducible refine Ag.pu _ ?_ ?_); · exact rfl) | ((with_reducible refine Ag.mix ?_ ?_); · exact rfl) | ((with_reducible refine Ag.pus ?_ ?_); · exact rfl))) trivial (by repeat (first | exact Ent.refl _ | (apply Ent.cons; · repeat (first | exact pk_head _ _ | apply pk_tail)) | apply Ent.skip))
                exact HR.nil
              exact HR.nil
            refine HR.consE (i := 9) (some 37) rfl rfl rfl (os_bslv (vs := [.int .i64 (z : Nat)]) T.un63 T.ti3 (by rfl) (by rfl) rfl (by simp [Value.oneCell']) (by decide) (by decide)) ?_ ?_
            · rintro _ _ ⟨b37, rfl, rfl⟩
              refine ⟨fun _ => ⟨_, (pkn _)⟩, ?_⟩
              refine H_branch (rs := [7]) (by kernel_rfl) (by simp) ?_
              refine HR.cons1 (i := 7) (some 35) rfl rfl rfl (os_callI (w2 b8 b34 b33) Try.func35 (by decide +kernel) rfl rfl (pkc (by repeat (first | exact pk_head _ _ | apply pk_tail)) (pkc (by repeat (first | exact pk_head _ _ | apply pk_tail)) (pkc (by repeat (first | exact pk_head _ _ | apply pk_tail)) (pkn _))))) (pkn _) ?_ ?_
              · skip
                refine H_branch (rs := [10]) (by kernel_rfl) (by simp) ?_
                refine HR.cons1 (i := 10) (some 38) rfl rfl rfl (os_call2 (w3 b8 b37) Try.func34 (by decide +kernel) rfl rfl (by repeat (first | exact pk_head _ _ | apply pk_tail)) (by repeat (first | exact pk_head _ _ | apply pk_tail))) (pkn _) ?_ ?_
                · skip
                  refine H_done (by kernel_rfl) ?_
                  exact Meet.cut () trivial (by repeat (first | (with_reducible exact Ag.refl _ _) | (with_reducible assumption) | (with_reducible apply Ag.pu0) | ((with_reducible refine Ag.pu _ ?_ ?_); · exact rfl) | ((with_reducible refine Ag.mix ?_ ?_); · exact rfl) | ((with_reducible refine Ag.pus ?_ ?_); · exact rfl))) trivial (by repeat (first | exact Ent.refl _ | (apply Ent.cons; · repeat (first | exact pk_head _ _ | apply pk_tail)) | apply Ent.skip))
                exact HR.nil
              exact HR.nil
            exact HR.nil
          refine HR.consE (i := 9) (some 37) rfl rfl rfl (os_bslv (vs := [.int .i64 (z : Nat)]) T.un63 T.ti3 (by rfl) (by rfl) rfl (by simp [Value.oneCell']) (by decide) (by decide)) ?_ ?_
          · rintro _ _ ⟨b37, rfl, rfl⟩
            refine ⟨fun _ => ⟨_, (pkn _)⟩, ?_⟩
            refine H_branch (rs := [6]) (by kernel_rfl) (by simp) ?_
            refine HR.consE (i := 6) (some 34) rfl rfl rfl (os_bslv (vs := [.slice (some ⟨b33, 0, none⟩) 48 48]) T.un48 T.ti27 (by rfl) (by rfl) rfl (by simp [Value.oneCell']) (by decide) (by decide)) ?_ ?_
            · rintro _ _ ⟨b34, rfl, rfl⟩
              refine ⟨fun _ => ⟨_, (pkn _)⟩, ?_⟩
              refine H_branch (rs := [7]) (by kernel_rfl) (by simp) ?_
              refine HR.cons1 (i := 7) (some 35) rfl rfl rfl (os_callI (w2 b8 b34 b33) Try.func35 (by decide +kernel) rfl rfl (pkc (by repeat (first | exact pk_head _ _ | apply pk_tail)) (pkc (by repeat (first | exact pk_head _ _ | apply pk_tail)) (pkc (by repeat (first | exact pk_head _ _ | apply pk_tail)) (pkn _))))) (pkn _) ?_ ?_
              · skip
                refine H_branch (rs := [10]) (by kernel_rfl) (by simp) ?_
                refine HR.cons1 (i := 10) (some 38) rfl rfl rfl (os_call2 (w3 b8 b37) Try.func34 (by decide +kernel) rfl rfl (by repeat (first | exact pk_head _ _ | apply pk_tail)) (by repeat (first | exact pk_head _ _ | apply pk_tail))) (pkn _) ?_ ?_
                · skip
                  refine H_done (by kernel_rfl) ?_
                  exact Meet.cut () trivial (by repeat (first | (with_reducible exact Ag.refl _ _) | (with_reducible assumption) | (with_reducible apply Ag.pu0) | ((with_reducible refine Ag.pu _ ?_ ?_); · exact rfl) | ((with_reducible refine Ag.mix ?_ ?_); · exact rfl) | ((with_reducible refine Ag.pus ?_ ?_); · exact rfl))) trivial (by repeat (first | exact Ent.refl _ | (apply Ent.cons; · repeat (first | exact pk_head _ _ | apply pk_tail)) | apply Ent.skip))
                exact HR.nil
              exact HR.nil
            exact HR.nil
          exact HR.nil
        refine HR.consE (i := 6) (some 34) rfl rfl rfl (os_bslv (vs := [.slice (some ⟨b33, 0, none⟩) 48 48]) T.un48 T.ti27 (by rfl) (by rfl) rfl (by simp [Value.oneCell']) (by decide) (by decide)) ?_ ?_
        · rintro _ _ ⟨b34, rfl, rfl⟩
          refine ⟨fun _ => ⟨_, (pkn _)⟩, ?_⟩
          refine H_branch (rs := [4, 9]) (by kernel_rfl) (by simp) ?_
          refine HR.cons1 (i := 4) (some 32) rfl rfl rfl (os_call2 (w1 b8 b31) Try.func34 (by decide +kernel) rfl rfl (by repeat (first | exact pk_head _ _ | apply pk_tail)) (by repeat (first | exact pk_head _ _ | apply pk_tail))) (pkn _) ?_ ?_
          · skip
            refine H_branch (rs := [7, 9]) (by kernel_rfl) (by simp) ?_
            refine HR.cons1 (i := 7) (some 35) rfl rfl rfl (os_callI (w2 b8 b34 b33) Try.func35 (by decide +kernel) rfl rfl (pkc (by repeat (first | exact pk_head _ _ | apply pk_tail)) (pkc (by repeat (first | exact pk_head _ _ | apply pk_tail)) (pkc (by repeat (first | exact pk_head _ _ | apply pk_tail)) (pkn _))))) (pkn _) ?_ ?_
            · skip
              refine H_branch (rs := [9]) (by kernel_rfl) (by simp) ?_
              refine HR.consE (i := 9) (some 37) rfl rfl rfl (os_bslv (vs := [.int .i64 (z : Nat)]) T.un63 T.ti3 (by rfl) (by rfl) rfl (by simp [Value.oneCell']) (by decide) (by decide)) ?_ ?_
              · rintro _ _ ⟨b37, rfl, rfl⟩
                refine ⟨fun _ => ⟨_, (pkn _)⟩, ?_⟩
                refine H_branch (rs := [10]) (by kernel_rfl) (by simp) ?_
                refine HR.cons1 (i := 10) (some 38) rfl rfl rfl (os_call2 (w3 b8 b37) Try.func34 (by decide +kernel) rfl rfl (by repeat (first | exact pk_head _ _ | apply pk_tail)) (by repeat (first | exact pk_head _ _ | apply pk_tail))) (pkn _) ?_ ?_
                · skip
                  refine H_done (by kernel_rfl) ?_
                  exact Meet.cut () trivial (by repeat (first | (with_reducible exact Ag.refl _ _) | (with_reducible assumption) | (with_reducible apply Ag.pu0) | ((with_reducible refine Ag.pu _ ?_ ?_); · exact rfl) | ((with_reducible refine Ag.mix ?_ ?_); · exact rfl) | ((with_reducible refine Ag.pus ?_ ?_); · exact rfl))) trivial (by repeat (first | exact Ent.refl _ | (apply Ent.cons; · repeat (first | exact pk_head _ _ | apply pk_tail)) | apply Ent.skip))
                exact HR.nil
              exact HR.nil
            refine HR.consE (i := 9) (some 37) rfl rfl rfl (os_bslv (vs := [.int .i64 (z : Nat)]) T.un63 T.ti3 (by rfl) (by rfl) rfl (by simp [Value.oneCell']) (by decide) (by decide)) ?_ ?_
            · rintro _ _ ⟨b37, rfl, rfl⟩
              refine ⟨fun _ => ⟨_, (pkn _)⟩, ?_⟩
              refine H_branch (rs := [7]) (by kernel_rfl) (by simp) ?_
              refine HR.cons1 (i := 7) (some 35) rfl rfl rfl (os_callI (w2 b8 b34 b33) Try.func35 (by decide +kernel) rfl rfl (pkc (by repeat (first | exact pk_head _ _ | apply pk_tail)) (pkc (by repeat (first | exact pk_head _ _ | apply pk_tail)) (pkc (by repeat (first | exact pk_head _ _ | apply pk_tail)) (pkn _))))) (pkn _) ?_ ?_
              · skip
                refine H_branch (rs := [10]) (by kernel_rfl) (by simp) ?_
                refine HR.cons1 (i := 10) (some 38) rfl rfl rfl (os_call2 (w3 b8 b37) Try.func34 (by decide +kernel) rfl rfl (by repeat (first | exact pk_head _ _ | apply pk_tail)) (by repeat (first | exact pk_head _ _ | apply pk_tail))) (pkn _) ?_ ?_
                · skip
                  refine H_done (by kernel_rfl) ?_
                  exact Meet.cut () trivial (by repeat (first | (with_reducible exact Ag.refl _ _) | (with_reducible assumption) | (with_reducible apply Ag.pu0) | ((with_reducible refine Ag.pu _ ?_ ?_); · exact rfl) | ((with_reducible refine Ag.mix ?_ ?_); · exact rfl) | ((with_reducible refine Ag.pus ?_ ?_); · exact rfl))) trivial (by repeat (first | exact Ent.refl _ | (apply Ent.cons; · repeat (first | exact pk_head _ _ | apply pk_tail)) | apply Ent.skip))
                exact HR.nil
              exact HR.nil
            exact HR.nil
          refine HR.consE (i := 9) (some 37) rfl rfl rfl (os_bslv (vs := [.int .i64 (z : Nat)]) T.un63 T.ti3 (by rfl) (by rfl) rfl (by simp [Value.oneCell']) (by decide) (by decide)) ?_ ?_
          · rintro _ _ ⟨b37, rfl, rfl⟩
            refine ⟨fun _ => ⟨_, (pkn _)⟩, ?_⟩
            refine H_branch (rs := [4]) (by kernel_rfl) (by simp) ?_
            refine HR.cons1 (i := 4) (some 32) rfl rfl rfl (os_call2 (w1 b8 b31) Try.func34 (by decide +kernel) rfl rfl (by repeat (first | exact pk_head _ _ | apply pk_tail)) (by repeat (first | exact pk_head _ _ | apply pk_tail))) (pkn _) ?_ ?_
            · skip
              refine H_branch (rs := [7]) (by kernel_rfl) (by simp) ?_
              refine HR.cons1 (i := 7) (some 35) rfl rfl rfl (os_callI (w2 b8 b34 b33) Try.func35 (by decide +kernel) rfl rfl (pkc (by repeat (first | exact pk_head _ _ | apply pk_tail)) (pkc (by repeat (first | exact pk_head _ _ | apply pk_tail)) (pkc (by repeat (first | exact pk_head _ _ | apply pk_tail)) (pkn _))))) (pkn _) ?_ ?_
              · skip
                refine H_branch (rs := [10]) (by kernel_rfl) (by simp) ?_
                refine HR.cons1 (i := 10) (some 38) rfl rfl rfl (os_call2 (w3 b8 b37) Try.func34 (by decide +kernel) rfl rfl (by repeat (first | exact pk_head _ _ | apply pk_tail)) (by repeat (first | exact pk_head _ _ | apply pk_tail))) (pkn _) ?_ ?_
                · skip
                  refine H_done (by kernel_rfl) ?_
                  exact Meet.cut () trivial (by repeat (first | (with_reducible exact Ag.refl _ _) | (with_reducible assumption) | (with_reducible apply Ag.pu0) | ((with_reducible refine Ag.pu _ ?_ ?_); · exact rfl) | ((with_reducible refine Ag.mix ?_ ?_); · exact rfl) | ((with_reducible refine Ag.pus ?_ ?_); · exact rfl))) trivial (by repeat (first | exact Ent.refl _ | (apply Ent.cons; · repeat (first | exact pk_head _ _ | apply pk_tail)) | apply Ent.skip))
                exact HR.nil
              exact HR.nil
            exact HR.nil
          exact HR.nil
        refine HR.consE (i := 9) (some 37) rfl rfl rfl (os_bslv (vs := [.int .i64 (z : Nat)]) T.un63 T.ti3 (by rfl) (by rfl) rfl (by simp [Value.oneCell']) (by decide) (by decide)) ?_ ?_
        · rintro _ _ ⟨b37, rfl, rfl⟩
          refine ⟨fun _ => ⟨_, (pkn _)⟩, ?_⟩
          refine H_branch (rs := [4, 6]) (by kernel_rfl) (by simp) ?_
          refine HR.cons1 (i := 4) (some 32) rfl rfl rfl (os_call2 (w1 b8 b31) Try.func34 (by decide +kernel) rfl rfl (by repeat (first | exact pk_head _ _ | apply pk_tail)) (by repeat (first | exact pk_head _ _ | apply pk_tail))) (pkn _) ?_ ?_
          · skip
            refine H_branch (rs := [6]) (by kernel_rfl) (by simp) ?_
            refine HR.consE (i := 6) (some 34) rfl rfl rfl (os_bslv (vs := [.slice (some ⟨b33, 0, none⟩) 48 48]) T.un48 T.ti27 (by rfl) (by rfl) rfl (by simp [Value.oneCell']) (by decide) (by decide)) ?_ ?_
            · rintro _ _ ⟨b34, rfl, rfl⟩
              refine ⟨fun _ => ⟨_, (pkn _)⟩, ?_⟩
              refine H_branch (rs := [7]) (by kernel_rfl) (by simp) ?_
              refine HR.cons1 (i := 7) (some 35) rfl rfl rfl (os_callI (w2 b8 b34 b33) Try.func35 (by decide +kernel) rfl rfl (pkc (by repeat (first | exact pk_head _ _ | apply pk_tail)) (pkc (by repeat (first | exact pk_head _ _ | apply pk_tail)) (pkc (by repeat (first | exact pk_head _ _ | apply pk_tail)) (pkn _))))) (pkn _) ?_ ?_
              · skip
                refine H_branch (rs := [10]) (by kernel_rfl) (by simp) ?_
                refine HR.cons1 (i := 10) (some 38) rfl rfl rfl (os_call2 (w3 b8 b37) Try.func34 (by decide +kernel) rfl rfl (by repeat (first | exact pk_head _ _ | apply pk_tail)) (by repeat (first | exact pk_head _ _ | apply pk_tail))) (pkn _) ?_ ?_
                · skip
                  refine H_done (by kernel_rfl) ?_
                  exact Meet.cut () trivial (by repeat (first | (with_reducible exact Ag.refl _ _) | (with_reducible assumption) | (with_reducible apply Ag.pu0) | ((with_reducible refine Ag.pu _ ?_ ?_); · exact rfl) | ((with_reducible refine Ag.mix ?_ ?_); · exact rfl) | ((with_reducible refine Ag.pus ?_ ?_); · exact rfl))) trivial (by repeat (first | exact Ent.refl _ | (apply Ent.cons; · repeat (first | exact pk_head _ _ | apply pk_tail)) | apply Ent.skip))
                exact HR.nil
              exact HR.nil
            exact HR.nil
          refine HR.consE (i := 6) (some 34) rfl rfl rfl (os_bslv (vs := [.slice (some ⟨b33, 0, none⟩) 48 48]) T.un48 T.ti27 (by rfl) (by rfl) rfl (by simp [Value.oneCell']) (by decide) (by decide)) ?_ ?_
          · rintro _ _ ⟨b34, rfl, rfl⟩
            refine ⟨fun _ => ⟨_, (pkn _)⟩, ?_⟩
            refine H_branch (rs := [4]) (by kernel_rfl) (by simp) ?_
            refine HR.cons1 (i := 4) (some 32) rfl rfl rfl (os_call2 (w1 b8 b31) Try.func34 (by decide +kernel) rfl rfl (by repeat (first | exact pk_head _ _ | apply pk_tail)) (by repeat (first | exact pk_head _ _ | apply pk_tail))) (pkn _) ?_ ?_
            · skip
              refine H_branch (rs := [7]) (by kernel_rfl) (by simp) ?_
              refine HR.cons1 (i := 7) (some 35) rfl rfl rfl (os_callI (w2 b8 b34 b33) Try.func35 (by decide +kernel) rfl rfl (pkc (by repeat (first | exact pk_head _ _ | apply pk_tail)) (pkc (by repeat (first | exact pk_head _ _ | apply pk_tail)) (pkc (by repeat (first | exact pk_head _ _ | apply pk_tail)) (pkn _))))) (pkn _) ?_ ?_
              · skip
                refine H_branch (rs := [10]) (by kernel_rfl) (by simp) ?_
                refine HR.cons1 (i := 10) (some 38) rfl rfl rfl (os_call2 (w3 b8 b37) Try.func34 (by decide +kernel) rfl rfl (by repeat (first | exact pk_head _ _ | apply pk_tail)) (by repeat (first | exact pk_head _ _ | apply pk_tail))) (pkn _) ?_ ?_
                · skip
                  refine H_done (by kernel_rfl) ?_
                  exact Meet.cut () trivial (by repeat (first | (with_reducible exact Ag.refl _ _) | (with_reducible assumption) | (with_reducible apply Ag.pu0) | ((with_reducible refine Ag.pu _ ?_ ?_); · exact rfl) | ((with_reducible refine Ag.mix ?_ ?_); · exact rfl) | ((with_reducible refine Ag.pus ?_ ?_); · exact rfl))) trivial (by repeat (first | exact Ent.refl _ | (apply Ent.cons; · repeat (first | exact pk_head _ _ | apply pk_tail)) | apply Ent.skip))
                exact HR.nil
              exact HR.nil
            exact HR.nil
          exact HR.nil
        exact HR.nil
      refine HR.consE (i := 6) (some 34) rfl rfl rfl (os_bslv (vs := [.slice (some ⟨b33, 0, none⟩) 48 48]) T.un48 T.ti27 (by rfl) (by rfl) rfl (by simp [Value.oneCell']) (by decide) (by decide)) ?_ ?_
      · rintro _ _ ⟨b34, rfl, rfl⟩
        refine ⟨fun _ => ⟨_, (pkn _)⟩, ?_⟩
        refine H_branch (rs := [3, 9]) (by kernel_rfl) (by simp) ?_
        refine HR.consE (i := 3) (some 31) rfl rfl rfl (os_bslv (vs := [.int .i64 (a : Nat), .int .i64 (c : Nat), .int .i64 (m : Nat)]) T.un63 T.ti3 (by rfl) (by rfl) rfl (by simp [Value.oneCell']) (by decide) (by decide)) ?_ ?_
        · rintro _ _ ⟨b31, rfl, rfl⟩
          refine ⟨fun _ => ⟨_, (pkn _)⟩, ?_⟩
          refine H_branch (rs := [4, 9]) (by kernel_rfl) (by simp) ?_
          refine HR.cons1 (i := 4) (some 32) rfl rfl rfl (os_call2 (w1 b8 b31) Try.func34 (by decide +kernel) rfl rfl (by repeat (first | exact pk_head _ _ | apply pk_tail)) (by repeat (first | exact pk_head _ _ | apply pk_tail))) (pkn _) ?_ ?_
          · skip
            refine H_branch (rs := [7, 9]) (by kernel_rfl) (by simp) ?_
            refine HR.cons1 (i := 7) (some 35) rfl rfl rfl (os_callI (w2 b8 b34 b33) Try.func35 (by decide +kernel) rfl rfl (pkc (by repeat (first | exact pk_head _ _ | apply pk_tail)) (pkc (by repeat (first | exact pk_head _ _ | apply pk_tail)) (pkc (by repeat (first | exact pk_head _ _ | apply pk_tail)) (pkn _))))) (pkn _) ?_ ?_
            · skip
              refine H_branch (rs := [9]) (by kernel_rfl) (by simp) ?_
              refine HR.consE (i := 9) (some 37) rfl rfl rfl (os_bslv (vs := [.int .i64 (z : Nat)]) T.un63 T.ti3 (by rfl) (by rfl) rfl (by simp [Value.oneCell']) (by decide) (by decide)) ?_ ?_
              · rintro _ _ ⟨b37, rfl, rfl⟩
                refine ⟨fun _ => ⟨_, (pkn _)⟩, ?_⟩
                refine H_branch (rs := [10]) (by kernel_rfl) (by simp) ?_
                refine HR.cons1 (i := 10) (some 38) rfl rfl rfl (os_call2 (w3 b8 b37) Try.func34 (by decide +kernel) rfl rfl (by repeat (first | exact pk_head _ _ | apply pk_tail)) (by repeat (first | exact pk_head _ _ | apply pk_tail))) (pkn _) ?_ ?_
                · skip
                  refine H_done (by kernel_rfl) ?_
                  exact Meet.cut () trivial (by repeat (first | (with_reducible exact Ag.refl _ _) | (with_reducible assumption) | (with_reducible apply Ag.pu0) | ((with_reducible refine Ag.pu _ ?_ ?_); · exact rfl) | ((with_reducible refine Ag.mix ?_ ?_); · exact rfl) | ((with_reducible refine Ag.pus ?_ ?_); · exact rfl))) trivial (by repeat (first | exact Ent.refl _ | (apply Ent.cons; · repeat (first | exact pk_head _ _ | apply pk_tail)) | apply Ent.skip))
                exact HR.nil
              exact HR.nil
            refine HR.consE (i := 9) (some 37) rfl rfl rfl (os_bslv (vs := [.int .i64 (z : Nat)]) T.un63 T.ti3 (by rfl) (by rfl) rfl (by simp [Value.oneCell']) (by decide) (by decide)) ?_ ?_
            · rintro _ _ ⟨b37, rfl, rfl⟩
              refine ⟨fun _ => ⟨_, (pkn _)⟩, ?_⟩
              refine H_branch (rs := [7]) (by kernel_rfl) (by simp) ?_
              refine HR.cons1 (i := 7) (some 35) rfl rfl rfl (os_callI (w2 b8 b34 b33) Try.func35 (by decide +kernel) rfl rfl (pkc (by repeat (first | exact pk_head _ _ | apply pk_tail)) (pkc (by repeat (first | exact pk_head _ _ | apply pk_tail)) (pkc (by repeat (first | exact pk_head _ _ | apply pk_tail)) (pkn _))))) (pkn _) ?_ ?_
              · skip
                refine H_branch (rs := [10]) (by kernel_rfl) (by simp) ?_
                refine HR.cons1 (i := 10) (some 38) rfl rfl rfl (os_call2 (w3 b8 b37) Try.func34 (by decide +kernel) rfl rfl (by repeat (first | exact pk_head _ _ | apply pk_tail)) (by repeat (first | exact pk_head _ _ | apply pk_tail))) (pkn _) ?_ ?_
                · skip
                  refine H_done (by kernel_rfl) ?_
                  exact Meet.cut () trivial (by repeat (first | (with_reducible exact Ag.refl _ _) | (with_reducible assumption) | (with_reducible apply Ag.pu0) | ((with_reducible refine Ag.pu _ ?_ ?_); · exact rfl) | ((with_reducible refine Ag.mix ?_ ?_); · exact rfl) | ((with_reducible refine Ag.pus ?_ ?_); · exact rfl))) trivial (by repeat (first | exact Ent.refl _ | (apply Ent.cons; · repeat (first | exact pk_head _ _ | apply pk_tail)) | apply Ent.skip))
                exact HR.nil
              exact HR.nil
            exact HR.nil
          refine HR.consE (i := 9) (some 37) rfl rfl rfl (os_bslv (vs := [.int .i64 (z : Nat)]) T.un63 T.ti3 (by rfl) (by rfl) rfl (by simp [Value.oneCell']) (by decide) (by decide)) ?_ ?_
          · rintro _ _ ⟨b37, rfl, rfl⟩
            refine ⟨fun _ => ⟨_, (pkn _)⟩, ?_⟩
            refine H_branch (rs := [4]) (by kernel_rfl) (by simp) ?_
            refine HR.cons1 (i := 4) (some 32) rfl rfl rfl (os_call2 (w1 b8 b31) Try.func34 (by decide +kernel) rfl rfl (by repeat (first | exact pk_head _ _ | apply pk_tail)) (by repeat (first | exact pk_head _ _ | apply pk_tail))) (pkn _) ?_ ?_
            · skip
              refine H_branch (rs := [7]) (by kernel_rfl) (by simp) ?_
              refine HR.cons1 (i := 7) (some 35) rfl rfl rfl (os_callI (w2 b8 b34 b33) Try.func35 (by decide +kernel) rfl rfl (pkc (by repeat (first | exact pk_head _ _ | apply pk_tail)) (pkc (by repeat (first | exact pk_head _ _ | apply pk_tail)) (pkc (by repeat (first | exact pk_head _ _ | apply pk_tail)) (pkn _))))) (pkn _) ?_ ?_
              · skip
                refine H_branch (rs := [10]) (by kernel_rfl) (by simp) ?_
                refine HR.cons1 (i := 10) (some 38) rfl rfl rfl (os_call2 (w3 b8 b37) Try.func34 (by decide +kernel) rfl rfl (by repeat (first | exact pk_head _ _ | apply pk_tail)) (by repeat (first | exact pk_head _ _ | apply pk_tail))) (pkn _) ?_ ?_
                · skip
                  refine H_done (by kernel_rfl) ?_
                  exact Meet.cut () trivial (by repeat (first | (with_reducible exact Ag.refl _ _) | (with_reducible assumption) | (with_reducible apply Ag.pu0) | ((with_reducible refine Ag.pu _ ?_ ?_); · exact rfl) | ((with_reducible refine Ag.mix ?_ ?_); · exact rfl) | ((with_reducible refine Ag.pus ?_ ?_); · exact rfl))) trivial (by repeat (first | exact Ent.refl _ | (apply Ent.cons; · repeat (first | exact pk_head _ _ | apply pk_tail)) | apply Ent.skip))
                exact HR.nil
              exact HR.nil
            exact HR.nil
          exact HR.nil
        refine HR.consE (i := 9) (some 37) rfl rfl rfl (os_bslv (vs := [.int .i64 (z : Nat)]) T.un63 T.ti3 (by rfl) (by rfl) rfl (by simp [Value.oneCell']) (by decide) (by decide)) ?_ ?_
        · rintro _ _ ⟨b37, rfl, rfl⟩
          refine ⟨fun _ => ⟨_, (pkn _)⟩, ?_⟩
          refine H_branch (rs := [3]) (by kernel_rfl) (by simp) ?_
          refine HR.consE (i := 3) (some 31) rfl rfl rfl (os_bslv (vs := [.int .i64 (a : Nat), .int .i64 (c : Nat), .int .i64 (m : Nat)]) T.un63 T.ti3 (by rfl) (by rfl) rfl (by simp [Value.oneCell']) (by decide) (by decide)) ?_ ?_
          · rintro _ _ ⟨b31, rfl, rfl⟩
            refine ⟨fun _ => ⟨_, (pkn _)⟩, ?_⟩
            refine H_branch (rs := [4]) (by kernel_rfl) (by simp) ?_
            refine HR.cons1 (i := 4) (some 32) rfl rfl rfl (os_call2 (w1 b8 b31) Try.func34 (by decide +kernel) rfl rfl (by repeat (first | exact pk_head _ _ | apply pk_tail)) (by repeat (first | exact pk_head _ _ | apply pk_tail))) (pkn _) ?_ ?_
            · skip
              refine H_branch (rs := [7]) (by kernel_rfl) (by simp) ?_
              refine HR.cons1 (i := 7) (some 35) rfl rfl rfl (os_callI (w2 b8 b34 b33) Try.func35 (by decide +kernel) rfl rfl (pkc (by repeat (first | exact pk_head _ _ | apply pk_tail)) (pkc (by repeat (first | exact pk_head _ _ | apply pk_tail)) (pkc (by repeat (first | exact pk_head _ _ | apply pk_tail)) (pkn _))))) (pkn _) ?_ ?_
              · skip
                refine H_branch (rs := [10]) (by kernel_rfl) (by simp) ?_
                refine HR.cons1 (i := 10) (some 38) rfl rfl rfl (os_call2 (w3 b8 b37) Try.func34 (by decide +kernel) rfl rfl (by repeat (first | exact pk_head _ _ | apply pk_tail)) (by repeat (first | exact pk_head _ _ | apply pk_tail))) (pkn _) ?_ ?_
                · skip
                  refine H_done (by kernel_rfl) ?_
                  exact Meet.cut () trivial (by repeat (first | (with_reducible exact Ag.refl _ _) | (with_reducible assumption) | (with_reducible apply Ag.pu0) | ((with_reducible refine Ag.pu _ ?_ ?_); · exact rfl) | ((with_reducible refine Ag.mix ?_ ?_); · exact rfl) | ((with_reducible refine Ag.pus ?_ ?_); · exact rfl))) trivial (by repeat (first | exact Ent.refl _ | (apply Ent.cons; · repeat (first | exact pk_head _ _ | apply pk_tail)) | apply Ent.skip))
                exact HR.nil
              exact HR.nil
            exact HR.nil
          exact HR.nil
        exact HR.nil
      refine HR.consE (i := 9) (some 37) rfl rfl rfl (os_bslv (vs := [.int .i64 (z : Nat)]) T.un63 T.ti3 (by rfl) (by rfl) rfl (by simp [Value.oneCell']) (by decide) (by decide)) ?_ ?_
      · rintro _ _ ⟨b37, rfl, rfl⟩
        refine ⟨fun _ => ⟨_, (pkn _)⟩, ?_⟩
        refine H_branch (rs := [3, 6]) (by kernel_rfl) (by simp) ?_
        refine HR.consE (i := 3) (some 31) rfl rfl rfl (os_bslv (vs := [.int .i64 (a : Nat), .int .i64 (c : Nat), .int .i64 (m : Nat)]) T.un63 T.ti3 (by rfl) (by rfl) rfl (by simp [Value.oneCell']) (by decide) (by decide)) ?_ ?_
        · rintro _ _ ⟨b31, rfl, rfl⟩
          refine ⟨fun _ => ⟨_, (pkn _)⟩, ?_⟩
          refine H_branch (rs := [4, 6]) (by kernel_rfl) (by simp) ?_
          refine HR.cons1 (i := 4) (some 32) rfl rfl rfl (os_call2 (w1 b8 b31) Try.func34 (by decide +kernel) rfl rfl (by repeat (first | exact pk_head _ _ | apply pk_tail)) (by repeat (first | exact pk_head _ _ | apply pk_tail))) (pkn _) ?_ ?_
          · skip
            refine H_branch (rs := [6]) (by kernel_rfl) (by simp) ?_
            refine HR.consE (i := 6) (some 34) rfl rfl rfl (os_bslv (vs := [.slice (some ⟨b33, 0, none⟩) 48 48]) T.un48 T.ti27 (by rfl) (by rfl) rfl (by simp [Value.oneCell']) (by decide) (by decide)) ?_ ?_
            · rintro _ _ ⟨b34, rfl, rfl⟩
              refine ⟨fun _ => ⟨_, (pkn _)⟩, ?_⟩
              refine H_branch (rs := [7]) (by kernel_rfl) (by simp) ?_
              refine HR.cons1 (i := 7) (some 35) rfl rfl rfl (os_callI (w2 b8 b34 b33) Try.func35 (by decide +kernel) rfl rfl (pkc (by repeat (first | exact pk_head _ _ | apply pk_tail)) (pkc (by repeat (first | exact pk_head _ _ | apply pk_tail)) (pkc (by repeat (first | exact pk_head _ _ | apply pk_tail)) (pkn _))))) (pkn _) ?_ ?_
              · skip
                refine H_branch (rs := [10]) (by kernel_rfl) (by simp) ?_
                refine HR.cons1 (i := 10) (some 38) rfl rfl rfl (os_call2 (w3 b8 b37) Try.func34 (by decide +kernel) rfl rfl (by repeat (first | exact pk_head _ _ | apply pk_tail)) (by repeat (first | exact pk_head _ _ | apply pk_tail))) (pkn _) ?_ ?_
                · skip
                  refine H_done (by kernel_rfl) ?_
                  exact Meet.cut () trivial (by repeat (first | (with_reducible exact Ag.refl _ _) | (with_reducible assumption) | (with_reducible apply Ag.pu0) | ((with_reducible refine Ag.pu _ ?_ ?_); · exact rfl) | ((with_reducible refine Ag.mix ?_ ?_); · exact rfl) | ((with_reducible refine Ag.pus ?_ ?_); · exact rfl))) trivial (by repeat (first | exact Ent.refl _ | (apply Ent.cons; · repeat (first | exact pk_head _ _ | apply pk_tail)) | apply Ent.skip))
                exact HR.nil
              exact HR.nil
            exact HR.nil
          refine HR.consE (i := 6) (some 34) rfl rfl rfl (os_bslv (vs := [.slice (some ⟨b33, 0, none⟩) 48 48]) T.un48 T.ti27 (by rfl) (by rfl) rfl (by simp [Value.oneCell']) (by decide) (by decide)) ?_ ?_
          · rintro _ _ ⟨b34, rfl, rfl⟩
            refine ⟨fun _ => ⟨_, (pkn _)⟩, ?_⟩
            refine H_branch (rs := [4]) (by kernel_rfl) (by simp) ?_
            refine HR.cons1 (i := 4) (some 32) rfl rfl rfl (os_call2 (w1 b8 b31) Try.func34 (by decide +kernel) rfl rfl (by repeat (first | exact pk_head _ _ | apply pk_tail)) (by repeat (first | exact pk_head _ _ | apply pk_tail))) (pkn _) ?_ ?_
            · skip
              refine H_branch (rs := [7]) (by kernel_rfl) (by simp) ?_
              refine HR.cons1 (i := 7) (some 35) rfl rfl rfl (os_callI (w2 b8 b34 b33) Try.func35 (by decide +kernel) rfl rfl (pkc (by repeat (first | exact pk_head _ _ | apply pk_tail)) (pkc (by repeat (first | exact pk_head _ _ | apply pk_tail)) (pkc (by repeat (first | exact pk_head _ _ | apply pk_tail)) (pkn _))))) (pkn _) ?_ ?_
              · skip
                refine H_branch (rs := [10]) (by kernel_rfl) (by simp) ?_
                refine HR.cons1 (i := 10) (some 38) rfl rfl rfl (os_call2 (w3 b8 b37) Try.func34 (by decide +kernel) rfl rfl (by repeat (first | exact pk_head _ _ | apply pk_tail)) (by repeat (first | exact pk_head _ _ | apply pk_tail))) (pkn _) ?_ ?_
                · skip
                  refine H_done (by kernel_rfl) ?_
                  exact Meet.cut () trivial (by repeat (first | (with_reducible exact Ag.refl _ _) | (with_reducible assumption) | (with_reducible apply Ag.pu0) | ((with_reducible refine Ag.pu _ ?_ ?_); · exact rfl) | ((with_reducible refine Ag.mix ?_ ?_); · exact rfl) | ((with_reducible refine Ag.pus ?_ ?_); · exact rfl))) trivial (by repeat (first | exact Ent.refl _ | (apply Ent.cons; · repeat (first | exact pk_head _ _ | apply pk_tail)) | apply Ent.skip))
                exact HR.nil
              exact HR.nil
            exact HR.nil
          exact HR.nil
        refine HR.consE (i := 6) (some 34) rfl rfl rfl (os_bslv (vs := [.slice (some ⟨b33, 0, none⟩) 48 48]) T.un48 T.ti27 (by rfl) (by rfl) rfl (by simp [Value.oneCell']) (by decide) (by decide)) ?_ ?_
        · rintro _ _ ⟨b34, rfl, rfl⟩
          refine ⟨fun _ => ⟨_, (pkn _)⟩, ?_⟩
          refine H_branch (rs := [3]) (by kernel_rfl) (by simp) ?_
          refine HR.consE (i := 3) (some 31) rfl rfl rfl (os_bslv (vs := [.int .i64 (a : Nat), .int .i64 (c : Nat), .int .i64 (m : Nat)]) T.un63 T.ti3 (by rfl) (by rfl) rfl (by simp [Value.oneCell']) (by decide) (by decide)) ?_ ?_
          · rintro _ _ ⟨b31, rfl, rfl⟩
            refine ⟨fun _ => ⟨_, (pkn _)⟩, ?_⟩
            refine H_branch (rs := [4]) (by kernel_rfl) (by simp) ?_
            refine HR.cons1 (i := 4) (some 32) rfl rfl rfl (os_call2 (w1 b8 b31) Try.func34 (by decide +kernel) rfl rfl (by repeat (first | exact pk_head _ _ | apply pk_tail)) (by repeat (first | exact pk_head _ _ | apply pk_tail))) (pkn _) ?_ ?_
            · skip
              refine H_branch (rs := [7]) (by kernel_rfl) (by simp) ?_
              refine HR.cons1 (i := 7) (some 35) rfl rfl rfl (os_callI (w2 b8 b34 b33) Try.func35 (by decide +kernel) rfl rfl (pkc (by repeat (first | exact pk_head _ _ | apply pk_tail)) (pkc (by repeat (first | exact pk_head _ _ | apply pk_tail)) (pkc (by repeat (first | exact pk_head _ _ | apply pk_tail)) (pkn _))))) (pkn _) ?_ ?_
              · skip
                refine H_branch (rs := [10]) (by kernel_rfl) (by simp) ?_
                refine HR.cons1 (i := 10) (some 38) rfl rfl rfl (os_call2 (w3 b8 b37) Try.func34 (by decide +kernel) rfl rfl (by repeat (first | exact pk_head _ _ | apply pk_tail)) (by repeat (first | exact pk_head _ _ | apply pk_tail))) (pkn _) ?_ ?_
                · skip
                  refine H_done (by kernel_rfl) ?_
                  exact Meet.cut () trivial (by repeat (first | (with_reducible exact Ag.refl _ _) | (with_reducible assumption) | (with_reducible apply Ag.pu0) | ((with_reducible refine Ag.pu _ ?_ ?_); · exact rfl) | ((with_reducible refine Ag.mix ?_ ?_); · exact rfl) | ((with_reducible refine Ag.pus ?_ ?_); · exact rfl))) trivial (by repeat (first | exact Ent.refl _ | (apply Ent.cons; · repeat (first | exact pk_head _ _ | apply pk_tail)) | apply Ent.skip))
                exact HR.nil
              exact HR.nil
            exact HR.nil
          exact HR.nil
        exact HR.nil
      exact HR.nil
    refine HR.consE (i := 9) (some 37) rfl rfl rfl (os_bslv (vs := [.int .i64 (z : Nat)]) T.un63 T.ti3 (by rfl) (by rfl) rfl (by simp [Value.oneCell']) (by decide) (by decide)) ?_ ?_
    · rintro _ _ ⟨b37, rfl, rfl⟩
      refine ⟨fun _ => ⟨_, (pkn _)⟩, ?_⟩
      refine H_branch (rs := [3, 5]) (by kernel_rfl) (by simp) ?_
      refine HR.consE (i := 3) (some 31) rfl rfl rfl (os_bslv (vs := [.int .i64 (a : Nat), .int .i64 (c : Nat), .int .i64 (m : Nat)]) T.un63 T.ti3 (by rfl) (by rfl) rfl (by simp [Value.oneCell']) (by decide) (by decide)) ?_ ?_
      · rintro _ _ ⟨b31, rfl, rfl⟩
        refine ⟨fun _ => ⟨_, (pkn _)⟩, ?_⟩
        refine H_branch (rs := [4, 5]) (by kernel_rfl) (by simp) ?_
        refine HR.cons1 (i := 4) (some 32) rfl rfl rfl (os_call2 (w1 b8 b31) Try.func34 (by decide +kernel) rfl rfl (by repeat (first | exact pk_head _ _ | apply pk_tail)) (by repeat (first | exact pk_head _ _ | apply pk_tail))) (pkn _) ?_ ?_
        · skip
          refine H_branch (rs := [5]) (by kernel_rfl) (by simp) ?_
          refine HR.consE (i := 5) (some 33) rfl rfl rfl (os_zeros 48 T.un27 T.ti5 rfl rfl (by decide)) ?_ ?_
          · rintro _ _ ⟨b33, rfl, rfl⟩
            refine ⟨fun _ => ⟨_, (pkn _)⟩, ?_⟩
            refine H_branch (rs := [6]) (by kernel_rfl) (by simp) ?_
            refine HR.consE (i := 6) (some 34) rfl rfl rfl (os_bslv (vs := [.slice (some ⟨b33, 0, none⟩) 48 48]) T.un48 T.ti27 (by rfl) (by rfl) rfl (by simp [Value.oneCell']) (by decide) (by decide)) ?_ ?_
            · rintro _ _ ⟨b34, rfl, rfl⟩
              refine ⟨fun _ => ⟨_, (pkn _)⟩, ?_⟩
              refine H_branch (rs := [7]) (by kernel_rfl) (by simp) ?_
              refine HR.cons1 (i := 7) (some 35) rfl rfl rfl (os_callI (w2 b8 b34 b33) Try.func35 (by decide +kernel) rfl rfl (pkc (by repeat (first | exact pk_head _ _ | apply pk_tail)) (pkc (by repeat (first | exact pk_head _ _ | apply pk_tail)) (pkc (by repeat (first | exact pk_head _ _ | apply pk_tail)) (pkn _))))) (pkn _) ?_ ?_
              · skip
                refine H_branch (rs := [10]) (by kernel_rfl) (by simp) ?_
                refine HR.cons1 (i := 10) (some 38) rfl rfl rfl (os_call2 (w3 b8 b37) Try.func34 (by decide +kernel) rfl rfl (by repeat (first | exact pk_head _ _ | apply pk_tail)) (by repeat (first | exact pk_head _ _ | apply pk_tail))) (pkn _) ?_ ?_
                · skip
                  refine H_done (by kernel_rfl) ?_
                  exact Meet.cut () trivial (by repeat (first | (with_reducible exact Ag.refl _ _) | (with_reducible assumption) | (with_reducible apply Ag.pu0) | ((with_reducible refine Ag.pu _ ?_ ?_); · exact rfl) | ((with_reducible refine Ag.mix ?_ ?_); · exact rfl) | ((with_reducible refine Ag.pus ?_ ?_); · exact rfl))) trivial (by repeat (first | exact Ent.refl _ | (apply Ent.cons; · repeat (first | exact pk_head _ _ | apply pk_tail)) | apply Ent.skip))
                exact HR.nil
              exact HR.nil
            exact HR.nil
          exact HR.nil
        refine HR.consE (i := 5) (some 33) rfl rfl rfl (os_zeros 48 T.un27 T.ti5 rfl rfl (by decide)) ?_ ?_
        · rintro _ _ ⟨b33, rfl, rfl⟩
          refine ⟨fun _ => ⟨_, (pkn _)⟩, ?_⟩
          refine H_branch (rs := [4, 6]) (by kernel_rfl) (by simp) ?_
          refine HR.cons1 (i := 4) (some 32) rfl rfl rfl (os_call2 (w1 b8 b31) Try.func34 (by decide +kernel) rfl rfl (by repeat (first | exact pk_head _ _ | apply pk_tail)) (by repeat (first | exact pk_head _ _ | apply pk_tail))) (pkn _) ?_ ?_
          · skip
            refine H_branch (rs := [6]) (by kernel_rfl) (by simp) ?_
            refine HR.consE (i := 6) (some 34) rfl rfl rfl (os_bslv (vs := [.slice (some ⟨b33, 0, none⟩) 48 48]) T.un48 T.ti27 (by rfl) (by rfl) rfl (by simp [Value.oneCell']) (by decide) (by decide)) ?_ ?_
            · rintro _ _ ⟨b34, rfl, rfl⟩
              refine ⟨fun _ => ⟨_, (pkn _)⟩, ?_⟩
              refine H_branch (rs := [7]) (by kernel_rfl) (by simp) ?_
              refine HR.cons1 (i := 7) (some 35) rfl rfl rfl (os_callI (w2 b8 b34 b33) Try.func35 (by decide +kernel) rfl rfl (pkc (by repeat (first | exact pk_head _ _ | apply pk_tail)) (pkc (by repeat (first | exact pk_head _ _ | apply pk_tail)) (pkc (by repeat (first | exact pk_head _ _ | apply pk_tail)) (pkn _))))) (pkn _) ?_ ?_
              · skip
                refine H_branch (rs := [10]) (by kernel_rfl) (by simp) ?_
                refine HR.cons1 (i := 10) (some 38) rfl rfl rfl (os_call2 (w3 b8 b37) Try.func34 (by decide +kernel) rfl rfl (by repeat (first | exact pk_head _ _ | apply pk_tail)) (by repeat (first | exact pk_head _ _ | apply pk_tail))) (pkn _) ?_ ?_
                · skip
                  refine H_done (by kernel_rfl) ?_
                  exact Meet.cut () trivial (by repeat (first | (with_reducible exact Ag.refl _ _) | (with_reducible assumption) | (with_reducible apply Ag.pu0) | ((with_reducible refine Ag.pu _ ?_ ?_); · exact rfl) | ((with_reducible refine Ag.mix ?_ ?_); · exact rfl) | ((with_reducible refine Ag.pus ?_ ?_); · exact rfl))) trivial (by repeat (first | exact Ent.refl _ | (apply Ent.cons; · repeat (first | exact pk_head _ _ | apply pk_tail)) | apply Ent.skip))
                exact HR.nil
              exact HR.nil
            exact HR.nil
          refine HR.consE (i := 6) (some 34) rfl rfl rfl (os_bslv (vs := [.slice (some ⟨b33, 0, none⟩) 48 48]) T.un48 T.ti27 (by rfl) (by rfl) rfl (by simp [Value.oneCell']) (by decide) (by decide)) ?_ ?_
          · rintro _ _ ⟨b34, rfl, rfl⟩
            refine ⟨fun _ => ⟨_, (pkn _)⟩, ?_⟩
            refine H_branch (rs := [4]) (by kernel_rfl) (by simp) ?_
            refine HR.cons1 (i := 4) (some 32) rfl rfl rfl (os_call2 (w1 b8 b31) Try.func34 (by decide +kernel) rfl rfl (by repeat (first | exact pk_head _ _ | apply pk_tail)) (by repeat (first | exact pk_head _ _ | apply pk_tail))) (pkn _) ?_ ?_
            · skip
              refine H_branch (rs := [7]) (by kernel_rfl) (by simp) ?_
              refine HR.cons1 (i := 7) (some 35) rfl rfl rfl (os_callI (w2 b8 b34 b33) Try.func35 (by decide +kernel) rfl rfl (pkc (by repeat (first | exact pk_head _ _ | apply pk_tail)) (pkc (by repeat (first | exact pk_head _ _ | apply pk_tail)) (pkc (by repeat (first | exact pk_head _ _ | apply pk_tail)) (pkn _))))) (pkn _) ?_ ?_
              · skip
                refine H_branch (rs := [10]) (by kernel_rfl) (by simp) ?_
                refine HR.cons1 (i := 10) (some 38) rfl rfl rfl (os_call2 (w3 b8 b37) Try.func34 (by decide +kernel) rfl rfl (by repeat (first | exact pk_head _ _ | apply pk_tail)) (by repeat (first | exact pk_head _ _ | apply pk_tail))) (pkn _) ?_ ?_
                · skip
                  refine H_done (by kernel_rfl) ?_
                  exact Meet.cut () trivial (by repeat (first | (with_reducible exact Ag.refl _ _) | (with_reducible assumption) | (with_reducible apply Ag.pu0) | ((with_reducible refine Ag.pu _ ?_ ?_); · exact rfl) | ((with_reducible refine Ag.mix ?_ ?_); · exact rfl) | ((with_reducible refine Ag.pus ?_ ?_); · exact rfl))) trivial (by repeat (first | exact Ent.refl _ | (apply Ent.cons; · repeat (first | exact pk_head _ _ | apply pk_tail)) | apply Ent.skip))
                exact HR.nil
              exact HR.nil
            exact HR.nil
          exact HR.nil
        exact HR.nil
      refine HR.consE (i := 5) (some 33) rfl rfl rfl (os_zeros 48 T.un27 T.ti5 rfl rfl (by decide)) ?_ ?_
      · rintro _ _ ⟨b33, rfl, rfl⟩
        refine ⟨fun _ => ⟨_, (pkn _)⟩, ?_⟩
        refine H_branch (rs := [3, 6]) (by kernel_rfl) (by simp) ?_
        refine HR.consE (i := 3) (some 31) rfl rfl rfl (os_bslv (vs := [.int .i64 (a : Nat), .int .i64 (c : Nat), .int .i64 (m : Nat)]) T.un63 T.ti3 (by rfl) (by rfl) rfl (by simp [Value.oneCell']) (by decide) (by decide)) ?_ ?_
        · rintro _ _ ⟨b31, rfl, rfl⟩
          refine ⟨fun _ => ⟨_, (pkn _)⟩, ?_⟩
          refine H_branch (rs := [4, 6]) (by kernel_rfl) (by simp) ?_
          refine HR.cons1 (i := 4) (some 32) rfl rfl rfl (os_call2 (w1 b8 b31) Try.func34 (by decide +kernel) rfl rfl (by repeat (first | exact pk_head _ _ | apply pk_tail)) (by repeat (first | exact pk_head _ _ | apply pk_tail))) (pkn _) ?_ ?_
          · skip
            refine H_branch (rs := [6]) (by kernel_rfl) (by simp) ?_
            refine HR.consE (i := 6) (some 34) rfl rfl rfl (os_bslv (vs := [.slice (some ⟨b33, 0, none⟩) 48 48]) T.un48 T.ti27 (by rfl) (by rfl) rfl (by simp [Value.oneCell']) (by decide) (by decide)) ?_ ?_
            · rintro _ _ ⟨b34, rfl, rfl⟩
              refine ⟨fun _ => ⟨_, (pkn _)⟩, ?_⟩
              refine H_branch (rs := [7]) (by kernel_rfl) (by simp) ?_
              refine HR.cons1 (i := 7) (some 35) rfl rfl rfl (os_callI (w2 b8 b34 b33) Try.func35 (by decide +kernel) rfl rfl (pkc (by repeat (first | exact pk_head _ _ | apply pk_tail)) (pkc (by repeat (first | exact pk_head _ _ | apply pk_tail)) (pkc (by repeat (first | exact pk_head _ _ | apply pk_tail)) (pkn _))))) (pkn _) ?_ ?_
              · skip
                refine H_branch (rs := [10]) (by kernel_rfl) (by simp) ?_
                refine HR.cons1 (i := 10) (some 38) rfl rfl rfl (os_call2 (w3 b8 b37) Try.func34 (by decide +kernel) rfl rfl (by repeat (first | exact pk_head _ _ | apply pk_tail)) (by repeat (first | exact pk_head _ _ | apply pk_tail))) (pkn _) ?_ ?_
                · skip
                  refine H_done (by kernel_rfl) ?_
                  exact Meet.cut () trivial (by repeat (first | (with_reducible exact Ag.refl _ _) | (with_reducible assumption) | (with_reducible apply Ag.pu0) | ((with_reducible refine Ag.pu _ ?_ ?_); · exact rfl) | ((with_reducible refine Ag.mix ?_ ?_); · exact rfl) | ((with_reducible refine Ag.pus ?_ ?_); · exact rfl))) trivial (by repeat (first | exact Ent.refl _ | (apply Ent.cons; · repeat (first | exact pk_head _ _ | apply pk_tail)) | apply Ent.skip))
                exact HR.nil
              exact HR.nil
            exact HR.nil
          refine HR.consE (i := 6) (some 34) rfl rfl rfl (os_bslv (vs := [.slice (some ⟨b33, 0, none⟩) 48 48]) T.un48 T.ti27 (by rfl) (by rfl) rfl (by simp [Value.oneCell']) (by decide) (by decide)) ?_ ?_
          · rintro _ _ ⟨b34, rfl, rfl⟩
            refine ⟨fun _ => ⟨_, (pkn _)⟩, ?_⟩
            refine H_branch (rs := [4]) (by kernel_rfl) (by simp) ?_
            refine HR.cons1 (i := 4) (some 32) rfl rfl rfl (os_call2 (w1 b8 b31) Try.func34 (by decide +kernel) rfl rfl (by repeat (first | exact pk_head _ _ | apply pk_tail)) (by repeat (first | exact pk_head _ _ | apply pk_tail))) (pkn _) ?_ ?_
            · skip
              refine H_branch (rs := [7]) (by kernel_rfl) (by simp) ?_
              refine HR.cons1 (i := 7) (some 35) rfl rfl rfl (os_callI (w2 b8 b34 b33) Try.func35 (by decide +kernel) rfl rfl (pkc (by repeat (first | exact pk_head _ _ | apply pk_tail)) (pkc (by repeat (first | exact pk_head _ _ | apply pk_tail)) (pkc (by repeat (first | exact pk_head _ _ | apply pk_tail)) (pkn _))))) (pkn _) ?_ ?_
              · skip
                refine H_branch (rs := [10]) (by kernel_rfl) (by simp) ?_
                refine HR.cons1 (i := 10) (some 38) rfl rfl rfl (os_call2 (w3 b8 b37) Try.func34 (by decide +kernel) rfl rfl (by repeat (first | exact pk_head _ _ | apply pk_tail)) (by repeat (first | exact pk_head _ _ | apply pk_tail))) (pkn _) ?_ ?_
                · skip
                  refine H_done (by kernel_rfl) ?_
                  exact Meet.cut () trivial (by repeat (first | (with_reducible exact Ag.refl _ _) | (with_reducible assumption) | (with_reducible apply Ag.pu0) | ((with_reducible refine Ag.pu _ ?_ ?_); · exact rfl) | ((with_reducible refine Ag.mix ?_ ?_); · exact rfl) | ((with_reducible refine Ag.pus ?_ ?_); · exact rfl))) trivial (by repeat (first | exact Ent.refl _ | (apply Ent.cons; · repeat (first | exact pk_head _ _ | apply pk_tail)) | apply Ent.skip))
                exact HR.nil
              exact HR.nil
            exact HR.nil
          exact HR.nil
        refine HR.consE (i := 6) (some 34) rfl rfl rfl (os_bslv (vs := [.slice (some ⟨b33, 0, none⟩) 48 48]) T.un48 T.ti27 (by rfl) (by rfl) rfl (by simp [Value.oneCell']) (by decide) (by decide)) ?_ ?_
        · rintro _ _ ⟨b34, rfl, rfl⟩
          refine ⟨fun _ => ⟨_, (pkn _)⟩, ?_⟩
          refine H_branch (rs := [3]) (by kernel_rfl) (by simp) ?_
          refine HR.consE (i := 3) (some 31) rfl rfl rfl (os_bslv (vs := [.int .i64 (a : Nat), .int .i64 (c : Nat), .int .i64 (m : Nat)]) T.un63 T.ti3 (by rfl) (by rfl) rfl (by simp [Value.oneCell']) (by decide) (by decide)) ?_ ?_
          · rintro _ _ ⟨b31, rfl, rfl⟩
            refine ⟨fun _ => ⟨_, (pkn _)⟩, ?_⟩
            refine H_branch (rs := [4]) (by kernel_rfl) (by simp) ?_
            refine HR.cons1 (i := 4) (some 32) rfl rfl rfl (os_call2 (w1 b8 b31) Try.func34 (by decide +kernel) rfl rfl (by repeat (first | exact pk_head _ _ | apply pk_tail)) (by repeat (first | exact pk_head _ _ | apply pk_tail))) (pkn _) ?_ ?_
            · skip
              refine H_branch (rs := [7]) (by kernel_rfl) (by simp) ?_
              refine HR.cons1 (i := 7) (some 35) rfl rfl rfl (os_callI (w2 b8 b34 b33) Try.func35 (by decide +kernel) rfl rfl (pkc (by repeat (first | exact pk_head _ _ | apply pk_tail)) (pkc (by repeat (first | exact pk_head _ _ | apply pk_tail)) (pkc (by repeat (first | exact pk_head _ _ | apply pk_tail)) (pkn _))))) (pkn _) ?_ ?_
              · skip
                refine H_branch (rs := [10]) (by kernel_rfl) (by simp) ?_
                refine HR.cons1 (i := 10) (some 38) rfl rfl rfl (os_call2 (w3 b8 b37) Try.func34 (by decide +kernel) rfl rfl (by repeat (first | exact pk_head _ _ | apply pk_tail)) (by repeat (first | exact pk_head _ _ | apply pk_tail))) (pkn _) ?_ ?_
                · skip
                  refine H_done (by kernel_rfl) ?_
                  exact Meet.cut () trivial (by repeat (first | (with_reducible exact Ag.refl _ _) | (with_reducible assumption) | (with_reducible apply Ag.pu0) | ((with_reducible refine Ag.pu _ ?_ ?_); · exact rfl) | ((with_reducible refine Ag.mix ?_ ?_); · exact rfl) | ((with_reducible refine Ag.pus ?_ ?_); · exact rfl))) trivial (by repeat (first | exact Ent.refl _ | (apply Ent.cons; · repeat (first | exact pk_head _ _ | apply pk_tail)) | apply Ent.skip))
                exact HR.nil
              exact HR.nil
            exact HR.nil
          exact HR.nil
        exact HR.nil
      exact HR.nil
    exact HR.nil
  rintro _ _ _
  repeat (first | refine CW.seq ?_ | refine PW.then_ ?_ | refine PW.then_to rfl ?_ | refine CW.block ?_ | refine CW.skip ?_ | refine CW.ret ?_ | refine PW.then_ret ?_ | refine PW.block_ret ?_ | refine Cut.ret ?_ | refine Rnd.ret ?_ | refine PW.block_normal ?_ | refine CW.exit ?_ | refine PW.then_exit ?_ | refine PW.block_hit ?_ | refine PW.block_miss rfl ?_ | refine Cut.exit ?_ | refine Rnd.exit ?_ | refine CW.scope ?_ | refine CW.label ?_ | refine PW.scope_normal ?_ | refine PW.scope_ret ?_ | refine PW.scope_exit ?_)
  refine CW.region ?_
  refine L1 (ps_move rfl).os ?_
  refine LE (os_call (wb b8) Try.func36 (by decide +kernel) rfl rfl (pkc (by repeat (first | exact pk_head _ _ | apply pk_tail)) (pkn _))) ?_
  rintro _ _ ⟨_, ⟨q40, d40, rfl, rfl⟩, rfl⟩
  refine slOwn_info (m := 64) (q := q40) (d := d40) (xs := bv X) (by repeat (first | exact pk_head _ _ | apply pk_tail)) fun o1 o2 o3 => ?_
  refine L1 (os_call2 (hwr p q40 d40 o1 o3) Try.func18 (by decide +kernel) rfl rfl (by repeat (first | exact pk_head _ _ | apply pk_tail)) (by repeat (first | exact pk_head _ _ | apply pk_tail))) ?_
  refine LW.nil ?_
  repeat (first | refine CW.seq ?_ | refine PW.then_ ?_ | refine PW.then_to rfl ?_ | refine CW.block ?_ | refine CW.skip ?_ | refine CW.ret ?_ | refine PW.then_ret ?_ | refine PW.block_ret ?_ | refine Cut.ret ?_ | refine Rnd.ret ?_ | refine PW.block_normal ?_ | refine CW.exit ?_ | refine PW.then_exit ?_ | refine PW.block_hit ?_ | refine PW.block_miss rfl ?_ | refine Cut.exit ?_ | refine Rnd.exit ?_ | refine CW.scope ?_ | refine CW.label ?_ | refine PW.scope_normal ?_ | refine PW.scope_ret ?_ | refine PW.scope_exit ?_)
  refine CW.region ?_
  refine L1 (ps_move rfl).os ?_
  refine L1 (os_call1 (hfl p) Try.func23 (by decide +kernel) rfl rfl (by repeat (first | exact pk_head _ _ | apply pk_tail))) ?_
  refine LW.nil ?_
  repeat (first | refine CW.seq ?_ | refine PW.then_ ?_ | refine PW.then_to rfl ?_ | refine CW.block ?_ | refine CW.skip ?_ | refine CW.ret ?_ | refine PW.then_ret ?_ | refine PW.block_ret ?_ | refine Cut.ret ?_ | refine Rnd.ret ?_ | refine PW.block_normal ?_ | refine CW.exit ?_ | refine PW.then_exit ?_ | refine PW.block_hit ?_ | refine PW.block_miss rfl ?_ | refine Cut.exit ?_ | refine Rnd.exit ?_ | refine CW.scope ?_ | refine CW.label ?_ | refine PW.scope_normal ?_ | refine PW.scope_ret ?_ | refine PW.scope_exit ?_)
  refine CW.region ?_
  refine L1 (ps_move rfl).os ?_
  refine LE (os_call (hop p) Try.func29 (by decide +kernel) rfl rfl (pkc (by repeat (first | exact pk_head _ _ | apply pk_tail)) (pkn _))) ?_
  rintro _ _ ⟨_, ⟨w2, es2, q2, d2, e3, e4, rfl, rfl⟩, rfl⟩
  refine L1 (ps_move rfl).os ?_
  refine L1 (ps_extract rfl rfl).os ?_
  refine L1 (ps_extract rfl rfl).os ?_
  refine L1 (ps_extract rfl rfl).os ?_
  refine L1 (ps_assign rfl).os ?_
  refine L1 (ps_assign rfl).os ?_
  refine L1 (ps_assign rfl).os ?_
  refine LW.nil ?_
  unfold OutA
  have hem := e3.trans hR
  repeat (first | refine CW.seq ?_ | refine PW.then_ ?_ | refine PW.then_to rfl ?_ | refine CW.block ?_ | refine CW.skip ?_ | refine CW.ret ?_ | refine PW.then_ret ?_ | refine PW.block_ret ?_ | refine Cut.ret ?_ | refine Rnd.ret ?_ | refine PW.block_normal ?_ | refine CW.exit ?_ | refine PW.then_exit ?_ | refine PW.block_hit ?_ | refine PW.block_miss rfl ?_ | refine Cut.exit ?_ | refine Rnd.exit ?_ | refine CW.scope ?_ | refine CW.label ?_ | refine PW.scope_normal ?_ | refine PW.scope_ret ?_ | refine PW.scope_exit ?_)
  refine CW.cutB (α := Unit) [12, 50, 51, 52, 53, 54, 55, 56, 57, 58, 59, 60, 61, 62, 63, 64] (fun _ => True) (fun _ => [(12, .bool (decide (a = z ∧ 0 < a ∧ c = 1 ∧ m ≤ 48)))]) (fun _ => slOwn 27 1 (.slice q2 es2.length d2) es2.length (es2.map (·.1)) :: AllP (es2.map enP) :: E :: F) ?_ ?_
  · by_cases g1 : a = z
    · by_cases g2 : 0 < a
      · by_cases g3 : c = 1
        · refine CW.region ?_
          refine L1 (ps_move rfl).os ?_
          refine L1 (ps_move rfl).os ?_
          refine L1 (ps_t (ps_eql rfl rfl) (by omega)).os ?_
          refine L1 (ps_move rfl).os ?_
          refine LG1 ?_ (ps_move rfl).os ?_
          · exact rfl
          refine LG1 ?_ (ps_t (ps_gtr rfl rfl) (by omega)).os ?_
          · exact rfl
          refine L1 (ps_pick_t rfl rfl).os ?_
          refine L1 (ps_move rfl).os ?_
          refine LG1 ?_ (ps_move rfl).os ?_
          · exact rfl
          refine LG1 ?_ (ps_t (ps_eql rfl rfl) (by omega)).os ?_
          · exact rfl
          refine L1 (ps_pick_t rfl rfl).os ?_
          refine L1 (ps_move rfl).os ?_
          refine LG1 ?_ (ps_move rfl).os ?_
          · exact rfl
          refine LG1 ?_ (ps_to (u := .bool (decide (a = z ∧ 0 < a ∧ c = 1 ∧ m ≤ 48))) (congrArg Value.bool (decide_eq_decide.2 (by omega))) (ps_leq rfl rfl)).os ?_
          · exact rfl
          refine L1 (ps_pick_t rfl rfl).os ?_
          refine L1 (ps_assign rfl).os ?_
          refine LW.nil ?_
          exact Meet.cut () trivial (by repeat (first | (with_reducible exact Ag.refl _ _) | (with_reducible assumption) | (with_reducible apply Ag.pu0) | ((with_reducible refine Ag.pu _ ?_ ?_); · exact rfl) | ((with_reducible refine Ag.mix ?_ ?_); · exact rfl) | ((with_reducible refine Ag.pus ?_ ?_); · exact rfl))) ⟨rfl, trivial⟩ (by repeat (first | exact Ent.refl _ | (apply Ent.cons; · repeat (first | exact pk_head _ _ | apply pk_tail)) | apply Ent.skip))
        · rw [show decide (a = z ∧ 0 < a ∧ c = 1 ∧ m ≤ 48) = false from decide_eq_false (by omega)]
          refine CW.region ?_
          refine L1 (ps_move rfl).os ?_
          refine L1 (ps_move rfl).os ?_
          refine L1 (ps_t (ps_eql rfl rfl) (by omega)).os ?_
          refine L1 (ps_move rfl).os ?_
          refine LG1 ?_ (ps_move rfl).os ?_
          · exact rfl
          refine LG1 ?_ (ps_t (ps_gtr rfl rfl) (by omega)).os ?_
          · exact rfl
          refine L1 (ps_pick_t rfl rfl).os ?_
          refine L1 (ps_move rfl).os ?_
          refine LG1 ?_ (ps_move rfl).os ?_
          · exact rfl
          refine LG1 ?_ (ps_f (ps_eql rfl rfl) (by omega)).os ?_
          · exact rfl
          refine L1 (ps_pick_t rfl rfl).os ?_
          refine L1 (ps_move rfl).os ?_
          refine LG0t ?_ ?_
          · exact rfl
          refine LG0t ?_ ?_
          · exact rfl
          refine L1 (ps_pick_f rfl rfl).os ?_
          refine L1 (ps_assign rfl).os ?_
          refine LW.nil ?_
          exact Meet.cut () trivial (by repeat (first | (with_reducible exact Ag.refl _ _) | (with_reducible assumption) | (with_reducible apply Ag.pu0) | ((with_reducible refine Ag.pu _ ?_ ?_); · exact rfl) | ((with_reducible refine Ag.mix ?_ ?_); · exact rfl) | ((with_reducible refine Ag.pus ?_ ?_); · exact rfl))) ⟨rfl, trivial⟩ (by repeat (first | exact Ent.refl _ | (apply Ent.cons; · repeat (first | exact pk_head _ _ | apply pk_tail)) | apply Ent.skip))
      · rw [show decide (a = z ∧ 0 < a ∧ c = 1 ∧ m ≤ 48) = false from decide_eq_false (by omega)]
        refine CW.region ?_
        refine L1 (ps_move rfl).os ?_
        refine L1 (ps_move rfl).os ?_
        refine L1 (ps_t (ps_eql rfl rfl) (by omega)).os ?_
        refine L1 (ps_move rfl).os ?_
        refine LG1 ?_ (ps_move rfl).os ?_
        · exact rfl
        refine LG1 ?_ (ps_f (ps_gtr rfl rfl) (by omega)).os ?_
        · exact rfl
        refine L1 (ps_pick_t rfl rfl).os ?_
        refine L1 (ps_move rfl).os ?_
        refine LG0t ?_ ?_
        · exact rfl
        refine LG0t ?_ ?_
        · exact rfl
        refine L1 (ps_pick_f rfl rfl).os ?_
        refine L1 (ps_move rfl).os ?_
        refine LG0t ?_ ?_
        · exact rfl
        refine LG0t ?_ ?_
        · exact rfl
        refine L1 (ps_pick_f rfl rfl).os ?_
        refine L1 (ps_assign rfl).os ?_
        refine LW.nil ?_
        exact Meet.cut () trivial (by repeat (first | (with_reducible exact Ag.refl _ _) | (with_reducible assumption) | (with_reducible apply Ag.pu0) | ((with_reducible refine Ag.pu _ ?_ ?_); · exact rfl) | ((with_reducible refine Ag.mix ?_ ?_); · exact rfl) | ((with_reducible refine Ag.pus ?_ ?_); · exact rfl))) ⟨rfl, trivial⟩ (by repeat (first | exact Ent.refl _ | (apply Ent.cons; · repeat (first | exact pk_head _ _ | apply pk_tail)) | apply Ent.skip))
    · rw [show decide (a = z ∧ 0 < a ∧ c = 1 ∧ m ≤ 48) = false from decide_eq_false (by omega)]
      refine CW.region ?_
      refine L1 (ps_move rfl).os ?_
      refine L1 (ps_move rfl).os ?_
      refine L1 (ps_f (ps_eql rfl rfl) (by omega)).os ?_
      refine L1 (ps_move rfl).os ?_
      refine LG0t ?_ ?_
      · exact rfl
      refine LG0t ?_ ?_
      · exact rfl
      refine L1 (ps_pick_f rfl rfl).os ?_
      refine L1 (ps_move rfl).os ?_
      refine LG0t ?_ ?_
      · exact rfl
      refine LG0t ?_ ?_
      · exact rfl
      refine L1 (ps_pick_f rfl rfl).os ?_
      refine L1 (ps_move rfl).os ?_
      refine LG0t ?_ ?_
      · exact rfl
      refine LG0t ?_ ?_
      · exact rfl
      refine L1 (ps_pick_f rfl rfl).os ?_
      refine L1 (ps_assign rfl).os ?_
      refine LW.nil ?_
      exact Meet.cut () trivial (by repeat (first | (with_reducible exact Ag.refl _ _) | (with_reducible assumption) | (with_reducible apply Ag.pu0) | ((with_reducible refine Ag.pu _ ?_ ?_); · exact rfl) | ((with_reducible refine Ag.mix ?_ ?_); · exact rfl) | ((with_reducible refine Ag.pus ?_ ?_); · exact rfl))) ⟨rfl, trivial⟩ (by repeat (first | exact Ent.refl _ | (apply Ent.cons; · repeat (first | exact pk_head _ _ | apply pk_tail)) | apply Ent.skip))
  rintro _ _ _
  unfold agR at hem
  by_cases hwh : a = z ∧ 0 < a ∧ c = 1 ∧ m ≤ 48
  · rw [if_pos hwh] at hem
    rw [decide_eq_true hwh]
    have hel : es2.length = 1 := by have := congrArg List.length hem; rwa [List.length_map] at this
    rw [hel]
    have hby2 := out_bys e4
    refine slOwn_info (m := 1) (q := q2) (d := d2) (xs := es2.map (·.1)) (by repeat (first | exact pk_head _ _ | apply pk_tail)) fun o1 o2 o3 => ?_
    have hrows := out_rows (q := q2) hel o1 o2 o3
    obtain ⟨yq, yd, gb, go, rfl, hb2, hs2⟩ := row_at hrows hby2 0 (List.replicate m 0) (by rw [hem]; rfl)
    rw [List.length_replicate] at hs2
    generalize slOwn 27 1 (.slice (some ⟨gb, go, none⟩) 1 d2) 1 (es2.map (·.1)) = OB at hs2 ⊢
    repeat (first | refine CW.seq ?_ | refine PW.then_ ?_ | refine PW.then_to rfl ?_ | refine CW.block ?_ | refine CW.skip ?_ | refine CW.ret ?_ | refine PW.then_ret ?_ | refine PW.block_ret ?_ | refine Cut.ret ?_ | refine Rnd.ret ?_ | refine PW.block_normal ?_ | refine CW.exit ?_ | refine PW.then_exit ?_ | refine PW.block_hit ?_ | refine PW.block_miss rfl ?_ | refine Cut.exit ?_ | refine Rnd.exit ?_ | refine CW.scope ?_ | refine CW.label ?_ | refine PW.scope_normal ?_ | refine PW.scope_ret ?_ | refine PW.scope_exit ?_)
    refine CW.region ?_
    refine L1 (ps_move rfl).os ?_
    refine L1 (ps_t (ps_eql rfl rfl) (rfl)).os ?_
    refine L1 (ps_move rfl).os ?_
    refine LG1 ?_ (ps_move rfl).os ?_
    · exact rfl
    refine LG1 ?_ (ps_len_sl T.un48 rfl).os ?_
    · exact rfl
    refine LG1 ?_ (ps_t (ps_eql rfl rfl) (rfl)).os ?_
    · exact rfl
    refine LG1 ?_ (ps_move rfl).os ?_
    · exact rfl
    refine LG1 ?_ (ps_bool_eql T.un4 rfl rfl).os ?_
    · exact rfl
    refine L1 (ps_pick_t rfl rfl).os ?_
    refine L1 (ps_move rfl).os ?_
    refine LG1 ?_ (ps_move rfl).os ?_
    · exact rfl
    refine LG1 ?_ (ps_len_sl T.un48 rfl).os ?_
    · exact rfl
    refine LG1 ?_ (ps_t (ps_leq rfl rfl) (by decide)).os ?_
    · exact rfl
    refine L1 (ps_pick_t rfl rfl).os ?_
    refine L1 (ps_move rfl).os ?_
    refine LG1 ?_ (ps_move rfl).os ?_
    · exact rfl
    refine LG1 ?_ (ps_not rfl).os ?_
    · exact rfl
    refine LG1 ?_ (ps_move rfl).os ?_
    · exact rfl
    refine LG1 ?_ (ps_move rfl).os ?_
    · exact rfl
    refine LG1 ?_ (ps_ia_slice T.un48 T.sz27 rfl rfl (by omega) (by omega)).os ?_
    · exact rfl
    refine LG1 ?_ (os_loadS1 (v := .slice yq m yd) (hs2 _ _ (by repeat (first | exact pk_head _ _ | apply pk_tail))) T.ag27 rfl) ?_
    · exact rfl
    refine LG1 ?_ (ps_len_sl T.un27 rfl).os ?_
    · exact rfl
    refine LG1 ?_ (ps_move rfl).os ?_
    · exact rfl
    refine LG1 ?_ (ps_t (ps_eql rfl rfl) (rfl)).os ?_
    · exact rfl
    refine LG1 ?_ (ps_pick_f rfl rfl).os ?_
    · exact rfl
    refine L1 (ps_pick_t rfl rfl).os ?_
    refine L1 (ps_assign rfl).os ?_
    refine LW.nil ?_
    repeat (first | refine CW.seq ?_ | refine PW.then_ ?_ | refine PW.then_to rfl ?_ | refine CW.block ?_ | refine CW.skip ?_ | refine CW.ret ?_ | refine PW.then_ret ?_ | refine PW.block_ret ?_ | refine Cut.ret ?_ | refine Rnd.ret ?_ | refine PW.block_normal ?_ | refine CW.exit ?_ | refine PW.then_exit ?_ | refine PW.block_hit ?_ | refine PW.block_miss rfl ?_ | refine Cut.exit ?_ | refine Rnd.exit ?_ | refine CW.scope ?_ | refine CW.label ?_ | refine PW.scope_normal ?_ | refine PW.scope_ret ?_ | refine PW.scope_exit ?_)
    exact Fin.ret1 (v := .bool true) rfl [E] rfl ⟨rfl, rfl⟩ (by repeat (first | exact Ent.refl _ | (apply Ent.cons; · repeat (first | exact pk_head _ _ | apply pk_tail)) | apply Ent.skip))
  · rw [if_neg hwh] at hem
    rw [decide_eq_false hwh]
    have hel : es2.length = 0 := by have := congrArg List.length hem; rwa [List.length_map] at this
    rw [hel]
    repeat (first | refine CW.seq ?_ | refine PW.then_ ?_ | refine PW.then_to rfl ?_ | refine CW.block ?_ | refine CW.skip ?_ | refine CW.ret ?_ | refine PW.then_ret ?_ | refine PW.block_ret ?_ | refine Cut.ret ?_ | refine Rnd.ret ?_ | refine PW.block_normal ?_ | refine CW.exit ?_ | refine PW.then_exit ?_ | refine PW.block_hit ?_ | refine PW.block_miss rfl ?_ | refine Cut.exit ?_ | refine Rnd.exit ?_ | refine CW.scope ?_ | refine CW.label ?_ | refine PW.scope_normal ?_ | refine PW.scope_ret ?_ | refine PW.scope_exit ?_)
    refine CW.region ?_
    refine L1 (ps_move rfl).os ?_
    refine L1 (ps_t (ps_eql rfl rfl) (rfl)).os ?_
    refine L1 (ps_move rfl).os ?_
    refine LG1 ?_ (ps_move rfl).os ?_
    · exact rfl
    refine LG1 ?_ (ps_len_sl T.un48 rfl).os ?_
    · exact rfl
    refine LG1 ?_ (ps_f (ps_eql rfl rfl) (by decide)).os ?_
    · exact rfl
    refine LG1 ?_ (ps_move rfl).os ?_
    · exact rfl
    refine LG1 ?_ (ps_bool_eql T.un4 rfl rfl).os ?_
    · exact rfl
    refine L1 (ps_pick_t rfl rfl).os ?_
    refine L1 (ps_move rfl).os ?_
    refine LG1 ?_ (ps_move rfl).os ?_
    · exact rfl
    refine LG1 ?_ (ps_len_sl T.un48 rfl).os ?_
    · exact rfl
    refine LG1 ?_ (ps_t (ps_leq rfl rfl) (by decide)).os ?_
    · exact rfl
    refine L1 (ps_pick_t rfl rfl).os ?_
    refine L1 (ps_move rfl).os ?_
    refine LG1 ?_ (ps_move rfl).os ?_
    · exact rfl
    refine LG1 ?_ (ps_not rfl).os ?_
    · exact rfl
    refine LG1 ?_ (ps_move rfl).os ?_
    · exact rfl
    refine LG0f ?_ ?_
    · exact rfl
    refine LG0f ?_ ?_
    · exact rfl
    refine LG0f ?_ ?_
    · exact rfl
    refine LG0f ?_ ?_
    · exact rfl
    refine LG0f ?_ ?_
    · exact rfl
    refine LG0f ?_ ?_
    · exact rfl
    refine LG1 ?_ (ps_pick_t rfl rfl).os ?_
    · exact rfl
    refine L1 (ps_pick_t rfl rfl).os ?_
    refine L1 (ps_assign rfl).os ?_
    refine LW.nil ?_
    repeat (first | refine CW.seq ?_ | refine PW.then_ ?_ | refine PW.then_to rfl ?_ | refine CW.block ?_ | refine CW.skip ?_ | refine CW.ret ?_ | refine PW.then_ret ?_ | refine PW.block_ret ?_ | refine Cut.ret ?_ | refine Rnd.ret ?_ | refine PW.block_normal ?_ | refine CW.exit ?_ | refine PW.then_exit ?_ | refine PW.block_hit ?_ | refine PW.block_miss rfl ?_ | refine Cut.exit ?_ | refine Rnd.exit ?_ | refine CW.scope ?_ | refine CW.label ?_ | refine PW.scope_normal ?_ | refine PW.scope_ret ?_ | refine PW.scope_exit ?_)
    exact Fin.ret1 (v := .bool true) rfl [E] rfl ⟨rfl, rfl⟩ (by repeat (first | exact Ent.refl _ | (apply Ent.cons; · repeat (first | exact pk_head _ _ | apply pk_tail)) | apply Ent.skip))

namespace walAgainst
open Go.ChangeShapes Go.WideShapes Go.ChangeAt Go.RowKit
theorem own : ownKnob Try.prog.godebug = none := by kernel_rfl
theorem laidOut : laidOutB Try.prog = true := by kernel_rfl
set_option maxRecDepth 100000 in
theorem lifted (os : Os) (started : os.Started) (H : Type) (enc : TypeId × Value → H) :
    ReturnsInHanded {} Try.checked os 15 .any (Rows.walAgainstSpec.pre6 enc Try.prog Try.f15 Rows.walAgainstRow.domain false) (Rows.walAgainstSpec.post enc Try.prog Try.f15 false true false false) := by
  refine returnsInHanded_of_change (C := Try.checked) own started (by kernel_rfl) Try.func15
    (ChangeSpec.witness6 (enc := enc) (C := Try.checked) false ⟨#[], #[(.agg (List.replicate 4 (Value.int .i64 0)).toArray)], []⟩ 8 (by kernel_rfl) (by kernel_rfl) (by kernel_rfl) (by kernel_rfl)) ?_
  intro W base args ds gs before hval0 hW hcnd _
  have hval : ∀ (j : Nat) t v, Try.f15.params[j]? = some t → args[j]? = some v → Value.okWide Try.prog W .any base t v := hval0
  have hW' := hW
  obtain ⟨p, q, hA0, hV, rfl, hfz, hnd⟩ := hW
  have hA : DataW.TrodAll enc Try.prog W 0 (fun _ => true) true Try.f15.params.toList args.toList ds p := hA0
  rw [Try.params15] at hA hval
  obtain ⟨v0, vs0, d0, ds0, p0, q0, hargs, rfl, rfl, h0, r0⟩ := trodAll_cons hA
  obtain ⟨rfl, rfl, rfl⟩ := trodAll_nil r0
  obtain rfl : args = #[v0] := by cases args; simp_all
  obtain ⟨rfl, rfl⟩ := trodVars_none hV
  obtain ⟨cs0, rfl, hcs0⟩ := okWide_agg T.ag65 (hval 0 65 v0 rfl rfl)
  obtain ⟨fu0, hf0⟩ := h0
  obtain ⟨a0, b0, c0⟩ := open_Ar4int hf0
  simp only [List.append_nil] at hW'
  refine (LawOf.calls (WalAgainst_law W _ a0 b0 c0)).mono fun e W' ⟨he, hb⟩ => ?_
  subst he
  exact ⟨_, rfl, law_post laidOut rfl (tb := 4) (by kernel_rfl) T.un4 (by intro t ht; rw [Try.params15] at ht; simp only [List.mem_cons, List.not_mem_nil, or_false] at ht; rcases ht with rfl <;> exact ⟨by kernel_rfl, by decide +kernel⟩) rfl hW' hb⟩
theorem holds : Rows.WalAgainstSaid :=
  OpenClaim.holds_of_wide 15 Try.f15 rfl rfl rfl rfl rfl rfl rfl ⟨rfl, rfl, rfl, rfl, rfl⟩ rfl rfl rfl rfl rfl (by kernel_rfl) Try.func15 (by kernel_rfl)
    (of_decide_eq_true (by kernel_rfl)) (by unfold Func.isWrapper; rw [if_neg (of_decide_eq_false (by kernel_rfl))]; exact ⟨rfl, rfl⟩)
    (fun os started H enc _ => lifted os started H enc)
end walAgainst
end Go.Proofs.Ytejbbpofamfhiaa
