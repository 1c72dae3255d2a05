/- What a request's bytes are read as: plain. -/
import Derived.Test.YtpcjjchanjdkaaaReqIn
namespace Go.Proofs.Ytpcjjchanjdkaaa
set_option linter.unusedVariables false
set_option linter.unusedSimpArgs false
open Go Go.SL

theorem rdn_app (n : Nat) (bs rest : List UInt8) (h : bs.length = n) : rdn n (bs ++ rest, false) = (num bs, (rest, false)) := by
  subst h
  unfold rdn rdT
  rw [if_neg (by rw [List.length_append]; intro h; rcases h with h | h; cases h; omega), List.take_left, List.drop_left]
theorem num_be_nat (n : Nat) (x : Int) (h0 : 0 ≤ x) (h1 : x < 256 ^ n) : ((num (be n x) : Nat) : Int) = x := by
  obtain ⟨k, rfl⟩ := Int.eq_ofNat_of_zero_le h0
  rw [num_be]
  have h2 : ((256 ^ n : Nat) : Int) = (256 : Int) ^ n := Int.natCast_pow 256 n
  have : k < 256 ^ n := by
    rw [← h2] at h1
    exact Int.ofNat_lt.1 h1
  rw [Nat.mod_eq_of_lt this]
theorem rdn_be (n : Nat) (x : Int) (rest : List UInt8) (h0 : 0 ≤ x) (h1 : x < 256 ^ n) : ∃ k : Nat, rdn n (be n x ++ rest, false) = (k, (rest, false)) ∧ (k : Int) = x :=
  ⟨num (be n x), rdn_app n _ rest (by simp), num_be_nat n x h0 h1⟩
theorem rdn_num (x : Nat) (rest : List UInt8) (h : x < M128) : rdn 16 (numB x ++ rest, false) = (x, (rest, false)) := by
  rw [rdn_app 16 _ rest (length_numB x)]
  have : num (numB x) = x := by
    show num (be 16 (x : Int)) = x
    rw [num_be]; exact Nat.mod_eq_of_lt (Nat.lt_of_lt_of_eq h (by decide +kernel))
  rw [this]
structure AccOk (a : AccS) : Prop where
  id : a.id < M128
  led : 0 ≤ a.led ∧ a.led < 256 ^ 4
  fl : 0 ≤ a.fl ∧ a.fl < 256 ^ 2
structure TrOk (t : TrS) : Prop where
  id : t.id < M128
  deb : t.deb < M128
  cre : t.cre < M128
  amo : t.amo < M128
  pen : t.pen < M128
  tim : 0 ≤ t.tim ∧ t.tim < 256 ^ 4
  led : 0 ≤ t.led ∧ t.led < 256 ^ 4
  fl : 0 ≤ t.fl ∧ t.fl < 256 ^ 2
theorem rdAcc_B (a : AccS) (h : AccOk a) (rest : List UInt8) : rdAcc (accB a ++ rest, false) = (a, (rest, false)) := by
  obtain ⟨k1, e1, f1⟩ := rdn_be 4 a.led (be 2 a.fl ++ rest) h.led.1 h.led.2
  obtain ⟨k2, e2, f2⟩ := rdn_be 2 a.fl rest h.fl.1 h.fl.2
  have e0 := rdn_num a.id (be 4 a.led ++ (be 2 a.fl ++ rest)) h.id
  simp only [rdAcc, accB, List.append_assoc, e0, e1, e2, f1, f2]
theorem rdTr_B (t : TrS) (h : TrOk t) (rest : List UInt8) : rdTr (trB t ++ rest, false) = (t, (rest, false)) := by
  obtain ⟨k1, e1, f1⟩ := rdn_be 4 t.tim (be 4 t.led ++ (be 2 t.fl ++ rest)) h.tim.1 h.tim.2
  obtain ⟨k2, e2, f2⟩ := rdn_be 4 t.led (be 2 t.fl ++ rest) h.led.1 h.led.2
  obtain ⟨k3, e3, f3⟩ := rdn_be 2 t.fl rest h.fl.1 h.fl.2
  have n5 := rdn_num t.pen (be 4 t.tim ++ (be 4 t.led ++ (be 2 t.fl ++ rest))) h.pen
  have n4 := rdn_num t.amo (numB t.pen ++ (be 4 t.tim ++ (be 4 t.led ++ (be 2 t.fl ++ rest)))) h.amo
  have n3 := rdn_num t.cre (numB t.amo ++ (numB t.pen ++ (be 4 t.tim ++ (be 4 t.led ++ (be 2 t.fl ++ rest))))) h.cre
  have n2 := rdn_num t.deb (numB t.cre ++ (numB t.amo ++ (numB t.pen ++ (be 4 t.tim ++ (be 4 t.led ++ (be 2 t.fl ++ rest)))))) h.deb
  have n1 := rdn_num t.id (numB t.deb ++ (numB t.cre ++ (numB t.amo ++ (numB t.pen ++ (be 4 t.tim ++ (be 4 t.led ++ (be 2 t.fl ++ rest))))))) h.id
  simp only [rdTr, trB, List.append_assoc, n1, n2, n3, n4, n5, e1, e2, e3, f1, f2, f3]
theorem rdMany_B {α : Type} (g : RS → α × RS) (f : α → List UInt8) (l : List α) (rest : List UInt8) (h : ∀ a ∈ l, ∀ rest, g (f a ++ rest, false) = (a, (rest, false))) :
    rdMany g l.length ((l.map f).flatten ++ rest, false) = (l, (rest, false)) := by
  have key : ∀ i, i ≤ l.length → rdMany g i ((l.map f).flatten ++ rest, false) = (l.take i, (((l.drop i).map f).flatten ++ rest, false)) := by
    intro i
    induction i with
    | zero => intro _; rfl
    | succ i ih =>
      intro hi
      have hlt : i < l.length := by omega
      have h1 := ih (by omega)
      rw [List.drop_eq_getElem_cons hlt, List.map_cons, List.flatten_cons, List.append_assoc] at h1
      simp only [rdMany, h1, h l[i] (List.getElem_mem hlt)]
      rw [List.take_succ_eq_append_getElem hlt]
  have := key l.length (Nat.le_refl _)
  rw [List.take_length, List.drop_length] at this
  exact this
/-- A request as bytes can tell it. -/
structure TameOk (q : RQ) : Prop where
  kind : 1 ≤ q.kind ∧ q.kind ≤ 9
  id : q.id < M128
  la : q.accs.length ≤ 8
  lt : q.trs.length ≤ 8
  accs : ∀ a ∈ q.accs, AccOk a
  trs : ∀ t ∈ q.trs, TrOk t
  fro : 0 ≤ q.fro
  to : 0 ≤ q.to
  lim : 0 ≤ q.lim ∧ q.lim < 256 ^ 1
  k1 : q.kind = 1 → q = ⟨1, q.accs, [], 0, 0, 0, 0⟩
  k2 : q.kind = 2 → q = ⟨2, [], q.trs, 0, 0, 0, 0⟩
  k3 : q.kind = 3 → q = ⟨3, [], [], 0, q.fro, 0, 0⟩ ∧ q.fro < 256 ^ 4
  k457 : q.kind = 4 ∨ q.kind = 5 ∨ q.kind = 7 → q = ⟨q.kind, [], [], q.id, 0, 0, 0⟩
  k68 : q.kind = 6 ∨ q.kind = 8 → q = ⟨q.kind, [], [], q.id, q.fro, q.to, q.lim⟩ ∧ q.fro < 256 ^ 6 ∧ q.to < 256 ^ 6
  k9 : q.kind = 9 → q = ⟨9, [], [], 0, q.fro, q.to, 0⟩ ∧ q.fro < 256 ^ 4 ∧ q.to < 256 ^ 4
theorem TameOk.rq {q : RQ} (h : TameOk q) : RqOk q :=
  ⟨h.id, Nat.le_trans h.la (by decide), Nat.le_trans h.lt (by decide), fun a ha => (h.accs a ha).id, fun t ht => ⟨(h.trs t ht).id, (h.trs t ht).deb, (h.trs t ht).cre, (h.trs t ht).amo, (h.trs t ht).pen⟩⟩
theorem rdBody_B (q : RQ) (h : TameOk q) (k : Nat) (hk : (k : Int) = q.kind) (rest : List UInt8) : rdBody k (bodyB q ++ rest, false) = (q, 0, (rest, false)) := by
  by_cases k1 : q.kind = 1
  · obtain rfl : k = 1 := by omega
    obtain ⟨n, e, f⟩ := rdn_be 1 (q.accs.length : Int) ((q.accs.map accB).flatten ++ rest) (by omega) (by have := h.la; omega)
    have hn : n = q.accs.length := by omega
    subst hn
    have hm := rdMany_B rdAcc accB q.accs rest fun a ha r => rdAcc_B a (h.accs a ha) r
    have hq := h.k1 k1
    have h8 : ¬ 8 < q.accs.length := by have := h.la; omega
    unfold bodyB rdBody
    rw [if_pos k1, if_pos rfl]
    simp only [List.append_assoc, e, if_neg h8, hm]
    exact congrArg (fun z : RQ => (z, (0 : Nat), (rest, false))) hq.symm
  by_cases k2 : q.kind = 2
  · obtain rfl : k = 2 := by omega
    obtain ⟨n, e, f⟩ := rdn_be 1 (q.trs.length : Int) ((q.trs.map trB).flatten ++ rest) (by omega) (by have := h.lt; omega)
    have hn : n = q.trs.length := by omega
    subst hn
    have hm := rdMany_B rdTr trB q.trs rest fun a ha r => rdTr_B a (h.trs a ha) r
    have hq := h.k2 k2
    have h8 : ¬ 8 < q.trs.length := by have := h.lt; omega
    unfold bodyB rdBody
    rw [if_neg k1, if_pos k2, if_neg (by decide), if_pos rfl]
    simp only [List.append_assoc, e, if_neg h8, hm]
    exact congrArg (fun z : RQ => (z, (0 : Nat), (rest, false))) hq.symm
  by_cases k3 : q.kind = 3
  · obtain rfl : k = 3 := by omega
    obtain ⟨hq, hf⟩ := h.k3 k3
    obtain ⟨n, e, f⟩ := rdn_be 4 q.fro rest h.fro hf
    unfold bodyB rdBody
    rw [if_neg k1, if_neg k2, if_pos k3, if_neg (by decide), if_neg (by decide), if_pos rfl]
    simp only [e, f]
    exact congrArg (fun z : RQ => (z, (0 : Nat), (rest, false))) hq.symm
  have n1 : k ≠ 1 := by omega
  have n2 : k ≠ 2 := by omega
  have n3 : k ≠ 3 := by omega
  by_cases k4 : q.kind = 4 ∨ q.kind = 5 ∨ q.kind = 7
  · have n4 : k = 4 ∨ k = 5 ∨ k = 7 := by omega
    have hq := h.k457 k4
    have e := rdn_num q.id rest h.id
    unfold bodyB rdBody
    rw [if_neg k1, if_neg k2, if_neg k3, if_pos k4, if_neg n1, if_neg n2, if_neg n3, if_pos n4]
    simp only [e, hk]
    exact congrArg (fun z : RQ => (z, (0 : Nat), (rest, false))) hq.symm
  have n4 : ¬ (k = 4 ∨ k = 5 ∨ k = 7) := by omega
  by_cases k6 : q.kind = 6 ∨ q.kind = 8
  · have n6 : k = 6 ∨ k = 8 := by omega
    obtain ⟨hq, hf, ht⟩ := h.k68 k6
    have e := rdn_num q.id (be 6 q.fro ++ (be 6 q.to ++ (be 1 q.lim ++ rest))) h.id
    obtain ⟨a, e1, f1⟩ := rdn_be 6 q.fro (be 6 q.to ++ (be 1 q.lim ++ rest)) h.fro hf
    obtain ⟨b, e2, f2⟩ := rdn_be 6 q.to (be 1 q.lim ++ rest) h.to ht
    obtain ⟨c, e3, f3⟩ := rdn_be 1 q.lim rest h.lim.1 h.lim.2
    unfold bodyB rdBody
    rw [if_neg k1, if_neg k2, if_neg k3, if_neg k4, if_pos k6, if_neg n1, if_neg n2, if_neg n3, if_neg n4, if_pos n6]
    simp only [List.append_assoc, e, e1, e2, e3, f1, f2, f3, hk]
    exact congrArg (fun z : RQ => (z, (0 : Nat), (rest, false))) hq.symm
  have n6 : ¬ (k = 6 ∨ k = 8) := by omega
  have k9 : q.kind = 9 := by have := h.kind; omega
  obtain rfl : k = 9 := by omega
  obtain ⟨hq, hf, ht⟩ := h.k9 k9
  obtain ⟨a, e1, f1⟩ := rdn_be 4 q.fro (be 4 q.to ++ rest) h.fro hf
  obtain ⟨b, e2, f2⟩ := rdn_be 4 q.to rest h.to ht
  unfold bodyB rdBody
  rw [if_neg k1, if_neg k2, if_neg k3, if_neg k4, if_neg k6, if_pos k9, if_neg n1, if_neg n2, if_neg n3, if_neg n4, if_neg n6, if_pos rfl]
  simp only [List.append_assoc, e1, e2, f1, f2]
  exact congrArg (fun z : RQ => (z, (0 : Nat), (rest, false))) hq.symm
theorem readReq_B (q : RQ) (h : TameOk q) : readReq (reqB q) = (q, 0) := by
  obtain ⟨k, e, f⟩ := rdn_be 1 q.kind (bodyB q) (by have := h.kind; omega) (by have := h.kind; omega)
  have hb := rdBody_B q h k f []
  rw [List.append_nil] at hb
  unfold readReq reqB
  simp only [e, hb]
  simp
theorem readReq_more (q : RQ) (h : TameOk q) (c : UInt8) : readReq (reqB q ++ [c]) = (RQ.zero, 1) := by
  obtain ⟨k, e, f⟩ := rdn_be 1 q.kind (bodyB q ++ [c]) (by have := h.kind; omega) (by have := h.kind; omega)
  have hb := rdBody_B q h k f [c]
  unfold readReq reqB
  rw [List.append_assoc]
  simp only [e, hb]
  simp
theorem reqB_inj {q r : RQ} (hq : TameOk q) (hr : TameOk r) (h : reqB q = reqB r) : q = r := by
  have h1 := readReq_B q hq
  rw [h, readReq_B r hr] at h1
  exact (Prod.mk.inj h1).1.symm
theorem four_ok (x : Int) : 0 ≤ four x ∧ four x < 256 ^ 4 := by unfold four; omega
theorem tameK_ok (k : Int) : 1 ≤ tameK k ∧ tameK k ≤ 9 := by unfold tameK; omega
theorem tame_ok (q : RQ) (hid : q.id < M128) (ha : ∀ a ∈ q.accs, a.id < M128) (ht : ∀ t ∈ q.trs, t.id < M128 ∧ t.deb < M128 ∧ t.cre < M128 ∧ t.amo < M128 ∧ t.pen < M128) : TameOk (tameQ q) := by
  have hk := tameK_ok q.kind
  have hM : 0 < M128 := by decide
  have f1 := four_ok q.fro
  have f2 := four_ok q.to
  have aok : ∀ a ∈ (q.accs.take 8).map tameA, AccOk a := fun a h => by
    obtain ⟨b, hb, rfl⟩ := List.mem_map.1 h
    exact ⟨ha b (List.mem_of_mem_take hb), four_ok b.led, by unfold tameA; dsimp only; omega⟩
  have tok : ∀ t ∈ (q.trs.take 8).map tameT, TrOk t := fun t h => by
    obtain ⟨b, hb, rfl⟩ := List.mem_map.1 h
    have := ht b (List.mem_of_mem_take hb)
    exact ⟨this.1, this.2.1, this.2.2.1, this.2.2.2.1, this.2.2.2.2, four_ok b.tim, four_ok b.led, by unfold tameT; dsimp only; omega⟩
  have g1 : 0 ≤ q.fro % ((2 ^ 48 : Nat) : Int) ∧ q.fro % ((2 ^ 48 : Nat) : Int) < 256 ^ 6 := by omega
  have g2 : 0 ≤ q.to % ((2 ^ 48 : Nat) : Int) ∧ q.to % ((2 ^ 48 : Nat) : Int) < 256 ^ 6 := by omega
  have g3 : 0 ≤ q.lim % ((2 ^ 8 : Nat) : Int) ∧ q.lim % ((2 ^ 8 : Nat) : Int) < 256 ^ 1 := by omega
  unfold tameQ
  generalize tameK q.kind = K at hk
  generalize four q.fro = x at f1
  generalize four q.to = y at f2
  generalize q.fro % ((2 ^ 48 : Nat) : Int) = u at g1
  generalize q.to % ((2 ^ 48 : Nat) : Int) = v at g2
  generalize q.lim % ((2 ^ 8 : Nat) : Int) = w at g3
  have la : ((q.accs.take 8).map tameA).length ≤ 8 := by rw [List.length_map, List.length_take]; omega
  have lt : ((q.trs.take 8).map tameT).length ≤ 8 := by rw [List.length_map, List.length_take]; omega
  generalize (q.accs.take 8).map tameA = la' at *
  generalize (q.trs.take 8).map tameT = lt' at *
  have nilA : ∀ a ∈ ([] : List AccS), AccOk a := by simp
  have nilT : ∀ t ∈ ([] : List TrS), TrOk t := by simp
  have z1 : (0 : Int) ≤ 0 ∧ (0 : Int) < 256 ^ 1 := by decide
  by_cases k1 : K = 1
  · rw [if_pos k1]; subst k1
    exact ⟨hk, hM, la, by simp, aok, nilT, by simp, by simp, z1, fun _ => rfl, fun h => (by dsimp only at h; omega), fun h => (by dsimp only at h; omega), fun h => (by dsimp only at h; omega), fun h => (by dsimp only at h; omega), fun h => (by dsimp only at h; omega)⟩
  rw [if_neg k1]
  by_cases k2 : K = 2
  · rw [if_pos k2]; subst k2
    exact ⟨hk, hM, by simp, lt, nilA, tok, by simp, by simp, z1, fun h => (by dsimp only at h; omega), fun _ => rfl, fun h => (by dsimp only at h; omega), fun h => (by dsimp only at h; omega), fun h => (by dsimp only at h; omega), fun h => (by dsimp only at h; omega)⟩
  rw [if_neg k2]
  by_cases k3 : K = 3
  · rw [if_pos k3]; subst k3
    exact ⟨hk, hM, by simp, by simp, nilA, nilT, f1.1, by simp, z1, fun h => (by dsimp only at h; omega), fun h => (by dsimp only at h; omega), fun _ => ⟨rfl, f1.2⟩, fun h => (by dsimp only at h; omega), fun h => (by dsimp only at h; omega), fun h => (by dsimp only at h; omega)⟩
  rw [if_neg k3]
  by_cases k4 : K = 4 ∨ K = 5 ∨ K = 7
  · rw [if_pos k4]
    exact ⟨hk, hid, by simp, by simp, nilA, nilT, by simp, by simp, z1, fun h => absurd h k1, fun h => absurd h k2, fun h => absurd h k3, fun _ => rfl, fun h => (by dsimp only at h; omega), fun h => (by dsimp only at h; omega)⟩
  rw [if_neg k4]
  by_cases k6 : K = 6 ∨ K = 8
  · rw [if_pos k6]
    exact ⟨hk, hid, by simp, by simp, nilA, nilT, g1.1, g2.1, g3, fun h => absurd h k1, fun h => absurd h k2, fun h => absurd h k3, fun h => absurd h k4, fun _ => ⟨rfl, g1.2, g2.2⟩, fun h => (by dsimp only at h; omega)⟩
  rw [if_neg k6]
  obtain rfl : K = 9 := by omega
  exact ⟨hk, hM, by simp, by simp, nilA, nilT, f1.1, f2.1, z1, fun h => absurd h k1, fun h => absurd h k2, fun h => absurd h k3, fun h => absurd h k4, fun h => absurd h k6, fun _ => ⟨rfl, f1.2, f2.2⟩⟩
end Go.Proofs.Ytpcjjchanjdkaaa
