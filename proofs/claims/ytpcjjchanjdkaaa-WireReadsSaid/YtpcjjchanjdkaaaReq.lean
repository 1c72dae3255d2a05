/- Requests: what bytes they have, what is read of bytes; the contracts of ReadRequest. -/
import Derived.Test.YtpcjjchanjdkaaaWire
namespace Go.Proofs.Ytpcjjchanjdkaaa
set_option linter.unusedVariables false
set_option linter.unusedSimpArgs false
open Go Go.SL

theorem os_cbr {P : Program} {op : Op} {ty : TypeId} {n : FN} {f : Nat → Value} {w0 : World} {As Bs : List Asn} {b : Nat} {T : TypeId} {v : Value} {cs : List Value} (cs' : List Value) (hs : OS P op ty n f w0 As (Is v (cb b T cs :: Bs))) (h : cs = cs') : OS P op ty n f w0 As (Is v (cb b T cs' :: Bs)) := h ▸ hs
structure AccS where
  id : Nat
  led : Int
  fl : Int
structure TrS where
  id : Nat
  deb : Nat
  cre : Nat
  amo : Nat
  pen : Nat
  tim : Int
  led : Int
  fl : Int
structure RQ where
  kind : Int
  accs : List AccS
  trs : List TrS
  id : Nat
  fro : Int
  to : Int
  lim : Int
def RQ.zero : RQ := ⟨0, [], [], 0, 0, 0, 0⟩
def accCells (a : AccS) : List Value := nc a.id ++ [.int .i64 a.led, .int .i64 a.fl, .int .u64 0, .int .u64 0, .int .u64 0, .int .u64 0, .int .u64 0, .int .u64 0, .int .u64 0, .int .u64 0, .int .i64 0, .int .i64 0] ++ List.replicate 32 (.int .u8 0)
def trCells (t : TrS) : List Value := nc t.id ++ nc t.deb ++ nc t.cre ++ nc t.amo ++ nc t.pen ++ [.int .i64 t.tim, .int .i64 t.led, .int .i64 t.fl, .int .i64 0, .int .i64 0, .int .i64 0]
def rqCells (q : RQ) (av tv : Value) : List Value := [.int .i64 q.kind, av, tv] ++ nc q.id ++ [.int .i64 q.fro, .int .i64 q.to, .int .i64 q.lim]

/-! ## reading, step by step -/
def rdn (n : Nat) (s : List UInt8 × Bool) : Nat × (List UInt8 × Bool) := (num (rdT n s.1 s.2).1, (rdT n s.1 s.2).2)
theorem rdT_le (n : Nat) (bs : List UInt8) (bad : Bool) : (rdT n bs bad).2.1.length ≤ bs.length := by
  unfold rdT; split
  · exact Nat.le_refl _
  · simp
theorem rdn_lt {n x : Nat} {s s' : List UInt8 × Bool} (h : rdn n s = (x, s')) : x < 256 ^ n := by
  have h1 := num_lt (rdT n s.1 s.2).1
  rw [rdT_len] at h1
  unfold rdn at h
  have h2 : num (rdT n s.1 s.2).1 = x := (Prod.ext_iff.1 h).1
  rw [← h2]; exact h1
section
variable {ty : TypeId} {n : FN} {f : Nat → Value} {w0 : World} {As Fs Gs : List Asn} {A : Asn} {p : Nat} {bs : List UInt8} {bad : Bool} {args : Array Operand} {ts : Array TypeId}
theorem os_RInt (k : Nat) (h1 : 1 ≤ k) (h7 : k ≤ 7) (hm : bs.length ≤ maxLen) (ha : args.toList.map (ev n f) = [ptr p, .int .i64 (k : Int)]) (hp : As.Perm (RdAt A p bs bad :: Fs)) (hq : Fs.Perm (A :: Gs)) :
    OS Try.prog (CALL 23 args ts) ty n f w0 As (fun v Bs => ∃ (x : Nat) (bs' : List UInt8) (bad' : Bool), v = .int .i64 (x : Int) ∧ Bs = RdAt A p bs' bad' :: A :: Gs ∧ rdn k (bs, bad) = (x, (bs', bad')) ∧ bs'.length ≤ maxLen) := fun w hw o ho ht K Q hK =>
  os_call (RInt_spec A p bs bad k hm h1 h7) Try.func23 (by decide +kernel) rfl ha (pk2 hp hq) w hw o ho ht K Q fun v As' w' hr hw' => by
    obtain ⟨Cs, ⟨hv, rfl⟩, rfl⟩ := hr
    exact hK v _ w' ⟨_, _, _, hv, rfl, rfl, Nat.le_trans (rdT_le _ _ _) hm⟩ hw'
theorem os_RNum (hm : bs.length ≤ maxLen) (ha : args.toList.map (ev n f) = [ptr p]) (hp : As.Perm (RdAt A p bs bad :: Fs)) (hq : Fs.Perm (A :: Gs)) :
    OS Try.prog (CALL 25 args ts) ty n f w0 As (fun v Bs => ∃ (x : Nat) (bs' : List UInt8) (bad' : Bool), v = .agg (nc x).toArray ∧ Bs = RdAt A p bs' bad' :: A :: Gs ∧ rdn 16 (bs, bad) = (x, (bs', bad')) ∧ bs'.length ≤ maxLen) := fun w hw o ho ht K Q hK =>
  os_call (RNum_spec A p bs bad hm) Try.func25 (by decide +kernel) rfl ha (pk2 hp hq) w hw o ho ht K Q fun v As' w' hr hw' => by
    obtain ⟨Cs, ⟨hv, rfl⟩, rfl⟩ := hr
    exact hK v _ w' ⟨_, _, _, hv, rfl, rfl, Nat.le_trans (rdT_le _ _ _) hm⟩ hw'
end
abbrev RS := List UInt8 × Bool
def rdAcc (s : RS) : AccS × RS :=
  let a := rdn 16 s; let b := rdn 4 a.2; let c := rdn 2 b.2
  (⟨a.1, b.1, c.1⟩, c.2)
def rdTr (s : RS) : TrS × RS :=
  let a := rdn 16 s; let b := rdn 16 a.2; let c := rdn 16 b.2; let d := rdn 16 c.2; let e := rdn 16 d.2; let g := rdn 4 e.2; let h := rdn 4 g.2; let i := rdn 2 h.2
  (⟨a.1, b.1, c.1, d.1, e.1, g.1, h.1, i.1⟩, i.2)
def rdMany {α : Type} (g : RS → α × RS) : Nat → RS → List α × RS
  | 0, s => ([], s)
  | n + 1, s => let r := rdMany g n s; let x := g r.2; (r.1 ++ [x.1], x.2)
/-- What is read behind the kind: the request, its error (0: none so far), and what is left. -/
def rdBody (k : Nat) (s : RS) : RQ × Nat × RS :=
  if k = 1 then
    let n := rdn 1 s
    if 8 < n.1 then (RQ.zero, 2, n.2) else let r := rdMany rdAcc n.1 n.2; (⟨k, r.1, [], 0, 0, 0, 0⟩, 0, r.2)
  else if k = 2 then
    let n := rdn 1 s
    if 8 < n.1 then (RQ.zero, 2, n.2) else let r := rdMany rdTr n.1 n.2; (⟨k, [], r.1, 0, 0, 0, 0⟩, 0, r.2)
  else if k = 3 then let a := rdn 4 s; (⟨k, [], [], 0, a.1, 0, 0⟩, 0, a.2)
  else if k = 4 ∨ k = 5 ∨ k = 7 then let a := rdn 16 s; (⟨k, [], [], a.1, 0, 0, 0⟩, 0, a.2)
  else if k = 6 ∨ k = 8 then let a := rdn 16 s; let b := rdn 6 a.2; let c := rdn 6 b.2; let d := rdn 1 c.2; (⟨k, [], [], a.1, b.1, c.1, d.1⟩, 0, d.2)
  else if k = 9 then let a := rdn 4 s; let b := rdn 4 a.2; (⟨k, [], [], 0, a.1, b.1, 0⟩, 0, b.2)
  else (RQ.zero, 1, s)
def readReq (bs : List UInt8) : RQ × Nat :=
  let k := rdn 1 (bs, false)
  let r := rdBody k.1 k.2
  if r.2.1 ≠ 0 then (RQ.zero, r.2.1) else if r.2.2.2 = true ∨ r.2.2.1 ≠ [] then (RQ.zero, 1) else (r.1, 0)

/-- The end: is nothing left? -/
theorem RowsR.own {e s m d : Nat} {q : Option Addr} (rows : List (List Value)) (hs : ∀ r ∈ rows, r.length = s) (hm : rows.length = m) (h1 : m ≤ d) (h2 : d ≤ maxLen) (hq : m ≠ 0 → ∃ g, q = some ⟨g, 0, none⟩) :
    RowsR (slOwn e s (.slice q m d) m rows.flatten) (.slice q m d) s rows := by
  subst hm
  refine ⟨q, d, rfl, h1, h2, hs, fun hne => ?_, fun i hi b o hp As Bs hperm => ?_⟩
  · obtain ⟨g, hg⟩ := hq (fun h => hne (List.eq_nil_of_length_eq_zero h))
    exact ⟨g, 0, hg⟩
  · subst hp
    intro hne
    refine ⟨_, rfl, fun w0 w hw j u hj => ?_⟩
    obtain ⟨L, a1, L1, L2, a3, a4, a5⟩ := hw.perm hperm
    rcases a4.2 with ⟨b1, _⟩ | ⟨g', cap, cur, b1, b2, b3, b4, b5, b6⟩
    · cases b1
    · cases b1
      have hgg : w.heap[b]? = some (.cells cur.toArray e (0, 0)) := a1.mem (b, _) (a3.mem_iff.2 (List.mem_append_left _ (by rw [b6]; exact List.mem_singleton.2 rfl)))
      have hsrc : Src [cb b e cur] (some ⟨b, 0 + i * s, none⟩) rows[i] := (RowsR.cb (t := e) (cs := cur) (cap := d) b5 hs rfl h1 h2).src hi (pk_head _ _)
      obtain ⟨a, ha, hc⟩ := hsrc hne
      cases ha
      have hw2 : Heap w0 w [cb b e cur] := ⟨[(b, .cells cur.toArray e (0, 0))], ⟨a1.os, a1.tape, a1.output, a1.size, by simp, fun p hp => by
        have : p = (b, .cells cur.toArray e (0, 0)) := by simpa using hp
        subst this; exact hgg⟩, [(b, .cells cur.toArray e (0, 0))], [], by simp, rfl, trivial⟩
      exact hc w0 w hw2 j u hj

def ReqOut (A : Asn) (q : RQ) (err : Nat) : Value → List Asn → Prop := fun r As => ∃ av tv B, r = .tuple #[.agg (rqCells q av tv).toArray, .int .i64 (err : Int)] ∧ As = [B, A] ∧ RowsR B av 46 (q.accs.map accCells) ∧ RowsR B tv 16 (q.trs.map trCells)
abbrev zRow : List Value := [.int .i64 0, .slice none 0 0, .slice none 0 0, .int .u64 0, .int .u64 0, .int .i64 0, .int .i64 0, .int .i64 0]
theorem accs_len (l : List AccS) : ∀ r ∈ l.map accCells, r.length = 46 := fun r hr => by obtain ⟨x, _, rfl⟩ := List.mem_map.1 hr; rfl
theorem trs_len (l : List TrS) : ∀ r ∈ l.map trCells, r.length = 16 := fun r hr => by obtain ⟨x, _, rfl⟩ := List.mem_map.1 hr; rfl
theorem rdMany_len {α : Type} (g : RS → α × RS) (n : Nat) (s : RS) : (rdMany g n s).1.length = n := by
  induction n with
  | zero => rfl
  | succ n ih => simp [rdMany, ih]
theorem accCells_one (a : AccS) : ∀ u ∈ accCells a, u.oneCell' = true := fun u hu => by
  simp only [accCells, nc, List.mem_append, List.mem_cons, List.not_mem_nil, or_false, List.mem_replicate] at hu
  rcases hu with ((rfl | rfl) | h) | ⟨_, rfl⟩
  · rfl
  · rfl
  · rcases h with rfl | rfl | rfl | rfl | rfl | rfl | rfl | rfl | rfl | rfl | rfl | rfl <;> rfl
  · rfl
theorem trCells_one (a : TrS) : ∀ u ∈ trCells a, u.oneCell' = true := fun u hu => by
  simp only [trCells, nc, List.mem_append, List.mem_cons, List.not_mem_nil, or_false] at hu
  rcases hu with ((((h | h) | h) | h) | h) | h <;> (try (rcases h with rfl | rfl <;> rfl))
  rcases h with rfl | rfl | rfl | rfl | rfl | rfl <;> rfl
theorem ReadRequest_spec (A : Asn) (v : Value) (bs : List UInt8) (hb : ByR A v bs) (hm : bs.length ≤ maxLen) : FSpec Try.prog 16 [v] [A] (ReqOut A (readReq bs).1 (readReq bs).2) := by
  have hb0 := hb
  obtain ⟨vq, vc, rfl, -, -⟩ := hb0
  refine FSpec.intro Try.func16 rfl 104 Try.ntmps16 (Nat.le_of_ble_eq_true rfl) fun w0 F => ?_
  show CW _ _ _ _ _ _ (_ :: F)
  repeat (first | refine CW.seq ?_ | refine PW.then_ ?_ | refine CW.block ?_ | refine CW.skip ?_ | refine CW.ret ?_ | refine PW.then_ret ?_ | refine PW.block_ret ?_ | refine Cut.ret ?_ | refine Rnd.ret ?_ | refine PW.block_normal ?_ | refine CW.exit ?_ | refine PW.then_exit ?_ | refine PW.block_hit ?_ | refine PW.block_miss rfl ?_ | refine Cut.exit ?_ | refine Rnd.exit ?_)
  refine CW.region ?_
  refine LE (os_alloc T.ti28) ?_
  rintro _ _ ⟨b2, rfl, rfl⟩
  refine L1 (ps_assign rfl).os ?_
  refine LW.nil ?_
  repeat (first | refine CW.seq ?_ | refine PW.then_ ?_ | refine CW.block ?_ | refine CW.skip ?_ | refine CW.ret ?_ | refine PW.then_ret ?_ | refine PW.block_ret ?_ | refine Cut.ret ?_ | refine Rnd.ret ?_ | refine PW.block_normal ?_ | refine CW.exit ?_ | refine PW.then_exit ?_ | refine PW.block_hit ?_ | refine PW.block_miss rfl ?_ | refine Cut.exit ?_ | refine Rnd.exit ?_)
  refine CW.region ?_
  refine L1 (ps_move rfl).os ?_
  refine LE (os_call (RNew_spec A _ bs hb) Try.func22 (by decide +kernel) rfl rfl (by repeat (first | exact pk_head _ _ | apply pk_tail))) ?_
  rintro _ _ ⟨_, ⟨p, rfl, rfl⟩, rfl⟩
  refine L1 (ps_assign rfl).os ?_
  refine LW.nil ?_
  repeat (first | refine CW.seq ?_ | refine PW.then_ ?_ | refine CW.block ?_ | refine CW.skip ?_ | refine CW.ret ?_ | refine PW.then_ret ?_ | refine PW.block_ret ?_ | refine Cut.ret ?_ | refine Rnd.ret ?_ | refine PW.block_normal ?_ | refine CW.exit ?_ | refine PW.then_exit ?_ | refine PW.block_hit ?_ | refine PW.block_miss rfl ?_ | refine Cut.exit ?_ | refine Rnd.exit ?_)
  refine CW.region ?_
  refine L1 (ps_move rfl).os ?_
  refine LE (os_RInt (A := A) 1 (by decide) (by decide) hm rfl (by repeat (first | exact pk_head _ _ | apply pk_tail)) (by repeat (first | exact pk_head _ _ | apply pk_tail))) ?_
  rintro _ _ ⟨k, bs1, bad1, rfl, rfl, hk, hm1⟩
  refine L1 (ps_build (by rfl) (T.bd28_0 _)).os ?_
  refine LE (os_alloc T.ti28) ?_
  rintro _ _ ⟨b5, rfl, rfl⟩
  refine L1 (os_cb (show _ = rqCells ⟨k, [], [], 0, 0, 0, 0⟩ (.slice none 0 0) (.slice none 0 0) by simp [rqCells, nc]) <| os_storeAll (b := b5) (by repeat (first | exact pk_head _ _ | apply pk_tail)) (by exact T.sz28) rfl rfl (by simp [Value.oneCell']) (by rfl)) ?_
  refine LW.nil ?_
  refine PW.then_ ?_
  have hread : readReq bs = (let r := rdBody k (bs1, bad1); if r.2.1 ≠ 0 then (RQ.zero, r.2.1) else if r.2.2.2 = true ∨ r.2.2.1 ≠ [] then (RQ.zero, 1) else (r.1, 0)) := by
    unfold readReq; rw [hk]
  refine CW.cutM (α := RQ × Value × Value × Asn × List UInt8 × Bool) [3, 6, 12, 13, 14, 15, 16, 17, 18, 19, 20, 21, 22, 23, 24, 25, 26, 27, 28, 29, 30, 31, 32, 33, 34, 35, 36, 37, 38, 39, 40, 41, 42, 43, 44, 45, 46, 47, 48, 49, 50, 51, 52, 53, 54, 55, 56, 57, 58, 59, 60, 61, 62, 63, 64, 65, 66, 67, 68, 69, 70, 71, 72, 73, 74, 75, 76, 77, 78, 79, 80, 81, 82, 83, 84, 85, 86, 87, 88, 89, 90, 91, 92, 93, 94, 95, 96, 97, 98] (fun a => rdBody k (bs1, bad1) = (a.1, 0, (a.2.2.2.2.1, a.2.2.2.2.2)) ∧ RowsR a.2.2.2.1 a.2.1 46 (a.1.accs.map accCells) ∧ RowsR a.2.2.2.1 a.2.2.1 16 (a.1.trs.map trCells)) (fun a => [])
    (fun a => cb b5 28 (rqCells a.1 a.2.1 a.2.2.1) :: RdAt A p a.2.2.2.2.1 a.2.2.2.2.2 :: a.2.2.2.1 :: A :: cb b2 28 zRow :: F) ?_ ?_
  · repeat (first | refine CW.seq ?_ | refine PW.then_ ?_ | refine CW.block ?_ | refine CW.skip ?_ | refine CW.ret ?_ | refine PW.then_ret ?_ | refine PW.block_ret ?_ | refine Cut.ret ?_ | refine Rnd.ret ?_ | refine PW.block_normal ?_ | refine CW.exit ?_ | refine PW.then_exit ?_ | refine PW.block_hit ?_ | refine PW.block_miss rfl ?_ | refine Cut.exit ?_ | refine Rnd.exit ?_)
    refine CW.region ?_
    refine L1 (ps_fa T.fa28_0 (by decide) rfl).os ?_
    refine L1 (os_load1 (by repeat (first | exact pk_head _ _ | apply pk_tail)) T.ag3 rfl (by rfl)) ?_
    refine LW.nil ?_
    repeat (first | refine CW.seq ?_ | refine PW.then_ ?_ | refine CW.block ?_ | refine CW.skip ?_ | refine CW.ret ?_ | refine PW.then_ret ?_ | refine PW.block_ret ?_ | refine Cut.ret ?_ | refine Rnd.ret ?_ | refine PW.block_normal ?_ | refine CW.exit ?_ | refine PW.then_exit ?_ | refine PW.block_hit ?_ | refine PW.block_miss rfl ?_ | refine Cut.exit ?_ | refine Rnd.exit ?_)
    by_cases k1 : k = 1
    · subst k1
      refine CW.region ?_
      refine L1 (ps_t (ps_eql rfl rfl) (rfl)).os ?_
      refine L1 (ps_assign rfl).os ?_
      refine LW.nil ?_
      repeat (first | refine CW.seq ?_ | refine PW.then_ ?_ | refine CW.block ?_ | refine CW.skip ?_ | refine CW.ret ?_ | refine PW.then_ret ?_ | refine PW.block_ret ?_ | refine Cut.ret ?_ | refine Rnd.ret ?_ | refine PW.block_normal ?_ | refine CW.exit ?_ | refine PW.then_exit ?_ | refine PW.block_hit ?_ | refine PW.block_miss rfl ?_ | refine Cut.exit ?_ | refine Rnd.exit ?_)
      refine CW.cond_true rfl ?_
      repeat (first | refine CW.seq ?_ | refine PW.then_ ?_ | refine CW.block ?_ | refine CW.skip ?_ | refine CW.ret ?_ | refine PW.then_ret ?_ | refine PW.block_ret ?_ | refine Cut.ret ?_ | refine Rnd.ret ?_ | refine PW.block_normal ?_ | refine CW.exit ?_ | refine PW.then_exit ?_ | refine PW.block_hit ?_ | refine PW.block_miss rfl ?_ | refine Cut.exit ?_ | refine Rnd.exit ?_)
      refine CW.cond_true rfl ?_
      repeat (first | refine CW.seq ?_ | refine PW.then_ ?_ | refine CW.block ?_ | refine CW.skip ?_ | refine CW.ret ?_ | refine PW.then_ret ?_ | refine PW.block_ret ?_ | refine Cut.ret ?_ | refine Rnd.ret ?_ | refine PW.block_normal ?_ | refine CW.exit ?_ | refine PW.then_exit ?_ | refine PW.block_hit ?_ | refine PW.block_miss rfl ?_ | refine Cut.exit ?_ | refine Rnd.exit ?_)
      refine CW.region ?_
      refine L1 (ps_move rfl).os ?_
      refine LE (os_RInt (A := A) 1 (by decide) (by decide) hm1 rfl (by repeat (first | exact pk_head _ _ | apply pk_tail)) (by repeat (first | exact pk_head _ _ | apply pk_tail))) ?_
      rintro _ _ ⟨n, bs2, bad2, rfl, rfl, hn, hm2⟩
      refine L1 (ps_assign rfl).os ?_
      refine LW.nil ?_
      repeat (first | refine CW.seq ?_ | refine PW.then_ ?_ | refine CW.block ?_ | refine CW.skip ?_ | refine CW.ret ?_ | refine PW.then_ret ?_ | refine PW.block_ret ?_ | refine Cut.ret ?_ | refine Rnd.ret ?_ | refine PW.block_normal ?_ | refine CW.exit ?_ | refine PW.then_exit ?_ | refine PW.block_hit ?_ | refine PW.block_miss rfl ?_ | refine Cut.exit ?_ | refine Rnd.exit ?_)
      by_cases h8 : 8 < n
      · have hrz : readReq bs = (RQ.zero, 2) := by
          rw [hread]
          have : rdBody 1 (bs1, bad1) = (RQ.zero, 2, (bs2, bad2)) := by simp [rdBody, hn, h8]
          rw [this]; simp
        rw [hrz]
        refine CW.region ?_
        refine L1 (ps_move rfl).os ?_
        refine L1 (ps_t (ps_gtr rfl rfl) (by omega)).os ?_
        refine LW.nil ?_
        repeat (first | refine CW.seq ?_ | refine PW.then_ ?_ | refine CW.block ?_ | refine CW.skip ?_ | refine CW.ret ?_ | refine PW.then_ret ?_ | refine PW.block_ret ?_ | refine Cut.ret ?_ | refine Rnd.ret ?_ | refine PW.block_normal ?_ | refine CW.exit ?_ | refine PW.then_exit ?_ | refine PW.block_hit ?_ | refine PW.block_miss rfl ?_ | refine Cut.exit ?_ | refine Rnd.exit ?_)
        refine CW.cond_true rfl ?_
        repeat (first | refine CW.seq ?_ | refine PW.then_ ?_ | refine CW.block ?_ | refine CW.skip ?_ | refine CW.ret ?_ | refine PW.then_ret ?_ | refine PW.block_ret ?_ | refine Cut.ret ?_ | refine Rnd.ret ?_ | refine PW.block_normal ?_ | refine CW.exit ?_ | refine PW.then_exit ?_ | refine PW.block_hit ?_ | refine PW.block_miss rfl ?_ | refine Cut.exit ?_ | refine Rnd.exit ?_)
        refine CW.region ?_
        refine L1 (ps_build (by rfl) (T.bd28)).os ?_
        refine L1 (os_storeAll (b := b2) (vs := zRow) (by repeat (first | exact pk_head _ _ | apply pk_tail)) (by exact T.sz28) rfl rfl (by simp [Value.oneCell']) (by rfl)) ?_
        refine L1 (ps_assign rfl).os ?_
        refine LW.nil ?_
        repeat (first | refine CW.seq ?_ | refine PW.then_ ?_ | refine CW.block ?_ | refine CW.skip ?_ | refine CW.ret ?_ | refine PW.then_ret ?_ | refine PW.block_ret ?_ | refine Cut.ret ?_ | refine Rnd.ret ?_ | refine PW.block_normal ?_ | refine CW.exit ?_ | refine PW.then_exit ?_ | refine PW.block_hit ?_ | refine PW.block_miss rfl ?_ | refine Cut.exit ?_ | refine Rnd.exit ?_)
        exact Fin.retCT (b := b2) (cs := zRow) rfl (by repeat (first | exact pk_head _ _ | apply pk_tail)) T.ag28 (by exact T.sz28) rfl (.int .i64 2) rfl [bag [], A] ⟨.slice none 0 0, .slice none 0 0, bag [], rfl, rfl, RowsR.nil _ _, RowsR.nil _ _⟩ (Ent.trans (Bs := A :: F) (by repeat (first | exact Ent.refl _ | (apply Ent.cons; · repeat (first | exact pk_head _ _ | apply pk_tail)) | apply Ent.skip)) (Ent.emp _))
      refine CW.region ?_
      refine L1 (ps_move rfl).os ?_
      refine L1 (ps_f (ps_gtr rfl rfl) (by omega)).os ?_
      refine LW.nil ?_
      repeat (first | refine CW.seq ?_ | refine PW.then_ ?_ | refine CW.block ?_ | refine CW.skip ?_ | refine CW.ret ?_ | refine PW.then_ret ?_ | refine PW.block_ret ?_ | refine Cut.ret ?_ | refine Rnd.ret ?_ | refine PW.block_normal ?_ | refine CW.exit ?_ | refine PW.then_exit ?_ | refine PW.block_hit ?_ | refine PW.block_miss rfl ?_ | refine Cut.exit ?_ | refine Rnd.exit ?_)
      refine CW.cond_false rfl ?_
      repeat (first | refine CW.seq ?_ | refine PW.then_ ?_ | refine CW.block ?_ | refine CW.skip ?_ | refine CW.ret ?_ | refine PW.then_ret ?_ | refine PW.block_ret ?_ | refine Cut.ret ?_ | refine Rnd.ret ?_ | refine PW.block_normal ?_ | refine CW.exit ?_ | refine PW.then_exit ?_ | refine PW.block_hit ?_ | refine PW.block_miss rfl ?_ | refine Cut.exit ?_ | refine Rnd.exit ?_)
      refine CW.region ?_
      refine L1 (ps_move rfl).os ?_
      refine L1 (ps_move rfl).os ?_
      refine LW.nil ?_
      refine J.ent (Ent.slNil 59 46 _) ?_
      repeat (first | refine CW.seq ?_ | refine PW.then_ ?_ | refine CW.block ?_ | refine CW.skip ?_ | refine CW.ret ?_ | refine PW.then_ret ?_ | refine PW.block_ret ?_ | refine Cut.ret ?_ | refine Rnd.ret ?_ | refine PW.block_normal ?_ | refine CW.exit ?_ | refine PW.then_exit ?_ | refine PW.block_hit ?_ | refine PW.block_miss rfl ?_ | refine Cut.exit ?_ | refine Rnd.exit ?_)
      refine CW.loopM (α := Nat × List AccS × Option Addr × Nat × List UInt8 × Bool) [24, 25, 26, 27, 28, 29, 30, 31, 32, 33, 34, 35, 36, 37, 38, 39, 40, 41, 42, 43, 44, 45, 46, 47, 48, 49, 50, 51, 52, 53, 54, 55, 56, 57, 58, 59, 60, 61, 62, 63] (fun kk a => a.1 ≤ n ∧ kk = n - a.1 ∧ rdMany rdAcc a.1 (bs2, bad2) = (a.2.1, (a.2.2.2.2.1, a.2.2.2.2.2)) ∧ a.2.2.2.2.1.length ≤ maxLen) (fun a => [(24, .int .i64 a.1)])
        (fun a => cb b5 28 (rqCells ⟨1, [], [], 0, 0, 0, 0⟩ (.slice a.2.2.1 a.1 a.2.2.2.1) (.slice none 0 0)) :: slOwn 59 46 (.slice a.2.2.1 a.1 a.2.2.2.1) a.1 (a.2.1.map accCells).flatten :: RdAt A p a.2.2.2.2.1 a.2.2.2.2.2 :: A :: cb b2 28 zRow :: F)
        n (0, [], none, 0, bs2, bad2) ⟨Nat.zero_le _, rfl, rfl, hm2⟩ ⟨rfl, trivial⟩ (by repeat (first | exact Ent.refl _ | (apply Ent.cons; · repeat (first | exact pk_head _ _ | apply pk_tail)) | apply Ent.skip)) ?_
      rintro kk ⟨i, accs, q, d, s, bd⟩ g ⟨hi, hkk, hs, hsm⟩
      dsimp only at hi hkk hs hsm ⊢
      have hal : accs.length = i := by have := rdMany_len rdAcc i (bs2, bad2); rw [hs] at this; exact this
      repeat (first | refine CW.seq ?_ | refine PW.then_ ?_ | refine CW.block ?_ | refine CW.skip ?_ | refine CW.ret ?_ | refine PW.then_ret ?_ | refine PW.block_ret ?_ | refine Cut.ret ?_ | refine Rnd.ret ?_ | refine PW.block_normal ?_ | refine CW.exit ?_ | refine PW.then_exit ?_ | refine PW.block_hit ?_ | refine PW.block_miss rfl ?_ | refine Cut.exit ?_ | refine Rnd.exit ?_)
      by_cases hlt : i < n
      · have hxl : ((accs.map accCells).flatten).length = i * 46 := by rw [← hal]; clear hal hs; induction accs with
          | nil => rfl
          | cons a l ih => rw [List.map_cons, List.flatten_cons, List.length_append, ih, List.length_cons]; show 46 + _ = _; omega
        refine CW.region ?_
        refine L1 (ps_t (ps_lss rfl rfl) (by omega)).os ?_
        refine LW.nil ?_
        repeat (first | refine CW.seq ?_ | refine PW.then_ ?_ | refine CW.block ?_ | refine CW.skip ?_ | refine CW.ret ?_ | refine PW.then_ret ?_ | refine PW.block_ret ?_ | refine Cut.ret ?_ | refine Rnd.ret ?_ | refine PW.block_normal ?_ | refine CW.exit ?_ | refine PW.then_exit ?_ | refine PW.block_hit ?_ | refine PW.block_miss rfl ?_ | refine Cut.exit ?_ | refine Rnd.exit ?_)
        refine CW.cond_true rfl ?_
        repeat (first | refine CW.seq ?_ | refine PW.then_ ?_ | refine CW.block ?_ | refine CW.skip ?_ | refine CW.ret ?_ | refine PW.then_ret ?_ | refine PW.block_ret ?_ | refine Cut.ret ?_ | refine Rnd.ret ?_ | refine PW.block_normal ?_ | refine CW.exit ?_ | refine PW.then_exit ?_ | refine PW.block_hit ?_ | refine PW.block_miss rfl ?_ | refine Cut.exit ?_ | refine Rnd.exit ?_)
        refine CW.region ?_
        refine L1 (ps_fa T.fa28_0 (by decide) rfl).os ?_
        refine L1 (os_load1 (by repeat (first | exact pk_head _ _ | apply pk_tail)) T.ag3 rfl (by rfl)) ?_
        refine L1 (ps_t (ps_eql rfl rfl) (rfl)).os ?_
        refine LW.nil ?_
        repeat (first | refine CW.seq ?_ | refine PW.then_ ?_ | refine CW.block ?_ | refine CW.skip ?_ | refine CW.ret ?_ | refine PW.then_ret ?_ | refine PW.block_ret ?_ | refine Cut.ret ?_ | refine Rnd.ret ?_ | refine PW.block_normal ?_ | refine CW.exit ?_ | refine PW.then_exit ?_ | refine PW.block_hit ?_ | refine PW.block_miss rfl ?_ | refine Cut.exit ?_ | refine Rnd.exit ?_)
        refine CW.cond_true rfl ?_
        repeat (first | refine CW.seq ?_ | refine PW.then_ ?_ | refine CW.block ?_ | refine CW.skip ?_ | refine CW.ret ?_ | refine PW.then_ret ?_ | refine PW.block_ret ?_ | refine Cut.ret ?_ | refine Rnd.ret ?_ | refine PW.block_normal ?_ | refine CW.exit ?_ | refine PW.then_exit ?_ | refine PW.block_hit ?_ | refine PW.block_miss rfl ?_ | refine Cut.exit ?_ | refine Rnd.exit ?_)
        refine CW.cutB (α := AccS × Option Addr × Nat × List UInt8 × Bool) [29, 30, 31, 32, 33, 34, 35, 36, 37, 38, 39, 40] (fun a => rdAcc (s, bd) = (a.1, (a.2.2.2.1, a.2.2.2.2)) ∧ a.2.2.2.1.length ≤ maxLen) (fun a => [])
          (fun a => cb b5 28 (rqCells ⟨1, [], [], 0, 0, 0, 0⟩ (.slice a.2.1 (i + 1) a.2.2.1) (.slice none 0 0)) :: slOwn 59 46 (.slice a.2.1 (i + 1) a.2.2.1) (i + 1) ((accs.map accCells).flatten ++ accCells a.1) :: RdAt A p a.2.2.2.1 a.2.2.2.2 :: A :: cb b2 28 zRow :: F) ?_ ?_
        · refine CW.drawH [cb b5 28 (rqCells ⟨1, [], [], 0, 0, 0, 0⟩ (.slice q i d) (.slice none 0 0))] [11, 12] T.mixed ?_
          refine H_take (i := 0) (some 29) rfl rfl (by kernel_rfl) (by kernel_rfl) (by kernel_rfl) rfl (ps_fa T.fa28_1 (by decide) rfl).pl (by kernel_rfl) (pkc (by repeat (first | exact pk_head _ _ | apply pk_tail)) (pkn _)) ?_
          refine H_take (i := 1) (some 30) rfl rfl (by kernel_rfl) (by kernel_rfl) (by kernel_rfl) rfl (pl_load1 (by repeat (first | exact pk_head _ _ | apply pk_tail)) T.ag22 rfl (by rfl)) (by kernel_rfl) (pkc (by repeat (first | exact pk_head _ _ | apply pk_tail)) (pkn _)) ?_
          refine H_take (i := 2) (some 31) rfl rfl (by kernel_rfl) (by kernel_rfl) (by kernel_rfl) rfl (ps_move rfl).pl (by kernel_rfl) (pkc (by repeat (first | exact pk_head _ _ | apply pk_tail)) (pkn _)) ?_
          refine H_take (i := 4) (some 33) rfl rfl (by kernel_rfl) (by kernel_rfl) (by kernel_rfl) rfl (ps_move rfl).pl (by kernel_rfl) (pkc (by repeat (first | exact pk_head _ _ | apply pk_tail)) (pkn _)) ?_
          refine H_take (i := 6) (some 35) rfl rfl (by kernel_rfl) (by kernel_rfl) (by kernel_rfl) rfl (ps_move rfl).pl (by kernel_rfl) (pkc (by repeat (first | exact pk_head _ _ | apply pk_tail)) (pkn _)) ?_
          refine H_branch (rs := [3]) (by kernel_rfl) (by simp) ?_
          refine HR.consE (i := 3) (some 32) rfl rfl rfl (os_RNum (A := A) hsm rfl (by repeat (first | exact pk_head _ _ | apply pk_tail)) (by repeat (first | exact pk_head _ _ | apply pk_tail))) ?_ ?_
          · rintro _ _ ⟨x1, s1, d1, rfl, rfl, e1, l1⟩
            refine ⟨fun _ => ⟨_, (pkc (by repeat (first | exact pk_head _ _ | apply pk_tail)) (pkn _))⟩, ?_⟩
            refine H_branch (rs := [5]) (by kernel_rfl) (by simp) ?_
            refine HR.consE (i := 5) (some 34) rfl rfl rfl (os_RInt (A := A) 4 (by decide) (by decide) l1 rfl (by repeat (first | exact pk_head _ _ | apply pk_tail)) (by repeat (first | exact pk_head _ _ | apply pk_tail))) ?_ ?_
            · rintro _ _ ⟨x2, s2, d2, rfl, rfl, e2, l2⟩
              refine ⟨fun _ => ⟨_, (pkc (by repeat (first | exact pk_head _ _ | apply pk_tail)) (pkn _))⟩, ?_⟩
              refine H_branch (rs := [7]) (by kernel_rfl) (by simp) ?_
              refine HR.consE (i := 7) (some 36) rfl rfl rfl (os_RInt (A := A) 2 (by decide) (by decide) l2 rfl (by repeat (first | exact pk_head _ _ | apply pk_tail)) (by repeat (first | exact pk_head _ _ | apply pk_tail))) ?_ ?_
              · rintro _ _ ⟨x3, s3, d3, rfl, rfl, e3, l3⟩
                refine ⟨fun _ => ⟨_, (pkc (by repeat (first | exact pk_head _ _ | apply pk_tail)) (pkn _))⟩, ?_⟩
                refine H_take (i := 8) (some 37) rfl rfl (by kernel_rfl) (by kernel_rfl) (by kernel_rfl) rfl (ps_to (u := .agg (accCells ⟨x1, x2, x3⟩).toArray) (by rfl) (ps_build (by rfl) (T.bd59_0_1_2 _ _ _ _))).pl (by kernel_rfl) (pkc (by repeat (first | exact pk_head _ _ | apply pk_tail)) (pkn _)) ?_
                refine H_branch (rs := [9]) (by kernel_rfl) (by simp) ?_
                refine HR.consE (i := 9) (some 38) rfl rfl rfl (os_bsl1 (vs := accCells ⟨x1, x2, x3⟩) T.un22 T.ti59 (by rfl) rfl (by rfl) (by rfl) (by decide) (by decide)) ?_ ?_
                · rintro _ _ ⟨b38, rfl, rfl⟩
                  refine ⟨fun _ => ⟨_, (pkc (by repeat (first | exact pk_head _ _ | apply pk_tail)) (pkn _))⟩, ?_⟩
                  refine H_branch (rs := [10]) (by kernel_rfl) (by simp) ?_
                  refine HR.consE (i := 10) (some 39) rfl rfl rfl (os_append (xs := (accs.map accCells).flatten) (news := accCells ⟨x1, x2, x3⟩) (by repeat (first | exact pk_head _ _ | apply pk_tail)) T.un22 T.ti59 (by rfl) (by decide) rfl rfl (by rfl) (Src.cb (b := b38) (by repeat (first | exact pk_head _ _ | apply pk_tail)) (by rfl)) (accCells_one _) (by unfold maxLen; omega) (by omega)) ?_ ?_
                  · rintro _ _ ⟨q', d', rfl, rfl, hq'⟩
                    refine ⟨fun _ => ⟨_, (pkc (by repeat (first | exact pk_head _ _ | apply pk_tail)) (pkn _))⟩, ?_⟩
                    refine H_takeP (i := 11) (some 40) rfl rfl (by kernel_rfl) (by kernel_rfl) (by kernel_rfl) rfl (ps_fa T.fa28_1 (by decide) rfl) (by decide) ?_
                    refine H_branch (rs := [12]) (by kernel_rfl) (by simp) ?_
                    refine HR.consL (i := 12) none rfl rfl rfl (os_cbr (rqCells ⟨1, [], [], 0, 0, 0, 0⟩ (.slice q' (i + 1) d') (.slice none 0 0)) (os_store1 (b := b5) (by repeat (first | exact pk_head _ _ | apply pk_tail)) T.sz22 rfl rfl (by rfl) (Nat.le_of_ble_eq_true rfl)) (by rfl)) (by decide) ?_ ?_
                    · skip
                      refine H_done (by kernel_rfl) ?_
                      exact Meet.cut (⟨x1, x2, x3⟩, q', d', s3, d3) ⟨by simp [rdAcc, e1, e2, e3], l3⟩ (by repeat (first | (with_reducible exact Ag.refl _ _) | (with_reducible apply Ag.pu0) | ((with_reducible refine Ag.pu _ ?_ ?_); · exact rfl) | ((with_reducible refine Ag.mix ?_ ?_); · exact rfl) | ((with_reducible refine Ag.pus ?_ ?_); · exact rfl))) trivial (by repeat (first | exact Ent.refl _ | (apply Ent.cons; · repeat (first | exact pk_head _ _ | apply pk_tail)) | apply Ent.skip))
                    exact HR.nil
                  exact HR.nil
                exact HR.nil
              exact HR.nil
            exact HR.nil
          exact HR.nil
        rintro ⟨a, q2, d2, s2, bd2⟩ g2 ⟨ha, hl2⟩
        dsimp only at ha hl2 ⊢
        repeat (first | refine CW.seq ?_ | refine PW.then_ ?_ | refine CW.block ?_ | refine CW.skip ?_ | refine CW.ret ?_ | refine PW.then_ret ?_ | refine PW.block_ret ?_ | refine Cut.ret ?_ | refine Rnd.ret ?_ | refine PW.block_normal ?_ | refine CW.exit ?_ | refine PW.then_exit ?_ | refine PW.block_hit ?_ | refine PW.block_miss rfl ?_ | refine Cut.exit ?_ | refine Rnd.exit ?_)
        refine CW.region ?_
        refine L1 (ps_add_i64 rfl rfl (by omega) (by omega)).os ?_
        refine L1 (ps_move rfl).os ?_
        refine LW.nil ?_
        refine Meet.round (n - (i + 1)) (i + 1, accs ++ [a], q2, d2, s2, bd2) (by omega) ⟨hlt, rfl, by simp [rdMany, hs, ha], hl2⟩ (by repeat (first | (with_reducible exact Ag.refl _ _) | (with_reducible apply Ag.pu0) | ((with_reducible refine Ag.pu _ ?_ ?_); · exact rfl) | ((with_reducible refine Ag.mix ?_ ?_); · exact rfl) | ((with_reducible refine Ag.pus ?_ ?_); · exact rfl))) ⟨rfl, trivial⟩ ?_
        dsimp only
        rw [List.map_append, List.flatten_append, show ([a].map accCells).flatten = accCells a by simp]
        exact (by repeat (first | exact Ent.refl _ | (apply Ent.cons; · repeat (first | exact pk_head _ _ | apply pk_tail)) | apply Ent.skip))
      · have hin : i = n := by omega
        subst hin
        refine CW.region ?_
        refine L1 (ps_f (ps_lss rfl rfl) (by omega)).os ?_
        refine LW.nil ?_
        repeat (first | refine CW.seq ?_ | refine PW.then_ ?_ | refine CW.block ?_ | refine CW.skip ?_ | refine CW.ret ?_ | refine PW.then_ret ?_ | refine PW.block_ret ?_ | refine Cut.ret ?_ | refine Rnd.ret ?_ | refine PW.block_normal ?_ | refine CW.exit ?_ | refine PW.then_exit ?_ | refine PW.block_hit ?_ | refine PW.block_miss rfl ?_ | refine Cut.exit ?_ | refine Rnd.exit ?_)
        refine CW.cond_false rfl ?_
        repeat (first | refine CW.seq ?_ | refine PW.then_ ?_ | refine CW.block ?_ | refine CW.skip ?_ | refine CW.ret ?_ | refine PW.then_ret ?_ | refine PW.block_ret ?_ | refine Cut.ret ?_ | refine Rnd.ret ?_ | refine PW.block_normal ?_ | refine CW.exit ?_ | refine PW.then_exit ?_ | refine PW.block_hit ?_ | refine PW.block_miss rfl ?_ | refine Cut.exit ?_ | refine Rnd.exit ?_)
        refine slOwn_info (Bs := _) (xs := (accs.map accCells).flatten) (by repeat (first | exact pk_head _ _ | apply pk_tail)) fun z1 z2 z3 => ?_
        refine Meet.cut (⟨1, accs, [], 0, 0, 0, 0⟩, .slice q i d, .slice none 0 0, slOwn 59 46 (.slice q i d) i (accs.map accCells).flatten, s, bd) ⟨by simp [rdBody, hn, h8, hs], RowsR.own _ (accs_len accs) (by rw [List.length_map, hal]) z1 z2 z3, RowsR.nil _ _⟩ (by repeat (first | (with_reducible exact Ag.refl _ _) | (with_reducible apply Ag.pu0) | ((with_reducible refine Ag.pu _ ?_ ?_); · exact rfl) | ((with_reducible refine Ag.mix ?_ ?_); · exact rfl) | ((with_reducible refine Ag.pus ?_ ?_); · exact rfl))) trivial ?_
        exact Ent.trans (Bs := cb b5 28 (rqCells ⟨1, accs, [], 0, 0, 0, 0⟩ (.slice q i d) (.slice none 0 0)) :: RdAt A p s bd :: slOwn 59 46 (.slice q i d) i (accs.map accCells).flatten :: A :: cb b2 28 zRow :: F) (by repeat (first | exact Ent.refl _ | (apply Ent.cons; · repeat (first | exact pk_head _ _ | apply pk_tail)) | apply Ent.skip)) (Ent.refl _)
    by_cases k2 : k = 2
    · subst k2
      refine CW.region ?_
      refine L1 (ps_f (ps_eql rfl rfl) (by decide)).os ?_
      refine L1 (ps_assign rfl).os ?_
      refine LW.nil ?_
      repeat (first | refine CW.seq ?_ | refine PW.then_ ?_ | refine CW.block ?_ | refine CW.skip ?_ | refine CW.ret ?_ | refine PW.then_ret ?_ | refine PW.block_ret ?_ | refine Cut.ret ?_ | refine Rnd.ret ?_ | refine PW.block_normal ?_ | refine CW.exit ?_ | refine PW.then_exit ?_ | refine PW.block_hit ?_ | refine PW.block_miss rfl ?_ | refine Cut.exit ?_ | refine Rnd.exit ?_)
      refine CW.cond_false rfl ?_
      repeat (first | refine CW.seq ?_ | refine PW.then_ ?_ | refine CW.block ?_ | refine CW.skip ?_ | refine CW.ret ?_ | refine PW.then_ret ?_ | refine PW.block_ret ?_ | refine Cut.ret ?_ | refine Rnd.ret ?_ | refine PW.block_normal ?_ | refine CW.exit ?_ | refine PW.then_exit ?_ | refine PW.block_hit ?_ | refine PW.block_miss rfl ?_ | refine Cut.exit ?_ | refine Rnd.exit ?_)
      refine CW.region ?_
      refine L1 (ps_t (ps_eql rfl rfl) (rfl)).os ?_
      refine L1 (ps_assign rfl).os ?_
      refine LW.nil ?_
      repeat (first | refine CW.seq ?_ | refine PW.then_ ?_ | refine CW.block ?_ | refine CW.skip ?_ | refine CW.ret ?_ | refine PW.then_ret ?_ | refine PW.block_ret ?_ | refine Cut.ret ?_ | refine Rnd.ret ?_ | refine PW.block_normal ?_ | refine CW.exit ?_ | refine PW.then_exit ?_ | refine PW.block_hit ?_ | refine PW.block_miss rfl ?_ | refine Cut.exit ?_ | refine Rnd.exit ?_)
      refine CW.cond_true rfl ?_
      repeat (first | refine CW.seq ?_ | refine PW.then_ ?_ | refine CW.block ?_ | refine CW.skip ?_ | refine CW.ret ?_ | refine PW.then_ret ?_ | refine PW.block_ret ?_ | refine Cut.ret ?_ | refine Rnd.ret ?_ | refine PW.block_normal ?_ | refine CW.exit ?_ | refine PW.then_exit ?_ | refine PW.block_hit ?_ | refine PW.block_miss rfl ?_ | refine Cut.exit ?_ | refine Rnd.exit ?_)
      refine CW.region ?_
      refine L1 (ps_move rfl).os ?_
      refine LE (os_RInt (A := A) 1 (by decide) (by decide) hm1 rfl (by repeat (first | exact pk_head _ _ | apply pk_tail)) (by repeat (first | exact pk_head _ _ | apply pk_tail))) ?_
      rintro _ _ ⟨n, bs2, bad2, rfl, rfl, hn, hm2⟩
      refine L1 (ps_assign rfl).os ?_
      refine LW.nil ?_
      repeat (first | refine CW.seq ?_ | refine PW.then_ ?_ | refine CW.block ?_ | refine CW.skip ?_ | refine CW.ret ?_ | refine PW.then_ret ?_ | refine PW.block_ret ?_ | refine Cut.ret ?_ | refine Rnd.ret ?_ | refine PW.block_normal ?_ | refine CW.exit ?_ | refine PW.then_exit ?_ | refine PW.block_hit ?_ | refine PW.block_miss rfl ?_ | refine Cut.exit ?_ | refine Rnd.exit ?_)
      by_cases h8 : 8 < n
      · have hrz : readReq bs = (RQ.zero, 2) := by
          rw [hread]
          have : rdBody 2 (bs1, bad1) = (RQ.zero, 2, (bs2, bad2)) := by simp [rdBody, hn, h8]
          rw [this]; simp
        rw [hrz]
        refine CW.region ?_
        refine L1 (ps_move rfl).os ?_
        refine L1 (ps_t (ps_gtr rfl rfl) (by omega)).os ?_
        refine LW.nil ?_
        repeat (first | refine CW.seq ?_ | refine PW.then_ ?_ | refine CW.block ?_ | refine CW.skip ?_ | refine CW.ret ?_ | refine PW.then_ret ?_ | refine PW.block_ret ?_ | refine Cut.ret ?_ | refine Rnd.ret ?_ | refine PW.block_normal ?_ | refine CW.exit ?_ | refine PW.then_exit ?_ | refine PW.block_hit ?_ | refine PW.block_miss rfl ?_ | refine Cut.exit ?_ | refine Rnd.exit ?_)
        refine CW.cond_true rfl ?_
        repeat (first | refine CW.seq ?_ | refine PW.then_ ?_ | refine CW.block ?_ | refine CW.skip ?_ | refine CW.ret ?_ | refine PW.then_ret ?_ | refine PW.block_ret ?_ | refine Cut.ret ?_ | refine Rnd.ret ?_ | refine PW.block_normal ?_ | refine CW.exit ?_ | refine PW.then_exit ?_ | refine PW.block_hit ?_ | refine PW.block_miss rfl ?_ | refine Cut.exit ?_ | refine Rnd.exit ?_)
        refine CW.region ?_
        refine L1 (ps_build (by rfl) (T.bd28)).os ?_
        refine L1 (os_storeAll (b := b2) (vs := zRow) (by repeat (first | exact pk_head _ _ | apply pk_tail)) (by exact T.sz28) rfl rfl (by simp [Value.oneCell']) (by rfl)) ?_
        refine L1 (ps_assign rfl).os ?_
        refine LW.nil ?_
        repeat (first | refine CW.seq ?_ | refine PW.then_ ?_ | refine CW.block ?_ | refine CW.skip ?_ | refine CW.ret ?_ | refine PW.then_ret ?_ | refine PW.block_ret ?_ | refine Cut.ret ?_ | refine Rnd.ret ?_ | refine PW.block_normal ?_ | refine CW.exit ?_ | refine PW.then_exit ?_ | refine PW.block_hit ?_ | refine PW.block_miss rfl ?_ | refine Cut.exit ?_ | refine Rnd.exit ?_)
        exact Fin.retCT (b := b2) (cs := zRow) rfl (by repeat (first | exact pk_head _ _ | apply pk_tail)) T.ag28 (by exact T.sz28) rfl (.int .i64 2) rfl [bag [], A] ⟨.slice none 0 0, .slice none 0 0, bag [], rfl, rfl, RowsR.nil _ _, RowsR.nil _ _⟩ (Ent.trans (Bs := A :: F) (by repeat (first | exact Ent.refl _ | (apply Ent.cons; · repeat (first | exact pk_head _ _ | apply pk_tail)) | apply Ent.skip)) (Ent.emp _))
      refine CW.region ?_
      refine L1 (ps_move rfl).os ?_
      refine L1 (ps_f (ps_gtr rfl rfl) (by omega)).os ?_
      refine LW.nil ?_
      repeat (first | refine CW.seq ?_ | refine PW.then_ ?_ | refine CW.block ?_ | refine CW.skip ?_ | refine CW.ret ?_ | refine PW.then_ret ?_ | refine PW.block_ret ?_ | refine Cut.ret ?_ | refine Rnd.ret ?_ | refine PW.block_normal ?_ | refine CW.exit ?_ | refine PW.then_exit ?_ | refine PW.block_hit ?_ | refine PW.block_miss rfl ?_ | refine Cut.exit ?_ | refine Rnd.exit ?_)
      refine CW.cond_false rfl ?_
      repeat (first | refine CW.seq ?_ | refine PW.then_ ?_ | refine CW.block ?_ | refine CW.skip ?_ | refine CW.ret ?_ | refine PW.then_ret ?_ | refine PW.block_ret ?_ | refine Cut.ret ?_ | refine Rnd.ret ?_ | refine PW.block_normal ?_ | refine CW.exit ?_ | refine PW.then_exit ?_ | refine PW.block_hit ?_ | refine PW.block_miss rfl ?_ | refine Cut.exit ?_ | refine Rnd.exit ?_)
      refine CW.region ?_
      refine L1 (ps_move rfl).os ?_
      refine L1 (ps_move rfl).os ?_
      refine LW.nil ?_
      refine J.ent (Ent.slNil 71 16 _) ?_
      repeat (first | refine CW.seq ?_ | refine PW.then_ ?_ | refine CW.block ?_ | refine CW.skip ?_ | refine CW.ret ?_ | refine PW.then_ret ?_ | refine PW.block_ret ?_ | refine Cut.ret ?_ | refine Rnd.ret ?_ | refine PW.block_normal ?_ | refine CW.exit ?_ | refine PW.then_exit ?_ | refine PW.block_hit ?_ | refine PW.block_miss rfl ?_ | refine Cut.exit ?_ | refine Rnd.exit ?_)
      refine CW.loopM (α := Nat × List TrS × Option Addr × Nat × List UInt8 × Bool) [24, 25, 26, 27, 28, 29, 30, 31, 32, 33, 34, 35, 36, 37, 38, 39, 40, 41, 42, 43, 44, 45, 46, 47, 48, 49, 50, 51, 52, 53, 54, 55, 56, 57, 58, 59, 60, 61, 62, 63] (fun kk a => a.1 ≤ n ∧ kk = n - a.1 ∧ rdMany rdTr a.1 (bs2, bad2) = (a.2.1, (a.2.2.2.2.1, a.2.2.2.2.2)) ∧ a.2.2.2.2.1.length ≤ maxLen) (fun a => [(24, .int .i64 a.1)])
        (fun a => cb b5 28 (rqCells ⟨2, [], [], 0, 0, 0, 0⟩ (.slice none 0 0) (.slice a.2.2.1 a.1 a.2.2.2.1)) :: slOwn 71 16 (.slice a.2.2.1 a.1 a.2.2.2.1) a.1 (a.2.1.map trCells).flatten :: RdAt A p a.2.2.2.2.1 a.2.2.2.2.2 :: A :: cb b2 28 zRow :: F)
        n (0, [], none, 0, bs2, bad2) ⟨Nat.zero_le _, rfl, rfl, hm2⟩ ⟨rfl, trivial⟩ (by repeat (first | exact Ent.refl _ | (apply Ent.cons; · repeat (first | exact pk_head _ _ | apply pk_tail)) | apply Ent.skip)) ?_
      rintro kk ⟨i, accs, q, d, s, bd⟩ g ⟨hi, hkk, hs, hsm⟩
      dsimp only at hi hkk hs hsm ⊢
      have hal : accs.length = i := by have := rdMany_len rdTr i (bs2, bad2); rw [hs] at this; exact this
      repeat (first | refine CW.seq ?_ | refine PW.then_ ?_ | refine CW.block ?_ | refine CW.skip ?_ | refine CW.ret ?_ | refine PW.then_ret ?_ | refine PW.block_ret ?_ | refine Cut.ret ?_ | refine Rnd.ret ?_ | refine PW.block_normal ?_ | refine CW.exit ?_ | refine PW.then_exit ?_ | refine PW.block_hit ?_ | refine PW.block_miss rfl ?_ | refine Cut.exit ?_ | refine Rnd.exit ?_)
      by_cases hlt : i < n
      · have hxl : ((accs.map trCells).flatten).length = i * 16 := by rw [← hal]; clear hal hs; induction accs with
          | nil => rfl
          | cons a l ih => rw [List.map_cons, List.flatten_cons, List.length_append, ih, List.length_cons]; show 16 + _ = _; omega
        refine CW.region ?_
        refine L1 (ps_t (ps_lss rfl rfl) (by omega)).os ?_
        refine LW.nil ?_
        repeat (first | refine CW.seq ?_ | refine PW.then_ ?_ | refine CW.block ?_ | refine CW.skip ?_ | refine CW.ret ?_ | refine PW.then_ret ?_ | refine PW.block_ret ?_ | refine Cut.ret ?_ | refine Rnd.ret ?_ | refine PW.block_normal ?_ | refine CW.exit ?_ | refine PW.then_exit ?_ | refine PW.block_hit ?_ | refine PW.block_miss rfl ?_ | refine Cut.exit ?_ | refine Rnd.exit ?_)
        refine CW.cond_true rfl ?_
        repeat (first | refine CW.seq ?_ | refine PW.then_ ?_ | refine CW.block ?_ | refine CW.skip ?_ | refine CW.ret ?_ | refine PW.then_ret ?_ | refine PW.block_ret ?_ | refine Cut.ret ?_ | refine Rnd.ret ?_ | refine PW.block_normal ?_ | refine CW.exit ?_ | refine PW.then_exit ?_ | refine PW.block_hit ?_ | refine PW.block_miss rfl ?_ | refine Cut.exit ?_ | refine Rnd.exit ?_)
        refine CW.region ?_
        refine L1 (ps_fa T.fa28_0 (by decide) rfl).os ?_
        refine L1 (os_load1 (by repeat (first | exact pk_head _ _ | apply pk_tail)) T.ag3 rfl (by rfl)) ?_
        refine L1 (ps_f (ps_eql rfl rfl) (by decide)).os ?_
        refine LW.nil ?_
        repeat (first | refine CW.seq ?_ | refine PW.then_ ?_ | refine CW.block ?_ | refine CW.skip ?_ | refine CW.ret ?_ | refine PW.then_ret ?_ | refine PW.block_ret ?_ | refine Cut.ret ?_ | refine Rnd.ret ?_ | refine PW.block_normal ?_ | refine CW.exit ?_ | refine PW.then_exit ?_ | refine PW.block_hit ?_ | refine PW.block_miss rfl ?_ | refine Cut.exit ?_ | refine Rnd.exit ?_)
        refine CW.cond_false rfl ?_
        repeat (first | refine CW.seq ?_ | refine PW.then_ ?_ | refine CW.block ?_ | refine CW.skip ?_ | refine CW.ret ?_ | refine PW.then_ret ?_ | refine PW.block_ret ?_ | refine Cut.ret ?_ | refine Rnd.ret ?_ | refine PW.block_normal ?_ | refine CW.exit ?_ | refine PW.then_exit ?_ | refine PW.block_hit ?_ | refine PW.block_miss rfl ?_ | refine Cut.exit ?_ | refine Rnd.exit ?_)
        refine CW.cutB (α := TrS × Option Addr × Nat × List UInt8 × Bool) [41, 42, 43, 44, 45, 46, 47, 48, 49, 50, 51, 52, 53, 54, 55, 56, 57, 58, 59, 60, 61, 62] (fun a => rdTr (s, bd) = (a.1, (a.2.2.2.1, a.2.2.2.2)) ∧ a.2.2.2.1.length ≤ maxLen) (fun a => [])
          (fun a => cb b5 28 (rqCells ⟨2, [], [], 0, 0, 0, 0⟩ (.slice none 0 0) (.slice a.2.1 (i + 1) a.2.2.1)) :: slOwn 71 16 (.slice a.2.1 (i + 1) a.2.2.1) (i + 1) ((accs.map trCells).flatten ++ trCells a.1) :: RdAt A p a.2.2.2.1 a.2.2.2.2 :: A :: cb b2 28 zRow :: F) ?_ ?_
        · refine CW.drawH [cb b5 28 (rqCells ⟨2, [], [], 0, 0, 0, 0⟩ (.slice none 0 0) (.slice q i d))] [21, 22] T.mixed ?_
          refine H_take (i := 0) (some 41) rfl rfl (by kernel_rfl) (by kernel_rfl) (by kernel_rfl) rfl (ps_fa T.fa28_2 (by decide) rfl).pl (by kernel_rfl) (pkc (by repeat (first | exact pk_head _ _ | apply pk_tail)) (pkn _)) ?_
          refine H_take (i := 1) (some 42) rfl rfl (by kernel_rfl) (by kernel_rfl) (by kernel_rfl) rfl (pl_load1 (by repeat (first | exact pk_head _ _ | apply pk_tail)) T.ag23 rfl (by rfl)) (by kernel_rfl) (pkc (by repeat (first | exact pk_head _ _ | apply pk_tail)) (pkn _)) ?_
          refine H_take (i := 2) (some 43) rfl rfl (by kernel_rfl) (by kernel_rfl) (by kernel_rfl) rfl (ps_move rfl).pl (by kernel_rfl) (pkc (by repeat (first | exact pk_head _ _ | apply pk_tail)) (pkn _)) ?_
          refine H_take (i := 4) (some 45) rfl rfl (by kernel_rfl) (by kernel_rfl) (by kernel_rfl) rfl (ps_move rfl).pl (by kernel_rfl) (pkc (by repeat (first | exact pk_head _ _ | apply pk_tail)) (pkn _)) ?_
          refine H_take (i := 6) (some 47) rfl rfl (by kernel_rfl) (by kernel_rfl) (by kernel_rfl) rfl (ps_move rfl).pl (by kernel_rfl) (pkc (by repeat (first | exact pk_head _ _ | apply pk_tail)) (pkn _)) ?_
          refine H_take (i := 8) (some 49) rfl rfl (by kernel_rfl) (by kernel_rfl) (by kernel_rfl) rfl (ps_move rfl).pl (by kernel_rfl) (pkc (by repeat (first | exact pk_head _ _ | apply pk_tail)) (pkn _)) ?_
          refine H_take (i := 10) (some 51) rfl rfl (by kernel_rfl) (by kernel_rfl) (by kernel_rfl) rfl (ps_move rfl).pl (by kernel_rfl) (pkc (by repeat (first | exact pk_head _ _ | apply pk_tail)) (pkn _)) ?_
          refine H_take (i := 12) (some 53) rfl rfl (by kernel_rfl) (by kernel_rfl) (by kernel_rfl) rfl (ps_move rfl).pl (by kernel_rfl) (pkc (by repeat (first | exact pk_head _ _ | apply pk_tail)) (pkn _)) ?_
          refine H_take (i := 14) (some 55) rfl rfl (by kernel_rfl) (by kernel_rfl) (by kernel_rfl) rfl (ps_move rfl).pl (by kernel_rfl) (pkc (by repeat (first | exact pk_head _ _ | apply pk_tail)) (pkn _)) ?_
          refine H_take (i := 16) (some 57) rfl rfl (by kernel_rfl) (by kernel_rfl) (by kernel_rfl) rfl (ps_move rfl).pl (by kernel_rfl) (pkc (by repeat (first | exact pk_head _ _ | apply pk_tail)) (pkn _)) ?_
          refine H_branch (rs := [3]) (by kernel_rfl) (by simp) ?_
          refine HR.consE (i := 3) (some 44) rfl rfl rfl (os_RNum (A := A) hsm rfl (by repeat (first | exact pk_head _ _ | apply pk_tail)) (by repeat (first | exact pk_head _ _ | apply pk_tail))) ?_ ?_
          · rintro _ _ ⟨x1, s1, d1, rfl, rfl, e1, l1⟩
            refine ⟨fun _ => ⟨_, (pkc (by repeat (first | exact pk_head _ _ | apply pk_tail)) (pkn _))⟩, ?_⟩
            refine H_branch (rs := [5]) (by kernel_rfl) (by simp) ?_
            refine HR.consE (i := 5) (some 46) rfl rfl rfl (os_RNum (A := A) l1 rfl (by repeat (first | exact pk_head _ _ | apply pk_tail)) (by repeat (first | exact pk_head _ _ | apply pk_tail))) ?_ ?_
            · rintro _ _ ⟨x2, s2, d2, rfl, rfl, e2, l2⟩
              refine ⟨fun _ => ⟨_, (pkc (by repeat (first | exact pk_head _ _ | apply pk_tail)) (pkn _))⟩, ?_⟩
              refine H_branch (rs := [7]) (by kernel_rfl) (by simp) ?_
              refine HR.consE (i := 7) (some 48) rfl rfl rfl (os_RNum (A := A) l2 rfl (by repeat (first | exact pk_head _ _ | apply pk_tail)) (by repeat (first | exact pk_head _ _ | apply pk_tail))) ?_ ?_
              · rintro _ _ ⟨x3, s3, d3, rfl, rfl, e3, l3⟩
                refine ⟨fun _ => ⟨_, (pkc (by repeat (first | exact pk_head _ _ | apply pk_tail)) (pkn _))⟩, ?_⟩
                refine H_branch (rs := [9]) (by kernel_rfl) (by simp) ?_
                refine HR.consE (i := 9) (some 50) rfl rfl rfl (os_RNum (A := A) l3 rfl (by repeat (first | exact pk_head _ _ | apply pk_tail)) (by repeat (first | exact pk_head _ _ | apply pk_tail))) ?_ ?_
                · rintro _ _ ⟨x4, s4, d4, rfl, rfl, e4, l4⟩
                  refine ⟨fun _ => ⟨_, (pkc (by repeat (first | exact pk_head _ _ | apply pk_tail)) (pkn _))⟩, ?_⟩
                  refine H_branch (rs := [11]) (by kernel_rfl) (by simp) ?_
                  refine HR.consE (i := 11) (some 52) rfl rfl rfl (os_RNum (A := A) l4 rfl (by repeat (first | exact pk_head _ _ | apply pk_tail)) (by repeat (first | exact pk_head _ _ | apply pk_tail))) ?_ ?_
                  · rintro _ _ ⟨x5, s5, d5, rfl, rfl, e5, l5⟩
                    refine ⟨fun _ => ⟨_, (pkc (by repeat (first | exact pk_head _ _ | apply pk_tail)) (pkn _))⟩, ?_⟩
                    refine H_branch (rs := [13]) (by kernel_rfl) (by simp) ?_
                    refine HR.consE (i := 13) (some 54) rfl rfl rfl (os_RInt (A := A) 4 (by decide) (by decide) l5 rfl (by repeat (first | exact pk_head _ _ | apply pk_tail)) (by repeat (first | exact pk_head _ _ | apply pk_tail))) ?_ ?_
                    · rintro _ _ ⟨x6, s6, d6, rfl, rfl, e6, l6⟩
                      refine ⟨fun _ => ⟨_, (pkc (by repeat (first | exact pk_head _ _ | apply pk_tail)) (pkn _))⟩, ?_⟩
                      refine H_branch (rs := [15]) (by kernel_rfl) (by simp) ?_
                      refine HR.consE (i := 15) (some 56) rfl rfl rfl (os_RInt (A := A) 4 (by decide) (by decide) l6 rfl (by repeat (first | exact pk_head _ _ | apply pk_tail)) (by repeat (first | exact pk_head _ _ | apply pk_tail))) ?_ ?_
                      · rintro _ _ ⟨x7, s7, d7, rfl, rfl, e7, l7⟩
                        refine ⟨fun _ => ⟨_, (pkc (by repeat (first | exact pk_head _ _ | apply pk_tail)) (pkn _))⟩, ?_⟩
                        refine H_branch (rs := [17]) (by kernel_rfl) (by simp) ?_
                        refine HR.consE (i := 17) (some 58) rfl rfl rfl (os_RInt (A := A) 2 (by decide) (by decide) l7 rfl (by repeat (first | exact pk_head _ _ | apply pk_tail)) (by repeat (first | exact pk_head _ _ | apply pk_tail))) ?_ ?_
                        · rintro _ _ ⟨x8, s8, d8, rfl, rfl, e8, l8⟩
                          refine ⟨fun _ => ⟨_, (pkc (by repeat (first | exact pk_head _ _ | apply pk_tail)) (pkn _))⟩, ?_⟩
                          refine H_take (i := 18) (some 59) rfl rfl (by kernel_rfl) (by kernel_rfl) (by kernel_rfl) rfl (ps_to (u := .agg (trCells ⟨x1, x2, x3, x4, x5, x6, x7, x8⟩).toArray) (by rfl) (ps_build (by rfl) (T.bd71_0_1_2_3_4_5_6_7 _ _ _ _ _ _ _ _ _ _ _ _ _))).pl (by kernel_rfl) (pkc (by repeat (first | exact pk_head _ _ | apply pk_tail)) (pkn _)) ?_
                          refine H_branch (rs := [19]) (by kernel_rfl) (by simp) ?_
                          refine HR.consE (i := 19) (some 60) rfl rfl rfl (os_bsl1 (vs := trCells ⟨x1, x2, x3, x4, x5, x6, x7, x8⟩) T.un23 T.ti71 (by rfl) rfl (by rfl) (by rfl) (by decide) (by decide)) ?_ ?_
                          · rintro _ _ ⟨b60, rfl, rfl⟩
                            refine ⟨fun _ => ⟨_, (pkc (by repeat (first | exact pk_head _ _ | apply pk_tail)) (pkn _))⟩, ?_⟩
                            refine H_branch (rs := [20]) (by kernel_rfl) (by simp) ?_
                            refine HR.consE (i := 20) (some 61) rfl rfl rfl (os_append (xs := (accs.map trCells).flatten) (news := trCells ⟨x1, x2, x3, x4, x5, x6, x7, x8⟩) (by repeat (first | exact pk_head _ _ | apply pk_tail)) T.un23 T.ti71 (by rfl) (by decide) rfl rfl (by rfl) (Src.cb (b := b60) (by repeat (first | exact pk_head _ _ | apply pk_tail)) (by rfl)) (trCells_one _) (by unfold maxLen; omega) (by omega)) ?_ ?_
                            · rintro _ _ ⟨q', d', rfl, rfl, hq'⟩
                              refine ⟨fun _ => ⟨_, (pkc (by repeat (first | exact pk_head _ _ | apply pk_tail)) (pkn _))⟩, ?_⟩
                              refine H_takeP (i := 21) (some 62) rfl rfl (by kernel_rfl) (by kernel_rfl) (by kernel_rfl) rfl (ps_fa T.fa28_2 (by decide) rfl) (by decide) ?_
                              refine H_branch (rs := [22]) (by kernel_rfl) (by simp) ?_
                              refine HR.consL (i := 22) none rfl rfl rfl (os_cbr (rqCells ⟨2, [], [], 0, 0, 0, 0⟩ (.slice none 0 0) (.slice q' (i + 1) d')) (os_store1 (b := b5) (by repeat (first | exact pk_head _ _ | apply pk_tail)) T.sz23 rfl rfl (by rfl) (Nat.le_of_ble_eq_true rfl)) (by rfl)) (by decide) ?_ ?_
                              · skip
                                refine H_done (by kernel_rfl) ?_
                                exact Meet.cut (⟨x1, x2, x3, x4, x5, x6, x7, x8⟩, q', d', s8, d8) ⟨by simp [rdTr, e1, e2, e3, e4, e5, e6, e7, e8], l8⟩ (by repeat (first | (with_reducible exact Ag.refl _ _) | (with_reducible apply Ag.pu0) | ((with_reducible refine Ag.pu _ ?_ ?_); · exact rfl) | ((with_reducible refine Ag.mix ?_ ?_); · exact rfl) | ((with_reducible refine Ag.pus ?_ ?_); · exact rfl))) trivial (by repeat (first | exact Ent.refl _ | (apply Ent.cons; · repeat (first | exact pk_head _ _ | apply pk_tail)) | apply Ent.skip))
                              exact HR.nil
                            exact HR.nil
                          exact HR.nil
                        exact HR.nil
                      exact HR.nil
                    exact HR.nil
                  exact HR.nil
                exact HR.nil
              exact HR.nil
            exact HR.nil
          exact HR.nil
        rintro ⟨a, q2, d2, s2, bd2⟩ g2 ⟨ha, hl2⟩
        dsimp only at ha hl2 ⊢
        repeat (first | refine CW.seq ?_ | refine PW.then_ ?_ | refine CW.block ?_ | refine CW.skip ?_ | refine CW.ret ?_ | refine PW.then_ret ?_ | refine PW.block_ret ?_ | refine Cut.ret ?_ | refine Rnd.ret ?_ | refine PW.block_normal ?_ | refine CW.exit ?_ | refine PW.then_exit ?_ | refine PW.block_hit ?_ | refine PW.block_miss rfl ?_ | refine Cut.exit ?_ | refine Rnd.exit ?_)
        refine CW.region ?_
        refine L1 (ps_add_i64 rfl rfl (by omega) (by omega)).os ?_
        refine L1 (ps_move rfl).os ?_
        refine LW.nil ?_
        refine Meet.round (n - (i + 1)) (i + 1, accs ++ [a], q2, d2, s2, bd2) (by omega) ⟨hlt, rfl, by simp [rdMany, hs, ha], hl2⟩ (by repeat (first | (with_reducible exact Ag.refl _ _) | (with_reducible apply Ag.pu0) | ((with_reducible refine Ag.pu _ ?_ ?_); · exact rfl) | ((with_reducible refine Ag.mix ?_ ?_); · exact rfl) | ((with_reducible refine Ag.pus ?_ ?_); · exact rfl))) ⟨rfl, trivial⟩ ?_
        dsimp only
        rw [List.map_append, List.flatten_append, show ([a].map trCells).flatten = trCells a by simp]
        exact (by repeat (first | exact Ent.refl _ | (apply Ent.cons; · repeat (first | exact pk_head _ _ | apply pk_tail)) | apply Ent.skip))
      · have hin : i = n := by omega
        subst hin
        refine CW.region ?_
        refine L1 (ps_f (ps_lss rfl rfl) (by omega)).os ?_
        refine LW.nil ?_
        repeat (first | refine CW.seq ?_ | refine PW.then_ ?_ | refine CW.block ?_ | refine CW.skip ?_ | refine CW.ret ?_ | refine PW.then_ret ?_ | refine PW.block_ret ?_ | refine Cut.ret ?_ | refine Rnd.ret ?_ | refine PW.block_normal ?_ | refine CW.exit ?_ | refine PW.then_exit ?_ | refine PW.block_hit ?_ | refine PW.block_miss rfl ?_ | refine Cut.exit ?_ | refine Rnd.exit ?_)
        refine CW.cond_false rfl ?_
        repeat (first | refine CW.seq ?_ | refine PW.then_ ?_ | refine CW.block ?_ | refine CW.skip ?_ | refine CW.ret ?_ | refine PW.then_ret ?_ | refine PW.block_ret ?_ | refine Cut.ret ?_ | refine Rnd.ret ?_ | refine PW.block_normal ?_ | refine CW.exit ?_ | refine PW.then_exit ?_ | refine PW.block_hit ?_ | refine PW.block_miss rfl ?_ | refine Cut.exit ?_ | refine Rnd.exit ?_)
        refine slOwn_info (Bs := _) (xs := (accs.map trCells).flatten) (by repeat (first | exact pk_head _ _ | apply pk_tail)) fun z1 z2 z3 => ?_
        refine Meet.cut (⟨2, [], accs, 0, 0, 0, 0⟩, .slice none 0 0, .slice q i d, slOwn 71 16 (.slice q i d) i (accs.map trCells).flatten, s, bd) ⟨by simp [rdBody, hn, h8, hs], RowsR.nil _ _, RowsR.own _ (trs_len accs) (by rw [List.length_map, hal]) z1 z2 z3⟩ (by repeat (first | (with_reducible exact Ag.refl _ _) | (with_reducible apply Ag.pu0) | ((with_reducible refine Ag.pu _ ?_ ?_); · exact rfl) | ((with_reducible refine Ag.mix ?_ ?_); · exact rfl) | ((with_reducible refine Ag.pus ?_ ?_); · exact rfl))) trivial ?_
        exact Ent.trans (Bs := cb b5 28 (rqCells ⟨2, [], accs, 0, 0, 0, 0⟩ (.slice none 0 0) (.slice q i d)) :: RdAt A p s bd :: slOwn 71 16 (.slice q i d) i (accs.map trCells).flatten :: A :: cb b2 28 zRow :: F) (by repeat (first | exact Ent.refl _ | (apply Ent.cons; · repeat (first | exact pk_head _ _ | apply pk_tail)) | apply Ent.skip)) (Ent.refl _)
    have n1 : ¬ (k : Int) = 1 := by omega
    have n2 : ¬ (k : Int) = 2 := by omega
    refine CW.region ?_
    refine L1 (ps_f (ps_eql rfl rfl) (n1)).os ?_
    refine L1 (ps_assign rfl).os ?_
    refine LW.nil ?_
    repeat (first | refine CW.seq ?_ | refine PW.then_ ?_ | refine CW.block ?_ | refine CW.skip ?_ | refine CW.ret ?_ | refine PW.then_ret ?_ | refine PW.block_ret ?_ | refine Cut.ret ?_ | refine Rnd.ret ?_ | refine PW.block_normal ?_ | refine CW.exit ?_ | refine PW.then_exit ?_ | refine PW.block_hit ?_ | refine PW.block_miss rfl ?_ | refine Cut.exit ?_ | refine Rnd.exit ?_)
    refine CW.cond_false rfl ?_
    repeat (first | refine CW.seq ?_ | refine PW.then_ ?_ | refine CW.block ?_ | refine CW.skip ?_ | refine CW.ret ?_ | refine PW.then_ret ?_ | refine PW.block_ret ?_ | refine Cut.ret ?_ | refine Rnd.ret ?_ | refine PW.block_normal ?_ | refine CW.exit ?_ | refine PW.then_exit ?_ | refine PW.block_hit ?_ | refine PW.block_miss rfl ?_ | refine Cut.exit ?_ | refine Rnd.exit ?_)
    refine CW.region ?_
    refine L1 (ps_f (ps_eql rfl rfl) (n2)).os ?_
    refine L1 (ps_assign rfl).os ?_
    refine LW.nil ?_
    repeat (first | refine CW.seq ?_ | refine PW.then_ ?_ | refine CW.block ?_ | refine CW.skip ?_ | refine CW.ret ?_ | refine PW.then_ret ?_ | refine PW.block_ret ?_ | refine Cut.ret ?_ | refine Rnd.ret ?_ | refine PW.block_normal ?_ | refine CW.exit ?_ | refine PW.then_exit ?_ | refine PW.block_hit ?_ | refine PW.block_miss rfl ?_ | refine Cut.exit ?_ | refine Rnd.exit ?_)
    refine CW.cond_false rfl ?_
    repeat (first | refine CW.seq ?_ | refine PW.then_ ?_ | refine CW.block ?_ | refine CW.skip ?_ | refine CW.ret ?_ | refine PW.then_ret ?_ | refine PW.block_ret ?_ | refine Cut.ret ?_ | refine Rnd.ret ?_ | refine PW.block_normal ?_ | refine CW.exit ?_ | refine PW.then_exit ?_ | refine PW.block_hit ?_ | refine PW.block_miss rfl ?_ | refine Cut.exit ?_ | refine Rnd.exit ?_)
    by_cases k3 : k = 3
    · subst k3
      refine CW.region ?_
      refine L1 (ps_t (ps_eql rfl rfl) (rfl)).os ?_
      refine L1 (ps_assign rfl).os ?_
      refine LW.nil ?_
      repeat (first | refine CW.seq ?_ | refine PW.then_ ?_ | refine CW.block ?_ | refine CW.skip ?_ | refine CW.ret ?_ | refine PW.then_ret ?_ | refine PW.block_ret ?_ | refine Cut.ret ?_ | refine Rnd.ret ?_ | refine PW.block_normal ?_ | refine CW.exit ?_ | refine PW.then_exit ?_ | refine PW.block_hit ?_ | refine PW.block_miss rfl ?_ | refine Cut.exit ?_ | refine Rnd.exit ?_)
      refine CW.cond_true rfl ?_
      repeat (first | refine CW.seq ?_ | refine PW.then_ ?_ | refine CW.block ?_ | refine CW.skip ?_ | refine CW.ret ?_ | refine PW.then_ret ?_ | refine PW.block_ret ?_ | refine Cut.ret ?_ | refine Rnd.ret ?_ | refine PW.block_normal ?_ | refine CW.exit ?_ | refine PW.then_exit ?_ | refine PW.block_hit ?_ | refine PW.block_miss rfl ?_ | refine Cut.exit ?_ | refine Rnd.exit ?_)
      refine CW.region ?_
      refine L1 (ps_move rfl).os ?_
      refine LE (os_RInt (A := A) 4 (by decide) (by decide) hm1 rfl (by repeat (first | exact pk_head _ _ | apply pk_tail)) (by repeat (first | exact pk_head _ _ | apply pk_tail))) ?_
      rintro _ _ ⟨x1, s1, d1, rfl, rfl, e1, l1⟩
      refine L1 (ps_fa T.fa28_4 (by decide) rfl).os ?_
      refine L1 (os_cbr (rqCells ⟨3, [], [], 0, x1, 0, 0⟩ (.slice none 0 0) (.slice none 0 0)) (os_store1 (b := b5) (by repeat (first | exact pk_head _ _ | apply pk_tail)) T.sz3 rfl rfl (by rfl) (Nat.le_of_ble_eq_true rfl)) (by rfl)) ?_
      refine LW.nil ?_
      repeat (first | refine CW.seq ?_ | refine PW.then_ ?_ | refine CW.block ?_ | refine CW.skip ?_ | refine CW.ret ?_ | refine PW.then_ret ?_ | refine PW.block_ret ?_ | refine Cut.ret ?_ | refine Rnd.ret ?_ | refine PW.block_normal ?_ | refine CW.exit ?_ | refine PW.then_exit ?_ | refine PW.block_hit ?_ | refine PW.block_miss rfl ?_ | refine Cut.exit ?_ | refine Rnd.exit ?_)
      exact Meet.cut (⟨3, [], [], 0, x1, 0, 0⟩, .slice none 0 0, .slice none 0 0, bag [], s1, d1) ⟨by simp [rdBody, e1], RowsR.nil _ _, RowsR.nil _ _⟩ (by repeat (first | (with_reducible exact Ag.refl _ _) | (with_reducible apply Ag.pu0) | ((with_reducible refine Ag.pu _ ?_ ?_); · exact rfl) | ((with_reducible refine Ag.mix ?_ ?_); · exact rfl) | ((with_reducible refine Ag.pus ?_ ?_); · exact rfl))) trivial (Ent.trans (Bs := cb b5 28 (rqCells ⟨3, [], [], 0, x1, 0, 0⟩ (.slice none 0 0) (.slice none 0 0)) :: RdAt A p s1 d1 :: A :: cb b2 28 zRow :: F) (by repeat (first | exact Ent.refl _ | (apply Ent.cons; · repeat (first | exact pk_head _ _ | apply pk_tail)) | apply Ent.skip)) (Ent.cons (pk_head _ _) (Ent.cons (pk_head _ _) (Ent.emp _))))
    have n3 : ¬ (k : Int) = 3 := by omega
    refine CW.region ?_
    refine L1 (ps_f (ps_eql rfl rfl) (n3)).os ?_
    refine L1 (ps_assign rfl).os ?_
    refine LW.nil ?_
    repeat (first | refine CW.seq ?_ | refine PW.then_ ?_ | refine CW.block ?_ | refine CW.skip ?_ | refine CW.ret ?_ | refine PW.then_ret ?_ | refine PW.block_ret ?_ | refine Cut.ret ?_ | refine Rnd.ret ?_ | refine PW.block_normal ?_ | refine CW.exit ?_ | refine PW.then_exit ?_ | refine PW.block_hit ?_ | refine PW.block_miss rfl ?_ | refine Cut.exit ?_ | refine Rnd.exit ?_)
    refine CW.cond_false rfl ?_
    refine CW.seq ?_
    refine CW.cutB (α := Bool) [69, 70, 71, 72] (fun o => o = decide (k = 4 ∨ k = 5 ∨ k = 7)) (fun o => [(69, .bool o)]) (fun _ => cb b5 28 (rqCells ⟨k, [], [], 0, 0, 0, 0⟩ (.slice none 0 0) (.slice none 0 0)) :: RdAt A p bs1 bad1 :: A :: cb b2 28 zRow :: F) ?_ ?_
    · repeat (first | refine CW.seq ?_ | refine PW.then_ ?_ | refine CW.block ?_ | refine CW.skip ?_ | refine CW.ret ?_ | refine PW.then_ret ?_ | refine PW.block_ret ?_ | refine Cut.ret ?_ | refine Rnd.ret ?_ | refine PW.block_normal ?_ | refine CW.exit ?_ | refine PW.then_exit ?_ | refine PW.block_hit ?_ | refine PW.block_miss rfl ?_ | refine Cut.exit ?_ | refine Rnd.exit ?_)
      by_cases k4 : k = 4
      · subst k4
        refine CW.region ?_
        refine L1 (ps_t (ps_eql rfl rfl) (rfl)).os ?_
        refine L1 (ps_assign rfl).os ?_
        refine LW.nil ?_
        repeat (first | refine CW.seq ?_ | refine PW.then_ ?_ | refine CW.block ?_ | refine CW.skip ?_ | refine CW.ret ?_ | refine PW.then_ret ?_ | refine PW.block_ret ?_ | refine Cut.ret ?_ | refine Rnd.ret ?_ | refine PW.block_normal ?_ | refine CW.exit ?_ | refine PW.then_exit ?_ | refine PW.block_hit ?_ | refine PW.block_miss rfl ?_ | refine Cut.exit ?_ | refine Rnd.exit ?_)
        refine CW.cond_true rfl ?_
        repeat (first | refine CW.seq ?_ | refine PW.then_ ?_ | refine CW.block ?_ | refine CW.skip ?_ | refine CW.ret ?_ | refine PW.then_ret ?_ | refine PW.block_ret ?_ | refine Cut.ret ?_ | refine Rnd.ret ?_ | refine PW.block_normal ?_ | refine CW.exit ?_ | refine PW.then_exit ?_ | refine PW.block_hit ?_ | refine PW.block_miss rfl ?_ | refine Cut.exit ?_ | refine Rnd.exit ?_)
        exact Meet.cut true (by simp) (by repeat (first | (with_reducible exact Ag.refl _ _) | (with_reducible apply Ag.pu0) | ((with_reducible refine Ag.pu _ ?_ ?_); · exact rfl) | ((with_reducible refine Ag.mix ?_ ?_); · exact rfl) | ((with_reducible refine Ag.pus ?_ ?_); · exact rfl))) ⟨rfl, trivial⟩ (by repeat (first | exact Ent.refl _ | (apply Ent.cons; · repeat (first | exact pk_head _ _ | apply pk_tail)) | apply Ent.skip))
      have n4 : ¬ (k : Int) = 4 := by omega
      refine CW.region ?_
      refine L1 (ps_f (ps_eql rfl rfl) (n4)).os ?_
      refine L1 (ps_assign rfl).os ?_
      refine LW.nil ?_
      repeat (first | refine CW.seq ?_ | refine PW.then_ ?_ | refine CW.block ?_ | refine CW.skip ?_ | refine CW.ret ?_ | refine PW.then_ret ?_ | refine PW.block_ret ?_ | refine Cut.ret ?_ | refine Rnd.ret ?_ | refine PW.block_normal ?_ | refine CW.exit ?_ | refine PW.then_exit ?_ | refine PW.block_hit ?_ | refine PW.block_miss rfl ?_ | refine Cut.exit ?_ | refine Rnd.exit ?_)
      refine CW.cond_false rfl ?_
      repeat (first | refine CW.seq ?_ | refine PW.then_ ?_ | refine CW.block ?_ | refine CW.skip ?_ | refine CW.ret ?_ | refine PW.then_ret ?_ | refine PW.block_ret ?_ | refine Cut.ret ?_ | refine Rnd.ret ?_ | refine PW.block_normal ?_ | refine CW.exit ?_ | refine PW.then_exit ?_ | refine PW.block_hit ?_ | refine PW.block_miss rfl ?_ | refine Cut.exit ?_ | refine Rnd.exit ?_)
      by_cases k5 : k = 5
      · subst k5
        refine CW.region ?_
        refine L1 (ps_t (ps_eql rfl rfl) (rfl)).os ?_
        refine L1 (ps_assign rfl).os ?_
        refine LW.nil ?_
        repeat (first | refine CW.seq ?_ | refine PW.then_ ?_ | refine CW.block ?_ | refine CW.skip ?_ | refine CW.ret ?_ | refine PW.then_ret ?_ | refine PW.block_ret ?_ | refine Cut.ret ?_ | refine Rnd.ret ?_ | refine PW.block_normal ?_ | refine CW.exit ?_ | refine PW.then_exit ?_ | refine PW.block_hit ?_ | refine PW.block_miss rfl ?_ | refine Cut.exit ?_ | refine Rnd.exit ?_)
        refine CW.cond_true rfl ?_
        repeat (first | refine CW.seq ?_ | refine PW.then_ ?_ | refine CW.block ?_ | refine CW.skip ?_ | refine CW.ret ?_ | refine PW.then_ret ?_ | refine PW.block_ret ?_ | refine Cut.ret ?_ | refine Rnd.ret ?_ | refine PW.block_normal ?_ | refine CW.exit ?_ | refine PW.then_exit ?_ | refine PW.block_hit ?_ | refine PW.block_miss rfl ?_ | refine Cut.exit ?_ | refine Rnd.exit ?_)
        exact Meet.cut true (by simp) (by repeat (first | (with_reducible exact Ag.refl _ _) | (with_reducible apply Ag.pu0) | ((with_reducible refine Ag.pu _ ?_ ?_); · exact rfl) | ((with_reducible refine Ag.mix ?_ ?_); · exact rfl) | ((with_reducible refine Ag.pus ?_ ?_); · exact rfl))) ⟨rfl, trivial⟩ (by repeat (first | exact Ent.refl _ | (apply Ent.cons; · repeat (first | exact pk_head _ _ | apply pk_tail)) | apply Ent.skip))
      have n5 : ¬ (k : Int) = 5 := by omega
      refine CW.region ?_
      refine L1 (ps_f (ps_eql rfl rfl) (n5)).os ?_
      refine L1 (ps_assign rfl).os ?_
      refine LW.nil ?_
      repeat (first | refine CW.seq ?_ | refine PW.then_ ?_ | refine CW.block ?_ | refine CW.skip ?_ | refine CW.ret ?_ | refine PW.then_ret ?_ | refine PW.block_ret ?_ | refine Cut.ret ?_ | refine Rnd.ret ?_ | refine PW.block_normal ?_ | refine CW.exit ?_ | refine PW.then_exit ?_ | refine PW.block_hit ?_ | refine PW.block_miss rfl ?_ | refine Cut.exit ?_ | refine Rnd.exit ?_)
      refine CW.cond_false rfl ?_
      repeat (first | refine CW.seq ?_ | refine PW.then_ ?_ | refine CW.block ?_ | refine CW.skip ?_ | refine CW.ret ?_ | refine PW.then_ret ?_ | refine PW.block_ret ?_ | refine Cut.ret ?_ | refine Rnd.ret ?_ | refine PW.block_normal ?_ | refine CW.exit ?_ | refine PW.then_exit ?_ | refine PW.block_hit ?_ | refine PW.block_miss rfl ?_ | refine Cut.exit ?_ | refine Rnd.exit ?_)
      by_cases k7 : k = 7
      · subst k7
        refine CW.region ?_
        refine L1 (ps_t (ps_eql rfl rfl) (rfl)).os ?_
        refine L1 (ps_assign rfl).os ?_
        refine LW.nil ?_
        repeat (first | refine CW.seq ?_ | refine PW.then_ ?_ | refine CW.block ?_ | refine CW.skip ?_ | refine CW.ret ?_ | refine PW.then_ret ?_ | refine PW.block_ret ?_ | refine Cut.ret ?_ | refine Rnd.ret ?_ | refine PW.block_normal ?_ | refine CW.exit ?_ | refine PW.then_exit ?_ | refine PW.block_hit ?_ | refine PW.block_miss rfl ?_ | refine Cut.exit ?_ | refine Rnd.exit ?_)
        exact Meet.cut true (by simp) (by repeat (first | (with_reducible exact Ag.refl _ _) | (with_reducible apply Ag.pu0) | ((with_reducible refine Ag.pu _ ?_ ?_); · exact rfl) | ((with_reducible refine Ag.mix ?_ ?_); · exact rfl) | ((with_reducible refine Ag.pus ?_ ?_); · exact rfl))) ⟨rfl, trivial⟩ (by repeat (first | exact Ent.refl _ | (apply Ent.cons; · repeat (first | exact pk_head _ _ | apply pk_tail)) | apply Ent.skip))
      have n7 : ¬ (k : Int) = 7 := by omega
      refine CW.region ?_
      refine L1 (ps_f (ps_eql rfl rfl) (n7)).os ?_
      refine L1 (ps_assign rfl).os ?_
      refine LW.nil ?_
      repeat (first | refine CW.seq ?_ | refine PW.then_ ?_ | refine CW.block ?_ | refine CW.skip ?_ | refine CW.ret ?_ | refine PW.then_ret ?_ | refine PW.block_ret ?_ | refine Cut.ret ?_ | refine Rnd.ret ?_ | refine PW.block_normal ?_ | refine CW.exit ?_ | refine PW.then_exit ?_ | refine PW.block_hit ?_ | refine PW.block_miss rfl ?_ | refine Cut.exit ?_ | refine Rnd.exit ?_)
      exact Meet.cut false (by simp [k4, k5, k7]) (by repeat (first | (with_reducible exact Ag.refl _ _) | (with_reducible apply Ag.pu0) | ((with_reducible refine Ag.pu _ ?_ ?_); · exact rfl) | ((with_reducible refine Ag.mix ?_ ?_); · exact rfl) | ((with_reducible refine Ag.pus ?_ ?_); · exact rfl))) ⟨rfl, trivial⟩ (by repeat (first | exact Ent.refl _ | (apply Ent.cons; · repeat (first | exact pk_head _ _ | apply pk_tail)) | apply Ent.skip))
    intro o g ho
    repeat (first | refine CW.seq ?_ | refine PW.then_ ?_ | refine CW.block ?_ | refine CW.skip ?_ | refine CW.ret ?_ | refine PW.then_ret ?_ | refine PW.block_ret ?_ | refine Cut.ret ?_ | refine Rnd.ret ?_ | refine PW.block_normal ?_ | refine CW.exit ?_ | refine PW.then_exit ?_ | refine PW.block_hit ?_ | refine PW.block_miss rfl ?_ | refine Cut.exit ?_ | refine Rnd.exit ?_)
    by_cases k457 : k = 4 ∨ k = 5 ∨ k = 7
    · obtain rfl : o = true := by rw [ho]; simpa using k457
      refine CW.cond_true rfl ?_
      repeat (first | refine CW.seq ?_ | refine PW.then_ ?_ | refine CW.block ?_ | refine CW.skip ?_ | refine CW.ret ?_ | refine PW.then_ret ?_ | refine PW.block_ret ?_ | refine Cut.ret ?_ | refine Rnd.ret ?_ | refine PW.block_normal ?_ | refine CW.exit ?_ | refine PW.then_exit ?_ | refine PW.block_hit ?_ | refine PW.block_miss rfl ?_ | refine Cut.exit ?_ | refine Rnd.exit ?_)
      refine CW.region ?_
      refine L1 (ps_move rfl).os ?_
      refine LE (os_RNum (A := A) hm1 rfl (by repeat (first | exact pk_head _ _ | apply pk_tail)) (by repeat (first | exact pk_head _ _ | apply pk_tail))) ?_
      rintro _ _ ⟨x1, s1, d1, rfl, rfl, e1, l1⟩
      refine L1 (ps_fa T.fa28_3 (by decide) rfl).os ?_
      refine L1 (os_cbr (rqCells ⟨k, [], [], x1, 0, 0, 0⟩ (.slice none 0 0) (.slice none 0 0)) (os_storeN (b := b5) (vs := nc x1) (by repeat (first | exact pk_head _ _ | apply pk_tail)) (by exact T.sz26) rfl rfl (nc_one _) (by exact Nat.le_of_ble_eq_true rfl)) (by rfl)) ?_
      refine LW.nil ?_
      repeat (first | refine CW.seq ?_ | refine PW.then_ ?_ | refine CW.block ?_ | refine CW.skip ?_ | refine CW.ret ?_ | refine PW.then_ret ?_ | refine PW.block_ret ?_ | refine Cut.ret ?_ | refine Rnd.ret ?_ | refine PW.block_normal ?_ | refine CW.exit ?_ | refine PW.then_exit ?_ | refine PW.block_hit ?_ | refine PW.block_miss rfl ?_ | refine Cut.exit ?_ | refine Rnd.exit ?_)
      exact Meet.cut (⟨k, [], [], x1, 0, 0, 0⟩, .slice none 0 0, .slice none 0 0, bag [], s1, d1) ⟨by simp [rdBody, k1, k2, k3, k457, e1], RowsR.nil _ _, RowsR.nil _ _⟩ (by repeat (first | (with_reducible exact Ag.refl _ _) | (with_reducible apply Ag.pu0) | ((with_reducible refine Ag.pu _ ?_ ?_); · exact rfl) | ((with_reducible refine Ag.mix ?_ ?_); · exact rfl) | ((with_reducible refine Ag.pus ?_ ?_); · exact rfl))) trivial (Ent.trans (Bs := cb b5 28 (rqCells ⟨k, [], [], x1, 0, 0, 0⟩ (.slice none 0 0) (.slice none 0 0)) :: RdAt A p s1 d1 :: A :: cb b2 28 zRow :: F) (by repeat (first | exact Ent.refl _ | (apply Ent.cons; · repeat (first | exact pk_head _ _ | apply pk_tail)) | apply Ent.skip)) (Ent.cons (pk_head _ _) (Ent.cons (pk_head _ _) (Ent.emp _))))
    obtain rfl : o = false := by rw [ho]; simpa using k457
    refine CW.cond_false rfl ?_
    refine CW.seq ?_
    refine CW.cutB (α := Bool) [76, 77, 78] (fun o => o = decide (k = 6 ∨ k = 8)) (fun o => [(76, .bool o)]) (fun _ => cb b5 28 (rqCells ⟨k, [], [], 0, 0, 0, 0⟩ (.slice none 0 0) (.slice none 0 0)) :: RdAt A p bs1 bad1 :: A :: cb b2 28 zRow :: F) ?_ ?_
    · repeat (first | refine CW.seq ?_ | refine PW.then_ ?_ | refine CW.block ?_ | refine CW.skip ?_ | refine CW.ret ?_ | refine PW.then_ret ?_ | refine PW.block_ret ?_ | refine Cut.ret ?_ | refine Rnd.ret ?_ | refine PW.block_normal ?_ | refine CW.exit ?_ | refine PW.then_exit ?_ | refine PW.block_hit ?_ | refine PW.block_miss rfl ?_ | refine Cut.exit ?_ | refine Rnd.exit ?_)
      by_cases k6 : k = 6
      · subst k6
        refine CW.region ?_
        refine L1 (ps_t (ps_eql rfl rfl) (rfl)).os ?_
        refine L1 (ps_assign rfl).os ?_
        refine LW.nil ?_
        repeat (first | refine CW.seq ?_ | refine PW.then_ ?_ | refine CW.block ?_ | refine CW.skip ?_ | refine CW.ret ?_ | refine PW.then_ret ?_ | refine PW.block_ret ?_ | refine Cut.ret ?_ | refine Rnd.ret ?_ | refine PW.block_normal ?_ | refine CW.exit ?_ | refine PW.then_exit ?_ | refine PW.block_hit ?_ | refine PW.block_miss rfl ?_ | refine Cut.exit ?_ | refine Rnd.exit ?_)
        refine CW.cond_true rfl ?_
        repeat (first | refine CW.seq ?_ | refine PW.then_ ?_ | refine CW.block ?_ | refine CW.skip ?_ | refine CW.ret ?_ | refine PW.then_ret ?_ | refine PW.block_ret ?_ | refine Cut.ret ?_ | refine Rnd.ret ?_ | refine PW.block_normal ?_ | refine CW.exit ?_ | refine PW.then_exit ?_ | refine PW.block_hit ?_ | refine PW.block_miss rfl ?_ | refine Cut.exit ?_ | refine Rnd.exit ?_)
        exact Meet.cut true (by simp) (by repeat (first | (with_reducible exact Ag.refl _ _) | (with_reducible apply Ag.pu0) | ((with_reducible refine Ag.pu _ ?_ ?_); · exact rfl) | ((with_reducible refine Ag.mix ?_ ?_); · exact rfl) | ((with_reducible refine Ag.pus ?_ ?_); · exact rfl))) ⟨rfl, trivial⟩ (by repeat (first | exact Ent.refl _ | (apply Ent.cons; · repeat (first | exact pk_head _ _ | apply pk_tail)) | apply Ent.skip))
      have n6 : ¬ (k : Int) = 6 := by omega
      refine CW.region ?_
      refine L1 (ps_f (ps_eql rfl rfl) (n6)).os ?_
      refine L1 (ps_assign rfl).os ?_
      refine LW.nil ?_
      repeat (first | refine CW.seq ?_ | refine PW.then_ ?_ | refine CW.block ?_ | refine CW.skip ?_ | refine CW.ret ?_ | refine PW.then_ret ?_ | refine PW.block_ret ?_ | refine Cut.ret ?_ | refine Rnd.ret ?_ | refine PW.block_normal ?_ | refine CW.exit ?_ | refine PW.then_exit ?_ | refine PW.block_hit ?_ | refine PW.block_miss rfl ?_ | refine Cut.exit ?_ | refine Rnd.exit ?_)
      refine CW.cond_false rfl ?_
      repeat (first | refine CW.seq ?_ | refine PW.then_ ?_ | refine CW.block ?_ | refine CW.skip ?_ | refine CW.ret ?_ | refine PW.then_ret ?_ | refine PW.block_ret ?_ | refine Cut.ret ?_ | refine Rnd.ret ?_ | refine PW.block_normal ?_ | refine CW.exit ?_ | refine PW.then_exit ?_ | refine PW.block_hit ?_ | refine PW.block_miss rfl ?_ | refine Cut.exit ?_ | refine Rnd.exit ?_)
      by_cases k8 : k = 8
      · subst k8
        refine CW.region ?_
        refine L1 (ps_t (ps_eql rfl rfl) (rfl)).os ?_
        refine L1 (ps_assign rfl).os ?_
        refine LW.nil ?_
        repeat (first | refine CW.seq ?_ | refine PW.then_ ?_ | refine CW.block ?_ | refine CW.skip ?_ | refine CW.ret ?_ | refine PW.then_ret ?_ | refine PW.block_ret ?_ | refine Cut.ret ?_ | refine Rnd.ret ?_ | refine PW.block_normal ?_ | refine CW.exit ?_ | refine PW.then_exit ?_ | refine PW.block_hit ?_ | refine PW.block_miss rfl ?_ | refine Cut.exit ?_ | refine Rnd.exit ?_)
        exact Meet.cut true (by simp) (by repeat (first | (with_reducible exact Ag.refl _ _) | (with_reducible apply Ag.pu0) | ((with_reducible refine Ag.pu _ ?_ ?_); · exact rfl) | ((with_reducible refine Ag.mix ?_ ?_); · exact rfl) | ((with_reducible refine Ag.pus ?_ ?_); · exact rfl))) ⟨rfl, trivial⟩ (by repeat (first | exact Ent.refl _ | (apply Ent.cons; · repeat (first | exact pk_head _ _ | apply pk_tail)) | apply Ent.skip))
      have n8 : ¬ (k : Int) = 8 := by omega
      refine CW.region ?_
      refine L1 (ps_f (ps_eql rfl rfl) (n8)).os ?_
      refine L1 (ps_assign rfl).os ?_
      refine LW.nil ?_
      repeat (first | refine CW.seq ?_ | refine PW.then_ ?_ | refine CW.block ?_ | refine CW.skip ?_ | refine CW.ret ?_ | refine PW.then_ret ?_ | refine PW.block_ret ?_ | refine Cut.ret ?_ | refine Rnd.ret ?_ | refine PW.block_normal ?_ | refine CW.exit ?_ | refine PW.then_exit ?_ | refine PW.block_hit ?_ | refine PW.block_miss rfl ?_ | refine Cut.exit ?_ | refine Rnd.exit ?_)
      exact Meet.cut false (by simp [k6, k8]) (by repeat (first | (with_reducible exact Ag.refl _ _) | (with_reducible apply Ag.pu0) | ((with_reducible refine Ag.pu _ ?_ ?_); · exact rfl) | ((with_reducible refine Ag.mix ?_ ?_); · exact rfl) | ((with_reducible refine Ag.pus ?_ ?_); · exact rfl))) ⟨rfl, trivial⟩ (by repeat (first | exact Ent.refl _ | (apply Ent.cons; · repeat (first | exact pk_head _ _ | apply pk_tail)) | apply Ent.skip))
    intro o g1 ho
    repeat (first | refine CW.seq ?_ | refine PW.then_ ?_ | refine CW.block ?_ | refine CW.skip ?_ | refine CW.ret ?_ | refine PW.then_ret ?_ | refine PW.block_ret ?_ | refine Cut.ret ?_ | refine Rnd.ret ?_ | refine PW.block_normal ?_ | refine CW.exit ?_ | refine PW.then_exit ?_ | refine PW.block_hit ?_ | refine PW.block_miss rfl ?_ | refine Cut.exit ?_ | refine Rnd.exit ?_)
    by_cases k68 : k = 6 ∨ k = 8
    · obtain rfl : o = true := by rw [ho]; simpa using k68
      refine CW.cond_true rfl ?_
      repeat (first | refine CW.seq ?_ | refine PW.then_ ?_ | refine CW.block ?_ | refine CW.skip ?_ | refine CW.ret ?_ | refine PW.then_ret ?_ | refine PW.block_ret ?_ | refine Cut.ret ?_ | refine Rnd.ret ?_ | refine PW.block_normal ?_ | refine CW.exit ?_ | refine PW.then_exit ?_ | refine PW.block_hit ?_ | refine PW.block_miss rfl ?_ | refine Cut.exit ?_ | refine Rnd.exit ?_)
      refine CW.region ?_
      refine L1 (ps_move rfl).os ?_
      refine LE (os_RNum (A := A) hm1 rfl (by repeat (first | exact pk_head _ _ | apply pk_tail)) (by repeat (first | exact pk_head _ _ | apply pk_tail))) ?_
      rintro _ _ ⟨x1, s1, d1, rfl, rfl, e1, l1⟩
      refine L1 (ps_move rfl).os ?_
      refine LE (os_RInt (A := A) 6 (by decide) (by decide) l1 rfl (by repeat (first | exact pk_head _ _ | apply pk_tail)) (by repeat (first | exact pk_head _ _ | apply pk_tail))) ?_
      rintro _ _ ⟨x2, s2, d2, rfl, rfl, e2, l2⟩
      refine L1 (ps_move rfl).os ?_
      refine LE (os_RInt (A := A) 6 (by decide) (by decide) l2 rfl (by repeat (first | exact pk_head _ _ | apply pk_tail)) (by repeat (first | exact pk_head _ _ | apply pk_tail))) ?_
      rintro _ _ ⟨x3, s3, d3, rfl, rfl, e3, l3⟩
      refine L1 (ps_move rfl).os ?_
      refine LE (os_RInt (A := A) 1 (by decide) (by decide) l3 rfl (by repeat (first | exact pk_head _ _ | apply pk_tail)) (by repeat (first | exact pk_head _ _ | apply pk_tail))) ?_
      rintro _ _ ⟨x4, s4, d4, rfl, rfl, e4, l4⟩
      refine L1 (ps_fa T.fa28_3 (by decide) rfl).os ?_
      refine L1 (os_cbr (rqCells ⟨k, [], [], x1, 0, 0, 0⟩ (.slice none 0 0) (.slice none 0 0)) (os_storeN (b := b5) (vs := nc x1) (by repeat (first | exact pk_head _ _ | apply pk_tail)) (by exact T.sz26) rfl rfl (nc_one _) (by exact Nat.le_of_ble_eq_true rfl)) (by rfl)) ?_
      refine L1 (ps_fa T.fa28_4 (by decide) rfl).os ?_
      refine L1 (os_cbr (rqCells ⟨k, [], [], x1, x2, 0, 0⟩ (.slice none 0 0) (.slice none 0 0)) (os_store1 (b := b5) (by repeat (first | exact pk_head _ _ | apply pk_tail)) T.sz3 rfl rfl (by rfl) (Nat.le_of_ble_eq_true rfl)) (by rfl)) ?_
      refine L1 (ps_fa T.fa28_5 (by decide) rfl).os ?_
      refine L1 (os_cbr (rqCells ⟨k, [], [], x1, x2, x3, 0⟩ (.slice none 0 0) (.slice none 0 0)) (os_store1 (b := b5) (by repeat (first | exact pk_head _ _ | apply pk_tail)) T.sz3 rfl rfl (by rfl) (Nat.le_of_ble_eq_true rfl)) (by rfl)) ?_
      refine L1 (ps_fa T.fa28_6 (by decide) rfl).os ?_
      refine L1 (os_cbr (rqCells ⟨k, [], [], x1, x2, x3, x4⟩ (.slice none 0 0) (.slice none 0 0)) (os_store1 (b := b5) (by repeat (first | exact pk_head _ _ | apply pk_tail)) T.sz3 rfl rfl (by rfl) (Nat.le_of_ble_eq_true rfl)) (by rfl)) ?_
      refine LW.nil ?_
      repeat (first | refine CW.seq ?_ | refine PW.then_ ?_ | refine CW.block ?_ | refine CW.skip ?_ | refine CW.ret ?_ | refine PW.then_ret ?_ | refine PW.block_ret ?_ | refine Cut.ret ?_ | refine Rnd.ret ?_ | refine PW.block_normal ?_ | refine CW.exit ?_ | refine PW.then_exit ?_ | refine PW.block_hit ?_ | refine PW.block_miss rfl ?_ | refine Cut.exit ?_ | refine Rnd.exit ?_)
      exact Meet.cut (⟨k, [], [], x1, x2, x3, x4⟩, .slice none 0 0, .slice none 0 0, bag [], s4, d4) ⟨by simp [rdBody, k1, k2, k3, k457, k68, e1, e2, e3, e4], RowsR.nil _ _, RowsR.nil _ _⟩ (by repeat (first | (with_reducible exact Ag.refl _ _) | (with_reducible apply Ag.pu0) | ((with_reducible refine Ag.pu _ ?_ ?_); · exact rfl) | ((with_reducible refine Ag.mix ?_ ?_); · exact rfl) | ((with_reducible refine Ag.pus ?_ ?_); · exact rfl))) trivial (Ent.trans (Bs := cb b5 28 (rqCells ⟨k, [], [], x1, x2, x3, x4⟩ (.slice none 0 0) (.slice none 0 0)) :: RdAt A p s4 d4 :: A :: cb b2 28 zRow :: F) (by repeat (first | exact Ent.refl _ | (apply Ent.cons; · repeat (first | exact pk_head _ _ | apply pk_tail)) | apply Ent.skip)) (Ent.cons (pk_head _ _) (Ent.cons (pk_head _ _) (Ent.emp _))))
    obtain rfl : o = false := by rw [ho]; simpa using k68
    refine CW.cond_false rfl ?_
    repeat (first | refine CW.seq ?_ | refine PW.then_ ?_ | refine CW.block ?_ | refine CW.skip ?_ | refine CW.ret ?_ | refine PW.then_ret ?_ | refine PW.block_ret ?_ | refine Cut.ret ?_ | refine Rnd.ret ?_ | refine PW.block_normal ?_ | refine CW.exit ?_ | refine PW.then_exit ?_ | refine PW.block_hit ?_ | refine PW.block_miss rfl ?_ | refine Cut.exit ?_ | refine Rnd.exit ?_)
    by_cases k9 : k = 9
    · subst k9
      refine CW.region ?_
      refine L1 (ps_t (ps_eql rfl rfl) (rfl)).os ?_
      refine L1 (ps_assign rfl).os ?_
      refine LW.nil ?_
      repeat (first | refine CW.seq ?_ | refine PW.then_ ?_ | refine CW.block ?_ | refine CW.skip ?_ | refine CW.ret ?_ | refine PW.then_ret ?_ | refine PW.block_ret ?_ | refine Cut.ret ?_ | refine Rnd.ret ?_ | refine PW.block_normal ?_ | refine CW.exit ?_ | refine PW.then_exit ?_ | refine PW.block_hit ?_ | refine PW.block_miss rfl ?_ | refine Cut.exit ?_ | refine Rnd.exit ?_)
      refine CW.cond_true rfl ?_
      repeat (first | refine CW.seq ?_ | refine PW.then_ ?_ | refine CW.block ?_ | refine CW.skip ?_ | refine CW.ret ?_ | refine PW.then_ret ?_ | refine PW.block_ret ?_ | refine Cut.ret ?_ | refine Rnd.ret ?_ | refine PW.block_normal ?_ | refine CW.exit ?_ | refine PW.then_exit ?_ | refine PW.block_hit ?_ | refine PW.block_miss rfl ?_ | refine Cut.exit ?_ | refine Rnd.exit ?_)
      refine CW.region ?_
      refine L1 (ps_move rfl).os ?_
      refine LE (os_RInt (A := A) 4 (by decide) (by decide) hm1 rfl (by repeat (first | exact pk_head _ _ | apply pk_tail)) (by repeat (first | exact pk_head _ _ | apply pk_tail))) ?_
      rintro _ _ ⟨x1, s1, d1, rfl, rfl, e1, l1⟩
      refine L1 (ps_move rfl).os ?_
      refine LE (os_RInt (A := A) 4 (by decide) (by decide) l1 rfl (by repeat (first | exact pk_head _ _ | apply pk_tail)) (by repeat (first | exact pk_head _ _ | apply pk_tail))) ?_
      rintro _ _ ⟨x2, s2, d2, rfl, rfl, e2, l2⟩
      refine L1 (ps_fa T.fa28_4 (by decide) rfl).os ?_
      refine L1 (os_cbr (rqCells ⟨9, [], [], 0, x1, 0, 0⟩ (.slice none 0 0) (.slice none 0 0)) (os_store1 (b := b5) (by repeat (first | exact pk_head _ _ | apply pk_tail)) T.sz3 rfl rfl (by rfl) (Nat.le_of_ble_eq_true rfl)) (by rfl)) ?_
      refine L1 (ps_fa T.fa28_5 (by decide) rfl).os ?_
      refine L1 (os_cbr (rqCells ⟨9, [], [], 0, x1, x2, 0⟩ (.slice none 0 0) (.slice none 0 0)) (os_store1 (b := b5) (by repeat (first | exact pk_head _ _ | apply pk_tail)) T.sz3 rfl rfl (by rfl) (Nat.le_of_ble_eq_true rfl)) (by rfl)) ?_
      refine LW.nil ?_
      repeat (first | refine CW.seq ?_ | refine PW.then_ ?_ | refine CW.block ?_ | refine CW.skip ?_ | refine CW.ret ?_ | refine PW.then_ret ?_ | refine PW.block_ret ?_ | refine Cut.ret ?_ | refine Rnd.ret ?_ | refine PW.block_normal ?_ | refine CW.exit ?_ | refine PW.then_exit ?_ | refine PW.block_hit ?_ | refine PW.block_miss rfl ?_ | refine Cut.exit ?_ | refine Rnd.exit ?_)
      exact Meet.cut (⟨9, [], [], 0, x1, x2, 0⟩, .slice none 0 0, .slice none 0 0, bag [], s2, d2) ⟨by simp [rdBody, e1, e2], RowsR.nil _ _, RowsR.nil _ _⟩ (by repeat (first | (with_reducible exact Ag.refl _ _) | (with_reducible apply Ag.pu0) | ((with_reducible refine Ag.pu _ ?_ ?_); · exact rfl) | ((with_reducible refine Ag.mix ?_ ?_); · exact rfl) | ((with_reducible refine Ag.pus ?_ ?_); · exact rfl))) trivial (Ent.trans (Bs := cb b5 28 (rqCells ⟨9, [], [], 0, x1, x2, 0⟩ (.slice none 0 0) (.slice none 0 0)) :: RdAt A p s2 d2 :: A :: cb b2 28 zRow :: F) (by repeat (first | exact Ent.refl _ | (apply Ent.cons; · repeat (first | exact pk_head _ _ | apply pk_tail)) | apply Ent.skip)) (Ent.cons (pk_head _ _) (Ent.cons (pk_head _ _) (Ent.emp _))))
    have n9 : ¬ (k : Int) = 9 := by omega
    have hrz : readReq bs = (RQ.zero, 1) := by
      rw [hread]
      have : rdBody k (bs1, bad1) = (RQ.zero, 1, (bs1, bad1)) := by simp [rdBody, k1, k2, k3, k457, k68, k9]
      rw [this]; simp
    rw [hrz]
    refine CW.region ?_
    refine L1 (ps_f (ps_eql rfl rfl) (n9)).os ?_
    refine L1 (ps_assign rfl).os ?_
    refine LW.nil ?_
    repeat (first | refine CW.seq ?_ | refine PW.then_ ?_ | refine CW.block ?_ | refine CW.skip ?_ | refine CW.ret ?_ | refine PW.then_ret ?_ | refine PW.block_ret ?_ | refine Cut.ret ?_ | refine Rnd.ret ?_ | refine PW.block_normal ?_ | refine CW.exit ?_ | refine PW.then_exit ?_ | refine PW.block_hit ?_ | refine PW.block_miss rfl ?_ | refine Cut.exit ?_ | refine Rnd.exit ?_)
    refine CW.cond_false rfl ?_
    repeat (first | refine CW.seq ?_ | refine PW.then_ ?_ | refine CW.block ?_ | refine CW.skip ?_ | refine CW.ret ?_ | refine PW.then_ret ?_ | refine PW.block_ret ?_ | refine Cut.ret ?_ | refine Rnd.ret ?_ | refine PW.block_normal ?_ | refine CW.exit ?_ | refine PW.then_exit ?_ | refine PW.block_hit ?_ | refine PW.block_miss rfl ?_ | refine Cut.exit ?_ | refine Rnd.exit ?_)
    refine CW.region ?_
    refine L1 (ps_build (by rfl) (T.bd28)).os ?_
    refine L1 (os_storeAll (b := b2) (vs := zRow) (by repeat (first | exact pk_head _ _ | apply pk_tail)) (by exact T.sz28) rfl rfl (by simp [Value.oneCell']) (by rfl)) ?_
    refine L1 (ps_assign rfl).os ?_
    refine LW.nil ?_
    repeat (first | refine CW.seq ?_ | refine PW.then_ ?_ | refine CW.block ?_ | refine CW.skip ?_ | refine CW.ret ?_ | refine PW.then_ret ?_ | refine PW.block_ret ?_ | refine Cut.ret ?_ | refine Rnd.ret ?_ | refine PW.block_normal ?_ | refine CW.exit ?_ | refine PW.then_exit ?_ | refine PW.block_hit ?_ | refine PW.block_miss rfl ?_ | refine Cut.exit ?_ | refine Rnd.exit ?_)
    exact Fin.retCT (b := b2) (cs := zRow) rfl (by repeat (first | exact pk_head _ _ | apply pk_tail)) T.ag28 (by exact T.sz28) rfl (.int .i64 1) rfl [bag [], A] ⟨.slice none 0 0, .slice none 0 0, bag [], rfl, rfl, RowsR.nil _ _, RowsR.nil _ _⟩ (Ent.trans (Bs := A :: F) (by repeat (first | exact Ent.refl _ | (apply Ent.cons; · repeat (first | exact pk_head _ _ | apply pk_tail)) | apply Ent.skip)) (Ent.emp _))
  rintro ⟨q, av, tv, B, s1, s2⟩ g ⟨hq, hav, htv⟩
  dsimp only at hq hav htv ⊢
  rw [hq] at hread
  simp only [ne_eq, not_true_eq_false, if_false] at hread
  have hone : ∀ u ∈ rqCells q av tv, u.oneCell' = true := fun u hu => by
    obtain ⟨_, _, e1, _⟩ := hav.len
    obtain ⟨_, _, e2, _⟩ := htv.len
    subst e1; subst e2
    simp only [rqCells, nc, List.cons_append, List.nil_append, List.mem_cons, List.not_mem_nil, or_false] at hu
    rcases hu with rfl | rfl | rfl | rfl | rfl | rfl | rfl | rfl <;> rfl
  by_cases hd : s2 = true ∨ s1 ≠ []
  · rw [if_pos hd] at hread
    have hdn : (!s2 && decide (s1 = [])) = false := by
      rcases hd with rfl | h
      · rfl
      · simp [h]
    have hsp := RDone_spec A p s1 s2
    rw [hdn] at hsp
    rw [hread]
    repeat (first | refine CW.seq ?_ | refine PW.then_ ?_ | refine CW.block ?_ | refine CW.skip ?_ | refine CW.ret ?_ | refine PW.then_ret ?_ | refine PW.block_ret ?_ | refine Cut.ret ?_ | refine Rnd.ret ?_ | refine PW.block_normal ?_ | refine CW.exit ?_ | refine PW.then_exit ?_ | refine PW.block_hit ?_ | refine PW.block_miss rfl ?_ | refine Cut.exit ?_ | refine Rnd.exit ?_)
    refine CW.region ?_
    refine L1 (ps_move rfl).os ?_
    refine L1 (os_call1 hsp Try.func27 (by decide +kernel) rfl rfl (by repeat (first | exact pk_head _ _ | apply pk_tail))) ?_
    refine L1 (ps_not rfl).os ?_
    refine LW.nil ?_
    repeat (first | refine CW.seq ?_ | refine PW.then_ ?_ | refine CW.block ?_ | refine CW.skip ?_ | refine CW.ret ?_ | refine PW.then_ret ?_ | refine PW.block_ret ?_ | refine Cut.ret ?_ | refine Rnd.ret ?_ | refine PW.block_normal ?_ | refine CW.exit ?_ | refine PW.then_exit ?_ | refine PW.block_hit ?_ | refine PW.block_miss rfl ?_ | refine Cut.exit ?_ | refine Rnd.exit ?_)
    refine CW.cond_true rfl ?_
    repeat (first | refine CW.seq ?_ | refine PW.then_ ?_ | refine CW.block ?_ | refine CW.skip ?_ | refine CW.ret ?_ | refine PW.then_ret ?_ | refine PW.block_ret ?_ | refine Cut.ret ?_ | refine Rnd.ret ?_ | refine PW.block_normal ?_ | refine CW.exit ?_ | refine PW.then_exit ?_ | refine PW.block_hit ?_ | refine PW.block_miss rfl ?_ | refine Cut.exit ?_ | refine Rnd.exit ?_)
    refine CW.region ?_
    refine L1 (ps_build (by rfl) (T.bd28)).os ?_
    refine L1 (os_storeAll (b := b2) (vs := zRow) (by repeat (first | exact pk_head _ _ | apply pk_tail)) (by exact T.sz28) rfl rfl (by simp [Value.oneCell']) (by rfl)) ?_
    refine L1 (ps_assign rfl).os ?_
    refine LW.nil ?_
    repeat (first | refine CW.seq ?_ | refine PW.then_ ?_ | refine CW.block ?_ | refine CW.skip ?_ | refine CW.ret ?_ | refine PW.then_ret ?_ | refine PW.block_ret ?_ | refine Cut.ret ?_ | refine Rnd.ret ?_ | refine PW.block_normal ?_ | refine CW.exit ?_ | refine PW.then_exit ?_ | refine PW.block_hit ?_ | refine PW.block_miss rfl ?_ | refine Cut.exit ?_ | refine Rnd.exit ?_)
    exact Fin.retCT (b := b2) (cs := zRow) rfl (by repeat (first | exact pk_head _ _ | apply pk_tail)) T.ag28 (by exact T.sz28) rfl (.int .i64 1) rfl [bag [], A] ⟨.slice none 0 0, .slice none 0 0, bag [], rfl, rfl, RowsR.nil _ _, RowsR.nil _ _⟩ (Ent.trans (Bs := A :: F) (by repeat (first | exact Ent.refl _ | (apply Ent.cons; · repeat (first | exact pk_head _ _ | apply pk_tail)) | apply Ent.skip)) (Ent.emp _))
  · rw [if_neg hd] at hread
    have hd' : s2 = false ∧ s1 = [] := by
      cases s2
      · exact ⟨rfl, Classical.byContradiction fun h => hd (.inr h)⟩
      · exact absurd (.inl rfl) hd
    obtain ⟨rfl, rfl⟩ := hd'
    have hsp := RDone_spec A p [] false
    rw [show (!false && decide (([] : List UInt8) = [])) = true from rfl] at hsp
    rw [hread]
    repeat (first | refine CW.seq ?_ | refine PW.then_ ?_ | refine CW.block ?_ | refine CW.skip ?_ | refine CW.ret ?_ | refine PW.then_ret ?_ | refine PW.block_ret ?_ | refine Cut.ret ?_ | refine Rnd.ret ?_ | refine PW.block_normal ?_ | refine CW.exit ?_ | refine PW.then_exit ?_ | refine PW.block_hit ?_ | refine PW.block_miss rfl ?_ | refine Cut.exit ?_ | refine Rnd.exit ?_)
    refine CW.region ?_
    refine L1 (ps_move rfl).os ?_
    refine L1 (os_call1 hsp Try.func27 (by decide +kernel) rfl rfl (by repeat (first | exact pk_head _ _ | apply pk_tail))) ?_
    refine L1 (ps_not rfl).os ?_
    refine LW.nil ?_
    repeat (first | refine CW.seq ?_ | refine PW.then_ ?_ | refine CW.block ?_ | refine CW.skip ?_ | refine CW.ret ?_ | refine PW.then_ret ?_ | refine PW.block_ret ?_ | refine Cut.ret ?_ | refine Rnd.ret ?_ | refine PW.block_normal ?_ | refine CW.exit ?_ | refine PW.then_exit ?_ | refine PW.block_hit ?_ | refine PW.block_miss rfl ?_ | refine Cut.exit ?_ | refine Rnd.exit ?_)
    refine CW.cond_false rfl ?_
    repeat (first | refine CW.seq ?_ | refine PW.then_ ?_ | refine CW.block ?_ | refine CW.skip ?_ | refine CW.ret ?_ | refine PW.then_ret ?_ | refine PW.block_ret ?_ | refine Cut.ret ?_ | refine Rnd.ret ?_ | refine PW.block_normal ?_ | refine CW.exit ?_ | refine PW.then_exit ?_ | refine PW.block_hit ?_ | refine PW.block_miss rfl ?_ | refine Cut.exit ?_ | refine Rnd.exit ?_)
    refine CW.region ?_
    refine L1 (os_loadAll (b := b5) (cs := rqCells q av tv) (by repeat (first | exact pk_head _ _ | apply pk_tail)) T.ag28 (by exact T.sz28) rfl) ?_
    refine L1 (os_storeAll (b := b2) (vs := rqCells q av tv) (by repeat (first | exact pk_head _ _ | apply pk_tail)) (by exact T.sz28) rfl rfl hone (by rfl)) ?_
    refine L1 (ps_assign rfl).os ?_
    refine LW.nil ?_
    repeat (first | refine CW.seq ?_ | refine PW.then_ ?_ | refine CW.block ?_ | refine CW.skip ?_ | refine CW.ret ?_ | refine PW.then_ret ?_ | refine PW.block_ret ?_ | refine Cut.ret ?_ | refine Rnd.ret ?_ | refine PW.block_normal ?_ | refine CW.exit ?_ | refine PW.then_exit ?_ | refine PW.block_hit ?_ | refine PW.block_miss rfl ?_ | refine Cut.exit ?_ | refine Rnd.exit ?_)
    exact Fin.retCT (b := b2) (cs := rqCells q av tv) rfl (by repeat (first | exact pk_head _ _ | apply pk_tail)) T.ag28 (by exact T.sz28) rfl (.int .i64 0) rfl [B, A] ⟨av, tv, B, rfl, rfl, hav, htv⟩ (by repeat (first | exact Ent.refl _ | (apply Ent.cons; · repeat (first | exact pk_head _ _ | apply pk_tail)) | apply Ent.skip))
end Go.Proofs.Ytpcjjchanjdkaaa
