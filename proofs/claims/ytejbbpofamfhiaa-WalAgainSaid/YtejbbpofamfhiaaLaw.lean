/- How an argument that reads as data lies in memory, and how a statement is closed. -/
import Derived.Test.YtejbbpofamfhiaaAri
import Derived.ProofKit
import Derived.OpenShut
namespace Go.SL
open Go Go.ChangeShapes Go.WideShapes Go.ChangeAt Go.RowKit
set_option linter.unusedVariables false

/-! ## the old memory as one part -/
def blks (W : World) : HL := W.heap.toList.zipIdx.map fun p => (p.2, p.1)
theorem mem_blks {W : World} {b : Nat} {o : Obj} (h : W.heap[b]? = some o) : (b, o) ∈ blks W := by
  refine List.mem_map.2 ⟨(o, b), ?_, rfl⟩
  rw [List.mem_zipIdx_iff_getElem?]
  simpa using h
theorem of_mem_blks {W : World} {p : Nat × Obj} (h : p ∈ blks W) : W.heap[p.1]? = some p.2 := by
  obtain ⟨q, h1, rfl⟩ := List.mem_map.1 h
  rw [List.mem_zipIdx_iff_getElem?] at h1
  simpa using h1
theorem blks_keys (W : World) : (blks W).map Prod.fst = List.range W.heap.size := by
  have h : (blks W).map Prod.fst = W.heap.toList.zipIdx.map Prod.snd := by simp [blks, List.map_map, Function.comp_def]
  rw [h, List.zipIdx_map_snd, List.range_eq_range']
  simp
theorem heap_start (W : World) : Heap W W [bag (blks W)] := by
  refine ⟨blks W, ⟨rfl, rfl, rfl, Nat.le_refl _, ?_, fun p hp => of_mem_blks hp⟩, blks W, [], by simp, rfl, trivial⟩
  rw [blks_keys]; exact List.nodup_range
theorem heap_old {w0 w W : World} {As : List Asn} (h : Heap w0 w (bag (blks W) :: As)) {b : Nat} {o : Obj} (hb : W.heap[b]? = some o) : w.heap[b]? = some o := heap_rd h (Rd.bag (mem_blks hb))
theorem below_end {W w : World} {As : List Asn} (h : Heap W w (bag (blks W) :: As)) : Below W.heap.size W w := by
  have h2 := h
  obtain ⟨L, h1, _⟩ := h2
  refine ⟨h1.os, h1.tape, h1.output, h1.size, fun k hk => ?_⟩
  rw [heap_old h (Array.getElem?_eq_getElem hk)]
  exact (Array.getElem?_eq_getElem hk).symm

/-- The cells l stand at a. -/
def CellsAt (W : World) (a : Addr) (l : List Value) : Prop := ∀ (j : Nat) (u : Value), l[j]? = some u → W.cell? (a.add j) = some u
theorem add_block (a : Addr) (j : Nat) : (a.add j).block = a.block := by unfold Addr.add; split <;> rfl
theorem add_add (a : Addr) (i j : Nat) : (a.add i).add j = a.add (i + j) := by
  unfold Addr.add
  by_cases h1 : i = 0
  · subst h1; simp
  · by_cases h2 : j = 0
    · subst h2; simp [h1]
    · have : i + j ≠ 0 := by omega
      simp [h1, h2, Nat.add_assoc]
theorem CellsAt.src {W : World} {a : Addr} {l : List Value} (h : CellsAt W a l) {As Bs : List Asn} (hp : As.Perm (bag (blks W) :: Bs)) : Src As (some a) l := fun _ => ⟨a, rfl, fun w0 w hw j u hj => by
  have h1 := h j u hj
  have h2 : (a.add j).block < W.heap.size := World.block_lt_of_cell? W _ h1
  have h3 := heap_old (hw.perm hp) (Array.getElem?_eq_getElem h2)
  rw [← h1]
  simp only [World.cell?, h3, Array.getElem?_eq_getElem h2]⟩
theorem CellsAt.of_cells {W : World} {base n : Nat} {a : Addr} {l : List Value} (h : W.cells? base a n = some l) : CellsAt W a l := fun j u hj => by
  obtain ⟨_, h2, h3⟩ := World.cells?_some h
  have : j < n := by
    have := (List.getElem?_eq_some_iff.1 hj).1
    omega
  rw [h3 j this]; exact hj

/-- In the part A the rows (s cells each) can be read at the slice v. -/
def RowsR (A : Asn) (v : Value) (s : Nat) (rows : List (List Value)) : Prop :=
  ∃ p cap, v = .slice p rows.length cap ∧ rows.length ≤ cap ∧ cap ≤ maxLen ∧ (∀ r ∈ rows, r.length = s) ∧ (rows ≠ [] → ∃ b o, p = some ⟨b, o, none⟩) ∧
    ∀ i (h : i < rows.length) b o, p = some ⟨b, o, none⟩ → ∀ As Bs, List.Perm As (A :: Bs) → Src As (some ⟨b, o + i * s, none⟩) rows[i]

theorem RowsR.cb {b s n cap : Nat} {t : TypeId} {cs : List Value} {rows : List (List Value)} (hcs : cs.take (rows.length * s) = rows.flatten) (hs : ∀ r ∈ rows, r.length = s) (hn : rows.length = n) (h1 : n ≤ cap) (h2 : cap ≤ maxLen) : RowsR (SL.cb b t cs) (.slice (some ⟨b, 0, none⟩) n cap) s rows := by
  subst hn
  refine ⟨_, cap, rfl, h1, h2, hs, fun _ => ⟨b, 0, rfl⟩, fun i hi b' o' hp As Bs hperm => ?_⟩
  cases hp
  refine Src.cb hperm ?_
  have hl : rows[i].length = s := hs _ (List.getElem_mem hi)
  rw [hl, Nat.zero_add]
  have key : ∀ (rows : List (List Value)) (i : Nat) (h : i < rows.length), (∀ r ∈ rows, r.length = s) → (rows.flatten.drop (i * s)).take s = rows[i] := by
    intro rows
    induction rows with
    | nil => intro i h; simp at h
    | cons r rows ih =>
      intro i h hs
      have hr := hs r (by simp)
      cases i with
      | zero => simp [← hr]
      | succ i =>
        rw [List.flatten_cons, Nat.succ_mul, List.drop_append, List.drop_eq_nil_of_le (by omega), List.nil_append]
        have : i * s + s - r.length = i * s := by omega
        rw [this]
        exact ih i (by simpa using h) (fun q hq => hs q (by simp [hq]))
  have h3 := key rows i hi hs
  rw [← hcs, List.drop_take, List.take_take] at h3
  rw [← h3]
  congr 1
  have : (i + 1) * s ≤ rows.length * s := Nat.mul_le_mul_right _ hi
  rw [Nat.succ_mul] at this
  omega
theorem RowsR.nil (A : Asn) (s : Nat) : RowsR A (.slice none 0 0) s [] := ⟨none, 0, rfl, Nat.le_refl _, Nat.zero_le _, by simp, by simp, fun i hi => by simp at hi⟩
theorem RowsR.len {A : Asn} {v : Value} {s : Nat} {rows : List (List Value)} (h : RowsR A v s rows) : ∃ p cap, v = .slice p rows.length cap ∧ rows.length ≤ cap ∧ cap ≤ maxLen ∧ (rows ≠ [] → ∃ b o, p = some ⟨b, o, none⟩) :=
  let ⟨p, cap, h1, h2, h3, _, h5, _⟩ := h; ⟨p, cap, h1, h2, h3, h5⟩
theorem RowsR.src {A : Asn} {b o n cap s : Nat} {rows : List (List Value)} (h : RowsR A (.slice (some ⟨b, o, none⟩) n cap) s rows) {i : Nat} (hi : i < rows.length) {As Bs : List Asn} (hp : As.Perm (A :: Bs)) :
    Src As (some ⟨b, o + i * s, none⟩) rows[i] := by
  obtain ⟨p, cap, h1, h2, h3, _, h5, h6⟩ := h
  cases h1
  exact h6 i hi b o rfl As Bs hp

theorem choose_list {α : Type} {n : Nat} {Q : Nat → α → Prop} (h : ∀ i, i < n → ∃ x, Q i x) : ∃ l : List α, l.length = n ∧ ∀ i (hi : i < l.length), Q i l[i] := by
  induction n with
  | zero => exact ⟨[], rfl, fun i hi => by simp at hi⟩
  | succ n ih =>
    obtain ⟨l, h1, h2⟩ := ih fun i hi => h i (by omega)
    obtain ⟨x, hx⟩ := h n (by omega)
    refine ⟨l ++ [x], by simp [h1], fun i hi => ?_⟩
    by_cases hlt : i < l.length
    · rw [List.getElem_append_left hlt]; exact h2 i hlt
    · have : i = n := by simp at hi; omega
      subst this
      rw [List.getElem_append_right (by omega)]
      simpa using hx

section
variable {P : Program} {H : Type} {enc : TypeId × Value → H} {W : World} {base : Nat} {held : Bool} {fuel : Nat} {t e : TypeId}
/-- A slice that reads as data: its rows, and that each of them reads. -/
theorem cell_spot {W : World} {a : Addr} {v : Value} (h : W.cell? a = some v) : a.spot = none := by
  unfold World.cell? at h
  split at h
  · split at h
    · cases h
    · rename_i h1; simpa using h1
  · cases h
theorem open_rows {s : Nat} {v : Value} {x : DataW H × List MemPlace} (hs0 : s ≠ 0) (ht : P.underlying t = some (.slice e)) (hc : P.cellsOf e = s) (h : DataW.trod enc P W base (fun _ => true) held fuel t [v] = some x) :
    ∃ rows, RowsR (bag (blks W)) v s rows ∧ ∀ r ∈ rows, ∃ m y, DataW.trod enc P W base (fun _ => true) held m e r = some y := by
  rcases DataW.trod_slice ht h with ⟨h1, _⟩ | ⟨a, len, cap, elems, rest, m, _, h1, _, hb, hl, hm, he, hel, _, _⟩
  · simp only [List.cons.injEq, and_true] at h1
    subst h1
    exact ⟨[], ⟨none, 0, rfl, Nat.le_refl _, Nat.zero_le _, by simp, by simp, fun i hi => by simp at hi⟩, by simp⟩
  · simp only [List.cons.injEq, and_true] at h1
    subst h1
    have key : ∀ i, i < len → ∃ r : List Value, W.cells? base (a.add (i * s)) s = some r ∧ ∃ y, DataW.trod enc P W base (fun _ => true) held m e r = some y := by
      intro i hi
      have := hel i hi
      rw [List.getElem?_eq_getElem (by omega), hc] at this
      obtain ⟨r, h2, h3⟩ := Option.bind_eq_some_iff.1 this
      exact ⟨r, h2, _, h3⟩
    obtain ⟨rows, hr1, hr2⟩ := choose_list key
    refine ⟨rows, ⟨some a, cap, by rw [hr1], by omega, hm, ?_, fun hne => ?_, ?_⟩, ?_⟩
    · intro r hr
      obtain ⟨i, hi, rfl⟩ := List.getElem_of_mem hr
      exact (World.cells?_some (hr2 i hi).1).2.1
    · have h0 : 0 < rows.length := List.length_pos_iff.2 hne
      have h1 := hr2 0 h0
      have h2 := (World.cells?_some h1.1).2.1
      have h3 := CellsAt.of_cells h1.1 0 (rows[0][0]'(by omega)) (List.getElem?_eq_getElem _)
      have h4 := cell_spot h3
      rw [add_add, Nat.zero_mul] at h4
      obtain ⟨b, o, sp⟩ := a
      have h5 : sp = none := h4
      exact ⟨b, o, by rw [h5]⟩
    · intro i hi b o hb' As Bs hp
      cases hb'
      have := (CellsAt.of_cells (hr2 i hi).1).src hp
      rwa [add_mk] at this
    · intro r hr
      obtain ⟨i, hi, rfl⟩ := List.getElem_of_mem hr
      obtain ⟨_, y, hy⟩ := hr2 i hi
      exact ⟨m, y, hy⟩

theorem bounds_u8' {n : Int} (h : (Lit.int .u8 n).wf = true) : 0 ≤ n ∧ n < 256 := by
  have : 0 ≤ n ∧ n ≤ 255 := by simpa [Lit.wf, IntKind.min, IntKind.max, IntKind.signed, IntKind.bits] using h
  omega
theorem bounds_i64' {n : Int} (h : (Lit.int .i64 n).wf = true) : -9223372036854775808 ≤ n ∧ n < 9223372036854775808 := by
  have : -9223372036854775808 ≤ n ∧ n ≤ 9223372036854775807 := by simpa [Lit.wf, IntKind.min, IntKind.max, IntKind.signed, IntKind.bits] using h
  omega
theorem bounds_u64' {n : Int} (h : (Lit.int .u64 n).wf = true) : 0 ≤ n ∧ n < 18446744073709551616 := by
  have : 0 ≤ n ∧ n ≤ 18446744073709551615 := by simpa [Lit.wf, IntKind.min, IntKind.max, IntKind.signed, IntKind.bits] using h
  omega

/-- A slice of bytes that reads as data. -/
theorem open_bytes {v : Value} {x : DataW H × List MemPlace} (ht : P.underlying t = some (.slice e)) (he : P.underlying e = some (.int .u8)) (hc : P.cellsOf e = 1) (h : DataW.trod enc P W base (fun _ => true) held fuel t [v] = some x) :
    ∃ bs, ByR (bag (blks W)) v bs ∧ bs.length ≤ maxLen := by
  obtain ⟨rows, ⟨p, cap, hv, h1, h2, h3, h4, h5⟩, h6⟩ := open_rows (by decide) ht hc h
  have key : ∀ i, i < rows.length → ∃ c : UInt8, rows[i]? = some [.int .u8 c.toNat] := by
    intro i hi
    obtain ⟨m, y, hy⟩ := h6 rows[i] (List.getElem_mem hi)
    obtain ⟨n, hn, _, hwf⟩ := DataW.trod_int he hy
    have hb := bounds_u8' hwf
    refine ⟨UInt8.ofNat n.toNat, ?_⟩
    rw [List.getElem?_eq_getElem hi, hn]
    have : (UInt8.ofNat n.toNat).toNat = n.toNat := by simp; omega
    rw [this]
    congr 3
    omega
  obtain ⟨bs, hl, hbs⟩ := choose_list key
  refine ⟨bs, ⟨p, cap, by rw [hl]; exact hv, by omega, ?_⟩, by omega⟩
  intro As Bs hp hne
  have hne' : rows ≠ [] := fun h0 => by
    rw [h0] at hl
    have : bs = [] := List.eq_nil_of_length_eq_zero hl
    subst this
    exact hne rfl
  obtain ⟨b, o, ha⟩ := h4 hne'
  refine ⟨_, ha, fun w0 w hw j u hj => ?_⟩
  have hj' : j < bs.length := by
    have := (List.getElem?_eq_some_iff.1 hj).1
    simpa using this
  have hr := hbs j hj'
  have hj2 : j < rows.length := by omega
  rw [List.getElem?_eq_getElem hj2] at hr
  have hr' := Option.some.inj hr
  obtain ⟨a', ha', hc'⟩ := h5 j hj2 b o ha As Bs hp (by rw [hr']; simp)
  cases ha'
  have h7 := hc' w0 w hw 0 (.int .u8 bs[j].toNat) (by rw [hr']; rfl)
  rw [add_mk, Nat.mul_one, Nat.add_zero] at h7
  rw [add_mk]
  rw [h7]
  rw [← hj]
  simp [bv, hj']

/-- One field of a struct that reads as data. -/
theorem trod_field {st k off ft n : Nat} {cs : List Value} {x : DataW H × List MemPlace} (hf : FT P st k off ft) (hc : P.cellsOf ft = n) (h : DataW.trod enc P W base (fun _ => true) held fuel st cs = some x) :
    ∃ m y, DataW.trod enc P W base (fun _ => true) held m ft ((cs.drop off).take n) = some y := by
  obtain ⟨fs, g, h1, h2, h3, h4⟩ := hf
  subst h3; subst h4; subst hc
  obtain ⟨xs, m, _, _, _, h8, h9⟩ := DataW.trod_struct h1 h
  have h10 := h9 k g h2
  have hk : k < xs.length := by
    rw [h8]
    exact (Array.getElem?_eq_some_iff.1 h2).1
  rw [List.getElem?_eq_getElem hk] at h10
  exact ⟨m, _, h10⟩
theorem trod_len {st : Nat} {cs : List Value} {x : DataW H × List MemPlace} (hs : (P.underlying st).map isAggD = some true) (h : DataW.trod enc P W base (fun _ => true) held fuel st cs = some x) : cs.length = P.cellsOf st := by
  obtain ⟨d, h1, h2⟩ := Option.map_eq_some_iff.1 hs
  cases d with
  | struct fs => exact (DataW.trod_struct h1 h).choose_spec.choose_spec.2.2.1
  | array n e => exact (DataW.trod_array h1 h).choose_spec.choose_spec.2.2.1
  | _ => simp [isAggD] at h2
end

/-- An argument that is an array or a struct. -/
theorem okWide_agg {P : Program} {W : World} {r : Reach} {base : Nat} {t : TypeId} {v : Value} (ht : AG P t true) (h : Value.okWide P W r base t v) : ∃ cs : List Value, v = .agg cs.toArray ∧ cs.length = P.cellsOf t := by
  obtain ⟨d, h1, h2⟩ := Option.map_eq_some_iff.1 ht
  unfold Value.okWide at h
  rw [h1] at h
  cases d with
  | struct fs => obtain ⟨cs, h3, h4, _⟩ := h; exact ⟨cs.toList, by simpa using h3, by simpa using h4⟩
  | array n e => obtain ⟨cs, h3, h4, _⟩ := h; exact ⟨cs.toList, by simpa using h3, by simpa using h4⟩
  | _ => simp [isAggD] at h2
/-! ## a statement's end -/
section
variable {P : Program} {H : Type} {enc : TypeId × Value → H}
theorem trodAll_below (hl : laidOutB P = true) {W W' : World} (hb : Below W.heap.size W W') : ∀ (ts : List TypeId) (vs : List Value) (ds : List (DataW H)) (ps : List MemPlace), (∀ t ∈ ts, P.readableRec t = true ∧ t < P.types.size) →
    DataW.TrodAll enc P W 0 (fun _ => true) true ts vs ds ps → (∀ x ∈ ps, x.block < W.heap.size) → DataW.TrodAll enc P W' 0 (fun b => decide (b < W.heap.size)) true ts vs ds ps
  | [], [], [], ps, _, h, _ => h
  | t :: ts, v :: vs, d :: ds, ps, ht, h, hlt => by
    obtain ⟨p, q, h1, h2, h3⟩ := h
    subst h3
    obtain ⟨r1, r2⟩ := ht t (by simp)
    exact ⟨p, q, Below.trod hl r1 r2 h1 hb (fun x hx => hlt x (List.mem_append_left _ hx)), trodAll_below hl hb ts vs ds q (fun u hu => ht u (by simp [hu])) h2 (fun x hx => hlt x (List.mem_append_right _ hx)), rfl⟩
  | [], _ :: _, _, _, _, h, _ => h.elim
  | [], [], _ :: _, _, _, h, _ => h.elim
  | _ :: _, [], _, _, _, h, _ => h.elim
  | _ :: _, _ :: _, [], _, _, h, _ => h.elim

/-- What a law's row asks behind the call. -/
theorem law_post {f : Func} {s : ChangeSpec} {W W' : World} {args : Array Value} {ds : List (DataW H)} {before : List MemPlace} {tb : TypeId} (hl : laidOutB P = true) (hv : s.vars = []) (hres : f.resultTypes = #[tb]) (htb : P.underlying tb = some .bool)
    (hts : ∀ t ∈ f.params.toList, P.readableRec t = true ∧ t < P.types.size) (hs : (s.fn H (ds ++ [])) = { results := [.lit (.bool true)], args := ds, vars := [] })
    (hW : DataW.Whole enc P f.params.toList s.vars false W args.toList ds [] before) (hb : Below W.heap.size W W') : s.post enc P f false true false false W args (.bool true) W' := by
  have hW2 := hW
  obtain ⟨p, q, h1, h2, h3, _, _⟩ := hW2
  rw [hv] at h2
  obtain ⟨_, hq⟩ := trodVars_none h2
  have hlt := hW.lt
  refine ⟨ds, [], before, [], p, [], hW, ?_, ?_, ?_, ?_, fun h => by cases h⟩
  · rw [hs, hres]; exact trodAll_mk1 (shut_bool htb true)
  · rw [hs]; exact trodAll_below hl hb _ _ _ _ hts h1 (fun x hx => hlt x (by rw [h3]; exact List.mem_append_left _ hx))
  · rw [hs, hv]; exact rfl
  · exact hb.frame _
end

/-- A law: called in any world with this part (all that was there), it answers true and leaves that part. -/
abbrev LawOf (P : Program) (g : FuncId) (args : List Value) (W : World) : Prop := FSpec P g args [bag (blks W)] (fun v As => v = .bool true ∧ As = [bag (blks W)])
theorem LawOf.calls {P : Program} {g : FuncId} {args : List Value} {W : World} (h : LawOf P g args W) : Calls P g args.toArray W fun e W' => e = .returned (.bool true) ∧ Below W.heap.size W W' :=
  (FSpec.calls (F := []) h (heap_start W)).mono fun e w' ⟨v, As, he, ⟨hv, hA⟩, hw⟩ => by
    subst hv; subst hA
    exact ⟨he, below_end hw⟩
end Go.SL
