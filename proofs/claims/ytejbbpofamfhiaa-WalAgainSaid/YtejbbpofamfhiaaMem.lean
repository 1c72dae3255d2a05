/- The operations that read, make or turn memory, one law each, over a heap that is a list of parts. -/
import Derived.Test.YtejbbpofamfhiaaOps
import Derived.Laws.CopyOwn
import Derived.Laws.IdiomStrings
namespace Go.SL
set_option linter.unusedVariables false
set_option linter.unusedSimpArgs false
open Go

/-! ## parts that can be read -/
/-- Block b of the part is o. -/
def Rd (A : Asn) (b : Nat) (o : Obj) : Prop := ∀ L, A L → (b, o) ∈ L
def bag (L0 : HL) : Asn := fun L => L = L0
theorem Rd.pt (b : Nat) (o : Obj) : Rd (SL.pt b o) b o := fun L h => by
  have h' : L = [(b, o)] := h
  subst h'; simp
theorem Rd.bag {L0 : HL} {b : Nat} {o : Obj} (h : (b, o) ∈ L0) : Rd (SL.bag L0) b o := fun L h' => by
  have h'' : L = L0 := h'
  subst h''; exact h
theorem heap_rd {w0 w : World} {A : Asn} {As : List Asn} {b : Nat} {o : Obj} (h : Heap w0 w (A :: As)) (hr : Rd A b o) : w.heap[b]? = some o := by
  obtain ⟨L, h1, L1, L2, h3, h4, _⟩ := h
  exact h1.mem (b, o) (h3.mem_iff.2 (List.mem_append_left _ (hr L1 h4)))
theorem cell_of_blk {w : World} {b i : Nat} {cs : Array Value} {t : TypeId} {fr : Nat × Nat} (h : w.heap[b]? = some (.cells cs t fr)) : w.cell? ⟨b, i, none⟩ = cs[i]? := by
  simp [World.cell?, h]

/-- The cells 'news' stand at p, whatever world has these parts. -/
def Src (As : List Asn) (p : Option Addr) (news : List Value) : Prop :=
  news ≠ [] → ∃ a, p = some a ∧ ∀ w0 w, Heap w0 w As → ∀ (j : Nat) (u : Value), news[j]? = some u → w.cell? (a.add j) = some u
theorem Src.nil (As : List Asn) (p : Option Addr) : Src As p [] := fun h => absurd rfl h
theorem Src.rd {As Bs : List Asn} {A : Asn} {b o : Nat} {cs news : List Value} {t : TypeId} {fr : Nat × Nat} (hp : As.Perm (A :: Bs)) (hr : Rd A b (.cells cs.toArray t fr)) (h : (cs.drop o).take news.length = news) :
    Src As (some ⟨b, o, none⟩) news := fun _ => ⟨_, rfl, fun w0 w hw j u hj => by
  rw [add_mk, cell_of_blk (heap_rd (hw.perm hp) hr)]
  rw [← h, List.getElem?_take] at hj
  split at hj
  · simpa [List.getElem?_drop] using hj
  · cases hj⟩
theorem Src.cb {As Bs : List Asn} {b o : Nat} {cs news : List Value} {t : TypeId} (hp : As.Perm (SL.cb b t cs :: Bs)) (h : (cs.drop o).take news.length = news) : Src As (some ⟨b, o, none⟩) news :=
  Src.rd hp (Rd.pt _ _) h
theorem Src.perm {As Bs : List Asn} {p : Option Addr} {news : List Value} (h : As.Perm Bs) (hs : Src Bs p news) : Src As p news := fun hn =>
  let ⟨a, h1, h2⟩ := hs hn; ⟨a, h1, fun w0 w hw => h2 w0 w (hw.perm h)⟩

/-! ## one-cell values -/
theorem set_heap {w0 w : World} {b i : Nat} {t : TypeId} {cs : List Value} {As : List Asn} (v : Value) (h : Heap w0 w (cb b t cs :: As)) : Heap w0 (w.setCell ⟨b, i, none⟩ v) (cb b t (cs.set i v) :: As) := by
  have hg := heap_get h
  rw [setCell_eq_setRow w b i cs.toArray t (0, 0) v hg]
  refine heap_set h rfl rfl rfl (by simp) ?_ (fun k hk => setRow_other w b k _ hk)
  rw [setRow_heap w b cs.toArray _ t (0, 0) hg]
  simp
theorem row_heap {w0 w : World} {b : Nat} {t : TypeId} {cs : List Value} {As : List Asn} (ds : List Value) (h : Heap w0 w (cb b t cs :: As)) : Heap w0 (w.setRow b ds.toArray) (cb b t ds :: As) :=
  heap_set h rfl rfl rfl (by simp) (setRow_heap w b cs.toArray _ t (0, 0) (heap_get h)) (fun k hk => setRow_other w b k _ hk)

def spl (cs : List Value) (o : Nat) (vs : List Value) : List Value := cs.take o ++ vs ++ cs.drop (o + vs.length)
theorem length_spl {cs vs : List Value} {o : Nat} (h : o + vs.length ≤ cs.length) : (spl cs o vs).length = cs.length := by
  simp [spl]; omega

section
variable {P : Program} {ty : TypeId} {n : FN} {f : Nat → Value} {w0 : World} {As Bs : List Asn} {A : Asn} {x y : Operand} {t e T : TypeId} {b o s bytes : Nat} {cs vs zs : List Value} {v : Value} {fz : Nat × Nat}

theorem run_load_cell {w : World} {a : Addr} (h : w.cell? a = some v) : (load a).run P w = .ok v w := by simp [h]

theorem os_load1r (hp : As.Perm (A :: Bs)) (hr : Rd A b (.cells cs.toArray T fz)) (ht : AG P t false) (hx : ev n f x = .pointer (some ⟨b, o, none⟩)) (hv : cs[o]? = some v) : OS P (.load t x) ty n f w0 As (Is v As) :=
  OS.of_run fun w hw o' ho _ => by
    have hc : w.cell? ⟨b, o, none⟩ = some v := by rw [cell_of_blk (heap_rd (hw.perm hp) hr)]; simpa using hv
    exact ⟨v, w, As, by simp [execOp, ho, hx, Instr.loadAt, Instr.sureAddr, loadVar, run_isAgg ht, hc], ⟨rfl, rfl⟩, hw⟩
theorem os_load1 (hp : As.Perm (cb b T cs :: Bs)) (ht : AG P t false) (hx : ev n f x = .pointer (some ⟨b, o, none⟩)) (hv : cs[o]? = some v) : OS P (.load t x) ty n f w0 As (Is v As) :=
  os_load1r hp (Rd.pt _ _) ht hx hv
theorem os_loadNr (hp : As.Perm (A :: Bs)) (hr : Rd A b (.cells cs.toArray T fz)) (ht : AG P t true) (hs : SZ P t s) (hx : ev n f x = .pointer (some ⟨b, o, none⟩)) (hv : (cs.drop o).take s = vs) (hl : vs.length = s) :
    OS P (.load t x) ty n f w0 As (Is (.agg vs.toArray) As) :=
  OS.of_run fun w hw o' ho _ => by
    have hg := heap_rd (hw.perm hp) hr
    have hl' := run_loadCells_list (P := P) w ⟨b, o, none⟩ vs (fun j u hj => by
      rw [add_mk, cell_of_blk hg]
      rw [← hv, List.getElem?_take] at hj
      split at hj
      · simpa [List.getElem?_drop] using hj
      · cases hj)
    rw [hl] at hl'
    exact ⟨.agg vs.toArray, w, As, by simp [execOp, ho, hx, Instr.loadAt, Instr.sureAddr, loadVar, run_isAgg ht, run_sizeOf hs, hl'], ⟨rfl, rfl⟩, hw⟩
theorem os_loadN (hp : As.Perm (cb b T cs :: Bs)) (ht : AG P t true) (hs : SZ P t s) (hx : ev n f x = .pointer (some ⟨b, o, none⟩)) (hv : (cs.drop o).take s = vs) (hl : vs.length = s) :
    OS P (.load t x) ty n f w0 As (Is (.agg vs.toArray) As) := os_loadNr hp (Rd.pt _ _) ht hs hx hv hl

/-! the same, where the world is any that has the parts -/
theorem pl_load1 {Hs : List Asn} (hp : Hs.Perm (cb b T cs :: Bs)) (ht : AG P t false) (hx : ev n f x = .pointer (some ⟨b, o, none⟩)) (hv : cs[o]? = some v) : PL P (.load t x) ty n f Hs v := fun w0 w Cs hw o' ho _ => by
  have hc : w.cell? ⟨b, o, none⟩ = some v := by
    rw [cell_of_blk (heap_get (hw.perm ((hp.append_right Cs).trans (by simp)) : Heap w0 w (cb b T cs :: (Bs ++ Cs))))]
    simpa using hv
  simp [execOp, ho, hx, Instr.loadAt, Instr.sureAddr, loadVar, run_isAgg ht, hc]
theorem pl_loadN {Hs : List Asn} (hp : Hs.Perm (cb b T cs :: Bs)) (ht : AG P t true) (hs : SZ P t s) (hx : ev n f x = .pointer (some ⟨b, o, none⟩)) (hv : (cs.drop o).take s = vs) (hl : vs.length = s) : PL P (.load t x) ty n f Hs (.agg vs.toArray) := fun w0 w Cs hw o' ho _ => by
  have hg := heap_get (hw.perm ((hp.append_right Cs).trans (by simp)) : Heap w0 w (cb b T cs :: (Bs ++ Cs)))
  have hl' := run_loadCells_list (P := P) w ⟨b, o, none⟩ vs (fun j u hj => by
    rw [add_mk, cell_of_blk hg]
    rw [← hv, List.getElem?_take] at hj
    split at hj
    · simpa [List.getElem?_drop] using hj
    · cases hj)
  rw [hl] at hl'
  simp [execOp, ho, hx, Instr.loadAt, Instr.sureAddr, loadVar, run_isAgg ht, run_sizeOf hs, hl']
theorem pl_loadAll {Hs : List Asn} (hp : Hs.Perm (cb b T cs :: Bs)) (ht : AG P t true) (hs : SZ P t cs.length) (hx : ev n f x = .pointer (some ⟨b, 0, none⟩)) : PL P (.load t x) ty n f Hs (.agg cs.toArray) := pl_loadN hp ht hs hx (by simp) rfl
theorem pl_loadS {Hs : List Asn} (hsrc : ∀ Bs, Src (Hs ++ Bs) (some ⟨b, o, none⟩) vs) (hne : vs ≠ []) (ht : AG P t true) (hs : SZ P t vs.length) (hx : ev n f x = .pointer (some ⟨b, o, none⟩)) : PL P (.load t x) ty n f Hs (.agg vs.toArray) := fun w0 w Cs hw o' ho _ => by
  obtain ⟨a, ha, hc⟩ := hsrc Cs hne
  cases ha
  have hl' := run_loadCells_list (P := P) w ⟨b, o, none⟩ vs (fun j u hj => hc w0 w hw j u hj)
  simp [execOp, ho, hx, Instr.loadAt, Instr.sureAddr, loadVar, run_isAgg ht, run_sizeOf hs, hl']
theorem pl_loadS1 {Hs : List Asn} (hsrc : ∀ Bs, Src (Hs ++ Bs) (some ⟨b, o, none⟩) [v]) (ht : AG P t false) (hx : ev n f x = .pointer (some ⟨b, o, none⟩)) : PL P (.load t x) ty n f Hs v := fun w0 w Cs hw o' ho _ => by
  obtain ⟨a, ha, hc⟩ := hsrc Cs (by simp)
  cases ha
  have h := hc w0 w hw 0 v rfl
  rw [show (⟨b, o, none⟩ : Addr).add 0 = ⟨b, o, none⟩ from rfl] at h
  simp [execOp, ho, hx, Instr.loadAt, Instr.sureAddr, loadVar, run_isAgg ht, h]
theorem os_loadS (hsrc : Src As (some ⟨b, o, none⟩) vs) (hne : vs ≠ []) (ht : AG P t true) (hs : SZ P t vs.length) (hx : ev n f x = .pointer (some ⟨b, o, none⟩)) :
    OS P (.load t x) ty n f w0 As (Is (.agg vs.toArray) As) :=
  OS.of_run fun w hw o' ho _ => by
    obtain ⟨a, ha, hc⟩ := hsrc hne
    cases ha
    have hl' := run_loadCells_list (P := P) w ⟨b, o, none⟩ vs (fun j u hj => hc w0 w hw j u hj)
    exact ⟨.agg vs.toArray, w, As, by simp [execOp, ho, hx, Instr.loadAt, Instr.sureAddr, loadVar, run_isAgg ht, run_sizeOf hs, hl'], ⟨rfl, rfl⟩, hw⟩
theorem os_loadS1 (hsrc : Src As (some ⟨b, o, none⟩) [v]) (ht : AG P t false) (hx : ev n f x = .pointer (some ⟨b, o, none⟩)) : OS P (.load t x) ty n f w0 As (Is v As) :=
  OS.of_run fun w hw o' ho _ => by
    obtain ⟨a, ha, hc⟩ := hsrc (by simp)
    cases ha
    have h := hc w0 w hw 0 v rfl
    rw [show (⟨b, o, none⟩ : Addr).add 0 = ⟨b, o, none⟩ from rfl] at h
    exact ⟨v, w, As, by simp [execOp, ho, hx, Instr.loadAt, Instr.sureAddr, loadVar, run_isAgg ht, h], ⟨rfl, rfl⟩, hw⟩
theorem run_storeVar1 {w : World} {T : TypeId} (hg : w.heap[b]? = some (.cells cs.toArray T (0, 0))) (hs : SZ P t 1) (hv : v.oneCell' = true) (ho : o < cs.length) : (storeVar t ⟨b, o, none⟩ v).run P w = .ok () (w.setCell ⟨b, o, none⟩ v) := by
  have hc : v.cells = #[v] := by cases v <;> first | rfl | (simp [Value.oneCell'] at hv)
  have hcell : w.cell? ⟨b, o, none⟩ = some cs[o] := by rw [cell_of_blk hg]; simp [ho]
  have hfz : w.frozen? ⟨b, o, none⟩ = false := by simp [World.frozen?, hg]
  have hst := run_store P w ⟨b, o, none⟩ v .plain hv
  rw [hcell, hfz] at hst
  simp [storeVar, run_sizeOf hs, hc, storeCells, add_mk, hst]
theorem os_store1 (hp : As.Perm (cb b T cs :: Bs)) (hs : SZ P t 1) (hx : ev n f x = .pointer (some ⟨b, o, none⟩)) (hy : ev n f y = v) (hv : v.oneCell' = true) (ho : o < cs.length) :
    OS P (.store t x y) ty n f w0 As (Is undef (cb b T (cs.set o v) :: Bs)) :=
  OS.of_skip fun w hw o' ho' _ => by
    have hw' := hw.perm hp
    have h := run_storeVar1 (P := P) (t := t) (heap_get hw') hs hv ho
    exact ⟨_, _, by simp [execOp, ho', hx, hy, Instr.storeAt, Instr.sureAddr, h], ⟨rfl, rfl⟩, set_heap v hw'⟩
theorem run_storeVarN {w : World} {T : TypeId} (hg : w.heap[b]? = some (.cells cs.toArray T (0, 0))) (hs : SZ P t vs.length) (hv : ∀ u ∈ vs, u.oneCell' = true) (ho : o + vs.length ≤ cs.length) :
    (storeVar t ⟨b, o, none⟩ (.agg vs.toArray)).run P w = .ok () (w.setRow b (spl cs o vs).toArray) := by
  have h := run_storeCells_at P b o T vs 0 cs.toArray w hg (by simpa using ho) hv
  simp only [Nat.add_zero] at h
  simp [storeVar, run_sizeOf hs, Value.cells, h, spl]
theorem os_storeN (hp : As.Perm (cb b T cs :: Bs)) (hs : SZ P t vs.length) (hx : ev n f x = .pointer (some ⟨b, o, none⟩)) (hy : ev n f y = .agg vs.toArray) (hv : ∀ u ∈ vs, u.oneCell' = true) (ho : o + vs.length ≤ cs.length) :
    OS P (.store t x y) ty n f w0 As (Is undef (cb b T (spl cs o vs) :: Bs)) :=
  OS.of_skip fun w hw o' ho' _ => by
    have hw' := hw.perm hp
    have h := run_storeVarN (P := P) (t := t) (heap_get hw') hs hv ho
    exact ⟨_, _, by simp [execOp, ho', hx, hy, Instr.storeAt, Instr.sureAddr, h], ⟨rfl, rfl⟩, row_heap _ hw'⟩

theorem os_storeAll (hp : As.Perm (cb b T cs :: Bs)) (hs : SZ P t vs.length) (hx : ev n f x = .pointer (some ⟨b, 0, none⟩)) (hy : ev n f y = .agg vs.toArray) (hv : ∀ u ∈ vs, u.oneCell' = true) (ho : cs.length = vs.length) :
    OS P (.store t x y) ty n f w0 As (Is undef (cb b T vs :: Bs)) := by
  have h := os_storeN (P := P) (ty := ty) (w0 := w0) hp hs hx hy hv (by omega)
  have e : spl cs 0 vs = vs := by simp [spl, ← ho]
  rwa [e] at h
theorem os_loadAll (hp : As.Perm (cb b T cs :: Bs)) (ht : AG P t true) (hs : SZ P t cs.length) (hx : ev n f x = .pointer (some ⟨b, 0, none⟩)) :
    OS P (.load t x) ty n f w0 As (Is (.agg cs.toArray) As) := os_loadN hp ht hs hx (by simp) rfl

/-! ## what is made -/
/-- A new block of these cells, and its address. -/
def New (t : TypeId) (cs : List Value) (As : List Asn) : Value → List Asn → Prop := fun v Bs => ∃ b, v = .pointer (some ⟨b, 0, none⟩) ∧ Bs = cb b t cs :: As
theorem os_alloc (hi : TI P t s bytes zs) : OS P (.alloc t) ty n f w0 As (New t zs As) :=
  OS.of_run fun w hw o' ho _ => by
    obtain ⟨z, h1, h2⟩ := run_zeroCells hi w
    exact ⟨_, _, _, by simp [execOp, ho, Instr.alloc, h1, newVar, newRow, h2], ⟨w.heap.size, rfl, rfl⟩, heap_new _ hw⟩
theorem os_box (hx : ev n f x = v) (hv : v.cells = vs.toArray) : OS P (.box t x) ty n f w0 As (New t vs As) :=
  OS.of_run fun w hw o' ho _ =>
    ⟨_, _, _, by simp [execOp, ho, Instr.box, hx, newVar, newRow, hv], ⟨w.heap.size, rfl, rfl⟩, heap_new _ hw⟩
/-- A new row: a slice of all of it. -/
def NewSl (e : TypeId) (cs : List Value) (l c : Nat) (As : List Asn) : Value → List Asn → Prop := fun v Bs => ∃ b, v = .slice (some ⟨b, 0, none⟩) l c ∧ Bs = cb b e cs :: As
theorem os_make {kl kc : IntKind} {l c : Int} (ht : P.underlying t = some (.slice e)) (hi : TI P e s bytes zs) (hzl : zs.length = s) (hx : ev n f x = .int kl l) (hy : ev n f y = .int kc c) (h0 : 0 ≤ l) (hlc : l ≤ c) (hb : (bytes : Int) * c ≤ 281474976710656) (hc : c ≤ 9223372036854775807) :
    OS P (.makeSlice t x y) ty n f w0 As (NewSl e (List.replicate c.toNat zs).flatten l.toNat c.toNat As) :=
  OS.of_run fun w hw o' ho _ => by
    obtain ⟨i, z, h1, h2, h3, h4, h5⟩ := hi
    subst h2; subst h3
    have h := run_make (P := P) w t e i z ht h1 h4 kl kc l c h0 hlc hb hc
    have hm : madeCells z.cells (c.toNat * i.size) = (List.replicate c.toNat zs).flatten.toArray := by
      rw [h5, ← hzl]
      apply Array.ext
      · simp [madeCells]
      · intro j hj1 hj2
        have hj3 : j < c.toNat * zs.length := by simpa [madeCells] using hj1
        have hpos : 0 < zs.length := by
          rcases Nat.eq_zero_or_pos zs.length with h | h
          · rw [h] at hj3; omega
          · exact h
        have hmod : j % zs.length < zs.length := Nat.mod_lt _ hpos
        have hlist : ∀ (c j : Nat), j < c * zs.length → (List.replicate c zs).flatten[j]? = some (zs[j % zs.length]'(Nat.mod_lt _ hpos)) := by
          intro c
          induction c with
          | zero => intro j h; omega
          | succ c ih =>
            intro j h
            rw [List.replicate_succ, List.flatten_cons, List.getElem?_append]
            split
            · rename_i hlt
              rw [List.getElem?_eq_getElem hlt]
              simp [Nat.mod_eq_of_lt hlt]
            · rename_i hge
              rw [ih (j - zs.length) (by rw [Nat.succ_mul] at h; omega)]
              congr 2
              exact (Nat.mod_eq_sub_mod (by omega)).symm
        have hl2 := hlist c.toNat j hj3
        simp only [madeCells, Array.getElem_map, Array.getElem_range]
        have e2 : ((List.replicate c.toNat zs).flatten.toArray)[j] = zs[j % zs.length]'hmod := by
          have := (List.getElem?_eq_some_iff.1 hl2).2
          simpa using this
        rw [e2]
        simp [hmod]
    rw [hm] at h
    exact ⟨_, _, _, by simp [execOp, ho, hx, hy, h], ⟨w.heap.size, rfl, rfl⟩, heap_new _ hw⟩
/-- '[]T{x}', and the row that a variadic call makes. -/
theorem os_bsl {k : Nat} {parts : Array (Nat × Operand)} {ps : List (Nat × Value)} {cells : List Value} (ht : P.underlying t = some (.slice e)) (hi : TI P e s bytes zs) (hps : (parts.toList.map fun p => (p.1, ev n f p.2)) = ps) (hk : k * s ≤ 16777216) (hpos : k * s ≠ 0)
    (hf : Instr.fill (fun i => some (i * s, s)) ((Array.range (k * s)).map (zs.toArray[· % zs.toArray.size]!)) ps = some cells.toArray) :
    OS P (.buildSlice t k parts) ty n f w0 As (NewSl e cells k k As) :=
  OS.of_run fun w hw o' ho _ => by
    have hsz := hi.sz
    obtain ⟨z, h1, h2⟩ := run_zeroCells hi w
    have e1 : (parts.map fun (i, x) => (i, ev n f x)).toList = ps := by rw [← hps]; simp
    have hk' : ¬ (k * s > 2 ^ 24) := by omega
    refine ⟨_, _, _, ?_, ⟨w.heap.size, rfl, rfl⟩, heap_new _ hw⟩
    simp only [execOp, ho, Instr.buildSlice, Sem.run_bind, run_underlying ht, Result.andThen_ok, run_sizeOf hsz, hk', if_false, hpos, Sem.run_pure, h1, h2, e1, hf]
    simp [newRow]

theorem fill_one {v : Value} {vs : List Value} {arr : Array Value} {s : Nat} (hv : v.cells = vs.toArray) (hl : vs.length = s) (ha : arr.size = s) : Instr.fill (fun i => some (i * s, s)) arr [(0, v)] = some vs.toArray := by
  have h1 : v.cells.size = s := by rw [hv]; simpa using hl
  simp only [Instr.fill, Nat.zero_mul, h1, ha]
  have key : ∀ (l : List Value) (k : Nat) (a : Array Value), k + l.length ≤ a.size → (l.zipIdx k).foldl (fun cs (x : Value × Nat) => cs.setIfInBounds (0 + x.2) x.1) a = (a.toList.take k ++ l ++ a.toList.drop (k + l.length)).toArray := by
    intro l
    induction l with
    | nil => intro k a _; simp
    | cons u l ih =>
      intro k a hk
      simp only [List.zipIdx_cons, List.foldl_cons, Nat.zero_add]
      have := ih (k + 1) (a.setIfInBounds k u) (by simp at hk ⊢; omega)
      simp only [Nat.zero_add] at this
      rw [this]
      simp only [List.length_cons] at hk
      have e := list_seg_step a.toList k u l (by simpa using hk)
      simp only [Array.toList_setIfInBounds]
      rw [e]
      rfl
  have h2 := key vs 0 arr (by omega)
  simp only [Nat.zero_add, List.take_zero, List.nil_append] at h2
  simp only [Nat.zero_add, Nat.lt_irrefl, ne_eq, not_true_eq_false, gt_iff_lt, decide_false, Bool.or_self, Bool.false_eq_true, if_false]
  rw [hv, ← Array.foldl_toList]
  have e2 : (vs.toArray.zipIdx).toList = vs.zipIdx := by simp
  rw [e2]
  rw [h2, List.drop_of_length_le (by simp [hl, ha])]
  simp
/-- '[]T{x}' of one element. -/
theorem os_bsl1 (ht : P.underlying t = some (.slice e)) (hi : TI P e s bytes zs) (hzl : zs.length = s) (hx : ev n f x = v) (hv : v.cells = vs.toArray) (hl : vs.length = s) (hs : s ≠ 0) (hs2 : s ≤ 16777216) :
    OS P (.buildSlice t 1 #[(0, x)]) ty n f w0 As (NewSl e vs 1 1 As) :=
  os_bsl (ps := [(0, v)]) ht hi (by simp [hx]) (by omega) (by omega) (fill_one hv hl (by simp))

theorem fill_seq : ∀ (vs : List Value) (k : Nat) (arr : Array Value), (∀ u ∈ vs, u.oneCell' = true) → k + vs.length ≤ arr.size →
    Instr.fill (fun i => some (i * 1, 1)) arr ((vs.zipIdx k).map fun x => (x.2, x.1)) = some (arr.toList.take k ++ vs ++ arr.toList.drop (k + vs.length)).toArray
  | [], k, arr, _, _ => by simp [Instr.fill]
  | u :: vs, k, arr, h1, h2 => by
    have hu : u.cells = #[u] := by
      have := h1 u (by simp)
      cases u <;> first | rfl | (simp [Value.oneCell'] at this)
    have ih := fill_seq vs (k + 1) (arr.setIfInBounds k u) (fun w hw => h1 w (by simp [hw])) (by simp at h2 ⊢; omega)
    simp only [List.zipIdx_cons, List.map_cons, Instr.fill, hu, Nat.mul_one]
    have h3 : ¬ (arr.size < k + 1) := by simp at h2; omega
    simp only [List.size_toArray, List.length_cons, List.length_nil, Nat.zero_add, gt_iff_lt, h3, ne_eq, not_true_eq_false, decide_false, Bool.or_self, Bool.false_eq_true, if_false]
    have e : (#[u].zipIdx.foldl (fun cs (x : Value × Nat) => cs.setIfInBounds (k + x.2) x.1) arr) = arr.setIfInBounds k u := by simp
    rw [e]
    simp only [Nat.mul_one] at ih
    rw [ih]
    have e2 := list_seg_step arr.toList k u vs (by simpa using h2)
    simp only [Array.toList_setIfInBounds]
    rw [e2]
/-- '[]T{x, y ..}' of elements of one cell each. -/
theorem os_bslv {k : Nat} {parts : Array (Nat × Operand)} (ht : P.underlying t = some (.slice e)) (hi : TI P e 1 bytes zs) (hzl : zs.length = 1) (hidx : parts.toList.map Prod.fst = List.range k) (hvs : (parts.toList.map fun p => ev n f p.2) = vs) (hone : ∀ u ∈ vs, u.oneCell' = true) (hk : k ≤ 16777216) (hpos : k ≠ 0) :
    OS P (.buildSlice t k parts) ty n f w0 As (NewSl e vs k k As) := by
  have hlen : vs.length = k := by
    have := congrArg List.length hidx
    simp at this
    rw [← hvs]; simpa using this
  refine os_bsl (ps := vs.zipIdx.map fun x => (x.2, x.1)) ht hi ?_ (by omega) (by omega) ?_
  · rw [← hvs]
    generalize parts.toList = l at hidx
    rw [List.range_eq_range'] at hidx
    clear hlen hvs hone hpos hk
    have key : ∀ (l : List (Nat × Operand)) (m k : Nat), l.map Prod.fst = List.range' m k → (l.map fun p => (p.1, ev n f p.2)) = ((l.map fun p => ev n f p.2).zipIdx m).map fun x => (x.2, x.1) := by
      intro l
      induction l with
      | nil => intro m k _; rfl
      | cons q l ih =>
        intro m k h
        cases k with
        | zero => simp at h
        | succ k =>
          rw [List.range'_succ] at h
          simp only [List.map_cons, List.cons.injEq] at h
          simp only [List.map_cons, List.zipIdx_cons, h.1]
          rw [ih (m + 1) k h.2]
    exact key l 0 k hidx
  · have h := fill_seq vs 0 ((Array.range (k * 1)).map (zs.toArray[· % zs.toArray.size]!)) hone (by simp; omega)
    rw [h]
    simp [hlen]

theorem fill_cell {s k : Nat} {v : Value} {vs : List Value} {arr : Array Value} {ps : List (Nat × Value)} (hv : v.cells = vs.toArray) (hl : vs.length = s) (hk : k * s + s ≤ arr.size) :
    Instr.fill (fun i => some (i * s, s)) arr ((k, v) :: ps) = Instr.fill (fun i => some (i * s, s)) (arr.toList.take (k * s) ++ vs ++ arr.toList.drop (k * s + s)).toArray ps := by
  have h1 : v.cells.size = s := by rw [hv]; simpa using hl
  simp only [Instr.fill, h1]
  have h3 : ¬ (arr.size < k * s + s) := by omega
  simp only [gt_iff_lt, h3, ne_eq, not_true_eq_false, decide_false, Bool.or_self, Bool.false_eq_true, if_false]
  congr 1
  rw [hv, ← Array.foldl_toList]
  have key : ∀ (l : List Value) (m : Nat) (a : Array Value), k * s + m + l.length ≤ a.size → (l.zipIdx m).foldl (fun cs (x : Value × Nat) => cs.setIfInBounds (k * s + x.2) x.1) a = (a.toList.take (k * s + m) ++ l ++ a.toList.drop (k * s + m + l.length)).toArray := by
    intro l
    induction l with
    | nil => intro m a _; simp
    | cons u l ih =>
      intro m a hm
      simp only [List.zipIdx_cons, List.foldl_cons]
      have := ih (m + 1) (a.setIfInBounds (k * s + m) u) (by simp at hm ⊢; omega)
      rw [this]
      simp only [List.length_cons] at hm
      have e := list_seg_step a.toList (k * s + m) u l (by simpa using hm)
      simp only [Array.toList_setIfInBounds]
      rw [← Nat.add_assoc]
      rw [e]
      rfl
  have h4 := key vs 0 arr (by omega)
  have e2 : (vs.toArray.zipIdx).toList = vs.zipIdx := by simp
  rw [e2, h4, hl]
  simp
theorem fill_rows {s : Nat} : ∀ (rows : List (List Value)) (k : Nat) (arr : Array Value), (∀ r ∈ rows, r.length = s) → k * s + rows.length * s = arr.size →
    Instr.fill (fun i => some (i * s, s)) arr (((rows.map fun r => Value.agg r.toArray).zipIdx k).map fun x => (x.2, x.1)) = some (arr.toList.take (k * s) ++ rows.flatten).toArray
  | [], k, arr, _, h => by
    have e : arr.toList.take (k * s) = arr.toList := List.take_of_length_le (by simp at h ⊢; omega)
    simp only [List.map_nil, List.zipIdx_nil, Instr.fill, List.flatten_nil, List.append_nil, e, Array.toArray_toList]
  | r :: rows, k, arr, h1, h2 => by
    have hr : r.length = s := h1 r (by simp)
    have h3 : k * s + s + rows.length * s = arr.size := by rw [List.length_cons, Nat.succ_mul] at h2; omega
    have hk : k * s + s ≤ arr.size := by omega
    simp only [List.map_cons, List.zipIdx_cons]
    rw [fill_cell (vs := r) rfl hr hk]
    have hsz : (arr.toList.take (k * s) ++ r ++ arr.toList.drop (k * s + s)).toArray.size = arr.size := by simp [hr]; omega
    rw [fill_rows rows (k + 1) _ (fun q hq => h1 q (by simp [hq])) (by rw [hsz, Nat.succ_mul]; omega)]
    congr 2
    have hl : (arr.toList.take (k * s) ++ r).length = (k + 1) * s := by rw [Nat.succ_mul]; simp [hr]; omega
    simp only [List.flatten_cons]
    rw [List.take_left' hl, List.append_assoc]
/-- '[]T{x, y ..}' of structs. -/
theorem os_bslR {k : Nat} {parts : Array (Nat × Operand)} (rows : List (List Value)) (ht : P.underlying t = some (.slice e)) (hi : TI P e s bytes zs) (hidx : parts.toList.map Prod.fst = List.range k) (hvs : (parts.toList.map fun p => ev n f p.2) = rows.map fun r => Value.agg r.toArray) (hl : ∀ r ∈ rows, r.length = s) (hk : k * s ≤ 16777216) (hpos : k * s ≠ 0) :
    OS P (.buildSlice t k parts) ty n f w0 As (NewSl e rows.flatten k k As) := by
  have hlen : rows.length = k := by
    have h1 := congrArg List.length hidx
    have h2 := congrArg List.length hvs
    simp at h1 h2
    omega
  refine os_bsl (ps := ((rows.map fun r => Value.agg r.toArray).zipIdx 0).map fun x => (x.2, x.1)) ht hi ?_ hk hpos ?_
  · rw [← hvs]
    generalize parts.toList = l at hidx
    rw [List.range_eq_range'] at hidx
    clear hlen hvs hpos hk hl
    have key : ∀ (l : List (Nat × Operand)) (m k : Nat), l.map Prod.fst = List.range' m k → (l.map fun p => (p.1, ev n f p.2)) = ((l.map fun p => ev n f p.2).zipIdx m).map fun x => (x.2, x.1) := by
      intro l
      induction l with
      | nil => intro m k _; rfl
      | cons q l ih =>
        intro m k h
        cases k with
        | zero => simp at h
        | succ k =>
          rw [List.range'_succ] at h
          simp only [List.map_cons, List.cons.injEq] at h
          simp only [List.map_cons, List.zipIdx_cons, h.1]
          rw [ih (m + 1) k h.2]
    exact key l 0 k hidx
  · rw [fill_rows rows 0 _ hl (by simp [hlen])]
    simp

/-! ## append -/
/-- A value that is a slice of n elements, of 'size' cells each, and has its row for itself. -/
def slOwn (e : TypeId) (size : Nat) (v : Value) (n : Nat) (xs : List Value) : Asn := fun L =>
  xs.length = n * size ∧ ((v = .slice none 0 0 ∧ n = 0 ∧ L = []) ∨
    ∃ g cap cur, v = .slice (some ⟨g, 0, none⟩) n cap ∧ n ≤ cap ∧ cap ≤ maxLen ∧ cap * size ≤ cur.length ∧ cur.take (n * size) = xs ∧ L = [(g, .cells (List.toArray cur) e (0, 0))])
theorem slOwn_nil (e : TypeId) (size : Nat) : slOwn e size (.slice none 0 0) 0 [] [] := ⟨by simp, .inl ⟨rfl, rfl, rfl⟩⟩
theorem Ent.slNil (e : TypeId) (size : Nat) (As : List Asn) : Ent As (slOwn e size (.slice none 0 0) 0 [] :: As) := fun L h => ⟨[], L, List.Perm.refl _, slOwn_nil e size, h⟩
/-- The two forms of such a slice. -/
theorem slOwn_open {e : TypeId} {size : Nat} {v : Value} {m : Nat} {xs : List Value} {G : World → Prop} (hp : As.Perm (slOwn e size v m xs :: Bs))
    (h0 : v = .slice none 0 0 → m = 0 → xs = [] → J w0 Bs G)
    (h1 : ∀ g cap cur, v = .slice (some ⟨g, 0, none⟩) m cap → m ≤ cap → cap ≤ maxLen → cap * size ≤ cur.length → cur.take (m * size) = xs → xs.length = m * size → J w0 (cb g e cur :: Bs) G) : J w0 As G := J.mk fun w hw => by
  obtain ⟨L, a1, L1, L2, a3, a4, a5⟩ := hw.perm hp
  obtain ⟨hl, hc⟩ := a4
  rcases hc with ⟨b1, b2, b3⟩ | ⟨g, cap, cur, b1, b2, b3, b4, b5, b6⟩
  · subst b3
    have hx : xs = [] := List.eq_nil_of_length_eq_zero (by rw [hl, b2]; simp)
    exact (h0 b1 b2 hx).run w ⟨L, a1, sat_perm a5 a3.symm⟩
  · exact (h1 g cap cur b1 b2 b3 b4 b5 hl).run w ⟨L, a1, L1, L2, a3, b6, a5⟩
theorem Ent.slMk {e : TypeId} {size g m cap : Nat} {cur xs : List Value} (h1 : m ≤ cap) (h2 : cap ≤ maxLen) (h3 : cap * size ≤ cur.length) (h4 : cur.take (m * size) = xs) (As : List Asn) :
    Ent (cb g e cur :: As) (slOwn e size (.slice (some ⟨g, 0, none⟩) m cap) m xs :: As) := fun L h => by
  obtain ⟨L1, L2, a1, a2, a3⟩ := h
  refine ⟨L1, L2, a1, ⟨?_, .inr ⟨g, cap, cur, rfl, h1, h2, h3, h4, a2⟩⟩, a3⟩
  rw [← h4, List.length_take]
  exact Nat.min_eq_left (Nat.le_trans (Nat.mul_le_mul_right _ h1) h3)

theorem zeroCells_list (zs : List Value) (k : Nat) : (Builtin.zeroCells zs.toArray k).size = k * zs.length := by simp [size_zeroCells]

/-- 'append(v, x...)', v having its row for itself. -/
theorem os_append {m k c : Nat} {p : Option Addr} {xs news : List Value} (hp : As.Perm (slOwn e s v m xs :: Bs)) (ht : P.underlying t = some (.slice e)) (hi : TI P e s bytes zs) (hzl : zs.length = s) (hs0 : 0 < s)
    (hx : ev n f x = v) (hy : ev n f y = .slice p k c) (hl : news.length = k * s) (hsrc : Src Bs p news) (h1 : ∀ u ∈ news, u.oneCell' = true) (h63 : m + k ≤ maxLen) (hby : (m + k) * bytes ≤ 140737488355328) :
    OS P (BI .append #[x, y] #[t, t]) ty n f w0 As (fun v' Cs => ∃ q d, v' = .slice q (m + k) d ∧ Cs = slOwn e s v' (m + k) (xs ++ news) :: Bs ∧ (q = none → m + k = 0)) :=
  OS.of_run fun w hw o' ho hty => by
    have hw' := hw.perm hp
    obtain ⟨i, z, i1, i2, i3, i4, i5⟩ := hi
    subst i2; subst i3
    have hzs : z.cells.size = i.size := by rw [i5]; simpa using hzl
    have run0 : ∀ r w1, (Builtin.append_ #[t, t] o'.type #[v, .slice p k c]).run P w = .ok r w1 → (execOp (ev n f) o').run P w = .ok (.value r) w1 := fun r w1 hr => by
      simp [execOp, ho, BI, resolve, invoke, builtin, hx, hy, hr]
    have hB : Heap w0 w Bs := by
      obtain ⟨L, a1, L1, L2, a3, a4, a5⟩ := hw'
      exact ⟨L, a1, by have := sat_mk (As := []) (L1 := L1) a3 trivial a5; simpa using this⟩
    have hd : Heap w0 w.drew Bs := heap_drew hB
    have hsm : m + k ≤ 9223372036854775807 := by unfold maxLen at h63; omega
    obtain ⟨L, a1, L1, L2, a3, a4, a5⟩ := hw'
    obtain ⟨hxl, hform⟩ := a4
    have hlen : (xs ++ news).length = (m + k) * i.size := by rw [List.length_append, hxl, hl, Nat.add_mul]
    -- a new row
    have grown : ∀ old, old < m + k → Heap w0 (w.drew.alloc (.cells (xs.toArray ++ news.toArray ++ Builtin.zeroCells z.cells (grownCap w (m + k) old e - (m + k))) e))
        (slOwn e i.size (.slice (some ⟨w.heap.size, 0, none⟩) (m + k) (grownCap w (m + k) old e)) (m + k) (xs ++ news) :: Bs) := by
      intro old _
      have hge := grownCap_ge w (m + k) old e
      have hcm : grownCap w (m + k) old e ≤ maxLen := grownCap_le_maxLen w (m + k) old e h63
      have hnew := heap_new (.cells (xs ++ news ++ (Builtin.zeroCells z.cells (grownCap w (m + k) old e - (m + k))).toList).toArray e (0, 0)) hd
      have heq : (xs ++ news ++ (Builtin.zeroCells z.cells (grownCap w (m + k) old e - (m + k))).toList).toArray = xs.toArray ++ news.toArray ++ Builtin.zeroCells z.cells (grownCap w (m + k) old e - (m + k)) := by simp
      refine (Ent.slMk (cur := xs ++ news ++ (Builtin.zeroCells z.cells (grownCap w (m + k) old e - (m + k))).toList) hge hcm ?_ ?_ Bs).heap ?_
      · refine Nat.le_of_eq (Eq.symm ?_); rw [List.length_append, hlen, Array.length_toList, size_zeroCells, hzs, ← Nat.add_mul]; congr 1; omega
      · rw [← hlen]; exact List.take_left
      · rw [← heq]; exact hnew
    rcases hform with ⟨b1, b2, b3⟩ | ⟨g, cap, cur, b1, b2, b3, b4, b5, b6⟩
    · subst b1; subst b2
      have hx0 : xs = [] := List.eq_nil_of_length_eq_zero (by rw [hxl]; simp)
      subst hx0
      by_cases hk : k = 0
      · subst hk
        have hn0 : news = [] := List.eq_nil_of_length_eq_zero (by rw [hl]; simp)
        subst hn0
        have hr : (Builtin.append_ #[t, t] o'.type #[.slice none 0 0, .slice p 0 c]).run P w = .ok (.slice none 0 0) w := by
          cases p <;> simp [Builtin.append_, run_underlying ht, sizeOf, typeInfo, i1, Builtin.lenOf, Builtin.firstCells, loadCells, loadCellsFrom]
        exact ⟨_, _, _, run0 _ _ hr, ⟨_, _, rfl, rfl, by simp⟩, (Ent.slNil e i.size Bs).heap hB⟩
      · have hne : news ≠ [] := fun h => by
          have h9 := Nat.mul_pos (Nat.pos_of_ne_zero hk) hs0
          rw [← hl, h] at h9; simp at h9
        obtain ⟨a, rfl, hcell⟩ := hsrc hne
        have hk1 : 0 < k := Nat.pos_of_ne_zero hk
        have hby' : k * i.bytes ≤ 140737488355328 := by rw [Nat.zero_add] at hby; exact hby
        have hr := run_append_nil (P := P) w t o'.type e i z ht i1 i4 a k c news hl (hcell w0 w hB) hk1 (by omega) (by omega)
        have hg := grown 0 (by omega)
        simp only [Nat.zero_add, List.nil_append, Array.empty_append] at hg ⊢
        exact ⟨_, _, _, run0 _ _ hr, ⟨_, _, rfl, rfl, by intro h; cases h⟩, hg⟩
    · subst b1
      have hbl : Heap w0 w (cb g e cur :: Bs) := ⟨L, a1, L1, L2, a3, b6, a5⟩
      have hgg := heap_get hbl
      by_cases hk : k = 0
      · subst hk
        have hn0 : news = [] := List.eq_nil_of_length_eq_zero (by rw [hl]; simp)
        subst hn0
        have hr : (Builtin.append_ #[t, t] o'.type #[.slice (some ⟨g, 0, none⟩) m cap, .slice p 0 c]).run P w = .ok (.slice (some ⟨g, 0, none⟩) m cap) w := by
          cases p <;> simp [Builtin.append_, run_underlying ht, sizeOf, typeInfo, i1, Builtin.lenOf, Builtin.firstCells, loadCells, loadCellsFrom, b2, storeCells]
        refine ⟨_, _, _, run0 _ _ hr, ⟨_, _, rfl, rfl, by simp⟩, ?_⟩
        simp only [Nat.add_zero, List.append_nil]
        exact (Ent.slMk b2 b3 b4 b5 Bs).heap hbl
      · have hne : news ≠ [] := fun h => by
          have h9 := Nat.mul_pos (Nat.pos_of_ne_zero hk) hs0
          rw [← hl, h] at h9; simp at h9
        obtain ⟨a, rfl, hcell⟩ := hsrc hne
        by_cases hroom : m + k ≤ cap
        · have hr := run_append_room (P := P) w t o'.type e i ht i1 g m cap cur.toArray hgg a k c news hl (hcell w0 w hB) h1 hroom (by simp only [List.size_toArray]; rw [hl, ← Nat.add_mul]; exact Nat.le_trans (Nat.mul_le_mul_right _ hroom) b4)
          refine ⟨_, _, _, run0 _ _ hr, ⟨_, _, rfl, rfl, by simp⟩, ?_⟩
          have hrow := row_heap (cur.take (m * i.size) ++ news ++ cur.drop (m * i.size + news.length)) hbl
          refine (Ent.slMk hroom b3 ?_ ?_ Bs).heap hrow
          · have h5 : m * i.size + news.length ≤ cur.length := by rw [hl, ← Nat.add_mul]; exact Nat.le_trans (Nat.mul_le_mul_right _ hroom) b4
            simp only [List.length_append, List.length_take, List.length_drop]
            omega
          · rw [b5, ← hlen]; exact List.take_left
        · have holds : ∀ j u, xs[j]? = some u → w.cell? ((⟨g, 0, none⟩ : Addr).add j) = some u := fun j u hj => by
            rw [add_mk, cell_of_blk hgg]
            rw [← b5, List.getElem?_take] at hj
            split at hj
            · simpa using hj
            · cases hj
          have hr := run_append_grow (P := P) w t o'.type e i z ht i1 i4 ⟨g, 0, none⟩ m cap xs hxl holds a k c news hl (hcell w0 w hB) (Nat.lt_of_not_le hroom) (Int.ofNat_le.2 hsm) (growslice_fits (by omega) hby)
          exact ⟨_, _, _, run0 _ _ hr, ⟨_, _, rfl, rfl, by simp⟩, grown cap (by omega)⟩

theorem os_append0 {k c : Nat} {p : Option Addr} {news : List Value} (ht : P.underlying t = some (.slice e)) (hi : TI P e s bytes zs) (hzl : zs.length = s) (hs0 : 0 < s)
    (hx : ev n f x = .slice none 0 0) (hy : ev n f y = .slice p k c) (hl : news.length = k * s) (hsrc : Src As p news) (h1 : ∀ u ∈ news, u.oneCell' = true) (h63 : k ≤ maxLen) (hby : k * bytes ≤ 140737488355328) :
    OS P (BI .append #[x, y] #[t, t]) ty n f w0 As (fun v' Cs => ∃ q d, v' = .slice q k d ∧ Cs = slOwn e s v' k news :: As ∧ (q = none → k = 0)) := fun w hw o ho hty K Q hK => by
  have h := os_append (P := P) (ty := ty) (w0 := w0) (List.Perm.refl (slOwn e s (.slice none 0 0) 0 [] :: As)) ht hi hzl hs0 hx hy hl hsrc h1 (by omega) (by rw [Nat.zero_add]; exact hby) w ((Ent.slNil e s As).heap hw) o ho hty K Q
  rw [Nat.zero_add, List.nil_append] at h
  exact h hK
/-- What such a slice can be. -/
theorem slOwn_info {e : TypeId} {size : Nat} {q : Option Addr} {m d : Nat} {xs : List Value} {G : World → Prop} (hp : As.Perm (slOwn e size (.slice q m d) m xs :: Bs))
    (h : m ≤ d → d ≤ maxLen → (m ≠ 0 → ∃ g, q = some ⟨g, 0, none⟩) → J w0 As G) : J w0 As G := J.mk fun w hw => by
  obtain ⟨L, a1, L1, L2, a3, a4, a5⟩ := hw.perm hp
  rcases a4.2 with ⟨b1, b2, _⟩ | ⟨g, cap, cur, b1, b2, b3, _⟩
  · cases b1; exact (h (Nat.le_refl _) (Nat.zero_le _) (fun h => absurd rfl h)).run w hw
  · cases b1; exact (h b2 b3 (fun _ => ⟨g, rfl⟩)).run w hw

/-! ## copy -/
theorem os_copy {sT : TypeId} {dLen dCap sLen sCap : Nat} {p : Option Addr} {news : List Value} (hp : As.Perm (cb b T cs :: Bs)) (ht : P.underlying t = some (.slice e)) (hs : SZ P e 1)
    (hx : ev n f x = .slice (some ⟨b, o, none⟩) dLen dCap) (hy : ev n f y = .slice p sLen sCap) (hl : news.length = Nat.min sLen dLen) (hsrc : Src Bs p news) (h1 : ∀ u ∈ news, u.oneCell' = true) (hfit : news = [] ∨ o + news.length ≤ cs.length) :
    OS P (BI .copy #[x, y] #[t, sT]) ty n f w0 As (Is (.int .i64 news.length) (cb b T (spl cs o news) :: Bs)) :=
  OS.of_run fun w hw o' ho _ => by
    have hw' := hw.perm hp
    have hB : Heap w0 w Bs := by
      obtain ⟨L, a1, L1, L2, a3, a4, a5⟩ := hw'
      exact ⟨L, a1, by have := sat_mk (As := []) (L1 := L1) a3 trivial a5; simpa using this⟩
    have run0 : ∀ r w1, (Builtin.copy_ #[t, sT] o'.type #[.slice (some ⟨b, o, none⟩) dLen dCap, .slice p sLen sCap]).run P w = .ok r w1 → (execOp (ev n f) o').run P w = .ok (.value r) w1 := fun r w1 hr => by
      simp [execOp, ho, BI, resolve, invoke, builtin, hx, hy, hr]
    by_cases hn : news = []
    · subst hn
      have h0 : Nat.min sLen dLen = 0 := by simpa using hl.symm
      have hr : (Builtin.copy_ #[t, sT] o'.type #[.slice (some ⟨b, o, none⟩) dLen dCap, .slice p sLen sCap]).run P w = .ok (goInt 0) w := by
        have hc : ∀ q, (Builtin.firstCells 1 0 q).run P w = (match q with | .slice _ _ _ => .ok #[] w | .string _ => .ok #[] w | _ => .halt (.stuck "slice or string expected") w) := by
          intro q; cases q <;> first | rfl | (rename_i a _ _; cases a <;> rfl) | (simp [Builtin.firstCells])
        simp only [Builtin.copy_, List.getElem?_toArray, List.getElem?_cons_zero, List.getElem?_cons_succ, Sem.run_bind, run_underlying ht, Builtin.lenOf, Sem.run_pure, Result.andThen_ok, run_sizeOf hs, h0, hc, storeCells]
        rfl
      refine ⟨_, _, _, run0 _ _ hr, ⟨rfl, rfl⟩, ?_⟩
      simpa [spl] using hw'
    · obtain ⟨a, rfl, hcell⟩ := hsrc hn
      have hr := run_copy_row P w t sT o'.type e b o dLen dCap a sLen sCap cs.toArray T news ht hs (heap_get hw') hl (hcell w0 w hB) (by simpa using hfit.resolve_left hn) h1
      exact ⟨_, _, _, run0 _ _ hr, ⟨rfl, rfl⟩, by simpa [spl] using row_heap (spl cs o news) hw'⟩

theorem os_cb {op : Op} {v : Value} {cs cs' : List Value} (h : cs = cs') (hs : OS P op ty n f w0 As (Is v (cb b T cs :: Bs))) : OS P op ty n f w0 As (Is v (cb b T cs' :: Bs)) := h ▸ hs
/-! ## bytes and strings -/
def bv (l : List UInt8) : List Value := l.map fun c => .int .u8 c.toNat
def strV (l : List UInt8) : Value := .string ⟨l.toArray⟩
@[simp] theorem length_bv (l : List UInt8) : (bv l).length = l.length := by simp [bv]
theorem bv_one (l : List UInt8) : ∀ u ∈ bv l, u.oneCell' = true := fun u hu => by
  obtain ⟨c, _, rfl⟩ := List.mem_map.1 hu
  rfl
theorem cons_one {v : Value} {l : List Value} (h : v.oneCell' = true) (hl : ∀ u ∈ l, u.oneCell' = true) : ∀ u ∈ v :: l, u.oneCell' = true := fun u hu => by
  rcases List.mem_cons.1 hu with rfl | hu
  · exact h
  · exact hl u hu
theorem bv_append (l m : List UInt8) : bv (l ++ m) = bv l ++ bv m := by simp [bv]
theorem bv_take (l : List UInt8) (k : Nat) : bv (l.take k) = (bv l).take k := by simp [bv]
theorem bv_drop (l : List UInt8) (k : Nat) : bv (l.drop k) = (bv l).drop k := by simp [bv]
theorem bv_inj {l m : List UInt8} (h : bv l = bv m) : l = m := by
  induction l generalizing m with
  | nil => cases m with
    | nil => rfl
    | cons _ _ => simp [bv] at h
  | cons a l ih => cases m with
    | nil => simp [bv] at h
    | cons c m =>
      simp only [bv, List.map_cons, List.cons.injEq, Value.int.injEq, true_and] at h
      have h1 : a = c := UInt8.toNat_inj.1 (by exact_mod_cast h.1)
      rw [h1, ih h.2]
theorem os_b2s {d : TypeId} {p : Option Addr} {c : Nat} {l : List UInt8} (hs : P.underlying t = some (.slice e)) (he : P.underlying e = some (.int .u8)) (hd : P.underlying d = some .string) (hx : ev n f x = .slice p l.length c) (hsrc : Src As p (bv l)) :
    OS P (.convert t d x) ty n f w0 As (Is (strV l) As) :=
  OS.of_run fun w hw o' ho _ => by
    have hr : (convert t d (.slice p l.length c)).run P w = .ok (strV l) w := by
      by_cases hl : l = []
      · subst hl
        rw [run_convert_bytes_string w t d e p _ c hs he hd]
        cases p with
        | none => rfl
        | some a =>
          have := run_bytesToString (P := P) w a 0 c [] (by simp [loadCells, loadCellsFrom])
          exact this
      · obtain ⟨a, rfl, hcell⟩ := hsrc (fun h => hl (by cases l with | nil => rfl | cons _ _ => simp [bv] at h))
        refine run_convert_bytes_back w t d e a c l hs he hd (fun j hj => hcell w0 w hw j _ ?_)
        simp [bv, hj]
    exact ⟨_, _, _, by simp [execOp, ho, hx, hr], ⟨rfl, rfl⟩, hw⟩

theorem os_str {d : TypeId} {p : Option Addr} {m c : Nat} (l : List UInt8) (hs : P.underlying t = some (.slice e)) (he : P.underlying e = some (.int .u8)) (hd : P.underlying d = some .string) (hx : ev n f x = .slice p m c) (hl : l.length = m) (hsrc : Src As p (bv l)) :
    OS P (.convert t d x) ty n f w0 As (Is (strV l) As) := by subst hl; exact os_b2s hs he hd hx hsrc
theorem ps_strV_eql {y : Operand} {yt : TypeId} (a b : List UInt8) (hx : ev n f x = strV a) (hy : ev n f y = strV b) : PS P (.binOp .eql t x y yt) ty n f (.bool (decide (a = b))) := ps_str_eql hx hy
theorem ps_strV_neq {y : Operand} {yt : TypeId} (a b : List UInt8) (hx : ev n f x = strV a) (hy : ev n f y = strV b) : PS P (.binOp .neq t x y yt) ty n f (.bool (decide (a ≠ b))) := by
  have h : PS P (.binOp .neq t x y yt) ty n f (.bool (!decide (a = b))) := ps_str_neq hx hy
  rwa [← decide_not] at h
theorem ps_strV_add {y : Operand} {yt : TypeId} (a b : List UInt8) (hx : ev n f x = strV a) (hy : ev n f y = strV b) (hl : a.length + b.length ≤ maxLen) : PS P (.binOp .add t x y yt) ty n f (strV (a ++ b)) := by
  have h : PS P (.binOp .add t x y yt) ty n f (.string (⟨a.toArray⟩ ++ ⟨b.toArray⟩)) := ps_str_add hx hy hl
  have e : (⟨a.toArray⟩ ++ ⟨b.toArray⟩ : ByteArray) = ⟨(a ++ b).toArray⟩ := by
    apply ByteArray.ext; simp
  rw [e] at h; exact h
theorem zerosV (k : Nat) : (List.replicate k [Value.int .u8 0]).flatten = bv (List.replicate k 0) := by
  induction k with
  | zero => rfl
  | succ k ih => rw [List.replicate_succ, List.flatten_cons, ih, List.replicate_succ]; rfl
/-- 'make([]byte, k)'. -/
theorem os_zeros {kl kc : IntKind} (k : Nat) (ht : P.underlying t = some (.slice e)) (hi : TI P e 1 1 [.int .u8 0]) (hx : ev n f x = .int kl (k : Nat)) (hy : ev n f y = .int kc (k : Nat)) (hb : k ≤ 281474976710656) :
    OS P (.makeSlice t x y) ty n f w0 As (NewSl e (bv (List.replicate k 0)) k k As) := by
  have h := os_make (P := P) (ty := ty) (w0 := w0) (As := As) ht hi rfl hx hy (by omega) (by omega) (by omega) (by omega)
  rw [Int.toNat_natCast, zerosV] at h
  exact h
/-- In the part A the bytes bs can be read at v. -/
def ByR (A : Asn) (v : Value) (bs : List UInt8) : Prop := ∃ p cap, v = .slice p bs.length cap ∧ bs.length ≤ cap ∧ ∀ As Bs, List.Perm As (A :: Bs) → Src As p (bv bs)
theorem ByR.take {A : Asn} {p : Option Addr} {l cap : Nat} {bs : List UInt8} (h : ByR A (.slice p l cap) bs) (k : Nat) (hk : k ≤ bs.length) : ByR A (.slice p k cap) (bs.take k) := by
  obtain ⟨p', cap', hv, hc, hs⟩ := h
  cases hv
  refine ⟨p, cap, by simp [Nat.min_eq_left hk], by simp; omega, fun As Bs hp hne => ?_⟩
  obtain ⟨a, h1, h2⟩ := hs As Bs hp (fun h0 => hne (by
    have : bs = [] := by cases bs with | nil => rfl | cons _ _ => simp [bv] at h0
    subst this; simp [bv]))
  refine ⟨a, h1, fun w0 w hw j u hj => h2 w0 w hw j u ?_⟩
  rw [bv_take, List.getElem?_take] at hj
  split at hj
  · exact hj
  · cases hj
theorem ByR.len {A : Asn} {p : Option Addr} {l cap : Nat} {bs : List UInt8} (h : ByR A (.slice p l cap) bs) : l = bs.length ∧ l ≤ cap := by
  obtain ⟨p', cap', hv, hc, _⟩ := h
  cases hv
  exact ⟨rfl, hc⟩
theorem ByR.src {A : Asn} {p : Option Addr} {l cap : Nat} {bs : List UInt8} (h : ByR A (.slice p l cap) bs) {As Bs : List Asn} (hp : As.Perm (A :: Bs)) : Src As p (bv bs) := by
  obtain ⟨p', cap', hv, hc, hs⟩ := h
  cases hv
  exact hs As Bs hp
theorem ByR.cb {b o len cap : Nat} {t : TypeId} {cs : List Value} {bs : List UInt8} (h : (cs.drop o).take bs.length = bv bs) (hl : bs.length = len) (hc : len ≤ cap) : ByR (SL.cb b t cs) (.slice (some ⟨b, o, none⟩) len cap) bs :=
  ⟨_, _, by rw [hl], by omega, fun As Bs hp => Src.cb hp (by rw [length_bv]; exact h)⟩
theorem ByR.own {e m d : Nat} {q : Option Addr} {bs : List UInt8} (hm : bs.length = m) (hd : m ≤ d) (hq : m ≠ 0 → ∃ g, q = some ⟨g, 0, none⟩) : ByR (slOwn e 1 (.slice q m d) m (bv bs)) (.slice q m d) bs := by
  subst hm
  refine ⟨q, d, rfl, hd, fun As Bs hp hne => ?_⟩
  obtain ⟨g, rfl⟩ := hq (fun h => hne (by rw [List.eq_nil_of_length_eq_zero h]; rfl))
  refine ⟨_, rfl, fun w0 w hw j u hj => ?_⟩
  obtain ⟨L, a1, L1, L2, a3, a4, a5⟩ := hw.perm hp
  rcases a4.2 with ⟨b1, _⟩ | ⟨g', cap, cur, b1, b2, b3, b4, b5, b6⟩
  · cases b1
  · cases b1
    have hgg : w.heap[g]? = some (.cells cur.toArray e (0, 0)) := a1.mem (g, _) (a3.mem_iff.2 (List.mem_append_left _ (by rw [b6]; exact List.mem_singleton.2 rfl)))
    rw [add_mk, cell_of_blk hgg]
    rw [← b5, List.getElem?_take] at hj
    split at hj
    · simpa using hj
    · cases hj
theorem cell_spot' {w : World} {a : Addr} {v : Value} (h : w.cell? a = some v) : a.spot = none := by
  unfold World.cell? at h
  split at h
  · split at h
    · cases h
    · rename_i h1; simpa using h1
  · cases h
/-- Where the bytes stand. -/
theorem ByR.form {A : Asn} {p : Option Addr} {l cap : Nat} {bs : List UInt8} {G : World → Prop} (h : ByR A (.slice p l cap) bs) (hp : As.Perm (A :: Bs)) (hne : bs ≠ []) (k : ∀ b o, p = some ⟨b, o, none⟩ → J w0 As G) : J w0 As G := J.mk fun w hw => by
  obtain ⟨a, h1, h2⟩ := h.src hp (fun h0 => hne (by cases bs with | nil => rfl | cons _ _ => simp [bv] at h0))
  subst h1
  cases bs with
  | nil => exact absurd rfl hne
  | cons c bs =>
    have h3 := h2 w0 w hw 0 (.int .u8 c.toNat) rfl
    have h4 := cell_spot' h3
    obtain ⟨b, o, sp⟩ := a
    have h5 : sp = none := h4
    subst h5
    exact (k b o rfl).run w hw
theorem ByR.at {A : Asn} {b o l cap : Nat} {bs : List UInt8} (h : ByR A (.slice (some ⟨b, o, none⟩) l cap) bs) {i : Nat} (hi : i < bs.length) (hp : As.Perm (A :: Bs)) : Src As (some ⟨b, o + i * 1, none⟩) [.int .u8 (bs[i].toNat : Int)] := fun _ => by
  obtain ⟨a, h1, h2⟩ := h.src hp (fun h0 => by have := congrArg List.length h0; simp at this; subst this; simp at hi)
  cases h1
  refine ⟨_, rfl, fun w0 w hw j u hj => ?_⟩
  have h3 := h2 w0 w hw i (.int .u8 bs[i].toNat) (by simp [bv, hi])
  cases j with
  | zero =>
    have : u = .int .u8 bs[i].toNat := by simpa using hj.symm
    subst this
    rw [add_mk] at h3 ⊢
    rw [Nat.mul_one, Nat.add_zero]
    exact h3
  | succ j => simp at hj
theorem ByR.nil' (A : Asn) : ByR A (.slice none 0 0) [] := ⟨none, 0, rfl, Nat.le_refl _, fun As Bs _ => Src.nil _ _⟩
theorem pk2 {As Bs Cs : List Asn} {A B : Asn} (h1 : As.Perm (A :: Bs)) (h2 : Bs.Perm (B :: Cs)) : As.Perm ([A, B] ++ Cs) := h1.trans (h2.cons A)
def pad (k : Nat) (bs : List UInt8) : List UInt8 := bs ++ List.replicate (k - bs.length) 0
theorem length_pad {k : Nat} {bs : List UInt8} (h : bs.length ≤ k) : (pad k bs).length = k := by simp [pad]; omega
/-! ## calls -/
def CALL (g : FuncId) (args : Array Operand) (ts : Array TypeId) : Op := .call { callee := .value (.func g), args := args, argTypes := ts }
theorem os_call {g : FuncId} {fn : Func} {args : Array Operand} {ts : Array TypeId} {vals : List Value} {pre F : List Asn} {post : Value → List Asn → Prop} (hs : FSpec P g vals pre post) (hf : P.funcs[g]? = some fn) (hn : (fn.name == "runtime.NumGoroutine") = false) (hb : fn.body.isNone = false)
    (ha : args.toList.map (ev n f) = vals) (hp : As.Perm (pre ++ F)) : OS P (CALL g args ts) ty n f w0 As (fun v Bs => ∃ Cs, post v Cs ∧ Bs = Cs ++ F) := by
  refine OS.of_enter hs (fun w o ho _ => ?_) hp
  have hav : args.map (ev n f) = vals.toArray := by rw [← ha, ← Array.toList_map]
  have hn' : fn.name ≠ "runtime.NumGoroutine" := by simpa using hn
  have hb' : fn.body ≠ none := by intro h; rw [h] at hb; cases hb
  simp [execOp, ho, CALL, resolve, ev, Deferred.ofValue, invoke, callFunc, hf, hn', hb', hav]
/-- A call whose contract tells one value and the parts left. -/
theorem os_callI {g : FuncId} {fn : Func} {args : Array Operand} {ts : Array TypeId} {vals : List Value} {pre F Cs : List Asn} {r : Value} (hs : FSpec P g vals pre (fun v As => v = r ∧ As = Cs)) (hf : P.funcs[g]? = some fn) (hn : (fn.name == "runtime.NumGoroutine") = false) (hb : fn.body.isNone = false)
    (ha : args.toList.map (ev n f) = vals) (hp : As.Perm (pre ++ F)) : OS P (CALL g args ts) ty n f w0 As (Is r (Cs ++ F)) := fun w hw o ho ht K Q hK =>
  os_call hs hf hn hb ha hp w hw o ho ht K Q fun v As' w' hr hw' => by
    obtain ⟨Ds, ⟨h1, h2⟩, h3⟩ := hr
    subst h2
    exact hK v As' w' ⟨h1, h3⟩ hw'
theorem os_call0 {g : FuncId} {fn : Func} {args : Array Operand} {ts : Array TypeId} {vals : List Value} {r : Value} (hs : FSpec P g vals [] (fun v As => v = r ∧ As = [])) (hf : P.funcs[g]? = some fn) (hn : (fn.name == "runtime.NumGoroutine") = false) (hb : fn.body.isNone = false)
    (ha : args.toList.map (ev n f) = vals) : OS P (CALL g args ts) ty n f w0 As (Is r As) := os_callI hs hf hn hb ha (List.Perm.refl _)
theorem os_call1 {g : FuncId} {fn : Func} {args : Array Operand} {ts : Array TypeId} {vals : List Value} {A A' : Asn} {F : List Asn} {r : Value} (hs : FSpec P g vals [A] (fun v As => v = r ∧ As = [A'])) (hf : P.funcs[g]? = some fn) (hn : (fn.name == "runtime.NumGoroutine") = false) (hb : fn.body.isNone = false)
    (ha : args.toList.map (ev n f) = vals) (hp : As.Perm (A :: F)) : OS P (CALL g args ts) ty n f w0 As (Is r (A' :: F)) := os_callI hs hf hn hb ha hp
theorem os_call2 {g : FuncId} {fn : Func} {args : Array Operand} {ts : Array TypeId} {vals : List Value} {A A' B B' : Asn} {F G : List Asn} {r : Value} (hs : FSpec P g vals [A, B] (fun v As => v = r ∧ As = [A', B'])) (hf : P.funcs[g]? = some fn) (hn : (fn.name == "runtime.NumGoroutine") = false) (hb : fn.body.isNone = false)
    (ha : args.toList.map (ev n f) = vals) (hp : As.Perm (A :: F)) (hq : F.Perm (B :: G)) : OS P (CALL g args ts) ty n f w0 As (Is r (A' :: B' :: G)) := os_callI hs hf hn hb ha (hp.trans (hq.cons A))
/-- A call of a function value (no captured variables). -/
theorem os_callv {g : FuncId} {fn : Func} {args : Array Operand} {ts : Array TypeId} {vals : List Value} {pre F : List Asn} {post : Value → List Asn → Prop} (hs : FSpec P g vals pre post) (hf : P.funcs[g]? = some fn) (hn : (fn.name == "runtime.NumGoroutine") = false) (hb : fn.body.isNone = false)
    (hx : ev n f x = .func (.func g) #[] #[]) (ha : args.toList.map (ev n f) = vals) (hp : As.Perm (pre ++ F)) : OS P (.call { callee := .value x, args := args, argTypes := ts }) ty n f w0 As (fun v Bs => ∃ Cs, post v Cs ∧ Bs = Cs ++ F) := by
  refine OS.of_enter hs (fun w o ho _ => ?_) hp
  have hav : args.map (ev n f) = vals.toArray := by rw [← ha, ← Array.toList_map]
  have hn' : fn.name ≠ "runtime.NumGoroutine" := by simpa using hn
  have hb' : fn.body ≠ none := by intro h; rw [h] at hb; cases hb
  simp [execOp, ho, resolve, hx, Deferred.ofValue, invoke, callFunc, hf, hn', hb', hav]
/-- A function's end whose result is an array or a struct. -/
theorem Fin.retCell {fn : Func} {post : Value → List Asn → Prop} {F Cs : List Asn} {r : Tmp} (hr : fn.results = #[.cell r t]) (hp : As.Perm (cb b T cs :: Cs)) (ht : AG P t true) (hs : SZ P t cs.length) (hv : ev n f (.tmp r) = .pointer (some ⟨b, 0, none⟩)) (Bs : List Asn)
    (hq : post (.agg cs.toArray) Bs) (he : Ent As (Bs ++ F)) (hd : n.ds = [] := by rfl) : PW (Fin P fn w0 F post) .ret n f w0 As := by
  refine Fin.retG (v := .agg cs.toArray) Bs (fun w hw => ?_) hq he hd
  have hg := heap_get (hw.perm hp)
  have hl := run_loadCells_list (P := P) w ⟨b, 0, none⟩ cs (fun j u hj => by
    rw [add_mk, cell_of_blk hg]
    simpa using hj)
  have hrd : (fr n f).tmps.getD r undef = .pointer (some ⟨b, 0, none⟩) := by rw [← hv, ← fr_eval]; rfl
  rw [Array.getD_eq_getD_getElem?] at hrd
  simp [results, hr, hrd, asAddr, loadVar, run_isAgg ht, run_sizeOf hs, hl]
/-- A function's end whose results are an array or a struct, and one of a single cell. -/
theorem Fin.retCT {fn : Func} {post : Value → List Asn → Prop} {F Cs : List Asn} {r u : Tmp} (hr : fn.results = #[.cell r t, .tmp u]) (hp : As.Perm (cb b T cs :: Cs)) (ht : AG P t true) (hs : SZ P t cs.length) (hv : ev n f (.tmp r) = .pointer (some ⟨b, 0, none⟩)) (v2 : Value) (hv2 : ev n f (.tmp u) = v2) (Bs : List Asn)
    (hq : post (.tuple #[.agg cs.toArray, v2]) Bs) (he : Ent As (Bs ++ F)) (hd : n.ds = [] := by rfl) : PW (Fin P fn w0 F post) .ret n f w0 As := by
  refine Fin.retG (v := .tuple #[.agg cs.toArray, v2]) Bs (fun w hw => ?_) hq he hd
  have hg := heap_get (hw.perm hp)
  have hl := run_loadCells_list (P := P) w ⟨b, 0, none⟩ cs (fun j u hj => by
    rw [add_mk, cell_of_blk hg]
    simpa using hj)
  have hrd : (fr n f).tmps.getD r undef = .pointer (some ⟨b, 0, none⟩) := by rw [← hv, ← fr_eval]; rfl
  have hru : (fr n f).tmps.getD u undef = v2 := by rw [← hv2, ← fr_eval]; rfl
  rw [Array.getD_eq_getD_getElem?] at hrd hru
  simp [results, hr, hrd, hru, asAddr, loadVar, run_isAgg ht, run_sizeOf hs, hl]
theorem Ent.emp (As : List Asn) : Ent As (bag [] :: As) := fun L h => ⟨[], L, List.Perm.refl _, rfl, h⟩
/-- A call of a function that the model stands in for. -/
theorem ps_extern {g : FuncId} {fn : Func} {e : Array Value → Sem Value} {args : Array Operand} {ts : Array TypeId} {vals : List Value} (hr : ∀ w, (e vals.toArray).run P w = .ok v w) (ha : args.toList.map (ev n f) = vals) (hf : P.funcs[g]? = some fn)
    (hname : (fn.name == "runtime.NumGoroutine") = false) (hb : fn.body.isNone = true) (hn : Extern.findNext fn = none) (he : Extern.find fn = some e) : PS P (CALL g args ts) ty n f v := fun o ho _ w => by
  have hav : args.map (ev n f) = vals.toArray := by rw [← ha, ← Array.toList_map]
  have hrun := run_callFunc_extern (P := P) hf hname hb hn he vals.toArray w
  rw [hr w] at hrun
  simp [execOp, ho, CALL, resolve, ev, Deferred.ofValue, invoke, hav, hrun, Result.andThen]
end
end Go.SL
