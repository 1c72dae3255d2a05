/- A heap as a list of parts, and the rules by which an operation, a region, a statement and a call turn it: no program in sight. -/
import Derived.WalkKit
import Derived.TacticsIn
import Derived.OrdersIn
import Derived.RangeFuncLeaves
namespace Go.SL
set_option linter.unusedVariables false
set_option linter.unusedSimpArgs false
open Go

abbrev HL := List (Nat × Obj)
abbrev Asn := HL → Prop

structure Heap0 (w0 w : World) (L : HL) : Prop where
  os : w.os = w0.os
  tape : w.tape = w0.tape
  output : w.output = w0.output
  size : w0.heap.size ≤ w.heap.size
  nodup : (L.map Prod.fst).Nodup
  mem : ∀ p ∈ L, w.heap[p.1]? = some p.2

theorem Heap0.perm {w0 w : World} {L L' : HL} (h : Heap0 w0 w L) (hp : L.Perm L') : Heap0 w0 w L' :=
  ⟨h.os, h.tape, h.output, h.size, (hp.map _).nodup_iff.1 h.nodup, fun p hm => h.mem p (hp.mem_iff.2 hm)⟩

theorem Heap0.sub {w0 w : World} {L L' : HL} (h : Heap0 w0 w (L ++ L')) : Heap0 w0 w L :=
  ⟨h.os, h.tape, h.output, h.size, by have := h.nodup; rw [List.map_append] at this; exact (List.nodup_append.1 this).1, fun p hm => h.mem p (List.mem_append_left _ hm)⟩

def sat : List Asn → HL → Prop
  | [], _ => True
  | A :: As, L => ∃ L1 L2, L.Perm (L1 ++ L2) ∧ A L1 ∧ sat As L2

theorem sat_perm {As : List Asn} {L L' : HL} (h : sat As L) (hp : L.Perm L') : sat As L' := by
  cases As with
  | nil => trivial
  | cons A As =>
    obtain ⟨L1, L2, h1, h2, h3⟩ := h
    exact ⟨L1, L2, hp.symm.trans h1, h2, h3⟩

theorem sat_swap {A B : Asn} {As : List Asn} {L : HL} (h : sat (A :: B :: As) L) : sat (B :: A :: As) L := by
  obtain ⟨L1, L2, h1, h2, L3, L4, h3, h4, h5⟩ := h
  refine ⟨L3, L1 ++ L4, ?_, h4, L1, L4, List.Perm.refl _, h2, h5⟩
  refine h1.trans ((h3.append_left L1).trans ?_)
  rw [← List.append_assoc, ← List.append_assoc]
  exact List.perm_append_comm.append_right L4

theorem sat_cons {A : Asn} {As Bs : List Asn} (h : ∀ L, sat As L → sat Bs L) {L : HL} (hs : sat (A :: As) L) : sat (A :: Bs) L := by
  obtain ⟨L1, L2, h1, h2, h3⟩ := hs
  exact ⟨L1, L2, h1, h2, h _ h3⟩

theorem sat_permAs {As Bs : List Asn} (hp : As.Perm Bs) : ∀ {L : HL}, sat As L → sat Bs L := by
  induction hp with
  | nil => exact fun h => h
  | cons x _ ih => exact fun h => sat_cons (fun L => ih (L := L)) h
  | swap x y l => exact fun h => sat_swap h
  | trans _ _ ih1 ih2 => exact fun h => ih2 (ih1 h)

theorem sat_app {As Bs : List Asn} : ∀ {L : HL}, sat (As ++ Bs) L → ∃ L1 L2, L.Perm (L1 ++ L2) ∧ sat As L1 ∧ sat Bs L2 := by
  induction As with
  | nil => exact fun {L} h => ⟨[], L, List.Perm.refl _, trivial, h⟩
  | cons A As ih =>
    intro L h
    obtain ⟨L1, L2, h1, h2, h3⟩ := h
    obtain ⟨L3, L4, h4, h5, h6⟩ := ih h3
    refine ⟨L1 ++ L3, L4, ?_, ⟨L1, L3, List.Perm.refl _, h2, h5⟩, h6⟩
    rw [List.append_assoc]
    exact h1.trans (h4.append_left L1)

theorem sat_mk {As Bs : List Asn} {L L1 L2 : HL} (hp : L.Perm (L1 ++ L2)) (h1 : sat As L1) (h2 : sat Bs L2) : sat (As ++ Bs) L := by
  induction As generalizing L L1 with
  | nil =>
    simp only [List.nil_append]
    cases Bs with
    | nil => trivial
    | cons B Bs =>
      obtain ⟨M1, M2, m1, m2, m3⟩ := h2
      refine ⟨M1, L1 ++ M2, ?_, m2, ?_⟩
      · refine hp.trans ((m1.append_left L1).trans ?_)
        rw [← List.append_assoc, ← List.append_assoc]
        exact List.perm_append_comm.append_right M2
      · clear m1 hp h1
        induction Bs generalizing M2 with
        | nil => trivial
        | cons C Cs ih =>
          obtain ⟨N1, N2, n1, n2, n3⟩ := m3
          refine ⟨N1, L1 ++ N2, ?_, n2, ih _ n3⟩
          refine (n1.append_left L1).trans ?_
          rw [← List.append_assoc, ← List.append_assoc]
          exact List.perm_append_comm.append_right N2
  | cons A As ih =>
    obtain ⟨M1, M2, m1, m2, m3⟩ := h1
    refine ⟨M1, M2 ++ L2, ?_, m2, ih (List.Perm.refl _) m3⟩
    rw [← List.append_assoc]
    exact hp.trans (m1.append_right L2)

def Heap (w0 w : World) (As : List Asn) : Prop := ∃ L, Heap0 w0 w L ∧ sat As L

theorem Heap.perm {w0 w : World} {As Bs : List Asn} (h : Heap w0 w As) (hp : As.Perm Bs) : Heap w0 w Bs :=
  let ⟨L, h1, h2⟩ := h; ⟨L, h1, sat_permAs hp h2⟩

/-- What holds of a heap of these parts, in every world that has them. -/
def J (w0 : World) (As : List Asn) (G : World → Prop) : Prop := ∀ w, Heap w0 w As → G w

/-- One heap's parts give another's. -/
def Ent (As Bs : List Asn) : Prop := ∀ L, sat As L → sat Bs L

theorem Ent.refl (As : List Asn) : Ent As As := fun _ h => h
theorem Ent.trans {As Bs Cs : List Asn} (h : Ent As Bs) (k : Ent Bs Cs) : Ent As Cs := fun L s => k L (h L s)
theorem Ent.perm {As Bs : List Asn} (h : As.Perm Bs) : Ent As Bs := fun _ s => sat_permAs h s
theorem Ent.cons {A : Asn} {As Bs Cs : List Asn} (hp : As.Perm (A :: Bs)) (h : Ent Bs Cs) : Ent As (A :: Cs) :=
  fun _ s => sat_cons h (sat_permAs hp s)
theorem Ent.skip {A : Asn} {As Bs : List Asn} (h : Ent As Bs) : Ent (A :: As) Bs := fun L s => by
  obtain ⟨L1, L2, h1, _, h3⟩ := s
  have h4 := h _ h3
  have := sat_mk (As := []) (L1 := L1) h1 trivial h4
  simpa using this
theorem Ent.heap {As Bs : List Asn} (h : Ent As Bs) {w0 w : World} (hw : Heap w0 w As) : Heap w0 w Bs :=
  let ⟨L, h1, h2⟩ := hw; ⟨L, h1, h L h2⟩
theorem Ent.fold {A : Asn} {As Bs : List Asn} (hA : ∀ L, sat As L → A L) : Ent (As ++ Bs) (A :: Bs) := fun L s => by
  obtain ⟨L1, L2, h1, h2, h3⟩ := sat_app s
  exact ⟨L1, L2, h1, hA _ h2, h3⟩

theorem J.ent {w0 : World} {As Bs : List Asn} {G : World → Prop} (h : Ent As Bs) (k : J w0 Bs G) : J w0 As G :=
  fun w hw => k w (h.heap hw)
theorem J.pick {w0 : World} {A : Asn} {As Bs : List Asn} {G : World → Prop} (h : As.Perm (A :: Bs)) (k : J w0 (A :: Bs) G) : J w0 As G :=
  fun w hw => k w (hw.perm h)
/-- A part is laid open: what it is made of. -/
theorem J.open_ {w0 : World} {A : Asn} {C : List Asn → Prop} {As Bs : List Asn} {G : World → Prop} (hp : As.Perm (A :: Bs)) (hA : ∀ L, A L → ∃ Cs, C Cs ∧ sat Cs L)
    (k : ∀ Cs, C Cs → J w0 (Cs ++ Bs) G) : J w0 As G := fun w hw => by
  obtain ⟨L, h1, h2⟩ := hw
  obtain ⟨L1, L2, h3, h4, h5⟩ := sat_permAs hp h2
  obtain ⟨Cs, h6, h7⟩ := hA L1 h4
  exact k Cs h6 w ⟨L, h1, sat_mk h3 h7 h5⟩

theorem pk_head (A : Asn) (As : List Asn) : (A :: As).Perm (A :: As) := List.Perm.refl _
theorem pk_head' {A B : Asn} {As : List Asn} (h : A = B) : (A :: As).Perm (B :: As) := h ▸ List.Perm.refl _
theorem pk_tail {A B : Asn} {As Bs : List Asn} (h : As.Perm (A :: Bs)) : (B :: As).Perm (A :: B :: Bs) :=
  (h.cons B).trans (List.Perm.swap A B Bs)

/-! ## single blocks -/
def pt (b : Nat) (o : Obj) : Asn := fun L => L = [(b, o)]
/-- A block of cells of which none is frozen. -/
def cb (b : Nat) (t : TypeId) (cs : List Value) : Asn := pt b (.cells cs.toArray t (0, 0))

theorem heap_get {w0 w : World} {b : Nat} {o : Obj} {As : List Asn} (h : Heap w0 w (pt b o :: As)) : w.heap[b]? = some o := by
  obtain ⟨L, h1, L1, L2, h3, h4, h5⟩ := h
  have h4' : L1 = [(b, o)] := h4
  subst h4'
  exact h1.mem (b, o) (h3.mem_iff.2 (by simp))

theorem heap_lt {w0 w : World} {b : Nat} {o : Obj} {As : List Asn} (h : Heap w0 w (pt b o :: As)) : b < w.heap.size := by
  have := heap_get h
  rcases Nat.lt_or_ge b w.heap.size with h1 | h1
  · exact h1
  · rw [Array.getElem?_eq_none h1] at this; cases this

/-- A new block. -/
theorem heap_new {w0 w : World} {As : List Asn} (o : Obj) (h : Heap w0 w As) : Heap w0 (w.alloc o) (pt w.heap.size o :: As) := by
  obtain ⟨L, h1, h2⟩ := h
  have hlt : ∀ p ∈ L, p.1 < w.heap.size := fun p hm => by
    have := h1.mem p hm
    rcases Nat.lt_or_ge p.1 w.heap.size with h | h
    · exact h
    · rw [Array.getElem?_eq_none h] at this; cases this
  refine ⟨(w.heap.size, o) :: L, ⟨h1.os, h1.tape, h1.output, ?_, ?_, ?_⟩, [(w.heap.size, o)], L, List.Perm.refl _, rfl, h2⟩
  · have := h1.size
    show w0.heap.size ≤ (w.heap.push o).size
    simp; omega
  · simp only [List.map_cons, List.nodup_cons]
    refine ⟨fun hm => ?_, h1.nodup⟩
    obtain ⟨p, hp, he⟩ := List.mem_map.1 hm
    have := hlt p hp
    omega
  · intro p hm
    show (w.heap.push o)[p.1]? = _
    rcases List.mem_cons.1 hm with rfl | hm
    · simp
    · rw [Array.getElem?_push, if_neg (by have := hlt p hm; omega)]
      exact h1.mem p hm

/-- One block is turned, all else stays. -/
theorem heap_set {w0 w w' : World} {b : Nat} {o o' : Obj} {As : List Asn} (h : Heap w0 w (pt b o :: As)) (hos : w'.os = w.os) (htape : w'.tape = w.tape) (hout : w'.output = w.output)
    (hsize : w'.heap.size = w.heap.size) (hb : w'.heap[b]? = some o') (hother : ∀ k, k ≠ b → w'.heap[k]? = w.heap[k]?) : Heap w0 w' (pt b o' :: As) := by
  obtain ⟨L, h1, L1, L2, h3, h4, h5⟩ := h
  have h4' : L1 = [(b, o)] := h4
  subst h4'
  have h6 := h1.perm h3
  refine ⟨(b, o') :: L2, ⟨hos.trans h1.os, htape.trans h1.tape, hout.trans h1.output, by rw [hsize]; exact h1.size, h6.nodup, ?_⟩, [(b, o')], L2, List.Perm.refl _, rfl, h5⟩
  intro p hm
  rcases List.mem_cons.1 hm with rfl | hm
  · exact hb
  · have hne : p.1 ≠ b := by
      intro he
      have hn := h6.nodup
      simp only [List.cons_append, List.nil_append, List.map_cons, List.nodup_cons] at hn
      exact hn.1 (he ▸ List.mem_map_of_mem hm)
    rw [hother _ hne]
    exact h6.mem p (List.mem_append_right _ hm)

theorem heap_drew {w0 w : World} {As : List Asn} (h : Heap w0 w As) : Heap w0 { w with drawn := w.drawn + 1 } As := by
  obtain ⟨L, h1, h2⟩ := h
  exact ⟨L, ⟨h1.os, h1.tape, h1.output, h1.size, h1.nodup, h1.mem⟩, h2⟩

/-! ## frames -/
theorem blt_true {t n : Nat} (h : t < n) : Nat.blt t n = true := Nat.ble_eq_true_of_le h
theorem blt_false {t n : Nat} (h : ¬ t < n) : Nat.blt t n = false := by
  cases hq : Nat.blt t n
  · rfl
  · exact absurd (Nat.le_of_ble_eq_true hq) h
theorem beq_false' {a b : Nat} (h : a ≠ b) : Nat.beq a b = false := by
  cases hq : Nat.beq a b
  · rfl
  · exact absurd (Nat.eq_of_beq_eq_true hq) h
theorem ne_of_beq' {a b : Nat} (h : Nat.beq a b = false) : a ≠ b := fun e => by
  subst e; rw [Nat.beq_refl] at h; cases h

def pu (d : Option Tmp) (v : Value) (f : Nat → Value) : Nat → Value :=
  match d with
  | none => f
  | some d => fun t => cond (Nat.beq d t) v (f t)
/-- A frame's kind: how many slots, the calls that are put off, the loop of which it is a round. -/
structure FK where
  k : Nat
  ds : List Deferred := []
  r : Option Nat := none
abbrev FN := FK
def fw (n : FN) : Fence := { Fence.wide with round := n.r }
def fr (n : FN) (f : Nat → Value) : Act := { tmps := Array.ofFn (n := n.k) fun i => f i.val, defers := n.ds }
def ev (n : FN) (f : Nat → Value) : Operand → Value
  | .tmp t => cond (Nat.blt t n.k) (f t) undef
  | .const v => v
  | .global g => .pointer (some ⟨g, 0, none⟩)
  | .func g => .func (.func g) #[] #[]

theorem fr_eval (n : FN) (f : Nat → Value) : (fr n f).eval = ev n f := by
  funext x
  cases x with
  | tmp t =>
    simp only [Act.eval, fr, ev]
    by_cases h : t < n.k
    · have hb : Nat.blt t n.k = true := blt_true h
      rw [hb]; simp [Array.getD, h]
    · have hb : Nat.blt t n.k = false := blt_false h
      rw [hb]; simp [Array.getD, h]
  | _ => rfl

theorem fr_put (n : FN) (f : Nat → Value) (d : Option Tmp) (v : Value) : (fr n f).put d v = fr n (pu d v f) := by
  cases d with
  | none => rfl
  | some d =>
    simp only [Act.put, fr, pu, Act.mk.injEq, and_true]
    apply Array.ext
    · simp
    · intro i h1 h2
      simp only [Array.size_setIfInBounds, Array.size_ofFn] at h1
      by_cases hd : d = i
      · subst hd
        simp
      · have hb : Nat.beq d i = false := beq_false' hd
        rw [Array.getElem_setIfInBounds_ne (by simpa using h1) hd]
        simp only [Array.getElem_ofFn, hb, cond_false]
theorem fw_fn (n : FN) (f : FuncId) : (fw n).fn f := trivial
theorem fw_room (n : FN) (k : Nat) : (fw n).room k := fun _ h => by cases h
theorem fw_depth (n : FN) (m : Nat) : (fw n).depth.isSome = true → 1 ≤ m := fun h => by cases h
theorem semAt_run {P : Program} {o : Oper} {ro : Option Nat} {ρ : Operand → Value} {w w' : World} {x : Next} (h : (execOp ρ o).run P w = .ok x w') (hx : ∀ d, x ≠ .defer d) : (o.semAt ro ρ).run P w = .ok x w' := by
  rw [Oper.semAt_eq]
  · exact h
  · intro c hc
    simp only [execOp, hc, Sem.run_bind] at h
    cases hr : (resolve ρ c o.type).run P w with
    | ok d w1 =>
      rw [hr] at h
      simp only [Result.andThen_ok, Sem.run_pure, Result.ok.injEq] at h
      exact hx _ h.1.symm
    | halt a w1 =>
      rw [hr] at h
      simp [Result.andThen] at h

/-! ## one operation -/
def OS (P : Program) (op : Op) (ty : TypeId) (n : FN) (f : Nat → Value) (w0 : World) (As : List Asn) (R : Value → List Asn → Prop) : Prop :=
  ∀ w, Heap w0 w As → ∀ (o : Oper), o.op = op → o.type = ty → ∀ (K : Act → World → Prop) (Q : Exit → Act → World → Prop),
    (∀ v As' w', R v As' → Heap w0 w' As' → K (fr n (pu o.dst v f)) w') → o.wpIn (fw n) 0 P (fr n f) w K Q

/-- One value, whatever the world. -/
def PS (P : Program) (op : Op) (ty : TypeId) (n : FN) (f : Nat → Value) (v : Value) : Prop :=
  ∀ (o : Oper), o.op = op → o.type = ty → ∀ w, (execOp (ev n f) o).run P w = .ok (.value v) w

abbrev Is (v : Value) (As : List Asn) : Value → List Asn → Prop := fun v' As' => v' = v ∧ As' = As

/-- What a function does: called with these parts, beside any others, it returns, and has turned these alone. -/
def FSpec (P : Program) (g : FuncId) (args : List Value) (pre : List Asn) (post : Value → List Asn → Prop) : Prop :=
  ∀ w0 F, J w0 (pre ++ F) fun w => CallsIn Fence.wide 0 P g args.toArray w fun e w' => ∃ v As, e = .returned v ∧ post v As ∧ Heap w0 w' (As ++ F)

section
variable {P : Program} {op : Op} {ty : TypeId} {n : FN} {f : Nat → Value} {w0 : World} {As As1 : List Asn} {R : Value → List Asn → Prop}

theorem PS.os {v : Value} (h : PS P op ty n f v) : OS P op ty n f w0 As (Is v As) := by
  intro w hw o ho ht K Q hK
  refine ⟨fun _ _ => trivial, ?_⟩
  rw [fr_eval, semAt_run (h o ho ht w) (fun _ e => by cases e)]
  simp only [Oper.uponIn]
  rw [fr_put]
  exact hK _ _ _ ⟨rfl, rfl⟩ hw

/-- Out of a run. -/
theorem OS.of_run (h : ∀ w, Heap w0 w As → ∀ (o : Oper), o.op = op → o.type = ty → ∃ v w' As', (execOp (ev n f) o).run P w = .ok (.value v) w' ∧ R v As' ∧ Heap w0 w' As') : OS P op ty n f w0 As R := by
  intro w hw o ho ht K Q hK
  obtain ⟨v, w', As', h1, h2, h3⟩ := h w hw o ho ht
  refine ⟨fun _ _ => trivial, ?_⟩
  rw [fr_eval, semAt_run h1 (fun _ e => by cases e)]
  simp only [Oper.uponIn]
  rw [fr_put]
  exact hK _ _ _ h2 h3
theorem OS.of_skip (h : ∀ w, Heap w0 w As → ∀ (o : Oper), o.op = op → o.type = ty → ∃ w' As', (execOp (ev n f) o).run P w = .ok .skip w' ∧ R undef As' ∧ Heap w0 w' As') : OS P op ty n f w0 As R := by
  intro w hw o ho ht K Q hK
  obtain ⟨w', As', h1, h2, h3⟩ := h w hw o ho ht
  refine ⟨fun _ _ => trivial, ?_⟩
  rw [fr_eval, semAt_run h1 (fun _ e => by cases e)]
  simp only [Oper.uponIn]
  rw [fr_put]
  exact hK _ _ _ h2 h3
/-- Out of a function's contract. -/
theorem OS.of_enter {g : FuncId} {vals : List Value} {pre F : List Asn} {post : Value → List Asn → Prop} (hs : FSpec P g vals pre post)
    (h : ∀ w, ∀ (o : Oper), o.op = op → o.type = ty → (execOp (ev n f) o).run P w = .ok (.enter g vals.toArray) w) (hp : As.Perm (pre ++ F)) :
    OS P op ty n f w0 As (fun v Bs => ∃ Cs, post v Cs ∧ Bs = Cs ++ F) := by
  intro w hw o ho ht K Q hK
  refine ⟨fun _ _ => trivial, ?_⟩
  rw [fr_eval, semAt_run (h w o ho ht) (fun _ e => by cases e)]
  refine ⟨fw_depth n _, ?_⟩
  have h1 : CallsIn (fw n) 0 P g vals.toArray w fun e w' => ∃ v Cs, e = .returned v ∧ post v Cs ∧ Heap w0 w' (Cs ++ F) := hs w0 F w (hw.perm hp)
  refine CallsIn.mono h1 ?_
  rintro e w' ⟨v, Cs, rfl, h1, h2⟩
  show K ((fr n f).put o.dst v) w'
  rw [fr_put]
  exact hK v _ w' ⟨Cs, h1, rfl⟩ h2
theorem OS.pick (hp : As.Perm As1) (h : OS P op ty n f w0 As1 R) : OS P op ty n f w0 As R :=
  fun w hw => h w (hw.perm hp)
end

/-! ## lists of operations (a region that keeps its order) -/
def lw (P : Program) (ops : Array Oper) (Q : Exit → Act → World → Prop) (l : List Oper) (n : FN) (f : Nat → Value) (w : World) : Prop := wpListIn (fw n) 0 P ops Q l (fr n f) w
def cw (P : Program) (c : Code) (Q : Exit → Act → World → Prop) (n : FN) (f : Nat → Value) (w : World) : Prop := c.wpIn (fw n) 0 P Q (fr n f) w
def pw (Q : Exit → Act → World → Prop) (e : Exit) (n : FN) (f : Nat → Value) (w : World) : Prop := Q e (fr n f) w
def aw (P : Program) (ops : Array Oper) (Q : Exit → Act → World → Prop) (fuel : Nat) (listed : Array Bool) (n : FN) (f : Nat → Value) (w : World) : Prop := wpAnyIn (fw n) 0 P .any ops Q fuel listed (fr n f) w
abbrev LW (P : Program) (ops : Array Oper) (Q : Exit → Act → World → Prop) (l : List Oper) (n : FN) (f : Nat → Value) (w0 : World) (As : List Asn) : Prop :=
  J w0 As (lw P ops Q l n f)
abbrev CW (P : Program) (c : Code) (Q : Exit → Act → World → Prop) (n : FN) (f : Nat → Value) (w0 : World) (As : List Asn) : Prop :=
  J w0 As (cw P c Q n f)
abbrev PW (Q : Exit → Act → World → Prop) (e : Exit) (n : FN) (f : Nat → Value) (w0 : World) (As : List Asn) : Prop :=
  J w0 As (pw Q e n f)

/-- The Bool in the slot of operation j. -/
def yl (ops : Array Oper) (n : FN) (f : Nat → Value) (j : Nat) : Option Bool :=
  match (ops[j]?).bind (·.dst) with
  | some t => match cond (Nat.blt t n.k) (f t) undef with | .bool b => some b | _ => none
  | none => none

theorem yielded_fr (ops : Array Oper) (n : FN) (f : Nat → Value) (j : Nat) : yielded ops (fr n f).tmps j = yl ops n f j := by
  unfold yielded yl
  cases h : (ops[j]?).bind (·.dst) with
  | none => rfl
  | some t =>
    simp only [Option.bind_some]
    by_cases ht : t < n.k
    · have hb : Nat.blt t n.k = true := blt_true ht
      simp only [fr, hb, cond_true]
      rw [Array.getElem?_ofFn, dif_pos ht]
      cases f t <;> rfl
    · have hb : Nat.blt t n.k = false := blt_false ht
      simp only [fr, hb, cond_false]
      rw [Array.getElem?_ofFn, dif_neg ht]
      rfl

section
variable {P : Program} {ops : Array Oper} {Q : Exit → Act → World → Prop} {rest : List Oper} {d : Option Tmp} {op : Op} {ty : TypeId} {pos : String} {af : Array Edge} {n : FN} {f : Nat → Value} {w0 : World} {As As1 : List Asn} {v : Value}

theorem LW.nil (h : PW Q .normal n f w0 As) : LW P ops Q [] n f w0 As := fun w hw => h w hw

theorem L1 (hs : OS P op ty n f w0 As (Is v As1)) (h : LW P ops Q rest n (pu d v f) w0 As1) : LW P ops Q (⟨d, op, ty, pos, af, none⟩ :: rest) n f w0 As := fun w hw =>
  wpListIn_plain rfl fun K hK => hs w hw _ rfl rfl K Q fun v' As' w' hr hw' => by
    obtain ⟨rfl, rfl⟩ := hr
    exact hK _ _ (h w' hw')
theorem LE {R : Value → List Asn → Prop} (hs : OS P op ty n f w0 As R) (h : ∀ v As', R v As' → LW P ops Q rest n (pu d v f) w0 As') : LW P ops Q (⟨d, op, ty, pos, af, none⟩ :: rest) n f w0 As := fun w hw =>
  wpListIn_plain rfl fun K hK => hs w hw _ rfl rfl K Q fun v' As' w' hr hw' => hK _ _ (h v' As' hr w' hw')
/-- Guarded, and the guard says yes. -/
theorem LG1 {j : Nat} {b : Bool} (hg : yl ops n f j = some b) (hs : OS P op ty n f w0 As (Is v As1)) (h : LW P ops Q rest n (pu d v f) w0 As1) : LW P ops Q (⟨d, op, ty, pos, af, some (j, b)⟩ :: rest) n f w0 As := fun w hw =>
  wpListIn_step fun K hK => by
    have : Region.wanted ⟨d, op, ty, pos, af, some (j, b)⟩ (yielded ops (fr n f).tmps) = true := by simp [Region.wanted, yielded_fr, hg]
    rw [if_pos this]
    exact hs w hw _ rfl rfl K Q fun v' As' w' hr hw' => by
      obtain ⟨rfl, rfl⟩ := hr
      exact hK _ _ (h w' hw')
theorem LGE {j : Nat} {b : Bool} {R : Value → List Asn → Prop} (hg : yl ops n f j = some b) (hs : OS P op ty n f w0 As R) (h : ∀ v As', R v As' → LW P ops Q rest n (pu d v f) w0 As') : LW P ops Q (⟨d, op, ty, pos, af, some (j, b)⟩ :: rest) n f w0 As := fun w hw =>
  wpListIn_step fun K hK => by
    have : Region.wanted ⟨d, op, ty, pos, af, some (j, b)⟩ (yielded ops (fr n f).tmps) = true := by simp [Region.wanted, yielded_fr, hg]
    rw [if_pos this]
    exact hs w hw _ rfl rfl K Q fun v' As' w' hr hw' => hK _ _ (h v' As' hr w' hw')
/-- Guarded, and the guard says no. -/
theorem LG0 {j : Nat} {b b' : Bool} (hg : yl ops n f j = some b') (hb : (b' == b) = false) (h : LW P ops Q rest n (pu d undef f) w0 As) : LW P ops Q (⟨d, op, ty, pos, af, some (j, b)⟩ :: rest) n f w0 As := fun w hw =>
  wpListIn_step fun K hK => by
    have : Region.wanted ⟨d, op, ty, pos, af, some (j, b)⟩ (yielded ops (fr n f).tmps) = false := by
      simp only [Region.wanted, yielded_fr, hg]
      cases b <;> cases b' <;> simp_all
    rw [if_neg (by simp [this]), fr_put]
    exact ⟨fun _ _ => trivial, hK _ _ (h w hw)⟩
theorem LG0t {j : Nat} (hg : yl ops n f j = some false) (h : LW P ops Q rest n (pu d undef f) w0 As) : LW P ops Q (⟨d, op, ty, pos, af, some (j, true)⟩ :: rest) n f w0 As := LG0 hg rfl h
theorem LG0f {j : Nat} (hg : yl ops n f j = some true) (h : LW P ops Q rest n (pu d undef f) w0 As) : LW P ops Q (⟨d, op, ty, pos, af, some (j, false)⟩ :: rest) n f w0 As := LG0 hg rfl h
/-- Guarded by what yielded nothing. -/
theorem LGU {j : Nat} {b : Bool} (hg : yl ops n f j = none) (h : LW P ops Q rest n (pu d undef f) w0 As) : LW P ops Q (⟨d, op, ty, pos, af, some (j, b)⟩ :: rest) n f w0 As := fun w hw =>
  wpListIn_step fun K hK => by
    have : Region.wanted ⟨d, op, ty, pos, af, some (j, b)⟩ (yielded ops (fr n f).tmps) = false := by
      simp [Region.wanted, yielded_fr, hg]
    rw [if_neg (by simp [this]), fr_put]
    exact ⟨fun _ _ => trivial, hK _ _ (h w hw)⟩
end

/-! ## statements -/
section
variable {P : Program} {Q : Exit → Act → World → Prop} {n : FN} {f : Nat → Value} {w0 : World} {As As1 : List Asn}

theorem CW.region {id : Nat} {l : List Oper} (h : LW P l.toArray Q l n f w0 As) : CW P (.region id l.toArray false) Q n f w0 As := fun w hw => wpIn_region_lit (h w hw)
theorem CW.seq {x y : Code} (h : CW P x (Exit.then (y.wpIn (fw n) 0 P Q) Q) n f w0 As) : CW P (.seq x y) Q n f w0 As := fun w hw => wpIn_seq (h w hw)
theorem PW.then_ {y : Code} (h : CW P y Q n f w0 As) : PW (Exit.then (y.wpIn (fw n) 0 P Q) Q) .normal n f w0 As := fun w hw => h w hw
theorem PW.then_to {y : Code} {n' : FN} (hn : n'.r = n.r) (h : CW P y Q n' f w0 As) : PW (Exit.then (y.wpIn (fw n) 0 P Q) Q) .normal n' f w0 As := fun w hw => by
  have := h w hw
  simp only [cw, fw, hn] at this
  exact this
theorem PW.then_ret {K : Act → World → Prop} (h : PW Q .ret n f w0 As) : PW (Exit.then K Q) .ret n f w0 As := fun w hw => h w hw
theorem PW.then_exit {K : Act → World → Prop} {i : Nat} (h : PW Q (.exit i) n f w0 As) : PW (Exit.then K Q) (.exit i) n f w0 As := fun w hw => h w hw
theorem PW.block_ret {i : Nat} (h : PW Q .ret n f w0 As) : PW (Exit.inBlock i Q) .ret n f w0 As := fun w hw => h w hw
theorem PW.block_normal {i : Nat} (h : PW Q .normal n f w0 As) : PW (Exit.inBlock i Q) .normal n f w0 As := fun w hw => h w hw
theorem PW.block_hit {i : Nat} (h : PW Q .normal n f w0 As) : PW (Exit.inBlock i Q) (.exit i) n f w0 As := fun w hw => by show Exit.inBlock i Q (.exit i) (fr n f) w; simp only [Exit.inBlock, if_true]; exact h w hw
theorem PW.block_miss {i k : Nat} (hne : Nat.beq k i = false) (h : PW Q (.exit k) n f w0 As) : PW (Exit.inBlock i Q) (.exit k) n f w0 As := fun w hw => by
  have : k ≠ i := ne_of_beq' hne
  show Exit.inBlock i Q (.exit k) (fr n f) w
  simp only [Exit.inBlock, this, if_false]; exact h w hw
theorem CW.block {i : Nat} {c : Code} (h : CW P c (Exit.inBlock i Q) n f w0 As) : CW P (.block i c) Q n f w0 As := fun w hw => wpIn_block (h w hw)
theorem CW.skip (h : PW Q .normal n f w0 As) : CW P .skip Q n f w0 As := fun w hw => wpIn_skip (h w hw)
theorem CW.label {l : Nat} (h : PW Q .normal n f w0 As) : CW P (.label l) Q n f w0 As := fun w hw => wpIn_label (h w hw)
theorem CW.ret (h : PW Q .ret n f w0 As) : CW P .ret Q n f w0 As := fun w hw => wpIn_ret (h w hw)
theorem CW.exit {i : Nat} (h : PW Q (.exit i) n f w0 As) : CW P (.exit i) Q n f w0 As := fun w hw => wpIn_exit (h w hw)
theorem CW.cond_true {c : Operand} {x y : Code} (hc : ev n f c = .bool true) (h : CW P x Q n f w0 As) : CW P (.cond c x y) Q n f w0 As := fun w hw =>
  wpIn_cond_true (by rw [fr_eval]; exact hc) (h w hw)
theorem CW.cond_false {c : Operand} {x y : Code} (hc : ev n f c = .bool false) (h : CW P y Q n f w0 As) : CW P (.cond c x y) Q n f w0 As := fun w hw =>
  wpIn_cond_false (by rw [fr_eval]; exact hc) (h w hw)
theorem CW.cond {c : Operand} {x y : Code} {b : Bool} (hc : ev n f c = .bool b) (ht : b = true → CW P x Q n f w0 As) (hf : b = false → CW P y Q n f w0 As) : CW P (.cond c x y) Q n f w0 As := by
  cases b
  · exact CW.cond_false hc (hf rfl)
  · exact CW.cond_true hc (ht rfl)

/-- A cut: whatever way x takes, what stands behind it is shown once, of what R says. (E: the posts of x's other exits are Q's.) -/
def Cut (Q : Exit → Act → World → Prop) (n : FN) (w0 : World) (R : (Nat → Value) → List Asn → Prop) : Exit → Act → World → Prop :=
  Exit.then (fun a w => ∃ f As, R f As ∧ a = fr n f ∧ Heap w0 w As) Q
theorem Cut.normal {R : (Nat → Value) → List Asn → Prop} {g : Nat → Value} {Bs : List Asn} (h : R g Bs) : PW (Cut Q n w0 R) .normal n g w0 Bs := fun _ hw => ⟨g, Bs, h, rfl, hw⟩
theorem Cut.ent {R : (Nat → Value) → List Asn → Prop} {g : Nat → Value} {Bs Cs : List Asn} (he : Ent Bs Cs) (h : R g Cs) : PW (Cut Q n w0 R) .normal n g w0 Bs := fun _ hw => ⟨g, Cs, h, rfl, he.heap hw⟩
theorem Cut.ret {m : FN} {R : (Nat → Value) → List Asn → Prop} {g : Nat → Value} {Bs : List Asn} (h : PW Q .ret m g w0 Bs) : PW (Cut Q n w0 R) .ret m g w0 Bs := fun w hw => h w hw
theorem Cut.exit {m : FN} {R : (Nat → Value) → List Asn → Prop} {g : Nat → Value} {Bs : List Asn} {i : Nat} (h : PW Q (.exit i) m g w0 Bs) : PW (Cut Q n w0 R) (.exit i) m g w0 Bs := fun w hw => h w hw
theorem CW.cutN {x y : Code} {m : FN} (hm : m.r = n.r) (R : (Nat → Value) → List Asn → Prop) (hx : CW P x (Cut Q m w0 R) n f w0 As) (hy : ∀ g Bs, R g Bs → CW P y Q m g w0 Bs) : CW P (.seq x y) Q n f w0 As := fun w hw =>
  wpIn_seq (wpIn_mono (hx w hw) fun e a w' h => by
    cases e with
    | normal =>
      obtain ⟨g, Bs, h1, rfl, h3⟩ := h
      have := hy g Bs h1 w' h3
      simp only [cw, fw, hm] at this
      exact this
    | _ => exact h)
theorem CW.cut {x y : Code} (R : (Nat → Value) → List Asn → Prop) (hx : CW P x (Cut Q n w0 R) n f w0 As) (hy : ∀ g Bs, R g Bs → CW P y Q n g w0 Bs) : CW P (.seq x y) Q n f w0 As := CW.cutN rfl R hx hy

/-- A loop: I at its head, a number that falls. -/
def Rnd (Q : Exit → Act → World → Prop) (n : FN) (w0 : World) (I : Nat → (Nat → Value) → List Asn → Prop) (k : Nat) : Exit → Act → World → Prop :=
  Exit.then (fun a w => ∃ m g As, m < k ∧ I m g As ∧ a = fr n g ∧ Heap w0 w As) Q
theorem Rnd.normal {I : Nat → (Nat → Value) → List Asn → Prop} {k : Nat} {g : Nat → Value} {Bs : List Asn} (m : Nat) (hm : m < k) (h : I m g Bs) : PW (Rnd Q n w0 I k) .normal n g w0 Bs := fun _ hw => ⟨m, g, Bs, hm, h, rfl, hw⟩
theorem Rnd.ent {I : Nat → (Nat → Value) → List Asn → Prop} {k : Nat} {g : Nat → Value} {Bs Cs : List Asn} (m : Nat) (hm : m < k) (he : Ent Bs Cs) (h : I m g Cs) : PW (Rnd Q n w0 I k) .normal n g w0 Bs := fun _ hw => ⟨m, g, Cs, hm, h, rfl, he.heap hw⟩
theorem Rnd.ret {m : FN} {I : Nat → (Nat → Value) → List Asn → Prop} {k : Nat} {g : Nat → Value} {Bs : List Asn} (h : PW Q .ret m g w0 Bs) : PW (Rnd Q n w0 I k) .ret m g w0 Bs := fun w hw => h w hw
theorem Rnd.exit {m : FN} {I : Nat → (Nat → Value) → List Asn → Prop} {k : Nat} {g : Nat → Value} {Bs : List Asn} {i : Nat} (h : PW Q (.exit i) m g w0 Bs) : PW (Rnd Q n w0 I k) (.exit i) m g w0 Bs := fun w hw => h w hw
theorem CW.loop {c : Code} (I : Nat → (Nat → Value) → List Asn → Prop) (k0 : Nat) (Bs : List Asn) (he : Ent As Bs) (h0 : I k0 f Bs)
    (round : ∀ k g Cs, I k g Cs → CW P c (Rnd Q n w0 I k) n g w0 Cs) : CW P (.loop c) Q n f w0 As := fun w hw => by
  intro b K cs hro hb hr
  have key : ∀ k g Cs w, I k g Cs → Heap w0 w Cs →
      ∃ e a' w', Q e a' w' ∧ ArrivesIn (Machine.fenced P (fw n)) P (lone (b.atR (fr n g) (.code c :: .inLoop c :: K)) cs w) b K cs e a' w' := by
    intro k
    induction k using Nat.strongRecOn with
    | _ k ih =>
      intro g Cs w hI hw
      obtain ⟨e, a₁, w₁, hq, harr⟩ := round k g Cs hI w hw b (.inLoop c :: K) cs hro hb hr
      cases e with
      | normal =>
        obtain ⟨m, g', Ds, hm, hI', rfl, hw'⟩ := hq
        obtain ⟨e₂, a₂, w₂, hq₂, harr₂⟩ := ih m hm g' Ds w₁ hI' hw'
        exact ⟨e₂, a₂, w₂, hq₂, .of_steps (StepsIn.trans harr (.one (fenced_calm hb hr rfl) stepR_inLoop)) harr₂⟩
      | exit id => exact ⟨_, a₁, w₁, hq, .pass (x := .inLoop c) rfl (fun _ _ => .inl (by simp)) harr⟩
      | goto l => exact ⟨_, a₁, w₁, hq, .pass (x := .inLoop c) rfl (fun _ _ => .inl (by simp)) harr⟩
      | ret => exact ⟨_, a₁, w₁, hq, .pass (x := .inLoop c) rfl (fun _ _ => .inl (by simp)) harr⟩
      | panic ch => exact ⟨_, a₁, w₁, hq, .pass (x := .inLoop c) rfl (fun _ _ => .inl (by simp)) harr⟩
      | outgrown => exact ⟨_, a₁, w₁, hq, .pass (x := .inLoop c) rfl (fun _ _ => .inl (by simp)) harr⟩
  obtain ⟨e, a', w', hq, harr⟩ := key k0 f Bs w h0 (he.heap hw)
  exact ⟨e, a', w', hq, .of_steps (.one (fenced_calm hb hr rfl) stepR_loop) harr⟩
end

/-! ## frames of which only some slots are known -/
def mix (W : List Nat) (g f : Nat → Value) : Nat → Value := fun t => cond (W.any (Nat.beq t)) (g t) (f t)
def Ag (W : List Nat) (g f : Nat → Value) : Prop := ∀ t, W.any (Nat.beq t) = false → g t = f t
theorem Ag.refl (W : List Nat) (f : Nat → Value) : Ag W f f := fun _ _ => rfl
theorem Ag.pu {W : List Nat} {g f : Nat → Value} {d : Tmp} (v : Value) (hd : W.any (Nat.beq d) = true) (h : Ag W g f) : Ag W (pu (some d) v g) f := fun t ht => by
  show cond (Nat.beq d t) v (g t) = f t
  cases hb : Nat.beq d t with
  | false => exact h t ht
  | true =>
    have : d = t := by simpa using hb
    subst this
    rw [hd] at ht; cases ht
theorem Ag.pu0 {W : List Nat} {g f : Nat → Value} (v : Value) (h : Ag W g f) : Ag W (SL.pu none v g) f := h
theorem Ag.mix {W W' : List Nat} {g f h : Nat → Value} (hs : W'.all (fun t => W.any (Nat.beq t)) = true) (hg : Ag W f h) : Ag W (mix W' g f) h := fun t ht => by
  show cond (W'.any (Nat.beq t)) (g t) (f t) = h t
  cases hb : W'.any (Nat.beq t) with
  | false => exact hg t ht
  | true =>
    exfalso
    obtain ⟨x, hx, he⟩ := List.any_eq_true.1 hb
    have : t = x := by simpa using he
    subst this
    have := List.all_eq_true.1 hs t hx
    rw [ht] at this; cases this
theorem Ag.eq {W : List Nat} {g f : Nat → Value} (h : Ag W g f) : g = SL.mix W g f := by
  funext t
  show g t = cond (W.any (Nat.beq t)) (g t) (f t)
  cases hb : W.any (Nat.beq t) with
  | true => rfl
  | false => exact h t hb

/-! ## cuts and loops by slots -/
def pus (l : List (Nat × Value)) (f : Nat → Value) : Nat → Value :=
  match l with
  | [] => f
  | (t, v) :: l => pu (some t) v (pus l f)
def Sls (g : Nat → Value) : List (Nat × Value) → Prop
  | [] => True
  | (t, v) :: l => g t = v ∧ Sls g l
theorem pus_eq {g : Nat → Value} {l : List (Nat × Value)} (h : Sls g l) : pus l g = g := by
  induction l with
  | nil => rfl
  | cons p l ih =>
    obtain ⟨t, v⟩ := p
    obtain ⟨h1, h2⟩ := h
    funext s
    show cond (Nat.beq t s) v (pus l g s) = g s
    rw [ih h2]
    cases hb : Nat.beq t s with
    | false => rfl
    | true =>
      have : t = s := Nat.eq_of_beq_eq_true hb
      subst this
      exact h1.symm
section
variable {P : Program} {Q : Exit → Act → World → Prop} {n : FN} {f : Nat → Value} {w0 : World} {As : List Asn} {α : Type}
/-- What is known where ways meet: the slots outside W are f's, those of 'sl a' hold what it says, the heap is 'hp a'. -/
def Meet (W : List Nat) (f : Nat → Value) (C : α → Prop) (sl : α → List (Nat × Value)) (hp : α → List Asn) : (Nat → Value) → List Asn → Prop :=
  fun g Bs => ∃ a, C a ∧ Ag W g f ∧ Sls g (sl a) ∧ Bs = hp a
theorem CW.cutM {x y : Code} (W : List Nat) (C : α → Prop) (sl : α → List (Nat × Value)) (hp : α → List Asn) (hx : CW P x (Cut Q n w0 (Meet W f C sl hp)) n f w0 As)
    (hy : ∀ a g, C a → CW P y Q n (pus (sl a) (mix W g f)) w0 (hp a)) : CW P (.seq x y) Q n f w0 As :=
  CW.cut _ hx fun g Bs h => by
    obtain ⟨a, h1, h2, h3, rfl⟩ := h
    have e : pus (sl a) (mix W g f) = g := by rw [← h2.eq]; exact pus_eq h3
    have := hy a g h1
    rwa [e] at this
/-- The same, whatever stands behind. -/
theorem CW.cutB {x : Code} (W : List Nat) (C : α → Prop) (sl : α → List (Nat × Value)) (hp : α → List Asn) (hx : CW P x (Cut Q n w0 (Meet W f C sl hp)) n f w0 As)
    (hy : ∀ a g, C a → PW Q .normal n (pus (sl a) (mix W g f)) w0 (hp a)) : CW P x Q n f w0 As := fun w hw =>
  wpIn_mono (hx w hw) fun e a w' h => by
    cases e with
    | normal =>
      obtain ⟨g, Bs, ⟨a, h1, h2, h3, rfl⟩, rfl, h6⟩ := h
      have e : pus (sl a) (mix W g f) = g := by rw [← h2.eq]; exact pus_eq h3
      have := hy a g h1
      rw [e] at this
      exact this w' h6
    | _ => exact h
theorem Meet.cut {W : List Nat} {C : α → Prop} {sl : α → List (Nat × Value)} {hp : α → List Asn} {g : Nat → Value} {Bs : List Asn} (a : α) (h1 : C a) (h2 : Ag W g f) (h3 : Sls g (sl a)) (h4 : Ent Bs (hp a)) :
    PW (Cut Q n w0 (Meet W f C sl hp)) .normal n g w0 Bs := Cut.ent h4 ⟨a, h1, h2, h3, rfl⟩
theorem CW.loopM {c : Code} (W : List Nat) (C : Nat → α → Prop) (sl : α → List (Nat × Value)) (hp : α → List Asn) (k0 : Nat) (a0 : α) (h0 : C k0 a0) (hs0 : Sls f (sl a0)) (he : Ent As (hp a0))
    (round : ∀ k a g, C k a → CW P c (Rnd Q n w0 (fun k => Meet W f (C k) sl hp) k) n (pus (sl a) (mix W g f)) w0 (hp a)) : CW P (.loop c) Q n f w0 As :=
  CW.loop (fun k => Meet W f (C k) sl hp) k0 (hp a0) he ⟨a0, h0, Ag.refl _ _, hs0, rfl⟩ fun k g Cs h => by
    obtain ⟨a, h1, h2, h3, rfl⟩ := h
    have e : pus (sl a) (mix W g f) = g := by rw [← h2.eq]; exact pus_eq h3
    have := round k a g h1
    rwa [e] at this
theorem Meet.round {W : List Nat} {C : Nat → α → Prop} {sl : α → List (Nat × Value)} {hp : α → List Asn} {g : Nat → Value} {Bs : List Asn} {k : Nat} (m : Nat) (a : α) (hm : m < k) (h1 : C m a) (h2 : Ag W g f) (h3 : Sls g (sl a)) (h4 : Ent Bs (hp a)) :
    PW (Rnd Q n w0 (fun k => Meet W f (C k) sl hp) k) .normal n g w0 Bs := Rnd.ent m hm h4 ⟨a, h1, h2, h3, rfl⟩
theorem Ag.pus {W : List Nat} {g f : Nat → Value} {l : List (Nat × Value)} (hl : l.all (fun p => W.any (Nat.beq p.1)) = true) (h : Ag W g f) : Ag W (SL.pus l g) f := by
  induction l with
  | nil => exact h
  | cons p l ih =>
    obtain ⟨t, v⟩ := p
    simp only [List.all_cons, Bool.and_eq_true] at hl
    exact Ag.pu v hl.1 (ih hl.2)
end

/-! ## functions -/
section
variable {P : Program}
theorem fr_args (args : List Value) (n : Nat) (h : args.length ≤ n) : ({ tmps := args.toArray ++ Array.replicate (n - args.toArray.size) undef, defers := [] } : Act) = fr ⟨n, [], none⟩ (fun t => args.getD t undef) := by
  simp only [fr, Act.mk.injEq, and_true]
  apply Array.ext
  · simp; omega
  · intro i h1 h2
    simp only [Array.size_append, List.size_toArray, Array.size_replicate] at h1
    rw [Array.getElem_ofFn]
    by_cases hi : i < args.length
    · rw [Array.getElem_append_left (by simpa using hi)]
      simp [hi]
    · rw [Array.getElem_append_right (by simpa using Nat.le_of_not_lt hi)]
      simp [Nat.le_of_not_lt hi]

/-- What stands at a function's end. -/
def Fin (P : Program) (fn : Func) (w0 : World) (F : List Asn) (post : Value → List Asn → Prop) : Exit → Act → World → Prop :=
  bodyPostM Fence.wide 0 P fn fun e w' => ∃ v As, e = .returned v ∧ post v As ∧ Heap w0 w' (As ++ F)

theorem FSpec.intro {g : FuncId} {fn : Func} {c : Code} {args : List Value} {pre : List Asn} {post : Value → List Asn → Prop} (hf : P.funcs[g]? = some fn) (hb : fn.body = some c)
    (n : Nat) (hn : fn.ntmps = n) (hl : args.length ≤ n)
    (h : ∀ w0 F, CW P c (Fin P fn w0 F post) ⟨n, [], none⟩ (fun t => args.getD t undef) w0 (pre ++ F)) : FSpec P g args pre post := fun w0 F w hw => by
  refine callsIn_of_wp_marks hf hb trivial ?_
  rw [hn, fr_args args n hl]
  exact h w0 F w hw
theorem FSpec.calls {g : FuncId} {args : List Value} {pre F : List Asn} {post : Value → List Asn → Prop} (h : FSpec P g args pre post) {w0 w : World} (hw : Heap w0 w (pre ++ F)) :
    Calls P g args.toArray w fun e w' => ∃ v As, e = .returned v ∧ post v As ∧ Heap w0 w' (As ++ F) := callsIn_wide.1 (h w0 F w hw)

theorem FSpec.mono {g : FuncId} {args : List Value} {pre pre' : List Asn} {post post' : Value → List Asn → Prop} (h : FSpec P g args pre post) (hpre : Ent pre' pre)
    (hpost : ∀ v As, post v As → ∃ Bs, post' v Bs ∧ Ent As Bs) : FSpec P g args pre' post' := fun w0 F w hw => by
  obtain ⟨L, h1, h2⟩ := hw
  obtain ⟨L1, L2, h3, h4, h5⟩ := sat_app h2
  refine (h w0 F w ⟨L, h1, sat_mk h3 (hpre _ h4) h5⟩).mono ?_
  rintro e w' ⟨v, As, rfl, h6, L', h7, h8⟩
  obtain ⟨Bs, h9, h10⟩ := hpost v As h6
  obtain ⟨M1, M2, m1, m2, m3⟩ := sat_app h8
  exact ⟨v, Bs, rfl, h9, L', h7, sat_mk m1 (h10 _ m2) m3⟩

variable {n : FN} {f : Nat → Value} {w0 : World} {As F : List Asn} {fn : Func} {post : Value → List Asn → Prop}
theorem Fin.retG {v : Value} (Bs : List Asn) (h : ∀ w, Heap w0 w As → (results fn (fr n f).tmps).run P w = .ok v w) (hp : post v Bs) (he : Ent As (Bs ++ F)) (hd : n.ds = [] := by rfl) : PW (Fin P fn w0 F post) .ret n f w0 As := fun w hw => by
  show LeavesInM Fence.wide 0 P fn (fr n f).tmps _ n.ds .returning w
  rw [hd]
  exact ⟨v, h w hw, _, Bs, rfl, hp, he.heap hw⟩
theorem Fin.endG {v : Value} (Bs : List Asn) (h : ∀ w, Heap w0 w As → (results fn (fr n f).tmps).run P w = .ok v w) (hp : post v Bs) (he : Ent As (Bs ++ F)) (hd : n.ds = [] := by rfl) : PW (Fin P fn w0 F post) .normal n f w0 As := fun w hw =>
  (Fin.retG Bs h hp he hd : PW (Fin P fn w0 F post) .ret n f w0 As) w hw
theorem run_takeDeferred {w : World} {D : Nat} (h : w.heap[D]? = some (.deferred (some []))) : (Instr.takeDeferred D).run P w = .ok [] { w with heap := w.heap.setIfInBounds D (.deferred none) } := by
  simp [Instr.takeDeferred, Sem.run_bind, getObj, setObj, Sem.run, h, Result.andThen]
/-- The mark of a range over a function, taken at the function's end. -/
theorem Fin.mark {Bs : List Asn} {D : Nat} {ds : List Deferred} (hd : n.ds = { target := .collected D, args := #[] } :: ds) (hp : As.Perm (pt D (.deferred (some [])) :: Bs)) (h : PW (Fin P fn w0 F post) .ret ⟨n.k, ds, n.r⟩ f w0 Bs) : PW (Fin P fn w0 F post) .ret n f w0 As := fun w hw => by
  have hw1 := hw.perm hp
  have hg := heap_get hw1
  have hlt := heap_lt hw1
  have hw2 : Heap w0 { w with heap := w.heap.setIfInBounds D (.deferred none) } (pt D (.deferred none) :: Bs) :=
    heap_set hw1 rfl rfl rfl (by simp) (by simp [hlt]) (fun k hk => by simp [Array.getElem?_setIfInBounds, Ne.symm hk])
  have h1 := h _ ((Ent.skip (Ent.refl Bs)).heap hw2)
  show LeavesInM Fence.wide 0 P fn (fr n f).tmps _ n.ds .returning w
  rw [hd]
  refine (?_ : FrameMode.returning ≠ FrameMode.run ∧ _)
  exact ⟨(fun e => by cases e), Or.inl ⟨D, _, rfl, run_takeDeferred hg, h1⟩⟩
theorem Fin.markE {Bs : List Asn} {D : Nat} {ds : List Deferred} (hd : n.ds = { target := .collected D, args := #[] } :: ds) (hp : As.Perm (pt D (.deferred (some [])) :: Bs)) (h : PW (Fin P fn w0 F post) .normal ⟨n.k, ds, n.r⟩ f w0 Bs) : PW (Fin P fn w0 F post) .normal n f w0 As :=
  Fin.mark hd hp h
theorem Fin.ret1 {t : Tmp} (hr : fn.results = #[.tmp t]) {v : Value} (Bs : List Asn) (hv : ev n f (.tmp t) = v) (hp : post v Bs) (he : Ent As (Bs ++ F)) (hd : n.ds = [] := by rfl) : PW (Fin P fn w0 F post) .ret n f w0 As := by
  refine Fin.retG (v := v) Bs (fun w _ => ?_) hp he hd
  have : (fr n f).tmps.getD t undef = v := by rw [← hv, ← fr_eval]; rfl
  rw [← this]; exact results_tmp hr _ _ _
theorem Fin.ret2 {t u : Tmp} (hr : fn.results = #[.tmp t, .tmp u]) {v1 v2 : Value} (Bs : List Asn) (hv1 : ev n f (.tmp t) = v1) (hv2 : ev n f (.tmp u) = v2) (hp : post (.tuple #[v1, v2]) Bs) (he : Ent As (Bs ++ F)) (hd : n.ds = [] := by rfl) : PW (Fin P fn w0 F post) .ret n f w0 As := by
  refine Fin.retG (v := .tuple #[v1, v2]) Bs (fun w _ => ?_) hp he hd
  have h1 : (fr n f).tmps.getD t undef = v1 := by rw [← hv1, ← fr_eval]; rfl
  have h2 : (fr n f).tmps.getD u undef = v2 := by rw [← hv2, ← fr_eval]; rfl
  rw [← h1, ← h2]; exact results_tmp2 hr _ _ _
theorem results_tmp3' {fn : Func} {t u s : Tmp} (h : fn.results = #[.tmp t, .tmp u, .tmp s]) (tmps : Array Value) (P : Program) (w : World) :
    (results fn tmps).run P w = .ok (.tuple #[tmps.getD t undef, tmps.getD u undef, tmps.getD s undef]) w := by
  simp [results, h]
theorem Fin.ret3 {t u s : Tmp} (hr : fn.results = #[.tmp t, .tmp u, .tmp s]) {v1 v2 v3 : Value} (Bs : List Asn) (hv1 : ev n f (.tmp t) = v1) (hv2 : ev n f (.tmp u) = v2) (hv3 : ev n f (.tmp s) = v3) (hp : post (.tuple #[v1, v2, v3]) Bs) (he : Ent As (Bs ++ F)) (hd : n.ds = [] := by rfl) : PW (Fin P fn w0 F post) .ret n f w0 As := by
  refine Fin.retG (v := .tuple #[v1, v2, v3]) Bs (fun w _ => ?_) hp he hd
  have h1 : (fr n f).tmps.getD t undef = v1 := by rw [← hv1, ← fr_eval]; rfl
  have h2 : (fr n f).tmps.getD u undef = v2 := by rw [← hv2, ← fr_eval]; rfl
  have h3 : (fr n f).tmps.getD s undef = v3 := by rw [← hv3, ← fr_eval]; rfl
  rw [← h1, ← h2, ← h3]; exact results_tmp3' hr _ _ _
theorem Fin.end0 (hr : fn.results = #[]) (Bs : List Asn) (hp : post (.tuple #[]) Bs) (he : Ent As (Bs ++ F)) (hd : n.ds = [] := by rfl) : PW (Fin P fn w0 F post) .normal n f w0 As :=
  Fin.endG Bs (fun w _ => results_none hr _ _ _) hp he hd
theorem Fin.ret0 (hr : fn.results = #[]) (Bs : List Asn) (hp : post (.tuple #[]) Bs) (he : Ent As (Bs ++ F)) (hd : n.ds = [] := by rfl) : PW (Fin P fn w0 F post) .ret n f w0 As :=
  Fin.retG Bs (fun w _ => results_none hr _ _ _) hp he hd
end

/-! ## a region that draws its order -/
abbrev AW (P : Program) (ops : Array Oper) (Q : Exit → Act → World → Prop) (fuel : Nat) (listed : Array Bool) (n : FN) (f : Nat → Value) (w0 : World) (As : List Asn) : Prop :=
  J w0 As (aw P ops Q fuel listed n f)
section
variable {P : Program} {ops : Array Oper} {Q : Exit → Act → World → Prop} {n : FN} {f : Nat → Value} {w0 : World} {As As1 : List Asn} {fuel : Nat} {listed : Array Bool}
/-- A way out by a panic does not hang on the frame. -/
def Pan (Q : Exit → Act → World → Prop) : Exit → Act → World → Prop
  | .panic _, _, _ => False
  | e, a, w => Q e a w
theorem CW.draw {id : Nat} (hm : P.follows .mixedOrders = true) (h : AW P ops (Pan Q) ops.size (Array.replicate ops.size false) n f w0 As) : CW P (.region id ops true) Q n f w0 As := fun w hw =>
  wpIn_mono (wpIn_region_any hm (h _ (heap_drew hw))) fun e a w hq => by cases e <;> first | exact hq | exact hq.elim
/-- No call of a Go function. -/
def quietOp : Op → Bool
  | .call { callee := .builtin _, .. } => true
  | .call _ => false
  | _ => true
theorem about_quiet {o : Oper} (h : quietOp o.op = true) (w : World) (ρ : Operand → Value) : o.about P w ρ = none := by
  unfold Oper.about
  split
  · rename_i c hc
    rw [hc] at h
    obtain ⟨callee, args, ts⟩ := c
    cases callee with
    | builtin b => rfl
    | _ => simp [quietOp] at h
  · rfl
theorem Pan.normal (h : PW Q .normal n f w0 As) : PW (Pan Q) .normal n f w0 As := fun w hw => h w hw
theorem A_take {i : Nat} {oi : Oper} {v : Value} (d : Option Tmp) (hi : ops[i]? = some oi) (hd : oi.dst = d) (hsel : Region.noSelect ops = true) (hfree : Region.free .any ops listed i = true) (hr : (Region.ready .any ops listed).contains i = true)
    (hw : Region.wanted oi (yl ops n f) = true) (hs : PS P oi.op oi.type n f v) (h : AW P ops (Pan Q) fuel (listed.setIfInBounds i true) n (pu d v f) w0 As) (hro : n.r = none := by rfl) (hq : quietOp oi.op = true := by rfl) : AW P ops (Pan Q) (fuel + 1) listed n f w0 As := fun w hwd => by
  subst hd
  refine wpAnyIn_take hro hi hsel hfree (by simpa using hr) (fun _ _ _ h => h) (v := v) ⟨.inl ⟨?_, fun w => ?_⟩, fun w => about_quiet hq w _⟩ ?_
  · have : yielded ops (fr n f).tmps = yl ops n f := funext (yielded_fr ops n f)
    rw [this]; exact hw
  · rw [fr_eval]; exact hs oi rfl rfl w
  · rw [fr_put]; exact h w hwd
/-- Passed over: its guard says no. -/
theorem A_pass {i : Nat} {oi : Oper} (d : Option Tmp) (hi : ops[i]? = some oi) (hd : oi.dst = d) (hsel : Region.noSelect ops = true) (hfree : Region.free .any ops listed i = true) (hr : (Region.ready .any ops listed).contains i = true)
    (hw : Region.wanted oi (yl ops n f) = false) (h : AW P ops (Pan Q) fuel (listed.setIfInBounds i true) n (pu d undef f) w0 As) (hro : n.r = none := by rfl) (hq : quietOp oi.op = true := by rfl) : AW P ops (Pan Q) (fuel + 1) listed n f w0 As := fun w hwd => by
  subst hd
  refine wpAnyIn_take hro hi hsel hfree (by simpa using hr) (fun _ _ _ h => h) (v := undef) ⟨.inr ⟨?_, rfl⟩, fun w => about_quiet hq w _⟩ ?_
  · have : yielded ops (fr n f).tmps = yl ops n f := funext (yielded_fr ops n f)
    rw [this]; exact hw
  · rw [fr_put]; exact h w hwd
theorem A_done (hr : Region.ready .any ops listed = []) (h : PW Q .normal n f w0 As) : AW P ops (Pan Q) fuel listed n f w0 As := fun w hw =>
  wpAnyIn_done (Q := Pan Q) hr (h w hw) fuel
/-- The ones that may come next, one by one. -/
def AR (P : Program) (ops : Array Oper) (Q : Exit → Act → World → Prop) (fuel : Nat) (listed : Array Bool) (n : FN) (f : Nat → Value) (w0 : World) (As : List Asn) (rs : List Nat) : Prop :=
  ∀ i ∈ rs, J w0 As fun w => wpOpIn (fw n) 0 P ops Q i (wpAnyIn (fw n) 0 P .any ops Q fuel (listed.setIfInBounds i true)) (fr n f) w
theorem A_branch {rs : List Nat} (hr : Region.ready .any ops listed = rs) (hne : rs ≠ []) (h : AR P ops Q fuel listed n f w0 As rs) : AW P ops Q (fuel + 1) listed n f w0 As := fun w hw =>
  wpAnyIn_all hr hne fun i hi => h i hi w hw
theorem AR.nil : AR P ops Q fuel listed n f w0 As [] := fun _ h => by cases h
theorem AR.cons1 {i : Nat} {rs : List Nat} {oi : Oper} {v : Value} (d : Option Tmp) (hi : ops[i]? = some oi) (hd : oi.dst = d) (hw : Region.wanted oi (yl ops n f) = true) (hs : OS P oi.op oi.type n f w0 As (Is v As1))
    (h : AW P ops Q fuel (listed.setIfInBounds i true) n (pu d v f) w0 As1) (k : AR P ops Q fuel listed n f w0 As rs) : AR P ops Q fuel listed n f w0 As (i :: rs) := fun j hj => by
  subst hd
  rcases List.mem_cons.1 hj with rfl | hj
  · intro w hwd
    unfold wpOpIn
    rw [hi]
    have : yielded ops (fr n f).tmps = yl ops n f := funext (yielded_fr ops n f)
    simp only [this, hw, if_true]
    refine (hs w hwd _ rfl rfl _ _ fun v' As' w' hr hw' => ?_)
    obtain ⟨rfl, rfl⟩ := hr
    exact h w' hw'
  · exact k j hj
theorem AR.consE {i : Nat} {rs : List Nat} {oi : Oper} {R : Value → List Asn → Prop} (d : Option Tmp) (hi : ops[i]? = some oi) (hd : oi.dst = d) (hw : Region.wanted oi (yl ops n f) = true) (hs : OS P oi.op oi.type n f w0 As R)
    (h : ∀ v As', R v As' → AW P ops Q fuel (listed.setIfInBounds i true) n (pu d v f) w0 As') (k : AR P ops Q fuel listed n f w0 As rs) : AR P ops Q fuel listed n f w0 As (i :: rs) := fun j hj => by
  subst hd
  rcases List.mem_cons.1 hj with rfl | hj
  · intro w hwd
    unfold wpOpIn
    rw [hi]
    have : yielded ops (fr n f).tmps = yl ops n f := funext (yielded_fr ops n f)
    simp only [this, hw, if_true]
    exact (hs w hwd _ rfl rfl _ _ fun v' As' w' hr hw' => h v' As' hr w' hw')
  · exact k j hj
end
/-! ## a region that draws its order, of which some operations read parts that nobody turns -/
def ahw (P : Program) (ops : Array Oper) (Q : Exit → Act → World → Prop) (S : World → Prop) (late : List Nat) : Nat → Array Bool → Act → World → Prop
  | 0, listed, a, w => Region.ready .any ops listed = [] ∧ Q .normal a w
  | fuel + 1, listed, a, w => (Region.ready .any ops listed = [] → Q .normal a w) ∧
    ∀ i ∈ Region.ready .any ops listed, wpOpIn Fence.wide 0 P ops Q i (fun a' w' => (late.contains i = false → S w') ∧ ahw P ops Q S late fuel (listed.setIfInBounds i true) a' w') a w
section
variable {P : Program} {ops : Array Oper} {Q : Exit → Act → World → Prop} {S : World → Prop} {late : List Nat}
theorem ahw_any : ∀ (fuel : Nat) (listed : Array Bool) (a : Act) (w : World), ahw P ops Q S late fuel listed a w → wpAnyIn Fence.wide 0 P .any ops Q fuel listed a w
  | 0, _, _, _, h => h
  | fuel + 1, _, _, _, h => ⟨h.1, fun i hi => wpOpIn_mono (fun a' w' h' => ahw_any fuel _ a' w' h'.2) (h.2 i hi)⟩
/-- An operation that does not look at a slot: whether it is written ahead or behind. -/
theorem op_put {j : Nat} {oj : Oper} {d : Option Tmp} {v : Value} {T : Act → Prop} (hj : ops[j]? = some oj) (h1 : ∀ t, d = some t → t ∉ oj.looksAt ops) (h2 : ∀ t, d = some t → oj.dst ≠ some t) (hsj : ∀ cs b, oj.op ≠ .select cs b)
    (hQ : ∀ c a w, Q (.panic c) (a.put d v) w → Q (.panic c) a w) (hT : ∀ a u, T a → T (a.put oj.dst u)) (hD : ∀ a x, T a → T { a with defers := x :: a.defers }) {K : Act → World → Prop} {a : Act} {w : World} (ha : T a)
    (h : wpOpIn Fence.wide 0 P ops Q j K (a.put d v) w) : wpOpIn Fence.wide 0 P ops Q j (fun a' w' => T a' ∧ K (a'.put d v) w') a w := by
  unfold wpOpIn at *
  rw [hj] at h ⊢
  simp only [wanted_put oj a d v h1] at h
  simp only
  by_cases hw : Region.wanted oj (yielded ops a.tmps) = true
  · rw [if_pos hw] at h ⊢
    refine ⟨fun _ _ => trivial, ?_⟩
    have hu := h.2
    rw [show Fence.wide.round = none from rfl, Oper.semAt_none] at hu ⊢
    rw [execOp_put oj hsj a d v h1] at hu
    generalize (execOp a.eval oj).run P w = r at hu
    cases r with
    | ok x w' =>
      cases x with
      | value u => exact ⟨hT _ _ ha, by have h3 : K ((a.put d v).put oj.dst u) w' := hu; rwa [Act.put_comm a v u h2] at h3⟩
      | skip => exact ⟨hT _ _ ha, by have h3 : K ((a.put d v).put oj.dst undef) w' := hu; rwa [Act.put_comm a v undef h2] at h3⟩
      | defer x => exact ⟨hT _ _ (hD _ _ ha), by
          have h3 : K ((({ a.put d v with defers := x :: (a.put d v).defers } : Act)).put oj.dst undef) w' := hu
          rw [show ({ a.put d v with defers := x :: (a.put d v).defers } : Act) = ({ a with defers := x :: a.defers } : Act).put d v by cases d <;> rfl, Act.put_comm _ v undef h2] at h3
          exact h3⟩
      | enter f args => exact ⟨hu.1, CallsIn.mono hu.2 fun e w'' he => by
          cases e with
          | returned u => exact ⟨hT _ _ ha, by have h3 : K ((a.put d v).put oj.dst u) w'' := he; rwa [Act.put_comm a v u h2] at h3⟩
          | panicked c => exact hQ _ _ _ he
          | outgrown => exact he⟩
      | row row args => exact ⟨hu.1, RowsIn.mono hu.2 fun u w'' he => ⟨hT _ _ ha, by have h3 : K ((a.put d v).put oj.dst u) w'' := he; rwa [Act.put_comm a v u h2] at h3⟩⟩
      | round l f tmps as body => exact ⟨hu.1, RoundIn.mono hu.2 fun e w'' he => by
          cases e with
          | returned u => exact ⟨hT _ _ ha, by have h3 : K ((a.put d v).put oj.dst u) w'' := he; rwa [Act.put_comm a v u h2] at h3⟩
          | panicked c => exact hQ _ _ _ he
          | outgrown => exact he⟩
      | _ => exact hu.elim
    | halt x w' =>
      cases x with
      | panic u => exact hQ _ _ _ hu
      | _ => exact hu.elim
  · rw [if_neg hw] at h ⊢
    refine ⟨fun _ _ => trivial, hT _ _ ha, ?_⟩
    have h3 := h.2
    rwa [Act.put_comm a v undef h2] at h3
/-- Operations that leave the world as it is, whatever they are given. -/
def stillOp : Op → Bool
  | .move _ => true
  | .assign _ => true
  | .extract _ _ => true
  | _ => false
theorem still_run {P : Program} {o : Oper} {ρ : Operand → Value} {w w' : World} {x : Next} (h : stillOp o.op = true) (hr : (execOp ρ o).run P w = .ok x w') : w' = w ∧ ∃ v, x = .value v := by
  obtain ⟨d, op, ty, pos, af, gd⟩ := o
  cases op with
  | move y => simp [execOp] at hr; exact ⟨hr.2.symm, _, hr.1.symm⟩
  | assign y => simp [execOp] at hr; exact ⟨hr.2.symm, _, hr.1.symm⟩
  | extract y k =>
    simp only [execOp, Instr.extract, Sem.run_bind] at hr
    cases hv : ρ y with
    | tuple cells =>
      rw [hv] at hr
      cases hc : cells[k]? with
      | some v => simp [hc] at hr; exact ⟨hr.2.symm, _, hr.1.symm⟩
      | none => simp [hc, Result.andThen] at hr
    | _ => rw [hv] at hr; simp [Result.andThen] at hr
  | _ => cases h
theorem op_still {j : Nat} {oj : Oper} (hj : ops[j]? = some oj) (hs : stillOp oj.op = true) {K : Act → World → Prop} {a : Act} {w : World} (h : wpOpIn Fence.wide 0 P ops Q j K a w) : wpOpIn Fence.wide 0 P ops Q j (fun a' w' => w' = w ∧ K a' w') a w := by
  unfold wpOpIn at *
  rw [hj] at h ⊢
  simp only at h ⊢
  by_cases hw : Region.wanted oj (yielded ops a.tmps) = true
  · rw [if_pos hw] at h ⊢
    refine ⟨fun _ _ => trivial, ?_⟩
    have hu := h.2
    rw [show Fence.wide.round = none from rfl, Oper.semAt_none] at hu ⊢
    cases hr : (execOp a.eval oj).run P w with
    | ok x w' =>
      obtain ⟨e1, v, rfl⟩ := still_run hs hr
      rw [hr] at hu
      exact ⟨e1, hu⟩
    | halt x w' =>
      rw [hr] at hu
      cases x with
      | panic u => exact hu
      | _ => exact hu.elim
  · rw [if_neg hw] at h ⊢
    exact ⟨fun _ _ => trivial, trivial, h.2⟩
theorem ahw_take {i : Nat} {oi : Oper} {v : Value} (hi : ops[i]? = some oi) (hsel : ∀ (j : Nat) (o : Oper) cs b, ops[j]? = some o → o.op ≠ .select cs b) (hQ : ∀ c a w, Q (.panic c) (a.put oi.dst v) w → Q (.panic c) a w)
    (Sx : World → Prop) (hS0 : ∀ w, Sx w → (late.contains i = false → S w)) (hSj : ∀ j oj, ops[j]? = some oj → stillOp oj.op = false → (∀ e ∈ oj.after, Region.binds .any e = true → e.on ≠ i) → ∀ w', (late.contains j = false → S w') → Sx w') :
    ∀ (fuel : Nat) (listed : Array Bool) (a : Act) (w : World),
      (∀ j oj, ops[j]? = some oj → j ≠ i → listed.getD j true = false → (∀ e ∈ oj.after, Region.binds .any e = true → e.on ≠ i) → oi.apart ops oj = true) →
      i ∈ Region.ready .any ops listed → (Region.wanted oi (yielded ops a.tmps) = true ∧ ∀ w, Sx w → (execOp a.eval oi).run P w = .ok (.value v) w) ∨ (Region.wanted oi (yielded ops a.tmps) = false ∧ v = undef) → Sx w →
      ahw P ops Q S late fuel (listed.setIfInBounds i true) (a.put oi.dst v) w → ahw P ops Q S late (fuel + 1) listed a w := by
  have now : ∀ (a : Act) (w : World) (K : Act → World → Prop), (Region.wanted oi (yielded ops a.tmps) = true ∧ ∀ w, Sx w → (execOp a.eval oi).run P w = .ok (.value v) w) ∨ (Region.wanted oi (yielded ops a.tmps) = false ∧ v = undef) → Sx w → K (a.put oi.dst v) w → wpOpIn Fence.wide 0 P ops Q i K a w := by
    intro a w K hy hS h
    unfold wpOpIn
    rw [hi]
    rcases hy with hy | ⟨hy, rfl⟩
    · simp only [hy.1, if_true]
      refine ⟨fun _ _ => trivial, ?_⟩
      rw [show Fence.wide.round = none from rfl, Oper.semAt_none, hy.2 w hS]
      exact h
    · simp only [hy, Bool.false_eq_true, if_false]
      exact ⟨fun _ _ => trivial, h⟩
  intro fuel
  induction fuel with
  | zero =>
    intro listed a w _ hr hy hS H
    refine ⟨fun h0 => absurd hr (by rw [h0]; simp), fun j hj => ?_⟩
    by_cases hji : j = i
    · subst hji; exact now a w _ hy hS ⟨hS0 w hS, H⟩
    · have h1 := ready_mono hj hji
      rw [H.1] at h1
      cases h1
  | succ fuel ih =>
    intro listed a w hfree hr hy hS H
    refine ⟨fun h0 => absurd hr (by rw [h0]; simp), fun j hj => ?_⟩
    by_cases hji : j = i
    · subst hji; exact now a w _ hy hS ⟨hS0 w hS, H⟩
    · have h1 := H.2 j (ready_mono hj hji)
      obtain ⟨hjun, oj, hoj, hall⟩ := mem_ready.1 hj
      have hiun := (mem_ready.1 hr).1
      have hnot : ∀ e ∈ oj.after, Region.binds .any e = true → e.on ≠ i := fun e he hb heq => by
        have h3 := hall e he hb
        rw [heq] at h3
        rcases Nat.lt_or_ge i listed.size with h4 | h4
        · simp only [Array.getD, h4, dif_pos] at hiun h3; rw [hiun] at h3; cases h3
        · simp [Array.getD, Nat.not_lt.2 h4] at hiun
      obtain ⟨q1, q2, q3⟩ := Oper.apart_spec (hfree j oj hoj hji hjun hnot)
      have h2 := op_put (T := fun a => (Region.wanted oi (yielded ops a.tmps) = true ∧ ∀ w, Sx w → (execOp a.eval oi).run P w = .ok (.value v) w) ∨ (Region.wanted oi (yielded ops a.tmps) = false ∧ v = undef)) hoj q1 q2 (fun cs b => hsel j oj cs b hoj) hQ
        (fun a u hT => hT.imp (fun hT => ⟨by rw [wanted_put oi a oj.dst u q3]; exact hT.1, fun w hS => by rw [execOp_put oi (fun cs b => hsel i oi cs b hi) a oj.dst u q3]; exact hT.2 w hS⟩) (fun hT => ⟨by rw [wanted_put oi a oj.dst u q3]; exact hT.1, hT.2⟩)) (fun a x hT => hT) hy h1
      have h2' : wpOpIn Fence.wide 0 P ops Q j (fun a' w' => Sx w' ∧ ((Region.wanted oi (yielded ops a'.tmps) = true ∧ ∀ w, Sx w → (execOp a'.eval oi).run P w = .ok (.value v) w) ∨ (Region.wanted oi (yielded ops a'.tmps) = false ∧ v = undef)) ∧ (late.contains j = false → S w') ∧ ahw P ops Q S late fuel ((listed.setIfInBounds i true).setIfInBounds j true) (a'.put oi.dst v) w') a w := by
        cases hst : stillOp oj.op with
        | true =>
          have h4 := op_still hoj hst h2
          refine wpOpIn_mono ?_ h4
          intro a' w' h3
          exact ⟨h3.1 ▸ hS, h3.2.1, h3.2.2⟩
        | false => exact wpOpIn_mono (fun a' w' h3 => ⟨hSj j oj hoj hst hnot w' h3.2.1, h3.1, h3.2⟩) h2
      refine wpOpIn_mono (fun a' w' h3 => ⟨h3.2.2.1, ih (listed.setIfInBounds j true) a' w' ?_ (ready_mono hr (Ne.symm hji)) h3.2.1 h3.1 ?_⟩) h2'
      · intro k ok hk hki hun hno
        refine hfree k ok hk hki ?_ hno
        by_cases hjk : j = k
        · subst hjk; exact hjun
        · rw [getD_set_ne true hjk] at hun; exact hun
      · rw [Array.setIfInBounds_comm _ _ hji]; exact h3.2.2.2
end
def hhw (P : Program) (ops : Array Oper) (Q : Exit → Act → World → Prop) (w0 : World) (Hs : List Asn) (late : List Nat) (fuel : Nat) (listed : Array Bool) (n : FN) (f : Nat → Value) (w : World) : Prop :=
  ahw P ops Q (fun w => ∃ Bs, Heap w0 w (Hs ++ Bs)) late fuel listed (fr n f) w
abbrev HW (P : Program) (ops : Array Oper) (Q : Exit → Act → World → Prop) (Hs : List Asn) (late : List Nat) (fuel : Nat) (listed : Array Bool) (n : FN) (f : Nat → Value) (w0 : World) (As : List Asn) : Prop :=
  J w0 As (hhw P ops Q w0 Hs late fuel listed n f)
/-- One value, in every world that has these parts. -/
def PL (P : Program) (op : Op) (ty : TypeId) (n : FN) (f : Nat → Value) (Hs : List Asn) (v : Value) : Prop :=
  ∀ w0 w Bs, Heap w0 w (Hs ++ Bs) → ∀ (o : Oper), o.op = op → o.type = ty → (execOp (ev n f) o).run P w = .ok (.value v) w
theorem PS.pl {P : Program} {op : Op} {ty : TypeId} {n : FN} {f : Nat → Value} {Hs : List Asn} {v : Value} (h : PS P op ty n f v) : PL P op ty n f Hs v := fun _ w _ _ o ho ht => h o ho ht w
section
variable {P : Program} {ops : Array Oper} {Q : Exit → Act → World → Prop} {n : FN} {f : Nat → Value} {w0 : World} {As As1 Hs Cs : List Asn} {fuel : Nat} {listed : Array Bool} {late : List Nat}
theorem CW.drawH (Hs : List Asn) (late : List Nat) {id : Nat} (hm : P.follows .mixedOrders = true) (h : HW P ops (Pan Q) Hs late ops.size (Array.replicate ops.size false) n f w0 As) (hro : n.r = none := by rfl) : CW P (.region id ops true) Q n f w0 As := fun w hw => by
  have h1 := ahw_any _ _ _ _ (h _ (heap_drew hw))
  have hf : fw n = Fence.wide := by unfold fw; rw [hro]; rfl
  show Code.wpIn (fw n) 0 P _ Q (fr n f) w
  rw [hf]
  exact wpIn_mono (wpIn_region_any hm h1) fun e a w hq => by cases e <;> first | exact hq | exact hq.elim
theorem late_keep {S : World → Prop} {i : Nat} (hlt : late.all (fun j => ((ops[j]?).map fun o => stillOp o.op || o.after.any fun e => Region.binds .any e && e.on == i).getD true) = true) (j : Nat) (oj : Oper) (ho : ops[j]? = some oj) (hst : stillOp oj.op = false) (hnot : ∀ e ∈ oj.after, Region.binds .any e = true → e.on ≠ i) (w' : World) (h : late.contains j = false → S w') : S w' := by
  refine h ?_
  cases hc : late.contains j with
  | false => rfl
  | true =>
    have h := List.all_eq_true.1 hlt j (by simpa using hc)
    simp only [ho, Option.map_some, Option.getD_some, hst, Bool.false_or] at h
    obtain ⟨e, he, hb⟩ := Array.any_eq_true'.1 h
    simp only [Bool.and_eq_true, beq_iff_eq] at hb
    exact absurd hb.2 (hnot e he hb.1)
theorem H_take {i : Nat} {oi : Oper} {v : Value} (d : Option Tmp) (hi : ops[i]? = some oi) (hd : oi.dst = d) (hsel : Region.noSelect ops = true) (hfree : Region.free .any ops listed i = true) (hr : (Region.ready .any ops listed).contains i = true)
    (hw : Region.wanted oi (yl ops n f) = true) (hs : PL P oi.op oi.type n f Hs v) (hlt : late.all (fun j => ((ops[j]?).map fun o => stillOp o.op || o.after.any fun e => Region.binds .any e && e.on == i).getD true) = true) (hp : As.Perm (Hs ++ Cs)) (h : HW P ops (Pan Q) Hs late fuel (listed.setIfInBounds i true) n (pu d v f) w0 As) : HW P ops (Pan Q) Hs late (fuel + 1) listed n f w0 As := fun w hwd => by
  subst hd
  refine ahw_take (v := v) hi (Region.noSelect_spec hsel) (fun _ _ _ (h : False) => h) (fun w => ∃ Bs, Heap w0 w (Hs ++ Bs)) (fun _ h _ => h) (late_keep hlt) fuel listed _ _ (Region.free_spec hi hfree) (by simpa using hr) (.inl ⟨?_, fun w ⟨Bs, hB⟩ => ?_⟩) ⟨Cs, hwd.perm hp⟩ ?_
  · have : yielded ops (fr n f).tmps = yl ops n f := funext (yielded_fr ops n f)
    rw [this]; exact hw
  · rw [fr_eval]; exact hs w0 w Bs hB oi rfl rfl
  · rw [fr_put]; exact h w hwd
/-- Passed over: its guard says no. -/
theorem H_pass {i : Nat} {oi : Oper} (d : Option Tmp) (hi : ops[i]? = some oi) (hd : oi.dst = d) (hsel : Region.noSelect ops = true) (hfree : Region.free .any ops listed i = true) (hr : (Region.ready .any ops listed).contains i = true)
    (hw : Region.wanted oi (yl ops n f) = false) (hlt : late.all (fun j => ((ops[j]?).map fun o => stillOp o.op || o.after.any fun e => Region.binds .any e && e.on == i).getD true) = true) (hp : As.Perm (Hs ++ Cs)) (h : HW P ops (Pan Q) Hs late fuel (listed.setIfInBounds i true) n (pu d undef f) w0 As) : HW P ops (Pan Q) Hs late (fuel + 1) listed n f w0 As := fun w hwd => by
  subst hd
  refine ahw_take (v := undef) hi (Region.noSelect_spec hsel) (fun _ _ _ (h : False) => h) (fun w => ∃ Bs, Heap w0 w (Hs ++ Bs)) (fun _ h _ => h) (late_keep hlt) fuel listed _ _ (Region.free_spec hi hfree) (by simpa using hr) (.inr ⟨?_, rfl⟩) ⟨Cs, hwd.perm hp⟩ ?_
  · have : yielded ops (fr n f).tmps = yl ops n f := funext (yielded_fr ops n f)
    rw [this]; exact hw
  · rw [fr_put]; exact h w hwd
/-- A plain one that may come late. -/
theorem H_takeP {i : Nat} {oi : Oper} {v : Value} (d : Option Tmp) (hi : ops[i]? = some oi) (hd : oi.dst = d) (hsel : Region.noSelect ops = true) (hfree : Region.free .any ops listed i = true) (hr : (Region.ready .any ops listed).contains i = true)
    (hw : Region.wanted oi (yl ops n f) = true) (hs : PS P oi.op oi.type n f v) (hl : late.contains i = true) (h : HW P ops (Pan Q) Hs late fuel (listed.setIfInBounds i true) n (pu d v f) w0 As) : HW P ops (Pan Q) Hs late (fuel + 1) listed n f w0 As := fun w hwd => by
  subst hd
  refine ahw_take (v := v) hi (Region.noSelect_spec hsel) (fun _ _ _ (h : False) => h) (fun _ => True) (fun _ _ h0 => (by rw [hl] at h0; cases h0)) (fun _ _ _ _ _ _ _ => trivial) fuel listed _ _ (Region.free_spec hi hfree) (by simpa using hr) (.inl ⟨?_, fun w _ => ?_⟩) trivial ?_
  · have : yielded ops (fr n f).tmps = yl ops n f := funext (yielded_fr ops n f)
    rw [this]; exact hw
  · rw [fr_eval]; exact hs oi rfl rfl w
  · rw [fr_put]; exact h w hwd
theorem H_passP {i : Nat} {oi : Oper} (d : Option Tmp) (hi : ops[i]? = some oi) (hd : oi.dst = d) (hsel : Region.noSelect ops = true) (hfree : Region.free .any ops listed i = true) (hr : (Region.ready .any ops listed).contains i = true)
    (hw : Region.wanted oi (yl ops n f) = false) (hl : late.contains i = true) (h : HW P ops (Pan Q) Hs late fuel (listed.setIfInBounds i true) n (pu d undef f) w0 As) : HW P ops (Pan Q) Hs late (fuel + 1) listed n f w0 As := fun w hwd => by
  subst hd
  refine ahw_take (v := undef) hi (Region.noSelect_spec hsel) (fun _ _ _ (h : False) => h) (fun _ => True) (fun _ _ h0 => (by rw [hl] at h0; cases h0)) (fun _ _ _ _ _ _ _ => trivial) fuel listed _ _ (Region.free_spec hi hfree) (by simpa using hr) (.inr ⟨?_, rfl⟩) trivial ?_
  · have : yielded ops (fr n f).tmps = yl ops n f := funext (yielded_fr ops n f)
    rw [this]; exact hw
  · rw [fr_put]; exact h w hwd
theorem pkc {A : Asn} {As Bs Cs Ds : List Asn} (h1 : As.Perm (A :: Bs)) (h2 : Bs.Perm (Cs ++ Ds)) : As.Perm ((A :: Cs) ++ Ds) := h1.trans (h2.cons A)
theorem pkn (As : List Asn) : As.Perm (([] : List Asn) ++ As) := List.Perm.refl _
theorem H_done (hr : Region.ready .any ops listed = []) (h : PW Q .normal n f w0 As) : HW P ops (Pan Q) Hs late fuel listed n f w0 As := fun w hw => by
  cases fuel with
  | zero => exact ⟨hr, h w hw⟩
  | succ k => exact ⟨fun _ => h w hw, fun i hi => by rw [hr] at hi; cases hi⟩
def HR (P : Program) (ops : Array Oper) (Q : Exit → Act → World → Prop) (Hs : List Asn) (late : List Nat) (fuel : Nat) (listed : Array Bool) (n : FN) (f : Nat → Value) (w0 : World) (As : List Asn) (rs : List Nat) : Prop :=
  ∀ i ∈ rs, J w0 As fun w => wpOpIn Fence.wide 0 P ops Q i (fun a' w' => (late.contains i = false → ∃ Bs, Heap w0 w' (Hs ++ Bs)) ∧ ahw P ops Q (fun w => ∃ Bs, Heap w0 w (Hs ++ Bs)) late fuel (listed.setIfInBounds i true) a' w') (fr n f) w
theorem H_branch {rs : List Nat} (hr : Region.ready .any ops listed = rs) (hne : rs ≠ []) (h : HR P ops Q Hs late fuel listed n f w0 As rs) : HW P ops Q Hs late (fuel + 1) listed n f w0 As := fun w hw =>
  ⟨fun h0 => absurd (hr ▸ h0) hne, fun i hi => h i (hr ▸ hi) w hw⟩
theorem HR.nil : HR P ops Q Hs late fuel listed n f w0 As [] := fun _ h => by cases h
theorem HR.consE {i : Nat} {rs : List Nat} {oi : Oper} {R : Value → List Asn → Prop} (d : Option Tmp) (hi : ops[i]? = some oi) (hd : oi.dst = d) (hw : Region.wanted oi (yl ops n f) = true) (hs : OS P oi.op oi.type n f w0 As R)
    (h : ∀ v As', R v As' → (late.contains i = false → ∃ Cs, As'.Perm (Hs ++ Cs)) ∧ HW P ops Q Hs late fuel (listed.setIfInBounds i true) n (pu d v f) w0 As') (k : HR P ops Q Hs late fuel listed n f w0 As rs) (hro : n.r = none := by rfl) : HR P ops Q Hs late fuel listed n f w0 As (i :: rs) := fun j hj => by
  subst hd
  rcases List.mem_cons.1 hj with rfl | hj
  · intro w hwd
    unfold wpOpIn
    rw [hi]
    have : yielded ops (fr n f).tmps = yl ops n f := funext (yielded_fr ops n f)
    simp only [this, hw, if_true]
    have hf : fw n = Fence.wide := by unfold fw; rw [hro]; rfl
    have h1 := hs w hwd _ rfl rfl (fun a' w' => (late.contains j = false → ∃ Bs, Heap w0 w' (Hs ++ Bs)) ∧ ahw P ops Q (fun w => ∃ Bs, Heap w0 w (Hs ++ Bs)) late fuel (listed.setIfInBounds j true) a' w') Q (fun v' As' w' hr hw' => by
      obtain ⟨h1, h2⟩ := h v' As' hr
      exact ⟨fun hl => let ⟨Cs, hp⟩ := h1 hl; ⟨Cs, hw'.perm hp⟩, h2 w' hw'⟩)
    rw [hf] at h1
    exact h1
  · exact k j hj
theorem HR.cons1 {i : Nat} {rs : List Nat} {oi : Oper} {v : Value} (d : Option Tmp) (hi : ops[i]? = some oi) (hd : oi.dst = d) (hw : Region.wanted oi (yl ops n f) = true) (hs : OS P oi.op oi.type n f w0 As (Is v As1)) (hp : As1.Perm (Hs ++ Cs))
    (h : HW P ops Q Hs late fuel (listed.setIfInBounds i true) n (pu d v f) w0 As1) (k : HR P ops Q Hs late fuel listed n f w0 As rs) (hro : n.r = none := by rfl) : HR P ops Q Hs late fuel listed n f w0 As (i :: rs) :=
  HR.consE d hi hd hw hs (fun v' As' hr => by obtain ⟨rfl, rfl⟩ := hr; exact ⟨fun _ => ⟨Cs, hp⟩, h⟩) k hro
/-- A late one: the parts need not be there any more. -/
theorem HR.consL {i : Nat} {rs : List Nat} {oi : Oper} {v : Value} (d : Option Tmp) (hi : ops[i]? = some oi) (hd : oi.dst = d) (hw : Region.wanted oi (yl ops n f) = true) (hs : OS P oi.op oi.type n f w0 As (Is v As1)) (hl : late.contains i = true)
    (h : HW P ops Q Hs late fuel (listed.setIfInBounds i true) n (pu d v f) w0 As1) (k : HR P ops Q Hs late fuel listed n f w0 As rs) (hro : n.r = none := by rfl) : HR P ops Q Hs late fuel listed n f w0 As (i :: rs) :=
  HR.consE d hi hd hw hs (fun v' As' hr => by obtain ⟨rfl, rfl⟩ := hr; exact ⟨fun h0 => (by rw [hl] at h0; cases h0), h⟩) k hro
end
attribute [irreducible] hhw
theorem J.mk {w0 : World} {As : List Asn} {G : World → Prop} (h : ∀ w, Heap w0 w As → G w) : J w0 As G := h
theorem J.run {w0 : World} {As : List Asn} {G : World → Prop} (h : J w0 As G) : ∀ w, Heap w0 w As → G w := h
attribute [irreducible] J lw cw pw aw
end Go.SL
