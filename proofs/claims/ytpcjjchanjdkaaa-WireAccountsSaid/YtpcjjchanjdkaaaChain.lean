/- A drawn region of a chain of calls, each of which reads a block that was made anywhere ahead of it: one proof for all orders. -/
import Derived.Test.YtpcjjchanjdkaaaAri
namespace Go.SL
set_option linter.unusedVariables false
set_option linter.unusedSimpArgs false
open Go

section
variable {P : Program} {ops : Array Oper} {Q : Exit → Act → World → Prop} {n : FN} {w0 : World} {Hs : List Asn} {late : List Nat}
theorem count_set {L : List Bool} : ∀ {i : Nat}, (hi : L[i]? = some false) → (L.set i true).count false + 1 = L.count false := by
  induction L with
  | nil => intro i hi; simp at hi
  | cons b L ih =>
    intro i hi
    cases i with
    | zero =>
      simp only [List.getElem?_cons_zero, Option.some.injEq] at hi
      subst hi
      simp
    | succ i =>
      simp only [List.getElem?_cons_succ] at hi
      have := ih hi
      simp only [List.set_cons_succ, List.count_cons]
      omega
theorem ready_false {L : List Bool} {i : Nat} (h : i ∈ Region.ready .any ops L.toArray) : L[i]? = some false := by
  obtain ⟨h1, _⟩ := mem_ready.1 h
  rcases Nat.lt_or_ge i L.length with h4 | h4
  · simp only [Array.getD, List.size_toArray, h4, dif_pos] at h1
    rw [List.getElem?_eq_getElem h4]
    simpa using h1
  · simp [Array.getD, Nat.not_lt.2 h4] at h1
/-- A region by a statement that each operation keeps. -/
theorem H_inv (I : List Bool → (Nat → Value) → List Asn → Prop)
    (step : ∀ L f As, I L f As → ∀ i, i ∈ Region.ready .any ops L.toArray → ∃ oi, ops[i]? = some oi ∧ Region.wanted oi (yl ops n f) = true ∧ ∃ R, OS P oi.op oi.type n f w0 As R ∧
      ∀ v As', R v As' → (∃ Cs, As'.Perm (Hs ++ Cs)) ∧ I (L.set i true) (pu oi.dst v f) As')
    (done : ∀ L f As, I L f As → Region.ready .any ops L.toArray = [] → PW Q .normal n f w0 As) (hro : n.r = none) :
    ∀ (fuel : Nat) (L : List Bool) (f : Nat → Value) (As : List Asn), L.count false ≤ fuel → I L f As → HW P ops (Pan Q) Hs late fuel L.toArray n f w0 As
  | fuel, L, f, As, hc, hI => by
    by_cases hr : Region.ready .any ops L.toArray = []
    · exact H_done hr (done L f As hI hr)
    · cases fuel with
      | zero =>
        exfalso
        obtain ⟨i, hi⟩ := List.exists_mem_of_ne_nil _ hr
        have := count_set (ready_false hi)
        omega
      | succ k =>
        refine H_branch rfl hr fun i hi => ?_
        obtain ⟨oi, h1, h2, R, h3, h4⟩ := step L f As hI i hi
        have hcs := count_set (ready_false hi)
        have key : HR P ops (Pan Q) Hs late k L.toArray n f w0 As [i] := HR.consE oi.dst h1 rfl h2 h3 (fun v As' hr' => by
          obtain ⟨h5, h6⟩ := h4 v As' hr'
          refine ⟨fun _ => h5, ?_⟩
          rw [List.setIfInBounds_toArray]
          exact H_inv I step done hro k (L.set i true) (pu oi.dst v f) As' (by omega) h6) HR.nil hro
        exact key i (by simp)

structure Link where
  ai : Nat
  ad : Nat
  ci : Nat
  cd : Nat
  sv : Nat → Value
  blk : Nat → Asn
  W : Asn
  r : Value
/-- What is listed: of the blocks those that 's' says, of the calls the first c. -/
def cLf (base : List Bool) (ais cis : List Nat) (c : Nat) (s : List Bool) : List Bool :=
  (ais.zip s).foldl (fun L p => bif p.2 then L.set p.1 true else L) ((cis.take c).foldl (fun L i => L.set i true) base)
def bools : Nat → List (List Bool)
  | 0 => [[]]
  | m + 1 => (bools m).flatMap fun s => [true :: s, false :: s]
theorem mem_bools : ∀ s : List Bool, s ∈ bools s.length
  | [] => by simp [bools]
  | b :: s => by
    simp only [bools, List.length_cons, List.mem_flatMap]
    exact ⟨s, mem_bools s, by cases b <;> simp⟩
def chkStep (ais cis : List Nat) (Lf : Nat → List Bool → List Bool) (m c : Nat) (s : List Bool) (i : Nat) : Bool :=
  (List.range m).any (fun k => ais[k]? == some i && s[k]? == some false && Lf c (s.set k true) == (Lf c s).set i true) ||
  (decide (c < m) && cis[c]? == some i && s[c]? == some true && Lf (c + 1) s == (Lf c s).set i true)
def chkChain (ops : Array Oper) (base : List Bool) (ais cis : List Nat) (m : Nat) : Bool :=
  (List.range (m + 1)).all fun c => (bools m).all fun s =>
    !((s.take c).all id) || ((Region.ready .any ops (cLf base ais cis c s).toArray).all (chkStep ais cis (cLf base ais cis) m c s) && (!(Region.ready .any ops (cLf base ais cis c s).toArray).isEmpty || c == m))

def AllocOb (P : Program) (ops : Array Oper) (n : FN) (w0 : World) (D : List Nat) (f0 : Nat → Value) (l : Link) : Prop :=
  ∃ oi, ops[l.ai]? = some oi ∧ oi.dst = some l.ad ∧ oi.guard = none ∧ ∀ f, Ag D f f0 → ∀ As, OS P oi.op oi.type n f w0 As (fun v Bs => ∃ b, v = l.sv b ∧ Bs = l.blk b :: As)
def CallOb (P : Program) (ops : Array Oper) (n : FN) (w0 : World) (D : List Nat) (f0 : Nat → Value) (W0 : Asn) (prev : Option (Nat × Value)) (l : Link) : Prop :=
  ∃ oi, ops[l.ci]? = some oi ∧ oi.dst = some l.cd ∧ oi.guard = none ∧ ∀ f b, Ag D f f0 → f l.ad = l.sv b → (∀ p, prev = some p → f p.1 = p.2) → ∀ As F, As.Perm (W0 :: l.blk b :: F) → OS P oi.op oi.type n f w0 As (Is l.r (l.W :: l.blk b :: F))
def LinksOb (P : Program) (ops : Array Oper) (n : FN) (w0 : World) (D : List Nat) (f0 : Nat → Value) : Asn → Option (Nat × Value) → List Link → Prop
  | _, _, [] => True
  | W0, prev, l :: ls => AllocOb P ops n w0 D f0 l ∧ CallOb P ops n w0 D f0 W0 prev l ∧ LinksOb P ops n w0 D f0 l.W (some (l.cd, l.r)) ls
def Wat (W0 : Asn) (links : List Link) : Nat → Asn
  | 0 => W0
  | c + 1 => ((links[c]?).map Link.W).getD W0
def prevAt (prev : Option (Nat × Value)) (links : List Link) : Nat → Option (Nat × Value)
  | 0 => prev
  | c + 1 => (links[c]?).map fun l => (l.cd, l.r)
theorem LinksOb.get {D : List Nat} {f0 : Nat → Value} : ∀ {links : List Link} {W0 : Asn} {prev : Option (Nat × Value)} {k : Nat} {l : Link}, LinksOb P ops n w0 D f0 W0 prev links → links[k]? = some l →
    AllocOb P ops n w0 D f0 l ∧ CallOb P ops n w0 D f0 (Wat W0 links k) (prevAt prev links k) l
  | [], _, _, _, _, _, h => by simp at h
  | m :: ls, W0, prev, 0, l, h, hk => by
    simp only [List.getElem?_cons_zero, Option.some.injEq] at hk
    subst hk
    exact ⟨h.1, h.2.1⟩
  | m :: ls, W0, prev, k + 1, l, h, hk => by
    simp only [List.getElem?_cons_succ] at hk
    have := LinksOb.get h.2.2 hk
    refine ⟨this.1, ?_⟩
    cases k with
    | zero => exact this.2
    | succ k =>
      have hlt : k < ls.length := by
        rcases Nat.lt_or_ge (k + 1) ls.length with h | h
        · omega
        · rw [List.getElem?_eq_none h] at hk; cases hk
      have e1 : Wat W0 (m :: ls) (k + 1 + 1) = Wat m.W ls (k + 1) := by
        simp [Wat, List.getElem?_eq_getElem hlt]
      have e2 : prevAt prev (m :: ls) (k + 1 + 1) = prevAt (some (m.cd, m.r)) ls (k + 1) := by simp [prevAt]
      rw [e1, e2]; exact this.2
def blksOf (links : List Link) (σ : List (Option Nat)) : List Asn := (links.zip σ).filterMap fun p => p.2.map p.1.blk
theorem blksOf_set : ∀ {links : List Link} {σ : List (Option Nat)} {k : Nat} {l : Link} (b : Nat), links[k]? = some l → σ[k]? = some none → (blksOf links (σ.set k (some b))).Perm (l.blk b :: blksOf links σ)
  | [], _, _, _, _, h, _ => by simp at h
  | _ :: _, [], _, _, _, _, h => by simp at h
  | m :: ls, x :: σ, 0, l, b, h1, h2 => by
    simp only [List.getElem?_cons_zero, Option.some.injEq] at h1 h2
    subst h1; subst h2
    simp [blksOf]
  | m :: ls, x :: σ, k + 1, l, b, h1, h2 => by
    simp only [List.getElem?_cons_succ] at h1 h2
    have ih := blksOf_set b h1 h2
    cases x with
    | none => simpa [blksOf] using ih
    | some y =>
      have e1 : blksOf (m :: ls) ((some y :: σ).set (k + 1) (some b)) = m.blk y :: blksOf ls (σ.set k (some b)) := by simp [blksOf]
      have e2 : blksOf (m :: ls) (some y :: σ) = m.blk y :: blksOf ls σ := by simp [blksOf]
      rw [e1, e2]
      exact (ih.cons _).trans (List.Perm.swap _ _ _)
theorem blksOf_get : ∀ {links : List Link} {σ : List (Option Nat)} {k : Nat} {l : Link} {b : Nat}, links[k]? = some l → σ[k]? = some (some b) → ∃ F, (blksOf links σ).Perm (l.blk b :: F)
  | [], _, _, _, _, h, _ => by simp at h
  | _ :: _, [], _, _, _, _, h => by simp at h
  | m :: ls, x :: σ, 0, l, b, h1, h2 => by
    simp only [List.getElem?_cons_zero, Option.some.injEq] at h1 h2
    subst h1; subst h2
    exact ⟨blksOf ls σ, by simp [blksOf]⟩
  | m :: ls, x :: σ, k + 1, l, b, h1, h2 => by
    simp only [List.getElem?_cons_succ] at h1 h2
    obtain ⟨F, ih⟩ := blksOf_get h1 h2
    cases x with
    | none => exact ⟨F, by simpa [blksOf] using ih⟩
    | some y =>
      have e2 : blksOf (m :: ls) (some y :: σ) = m.blk y :: blksOf ls σ := by simp [blksOf]
      exact ⟨m.blk y :: F, by rw [e2]; exact (ih.cons _).trans (List.Perm.swap _ _ _)⟩

theorem nodup_get {α : Type} {l : List α} (h : l.Nodup) {i j : Nat} {x : α} (hi : l[i]? = some x) (hj : l[j]? = some x) : i = j := by
  obtain ⟨h1, h2⟩ := List.getElem?_eq_some_iff.1 hi
  exact (List.getElem?_inj h1 h).1 (hi.trans hj.symm)
theorem pu_eq (d : Nat) (v : Value) (f : Nat → Value) : pu (some d) v f d = v := by simp [pu]
theorem pu_ne {d t : Nat} (v : Value) (f : Nat → Value) (h : d ≠ t) : pu (some d) v f t = f t := by
  have : Nat.beq d t = false := by cases hb : Nat.beq d t with | false => rfl | true => exact absurd (Nat.eq_of_beq_eq_true hb) h
  simp [pu, this]

/-- The chain. -/
theorem H_chain (links : List Link) (base : List Bool) (W0 : Asn) (Cs : List Asn) (f0 : Nat → Value) {listed : Array Bool} {As : List Asn} {fuel : Nat}
    (hl : listed = base.toArray) (hchk : chkChain ops base (links.map Link.ai) (links.map Link.ci) links.length = true)
    (hnd : (links.map Link.ad ++ links.map Link.cd).Nodup)
    (hob : LinksOb P ops n w0 (links.map Link.ad ++ links.map Link.cd) f0 W0 none links)
    (hp : As.Perm (W0 :: (Hs ++ Cs)))
    (hfu : base.count false ≤ fuel)
    (fin : ∀ g Bs, Ag (links.map Link.ad ++ links.map Link.cd) g f0 → (∀ l ∈ links, g l.cd = l.r) → (∃ Ds, Bs.Perm (Wat W0 links links.length :: (Hs ++ (Cs ++ Ds)))) → PW Q .normal n g w0 Bs) (hro : n.r = none := by rfl) :
    HW P ops (Pan Q) Hs late fuel listed n f0 w0 As := by
  subst hl
  have hsome : ∀ (σ : List (Option Nat)) (k : Nat) (b : Bool), (σ.map Option.isSome)[k]? = some b → ∃ x, σ[k]? = some x ∧ x.isSome = b := fun σ k b h => by
    rw [List.getElem?_map] at h
    exact Option.map_eq_some_iff.1 h
  let m := links.length
  let I : List Bool → (Nat → Value) → List Asn → Prop := fun L f As => ∃ (c : Nat) (σ : List (Option Nat)), σ.length = links.length ∧ c ≤ links.length ∧ ((σ.map Option.isSome).take c).all id = true ∧
    L = cLf base (links.map Link.ai) (links.map Link.ci) c (σ.map Option.isSome) ∧ Ag (links.map Link.ad ++ links.map Link.cd) f f0 ∧
    (∀ (k : Nat) (l : Link) (b : Nat), links[k]? = some l → σ[k]? = some (some b) → f l.ad = l.sv b) ∧ (∀ (k : Nat) (l : Link), links[k]? = some l → k < c → f l.cd = l.r) ∧ As.Perm (Wat W0 links c :: (Hs ++ (Cs ++ blksOf links σ)))
  have hchk' : ∀ c (σ : List (Option Nat)), σ.length = links.length → c ≤ links.length → ((σ.map Option.isSome).take c).all id = true →
      (∀ i ∈ Region.ready .any ops (cLf base (links.map Link.ai) (links.map Link.ci) c (σ.map Option.isSome)).toArray, chkStep (links.map Link.ai) (links.map Link.ci) (cLf base (links.map Link.ai) (links.map Link.ci)) links.length c (σ.map Option.isSome) i = true) ∧
      (Region.ready .any ops (cLf base (links.map Link.ai) (links.map Link.ci) c (σ.map Option.isSome)).toArray = [] → c = links.length) := by
    intro c σ hσ hc hall
    have h1 := List.all_eq_true.1 hchk c (List.mem_range.2 (by omega))
    have h2 := List.all_eq_true.1 h1 (σ.map Option.isSome) (by have := mem_bools (σ.map Option.isSome); rwa [List.length_map, hσ] at this)
    rw [hall, Bool.not_true, Bool.false_or, Bool.and_eq_true] at h2
    refine ⟨fun i hi => List.all_eq_true.1 h2.1 i hi, fun h0 => ?_⟩
    have := h2.2
    rw [h0] at this
    simpa using this
  have hadD : ∀ {k : Nat} {l : Link}, links[k]? = some l → l.ad ∈ links.map Link.ad ++ links.map Link.cd := fun h => List.mem_append_left _ (List.mem_map.2 ⟨_, List.mem_of_getElem? h, rfl⟩)
  have hcdD : ∀ {k : Nat} {l : Link}, links[k]? = some l → l.cd ∈ links.map Link.ad ++ links.map Link.cd := fun h => List.mem_append_right _ (List.mem_map.2 ⟨_, List.mem_of_getElem? h, rfl⟩)
  have hagD : ∀ {f : Nat → Value} {d : Nat} (v : Value), d ∈ links.map Link.ad ++ links.map Link.cd → Ag (links.map Link.ad ++ links.map Link.cd) f f0 → Ag (links.map Link.ad ++ links.map Link.cd) (pu (some d) v f) f0 := fun v hd h =>
    Ag.pu v (List.any_eq_true.2 ⟨_, hd, Nat.beq_refl _⟩) h
  have adad : ∀ {i j : Nat} {l l' : Link}, links[i]? = some l → links[j]? = some l' → l.ad = l'.ad → i = j := fun {i j l l'} h1 h2 h => by
    refine nodup_get (List.nodup_append.1 hnd).1 (i := i) (j := j) (x := l.ad) (by simp [h1]) (by simp [h2, h])
  have cdcd : ∀ {i j : Nat} {l l' : Link}, links[i]? = some l → links[j]? = some l' → l.cd = l'.cd → i = j := fun {i j l l'} h1 h2 h => by
    refine nodup_get (List.nodup_append.1 hnd).2.1 (i := i) (j := j) (x := l.cd) (by simp [h1]) (by simp [h2, h])
  have adcd : ∀ {i j : Nat} {l l' : Link}, links[i]? = some l → links[j]? = some l' → l.ad ≠ l'.cd := fun {i j l l'} h1 h2 h =>
    (List.nodup_append.1 hnd).2.2 l.ad (List.mem_map.2 ⟨_, List.mem_of_getElem? h1, rfl⟩) l'.cd (List.mem_map.2 ⟨_, List.mem_of_getElem? h2, rfl⟩) h
  refine H_inv I ?_ ?_ hro fuel base f0 As hfu ?_
  · rintro L f As ⟨c, σ, hσ, hc, hall, rfl, hag, hsl, hcl, hpm⟩ i hi
    have h1 := (hchk' c σ hσ hc hall).1 i hi
    unfold chkStep at h1
    rcases Bool.or_eq_true_iff.1 h1 with h1 | h1
    · obtain ⟨k, hk, h2⟩ := List.any_eq_true.1 h1
      simp only [Bool.and_eq_true, beq_iff_eq] at h2
      obtain ⟨⟨h3, h4⟩, h5⟩ := h2
      obtain ⟨l, hlk, rfl⟩ := Option.map_eq_some_iff.1 (by rw [← List.getElem?_map]; exact h3)
      obtain ⟨x, hx, hxs⟩ := hsome σ k false h4
      obtain rfl : x = none := by cases x with | none => rfl | some _ => cases hxs
      obtain ⟨oi, q1, q2, q3, q4⟩ := (hob.get hlk).1
      refine ⟨oi, q1, by unfold Region.wanted; rw [q3], _, q4 f hag As, ?_⟩
      rintro v As' ⟨b, rfl, rfl⟩
      have hkl : k < σ.length := by
        rcases Nat.lt_or_ge k σ.length with h | h
        · exact h
        · rw [List.getElem?_eq_none h] at hx; cases hx
      have hset : (σ.set k (some b)).map Option.isSome = (σ.map Option.isSome).set k true := by rw [List.map_set]; rfl
      refine ⟨⟨l.blk b :: Wat W0 links c :: (Cs ++ blksOf links σ), ?_⟩, c, σ.set k (some b), by simpa using hσ, hc, ?_, ?_, ?_, ?_, ?_, ?_⟩
      · refine (hpm.cons _).trans ?_
        refine (List.Perm.trans ?_ (List.perm_append_comm))
        simp only [List.cons_append]
        exact ((List.perm_append_comm (l₁ := Hs)).cons _).cons _
      · rw [hset]
        refine List.all_eq_true.2 fun z hz => ?_
        have : ∀ (l : List Bool) (c k : Nat), (l.take c).all id = true → ((l.set k true).take c).all id = true := by
          intro l
          induction l with
          | nil => intros; simp
          | cons a l ih =>
            intro c k h
            cases c with
            | zero => simp
            | succ c =>
              simp only [List.take_succ_cons, List.all_cons, Bool.and_eq_true] at h
              cases k with
              | zero => simp only [List.set_cons_zero, List.take_succ_cons, List.all_cons, Bool.and_eq_true]; exact ⟨rfl, h.2⟩
              | succ k => simp only [List.set_cons_succ, List.take_succ_cons, List.all_cons, Bool.and_eq_true]; exact ⟨h.1, ih c k h.2⟩
        exact List.all_eq_true.1 (this _ c k hall) z hz
      · rw [hset]; exact h5.symm
      · rw [q2]; exact hagD _ (hadD hlk) hag
      · intro k' l' b' hl' hs'
        rw [q2]
        by_cases hkk : k = k'
        · subst hkk
          rw [hlk] at hl'
          obtain rfl := Option.some.inj hl'
          rw [List.getElem?_set_self hkl] at hs'
          obtain rfl := Option.some.inj (Option.some.inj hs')
          exact pu_eq _ _ _
        · rw [List.getElem?_set_ne hkk] at hs'
          rw [pu_ne _ _ (fun h => hkk (adad hlk hl' h))]
          exact hsl k' l' b' hl' hs'
      · intro k' l' hl' hlt
        rw [q2, pu_ne _ _ (adcd hlk hl')]
        exact hcl k' l' hl' hlt
      · refine (hpm.cons _).trans ?_
        refine List.Perm.trans ?_ (((((blksOf_set b hlk hx).append_left Cs).append_left Hs)).symm.cons _)
        refine (List.Perm.swap _ _ _).trans (List.Perm.cons _ ?_)
        refine List.Perm.trans ?_ (List.perm_middle.symm.append_left Hs)
        exact List.perm_middle.symm
    · simp only [Bool.and_eq_true, beq_iff_eq, decide_eq_true_eq] at h1
      obtain ⟨⟨⟨h2, h3⟩, h4⟩, h5⟩ := h1
      obtain ⟨l, hlk, rfl⟩ := Option.map_eq_some_iff.1 (by rw [← List.getElem?_map]; exact h3)
      obtain ⟨x, hx, hxs⟩ := hsome σ c true h4
      obtain ⟨b, rfl⟩ : ∃ b, x = some b := by cases x with | none => cases hxs | some b => exact ⟨b, rfl⟩
      obtain ⟨oi, q1, q2, q3, q4⟩ := (hob.get hlk).2
      obtain ⟨F, hF⟩ := blksOf_get hlk hx
      have hpm2 : As.Perm (Wat W0 links c :: l.blk b :: (Hs ++ (Cs ++ F))) := by
        refine hpm.trans (List.Perm.cons _ ?_)
        refine ((hF.append_left Cs).append_left Hs).trans ?_
        refine (List.perm_middle.append_left Hs).trans ?_
        exact List.perm_middle
      have hprev : ∀ p, prevAt none links c = some p → f p.1 = p.2 := by
        intro p hp
        cases c with
        | zero => cases hp
        | succ c =>
          obtain ⟨l', hl', rfl⟩ := Option.map_eq_some_iff.1 hp
          exact hcl c l' hl' (by omega)
      refine ⟨oi, q1, by unfold Region.wanted; rw [q3], _, q4 f b hag (hsl c l b hlk hx) hprev As _ hpm2, ?_⟩
      rintro v As' ⟨rfl, rfl⟩
      have hWat : Wat W0 links (c + 1) = l.W := by simp [Wat, hlk]
      refine ⟨⟨l.W :: l.blk b :: (Cs ++ F), ?_⟩, c + 1, σ, hσ, by omega, ?_, h5.symm, ?_, ?_, ?_, ?_⟩
      · refine List.Perm.trans ?_ (List.perm_append_comm)
        simp only [List.cons_append]
        exact ((List.perm_append_comm (l₁ := Hs)).cons _).cons _
      · have hlt : c < (σ.map Option.isSome).length := by rw [List.length_map, hσ]; exact h2
        rw [List.take_succ_eq_append_getElem hlt, List.all_append, hall]
        have : (σ.map Option.isSome)[c] = true := by
          have := List.getElem?_eq_getElem hlt
          rw [h4] at this
          exact (Option.some.inj this).symm
        simp [this]
      · rw [q2]; exact hagD _ (hcdD hlk) hag
      · intro k' l' b' hl' hs'
        rw [q2, pu_ne _ _ (fun h => adcd hl' hlk h.symm)]
        exact hsl k' l' b' hl' hs'
      · intro k' l' hl' hlt
        rw [q2]
        by_cases hkk : k' = c
        · subst hkk
          rw [hlk] at hl'
          obtain rfl := Option.some.inj hl'
          exact pu_eq _ _ _
        · rw [pu_ne _ _ (fun h => hkk (cdcd hlk hl' h).symm)]
          exact hcl k' l' hl' (by omega)
      · rw [hWat]
        refine List.Perm.cons _ ?_
        refine List.Perm.trans ?_ ((hF.append_left Cs).append_left Hs).symm
        refine List.Perm.trans ?_ (List.perm_middle.append_left Hs).symm
        exact List.perm_middle.symm
  · rintro L f As ⟨c, σ, hσ, hc, hall, rfl, hag, hsl, hcl, hpm⟩ hr
    obtain rfl := (hchk' c σ hσ hc hall).2 hr
    refine fin f As hag (fun l hl => ?_) ⟨_, hpm⟩
    obtain ⟨k, hk, rfl⟩ := List.getElem_of_mem hl
    exact hcl k _ (List.getElem?_eq_getElem hk) hk
  · refine ⟨0, List.replicate links.length none, by simp, by omega, by simp, ?_, Ag.refl _ _, ?_, ?_, ?_⟩
    · have : ∀ (ais : List Nat) (m : Nat) (L : List Bool), (ais.zip (List.replicate m false)).foldl (fun L (p : Nat × Bool) => bif p.2 then L.set p.1 true else L) L = L := by
        intro ais
        induction ais with
        | nil => intros; rfl
        | cons a ais ih =>
          intro m L
          cases m with
          | zero => rfl
          | succ m => simp only [List.replicate_succ, List.zip_cons_cons, List.foldl_cons, cond_false]; exact ih m L
      simp [cLf, this]
    · intro k l b _ h
      rw [List.getElem?_replicate] at h
      split at h <;> cases h
    · intro k l _ h
      omega
    · have hb : ∀ (links : List Link) (m : Nat), blksOf links (List.replicate m none) = [] := by
        intro links
        induction links with
        | nil => intros; rfl
        | cons a ls ih =>
          intro m
          cases m with
          | zero => rfl
          | succ m => simpa [blksOf, List.replicate_succ] using ih m
      rw [hb, List.append_nil]
      exact hp
/-- The same, its numbers written out. -/
theorem H_chainN (links : List Link) (ais cis ds : List Nat) (m : Nat) (base : List Bool) (W0 : Asn) (Cs : List Asn) (f0 : Nat → Value) {listed : Array Bool} {As : List Asn} {fuel : Nat}
    (ea : links.map Link.ai = ais) (ec : links.map Link.ci = cis) (ed : links.map Link.ad ++ links.map Link.cd = ds) (em : links.length = m)
    (hl : listed = base.toArray) (hchk : chkChain ops base ais cis m = true) (hnd : ds.Nodup)
    (hob : LinksOb P ops n w0 ds f0 W0 none links)
    (hp : As.Perm (W0 :: (Hs ++ Cs)))
    (hfu : base.count false ≤ fuel)
    (fin : ∀ g Bs, Ag ds g f0 → (∀ l ∈ links, g l.cd = l.r) → (∃ Ds, Bs.Perm (Wat W0 links m :: (Hs ++ (Cs ++ Ds)))) → PW Q .normal n g w0 Bs) (hro : n.r = none := by rfl) :
    HW P ops (Pan Q) Hs late fuel listed n f0 w0 As := by
  subst ea; subst ec; subst ed; subst em
  exact H_chain links base W0 Cs f0 hl hchk hnd hob hp hfu fin hro
end

/-! ## how its operands are read -/
def opFree (D : List Nat) : Operand → Bool
  | .tmp t => !(D.any (Nat.beq t))
  | _ => true
theorem ev_free {D : List Nat} {f f0 : Nat → Value} (n : FN) (h : Ag D f f0) (x : Operand) (hx : opFree D x = true) : ev n f x = ev n f0 x := by
  cases x with
  | tmp t =>
    simp only [opFree, Bool.not_eq_true'] at hx
    simp only [ev, h t hx]
  | _ => rfl
theorem parts_ag {n : FN} {D : List Nat} {f f0 : Nat → Value} (h : Ag D f f0) {l : List (Nat × Operand)} (hl : l.all (fun p => opFree D p.2) = true) : (l.map fun p => ev n f p.2) = l.map fun p => ev n f0 p.2 :=
  List.map_congr_left fun p hp => ev_free n h p.2 (List.all_eq_true.1 hl p hp)
def opFreeOr (D : List Nat) (a b : Nat) : Operand → Bool
  | .tmp t => !(D.any (Nat.beq t)) || Nat.beq a t || Nat.beq b t
  | _ => true
theorem args_ag {n : FN} {D : List Nat} {f f0 : Nat → Value} {a b : Nat} {v u : Value} (h : Ag D f f0) (ha : f a = v) (hb : f b = u) {l : List Operand} (hl : l.all (opFreeOr D a b) = true) : l.map (ev n f) = l.map (ev n (pu (some a) v (pu (some b) u f0))) :=
  List.map_congr_left fun x hx => by
    have h1 := List.all_eq_true.1 hl x hx
    cases x with
    | tmp t =>
      simp only [ev]
      by_cases hat : a = t
      · subst hat; rw [pu_eq, ha]
      · rw [pu_ne _ _ hat]
        by_cases hbt : b = t
        · subst hbt; rw [pu_eq, hb]
        · rw [pu_ne _ _ hbt]
          have e1 : Nat.beq a t = false := by cases hh : Nat.beq a t with | false => rfl | true => exact absurd (Nat.eq_of_beq_eq_true hh) hat
          have e2 : Nat.beq b t = false := by cases hh : Nat.beq b t with | false => rfl | true => exact absurd (Nat.eq_of_beq_eq_true hh) hbt
          simp only [opFreeOr, e1, e2, Bool.or_false, Bool.not_eq_true'] at h1
          rw [h t h1]
    | _ => rfl
theorem args_ag0 {n : FN} {D : List Nat} {f f0 : Nat → Value} {a : Nat} {v : Value} (h : Ag D f f0) (ha : f a = v) {l : List Operand} (hl : l.all (opFreeOr D a a) = true) : l.map (ev n f) = l.map (ev n (pu (some a) v (pu (some a) v f0))) := args_ag h ha ha hl
theorem Ag.via {D W : List Nat} {g f0 f : Nat → Value} (h : Ag D g f0) (hD : D.all (fun d => W.any (Nat.beq d)) = true) (h2 : Ag W f0 f) : Ag W g f := fun t ht => by
  rw [← h2 t ht]
  refine h t ?_
  cases hc : D.any (Nat.beq t) with
  | false => rfl
  | true =>
    obtain ⟨d, hd, hb⟩ := List.any_eq_true.1 hc
    have e := Nat.eq_of_beq_eq_true hb
    subst e
    rw [List.all_eq_true.1 hD t hd] at ht
    cases ht
theorem Ent.left (As Bs : List Asn) : Ent (As ++ Bs) As := fun L s => by
  induction As generalizing L with
  | nil => trivial
  | cons A As ih =>
    obtain ⟨L1, L2, h1, h2, h3⟩ := s
    exact ⟨L1, L2, h1, h2, ih L2 h3⟩
end Go.SL
