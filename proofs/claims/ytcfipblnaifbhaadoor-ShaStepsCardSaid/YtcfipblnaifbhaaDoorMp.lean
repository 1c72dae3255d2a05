/- Maps whose keys are integers: made, filled, looked up. -/
import Derived.Test.YtcfipblnaifbhaaDoorAri
import Derived.MapKept
namespace Go.SL
set_option linter.unusedVariables false
set_option linter.unusedSimpArgs false
open Go

variable {P : Program} {ty : TypeId} {n : FN} {f : Nat → Value} {w0 : World} {As Bs : List Asn} {x y m : Operand} {t kt et : TypeId} {v : Value} {kd : IntKind}
/-- A block that is a map of these entries, in the order in which they came. -/
def mapI (kd : IntKind) (b : Nat) (l : List (Int × Value)) : Asn := fun L => ∃ es clock, es.map (fun e : MapEntry => (e.key, e.val)) = l.map (fun p => (Value.int kd p.1, p.2)) ∧ L = [(b, .map (List.toArray es) clock)]
theorem os_makeMap (kd : IntKind) : OS P (.makeMap t none) ty n f w0 As (fun v Bs => ∃ b, v = .map (some b) ∧ Bs = mapI kd b [] :: As) :=
  OS.of_run fun w hw o' ho _ =>
    ⟨_, w.alloc (.map #[] 0), _, by simp [execOp, ho, Instr.makeMap], ⟨w.heap.size, rfl, rfl⟩, by
      have h := heap_new (.map #[] 0) hw
      obtain ⟨L, a1, L1, L2, a3, a4, a5⟩ := h
      exact ⟨L, a1, L1, L2, a3, ⟨[], 0, rfl, a4⟩, a5⟩⟩
theorem findNow_no (d : TypeDesc) (hd : d = .int kd) (k : Int) : ∀ (es : List MapEntry) (l : List (Int × Value)) (i : Nat), es.map (fun e : MapEntry => (e.key, e.val)) = l.map (fun p => (Value.int kd p.1, p.2)) → (∀ p ∈ l, p.1 ≠ k) → Instr.findNow d (.int kd k) es i = some none
  | [], _, _, _, _ => rfl
  | e :: es, [], _, h, _ => by simp at h
  | e :: es, p :: l, i, h, hn => by
    obtain ⟨h1, h2⟩ := List.cons.inj h
    have hk : e.key = .int kd p.1 := (Prod.mk.inj h1).1
    have hne : (k == p.1) = false := by
      have := hn p (by simp)
      simp; exact fun h => this h.symm
    subst hd
    simp only [Instr.findNow, hk, Instr.sameNow, if_true, hne]
    exact findNow_no _ rfl k es l (i + 1) h2 (fun q hq => hn q (by simp [hq]))
theorem findNow_yes (d : TypeDesc) (hd : d = .int kd) (k : Int) (v : Value) : ∀ (es : List MapEntry) (l : List (Int × Value)) (i : Nat), es.map (fun e : MapEntry => (e.key, e.val)) = l.map (fun p => (Value.int kd p.1, p.2)) → (l.find? (fun p => k == p.1)).map (·.2) = some v → ∃ j, Instr.findNow d (.int kd k) es i = some (some (j, v))
  | [], [], _, _, h => by simp at h
  | [], _ :: _, _, h, _ => by simp at h
  | e :: es, [], _, h, _ => by simp at h
  | e :: es, p :: l, i, h, hn => by
    obtain ⟨h1, h2⟩ := List.cons.inj h
    have hk : e.key = .int kd p.1 := (Prod.mk.inj h1).1
    have hv : e.val = p.2 := (Prod.mk.inj h1).2
    subst hd
    by_cases hp : k = p.1
    · have hb : (k == p.1) = true := by simp [hp]
      simp only [List.find?_cons, hb, Option.map_some, Option.some.injEq] at hn
      exact ⟨i, by simp only [Instr.findNow, hk, Instr.sameNow, if_true, hb, hv, hn]⟩
    · have hb : (k == p.1) = false := by simpa using hp
      simp only [List.find?_cons, hb] at hn
      obtain ⟨j, hj⟩ := findNow_yes _ rfl k v es l (i + 1) h2 hn
      exact ⟨j, by simp only [Instr.findNow, hk, Instr.sameNow, if_true, hb]; exact hj⟩
theorem checkKey_int {w : World} {b : Bool} (hk : P.underlying kt = some (.int kd)) (k : Int) : (Instr.checkKey b 10000 kt (.int kd k)).run P w = .ok () w := by
  exact MapKept.run_checkKey (d := .int kd) hk (by simp [MapKept.IsKey]) b 9999
theorem os_insert {b : Nat} {l : List (Int × Value)} {k : Int} (hp : As.Perm (mapI kd b l :: Bs)) (ht : P.underlying t = some (.map kt et)) (hk : P.underlying kt = some (.int kd)) (hm : ev n f m = .map (some b)) (hx : ev n f x = .int kd k) (hy : ev n f y = v) (hnew0 : (l.map (·.1)).all (fun a => decide (a ≠ k)) = true) :
    OS P (.insert t m x y) ty n f w0 As (Is undef (mapI kd b (l ++ [(k, v)]) :: Bs)) :=
  OS.of_skip fun w hw o' ho' _ => by
    obtain ⟨L, a1, L1, L2, a3, ⟨es, clock, e1, e2⟩, a5⟩ := hw.perm hp
    have hh : Heap w0 w (SL.pt b (.map es.toArray clock) :: Bs) := ⟨L, a1, L1, L2, a3, e2, a5⟩
    have hg := heap_get hh
    have hnew : ∀ p ∈ l, p.1 ≠ k := fun p hp => of_decide_eq_true (List.all_eq_true.1 hnew0 p.1 (List.mem_map.2 ⟨p, hp, rfl⟩))
    have hf := findNow_no (kd := kd) _ rfl k es l 0 e1 hnew
    have hset := heap_set (w' := { w with heap := w.heap.setIfInBounds b (.map (es.toArray.push { key := .int kd k, val := v, born := clock }) (clock + 1)) }) hh rfl rfl rfl (by simp) (o' := .map (es.toArray.push { key := .int kd k, val := v, born := clock }) (clock + 1)) (by
      have hlt : b < w.heap.size := by
        rcases Nat.lt_or_ge b w.heap.size with h | h
        · exact h
        · rw [Array.getElem?_eq_none h] at hg; cases hg
      simp [Array.getElem?_setIfInBounds, hlt]) (fun j hj => by simp [Array.getElem?_setIfInBounds, Ne.symm hj])
    refine ⟨_, _, by simp [execOp, ho', hm, hx, hy, Instr.mapUpdate, run_underlying ht, MapKept.run_getObj_map hg, checkKey_int hk, Instr.findKey, run_underlying hk, hf, MapKept.run_setObj_map _ hg]; rfl, ⟨rfl, rfl⟩, ?_⟩
    have hpush : es.toArray.push ({ key := .int kd k, val := v, born := clock } : MapEntry) = (es ++ [({ key := .int kd k, val := v, born := clock } : MapEntry)]).toArray := by simp
    rw [hpush] at hset
    try rw [hpush]
    obtain ⟨L', c1, c2, c3, c4, c5, c6⟩ := hset
    exact ⟨L', c1, c2, c3, c4, ⟨es ++ [({ key := .int kd k, val := v, born := clock } : MapEntry)], clock + 1, by simp [e1], c5⟩, c6⟩
theorem os_insertTo {b : Nat} {l l' : List (Int × Value)} {k : Int} (hp : As.Perm (mapI kd b l :: Bs)) (ht : P.underlying t = some (.map kt et)) (hk : P.underlying kt = some (.int kd)) (hm : ev n f m = .map (some b)) (hx : ev n f x = .int kd k) (hy : ev n f y = v) (hnew0 : (l.map (·.1)).all (fun a => decide (a ≠ k)) = true) (hl : l ++ [(k, v)] = l') :
    OS P (.insert t m x y) ty n f w0 As (Is undef (mapI kd b l' :: Bs)) := hl ▸ os_insert hp ht hk hm hx hy hnew0
theorem os_lookup {b : Nat} {l : List (Int × Value)} {k : Int} (hp : As.Perm (mapI kd b l :: Bs)) (ht : P.underlying t = some (.map kt et)) (hk : P.underlying kt = some (.int kd)) (hm : ev n f m = .map (some b)) (hx : ev n f x = .int kd k) (hf : (l.find? (fun p => k == p.1)).map (·.2) = some v) :
    OS P (.lookup t m x false) ty n f w0 As (Is v As) :=
  OS.of_run fun w hw o' ho' _ => by
    obtain ⟨L, a1, L1, L2, a3, ⟨es, clock, e1, e2⟩, a5⟩ := hw.perm hp
    have hh : Heap w0 w (SL.pt b (.map es.toArray clock) :: Bs) := ⟨L, a1, L1, L2, a3, e2, a5⟩
    have hg := heap_get hh
    obtain ⟨j, hj⟩ := findNow_yes (kd := kd) _ rfl k v es l 0 e1 hf
    exact ⟨_, _, _, by simp [execOp, ho', hm, hx, Instr.lookup, run_underlying ht, MapKept.run_getObj_map hg, checkKey_int hk, Instr.findKey, run_underlying hk, hj], ⟨rfl, rfl⟩, hw⟩
end Go.SL
