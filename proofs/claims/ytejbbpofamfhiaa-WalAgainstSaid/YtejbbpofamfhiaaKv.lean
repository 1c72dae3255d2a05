/- An argument of numbers: its cells are of its type's kinds. -/
import Derived.Test.YtejbbpofamfhiaaEq
import Derived.Test.YtejbbpofamfhiaaLaw
namespace Go.SL
set_option linter.unusedVariables false
set_option linter.unusedSimpArgs false
open Go Go.ChangeShapes

section
variable {H : Type} {enc : TypeId × Value → H} {P : Program} {W : World} {base : Nat} {sp : Nat → Bool} {held : Bool}
theorem kv_many {ks : List IntKind} : ∀ (n : Nat) (cs : List Value), cs.length = n * ks.length → (∀ i, i < n → KV ks ((cs.drop (i * ks.length)).take ks.length)) → KV (List.replicate n ks).flatten cs
  | 0, cs, hl, _ => by
    have : cs = [] := List.eq_nil_of_length_eq_zero (by simpa using hl)
    subst this; rfl
  | n + 1, cs, hl, h => by
    have h0 := h 0 (by omega)
    simp only [Nat.zero_mul, List.drop_zero] at h0
    have hr := kv_many (ks := ks) n (cs.drop ks.length) (by rw [List.length_drop, hl, Nat.succ_mul]; omega) fun i hi => by
      have := h (i + 1) (by omega)
      rw [List.drop_drop, Nat.add_comm]
      rwa [Nat.succ_mul] at this
    rw [List.replicate_succ, List.flatten_cons]
    have := h0.append hr
    rwa [List.take_append_drop] at this
theorem kv_fields {g : TypeId → Option (List IntKind)} (IH : ∀ (t : TypeId) ks, g t = some ks → P.cellsOf t = ks.length ∧ ∀ (m : Nat) (cs : List Value) x, DataW.trod enc P W base sp held m t cs = some x → KV ks cs) (cs : List Value) :
    ∀ (fs : List Field) (off : Nat) (ks : List IntKind), fkF g fs off = some ks → (∀ f ∈ fs, ∃ m y, DataW.trod enc P W base sp held m f.type ((cs.drop f.offset).take (P.cellsOf f.type)) = some y) → KV ks ((cs.drop off).take ks.length)
  | [], off, ks, hf, _ => by
    have : ks = [] := by simpa [fkF] using hf.symm
    subst this
    simp [KV]
  | f :: fs, off, ks, hf, hx => by
    unfold fkF at hf
    cases hc : (Nat.beq f.offset off && !(f.name == "_")) with
    | false => rw [hc] at hf; cases hf
    | true =>
      rw [hc, cond_true] at hf
      obtain ⟨h2, h3⟩ := (Bool.and_eq_true_iff).1 hc
      have ho : f.offset = off := Nat.eq_of_beq_eq_true h2
      obtain ⟨k1, hk1, hk2⟩ := Option.bind_eq_some_iff.1 hf
      obtain ⟨k2, hk3, rfl⟩ := Option.map_eq_some_iff.1 hk2
      obtain ⟨hc1, hI⟩ := IH _ _ hk1
      obtain ⟨m, y, hy⟩ := hx f (by simp)
      rw [ho, hc1] at hy
      have h4 := hI m _ y hy
      have h5 := kv_fields IH cs fs (off + k1.length) k2 hk3 fun q hq => hx q (by simp [hq])
      have := h4.append h5
      rw [List.length_append]
      have e : (cs.drop off).take (k1.length + k2.length) = (cs.drop off).take k1.length ++ (cs.drop (off + k1.length)).take k2.length := by
        rw [List.take_add, List.drop_drop]
      rwa [e]
theorem trod_kv : ∀ (d : Nat) (t : TypeId) (ks : List IntKind), fk P d t = some ks → P.cellsOf t = ks.length ∧ ∀ (m : Nat) (cs : List Value) x, DataW.trod enc P W base sp held m t cs = some x → KV ks cs
  | 0, _, _, h => by cases h
  | d + 1, t, ks, h => by
    unfold fk at h
    obtain ⟨k0, h0, h1⟩ := Option.bind_eq_some_iff.1 h
    have hsz : P.cellsOf t = ks.length ∧ k0 = ks := by
      cases hi : P.info? t with
      | none => rw [hi] at h1; cases h1
      | some i =>
        rw [hi] at h1
        simp only at h1
        cases hb : Nat.beq i.size k0.length with
        | false => rw [hb] at h1; cases h1
        | true =>
          rw [hb] at h1
          have : k0 = ks := by simpa using h1
          subst this
          exact ⟨by simp [Program.cellsOf, hi, Nat.eq_of_beq_eq_true hb], rfl⟩
    obtain ⟨hsz, rfl⟩ := hsz
    clear h h1
    refine ⟨hsz, fun m cs x hx => ?_⟩
    cases hu : P.underlying t with
    | none => rw [hu] at h0; cases h0
    | some kd =>
      rw [hu] at h0
      cases kd with
      | int k =>
        have : k0 = [k] := by simpa using h0.symm
        subst this
        obtain ⟨n, rfl, _, _⟩ := DataW.trod_int hu hx
        rfl
      | array n e =>
        simp only at h0
        obtain ⟨k1, hk1, rfl⟩ := Option.map_eq_some_iff.1 h0
        obtain ⟨hc1, hI⟩ := trod_kv d e k1 hk1
        obtain ⟨xs, m', _, _, hl, hxl, hxx⟩ := DataW.trod_array hu hx
        rw [hc1] at hxx
        refine kv_many n cs (by rw [hl, hsz]; simp) fun i hi => ?_
        have h2 := hxx i hi
        rw [List.getElem?_eq_getElem (by omega)] at h2
        exact hI _ _ _ h2
      | struct fs =>
        simp only at h0
        cases hst : P.stoodInHeld t with
        | true => rw [hst] at h0; cases h0
        | false =>
          rw [hst, cond_false] at h0
          obtain ⟨xs, m', _, _, hl, hxl, hxx⟩ := DataW.trod_struct hu hx
          have := kv_fields (trod_kv d) cs fs.toList 0 k0 h0 fun f hf => by
            obtain ⟨i, hi, rfl⟩ := List.getElem_of_mem hf
            have hi' : i < fs.size := by simpa using hi
            have h2 := hxx i fs[i] (by simp [hi'])
            rw [List.getElem?_eq_getElem (by omega)] at h2
            rw [show fs.toList[i] = fs[i] by simp]
            exact ⟨m', xs[i], h2⟩
          rw [List.drop_zero, List.take_of_length_le (by omega)] at this
          exact this
      | _ => cases h0
theorem EQ.kv {t : TypeId} {ks : List IntKind} (h : EQ P t ks) {m : Nat} {cs : List Value} {x : DataW H × List MemPlace} (hx : DataW.trod enc P W base sp held m t cs = some x) : KV ks cs := (trod_kv 12 t ks h.1).2 m cs x hx
end
end Go.SL
