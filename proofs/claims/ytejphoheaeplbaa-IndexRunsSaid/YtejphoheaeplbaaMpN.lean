/- Maps whose keys are numbers of 128 bits: made, filled, looked up. -/
import Derived.Test.YtejphoheaeplbaaIdxLaw
import Derived.MapKept
namespace Go.Proofs.Ytejphoheaeplbaa
open Go Go.SL
set_option linter.unusedVariables false
set_option linter.unusedSimpArgs false

theorem num_fields : ∃ f0 f1 : Field, Try.prog.underlying 29 = some (.struct #[f0, f1]) ∧ f0.offset = 0 ∧ f1.offset = 1 ∧ f0.type = 27 ∧ f1.type = 27 := by
  obtain ⟨fs, g0, h1, h2, h3, h4⟩ := T.ft29_0
  obtain ⟨fs', g1, h5, h6, h7, h8⟩ := T.ft29_1
  rw [h1] at h5
  cases h5
  have hsz : (match Try.prog.underlying 29 with | some (.struct fs) => fs.size | _ => 0) = 2 := by kernel_rfl
  rw [h1] at hsz
  obtain ⟨l⟩ := fs
  match l, hsz, h2, h6 with
  | [a, b], _, h2, h6 =>
    simp only [List.getElem?_toArray, List.getElem?_cons_zero, List.getElem?_cons_succ, Option.some.injEq] at h2 h6
    subst h2
    subst h6
    exact ⟨_, _, h1, h3, h7, h4, h8⟩
theorem run_checkNum (w : World) (em : Bool) (a : Nat) : (Instr.checkKey em 10000 29 (.agg (nc a).toArray)).run Try.prog w = .ok () w := by
  obtain ⟨f0, f1, hu, o0, o1, t0, t1⟩ := num_fields
  have k0 : ∀ n v, (Instr.checkKey em (n + 1) 27 (.int .u64 v)).run Try.prog w = .ok () w := fun n v => MapKept.run_checkKey (d := .int .u64) T.un27 (by simp [MapKept.IsKey]) em n
  have p0 : ∀ v u, (part 27 [v, u].toArray 0).run Try.prog w = .ok v w := fun v u => run_part1 T.ag27 rfl w
  have p1 : ∀ v u, (part 27 [v, u].toArray 1).run Try.prog w = .ok u w := fun v u => run_part1 T.ag27 rfl w
  show (Instr.checkKey em (9998 + 1 + 1) 29 (.agg (nc a).toArray)).run Try.prog w = .ok () w
  rw [Instr.checkKey]
  simp [Sem.run_bind, run_underlying hu, nc, o0, o1, t0, t1, k0, p0, p1]
/-! ## entries -/
def entOf (p : En) : Value × Value := (.agg (nc p.1).toArray, .int .i64 p.2)
/-- A block that is a map of these entries, in the order in which they came. -/
def mapN (b : Nat) (l : List En) : Asn := fun L => ∃ es clock, es.map (fun e : MapEntry => (e.key, e.val)) = l.map entOf ∧ L = [(b, .map (List.toArray es) clock)]
def fdx (q : Nat) : List En → Nat → Option (Nat × Value)
  | [], _ => none
  | e :: l, i => if q = e.1 then some (i, .int .i64 e.2) else fdx q l (i + 1)
def upd (k : Nat) (v : Int) : List En → List En
  | [] => [(k, v)]
  | e :: l => if k = e.1 then (k, v) :: l else e :: upd k v l
theorem fdx_none {q : Nat} : ∀ (l : List En) (i : Nat), fdx q l i = none ↔ lkp q l = none
  | [], _ => by simp [fdx, lkp]
  | e :: l, i => by
    simp only [fdx, lkp]
    split
    · simp
    · exact fdx_none l (i + 1)
theorem fdx_some {q : Nat} : ∀ (l : List En) (i j : Nat) (u : Value), fdx q l i = some (j, u) → ∃ v k, u = .int .i64 v ∧ lkp q l = some v ∧ j = i + k ∧ l[k]? = some (q, v) ∧ ∀ w, upd q w l = l.set k (q, w)
  | [], _, _, _, h => by cases h
  | e :: l, i, j, u, h => by
    simp only [fdx] at h
    split at h
    · rename_i hq
      cases h
      subst hq
      exact ⟨e.2, 0, rfl, by simp [lkp], rfl, rfl, fun w => by simp [upd]⟩
    · rename_i hq
      obtain ⟨v, k, h1, h2, h3, h4, h5⟩ := fdx_some l (i + 1) j u h
      exact ⟨v, k + 1, h1, by simp [lkp, hq, h2], by omega, h4, fun w => by simp [upd, hq, h5 w]⟩
theorem upd_new {q : Nat} {v : Int} : ∀ {l : List En}, lkp q l = none → upd q v l = l ++ [(q, v)]
  | [], _ => rfl
  | e :: l, h => by
    simp only [lkp] at h
    split at h
    · cases h
    · rename_i hq
      simp [upd, hq, upd_new h]
theorem lkp_upd (k q : Nat) (v : Int) : ∀ l : List En, lkp q (upd k v l) = if q = k then some v else lkp q l
  | [] => by simp [upd, lkp]
  | e :: l => by
    simp only [upd]
    split
    · rename_i hk
      subst hk
      simp only [lkp]
      by_cases hq : q = e.1 <;> simp [hq]
    · rename_i hk
      simp only [lkp, lkp_upd k q v l]
      by_cases hq : q = e.1
      · subst hq; simp [Ne.symm hk]
      · simp only [if_neg hq]
theorem len_upd (k : Nat) (v : Int) : ∀ l : List En, (upd k v l).length = l.length + cond (lkp k l).isNone 1 0
  | [] => by simp [upd, lkp]
  | e :: l => by
    simp only [upd, lkp]
    split
    · simp
    · simp only [List.length_cons, len_upd k v l]; omega
section
variable {ty : TypeId} {n : FN} {f : Nat → Value} {w0 : World} {As Bs : List Asn} {x y m : Operand}
open Classical in
theorem run_askNum (w : World) (q : Nat) : ∀ (es : List MapEntry) (l : List En) (i : Nat), es.map (fun e : MapEntry => (e.key, e.val)) = l.map entOf → (Instr.findAsking 29 (.agg (nc q).toArray) es i).run Try.prog w = .ok (fdx q l i) w
  | [], [], i, _ => rfl
  | [], _ :: _, _, h => by simp at h
  | _ :: _, [], _, h => by simp at h
  | e :: es, p :: l, i, h => by
    obtain ⟨h1, h2⟩ := List.cons.inj h
    have hk : e.key = .agg (nc p.1).toArray := congrArg Prod.fst h1
    have hv : e.val = .int .i64 p.2 := congrArg Prod.snd h1
    have heq := EQ.run T.eq29 (nc_kv q) (nc_kv p.1) w
    have ih := run_askNum w q es l (i + 1) h2
    simp only [Instr.findAsking, hk, hv, Sem.run_bind, heq, Result.andThen_ok, fdx]
    by_cases hq : q = p.1
    · subst hq; simp
    · have : decide (nc q = nc p.1) = false := decide_eq_false fun h => hq (nc_inj.1 h)
      simp only [this, hq, if_false, Bool.false_eq_true]
      exact ih
theorem run_findNum (w : World) (q : Nat) (es : List MapEntry) (l : List En) (h : es.map (fun e : MapEntry => (e.key, e.val)) = l.map entOf) : (Instr.findKey 29 (.agg (nc q).toArray) es).run Try.prog w = .ok (fdx q l 0) w := by
  obtain ⟨f0, f1, hu, _⟩ := num_fields
  cases es with
  | nil =>
    cases l with
    | nil => simp [Instr.findKey, run_underlying hu, Instr.findNow, fdx]
    | cons _ _ => simp at h
  | cons e es =>
    cases l with
    | nil => simp at h
    | cons p l =>
      have hk : e.key = .agg (nc p.1).toArray := congrArg Prod.fst (List.cons.inj h).1
      have hn : Instr.findNow (.struct #[f0, f1]) (.agg (nc q).toArray) (e :: es) 0 = none := by simp [Instr.findNow, hk, Instr.sameNow]
      simp only [Instr.findKey, Sem.run_bind, run_underlying hu, Result.andThen_ok, hn]
      exact run_askNum w q _ _ 0 h
theorem mapN_get {b : Nat} {l : List En} {w : World} (hp : As.Perm (mapN b l :: Bs)) (hw : Heap w0 w As) : ∃ es clock, es.map (fun e : MapEntry => (e.key, e.val)) = l.map entOf ∧ Heap w0 w (SL.pt b (.map (List.toArray es) clock) :: Bs) := by
  obtain ⟨L, a1, L1, L2, a3, ⟨es, clock, e1, e2⟩, a5⟩ := hw.perm hp
  exact ⟨es, clock, e1, L, a1, L1, L2, a3, e2, a5⟩
theorem mapN_put {b : Nat} {l : List En} {w : World} {es : List MapEntry} {clock : Nat} (he : es.map (fun e : MapEntry => (e.key, e.val)) = l.map entOf) (hw : Heap w0 w (SL.pt b (.map es.toArray clock) :: Bs)) : Heap w0 w (mapN b l :: Bs) := by
  obtain ⟨L, a1, L1, L2, a3, a4, a5⟩ := hw
  exact ⟨L, a1, L1, L2, a3, ⟨es, clock, he, a4⟩, a5⟩
theorem os_makeMapN {t : TypeId} : OS Try.prog (.makeMap t none) ty n f w0 As (fun v Bs => ∃ b, v = .map (some b) ∧ Bs = mapN b [] :: As) :=
  OS.of_run fun w hw o' ho _ => ⟨_, w.alloc (.map #[] 0), _, by simp [execOp, ho, Instr.makeMap], ⟨w.heap.size, rfl, rfl⟩, mapN_put (es := []) rfl (heap_new (.map #[] 0) hw)⟩
theorem os_updN {t et : TypeId} {b : Nat} {l : List En} {k : Nat} {v : Int} (hp : As.Perm (mapN b l :: Bs)) (ht : Try.prog.underlying t = some (.map 29 et)) (hm : ev n f m = .map (some b)) (hx : ev n f x = .agg (nc k).toArray) (hy : ev n f y = .int .i64 v) :
    OS Try.prog (.mapUpdate t m x y) ty n f w0 As (Is undef (mapN b (upd k v l) :: Bs)) := OS.of_skip fun w hw o' ho' _ => by
  obtain ⟨es, clock, e1, hh⟩ := mapN_get hp hw
  have hg := heap_get hh
  have hlt := heap_lt hh
  have hf := run_findNum w k es l e1
  have hset : ∀ o, Heap w0 { w with heap := w.heap.setIfInBounds b o } (SL.pt b o :: Bs) := fun o => heap_set hh rfl rfl rfl (by simp) (by simp [Array.getElem?_setIfInBounds, hlt]) (fun j hj => by simp [Array.getElem?_setIfInBounds, Ne.symm hj])
  cases hfx : fdx k l 0 with
  | none =>
    rw [hfx] at hf
    have hn := (fdx_none l 0).1 hfx
    refine ⟨_, _, by simp [execOp, ho', hm, hx, hy, Instr.mapUpdate, run_underlying ht, MapKept.run_getObj_map hg, run_checkNum, hf, MapKept.run_setObj_map _ hg]; rfl, ⟨rfl, rfl⟩, ?_⟩
    rw [upd_new hn]
    refine mapN_put (es := es ++ [{ key := .agg (nc k).toArray, val := .int .i64 v, born := clock }]) (clock := clock + 1) (by simp [e1, entOf]) ?_
    have := hset (.map (es ++ [({ key := .agg (nc k).toArray, val := .int .i64 v, born := clock } : MapEntry)]).toArray (clock + 1))
    simpa using this
  | some r =>
    obtain ⟨j, u⟩ := r
    rw [hfx] at hf
    obtain ⟨v', i, _, h2, h3, h4, h5⟩ := fdx_some l 0 j u hfx
    have hji : j = i := by omega
    subst hji
    have hjl : j < es.length := by
      have h6 := congrArg List.length e1
      simp only [List.length_map] at h6
      have h7 := (List.getElem?_eq_some_iff.1 h4).1
      omega
    have hkey : es[j].key = .agg (nc k).toArray := by
      have h6 := congrArg (·[j]?) e1
      simp only [List.getElem?_map, List.getElem?_eq_getElem hjl, h4, Option.map_some, Option.some.injEq] at h6
      exact congrArg Prod.fst h6
    have hstay : (Instr.keyThatStays (.agg (nc k).toArray) (.agg (nc k).toArray)).run Try.prog w = .ok (.agg (nc k).toArray) w := by
      have : Instr.sameBits 10000 (.agg (nc k).toArray) (.agg (nc k).toArray) = true := by
        show Instr.sameBits (9999 + 1) _ _ = true
        simp [Instr.sameBits, nc]
      simp [Instr.keyThatStays, this]
    refine ⟨_, _, by simp [execOp, ho', hm, hx, hy, Instr.mapUpdate, run_underlying ht, MapKept.run_getObj_map hg, run_checkNum, hf, List.getElem?_eq_getElem hjl, hkey, hstay, MapKept.run_setObj_map _ hg]; rfl, ⟨rfl, rfl⟩, ?_⟩
    rw [h5 v]
    refine mapN_put (es := es.modify j fun e => { e with key := .agg (nc k).toArray, val := .int .i64 v }) (clock := clock) ?_ ?_
    · apply List.ext_getElem?
      intro i
      have h6 := congrArg (·[i]?) e1
      simp only [List.getElem?_map] at h6
      simp only [List.getElem?_map, List.getElem?_modify, List.getElem?_set]
      by_cases hij : j = i
      · subst hij
        have hjl2 : j < l.length := (List.getElem?_eq_some_iff.1 h4).1
        simp [List.getElem?_eq_getElem hjl, hjl2, entOf]
      · simp only [if_neg hij]
        simpa using h6
    · have := hset (.map (es.modify j fun e => { e with key := .agg (nc k).toArray, val := .int .i64 v }).toArray clock)
      simpa using this
theorem os_lookN {t : TypeId} {b : Nat} {l : List En} {k : Nat} {r : Value} (hr : gotV (lkp k l) = r) (hp : As.Perm (mapN b l :: Bs)) (ht : Try.prog.underlying t = some (.map 29 3)) (hm : ev n f m = .map (some b)) (hx : ev n f x = .agg (nc k).toArray) :
    OS Try.prog (.lookup t m x true) ty n f w0 As (Is r As) := OS.of_run fun w hw o' ho' _ => by
  subst hr
  obtain ⟨es, clock, e1, hh⟩ := mapN_get hp hw
  have hg := heap_get hh
  have hf := run_findNum w k es l e1
  have hz : (zeroValue 3).run Try.prog w = .ok (.int .i64 0) w := by
    obtain ⟨i, z, i1, i2, i3, i4, i5⟩ := T.ti3
    have hzv : (Try.prog.info? 3).bind (·.zero) = some (.int .i64 0) := by kernel_rfl
    rw [i1, Option.bind_some] at hzv
    simp [zeroValue, typeInfo, i1, hzv]
  cases hfx : fdx k l 0 with
  | none =>
    rw [hfx] at hf
    have hn := (fdx_none l 0).1 hfx
    refine ⟨_, _, _, by simp [execOp, ho', hm, hx, Instr.lookup, run_underlying ht, MapKept.run_getObj_map hg, run_checkNum, hf, hz]; rfl, ⟨by rw [hn]; rfl, rfl⟩, hw⟩
  | some r =>
    obtain ⟨j, u⟩ := r
    rw [hfx] at hf
    obtain ⟨v', i, rfl, h2, _⟩ := fdx_some l 0 j u hfx
    refine ⟨_, _, _, by simp [execOp, ho', hm, hx, Instr.lookup, run_underlying ht, MapKept.run_getObj_map hg, run_checkNum, hf]; rfl, ⟨by rw [h2]; rfl, rfl⟩, hw⟩
theorem pl_lenN {t kt et : TypeId} {b : Nat} {l : List En} {Hs : List Asn} (hp : Hs.Perm (mapN b l :: Bs)) (ht : Try.prog.underlying t = some (.map kt et)) (hx : ev n f x = .map (some b)) : PL Try.prog (BI .len #[x] #[t]) ty n f Hs (.int .i64 (l.length : Nat)) := fun w0 w Cs hw o' ho _ => by
  obtain ⟨es, clock, e1, hh⟩ := mapN_get (hp.append_right Cs) hw
  have hg := heap_get hh
  have h6 := congrArg List.length e1
  simp only [List.length_map] at h6
  simp [execOp, ho, BI, resolve, invoke, builtin, hx, Builtin.len_, run_underlying ht, MapKept.run_getObj_map hg, goInt, h6]
theorem os_lenN {t kt et : TypeId} {b : Nat} {l : List En} (hp : As.Perm (mapN b l :: Bs)) (ht : Try.prog.underlying t = some (.map kt et)) (hx : ev n f x = .map (some b)) : OS Try.prog (BI .len #[x] #[t]) ty n f w0 As (Is (.int .i64 (l.length : Nat)) As) := OS.of_run fun w hw o' ho hty =>
  ⟨_, w, As, pl_lenN (Bs := []) (List.Perm.refl _) ht hx w0 w Bs (hw.perm hp) o' ho hty, ⟨rfl, rfl⟩, hw⟩
end
end Go.Proofs.Ytejphoheaeplbaa
