/- A range over a function: the iterator's contract is told over what a call of 'yield' does; a round is walked as code. -/
import Derived.Test.YtejphoheaeplbaaMem
import Derived.RangeFuncIn
import Derived.RangeFuncRecord
namespace Go.SL
set_option linter.unusedVariables false
set_option linter.unusedSimpArgs false
open Go
attribute [local semireducible] J cw pw

section
variable {P : Program} {n : FN} {f : Nat → Value} {w0 : World} {As Bs Cs F : List Asn} {op : Op} {ty : TypeId}
/-- What a call of yield does. -/
def YSpec (P : Program) (l : Nat) (args : List Value) (pre : List Asn) (post : Bool → List Asn → Prop) : Prop :=
  ∀ w0 F, J w0 (pre ++ F) fun w => ∃ g tmps assign body, (Instr.yield l args.toArray).run P w = .ok (.round l g tmps assign body) w ∧
    RoundIn Fence.wide 0 P l g tmps assign body w fun e w' => ∃ b As, e = .returned (.bool b) ∧ post b As ∧ Heap w0 w' (As ++ F)
theorem YSpec.mono {l : Nat} {args : List Value} {pre pre' : List Asn} {post post' : Bool → List Asn → Prop} (h : YSpec P l args pre post) (hpre : Ent pre' pre)
    (hpost : ∀ b As, post b As → ∃ Bs, post' b Bs ∧ Ent As Bs) : YSpec P l args pre' post' := fun w0 F => J.mk fun w hw => by
  obtain ⟨L, h1, h2⟩ := hw
  obtain ⟨L1, L2, h3, h4, h5⟩ := sat_app h2
  obtain ⟨g, tmps, assign, body, q1, q2⟩ := (h w0 F).run w ⟨L, h1, sat_mk h3 (hpre _ h4) h5⟩
  refine ⟨g, tmps, assign, body, q1, q2.mono ?_⟩
  rintro e w' ⟨b, As, rfl, h6, L', h7, h8⟩
  obtain ⟨Bs, h9, h10⟩ := hpost b As h6
  obtain ⟨M1, M2, m1, m2, m3⟩ := sat_app h8
  exact ⟨b, Bs, rfl, h9, L', h7, sat_mk m1 (h10 _ m2) m3⟩
theorem os_yield {l : Nat} {args : Array Operand} {ts : Array TypeId} {x : Operand} {vals : List Value} {pre : List Asn} {post : Bool → List Asn → Prop} (hs : YSpec P l vals pre post) (hx : ev n f x = .func (.yield l) #[] #[]) (ha : args.toList.map (ev n f) = vals) (hp : As.Perm (pre ++ F)) :
    OS P (.call { callee := .value x, args := args, argTypes := ts }) ty n f w0 As (fun v Bs => ∃ b Cs, v = .bool b ∧ post b Cs ∧ Bs = Cs ++ F) := by
  intro w hw o ho ht K Q hK
  have hav : args.map (ev n f) = vals.toArray := by rw [← ha, ← Array.toList_map]
  obtain ⟨g, tmps, assign, body, q1, q2⟩ := (hs w0 F).run w (hw.perm hp)
  have hrun : (execOp (ev n f) o).run P w = .ok (.round l g tmps assign body) w := by
    simp [execOp, ho, resolve, hx, Deferred.ofValue, invoke, hav, q1]
  refine ⟨fun _ _ => trivial, ?_⟩
  rw [fr_eval, semAt_run hrun (fun _ e => by cases e)]
  refine ⟨fw_depth n _, ?_⟩
  have h1 : RoundIn (fw n) 0 P l g tmps assign body w fun e w' => ∃ b As, e = .returned (.bool b) ∧ post b As ∧ Heap w0 w' (As ++ F) := q2
  refine RoundIn.mono h1 ?_
  rintro e w' ⟨b, Cs, rfl, h1, h2⟩
  show K ((fr n f).put o.dst (.bool b)) w'
  rw [fr_put]
  exact hK _ _ w' ⟨b, Cs, rfl, h1, rfl⟩ h2

/-! ## a round -/
/-- What stands behind the loop variables' assignment. -/
def RA (P : Program) (l : Nat) (n : FN) (body : Code) (Q : Exit → Act → World → Prop) : Exit → Act → World → Prop :=
  Exit.then (fun a₁ w₁ => ∃ w₂, (Instr.beginRound l).run P w₁ = .ok () w₂ ∧ body.wpIn (fw n) 0 P Q a₁ w₂) (fun _ _ _ => False)
/-- What stands at a round's end. -/
def RQ (P : Program) (l : Nat) (w0 : World) (F : List Asn) (post : Bool → List Asn → Prop) : Exit → Act → World → Prop :=
  roundPost P l fun e w' => ∃ b As, e = .returned (.bool b) ∧ post b As ∧ Heap w0 w' (As ++ F)
theorem heap_putObj {w : World} {b : Nat} {o o' : Obj} (h : Heap w0 w (pt b o :: As)) : Heap w0 (w.putObj b o') (pt b o' :: As) :=
  heap_set h rfl rfl rfl (by simp [World.putObj]) (World.putObj_heap_same (heap_lt h)) (fun k hk => World.putObj_heap_other hk)
theorem RA.normal {l : Nat} {body : Code} {Q : Exit → Act → World → Prop} {R : Loop} (hp : As.Perm (pt l (.loop R) :: Bs)) (hR : R.state = .ready) (h : CW P body Q n f w0 (pt l (.loop { R with state := .busy }) :: Bs)) : PW (RA P l n body Q) .normal n f w0 As := J.mk fun w hw => by
  have hw' := hw.perm hp
  have hg := heap_get hw'
  show RA P l n body Q .normal (fr n f) w
  exact ⟨_, run_beginRound hg hR, h _ (heap_putObj hw')⟩
theorem RQ.normal {l : Nat} {post : Bool → List Asn → Prop} {R : Loop} (hp : As.Perm (pt l (.loop R) :: Bs)) (he : Ent (pt l (.loop { R with state := .ready, pending := none }) :: Bs) (Cs ++ F)) (h : post true Cs) : PW (RQ P l w0 F post) .normal n f w0 As := J.mk fun w hw => by
  have hw' := hw.perm hp
  have hg := heap_get hw'
  show RQ P l w0 F post .normal (fr n f) w
  exact ⟨_, _, run_endRound none hg, true, Cs, rfl, h, he.heap (heap_putObj hw')⟩
theorem RQ.exit {l id : Nat} {post : Bool → List Asn → Prop} {R : Loop} (hp : As.Perm (pt l (.loop R) :: Bs)) (he : Ent (pt l (.loop { R with state := .done, pending := some (.exit id) }) :: Bs) (Cs ++ F)) (h : post false Cs) : PW (RQ P l w0 F post) (.exit id) n f w0 As := J.mk fun w hw => by
  have hw' := hw.perm hp
  have hg := heap_get hw'
  show RQ P l w0 F post (.exit id) (fr n f) w
  exact ⟨_, _, run_endRound (some (.exit id)) hg, false, Cs, rfl, h, he.heap (heap_putObj hw')⟩
theorem RQ.ret {l : Nat} {post : Bool → List Asn → Prop} {R : Loop} (hp : As.Perm (pt l (.loop R) :: Bs)) (he : Ent (pt l (.loop { R with state := .done, pending := some .ret }) :: Bs) (Cs ++ F)) (h : post false Cs) : PW (RQ P l w0 F post) .ret n f w0 As := J.mk fun w hw => by
  have hw' := hw.perm hp
  have hg := heap_get hw'
  show RQ P l w0 F post .ret (fr n f) w
  exact ⟨_, _, run_endRound (some .ret) hg, false, Cs, rfl, h, he.heap (heap_putObj hw')⟩
/-- The record of a loop over a function. -/
def lrec (n : FN) (f : Nat → Value) (fn : FuncId) (ps : Array Tmp) (assign body : Code) (D : Nat) (st : LoopState) (pe : Option Code) : Loop :=
  { state := st, pending := pe, fn := fn, tmps := (fr n f).tmps, params := ps, assign := assign, body := body, defers := D }
theorem YSpec.round1 {l D p k : Nat} {ds : List Deferred} {r : Option Nat} {fn : FuncId} {assign body : Code} {pe : Option Code} {v : Value} {post : Bool → List Asn → Prop}
    (h : ∀ w0 F, CW P assign (RA P l ⟨k, [], some l⟩ body (RQ P l w0 F post)) ⟨k, [], some l⟩ (pu (some p) v f) w0 (pt l (.loop (lrec ⟨k, ds, r⟩ f fn #[p] assign body D .ready pe)) :: As ++ F)) :
    YSpec P l [v] (pt l (.loop (lrec ⟨k, ds, r⟩ f fn #[p] assign body D .ready pe)) :: As) post := fun w0 F => J.mk fun w hw => by
  have hg := heap_get hw
  refine ⟨_, _, _, _, run_yield (args := #[v]) hg rfl, ?_⟩
  have h1 := (h w0 F).run w hw
  have e : ({ tmps := ((lrec ⟨k, ds, r⟩ f fn #[p] assign body D .ready pe).params.zip #[v]).foldl (fun tmps (t, a) => tmps.setIfInBounds t a) (lrec ⟨k, ds, r⟩ f fn #[p] assign body D .ready pe).tmps, defers := [] } : Act) = fr ⟨k, [], some l⟩ (pu (some p) v f) := by
    rw [← fr_put]
    simp [lrec, fr, Act.put]
  refine roundIn_of_wpIn (F := Fence.wide) trivial ?_
  rw [e]
  exact h1
theorem YSpec.round2 {l D p q k : Nat} {ds : List Deferred} {r : Option Nat} {fn : FuncId} {assign body : Code} {pe : Option Code} {v u : Value} {post : Bool → List Asn → Prop}
    (h : ∀ w0 F, CW P assign (RA P l ⟨k, [], some l⟩ body (RQ P l w0 F post)) ⟨k, [], some l⟩ (pu (some q) u (pu (some p) v f)) w0 (pt l (.loop (lrec ⟨k, ds, r⟩ f fn #[p, q] assign body D .ready pe)) :: As ++ F)) :
    YSpec P l [v, u] (pt l (.loop (lrec ⟨k, ds, r⟩ f fn #[p, q] assign body D .ready pe)) :: As) post := fun w0 F => J.mk fun w hw => by
  have hg := heap_get hw
  refine ⟨_, _, _, _, run_yield (args := #[v, u]) hg rfl, ?_⟩
  have h1 := (h w0 F).run w hw
  have e : ({ tmps := ((lrec ⟨k, ds, r⟩ f fn #[p, q] assign body D .ready pe).params.zip #[v, u]).foldl (fun tmps (t, a) => tmps.setIfInBounds t a) (lrec ⟨k, ds, r⟩ f fn #[p, q] assign body D .ready pe).tmps, defers := [] } : Act) = fr ⟨k, [], some l⟩ (pu (some q) u (pu (some p) v f)) := by
    rw [← fr_put, ← fr_put]
    simp [lrec, fr, Act.put]
  refine roundIn_of_wpIn (F := Fence.wide) trivial ?_
  rw [e]
  exact h1

/-- A loop's record, whatever its state. -/
def LRec (rec : LoopState → Option Code → Loop) : Prop := ∃ n f fid ps assign body D, rec = lrec n f fid ps assign body D
theorem YSpec.rnd1 {l D p k : Nat} {ds : List Deferred} {r : Option Nat} {fn : FuncId} {assign body : Code} {pe : Option Code} {v : Value} {post : Bool → List Asn → Prop} {rec : LoopState → Option Code → Loop} (hrec : rec = lrec ⟨k, ds, r⟩ f fn #[p] assign body D)
    (h : LRec rec → ∀ w0 F, CW P assign (RA P l ⟨k, [], some l⟩ body (RQ P l w0 F post)) ⟨k, [], some l⟩ (pu (some p) v f) w0 (pt l (.loop (rec .ready pe)) :: As ++ F)) :
    YSpec P l [v] (pt l (.loop (rec .ready pe)) :: As) post := by
  have h1 := h ⟨_, _, _, _, _, _, _, hrec⟩
  subst hrec
  exact YSpec.round1 h1
theorem YSpec.rnd2 {l D p q k : Nat} {ds : List Deferred} {r : Option Nat} {fn : FuncId} {assign body : Code} {pe : Option Code} {v u : Value} {post : Bool → List Asn → Prop} {rec : LoopState → Option Code → Loop} (hrec : rec = lrec ⟨k, ds, r⟩ f fn #[p, q] assign body D)
    (h : LRec rec → ∀ w0 F, CW P assign (RA P l ⟨k, [], some l⟩ body (RQ P l w0 F post)) ⟨k, [], some l⟩ (pu (some q) u (pu (some p) v f)) w0 (pt l (.loop (rec .ready pe)) :: As ++ F)) :
    YSpec P l [v, u] (pt l (.loop (rec .ready pe)) :: As) post := by
  have h1 := h ⟨_, _, _, _, _, _, _, hrec⟩
  subst hrec
  exact YSpec.round2 h1
theorem RA.begin {l : Nat} {body : Code} {Q : Exit → Act → World → Prop} {rec : LoopState → Option Code → Loop} {pe : Option Code} (hR : LRec rec) (hp : As.Perm (pt l (.loop (rec .ready pe)) :: Bs)) (h : CW P body Q n f w0 (pt l (.loop (rec .busy pe)) :: Bs)) : PW (RA P l n body Q) .normal n f w0 As := by
  obtain ⟨n, f, fid, ps, a, b, D, rfl⟩ := hR
  exact RA.normal hp rfl h
theorem RQ.on {l : Nat} {post : Bool → List Asn → Prop} {rec : LoopState → Option Code → Loop} {pe : Option Code} (hR : LRec rec) (hp : As.Perm (pt l (.loop (rec .busy pe)) :: Bs)) (he : Ent (pt l (.loop (rec .ready none)) :: Bs) (Cs ++ F)) (h : post true Cs) : PW (RQ P l w0 F post) .normal n f w0 As := by
  obtain ⟨n, f, fid, ps, a, b, D, rfl⟩ := hR
  exact RQ.normal hp he h
theorem RQ.out {l id : Nat} {post : Bool → List Asn → Prop} {rec : LoopState → Option Code → Loop} {pe : Option Code} (hR : LRec rec) (hp : As.Perm (pt l (.loop (rec .busy pe)) :: Bs)) (he : Ent (pt l (.loop (rec .done (some (.exit id)))) :: Bs) (Cs ++ F)) (h : post false Cs) : PW (RQ P l w0 F post) (.exit id) n f w0 As := by
  obtain ⟨n, f, fid, ps, a, b, D, rfl⟩ := hR
  exact RQ.exit hp he h
theorem RQ.back {l : Nat} {post : Bool → List Asn → Prop} {rec : LoopState → Option Code → Loop} {pe : Option Code} (hR : LRec rec) (hp : As.Perm (pt l (.loop (rec .busy pe)) :: Bs)) (he : Ent (pt l (.loop (rec .done (some .ret))) :: Bs) (Cs ++ F)) (h : post false Cs) : PW (RQ P l w0 F post) .ret n f w0 As := by
  obtain ⟨n, f, fid, ps, a, b, D, rfl⟩ := hR
  exact RQ.ret hp he h

/-! ## the statement -/
theorem CW.rangeFunc {k : Nat} {ds : List Deferred} {Q : Exit → Act → World → Prop} {g : Operand} {ps : Array Tmp} {assign body : Code} {gf : FuncId} {fnc : Func} {bound caps : List Value} (R : Option Code → List Asn → Prop) (hg : ev ⟨k, ds, none⟩ f g = .func (.func gf) bound.toArray caps.toArray)
    (hf : P.funcs[gf]? = some fnc) (hn : (fnc.name == "runtime.NumGoroutine") = false) (hb : fnc.body.isNone = false)
    (hcall : ∀ fid D L rec, rec = lrec ⟨k, ds, none⟩ f fid ps assign body D → FSpec P gf (bound ++ [.func (.yield L) #[] #[]] ++ caps) (pt L (.loop (rec .ready none)) :: pt D (.deferred (some [])) :: As)
      (fun v Bs => ∃ jump st Cs, st ≠ .busy ∧ R jump Cs ∧ Bs = pt L (.loop (rec st jump)) :: pt D (.deferred (some [])) :: Cs))
    (hdone : ∀ D Cs, R none Cs → PW Q .normal ⟨k, { target := .collected D, args := #[] } :: ds, none⟩ f w0 (pt D (.deferred (some [])) :: Cs))
    (hjump : ∀ D c Cs, R (some c) Cs → CW P c Q ⟨k, { target := .collected D, args := #[] } :: ds, none⟩ f w0 (pt D (.deferred (some [])) :: Cs)) : CW P (.rangeFunc g ps assign body) Q ⟨k, ds, none⟩ f w0 As := J.mk fun w hw => by
  obtain ⟨n, hnn⟩ : ∃ n : FN, n = ⟨k, ds, none⟩ := ⟨_, rfl⟩
  have hr : n.r = none := by rw [hnn]
  have hnk : (⟨n.k, n.ds, none⟩ : FN) = n := by rw [hnn]
  replace hdone : ∀ D Cs, R none Cs → PW Q .normal ⟨n.k, { target := .collected D, args := #[] } :: n.ds, none⟩ f w0 (pt D (.deferred (some [])) :: Cs) := by subst hnn; exact hdone
  replace hjump : ∀ D c Cs, R (some c) Cs → CW P c Q ⟨n.k, { target := .collected D, args := #[] } :: n.ds, none⟩ f w0 (pt D (.deferred (some [])) :: Cs) := by subst hnn; exact hjump
  rw [← hnn] at hg hcall ⊢
  replace hcall := fun fid D L => hcall fid D L _ rfl
  show Code.wpIn (fw n) 0 P (.rangeFunc g ps assign body) Q (fr n f) w
  refine wpIn_rangeFunc ?_
  intro fid _
  have hn' : fnc.name ≠ "runtime.NumGoroutine" := by simpa using hn
  have hb' : fnc.body ≠ none := by intro h; rw [h] at hb; cases hb
  have hw1 := heap_new (.deferred (some [])) hw
  have hw2 := heap_new (.loop (lrec n f fid ps assign body w.heap.size .ready none)) hw1
  rw [World.size_alloc] at hw2
  obtain ⟨W2, hW2⟩ : ∃ W2, (w.alloc (.deferred (some []))).alloc (.loop (lrec n f fid ps assign body w.heap.size .ready none)) = W2 := ⟨_, rfl⟩
  rw [hW2] at hw2
  refine ⟨w.heap.size + 1, [{ target := .collected w.heap.size, args := #[] }], W2, { target := .fn (.func gf) caps.toArray, args := bound.toArray ++ #[Value.func (.yield (w.heap.size + 1)) #[] #[]] }, W2, gf,
    (bound ++ [Value.func (.yield (w.heap.size + 1)) #[] #[]] ++ caps).toArray, W2, ?_, ?_, fun _ _ => trivial, ?_, fw_depth n _, ?_⟩
  · show (Instr.enterLoop fid (fr n f).tmps ps assign body n.r).run P w = _
    rw [hr, ← hW2]
    exact run_enterLoop_outer _ _ _ _ _
  · rw [fr_eval]
    simp only [resolve, hg, Deferred.ofValue]
    simp [ev]
  · simp [invoke, callFunc, hf, hn', hb']
  · have h1 : CallsIn (fw n) 0 P gf (bound ++ [Value.func (.yield (w.heap.size + 1)) #[] #[]] ++ caps).toArray W2 _ := hcall fid w.heap.size (w.heap.size + 1) w0 [] _ (by rw [List.append_nil]; exact hw2)
    refine CallsIn.mono h1 ?_
    rintro e w' ⟨v, Bs, rfl, ⟨jump, st, Cs, hst, hR, rfl⟩, hw'⟩
    rw [List.append_nil] at hw'
    have hgl := heap_get hw'
    have hend := run_endLoop (P := P) hgl (by exact hst)
    have hw3 : Heap w0 _ (pt w.heap.size (.deferred (some [])) :: Cs) := (Ent.skip (Ent.refl _)).heap (heap_putObj (o' := .loop { lrec n f fid ps assign body w.heap.size st jump with state := .exhausted }) hw')
    refine ⟨jump, _, hend, ?_⟩
    have hfr : ({ fr n f with defers := [{ target := .collected w.heap.size, args := #[] }] ++ (fr n f).defers } : Act) = fr ⟨n.k, { target := .collected w.heap.size, args := #[] } :: n.ds, none⟩ f := rfl
    rw [hfr]
    cases jump with
    | none => exact (hdone _ Cs hR).run _ hw3
    | some c =>
      have h4 := (hjump _ c Cs hR).run _ hw3
      have hfw : fw n = fw ⟨n.k, { target := .collected w.heap.size, args := #[] } :: n.ds, none⟩ := by unfold fw; rw [hr]
      show Code.wpIn (fw n) 0 P c Q _ _
      rw [hfw]
      exact h4
end
/-- A contract beside further parts. -/
theorem FSpec.frame {P : Program} {g : FuncId} {args : List Value} {pre : List Asn} {post : Value → List Asn → Prop} (h : FSpec P g args pre post) (G : List Asn) : FSpec P g args (pre ++ G) (fun v As => ∃ Cs, post v Cs ∧ As = Cs ++ G) := fun w0 F => J.mk fun w hw => by
  rw [List.append_assoc] at hw
  refine CallsIn.mono ((h w0 (G ++ F)).run w hw) ?_
  rintro e w' ⟨v, As, rfl, h1, h2⟩
  exact ⟨v, _, rfl, ⟨As, h1, rfl⟩, by rw [List.append_assoc]; exact h2⟩
/-- The statement in its block: run through, or left by the block's own exit. -/
theorem CW.rangeBlock {P : Program} {f : Nat → Value} {w0 : World} {As : List Asn} {id k : Nat} {ds : List Deferred} {Q : Exit → Act → World → Prop} {g : Operand} {ps : Array Tmp} {assign body : Code} {gf : FuncId} {fnc : Func} {bound caps : List Value} (R : List Asn → Prop) (hg : ev ⟨k, ds, none⟩ f g = .func (.func gf) bound.toArray caps.toArray)
    (hf : P.funcs[gf]? = some fnc) (hn : (fnc.name == "runtime.NumGoroutine") = false) (hb : fnc.body.isNone = false)
    (hcall : ∀ fid D L rec, rec = lrec ⟨k, ds, none⟩ f fid ps assign body D → FSpec P gf (bound ++ [.func (.yield L) #[] #[]] ++ caps) (pt L (.loop (rec .ready none)) :: pt D (.deferred (some [])) :: As)
      (fun v Bs => ∃ jump st Cs, st ≠ .busy ∧ (jump = none ∨ jump = some (.exit id)) ∧ R Cs ∧ Bs = pt L (.loop (rec st jump)) :: pt D (.deferred (some [])) :: Cs))
    (hnext : ∀ D Cs, R Cs → PW Q .normal ⟨k, { target := .collected D, args := #[] } :: ds, none⟩ f w0 (pt D (.deferred (some [])) :: Cs)) : CW P (.block id (.rangeFunc g ps assign body)) Q ⟨k, ds, none⟩ f w0 As := by
  refine CW.block ?_
  refine CW.rangeFunc (fun j Cs => (j = none ∨ j = some (.exit id)) ∧ R Cs) hg hf hn hb (fun fid D L rec hrec => ?_) (fun D Cs h => PW.block_normal (hnext D Cs h.2)) (fun D c Cs h => ?_)
  · refine (hcall fid D L rec hrec).mono (Ent.refl _) ?_
    rintro v Bs ⟨j, st, Cs, h1, h2, h3, h4⟩
    exact ⟨Bs, ⟨j, st, Cs, h1, ⟨h2, h3⟩, h4⟩, Ent.refl _⟩
  · rcases h.1 with h1 | h1
    · cases h1
    · cases h1
      exact CW.exit (PW.block_hit (hnext D Cs h.2))
/-- A function's end whose result is one cell of a block. -/
theorem Fin.retC1 {P : Program} {n : FN} {f : Nat → Value} {w0 : World} {As F Cs : List Asn} {t T : TypeId} {b : Nat} {cs : List Value} {v : Value} {fn : Func} {post : Value → List Asn → Prop} {r : Tmp} (hr : fn.results = #[.cell r t]) (hp : As.Perm (cb b T cs :: Cs)) (ht : AG P t false) (hc : cs[0]? = some v) (hv : ev n f (.tmp r) = .pointer (some ⟨b, 0, none⟩)) (Bs : List Asn)
    (hq : post v Bs) (he : Ent As (Bs ++ F)) (hd : n.ds = [] := by rfl) : PW (Fin P fn w0 F post) .ret n f w0 As := by
  refine Fin.retG (v := v) Bs (fun w hw => ?_) hq he hd
  have hcl : w.cell? ⟨b, 0, none⟩ = some v := by
    rw [cell_of_blk (heap_get (hw.perm hp))]
    simpa using hc
  have hrd : (fr n f).tmps.getD r undef = .pointer (some ⟨b, 0, none⟩) := by rw [← hv, ← fr_eval]; rfl
  rw [Array.getD_eq_getD_getElem?] at hrd
  simp [results, hr, hrd, asAddr, loadVar, run_isAgg ht, hcl]
/-! ## a region that draws its order, within a round -/
def noDefer (ops : Array Oper) : Bool := ops.all fun o => match o.op with | .defer _ => false | _ => true
theorem wpOpIn_fw {P : Program} {ops : Array Oper} {Q : Exit → Act → World → Prop} (n : FN) (hd : noDefer ops = true) {i : Nat} {K : Act → World → Prop} {a : Act} {w : World} (h : wpOpIn Fence.wide 0 P ops Q i K a w) : wpOpIn (fw n) 0 P ops Q i K a w := by
  unfold wpOpIn at h ⊢
  cases ho : ops[i]? with
  | none => rw [ho] at h; exact h
  | some o =>
    rw [ho] at h
    have hnd : ∀ c, o.op ≠ .defer c := fun c hc => by
      obtain ⟨hi, he⟩ := Array.getElem?_eq_some_iff.1 ho
      have := Array.all_eq_true.1 hd i hi
      rw [he, hc] at this
      cases this
    simp only at h ⊢
    by_cases hw : Region.wanted o (yielded ops a.tmps) = true
    · rw [if_pos hw] at h ⊢
      refine ⟨fun _ _ => trivial, ?_⟩
      have hu := h.2
      rw [Oper.semAt_eq _ _ _ hnd] at hu ⊢
      generalize (execOp a.eval o).run P w = r at hu
      cases r with
      | ok x w' => cases x <;> exact hu
      | halt x w' => cases x <;> exact hu
    · rw [if_neg hw] at h ⊢
      exact ⟨fun _ _ => trivial, h.2⟩
theorem wpAnyIn_fw {P : Program} {ops : Array Oper} {Q : Exit → Act → World → Prop} (n : FN) (hd : noDefer ops = true) : ∀ (fuel : Nat) (listed : Array Bool) (a : Act) (w : World), wpAnyIn Fence.wide 0 P .any ops Q fuel listed a w → wpAnyIn (fw n) 0 P .any ops Q fuel listed a w
  | 0, _, _, _, h => h
  | fuel + 1, _, _, _, h => ⟨h.1, fun i hi => wpOpIn_fw n hd (wpOpIn_mono (fun a' w' h' => wpAnyIn_fw n hd fuel _ a' w' h') (h.2 i hi))⟩
attribute [local semireducible] hhw in
theorem CW.drawHR {P : Program} {ops : Array Oper} {Q : Exit → Act → World → Prop} {k : Nat} {ds : List Deferred} {r : Option Nat} {f : Nat → Value} {w0 : World} {As : List Asn} (Hs : List Asn) (late : List Nat) {id : Nat} (hm : P.follows .mixedOrders = true)
    (h : HW P ops (Pan Q) Hs late ops.size (Array.replicate ops.size false) ⟨k, ds, none⟩ f w0 As) (hd : noDefer ops = true) : CW P (.region id ops true) Q ⟨k, ds, r⟩ f w0 As := J.mk fun w hw => by
  have h1 := wpAnyIn_fw ⟨k, ds, r⟩ hd _ _ _ _ (ahw_any _ _ _ _ (h.run _ (heap_drew hw)))
  show Code.wpIn (fw ⟨k, ds, r⟩) 0 P _ Q (fr ⟨k, ds, none⟩ f) w
  exact wpIn_mono (wpIn_region_any hm h1) fun e a w hq => by cases e <;> first | exact hq | exact hq.elim
theorem PW.toRound {Q : Exit → Act → World → Prop} {e : Exit} {k : Nat} {ds : List Deferred} {r : Option Nat} {f : Nat → Value} {w0 : World} {As : List Asn} (h : PW Q e ⟨k, ds, r⟩ f w0 As) : PW Q e ⟨k, ds, none⟩ f w0 As := h
end Go.SL
