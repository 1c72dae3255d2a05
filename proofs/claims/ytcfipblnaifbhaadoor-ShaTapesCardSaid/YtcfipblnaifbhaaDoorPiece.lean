/- A piece of a function's code, shown by itself over any frame and any end. -/
import Derived.Test.YtcfipblnaifbhaaDoorCore
namespace Go.SL
set_option linter.unusedVariables false
open Go
def subStep : Code → Bool → Code
  | .seq a b, d => cond d b a
  | .cond _ a b, d => cond d b a
  | .block _ a, _ => a
  | .loop a, _ => a
  | .scope a, _ => a
  | c, _ => c
/-- The part of a function's code at the end of a way. -/
def sub (fn : Func) (l : List Bool) : Code := l.foldl subStep (fn.body.getD .skip)
section
variable {α : Type} {P : Program} {c : Code} {k : Nat} {W : List Nat} {sl0 : List (Nat × Value)} {As : List Asn} {C : α → Prop} {sl : α → List (Nat × Value)} {hp : α → List Asn}
/-- A piece: with these slots and these parts ahead of it, those behind it. -/
def Piece (P : Program) (c : Code) (k : Nat) (W : List Nat) (sl0 : List (Nat × Value)) (As : List Asn) (C : α → Prop) (sl : α → List (Nat × Value)) (hp : α → List Asn) : Prop :=
  ∀ (Q : Exit → Act → World → Prop) (f : Nat → Value) (w0 : World) (F : List Asn),
    CW P c (Cut Q ⟨k, [], none⟩ w0 (Meet W (pus sl0 f) C sl (fun a => hp a ++ F))) ⟨k, [], none⟩ (pus sl0 f) w0 (As ++ F)
theorem Piece.use {Q : Exit → Act → World → Prop} {f : Nat → Value} {w0 : World} {Cs F : List Asn} (h : Piece P c k W sl0 As C sl hp) (h0 : Sls f sl0) (he : Cs.Perm (As ++ F))
    (hy : ∀ a g, C a → PW Q .normal ⟨k, [], none⟩ (pus (sl a) (mix W g f)) w0 (hp a ++ F)) : CW P c Q ⟨k, [], none⟩ f w0 Cs := by
  refine J.ent (Ent.perm he) ?_
  have e := pus_eq h0
  have h1 := h Q f w0 F
  rw [e] at h1
  exact CW.cutB W C sl (fun a => hp a ++ F) h1 hy
end
end Go.SL
