/- A scope (a function with a label), and an array out of a slice: no program in sight. -/
import Derived.Test.YtejbbpofamfhiaaAri
import Derived.Scope
namespace Go.SL
set_option linter.unusedVariables false
set_option linter.unusedSimpArgs false
open Go
attribute [local semireducible] J cw pw
section
variable {P : Program} {Q : Exit → Act → World → Prop} {n : FN} {f : Nat → Value} {w0 : World} {As : List Asn}
theorem CW.scope {c : Code} (h : CW P c (Exit.noGoto Q) n f w0 As) (hr : n.r = none := by rfl) : CW P (.scope c) Q n f w0 As := fun w hw => by
  have h1 := h w hw
  have hf : fw n = Fence.wide := by unfold fw; rw [hr]; rfl
  show Code.wpIn (fw n) 0 P (.scope c) Q (fr n f) w
  have h2 : Code.wpIn (fw n) 0 P c (Exit.noGoto Q) (fr n f) w := h1
  rw [hf] at h2 ⊢
  exact wpIn_wide.2 (wp_scope_straight (wpIn_wide.1 h2))
theorem PW.scope_normal (h : PW Q .normal n f w0 As) : PW (Exit.noGoto Q) .normal n f w0 As := fun w hw => h w hw
theorem PW.scope_ret (h : PW Q .ret n f w0 As) : PW (Exit.noGoto Q) .ret n f w0 As := fun w hw => h w hw
theorem PW.scope_exit {i : Nat} (h : PW Q (.exit i) n f w0 As) : PW (Exit.noGoto Q) (.exit i) n f w0 As := fun w hw => h w hw
end
theorem ps_s2a {P : Program} {ty t e : TypeId} {n : FN} {f : Nat → Value} {x : Operand} {a : Addr} {k len cap : Nat} (ht : P.underlying t = some (.array k e)) (hx : ev n f x = .slice (some a) len cap) (hk : k ≤ len) : PS P (.sliceToArrayPointer t x) ty n f (.pointer (some a)) := fun o ho _ w => by
  simp [execOp, ho, hx, Instr.arrayAt, run_underlying ht, Nat.not_lt.2 hk]
end Go.SL
