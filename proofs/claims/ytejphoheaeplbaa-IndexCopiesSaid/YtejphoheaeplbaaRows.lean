/-
  No cell of these rows narrows 'for every input' (looked for: loops, veiled, ifaces, maps, wideKeys, modest, calm, conditions, laid).
  DERIVED. THE GIVEN ROWS OF THIS SEAT. 4 by the template 'for every input the law returns true; each argument reads behind the call as it read before'; 0 by the template 'total and deterministic' (their statements: YtejphoheaeplbaaTotals.lean).
  GIVEN WITH THE SEED: the statements are not yours to turn. If you find one false, say at which input.
  Laid BY PROGRAM, IN A SANDBOX (cutbox-rows.mjs): the forced cells as the released guide's own fill.sh prints them over the translation 807c89c83f3046de… (all of the seat's roots in one cut). By AI agents, Wed Nov 11 2026. No macro, syntax, notation, axiom, sorry.
-/
import Derived.Test.YtejphoheaeplbaaChecked
import GoSem.Claim
import GoSem.ClaimJoined
import GoSem.ClaimMapViews
import Derived.JoinedTies
import Derived.KernelRfl
namespace Go.Proofs.Ytejphoheaeplbaa
/- THE CELL 'sum', in the pinned program and in every row, IS THE sha256 OF THE DUMP (.gsa) THAT YtejphoheaeplbaaProg.lean LOADS. Nothing in Lean hashes anything: it is a label: what it is worth is what the hold of that sum in a sandbox is worth. -/
noncomputable def Try.pinned : Pinned := { name := "ytejphoheaeplbaa", sum := "807c89c83f3046de39b844571fa9cc3492f49bc34f26f56b0312aa828051ac24", checked := Try.checked }
namespace Rows
def none {H : Type} : Left H := { results := [], args := [] }

/-- 'paciolilaw08.IndexTurns': WHATEVER THE INPUT: true; the input reads as it did. -/
def indexTurnsSpec : ChangeSpec := { name := "indexTurns", fn := fun _ => fun
  | [d1, d2] => { results := [.lit (.bool true)], args := [d1, d2] }
  | _ => none }
def indexTurnsRow : OpenClaim := { program := "ytejphoheaeplbaa", sum := "807c89c83f3046de39b844571fa9cc3492f49bc34f26f56b0312aa828051ac24", func := "pacioli/paciolilaw08.IndexTurns", spec := "indexTurns", unfollowed := true, recurses := true, plainKeys := false, apart := false }
def IndexTurnsSaid : Prop := indexTurnsRow.holds Try.pinned (OpenSpec.ofChange indexTurnsSpec)

/-- ITS FALSE NEIGHBOUR: 'it returns false'. Refute it at one input. -/
def indexTurnsWrong : ChangeSpec := { name := "indexTurns", fn := fun _ => fun
  | [d1, d2] => { results := [.lit (.bool false)], args := [d1, d2] }
  | _ => none }
def IndexTurnsWrongFalsely : Prop := indexTurnsRow.holds Try.pinned (OpenSpec.ofChange indexTurnsWrong)

/-- 'paciolilaw08.IndexRuns': WHATEVER THE INPUT: true; the input reads as it did. -/
def indexRunsSpec : ChangeSpec := { name := "indexRuns", fn := fun _ => fun
  | [d1, d2] => { results := [.lit (.bool true)], args := [d1, d2] }
  | _ => none }
def indexRunsRow : OpenClaim := { program := "ytejphoheaeplbaa", sum := "807c89c83f3046de39b844571fa9cc3492f49bc34f26f56b0312aa828051ac24", func := "pacioli/paciolilaw08.IndexRuns", spec := "indexRuns", unfollowed := true, recurses := true, plainKeys := false, apart := false }
def IndexRunsSaid : Prop := indexRunsRow.holds Try.pinned (OpenSpec.ofChange indexRunsSpec)

/-- ITS FALSE NEIGHBOUR: 'it returns false'. Refute it at one input. -/
def indexRunsWrong : ChangeSpec := { name := "indexRuns", fn := fun _ => fun
  | [d1, d2] => { results := [.lit (.bool false)], args := [d1, d2] }
  | _ => none }
def IndexRunsWrongFalsely : Prop := indexRunsRow.holds Try.pinned (OpenSpec.ofChange indexRunsWrong)

/-- 'paciolilaw08.IndexMany': WHATEVER THE INPUT: true; the input reads as it did. -/
def indexManySpec : ChangeSpec := { name := "indexMany", fn := fun _ => fun
  | [d1, d2, d3] => { results := [.lit (.bool true)], args := [d1, d2, d3] }
  | _ => none }
def indexManyRow : OpenClaim := { program := "ytejphoheaeplbaa", sum := "807c89c83f3046de39b844571fa9cc3492f49bc34f26f56b0312aa828051ac24", func := "pacioli/paciolilaw08.IndexMany", spec := "indexMany", unfollowed := true, recurses := true, plainKeys := false, apart := false }
def IndexManySaid : Prop := indexManyRow.holds Try.pinned (OpenSpec.ofChange indexManySpec)

/-- ITS FALSE NEIGHBOUR: 'it returns false'. Refute it at one input. -/
def indexManyWrong : ChangeSpec := { name := "indexMany", fn := fun _ => fun
  | [d1, d2, d3] => { results := [.lit (.bool false)], args := [d1, d2, d3] }
  | _ => none }
def IndexManyWrongFalsely : Prop := indexManyRow.holds Try.pinned (OpenSpec.ofChange indexManyWrong)

/-- 'paciolilaw08.IndexCopies': WHATEVER THE INPUT: true; the input reads as it did. -/
def indexCopiesSpec : ChangeSpec := { name := "indexCopies", fn := fun _ => fun
  | [d1, d2, d3] => { results := [.lit (.bool true)], args := [d1, d2, d3] }
  | _ => none }
def indexCopiesRow : OpenClaim := { program := "ytejphoheaeplbaa", sum := "807c89c83f3046de39b844571fa9cc3492f49bc34f26f56b0312aa828051ac24", func := "pacioli/paciolilaw08.IndexCopies", spec := "indexCopies", unfollowed := true, recurses := true, plainKeys := false, apart := false }
def IndexCopiesSaid : Prop := indexCopiesRow.holds Try.pinned (OpenSpec.ofChange indexCopiesSpec)

/-- ITS FALSE NEIGHBOUR: 'it returns false'. Refute it at one input. -/
def indexCopiesWrong : ChangeSpec := { name := "indexCopies", fn := fun _ => fun
  | [d1, d2, d3] => { results := [.lit (.bool false)], args := [d1, d2, d3] }
  | _ => none }
def IndexCopiesWrongFalsely : Prop := indexCopiesRow.holds Try.pinned (OpenSpec.ofChange indexCopiesWrong)

/- THE SECOND FORM. 'bulk': how many values and letters a reading holds, each counted each time it is reached (what is shared counts as often as it is met; a slice's spare places count too). A statement '..UptoSaid' is the law's where the arguments, and the package variables that the reading takes, are together of bulk at most 1048576: NARROWER than '..Said'. Prove '..Said' where nothing that the law and all that it calls make is longer than what came in: it says more and counts as full. Else prove '..UptoSaid'. A law counts once. -/
mutual
def uptoBulk {H : Type} : DataW H → Nat
  | .lit (.string bytes) => bytes.length + 1
  | .lit _ => 1
  | .nil => 1
  | .ptr d => uptoBulk d + 1
  | .slice elems spare => uptoBulkAll elems + uptoBulkAll spare + 1
  | .agg parts => uptoBulkAll parts + 1
  | .iface _ d => uptoBulk d + 1
  | .map entries => uptoBulkEntries entries + 1
  | .held _ => 1
def uptoBulkAll {H : Type} : List (DataW H) → Nat
  | [] => 0
  | d :: r => uptoBulk d + uptoBulkAll r
def uptoBulkEntries {H : Type} : List (Lit × DataW H) → Nat
  | [] => 0
  | x :: r => uptoBulkEntry x + uptoBulkEntries r
def uptoBulkEntry {H : Type} : Lit × DataW H → Nat
  | (.string bytes, d) => bytes.length + uptoBulk d + 1
  | (_, d) => uptoBulk d + 1
 end
def uptoSmall : (H : Type) → List (DataW H) → Bool := fun _ ds => decide (uptoBulkAll ds ≤ 1048576)
def OpenSpec.upto (s : _root_.Go.ChangeSpec) : _root_.Go.OpenSpec := { _root_.Go.OpenSpec.ofChange s with cond := some uptoSmall }

/-- 'paciolilaw08.IndexTurns', WHERE WHAT IT READS IS OF BULK AT MOST 1048576: true; the input reads as it did. -/
def indexTurnsUptoRow : OpenClaim := { program := "ytejphoheaeplbaa", sum := "807c89c83f3046de39b844571fa9cc3492f49bc34f26f56b0312aa828051ac24", func := "pacioli/paciolilaw08.IndexTurns", spec := "indexTurns", unfollowed := true, recurses := true, plainKeys := false, apart := false, narrowed := true }
def IndexTurnsUptoSaid : Prop := indexTurnsUptoRow.holds Try.pinned (OpenSpec.upto indexTurnsSpec)

/-- 'paciolilaw08.IndexRuns', WHERE WHAT IT READS IS OF BULK AT MOST 1048576: true; the input reads as it did. -/
def indexRunsUptoRow : OpenClaim := { program := "ytejphoheaeplbaa", sum := "807c89c83f3046de39b844571fa9cc3492f49bc34f26f56b0312aa828051ac24", func := "pacioli/paciolilaw08.IndexRuns", spec := "indexRuns", unfollowed := true, recurses := true, plainKeys := false, apart := false, narrowed := true }
def IndexRunsUptoSaid : Prop := indexRunsUptoRow.holds Try.pinned (OpenSpec.upto indexRunsSpec)

/-- 'paciolilaw08.IndexMany', WHERE WHAT IT READS IS OF BULK AT MOST 1048576: true; the input reads as it did. -/
def indexManyUptoRow : OpenClaim := { program := "ytejphoheaeplbaa", sum := "807c89c83f3046de39b844571fa9cc3492f49bc34f26f56b0312aa828051ac24", func := "pacioli/paciolilaw08.IndexMany", spec := "indexMany", unfollowed := true, recurses := true, plainKeys := false, apart := false, narrowed := true }
def IndexManyUptoSaid : Prop := indexManyUptoRow.holds Try.pinned (OpenSpec.upto indexManySpec)

/-- 'paciolilaw08.IndexCopies', WHERE WHAT IT READS IS OF BULK AT MOST 1048576: true; the input reads as it did. -/
def indexCopiesUptoRow : OpenClaim := { program := "ytejphoheaeplbaa", sum := "807c89c83f3046de39b844571fa9cc3492f49bc34f26f56b0312aa828051ac24", func := "pacioli/paciolilaw08.IndexCopies", spec := "indexCopies", unfollowed := true, recurses := true, plainKeys := false, apart := false, narrowed := true }
def IndexCopiesUptoSaid : Prop := indexCopiesUptoRow.holds Try.pinned (OpenSpec.upto indexCopiesSpec)

end Rows
end Go.Proofs.Ytejphoheaeplbaa
