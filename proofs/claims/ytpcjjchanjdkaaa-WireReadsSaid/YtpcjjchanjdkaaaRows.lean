/-
  No cell of these rows narrows 'for every input' (looked for: loops, veiled, ifaces, maps, wideKeys, modest, calm, conditions, laid).
  DERIVED. THE GIVEN ROWS OF THIS SEAT. 8 by the template 'for every input the law returns true; each argument reads behind the call as it read before'; 0 by the template 'total and deterministic' (their statements: YtpcjjchanjdkaaaTotals.lean).
  GIVEN WITH THE SEED: the statements are not yours to turn. If you find one false, say at which input.
  Laid BY PROGRAM, IN A SANDBOX (cutbox-rows.mjs): the forced cells as the released guide's own fill.sh prints them over the translation a7b294804210a06e… (all of the seat's roots in one cut). By AI agents, Wed Nov 11 2026. No macro, syntax, notation, axiom, sorry.
-/
import Derived.Test.YtpcjjchanjdkaaaChecked
import GoSem.Claim
import GoSem.ClaimJoined
import GoSem.ClaimMapViews
import Derived.JoinedTies
import Derived.KernelRfl
namespace Go.Proofs.Ytpcjjchanjdkaaa
/- THE CELL 'sum', in the pinned program and in every row, IS THE sha256 OF THE DUMP (.gsa) THAT YtpcjjchanjdkaaaProg.lean LOADS. Nothing in Lean hashes anything: it is a label: what it is worth is what the hold of that sum in a sandbox is worth. -/
noncomputable def Try.pinned : Pinned := { name := "ytpcjjchanjdkaaa", sum := "a7b294804210a06e844582732409ccf0358c1da6de073db89ea1904b27e84aeb", checked := Try.checked }
namespace Rows
def none {H : Type} : Left H := { results := [], args := [] }

/-- 'paciolilaw03.WireApart': WHATEVER THE INPUT: true; the input reads as it did. -/
def wireApartSpec : ChangeSpec := { name := "wireApart", fn := fun _ => fun
  | [d1, d2] => { results := [.lit (.bool true)], args := [d1, d2] }
  | _ => none }
def wireApartRow : OpenClaim := { program := "ytpcjjchanjdkaaa", sum := "a7b294804210a06e844582732409ccf0358c1da6de073db89ea1904b27e84aeb", func := "pacioli/paciolilaw03.WireApart", spec := "wireApart", unfollowed := true, recurses := true, named := ["math/bits.divideError", "math/bits.overflowError"], apart := false }
def WireApartSaid : Prop := wireApartRow.holds Try.pinned (OpenSpec.ofChange wireApartSpec)

/-- ITS FALSE NEIGHBOUR: 'it returns false'. Refute it at one input. -/
def wireApartWrong : ChangeSpec := { name := "wireApart", fn := fun _ => fun
  | [d1, d2] => { results := [.lit (.bool false)], args := [d1, d2] }
  | _ => none }
def WireApartWrongFalsely : Prop := wireApartRow.holds Try.pinned (OpenSpec.ofChange wireApartWrong)

/-- 'paciolilaw03.WireSizes': WHATEVER THE INPUT: true; the input reads as it did. -/
def wireSizesSpec : ChangeSpec := { name := "wireSizes", fn := fun _ => fun
  | [d] => { results := [.lit (.bool true)], args := [d] }
  | _ => none }
def wireSizesRow : OpenClaim := { program := "ytpcjjchanjdkaaa", sum := "a7b294804210a06e844582732409ccf0358c1da6de073db89ea1904b27e84aeb", func := "pacioli/paciolilaw03.WireSizes", spec := "wireSizes", unfollowed := true, recurses := true, named := ["math/bits.divideError", "math/bits.overflowError"], apart := false }
def WireSizesSaid : Prop := wireSizesRow.holds Try.pinned (OpenSpec.ofChange wireSizesSpec)

/-- ITS FALSE NEIGHBOUR: 'it returns false'. Refute it at one input. -/
def wireSizesWrong : ChangeSpec := { name := "wireSizes", fn := fun _ => fun
  | [d] => { results := [.lit (.bool false)], args := [d] }
  | _ => none }
def WireSizesWrongFalsely : Prop := wireSizesRow.holds Try.pinned (OpenSpec.ofChange wireSizesWrong)

/-- 'paciolilaw03.WireMany': WHATEVER THE INPUT: true; the input reads as it did. -/
def wireManySpec : ChangeSpec := { name := "wireMany", fn := fun _ => fun
  | [d1, d2] => { results := [.lit (.bool true)], args := [d1, d2] }
  | _ => none }
def wireManyRow : OpenClaim := { program := "ytpcjjchanjdkaaa", sum := "a7b294804210a06e844582732409ccf0358c1da6de073db89ea1904b27e84aeb", func := "pacioli/paciolilaw03.WireMany", spec := "wireMany", named := ["math/bits.divideError", "math/bits.overflowError"], apart := false }
def WireManySaid : Prop := wireManyRow.holds Try.pinned (OpenSpec.ofChange wireManySpec)

/-- ITS FALSE NEIGHBOUR: 'it returns false'. Refute it at one input. -/
def wireManyWrong : ChangeSpec := { name := "wireMany", fn := fun _ => fun
  | [d1, d2] => { results := [.lit (.bool false)], args := [d1, d2] }
  | _ => none }
def WireManyWrongFalsely : Prop := wireManyRow.holds Try.pinned (OpenSpec.ofChange wireManyWrong)

/-- 'paciolilaw03.WireNothing': WHATEVER THE INPUT: true; the input reads as it did. -/
def wireNothingSpec : ChangeSpec := { name := "wireNothing", fn := fun _ => fun
  | [d1, d2] => { results := [.lit (.bool true)], args := [d1, d2] }
  | _ => none }
def wireNothingRow : OpenClaim := { program := "ytpcjjchanjdkaaa", sum := "a7b294804210a06e844582732409ccf0358c1da6de073db89ea1904b27e84aeb", func := "pacioli/paciolilaw03.WireNothing", spec := "wireNothing", named := ["math/bits.divideError", "math/bits.overflowError"], apart := false }
def WireNothingSaid : Prop := wireNothingRow.holds Try.pinned (OpenSpec.ofChange wireNothingSpec)

/-- ITS FALSE NEIGHBOUR: 'it returns false'. Refute it at one input. -/
def wireNothingWrong : ChangeSpec := { name := "wireNothing", fn := fun _ => fun
  | [d1, d2] => { results := [.lit (.bool false)], args := [d1, d2] }
  | _ => none }
def WireNothingWrongFalsely : Prop := wireNothingRow.holds Try.pinned (OpenSpec.ofChange wireNothingWrong)

/-- 'paciolilaw03.WireReads': WHATEVER THE INPUT: true; the input reads as it did. -/
def wireReadsSpec : ChangeSpec := { name := "wireReads", fn := fun _ => fun
  | [d1, d2, d3] => { results := [.lit (.bool true)], args := [d1, d2, d3] }
  | _ => none }
def wireReadsRow : OpenClaim := { program := "ytpcjjchanjdkaaa", sum := "a7b294804210a06e844582732409ccf0358c1da6de073db89ea1904b27e84aeb", func := "pacioli/paciolilaw03.WireReads", spec := "wireReads", named := ["math/bits.divideError", "math/bits.overflowError"], apart := false }
def WireReadsSaid : Prop := wireReadsRow.holds Try.pinned (OpenSpec.ofChange wireReadsSpec)

/-- ITS FALSE NEIGHBOUR: 'it returns false'. Refute it at one input. -/
def wireReadsWrong : ChangeSpec := { name := "wireReads", fn := fun _ => fun
  | [d1, d2, d3] => { results := [.lit (.bool false)], args := [d1, d2, d3] }
  | _ => none }
def WireReadsWrongFalsely : Prop := wireReadsRow.holds Try.pinned (OpenSpec.ofChange wireReadsWrong)

/-- 'paciolilaw03.WireAccounts': WHATEVER THE INPUT: true; the input reads as it did. -/
def wireAccountsSpec : ChangeSpec := { name := "wireAccounts", fn := fun _ => fun
  | [d1, d2] => { results := [.lit (.bool true)], args := [d1, d2] }
  | _ => none }
def wireAccountsRow : OpenClaim := { program := "ytpcjjchanjdkaaa", sum := "a7b294804210a06e844582732409ccf0358c1da6de073db89ea1904b27e84aeb", func := "pacioli/paciolilaw03.WireAccounts", spec := "wireAccounts", named := ["math/bits.divideError", "math/bits.overflowError"], apart := false }
def WireAccountsSaid : Prop := wireAccountsRow.holds Try.pinned (OpenSpec.ofChange wireAccountsSpec)

/-- ITS FALSE NEIGHBOUR: 'it returns false'. Refute it at one input. -/
def wireAccountsWrong : ChangeSpec := { name := "wireAccounts", fn := fun _ => fun
  | [d1, d2] => { results := [.lit (.bool false)], args := [d1, d2] }
  | _ => none }
def WireAccountsWrongFalsely : Prop := wireAccountsRow.holds Try.pinned (OpenSpec.ofChange wireAccountsWrong)

/-- 'paciolilaw03.WireRequests': WHATEVER THE INPUT: true; the input reads as it did. -/
def wireRequestsSpec : ChangeSpec := { name := "wireRequests", fn := fun _ => fun
  | [d] => { results := [.lit (.bool true)], args := [d] }
  | _ => none }
def wireRequestsRow : OpenClaim := { program := "ytpcjjchanjdkaaa", sum := "a7b294804210a06e844582732409ccf0358c1da6de073db89ea1904b27e84aeb", func := "pacioli/paciolilaw03.WireRequests", spec := "wireRequests", unfollowed := true, recurses := true, named := ["math/bits.divideError", "math/bits.overflowError"], apart := false }
def WireRequestsSaid : Prop := wireRequestsRow.holds Try.pinned (OpenSpec.ofChange wireRequestsSpec)

/-- ITS FALSE NEIGHBOUR: 'it returns false'. Refute it at one input. -/
def wireRequestsWrong : ChangeSpec := { name := "wireRequests", fn := fun _ => fun
  | [d] => { results := [.lit (.bool false)], args := [d] }
  | _ => none }
def WireRequestsWrongFalsely : Prop := wireRequestsRow.holds Try.pinned (OpenSpec.ofChange wireRequestsWrong)

/-- 'paciolilaw03.WireAny': WHATEVER THE INPUT: true; the input reads as it did. -/
def wireAnySpec : ChangeSpec := { name := "wireAny", fn := fun _ => fun
  | [d] => { results := [.lit (.bool true)], args := [d] }
  | _ => none }
def wireAnyRow : OpenClaim := { program := "ytpcjjchanjdkaaa", sum := "a7b294804210a06e844582732409ccf0358c1da6de073db89ea1904b27e84aeb", func := "pacioli/paciolilaw03.WireAny", spec := "wireAny", unfollowed := true, recurses := true, named := ["math/bits.divideError", "math/bits.overflowError"], apart := false }
def WireAnySaid : Prop := wireAnyRow.holds Try.pinned (OpenSpec.ofChange wireAnySpec)

/-- ITS FALSE NEIGHBOUR: 'it returns false'. Refute it at one input. -/
def wireAnyWrong : ChangeSpec := { name := "wireAny", fn := fun _ => fun
  | [d] => { results := [.lit (.bool false)], args := [d] }
  | _ => none }
def WireAnyWrongFalsely : Prop := wireAnyRow.holds Try.pinned (OpenSpec.ofChange wireAnyWrong)

/- THE SECOND FORM. 'bulk': how many values and letters a reading holds, each counted each time it is reached (what is shared counts as often as it is met; a slice's spare places count too). A statement '..UptoSaid' is the law's where the arguments, and the package variables that the reading takes, are together of bulk at most 1048576: NARROWER than '..Said'. Prove '..Said' where nothing that the law and all that it calls make is longer than what came in: it says more and counts as full. Else prove '..UptoSaid'. A law counts once. -/
mutual
def uptoBulk {H : Type} : DataW H → Nat
  | .lit (.string bytes) => bytes.length + 1
  | .lit _ => 1
  | .nil => 1
  | .ptr d => uptoBulk d + 1
  | .slice elems spare => uptoBulkAll elems + uptoBulkAll spare + 1
  | .agg parts => uptoBulkAll parts + 1
  | .iface _ d => uptoBulk d + 1
  | .map entries => uptoBulkEntries entries + 1
  | .held _ => 1
def uptoBulkAll {H : Type} : List (DataW H) → Nat
  | [] => 0
  | d :: r => uptoBulk d + uptoBulkAll r
def uptoBulkEntries {H : Type} : List (Lit × DataW H) → Nat
  | [] => 0
  | x :: r => uptoBulkEntry x + uptoBulkEntries r
def uptoBulkEntry {H : Type} : Lit × DataW H → Nat
  | (.string bytes, d) => bytes.length + uptoBulk d + 1
  | (_, d) => uptoBulk d + 1
 end
def uptoSmall : (H : Type) → List (DataW H) → Bool := fun _ ds => decide (uptoBulkAll ds ≤ 1048576)
def OpenSpec.upto (s : _root_.Go.ChangeSpec) : _root_.Go.OpenSpec := { _root_.Go.OpenSpec.ofChange s with cond := some uptoSmall }

/-- 'paciolilaw03.WireApart', WHERE WHAT IT READS IS OF BULK AT MOST 1048576: true; the input reads as it did. -/
def wireApartUptoRow : OpenClaim := { program := "ytpcjjchanjdkaaa", sum := "a7b294804210a06e844582732409ccf0358c1da6de073db89ea1904b27e84aeb", func := "pacioli/paciolilaw03.WireApart", spec := "wireApart", unfollowed := true, recurses := true, named := ["math/bits.divideError", "math/bits.overflowError"], apart := false, narrowed := true }
def WireApartUptoSaid : Prop := wireApartUptoRow.holds Try.pinned (OpenSpec.upto wireApartSpec)

/-- 'paciolilaw03.WireSizes', WHERE WHAT IT READS IS OF BULK AT MOST 1048576: true; the input reads as it did. -/
def wireSizesUptoRow : OpenClaim := { program := "ytpcjjchanjdkaaa", sum := "a7b294804210a06e844582732409ccf0358c1da6de073db89ea1904b27e84aeb", func := "pacioli/paciolilaw03.WireSizes", spec := "wireSizes", unfollowed := true, recurses := true, named := ["math/bits.divideError", "math/bits.overflowError"], apart := false, narrowed := true }
def WireSizesUptoSaid : Prop := wireSizesUptoRow.holds Try.pinned (OpenSpec.upto wireSizesSpec)

/-- 'paciolilaw03.WireMany', WHERE WHAT IT READS IS OF BULK AT MOST 1048576: true; the input reads as it did. -/
def wireManyUptoRow : OpenClaim := { program := "ytpcjjchanjdkaaa", sum := "a7b294804210a06e844582732409ccf0358c1da6de073db89ea1904b27e84aeb", func := "pacioli/paciolilaw03.WireMany", spec := "wireMany", named := ["math/bits.divideError", "math/bits.overflowError"], apart := false, narrowed := true }
def WireManyUptoSaid : Prop := wireManyUptoRow.holds Try.pinned (OpenSpec.upto wireManySpec)

/-- 'paciolilaw03.WireNothing', WHERE WHAT IT READS IS OF BULK AT MOST 1048576: true; the input reads as it did. -/
def wireNothingUptoRow : OpenClaim := { program := "ytpcjjchanjdkaaa", sum := "a7b294804210a06e844582732409ccf0358c1da6de073db89ea1904b27e84aeb", func := "pacioli/paciolilaw03.WireNothing", spec := "wireNothing", named := ["math/bits.divideError", "math/bits.overflowError"], apart := false, narrowed := true }
def WireNothingUptoSaid : Prop := wireNothingUptoRow.holds Try.pinned (OpenSpec.upto wireNothingSpec)

/-- 'paciolilaw03.WireReads', WHERE WHAT IT READS IS OF BULK AT MOST 1048576: true; the input reads as it did. -/
def wireReadsUptoRow : OpenClaim := { program := "ytpcjjchanjdkaaa", sum := "a7b294804210a06e844582732409ccf0358c1da6de073db89ea1904b27e84aeb", func := "pacioli/paciolilaw03.WireReads", spec := "wireReads", named := ["math/bits.divideError", "math/bits.overflowError"], apart := false, narrowed := true }
def WireReadsUptoSaid : Prop := wireReadsUptoRow.holds Try.pinned (OpenSpec.upto wireReadsSpec)

/-- 'paciolilaw03.WireAccounts', WHERE WHAT IT READS IS OF BULK AT MOST 1048576: true; the input reads as it did. -/
def wireAccountsUptoRow : OpenClaim := { program := "ytpcjjchanjdkaaa", sum := "a7b294804210a06e844582732409ccf0358c1da6de073db89ea1904b27e84aeb", func := "pacioli/paciolilaw03.WireAccounts", spec := "wireAccounts", named := ["math/bits.divideError", "math/bits.overflowError"], apart := false, narrowed := true }
def WireAccountsUptoSaid : Prop := wireAccountsUptoRow.holds Try.pinned (OpenSpec.upto wireAccountsSpec)

/-- 'paciolilaw03.WireRequests', WHERE WHAT IT READS IS OF BULK AT MOST 1048576: true; the input reads as it did. -/
def wireRequestsUptoRow : OpenClaim := { program := "ytpcjjchanjdkaaa", sum := "a7b294804210a06e844582732409ccf0358c1da6de073db89ea1904b27e84aeb", func := "pacioli/paciolilaw03.WireRequests", spec := "wireRequests", unfollowed := true, recurses := true, named := ["math/bits.divideError", "math/bits.overflowError"], apart := false, narrowed := true }
def WireRequestsUptoSaid : Prop := wireRequestsUptoRow.holds Try.pinned (OpenSpec.upto wireRequestsSpec)

/-- 'paciolilaw03.WireAny', WHERE WHAT IT READS IS OF BULK AT MOST 1048576: true; the input reads as it did. -/
def wireAnyUptoRow : OpenClaim := { program := "ytpcjjchanjdkaaa", sum := "a7b294804210a06e844582732409ccf0358c1da6de073db89ea1904b27e84aeb", func := "pacioli/paciolilaw03.WireAny", spec := "wireAny", unfollowed := true, recurses := true, named := ["math/bits.divideError", "math/bits.overflowError"], apart := false, narrowed := true }
def WireAnyUptoSaid : Prop := wireAnyUptoRow.holds Try.pinned (OpenSpec.upto wireAnySpec)

end Rows
end Go.Proofs.Ytpcjjchanjdkaaa
