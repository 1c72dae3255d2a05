/-
  No cell of these rows narrows 'for every input' (looked for: loops, veiled, ifaces, maps, wideKeys, modest, calm, conditions, laid).
  DERIVED. THE GIVEN ROWS OF THIS SEAT. 13 by the template 'for every input the law returns true; each argument reads behind the call as it read before'; 0 by the template 'total and deterministic' (their statements: YtejbbpofamfhiaaTotals.lean).
  GIVEN WITH THE SEED: the statements are not yours to turn. If you find one false, say at which input.
  Laid BY PROGRAM, IN A SANDBOX (cutbox-rows.mjs): the forced cells as the released guide's own fill.sh prints them over the translation d01ddccfe40da32f… (all of the seat's roots in one cut). By AI agents, Wed Nov 11 2026. No macro, syntax, notation, axiom, sorry.
-/
import Derived.Test.YtejbbpofamfhiaaChecked
import GoSem.Claim
import GoSem.ClaimJoined
import GoSem.ClaimMapViews
import Derived.JoinedTies
import Derived.KernelRfl
namespace Go.Proofs.Ytejbbpofamfhiaa
/- THE CELL 'sum', in the pinned program and in every row, IS THE sha256 OF THE DUMP (.gsa) THAT YtejbbpofamfhiaaProg.lean LOADS. Nothing in Lean hashes anything: it is a label: what it is worth is what the hold of that sum in a sandbox is worth. -/
noncomputable def Try.pinned : Pinned := { name := "ytejbbpofamfhiaa", sum := "d01ddccfe40da32f200eacb079b9f948a92efaac3c58c0f60c79ec1cfec3806f", checked := Try.checked }
namespace Rows
def none {H : Type} : Left H := { results := [], args := [] }

/-- 'paciolilaw04.DiskLost': WHATEVER THE INPUT: true; the input reads as it did. -/
def diskLostSpec : ChangeSpec := { name := "diskLost", fn := fun _ => fun
  | [d1, d2] => { results := [.lit (.bool true)], args := [d1, d2] }
  | _ => none }
def diskLostRow : OpenClaim := { program := "ytejbbpofamfhiaa", sum := "d01ddccfe40da32f200eacb079b9f948a92efaac3c58c0f60c79ec1cfec3806f", func := "pacioli/paciolilaw04.DiskLost", spec := "diskLost", apart := false }
def DiskLostSaid : Prop := diskLostRow.holds Try.pinned (OpenSpec.ofChange diskLostSpec)

/-- ITS FALSE NEIGHBOUR: 'it returns false'. Refute it at one input. -/
def diskLostWrong : ChangeSpec := { name := "diskLost", fn := fun _ => fun
  | [d1, d2] => { results := [.lit (.bool false)], args := [d1, d2] }
  | _ => none }
def DiskLostWrongFalsely : Prop := diskLostRow.holds Try.pinned (OpenSpec.ofChange diskLostWrong)

/-- 'paciolilaw04.DiskTorn': WHATEVER THE INPUT: true; the input reads as it did. -/
def diskTornSpec : ChangeSpec := { name := "diskTorn", fn := fun _ => fun
  | [d1, d2, d3] => { results := [.lit (.bool true)], args := [d1, d2, d3] }
  | _ => none }
def diskTornRow : OpenClaim := { program := "ytejbbpofamfhiaa", sum := "d01ddccfe40da32f200eacb079b9f948a92efaac3c58c0f60c79ec1cfec3806f", func := "pacioli/paciolilaw04.DiskTorn", spec := "diskTorn", apart := false }
def DiskTornSaid : Prop := diskTornRow.holds Try.pinned (OpenSpec.ofChange diskTornSpec)

/-- ITS FALSE NEIGHBOUR: 'it returns false'. Refute it at one input. -/
def diskTornWrong : ChangeSpec := { name := "diskTorn", fn := fun _ => fun
  | [d1, d2, d3] => { results := [.lit (.bool false)], args := [d1, d2, d3] }
  | _ => none }
def DiskTornWrongFalsely : Prop := diskTornRow.holds Try.pinned (OpenSpec.ofChange diskTornWrong)

/-- 'paciolilaw04.DiskCopies': WHATEVER THE INPUT: true; the input reads as it did. -/
def diskCopiesSpec : ChangeSpec := { name := "diskCopies", fn := fun _ => fun
  | [d1, d2] => { results := [.lit (.bool true)], args := [d1, d2] }
  | _ => none }
def diskCopiesRow : OpenClaim := { program := "ytejbbpofamfhiaa", sum := "d01ddccfe40da32f200eacb079b9f948a92efaac3c58c0f60c79ec1cfec3806f", func := "pacioli/paciolilaw04.DiskCopies", spec := "diskCopies", apart := false }
def DiskCopiesSaid : Prop := diskCopiesRow.holds Try.pinned (OpenSpec.ofChange diskCopiesSpec)

/-- ITS FALSE NEIGHBOUR: 'it returns false'. Refute it at one input. -/
def diskCopiesWrong : ChangeSpec := { name := "diskCopies", fn := fun _ => fun
  | [d1, d2] => { results := [.lit (.bool false)], args := [d1, d2] }
  | _ => none }
def DiskCopiesWrongFalsely : Prop := diskCopiesRow.holds Try.pinned (OpenSpec.ofChange diskCopiesWrong)

/-- 'paciolilaw04.DiskDown': WHATEVER THE INPUT: true; the input reads as it did. -/
def diskDownSpec : ChangeSpec := { name := "diskDown", fn := fun _ => fun
  | [d1, d2] => { results := [.lit (.bool true)], args := [d1, d2] }
  | _ => none }
def diskDownRow : OpenClaim := { program := "ytejbbpofamfhiaa", sum := "d01ddccfe40da32f200eacb079b9f948a92efaac3c58c0f60c79ec1cfec3806f", func := "pacioli/paciolilaw04.DiskDown", spec := "diskDown", apart := false }
def DiskDownSaid : Prop := diskDownRow.holds Try.pinned (OpenSpec.ofChange diskDownSpec)

/-- ITS FALSE NEIGHBOUR: 'it returns false'. Refute it at one input. -/
def diskDownWrong : ChangeSpec := { name := "diskDown", fn := fun _ => fun
  | [d1, d2] => { results := [.lit (.bool false)], args := [d1, d2] }
  | _ => none }
def DiskDownWrongFalsely : Prop := diskDownRow.holds Try.pinned (OpenSpec.ofChange diskDownWrong)

/-- 'paciolilaw04.DiskReads': WHATEVER THE INPUT: true; the input reads as it did. -/
def diskReadsSpec : ChangeSpec := { name := "diskReads", fn := fun _ => fun
  | [d1, d2] => { results := [.lit (.bool true)], args := [d1, d2] }
  | _ => none }
def diskReadsRow : OpenClaim := { program := "ytejbbpofamfhiaa", sum := "d01ddccfe40da32f200eacb079b9f948a92efaac3c58c0f60c79ec1cfec3806f", func := "pacioli/paciolilaw04.DiskReads", spec := "diskReads", apart := false }
def DiskReadsSaid : Prop := diskReadsRow.holds Try.pinned (OpenSpec.ofChange diskReadsSpec)

/-- ITS FALSE NEIGHBOUR: 'it returns false'. Refute it at one input. -/
def diskReadsWrong : ChangeSpec := { name := "diskReads", fn := fun _ => fun
  | [d1, d2] => { results := [.lit (.bool false)], args := [d1, d2] }
  | _ => none }
def DiskReadsWrongFalsely : Prop := diskReadsRow.holds Try.pinned (OpenSpec.ofChange diskReadsWrong)

/-- 'paciolilaw04.DiskRuns': WHATEVER THE INPUT: true; the input reads as it did. -/
def diskRunsSpec : ChangeSpec := { name := "diskRuns", fn := fun _ => fun
  | [d] => { results := [.lit (.bool true)], args := [d] }
  | _ => none }
def diskRunsRow : OpenClaim := { program := "ytejbbpofamfhiaa", sum := "d01ddccfe40da32f200eacb079b9f948a92efaac3c58c0f60c79ec1cfec3806f", func := "pacioli/paciolilaw04.DiskRuns", spec := "diskRuns", unfollowed := true, recurses := true, apart := false }
def DiskRunsSaid : Prop := diskRunsRow.holds Try.pinned (OpenSpec.ofChange diskRunsSpec)

/-- ITS FALSE NEIGHBOUR: 'it returns false'. Refute it at one input. -/
def diskRunsWrong : ChangeSpec := { name := "diskRuns", fn := fun _ => fun
  | [d] => { results := [.lit (.bool false)], args := [d] }
  | _ => none }
def DiskRunsWrongFalsely : Prop := diskRunsRow.holds Try.pinned (OpenSpec.ofChange diskRunsWrong)

/-- 'paciolilaw05.WalTorn': WHATEVER THE INPUT: true; the input reads as it did. -/
def walTornSpec : ChangeSpec := { name := "walTorn", fn := fun _ => fun
  | [d1, d2, d3] => { results := [.lit (.bool true)], args := [d1, d2, d3] }
  | _ => none }
def walTornRow : OpenClaim := { program := "ytejbbpofamfhiaa", sum := "d01ddccfe40da32f200eacb079b9f948a92efaac3c58c0f60c79ec1cfec3806f", func := "pacioli/paciolilaw05.WalTorn", spec := "walTorn", apart := false }
def WalTornSaid : Prop := walTornRow.holds Try.pinned (OpenSpec.ofChange walTornSpec)

/-- ITS FALSE NEIGHBOUR: 'it returns false'. Refute it at one input. -/
def walTornWrong : ChangeSpec := { name := "walTorn", fn := fun _ => fun
  | [d1, d2, d3] => { results := [.lit (.bool false)], args := [d1, d2, d3] }
  | _ => none }
def WalTornWrongFalsely : Prop := walTornRow.holds Try.pinned (OpenSpec.ofChange walTornWrong)

/-- 'paciolilaw05.WalFull': WHATEVER THE INPUT: true; the input reads as it did. -/
def walFullSpec : ChangeSpec := { name := "walFull", fn := fun _ => fun
  | [d1, d2] => { results := [.lit (.bool true)], args := [d1, d2] }
  | _ => none }
def walFullRow : OpenClaim := { program := "ytejbbpofamfhiaa", sum := "d01ddccfe40da32f200eacb079b9f948a92efaac3c58c0f60c79ec1cfec3806f", func := "pacioli/paciolilaw05.WalFull", spec := "walFull", apart := false }
def WalFullSaid : Prop := walFullRow.holds Try.pinned (OpenSpec.ofChange walFullSpec)

/-- ITS FALSE NEIGHBOUR: 'it returns false'. Refute it at one input. -/
def walFullWrong : ChangeSpec := { name := "walFull", fn := fun _ => fun
  | [d1, d2] => { results := [.lit (.bool false)], args := [d1, d2] }
  | _ => none }
def WalFullWrongFalsely : Prop := walFullRow.holds Try.pinned (OpenSpec.ofChange walFullWrong)

/-- 'paciolilaw05.WalRuns': WHATEVER THE INPUT: true; the input reads as it did. -/
def walRunsSpec : ChangeSpec := { name := "walRuns", fn := fun _ => fun
  | [d1, d2] => { results := [.lit (.bool true)], args := [d1, d2] }
  | _ => none }
def walRunsRow : OpenClaim := { program := "ytejbbpofamfhiaa", sum := "d01ddccfe40da32f200eacb079b9f948a92efaac3c58c0f60c79ec1cfec3806f", func := "pacioli/paciolilaw05.WalRuns", spec := "walRuns", apart := false }
def WalRunsSaid : Prop := walRunsRow.holds Try.pinned (OpenSpec.ofChange walRunsSpec)

/-- ITS FALSE NEIGHBOUR: 'it returns false'. Refute it at one input. -/
def walRunsWrong : ChangeSpec := { name := "walRuns", fn := fun _ => fun
  | [d1, d2] => { results := [.lit (.bool false)], args := [d1, d2] }
  | _ => none }
def WalRunsWrongFalsely : Prop := walRunsRow.holds Try.pinned (OpenSpec.ofChange walRunsWrong)

/-- 'paciolilaw05.WalAgain': WHATEVER THE INPUT: true; the input reads as it did. -/
def walAgainSpec : ChangeSpec := { name := "walAgain", fn := fun _ => fun
  | [d1, d2, d3] => { results := [.lit (.bool true)], args := [d1, d2, d3] }
  | _ => none }
def walAgainRow : OpenClaim := { program := "ytejbbpofamfhiaa", sum := "d01ddccfe40da32f200eacb079b9f948a92efaac3c58c0f60c79ec1cfec3806f", func := "pacioli/paciolilaw05.WalAgain", spec := "walAgain", apart := false }
def WalAgainSaid : Prop := walAgainRow.holds Try.pinned (OpenSpec.ofChange walAgainSpec)

/-- ITS FALSE NEIGHBOUR: 'it returns false'. Refute it at one input. -/
def walAgainWrong : ChangeSpec := { name := "walAgain", fn := fun _ => fun
  | [d1, d2, d3] => { results := [.lit (.bool false)], args := [d1, d2, d3] }
  | _ => none }
def WalAgainWrongFalsely : Prop := walAgainRow.holds Try.pinned (OpenSpec.ofChange walAgainWrong)

/-- 'paciolilaw05.WalBack': WHATEVER THE INPUT: true; the input reads as it did. -/
def walBackSpec : ChangeSpec := { name := "walBack", fn := fun _ => fun
  | [d] => { results := [.lit (.bool true)], args := [d] }
  | _ => none }
def walBackRow : OpenClaim := { program := "ytejbbpofamfhiaa", sum := "d01ddccfe40da32f200eacb079b9f948a92efaac3c58c0f60c79ec1cfec3806f", func := "pacioli/paciolilaw05.WalBack", spec := "walBack", apart := false }
def WalBackSaid : Prop := walBackRow.holds Try.pinned (OpenSpec.ofChange walBackSpec)

/-- ITS FALSE NEIGHBOUR: 'it returns false'. Refute it at one input. -/
def walBackWrong : ChangeSpec := { name := "walBack", fn := fun _ => fun
  | [d] => { results := [.lit (.bool false)], args := [d] }
  | _ => none }
def WalBackWrongFalsely : Prop := walBackRow.holds Try.pinned (OpenSpec.ofChange walBackWrong)

/-- 'paciolilaw05.WalSizes': WHATEVER THE INPUT: true; the input reads as it did. -/
def walSizesSpec : ChangeSpec := { name := "walSizes", fn := fun _ => fun
  | [d] => { results := [.lit (.bool true)], args := [d] }
  | _ => none }
def walSizesRow : OpenClaim := { program := "ytejbbpofamfhiaa", sum := "d01ddccfe40da32f200eacb079b9f948a92efaac3c58c0f60c79ec1cfec3806f", func := "pacioli/paciolilaw05.WalSizes", spec := "walSizes", apart := false }
def WalSizesSaid : Prop := walSizesRow.holds Try.pinned (OpenSpec.ofChange walSizesSpec)

/-- ITS FALSE NEIGHBOUR: 'it returns false'. Refute it at one input. -/
def walSizesWrong : ChangeSpec := { name := "walSizes", fn := fun _ => fun
  | [d] => { results := [.lit (.bool false)], args := [d] }
  | _ => none }
def WalSizesWrongFalsely : Prop := walSizesRow.holds Try.pinned (OpenSpec.ofChange walSizesWrong)

/-- 'paciolilaw05.WalAgainst': WHATEVER THE INPUT: true; the input reads as it did. -/
def walAgainstSpec : ChangeSpec := { name := "walAgainst", fn := fun _ => fun
  | [d] => { results := [.lit (.bool true)], args := [d] }
  | _ => none }
def walAgainstRow : OpenClaim := { program := "ytejbbpofamfhiaa", sum := "d01ddccfe40da32f200eacb079b9f948a92efaac3c58c0f60c79ec1cfec3806f", func := "pacioli/paciolilaw05.WalAgainst", spec := "walAgainst", apart := false }
def WalAgainstSaid : Prop := walAgainstRow.holds Try.pinned (OpenSpec.ofChange walAgainstSpec)

/-- ITS FALSE NEIGHBOUR: 'it returns false'. Refute it at one input. -/
def walAgainstWrong : ChangeSpec := { name := "walAgainst", fn := fun _ => fun
  | [d] => { results := [.lit (.bool false)], args := [d] }
  | _ => none }
def WalAgainstWrongFalsely : Prop := walAgainstRow.holds Try.pinned (OpenSpec.ofChange walAgainstWrong)

/- THE SECOND FORM. 'bulk': how many values and letters a reading holds, each counted each time it is reached (what is shared counts as often as it is met; a slice's spare places count too). A statement '..UptoSaid' is the law's where the arguments, and the package variables that the reading takes, are together of bulk at most 1048576: NARROWER than '..Said'. Prove '..Said' where nothing that the law and all that it calls make is longer than what came in: it says more and counts as full. Else prove '..UptoSaid'. A law counts once. -/
mutual
def uptoBulk {H : Type} : DataW H → Nat
  | .lit (.string bytes) => bytes.length + 1
  | .lit _ => 1
  | .nil => 1
  | .ptr d => uptoBulk d + 1
  | .slice elems spare => uptoBulkAll elems + uptoBulkAll spare + 1
  | .agg parts => uptoBulkAll parts + 1
  | .iface _ d => uptoBulk d + 1
  | .map entries => uptoBulkEntries entries + 1
  | .held _ => 1
def uptoBulkAll {H : Type} : List (DataW H) → Nat
  | [] => 0
  | d :: r => uptoBulk d + uptoBulkAll r
def uptoBulkEntries {H : Type} : List (Lit × DataW H) → Nat
  | [] => 0
  | x :: r => uptoBulkEntry x + uptoBulkEntries r
def uptoBulkEntry {H : Type} : Lit × DataW H → Nat
  | (.string bytes, d) => bytes.length + uptoBulk d + 1
  | (_, d) => uptoBulk d + 1
 end
def uptoSmall : (H : Type) → List (DataW H) → Bool := fun _ ds => decide (uptoBulkAll ds ≤ 1048576)
def OpenSpec.upto (s : _root_.Go.ChangeSpec) : _root_.Go.OpenSpec := { _root_.Go.OpenSpec.ofChange s with cond := some uptoSmall }

/-- 'paciolilaw04.DiskLost', WHERE WHAT IT READS IS OF BULK AT MOST 1048576: true; the input reads as it did. -/
def diskLostUptoRow : OpenClaim := { program := "ytejbbpofamfhiaa", sum := "d01ddccfe40da32f200eacb079b9f948a92efaac3c58c0f60c79ec1cfec3806f", func := "pacioli/paciolilaw04.DiskLost", spec := "diskLost", apart := false, narrowed := true }
def DiskLostUptoSaid : Prop := diskLostUptoRow.holds Try.pinned (OpenSpec.upto diskLostSpec)

/-- 'paciolilaw04.DiskTorn', WHERE WHAT IT READS IS OF BULK AT MOST 1048576: true; the input reads as it did. -/
def diskTornUptoRow : OpenClaim := { program := "ytejbbpofamfhiaa", sum := "d01ddccfe40da32f200eacb079b9f948a92efaac3c58c0f60c79ec1cfec3806f", func := "pacioli/paciolilaw04.DiskTorn", spec := "diskTorn", apart := false, narrowed := true }
def DiskTornUptoSaid : Prop := diskTornUptoRow.holds Try.pinned (OpenSpec.upto diskTornSpec)

/-- 'paciolilaw04.DiskCopies', WHERE WHAT IT READS IS OF BULK AT MOST 1048576: true; the input reads as it did. -/
def diskCopiesUptoRow : OpenClaim := { program := "ytejbbpofamfhiaa", sum := "d01ddccfe40da32f200eacb079b9f948a92efaac3c58c0f60c79ec1cfec3806f", func := "pacioli/paciolilaw04.DiskCopies", spec := "diskCopies", apart := false, narrowed := true }
def DiskCopiesUptoSaid : Prop := diskCopiesUptoRow.holds Try.pinned (OpenSpec.upto diskCopiesSpec)

/-- 'paciolilaw04.DiskDown', WHERE WHAT IT READS IS OF BULK AT MOST 1048576: true; the input reads as it did. -/
def diskDownUptoRow : OpenClaim := { program := "ytejbbpofamfhiaa", sum := "d01ddccfe40da32f200eacb079b9f948a92efaac3c58c0f60c79ec1cfec3806f", func := "pacioli/paciolilaw04.DiskDown", spec := "diskDown", apart := false, narrowed := true }
def DiskDownUptoSaid : Prop := diskDownUptoRow.holds Try.pinned (OpenSpec.upto diskDownSpec)

/-- 'paciolilaw04.DiskReads', WHERE WHAT IT READS IS OF BULK AT MOST 1048576: true; the input reads as it did. -/
def diskReadsUptoRow : OpenClaim := { program := "ytejbbpofamfhiaa", sum := "d01ddccfe40da32f200eacb079b9f948a92efaac3c58c0f60c79ec1cfec3806f", func := "pacioli/paciolilaw04.DiskReads", spec := "diskReads", apart := false, narrowed := true }
def DiskReadsUptoSaid : Prop := diskReadsUptoRow.holds Try.pinned (OpenSpec.upto diskReadsSpec)

/-- 'paciolilaw04.DiskRuns', WHERE WHAT IT READS IS OF BULK AT MOST 1048576: true; the input reads as it did. -/
def diskRunsUptoRow : OpenClaim := { program := "ytejbbpofamfhiaa", sum := "d01ddccfe40da32f200eacb079b9f948a92efaac3c58c0f60c79ec1cfec3806f", func := "pacioli/paciolilaw04.DiskRuns", spec := "diskRuns", unfollowed := true, recurses := true, apart := false, narrowed := true }
def DiskRunsUptoSaid : Prop := diskRunsUptoRow.holds Try.pinned (OpenSpec.upto diskRunsSpec)

/-- 'paciolilaw05.WalTorn', WHERE WHAT IT READS IS OF BULK AT MOST 1048576: true; the input reads as it did. -/
def walTornUptoRow : OpenClaim := { program := "ytejbbpofamfhiaa", sum := "d01ddccfe40da32f200eacb079b9f948a92efaac3c58c0f60c79ec1cfec3806f", func := "pacioli/paciolilaw05.WalTorn", spec := "walTorn", apart := false, narrowed := true }
def WalTornUptoSaid : Prop := walTornUptoRow.holds Try.pinned (OpenSpec.upto walTornSpec)

/-- 'paciolilaw05.WalFull', WHERE WHAT IT READS IS OF BULK AT MOST 1048576: true; the input reads as it did. -/
def walFullUptoRow : OpenClaim := { program := "ytejbbpofamfhiaa", sum := "d01ddccfe40da32f200eacb079b9f948a92efaac3c58c0f60c79ec1cfec3806f", func := "pacioli/paciolilaw05.WalFull", spec := "walFull", apart := false, narrowed := true }
def WalFullUptoSaid : Prop := walFullUptoRow.holds Try.pinned (OpenSpec.upto walFullSpec)

/-- 'paciolilaw05.WalRuns', WHERE WHAT IT READS IS OF BULK AT MOST 1048576: true; the input reads as it did. -/
def walRunsUptoRow : OpenClaim := { program := "ytejbbpofamfhiaa", sum := "d01ddccfe40da32f200eacb079b9f948a92efaac3c58c0f60c79ec1cfec3806f", func := "pacioli/paciolilaw05.WalRuns", spec := "walRuns", apart := false, narrowed := true }
def WalRunsUptoSaid : Prop := walRunsUptoRow.holds Try.pinned (OpenSpec.upto walRunsSpec)

/-- 'paciolilaw05.WalAgain', WHERE WHAT IT READS IS OF BULK AT MOST 1048576: true; the input reads as it did. -/
def walAgainUptoRow : OpenClaim := { program := "ytejbbpofamfhiaa", sum := "d01ddccfe40da32f200eacb079b9f948a92efaac3c58c0f60c79ec1cfec3806f", func := "pacioli/paciolilaw05.WalAgain", spec := "walAgain", apart := false, narrowed := true }
def WalAgainUptoSaid : Prop := walAgainUptoRow.holds Try.pinned (OpenSpec.upto walAgainSpec)

/-- 'paciolilaw05.WalBack', WHERE WHAT IT READS IS OF BULK AT MOST 1048576: true; the input reads as it did. -/
def walBackUptoRow : OpenClaim := { program := "ytejbbpofamfhiaa", sum := "d01ddccfe40da32f200eacb079b9f948a92efaac3c58c0f60c79ec1cfec3806f", func := "pacioli/paciolilaw05.WalBack", spec := "walBack", apart := false, narrowed := true }
def WalBackUptoSaid : Prop := walBackUptoRow.holds Try.pinned (OpenSpec.upto walBackSpec)

/-- 'paciolilaw05.WalSizes', WHERE WHAT IT READS IS OF BULK AT MOST 1048576: true; the input reads as it did. -/
def walSizesUptoRow : OpenClaim := { program := "ytejbbpofamfhiaa", sum := "d01ddccfe40da32f200eacb079b9f948a92efaac3c58c0f60c79ec1cfec3806f", func := "pacioli/paciolilaw05.WalSizes", spec := "walSizes", apart := false, narrowed := true }
def WalSizesUptoSaid : Prop := walSizesUptoRow.holds Try.pinned (OpenSpec.upto walSizesSpec)

/-- 'paciolilaw05.WalAgainst', WHERE WHAT IT READS IS OF BULK AT MOST 1048576: true; the input reads as it did. -/
def walAgainstUptoRow : OpenClaim := { program := "ytejbbpofamfhiaa", sum := "d01ddccfe40da32f200eacb079b9f948a92efaac3c58c0f60c79ec1cfec3806f", func := "pacioli/paciolilaw05.WalAgainst", spec := "walAgainst", apart := false, narrowed := true }
def WalAgainstUptoSaid : Prop := walAgainstUptoRow.holds Try.pinned (OpenSpec.upto walAgainstSpec)

end Rows
end Go.Proofs.Ytejbbpofamfhiaa
