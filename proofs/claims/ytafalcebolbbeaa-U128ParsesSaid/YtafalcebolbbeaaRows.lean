/-
  No cell of these rows narrows 'for every input' (looked for: loops, veiled, ifaces, maps, wideKeys, modest, calm, conditions, laid).
  DERIVED. THE GIVEN ROWS OF THIS SEAT. 10 by the template 'for every input the law returns true; each argument reads behind the call as it read before'; 0 by the template 'total and deterministic' (their statements: YtafalcebolbbeaaTotals.lean).
  GIVEN WITH THE SEED: the statements are not yours to turn. If you find one false, say at which input.
  Laid BY PROGRAM, IN A SANDBOX (cutbox-rows.mjs): the forced cells as the released guide's own fill.sh prints them over the translation dcfdf828eeae4945… (all of the seat's roots in one cut). By AI agents, Wed Nov 11 2026. No macro, syntax, notation, axiom, sorry.
-/
import Derived.Test.YtafalcebolbbeaaChecked
import GoSem.Claim
import GoSem.ClaimJoined
import GoSem.ClaimMapViews
import Derived.JoinedTies
import Derived.KernelRfl
namespace Go.Proofs.Ytafalcebolbbeaa
/- THE CELL 'sum', in the pinned program and in every row, IS THE sha256 OF THE DUMP (.gsa) THAT YtafalcebolbbeaaProg.lean LOADS. Nothing in Lean hashes anything: it is a label: what it is worth is what the hold of that sum in a sandbox is worth. -/
noncomputable def Try.pinned : Pinned := { name := "ytafalcebolbbeaa", sum := "dcfdf828eeae4945a266fc23e95a66115579f31b3f5a776d952648d9b64cafdc", checked := Try.checked }
namespace Rows
def none {H : Type} : Left H := { results := [], args := [] }

/-- 'paciolilaw01.U128Sums': WHATEVER THE INPUT: true; the input reads as it did. -/
def u128SumsSpec : ChangeSpec := { name := "u128Sums", fn := fun _ => fun
  | [d] => { results := [.lit (.bool true)], args := [d] }
  | _ => none }
def u128SumsRow : OpenClaim := { program := "ytafalcebolbbeaa", sum := "dcfdf828eeae4945a266fc23e95a66115579f31b3f5a776d952648d9b64cafdc", func := "pacioli/paciolilaw01.U128Sums", spec := "u128Sums", inPlace := ["math/bits.Add64"], named := ["math/bits.divideError", "math/bits.overflowError"], apart := false }
def U128SumsSaid : Prop := u128SumsRow.holds Try.pinned (OpenSpec.ofChange u128SumsSpec)

/-- ITS FALSE NEIGHBOUR: 'it returns false'. Refute it at one input. -/
def u128SumsWrong : ChangeSpec := { name := "u128Sums", fn := fun _ => fun
  | [d] => { results := [.lit (.bool false)], args := [d] }
  | _ => none }
def U128SumsWrongFalsely : Prop := u128SumsRow.holds Try.pinned (OpenSpec.ofChange u128SumsWrong)

/-- 'paciolilaw01.U128Prints': WHATEVER THE INPUT: true; the input reads as it did. -/
def u128PrintsSpec : ChangeSpec := { name := "u128Prints", fn := fun _ => fun
  | [d] => { results := [.lit (.bool true)], args := [d] }
  | _ => none }
def u128PrintsRow : OpenClaim := { program := "ytafalcebolbbeaa", sum := "dcfdf828eeae4945a266fc23e95a66115579f31b3f5a776d952648d9b64cafdc", func := "pacioli/paciolilaw01.U128Prints", spec := "u128Prints", inPlace := ["math/bits.Add64"], named := ["math/bits.divideError", "math/bits.overflowError"], apart := false }
def U128PrintsSaid : Prop := u128PrintsRow.holds Try.pinned (OpenSpec.ofChange u128PrintsSpec)

/-- ITS FALSE NEIGHBOUR: 'it returns false'. Refute it at one input. -/
def u128PrintsWrong : ChangeSpec := { name := "u128Prints", fn := fun _ => fun
  | [d] => { results := [.lit (.bool false)], args := [d] }
  | _ => none }
def U128PrintsWrongFalsely : Prop := u128PrintsRow.holds Try.pinned (OpenSpec.ofChange u128PrintsWrong)

/-- 'paciolilaw01.U128Orders': WHATEVER THE INPUT: true; the input reads as it did. -/
def u128OrdersSpec : ChangeSpec := { name := "u128Orders", fn := fun _ => fun
  | [d1, d2, d3] => { results := [.lit (.bool true)], args := [d1, d2, d3] }
  | _ => none }
def u128OrdersRow : OpenClaim := { program := "ytafalcebolbbeaa", sum := "dcfdf828eeae4945a266fc23e95a66115579f31b3f5a776d952648d9b64cafdc", func := "pacioli/paciolilaw01.U128Orders", spec := "u128Orders", inPlace := ["math/bits.Add64"], named := ["math/bits.divideError", "math/bits.overflowError"], apart := false }
def U128OrdersSaid : Prop := u128OrdersRow.holds Try.pinned (OpenSpec.ofChange u128OrdersSpec)

/-- ITS FALSE NEIGHBOUR: 'it returns false'. Refute it at one input. -/
def u128OrdersWrong : ChangeSpec := { name := "u128Orders", fn := fun _ => fun
  | [d1, d2, d3] => { results := [.lit (.bool false)], args := [d1, d2, d3] }
  | _ => none }
def U128OrdersWrongFalsely : Prop := u128OrdersRow.holds Try.pinned (OpenSpec.ofChange u128OrdersWrong)

/-- 'paciolilaw01.U128Bits': WHATEVER THE INPUT: true; the input reads as it did. -/
def u128BitsSpec : ChangeSpec := { name := "u128Bits", fn := fun _ => fun
  | [d] => { results := [.lit (.bool true)], args := [d] }
  | _ => none }
def u128BitsRow : OpenClaim := { program := "ytafalcebolbbeaa", sum := "dcfdf828eeae4945a266fc23e95a66115579f31b3f5a776d952648d9b64cafdc", func := "pacioli/paciolilaw01.U128Bits", spec := "u128Bits", inPlace := ["math/bits.Add64"], named := ["math/bits.divideError", "math/bits.overflowError"], apart := false }
def U128BitsSaid : Prop := u128BitsRow.holds Try.pinned (OpenSpec.ofChange u128BitsSpec)

/-- ITS FALSE NEIGHBOUR: 'it returns false'. Refute it at one input. -/
def u128BitsWrong : ChangeSpec := { name := "u128Bits", fn := fun _ => fun
  | [d] => { results := [.lit (.bool false)], args := [d] }
  | _ => none }
def U128BitsWrongFalsely : Prop := u128BitsRow.holds Try.pinned (OpenSpec.ofChange u128BitsWrong)

/-- 'paciolilaw01.U128Parses': WHATEVER THE INPUT: true; the input reads as it did. -/
def u128ParsesSpec : ChangeSpec := { name := "u128Parses", fn := fun _ => fun
  | [d1, d2] => { results := [.lit (.bool true)], args := [d1, d2] }
  | _ => none }
def u128ParsesRow : OpenClaim := { program := "ytafalcebolbbeaa", sum := "dcfdf828eeae4945a266fc23e95a66115579f31b3f5a776d952648d9b64cafdc", func := "pacioli/paciolilaw01.U128Parses", spec := "u128Parses", inPlace := ["math/bits.Add64"], named := ["math/bits.divideError", "math/bits.overflowError"], apart := false }
def U128ParsesSaid : Prop := u128ParsesRow.holds Try.pinned (OpenSpec.ofChange u128ParsesSpec)

/-- ITS FALSE NEIGHBOUR: 'it returns false'. Refute it at one input. -/
def u128ParsesWrong : ChangeSpec := { name := "u128Parses", fn := fun _ => fun
  | [d1, d2] => { results := [.lit (.bool false)], args := [d1, d2] }
  | _ => none }
def U128ParsesWrongFalsely : Prop := u128ParsesRow.holds Try.pinned (OpenSpec.ofChange u128ParsesWrong)

/-- 'paciolilaw01.U128Backs': WHATEVER THE INPUT: true; the input reads as it did. -/
def u128BacksSpec : ChangeSpec := { name := "u128Backs", fn := fun _ => fun
  | [d] => { results := [.lit (.bool true)], args := [d] }
  | _ => none }
def u128BacksRow : OpenClaim := { program := "ytafalcebolbbeaa", sum := "dcfdf828eeae4945a266fc23e95a66115579f31b3f5a776d952648d9b64cafdc", func := "pacioli/paciolilaw01.U128Backs", spec := "u128Backs", inPlace := ["math/bits.Add64", "math/bits.Sub64"], named := ["math/bits.divideError", "math/bits.overflowError"], apart := false }
def U128BacksSaid : Prop := u128BacksRow.holds Try.pinned (OpenSpec.ofChange u128BacksSpec)

/-- ITS FALSE NEIGHBOUR: 'it returns false'. Refute it at one input. -/
def u128BacksWrong : ChangeSpec := { name := "u128Backs", fn := fun _ => fun
  | [d] => { results := [.lit (.bool false)], args := [d] }
  | _ => none }
def U128BacksWrongFalsely : Prop := u128BacksRow.holds Try.pinned (OpenSpec.ofChange u128BacksWrong)

/-- 'paciolilaw01.U128Least': WHATEVER THE INPUT: true; the input reads as it did. -/
def u128LeastSpec : ChangeSpec := { name := "u128Least", fn := fun _ => fun
  | [d] => { results := [.lit (.bool true)], args := [d] }
  | _ => none }
def u128LeastRow : OpenClaim := { program := "ytafalcebolbbeaa", sum := "dcfdf828eeae4945a266fc23e95a66115579f31b3f5a776d952648d9b64cafdc", func := "pacioli/paciolilaw01.U128Least", spec := "u128Least", inPlace := ["math/bits.Add64"], named := ["math/bits.divideError", "math/bits.overflowError"], apart := false }
def U128LeastSaid : Prop := u128LeastRow.holds Try.pinned (OpenSpec.ofChange u128LeastSpec)

/-- ITS FALSE NEIGHBOUR: 'it returns false'. Refute it at one input. -/
def u128LeastWrong : ChangeSpec := { name := "u128Least", fn := fun _ => fun
  | [d] => { results := [.lit (.bool false)], args := [d] }
  | _ => none }
def U128LeastWrongFalsely : Prop := u128LeastRow.holds Try.pinned (OpenSpec.ofChange u128LeastWrong)

/-- 'paciolilaw01.U128Less': WHATEVER THE INPUT: true; the input reads as it did. -/
def u128LessSpec : ChangeSpec := { name := "u128Less", fn := fun _ => fun
  | [d1, d2] => { results := [.lit (.bool true)], args := [d1, d2] }
  | _ => none }
def u128LessRow : OpenClaim := { program := "ytafalcebolbbeaa", sum := "dcfdf828eeae4945a266fc23e95a66115579f31b3f5a776d952648d9b64cafdc", func := "pacioli/paciolilaw01.U128Less", spec := "u128Less", inPlace := ["math/bits.Add64", "math/bits.Sub64"], named := ["math/bits.divideError", "math/bits.overflowError"], apart := false }
def U128LessSaid : Prop := u128LessRow.holds Try.pinned (OpenSpec.ofChange u128LessSpec)

/-- ITS FALSE NEIGHBOUR: 'it returns false'. Refute it at one input. -/
def u128LessWrong : ChangeSpec := { name := "u128Less", fn := fun _ => fun
  | [d1, d2] => { results := [.lit (.bool false)], args := [d1, d2] }
  | _ => none }
def U128LessWrongFalsely : Prop := u128LessRow.holds Try.pinned (OpenSpec.ofChange u128LessWrong)

/-- 'paciolilaw01.U128Small': WHATEVER THE INPUT: true; the input reads as it did. -/
def u128SmallSpec : ChangeSpec := { name := "u128Small", fn := fun _ => fun
  | [d1, d2] => { results := [.lit (.bool true)], args := [d1, d2] }
  | _ => none }
def u128SmallRow : OpenClaim := { program := "ytafalcebolbbeaa", sum := "dcfdf828eeae4945a266fc23e95a66115579f31b3f5a776d952648d9b64cafdc", func := "pacioli/paciolilaw01.U128Small", spec := "u128Small", inPlace := ["math/bits.Add64", "math/bits.Sub64"], named := ["math/bits.divideError", "math/bits.overflowError"], apart := false }
def U128SmallSaid : Prop := u128SmallRow.holds Try.pinned (OpenSpec.ofChange u128SmallSpec)

/-- ITS FALSE NEIGHBOUR: 'it returns false'. Refute it at one input. -/
def u128SmallWrong : ChangeSpec := { name := "u128Small", fn := fun _ => fun
  | [d1, d2] => { results := [.lit (.bool false)], args := [d1, d2] }
  | _ => none }
def U128SmallWrongFalsely : Prop := u128SmallRow.holds Try.pinned (OpenSpec.ofChange u128SmallWrong)

/-- 'paciolilaw01.U128Bytes': WHATEVER THE INPUT: true; the input reads as it did. -/
def u128BytesSpec : ChangeSpec := { name := "u128Bytes", fn := fun _ => fun
  | [d1, d2] => { results := [.lit (.bool true)], args := [d1, d2] }
  | _ => none }
def u128BytesRow : OpenClaim := { program := "ytafalcebolbbeaa", sum := "dcfdf828eeae4945a266fc23e95a66115579f31b3f5a776d952648d9b64cafdc", func := "pacioli/paciolilaw01.U128Bytes", spec := "u128Bytes", inPlace := ["math/bits.Add64"], named := ["math/bits.divideError", "math/bits.overflowError"], apart := false }
def U128BytesSaid : Prop := u128BytesRow.holds Try.pinned (OpenSpec.ofChange u128BytesSpec)

/-- ITS FALSE NEIGHBOUR: 'it returns false'. Refute it at one input. -/
def u128BytesWrong : ChangeSpec := { name := "u128Bytes", fn := fun _ => fun
  | [d1, d2] => { results := [.lit (.bool false)], args := [d1, d2] }
  | _ => none }
def U128BytesWrongFalsely : Prop := u128BytesRow.holds Try.pinned (OpenSpec.ofChange u128BytesWrong)

/- THE SECOND FORM. 'bulk': how many values and letters a reading holds, each counted each time it is reached (what is shared counts as often as it is met; a slice's spare places count too). A statement '..UptoSaid' is the law's where the arguments, and the package variables that the reading takes, are together of bulk at most 1048576: NARROWER than '..Said'. Prove '..Said' where nothing that the law and all that it calls make is longer than what came in: it says more and counts as full. Else prove '..UptoSaid'. A law counts once. -/
mutual
def uptoBulk {H : Type} : DataW H → Nat
  | .lit (.string bytes) => bytes.length + 1
  | .lit _ => 1
  | .nil => 1
  | .ptr d => uptoBulk d + 1
  | .slice elems spare => uptoBulkAll elems + uptoBulkAll spare + 1
  | .agg parts => uptoBulkAll parts + 1
  | .iface _ d => uptoBulk d + 1
  | .map entries => uptoBulkEntries entries + 1
  | .held _ => 1
def uptoBulkAll {H : Type} : List (DataW H) → Nat
  | [] => 0
  | d :: r => uptoBulk d + uptoBulkAll r
def uptoBulkEntries {H : Type} : List (Lit × DataW H) → Nat
  | [] => 0
  | x :: r => uptoBulkEntry x + uptoBulkEntries r
def uptoBulkEntry {H : Type} : Lit × DataW H → Nat
  | (.string bytes, d) => bytes.length + uptoBulk d + 1
  | (_, d) => uptoBulk d + 1
 end
def uptoSmall : (H : Type) → List (DataW H) → Bool := fun _ ds => decide (uptoBulkAll ds ≤ 1048576)
def OpenSpec.upto (s : _root_.Go.ChangeSpec) : _root_.Go.OpenSpec := { _root_.Go.OpenSpec.ofChange s with cond := some uptoSmall }

/-- 'paciolilaw01.U128Sums', WHERE WHAT IT READS IS OF BULK AT MOST 1048576: true; the input reads as it did. -/
def u128SumsUptoRow : OpenClaim := { program := "ytafalcebolbbeaa", sum := "dcfdf828eeae4945a266fc23e95a66115579f31b3f5a776d952648d9b64cafdc", func := "pacioli/paciolilaw01.U128Sums", spec := "u128Sums", inPlace := ["math/bits.Add64"], named := ["math/bits.divideError", "math/bits.overflowError"], apart := false, narrowed := true }
def U128SumsUptoSaid : Prop := u128SumsUptoRow.holds Try.pinned (OpenSpec.upto u128SumsSpec)

/-- 'paciolilaw01.U128Prints', WHERE WHAT IT READS IS OF BULK AT MOST 1048576: true; the input reads as it did. -/
def u128PrintsUptoRow : OpenClaim := { program := "ytafalcebolbbeaa", sum := "dcfdf828eeae4945a266fc23e95a66115579f31b3f5a776d952648d9b64cafdc", func := "pacioli/paciolilaw01.U128Prints", spec := "u128Prints", inPlace := ["math/bits.Add64"], named := ["math/bits.divideError", "math/bits.overflowError"], apart := false, narrowed := true }
def U128PrintsUptoSaid : Prop := u128PrintsUptoRow.holds Try.pinned (OpenSpec.upto u128PrintsSpec)

/-- 'paciolilaw01.U128Orders', WHERE WHAT IT READS IS OF BULK AT MOST 1048576: true; the input reads as it did. -/
def u128OrdersUptoRow : OpenClaim := { program := "ytafalcebolbbeaa", sum := "dcfdf828eeae4945a266fc23e95a66115579f31b3f5a776d952648d9b64cafdc", func := "pacioli/paciolilaw01.U128Orders", spec := "u128Orders", inPlace := ["math/bits.Add64"], named := ["math/bits.divideError", "math/bits.overflowError"], apart := false, narrowed := true }
def U128OrdersUptoSaid : Prop := u128OrdersUptoRow.holds Try.pinned (OpenSpec.upto u128OrdersSpec)

/-- 'paciolilaw01.U128Bits', WHERE WHAT IT READS IS OF BULK AT MOST 1048576: true; the input reads as it did. -/
def u128BitsUptoRow : OpenClaim := { program := "ytafalcebolbbeaa", sum := "dcfdf828eeae4945a266fc23e95a66115579f31b3f5a776d952648d9b64cafdc", func := "pacioli/paciolilaw01.U128Bits", spec := "u128Bits", inPlace := ["math/bits.Add64"], named := ["math/bits.divideError", "math/bits.overflowError"], apart := false, narrowed := true }
def U128BitsUptoSaid : Prop := u128BitsUptoRow.holds Try.pinned (OpenSpec.upto u128BitsSpec)

/-- 'paciolilaw01.U128Parses', WHERE WHAT IT READS IS OF BULK AT MOST 1048576: true; the input reads as it did. -/
def u128ParsesUptoRow : OpenClaim := { program := "ytafalcebolbbeaa", sum := "dcfdf828eeae4945a266fc23e95a66115579f31b3f5a776d952648d9b64cafdc", func := "pacioli/paciolilaw01.U128Parses", spec := "u128Parses", inPlace := ["math/bits.Add64"], named := ["math/bits.divideError", "math/bits.overflowError"], apart := false, narrowed := true }
def U128ParsesUptoSaid : Prop := u128ParsesUptoRow.holds Try.pinned (OpenSpec.upto u128ParsesSpec)

/-- 'paciolilaw01.U128Backs', WHERE WHAT IT READS IS OF BULK AT MOST 1048576: true; the input reads as it did. -/
def u128BacksUptoRow : OpenClaim := { program := "ytafalcebolbbeaa", sum := "dcfdf828eeae4945a266fc23e95a66115579f31b3f5a776d952648d9b64cafdc", func := "pacioli/paciolilaw01.U128Backs", spec := "u128Backs", inPlace := ["math/bits.Add64", "math/bits.Sub64"], named := ["math/bits.divideError", "math/bits.overflowError"], apart := false, narrowed := true }
def U128BacksUptoSaid : Prop := u128BacksUptoRow.holds Try.pinned (OpenSpec.upto u128BacksSpec)

/-- 'paciolilaw01.U128Least', WHERE WHAT IT READS IS OF BULK AT MOST 1048576: true; the input reads as it did. -/
def u128LeastUptoRow : OpenClaim := { program := "ytafalcebolbbeaa", sum := "dcfdf828eeae4945a266fc23e95a66115579f31b3f5a776d952648d9b64cafdc", func := "pacioli/paciolilaw01.U128Least", spec := "u128Least", inPlace := ["math/bits.Add64"], named := ["math/bits.divideError", "math/bits.overflowError"], apart := false, narrowed := true }
def U128LeastUptoSaid : Prop := u128LeastUptoRow.holds Try.pinned (OpenSpec.upto u128LeastSpec)

/-- 'paciolilaw01.U128Less', WHERE WHAT IT READS IS OF BULK AT MOST 1048576: true; the input reads as it did. -/
def u128LessUptoRow : OpenClaim := { program := "ytafalcebolbbeaa", sum := "dcfdf828eeae4945a266fc23e95a66115579f31b3f5a776d952648d9b64cafdc", func := "pacioli/paciolilaw01.U128Less", spec := "u128Less", inPlace := ["math/bits.Add64", "math/bits.Sub64"], named := ["math/bits.divideError", "math/bits.overflowError"], apart := false, narrowed := true }
def U128LessUptoSaid : Prop := u128LessUptoRow.holds Try.pinned (OpenSpec.upto u128LessSpec)

/-- 'paciolilaw01.U128Small', WHERE WHAT IT READS IS OF BULK AT MOST 1048576: true; the input reads as it did. -/
def u128SmallUptoRow : OpenClaim := { program := "ytafalcebolbbeaa", sum := "dcfdf828eeae4945a266fc23e95a66115579f31b3f5a776d952648d9b64cafdc", func := "pacioli/paciolilaw01.U128Small", spec := "u128Small", inPlace := ["math/bits.Add64", "math/bits.Sub64"], named := ["math/bits.divideError", "math/bits.overflowError"], apart := false, narrowed := true }
def U128SmallUptoSaid : Prop := u128SmallUptoRow.holds Try.pinned (OpenSpec.upto u128SmallSpec)

/-- 'paciolilaw01.U128Bytes', WHERE WHAT IT READS IS OF BULK AT MOST 1048576: true; the input reads as it did. -/
def u128BytesUptoRow : OpenClaim := { program := "ytafalcebolbbeaa", sum := "dcfdf828eeae4945a266fc23e95a66115579f31b3f5a776d952648d9b64cafdc", func := "pacioli/paciolilaw01.U128Bytes", spec := "u128Bytes", inPlace := ["math/bits.Add64"], named := ["math/bits.divideError", "math/bits.overflowError"], apart := false, narrowed := true }
def U128BytesUptoSaid : Prop := u128BytesUptoRow.holds Try.pinned (OpenSpec.upto u128BytesSpec)

end Rows
end Go.Proofs.Ytafalcebolbbeaa
