/-
  DERIVED. GIVEN WITH THE SEED: THE CARDS: each row of YtcfipblnaifbhaaDoorRows.lean that lists a variable, with what it lists TIED to the program's text (the seventh form; the later family's looks); each row that meets fmt, with fmt's text TOLD by the authors' own Lean function (tested against real Go, not proved from fmt's source: count such statements apart). THE CARD IS WHAT COUNTS. Prove the row's statement (the work); the ties are given (YtcfipblnaifbhaaDoorTie.lean); close each card by the builder's one call (the guide's Derived/Test/ToyasCard.lean, 'card_holds'). Laid BY PROGRAM, IN A SANDBOX (cutbox-door.mjs). By AI agents, Wed Nov 11 2026. No macro, syntax, notation, axiom, sorry.
-/
import Derived.Test.YtcfipblnaifbhaaDoorRows
import GoSem.ClaimSeven
namespace Go.Proofs.YtcfipblnaifbhaaDoor
namespace Rows

/-- THE TIED CARD OF 'paciolilaw02.ShaSums'. -/
def shaSumsCard : Claim7 := { stood := { row := shaSumsRow, standIns := [], harness := (true, "c59000682bd1665af73ad339d840365669250ffdffb6e3f54f5429959ac91e75"), looks := false }, kinds := [], alts := [], laidByText := true, laidKinds := [.data, .data], laidTests := true, laidLooks := .later }
def ShaSumsCardSaid : Prop := Claim7.holds Tryd.pinned (.plain (OpenSpec.ofChange shaSumsSpec)) shaSumsCard

/-- THE TIED CARD OF 'paciolilaw02.ShaApart'. -/
def shaApartCard : Claim7 := { stood := { row := shaApartRow, standIns := [], harness := (true, "c59000682bd1665af73ad339d840365669250ffdffb6e3f54f5429959ac91e75"), looks := false }, kinds := [], alts := [], laidByText := true, laidKinds := [.data, .data], laidTests := true, laidLooks := .later }
def ShaApartCardSaid : Prop := Claim7.holds Tryd.pinned (.plain (OpenSpec.ofChange shaApartSpec)) shaApartCard

/-- THE TIED CARD OF 'paciolilaw02.ShaZeros'. -/
def shaZerosCard : Claim7 := { stood := { row := shaZerosRow, standIns := [], harness := (true, "c59000682bd1665af73ad339d840365669250ffdffb6e3f54f5429959ac91e75"), looks := false }, kinds := [], alts := [], laidByText := true, laidKinds := [.data, .data], laidTests := true, laidLooks := .later }
def ShaZerosCardSaid : Prop := Claim7.holds Tryd.pinned (.plain (OpenSpec.ofChange shaZerosSpec)) shaZerosCard

/-- THE TIED CARD OF 'paciolilaw02.ShaTapes'. -/
def shaTapesCard : Claim7 := { stood := { row := shaTapesRow, standIns := [], harness := (true, "c59000682bd1665af73ad339d840365669250ffdffb6e3f54f5429959ac91e75"), looks := false }, kinds := [], alts := [], laidByText := true, laidKinds := [.data, .data], laidTests := true, laidLooks := .later }
def ShaTapesCardSaid : Prop := Claim7.holds Tryd.pinned (.plain (OpenSpec.ofChange shaTapesSpec)) shaTapesCard

/-- THE TIED CARD OF 'paciolilaw02.ShaSteps'. -/
def shaStepsCard : Claim7 := { stood := { row := shaStepsRow, standIns := [], harness := (true, "c59000682bd1665af73ad339d840365669250ffdffb6e3f54f5429959ac91e75"), looks := false }, kinds := [], alts := [], laidByText := true, laidKinds := [.data, .data], laidTests := true, laidLooks := .later }
def ShaStepsCardSaid : Prop := Claim7.holds Tryd.pinned (.plain (OpenSpec.ofChange shaStepsSpec)) shaStepsCard

/-- THE SECOND FORM's CARD OF 'paciolilaw02.ShaSums'. -/
def shaSumsUptoCard : Claim7 := { stood := { row := shaSumsUptoRow, standIns := [], harness := (true, "c59000682bd1665af73ad339d840365669250ffdffb6e3f54f5429959ac91e75"), looks := false }, kinds := [], alts := [], laidByText := true, laidKinds := [.data, .data], laidTests := true, laidLooks := .later }
def ShaSumsUptoCardSaid : Prop := Claim7.holds Tryd.pinned (.plain (OpenSpec.upto shaSumsSpec)) shaSumsUptoCard

/-- THE SECOND FORM's CARD OF 'paciolilaw02.ShaApart'. -/
def shaApartUptoCard : Claim7 := { stood := { row := shaApartUptoRow, standIns := [], harness := (true, "c59000682bd1665af73ad339d840365669250ffdffb6e3f54f5429959ac91e75"), looks := false }, kinds := [], alts := [], laidByText := true, laidKinds := [.data, .data], laidTests := true, laidLooks := .later }
def ShaApartUptoCardSaid : Prop := Claim7.holds Tryd.pinned (.plain (OpenSpec.upto shaApartSpec)) shaApartUptoCard

/-- THE SECOND FORM's CARD OF 'paciolilaw02.ShaZeros'. -/
def shaZerosUptoCard : Claim7 := { stood := { row := shaZerosUptoRow, standIns := [], harness := (true, "c59000682bd1665af73ad339d840365669250ffdffb6e3f54f5429959ac91e75"), looks := false }, kinds := [], alts := [], laidByText := true, laidKinds := [.data, .data], laidTests := true, laidLooks := .later }
def ShaZerosUptoCardSaid : Prop := Claim7.holds Tryd.pinned (.plain (OpenSpec.upto shaZerosSpec)) shaZerosUptoCard

/-- THE SECOND FORM's CARD OF 'paciolilaw02.ShaTapes'. -/
def shaTapesUptoCard : Claim7 := { stood := { row := shaTapesUptoRow, standIns := [], harness := (true, "c59000682bd1665af73ad339d840365669250ffdffb6e3f54f5429959ac91e75"), looks := false }, kinds := [], alts := [], laidByText := true, laidKinds := [.data, .data], laidTests := true, laidLooks := .later }
def ShaTapesUptoCardSaid : Prop := Claim7.holds Tryd.pinned (.plain (OpenSpec.upto shaTapesSpec)) shaTapesUptoCard

/-- THE SECOND FORM's CARD OF 'paciolilaw02.ShaSteps'. -/
def shaStepsUptoCard : Claim7 := { stood := { row := shaStepsUptoRow, standIns := [], harness := (true, "c59000682bd1665af73ad339d840365669250ffdffb6e3f54f5429959ac91e75"), looks := false }, kinds := [], alts := [], laidByText := true, laidKinds := [.data, .data], laidTests := true, laidLooks := .later }
def ShaStepsUptoCardSaid : Prop := Claim7.holds Tryd.pinned (.plain (OpenSpec.upto shaStepsSpec)) shaStepsUptoCard
end Rows
end Go.Proofs.YtcfipblnaifbhaaDoor
