/-
  DERIVED. GIVEN WITH THE SEED: THE CARDS: each row of YtpncflaoikeidaaGreatDoorRows.lean that lists a variable, with what it lists TIED to the program's text (the seventh form; the later family's looks); each row that meets fmt, with fmt's text TOLD by the authors' own Lean function (tested against real Go, not proved from fmt's source: count such statements apart). THE CARD IS WHAT COUNTS. Prove the row's statement (the work); the ties are given (YtpncflaoikeidaaGreatDoorTie.lean); close each card by the builder's one call (the guide's Derived/Test/ToyasCard.lean, 'card_holds'). Laid BY PROGRAM, IN A SANDBOX (cutbox-door.mjs). By AI agents, Wed Nov 11 2026. No macro, syntax, notation, axiom, sorry.
-/
import Derived.Test.YtpncflaoikeidaaGreatDoorRows
import GoSem.ClaimSeven
namespace Go.Proofs.YtpncflaoikeidaaGreatDoor
namespace Rows

/-- THE TIED CARD OF 'fluxionlaw04.DigitsRats'. -/
def digitsRatsCard : Claim7 := { stood := { row := digitsRatsRow, standIns := [], harness := (true, "b196da40c08f70e33603c28a60ff85ba8cf6bb1f9fdb4b9f9080038ea40ba9a8"), looks := true }, kinds := [], alts := [], laidByText := true, laidKinds := [.data, .data, .data, .sentinel, .sentinel], laidTests := true, laidLooks := .later }
def DigitsRatsCardSaid : Prop := Claim7.holds Tryz.pinned (.plain (OpenSpec.ofChange digitsRatsSpec)) digitsRatsCard

/-- THE TIED CARD OF 'fluxionlaw04.DigitsTexts'. -/
def digitsTextsCard : Claim7 := { stood := { row := digitsTextsRow, standIns := [], harness := (true, "b196da40c08f70e33603c28a60ff85ba8cf6bb1f9fdb4b9f9080038ea40ba9a8"), looks := true }, kinds := [], alts := [], laidByText := true, laidKinds := [.data, .data, .data, .sentinel, .sentinel], laidTests := true, laidLooks := .later }
def DigitsTextsCardSaid : Prop := Claim7.holds Tryz.pinned (.plain (OpenSpec.ofChange digitsTextsSpec)) digitsTextsCard

/-- THE TIED CARD OF 'fluxionlaw04.DigitsBack'. -/
def digitsBackCard : Claim7 := { stood := { row := digitsBackRow, standIns := [], harness := (true, "b196da40c08f70e33603c28a60ff85ba8cf6bb1f9fdb4b9f9080038ea40ba9a8"), looks := true }, kinds := [], alts := [], laidByText := true, laidKinds := [.data, .data, .data, .sentinel, .sentinel], laidTests := true, laidLooks := .later }
def DigitsBackCardSaid : Prop := Claim7.holds Tryz.pinned (.plain (OpenSpec.ofChange digitsBackSpec)) digitsBackCard

/-- THE TIED CARD OF 'fluxionlaw04.DigitsUnlike'. -/
def digitsUnlikeCard : Claim7 := { stood := { row := digitsUnlikeRow, standIns := [], harness := (true, "b196da40c08f70e33603c28a60ff85ba8cf6bb1f9fdb4b9f9080038ea40ba9a8"), looks := true }, kinds := [], alts := [], laidByText := true, laidKinds := [.data, .data, .data, .sentinel, .sentinel], laidTests := true, laidLooks := .later }
def DigitsUnlikeCardSaid : Prop := Claim7.holds Tryz.pinned (.plain (OpenSpec.ofChange digitsUnlikeSpec)) digitsUnlikeCard

/-- THE TIED CARD OF 'fluxionlaw16.LexNumbers'. -/
def lexNumbersCard : Claim7 := { stood := { row := lexNumbersRow, standIns := [], harness := (true, "b196da40c08f70e33603c28a60ff85ba8cf6bb1f9fdb4b9f9080038ea40ba9a8"), looks := true }, kinds := [], alts := [], laidByText := true, laidKinds := [.data, .data, .data, .data, .sentinel, .sentinel, .pinned], laidTests := true, laidLooks := .later }
def LexNumbersCardSaid : Prop := Claim7.holds Tryz.pinned (.plain (OpenSpec.ofChange lexNumbersSpec)) lexNumbersCard

/-- THE SECOND FORM's CARD OF 'fluxionlaw04.DigitsRats'. -/
def digitsRatsUptoCard : Claim7 := { stood := { row := digitsRatsUptoRow, standIns := [], harness := (true, "b196da40c08f70e33603c28a60ff85ba8cf6bb1f9fdb4b9f9080038ea40ba9a8"), looks := true }, kinds := [], alts := [], laidByText := true, laidKinds := [.data, .data, .data, .sentinel, .sentinel], laidTests := true, laidLooks := .later }
def DigitsRatsUptoCardSaid : Prop := Claim7.holds Tryz.pinned (.plain (OpenSpec.upto digitsRatsSpec)) digitsRatsUptoCard

/-- THE SECOND FORM's CARD OF 'fluxionlaw04.DigitsTexts'. -/
def digitsTextsUptoCard : Claim7 := { stood := { row := digitsTextsUptoRow, standIns := [], harness := (true, "b196da40c08f70e33603c28a60ff85ba8cf6bb1f9fdb4b9f9080038ea40ba9a8"), looks := true }, kinds := [], alts := [], laidByText := true, laidKinds := [.data, .data, .data, .sentinel, .sentinel], laidTests := true, laidLooks := .later }
def DigitsTextsUptoCardSaid : Prop := Claim7.holds Tryz.pinned (.plain (OpenSpec.upto digitsTextsSpec)) digitsTextsUptoCard

/-- THE SECOND FORM's CARD OF 'fluxionlaw04.DigitsBack'. -/
def digitsBackUptoCard : Claim7 := { stood := { row := digitsBackUptoRow, standIns := [], harness := (true, "b196da40c08f70e33603c28a60ff85ba8cf6bb1f9fdb4b9f9080038ea40ba9a8"), looks := true }, kinds := [], alts := [], laidByText := true, laidKinds := [.data, .data, .data, .sentinel, .sentinel], laidTests := true, laidLooks := .later }
def DigitsBackUptoCardSaid : Prop := Claim7.holds Tryz.pinned (.plain (OpenSpec.upto digitsBackSpec)) digitsBackUptoCard

/-- THE SECOND FORM's CARD OF 'fluxionlaw04.DigitsUnlike'. -/
def digitsUnlikeUptoCard : Claim7 := { stood := { row := digitsUnlikeUptoRow, standIns := [], harness := (true, "b196da40c08f70e33603c28a60ff85ba8cf6bb1f9fdb4b9f9080038ea40ba9a8"), looks := true }, kinds := [], alts := [], laidByText := true, laidKinds := [.data, .data, .data, .sentinel, .sentinel], laidTests := true, laidLooks := .later }
def DigitsUnlikeUptoCardSaid : Prop := Claim7.holds Tryz.pinned (.plain (OpenSpec.upto digitsUnlikeSpec)) digitsUnlikeUptoCard

/-- THE SECOND FORM's CARD OF 'fluxionlaw16.LexNumbers'. -/
def lexNumbersUptoCard : Claim7 := { stood := { row := lexNumbersUptoRow, standIns := [], harness := (true, "b196da40c08f70e33603c28a60ff85ba8cf6bb1f9fdb4b9f9080038ea40ba9a8"), looks := true }, kinds := [], alts := [], laidByText := true, laidKinds := [.data, .data, .data, .data, .sentinel, .sentinel, .pinned], laidTests := true, laidLooks := .later }
def LexNumbersUptoCardSaid : Prop := Claim7.holds Tryz.pinned (.plain (OpenSpec.upto lexNumbersSpec)) lexNumbersUptoCard
end Rows
end Go.Proofs.YtpncflaoikeidaaGreatDoor
