/-
  DERIVED. GIVEN WITH THE SEED: THE CARDS: each row of YtgbgddmbooaddaaGreatDoorRows.lean that lists a variable, with what it lists TIED to the program's text (the seventh form; the later family's looks); each row that meets fmt, with fmt's text TOLD by the authors' own Lean function (tested against real Go, not proved from fmt's source: count such statements apart). THE CARD IS WHAT COUNTS. Prove the row's statement (the work); the ties are given (YtgbgddmbooaddaaGreatDoorTie.lean); close each card by the builder's one call (the guide's Derived/Test/ToyasCard.lean, 'card_holds'). Laid BY PROGRAM, IN A SANDBOX (cutbox-door.mjs). By AI agents, Wed Nov 11 2026. No macro, syntax, notation, axiom, sorry.
-/
import Derived.Test.YtgbgddmbooaddaaGreatDoorRows
import GoSem.ClaimSeven
namespace Go.Proofs.YtgbgddmbooaddaaGreatDoor
namespace Rows

/-- THE TIED CARD OF 'sleuthlaw08.LearnTexts'. -/
def learnTextsCard : Claim7 := { stood := { row := learnTextsRow, standIns := [], harness := (true, "f60e5c598985de084c5d8d8318bf1fc190fe9497004ac857340c7dee43ce5550"), looks := true }, kinds := [], alts := [], laidByText := true, laidKinds := [.data, .data, .data, .data, .sentinel, .sentinel, .pinned], laidTests := true, laidLooks := .later }
def LearnTextsCardSaid : Prop := Claim7.holds Tryz.pinned (.plain (OpenSpec.ofChange learnTextsSpec)) learnTextsCard

/-- THE TIED CARD OF 'sleuthlaw08.LearnBack'. -/
def learnBackCard : Claim7 := { stood := { row := learnBackRow, standIns := [], harness := (true, "f60e5c598985de084c5d8d8318bf1fc190fe9497004ac857340c7dee43ce5550"), looks := true }, kinds := [], alts := [], laidByText := true, laidKinds := [.data, .data, .data, .data, .sentinel, .sentinel, .pinned], laidTests := true, laidLooks := .later }
def LearnBackCardSaid : Prop := Claim7.holds Tryz.pinned (.plain (OpenSpec.ofChange learnBackSpec)) learnBackCard

/-- THE TIED CARD OF 'sleuthlaw08.LearnMines'. -/
def learnMinesCard : Claim7 := { stood := { row := learnMinesRow, standIns := [], harness := (true, "f60e5c598985de084c5d8d8318bf1fc190fe9497004ac857340c7dee43ce5550"), looks := true }, kinds := [], alts := [], laidByText := true, laidKinds := [.data, .data, .data, .data, .sentinel, .sentinel, .pinned], laidTests := true, laidLooks := .later }
def LearnMinesCardSaid : Prop := Claim7.holds Tryz.pinned (.plain (OpenSpec.ofChange learnMinesSpec)) learnMinesCard

/-- THE TIED CARD OF 'sleuthlaw08.LearnBounds'. -/
def learnBoundsCard : Claim7 := { stood := { row := learnBoundsRow, standIns := [], harness := (true, "f60e5c598985de084c5d8d8318bf1fc190fe9497004ac857340c7dee43ce5550"), looks := true }, kinds := [], alts := [], laidByText := true, laidKinds := [.data, .data, .data, .data, .sentinel, .sentinel, .pinned], laidTests := true, laidLooks := .later }
def LearnBoundsCardSaid : Prop := Claim7.holds Tryz.pinned (.plain (OpenSpec.ofChange learnBoundsSpec)) learnBoundsCard

/-- THE TIED CARD OF 'sleuthlaw08.LearnTrue'. -/
def learnTrueCard : Claim7 := { stood := { row := learnTrueRow, standIns := [], harness := (true, "f60e5c598985de084c5d8d8318bf1fc190fe9497004ac857340c7dee43ce5550"), looks := true }, kinds := [], alts := [], laidByText := true, laidKinds := [.data, .data, .data, .data, .sentinel, .sentinel, .pinned], laidTests := true, laidLooks := .later }
def LearnTrueCardSaid : Prop := Claim7.holds Tryz.pinned (.plain (OpenSpec.ofChange learnTrueSpec)) learnTrueCard

/-- THE TIED CARD OF 'sleuthlaw08.LearnClaims'. -/
def learnClaimsCard : Claim7 := { stood := { row := learnClaimsRow, standIns := [], harness := (true, "f60e5c598985de084c5d8d8318bf1fc190fe9497004ac857340c7dee43ce5550"), looks := true }, kinds := [], alts := [], laidByText := true, laidKinds := [.data, .data, .data, .data, .sentinel, .sentinel, .pinned], laidTests := true, laidLooks := .later }
def LearnClaimsCardSaid : Prop := Claim7.holds Tryz.pinned (.plain (OpenSpec.ofChange learnClaimsSpec)) learnClaimsCard

/-- THE TIED CARD OF 'sleuthlaw08.LearnMerges'. -/
def learnMergesCard : Claim7 := { stood := { row := learnMergesRow, standIns := [], harness := (true, "f60e5c598985de084c5d8d8318bf1fc190fe9497004ac857340c7dee43ce5550"), looks := true }, kinds := [], alts := [], laidByText := true, laidKinds := [.data, .data, .data, .data, .sentinel, .sentinel, .pinned], laidTests := true, laidLooks := .later }
def LearnMergesCardSaid : Prop := Claim7.holds Tryz.pinned (.plain (OpenSpec.ofChange learnMergesSpec)) learnMergesCard

/-- THE SECOND FORM's CARD OF 'sleuthlaw08.LearnTexts'. -/
def learnTextsUptoCard : Claim7 := { stood := { row := learnTextsUptoRow, standIns := [], harness := (true, "f60e5c598985de084c5d8d8318bf1fc190fe9497004ac857340c7dee43ce5550"), looks := true }, kinds := [], alts := [], laidByText := true, laidKinds := [.data, .data, .data, .data, .sentinel, .sentinel, .pinned], laidTests := true, laidLooks := .later }
def LearnTextsUptoCardSaid : Prop := Claim7.holds Tryz.pinned (.plain (OpenSpec.upto learnTextsSpec)) learnTextsUptoCard

/-- THE SECOND FORM's CARD OF 'sleuthlaw08.LearnBack'. -/
def learnBackUptoCard : Claim7 := { stood := { row := learnBackUptoRow, standIns := [], harness := (true, "f60e5c598985de084c5d8d8318bf1fc190fe9497004ac857340c7dee43ce5550"), looks := true }, kinds := [], alts := [], laidByText := true, laidKinds := [.data, .data, .data, .data, .sentinel, .sentinel, .pinned], laidTests := true, laidLooks := .later }
def LearnBackUptoCardSaid : Prop := Claim7.holds Tryz.pinned (.plain (OpenSpec.upto learnBackSpec)) learnBackUptoCard

/-- THE SECOND FORM's CARD OF 'sleuthlaw08.LearnMines'. -/
def learnMinesUptoCard : Claim7 := { stood := { row := learnMinesUptoRow, standIns := [], harness := (true, "f60e5c598985de084c5d8d8318bf1fc190fe9497004ac857340c7dee43ce5550"), looks := true }, kinds := [], alts := [], laidByText := true, laidKinds := [.data, .data, .data, .data, .sentinel, .sentinel, .pinned], laidTests := true, laidLooks := .later }
def LearnMinesUptoCardSaid : Prop := Claim7.holds Tryz.pinned (.plain (OpenSpec.upto learnMinesSpec)) learnMinesUptoCard

/-- THE SECOND FORM's CARD OF 'sleuthlaw08.LearnBounds'. -/
def learnBoundsUptoCard : Claim7 := { stood := { row := learnBoundsUptoRow, standIns := [], harness := (true, "f60e5c598985de084c5d8d8318bf1fc190fe9497004ac857340c7dee43ce5550"), looks := true }, kinds := [], alts := [], laidByText := true, laidKinds := [.data, .data, .data, .data, .sentinel, .sentinel, .pinned], laidTests := true, laidLooks := .later }
def LearnBoundsUptoCardSaid : Prop := Claim7.holds Tryz.pinned (.plain (OpenSpec.upto learnBoundsSpec)) learnBoundsUptoCard

/-- THE SECOND FORM's CARD OF 'sleuthlaw08.LearnTrue'. -/
def learnTrueUptoCard : Claim7 := { stood := { row := learnTrueUptoRow, standIns := [], harness := (true, "f60e5c598985de084c5d8d8318bf1fc190fe9497004ac857340c7dee43ce5550"), looks := true }, kinds := [], alts := [], laidByText := true, laidKinds := [.data, .data, .data, .data, .sentinel, .sentinel, .pinned], laidTests := true, laidLooks := .later }
def LearnTrueUptoCardSaid : Prop := Claim7.holds Tryz.pinned (.plain (OpenSpec.upto learnTrueSpec)) learnTrueUptoCard

/-- THE SECOND FORM's CARD OF 'sleuthlaw08.LearnClaims'. -/
def learnClaimsUptoCard : Claim7 := { stood := { row := learnClaimsUptoRow, standIns := [], harness := (true, "f60e5c598985de084c5d8d8318bf1fc190fe9497004ac857340c7dee43ce5550"), looks := true }, kinds := [], alts := [], laidByText := true, laidKinds := [.data, .data, .data, .data, .sentinel, .sentinel, .pinned], laidTests := true, laidLooks := .later }
def LearnClaimsUptoCardSaid : Prop := Claim7.holds Tryz.pinned (.plain (OpenSpec.upto learnClaimsSpec)) learnClaimsUptoCard

/-- THE SECOND FORM's CARD OF 'sleuthlaw08.LearnMerges'. -/
def learnMergesUptoCard : Claim7 := { stood := { row := learnMergesUptoRow, standIns := [], harness := (true, "f60e5c598985de084c5d8d8318bf1fc190fe9497004ac857340c7dee43ce5550"), looks := true }, kinds := [], alts := [], laidByText := true, laidKinds := [.data, .data, .data, .data, .sentinel, .sentinel, .pinned], laidTests := true, laidLooks := .later }
def LearnMergesUptoCardSaid : Prop := Claim7.holds Tryz.pinned (.plain (OpenSpec.upto learnMergesSpec)) learnMergesUptoCard
end Rows
end Go.Proofs.YtgbgddmbooaddaaGreatDoor
