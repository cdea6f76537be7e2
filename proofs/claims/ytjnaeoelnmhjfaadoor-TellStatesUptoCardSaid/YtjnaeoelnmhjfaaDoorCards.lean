/-
  DERIVED. GIVEN WITH THE SEED: THE CARDS: each row of YtjnaeoelnmhjfaaDoorRows.lean that lists a variable, with what it lists TIED to the program's text (the seventh form; the later family's looks); each row that meets fmt, with fmt's text TOLD by the authors' own Lean function (tested against real Go, not proved from fmt's source: count such statements apart). THE CARD IS WHAT COUNTS. Prove the row's statement (the work); the ties are given (YtjnaeoelnmhjfaaDoorTie.lean); close each card by the builder's one call (the guide's Derived/Test/ToyasCard.lean, 'card_holds'). Laid BY PROGRAM, IN A SANDBOX (cutbox-door.mjs). By AI agents, Wed Nov 11 2026. No macro, syntax, notation, axiom, sorry.
-/
import Derived.Test.YtjnaeoelnmhjfaaDoorRows
import GoSem.ClaimSeven
namespace Go.Proofs.YtjnaeoelnmhjfaaDoor
namespace Rows

/-- THE TIED CARD OF 'billetlaw45.TellWords'. -/
def tellWordsCard : Claim7 := { stood := { row := tellWordsRow, standIns := [], harness := (true, "47e8e794d31d77f696cb908595f4efc22e30906ea5a9f98a8f590df766d91ebd"), looks := false }, kinds := [], alts := [], laidByText := true, laidKinds := [.data, .data, .data], laidTests := true, laidLooks := .later }
def TellWordsCardSaid : Prop := Claim7.holds Tryd.pinned (.plain (OpenSpec.ofChange tellWordsSpec)) tellWordsCard

/-- THE TIED CARD OF 'billetlaw45.TellRequests'. -/
def tellRequestsCard : Claim7 := { stood := { row := tellRequestsRow, standIns := [], harness := (true, "47e8e794d31d77f696cb908595f4efc22e30906ea5a9f98a8f590df766d91ebd"), looks := false }, kinds := [], alts := [], laidByText := true, laidKinds := [.data, .data, .data], laidTests := true, laidLooks := .later }
def TellRequestsCardSaid : Prop := Claim7.holds Tryd.pinned (.plain (OpenSpec.ofChange tellRequestsSpec)) tellRequestsCard

/-- THE TIED CARD OF 'billetlaw45.TellStates'. -/
def tellStatesCard : Claim7 := { stood := { row := tellStatesRow, standIns := [], harness := (true, "47e8e794d31d77f696cb908595f4efc22e30906ea5a9f98a8f590df766d91ebd"), looks := false }, kinds := [], alts := [], laidByText := true, laidKinds := [.data, .data, .data], laidTests := true, laidLooks := .later }
def TellStatesCardSaid : Prop := Claim7.holds Tryd.pinned (.plain (OpenSpec.ofChange tellStatesSpec)) tellStatesCard

/-- THE SECOND FORM's CARD OF 'billetlaw45.TellWords'. -/
def tellWordsUptoCard : Claim7 := { stood := { row := tellWordsUptoRow, standIns := [], harness := (true, "47e8e794d31d77f696cb908595f4efc22e30906ea5a9f98a8f590df766d91ebd"), looks := false }, kinds := [], alts := [], laidByText := true, laidKinds := [.data, .data, .data], laidTests := true, laidLooks := .later }
def TellWordsUptoCardSaid : Prop := Claim7.holds Tryd.pinned (.plain (OpenSpec.upto tellWordsSpec)) tellWordsUptoCard

/-- THE SECOND FORM's CARD OF 'billetlaw45.TellRequests'. -/
def tellRequestsUptoCard : Claim7 := { stood := { row := tellRequestsUptoRow, standIns := [], harness := (true, "47e8e794d31d77f696cb908595f4efc22e30906ea5a9f98a8f590df766d91ebd"), looks := false }, kinds := [], alts := [], laidByText := true, laidKinds := [.data, .data, .data], laidTests := true, laidLooks := .later }
def TellRequestsUptoCardSaid : Prop := Claim7.holds Tryd.pinned (.plain (OpenSpec.upto tellRequestsSpec)) tellRequestsUptoCard

/-- THE SECOND FORM's CARD OF 'billetlaw45.TellStates'. -/
def tellStatesUptoCard : Claim7 := { stood := { row := tellStatesUptoRow, standIns := [], harness := (true, "47e8e794d31d77f696cb908595f4efc22e30906ea5a9f98a8f590df766d91ebd"), looks := false }, kinds := [], alts := [], laidByText := true, laidKinds := [.data, .data, .data], laidTests := true, laidLooks := .later }
def TellStatesUptoCardSaid : Prop := Claim7.holds Tryd.pinned (.plain (OpenSpec.upto tellStatesSpec)) tellStatesUptoCard
end Rows
end Go.Proofs.YtjnaeoelnmhjfaaDoor
