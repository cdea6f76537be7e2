/-
  DERIVED. GIVEN WITH THE SEED: THE CARDS: each row of YtbblkgdejgoncaaGreatDoorRows.lean that lists a variable, with what it lists TIED to the program's text (the seventh form; the later family's looks); each row that meets fmt, with fmt's text TOLD by the authors' own Lean function (tested against real Go, not proved from fmt's source: count such statements apart). THE CARD IS WHAT COUNTS. Prove the row's statement (the work); the ties are given (YtbblkgdejgoncaaGreatDoorTie.lean); close each card by the builder's one call (the guide's Derived/Test/ToyasCard.lean, 'card_holds'). Laid BY PROGRAM, IN A SANDBOX (cutbox-door.mjs). By AI agents, Wed Nov 11 2026. No macro, syntax, notation, axiom, sorry.
-/
import Derived.Test.YtbblkgdejgoncaaGreatDoorRows
import GoSem.ClaimSeven
namespace Go.Proofs.YtbblkgdejgoncaaGreatDoor
namespace Rows

/-- THE TIED CARD OF 'billetlaw28.JournalActs'. -/
def journalActsCard : Claim7 := { stood := { row := journalActsRow, standIns := [], harness := (true, "468c8ed4450f0e2571e7682953ba705e704f5813628ffa5732ed566844d62bc2"), looks := false }, kinds := [], alts := [], laidByText := true, laidKinds := [.data, .pinned], laidTests := true, laidLooks := .later }
def JournalActsCardSaid : Prop := Claim7.holds Tryz.pinned (.plain (OpenSpec.ofChange journalActsSpec)) journalActsCard

/-- THE TIED CARD OF 'billetlaw28.JournalFalls'. -/
def journalFallsCard : Claim7 := { stood := { row := journalFallsRow, standIns := [], harness := (true, "468c8ed4450f0e2571e7682953ba705e704f5813628ffa5732ed566844d62bc2"), looks := false }, kinds := [], alts := [], laidByText := true, laidKinds := [.data, .pinned], laidTests := true, laidLooks := .later }
def JournalFallsCardSaid : Prop := Claim7.holds Tryz.pinned (.plain (OpenSpec.ofChange journalFallsSpec)) journalFallsCard

/-- THE TIED CARD OF 'billetlaw28.JournalLooks'. -/
def journalLooksCard : Claim7 := { stood := { row := journalLooksRow, standIns := [], harness := (true, "468c8ed4450f0e2571e7682953ba705e704f5813628ffa5732ed566844d62bc2"), looks := false }, kinds := [], alts := [], laidByText := true, laidKinds := [.data, .pinned], laidTests := true, laidLooks := .later }
def JournalLooksCardSaid : Prop := Claim7.holds Tryz.pinned (.plain (OpenSpec.ofChange journalLooksSpec)) journalLooksCard

/-- THE SECOND FORM's CARD OF 'billetlaw28.JournalActs'. -/
def journalActsUptoCard : Claim7 := { stood := { row := journalActsUptoRow, standIns := [], harness := (true, "468c8ed4450f0e2571e7682953ba705e704f5813628ffa5732ed566844d62bc2"), looks := false }, kinds := [], alts := [], laidByText := true, laidKinds := [.data, .pinned], laidTests := true, laidLooks := .later }
def JournalActsUptoCardSaid : Prop := Claim7.holds Tryz.pinned (.plain (OpenSpec.upto journalActsSpec)) journalActsUptoCard

/-- THE SECOND FORM's CARD OF 'billetlaw28.JournalFalls'. -/
def journalFallsUptoCard : Claim7 := { stood := { row := journalFallsUptoRow, standIns := [], harness := (true, "468c8ed4450f0e2571e7682953ba705e704f5813628ffa5732ed566844d62bc2"), looks := false }, kinds := [], alts := [], laidByText := true, laidKinds := [.data, .pinned], laidTests := true, laidLooks := .later }
def JournalFallsUptoCardSaid : Prop := Claim7.holds Tryz.pinned (.plain (OpenSpec.upto journalFallsSpec)) journalFallsUptoCard

/-- THE SECOND FORM's CARD OF 'billetlaw28.JournalLooks'. -/
def journalLooksUptoCard : Claim7 := { stood := { row := journalLooksUptoRow, standIns := [], harness := (true, "468c8ed4450f0e2571e7682953ba705e704f5813628ffa5732ed566844d62bc2"), looks := false }, kinds := [], alts := [], laidByText := true, laidKinds := [.data, .pinned], laidTests := true, laidLooks := .later }
def JournalLooksUptoCardSaid : Prop := Claim7.holds Tryz.pinned (.plain (OpenSpec.upto journalLooksSpec)) journalLooksUptoCard
end Rows
end Go.Proofs.YtbblkgdejgoncaaGreatDoor
