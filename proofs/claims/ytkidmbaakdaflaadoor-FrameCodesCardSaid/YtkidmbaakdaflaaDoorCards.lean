/-
  DERIVED. GIVEN WITH THE SEED: THE CARDS: each row of YtkidmbaakdaflaaDoorRows.lean that lists a variable, with what it lists TIED to the program's text (the seventh form; the later family's looks); each row that meets fmt, with fmt's text TOLD by the authors' own Lean function (tested against real Go, not proved from fmt's source: count such statements apart). THE CARD IS WHAT COUNTS. Prove the row's statement (the work); the ties are given (YtkidmbaakdaflaaDoorTie.lean); close each card by the builder's one call (the guide's Derived/Test/ToyasCard.lean, 'card_holds'). Laid BY PROGRAM, IN A SANDBOX (cutbox-door.mjs). By AI agents, Wed Nov 11 2026. No macro, syntax, notation, axiom, sorry.
-/
import Derived.Test.YtkidmbaakdaflaaDoorRows
import GoSem.ClaimSeven
namespace Go.Proofs.YtkidmbaakdaflaaDoor
namespace Rows

/-- THE TIED CARD OF 'billetlaw25.FrameCodes'. -/
def frameCodesCard : Claim7 := { stood := { row := frameCodesRow, standIns := [], harness := (true, "46dfa286df3943dadd17a67321b90dd7d10c1791c89c47250e2f1ad06e686f24"), looks := false }, kinds := [], alts := [], laidByText := true, laidKinds := [.data, .pinned], laidTests := true, laidLooks := .later }
def FrameCodesCardSaid : Prop := Claim7.holds Tryd.pinned (.plain (OpenSpec.ofChange frameCodesSpec)) frameCodesCard

/-- THE TIED CARD OF 'billetlaw25.FrameDecodes'. -/
def frameDecodesCard : Claim7 := { stood := { row := frameDecodesRow, standIns := [], harness := (true, "46dfa286df3943dadd17a67321b90dd7d10c1791c89c47250e2f1ad06e686f24"), looks := false }, kinds := [], alts := [], laidByText := true, laidKinds := [.data, .pinned], laidTests := true, laidLooks := .later }
def FrameDecodesCardSaid : Prop := Claim7.holds Tryd.pinned (.plain (OpenSpec.ofChange frameDecodesSpec)) frameDecodesCard

/-- THE SECOND FORM's CARD OF 'billetlaw25.FrameCodes'. -/
def frameCodesUptoCard : Claim7 := { stood := { row := frameCodesUptoRow, standIns := [], harness := (true, "46dfa286df3943dadd17a67321b90dd7d10c1791c89c47250e2f1ad06e686f24"), looks := false }, kinds := [], alts := [], laidByText := true, laidKinds := [.data, .pinned], laidTests := true, laidLooks := .later }
def FrameCodesUptoCardSaid : Prop := Claim7.holds Tryd.pinned (.plain (OpenSpec.upto frameCodesSpec)) frameCodesUptoCard

/-- THE SECOND FORM's CARD OF 'billetlaw25.FrameDecodes'. -/
def frameDecodesUptoCard : Claim7 := { stood := { row := frameDecodesUptoRow, standIns := [], harness := (true, "46dfa286df3943dadd17a67321b90dd7d10c1791c89c47250e2f1ad06e686f24"), looks := false }, kinds := [], alts := [], laidByText := true, laidKinds := [.data, .pinned], laidTests := true, laidLooks := .later }
def FrameDecodesUptoCardSaid : Prop := Claim7.holds Tryd.pinned (.plain (OpenSpec.upto frameDecodesSpec)) frameDecodesUptoCard
end Rows
end Go.Proofs.YtkidmbaakdaflaaDoor
