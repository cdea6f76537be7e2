/-
  DERIVED. GIVEN WITH THE SEED: THE CARDS: each row of YtbblkgdejgoncaaDoorRows.lean that lists a variable, with what it lists TIED to the program's text (the seventh form; the later family's looks); each row that meets fmt, with fmt's text TOLD by the authors' own Lean function (tested against real Go, not proved from fmt's source: count such statements apart). THE CARD IS WHAT COUNTS. Prove the row's statement (the work); the ties are given (YtbblkgdejgoncaaDoorTie.lean); close each card by the builder's one call (the guide's Derived/Test/ToyasCard.lean, 'card_holds'). Laid BY PROGRAM, IN A SANDBOX (cutbox-door.mjs). By AI agents, Wed Nov 11 2026. No macro, syntax, notation, axiom, sorry.
-/
import Derived.Test.YtbblkgdejgoncaaDoorRows
import GoSem.ClaimSeven
namespace Go.Proofs.YtbblkgdejgoncaaDoor
namespace Rows

/-- THE TIED CARD OF 'billetlaw25.FrameBursts'. -/
def frameBurstsCard : Claim7 := { stood := { row := frameBurstsRow, standIns := [], harness := (true, "5831c38cf6ea272a7ed8de000f444871444e28ea294e358b54efaf22283905cd"), looks := false }, kinds := [], alts := [], laidByText := true, laidKinds := [.data, .pinned], laidTests := true, laidLooks := .later }
def FrameBurstsCardSaid : Prop := Claim7.holds Tryd.pinned (.plain (OpenSpec.ofChange frameBurstsSpec)) frameBurstsCard

/-- THE TIED CARD OF 'billetlaw27.SnapGets'. -/
def snapGetsCard : Claim7 := { stood := { row := snapGetsRow, standIns := [], harness := (true, "5831c38cf6ea272a7ed8de000f444871444e28ea294e358b54efaf22283905cd"), looks := false }, kinds := [], alts := [], laidByText := true, laidKinds := [.data, .pinned], laidTests := true, laidLooks := .later }
def SnapGetsCardSaid : Prop := Claim7.holds Tryd.pinned (.plain (OpenSpec.ofChange snapGetsSpec)) snapGetsCard

/-- THE TIED CARD OF 'billetlaw27.SnapNil'. -/
def snapNilCard : Claim7 := { stood := { row := snapNilRow, standIns := [], harness := (true, "5831c38cf6ea272a7ed8de000f444871444e28ea294e358b54efaf22283905cd"), looks := false }, kinds := [], alts := [], laidByText := true, laidKinds := [.data, .pinned], laidTests := true, laidLooks := .later }
def SnapNilCardSaid : Prop := Claim7.holds Tryd.pinned (.plain (OpenSpec.ofChange snapNilSpec)) snapNilCard

/-- THE TIED CARD OF 'billetlaw27.SnapPuts'. -/
def snapPutsCard : Claim7 := { stood := { row := snapPutsRow, standIns := [], harness := (true, "5831c38cf6ea272a7ed8de000f444871444e28ea294e358b54efaf22283905cd"), looks := false }, kinds := [], alts := [], laidByText := true, laidKinds := [.data, .pinned], laidTests := true, laidLooks := .later }
def SnapPutsCardSaid : Prop := Claim7.holds Tryd.pinned (.plain (OpenSpec.ofChange snapPutsSpec)) snapPutsCard

/-- THE TIED CARD OF 'billetlaw27.SnapFalls'. -/
def snapFallsCard : Claim7 := { stood := { row := snapFallsRow, standIns := [], harness := (true, "5831c38cf6ea272a7ed8de000f444871444e28ea294e358b54efaf22283905cd"), looks := false }, kinds := [], alts := [], laidByText := true, laidKinds := [.data, .pinned], laidTests := true, laidLooks := .later }
def SnapFallsCardSaid : Prop := Claim7.holds Tryd.pinned (.plain (OpenSpec.ofChange snapFallsSpec)) snapFallsCard

/-- THE TIED CARD OF 'billetlaw26.LogAppends'. -/
def logAppendsCard : Claim7 := { stood := { row := logAppendsRow, standIns := [], harness := (true, "5831c38cf6ea272a7ed8de000f444871444e28ea294e358b54efaf22283905cd"), looks := false }, kinds := [], alts := [], laidByText := true, laidKinds := [.data, .pinned], laidTests := true, laidLooks := .later }
def LogAppendsCardSaid : Prop := Claim7.holds Tryd.pinned (.plain (OpenSpec.ofChange logAppendsSpec)) logAppendsCard

/-- THE TIED CARD OF 'billetlaw26.LogReplays'. -/
def logReplaysCard : Claim7 := { stood := { row := logReplaysRow, standIns := [], harness := (true, "5831c38cf6ea272a7ed8de000f444871444e28ea294e358b54efaf22283905cd"), looks := false }, kinds := [], alts := [], laidByText := true, laidKinds := [.data, .pinned], laidTests := true, laidLooks := .later }
def LogReplaysCardSaid : Prop := Claim7.holds Tryd.pinned (.plain (OpenSpec.ofChange logReplaysSpec)) logReplaysCard

/-- THE TIED CARD OF 'billetlaw26.LogNil'. -/
def logNilCard : Claim7 := { stood := { row := logNilRow, standIns := [], harness := (true, "5831c38cf6ea272a7ed8de000f444871444e28ea294e358b54efaf22283905cd"), looks := false }, kinds := [], alts := [], laidByText := true, laidKinds := [.data, .pinned], laidTests := true, laidLooks := .later }
def LogNilCardSaid : Prop := Claim7.holds Tryd.pinned (.plain (OpenSpec.ofChange logNilSpec)) logNilCard

/-- THE TIED CARD OF 'billetlaw26.LogFalls'. -/
def logFallsCard : Claim7 := { stood := { row := logFallsRow, standIns := [], harness := (true, "5831c38cf6ea272a7ed8de000f444871444e28ea294e358b54efaf22283905cd"), looks := false }, kinds := [], alts := [], laidByText := true, laidKinds := [.data, .pinned], laidTests := true, laidLooks := .later }
def LogFallsCardSaid : Prop := Claim7.holds Tryd.pinned (.plain (OpenSpec.ofChange logFallsSpec)) logFallsCard

/-- THE SECOND FORM's CARD OF 'billetlaw25.FrameBursts'. -/
def frameBurstsUptoCard : Claim7 := { stood := { row := frameBurstsUptoRow, standIns := [], harness := (true, "5831c38cf6ea272a7ed8de000f444871444e28ea294e358b54efaf22283905cd"), looks := false }, kinds := [], alts := [], laidByText := true, laidKinds := [.data, .pinned], laidTests := true, laidLooks := .later }
def FrameBurstsUptoCardSaid : Prop := Claim7.holds Tryd.pinned (.plain (OpenSpec.upto frameBurstsSpec)) frameBurstsUptoCard

/-- THE SECOND FORM's CARD OF 'billetlaw27.SnapGets'. -/
def snapGetsUptoCard : Claim7 := { stood := { row := snapGetsUptoRow, standIns := [], harness := (true, "5831c38cf6ea272a7ed8de000f444871444e28ea294e358b54efaf22283905cd"), looks := false }, kinds := [], alts := [], laidByText := true, laidKinds := [.data, .pinned], laidTests := true, laidLooks := .later }
def SnapGetsUptoCardSaid : Prop := Claim7.holds Tryd.pinned (.plain (OpenSpec.upto snapGetsSpec)) snapGetsUptoCard

/-- THE SECOND FORM's CARD OF 'billetlaw27.SnapNil'. -/
def snapNilUptoCard : Claim7 := { stood := { row := snapNilUptoRow, standIns := [], harness := (true, "5831c38cf6ea272a7ed8de000f444871444e28ea294e358b54efaf22283905cd"), looks := false }, kinds := [], alts := [], laidByText := true, laidKinds := [.data, .pinned], laidTests := true, laidLooks := .later }
def SnapNilUptoCardSaid : Prop := Claim7.holds Tryd.pinned (.plain (OpenSpec.upto snapNilSpec)) snapNilUptoCard

/-- THE SECOND FORM's CARD OF 'billetlaw27.SnapPuts'. -/
def snapPutsUptoCard : Claim7 := { stood := { row := snapPutsUptoRow, standIns := [], harness := (true, "5831c38cf6ea272a7ed8de000f444871444e28ea294e358b54efaf22283905cd"), looks := false }, kinds := [], alts := [], laidByText := true, laidKinds := [.data, .pinned], laidTests := true, laidLooks := .later }
def SnapPutsUptoCardSaid : Prop := Claim7.holds Tryd.pinned (.plain (OpenSpec.upto snapPutsSpec)) snapPutsUptoCard

/-- THE SECOND FORM's CARD OF 'billetlaw27.SnapFalls'. -/
def snapFallsUptoCard : Claim7 := { stood := { row := snapFallsUptoRow, standIns := [], harness := (true, "5831c38cf6ea272a7ed8de000f444871444e28ea294e358b54efaf22283905cd"), looks := false }, kinds := [], alts := [], laidByText := true, laidKinds := [.data, .pinned], laidTests := true, laidLooks := .later }
def SnapFallsUptoCardSaid : Prop := Claim7.holds Tryd.pinned (.plain (OpenSpec.upto snapFallsSpec)) snapFallsUptoCard

/-- THE SECOND FORM's CARD OF 'billetlaw26.LogAppends'. -/
def logAppendsUptoCard : Claim7 := { stood := { row := logAppendsUptoRow, standIns := [], harness := (true, "5831c38cf6ea272a7ed8de000f444871444e28ea294e358b54efaf22283905cd"), looks := false }, kinds := [], alts := [], laidByText := true, laidKinds := [.data, .pinned], laidTests := true, laidLooks := .later }
def LogAppendsUptoCardSaid : Prop := Claim7.holds Tryd.pinned (.plain (OpenSpec.upto logAppendsSpec)) logAppendsUptoCard

/-- THE SECOND FORM's CARD OF 'billetlaw26.LogReplays'. -/
def logReplaysUptoCard : Claim7 := { stood := { row := logReplaysUptoRow, standIns := [], harness := (true, "5831c38cf6ea272a7ed8de000f444871444e28ea294e358b54efaf22283905cd"), looks := false }, kinds := [], alts := [], laidByText := true, laidKinds := [.data, .pinned], laidTests := true, laidLooks := .later }
def LogReplaysUptoCardSaid : Prop := Claim7.holds Tryd.pinned (.plain (OpenSpec.upto logReplaysSpec)) logReplaysUptoCard

/-- THE SECOND FORM's CARD OF 'billetlaw26.LogNil'. -/
def logNilUptoCard : Claim7 := { stood := { row := logNilUptoRow, standIns := [], harness := (true, "5831c38cf6ea272a7ed8de000f444871444e28ea294e358b54efaf22283905cd"), looks := false }, kinds := [], alts := [], laidByText := true, laidKinds := [.data, .pinned], laidTests := true, laidLooks := .later }
def LogNilUptoCardSaid : Prop := Claim7.holds Tryd.pinned (.plain (OpenSpec.upto logNilSpec)) logNilUptoCard

/-- THE SECOND FORM's CARD OF 'billetlaw26.LogFalls'. -/
def logFallsUptoCard : Claim7 := { stood := { row := logFallsUptoRow, standIns := [], harness := (true, "5831c38cf6ea272a7ed8de000f444871444e28ea294e358b54efaf22283905cd"), looks := false }, kinds := [], alts := [], laidByText := true, laidKinds := [.data, .pinned], laidTests := true, laidLooks := .later }
def LogFallsUptoCardSaid : Prop := Claim7.holds Tryd.pinned (.plain (OpenSpec.upto logFallsSpec)) logFallsUptoCard
end Rows
end Go.Proofs.YtbblkgdejgoncaaDoor
