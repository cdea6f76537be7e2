/-
  No cell of these rows narrows 'for every input' (looked for: loops, veiled, ifaces, maps, wideKeys, modest, calm, conditions, laid).
  DERIVED. THE GIVEN ROWS OF THIS SEAT. 10 by the template 'for every input the law returns true; each argument reads behind the call as it read before'; 0 by the template 'total and deterministic' (their statements: YtgnbgjllogjecaaTotals.lean).
  GIVEN WITH THE SEED: the statements are not yours to turn. If you find one false, say at which input.
  Laid BY PROGRAM, IN A SANDBOX (cutbox-rows.mjs): the forced cells as the released guide's own fill.sh prints them over the translation 44dcd89e5059265b… (all of the seat's roots in one cut). By AI agents, Wed Nov 11 2026. No macro, syntax, notation, axiom, sorry.
-/
import Derived.Test.YtgnbgjllogjecaaChecked
import GoSem.Claim
import GoSem.ClaimJoined
import GoSem.ClaimMapViews
import Derived.JoinedTies
import Derived.KernelRfl
namespace Go.Proofs.Ytgnbgjllogjecaa
/- THE CELL 'sum', in the pinned program and in every row, IS THE sha256 OF THE DUMP (.gsa) THAT YtgnbgjllogjecaaProg.lean LOADS. Nothing in Lean hashes anything: it is a label: what it is worth is what the hold of that sum in a sandbox is worth. -/
noncomputable def Try.pinned : Pinned := { name := "ytgnbgjllogjecaa", sum := "44dcd89e5059265bcb246978395b6badcf66d74587334cde4ee24ae5f86ae540", checked := Try.checked }
namespace Rows
def none {H : Type} : Left H := { results := [], args := [] }

/-- 'billetlaw02.SumCrcs': WHATEVER THE INPUT: true; the input reads as it did. -/
def sumCrcsSpec : ChangeSpec := { name := "sumCrcs", fn := fun _ => fun
  | [d1, d2, d3] => { results := [.lit (.bool true)], args := [d1, d2, d3] }
  | _ => none }
def sumCrcsRow : OpenClaim := { program := "ytgnbgjllogjecaa", sum := "44dcd89e5059265bcb246978395b6badcf66d74587334cde4ee24ae5f86ae540", func := "billet/billetlaw02.SumCrcs", spec := "sumCrcs", apart := false }
def SumCrcsSaid : Prop := sumCrcsRow.holds Try.pinned (OpenSpec.ofChange sumCrcsSpec)

/-- ITS FALSE NEIGHBOUR: 'it returns false'. Refute it at one input. -/
def sumCrcsWrong : ChangeSpec := { name := "sumCrcs", fn := fun _ => fun
  | [d1, d2, d3] => { results := [.lit (.bool false)], args := [d1, d2, d3] }
  | _ => none }
def SumCrcsWrongFalsely : Prop := sumCrcsRow.holds Try.pinned (OpenSpec.ofChange sumCrcsWrong)

/-- 'billetlaw02.SumBursts': WHATEVER THE INPUT: true; the input reads as it did. -/
def sumBurstsSpec : ChangeSpec := { name := "sumBursts", fn := fun _ => fun
  | [d1, d2, d3] => { results := [.lit (.bool true)], args := [d1, d2, d3] }
  | _ => none }
def sumBurstsRow : OpenClaim := { program := "ytgnbgjllogjecaa", sum := "44dcd89e5059265bcb246978395b6badcf66d74587334cde4ee24ae5f86ae540", func := "billet/billetlaw02.SumBursts", spec := "sumBursts", apart := false }
def SumBurstsSaid : Prop := sumBurstsRow.holds Try.pinned (OpenSpec.ofChange sumBurstsSpec)

/-- ITS FALSE NEIGHBOUR: 'it returns false'. Refute it at one input. -/
def sumBurstsWrong : ChangeSpec := { name := "sumBursts", fn := fun _ => fun
  | [d1, d2, d3] => { results := [.lit (.bool false)], args := [d1, d2, d3] }
  | _ => none }
def SumBurstsWrongFalsely : Prop := sumBurstsRow.holds Try.pinned (OpenSpec.ofChange sumBurstsWrong)

/-- 'billetlaw01.OctetChains': WHATEVER THE INPUT: true; the input reads as it did. -/
def octetChainsSpec : ChangeSpec := { name := "octetChains", fn := fun _ => fun
  | [d1, d2, d3] => { results := [.lit (.bool true)], args := [d1, d2, d3] }
  | _ => none }
def octetChainsRow : OpenClaim := { program := "ytgnbgjllogjecaa", sum := "44dcd89e5059265bcb246978395b6badcf66d74587334cde4ee24ae5f86ae540", func := "billet/billetlaw01.OctetChains", spec := "octetChains", apart := false }
def OctetChainsSaid : Prop := octetChainsRow.holds Try.pinned (OpenSpec.ofChange octetChainsSpec)

/-- ITS FALSE NEIGHBOUR: 'it returns false'. Refute it at one input. -/
def octetChainsWrong : ChangeSpec := { name := "octetChains", fn := fun _ => fun
  | [d1, d2, d3] => { results := [.lit (.bool false)], args := [d1, d2, d3] }
  | _ => none }
def OctetChainsWrongFalsely : Prop := octetChainsRow.holds Try.pinned (OpenSpec.ofChange octetChainsWrong)

/-- 'billetlaw01.OctetTexts': WHATEVER THE INPUT: true; the input reads as it did. -/
def octetTextsSpec : ChangeSpec := { name := "octetTexts", fn := fun _ => fun
  | [d1, d2, d3] => { results := [.lit (.bool true)], args := [d1, d2, d3] }
  | _ => none }
def octetTextsRow : OpenClaim := { program := "ytgnbgjllogjecaa", sum := "44dcd89e5059265bcb246978395b6badcf66d74587334cde4ee24ae5f86ae540", func := "billet/billetlaw01.OctetTexts", spec := "octetTexts", apart := false }
def OctetTextsSaid : Prop := octetTextsRow.holds Try.pinned (OpenSpec.ofChange octetTextsSpec)

/-- ITS FALSE NEIGHBOUR: 'it returns false'. Refute it at one input. -/
def octetTextsWrong : ChangeSpec := { name := "octetTexts", fn := fun _ => fun
  | [d1, d2, d3] => { results := [.lit (.bool false)], args := [d1, d2, d3] }
  | _ => none }
def OctetTextsWrongFalsely : Prop := octetTextsRow.holds Try.pinned (OpenSpec.ofChange octetTextsWrong)

/-- 'billetlaw01.OctetFixed': WHATEVER THE INPUT: true; the input reads as it did. -/
def octetFixedSpec : ChangeSpec := { name := "octetFixed", fn := fun _ => fun
  | [d1, d2, d3] => { results := [.lit (.bool true)], args := [d1, d2, d3] }
  | _ => none }
def octetFixedRow : OpenClaim := { program := "ytgnbgjllogjecaa", sum := "44dcd89e5059265bcb246978395b6badcf66d74587334cde4ee24ae5f86ae540", func := "billet/billetlaw01.OctetFixed", spec := "octetFixed", apart := false }
def OctetFixedSaid : Prop := octetFixedRow.holds Try.pinned (OpenSpec.ofChange octetFixedSpec)

/-- ITS FALSE NEIGHBOUR: 'it returns false'. Refute it at one input. -/
def octetFixedWrong : ChangeSpec := { name := "octetFixed", fn := fun _ => fun
  | [d1, d2, d3] => { results := [.lit (.bool false)], args := [d1, d2, d3] }
  | _ => none }
def OctetFixedWrongFalsely : Prop := octetFixedRow.holds Try.pinned (OpenSpec.ofChange octetFixedWrong)

/-- 'billetlaw01.OctetReads': WHATEVER THE INPUT: true; the input reads as it did. -/
def octetReadsSpec : ChangeSpec := { name := "octetReads", fn := fun _ => fun
  | [d1, d2] => { results := [.lit (.bool true)], args := [d1, d2] }
  | _ => none }
def octetReadsRow : OpenClaim := { program := "ytgnbgjllogjecaa", sum := "44dcd89e5059265bcb246978395b6badcf66d74587334cde4ee24ae5f86ae540", func := "billet/billetlaw01.OctetReads", spec := "octetReads", apart := false }
def OctetReadsSaid : Prop := octetReadsRow.holds Try.pinned (OpenSpec.ofChange octetReadsSpec)

/-- ITS FALSE NEIGHBOUR: 'it returns false'. Refute it at one input. -/
def octetReadsWrong : ChangeSpec := { name := "octetReads", fn := fun _ => fun
  | [d1, d2] => { results := [.lit (.bool false)], args := [d1, d2] }
  | _ => none }
def OctetReadsWrongFalsely : Prop := octetReadsRow.holds Try.pinned (OpenSpec.ofChange octetReadsWrong)

/-- 'billetlaw23.SealCodes': WHATEVER THE INPUT: true; the input reads as it did. -/
def sealCodesSpec : ChangeSpec := { name := "sealCodes", fn := fun _ => fun
  | [d1, d2, d3] => { results := [.lit (.bool true)], args := [d1, d2, d3] }
  | _ => none }
def sealCodesRow : OpenClaim := { program := "ytgnbgjllogjecaa", sum := "44dcd89e5059265bcb246978395b6badcf66d74587334cde4ee24ae5f86ae540", func := "billet/billetlaw23.SealCodes", spec := "sealCodes", apart := false }
def SealCodesSaid : Prop := sealCodesRow.holds Try.pinned (OpenSpec.ofChange sealCodesSpec)

/-- ITS FALSE NEIGHBOUR: 'it returns false'. Refute it at one input. -/
def sealCodesWrong : ChangeSpec := { name := "sealCodes", fn := fun _ => fun
  | [d1, d2, d3] => { results := [.lit (.bool false)], args := [d1, d2, d3] }
  | _ => none }
def SealCodesWrongFalsely : Prop := sealCodesRow.holds Try.pinned (OpenSpec.ofChange sealCodesWrong)

/-- 'billetlaw23.SealTorn': WHATEVER THE INPUT: true; the input reads as it did. -/
def sealTornSpec : ChangeSpec := { name := "sealTorn", fn := fun _ => fun
  | [d1, d2, d3] => { results := [.lit (.bool true)], args := [d1, d2, d3] }
  | _ => none }
def sealTornRow : OpenClaim := { program := "ytgnbgjllogjecaa", sum := "44dcd89e5059265bcb246978395b6badcf66d74587334cde4ee24ae5f86ae540", func := "billet/billetlaw23.SealTorn", spec := "sealTorn", apart := false }
def SealTornSaid : Prop := sealTornRow.holds Try.pinned (OpenSpec.ofChange sealTornSpec)

/-- ITS FALSE NEIGHBOUR: 'it returns false'. Refute it at one input. -/
def sealTornWrong : ChangeSpec := { name := "sealTorn", fn := fun _ => fun
  | [d1, d2, d3] => { results := [.lit (.bool false)], args := [d1, d2, d3] }
  | _ => none }
def SealTornWrongFalsely : Prop := sealTornRow.holds Try.pinned (OpenSpec.ofChange sealTornWrong)

/-- 'billetlaw19.MsgCleans': WHATEVER THE INPUT: true; the input reads as it did. -/
def msgCleansSpec : ChangeSpec := { name := "msgCleans", fn := fun _ => fun
  | [d] => { results := [.lit (.bool true)], args := [d] }
  | _ => none }
def msgCleansRow : OpenClaim := { program := "ytgnbgjllogjecaa", sum := "44dcd89e5059265bcb246978395b6badcf66d74587334cde4ee24ae5f86ae540", func := "billet/billetlaw19.MsgCleans", spec := "msgCleans", apart := false }
def MsgCleansSaid : Prop := msgCleansRow.holds Try.pinned (OpenSpec.ofChange msgCleansSpec)

/-- ITS FALSE NEIGHBOUR: 'it returns false'. Refute it at one input. -/
def msgCleansWrong : ChangeSpec := { name := "msgCleans", fn := fun _ => fun
  | [d] => { results := [.lit (.bool false)], args := [d] }
  | _ => none }
def MsgCleansWrongFalsely : Prop := msgCleansRow.holds Try.pinned (OpenSpec.ofChange msgCleansWrong)

/-- 'billetlaw19.MsgKinds': WHATEVER THE INPUT: true; the input reads as it did. -/
def msgKindsSpec : ChangeSpec := { name := "msgKinds", fn := fun _ => fun
  | [d1, d2] => { results := [.lit (.bool true)], args := [d1, d2] }
  | _ => none }
def msgKindsRow : OpenClaim := { program := "ytgnbgjllogjecaa", sum := "44dcd89e5059265bcb246978395b6badcf66d74587334cde4ee24ae5f86ae540", func := "billet/billetlaw19.MsgKinds", spec := "msgKinds", unfollowed := true, recurses := true, apart := false }
def MsgKindsSaid : Prop := msgKindsRow.holds Try.pinned (OpenSpec.ofChange msgKindsSpec)

/-- ITS FALSE NEIGHBOUR: 'it returns false'. Refute it at one input. -/
def msgKindsWrong : ChangeSpec := { name := "msgKinds", fn := fun _ => fun
  | [d1, d2] => { results := [.lit (.bool false)], args := [d1, d2] }
  | _ => none }
def MsgKindsWrongFalsely : Prop := msgKindsRow.holds Try.pinned (OpenSpec.ofChange msgKindsWrong)

/- THE SECOND FORM. 'bulk': how many values and letters a reading holds, each counted each time it is reached (what is shared counts as often as it is met; a slice's spare places count too). A statement '..UptoSaid' is the law's where the arguments, and the package variables that the reading takes, are together of bulk at most 1048576: NARROWER than '..Said'. Prove '..Said' where nothing that the law and all that it calls make is longer than what came in: it says more and counts as full. Else prove '..UptoSaid'. A law counts once. -/
mutual
def uptoBulk {H : Type} : DataW H → Nat
  | .lit (.string bytes) => bytes.length + 1
  | .lit _ => 1
  | .nil => 1
  | .ptr d => uptoBulk d + 1
  | .slice elems spare => uptoBulkAll elems + uptoBulkAll spare + 1
  | .agg parts => uptoBulkAll parts + 1
  | .iface _ d => uptoBulk d + 1
  | .map entries => uptoBulkEntries entries + 1
  | .held _ => 1
def uptoBulkAll {H : Type} : List (DataW H) → Nat
  | [] => 0
  | d :: r => uptoBulk d + uptoBulkAll r
def uptoBulkEntries {H : Type} : List (Lit × DataW H) → Nat
  | [] => 0
  | x :: r => uptoBulkEntry x + uptoBulkEntries r
def uptoBulkEntry {H : Type} : Lit × DataW H → Nat
  | (.string bytes, d) => bytes.length + uptoBulk d + 1
  | (_, d) => uptoBulk d + 1
 end
def uptoSmall : (H : Type) → List (DataW H) → Bool := fun _ ds => decide (uptoBulkAll ds ≤ 1048576)
def OpenSpec.upto (s : _root_.Go.ChangeSpec) : _root_.Go.OpenSpec := { _root_.Go.OpenSpec.ofChange s with cond := some uptoSmall }

/-- 'billetlaw02.SumCrcs', WHERE WHAT IT READS IS OF BULK AT MOST 1048576: true; the input reads as it did. -/
def sumCrcsUptoRow : OpenClaim := { program := "ytgnbgjllogjecaa", sum := "44dcd89e5059265bcb246978395b6badcf66d74587334cde4ee24ae5f86ae540", func := "billet/billetlaw02.SumCrcs", spec := "sumCrcs", apart := false, narrowed := true }
def SumCrcsUptoSaid : Prop := sumCrcsUptoRow.holds Try.pinned (OpenSpec.upto sumCrcsSpec)

/-- 'billetlaw02.SumBursts', WHERE WHAT IT READS IS OF BULK AT MOST 1048576: true; the input reads as it did. -/
def sumBurstsUptoRow : OpenClaim := { program := "ytgnbgjllogjecaa", sum := "44dcd89e5059265bcb246978395b6badcf66d74587334cde4ee24ae5f86ae540", func := "billet/billetlaw02.SumBursts", spec := "sumBursts", apart := false, narrowed := true }
def SumBurstsUptoSaid : Prop := sumBurstsUptoRow.holds Try.pinned (OpenSpec.upto sumBurstsSpec)

/-- 'billetlaw01.OctetChains', WHERE WHAT IT READS IS OF BULK AT MOST 1048576: true; the input reads as it did. -/
def octetChainsUptoRow : OpenClaim := { program := "ytgnbgjllogjecaa", sum := "44dcd89e5059265bcb246978395b6badcf66d74587334cde4ee24ae5f86ae540", func := "billet/billetlaw01.OctetChains", spec := "octetChains", apart := false, narrowed := true }
def OctetChainsUptoSaid : Prop := octetChainsUptoRow.holds Try.pinned (OpenSpec.upto octetChainsSpec)

/-- 'billetlaw01.OctetTexts', WHERE WHAT IT READS IS OF BULK AT MOST 1048576: true; the input reads as it did. -/
def octetTextsUptoRow : OpenClaim := { program := "ytgnbgjllogjecaa", sum := "44dcd89e5059265bcb246978395b6badcf66d74587334cde4ee24ae5f86ae540", func := "billet/billetlaw01.OctetTexts", spec := "octetTexts", apart := false, narrowed := true }
def OctetTextsUptoSaid : Prop := octetTextsUptoRow.holds Try.pinned (OpenSpec.upto octetTextsSpec)

/-- 'billetlaw01.OctetFixed', WHERE WHAT IT READS IS OF BULK AT MOST 1048576: true; the input reads as it did. -/
def octetFixedUptoRow : OpenClaim := { program := "ytgnbgjllogjecaa", sum := "44dcd89e5059265bcb246978395b6badcf66d74587334cde4ee24ae5f86ae540", func := "billet/billetlaw01.OctetFixed", spec := "octetFixed", apart := false, narrowed := true }
def OctetFixedUptoSaid : Prop := octetFixedUptoRow.holds Try.pinned (OpenSpec.upto octetFixedSpec)

/-- 'billetlaw01.OctetReads', WHERE WHAT IT READS IS OF BULK AT MOST 1048576: true; the input reads as it did. -/
def octetReadsUptoRow : OpenClaim := { program := "ytgnbgjllogjecaa", sum := "44dcd89e5059265bcb246978395b6badcf66d74587334cde4ee24ae5f86ae540", func := "billet/billetlaw01.OctetReads", spec := "octetReads", apart := false, narrowed := true }
def OctetReadsUptoSaid : Prop := octetReadsUptoRow.holds Try.pinned (OpenSpec.upto octetReadsSpec)

/-- 'billetlaw23.SealCodes', WHERE WHAT IT READS IS OF BULK AT MOST 1048576: true; the input reads as it did. -/
def sealCodesUptoRow : OpenClaim := { program := "ytgnbgjllogjecaa", sum := "44dcd89e5059265bcb246978395b6badcf66d74587334cde4ee24ae5f86ae540", func := "billet/billetlaw23.SealCodes", spec := "sealCodes", apart := false, narrowed := true }
def SealCodesUptoSaid : Prop := sealCodesUptoRow.holds Try.pinned (OpenSpec.upto sealCodesSpec)

/-- 'billetlaw23.SealTorn', WHERE WHAT IT READS IS OF BULK AT MOST 1048576: true; the input reads as it did. -/
def sealTornUptoRow : OpenClaim := { program := "ytgnbgjllogjecaa", sum := "44dcd89e5059265bcb246978395b6badcf66d74587334cde4ee24ae5f86ae540", func := "billet/billetlaw23.SealTorn", spec := "sealTorn", apart := false, narrowed := true }
def SealTornUptoSaid : Prop := sealTornUptoRow.holds Try.pinned (OpenSpec.upto sealTornSpec)

/-- 'billetlaw19.MsgCleans', WHERE WHAT IT READS IS OF BULK AT MOST 1048576: true; the input reads as it did. -/
def msgCleansUptoRow : OpenClaim := { program := "ytgnbgjllogjecaa", sum := "44dcd89e5059265bcb246978395b6badcf66d74587334cde4ee24ae5f86ae540", func := "billet/billetlaw19.MsgCleans", spec := "msgCleans", apart := false, narrowed := true }
def MsgCleansUptoSaid : Prop := msgCleansUptoRow.holds Try.pinned (OpenSpec.upto msgCleansSpec)

/-- 'billetlaw19.MsgKinds', WHERE WHAT IT READS IS OF BULK AT MOST 1048576: true; the input reads as it did. -/
def msgKindsUptoRow : OpenClaim := { program := "ytgnbgjllogjecaa", sum := "44dcd89e5059265bcb246978395b6badcf66d74587334cde4ee24ae5f86ae540", func := "billet/billetlaw19.MsgKinds", spec := "msgKinds", unfollowed := true, recurses := true, apart := false, narrowed := true }
def MsgKindsUptoSaid : Prop := msgKindsUptoRow.holds Try.pinned (OpenSpec.upto msgKindsSpec)

end Rows
end Go.Proofs.Ytgnbgjllogjecaa
