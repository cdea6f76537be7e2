/-
  No cell of these rows narrows 'for every input' (looked for: loops, veiled, ifaces, maps, wideKeys, modest, calm, conditions, laid).
  DERIVED. THE GIVEN ROWS OF THIS SEAT. 10 by the template 'for every input the law returns true; each argument reads behind the call as it read before'; 0 by the template 'total and deterministic' (their statements: YtkidmbaakdaflaaTotals.lean).
  GIVEN WITH THE SEED: the statements are not yours to turn. If you find one false, say at which input.
  Laid BY PROGRAM, IN A SANDBOX (cutbox-rows.mjs): the forced cells as the released guide's own fill.sh prints them over the translation ba1851fb084337af… (all of the seat's roots in one cut). By AI agents, Wed Nov 11 2026. No macro, syntax, notation, axiom, sorry.
-/
import Derived.Test.YtkidmbaakdaflaaChecked
import GoSem.Claim
import GoSem.ClaimJoined
import GoSem.ClaimMapViews
import Derived.JoinedTies
import Derived.KernelRfl
namespace Go.Proofs.Ytkidmbaakdaflaa
/- THE CELL 'sum', in the pinned program and in every row, IS THE sha256 OF THE DUMP (.gsa) THAT YtkidmbaakdaflaaProg.lean LOADS. Nothing in Lean hashes anything: it is a label: what it is worth is what the hold of that sum in a sandbox is worth. -/
noncomputable def Try.pinned : Pinned := { name := "ytkidmbaakdaflaa", sum := "ba1851fb084337affb8ac28b18510172ada6c0a5dcadd0cf3c99e131e9c261f4", checked := Try.checked }
namespace Rows
def none {H : Type} : Left H := { results := [], args := [] }

/-- 'billetlaw21.ReplySame': WHATEVER THE INPUT: true; the input reads as it did. -/
def replySameSpec : ChangeSpec := { name := "replySame", fn := fun _ => fun
  | [d1, d2] => { results := [.lit (.bool true)], args := [d1, d2] }
  | _ => none }
def replySameRow : OpenClaim := { program := "ytkidmbaakdaflaa", sum := "ba1851fb084337affb8ac28b18510172ada6c0a5dcadd0cf3c99e131e9c261f4", func := "billet/billetlaw21.ReplySame", spec := "replySame", inPlace := ["internal/abi.NoEscape"], unfollowed := true, recurses := true, apart := false }
def ReplySameSaid : Prop := replySameRow.holds Try.pinned (OpenSpec.ofChange replySameSpec)

/-- ITS FALSE NEIGHBOUR: 'it returns false'. Refute it at one input. -/
def replySameWrong : ChangeSpec := { name := "replySame", fn := fun _ => fun
  | [d1, d2] => { results := [.lit (.bool false)], args := [d1, d2] }
  | _ => none }
def ReplySameWrongFalsely : Prop := replySameRow.holds Try.pinned (OpenSpec.ofChange replySameWrong)

/-- 'billetlaw21.ReplyEncodes': WHATEVER THE INPUT: true; the input reads as it did. -/
def replyEncodesSpec : ChangeSpec := { name := "replyEncodes", fn := fun _ => fun
  | [d] => { results := [.lit (.bool true)], args := [d] }
  | _ => none }
def replyEncodesRow : OpenClaim := { program := "ytkidmbaakdaflaa", sum := "ba1851fb084337affb8ac28b18510172ada6c0a5dcadd0cf3c99e131e9c261f4", func := "billet/billetlaw21.ReplyEncodes", spec := "replyEncodes", inPlace := ["internal/abi.NoEscape"], unfollowed := true, recurses := true, apart := false }
def ReplyEncodesSaid : Prop := replyEncodesRow.holds Try.pinned (OpenSpec.ofChange replyEncodesSpec)

/-- ITS FALSE NEIGHBOUR: 'it returns false'. Refute it at one input. -/
def replyEncodesWrong : ChangeSpec := { name := "replyEncodes", fn := fun _ => fun
  | [d] => { results := [.lit (.bool false)], args := [d] }
  | _ => none }
def ReplyEncodesWrongFalsely : Prop := replyEncodesRow.holds Try.pinned (OpenSpec.ofChange replyEncodesWrong)

/-- 'billetlaw21.ReplyDecodes': WHATEVER THE INPUT: true; the input reads as it did. -/
def replyDecodesSpec : ChangeSpec := { name := "replyDecodes", fn := fun _ => fun
  | [d] => { results := [.lit (.bool true)], args := [d] }
  | _ => none }
def replyDecodesRow : OpenClaim := { program := "ytkidmbaakdaflaa", sum := "ba1851fb084337affb8ac28b18510172ada6c0a5dcadd0cf3c99e131e9c261f4", func := "billet/billetlaw21.ReplyDecodes", spec := "replyDecodes", inPlace := ["internal/abi.NoEscape"], unfollowed := true, recurses := true, apart := false }
def ReplyDecodesSaid : Prop := replyDecodesRow.holds Try.pinned (OpenSpec.ofChange replyDecodesSpec)

/-- ITS FALSE NEIGHBOUR: 'it returns false'. Refute it at one input. -/
def replyDecodesWrong : ChangeSpec := { name := "replyDecodes", fn := fun _ => fun
  | [d] => { results := [.lit (.bool false)], args := [d] }
  | _ => none }
def ReplyDecodesWrongFalsely : Prop := replyDecodesRow.holds Try.pinned (OpenSpec.ofChange replyDecodesWrong)

/-- 'billetlaw20.WireEncodes': WHATEVER THE INPUT: true; the input reads as it did. -/
def wireEncodesSpec : ChangeSpec := { name := "wireEncodes", fn := fun _ => fun
  | [d] => { results := [.lit (.bool true)], args := [d] }
  | _ => none }
def wireEncodesRow : OpenClaim := { program := "ytkidmbaakdaflaa", sum := "ba1851fb084337affb8ac28b18510172ada6c0a5dcadd0cf3c99e131e9c261f4", func := "billet/billetlaw20.WireEncodes", spec := "wireEncodes", inPlace := ["internal/abi.NoEscape"], apart := false }
def WireEncodesSaid : Prop := wireEncodesRow.holds Try.pinned (OpenSpec.ofChange wireEncodesSpec)

/-- ITS FALSE NEIGHBOUR: 'it returns false'. Refute it at one input. -/
def wireEncodesWrong : ChangeSpec := { name := "wireEncodes", fn := fun _ => fun
  | [d] => { results := [.lit (.bool false)], args := [d] }
  | _ => none }
def WireEncodesWrongFalsely : Prop := wireEncodesRow.holds Try.pinned (OpenSpec.ofChange wireEncodesWrong)

/-- 'billetlaw20.WireDecodes': WHATEVER THE INPUT: true; the input reads as it did. -/
def wireDecodesSpec : ChangeSpec := { name := "wireDecodes", fn := fun _ => fun
  | [d] => { results := [.lit (.bool true)], args := [d] }
  | _ => none }
def wireDecodesRow : OpenClaim := { program := "ytkidmbaakdaflaa", sum := "ba1851fb084337affb8ac28b18510172ada6c0a5dcadd0cf3c99e131e9c261f4", func := "billet/billetlaw20.WireDecodes", spec := "wireDecodes", inPlace := ["internal/abi.NoEscape"], apart := false }
def WireDecodesSaid : Prop := wireDecodesRow.holds Try.pinned (OpenSpec.ofChange wireDecodesSpec)

/-- ITS FALSE NEIGHBOUR: 'it returns false'. Refute it at one input. -/
def wireDecodesWrong : ChangeSpec := { name := "wireDecodes", fn := fun _ => fun
  | [d] => { results := [.lit (.bool false)], args := [d] }
  | _ => none }
def WireDecodesWrongFalsely : Prop := wireDecodesRow.holds Try.pinned (OpenSpec.ofChange wireDecodesWrong)

/-- 'billetlaw22.DiskLasts': WHATEVER THE INPUT: true; the input reads as it did. -/
def diskLastsSpec : ChangeSpec := { name := "diskLasts", fn := fun _ => fun
  | [d1, d2] => { results := [.lit (.bool true)], args := [d1, d2] }
  | _ => none }
def diskLastsRow : OpenClaim := { program := "ytkidmbaakdaflaa", sum := "ba1851fb084337affb8ac28b18510172ada6c0a5dcadd0cf3c99e131e9c261f4", func := "billet/billetlaw22.DiskLasts", spec := "diskLasts", inPlace := ["internal/abi.NoEscape", "internal/bytealg.MakeNoZero"], unfollowed := true, recurses := true, apart := false }
def DiskLastsSaid : Prop := diskLastsRow.holds Try.pinned (OpenSpec.ofChange diskLastsSpec)

/-- ITS FALSE NEIGHBOUR: 'it returns false'. Refute it at one input. -/
def diskLastsWrong : ChangeSpec := { name := "diskLasts", fn := fun _ => fun
  | [d1, d2] => { results := [.lit (.bool false)], args := [d1, d2] }
  | _ => none }
def DiskLastsWrongFalsely : Prop := diskLastsRow.holds Try.pinned (OpenSpec.ofChange diskLastsWrong)

/-- 'billetlaw22.DiskNil': WHATEVER THE INPUT: true; the input reads as it did. -/
def diskNilSpec : ChangeSpec := { name := "diskNil", fn := fun _ => fun
  | [d] => { results := [.lit (.bool true)], args := [d] }
  | _ => none }
def diskNilRow : OpenClaim := { program := "ytkidmbaakdaflaa", sum := "ba1851fb084337affb8ac28b18510172ada6c0a5dcadd0cf3c99e131e9c261f4", func := "billet/billetlaw22.DiskNil", spec := "diskNil", inPlace := ["internal/abi.NoEscape", "internal/bytealg.MakeNoZero"], unfollowed := true, recurses := true, apart := false }
def DiskNilSaid : Prop := diskNilRow.holds Try.pinned (OpenSpec.ofChange diskNilSpec)

/-- ITS FALSE NEIGHBOUR: 'it returns false'. Refute it at one input. -/
def diskNilWrong : ChangeSpec := { name := "diskNil", fn := fun _ => fun
  | [d] => { results := [.lit (.bool false)], args := [d] }
  | _ => none }
def DiskNilWrongFalsely : Prop := diskNilRow.holds Try.pinned (OpenSpec.ofChange diskNilWrong)

/-- 'billetlaw24.SuperCodes': WHATEVER THE INPUT: true; the input reads as it did. -/
def superCodesSpec : ChangeSpec := { name := "superCodes", fn := fun _ => fun
  | [d1, d2] => { results := [.lit (.bool true)], args := [d1, d2] }
  | _ => none }
def superCodesRow : OpenClaim := { program := "ytkidmbaakdaflaa", sum := "ba1851fb084337affb8ac28b18510172ada6c0a5dcadd0cf3c99e131e9c261f4", func := "billet/billetlaw24.SuperCodes", spec := "superCodes", inPlace := ["internal/abi.NoEscape", "internal/bytealg.MakeNoZero"], unfollowed := true, recurses := true, apart := false }
def SuperCodesSaid : Prop := superCodesRow.holds Try.pinned (OpenSpec.ofChange superCodesSpec)

/-- ITS FALSE NEIGHBOUR: 'it returns false'. Refute it at one input. -/
def superCodesWrong : ChangeSpec := { name := "superCodes", fn := fun _ => fun
  | [d1, d2] => { results := [.lit (.bool false)], args := [d1, d2] }
  | _ => none }
def SuperCodesWrongFalsely : Prop := superCodesRow.holds Try.pinned (OpenSpec.ofChange superCodesWrong)

/-- 'billetlaw24.SuperPicks': WHATEVER THE INPUT: true; the input reads as it did. -/
def superPicksSpec : ChangeSpec := { name := "superPicks", fn := fun _ => fun
  | [d1, d2, d3] => { results := [.lit (.bool true)], args := [d1, d2, d3] }
  | _ => none }
def superPicksRow : OpenClaim := { program := "ytkidmbaakdaflaa", sum := "ba1851fb084337affb8ac28b18510172ada6c0a5dcadd0cf3c99e131e9c261f4", func := "billet/billetlaw24.SuperPicks", spec := "superPicks", inPlace := ["internal/abi.NoEscape", "internal/bytealg.MakeNoZero"], unfollowed := true, recurses := true, apart := false }
def SuperPicksSaid : Prop := superPicksRow.holds Try.pinned (OpenSpec.ofChange superPicksSpec)

/-- ITS FALSE NEIGHBOUR: 'it returns false'. Refute it at one input. -/
def superPicksWrong : ChangeSpec := { name := "superPicks", fn := fun _ => fun
  | [d1, d2, d3] => { results := [.lit (.bool false)], args := [d1, d2, d3] }
  | _ => none }
def SuperPicksWrongFalsely : Prop := superPicksRow.holds Try.pinned (OpenSpec.ofChange superPicksWrong)

/-- 'billetlaw24.SuperFalls': WHATEVER THE INPUT: true; the input reads as it did. -/
def superFallsSpec : ChangeSpec := { name := "superFalls", fn := fun _ => fun
  | [d1, d2, d3] => { results := [.lit (.bool true)], args := [d1, d2, d3] }
  | _ => none }
def superFallsRow : OpenClaim := { program := "ytkidmbaakdaflaa", sum := "ba1851fb084337affb8ac28b18510172ada6c0a5dcadd0cf3c99e131e9c261f4", func := "billet/billetlaw24.SuperFalls", spec := "superFalls", inPlace := ["internal/abi.NoEscape", "internal/bytealg.MakeNoZero"], unfollowed := true, recurses := true, apart := false }
def SuperFallsSaid : Prop := superFallsRow.holds Try.pinned (OpenSpec.ofChange superFallsSpec)

/-- ITS FALSE NEIGHBOUR: 'it returns false'. Refute it at one input. -/
def superFallsWrong : ChangeSpec := { name := "superFalls", fn := fun _ => fun
  | [d1, d2, d3] => { results := [.lit (.bool false)], args := [d1, d2, d3] }
  | _ => none }
def SuperFallsWrongFalsely : Prop := superFallsRow.holds Try.pinned (OpenSpec.ofChange superFallsWrong)

/- THE SECOND FORM. 'bulk': how many values and letters a reading holds, each counted each time it is reached (what is shared counts as often as it is met; a slice's spare places count too). A statement '..UptoSaid' is the law's where the arguments, and the package variables that the reading takes, are together of bulk at most 1048576: NARROWER than '..Said'. Prove '..Said' where nothing that the law and all that it calls make is longer than what came in: it says more and counts as full. Else prove '..UptoSaid'. A law counts once. -/
mutual
def uptoBulk {H : Type} : DataW H → Nat
  | .lit (.string bytes) => bytes.length + 1
  | .lit _ => 1
  | .nil => 1
  | .ptr d => uptoBulk d + 1
  | .slice elems spare => uptoBulkAll elems + uptoBulkAll spare + 1
  | .agg parts => uptoBulkAll parts + 1
  | .iface _ d => uptoBulk d + 1
  | .map entries => uptoBulkEntries entries + 1
  | .held _ => 1
def uptoBulkAll {H : Type} : List (DataW H) → Nat
  | [] => 0
  | d :: r => uptoBulk d + uptoBulkAll r
def uptoBulkEntries {H : Type} : List (Lit × DataW H) → Nat
  | [] => 0
  | x :: r => uptoBulkEntry x + uptoBulkEntries r
def uptoBulkEntry {H : Type} : Lit × DataW H → Nat
  | (.string bytes, d) => bytes.length + uptoBulk d + 1
  | (_, d) => uptoBulk d + 1
 end
def uptoSmall : (H : Type) → List (DataW H) → Bool := fun _ ds => decide (uptoBulkAll ds ≤ 1048576)
def OpenSpec.upto (s : _root_.Go.ChangeSpec) : _root_.Go.OpenSpec := { _root_.Go.OpenSpec.ofChange s with cond := some uptoSmall }

/-- 'billetlaw21.ReplySame', WHERE WHAT IT READS IS OF BULK AT MOST 1048576: true; the input reads as it did. -/
def replySameUptoRow : OpenClaim := { program := "ytkidmbaakdaflaa", sum := "ba1851fb084337affb8ac28b18510172ada6c0a5dcadd0cf3c99e131e9c261f4", func := "billet/billetlaw21.ReplySame", spec := "replySame", inPlace := ["internal/abi.NoEscape"], unfollowed := true, recurses := true, apart := false, narrowed := true }
def ReplySameUptoSaid : Prop := replySameUptoRow.holds Try.pinned (OpenSpec.upto replySameSpec)

/-- 'billetlaw21.ReplyEncodes', WHERE WHAT IT READS IS OF BULK AT MOST 1048576: true; the input reads as it did. -/
def replyEncodesUptoRow : OpenClaim := { program := "ytkidmbaakdaflaa", sum := "ba1851fb084337affb8ac28b18510172ada6c0a5dcadd0cf3c99e131e9c261f4", func := "billet/billetlaw21.ReplyEncodes", spec := "replyEncodes", inPlace := ["internal/abi.NoEscape"], unfollowed := true, recurses := true, apart := false, narrowed := true }
def ReplyEncodesUptoSaid : Prop := replyEncodesUptoRow.holds Try.pinned (OpenSpec.upto replyEncodesSpec)

/-- 'billetlaw21.ReplyDecodes', WHERE WHAT IT READS IS OF BULK AT MOST 1048576: true; the input reads as it did. -/
def replyDecodesUptoRow : OpenClaim := { program := "ytkidmbaakdaflaa", sum := "ba1851fb084337affb8ac28b18510172ada6c0a5dcadd0cf3c99e131e9c261f4", func := "billet/billetlaw21.ReplyDecodes", spec := "replyDecodes", inPlace := ["internal/abi.NoEscape"], unfollowed := true, recurses := true, apart := false, narrowed := true }
def ReplyDecodesUptoSaid : Prop := replyDecodesUptoRow.holds Try.pinned (OpenSpec.upto replyDecodesSpec)

/-- 'billetlaw20.WireEncodes', WHERE WHAT IT READS IS OF BULK AT MOST 1048576: true; the input reads as it did. -/
def wireEncodesUptoRow : OpenClaim := { program := "ytkidmbaakdaflaa", sum := "ba1851fb084337affb8ac28b18510172ada6c0a5dcadd0cf3c99e131e9c261f4", func := "billet/billetlaw20.WireEncodes", spec := "wireEncodes", inPlace := ["internal/abi.NoEscape"], apart := false, narrowed := true }
def WireEncodesUptoSaid : Prop := wireEncodesUptoRow.holds Try.pinned (OpenSpec.upto wireEncodesSpec)

/-- 'billetlaw20.WireDecodes', WHERE WHAT IT READS IS OF BULK AT MOST 1048576: true; the input reads as it did. -/
def wireDecodesUptoRow : OpenClaim := { program := "ytkidmbaakdaflaa", sum := "ba1851fb084337affb8ac28b18510172ada6c0a5dcadd0cf3c99e131e9c261f4", func := "billet/billetlaw20.WireDecodes", spec := "wireDecodes", inPlace := ["internal/abi.NoEscape"], apart := false, narrowed := true }
def WireDecodesUptoSaid : Prop := wireDecodesUptoRow.holds Try.pinned (OpenSpec.upto wireDecodesSpec)

/-- 'billetlaw22.DiskLasts', WHERE WHAT IT READS IS OF BULK AT MOST 1048576: true; the input reads as it did. -/
def diskLastsUptoRow : OpenClaim := { program := "ytkidmbaakdaflaa", sum := "ba1851fb084337affb8ac28b18510172ada6c0a5dcadd0cf3c99e131e9c261f4", func := "billet/billetlaw22.DiskLasts", spec := "diskLasts", inPlace := ["internal/abi.NoEscape", "internal/bytealg.MakeNoZero"], unfollowed := true, recurses := true, apart := false, narrowed := true }
def DiskLastsUptoSaid : Prop := diskLastsUptoRow.holds Try.pinned (OpenSpec.upto diskLastsSpec)

/-- 'billetlaw22.DiskNil', WHERE WHAT IT READS IS OF BULK AT MOST 1048576: true; the input reads as it did. -/
def diskNilUptoRow : OpenClaim := { program := "ytkidmbaakdaflaa", sum := "ba1851fb084337affb8ac28b18510172ada6c0a5dcadd0cf3c99e131e9c261f4", func := "billet/billetlaw22.DiskNil", spec := "diskNil", inPlace := ["internal/abi.NoEscape", "internal/bytealg.MakeNoZero"], unfollowed := true, recurses := true, apart := false, narrowed := true }
def DiskNilUptoSaid : Prop := diskNilUptoRow.holds Try.pinned (OpenSpec.upto diskNilSpec)

/-- 'billetlaw24.SuperCodes', WHERE WHAT IT READS IS OF BULK AT MOST 1048576: true; the input reads as it did. -/
def superCodesUptoRow : OpenClaim := { program := "ytkidmbaakdaflaa", sum := "ba1851fb084337affb8ac28b18510172ada6c0a5dcadd0cf3c99e131e9c261f4", func := "billet/billetlaw24.SuperCodes", spec := "superCodes", inPlace := ["internal/abi.NoEscape", "internal/bytealg.MakeNoZero"], unfollowed := true, recurses := true, apart := false, narrowed := true }
def SuperCodesUptoSaid : Prop := superCodesUptoRow.holds Try.pinned (OpenSpec.upto superCodesSpec)

/-- 'billetlaw24.SuperPicks', WHERE WHAT IT READS IS OF BULK AT MOST 1048576: true; the input reads as it did. -/
def superPicksUptoRow : OpenClaim := { program := "ytkidmbaakdaflaa", sum := "ba1851fb084337affb8ac28b18510172ada6c0a5dcadd0cf3c99e131e9c261f4", func := "billet/billetlaw24.SuperPicks", spec := "superPicks", inPlace := ["internal/abi.NoEscape", "internal/bytealg.MakeNoZero"], unfollowed := true, recurses := true, apart := false, narrowed := true }
def SuperPicksUptoSaid : Prop := superPicksUptoRow.holds Try.pinned (OpenSpec.upto superPicksSpec)

/-- 'billetlaw24.SuperFalls', WHERE WHAT IT READS IS OF BULK AT MOST 1048576: true; the input reads as it did. -/
def superFallsUptoRow : OpenClaim := { program := "ytkidmbaakdaflaa", sum := "ba1851fb084337affb8ac28b18510172ada6c0a5dcadd0cf3c99e131e9c261f4", func := "billet/billetlaw24.SuperFalls", spec := "superFalls", inPlace := ["internal/abi.NoEscape", "internal/bytealg.MakeNoZero"], unfollowed := true, recurses := true, apart := false, narrowed := true }
def SuperFallsUptoSaid : Prop := superFallsUptoRow.holds Try.pinned (OpenSpec.upto superFallsSpec)

end Rows
end Go.Proofs.Ytkidmbaakdaflaa
