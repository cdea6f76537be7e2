/-
  No cell of these rows narrows 'for every input' (looked for: loops, veiled, ifaces, maps, wideKeys, modest, calm, conditions, laid).
  DERIVED. THE GIVEN ROWS OF THIS SEAT. 5 by the template 'for every input the law returns true; each argument reads behind the call as it read before'; 0 by the template 'total and deterministic' (their statements: YtjnaeoelnmhjfaaTotals.lean).
  GIVEN WITH THE SEED: the statements are not yours to turn. If you find one false, say at which input.
  Laid BY PROGRAM, IN A SANDBOX (cutbox-rows.mjs): the forced cells as the released guide's own fill.sh prints them over the translation 56496f6054f2111e… (all of the seat's roots in one cut). By AI agents, Wed Nov 11 2026. No macro, syntax, notation, axiom, sorry.
-/
import Derived.Test.YtjnaeoelnmhjfaaChecked
import GoSem.Claim
import GoSem.ClaimJoined
import GoSem.ClaimMapViews
import Derived.JoinedTies
import Derived.KernelRfl
namespace Go.Proofs.Ytjnaeoelnmhjfaa
/- THE CELL 'sum', in the pinned program and in every row, IS THE sha256 OF THE DUMP (.gsa) THAT YtjnaeoelnmhjfaaProg.lean LOADS. Nothing in Lean hashes anything: it is a label: what it is worth is what the hold of that sum in a sandbox is worth. -/
noncomputable def Try.pinned : Pinned := { name := "ytjnaeoelnmhjfaa", sum := "56496f6054f2111e0825a538c73f0a5b0c855aeb36163ed28c1d11ec021b14a4", checked := Try.checked }
namespace Rows
def none {H : Type} : Left H := { results := [], args := [] }

/-- 'billetlaw37.DumpDecodes': WHATEVER THE INPUT: true; the input reads as it did. -/
def dumpDecodesSpec : ChangeSpec := { name := "dumpDecodes", fn := fun _ => fun
  | [d] => { results := [.lit (.bool true)], args := [d] }
  | _ => none }
def dumpDecodesRow : OpenClaim := { program := "ytjnaeoelnmhjfaa", sum := "56496f6054f2111e0825a538c73f0a5b0c855aeb36163ed28c1d11ec021b14a4", func := "billet/billetlaw37.DumpDecodes", spec := "dumpDecodes", inPlace := ["internal/abi.NoEscape"], unfollowed := true, recurses := true, apart := false }
def DumpDecodesSaid : Prop := dumpDecodesRow.holds Try.pinned (OpenSpec.ofChange dumpDecodesSpec)

/-- ITS FALSE NEIGHBOUR: 'it returns false'. Refute it at one input. -/
def dumpDecodesWrong : ChangeSpec := { name := "dumpDecodes", fn := fun _ => fun
  | [d] => { results := [.lit (.bool false)], args := [d] }
  | _ => none }
def DumpDecodesWrongFalsely : Prop := dumpDecodesRow.holds Try.pinned (OpenSpec.ofChange dumpDecodesWrong)

/-- 'billetlaw37.DumpEncodes': WHATEVER THE INPUT: true; the input reads as it did. -/
def dumpEncodesSpec : ChangeSpec := { name := "dumpEncodes", fn := fun _ => fun
  | [d] => { results := [.lit (.bool true)], args := [d] }
  | _ => none }
def dumpEncodesRow : OpenClaim := { program := "ytjnaeoelnmhjfaa", sum := "56496f6054f2111e0825a538c73f0a5b0c855aeb36163ed28c1d11ec021b14a4", func := "billet/billetlaw37.DumpEncodes", spec := "dumpEncodes", inPlace := ["internal/abi.NoEscape"], unfollowed := true, recurses := true, apart := false }
def DumpEncodesSaid : Prop := dumpEncodesRow.holds Try.pinned (OpenSpec.ofChange dumpEncodesSpec)

/-- ITS FALSE NEIGHBOUR: 'it returns false'. Refute it at one input. -/
def dumpEncodesWrong : ChangeSpec := { name := "dumpEncodes", fn := fun _ => fun
  | [d] => { results := [.lit (.bool false)], args := [d] }
  | _ => none }
def DumpEncodesWrongFalsely : Prop := dumpEncodesRow.holds Try.pinned (OpenSpec.ofChange dumpEncodesWrong)

/-- 'billetlaw40.ScriptEncodes': WHATEVER THE INPUT: true; the input reads as it did. -/
def scriptEncodesSpec : ChangeSpec := { name := "scriptEncodes", fn := fun _ => fun
  | [d] => { results := [.lit (.bool true)], args := [d] }
  | _ => none }
def scriptEncodesRow : OpenClaim := { program := "ytjnaeoelnmhjfaa", sum := "56496f6054f2111e0825a538c73f0a5b0c855aeb36163ed28c1d11ec021b14a4", func := "billet/billetlaw40.ScriptEncodes", spec := "scriptEncodes", inPlace := ["internal/abi.NoEscape", "internal/bytealg.IndexByteString", "internal/bytealg.IndexString"], unfollowed := true, recurses := true, named := ["internal/bytealg.MaxLen"], apart := false }
def ScriptEncodesSaid : Prop := scriptEncodesRow.holds Try.pinned (OpenSpec.ofChange scriptEncodesSpec)

/-- ITS FALSE NEIGHBOUR: 'it returns false'. Refute it at one input. -/
def scriptEncodesWrong : ChangeSpec := { name := "scriptEncodes", fn := fun _ => fun
  | [d] => { results := [.lit (.bool false)], args := [d] }
  | _ => none }
def ScriptEncodesWrongFalsely : Prop := scriptEncodesRow.holds Try.pinned (OpenSpec.ofChange scriptEncodesWrong)

/-- 'billetlaw40.ScriptDecodes': WHATEVER THE INPUT: true; the input reads as it did. -/
def scriptDecodesSpec : ChangeSpec := { name := "scriptDecodes", fn := fun _ => fun
  | [d] => { results := [.lit (.bool true)], args := [d] }
  | _ => none }
def scriptDecodesRow : OpenClaim := { program := "ytjnaeoelnmhjfaa", sum := "56496f6054f2111e0825a538c73f0a5b0c855aeb36163ed28c1d11ec021b14a4", func := "billet/billetlaw40.ScriptDecodes", spec := "scriptDecodes", inPlace := ["internal/abi.NoEscape", "internal/bytealg.IndexByteString", "internal/bytealg.IndexString"], unfollowed := true, recurses := true, named := ["internal/bytealg.MaxLen"], apart := false }
def ScriptDecodesSaid : Prop := scriptDecodesRow.holds Try.pinned (OpenSpec.ofChange scriptDecodesSpec)

/-- ITS FALSE NEIGHBOUR: 'it returns false'. Refute it at one input. -/
def scriptDecodesWrong : ChangeSpec := { name := "scriptDecodes", fn := fun _ => fun
  | [d] => { results := [.lit (.bool false)], args := [d] }
  | _ => none }
def ScriptDecodesWrongFalsely : Prop := scriptDecodesRow.holds Try.pinned (OpenSpec.ofChange scriptDecodesWrong)

/-- 'billetlaw40.ScriptSends': WHATEVER THE INPUT: true; the input reads as it did. -/
def scriptSendsSpec : ChangeSpec := { name := "scriptSends", fn := fun _ => fun
  | [d1, d2, d3] => { results := [.lit (.bool true)], args := [d1, d2, d3] }
  | _ => none }
def scriptSendsRow : OpenClaim := { program := "ytjnaeoelnmhjfaa", sum := "56496f6054f2111e0825a538c73f0a5b0c855aeb36163ed28c1d11ec021b14a4", func := "billet/billetlaw40.ScriptSends", spec := "scriptSends", inPlace := ["internal/abi.NoEscape", "internal/bytealg.IndexByteString", "internal/bytealg.IndexString"], unfollowed := true, recurses := true, named := ["internal/bytealg.MaxLen"], apart := false }
def ScriptSendsSaid : Prop := scriptSendsRow.holds Try.pinned (OpenSpec.ofChange scriptSendsSpec)

/-- ITS FALSE NEIGHBOUR: 'it returns false'. Refute it at one input. -/
def scriptSendsWrong : ChangeSpec := { name := "scriptSends", fn := fun _ => fun
  | [d1, d2, d3] => { results := [.lit (.bool false)], args := [d1, d2, d3] }
  | _ => none }
def ScriptSendsWrongFalsely : Prop := scriptSendsRow.holds Try.pinned (OpenSpec.ofChange scriptSendsWrong)

/- THE SECOND FORM. 'bulk': how many values and letters a reading holds, each counted each time it is reached (what is shared counts as often as it is met; a slice's spare places count too). A statement '..UptoSaid' is the law's where the arguments, and the package variables that the reading takes, are together of bulk at most 1048576: NARROWER than '..Said'. Prove '..Said' where nothing that the law and all that it calls make is longer than what came in: it says more and counts as full. Else prove '..UptoSaid'. A law counts once. -/
mutual
def uptoBulk {H : Type} : DataW H → Nat
  | .lit (.string bytes) => bytes.length + 1
  | .lit _ => 1
  | .nil => 1
  | .ptr d => uptoBulk d + 1
  | .slice elems spare => uptoBulkAll elems + uptoBulkAll spare + 1
  | .agg parts => uptoBulkAll parts + 1
  | .iface _ d => uptoBulk d + 1
  | .map entries => uptoBulkEntries entries + 1
  | .held _ => 1
def uptoBulkAll {H : Type} : List (DataW H) → Nat
  | [] => 0
  | d :: r => uptoBulk d + uptoBulkAll r
def uptoBulkEntries {H : Type} : List (Lit × DataW H) → Nat
  | [] => 0
  | x :: r => uptoBulkEntry x + uptoBulkEntries r
def uptoBulkEntry {H : Type} : Lit × DataW H → Nat
  | (.string bytes, d) => bytes.length + uptoBulk d + 1
  | (_, d) => uptoBulk d + 1
 end
def uptoSmall : (H : Type) → List (DataW H) → Bool := fun _ ds => decide (uptoBulkAll ds ≤ 1048576)
def OpenSpec.upto (s : _root_.Go.ChangeSpec) : _root_.Go.OpenSpec := { _root_.Go.OpenSpec.ofChange s with cond := some uptoSmall }

/-- 'billetlaw37.DumpDecodes', WHERE WHAT IT READS IS OF BULK AT MOST 1048576: true; the input reads as it did. -/
def dumpDecodesUptoRow : OpenClaim := { program := "ytjnaeoelnmhjfaa", sum := "56496f6054f2111e0825a538c73f0a5b0c855aeb36163ed28c1d11ec021b14a4", func := "billet/billetlaw37.DumpDecodes", spec := "dumpDecodes", inPlace := ["internal/abi.NoEscape"], unfollowed := true, recurses := true, apart := false, narrowed := true }
def DumpDecodesUptoSaid : Prop := dumpDecodesUptoRow.holds Try.pinned (OpenSpec.upto dumpDecodesSpec)

/-- 'billetlaw37.DumpEncodes', WHERE WHAT IT READS IS OF BULK AT MOST 1048576: true; the input reads as it did. -/
def dumpEncodesUptoRow : OpenClaim := { program := "ytjnaeoelnmhjfaa", sum := "56496f6054f2111e0825a538c73f0a5b0c855aeb36163ed28c1d11ec021b14a4", func := "billet/billetlaw37.DumpEncodes", spec := "dumpEncodes", inPlace := ["internal/abi.NoEscape"], unfollowed := true, recurses := true, apart := false, narrowed := true }
def DumpEncodesUptoSaid : Prop := dumpEncodesUptoRow.holds Try.pinned (OpenSpec.upto dumpEncodesSpec)

/-- 'billetlaw40.ScriptEncodes', WHERE WHAT IT READS IS OF BULK AT MOST 1048576: true; the input reads as it did. -/
def scriptEncodesUptoRow : OpenClaim := { program := "ytjnaeoelnmhjfaa", sum := "56496f6054f2111e0825a538c73f0a5b0c855aeb36163ed28c1d11ec021b14a4", func := "billet/billetlaw40.ScriptEncodes", spec := "scriptEncodes", inPlace := ["internal/abi.NoEscape", "internal/bytealg.IndexByteString", "internal/bytealg.IndexString"], unfollowed := true, recurses := true, named := ["internal/bytealg.MaxLen"], apart := false, narrowed := true }
def ScriptEncodesUptoSaid : Prop := scriptEncodesUptoRow.holds Try.pinned (OpenSpec.upto scriptEncodesSpec)

/-- 'billetlaw40.ScriptDecodes', WHERE WHAT IT READS IS OF BULK AT MOST 1048576: true; the input reads as it did. -/
def scriptDecodesUptoRow : OpenClaim := { program := "ytjnaeoelnmhjfaa", sum := "56496f6054f2111e0825a538c73f0a5b0c855aeb36163ed28c1d11ec021b14a4", func := "billet/billetlaw40.ScriptDecodes", spec := "scriptDecodes", inPlace := ["internal/abi.NoEscape", "internal/bytealg.IndexByteString", "internal/bytealg.IndexString"], unfollowed := true, recurses := true, named := ["internal/bytealg.MaxLen"], apart := false, narrowed := true }
def ScriptDecodesUptoSaid : Prop := scriptDecodesUptoRow.holds Try.pinned (OpenSpec.upto scriptDecodesSpec)

/-- 'billetlaw40.ScriptSends', WHERE WHAT IT READS IS OF BULK AT MOST 1048576: true; the input reads as it did. -/
def scriptSendsUptoRow : OpenClaim := { program := "ytjnaeoelnmhjfaa", sum := "56496f6054f2111e0825a538c73f0a5b0c855aeb36163ed28c1d11ec021b14a4", func := "billet/billetlaw40.ScriptSends", spec := "scriptSends", inPlace := ["internal/abi.NoEscape", "internal/bytealg.IndexByteString", "internal/bytealg.IndexString"], unfollowed := true, recurses := true, named := ["internal/bytealg.MaxLen"], apart := false, narrowed := true }
def ScriptSendsUptoSaid : Prop := scriptSendsUptoRow.holds Try.pinned (OpenSpec.upto scriptSendsSpec)

end Rows
end Go.Proofs.Ytjnaeoelnmhjfaa
