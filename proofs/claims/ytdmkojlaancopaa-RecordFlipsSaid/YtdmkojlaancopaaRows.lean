/-
  No cell of these rows narrows 'for every input' (looked for: loops, veiled, ifaces, maps, wideKeys, modest, calm, conditions, laid).
  DERIVED. THE GIVEN ROWS OF THIS SEAT. 5 by the template 'for every input the law returns true; each argument reads behind the call as it read before'; 0 by the template 'total and deterministic' (their statements: YtdmkojlaancopaaTotals.lean).
  GIVEN WITH THE SEED: the statements are not yours to turn. If you find one false, say at which input.
  Laid BY PROGRAM, IN A SANDBOX (cutbox-rows.mjs): the forced cells as the released guide's own fill.sh prints them over the translation bd17554dbd6cee34… (all of the seat's roots in one cut). By AI agents, Wed Nov 11 2026. No macro, syntax, notation, axiom, sorry.
-/
import Derived.Test.YtdmkojlaancopaaChecked
import GoSem.Claim
import GoSem.ClaimJoined
import GoSem.ClaimMapViews
import Derived.JoinedTies
import Derived.KernelRfl
namespace Go.Proofs.Ytdmkojlaancopaa
/- THE CELL 'sum', in the pinned program and in every row, IS THE sha256 OF THE DUMP (.gsa) THAT YtdmkojlaancopaaProg.lean LOADS. Nothing in Lean hashes anything: it is a label: what it is worth is what the hold of that sum in a sandbox is worth. -/
noncomputable def Try.pinned : Pinned := { name := "ytdmkojlaancopaa", sum := "bd17554dbd6cee34423c13e228fb26ee977b4022cef8270c4bfe48484f84ca1f", checked := Try.checked }
namespace Rows
def none {H : Type} : Left H := { results := [], args := [] }

/-- 'sandglasslaw17.RecordSums': WHATEVER THE INPUT: true; the input reads as it did. -/
def recordSumsSpec : ChangeSpec := { name := "recordSums", fn := fun _ => fun
  | [d] => { results := [.lit (.bool true)], args := [d] }
  | _ => none }
def recordSumsRow : OpenClaim := { program := "ytdmkojlaancopaa", sum := "bd17554dbd6cee34423c13e228fb26ee977b4022cef8270c4bfe48484f84ca1f", func := "sandglass/sandglasslaw17.RecordSums", spec := "recordSums", apart := false }
def RecordSumsSaid : Prop := recordSumsRow.holds Try.pinned (OpenSpec.ofChange recordSumsSpec)

/-- ITS FALSE NEIGHBOUR: 'it returns false'. Refute it at one input. -/
def recordSumsWrong : ChangeSpec := { name := "recordSums", fn := fun _ => fun
  | [d] => { results := [.lit (.bool false)], args := [d] }
  | _ => none }
def RecordSumsWrongFalsely : Prop := recordSumsRow.holds Try.pinned (OpenSpec.ofChange recordSumsWrong)

/-- 'sandglasslaw17.RecordNexts': WHATEVER THE INPUT: true; the input reads as it did. -/
def recordNextsSpec : ChangeSpec := { name := "recordNexts", fn := fun _ => fun
  | [d] => { results := [.lit (.bool true)], args := [d] }
  | _ => none }
def recordNextsRow : OpenClaim := { program := "ytdmkojlaancopaa", sum := "bd17554dbd6cee34423c13e228fb26ee977b4022cef8270c4bfe48484f84ca1f", func := "sandglass/sandglasslaw17.RecordNexts", spec := "recordNexts", apart := false }
def RecordNextsSaid : Prop := recordNextsRow.holds Try.pinned (OpenSpec.ofChange recordNextsSpec)

/-- ITS FALSE NEIGHBOUR: 'it returns false'. Refute it at one input. -/
def recordNextsWrong : ChangeSpec := { name := "recordNexts", fn := fun _ => fun
  | [d] => { results := [.lit (.bool false)], args := [d] }
  | _ => none }
def RecordNextsWrongFalsely : Prop := recordNextsRow.holds Try.pinned (OpenSpec.ofChange recordNextsWrong)

/-- 'sandglasslaw17.RecordLogs': WHATEVER THE INPUT: true; the input reads as it did. -/
def recordLogsSpec : ChangeSpec := { name := "recordLogs", fn := fun _ => fun
  | [d] => { results := [.lit (.bool true)], args := [d] }
  | _ => none }
def recordLogsRow : OpenClaim := { program := "ytdmkojlaancopaa", sum := "bd17554dbd6cee34423c13e228fb26ee977b4022cef8270c4bfe48484f84ca1f", func := "sandglass/sandglasslaw17.RecordLogs", spec := "recordLogs", apart := false }
def RecordLogsSaid : Prop := recordLogsRow.holds Try.pinned (OpenSpec.ofChange recordLogsSpec)

/-- ITS FALSE NEIGHBOUR: 'it returns false'. Refute it at one input. -/
def recordLogsWrong : ChangeSpec := { name := "recordLogs", fn := fun _ => fun
  | [d] => { results := [.lit (.bool false)], args := [d] }
  | _ => none }
def RecordLogsWrongFalsely : Prop := recordLogsRow.holds Try.pinned (OpenSpec.ofChange recordLogsWrong)

/-- 'sandglasslaw17.RecordCut': WHATEVER THE INPUT: true; the input reads as it did. -/
def recordCutSpec : ChangeSpec := { name := "recordCut", fn := fun _ => fun
  | [d1, d2] => { results := [.lit (.bool true)], args := [d1, d2] }
  | _ => none }
def recordCutRow : OpenClaim := { program := "ytdmkojlaancopaa", sum := "bd17554dbd6cee34423c13e228fb26ee977b4022cef8270c4bfe48484f84ca1f", func := "sandglass/sandglasslaw17.RecordCut", spec := "recordCut", apart := false }
def RecordCutSaid : Prop := recordCutRow.holds Try.pinned (OpenSpec.ofChange recordCutSpec)

/-- ITS FALSE NEIGHBOUR: 'it returns false'. Refute it at one input. -/
def recordCutWrong : ChangeSpec := { name := "recordCut", fn := fun _ => fun
  | [d1, d2] => { results := [.lit (.bool false)], args := [d1, d2] }
  | _ => none }
def RecordCutWrongFalsely : Prop := recordCutRow.holds Try.pinned (OpenSpec.ofChange recordCutWrong)

/-- 'sandglasslaw17.RecordFlips': WHATEVER THE INPUT: true; the input reads as it did. -/
def recordFlipsSpec : ChangeSpec := { name := "recordFlips", fn := fun _ => fun
  | [d1, d2, d3] => { results := [.lit (.bool true)], args := [d1, d2, d3] }
  | _ => none }
def recordFlipsRow : OpenClaim := { program := "ytdmkojlaancopaa", sum := "bd17554dbd6cee34423c13e228fb26ee977b4022cef8270c4bfe48484f84ca1f", func := "sandglass/sandglasslaw17.RecordFlips", spec := "recordFlips", apart := false }
def RecordFlipsSaid : Prop := recordFlipsRow.holds Try.pinned (OpenSpec.ofChange recordFlipsSpec)

/-- ITS FALSE NEIGHBOUR: 'it returns false'. Refute it at one input. -/
def recordFlipsWrong : ChangeSpec := { name := "recordFlips", fn := fun _ => fun
  | [d1, d2, d3] => { results := [.lit (.bool false)], args := [d1, d2, d3] }
  | _ => none }
def RecordFlipsWrongFalsely : Prop := recordFlipsRow.holds Try.pinned (OpenSpec.ofChange recordFlipsWrong)

/- THE SECOND FORM. 'bulk': how many values and letters a reading holds, each counted each time it is reached (what is shared counts as often as it is met; a slice's spare places count too). A statement '..UptoSaid' is the law's where the arguments, and the package variables that the reading takes, are together of bulk at most 1048576: NARROWER than '..Said'. Prove '..Said' where nothing that the law and all that it calls make is longer than what came in: it says more and counts as full. Else prove '..UptoSaid'. A law counts once. -/
mutual
def uptoBulk {H : Type} : DataW H → Nat
  | .lit (.string bytes) => bytes.length + 1
  | .lit _ => 1
  | .nil => 1
  | .ptr d => uptoBulk d + 1
  | .slice elems spare => uptoBulkAll elems + uptoBulkAll spare + 1
  | .agg parts => uptoBulkAll parts + 1
  | .iface _ d => uptoBulk d + 1
  | .map entries => uptoBulkEntries entries + 1
  | .held _ => 1
def uptoBulkAll {H : Type} : List (DataW H) → Nat
  | [] => 0
  | d :: r => uptoBulk d + uptoBulkAll r
def uptoBulkEntries {H : Type} : List (Lit × DataW H) → Nat
  | [] => 0
  | x :: r => uptoBulkEntry x + uptoBulkEntries r
def uptoBulkEntry {H : Type} : Lit × DataW H → Nat
  | (.string bytes, d) => bytes.length + uptoBulk d + 1
  | (_, d) => uptoBulk d + 1
 end
def uptoSmall : (H : Type) → List (DataW H) → Bool := fun _ ds => decide (uptoBulkAll ds ≤ 1048576)
def OpenSpec.upto (s : _root_.Go.ChangeSpec) : _root_.Go.OpenSpec := { _root_.Go.OpenSpec.ofChange s with cond := some uptoSmall }

/-- 'sandglasslaw17.RecordSums', WHERE WHAT IT READS IS OF BULK AT MOST 1048576: true; the input reads as it did. -/
def recordSumsUptoRow : OpenClaim := { program := "ytdmkojlaancopaa", sum := "bd17554dbd6cee34423c13e228fb26ee977b4022cef8270c4bfe48484f84ca1f", func := "sandglass/sandglasslaw17.RecordSums", spec := "recordSums", apart := false, narrowed := true }
def RecordSumsUptoSaid : Prop := recordSumsUptoRow.holds Try.pinned (OpenSpec.upto recordSumsSpec)

/-- 'sandglasslaw17.RecordNexts', WHERE WHAT IT READS IS OF BULK AT MOST 1048576: true; the input reads as it did. -/
def recordNextsUptoRow : OpenClaim := { program := "ytdmkojlaancopaa", sum := "bd17554dbd6cee34423c13e228fb26ee977b4022cef8270c4bfe48484f84ca1f", func := "sandglass/sandglasslaw17.RecordNexts", spec := "recordNexts", apart := false, narrowed := true }
def RecordNextsUptoSaid : Prop := recordNextsUptoRow.holds Try.pinned (OpenSpec.upto recordNextsSpec)

/-- 'sandglasslaw17.RecordLogs', WHERE WHAT IT READS IS OF BULK AT MOST 1048576: true; the input reads as it did. -/
def recordLogsUptoRow : OpenClaim := { program := "ytdmkojlaancopaa", sum := "bd17554dbd6cee34423c13e228fb26ee977b4022cef8270c4bfe48484f84ca1f", func := "sandglass/sandglasslaw17.RecordLogs", spec := "recordLogs", apart := false, narrowed := true }
def RecordLogsUptoSaid : Prop := recordLogsUptoRow.holds Try.pinned (OpenSpec.upto recordLogsSpec)

/-- 'sandglasslaw17.RecordCut', WHERE WHAT IT READS IS OF BULK AT MOST 1048576: true; the input reads as it did. -/
def recordCutUptoRow : OpenClaim := { program := "ytdmkojlaancopaa", sum := "bd17554dbd6cee34423c13e228fb26ee977b4022cef8270c4bfe48484f84ca1f", func := "sandglass/sandglasslaw17.RecordCut", spec := "recordCut", apart := false, narrowed := true }
def RecordCutUptoSaid : Prop := recordCutUptoRow.holds Try.pinned (OpenSpec.upto recordCutSpec)

/-- 'sandglasslaw17.RecordFlips', WHERE WHAT IT READS IS OF BULK AT MOST 1048576: true; the input reads as it did. -/
def recordFlipsUptoRow : OpenClaim := { program := "ytdmkojlaancopaa", sum := "bd17554dbd6cee34423c13e228fb26ee977b4022cef8270c4bfe48484f84ca1f", func := "sandglass/sandglasslaw17.RecordFlips", spec := "recordFlips", apart := false, narrowed := true }
def RecordFlipsUptoSaid : Prop := recordFlipsUptoRow.holds Try.pinned (OpenSpec.upto recordFlipsSpec)

end Rows
end Go.Proofs.Ytdmkojlaancopaa
