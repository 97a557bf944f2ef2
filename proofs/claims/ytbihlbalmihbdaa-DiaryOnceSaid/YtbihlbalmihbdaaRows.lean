/-
  No cell of these rows narrows 'for every input' (looked for: loops, veiled, ifaces, maps, wideKeys, modest, calm, conditions, laid).
  DERIVED. THE GIVEN ROWS OF THIS SEAT. 4 by the template 'for every input the law returns true; each argument reads behind the call as it read before'; 0 by the template 'total and deterministic' (their statements: YtbihlbalmihbdaaTotals.lean).
  GIVEN WITH THE SEED: the statements are not yours to turn. If you find one false, say at which input.
  Laid BY PROGRAM, IN A SANDBOX (cutbox-rows.mjs): the forced cells as the released guide's own fill.sh prints them over the translation 37f0747a19299aba… (all of the seat's roots in one cut). By AI agents, Wed Nov 11 2026. No macro, syntax, notation, axiom, sorry.
-/
import Derived.Test.YtbihlbalmihbdaaChecked
import GoSem.Claim
import GoSem.ClaimJoined
import GoSem.ClaimMapViews
import Derived.JoinedTies
import Derived.KernelRfl
namespace Go.Proofs.Ytbihlbalmihbdaa
/- THE CELL 'sum', in the pinned program and in every row, IS THE sha256 OF THE DUMP (.gsa) THAT YtbihlbalmihbdaaProg.lean LOADS. Nothing in Lean hashes anything: it is a label: what it is worth is what the hold of that sum in a sandbox is worth. -/
noncomputable def Try.pinned : Pinned := { name := "ytbihlbalmihbdaa", sum := "37f0747a19299aba4868f3bb25ca211cbdf15248d47461f4c6ec7a9e4c509393", checked := Try.checked }
namespace Rows
def none {H : Type} : Left H := { results := [], args := [] }

/-- 'sandglasslaw44.DiaryTrue': WHATEVER THE INPUT: true; the input reads as it did. -/
def diaryTrueSpec : ChangeSpec := { name := "diaryTrue", fn := fun _ => fun
  | [d] => { results := [.lit (.bool true)], args := [d] }
  | _ => none }
def diaryTrueRow : OpenClaim := { program := "ytbihlbalmihbdaa", sum := "37f0747a19299aba4868f3bb25ca211cbdf15248d47461f4c6ec7a9e4c509393", func := "sandglass/sandglasslaw44.DiaryTrue", spec := "diaryTrue", plainKeys := false, apart := false }
def DiaryTrueSaid : Prop := diaryTrueRow.holds Try.pinned (OpenSpec.ofChange diaryTrueSpec)

/-- ITS FALSE NEIGHBOUR: 'it returns false'. Refute it at one input. -/
def diaryTrueWrong : ChangeSpec := { name := "diaryTrue", fn := fun _ => fun
  | [d] => { results := [.lit (.bool false)], args := [d] }
  | _ => none }
def DiaryTrueWrongFalsely : Prop := diaryTrueRow.holds Try.pinned (OpenSpec.ofChange diaryTrueWrong)

/-- 'sandglasslaw44.DiaryKept': WHATEVER THE INPUT: true; the input reads as it did. -/
def diaryKeptSpec : ChangeSpec := { name := "diaryKept", fn := fun _ => fun
  | [d1, d2, d3] => { results := [.lit (.bool true)], args := [d1, d2, d3] }
  | _ => none }
def diaryKeptRow : OpenClaim := { program := "ytbihlbalmihbdaa", sum := "37f0747a19299aba4868f3bb25ca211cbdf15248d47461f4c6ec7a9e4c509393", func := "sandglass/sandglasslaw44.DiaryKept", spec := "diaryKept", plainKeys := false, apart := false }
def DiaryKeptSaid : Prop := diaryKeptRow.holds Try.pinned (OpenSpec.ofChange diaryKeptSpec)

/-- ITS FALSE NEIGHBOUR: 'it returns false'. Refute it at one input. -/
def diaryKeptWrong : ChangeSpec := { name := "diaryKept", fn := fun _ => fun
  | [d1, d2, d3] => { results := [.lit (.bool false)], args := [d1, d2, d3] }
  | _ => none }
def DiaryKeptWrongFalsely : Prop := diaryKeptRow.holds Try.pinned (OpenSpec.ofChange diaryKeptWrong)

/-- 'sandglasslaw44.DiaryOnce': WHATEVER THE INPUT: true; the input reads as it did. -/
def diaryOnceSpec : ChangeSpec := { name := "diaryOnce", fn := fun _ => fun
  | [d] => { results := [.lit (.bool true)], args := [d] }
  | _ => none }
def diaryOnceRow : OpenClaim := { program := "ytbihlbalmihbdaa", sum := "37f0747a19299aba4868f3bb25ca211cbdf15248d47461f4c6ec7a9e4c509393", func := "sandglass/sandglasslaw44.DiaryOnce", spec := "diaryOnce", plainKeys := false, apart := false }
def DiaryOnceSaid : Prop := diaryOnceRow.holds Try.pinned (OpenSpec.ofChange diaryOnceSpec)

/-- ITS FALSE NEIGHBOUR: 'it returns false'. Refute it at one input. -/
def diaryOnceWrong : ChangeSpec := { name := "diaryOnce", fn := fun _ => fun
  | [d] => { results := [.lit (.bool false)], args := [d] }
  | _ => none }
def DiaryOnceWrongFalsely : Prop := diaryOnceRow.holds Try.pinned (OpenSpec.ofChange diaryOnceWrong)

/-- 'sandglasslaw44.DiaryNone': WHATEVER THE INPUT: true; the input reads as it did. -/
def diaryNoneSpec : ChangeSpec := { name := "diaryNone", fn := fun _ => fun
  | [d1, d2] => { results := [.lit (.bool true)], args := [d1, d2] }
  | _ => none }
def diaryNoneRow : OpenClaim := { program := "ytbihlbalmihbdaa", sum := "37f0747a19299aba4868f3bb25ca211cbdf15248d47461f4c6ec7a9e4c509393", func := "sandglass/sandglasslaw44.DiaryNone", spec := "diaryNone", plainKeys := false, apart := false }
def DiaryNoneSaid : Prop := diaryNoneRow.holds Try.pinned (OpenSpec.ofChange diaryNoneSpec)

/-- ITS FALSE NEIGHBOUR: 'it returns false'. Refute it at one input. -/
def diaryNoneWrong : ChangeSpec := { name := "diaryNone", fn := fun _ => fun
  | [d1, d2] => { results := [.lit (.bool false)], args := [d1, d2] }
  | _ => none }
def DiaryNoneWrongFalsely : Prop := diaryNoneRow.holds Try.pinned (OpenSpec.ofChange diaryNoneWrong)

/- THE SECOND FORM. 'bulk': how many values and letters a reading holds, each counted each time it is reached (what is shared counts as often as it is met; a slice's spare places count too). A statement '..UptoSaid' is the law's where the arguments, and the package variables that the reading takes, are together of bulk at most 1048576: NARROWER than '..Said'. Prove '..Said' where nothing that the law and all that it calls make is longer than what came in: it says more and counts as full. Else prove '..UptoSaid'. A law counts once. -/
mutual
def uptoBulk {H : Type} : DataW H → Nat
  | .lit (.string bytes) => bytes.length + 1
  | .lit _ => 1
  | .nil => 1
  | .ptr d => uptoBulk d + 1
  | .slice elems spare => uptoBulkAll elems + uptoBulkAll spare + 1
  | .agg parts => uptoBulkAll parts + 1
  | .iface _ d => uptoBulk d + 1
  | .map entries => uptoBulkEntries entries + 1
  | .held _ => 1
def uptoBulkAll {H : Type} : List (DataW H) → Nat
  | [] => 0
  | d :: r => uptoBulk d + uptoBulkAll r
def uptoBulkEntries {H : Type} : List (Lit × DataW H) → Nat
  | [] => 0
  | x :: r => uptoBulkEntry x + uptoBulkEntries r
def uptoBulkEntry {H : Type} : Lit × DataW H → Nat
  | (.string bytes, d) => bytes.length + uptoBulk d + 1
  | (_, d) => uptoBulk d + 1
 end
def uptoSmall : (H : Type) → List (DataW H) → Bool := fun _ ds => decide (uptoBulkAll ds ≤ 1048576)
def OpenSpec.upto (s : _root_.Go.ChangeSpec) : _root_.Go.OpenSpec := { _root_.Go.OpenSpec.ofChange s with cond := some uptoSmall }

/-- 'sandglasslaw44.DiaryTrue', WHERE WHAT IT READS IS OF BULK AT MOST 1048576: true; the input reads as it did. -/
def diaryTrueUptoRow : OpenClaim := { program := "ytbihlbalmihbdaa", sum := "37f0747a19299aba4868f3bb25ca211cbdf15248d47461f4c6ec7a9e4c509393", func := "sandglass/sandglasslaw44.DiaryTrue", spec := "diaryTrue", plainKeys := false, apart := false, narrowed := true }
def DiaryTrueUptoSaid : Prop := diaryTrueUptoRow.holds Try.pinned (OpenSpec.upto diaryTrueSpec)

/-- 'sandglasslaw44.DiaryKept', WHERE WHAT IT READS IS OF BULK AT MOST 1048576: true; the input reads as it did. -/
def diaryKeptUptoRow : OpenClaim := { program := "ytbihlbalmihbdaa", sum := "37f0747a19299aba4868f3bb25ca211cbdf15248d47461f4c6ec7a9e4c509393", func := "sandglass/sandglasslaw44.DiaryKept", spec := "diaryKept", plainKeys := false, apart := false, narrowed := true }
def DiaryKeptUptoSaid : Prop := diaryKeptUptoRow.holds Try.pinned (OpenSpec.upto diaryKeptSpec)

/-- 'sandglasslaw44.DiaryOnce', WHERE WHAT IT READS IS OF BULK AT MOST 1048576: true; the input reads as it did. -/
def diaryOnceUptoRow : OpenClaim := { program := "ytbihlbalmihbdaa", sum := "37f0747a19299aba4868f3bb25ca211cbdf15248d47461f4c6ec7a9e4c509393", func := "sandglass/sandglasslaw44.DiaryOnce", spec := "diaryOnce", plainKeys := false, apart := false, narrowed := true }
def DiaryOnceUptoSaid : Prop := diaryOnceUptoRow.holds Try.pinned (OpenSpec.upto diaryOnceSpec)

/-- 'sandglasslaw44.DiaryNone', WHERE WHAT IT READS IS OF BULK AT MOST 1048576: true; the input reads as it did. -/
def diaryNoneUptoRow : OpenClaim := { program := "ytbihlbalmihbdaa", sum := "37f0747a19299aba4868f3bb25ca211cbdf15248d47461f4c6ec7a9e4c509393", func := "sandglass/sandglasslaw44.DiaryNone", spec := "diaryNone", plainKeys := false, apart := false, narrowed := true }
def DiaryNoneUptoSaid : Prop := diaryNoneUptoRow.holds Try.pinned (OpenSpec.upto diaryNoneSpec)

end Rows
end Go.Proofs.Ytbihlbalmihbdaa
