/-
  No cell of these rows narrows 'for every input' (looked for: loops, veiled, ifaces, maps, wideKeys, modest, calm, conditions, laid).
  DERIVED. THE GIVEN ROWS OF THIS SEAT. 5 by the template 'for every input the law returns true; each argument reads behind the call as it read before'; 0 by the template 'total and deterministic' (their statements: YtjmdigfinkkelaaTotals.lean).
  GIVEN WITH THE SEED: the statements are not yours to turn. If you find one false, say at which input.
  Laid BY PROGRAM, IN A SANDBOX (cutbox-rows.mjs): the forced cells as the released guide's own fill.sh prints them over the translation bef9b7ab73e32f1e… (all of the seat's roots in one cut). By AI agents, Wed Nov 11 2026. No macro, syntax, notation, axiom, sorry.
-/
import Derived.Test.YtjmdigfinkkelaaChecked
import GoSem.Claim
import GoSem.ClaimJoined
import GoSem.ClaimMapViews
import Derived.JoinedTies
import Derived.KernelRfl
namespace Go.Proofs.Ytjmdigfinkkelaa
/- THE CELL 'sum', in the pinned program and in every row, IS THE sha256 OF THE DUMP (.gsa) THAT YtjmdigfinkkelaaProg.lean LOADS. Nothing in Lean hashes anything: it is a label: what it is worth is what the hold of that sum in a sandbox is worth. -/
noncomputable def Try.pinned : Pinned := { name := "ytjmdigfinkkelaa", sum := "bef9b7ab73e32f1e8c07ecb011415aae11a96cd7fa25434c9d3129e31b45ab76", checked := Try.checked }
namespace Rows
def none {H : Type} : Left H := { results := [], args := [] }

/-- 'sandglasslaw19.WalPlays': WHATEVER THE INPUT: true; the input reads as it did. -/
def walPlaysSpec : ChangeSpec := { name := "walPlays", fn := fun _ => fun
  | [d] => { results := [.lit (.bool true)], args := [d] }
  | _ => none }
def walPlaysRow : OpenClaim := { program := "ytjmdigfinkkelaa", sum := "bef9b7ab73e32f1e8c07ecb011415aae11a96cd7fa25434c9d3129e31b45ab76", func := "sandglass/sandglasslaw19.WalPlays", spec := "walPlays", apart := false }
def WalPlaysSaid : Prop := walPlaysRow.holds Try.pinned (OpenSpec.ofChange walPlaysSpec)

/-- ITS FALSE NEIGHBOUR: 'it returns false'. Refute it at one input. -/
def walPlaysWrong : ChangeSpec := { name := "walPlays", fn := fun _ => fun
  | [d] => { results := [.lit (.bool false)], args := [d] }
  | _ => none }
def WalPlaysWrongFalsely : Prop := walPlaysRow.holds Try.pinned (OpenSpec.ofChange walPlaysWrong)

/-- 'sandglasslaw19.WalBegins': WHATEVER THE INPUT: true; the input reads as it did. -/
def walBeginsSpec : ChangeSpec := { name := "walBegins", fn := fun _ => fun
  | [d1, d2] => { results := [.lit (.bool true)], args := [d1, d2] }
  | _ => none }
def walBeginsRow : OpenClaim := { program := "ytjmdigfinkkelaa", sum := "bef9b7ab73e32f1e8c07ecb011415aae11a96cd7fa25434c9d3129e31b45ab76", func := "sandglass/sandglasslaw19.WalBegins", spec := "walBegins", apart := false }
def WalBeginsSaid : Prop := walBeginsRow.holds Try.pinned (OpenSpec.ofChange walBeginsSpec)

/-- ITS FALSE NEIGHBOUR: 'it returns false'. Refute it at one input. -/
def walBeginsWrong : ChangeSpec := { name := "walBegins", fn := fun _ => fun
  | [d1, d2] => { results := [.lit (.bool false)], args := [d1, d2] }
  | _ => none }
def WalBeginsWrongFalsely : Prop := walBeginsRow.holds Try.pinned (OpenSpec.ofChange walBeginsWrong)

/-- 'sandglasslaw19.WalSure': WHATEVER THE INPUT: true; the input reads as it did. -/
def walSureSpec : ChangeSpec := { name := "walSure", fn := fun _ => fun
  | [d1, d2] => { results := [.lit (.bool true)], args := [d1, d2] }
  | _ => none }
def walSureRow : OpenClaim := { program := "ytjmdigfinkkelaa", sum := "bef9b7ab73e32f1e8c07ecb011415aae11a96cd7fa25434c9d3129e31b45ab76", func := "sandglass/sandglasslaw19.WalSure", spec := "walSure", apart := false }
def WalSureSaid : Prop := walSureRow.holds Try.pinned (OpenSpec.ofChange walSureSpec)

/-- ITS FALSE NEIGHBOUR: 'it returns false'. Refute it at one input. -/
def walSureWrong : ChangeSpec := { name := "walSure", fn := fun _ => fun
  | [d1, d2] => { results := [.lit (.bool false)], args := [d1, d2] }
  | _ => none }
def WalSureWrongFalsely : Prop := walSureRow.holds Try.pinned (OpenSpec.ofChange walSureWrong)

/-- 'sandglasslaw19.WalGoesOn': WHATEVER THE INPUT: true; the input reads as it did. -/
def walGoesOnSpec : ChangeSpec := { name := "walGoesOn", fn := fun _ => fun
  | [d1, d2, d3] => { results := [.lit (.bool true)], args := [d1, d2, d3] }
  | _ => none }
def walGoesOnRow : OpenClaim := { program := "ytjmdigfinkkelaa", sum := "bef9b7ab73e32f1e8c07ecb011415aae11a96cd7fa25434c9d3129e31b45ab76", func := "sandglass/sandglasslaw19.WalGoesOn", spec := "walGoesOn", apart := false }
def WalGoesOnSaid : Prop := walGoesOnRow.holds Try.pinned (OpenSpec.ofChange walGoesOnSpec)

/-- ITS FALSE NEIGHBOUR: 'it returns false'. Refute it at one input. -/
def walGoesOnWrong : ChangeSpec := { name := "walGoesOn", fn := fun _ => fun
  | [d1, d2, d3] => { results := [.lit (.bool false)], args := [d1, d2, d3] }
  | _ => none }
def WalGoesOnWrongFalsely : Prop := walGoesOnRow.holds Try.pinned (OpenSpec.ofChange walGoesOnWrong)

/-- 'sandglasslaw19.WalNone': WHATEVER THE INPUT: true; the input reads as it did. -/
def walNoneSpec : ChangeSpec := { name := "walNone", fn := fun _ => fun
  | [d1, d2] => { results := [.lit (.bool true)], args := [d1, d2] }
  | _ => none }
def walNoneRow : OpenClaim := { program := "ytjmdigfinkkelaa", sum := "bef9b7ab73e32f1e8c07ecb011415aae11a96cd7fa25434c9d3129e31b45ab76", func := "sandglass/sandglasslaw19.WalNone", spec := "walNone", apart := false }
def WalNoneSaid : Prop := walNoneRow.holds Try.pinned (OpenSpec.ofChange walNoneSpec)

/-- ITS FALSE NEIGHBOUR: 'it returns false'. Refute it at one input. -/
def walNoneWrong : ChangeSpec := { name := "walNone", fn := fun _ => fun
  | [d1, d2] => { results := [.lit (.bool false)], args := [d1, d2] }
  | _ => none }
def WalNoneWrongFalsely : Prop := walNoneRow.holds Try.pinned (OpenSpec.ofChange walNoneWrong)

/- THE SECOND FORM. 'bulk': how many values and letters a reading holds, each counted each time it is reached (what is shared counts as often as it is met; a slice's spare places count too). A statement '..UptoSaid' is the law's where the arguments, and the package variables that the reading takes, are together of bulk at most 1048576: NARROWER than '..Said'. Prove '..Said' where nothing that the law and all that it calls make is longer than what came in: it says more and counts as full. Else prove '..UptoSaid'. A law counts once. -/
mutual
def uptoBulk {H : Type} : DataW H → Nat
  | .lit (.string bytes) => bytes.length + 1
  | .lit _ => 1
  | .nil => 1
  | .ptr d => uptoBulk d + 1
  | .slice elems spare => uptoBulkAll elems + uptoBulkAll spare + 1
  | .agg parts => uptoBulkAll parts + 1
  | .iface _ d => uptoBulk d + 1
  | .map entries => uptoBulkEntries entries + 1
  | .held _ => 1
def uptoBulkAll {H : Type} : List (DataW H) → Nat
  | [] => 0
  | d :: r => uptoBulk d + uptoBulkAll r
def uptoBulkEntries {H : Type} : List (Lit × DataW H) → Nat
  | [] => 0
  | x :: r => uptoBulkEntry x + uptoBulkEntries r
def uptoBulkEntry {H : Type} : Lit × DataW H → Nat
  | (.string bytes, d) => bytes.length + uptoBulk d + 1
  | (_, d) => uptoBulk d + 1
 end
def uptoSmall : (H : Type) → List (DataW H) → Bool := fun _ ds => decide (uptoBulkAll ds ≤ 1048576)
def OpenSpec.upto (s : _root_.Go.ChangeSpec) : _root_.Go.OpenSpec := { _root_.Go.OpenSpec.ofChange s with cond := some uptoSmall }

/-- 'sandglasslaw19.WalPlays', WHERE WHAT IT READS IS OF BULK AT MOST 1048576: true; the input reads as it did. -/
def walPlaysUptoRow : OpenClaim := { program := "ytjmdigfinkkelaa", sum := "bef9b7ab73e32f1e8c07ecb011415aae11a96cd7fa25434c9d3129e31b45ab76", func := "sandglass/sandglasslaw19.WalPlays", spec := "walPlays", apart := false, narrowed := true }
def WalPlaysUptoSaid : Prop := walPlaysUptoRow.holds Try.pinned (OpenSpec.upto walPlaysSpec)

/-- 'sandglasslaw19.WalBegins', WHERE WHAT IT READS IS OF BULK AT MOST 1048576: true; the input reads as it did. -/
def walBeginsUptoRow : OpenClaim := { program := "ytjmdigfinkkelaa", sum := "bef9b7ab73e32f1e8c07ecb011415aae11a96cd7fa25434c9d3129e31b45ab76", func := "sandglass/sandglasslaw19.WalBegins", spec := "walBegins", apart := false, narrowed := true }
def WalBeginsUptoSaid : Prop := walBeginsUptoRow.holds Try.pinned (OpenSpec.upto walBeginsSpec)

/-- 'sandglasslaw19.WalSure', WHERE WHAT IT READS IS OF BULK AT MOST 1048576: true; the input reads as it did. -/
def walSureUptoRow : OpenClaim := { program := "ytjmdigfinkkelaa", sum := "bef9b7ab73e32f1e8c07ecb011415aae11a96cd7fa25434c9d3129e31b45ab76", func := "sandglass/sandglasslaw19.WalSure", spec := "walSure", apart := false, narrowed := true }
def WalSureUptoSaid : Prop := walSureUptoRow.holds Try.pinned (OpenSpec.upto walSureSpec)

/-- 'sandglasslaw19.WalGoesOn', WHERE WHAT IT READS IS OF BULK AT MOST 1048576: true; the input reads as it did. -/
def walGoesOnUptoRow : OpenClaim := { program := "ytjmdigfinkkelaa", sum := "bef9b7ab73e32f1e8c07ecb011415aae11a96cd7fa25434c9d3129e31b45ab76", func := "sandglass/sandglasslaw19.WalGoesOn", spec := "walGoesOn", apart := false, narrowed := true }
def WalGoesOnUptoSaid : Prop := walGoesOnUptoRow.holds Try.pinned (OpenSpec.upto walGoesOnSpec)

/-- 'sandglasslaw19.WalNone', WHERE WHAT IT READS IS OF BULK AT MOST 1048576: true; the input reads as it did. -/
def walNoneUptoRow : OpenClaim := { program := "ytjmdigfinkkelaa", sum := "bef9b7ab73e32f1e8c07ecb011415aae11a96cd7fa25434c9d3129e31b45ab76", func := "sandglass/sandglasslaw19.WalNone", spec := "walNone", apart := false, narrowed := true }
def WalNoneUptoSaid : Prop := walNoneUptoRow.holds Try.pinned (OpenSpec.upto walNoneSpec)

end Rows
end Go.Proofs.Ytjmdigfinkkelaa
