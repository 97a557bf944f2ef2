/-
  DERIVED. GIVEN WITH THE SEED: THE CARDS: each row of YtifpomknkjegeaaDoorRows.lean that lists a variable, with what it lists TIED to the program's text (the seventh form; the later family's looks); each row that meets fmt, with fmt's text TOLD by the authors' own Lean function (tested against real Go, not proved from fmt's source: count such statements apart). THE CARD IS WHAT COUNTS. Prove the row's statement (the work); the ties are given (YtifpomknkjegeaaDoorTie.lean); close each card by the builder's one call (the guide's Derived/Test/ToyasCard.lean, 'card_holds'). Laid BY PROGRAM, IN A SANDBOX (cutbox-door.mjs). By AI agents, Wed Nov 11 2026. No macro, syntax, notation, axiom, sorry.
-/
import Derived.Test.YtifpomknkjegeaaDoorRows
import GoSem.ClaimSeven
namespace Go.Proofs.YtifpomknkjegeaaDoor
namespace Rows

/-- THE TIED CARD OF 'sandglasslaw43.BlockEncodes'. -/
def blockEncodesCard : Claim7 := { stood := { row := blockEncodesRow, standIns := [], harness := (true, "06b73b62c26d94fd17fdcbdbbd8f659f57e547996551c0066dfc7d8cf510d105"), looks := false }, kinds := [], alts := [], laidByText := true, laidKinds := [.data, .data], laidTests := true, laidLooks := .later }
def BlockEncodesCardSaid : Prop := Claim7.holds Tryd.pinned (.plain (OpenSpec.ofChange blockEncodesSpec)) blockEncodesCard

/-- THE TIED CARD OF 'sandglasslaw43.BlockDecodes'. -/
def blockDecodesCard : Claim7 := { stood := { row := blockDecodesRow, standIns := [], harness := (true, "06b73b62c26d94fd17fdcbdbbd8f659f57e547996551c0066dfc7d8cf510d105"), looks := false }, kinds := [], alts := [], laidByText := true, laidKinds := [.data, .data], laidTests := true, laidLooks := .later }
def BlockDecodesCardSaid : Prop := Claim7.holds Tryd.pinned (.plain (OpenSpec.ofChange blockDecodesSpec)) blockDecodesCard

/-- THE TIED CARD OF 'sandglasslaw43.BlockBack'. -/
def blockBackCard : Claim7 := { stood := { row := blockBackRow, standIns := [], harness := (true, "06b73b62c26d94fd17fdcbdbbd8f659f57e547996551c0066dfc7d8cf510d105"), looks := false }, kinds := [], alts := [], laidByText := true, laidKinds := [.data, .data], laidTests := true, laidLooks := .later }
def BlockBackCardSaid : Prop := Claim7.holds Tryd.pinned (.plain (OpenSpec.ofChange blockBackSpec)) blockBackCard

/-- THE TIED CARD OF 'sandglasslaw43.BlockChains'. -/
def blockChainsCard : Claim7 := { stood := { row := blockChainsRow, standIns := [], harness := (true, "06b73b62c26d94fd17fdcbdbbd8f659f57e547996551c0066dfc7d8cf510d105"), looks := false }, kinds := [], alts := [], laidByText := true, laidKinds := [.data, .data], laidTests := true, laidLooks := .later }
def BlockChainsCardSaid : Prop := Claim7.holds Tryd.pinned (.plain (OpenSpec.ofChange blockChainsSpec)) blockChainsCard

/-- THE TIED CARD OF 'sandglasslaw43.BlockGrows'. -/
def blockGrowsCard : Claim7 := { stood := { row := blockGrowsRow, standIns := [], harness := (true, "06b73b62c26d94fd17fdcbdbbd8f659f57e547996551c0066dfc7d8cf510d105"), looks := false }, kinds := [], alts := [], laidByText := true, laidKinds := [.data, .data], laidTests := true, laidLooks := .later }
def BlockGrowsCardSaid : Prop := Claim7.holds Tryd.pinned (.plain (OpenSpec.ofChange blockGrowsSpec)) blockGrowsCard

/-- THE SECOND FORM's CARD OF 'sandglasslaw43.BlockEncodes'. -/
def blockEncodesUptoCard : Claim7 := { stood := { row := blockEncodesUptoRow, standIns := [], harness := (true, "06b73b62c26d94fd17fdcbdbbd8f659f57e547996551c0066dfc7d8cf510d105"), looks := false }, kinds := [], alts := [], laidByText := true, laidKinds := [.data, .data], laidTests := true, laidLooks := .later }
def BlockEncodesUptoCardSaid : Prop := Claim7.holds Tryd.pinned (.plain (OpenSpec.upto blockEncodesSpec)) blockEncodesUptoCard

/-- THE SECOND FORM's CARD OF 'sandglasslaw43.BlockDecodes'. -/
def blockDecodesUptoCard : Claim7 := { stood := { row := blockDecodesUptoRow, standIns := [], harness := (true, "06b73b62c26d94fd17fdcbdbbd8f659f57e547996551c0066dfc7d8cf510d105"), looks := false }, kinds := [], alts := [], laidByText := true, laidKinds := [.data, .data], laidTests := true, laidLooks := .later }
def BlockDecodesUptoCardSaid : Prop := Claim7.holds Tryd.pinned (.plain (OpenSpec.upto blockDecodesSpec)) blockDecodesUptoCard

/-- THE SECOND FORM's CARD OF 'sandglasslaw43.BlockBack'. -/
def blockBackUptoCard : Claim7 := { stood := { row := blockBackUptoRow, standIns := [], harness := (true, "06b73b62c26d94fd17fdcbdbbd8f659f57e547996551c0066dfc7d8cf510d105"), looks := false }, kinds := [], alts := [], laidByText := true, laidKinds := [.data, .data], laidTests := true, laidLooks := .later }
def BlockBackUptoCardSaid : Prop := Claim7.holds Tryd.pinned (.plain (OpenSpec.upto blockBackSpec)) blockBackUptoCard

/-- THE SECOND FORM's CARD OF 'sandglasslaw43.BlockChains'. -/
def blockChainsUptoCard : Claim7 := { stood := { row := blockChainsUptoRow, standIns := [], harness := (true, "06b73b62c26d94fd17fdcbdbbd8f659f57e547996551c0066dfc7d8cf510d105"), looks := false }, kinds := [], alts := [], laidByText := true, laidKinds := [.data, .data], laidTests := true, laidLooks := .later }
def BlockChainsUptoCardSaid : Prop := Claim7.holds Tryd.pinned (.plain (OpenSpec.upto blockChainsSpec)) blockChainsUptoCard

/-- THE SECOND FORM's CARD OF 'sandglasslaw43.BlockGrows'. -/
def blockGrowsUptoCard : Claim7 := { stood := { row := blockGrowsUptoRow, standIns := [], harness := (true, "06b73b62c26d94fd17fdcbdbbd8f659f57e547996551c0066dfc7d8cf510d105"), looks := false }, kinds := [], alts := [], laidByText := true, laidKinds := [.data, .data], laidTests := true, laidLooks := .later }
def BlockGrowsUptoCardSaid : Prop := Claim7.holds Tryd.pinned (.plain (OpenSpec.upto blockGrowsSpec)) blockGrowsUptoCard
end Rows
end Go.Proofs.YtifpomknkjegeaaDoor
