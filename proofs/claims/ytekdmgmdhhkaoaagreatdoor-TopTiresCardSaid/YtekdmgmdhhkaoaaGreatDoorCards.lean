/-
  DERIVED. GIVEN WITH THE SEED: THE CARDS: each row of YtekdmgmdhhkaoaaGreatDoorRows.lean that lists a variable, with what it lists TIED to the program's text (the seventh form; the later family's looks); each row that meets fmt, with fmt's text TOLD by the authors' own Lean function (tested against real Go, not proved from fmt's source: count such statements apart). THE CARD IS WHAT COUNTS. Prove the row's statement (the work); the ties are given (YtekdmgmdhhkaoaaGreatDoorTie.lean); close each card by the builder's one call (the guide's Derived/Test/ToyasCard.lean, 'card_holds'). Laid BY PROGRAM, IN A SANDBOX (cutbox-door.mjs). By AI agents, Wed Nov 11 2026. No macro, syntax, notation, axiom, sorry.
-/
import Derived.Test.YtekdmgmdhhkaoaaGreatDoorRows
import GoSem.ClaimSeven
namespace Go.Proofs.YtekdmgmdhhkaoaaGreatDoor
namespace Rows

/-- THE TIED CARD OF 'tethertop.TopTires'. -/
def topTiresCard : Claim7 := { stood := { row := topTiresRow, standIns := [], harness := (true, "f07ed36011f7a3b4d660ab3dfe5e8e6102131837ab89d493d364278e2834184b"), looks := true }, kinds := [], alts := [], laidByText := true, laidKinds := [.data, .data, .data, .data, .handle, .sentinel, .sentinel, .sentinel, .sentinel, .pinned], laidTests := true, laidLooks := .later }
def TopTiresCardSaid : Prop := Claim7.holds Tryz.pinned (.plain (OpenSpec.ofChange topTiresSpec)) topTiresCard

/-- THE SECOND FORM's CARD OF 'tethertop.TopTires'. -/
def topTiresUptoCard : Claim7 := { stood := { row := topTiresUptoRow, standIns := [], harness := (true, "f07ed36011f7a3b4d660ab3dfe5e8e6102131837ab89d493d364278e2834184b"), looks := true }, kinds := [], alts := [], laidByText := true, laidKinds := [.data, .data, .data, .data, .handle, .sentinel, .sentinel, .sentinel, .sentinel, .pinned], laidTests := true, laidLooks := .later }
def TopTiresUptoCardSaid : Prop := Claim7.holds Tryz.pinned (.plain (OpenSpec.upto topTiresSpec)) topTiresUptoCard
end Rows
end Go.Proofs.YtekdmgmdhhkaoaaGreatDoor
