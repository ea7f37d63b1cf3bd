/-
  DERIVED. GIVEN WITH THE SEED: THE CARDS: each row of YtoklobcagaolmaaGreatDoorRows.lean that lists a variable, with what it lists TIED to the program's text (the seventh form; the later family's looks); each row that meets fmt, with fmt's text TOLD by the authors' own Lean function (tested against real Go, not proved from fmt's source: count such statements apart). THE CARD IS WHAT COUNTS. Prove the row's statement (the work); the ties are given (YtoklobcagaolmaaGreatDoorTie.lean); close each card by the builder's one call (the guide's Derived/Test/ToyasCard.lean, 'card_holds'). Laid BY PROGRAM, IN A SANDBOX (cutbox-door.mjs). By AI agents, Wed Nov 11 2026. No macro, syntax, notation, axiom, sorry.
-/
import Derived.Test.YtoklobcagaolmaaGreatDoorRows
import GoSem.ClaimSeven
namespace Go.Proofs.YtoklobcagaolmaaGreatDoor
namespace Rows

/-- THE TIED CARD OF 'tethertop.TopEchoes'. -/
def topEchoesCard : Claim7 := { stood := { row := topEchoesRow, standIns := [], harness := (true, "11648282000393db3e8247161e2187387db64b583eecc63159015c2103a25616"), looks := true }, kinds := [], alts := [], laidByText := true, laidKinds := [.sentinel, .handle, .pinned, .data, .sentinel, .sentinel, .data, .data, .data, .sentinel, .data, .pinned, .pinned, .data], laidTests := true, laidLooks := .later }
def TopEchoesCardSaid : Prop := Claim7.holds Tryz.pinned (.plain (OpenSpec.ofChange topEchoesSpec)) topEchoesCard

/-- THE TIED CARD OF 'tethertop.TopRises'. -/
def topRisesCard : Claim7 := { stood := { row := topRisesRow, standIns := [], harness := (true, "11648282000393db3e8247161e2187387db64b583eecc63159015c2103a25616"), looks := true }, kinds := [], alts := [], laidByText := true, laidKinds := [.sentinel, .handle, .pinned, .data, .sentinel, .sentinel, .data, .data, .data, .sentinel, .data, .pinned, .pinned, .data], laidTests := true, laidLooks := .later }
def TopRisesCardSaid : Prop := Claim7.holds Tryz.pinned (.plain (OpenSpec.ofChange topRisesSpec)) topRisesCard

/-- THE TIED CARD OF 'tethertop.TopWaits'. -/
def topWaitsCard : Claim7 := { stood := { row := topWaitsRow, standIns := [], harness := (true, "11648282000393db3e8247161e2187387db64b583eecc63159015c2103a25616"), looks := true }, kinds := [], alts := [], laidByText := true, laidKinds := [.sentinel, .handle, .pinned, .data, .sentinel, .sentinel, .data, .data, .data, .sentinel, .data, .pinned, .pinned, .data], laidTests := true, laidLooks := .later }
def TopWaitsCardSaid : Prop := Claim7.holds Tryz.pinned (.plain (OpenSpec.ofChange topWaitsSpec)) topWaitsCard

/-- THE TIED CARD OF 'tethertop.TopSizes'. -/
def topSizesCard : Claim7 := { stood := { row := topSizesRow, standIns := [], harness := (true, "11648282000393db3e8247161e2187387db64b583eecc63159015c2103a25616"), looks := true }, kinds := [], alts := [], laidByText := true, laidKinds := [.sentinel, .handle, .pinned, .data, .sentinel, .sentinel, .data, .data, .data, .sentinel, .data, .pinned, .pinned, .data], laidTests := true, laidLooks := .later }
def TopSizesCardSaid : Prop := Claim7.holds Tryz.pinned (.plain (OpenSpec.ofChange topSizesSpec)) topSizesCard

/-- THE SECOND FORM's CARD OF 'tethertop.TopEchoes'. -/
def topEchoesUptoCard : Claim7 := { stood := { row := topEchoesUptoRow, standIns := [], harness := (true, "11648282000393db3e8247161e2187387db64b583eecc63159015c2103a25616"), looks := true }, kinds := [], alts := [], laidByText := true, laidKinds := [.sentinel, .handle, .pinned, .data, .sentinel, .sentinel, .data, .data, .data, .sentinel, .data, .pinned, .pinned, .data], laidTests := true, laidLooks := .later }
def TopEchoesUptoCardSaid : Prop := Claim7.holds Tryz.pinned (.plain (OpenSpec.upto topEchoesSpec)) topEchoesUptoCard

/-- THE SECOND FORM's CARD OF 'tethertop.TopRises'. -/
def topRisesUptoCard : Claim7 := { stood := { row := topRisesUptoRow, standIns := [], harness := (true, "11648282000393db3e8247161e2187387db64b583eecc63159015c2103a25616"), looks := true }, kinds := [], alts := [], laidByText := true, laidKinds := [.sentinel, .handle, .pinned, .data, .sentinel, .sentinel, .data, .data, .data, .sentinel, .data, .pinned, .pinned, .data], laidTests := true, laidLooks := .later }
def TopRisesUptoCardSaid : Prop := Claim7.holds Tryz.pinned (.plain (OpenSpec.upto topRisesSpec)) topRisesUptoCard

/-- THE SECOND FORM's CARD OF 'tethertop.TopWaits'. -/
def topWaitsUptoCard : Claim7 := { stood := { row := topWaitsUptoRow, standIns := [], harness := (true, "11648282000393db3e8247161e2187387db64b583eecc63159015c2103a25616"), looks := true }, kinds := [], alts := [], laidByText := true, laidKinds := [.sentinel, .handle, .pinned, .data, .sentinel, .sentinel, .data, .data, .data, .sentinel, .data, .pinned, .pinned, .data], laidTests := true, laidLooks := .later }
def TopWaitsUptoCardSaid : Prop := Claim7.holds Tryz.pinned (.plain (OpenSpec.upto topWaitsSpec)) topWaitsUptoCard

/-- THE SECOND FORM's CARD OF 'tethertop.TopSizes'. -/
def topSizesUptoCard : Claim7 := { stood := { row := topSizesUptoRow, standIns := [], harness := (true, "11648282000393db3e8247161e2187387db64b583eecc63159015c2103a25616"), looks := true }, kinds := [], alts := [], laidByText := true, laidKinds := [.sentinel, .handle, .pinned, .data, .sentinel, .sentinel, .data, .data, .data, .sentinel, .data, .pinned, .pinned, .data], laidTests := true, laidLooks := .later }
def TopSizesUptoCardSaid : Prop := Claim7.holds Tryz.pinned (.plain (OpenSpec.upto topSizesSpec)) topSizesUptoCard
end Rows
end Go.Proofs.YtoklobcagaolmaaGreatDoor
