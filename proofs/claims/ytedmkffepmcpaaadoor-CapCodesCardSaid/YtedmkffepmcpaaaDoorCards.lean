/-
  DERIVED. GIVEN WITH THE SEED: THE CARDS: each row of YtedmkffepmcpaaaDoorRows.lean that lists a variable, with what it lists TIED to the program's text (the seventh form; the later family's looks); each row that meets fmt, with fmt's text TOLD by the authors' own Lean function (tested against real Go, not proved from fmt's source: count such statements apart). THE CARD IS WHAT COUNTS. Prove the row's statement (the work); the ties are given (YtedmkffepmcpaaaDoorTie.lean); close each card by the builder's one call (the guide's Derived/Test/ToyasCard.lean, 'card_holds'). Laid BY PROGRAM, IN A SANDBOX (cutbox-door.mjs). By AI agents, Wed Nov 11 2026. No macro, syntax, notation, axiom, sorry.
-/
import Derived.Test.YtedmkffepmcpaaaDoorRows
import GoSem.ClaimSeven
namespace Go.Proofs.YtedmkffepmcpaaaDoor
namespace Rows

/-- THE TIED CARD OF 'strongroomlaw12.CapMints'. -/
def capMintsCard : Claim7 := { stood := { row := capMintsRow, standIns := [], harness := (true, "390bfe5490f72f51b9fca2b244e6baf020242aa27eb4097c70c2f68b4c628206"), looks := false }, kinds := [], alts := [], laidByText := true, laidKinds := [.data, .pinned], laidTests := true, laidLooks := .later }
def CapMintsCardSaid : Prop := Claim7.holds Tryd.pinned (.plain (OpenSpec.ofChange capMintsSpec)) capMintsCard

/-- THE TIED CARD OF 'strongroomlaw12.CapNarrows'. -/
def capNarrowsCard : Claim7 := { stood := { row := capNarrowsRow, standIns := [], harness := (true, "390bfe5490f72f51b9fca2b244e6baf020242aa27eb4097c70c2f68b4c628206"), looks := false }, kinds := [], alts := [], laidByText := true, laidKinds := [.data, .pinned], laidTests := true, laidLooks := .later }
def CapNarrowsCardSaid : Prop := Claim7.holds Tryd.pinned (.plain (OpenSpec.ofChange capNarrowsSpec)) capNarrowsCard

/-- THE TIED CARD OF 'strongroomlaw12.CapChecks'. -/
def capChecksCard : Claim7 := { stood := { row := capChecksRow, standIns := [], harness := (true, "390bfe5490f72f51b9fca2b244e6baf020242aa27eb4097c70c2f68b4c628206"), looks := false }, kinds := [], alts := [], laidByText := true, laidKinds := [.data, .pinned], laidTests := true, laidLooks := .later }
def CapChecksCardSaid : Prop := Claim7.holds Tryd.pinned (.plain (OpenSpec.ofChange capChecksSpec)) capChecksCard

/-- THE TIED CARD OF 'strongroomlaw12.CapLess'. -/
def capLessCard : Claim7 := { stood := { row := capLessRow, standIns := [], harness := (true, "390bfe5490f72f51b9fca2b244e6baf020242aa27eb4097c70c2f68b4c628206"), looks := false }, kinds := [], alts := [], laidByText := true, laidKinds := [.data, .pinned], laidTests := true, laidLooks := .later }
def CapLessCardSaid : Prop := Claim7.holds Tryd.pinned (.plain (OpenSpec.ofChange capLessSpec)) capLessCard

/-- THE TIED CARD OF 'strongroomlaw12.CapLets'. -/
def capLetsCard : Claim7 := { stood := { row := capLetsRow, standIns := [], harness := (true, "390bfe5490f72f51b9fca2b244e6baf020242aa27eb4097c70c2f68b4c628206"), looks := false }, kinds := [], alts := [], laidByText := true, laidKinds := [.data, .pinned], laidTests := true, laidLooks := .later }
def CapLetsCardSaid : Prop := Claim7.holds Tryd.pinned (.plain (OpenSpec.ofChange capLetsSpec)) capLetsCard

/-- THE TIED CARD OF 'strongroomlaw12.CapMeets'. -/
def capMeetsCard : Claim7 := { stood := { row := capMeetsRow, standIns := [], harness := (true, "390bfe5490f72f51b9fca2b244e6baf020242aa27eb4097c70c2f68b4c628206"), looks := false }, kinds := [], alts := [], laidByText := true, laidKinds := [.data, .pinned], laidTests := true, laidLooks := .later }
def CapMeetsCardSaid : Prop := Claim7.holds Tryd.pinned (.plain (OpenSpec.ofChange capMeetsSpec)) capMeetsCard

/-- THE TIED CARD OF 'strongroomlaw12.CapCodes'. -/
def capCodesCard : Claim7 := { stood := { row := capCodesRow, standIns := [], harness := (true, "390bfe5490f72f51b9fca2b244e6baf020242aa27eb4097c70c2f68b4c628206"), looks := false }, kinds := [], alts := [], laidByText := true, laidKinds := [.data, .pinned], laidTests := true, laidLooks := .later }
def CapCodesCardSaid : Prop := Claim7.holds Tryd.pinned (.plain (OpenSpec.ofChange capCodesSpec)) capCodesCard

/-- THE SECOND FORM's CARD OF 'strongroomlaw12.CapMints'. -/
def capMintsUptoCard : Claim7 := { stood := { row := capMintsUptoRow, standIns := [], harness := (true, "390bfe5490f72f51b9fca2b244e6baf020242aa27eb4097c70c2f68b4c628206"), looks := false }, kinds := [], alts := [], laidByText := true, laidKinds := [.data, .pinned], laidTests := true, laidLooks := .later }
def CapMintsUptoCardSaid : Prop := Claim7.holds Tryd.pinned (.plain (OpenSpec.upto capMintsSpec)) capMintsUptoCard

/-- THE SECOND FORM's CARD OF 'strongroomlaw12.CapNarrows'. -/
def capNarrowsUptoCard : Claim7 := { stood := { row := capNarrowsUptoRow, standIns := [], harness := (true, "390bfe5490f72f51b9fca2b244e6baf020242aa27eb4097c70c2f68b4c628206"), looks := false }, kinds := [], alts := [], laidByText := true, laidKinds := [.data, .pinned], laidTests := true, laidLooks := .later }
def CapNarrowsUptoCardSaid : Prop := Claim7.holds Tryd.pinned (.plain (OpenSpec.upto capNarrowsSpec)) capNarrowsUptoCard

/-- THE SECOND FORM's CARD OF 'strongroomlaw12.CapChecks'. -/
def capChecksUptoCard : Claim7 := { stood := { row := capChecksUptoRow, standIns := [], harness := (true, "390bfe5490f72f51b9fca2b244e6baf020242aa27eb4097c70c2f68b4c628206"), looks := false }, kinds := [], alts := [], laidByText := true, laidKinds := [.data, .pinned], laidTests := true, laidLooks := .later }
def CapChecksUptoCardSaid : Prop := Claim7.holds Tryd.pinned (.plain (OpenSpec.upto capChecksSpec)) capChecksUptoCard

/-- THE SECOND FORM's CARD OF 'strongroomlaw12.CapLess'. -/
def capLessUptoCard : Claim7 := { stood := { row := capLessUptoRow, standIns := [], harness := (true, "390bfe5490f72f51b9fca2b244e6baf020242aa27eb4097c70c2f68b4c628206"), looks := false }, kinds := [], alts := [], laidByText := true, laidKinds := [.data, .pinned], laidTests := true, laidLooks := .later }
def CapLessUptoCardSaid : Prop := Claim7.holds Tryd.pinned (.plain (OpenSpec.upto capLessSpec)) capLessUptoCard

/-- THE SECOND FORM's CARD OF 'strongroomlaw12.CapLets'. -/
def capLetsUptoCard : Claim7 := { stood := { row := capLetsUptoRow, standIns := [], harness := (true, "390bfe5490f72f51b9fca2b244e6baf020242aa27eb4097c70c2f68b4c628206"), looks := false }, kinds := [], alts := [], laidByText := true, laidKinds := [.data, .pinned], laidTests := true, laidLooks := .later }
def CapLetsUptoCardSaid : Prop := Claim7.holds Tryd.pinned (.plain (OpenSpec.upto capLetsSpec)) capLetsUptoCard

/-- THE SECOND FORM's CARD OF 'strongroomlaw12.CapMeets'. -/
def capMeetsUptoCard : Claim7 := { stood := { row := capMeetsUptoRow, standIns := [], harness := (true, "390bfe5490f72f51b9fca2b244e6baf020242aa27eb4097c70c2f68b4c628206"), looks := false }, kinds := [], alts := [], laidByText := true, laidKinds := [.data, .pinned], laidTests := true, laidLooks := .later }
def CapMeetsUptoCardSaid : Prop := Claim7.holds Tryd.pinned (.plain (OpenSpec.upto capMeetsSpec)) capMeetsUptoCard

/-- THE SECOND FORM's CARD OF 'strongroomlaw12.CapCodes'. -/
def capCodesUptoCard : Claim7 := { stood := { row := capCodesUptoRow, standIns := [], harness := (true, "390bfe5490f72f51b9fca2b244e6baf020242aa27eb4097c70c2f68b4c628206"), looks := false }, kinds := [], alts := [], laidByText := true, laidKinds := [.data, .pinned], laidTests := true, laidLooks := .later }
def CapCodesUptoCardSaid : Prop := Claim7.holds Tryd.pinned (.plain (OpenSpec.upto capCodesSpec)) capCodesUptoCard
end Rows
end Go.Proofs.YtedmkffepmcpaaaDoor
