/-
  DERIVED. GIVEN WITH THE SEED: THE CARDS: each row of YtdeggemomajhcaaDoorRows.lean that lists a variable, with what it lists TIED to the program's text (the seventh form; the later family's looks); each row that meets fmt, with fmt's text TOLD by the authors' own Lean function (tested against real Go, not proved from fmt's source: count such statements apart). THE CARD IS WHAT COUNTS. Prove the row's statement (the work); the ties are given (YtdeggemomajhcaaDoorTie.lean); close each card by the builder's one call (the guide's Derived/Test/ToyasCard.lean, 'card_holds'). Laid BY PROGRAM, IN A SANDBOX (cutbox-door.mjs). By AI agents, Wed Nov 11 2026. No macro, syntax, notation, axiom, sorry.
-/
import Derived.Test.YtdeggemomajhcaaDoorRows
import GoSem.ClaimSeven
namespace Go.Proofs.YtdeggemomajhcaaDoor
namespace Rows

/-- THE TIED CARD OF 'strongroomlaw20.MerkleDigests'. -/
def merkleDigestsCard : Claim7 := { stood := { row := merkleDigestsRow, standIns := [], harness := (true, "ef77083d289b5b9c436495a152641b0c51fc909cb8cc96aa114e26d5af32526d"), looks := false }, kinds := [], alts := [], laidByText := true, laidKinds := [.data, .pinned], laidTests := true, laidLooks := .later }
def MerkleDigestsCardSaid : Prop := Claim7.holds Tryd.pinned (.plain (OpenSpec.ofChange merkleDigestsSpec)) merkleDigestsCard

/-- THE TIED CARD OF 'strongroomlaw20.MerkleProves'. -/
def merkleProvesCard : Claim7 := { stood := { row := merkleProvesRow, standIns := [], harness := (true, "ef77083d289b5b9c436495a152641b0c51fc909cb8cc96aa114e26d5af32526d"), looks := false }, kinds := [], alts := [], laidByText := true, laidKinds := [.data, .pinned], laidTests := true, laidLooks := .later }
def MerkleProvesCardSaid : Prop := Claim7.holds Tryd.pinned (.plain (OpenSpec.ofChange merkleProvesSpec)) merkleProvesCard

/-- THE TIED CARD OF 'strongroomlaw20.MerkleVerifies'. -/
def merkleVerifiesCard : Claim7 := { stood := { row := merkleVerifiesRow, standIns := [], harness := (true, "ef77083d289b5b9c436495a152641b0c51fc909cb8cc96aa114e26d5af32526d"), looks := false }, kinds := [], alts := [], laidByText := true, laidKinds := [.data, .pinned], laidTests := true, laidLooks := .later }
def MerkleVerifiesCardSaid : Prop := Claim7.holds Tryd.pinned (.plain (OpenSpec.ofChange merkleVerifiesSpec)) merkleVerifiesCard

/-- THE TIED CARD OF 'strongroomlaw20.MerkleShows'. -/
def merkleShowsCard : Claim7 := { stood := { row := merkleShowsRow, standIns := [], harness := (true, "ef77083d289b5b9c436495a152641b0c51fc909cb8cc96aa114e26d5af32526d"), looks := false }, kinds := [], alts := [], laidByText := true, laidKinds := [.data, .pinned], laidTests := true, laidLooks := .later }
def MerkleShowsCardSaid : Prop := Claim7.holds Tryd.pinned (.plain (OpenSpec.ofChange merkleShowsSpec)) merkleShowsCard

/-- THE TIED CARD OF 'strongroomlaw20.MerkleMissing'. -/
def merkleMissingCard : Claim7 := { stood := { row := merkleMissingRow, standIns := [], harness := (true, "ef77083d289b5b9c436495a152641b0c51fc909cb8cc96aa114e26d5af32526d"), looks := false }, kinds := [], alts := [], laidByText := true, laidKinds := [.data, .pinned], laidTests := true, laidLooks := .later }
def MerkleMissingCardSaid : Prop := Claim7.holds Tryd.pinned (.plain (OpenSpec.ofChange merkleMissingSpec)) merkleMissingCard

/-- THE TIED CARD OF 'strongroomlaw20.MerkleDiffs'. -/
def merkleDiffsCard : Claim7 := { stood := { row := merkleDiffsRow, standIns := [], harness := (true, "ef77083d289b5b9c436495a152641b0c51fc909cb8cc96aa114e26d5af32526d"), looks := false }, kinds := [], alts := [], laidByText := true, laidKinds := [.data, .pinned], laidTests := true, laidLooks := .later }
def MerkleDiffsCardSaid : Prop := Claim7.holds Tryd.pinned (.plain (OpenSpec.ofChange merkleDiffsSpec)) merkleDiffsCard

/-- THE TIED CARD OF 'strongroomlaw20.MerkleApplies'. -/
def merkleAppliesCard : Claim7 := { stood := { row := merkleAppliesRow, standIns := [], harness := (true, "ef77083d289b5b9c436495a152641b0c51fc909cb8cc96aa114e26d5af32526d"), looks := false }, kinds := [], alts := [], laidByText := true, laidKinds := [.data, .pinned], laidTests := true, laidLooks := .later }
def MerkleAppliesCardSaid : Prop := Claim7.holds Tryd.pinned (.plain (OpenSpec.ofChange merkleAppliesSpec)) merkleAppliesCard

/-- THE TIED CARD OF 'strongroomlaw20.MerkleAbsent'. -/
def merkleAbsentCard : Claim7 := { stood := { row := merkleAbsentRow, standIns := [], harness := (true, "ef77083d289b5b9c436495a152641b0c51fc909cb8cc96aa114e26d5af32526d"), looks := false }, kinds := [], alts := [], laidByText := true, laidKinds := [.data, .pinned], laidTests := true, laidLooks := .later }
def MerkleAbsentCardSaid : Prop := Claim7.holds Tryd.pinned (.plain (OpenSpec.ofChange merkleAbsentSpec)) merkleAbsentCard

/-- THE SECOND FORM's CARD OF 'strongroomlaw20.MerkleDigests'. -/
def merkleDigestsUptoCard : Claim7 := { stood := { row := merkleDigestsUptoRow, standIns := [], harness := (true, "ef77083d289b5b9c436495a152641b0c51fc909cb8cc96aa114e26d5af32526d"), looks := false }, kinds := [], alts := [], laidByText := true, laidKinds := [.data, .pinned], laidTests := true, laidLooks := .later }
def MerkleDigestsUptoCardSaid : Prop := Claim7.holds Tryd.pinned (.plain (OpenSpec.upto merkleDigestsSpec)) merkleDigestsUptoCard

/-- THE SECOND FORM's CARD OF 'strongroomlaw20.MerkleProves'. -/
def merkleProvesUptoCard : Claim7 := { stood := { row := merkleProvesUptoRow, standIns := [], harness := (true, "ef77083d289b5b9c436495a152641b0c51fc909cb8cc96aa114e26d5af32526d"), looks := false }, kinds := [], alts := [], laidByText := true, laidKinds := [.data, .pinned], laidTests := true, laidLooks := .later }
def MerkleProvesUptoCardSaid : Prop := Claim7.holds Tryd.pinned (.plain (OpenSpec.upto merkleProvesSpec)) merkleProvesUptoCard

/-- THE SECOND FORM's CARD OF 'strongroomlaw20.MerkleVerifies'. -/
def merkleVerifiesUptoCard : Claim7 := { stood := { row := merkleVerifiesUptoRow, standIns := [], harness := (true, "ef77083d289b5b9c436495a152641b0c51fc909cb8cc96aa114e26d5af32526d"), looks := false }, kinds := [], alts := [], laidByText := true, laidKinds := [.data, .pinned], laidTests := true, laidLooks := .later }
def MerkleVerifiesUptoCardSaid : Prop := Claim7.holds Tryd.pinned (.plain (OpenSpec.upto merkleVerifiesSpec)) merkleVerifiesUptoCard

/-- THE SECOND FORM's CARD OF 'strongroomlaw20.MerkleShows'. -/
def merkleShowsUptoCard : Claim7 := { stood := { row := merkleShowsUptoRow, standIns := [], harness := (true, "ef77083d289b5b9c436495a152641b0c51fc909cb8cc96aa114e26d5af32526d"), looks := false }, kinds := [], alts := [], laidByText := true, laidKinds := [.data, .pinned], laidTests := true, laidLooks := .later }
def MerkleShowsUptoCardSaid : Prop := Claim7.holds Tryd.pinned (.plain (OpenSpec.upto merkleShowsSpec)) merkleShowsUptoCard

/-- THE SECOND FORM's CARD OF 'strongroomlaw20.MerkleMissing'. -/
def merkleMissingUptoCard : Claim7 := { stood := { row := merkleMissingUptoRow, standIns := [], harness := (true, "ef77083d289b5b9c436495a152641b0c51fc909cb8cc96aa114e26d5af32526d"), looks := false }, kinds := [], alts := [], laidByText := true, laidKinds := [.data, .pinned], laidTests := true, laidLooks := .later }
def MerkleMissingUptoCardSaid : Prop := Claim7.holds Tryd.pinned (.plain (OpenSpec.upto merkleMissingSpec)) merkleMissingUptoCard

/-- THE SECOND FORM's CARD OF 'strongroomlaw20.MerkleDiffs'. -/
def merkleDiffsUptoCard : Claim7 := { stood := { row := merkleDiffsUptoRow, standIns := [], harness := (true, "ef77083d289b5b9c436495a152641b0c51fc909cb8cc96aa114e26d5af32526d"), looks := false }, kinds := [], alts := [], laidByText := true, laidKinds := [.data, .pinned], laidTests := true, laidLooks := .later }
def MerkleDiffsUptoCardSaid : Prop := Claim7.holds Tryd.pinned (.plain (OpenSpec.upto merkleDiffsSpec)) merkleDiffsUptoCard

/-- THE SECOND FORM's CARD OF 'strongroomlaw20.MerkleApplies'. -/
def merkleAppliesUptoCard : Claim7 := { stood := { row := merkleAppliesUptoRow, standIns := [], harness := (true, "ef77083d289b5b9c436495a152641b0c51fc909cb8cc96aa114e26d5af32526d"), looks := false }, kinds := [], alts := [], laidByText := true, laidKinds := [.data, .pinned], laidTests := true, laidLooks := .later }
def MerkleAppliesUptoCardSaid : Prop := Claim7.holds Tryd.pinned (.plain (OpenSpec.upto merkleAppliesSpec)) merkleAppliesUptoCard

/-- THE SECOND FORM's CARD OF 'strongroomlaw20.MerkleAbsent'. -/
def merkleAbsentUptoCard : Claim7 := { stood := { row := merkleAbsentUptoRow, standIns := [], harness := (true, "ef77083d289b5b9c436495a152641b0c51fc909cb8cc96aa114e26d5af32526d"), looks := false }, kinds := [], alts := [], laidByText := true, laidKinds := [.data, .pinned], laidTests := true, laidLooks := .later }
def MerkleAbsentUptoCardSaid : Prop := Claim7.holds Tryd.pinned (.plain (OpenSpec.upto merkleAbsentSpec)) merkleAbsentUptoCard
end Rows
end Go.Proofs.YtdeggemomajhcaaDoor
