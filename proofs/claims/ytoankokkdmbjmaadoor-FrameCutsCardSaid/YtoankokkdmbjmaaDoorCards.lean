/-
  DERIVED. GIVEN WITH THE SEED: THE CARDS: each row of YtoankokkdmbjmaaDoorRows.lean that lists a variable, with what it lists TIED to the program's text (the seventh form; the later family's looks); each row that meets fmt, with fmt's text TOLD by the authors' own Lean function (tested against real Go, not proved from fmt's source: count such statements apart). THE CARD IS WHAT COUNTS. Prove the row's statement (the work); the ties are given (YtoankokkdmbjmaaDoorTie.lean); close each card by the builder's one call (the guide's Derived/Test/ToyasCard.lean, 'card_holds'). Laid BY PROGRAM, IN A SANDBOX (cutbox-door.mjs). By AI agents, Wed Nov 11 2026. No macro, syntax, notation, axiom, sorry.
-/
import Derived.Test.YtoankokkdmbjmaaDoorRows
import GoSem.ClaimSeven
namespace Go.Proofs.YtoankokkdmbjmaaDoor
namespace Rows

/-- THE TIED CARD OF 'strongroomlaw25.FrameNeeds'. -/
def frameNeedsCard : Claim7 := { stood := { row := frameNeedsRow, standIns := [], harness := (true, "e9bc444a9c35ad318d51e270f734c5eed80d77c1af19b6f031e5ce7f99efee5a"), looks := false }, kinds := [], alts := [], laidByText := true, laidKinds := [.data, .pinned], laidTests := true, laidLooks := .later }
def FrameNeedsCardSaid : Prop := Claim7.holds Tryd.pinned (.plain (OpenSpec.ofChange frameNeedsSpec)) frameNeedsCard

/-- THE TIED CARD OF 'strongroomlaw25.FrameReplies'. -/
def frameRepliesCard : Claim7 := { stood := { row := frameRepliesRow, standIns := [], harness := (true, "e9bc444a9c35ad318d51e270f734c5eed80d77c1af19b6f031e5ce7f99efee5a"), looks := false }, kinds := [], alts := [], laidByText := true, laidKinds := [.data, .pinned], laidTests := true, laidLooks := .later }
def FrameRepliesCardSaid : Prop := Claim7.holds Tryd.pinned (.plain (OpenSpec.ofChange frameRepliesSpec)) frameRepliesCard

/-- THE TIED CARD OF 'strongroomlaw25.FrameRequests'. -/
def frameRequestsCard : Claim7 := { stood := { row := frameRequestsRow, standIns := [], harness := (true, "e9bc444a9c35ad318d51e270f734c5eed80d77c1af19b6f031e5ce7f99efee5a"), looks := false }, kinds := [], alts := [], laidByText := true, laidKinds := [.data, .pinned], laidTests := true, laidLooks := .later }
def FrameRequestsCardSaid : Prop := Claim7.holds Tryd.pinned (.plain (OpenSpec.ofChange frameRequestsSpec)) frameRequestsCard

/-- THE TIED CARD OF 'strongroomlaw25.FrameReads'. -/
def frameReadsCard : Claim7 := { stood := { row := frameReadsRow, standIns := [], harness := (true, "e9bc444a9c35ad318d51e270f734c5eed80d77c1af19b6f031e5ce7f99efee5a"), looks := false }, kinds := [], alts := [], laidByText := true, laidKinds := [.data, .pinned], laidTests := true, laidLooks := .later }
def FrameReadsCardSaid : Prop := Claim7.holds Tryd.pinned (.plain (OpenSpec.ofChange frameReadsSpec)) frameReadsCard

/-- THE TIED CARD OF 'strongroomlaw25.FrameCuts'. -/
def frameCutsCard : Claim7 := { stood := { row := frameCutsRow, standIns := [], harness := (true, "e9bc444a9c35ad318d51e270f734c5eed80d77c1af19b6f031e5ce7f99efee5a"), looks := false }, kinds := [], alts := [], laidByText := true, laidKinds := [.data, .pinned], laidTests := true, laidLooks := .later }
def FrameCutsCardSaid : Prop := Claim7.holds Tryd.pinned (.plain (OpenSpec.ofChange frameCutsSpec)) frameCutsCard

/-- THE TIED CARD OF 'strongroomlaw25.FrameWraps'. -/
def frameWrapsCard : Claim7 := { stood := { row := frameWrapsRow, standIns := [], harness := (true, "e9bc444a9c35ad318d51e270f734c5eed80d77c1af19b6f031e5ce7f99efee5a"), looks := false }, kinds := [], alts := [], laidByText := true, laidKinds := [.data, .pinned], laidTests := true, laidLooks := .later }
def FrameWrapsCardSaid : Prop := Claim7.holds Tryd.pinned (.plain (OpenSpec.ofChange frameWrapsSpec)) frameWrapsCard

/-- THE SECOND FORM's CARD OF 'strongroomlaw25.FrameNeeds'. -/
def frameNeedsUptoCard : Claim7 := { stood := { row := frameNeedsUptoRow, standIns := [], harness := (true, "e9bc444a9c35ad318d51e270f734c5eed80d77c1af19b6f031e5ce7f99efee5a"), looks := false }, kinds := [], alts := [], laidByText := true, laidKinds := [.data, .pinned], laidTests := true, laidLooks := .later }
def FrameNeedsUptoCardSaid : Prop := Claim7.holds Tryd.pinned (.plain (OpenSpec.upto frameNeedsSpec)) frameNeedsUptoCard

/-- THE SECOND FORM's CARD OF 'strongroomlaw25.FrameReplies'. -/
def frameRepliesUptoCard : Claim7 := { stood := { row := frameRepliesUptoRow, standIns := [], harness := (true, "e9bc444a9c35ad318d51e270f734c5eed80d77c1af19b6f031e5ce7f99efee5a"), looks := false }, kinds := [], alts := [], laidByText := true, laidKinds := [.data, .pinned], laidTests := true, laidLooks := .later }
def FrameRepliesUptoCardSaid : Prop := Claim7.holds Tryd.pinned (.plain (OpenSpec.upto frameRepliesSpec)) frameRepliesUptoCard

/-- THE SECOND FORM's CARD OF 'strongroomlaw25.FrameRequests'. -/
def frameRequestsUptoCard : Claim7 := { stood := { row := frameRequestsUptoRow, standIns := [], harness := (true, "e9bc444a9c35ad318d51e270f734c5eed80d77c1af19b6f031e5ce7f99efee5a"), looks := false }, kinds := [], alts := [], laidByText := true, laidKinds := [.data, .pinned], laidTests := true, laidLooks := .later }
def FrameRequestsUptoCardSaid : Prop := Claim7.holds Tryd.pinned (.plain (OpenSpec.upto frameRequestsSpec)) frameRequestsUptoCard

/-- THE SECOND FORM's CARD OF 'strongroomlaw25.FrameReads'. -/
def frameReadsUptoCard : Claim7 := { stood := { row := frameReadsUptoRow, standIns := [], harness := (true, "e9bc444a9c35ad318d51e270f734c5eed80d77c1af19b6f031e5ce7f99efee5a"), looks := false }, kinds := [], alts := [], laidByText := true, laidKinds := [.data, .pinned], laidTests := true, laidLooks := .later }
def FrameReadsUptoCardSaid : Prop := Claim7.holds Tryd.pinned (.plain (OpenSpec.upto frameReadsSpec)) frameReadsUptoCard

/-- THE SECOND FORM's CARD OF 'strongroomlaw25.FrameCuts'. -/
def frameCutsUptoCard : Claim7 := { stood := { row := frameCutsUptoRow, standIns := [], harness := (true, "e9bc444a9c35ad318d51e270f734c5eed80d77c1af19b6f031e5ce7f99efee5a"), looks := false }, kinds := [], alts := [], laidByText := true, laidKinds := [.data, .pinned], laidTests := true, laidLooks := .later }
def FrameCutsUptoCardSaid : Prop := Claim7.holds Tryd.pinned (.plain (OpenSpec.upto frameCutsSpec)) frameCutsUptoCard

/-- THE SECOND FORM's CARD OF 'strongroomlaw25.FrameWraps'. -/
def frameWrapsUptoCard : Claim7 := { stood := { row := frameWrapsUptoRow, standIns := [], harness := (true, "e9bc444a9c35ad318d51e270f734c5eed80d77c1af19b6f031e5ce7f99efee5a"), looks := false }, kinds := [], alts := [], laidByText := true, laidKinds := [.data, .pinned], laidTests := true, laidLooks := .later }
def FrameWrapsUptoCardSaid : Prop := Claim7.holds Tryd.pinned (.plain (OpenSpec.upto frameWrapsSpec)) frameWrapsUptoCard
end Rows
end Go.Proofs.YtoankokkdmbjmaaDoor
