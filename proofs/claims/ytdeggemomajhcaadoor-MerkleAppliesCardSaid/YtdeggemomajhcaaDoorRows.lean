/-
  NARROWER THAN 'FOR EVERY INPUT', by the rows' own cells (each row's printed sentence says how): MerkleDigests: laid · MerkleProves: laid · MerkleVerifies: laid · MerkleShows: laid · MerkleMissing: laid · MerkleDiffs: laid · MerkleApplies: laid · MerkleAbsent: laid.
  DERIVED. THE GIVEN ROWS OF THIS SEAT. 8 by the template 'for every input the law returns true; each argument reads behind the call as it read before'; 0 by the template 'total and deterministic' (their statements: YtdeggemomajhcaaDoorTotals.lean).
  GIVEN WITH THE SEED: the statements are not yours to turn. If you find one false, say at which input.
  Laid BY PROGRAM, IN A SANDBOX (cutbox-rows.mjs): the forced cells as the released guide's own fill.sh prints them over the translation cbbe6f70c07b6ee2… (all of the seat's roots in one cut). By AI agents, Wed Nov 11 2026. No macro, syntax, notation, axiom, sorry.
-/
import Derived.Test.YtdeggemomajhcaaDoorChecked
import GoSem.PinnedTables
import GoSem.Claim
import GoSem.ClaimJoined
import GoSem.ClaimMapViews
import Derived.JoinedTies
import Derived.KernelRfl
namespace Go.Proofs.YtdeggemomajhcaaDoor
/- THE CELL 'sum', in the pinned program and in every row, IS THE sha256 OF THE DUMP (.gsa) THAT YtdeggemomajhcaaDoorProg.lean LOADS. Nothing in Lean hashes anything: it is a label: what it is worth is what the hold of that sum in a sandbox is worth. -/
noncomputable def Tryd.pinned : Pinned := { name := "ytdeggemomajhcaadoor", sum := "cbbe6f70c07b6ee2f1ebf0001b2d71e4e3677ed41387c05cdf708a0d51fc76b6", checked := Tryd.checked }
namespace Rows
def none {H : Type} : Left H := { results := [], args := [] }

/- WHAT THE LISTED PACKAGE-LEVEL VARIABLES READ AS WHEN THE CALL BEGINS. Each datum BY PROGRAM (the guide's laid-datum.mjs) off the statement by which the dump's own 'gosem.cut.vars' lays the variable. In a bare row this is a premise. The card (YtdeggemomajhcaaDoorCards.lean) ties it to the program's text. -/
def laid_unicode_utf8_acceptRanges {H : Type} : DataW H := .agg [.agg [.lit (.int .u8 128), .lit (.int .u8 191)], .agg [.lit (.int .u8 160), .lit (.int .u8 191)], .agg [.lit (.int .u8 128), .lit (.int .u8 159)], .agg [.lit (.int .u8 144), .lit (.int .u8 191)], .agg [.lit (.int .u8 128), .lit (.int .u8 143)], .agg [.lit (.int .u8 0), .lit (.int .u8 0)], .agg [.lit (.int .u8 0), .lit (.int .u8 0)], .agg [.lit (.int .u8 0), .lit (.int .u8 0)], .agg [.lit (.int .u8 0), .lit (.int .u8 0)], .agg [.lit (.int .u8 0), .lit (.int .u8 0)], .agg [.lit (.int .u8 0), .lit (.int .u8 0)], .agg [.lit (.int .u8 0), .lit (.int .u8 0)], .agg [.lit (.int .u8 0), .lit (.int .u8 0)], .agg [.lit (.int .u8 0), .lit (.int .u8 0)], .agg [.lit (.int .u8 0), .lit (.int .u8 0)], .agg [.lit (.int .u8 0), .lit (.int .u8 0)]]
/-- One of Go's own tables, pinned by name: the form's constant. -/
def laid_unicode_utf8_first : DataW Unit := Go.Pinned.utf8First

/-- 'strongroomlaw20.MerkleDigests': WHATEVER THE INPUT: true; the input reads as it did. -/
def merkleDigestsSpec : ChangeSpec := { name := "merkleDigests", fn := fun _ => fun
  | [d] => { results := [.lit (.bool true)], args := [d] }
  | _ => none }
def merkleDigestsRow : OpenClaim := { program := "ytdeggemomajhcaadoor", sum := "cbbe6f70c07b6ee2f1ebf0001b2d71e4e3677ed41387c05cdf708a0d51fc76b6", func := "strongroom/strongroomlaw20.MerkleDigests", spec := "merkleDigests", inPlace := ["internal/bytealg.CountString", "internal/bytealg.IndexByteString", "internal/bytealg.IndexString", "math/bits.Add64"], recurses := true, named := ["unicode/utf8.first", "unicode/utf8.acceptRanges", "internal/bytealg.MaxLen"], apart := false, laid := [("unicode/utf8.acceptRanges", laid_unicode_utf8_acceptRanges), ("unicode/utf8.first", laid_unicode_utf8_first)] }
def MerkleDigestsSaid : Prop := merkleDigestsRow.holds Tryd.pinned (OpenSpec.ofChange merkleDigestsSpec)

/-- ITS FALSE NEIGHBOUR: 'it returns false'. Refute it at one input. -/
def merkleDigestsWrong : ChangeSpec := { name := "merkleDigests", fn := fun _ => fun
  | [d] => { results := [.lit (.bool false)], args := [d] }
  | _ => none }
def MerkleDigestsWrongFalsely : Prop := merkleDigestsRow.holds Tryd.pinned (OpenSpec.ofChange merkleDigestsWrong)

/-- 'strongroomlaw20.MerkleProves': WHATEVER THE INPUT: true; the input reads as it did. -/
def merkleProvesSpec : ChangeSpec := { name := "merkleProves", fn := fun _ => fun
  | [d1, d2] => { results := [.lit (.bool true)], args := [d1, d2] }
  | _ => none }
def merkleProvesRow : OpenClaim := { program := "ytdeggemomajhcaadoor", sum := "cbbe6f70c07b6ee2f1ebf0001b2d71e4e3677ed41387c05cdf708a0d51fc76b6", func := "strongroom/strongroomlaw20.MerkleProves", spec := "merkleProves", inPlace := ["internal/bytealg.CountString", "internal/bytealg.IndexByteString", "internal/bytealg.IndexString", "math/bits.Add64"], recurses := true, named := ["unicode/utf8.first", "unicode/utf8.acceptRanges", "internal/bytealg.MaxLen"], apart := false, laid := [("unicode/utf8.acceptRanges", laid_unicode_utf8_acceptRanges), ("unicode/utf8.first", laid_unicode_utf8_first)] }
def MerkleProvesSaid : Prop := merkleProvesRow.holds Tryd.pinned (OpenSpec.ofChange merkleProvesSpec)

/-- ITS FALSE NEIGHBOUR: 'it returns false'. Refute it at one input. -/
def merkleProvesWrong : ChangeSpec := { name := "merkleProves", fn := fun _ => fun
  | [d1, d2] => { results := [.lit (.bool false)], args := [d1, d2] }
  | _ => none }
def MerkleProvesWrongFalsely : Prop := merkleProvesRow.holds Tryd.pinned (OpenSpec.ofChange merkleProvesWrong)

/-- 'strongroomlaw20.MerkleVerifies': WHATEVER THE INPUT: true; the input reads as it did. -/
def merkleVerifiesSpec : ChangeSpec := { name := "merkleVerifies", fn := fun _ => fun
  | [d] => { results := [.lit (.bool true)], args := [d] }
  | _ => none }
def merkleVerifiesRow : OpenClaim := { program := "ytdeggemomajhcaadoor", sum := "cbbe6f70c07b6ee2f1ebf0001b2d71e4e3677ed41387c05cdf708a0d51fc76b6", func := "strongroom/strongroomlaw20.MerkleVerifies", spec := "merkleVerifies", inPlace := ["internal/bytealg.CountString", "internal/bytealg.IndexByteString", "internal/bytealg.IndexString", "math/bits.Add64"], recurses := true, named := ["unicode/utf8.first", "unicode/utf8.acceptRanges", "internal/bytealg.MaxLen"], apart := false, laid := [("unicode/utf8.acceptRanges", laid_unicode_utf8_acceptRanges), ("unicode/utf8.first", laid_unicode_utf8_first)] }
def MerkleVerifiesSaid : Prop := merkleVerifiesRow.holds Tryd.pinned (OpenSpec.ofChange merkleVerifiesSpec)

/-- ITS FALSE NEIGHBOUR: 'it returns false'. Refute it at one input. -/
def merkleVerifiesWrong : ChangeSpec := { name := "merkleVerifies", fn := fun _ => fun
  | [d] => { results := [.lit (.bool false)], args := [d] }
  | _ => none }
def MerkleVerifiesWrongFalsely : Prop := merkleVerifiesRow.holds Tryd.pinned (OpenSpec.ofChange merkleVerifiesWrong)

/-- 'strongroomlaw20.MerkleShows': WHATEVER THE INPUT: true; the input reads as it did. -/
def merkleShowsSpec : ChangeSpec := { name := "merkleShows", fn := fun _ => fun
  | [d1, d2] => { results := [.lit (.bool true)], args := [d1, d2] }
  | _ => none }
def merkleShowsRow : OpenClaim := { program := "ytdeggemomajhcaadoor", sum := "cbbe6f70c07b6ee2f1ebf0001b2d71e4e3677ed41387c05cdf708a0d51fc76b6", func := "strongroom/strongroomlaw20.MerkleShows", spec := "merkleShows", inPlace := ["internal/bytealg.CountString", "internal/bytealg.IndexByteString", "internal/bytealg.IndexString", "math/bits.Add64"], recurses := true, named := ["unicode/utf8.first", "unicode/utf8.acceptRanges", "internal/bytealg.MaxLen"], apart := false, laid := [("unicode/utf8.acceptRanges", laid_unicode_utf8_acceptRanges), ("unicode/utf8.first", laid_unicode_utf8_first)] }
def MerkleShowsSaid : Prop := merkleShowsRow.holds Tryd.pinned (OpenSpec.ofChange merkleShowsSpec)

/-- ITS FALSE NEIGHBOUR: 'it returns false'. Refute it at one input. -/
def merkleShowsWrong : ChangeSpec := { name := "merkleShows", fn := fun _ => fun
  | [d1, d2] => { results := [.lit (.bool false)], args := [d1, d2] }
  | _ => none }
def MerkleShowsWrongFalsely : Prop := merkleShowsRow.holds Tryd.pinned (OpenSpec.ofChange merkleShowsWrong)

/-- 'strongroomlaw20.MerkleMissing': WHATEVER THE INPUT: true; the input reads as it did. -/
def merkleMissingSpec : ChangeSpec := { name := "merkleMissing", fn := fun _ => fun
  | [d] => { results := [.lit (.bool true)], args := [d] }
  | _ => none }
def merkleMissingRow : OpenClaim := { program := "ytdeggemomajhcaadoor", sum := "cbbe6f70c07b6ee2f1ebf0001b2d71e4e3677ed41387c05cdf708a0d51fc76b6", func := "strongroom/strongroomlaw20.MerkleMissing", spec := "merkleMissing", inPlace := ["internal/bytealg.CountString", "internal/bytealg.IndexByteString", "internal/bytealg.IndexString", "math/bits.Add64"], recurses := true, named := ["unicode/utf8.first", "unicode/utf8.acceptRanges", "internal/bytealg.MaxLen"], apart := false, laid := [("unicode/utf8.acceptRanges", laid_unicode_utf8_acceptRanges), ("unicode/utf8.first", laid_unicode_utf8_first)] }
def MerkleMissingSaid : Prop := merkleMissingRow.holds Tryd.pinned (OpenSpec.ofChange merkleMissingSpec)

/-- ITS FALSE NEIGHBOUR: 'it returns false'. Refute it at one input. -/
def merkleMissingWrong : ChangeSpec := { name := "merkleMissing", fn := fun _ => fun
  | [d] => { results := [.lit (.bool false)], args := [d] }
  | _ => none }
def MerkleMissingWrongFalsely : Prop := merkleMissingRow.holds Tryd.pinned (OpenSpec.ofChange merkleMissingWrong)

/-- 'strongroomlaw20.MerkleDiffs': WHATEVER THE INPUT: true; the input reads as it did. -/
def merkleDiffsSpec : ChangeSpec := { name := "merkleDiffs", fn := fun _ => fun
  | [d1, d2] => { results := [.lit (.bool true)], args := [d1, d2] }
  | _ => none }
def merkleDiffsRow : OpenClaim := { program := "ytdeggemomajhcaadoor", sum := "cbbe6f70c07b6ee2f1ebf0001b2d71e4e3677ed41387c05cdf708a0d51fc76b6", func := "strongroom/strongroomlaw20.MerkleDiffs", spec := "merkleDiffs", inPlace := ["internal/bytealg.CountString", "internal/bytealg.IndexByteString", "internal/bytealg.IndexString", "math/bits.Add64"], unfollowed := true, recurses := true, named := ["unicode/utf8.first", "unicode/utf8.acceptRanges", "internal/bytealg.MaxLen"], apart := false, laid := [("unicode/utf8.acceptRanges", laid_unicode_utf8_acceptRanges), ("unicode/utf8.first", laid_unicode_utf8_first)] }
def MerkleDiffsSaid : Prop := merkleDiffsRow.holds Tryd.pinned (OpenSpec.ofChange merkleDiffsSpec)

/-- ITS FALSE NEIGHBOUR: 'it returns false'. Refute it at one input. -/
def merkleDiffsWrong : ChangeSpec := { name := "merkleDiffs", fn := fun _ => fun
  | [d1, d2] => { results := [.lit (.bool false)], args := [d1, d2] }
  | _ => none }
def MerkleDiffsWrongFalsely : Prop := merkleDiffsRow.holds Tryd.pinned (OpenSpec.ofChange merkleDiffsWrong)

/-- 'strongroomlaw20.MerkleApplies': WHATEVER THE INPUT: true; the input reads as it did. -/
def merkleAppliesSpec : ChangeSpec := { name := "merkleApplies", fn := fun _ => fun
  | [d1, d2, d3] => { results := [.lit (.bool true)], args := [d1, d2, d3] }
  | _ => none }
def merkleAppliesRow : OpenClaim := { program := "ytdeggemomajhcaadoor", sum := "cbbe6f70c07b6ee2f1ebf0001b2d71e4e3677ed41387c05cdf708a0d51fc76b6", func := "strongroom/strongroomlaw20.MerkleApplies", spec := "merkleApplies", inPlace := ["internal/bytealg.CountString", "internal/bytealg.IndexByteString", "internal/bytealg.IndexString", "math/bits.Add64"], unfollowed := true, recurses := true, named := ["unicode/utf8.first", "unicode/utf8.acceptRanges", "internal/bytealg.MaxLen"], apart := false, laid := [("unicode/utf8.acceptRanges", laid_unicode_utf8_acceptRanges), ("unicode/utf8.first", laid_unicode_utf8_first)] }
def MerkleAppliesSaid : Prop := merkleAppliesRow.holds Tryd.pinned (OpenSpec.ofChange merkleAppliesSpec)

/-- ITS FALSE NEIGHBOUR: 'it returns false'. Refute it at one input. -/
def merkleAppliesWrong : ChangeSpec := { name := "merkleApplies", fn := fun _ => fun
  | [d1, d2, d3] => { results := [.lit (.bool false)], args := [d1, d2, d3] }
  | _ => none }
def MerkleAppliesWrongFalsely : Prop := merkleAppliesRow.holds Tryd.pinned (OpenSpec.ofChange merkleAppliesWrong)

/-- 'strongroomlaw20.MerkleAbsent': WHATEVER THE INPUT: true; the input reads as it did. -/
def merkleAbsentSpec : ChangeSpec := { name := "merkleAbsent", fn := fun _ => fun
  | [d1, d2] => { results := [.lit (.bool true)], args := [d1, d2] }
  | _ => none }
def merkleAbsentRow : OpenClaim := { program := "ytdeggemomajhcaadoor", sum := "cbbe6f70c07b6ee2f1ebf0001b2d71e4e3677ed41387c05cdf708a0d51fc76b6", func := "strongroom/strongroomlaw20.MerkleAbsent", spec := "merkleAbsent", inPlace := ["internal/bytealg.CountString", "internal/bytealg.IndexByteString", "internal/bytealg.IndexString", "math/bits.Add64"], unfollowed := true, recurses := true, named := ["unicode/utf8.first", "unicode/utf8.acceptRanges", "internal/bytealg.MaxLen"], apart := false, laid := [("unicode/utf8.acceptRanges", laid_unicode_utf8_acceptRanges), ("unicode/utf8.first", laid_unicode_utf8_first)] }
def MerkleAbsentSaid : Prop := merkleAbsentRow.holds Tryd.pinned (OpenSpec.ofChange merkleAbsentSpec)

/-- ITS FALSE NEIGHBOUR: 'it returns false'. Refute it at one input. -/
def merkleAbsentWrong : ChangeSpec := { name := "merkleAbsent", fn := fun _ => fun
  | [d1, d2] => { results := [.lit (.bool false)], args := [d1, d2] }
  | _ => none }
def MerkleAbsentWrongFalsely : Prop := merkleAbsentRow.holds Tryd.pinned (OpenSpec.ofChange merkleAbsentWrong)

/- THE SECOND FORM. 'bulk': how many values and letters a reading holds, each counted each time it is reached (what is shared counts as often as it is met; a slice's spare places count too). A statement '..UptoSaid' is the law's where the arguments, and the package variables that the reading takes, are together of bulk at most 1048576: NARROWER than '..Said'. Prove '..Said' where nothing that the law and all that it calls make is longer than what came in: it says more and counts as full. Else prove '..UptoSaid'. A law counts once. -/
mutual
def uptoBulk {H : Type} : DataW H → Nat
  | .lit (.string bytes) => bytes.length + 1
  | .lit _ => 1
  | .nil => 1
  | .ptr d => uptoBulk d + 1
  | .slice elems spare => uptoBulkAll elems + uptoBulkAll spare + 1
  | .agg parts => uptoBulkAll parts + 1
  | .iface _ d => uptoBulk d + 1
  | .map entries => uptoBulkEntries entries + 1
  | .held _ => 1
def uptoBulkAll {H : Type} : List (DataW H) → Nat
  | [] => 0
  | d :: r => uptoBulk d + uptoBulkAll r
def uptoBulkEntries {H : Type} : List (Lit × DataW H) → Nat
  | [] => 0
  | x :: r => uptoBulkEntry x + uptoBulkEntries r
def uptoBulkEntry {H : Type} : Lit × DataW H → Nat
  | (.string bytes, d) => bytes.length + uptoBulk d + 1
  | (_, d) => uptoBulk d + 1
 end
def uptoSmall : (H : Type) → List (DataW H) → Bool := fun _ ds => decide (uptoBulkAll ds ≤ 1048576)
def OpenSpec.upto (s : _root_.Go.ChangeSpec) : _root_.Go.OpenSpec := { _root_.Go.OpenSpec.ofChange s with cond := some uptoSmall }

/-- 'strongroomlaw20.MerkleDigests', WHERE WHAT IT READS IS OF BULK AT MOST 1048576: true; the input reads as it did. -/
def merkleDigestsUptoRow : OpenClaim := { program := "ytdeggemomajhcaadoor", sum := "cbbe6f70c07b6ee2f1ebf0001b2d71e4e3677ed41387c05cdf708a0d51fc76b6", func := "strongroom/strongroomlaw20.MerkleDigests", spec := "merkleDigests", inPlace := ["internal/bytealg.CountString", "internal/bytealg.IndexByteString", "internal/bytealg.IndexString", "math/bits.Add64"], recurses := true, named := ["unicode/utf8.first", "unicode/utf8.acceptRanges", "internal/bytealg.MaxLen"], apart := false, laid := [("unicode/utf8.acceptRanges", laid_unicode_utf8_acceptRanges), ("unicode/utf8.first", laid_unicode_utf8_first)], narrowed := true }
def MerkleDigestsUptoSaid : Prop := merkleDigestsUptoRow.holds Tryd.pinned (OpenSpec.upto merkleDigestsSpec)

/-- 'strongroomlaw20.MerkleProves', WHERE WHAT IT READS IS OF BULK AT MOST 1048576: true; the input reads as it did. -/
def merkleProvesUptoRow : OpenClaim := { program := "ytdeggemomajhcaadoor", sum := "cbbe6f70c07b6ee2f1ebf0001b2d71e4e3677ed41387c05cdf708a0d51fc76b6", func := "strongroom/strongroomlaw20.MerkleProves", spec := "merkleProves", inPlace := ["internal/bytealg.CountString", "internal/bytealg.IndexByteString", "internal/bytealg.IndexString", "math/bits.Add64"], recurses := true, named := ["unicode/utf8.first", "unicode/utf8.acceptRanges", "internal/bytealg.MaxLen"], apart := false, laid := [("unicode/utf8.acceptRanges", laid_unicode_utf8_acceptRanges), ("unicode/utf8.first", laid_unicode_utf8_first)], narrowed := true }
def MerkleProvesUptoSaid : Prop := merkleProvesUptoRow.holds Tryd.pinned (OpenSpec.upto merkleProvesSpec)

/-- 'strongroomlaw20.MerkleVerifies', WHERE WHAT IT READS IS OF BULK AT MOST 1048576: true; the input reads as it did. -/
def merkleVerifiesUptoRow : OpenClaim := { program := "ytdeggemomajhcaadoor", sum := "cbbe6f70c07b6ee2f1ebf0001b2d71e4e3677ed41387c05cdf708a0d51fc76b6", func := "strongroom/strongroomlaw20.MerkleVerifies", spec := "merkleVerifies", inPlace := ["internal/bytealg.CountString", "internal/bytealg.IndexByteString", "internal/bytealg.IndexString", "math/bits.Add64"], recurses := true, named := ["unicode/utf8.first", "unicode/utf8.acceptRanges", "internal/bytealg.MaxLen"], apart := false, laid := [("unicode/utf8.acceptRanges", laid_unicode_utf8_acceptRanges), ("unicode/utf8.first", laid_unicode_utf8_first)], narrowed := true }
def MerkleVerifiesUptoSaid : Prop := merkleVerifiesUptoRow.holds Tryd.pinned (OpenSpec.upto merkleVerifiesSpec)

/-- 'strongroomlaw20.MerkleShows', WHERE WHAT IT READS IS OF BULK AT MOST 1048576: true; the input reads as it did. -/
def merkleShowsUptoRow : OpenClaim := { program := "ytdeggemomajhcaadoor", sum := "cbbe6f70c07b6ee2f1ebf0001b2d71e4e3677ed41387c05cdf708a0d51fc76b6", func := "strongroom/strongroomlaw20.MerkleShows", spec := "merkleShows", inPlace := ["internal/bytealg.CountString", "internal/bytealg.IndexByteString", "internal/bytealg.IndexString", "math/bits.Add64"], recurses := true, named := ["unicode/utf8.first", "unicode/utf8.acceptRanges", "internal/bytealg.MaxLen"], apart := false, laid := [("unicode/utf8.acceptRanges", laid_unicode_utf8_acceptRanges), ("unicode/utf8.first", laid_unicode_utf8_first)], narrowed := true }
def MerkleShowsUptoSaid : Prop := merkleShowsUptoRow.holds Tryd.pinned (OpenSpec.upto merkleShowsSpec)

/-- 'strongroomlaw20.MerkleMissing', WHERE WHAT IT READS IS OF BULK AT MOST 1048576: true; the input reads as it did. -/
def merkleMissingUptoRow : OpenClaim := { program := "ytdeggemomajhcaadoor", sum := "cbbe6f70c07b6ee2f1ebf0001b2d71e4e3677ed41387c05cdf708a0d51fc76b6", func := "strongroom/strongroomlaw20.MerkleMissing", spec := "merkleMissing", inPlace := ["internal/bytealg.CountString", "internal/bytealg.IndexByteString", "internal/bytealg.IndexString", "math/bits.Add64"], recurses := true, named := ["unicode/utf8.first", "unicode/utf8.acceptRanges", "internal/bytealg.MaxLen"], apart := false, laid := [("unicode/utf8.acceptRanges", laid_unicode_utf8_acceptRanges), ("unicode/utf8.first", laid_unicode_utf8_first)], narrowed := true }
def MerkleMissingUptoSaid : Prop := merkleMissingUptoRow.holds Tryd.pinned (OpenSpec.upto merkleMissingSpec)

/-- 'strongroomlaw20.MerkleDiffs', WHERE WHAT IT READS IS OF BULK AT MOST 1048576: true; the input reads as it did. -/
def merkleDiffsUptoRow : OpenClaim := { program := "ytdeggemomajhcaadoor", sum := "cbbe6f70c07b6ee2f1ebf0001b2d71e4e3677ed41387c05cdf708a0d51fc76b6", func := "strongroom/strongroomlaw20.MerkleDiffs", spec := "merkleDiffs", inPlace := ["internal/bytealg.CountString", "internal/bytealg.IndexByteString", "internal/bytealg.IndexString", "math/bits.Add64"], unfollowed := true, recurses := true, named := ["unicode/utf8.first", "unicode/utf8.acceptRanges", "internal/bytealg.MaxLen"], apart := false, laid := [("unicode/utf8.acceptRanges", laid_unicode_utf8_acceptRanges), ("unicode/utf8.first", laid_unicode_utf8_first)], narrowed := true }
def MerkleDiffsUptoSaid : Prop := merkleDiffsUptoRow.holds Tryd.pinned (OpenSpec.upto merkleDiffsSpec)

/-- 'strongroomlaw20.MerkleApplies', WHERE WHAT IT READS IS OF BULK AT MOST 1048576: true; the input reads as it did. -/
def merkleAppliesUptoRow : OpenClaim := { program := "ytdeggemomajhcaadoor", sum := "cbbe6f70c07b6ee2f1ebf0001b2d71e4e3677ed41387c05cdf708a0d51fc76b6", func := "strongroom/strongroomlaw20.MerkleApplies", spec := "merkleApplies", inPlace := ["internal/bytealg.CountString", "internal/bytealg.IndexByteString", "internal/bytealg.IndexString", "math/bits.Add64"], unfollowed := true, recurses := true, named := ["unicode/utf8.first", "unicode/utf8.acceptRanges", "internal/bytealg.MaxLen"], apart := false, laid := [("unicode/utf8.acceptRanges", laid_unicode_utf8_acceptRanges), ("unicode/utf8.first", laid_unicode_utf8_first)], narrowed := true }
def MerkleAppliesUptoSaid : Prop := merkleAppliesUptoRow.holds Tryd.pinned (OpenSpec.upto merkleAppliesSpec)

/-- 'strongroomlaw20.MerkleAbsent', WHERE WHAT IT READS IS OF BULK AT MOST 1048576: true; the input reads as it did. -/
def merkleAbsentUptoRow : OpenClaim := { program := "ytdeggemomajhcaadoor", sum := "cbbe6f70c07b6ee2f1ebf0001b2d71e4e3677ed41387c05cdf708a0d51fc76b6", func := "strongroom/strongroomlaw20.MerkleAbsent", spec := "merkleAbsent", inPlace := ["internal/bytealg.CountString", "internal/bytealg.IndexByteString", "internal/bytealg.IndexString", "math/bits.Add64"], unfollowed := true, recurses := true, named := ["unicode/utf8.first", "unicode/utf8.acceptRanges", "internal/bytealg.MaxLen"], apart := false, laid := [("unicode/utf8.acceptRanges", laid_unicode_utf8_acceptRanges), ("unicode/utf8.first", laid_unicode_utf8_first)], narrowed := true }
def MerkleAbsentUptoSaid : Prop := merkleAbsentUptoRow.holds Tryd.pinned (OpenSpec.upto merkleAbsentSpec)

end Rows
end Go.Proofs.YtdeggemomajhcaaDoor
