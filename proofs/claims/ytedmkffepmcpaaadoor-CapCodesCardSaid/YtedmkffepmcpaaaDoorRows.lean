/-
  NARROWER THAN 'FOR EVERY INPUT', by the rows' own cells (each row's printed sentence says how): CapMints: laid · CapNarrows: laid · CapChecks: laid · CapLess: laid · CapLets: laid · CapMeets: laid · CapCodes: laid.
  DERIVED. THE GIVEN ROWS OF THIS SEAT. 7 by the template 'for every input the law returns true; each argument reads behind the call as it read before'; 0 by the template 'total and deterministic' (their statements: YtedmkffepmcpaaaDoorTotals.lean).
  GIVEN WITH THE SEED: the statements are not yours to turn. If you find one false, say at which input.
  Laid BY PROGRAM, IN A SANDBOX (cutbox-rows.mjs): the forced cells as the released guide's own fill.sh prints them over the translation f358f1915302d045… (all of the seat's roots in one cut). By AI agents, Wed Nov 11 2026. No macro, syntax, notation, axiom, sorry.
-/
import Derived.Test.YtedmkffepmcpaaaDoorChecked
import GoSem.PinnedTables
import GoSem.Claim
import GoSem.ClaimJoined
import GoSem.ClaimMapViews
import Derived.JoinedTies
import Derived.KernelRfl
namespace Go.Proofs.YtedmkffepmcpaaaDoor
/- THE CELL 'sum', in the pinned program and in every row, IS THE sha256 OF THE DUMP (.gsa) THAT YtedmkffepmcpaaaDoorProg.lean LOADS. Nothing in Lean hashes anything: it is a label: what it is worth is what the hold of that sum in a sandbox is worth. -/
noncomputable def Tryd.pinned : Pinned := { name := "ytedmkffepmcpaaadoor", sum := "f358f1915302d0458df4941b37f34fc122c28178bb9e7d901d223bbeaf544bfe", checked := Tryd.checked }
namespace Rows
def none {H : Type} : Left H := { results := [], args := [] }

/- WHAT THE LISTED PACKAGE-LEVEL VARIABLES READ AS WHEN THE CALL BEGINS. Each datum BY PROGRAM (the guide's laid-datum.mjs) off the statement by which the dump's own 'gosem.cut.vars' lays the variable. In a bare row this is a premise. The card (YtedmkffepmcpaaaDoorCards.lean) ties it to the program's text. -/
def laid_unicode_utf8_acceptRanges {H : Type} : DataW H := .agg [.agg [.lit (.int .u8 128), .lit (.int .u8 191)], .agg [.lit (.int .u8 160), .lit (.int .u8 191)], .agg [.lit (.int .u8 128), .lit (.int .u8 159)], .agg [.lit (.int .u8 144), .lit (.int .u8 191)], .agg [.lit (.int .u8 128), .lit (.int .u8 143)], .agg [.lit (.int .u8 0), .lit (.int .u8 0)], .agg [.lit (.int .u8 0), .lit (.int .u8 0)], .agg [.lit (.int .u8 0), .lit (.int .u8 0)], .agg [.lit (.int .u8 0), .lit (.int .u8 0)], .agg [.lit (.int .u8 0), .lit (.int .u8 0)], .agg [.lit (.int .u8 0), .lit (.int .u8 0)], .agg [.lit (.int .u8 0), .lit (.int .u8 0)], .agg [.lit (.int .u8 0), .lit (.int .u8 0)], .agg [.lit (.int .u8 0), .lit (.int .u8 0)], .agg [.lit (.int .u8 0), .lit (.int .u8 0)], .agg [.lit (.int .u8 0), .lit (.int .u8 0)]]
/-- One of Go's own tables, pinned by name: the form's constant. -/
def laid_unicode_utf8_first : DataW Unit := Go.Pinned.utf8First

/-- 'strongroomlaw12.CapMints': WHATEVER THE INPUT: true; the input reads as it did. -/
def capMintsSpec : ChangeSpec := { name := "capMints", fn := fun _ => fun
  | [d1, d2, d3] => { results := [.lit (.bool true)], args := [d1, d2, d3] }
  | _ => none }
def capMintsRow : OpenClaim := { program := "ytedmkffepmcpaaadoor", sum := "f358f1915302d0458df4941b37f34fc122c28178bb9e7d901d223bbeaf544bfe", func := "strongroom/strongroomlaw12.CapMints", spec := "capMints", inPlace := ["math/bits.Add64", "internal/bytealg.CountString", "internal/bytealg.IndexByteString", "internal/bytealg.IndexString"], recurses := true, named := ["unicode/utf8.first", "unicode/utf8.acceptRanges", "internal/bytealg.MaxLen"], apart := false, laid := [("unicode/utf8.acceptRanges", laid_unicode_utf8_acceptRanges), ("unicode/utf8.first", laid_unicode_utf8_first)] }
def CapMintsSaid : Prop := capMintsRow.holds Tryd.pinned (OpenSpec.ofChange capMintsSpec)

/-- ITS FALSE NEIGHBOUR: 'it returns false'. Refute it at one input. -/
def capMintsWrong : ChangeSpec := { name := "capMints", fn := fun _ => fun
  | [d1, d2, d3] => { results := [.lit (.bool false)], args := [d1, d2, d3] }
  | _ => none }
def CapMintsWrongFalsely : Prop := capMintsRow.holds Tryd.pinned (OpenSpec.ofChange capMintsWrong)

/-- 'strongroomlaw12.CapNarrows': WHATEVER THE INPUT: true; the input reads as it did. -/
def capNarrowsSpec : ChangeSpec := { name := "capNarrows", fn := fun _ => fun
  | [d1, d2] => { results := [.lit (.bool true)], args := [d1, d2] }
  | _ => none }
def capNarrowsRow : OpenClaim := { program := "ytedmkffepmcpaaadoor", sum := "f358f1915302d0458df4941b37f34fc122c28178bb9e7d901d223bbeaf544bfe", func := "strongroom/strongroomlaw12.CapNarrows", spec := "capNarrows", inPlace := ["math/bits.Add64", "internal/bytealg.CountString", "internal/bytealg.IndexByteString", "internal/bytealg.IndexString"], recurses := true, named := ["unicode/utf8.first", "unicode/utf8.acceptRanges", "internal/bytealg.MaxLen"], apart := false, laid := [("unicode/utf8.acceptRanges", laid_unicode_utf8_acceptRanges), ("unicode/utf8.first", laid_unicode_utf8_first)] }
def CapNarrowsSaid : Prop := capNarrowsRow.holds Tryd.pinned (OpenSpec.ofChange capNarrowsSpec)

/-- ITS FALSE NEIGHBOUR: 'it returns false'. Refute it at one input. -/
def capNarrowsWrong : ChangeSpec := { name := "capNarrows", fn := fun _ => fun
  | [d1, d2] => { results := [.lit (.bool false)], args := [d1, d2] }
  | _ => none }
def CapNarrowsWrongFalsely : Prop := capNarrowsRow.holds Tryd.pinned (OpenSpec.ofChange capNarrowsWrong)

/-- 'strongroomlaw12.CapChecks': WHATEVER THE INPUT: true; the input reads as it did. -/
def capChecksSpec : ChangeSpec := { name := "capChecks", fn := fun _ => fun
  | [d1, d2, d3] => { results := [.lit (.bool true)], args := [d1, d2, d3] }
  | _ => none }
def capChecksRow : OpenClaim := { program := "ytedmkffepmcpaaadoor", sum := "f358f1915302d0458df4941b37f34fc122c28178bb9e7d901d223bbeaf544bfe", func := "strongroom/strongroomlaw12.CapChecks", spec := "capChecks", inPlace := ["math/bits.Add64", "internal/bytealg.CountString", "internal/bytealg.IndexByteString", "internal/bytealg.IndexString"], recurses := true, named := ["unicode/utf8.first", "unicode/utf8.acceptRanges", "internal/bytealg.MaxLen"], apart := false, laid := [("unicode/utf8.acceptRanges", laid_unicode_utf8_acceptRanges), ("unicode/utf8.first", laid_unicode_utf8_first)] }
def CapChecksSaid : Prop := capChecksRow.holds Tryd.pinned (OpenSpec.ofChange capChecksSpec)

/-- ITS FALSE NEIGHBOUR: 'it returns false'. Refute it at one input. -/
def capChecksWrong : ChangeSpec := { name := "capChecks", fn := fun _ => fun
  | [d1, d2, d3] => { results := [.lit (.bool false)], args := [d1, d2, d3] }
  | _ => none }
def CapChecksWrongFalsely : Prop := capChecksRow.holds Tryd.pinned (OpenSpec.ofChange capChecksWrong)

/-- 'strongroomlaw12.CapLess': WHATEVER THE INPUT: true; the input reads as it did. -/
def capLessSpec : ChangeSpec := { name := "capLess", fn := fun _ => fun
  | [d1, d2, d3] => { results := [.lit (.bool true)], args := [d1, d2, d3] }
  | _ => none }
def capLessRow : OpenClaim := { program := "ytedmkffepmcpaaadoor", sum := "f358f1915302d0458df4941b37f34fc122c28178bb9e7d901d223bbeaf544bfe", func := "strongroom/strongroomlaw12.CapLess", spec := "capLess", inPlace := ["math/bits.Add64", "internal/bytealg.CountString", "internal/bytealg.IndexByteString", "internal/bytealg.IndexString"], named := ["unicode/utf8.first", "unicode/utf8.acceptRanges", "internal/bytealg.MaxLen"], apart := false, laid := [("unicode/utf8.acceptRanges", laid_unicode_utf8_acceptRanges), ("unicode/utf8.first", laid_unicode_utf8_first)] }
def CapLessSaid : Prop := capLessRow.holds Tryd.pinned (OpenSpec.ofChange capLessSpec)

/-- ITS FALSE NEIGHBOUR: 'it returns false'. Refute it at one input. -/
def capLessWrong : ChangeSpec := { name := "capLess", fn := fun _ => fun
  | [d1, d2, d3] => { results := [.lit (.bool false)], args := [d1, d2, d3] }
  | _ => none }
def CapLessWrongFalsely : Prop := capLessRow.holds Tryd.pinned (OpenSpec.ofChange capLessWrong)

/-- 'strongroomlaw12.CapLets': WHATEVER THE INPUT: true; the input reads as it did. -/
def capLetsSpec : ChangeSpec := { name := "capLets", fn := fun _ => fun
  | [d1, d2, d3] => { results := [.lit (.bool true)], args := [d1, d2, d3] }
  | _ => none }
def capLetsRow : OpenClaim := { program := "ytedmkffepmcpaaadoor", sum := "f358f1915302d0458df4941b37f34fc122c28178bb9e7d901d223bbeaf544bfe", func := "strongroom/strongroomlaw12.CapLets", spec := "capLets", inPlace := ["math/bits.Add64", "internal/bytealg.CountString", "internal/bytealg.IndexByteString", "internal/bytealg.IndexString"], named := ["unicode/utf8.first", "unicode/utf8.acceptRanges", "internal/bytealg.MaxLen"], apart := false, laid := [("unicode/utf8.acceptRanges", laid_unicode_utf8_acceptRanges), ("unicode/utf8.first", laid_unicode_utf8_first)] }
def CapLetsSaid : Prop := capLetsRow.holds Tryd.pinned (OpenSpec.ofChange capLetsSpec)

/-- ITS FALSE NEIGHBOUR: 'it returns false'. Refute it at one input. -/
def capLetsWrong : ChangeSpec := { name := "capLets", fn := fun _ => fun
  | [d1, d2, d3] => { results := [.lit (.bool false)], args := [d1, d2, d3] }
  | _ => none }
def CapLetsWrongFalsely : Prop := capLetsRow.holds Tryd.pinned (OpenSpec.ofChange capLetsWrong)

/-- 'strongroomlaw12.CapMeets': WHATEVER THE INPUT: true; the input reads as it did. -/
def capMeetsSpec : ChangeSpec := { name := "capMeets", fn := fun _ => fun
  | [d1, d2, d3] => { results := [.lit (.bool true)], args := [d1, d2, d3] }
  | _ => none }
def capMeetsRow : OpenClaim := { program := "ytedmkffepmcpaaadoor", sum := "f358f1915302d0458df4941b37f34fc122c28178bb9e7d901d223bbeaf544bfe", func := "strongroom/strongroomlaw12.CapMeets", spec := "capMeets", inPlace := ["math/bits.Add64", "internal/bytealg.CountString", "internal/bytealg.IndexByteString", "internal/bytealg.IndexString"], named := ["unicode/utf8.first", "unicode/utf8.acceptRanges", "internal/bytealg.MaxLen"], apart := false, laid := [("unicode/utf8.acceptRanges", laid_unicode_utf8_acceptRanges), ("unicode/utf8.first", laid_unicode_utf8_first)] }
def CapMeetsSaid : Prop := capMeetsRow.holds Tryd.pinned (OpenSpec.ofChange capMeetsSpec)

/-- ITS FALSE NEIGHBOUR: 'it returns false'. Refute it at one input. -/
def capMeetsWrong : ChangeSpec := { name := "capMeets", fn := fun _ => fun
  | [d1, d2, d3] => { results := [.lit (.bool false)], args := [d1, d2, d3] }
  | _ => none }
def CapMeetsWrongFalsely : Prop := capMeetsRow.holds Tryd.pinned (OpenSpec.ofChange capMeetsWrong)

/-- 'strongroomlaw12.CapCodes': WHATEVER THE INPUT: true; the input reads as it did. -/
def capCodesSpec : ChangeSpec := { name := "capCodes", fn := fun _ => fun
  | [d1, d2, d3] => { results := [.lit (.bool true)], args := [d1, d2, d3] }
  | _ => none }
def capCodesRow : OpenClaim := { program := "ytedmkffepmcpaaadoor", sum := "f358f1915302d0458df4941b37f34fc122c28178bb9e7d901d223bbeaf544bfe", func := "strongroom/strongroomlaw12.CapCodes", spec := "capCodes", inPlace := ["math/bits.Add64", "internal/bytealg.CountString", "internal/bytealg.IndexByteString", "internal/bytealg.IndexString"], recurses := true, named := ["unicode/utf8.first", "unicode/utf8.acceptRanges", "internal/bytealg.MaxLen"], apart := false, laid := [("unicode/utf8.acceptRanges", laid_unicode_utf8_acceptRanges), ("unicode/utf8.first", laid_unicode_utf8_first)] }
def CapCodesSaid : Prop := capCodesRow.holds Tryd.pinned (OpenSpec.ofChange capCodesSpec)

/-- ITS FALSE NEIGHBOUR: 'it returns false'. Refute it at one input. -/
def capCodesWrong : ChangeSpec := { name := "capCodes", fn := fun _ => fun
  | [d1, d2, d3] => { results := [.lit (.bool false)], args := [d1, d2, d3] }
  | _ => none }
def CapCodesWrongFalsely : Prop := capCodesRow.holds Tryd.pinned (OpenSpec.ofChange capCodesWrong)

/- THE SECOND FORM. 'bulk': how many values and letters a reading holds, each counted each time it is reached (what is shared counts as often as it is met; a slice's spare places count too). A statement '..UptoSaid' is the law's where the arguments, and the package variables that the reading takes, are together of bulk at most 1048576: NARROWER than '..Said'. Prove '..Said' where nothing that the law and all that it calls make is longer than what came in: it says more and counts as full. Else prove '..UptoSaid'. A law counts once. -/
mutual
def uptoBulk {H : Type} : DataW H → Nat
  | .lit (.string bytes) => bytes.length + 1
  | .lit _ => 1
  | .nil => 1
  | .ptr d => uptoBulk d + 1
  | .slice elems spare => uptoBulkAll elems + uptoBulkAll spare + 1
  | .agg parts => uptoBulkAll parts + 1
  | .iface _ d => uptoBulk d + 1
  | .map entries => uptoBulkEntries entries + 1
  | .held _ => 1
def uptoBulkAll {H : Type} : List (DataW H) → Nat
  | [] => 0
  | d :: r => uptoBulk d + uptoBulkAll r
def uptoBulkEntries {H : Type} : List (Lit × DataW H) → Nat
  | [] => 0
  | x :: r => uptoBulkEntry x + uptoBulkEntries r
def uptoBulkEntry {H : Type} : Lit × DataW H → Nat
  | (.string bytes, d) => bytes.length + uptoBulk d + 1
  | (_, d) => uptoBulk d + 1
 end
def uptoSmall : (H : Type) → List (DataW H) → Bool := fun _ ds => decide (uptoBulkAll ds ≤ 1048576)
def OpenSpec.upto (s : _root_.Go.ChangeSpec) : _root_.Go.OpenSpec := { _root_.Go.OpenSpec.ofChange s with cond := some uptoSmall }

/-- 'strongroomlaw12.CapMints', WHERE WHAT IT READS IS OF BULK AT MOST 1048576: true; the input reads as it did. -/
def capMintsUptoRow : OpenClaim := { program := "ytedmkffepmcpaaadoor", sum := "f358f1915302d0458df4941b37f34fc122c28178bb9e7d901d223bbeaf544bfe", func := "strongroom/strongroomlaw12.CapMints", spec := "capMints", inPlace := ["math/bits.Add64", "internal/bytealg.CountString", "internal/bytealg.IndexByteString", "internal/bytealg.IndexString"], recurses := true, named := ["unicode/utf8.first", "unicode/utf8.acceptRanges", "internal/bytealg.MaxLen"], apart := false, laid := [("unicode/utf8.acceptRanges", laid_unicode_utf8_acceptRanges), ("unicode/utf8.first", laid_unicode_utf8_first)], narrowed := true }
def CapMintsUptoSaid : Prop := capMintsUptoRow.holds Tryd.pinned (OpenSpec.upto capMintsSpec)

/-- 'strongroomlaw12.CapNarrows', WHERE WHAT IT READS IS OF BULK AT MOST 1048576: true; the input reads as it did. -/
def capNarrowsUptoRow : OpenClaim := { program := "ytedmkffepmcpaaadoor", sum := "f358f1915302d0458df4941b37f34fc122c28178bb9e7d901d223bbeaf544bfe", func := "strongroom/strongroomlaw12.CapNarrows", spec := "capNarrows", inPlace := ["math/bits.Add64", "internal/bytealg.CountString", "internal/bytealg.IndexByteString", "internal/bytealg.IndexString"], recurses := true, named := ["unicode/utf8.first", "unicode/utf8.acceptRanges", "internal/bytealg.MaxLen"], apart := false, laid := [("unicode/utf8.acceptRanges", laid_unicode_utf8_acceptRanges), ("unicode/utf8.first", laid_unicode_utf8_first)], narrowed := true }
def CapNarrowsUptoSaid : Prop := capNarrowsUptoRow.holds Tryd.pinned (OpenSpec.upto capNarrowsSpec)

/-- 'strongroomlaw12.CapChecks', WHERE WHAT IT READS IS OF BULK AT MOST 1048576: true; the input reads as it did. -/
def capChecksUptoRow : OpenClaim := { program := "ytedmkffepmcpaaadoor", sum := "f358f1915302d0458df4941b37f34fc122c28178bb9e7d901d223bbeaf544bfe", func := "strongroom/strongroomlaw12.CapChecks", spec := "capChecks", inPlace := ["math/bits.Add64", "internal/bytealg.CountString", "internal/bytealg.IndexByteString", "internal/bytealg.IndexString"], recurses := true, named := ["unicode/utf8.first", "unicode/utf8.acceptRanges", "internal/bytealg.MaxLen"], apart := false, laid := [("unicode/utf8.acceptRanges", laid_unicode_utf8_acceptRanges), ("unicode/utf8.first", laid_unicode_utf8_first)], narrowed := true }
def CapChecksUptoSaid : Prop := capChecksUptoRow.holds Tryd.pinned (OpenSpec.upto capChecksSpec)

/-- 'strongroomlaw12.CapLess', WHERE WHAT IT READS IS OF BULK AT MOST 1048576: true; the input reads as it did. -/
def capLessUptoRow : OpenClaim := { program := "ytedmkffepmcpaaadoor", sum := "f358f1915302d0458df4941b37f34fc122c28178bb9e7d901d223bbeaf544bfe", func := "strongroom/strongroomlaw12.CapLess", spec := "capLess", inPlace := ["math/bits.Add64", "internal/bytealg.CountString", "internal/bytealg.IndexByteString", "internal/bytealg.IndexString"], named := ["unicode/utf8.first", "unicode/utf8.acceptRanges", "internal/bytealg.MaxLen"], apart := false, laid := [("unicode/utf8.acceptRanges", laid_unicode_utf8_acceptRanges), ("unicode/utf8.first", laid_unicode_utf8_first)], narrowed := true }
def CapLessUptoSaid : Prop := capLessUptoRow.holds Tryd.pinned (OpenSpec.upto capLessSpec)

/-- 'strongroomlaw12.CapLets', WHERE WHAT IT READS IS OF BULK AT MOST 1048576: true; the input reads as it did. -/
def capLetsUptoRow : OpenClaim := { program := "ytedmkffepmcpaaadoor", sum := "f358f1915302d0458df4941b37f34fc122c28178bb9e7d901d223bbeaf544bfe", func := "strongroom/strongroomlaw12.CapLets", spec := "capLets", inPlace := ["math/bits.Add64", "internal/bytealg.CountString", "internal/bytealg.IndexByteString", "internal/bytealg.IndexString"], named := ["unicode/utf8.first", "unicode/utf8.acceptRanges", "internal/bytealg.MaxLen"], apart := false, laid := [("unicode/utf8.acceptRanges", laid_unicode_utf8_acceptRanges), ("unicode/utf8.first", laid_unicode_utf8_first)], narrowed := true }
def CapLetsUptoSaid : Prop := capLetsUptoRow.holds Tryd.pinned (OpenSpec.upto capLetsSpec)

/-- 'strongroomlaw12.CapMeets', WHERE WHAT IT READS IS OF BULK AT MOST 1048576: true; the input reads as it did. -/
def capMeetsUptoRow : OpenClaim := { program := "ytedmkffepmcpaaadoor", sum := "f358f1915302d0458df4941b37f34fc122c28178bb9e7d901d223bbeaf544bfe", func := "strongroom/strongroomlaw12.CapMeets", spec := "capMeets", inPlace := ["math/bits.Add64", "internal/bytealg.CountString", "internal/bytealg.IndexByteString", "internal/bytealg.IndexString"], named := ["unicode/utf8.first", "unicode/utf8.acceptRanges", "internal/bytealg.MaxLen"], apart := false, laid := [("unicode/utf8.acceptRanges", laid_unicode_utf8_acceptRanges), ("unicode/utf8.first", laid_unicode_utf8_first)], narrowed := true }
def CapMeetsUptoSaid : Prop := capMeetsUptoRow.holds Tryd.pinned (OpenSpec.upto capMeetsSpec)

/-- 'strongroomlaw12.CapCodes', WHERE WHAT IT READS IS OF BULK AT MOST 1048576: true; the input reads as it did. -/
def capCodesUptoRow : OpenClaim := { program := "ytedmkffepmcpaaadoor", sum := "f358f1915302d0458df4941b37f34fc122c28178bb9e7d901d223bbeaf544bfe", func := "strongroom/strongroomlaw12.CapCodes", spec := "capCodes", inPlace := ["math/bits.Add64", "internal/bytealg.CountString", "internal/bytealg.IndexByteString", "internal/bytealg.IndexString"], recurses := true, named := ["unicode/utf8.first", "unicode/utf8.acceptRanges", "internal/bytealg.MaxLen"], apart := false, laid := [("unicode/utf8.acceptRanges", laid_unicode_utf8_acceptRanges), ("unicode/utf8.first", laid_unicode_utf8_first)], narrowed := true }
def CapCodesUptoSaid : Prop := capCodesUptoRow.holds Tryd.pinned (OpenSpec.upto capCodesSpec)

end Rows
end Go.Proofs.YtedmkffepmcpaaaDoor
