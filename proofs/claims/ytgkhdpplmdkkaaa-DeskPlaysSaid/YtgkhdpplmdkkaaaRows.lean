/-
  No cell of these rows narrows 'for every input' (looked for: loops, veiled, ifaces, maps, wideKeys, modest, calm, conditions, laid).
  DERIVED. THE GIVEN ROWS OF THIS SEAT. 12 by the template 'for every input the law returns true; each argument reads behind the call as it read before'; 0 by the template 'total and deterministic' (their statements: YtgkhdpplmdkkaaaTotals.lean).
  GIVEN WITH THE SEED: the statements are not yours to turn. If you find one false, say at which input.
  Laid BY PROGRAM, IN A SANDBOX (cutbox-rows.mjs): the forced cells as the released guide's own fill.sh prints them over the translation e868a82e954ba77f… (all of the seat's roots in one cut). By AI agents, Wed Nov 11 2026. No macro, syntax, notation, axiom, sorry.
-/
import Derived.Test.YtgkhdpplmdkkaaaChecked
import GoSem.Claim
import GoSem.ClaimJoined
import GoSem.ClaimMapViews
import Derived.JoinedTies
import Derived.KernelRfl
namespace Go.Proofs.Ytgkhdpplmdkkaaa
/- THE CELL 'sum', in the pinned program and in every row, IS THE sha256 OF THE DUMP (.gsa) THAT YtgkhdpplmdkkaaaProg.lean LOADS. Nothing in Lean hashes anything: it is a label: what it is worth is what the hold of that sum in a sandbox is worth. -/
noncomputable def Try.pinned : Pinned := { name := "ytgkhdpplmdkkaaa", sum := "e868a82e954ba77f21409cf7f0cdba9932e5512e71614e3c4afc00fea672d2f0", checked := Try.checked }
namespace Rows
def none {H : Type} : Left H := { results := [], args := [] }

/-- 'strongroomlaw27.DeskOnce': WHATEVER THE INPUT: true; the input reads as it did. -/
def deskOnceSpec : ChangeSpec := { name := "deskOnce", fn := fun _ => fun
  | [d1, d2, d3] => { results := [.lit (.bool true)], args := [d1, d2, d3] }
  | _ => none }
def deskOnceRow : OpenClaim := { program := "ytgkhdpplmdkkaaa", sum := "e868a82e954ba77f21409cf7f0cdba9932e5512e71614e3c4afc00fea672d2f0", func := "strongroom/strongroomlaw27.DeskOnce", spec := "deskOnce", apart := false }
def DeskOnceSaid : Prop := deskOnceRow.holds Try.pinned (OpenSpec.ofChange deskOnceSpec)

/-- ITS FALSE NEIGHBOUR: 'it returns false'. Refute it at one input. -/
def deskOnceWrong : ChangeSpec := { name := "deskOnce", fn := fun _ => fun
  | [d1, d2, d3] => { results := [.lit (.bool false)], args := [d1, d2, d3] }
  | _ => none }
def DeskOnceWrongFalsely : Prop := deskOnceRow.holds Try.pinned (OpenSpec.ofChange deskOnceWrong)

/-- 'strongroomlaw27.DeskDraws': WHATEVER THE INPUT: true; the input reads as it did. -/
def deskDrawsSpec : ChangeSpec := { name := "deskDraws", fn := fun _ => fun
  | [d1, d2, d3] => { results := [.lit (.bool true)], args := [d1, d2, d3] }
  | _ => none }
def deskDrawsRow : OpenClaim := { program := "ytgkhdpplmdkkaaa", sum := "e868a82e954ba77f21409cf7f0cdba9932e5512e71614e3c4afc00fea672d2f0", func := "strongroom/strongroomlaw27.DeskDraws", spec := "deskDraws", inPlace := ["math/bits.Add64"], recurses := true, apart := false }
def DeskDrawsSaid : Prop := deskDrawsRow.holds Try.pinned (OpenSpec.ofChange deskDrawsSpec)

/-- ITS FALSE NEIGHBOUR: 'it returns false'. Refute it at one input. -/
def deskDrawsWrong : ChangeSpec := { name := "deskDraws", fn := fun _ => fun
  | [d1, d2, d3] => { results := [.lit (.bool false)], args := [d1, d2, d3] }
  | _ => none }
def DeskDrawsWrongFalsely : Prop := deskDrawsRow.holds Try.pinned (OpenSpec.ofChange deskDrawsWrong)

/-- 'strongroomlaw19.CipherQuarters': WHATEVER THE INPUT: true; the input reads as it did. -/
def cipherQuartersSpec : ChangeSpec := { name := "cipherQuarters", fn := fun _ => fun
  | [d] => { results := [.lit (.bool true)], args := [d] }
  | _ => none }
def cipherQuartersRow : OpenClaim := { program := "ytgkhdpplmdkkaaa", sum := "e868a82e954ba77f21409cf7f0cdba9932e5512e71614e3c4afc00fea672d2f0", func := "strongroom/strongroomlaw19.CipherQuarters", spec := "cipherQuarters", inPlace := ["math/bits.Add64"], apart := false }
def CipherQuartersSaid : Prop := cipherQuartersRow.holds Try.pinned (OpenSpec.ofChange cipherQuartersSpec)

/-- ITS FALSE NEIGHBOUR: 'it returns false'. Refute it at one input. -/
def cipherQuartersWrong : ChangeSpec := { name := "cipherQuarters", fn := fun _ => fun
  | [d] => { results := [.lit (.bool false)], args := [d] }
  | _ => none }
def CipherQuartersWrongFalsely : Prop := cipherQuartersRow.holds Try.pinned (OpenSpec.ofChange cipherQuartersWrong)

/-- 'strongroomlaw19.CipherBlocks': WHATEVER THE INPUT: true; the input reads as it did. -/
def cipherBlocksSpec : ChangeSpec := { name := "cipherBlocks", fn := fun _ => fun
  | [d1, d2, d3] => { results := [.lit (.bool true)], args := [d1, d2, d3] }
  | _ => none }
def cipherBlocksRow : OpenClaim := { program := "ytgkhdpplmdkkaaa", sum := "e868a82e954ba77f21409cf7f0cdba9932e5512e71614e3c4afc00fea672d2f0", func := "strongroom/strongroomlaw19.CipherBlocks", spec := "cipherBlocks", inPlace := ["math/bits.Add64"], apart := false }
def CipherBlocksSaid : Prop := cipherBlocksRow.holds Try.pinned (OpenSpec.ofChange cipherBlocksSpec)

/-- ITS FALSE NEIGHBOUR: 'it returns false'. Refute it at one input. -/
def cipherBlocksWrong : ChangeSpec := { name := "cipherBlocks", fn := fun _ => fun
  | [d1, d2, d3] => { results := [.lit (.bool false)], args := [d1, d2, d3] }
  | _ => none }
def CipherBlocksWrongFalsely : Prop := cipherBlocksRow.holds Try.pinned (OpenSpec.ofChange cipherBlocksWrong)

/-- 'strongroomlaw19.CipherHides': WHATEVER THE INPUT: true; the input reads as it did. -/
def cipherHidesSpec : ChangeSpec := { name := "cipherHides", fn := fun _ => fun
  | [d1, d2, d3] => { results := [.lit (.bool true)], args := [d1, d2, d3] }
  | _ => none }
def cipherHidesRow : OpenClaim := { program := "ytgkhdpplmdkkaaa", sum := "e868a82e954ba77f21409cf7f0cdba9932e5512e71614e3c4afc00fea672d2f0", func := "strongroom/strongroomlaw19.CipherHides", spec := "cipherHides", inPlace := ["math/bits.Add64"], apart := false }
def CipherHidesSaid : Prop := cipherHidesRow.holds Try.pinned (OpenSpec.ofChange cipherHidesSpec)

/-- ITS FALSE NEIGHBOUR: 'it returns false'. Refute it at one input. -/
def cipherHidesWrong : ChangeSpec := { name := "cipherHides", fn := fun _ => fun
  | [d1, d2, d3] => { results := [.lit (.bool false)], args := [d1, d2, d3] }
  | _ => none }
def CipherHidesWrongFalsely : Prop := cipherHidesRow.holds Try.pinned (OpenSpec.ofChange cipherHidesWrong)

/-- 'strongroomlaw19.CipherStreams': WHATEVER THE INPUT: true; the input reads as it did. -/
def cipherStreamsSpec : ChangeSpec := { name := "cipherStreams", fn := fun _ => fun
  | [d1, d2, d3] => { results := [.lit (.bool true)], args := [d1, d2, d3] }
  | _ => none }
def cipherStreamsRow : OpenClaim := { program := "ytgkhdpplmdkkaaa", sum := "e868a82e954ba77f21409cf7f0cdba9932e5512e71614e3c4afc00fea672d2f0", func := "strongroom/strongroomlaw19.CipherStreams", spec := "cipherStreams", inPlace := ["math/bits.Add64"], apart := false }
def CipherStreamsSaid : Prop := cipherStreamsRow.holds Try.pinned (OpenSpec.ofChange cipherStreamsSpec)

/-- ITS FALSE NEIGHBOUR: 'it returns false'. Refute it at one input. -/
def cipherStreamsWrong : ChangeSpec := { name := "cipherStreams", fn := fun _ => fun
  | [d1, d2, d3] => { results := [.lit (.bool false)], args := [d1, d2, d3] }
  | _ => none }
def CipherStreamsWrongFalsely : Prop := cipherStreamsRow.holds Try.pinned (OpenSpec.ofChange cipherStreamsWrong)

/-- 'strongroomlaw27.DeskProves': WHATEVER THE INPUT: true; the input reads as it did. -/
def deskProvesSpec : ChangeSpec := { name := "deskProves", fn := fun _ => fun
  | [d1, d2, d3] => { results := [.lit (.bool true)], args := [d1, d2, d3] }
  | _ => none }
def deskProvesRow : OpenClaim := { program := "ytgkhdpplmdkkaaa", sum := "e868a82e954ba77f21409cf7f0cdba9932e5512e71614e3c4afc00fea672d2f0", func := "strongroom/strongroomlaw27.DeskProves", spec := "deskProves", inPlace := ["math/bits.Add64"], apart := false }
def DeskProvesSaid : Prop := deskProvesRow.holds Try.pinned (OpenSpec.ofChange deskProvesSpec)

/-- ITS FALSE NEIGHBOUR: 'it returns false'. Refute it at one input. -/
def deskProvesWrong : ChangeSpec := { name := "deskProves", fn := fun _ => fun
  | [d1, d2, d3] => { results := [.lit (.bool false)], args := [d1, d2, d3] }
  | _ => none }
def DeskProvesWrongFalsely : Prop := deskProvesRow.holds Try.pinned (OpenSpec.ofChange deskProvesWrong)

/-- 'strongroomlaw19.CipherSeals': WHATEVER THE INPUT: true; the input reads as it did. -/
def cipherSealsSpec : ChangeSpec := { name := "cipherSeals", fn := fun _ => fun
  | [d] => { results := [.lit (.bool true)], args := [d] }
  | _ => none }
def cipherSealsRow : OpenClaim := { program := "ytgkhdpplmdkkaaa", sum := "e868a82e954ba77f21409cf7f0cdba9932e5512e71614e3c4afc00fea672d2f0", func := "strongroom/strongroomlaw19.CipherSeals", spec := "cipherSeals", inPlace := ["math/bits.Add64"], apart := false }
def CipherSealsSaid : Prop := cipherSealsRow.holds Try.pinned (OpenSpec.ofChange cipherSealsSpec)

/-- ITS FALSE NEIGHBOUR: 'it returns false'. Refute it at one input. -/
def cipherSealsWrong : ChangeSpec := { name := "cipherSeals", fn := fun _ => fun
  | [d] => { results := [.lit (.bool false)], args := [d] }
  | _ => none }
def CipherSealsWrongFalsely : Prop := cipherSealsRow.holds Try.pinned (OpenSpec.ofChange cipherSealsWrong)

/-- 'strongroomlaw19.CipherOpens': WHATEVER THE INPUT: true; the input reads as it did. -/
def cipherOpensSpec : ChangeSpec := { name := "cipherOpens", fn := fun _ => fun
  | [d] => { results := [.lit (.bool true)], args := [d] }
  | _ => none }
def cipherOpensRow : OpenClaim := { program := "ytgkhdpplmdkkaaa", sum := "e868a82e954ba77f21409cf7f0cdba9932e5512e71614e3c4afc00fea672d2f0", func := "strongroom/strongroomlaw19.CipherOpens", spec := "cipherOpens", inPlace := ["math/bits.Add64"], apart := false }
def CipherOpensSaid : Prop := cipherOpensRow.holds Try.pinned (OpenSpec.ofChange cipherOpensSpec)

/-- ITS FALSE NEIGHBOUR: 'it returns false'. Refute it at one input. -/
def cipherOpensWrong : ChangeSpec := { name := "cipherOpens", fn := fun _ => fun
  | [d] => { results := [.lit (.bool false)], args := [d] }
  | _ => none }
def CipherOpensWrongFalsely : Prop := cipherOpensRow.holds Try.pinned (OpenSpec.ofChange cipherOpensWrong)

/-- 'strongroomlaw19.CipherTags': WHATEVER THE INPUT: true; the input reads as it did. -/
def cipherTagsSpec : ChangeSpec := { name := "cipherTags", fn := fun _ => fun
  | [d1, d2] => { results := [.lit (.bool true)], args := [d1, d2] }
  | _ => none }
def cipherTagsRow : OpenClaim := { program := "ytgkhdpplmdkkaaa", sum := "e868a82e954ba77f21409cf7f0cdba9932e5512e71614e3c4afc00fea672d2f0", func := "strongroom/strongroomlaw19.CipherTags", spec := "cipherTags", inPlace := ["math/bits.Add64"], apart := false }
def CipherTagsSaid : Prop := cipherTagsRow.holds Try.pinned (OpenSpec.ofChange cipherTagsSpec)

/-- ITS FALSE NEIGHBOUR: 'it returns false'. Refute it at one input. -/
def cipherTagsWrong : ChangeSpec := { name := "cipherTags", fn := fun _ => fun
  | [d1, d2] => { results := [.lit (.bool false)], args := [d1, d2] }
  | _ => none }
def CipherTagsWrongFalsely : Prop := cipherTagsRow.holds Try.pinned (OpenSpec.ofChange cipherTagsWrong)

/-- 'strongroomlaw27.DeskApart': WHATEVER THE INPUT: true; the input reads as it did. -/
def deskApartSpec : ChangeSpec := { name := "deskApart", fn := fun _ => fun
  | [d1, d2, d3] => { results := [.lit (.bool true)], args := [d1, d2, d3] }
  | _ => none }
def deskApartRow : OpenClaim := { program := "ytgkhdpplmdkkaaa", sum := "e868a82e954ba77f21409cf7f0cdba9932e5512e71614e3c4afc00fea672d2f0", func := "strongroom/strongroomlaw27.DeskApart", spec := "deskApart", inPlace := ["math/bits.Add64"], recurses := true, apart := false }
def DeskApartSaid : Prop := deskApartRow.holds Try.pinned (OpenSpec.ofChange deskApartSpec)

/-- ITS FALSE NEIGHBOUR: 'it returns false'. Refute it at one input. -/
def deskApartWrong : ChangeSpec := { name := "deskApart", fn := fun _ => fun
  | [d1, d2, d3] => { results := [.lit (.bool false)], args := [d1, d2, d3] }
  | _ => none }
def DeskApartWrongFalsely : Prop := deskApartRow.holds Try.pinned (OpenSpec.ofChange deskApartWrong)

/-- 'strongroomlaw27.DeskPlays': WHATEVER THE INPUT: true; the input reads as it did. -/
def deskPlaysSpec : ChangeSpec := { name := "deskPlays", fn := fun _ => fun
  | [d] => { results := [.lit (.bool true)], args := [d] }
  | _ => none }
def deskPlaysRow : OpenClaim := { program := "ytgkhdpplmdkkaaa", sum := "e868a82e954ba77f21409cf7f0cdba9932e5512e71614e3c4afc00fea672d2f0", func := "strongroom/strongroomlaw27.DeskPlays", spec := "deskPlays", inPlace := ["math/bits.Add64"], recurses := true, apart := false }
def DeskPlaysSaid : Prop := deskPlaysRow.holds Try.pinned (OpenSpec.ofChange deskPlaysSpec)

/-- ITS FALSE NEIGHBOUR: 'it returns false'. Refute it at one input. -/
def deskPlaysWrong : ChangeSpec := { name := "deskPlays", fn := fun _ => fun
  | [d] => { results := [.lit (.bool false)], args := [d] }
  | _ => none }
def DeskPlaysWrongFalsely : Prop := deskPlaysRow.holds Try.pinned (OpenSpec.ofChange deskPlaysWrong)

/- THE SECOND FORM. 'bulk': how many values and letters a reading holds, each counted each time it is reached (what is shared counts as often as it is met; a slice's spare places count too). A statement '..UptoSaid' is the law's where the arguments, and the package variables that the reading takes, are together of bulk at most 1048576: NARROWER than '..Said'. Prove '..Said' where nothing that the law and all that it calls make is longer than what came in: it says more and counts as full. Else prove '..UptoSaid'. A law counts once. -/
mutual
def uptoBulk {H : Type} : DataW H → Nat
  | .lit (.string bytes) => bytes.length + 1
  | .lit _ => 1
  | .nil => 1
  | .ptr d => uptoBulk d + 1
  | .slice elems spare => uptoBulkAll elems + uptoBulkAll spare + 1
  | .agg parts => uptoBulkAll parts + 1
  | .iface _ d => uptoBulk d + 1
  | .map entries => uptoBulkEntries entries + 1
  | .held _ => 1
def uptoBulkAll {H : Type} : List (DataW H) → Nat
  | [] => 0
  | d :: r => uptoBulk d + uptoBulkAll r
def uptoBulkEntries {H : Type} : List (Lit × DataW H) → Nat
  | [] => 0
  | x :: r => uptoBulkEntry x + uptoBulkEntries r
def uptoBulkEntry {H : Type} : Lit × DataW H → Nat
  | (.string bytes, d) => bytes.length + uptoBulk d + 1
  | (_, d) => uptoBulk d + 1
 end
def uptoSmall : (H : Type) → List (DataW H) → Bool := fun _ ds => decide (uptoBulkAll ds ≤ 1048576)
def OpenSpec.upto (s : _root_.Go.ChangeSpec) : _root_.Go.OpenSpec := { _root_.Go.OpenSpec.ofChange s with cond := some uptoSmall }

/-- 'strongroomlaw27.DeskOnce', WHERE WHAT IT READS IS OF BULK AT MOST 1048576: true; the input reads as it did. -/
def deskOnceUptoRow : OpenClaim := { program := "ytgkhdpplmdkkaaa", sum := "e868a82e954ba77f21409cf7f0cdba9932e5512e71614e3c4afc00fea672d2f0", func := "strongroom/strongroomlaw27.DeskOnce", spec := "deskOnce", apart := false, narrowed := true }
def DeskOnceUptoSaid : Prop := deskOnceUptoRow.holds Try.pinned (OpenSpec.upto deskOnceSpec)

/-- 'strongroomlaw27.DeskDraws', WHERE WHAT IT READS IS OF BULK AT MOST 1048576: true; the input reads as it did. -/
def deskDrawsUptoRow : OpenClaim := { program := "ytgkhdpplmdkkaaa", sum := "e868a82e954ba77f21409cf7f0cdba9932e5512e71614e3c4afc00fea672d2f0", func := "strongroom/strongroomlaw27.DeskDraws", spec := "deskDraws", inPlace := ["math/bits.Add64"], recurses := true, apart := false, narrowed := true }
def DeskDrawsUptoSaid : Prop := deskDrawsUptoRow.holds Try.pinned (OpenSpec.upto deskDrawsSpec)

/-- 'strongroomlaw19.CipherQuarters', WHERE WHAT IT READS IS OF BULK AT MOST 1048576: true; the input reads as it did. -/
def cipherQuartersUptoRow : OpenClaim := { program := "ytgkhdpplmdkkaaa", sum := "e868a82e954ba77f21409cf7f0cdba9932e5512e71614e3c4afc00fea672d2f0", func := "strongroom/strongroomlaw19.CipherQuarters", spec := "cipherQuarters", inPlace := ["math/bits.Add64"], apart := false, narrowed := true }
def CipherQuartersUptoSaid : Prop := cipherQuartersUptoRow.holds Try.pinned (OpenSpec.upto cipherQuartersSpec)

/-- 'strongroomlaw19.CipherBlocks', WHERE WHAT IT READS IS OF BULK AT MOST 1048576: true; the input reads as it did. -/
def cipherBlocksUptoRow : OpenClaim := { program := "ytgkhdpplmdkkaaa", sum := "e868a82e954ba77f21409cf7f0cdba9932e5512e71614e3c4afc00fea672d2f0", func := "strongroom/strongroomlaw19.CipherBlocks", spec := "cipherBlocks", inPlace := ["math/bits.Add64"], apart := false, narrowed := true }
def CipherBlocksUptoSaid : Prop := cipherBlocksUptoRow.holds Try.pinned (OpenSpec.upto cipherBlocksSpec)

/-- 'strongroomlaw19.CipherHides', WHERE WHAT IT READS IS OF BULK AT MOST 1048576: true; the input reads as it did. -/
def cipherHidesUptoRow : OpenClaim := { program := "ytgkhdpplmdkkaaa", sum := "e868a82e954ba77f21409cf7f0cdba9932e5512e71614e3c4afc00fea672d2f0", func := "strongroom/strongroomlaw19.CipherHides", spec := "cipherHides", inPlace := ["math/bits.Add64"], apart := false, narrowed := true }
def CipherHidesUptoSaid : Prop := cipherHidesUptoRow.holds Try.pinned (OpenSpec.upto cipherHidesSpec)

/-- 'strongroomlaw19.CipherStreams', WHERE WHAT IT READS IS OF BULK AT MOST 1048576: true; the input reads as it did. -/
def cipherStreamsUptoRow : OpenClaim := { program := "ytgkhdpplmdkkaaa", sum := "e868a82e954ba77f21409cf7f0cdba9932e5512e71614e3c4afc00fea672d2f0", func := "strongroom/strongroomlaw19.CipherStreams", spec := "cipherStreams", inPlace := ["math/bits.Add64"], apart := false, narrowed := true }
def CipherStreamsUptoSaid : Prop := cipherStreamsUptoRow.holds Try.pinned (OpenSpec.upto cipherStreamsSpec)

/-- 'strongroomlaw27.DeskProves', WHERE WHAT IT READS IS OF BULK AT MOST 1048576: true; the input reads as it did. -/
def deskProvesUptoRow : OpenClaim := { program := "ytgkhdpplmdkkaaa", sum := "e868a82e954ba77f21409cf7f0cdba9932e5512e71614e3c4afc00fea672d2f0", func := "strongroom/strongroomlaw27.DeskProves", spec := "deskProves", inPlace := ["math/bits.Add64"], apart := false, narrowed := true }
def DeskProvesUptoSaid : Prop := deskProvesUptoRow.holds Try.pinned (OpenSpec.upto deskProvesSpec)

/-- 'strongroomlaw19.CipherSeals', WHERE WHAT IT READS IS OF BULK AT MOST 1048576: true; the input reads as it did. -/
def cipherSealsUptoRow : OpenClaim := { program := "ytgkhdpplmdkkaaa", sum := "e868a82e954ba77f21409cf7f0cdba9932e5512e71614e3c4afc00fea672d2f0", func := "strongroom/strongroomlaw19.CipherSeals", spec := "cipherSeals", inPlace := ["math/bits.Add64"], apart := false, narrowed := true }
def CipherSealsUptoSaid : Prop := cipherSealsUptoRow.holds Try.pinned (OpenSpec.upto cipherSealsSpec)

/-- 'strongroomlaw19.CipherOpens', WHERE WHAT IT READS IS OF BULK AT MOST 1048576: true; the input reads as it did. -/
def cipherOpensUptoRow : OpenClaim := { program := "ytgkhdpplmdkkaaa", sum := "e868a82e954ba77f21409cf7f0cdba9932e5512e71614e3c4afc00fea672d2f0", func := "strongroom/strongroomlaw19.CipherOpens", spec := "cipherOpens", inPlace := ["math/bits.Add64"], apart := false, narrowed := true }
def CipherOpensUptoSaid : Prop := cipherOpensUptoRow.holds Try.pinned (OpenSpec.upto cipherOpensSpec)

/-- 'strongroomlaw19.CipherTags', WHERE WHAT IT READS IS OF BULK AT MOST 1048576: true; the input reads as it did. -/
def cipherTagsUptoRow : OpenClaim := { program := "ytgkhdpplmdkkaaa", sum := "e868a82e954ba77f21409cf7f0cdba9932e5512e71614e3c4afc00fea672d2f0", func := "strongroom/strongroomlaw19.CipherTags", spec := "cipherTags", inPlace := ["math/bits.Add64"], apart := false, narrowed := true }
def CipherTagsUptoSaid : Prop := cipherTagsUptoRow.holds Try.pinned (OpenSpec.upto cipherTagsSpec)

/-- 'strongroomlaw27.DeskApart', WHERE WHAT IT READS IS OF BULK AT MOST 1048576: true; the input reads as it did. -/
def deskApartUptoRow : OpenClaim := { program := "ytgkhdpplmdkkaaa", sum := "e868a82e954ba77f21409cf7f0cdba9932e5512e71614e3c4afc00fea672d2f0", func := "strongroom/strongroomlaw27.DeskApart", spec := "deskApart", inPlace := ["math/bits.Add64"], recurses := true, apart := false, narrowed := true }
def DeskApartUptoSaid : Prop := deskApartUptoRow.holds Try.pinned (OpenSpec.upto deskApartSpec)

/-- 'strongroomlaw27.DeskPlays', WHERE WHAT IT READS IS OF BULK AT MOST 1048576: true; the input reads as it did. -/
def deskPlaysUptoRow : OpenClaim := { program := "ytgkhdpplmdkkaaa", sum := "e868a82e954ba77f21409cf7f0cdba9932e5512e71614e3c4afc00fea672d2f0", func := "strongroom/strongroomlaw27.DeskPlays", spec := "deskPlays", inPlace := ["math/bits.Add64"], recurses := true, apart := false, narrowed := true }
def DeskPlaysUptoSaid : Prop := deskPlaysUptoRow.holds Try.pinned (OpenSpec.upto deskPlaysSpec)

end Rows
end Go.Proofs.Ytgkhdpplmdkkaaa
