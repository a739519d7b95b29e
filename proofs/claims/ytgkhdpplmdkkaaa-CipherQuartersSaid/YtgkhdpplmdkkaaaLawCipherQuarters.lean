/- CipherQuarters: the quarter round of any four words is the one of the document, for every input. The frame follows the shell that proof-skeleton.mjs writes. -/
import Derived.Test.YtgkhdpplmdkkaaaRows
import Derived.Test.YtgkhdpplmdkkaaaLq
import Derived.WalkKit
import Derived.ProofKit
import Derived.OpenShut
import Derived.ShutString
import Derived.ChangeOld
import Derived.Below
import Derived.Lib.SmallJoins
import Derived.Laws.IdiomArrays
import Derived.Deep.Slices
namespace Go.Proofs.Ytgkhdpplmdkkaaa.cipherQuarters
open Go.ChangeShapes Go.WideShapes Go.ChangeAt Go.RowKit
open Go.ChangeMaps (open_string shut_string)
set_option linter.unusedVariables false

theorem own : ownKnob Try.prog.godebug = none := by kernel_rfl
theorem laidOut : laidOutB Try.prog = true := by kernel_rfl
theorem cells47 : Try.prog.cellsOf 47 = 4 := by kernel_rfl
theorem cells46 : Try.prog.cellsOf 46 = 1 := by kernel_rfl
theorem to_list (a : ByteArray) : ∃ l : List UInt8, a = ⟨l.toArray⟩ ∧ l.length = a.size := ⟨a.data.toList, by cases a; simp, by cases a; simp [ByteArray.size]⟩

theorem bounds {x : Int} (h : (Lit.int .u32 x).wf = true) : 0 ≤ x ∧ x < 4294967296 := by
  have h2 : (0 : Int) ≤ x ∧ x ≤ 4294967295 := by simpa [Lit.wf, IntKind.min, IntKind.max, IntKind.signed, IntKind.bits] using h
  omega
theorem quarters_of (w : World) (a b c d : Int) (ha : (Lit.int .u32 a).wf = true) (hb : (Lit.int .u32 b).wf = true) (hc : (Lit.int .u32 c).wf = true) (hd : (Lit.int .u32 d).wf = true) :
    Calls Try.prog 5 #[.agg #[.int .u32 a, .int .u32 b, .int .u32 c, .int .u32 d]] w fun e w' => e = .returned (.bool true) ∧ Below w.heap.size w w' := by
  have h := quarters_walk ⟨UInt32.ofNat a.toNat, UInt32.ofNat b.toNat, UInt32.ofNat c.toNat, UInt32.ofNat d.toNat⟩ w
  unfold agg4 at h
  rwa [I32_of (bounds ha).1 (bounds ha).2, I32_of (bounds hb).1 (bounds hb).2, I32_of (bounds hc).1 (bounds hc).2, I32_of (bounds hd).1 (bounds hd).2] at h


set_option maxHeartbeats 1000000 in
set_option maxRecDepth 100000 in
theorem lifted (os : Os) (started : os.Started) (H : Type) (enc : TypeId × Value → H) :
    ReturnsInHanded {} Try.checked os 5 .any (Rows.cipherQuartersSpec.pre6 enc Try.prog Try.f5 Rows.cipherQuartersRow.domain false) (Rows.cipherQuartersSpec.post enc Try.prog Try.f5 false true false false) := by
  refine returnsInHanded_of_change (C := Try.checked) own started (by kernel_rfl) Try.func5
    (ChangeSpec.witness6 (enc := enc) (C := Try.checked) false ⟨#[], #[.agg #[.int .u32 0, .int .u32 0, .int .u32 0, .int .u32 0]], []⟩ 8 (by kernel_rfl) (by kernel_rfl) (by kernel_rfl) (by kernel_rfl)) ?_
  intro W base args ds gs before hval0 hW hcnd _
  have hval : ∀ (j : Nat) t v, Try.f5.params[j]? = some t → args[j]? = some v → Value.okWide Try.prog W .any base t v := hval0
  have hW' := hW
  obtain ⟨p, q, hA0, hV, rfl, hfz, hnd⟩ := hW
  have hA : DataW.TrodAll enc Try.prog W 0 (fun _ => true) true Try.f5.params.toList args.toList ds p := hA0
  rw [Try.params5] at hA hval
  obtain ⟨v0, vs0, d0, ds0, p0, q0, hargs, rfl, rfl, h0, r0⟩ := trodAll_cons hA
  obtain ⟨rfl, rfl, rfl⟩ := trodAll_nil r0
  obtain rfl : args = #[v0] := by cases args; simp_all
  obtain ⟨rfl, rfl⟩ := trodVars_none hV
  have k0 := h0
  have lt0 : ∀ x ∈ p0, x.block < W.heap.size := by obtain ⟨m, hm⟩ := k0; exact DataW.trod_lt m _ _ _ hm
  obtain ⟨x0_0, x0_1, x0_2, x0_3, rfl, w0_0, w0_1, w0_2, w0_3⟩ : ∃ x0_0 x0_1 x0_2 x0_3, v0 = .agg #[.int .u32 x0_0, .int .u32 x0_1, .int .u32 x0_2, .int .u32 x0_3] ∧ (Lit.int .u32 x0_0).wf = true ∧ (Lit.int .u32 x0_1).wf = true ∧ (Lit.int .u32 x0_2).wf = true ∧ (Lit.int .u32 x0_3).wf = true := by
    obtain ⟨cs, rfl, hsz, _⟩ : ∃ cs, v0 = .agg cs ∧ cs.size = Try.prog.cellsOf 47 ∧ Row.okWide Try.prog W .any base 47 cs := by
      have := hval 0 47 v0 rfl rfl
      simpa [Value.okWide, Try.underlying47] using this
    rw [cells47] at hsz
    obtain ⟨c0, c1, c2, c3, rfl⟩ := Joins.array4 hsz
    obtain ⟨fuel, hf⟩ := h0
    obtain ⟨y0, y1, y2, y3, m, hx, hy0, hy1, hy2, hy3⟩ := trod_array4 Try.underlying47 cells46 hf
    obtain ⟨x0, e0, rfl, w0⟩ := DataW.trod_int Try.underlying46 hy0
    obtain ⟨x1, e1, rfl, w1⟩ := DataW.trod_int Try.underlying46 hy1
    obtain ⟨x2, e2, rfl, w2⟩ := DataW.trod_int Try.underlying46 hy2
    obtain ⟨x3, e3, rfl, w3⟩ := DataW.trod_int Try.underlying46 hy3
    simp at e0 e1 e2 e3
    subst e0 e1 e2 e3
    exact ⟨x0, x1, x2, x3, rfl, w0, w1, w2, w3⟩
  clear hA0 hval0
  refine (quarters_of W x0_0 x0_1 x0_2 x0_3 w0_0 w0_1 w0_2 w0_3).mono fun e W' ⟨he, bel⟩ => ?_
  subst he
  exact ⟨_, rfl, _, _, _, [], _, [], hW', trodAll_mk1 (shut_bool Try.underlying4 _), (trodAll_cons_mk (Below.trod laidOut (by kernel_rfl) (of_decide_eq_true (by kernel_rfl)) k0 bel lt0) trodAll_mk0), rfl, bel.frame _, fun h => by cases h⟩

theorem over : Rows.cipherQuartersRow.holds Try.pinned (OpenSpec.ofChange Rows.cipherQuartersSpec) :=
  OpenClaim.holds_of_wide 5 Try.f5 rfl rfl rfl rfl rfl rfl rfl ⟨rfl, rfl, rfl, rfl, rfl⟩ rfl rfl rfl rfl rfl (by kernel_rfl) Try.func5 (by kernel_rfl)
    (of_decide_eq_true (by kernel_rfl)) (by unfold Func.isWrapper; first | (rw [if_pos (by decide +kernel)]; kernel_rfl) | (rw [if_neg (by decide +kernel)]; exact ⟨rfl, rfl⟩))
    (fun os started H enc _ => lifted os started H enc)

/-- THE STATEMENT -/
theorem proved : Rows.CipherQuartersSaid := over
#print axioms proved
end Go.Proofs.Ytgkhdpplmdkkaaa.cipherQuarters
