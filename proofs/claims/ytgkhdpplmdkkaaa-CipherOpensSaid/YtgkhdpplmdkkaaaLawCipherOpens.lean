/- CipherOpens: what any bytes are opened as, or why they are not, is as the document says, for every input. The frame follows the shell that proof-skeleton.mjs writes. -/
import Derived.Test.YtgkhdpplmdkkaaaRows
import Derived.Test.YtgkhdpplmdkkaaaLo
import Derived.WalkKit
import Derived.ProofKit
import Derived.OpenShut
import Derived.ShutString
import Derived.ChangeOld
import Derived.Below
import Derived.Lib.SmallJoins
import Derived.Laws.IdiomArrays
import Derived.Deep.Slices
namespace Go.Proofs.Ytgkhdpplmdkkaaa.cipherOpens
open Go.ChangeShapes Go.WideShapes Go.ChangeAt Go.RowKit
open Go.ChangeMaps (open_string shut_string)
set_option linter.unusedVariables false

theorem own : ownKnob Try.prog.godebug = none := by kernel_rfl
theorem laidOut : laidOutB Try.prog = true := by kernel_rfl
theorem cells56 : Try.prog.cellsOf 56 = 4 := by kernel_rfl
theorem cells9 : Try.prog.cellsOf 9 = 1 := by kernel_rfl
theorem to_list (a : ByteArray) : ∃ l : List UInt8, a = ⟨l.toArray⟩ ∧ l.length = a.size := ⟨a.data.toList, by cases a; simp, by cases a; simp [ByteArray.size]⟩


set_option maxHeartbeats 1000000 in
set_option maxRecDepth 100000 in
theorem lifted (os : Os) (started : os.Started) (H : Type) (enc : TypeId × Value → H) :
    ReturnsInHanded {} Try.checked os 11 .any (Rows.cipherOpensSpec.pre6 enc Try.prog Try.f11 Rows.cipherOpensRow.domain false) (Rows.cipherOpensSpec.post enc Try.prog Try.f11 false true false false) := by
  refine returnsInHanded_of_change (C := Try.checked) own started (by kernel_rfl) Try.func11
    (ChangeSpec.witness6 (enc := enc) (C := Try.checked) false ⟨#[], #[.agg #[.string ByteArray.empty, .string ByteArray.empty, .string ByteArray.empty, .string ByteArray.empty]], []⟩ 8 (by kernel_rfl) (by kernel_rfl) (by kernel_rfl) (by kernel_rfl)) ?_
  intro W base args ds gs before hval0 hW hcnd _
  have hval : ∀ (j : Nat) t v, Try.f11.params[j]? = some t → args[j]? = some v → Value.okWide Try.prog W .any base t v := hval0
  have hW' := hW
  obtain ⟨p, q, hA0, hV, rfl, hfz, hnd⟩ := hW
  have hA : DataW.TrodAll enc Try.prog W 0 (fun _ => true) true Try.f11.params.toList args.toList ds p := hA0
  rw [Try.params11] at hA hval
  obtain ⟨v0, vs0, d0, ds0, p0, q0, hargs, rfl, rfl, h0, r0⟩ := trodAll_cons hA
  obtain ⟨rfl, rfl, rfl⟩ := trodAll_nil r0
  obtain rfl : args = #[v0] := by cases args; simp_all
  obtain ⟨rfl, rfl⟩ := trodVars_none hV
  have k0 := h0
  have lt0 : ∀ x ∈ p0, x.block < W.heap.size := by obtain ⟨m, hm⟩ := k0; exact DataW.trod_lt m _ _ _ hm
  obtain ⟨x0_0, x0_1, x0_2, x0_3, rfl, w0_0, w0_1, w0_2, w0_3⟩ : ∃ x0_0 x0_1 x0_2 x0_3, v0 = .agg #[.string x0_0, .string x0_1, .string x0_2, .string x0_3] ∧ (x0_0).size ≤ maxLen ∧ (x0_1).size ≤ maxLen ∧ (x0_2).size ≤ maxLen ∧ (x0_3).size ≤ maxLen := by
    obtain ⟨cs, rfl, hsz, _⟩ : ∃ cs, v0 = .agg cs ∧ cs.size = Try.prog.cellsOf 56 ∧ Row.okWide Try.prog W .any base 56 cs := by
      have := hval 0 56 v0 rfl rfl
      simpa [Value.okWide, Try.underlying56] using this
    rw [cells56] at hsz
    obtain ⟨c0, c1, c2, c3, rfl⟩ := Joins.array4 hsz
    obtain ⟨fuel, hf⟩ := h0
    obtain ⟨y0, y1, y2, y3, m, hx, hy0, hy1, hy2, hy3⟩ := trod_array4 Try.underlying56 cells9 hf
    obtain ⟨x0, e0, rfl, w0⟩ := DataW.trod_string Try.underlying9 hy0
    obtain ⟨x1, e1, rfl, w1⟩ := DataW.trod_string Try.underlying9 hy1
    obtain ⟨x2, e2, rfl, w2⟩ := DataW.trod_string Try.underlying9 hy2
    obtain ⟨x3, e3, rfl, w3⟩ := DataW.trod_string Try.underlying9 hy3
    simp at e0 e1 e2 e3
    subst e0 e1 e2 e3
    exact ⟨x0, x1, x2, x3, rfl, w0, w1, w2, w3⟩
  obtain ⟨l0_0, rfl, e0_0⟩ := to_list x0_0
  obtain ⟨l0_1, rfl, e0_1⟩ := to_list x0_1
  obtain ⟨l0_2, rfl, e0_2⟩ := to_list x0_2
  obtain ⟨l0_3, rfl, e0_3⟩ := to_list x0_3
  clear hA0 hval0
  refine (opens_walk (fun i => match i with | 0 => l0_0 | 1 => l0_1 | 2 => l0_2 | _ => l0_3) W).mono fun e W' ⟨he, bel⟩ => ?_
  subst he
  exact ⟨_, rfl, _, _, _, [], _, [], hW', trodAll_mk1 (shut_bool Try.underlying4 _), (trodAll_cons_mk (Below.trod laidOut (by kernel_rfl) (of_decide_eq_true (by kernel_rfl)) k0 bel lt0) trodAll_mk0), rfl, bel.frame _, fun h => by cases h⟩

theorem over : Rows.cipherOpensRow.holds Try.pinned (OpenSpec.ofChange Rows.cipherOpensSpec) :=
  OpenClaim.holds_of_wide 11 Try.f11 rfl rfl rfl rfl rfl rfl rfl ⟨rfl, rfl, rfl, rfl, rfl⟩ rfl rfl rfl rfl rfl (by kernel_rfl) Try.func11 (by kernel_rfl)
    (of_decide_eq_true (by kernel_rfl)) (by unfold Func.isWrapper; first | (rw [if_pos (by decide +kernel)]; kernel_rfl) | (rw [if_neg (by decide +kernel)]; exact ⟨rfl, rfl⟩))
    (fun os started H enc _ => lifted os started H enc)

/-- THE STATEMENT -/
theorem proved : Rows.CipherOpensSaid := over
#print axioms proved
end Go.Proofs.Ytgkhdpplmdkkaaa.cipherOpens
