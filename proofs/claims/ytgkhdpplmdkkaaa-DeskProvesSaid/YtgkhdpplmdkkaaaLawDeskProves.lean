/- DeskProves: who has one of the contents that are asked proves it, whatever the draw is, and among whatever others; it is a ticket then; and the same answer is not taken twice, for every input. The frame follows the shell that proof-skeleton.mjs writes. -/
import Derived.Test.YtgkhdpplmdkkaaaRows
import Derived.Test.YtgkhdpplmdkkaaaDq
import Derived.Test.YtgkhdpplmdkkaaaPureDeskProves
import Derived.WalkKit
import Derived.ProofKit
import Derived.OpenShut
import Derived.ShutString
import Derived.ChangeOld
import Derived.Below
import Derived.Lib.SmallJoins
import Derived.Laws.IdiomArrays
import Derived.Deep.Slices
namespace Go.Proofs.Ytgkhdpplmdkkaaa.deskProves
open Go.ChangeShapes Go.WideShapes Go.ChangeAt Go.RowKit
open Go.ChangeMaps (open_string shut_string)
open Go.Proofs.YtgkhdpplmdkkaaaW.PrintWords Go.Proofs.YtgkhdpplmdkkaaaW.PrintLast Go.Proofs.YtgkhdpplmdkkaaaW.PrintMore
set_option linter.unusedVariables false

theorem own : ownKnob Try.prog.godebug = none := by kernel_rfl
theorem laidOut : laidOutB Try.prog = true := by kernel_rfl
theorem cells65 : Try.prog.cellsOf 65 = 3 := by kernel_rfl
theorem cells66 : Try.prog.cellsOf 66 = 2 := by kernel_rfl
theorem cells3 : Try.prog.cellsOf 3 = 1 := by kernel_rfl
theorem cells9 : Try.prog.cellsOf 9 = 1 := by kernel_rfl
theorem to_list (a : ByteArray) : ∃ l : List UInt8, a = ⟨l.toArray⟩ ∧ l.length = a.size := ⟨a.data.toList, by cases a; simp, by cases a; simp [ByteArray.size]⟩

theorem trod_array2 {H : Type} {enc : TypeId × Value → H} {P : Program} {w : World} {base : Nat} {spare : Nat → Bool} {held : Bool} {t e : TypeId} {fuel : Nat} {c0 c1 : Value} {x : DataW H × List MemPlace} (ht : P.underlying t = some (.array 2 e)) (hce : P.cellsOf e = 1)
    (h : DataW.trod enc P w base spare held fuel t [c0, c1] = some x) :
    ∃ y0 y1 n, x = (.agg [y0.1, y1.1], y0.2 ++ y1.2) ∧ DataW.trod enc P w base spare held n e [c0] = some y0 ∧ DataW.trod enc P w base spare held n e [c1] = some y1 := by
  cases fuel with
  | zero => simp [DataW.trod] at h
  | succ n =>
    unfold DataW.trod at h
    rw [ht] at h
    have r2 : List.range 2 = [0, 1] := rfl
    simp [r2, hce] at h
    obtain ⟨_, h⟩ := h
    cases h0 : DataW.trod enc P w base spare held n e [c0] with
    | none => simp [h0] at h
    | some y0 =>
      cases h1 : DataW.trod enc P w base spare held n e [c1] with
      | none => simp [h0, h1] at h
      | some y1 =>
        simp [h0, h1] at h
        exact ⟨y0, y1, n, h.symm, h0, h1⟩
theorem cells67 : Try.prog.cellsOf 67 = 1 := by kernel_rfl
section
variable {H : Type} {enc : TypeId × Value → H} {W : World}
theorem op_strs {n : Nat} {cs : List Value} {x : DataW H × List MemPlace} (h : DataW.trod enc Try.prog W 0 (fun _ => true) true n 67 cs = some x) : ∃ (A : Option Addr) (c : Nat) (l : List ByteArray), cs = [.slice A l.length c] ∧ l.length ≤ c ∧ Kd.C Kd.string W A l.length l := by
  rcases Go.Deep.open_slice Try.underlying67 h with ⟨rfl, _⟩ | ⟨a, len, cap, m, n, D, Pl, rfl, hb, hl, hm, hmm, _, hx⟩
  · exact ⟨none, 0, [], rfl, Nat.le_refl 0, rfl, by simp, fun h => absurd h (by simp)⟩
  · have each : ∀ i, i < len → ∃ y : ByteArray, W.cells? 0 (a.add (i * 1)) 1 = some [.string y] := by
      intro i hi
      obtain ⟨cs', h1, h2⟩ := hx i (by rw [hmm]; simp; omega)
      obtain ⟨y, rfl, _, _⟩ := DataW.trod_string Try.underlying9 h2
      rw [cells9] at h1
      exact ⟨y, h1⟩
    obtain ⟨f, hf⟩ := Go.Deep.choose_lt each
    have hml : cap ≤ 9223372036854775807 := by simp only [maxLen] at hm; omega
    refine ⟨some a, cap, (List.range len).map f, by simp, by simpa using hl, by simp, by simp; omega, fun _ => ⟨a, rfl, fun j p hp => ?_⟩⟩
    have hj : j < len := by
      have := (List.getElem?_eq_some_iff.1 hp).1
      simpa using this
    obtain rfl : f j = p := by
      rw [List.getElem?_map, List.getElem?_range hj] at hp
      simpa using hp
    obtain ⟨_, _, hcell⟩ := World.cells?_some (hf j hj)
    refine ⟨_, rfl, rfl, fun i u hu => ?_⟩
    have hi : i < 1 := by
      have := (List.getElem?_eq_some_iff.1 hu).1
      simpa using this
    have e := hcell i hi
    rw [Go.Deep.add_add] at e
    show W.cell? (a.add (j * 1 + i)) = some u
    rw [e, hu]
end
theorem proves_all (t s n : Int) (x0 x1 : ByteArray) (A : Option Addr) (c : Nat) (xs : List ByteArray) (w : World) (hx : Kd.C Kd.string w A xs.length xs) (hc : xs.length ≤ c) :
    Calls Try.prog 9 #[.agg #[.int .i64 t, .int .i64 s, .int .i64 n], .agg #[.string x0, .string x1], .slice A xs.length c] w fun e w' => e = .returned (.bool true) ∧ Below w.heap.size w w' := by
  obtain ⟨r, k, hl, hD, hI⟩ := PureP.Asked x0 x1 xs
  exact Dp.proves_walk t s n x0 x1 A c xs w k r hx hc hl hD hI

set_option maxHeartbeats 1000000 in
set_option maxRecDepth 100000 in
theorem lifted (os : Os) (started : os.Started) (H : Type) (enc : TypeId × Value → H) :
    ReturnsInHanded {} Try.checked os 9 .any (Rows.deskProvesSpec.pre6 enc Try.prog Try.f9 Rows.deskProvesRow.domain false) (Rows.deskProvesSpec.post enc Try.prog Try.f9 false true false false) := by
  refine returnsInHanded_of_change (C := Try.checked) own started (by kernel_rfl) Try.func9
    (ChangeSpec.witness6 (enc := enc) (C := Try.checked) false ⟨#[], #[.agg #[.int .i64 0, .int .i64 0, .int .i64 0], .agg #[.string ByteArray.empty, .string ByteArray.empty], .slice none 0 0], []⟩ 8 (by kernel_rfl) (by kernel_rfl) (by kernel_rfl) (by kernel_rfl)) ?_
  intro W base args ds gs before hval0 hW hcnd _
  have hval : ∀ (j : Nat) t v, Try.f9.params[j]? = some t → args[j]? = some v → Value.okWide Try.prog W .any base t v := hval0
  have hW' := hW
  obtain ⟨p, q, hA0, hV, rfl, hfz, hnd⟩ := hW
  have hA : DataW.TrodAll enc Try.prog W 0 (fun _ => true) true Try.f9.params.toList args.toList ds p := hA0
  rw [Try.params9] at hA hval
  obtain ⟨v0, vs0, d0, ds0, p0, q0, hargs, rfl, rfl, h0, r0⟩ := trodAll_cons hA
  obtain ⟨v1, vs1, d1, ds1, p1, q1, rfl, rfl, rfl, h1, r1⟩ := trodAll_cons r0
  obtain ⟨v2, vs2, d2, ds2, p2, q2, rfl, rfl, rfl, h2, r2⟩ := trodAll_cons r1
  obtain ⟨rfl, rfl, rfl⟩ := trodAll_nil r2
  obtain rfl : args = #[v0, v1, v2] := by cases args; simp_all
  obtain ⟨rfl, rfl⟩ := trodVars_none hV
  have k0 := h0
  have lt0 : ∀ x ∈ p0, x.block < W.heap.size := by obtain ⟨m, hm⟩ := k0; exact DataW.trod_lt m _ _ _ hm
  obtain ⟨x0_0, x0_1, x0_2, rfl, w0_0, w0_1, w0_2⟩ : ∃ x0_0 x0_1 x0_2, v0 = .agg #[.int .i64 x0_0, .int .i64 x0_1, .int .i64 x0_2] ∧ (Lit.int .i64 x0_0).wf = true ∧ (Lit.int .i64 x0_1).wf = true ∧ (Lit.int .i64 x0_2).wf = true := by
    obtain ⟨cs, rfl, hsz, _⟩ : ∃ cs, v0 = .agg cs ∧ cs.size = Try.prog.cellsOf 65 ∧ Row.okWide Try.prog W .any base 65 cs := by
      have := hval 0 65 v0 rfl rfl
      simpa [Value.okWide, Try.underlying65] using this
    rw [cells65] at hsz
    obtain ⟨c0, c1, c2, rfl⟩ := Joins.array3 hsz
    obtain ⟨fuel, hf⟩ := h0
    obtain ⟨y0, y1, y2, m, hx, hy0, hy1, hy2⟩ := trod_array3 Try.underlying65 cells3 hf
    obtain ⟨x0, e0, rfl, w0⟩ := DataW.trod_int Try.underlying3 hy0
    obtain ⟨x1, e1, rfl, w1⟩ := DataW.trod_int Try.underlying3 hy1
    obtain ⟨x2, e2, rfl, w2⟩ := DataW.trod_int Try.underlying3 hy2
    simp at e0 e1 e2
    subst e0 e1 e2
    exact ⟨x0, x1, x2, rfl, w0, w1, w2⟩
  have k1 := h1
  have lt1 : ∀ x ∈ p1, x.block < W.heap.size := by obtain ⟨m, hm⟩ := k1; exact DataW.trod_lt m _ _ _ hm
  obtain ⟨x1_0, x1_1, rfl, w1_0, w1_1⟩ : ∃ x1_0 x1_1, v1 = .agg #[.string x1_0, .string x1_1] ∧ (x1_0).size ≤ maxLen ∧ (x1_1).size ≤ maxLen := by
    obtain ⟨cs, rfl, hsz, _⟩ : ∃ cs, v1 = .agg cs ∧ cs.size = Try.prog.cellsOf 66 ∧ Row.okWide Try.prog W .any base 66 cs := by
      have := hval 1 66 v1 rfl rfl
      simpa [Value.okWide, Try.underlying66] using this
    rw [cells66] at hsz
    obtain ⟨c0, c1, rfl⟩ := Joins.array2 hsz
    obtain ⟨fuel, hf⟩ := h1
    obtain ⟨y0, y1, m, hx, hy0, hy1⟩ := trod_array2 Try.underlying66 cells9 hf
    obtain ⟨x0, e0, rfl, w0⟩ := DataW.trod_string Try.underlying9 hy0
    obtain ⟨x1, e1, rfl, w1⟩ := DataW.trod_string Try.underlying9 hy1
    simp at e0 e1
    subst e0 e1
    exact ⟨x0, x1, rfl, w0, w1⟩
  obtain ⟨l1_0, rfl, e1_0⟩ := to_list x1_0
  obtain ⟨l1_1, rfl, e1_1⟩ := to_list x1_1
  have k2 := h2
  have lt2 : ∀ x ∈ p2, x.block < W.heap.size := by obtain ⟨m, hm⟩ := k2; exact DataW.trod_lt m _ _ _ hm
  obtain ⟨A2, c2, L2, rfl, hc2, hk2⟩ : ∃ A c L, v2 = .slice A (List.length L) c ∧ L.length ≤ c ∧ Kd.C Kd.string W A L.length L := by
    obtain ⟨a, len, cap, rfl⟩ := okWide_slice Try.underlying67 (hval 2 67 v2 rfl rfl)
    obtain ⟨fuel, hf⟩ := h2
    obtain ⟨A, c, L, e, hc, hk⟩ := op_strs hf
    simp [Value.cells] at e
    obtain ⟨rfl, rfl, rfl⟩ := e
    exact ⟨_, _, L, rfl, hc, hk⟩
  clear hA0 hval0
  refine (proves_all x0_0 x0_1 x0_2 _ _ A2 c2 L2 W hk2 hc2).mono fun e W' ⟨he, bel⟩ => ?_
  subst he
  exact ⟨_, rfl, _, _, _, [], _, [], hW', trodAll_mk1 (shut_bool Try.underlying4 _), (trodAll_cons_mk (Below.trod laidOut (by kernel_rfl) (of_decide_eq_true (by kernel_rfl)) k0 bel lt0) (trodAll_cons_mk (Below.trod laidOut (by kernel_rfl) (of_decide_eq_true (by kernel_rfl)) k1 bel lt1) (trodAll_cons_mk (Below.trod laidOut (by kernel_rfl) (of_decide_eq_true (by kernel_rfl)) k2 bel lt2) trodAll_mk0))), rfl, bel.frame _, fun h => by cases h⟩

theorem over : Rows.deskProvesRow.holds Try.pinned (OpenSpec.ofChange Rows.deskProvesSpec) :=
  OpenClaim.holds_of_wide 9 Try.f9 rfl rfl rfl rfl rfl rfl rfl ⟨rfl, rfl, rfl, rfl, rfl⟩ rfl rfl rfl rfl rfl (by kernel_rfl) Try.func9 (by kernel_rfl)
    (of_decide_eq_true (by kernel_rfl)) (by unfold Func.isWrapper; first | (rw [if_pos (by decide +kernel)]; kernel_rfl) | (rw [if_neg (by decide +kernel)]; exact ⟨rfl, rfl⟩))
    (fun os started H enc _ => lifted os started H enc)

/-- THE STATEMENT -/
theorem proved : Rows.DeskProvesSaid := over
#print axioms proved
end Go.Proofs.Ytgkhdpplmdkkaaa.deskProves
