/- DeskPlays: whatever is looked at, answered, claimed, proved, spent and forgotten, of any tenants and slots, in whatever order: every answer, and what each session has, are the document's, for every input. The frame follows the shell that proof-skeleton.mjs writes. -/
import Derived.Test.YtgkhdpplmdkkaaaRows
import Derived.Test.YtgkhdpplmdkkaaaEQ
import Derived.WalkKit
import Derived.ProofKit
import Derived.OpenShut
import Derived.ShutString
import Derived.ChangeOld
import Derived.Below
import Derived.Lib.SmallJoins
import Derived.Laws.IdiomArrays
import Derived.Deep.Slices
namespace Go.Proofs.Ytgkhdpplmdkkaaa.deskPlays
open Go.ChangeShapes Go.WideShapes Go.ChangeAt Go.RowKit
open Go.ChangeMaps (open_string shut_string)
open Go.Proofs.YtgkhdpplmdkkaaaW.PrintWords Go.Proofs.YtgkhdpplmdkkaaaW.PrintLast Go.Proofs.YtgkhdpplmdkkaaaW.PrintMore
set_option linter.unusedVariables false

theorem own : ownKnob Try.prog.godebug = none := by kernel_rfl
theorem laidOut : laidOutB Try.prog = true := by kernel_rfl
theorem to_list (a : ByteArray) : ∃ l : List UInt8, a = ⟨l.toArray⟩ ∧ l.length = a.size := ⟨a.data.toList, by cases a; simp, by cases a; simp [ByteArray.size]⟩

theorem cells9 : Try.prog.cellsOf 9 = 1 := by kernel_rfl
theorem cells3 : Try.prog.cellsOf 3 = 1 := by kernel_rfl
theorem cells4 : Try.prog.cellsOf 4 = 1 := by kernel_rfl
theorem cells69 : Try.prog.cellsOf 69 = 9 := by kernel_rfl
theorem cells67 : Try.prog.cellsOf 67 = 1 := by kernel_rfl
section
variable {H : Type} {enc : TypeId × Value → H} {W : World}
theorem op_strs {n : Nat} {cs : List Value} {x : DataW H × List MemPlace} (h : DataW.trod enc Try.prog W 0 (fun _ => true) true n 67 cs = some x) : ∃ (A : Option Addr) (c : Nat) (l : List ByteArray), cs = [.slice A l.length c] ∧ l.length ≤ c ∧ Kd.C Kd.string W A l.length l := by
  rcases Go.Deep.open_slice Try.underlying67 h with ⟨rfl, _⟩ | ⟨a, len, cap, m, n, D, Pl, rfl, hb, hl, hm, hmm, _, hx⟩
  · exact ⟨none, 0, [], rfl, Nat.le_refl 0, rfl, by simp, fun h => absurd h (by simp)⟩
  · have each : ∀ i, i < len → ∃ y : ByteArray, W.cells? 0 (a.add (i * 1)) 1 = some [.string y] := by
      intro i hi
      obtain ⟨cs', h1, h2⟩ := hx i (by rw [hmm]; simp; omega)
      obtain ⟨y, rfl, _, _⟩ := DataW.trod_string Try.underlying9 h2
      rw [cells9] at h1
      exact ⟨y, h1⟩
    obtain ⟨f, hf⟩ := Go.Deep.choose_lt each
    have hml : cap ≤ 9223372036854775807 := by simp only [maxLen] at hm; omega
    refine ⟨some a, cap, (List.range len).map f, by simp, by simpa using hl, by simp, by simp; omega, fun _ => ⟨a, rfl, fun j p hp => ?_⟩⟩
    have hj : j < len := by
      have := (List.getElem?_eq_some_iff.1 hp).1
      simpa using this
    obtain rfl : f j = p := by
      rw [List.getElem?_map, List.getElem?_range hj] at hp
      simpa using hp
    obtain ⟨_, _, hcell⟩ := World.cells?_some (hf j hj)
    refine ⟨_, rfl, rfl, fun i u hu => ?_⟩
    have hi : i < 1 := by
      have := (List.getElem?_eq_some_iff.1 hu).1
      simpa using this
    have e := hcell i hi
    rw [Go.Deep.add_add] at e
    show W.cell? (a.add (j * 1 + i)) = some u
    rw [e, hu]
set_option maxRecDepth 100000 in
theorem op_one {n : Nat} {cs : List Value} {x : DataW H × List MemPlace} (h : DataW.trod enc Try.prog W 0 (fun _ => true) true n 69 cs = some x) : ∃ o : Ds.OpV, cs = [.int .i64 o.kd, .int .i64 o.t, .int .i64 o.s, .int .i64 o.q, .int .i64 o.n, .string o.sum, .string o.text, .bool o.right, .slice o.A o.cx.length o.c] ∧ o.cx.length ≤ o.c ∧ Kd.C Kd.string W o.A o.cx.length o.cx := by
  obtain ⟨xs, m, _, _, hl, hlen, hf⟩ := DataW.trod_struct Try.underlying69 h
  rw [cells69] at hl
  have get : ∀ i, i < 9 → ∃ y, xs[i]? = some y := fun i hi => ⟨_, List.getElem?_eq_getElem (by rw [hlen]; exact hi)⟩
  match cs, hl with
  | [v0, v1, v2, v3, v4, v5, v6, v7, v8], _ =>
    have f0 : DataW.trod enc Try.prog W 0 (fun _ => true) true m 3 [v0] = xs[0]? := by simpa [cells3] using hf 0 _ rfl
    obtain ⟨y0, hy0⟩ := get 0 (by decide)
    rw [hy0] at f0
    have f1 : DataW.trod enc Try.prog W 0 (fun _ => true) true m 3 [v1] = xs[1]? := by simpa [cells3] using hf 1 _ rfl
    obtain ⟨y1, hy1⟩ := get 1 (by decide)
    rw [hy1] at f1
    have f2 : DataW.trod enc Try.prog W 0 (fun _ => true) true m 3 [v2] = xs[2]? := by simpa [cells3] using hf 2 _ rfl
    obtain ⟨y2, hy2⟩ := get 2 (by decide)
    rw [hy2] at f2
    have f3 : DataW.trod enc Try.prog W 0 (fun _ => true) true m 3 [v3] = xs[3]? := by simpa [cells3] using hf 3 _ rfl
    obtain ⟨y3, hy3⟩ := get 3 (by decide)
    rw [hy3] at f3
    have f4 : DataW.trod enc Try.prog W 0 (fun _ => true) true m 3 [v4] = xs[4]? := by simpa [cells3] using hf 4 _ rfl
    obtain ⟨y4, hy4⟩ := get 4 (by decide)
    rw [hy4] at f4
    have f5 : DataW.trod enc Try.prog W 0 (fun _ => true) true m 9 [v5] = xs[5]? := by simpa [cells9] using hf 5 _ rfl
    obtain ⟨y5, hy5⟩ := get 5 (by decide)
    rw [hy5] at f5
    have f6 : DataW.trod enc Try.prog W 0 (fun _ => true) true m 9 [v6] = xs[6]? := by simpa [cells9] using hf 6 _ rfl
    obtain ⟨y6, hy6⟩ := get 6 (by decide)
    rw [hy6] at f6
    have f7 : DataW.trod enc Try.prog W 0 (fun _ => true) true m 4 [v7] = xs[7]? := by simpa [cells4] using hf 7 _ rfl
    obtain ⟨y7, hy7⟩ := get 7 (by decide)
    rw [hy7] at f7
    have f8 : DataW.trod enc Try.prog W 0 (fun _ => true) true m 67 [v8] = xs[8]? := by simpa [cells67] using hf 8 _ rfl
    obtain ⟨y8, hy8⟩ := get 8 (by decide)
    rw [hy8] at f8
    obtain ⟨a0, e0, _, _⟩ := DataW.trod_int Try.underlying3 f0
    obtain ⟨a1, e1, _, _⟩ := DataW.trod_int Try.underlying3 f1
    obtain ⟨a2, e2, _, _⟩ := DataW.trod_int Try.underlying3 f2
    obtain ⟨a3, e3, _, _⟩ := DataW.trod_int Try.underlying3 f3
    obtain ⟨a4, e4, _, _⟩ := DataW.trod_int Try.underlying3 f4
    obtain ⟨a5, e5, _, _⟩ := DataW.trod_string Try.underlying9 f5
    obtain ⟨a6, e6, _, _⟩ := DataW.trod_string Try.underlying9 f6
    obtain ⟨a7, e7, _, _⟩ := DataW.trod_bool Try.underlying4 f7
    obtain ⟨A8, c8, l8, e8, hl8, hC8⟩ := op_strs f8
    simp only [List.cons.injEq, and_true] at e0 e1 e2 e3 e4 e5 e6 e7 e8
    subst e0 e1 e2 e3 e4 e5 e6 e7 e8
    exact ⟨⟨a0, a1, a2, a3, a4, a5, a6, a7, A8, c8, l8⟩, rfl, hl8, hC8⟩
theorem op_ops {n : Nat} {cs : List Value} {x : DataW H × List MemPlace} (h : DataW.trod enc Try.prog W 0 (fun _ => true) true n 85 cs = some x) : ∃ (A : Option Addr) (c : Nat) (l : List Ds.OpV), cs = [.slice A l.length c] ∧ Ds.OpsAt W A l := by
  rcases Go.Deep.open_slice Try.underlying85 h with ⟨rfl, _⟩ | ⟨a, len, cap, m, n, D, Pl, rfl, hb, hl, hm, hmm, _, hx⟩
  · exact ⟨none, 0, [], rfl, fun i o hi => by simp at hi⟩
  · have each : ∀ i, i < len → ∃ o : Ds.OpV, W.cells? 0 (a.add (i * 9)) 9 = some [.int .i64 o.kd, .int .i64 o.t, .int .i64 o.s, .int .i64 o.q, .int .i64 o.n, .string o.sum, .string o.text, .bool o.right, .slice o.A o.cx.length o.c] ∧ o.cx.length ≤ o.c ∧ Kd.C Kd.string W o.A o.cx.length o.cx := by
      intro i hi
      obtain ⟨cs', h1, h2⟩ := hx i (by rw [hmm]; simp; omega)
      obtain ⟨o, rfl, h3, h4⟩ := op_one h2
      rw [cells69] at h1
      exact ⟨o, h1, h3, h4⟩
    obtain ⟨f, hf⟩ := Go.Deep.choose_lt each
    refine ⟨some a, cap, (List.range len).map f, by simp, fun i o hi => ?_⟩
    have hj : i < len := by
      have := (List.getElem?_eq_some_iff.1 hi).1
      simpa using this
    obtain rfl : f i = o := by
      rw [List.getElem?_map, List.getElem?_range hj] at hi
      simpa using hi
    obtain ⟨hcs, h3, h4⟩ := hf i hj
    obtain ⟨_, _, hcell⟩ := World.cells?_some hcs
    have at_ : ∀ k v, k < 9 → [Value.int .i64 (f i).kd, .int .i64 (f i).t, .int .i64 (f i).s, .int .i64 (f i).q, .int .i64 (f i).n, .string (f i).sum, .string (f i).text, .bool (f i).right, .slice (f i).A (f i).cx.length (f i).c][k]? = some v → W.cell? ((a.add (i * 9)).add k) = some v := fun k v hk hv => by rw [hcell k hk, hv]
    have e0 := at_ 0 _ (by decide) rfl
    have e1 := at_ 1 _ (by decide) rfl
    have e2 := at_ 2 _ (by decide) rfl
    have e3 := at_ 3 _ (by decide) rfl
    have e4 := at_ 4 _ (by decide) rfl
    have e5 := at_ 5 _ (by decide) rfl
    have e6 := at_ 6 _ (by decide) rfl
    have e7 := at_ 7 _ (by decide) rfl
    have e8 := at_ 8 _ (by decide) rfl
    exact ⟨a, rfl, e0, e1, e2, e3, e4, e5, e6, e7, e8, h3, h4⟩
end

set_option maxHeartbeats 1000000 in
set_option maxRecDepth 100000 in
theorem lifted (os : Os) (started : os.Started) (H : Type) (enc : TypeId × Value → H) :
    ReturnsInHanded {} Try.checked os 14 .any (Rows.deskPlaysSpec.pre6 enc Try.prog Try.f14 Rows.deskPlaysRow.domain false) (Rows.deskPlaysSpec.post enc Try.prog Try.f14 false true false false) := by
  refine returnsInHanded_of_change (C := Try.checked) own started (by kernel_rfl) Try.func14
    (ChangeSpec.witness6 (enc := enc) (C := Try.checked) false ⟨#[], #[.slice none 0 0], []⟩ 8 (by kernel_rfl) (by kernel_rfl) (by kernel_rfl) (by kernel_rfl)) ?_
  intro W base args ds gs before hval0 hW hcnd _
  have hval : ∀ (j : Nat) t v, Try.f14.params[j]? = some t → args[j]? = some v → Value.okWide Try.prog W .any base t v := hval0
  have hW' := hW
  obtain ⟨p, q, hA0, hV, rfl, hfz, hnd⟩ := hW
  have hA : DataW.TrodAll enc Try.prog W 0 (fun _ => true) true Try.f14.params.toList args.toList ds p := hA0
  rw [Try.params14] at hA hval
  obtain ⟨v0, vs0, d0, ds0, p0, q0, hargs, rfl, rfl, h0, r0⟩ := trodAll_cons hA
  obtain ⟨rfl, rfl, rfl⟩ := trodAll_nil r0
  obtain rfl : args = #[v0] := by cases args; simp_all
  obtain ⟨rfl, rfl⟩ := trodVars_none hV
  have k0 := h0
  have lt0 : ∀ x ∈ p0, x.block < W.heap.size := by obtain ⟨m, hm⟩ := k0; exact DataW.trod_lt m _ _ _ hm
  obtain ⟨A0, c0, L0, rfl, hk0⟩ : ∃ A c L, v0 = .slice A (List.length L) c ∧ Ds.OpsAt W A L := by
    obtain ⟨a, len, cap, rfl⟩ := okWide_slice Try.underlying85 (hval 0 85 v0 rfl rfl)
    obtain ⟨fuel, hf⟩ := h0
    obtain ⟨A, c, L, e, hk⟩ := op_ops hf
    simp [Value.cells] at e
    obtain ⟨rfl, rfl, rfl⟩ := e
    exact ⟨_, _, L, rfl, hk⟩
  clear hA0 hval0
  refine (Ds.plays_walk A0 c0 L0 W hk0).mono fun e W' ⟨he, bel⟩ => ?_
  subst he
  exact ⟨_, rfl, _, _, _, [], _, [], hW', trodAll_mk1 (shut_bool Try.underlying4 _), (trodAll_cons_mk (Below.trod laidOut (by kernel_rfl) (of_decide_eq_true (by kernel_rfl)) k0 bel lt0) trodAll_mk0), rfl, bel.frame _, fun h => by cases h⟩

theorem over : Rows.deskPlaysRow.holds Try.pinned (OpenSpec.ofChange Rows.deskPlaysSpec) :=
  OpenClaim.holds_of_wide 14 Try.f14 rfl rfl rfl rfl rfl rfl rfl ⟨rfl, rfl, rfl, rfl, rfl⟩ rfl rfl rfl rfl rfl (by kernel_rfl) Try.func14 (by kernel_rfl)
    (of_decide_eq_true (by kernel_rfl)) (by unfold Func.isWrapper; first | (rw [if_pos (by decide +kernel)]; kernel_rfl) | (rw [if_neg (by decide +kernel)]; exact ⟨rfl, rfl⟩))
    (fun os started H enc _ => lifted os started H enc)

/-- THE STATEMENT -/
theorem proved : Rows.DeskPlaysSaid := over
#print axioms proved
end Go.Proofs.Ytgkhdpplmdkkaaa.deskPlays
