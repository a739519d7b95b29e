/- MerkleMissing: whether anything shows that any path is not there is as the document says, for every input; the tables of the library that the row lists are tied to the program. -/
import Derived.Test.YtdeggemomajhcaaDoorTie
import Derived.Test.YtdeggemomajhcaaDoorCards
import Derived.Test.YtdeggemomajhcaaDoorHMerkleMissingx16
import Derived.Test.YtdeggemomajhcaaDoorPureMerkleMissing
import Derived.WalkKit
import Derived.ProofKit
import Derived.OpenShut
import Derived.ShutString
import Derived.ChangeOld
import Derived.Below
import Derived.SizedLaws
import Derived.LaidMore
import Derived.Lay
import Derived.SevenTiedAt
import Derived.Stop.Joined
import Derived.Lib.SmallJoins
import Derived.Laws.IdiomArrays
import Derived.Deep.Slices
import Derived.Deep.Strs
namespace Go.Proofs.YtdeggemomajhcaaDoor.merkleMissing
open Go.ChangeShapes Go.WideShapes Go.ChangeAt Go.RowKit
open Go.ChangeMaps (open_string shut_string)
open Go.Proofs.YtdeggemomajhcaaDoorW.PrintWords Go.Proofs.YtdeggemomajhcaaDoorW.PrintLast Go.Proofs.YtdeggemomajhcaaDoorW.PrintMore Go.Proofs.YtdeggemomajhcaaDoorH.HMerkleMissing
set_option linter.unusedVariables false
set_option linter.unusedSimpArgs false
set_option maxRecDepth 100000
theorem own : ownKnob Tryd.prog.godebug = none := by kernel_rfl
theorem laidOut : laidOutB Tryd.prog = true := by kernel_rfl
theorem cells3 : Tryd.prog.cellsOf 3 = 1 := by kernel_rfl
theorem cells9 : Tryd.prog.cellsOf 9 = 1 := by kernel_rfl
theorem cells32 : Tryd.prog.cellsOf 32 = 1 := by kernel_rfl
theorem cells39 : Tryd.prog.cellsOf 39 = 2 := by kernel_rfl
theorem cells53 : Tryd.prog.cellsOf 53 = 7 := by kernel_rfl
theorem cells55 : Tryd.prog.cellsOf 55 = 10 := by kernel_rfl
section
variable {H : Type} {enc : TypeId × Value → H} {W : World}
theorem op9 {n : Nat} {cs : List Value} {x : DataW H × List MemPlace} (h : DataW.trod enc Tryd.prog W 0 (fun _ => true) true n 9 cs = some x) : ∃ s : ByteArray, cs = [.string s] := by
  obtain ⟨s, e, _, _⟩ := DataW.trod_string Tryd.underlying9 h
  exact ⟨s, e⟩
theorem op3 {n : Nat} {cs : List Value} {x : DataW H × List MemPlace} (h : DataW.trod enc Tryd.prog W 0 (fun _ => true) true n 3 cs = some x) : ∃ a : Int, cs = [.int .i64 a] := by
  obtain ⟨a, e, _, _⟩ := DataW.trod_int Tryd.underlying3 h
  exact ⟨a, e⟩
theorem op39 {n : Nat} {cs : List Value} {x : DataW H × List MemPlace} (h : DataW.trod enc Tryd.prog W 0 (fun _ => true) true n 39 cs = some x) : ∃ (z_0 : ByteArray) (z_1 : ByteArray), cs = [.string z_0, .string z_1] := by
  obtain ⟨xs, n, _, _, hl, hlen, hfi⟩ := DataW.trod_struct Tryd.underlying39 h
  rw [cells39] at hl
  match xs, hlen, cs, hl with
  | [y0, y1], _, [q0, q1], _ =>
    have g0 := hfi 0 _ rfl
    have g1 := hfi 1 _ rfl
    simp [cells3, cells9, cells32, cells39, cells53, cells55] at g0
    simp [cells3, cells9, cells32, cells39, cells53, cells55] at g1
    obtain ⟨z_0, e0⟩ := op9 g0
    obtain ⟨z_1, e1⟩ := op9 g1
    simp at e0
    simp at e1
    subst e0
    subst e1
    exact ⟨z_0, z_1, rfl⟩
theorem op32 {n : Nat} {cs : List Value} {x : DataW H × List MemPlace} (h : DataW.trod enc Tryd.prog W 0 (fun _ => true) true n 32 cs = some x) : ∃ (A : Option Addr) (c : Nat) (l : List ByteArray), cs = [.slice A l.length c] ∧ l.length ≤ c ∧ Kd.C Kd.string W A l.length l := by
  rcases Go.Deep.open_slice Tryd.underlying32 h with ⟨rfl, _⟩ | ⟨a, len, cap, m, n, D, Pl, rfl, hb, hl, hm, hmm, _, hx⟩
  · exact ⟨none, 0, [], rfl, Nat.le_refl 0, rfl, by simp, fun h => absurd h (by simp)⟩
  · have each : ∀ i, i < len → ∃ y : ByteArray, W.cells? 0 (a.add (i * 1)) 1 = some [.string y] := by
      intro i hi
      obtain ⟨cs', h1, h2⟩ := hx i (by rw [hmm]; simp; omega)
      obtain ⟨y, rfl⟩ := op9 h2
      rw [cells9] at h1
      exact ⟨y, h1⟩
    obtain ⟨f, hf⟩ := Go.Deep.choose_lt each
    have hml : cap ≤ 9223372036854775807 := by simp only [maxLen] at hm; omega
    refine ⟨some a, cap, (List.range len).map f, by simp, by simpa using hl, by simp, by simp; omega, fun _ => ⟨a, rfl, fun j p hp => ?_⟩⟩
    have hj : j < len := by
      have := (List.getElem?_eq_some_iff.1 hp).1
      simpa using this
    obtain rfl : f j = p := by
      rw [List.getElem?_map, List.getElem?_range hj] at hp
      simpa using hp
    obtain ⟨_, _, hcell⟩ := World.cells?_some (hf j hj)
    refine ⟨_, rfl, rfl, fun i u hu => ?_⟩
    have hi : i < 1 := by
      have := (List.getElem?_eq_some_iff.1 hu).1
      simpa using this
    have e := hcell i hi
    rw [Go.Deep.add_add] at e
    show W.cell? (a.add (j * 1 + i)) = some u
    rw [e, hu]
theorem op53 {n : Nat} {cs : List Value} {x : DataW H × List MemPlace} (h : DataW.trod enc Tryd.prog W 0 (fun _ => true) true n 53 cs = some x) : ∃ (z_0 : Int) (z_1_0 : ByteArray) (z_1_1 : ByteArray) (z_2_0 : ByteArray) (z_2_1 : ByteArray) (Az_3 : Option Addr) (cz_3 : Nat) (Lz_3 : List ByteArray) (Az_4 : Option Addr) (cz_4 : Nat) (Lz_4 : List ByteArray), cs = [.int .i64 z_0, .string z_1_0, .string z_1_1, .string z_2_0, .string z_2_1, .slice Az_3 Lz_3.length cz_3, .slice Az_4 Lz_4.length cz_4] ∧ Lz_3.length ≤ cz_3 ∧ Kd.C Kd.string W Az_3 Lz_3.length Lz_3 ∧ Lz_4.length ≤ cz_4 ∧ Kd.C Kd.string W Az_4 Lz_4.length Lz_4 := by
  obtain ⟨xs, n, _, _, hl, hlen, hfi⟩ := DataW.trod_struct Tryd.underlying53 h
  rw [cells53] at hl
  match xs, hlen, cs, hl with
  | [y0, y1, y2, y3, y4], _, [q0, q1, q2, q3, q4, q5, q6], _ =>
    have g0 := hfi 0 _ rfl
    have g1 := hfi 1 _ rfl
    have g2 := hfi 2 _ rfl
    have g3 := hfi 3 _ rfl
    have g4 := hfi 4 _ rfl
    simp [cells3, cells9, cells32, cells39, cells53, cells55] at g0
    simp [cells3, cells9, cells32, cells39, cells53, cells55] at g1
    simp [cells3, cells9, cells32, cells39, cells53, cells55] at g2
    simp [cells3, cells9, cells32, cells39, cells53, cells55] at g3
    simp [cells3, cells9, cells32, cells39, cells53, cells55] at g4
    obtain ⟨z_0, e0⟩ := op3 g0
    obtain ⟨z_1_0, z_1_1, e1⟩ := op39 g1
    obtain ⟨z_2_0, z_2_1, e2⟩ := op39 g2
    obtain ⟨Az_3, cz_3, Lz_3, e3, hcz_3, hkz_3⟩ := op32 g3
    obtain ⟨Az_4, cz_4, Lz_4, e4, hcz_4, hkz_4⟩ := op32 g4
    simp at e0
    simp at e1
    simp at e2
    simp at e3
    simp at e4
    subst e0
    obtain ⟨rfl, rfl⟩ := e1
    obtain ⟨rfl, rfl⟩ := e2
    subst e3
    subst e4
    exact ⟨z_0, z_1_0, z_1_1, z_2_0, z_2_1, Az_3, cz_3, Lz_3, Az_4, cz_4, Lz_4, rfl, hcz_3, hkz_3, hcz_4, hkz_4⟩
theorem op55 {n : Nat} {cs : List Value} {x : DataW H × List MemPlace} (h : DataW.trod enc Tryd.prog W 0 (fun _ => true) true n 55 cs = some x) : ∃ (z_0 : ByteArray) (z_1 : Int) (z_2 : ByteArray) (z_3_0 : Int) (z_3_1_0 : ByteArray) (z_3_1_1 : ByteArray) (z_3_2_0 : ByteArray) (z_3_2_1 : ByteArray) (Az_3_3 : Option Addr) (cz_3_3 : Nat) (Lz_3_3 : List ByteArray) (Az_3_4 : Option Addr) (cz_3_4 : Nat) (Lz_3_4 : List ByteArray), cs = [.string z_0, .int .i64 z_1, .string z_2, .int .i64 z_3_0, .string z_3_1_0, .string z_3_1_1, .string z_3_2_0, .string z_3_2_1, .slice Az_3_3 Lz_3_3.length cz_3_3, .slice Az_3_4 Lz_3_4.length cz_3_4] ∧ Lz_3_3.length ≤ cz_3_3 ∧ Kd.C Kd.string W Az_3_3 Lz_3_3.length Lz_3_3 ∧ Lz_3_4.length ≤ cz_3_4 ∧ Kd.C Kd.string W Az_3_4 Lz_3_4.length Lz_3_4 := by
  obtain ⟨xs, n, _, _, hl, hlen, hfi⟩ := DataW.trod_struct Tryd.underlying55 h
  rw [cells55] at hl
  match xs, hlen, cs, hl with
  | [y0, y1, y2, y3], _, [q0, q1, q2, q3, q4, q5, q6, q7, q8, q9], _ =>
    have g0 := hfi 0 _ rfl
    have g1 := hfi 1 _ rfl
    have g2 := hfi 2 _ rfl
    have g3 := hfi 3 _ rfl
    simp [cells3, cells9, cells32, cells39, cells53, cells55] at g0
    simp [cells3, cells9, cells32, cells39, cells53, cells55] at g1
    simp [cells3, cells9, cells32, cells39, cells53, cells55] at g2
    simp [cells3, cells9, cells32, cells39, cells53, cells55] at g3
    obtain ⟨z_0, e0⟩ := op9 g0
    obtain ⟨z_1, e1⟩ := op3 g1
    obtain ⟨z_2, e2⟩ := op9 g2
    obtain ⟨z_3_0, z_3_1_0, z_3_1_1, z_3_2_0, z_3_2_1, Az_3_3, cz_3_3, Lz_3_3, Az_3_4, cz_3_4, Lz_3_4, e3, hcz_3_3, hkz_3_3, hcz_3_4, hkz_3_4⟩ := op53 g3
    simp at e0
    simp at e1
    simp at e2
    simp at e3
    subst e0
    subst e1
    subst e2
    obtain ⟨rfl, rfl, rfl, rfl, rfl, rfl, rfl⟩ := e3
    exact ⟨z_0, z_1, z_2, z_3_0, z_3_1_0, z_3_1_1, z_3_2_0, z_3_2_1, Az_3_3, cz_3_3, Lz_3_3, Az_3_4, cz_3_4, Lz_3_4, rfl, hcz_3_3, hkz_3_3, hcz_3_4, hkz_3_4⟩
end
theorem vo55 {H : Type} {enc : TypeId × Value → H} {W : World} {base : Nat} {v : Value} {d : DataW H} {p : List MemPlace} (hv : Value.okWide Tryd.prog W .any base 55 v) (h : ∃ fuel, DataW.trod enc Tryd.prog W 0 (fun _ => true) true fuel 55 v.cells.toList = some (d, p)) : ∃ (z_0 : ByteArray) (z_1 : Int) (z_2 : ByteArray) (z_3_0 : Int) (z_3_1_0 : ByteArray) (z_3_1_1 : ByteArray) (z_3_2_0 : ByteArray) (z_3_2_1 : ByteArray) (Az_3_3 : Option Addr) (cz_3_3 : Nat) (Lz_3_3 : List ByteArray) (Az_3_4 : Option Addr) (cz_3_4 : Nat) (Lz_3_4 : List ByteArray), v = .agg #[.string z_0, .int .i64 z_1, .string z_2, .int .i64 z_3_0, .string z_3_1_0, .string z_3_1_1, .string z_3_2_0, .string z_3_2_1, .slice Az_3_3 Lz_3_3.length cz_3_3, .slice Az_3_4 Lz_3_4.length cz_3_4] ∧ Lz_3_3.length ≤ cz_3_3 ∧ Kd.C Kd.string W Az_3_3 Lz_3_3.length Lz_3_3 ∧ Lz_3_4.length ≤ cz_3_4 ∧ Kd.C Kd.string W Az_3_4 Lz_3_4.length Lz_3_4 := by
  obtain ⟨cs, rfl, hsz, _⟩ : ∃ cs, v = .agg cs ∧ cs.size = Tryd.prog.cellsOf 55 ∧ Row.okWide Tryd.prog W .any base 55 cs := by
    simpa [Value.okWide, Tryd.underlying55] using hv
  obtain ⟨fuel, hf⟩ := h
  obtain ⟨z_0, z_1, z_2, z_3_0, z_3_1_0, z_3_1_1, z_3_2_0, z_3_2_1, Az_3_3, cz_3_3, Lz_3_3, Az_3_4, cz_3_4, Lz_3_4, e, hcz_3_3, hkz_3_3, hcz_3_4, hkz_3_4⟩ := op55 hf
  refine ⟨z_0, z_1, z_2, z_3_0, z_3_1_0, z_3_1_1, z_3_2_0, z_3_2_1, Az_3_3, cz_3_3, Lz_3_3, Az_3_4, cz_3_4, Lz_3_4, ?_, hcz_3_3, hkz_3_3, hcz_3_4, hkz_3_4⟩
  obtain ⟨l⟩ := cs
  simp [Value.cells] at e
  subst e
  rfl
set_option maxHeartbeats 1000000 in
theorem lifted (os : Os) (started : os.Started) (H : Type) (enc : TypeId × Value → H) :
    ReturnsInHanded {} Tryd.checked os 7 .any (fun w args => (Rows.merkleMissingSpec.pre enc Tryd.prog Tryd.f7 Rows.merkleMissingRow.domain false w args ∧ laidMetH Tryd.prog Rows.merkleMissingRow.laid w) ∧ sizedMet enc Tryd.prog Tryd.f7 (OpenSpec.ofChange Rows.merkleMissingSpec) false w args)
      (Rows.merkleMissingSpec.post enc Tryd.prog Tryd.f7 false true false false) := by
  refine returnsInHanded_of_change_and (C := Tryd.checked) (X := fun w _ => laidMetH Tryd.prog Rows.merkleMissingRow.laid w) (fun _ _ _ hh h => h.of_heap hh) own started (by kernel_rfl) Tryd.func7
    (ChangeSpec.witness_shaped (enc := enc) (C := Tryd.checked) (os := os) (X := fun w _ => laidMetH Tryd.prog Rows.merkleMissingRow.laid w) false (World.laidAll Tryd.prog os Rows.merkleMissingRow.laid) #[.agg #[.string ByteArray.empty, .int .i64 0, .string ByteArray.empty, .int .i64 0, .string ByteArray.empty, .string ByteArray.empty, .string ByteArray.empty, .string ByteArray.empty, .slice none 0 0, .slice none 0 0]] 8 (World.laidAll_os _ _ _)
      (World.shaped_of_ZipB (by kernel_rfl) (by kernel_rfl)) (by kernel_rfl) (by kernel_rfl) (by kernel_rfl)
      (by rw [MakeChecks.laidMetH_plain _ _ _ (by kernel_rfl)]; exact laidMet_laidAll _ (by kernel_rfl) (by kernel_rfl))) ?_
  intro W base args ds gs before hval0 hW _ _ _ _
  have hval : ∀ (j : Nat) t v, Tryd.f7.params[j]? = some t → args[j]? = some v → Value.okWide Tryd.prog W .any base t v := hval0
  have hW' := hW
  obtain ⟨p, q, hA0, hV, rfl, hfz, hnd⟩ := hW
  have hA : DataW.TrodAll enc Tryd.prog W 0 (fun _ => true) true Tryd.f7.params.toList args.toList ds p := hA0
  rw [Tryd.params7] at hA hval
  obtain ⟨v0, vs0, d0, ds0, p0, q0, hargs, rfl, rfl, h0, r0⟩ := trodAll_cons hA
  obtain ⟨rfl, rfl, rfl⟩ := trodAll_nil r0
  obtain rfl : args = #[v0] := by cases args; simp_all
  obtain ⟨rfl, rfl⟩ := trodVars_none hV
  have k0 := h0
  have lt0 : ∀ x ∈ p0, x.block < W.heap.size := by obtain ⟨m, hm⟩ := k0; exact DataW.trod_lt m _ _ _ hm
  obtain ⟨a0_0, a0_1, a0_2, a0_3_0, a0_3_1_0, a0_3_1_1, a0_3_2_0, a0_3_2_1, Aa0_3_3, ca0_3_3, La0_3_3, Aa0_3_4, ca0_3_4, La0_3_4, rfl, hca0_3_3, hka0_3_3, hca0_3_4, hka0_3_4⟩ := vo55 (hval 0 55 v0 rfl rfl) h0
  clear hA0 hval0
  obtain ⟨k, hf⟩ := Pure.MerkleMissing a0_0 a0_1 a0_2 a0_3_0 a0_3_1_0 a0_3_1_1 a0_3_2_0 a0_3_2_1 La0_3_3 La0_3_4
  refine (strongroomlaw20_MerkleMissing.calls k a0_0 a0_1 a0_2 a0_3_0 a0_3_1_0 a0_3_1_1 a0_3_2_0 a0_3_2_1 Aa0_3_3 ca0_3_3 La0_3_3 Aa0_3_4 ca0_3_4 La0_3_4 true W hka0_3_3 hca0_3_3 hka0_3_4 hca0_3_4 hf rfl).mono fun e W' ⟨he, bel⟩ => ?_
  subst he
  exact ⟨_, rfl, _, _, _, [], _, [], hW', trodAll_mk1 (shut_bool Tryd.underlying4 _), (trodAll_cons_mk (Below.trod laidOut (by kernel_rfl) (of_decide_eq_true (by kernel_rfl)) k0 bel lt0) trodAll_mk0), rfl, bel.frame _, fun h => by cases h⟩
theorem row_holds : Rows.MerkleMissingSaid :=
  OpenClaim.holds_of_wide 7 Tryd.f7 rfl rfl rfl rfl rfl rfl rfl ⟨rfl, rfl, rfl, rfl, rfl⟩ rfl rfl rfl rfl rfl (by kernel_rfl) Tryd.func7 (by kernel_rfl)
    (of_decide_eq_true (by kernel_rfl)) (by unfold Func.isWrapper; first | (rw [if_pos (by decide +kernel)]; kernel_rfl) | (rw [if_neg (by decide +kernel)]; exact ⟨rfl, rfl⟩))
    (fun os started H enc _ => lifted os started H enc)
theorem card : Rows.MerkleMissingCardSaid :=
  Claim7.holds_tied_plain_at .later [] [.data, .pinned] true (true, "ef77083d289b5b9c436495a152641b0c51fc909cb8cc96aa114e26d5af32526d") false
    row_holds (fun _ h => by cases h) (by kernel_rfl) (fun _ h => by cases h) merkleMissing_row_tie rfl ⟨rfl, rfl⟩ (by kernel_rfl) rfl
    (fun f fn hf hfn => by
      obtain rfl : f = 7 := Option.some.inj ((show Tryd.prog.funcNamed "strongroom/strongroomlaw20.MerkleMissing" = some 7 by kernel_rfl).symm.trans hf) |>.symm
      obtain rfl : fn = Tryd.f7 := (Option.some.inj (Tryd.func7.symm.trans hfn)).symm
      exact ⟨by kernel_rfl, fun j t ht => by
        rw [Tryd.params7] at ht
        have hm : t ∈ [55] := by simpa using Array.mem_of_getElem? ht
        have hall : ([55].all fun u => !Tryd.prog.wantsStandIn u) = true := by kernel_rfl
        exact (show Tryd.prog.wantsStandIn t = false by simpa using List.all_eq_true.1 hall t hm)⟩)
    (by kernel_rfl)
#print axioms card
end Go.Proofs.YtdeggemomajhcaaDoor.merkleMissing
namespace Go.Proofs.YtdeggemomajhcaaDoor
/-- The card, under a short name, for the claim. -/
theorem merkleMissing_card : Rows.MerkleMissingCardSaid := merkleMissing.card
end Go.Proofs.YtdeggemomajhcaaDoor
