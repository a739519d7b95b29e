/- MerkleApplies: what any changes make of any list, or why they can not be made, is as the document says, and so is what stands under any place of it, for every input; the tables of the library that the row lists are tied to the program. -/
import Derived.Test.YtdeggemomajhcaaDoorTie
import Derived.Test.YtdeggemomajhcaaDoorCards
import Derived.Test.YtdeggemomajhcaaDoorHMerkleAppliesx15
import Derived.Test.YtdeggemomajhcaaDoorPureMerkleApplies
import Derived.WalkKit
import Derived.ProofKit
import Derived.OpenShut
import Derived.ShutString
import Derived.ChangeOld
import Derived.Below
import Derived.SizedLaws
import Derived.LaidMore
import Derived.Lay
import Derived.SevenTiedAt
import Derived.Stop.Joined
import Derived.Lib.SmallJoins
import Derived.Laws.IdiomArrays
import Derived.Deep.Slices
import Derived.Deep.Strs
namespace Go.Proofs.YtdeggemomajhcaaDoor.merkleApplies
open Go.ChangeShapes Go.WideShapes Go.ChangeAt Go.RowKit
open Go.ChangeMaps (open_string shut_string)
open Go.Proofs.YtdeggemomajhcaaDoorW.PrintWords Go.Proofs.YtdeggemomajhcaaDoorW.PrintLast Go.Proofs.YtdeggemomajhcaaDoorW.PrintMore Go.Proofs.YtdeggemomajhcaaDoorH.HMerkleApplies
set_option linter.unusedVariables false
set_option linter.unusedSimpArgs false
set_option maxRecDepth 100000
theorem own : ownKnob Tryd.prog.godebug = none := by kernel_rfl
theorem laidOut : laidOutB Tryd.prog = true := by kernel_rfl
theorem cells9 : Tryd.prog.cellsOf 9 = 1 := by kernel_rfl
theorem cells22 : Tryd.prog.cellsOf 22 = 1 := by kernel_rfl
theorem cells39 : Tryd.prog.cellsOf 39 = 2 := by kernel_rfl
theorem cells63 : Tryd.prog.cellsOf 63 = 1 := by kernel_rfl
theorem cells67 : Tryd.prog.cellsOf 67 = 3 := by kernel_rfl
section
variable {H : Type} {enc : TypeId × Value → H} {W : World}
theorem op9 {n : Nat} {cs : List Value} {x : DataW H × List MemPlace} (h : DataW.trod enc Tryd.prog W 0 (fun _ => true) true n 9 cs = some x) : ∃ s : ByteArray, cs = [.string s] := by
  obtain ⟨s, e, _, _⟩ := DataW.trod_string Tryd.underlying9 h
  exact ⟨s, e⟩
theorem op39 {n : Nat} {cs : List Value} {x : DataW H × List MemPlace} (h : DataW.trod enc Tryd.prog W 0 (fun _ => true) true n 39 cs = some x) : ∃ (z_0 : ByteArray) (z_1 : ByteArray), cs = [.string z_0, .string z_1] := by
  obtain ⟨xs, n, _, _, hl, hlen, hfi⟩ := DataW.trod_struct Tryd.underlying39 h
  rw [cells39] at hl
  match xs, hlen, cs, hl with
  | [y0, y1], _, [q0, q1], _ =>
    have g0 := hfi 0 _ rfl
    have g1 := hfi 1 _ rfl
    simp [cells9, cells22, cells39, cells63, cells67] at g0
    simp [cells9, cells22, cells39, cells63, cells67] at g1
    obtain ⟨z_0, e0⟩ := op9 g0
    obtain ⟨z_1, e1⟩ := op9 g1
    simp at e0
    simp at e1
    subst e0
    subst e1
    exact ⟨z_0, z_1, rfl⟩
instance : Inhabited S39 := ⟨z39⟩
theorem op22 {n : Nat} {cs : List Value} {x : DataW H × List MemPlace} (h : DataW.trod enc Tryd.prog W 0 (fun _ => true) true n 22 cs = some x) : ∃ (A : Option Addr) (c : Nat) (l : List S39), cs = [.slice A l.length c] ∧ l.length ≤ c ∧ Kd.C k39 W A l.length l := by
  rcases Go.Deep.open_slice Tryd.underlying22 h with ⟨rfl, _⟩ | ⟨a, len, cap, m, n, D, Pl, rfl, hb, hl, hm, hmm, _, hx⟩
  · exact ⟨none, 0, [], rfl, Nat.le_refl 0, rfl, by simp, fun h => absurd h (by simp)⟩
  · have each : ∀ i, i < len → ∃ y : S39, W.cells? 0 (a.add (i * 2)) 2 = some [.string y.f0, .string y.f1] := by
      intro i hi
      obtain ⟨cs', h1, h2⟩ := hx i (by rw [hmm]; simp; omega)
      obtain ⟨z_0, z_1, rfl⟩ := op39 h2
      rw [cells39] at h1
      exact ⟨⟨z_0, z_1⟩, h1⟩
    obtain ⟨f, hf⟩ := Go.Deep.choose_lt each
    have hml : cap ≤ 9223372036854775807 := by simp only [maxLen] at hm; omega
    refine ⟨some a, cap, (List.range len).map f, by simp, by simpa using hl, by simp, by simp; omega, fun _ => ⟨a, rfl, fun j p hp => ?_⟩⟩
    have hj : j < len := by
      have := (List.getElem?_eq_some_iff.1 hp).1
      simpa using this
    obtain rfl : f j = p := by
      rw [List.getElem?_map, List.getElem?_range hj] at hp
      simpa using hp
    obtain ⟨_, _, hcell⟩ := World.cells?_some (hf j hj)
    refine ⟨_, rfl, k39_mk W (f j), fun i u hu => ?_⟩
    have hi : i < 2 := by
      have := (List.getElem?_eq_some_iff.1 hu).1
      simpa using this
    have e := hcell i hi
    rw [Go.Deep.add_add] at e
    show W.cell? (a.add (j * 2 + i)) = some u
    rw [e, hu]
theorem op67 {n : Nat} {cs : List Value} {x : DataW H × List MemPlace} (h : DataW.trod enc Tryd.prog W 0 (fun _ => true) true n 67 cs = some x) : ∃ (z_0 : ByteArray) (z_1 : ByteArray) (z_2 : ByteArray), cs = [.string z_0, .string z_1, .string z_2] := by
  obtain ⟨xs, n, _, _, hl, hlen, hfi⟩ := DataW.trod_struct Tryd.underlying67 h
  rw [cells67] at hl
  match xs, hlen, cs, hl with
  | [y0, y1, y2], _, [q0, q1, q2], _ =>
    have g0 := hfi 0 _ rfl
    have g1 := hfi 1 _ rfl
    have g2 := hfi 2 _ rfl
    simp [cells9, cells22, cells39, cells63, cells67] at g0
    simp [cells9, cells22, cells39, cells63, cells67] at g1
    simp [cells9, cells22, cells39, cells63, cells67] at g2
    obtain ⟨z_0, e0⟩ := op9 g0
    obtain ⟨z_1, e1⟩ := op9 g1
    obtain ⟨z_2, e2⟩ := op9 g2
    simp at e0
    simp at e1
    simp at e2
    subst e0
    subst e1
    subst e2
    exact ⟨z_0, z_1, z_2, rfl⟩
instance : Inhabited S67 := ⟨z67⟩
theorem op63 {n : Nat} {cs : List Value} {x : DataW H × List MemPlace} (h : DataW.trod enc Tryd.prog W 0 (fun _ => true) true n 63 cs = some x) : ∃ (A : Option Addr) (c : Nat) (l : List S67), cs = [.slice A l.length c] ∧ l.length ≤ c ∧ Kd.C k67 W A l.length l := by
  rcases Go.Deep.open_slice Tryd.underlying63 h with ⟨rfl, _⟩ | ⟨a, len, cap, m, n, D, Pl, rfl, hb, hl, hm, hmm, _, hx⟩
  · exact ⟨none, 0, [], rfl, Nat.le_refl 0, rfl, by simp, fun h => absurd h (by simp)⟩
  · have each : ∀ i, i < len → ∃ y : S67, W.cells? 0 (a.add (i * 3)) 3 = some [.string y.f0, .string y.f1, .string y.f2] := by
      intro i hi
      obtain ⟨cs', h1, h2⟩ := hx i (by rw [hmm]; simp; omega)
      obtain ⟨z_0, z_1, z_2, rfl⟩ := op67 h2
      rw [cells67] at h1
      exact ⟨⟨z_0, z_1, z_2⟩, h1⟩
    obtain ⟨f, hf⟩ := Go.Deep.choose_lt each
    have hml : cap ≤ 9223372036854775807 := by simp only [maxLen] at hm; omega
    refine ⟨some a, cap, (List.range len).map f, by simp, by simpa using hl, by simp, by simp; omega, fun _ => ⟨a, rfl, fun j p hp => ?_⟩⟩
    have hj : j < len := by
      have := (List.getElem?_eq_some_iff.1 hp).1
      simpa using this
    obtain rfl : f j = p := by
      rw [List.getElem?_map, List.getElem?_range hj] at hp
      simpa using hp
    obtain ⟨_, _, hcell⟩ := World.cells?_some (hf j hj)
    refine ⟨_, rfl, k67_mk W (f j), fun i u hu => ?_⟩
    have hi : i < 3 := by
      have := (List.getElem?_eq_some_iff.1 hu).1
      simpa using this
    have e := hcell i hi
    rw [Go.Deep.add_add] at e
    show W.cell? (a.add (j * 3 + i)) = some u
    rw [e, hu]
end
set_option maxHeartbeats 1000000 in
theorem lifted (os : Os) (started : os.Started) (H : Type) (enc : TypeId × Value → H) :
    ReturnsInHanded {} Tryd.checked os 9 .any (fun w args => (Rows.merkleAppliesSpec.pre enc Tryd.prog Tryd.f9 Rows.merkleAppliesRow.domain false w args ∧ laidMetH Tryd.prog Rows.merkleAppliesRow.laid w) ∧ sizedMet enc Tryd.prog Tryd.f9 (OpenSpec.ofChange Rows.merkleAppliesSpec) false w args)
      (Rows.merkleAppliesSpec.post enc Tryd.prog Tryd.f9 false true false false) := by
  refine returnsInHanded_of_change_and (C := Tryd.checked) (X := fun w _ => laidMetH Tryd.prog Rows.merkleAppliesRow.laid w) (fun _ _ _ hh h => h.of_heap hh) own started (by kernel_rfl) Tryd.func9
    (ChangeSpec.witness_shaped (enc := enc) (C := Tryd.checked) (os := os) (X := fun w _ => laidMetH Tryd.prog Rows.merkleAppliesRow.laid w) false (World.laidAll Tryd.prog os Rows.merkleAppliesRow.laid) #[.slice none 0 0, .slice none 0 0, .string ByteArray.empty] 8 (World.laidAll_os _ _ _)
      (World.shaped_of_ZipB (by kernel_rfl) (by kernel_rfl)) (by kernel_rfl) (by kernel_rfl) (by kernel_rfl)
      (by rw [MakeChecks.laidMetH_plain _ _ _ (by kernel_rfl)]; exact laidMet_laidAll _ (by kernel_rfl) (by kernel_rfl))) ?_
  intro W base args ds gs before hval0 hW _ _ _ _
  have hval : ∀ (j : Nat) t v, Tryd.f9.params[j]? = some t → args[j]? = some v → Value.okWide Tryd.prog W .any base t v := hval0
  have hW' := hW
  obtain ⟨p, q, hA0, hV, rfl, hfz, hnd⟩ := hW
  have hA : DataW.TrodAll enc Tryd.prog W 0 (fun _ => true) true Tryd.f9.params.toList args.toList ds p := hA0
  rw [Tryd.params9] at hA hval
  obtain ⟨v0, vs0, d0, ds0, p0, q0, hargs, rfl, rfl, h0, r0⟩ := trodAll_cons hA
  obtain ⟨v1, vs1, d1, ds1, p1, q1, rfl, rfl, rfl, h1, r1⟩ := trodAll_cons r0
  obtain ⟨v2, vs2, d2, ds2, p2, q2, rfl, rfl, rfl, h2, r2⟩ := trodAll_cons r1
  obtain ⟨rfl, rfl, rfl⟩ := trodAll_nil r2
  obtain rfl : args = #[v0, v1, v2] := by cases args; simp_all
  obtain ⟨rfl, rfl⟩ := trodVars_none hV
  have k0 := h0
  have lt0 : ∀ x ∈ p0, x.block < W.heap.size := by obtain ⟨m, hm⟩ := k0; exact DataW.trod_lt m _ _ _ hm
  obtain ⟨Aa0, ca0, La0, rfl, hca0, hka0⟩ : ∃ A c L, v0 = .slice A (List.length L) c ∧ L.length ≤ c ∧ Kd.C k39 W A L.length L := by
    obtain ⟨a, len, cap, rfl⟩ := okWide_slice Tryd.underlying22 (hval 0 22 v0 rfl rfl)
    obtain ⟨fuel, hf⟩ := h0
    obtain ⟨A, c, L, e, hc, hk⟩ := op22 hf
    simp [Value.cells] at e
    obtain ⟨rfl, rfl, rfl⟩ := e
    exact ⟨_, _, L, rfl, hc, hk⟩
  have k1 := h1
  have lt1 : ∀ x ∈ p1, x.block < W.heap.size := by obtain ⟨m, hm⟩ := k1; exact DataW.trod_lt m _ _ _ hm
  obtain ⟨Aa1, ca1, La1, rfl, hca1, hka1⟩ : ∃ A c L, v1 = .slice A (List.length L) c ∧ L.length ≤ c ∧ Kd.C k67 W A L.length L := by
    obtain ⟨a, len, cap, rfl⟩ := okWide_slice Tryd.underlying63 (hval 1 63 v1 rfl rfl)
    obtain ⟨fuel, hf⟩ := h1
    obtain ⟨A, c, L, e, hc, hk⟩ := op63 hf
    simp [Value.cells] at e
    obtain ⟨rfl, rfl, rfl⟩ := e
    exact ⟨_, _, L, rfl, hc, hk⟩
  obtain ⟨a2, rfl, rfl, rfl, w2⟩ := open_string Tryd.underlying9 (hval 2 9 v2 rfl rfl) h2
  clear hA0 hval0
  obtain ⟨k, hf⟩ := Pure.MerkleApplies La0 La1 a2
  refine (strongroomlaw20_MerkleApplies.calls k Aa0 ca0 La0 Aa1 ca1 La1 a2 true W hka0 hca0 hka1 hca1 hf rfl).mono fun e W' ⟨he, bel⟩ => ?_
  subst he
  exact ⟨_, rfl, _, _, _, [], _, [], hW', trodAll_mk1 (shut_bool Tryd.underlying4 _), (trodAll_cons_mk (Below.trod laidOut (by kernel_rfl) (of_decide_eq_true (by kernel_rfl)) k0 bel lt0) (trodAll_cons_mk (Below.trod laidOut (by kernel_rfl) (of_decide_eq_true (by kernel_rfl)) k1 bel lt1) (trodAll_cons_mk (shut_string Tryd.underlying9 w2) trodAll_mk0))), rfl, bel.frame _, fun h => by cases h⟩
theorem row_holds : Rows.MerkleAppliesSaid :=
  OpenClaim.holds_of_wide 9 Tryd.f9 rfl rfl rfl rfl rfl rfl rfl ⟨rfl, rfl, rfl, rfl, rfl⟩ rfl rfl rfl rfl rfl (by kernel_rfl) Tryd.func9 (by kernel_rfl)
    (of_decide_eq_true (by kernel_rfl)) (by unfold Func.isWrapper; first | (rw [if_pos (by decide +kernel)]; kernel_rfl) | (rw [if_neg (by decide +kernel)]; exact ⟨rfl, rfl⟩))
    (fun os started H enc _ => lifted os started H enc)
theorem card : Rows.MerkleAppliesCardSaid :=
  Claim7.holds_tied_plain_at .later [] [.data, .pinned] true (true, "ef77083d289b5b9c436495a152641b0c51fc909cb8cc96aa114e26d5af32526d") false
    row_holds (fun _ h => by cases h) (by kernel_rfl) (fun _ h => by cases h) merkleApplies_row_tie rfl ⟨rfl, rfl⟩ (by kernel_rfl) rfl
    (fun f fn hf hfn => by
      obtain rfl : f = 9 := Option.some.inj ((show Tryd.prog.funcNamed "strongroom/strongroomlaw20.MerkleApplies" = some 9 by kernel_rfl).symm.trans hf) |>.symm
      obtain rfl : fn = Tryd.f9 := (Option.some.inj (Tryd.func9.symm.trans hfn)).symm
      exact ⟨by kernel_rfl, fun j t ht => by
        rw [Tryd.params9] at ht
        have hm : t ∈ [22, 63, 9] := by simpa using Array.mem_of_getElem? ht
        have hall : ([22, 63, 9].all fun u => !Tryd.prog.wantsStandIn u) = true := by kernel_rfl
        exact (show Tryd.prog.wantsStandIn t = false by simpa using List.all_eq_true.1 hall t hm)⟩)
    (by kernel_rfl)
#print axioms card
end Go.Proofs.YtdeggemomajhcaaDoor.merkleApplies
namespace Go.Proofs.YtdeggemomajhcaaDoor
/-- The card, under a short name, for the claim. -/
theorem merkleApplies_card : Rows.MerkleAppliesCardSaid := merkleApplies.card
end Go.Proofs.YtdeggemomajhcaaDoor
