/- FrameWraps: any text wrapped, and any text unwrapped, are as the document says; there and back, for every input; the tables of the library that the row lists are tied to the program. -/
import Derived.Test.YtoankokkdmbjmaaDoorTie
import Derived.Test.YtoankokkdmbjmaaDoorCards
import Derived.Test.YtoankokkdmbjmaaDoorHFrameWrapsx5
import Derived.Test.YtoankokkdmbjmaaDoorPureFrameWraps
import Derived.WalkKit
import Derived.ProofKit
import Derived.OpenShut
import Derived.ShutString
import Derived.ChangeOld
import Derived.Below
import Derived.SizedLaws
import Derived.LaidMore
import Derived.Lay
import Derived.SevenTiedAt
import Derived.Stop.Joined
import Derived.Lib.SmallJoins
import Derived.Laws.IdiomArrays
import Derived.Deep.Slices
import Derived.Deep.Strs
namespace Go.Proofs.YtoankokkdmbjmaaDoor.frameWraps
open Go.ChangeShapes Go.WideShapes Go.ChangeAt Go.RowKit
open Go.ChangeMaps (open_string shut_string)
open Go.Proofs.YtoankokkdmbjmaaDoorW.PrintWords Go.Proofs.YtoankokkdmbjmaaDoorW.PrintLast Go.Proofs.YtoankokkdmbjmaaDoorW.PrintMore Go.Proofs.YtoankokkdmbjmaaDoorH.HFrameWraps
set_option linter.unusedVariables false
set_option linter.unusedSimpArgs false
set_option maxRecDepth 100000
theorem own : ownKnob Tryd.prog.godebug = none := by kernel_rfl
theorem laidOut : laidOutB Tryd.prog = true := by kernel_rfl
theorem cells3 : Tryd.prog.cellsOf 3 = 1 := by kernel_rfl
theorem cells9 : Tryd.prog.cellsOf 9 = 1 := by kernel_rfl
theorem cells58 : Tryd.prog.cellsOf 58 = 5 := by kernel_rfl
section
variable {H : Type} {enc : TypeId × Value → H} {W : World}
theorem op9 {n : Nat} {cs : List Value} {x : DataW H × List MemPlace} (h : DataW.trod enc Tryd.prog W 0 (fun _ => true) true n 9 cs = some x) : ∃ s : ByteArray, cs = [.string s] := by
  obtain ⟨s, e, _, _⟩ := DataW.trod_string Tryd.underlying9 h
  exact ⟨s, e⟩
theorem op3 {n : Nat} {cs : List Value} {x : DataW H × List MemPlace} (h : DataW.trod enc Tryd.prog W 0 (fun _ => true) true n 3 cs = some x) : ∃ a : Int, cs = [.int .i64 a] := by
  obtain ⟨a, e, _, _⟩ := DataW.trod_int Tryd.underlying3 h
  exact ⟨a, e⟩
theorem op58 {n : Nat} {cs : List Value} {x : DataW H × List MemPlace} (h : DataW.trod enc Tryd.prog W 0 (fun _ => true) true n 58 cs = some x) : ∃ (z_0 : ByteArray) (z_1 : Int) (z_2 : Int) (z_3 : Int) (z_4 : ByteArray), cs = [.string z_0, .int .i64 z_1, .int .i64 z_2, .int .i64 z_3, .string z_4] := by
  obtain ⟨xs, n, _, _, hl, hlen, hfi⟩ := DataW.trod_struct Tryd.underlying58 h
  rw [cells58] at hl
  match xs, hlen, cs, hl with
  | [y0, y1, y2, y3, y4], _, [q0, q1, q2, q3, q4], _ =>
    have g0 := hfi 0 _ rfl
    have g1 := hfi 1 _ rfl
    have g2 := hfi 2 _ rfl
    have g3 := hfi 3 _ rfl
    have g4 := hfi 4 _ rfl
    simp [cells3, cells9, cells58] at g0
    simp [cells3, cells9, cells58] at g1
    simp [cells3, cells9, cells58] at g2
    simp [cells3, cells9, cells58] at g3
    simp [cells3, cells9, cells58] at g4
    obtain ⟨z_0, e0⟩ := op9 g0
    obtain ⟨z_1, e1⟩ := op3 g1
    obtain ⟨z_2, e2⟩ := op3 g2
    obtain ⟨z_3, e3⟩ := op3 g3
    obtain ⟨z_4, e4⟩ := op9 g4
    simp at e0
    simp at e1
    simp at e2
    simp at e3
    simp at e4
    subst e0
    subst e1
    subst e2
    subst e3
    subst e4
    exact ⟨z_0, z_1, z_2, z_3, z_4, rfl⟩
end
theorem vo58 {H : Type} {enc : TypeId × Value → H} {W : World} {base : Nat} {v : Value} {d : DataW H} {p : List MemPlace} (hv : Value.okWide Tryd.prog W .any base 58 v) (h : ∃ fuel, DataW.trod enc Tryd.prog W 0 (fun _ => true) true fuel 58 v.cells.toList = some (d, p)) : ∃ (z_0 : ByteArray) (z_1 : Int) (z_2 : Int) (z_3 : Int) (z_4 : ByteArray), v = .agg #[.string z_0, .int .i64 z_1, .int .i64 z_2, .int .i64 z_3, .string z_4] := by
  obtain ⟨cs, rfl, hsz, _⟩ : ∃ cs, v = .agg cs ∧ cs.size = Tryd.prog.cellsOf 58 ∧ Row.okWide Tryd.prog W .any base 58 cs := by
    simpa [Value.okWide, Tryd.underlying58] using hv
  obtain ⟨fuel, hf⟩ := h
  obtain ⟨z_0, z_1, z_2, z_3, z_4, e⟩ := op58 hf
  refine ⟨z_0, z_1, z_2, z_3, z_4, ?_⟩
  obtain ⟨l⟩ := cs
  simp [Value.cells] at e
  subst e
  rfl
set_option maxHeartbeats 1000000 in
theorem lifted (os : Os) (started : os.Started) (H : Type) (enc : TypeId × Value → H) :
    ReturnsInHanded {} Tryd.checked os 8 .any (fun w args => (Rows.frameWrapsSpec.pre enc Tryd.prog Tryd.f8 Rows.frameWrapsRow.domain false w args ∧ laidMetH Tryd.prog Rows.frameWrapsRow.laid w) ∧ sizedMet enc Tryd.prog Tryd.f8 (OpenSpec.ofChange Rows.frameWrapsSpec) false w args)
      (Rows.frameWrapsSpec.post enc Tryd.prog Tryd.f8 false true false false) := by
  refine returnsInHanded_of_change_and (C := Tryd.checked) (X := fun w _ => laidMetH Tryd.prog Rows.frameWrapsRow.laid w) (fun _ _ _ hh h => h.of_heap hh) own started (by kernel_rfl) Tryd.func8
    (ChangeSpec.witness_shaped (enc := enc) (C := Tryd.checked) (os := os) (X := fun w _ => laidMetH Tryd.prog Rows.frameWrapsRow.laid w) false (World.laidAll Tryd.prog os Rows.frameWrapsRow.laid) #[.agg #[.string ByteArray.empty, .int .i64 0, .int .i64 0, .int .i64 0, .string ByteArray.empty]] 8 (World.laidAll_os _ _ _)
      (World.shaped_of_ZipB (by kernel_rfl) (by kernel_rfl)) (by kernel_rfl) (by kernel_rfl) (by kernel_rfl)
      (by rw [MakeChecks.laidMetH_plain _ _ _ (by kernel_rfl)]; exact laidMet_laidAll _ (by kernel_rfl) (by kernel_rfl))) ?_
  intro W base args ds gs before hval0 hW _ _ _ _
  have hval : ∀ (j : Nat) t v, Tryd.f8.params[j]? = some t → args[j]? = some v → Value.okWide Tryd.prog W .any base t v := hval0
  have hW' := hW
  obtain ⟨p, q, hA0, hV, rfl, hfz, hnd⟩ := hW
  have hA : DataW.TrodAll enc Tryd.prog W 0 (fun _ => true) true Tryd.f8.params.toList args.toList ds p := hA0
  rw [Tryd.params8] at hA hval
  obtain ⟨v0, vs0, d0, ds0, p0, q0, hargs, rfl, rfl, h0, r0⟩ := trodAll_cons hA
  obtain ⟨rfl, rfl, rfl⟩ := trodAll_nil r0
  obtain rfl : args = #[v0] := by cases args; simp_all
  obtain ⟨rfl, rfl⟩ := trodVars_none hV
  have k0 := h0
  have lt0 : ∀ x ∈ p0, x.block < W.heap.size := by obtain ⟨m, hm⟩ := k0; exact DataW.trod_lt m _ _ _ hm
  obtain ⟨a0_0, a0_1, a0_2, a0_3, a0_4, rfl⟩ := vo58 (hval 0 58 v0 rfl rfl) h0
  clear hA0 hval0
  obtain ⟨k, hf⟩ := Pure.FrameWraps a0_0 a0_1 a0_2 a0_3 a0_4
  refine (strongroomlaw25_FrameWraps.calls k a0_0 a0_1 a0_2 a0_3 a0_4 true W hf).mono fun e W' ⟨he, bel⟩ => ?_
  subst he
  exact ⟨_, rfl, _, _, _, [], _, [], hW', trodAll_mk1 (shut_bool Tryd.underlying4 _), (trodAll_cons_mk (Below.trod laidOut (by kernel_rfl) (of_decide_eq_true (by kernel_rfl)) k0 bel lt0) trodAll_mk0), rfl, bel.frame _, fun h => by cases h⟩
theorem row_holds : Rows.FrameWrapsSaid :=
  OpenClaim.holds_of_wide 8 Tryd.f8 rfl rfl rfl rfl rfl rfl rfl ⟨rfl, rfl, rfl, rfl, rfl⟩ rfl rfl rfl rfl rfl (by kernel_rfl) Tryd.func8 (by kernel_rfl)
    (of_decide_eq_true (by kernel_rfl)) (by unfold Func.isWrapper; first | (rw [if_pos (by decide +kernel)]; kernel_rfl) | (rw [if_neg (by decide +kernel)]; exact ⟨rfl, rfl⟩))
    (fun os started H enc _ => lifted os started H enc)
theorem card : Rows.FrameWrapsCardSaid :=
  Claim7.holds_tied_plain_at .later [] [.data, .pinned] true (true, "e9bc444a9c35ad318d51e270f734c5eed80d77c1af19b6f031e5ce7f99efee5a") false
    row_holds (fun _ h => by cases h) (by kernel_rfl) (fun _ h => by cases h) frameWraps_row_tie rfl ⟨rfl, rfl⟩ (by kernel_rfl) rfl
    (fun f fn hf hfn => by
      obtain rfl : f = 8 := Option.some.inj ((show Tryd.prog.funcNamed "strongroom/strongroomlaw25.FrameWraps" = some 8 by kernel_rfl).symm.trans hf) |>.symm
      obtain rfl : fn = Tryd.f8 := (Option.some.inj (Tryd.func8.symm.trans hfn)).symm
      exact ⟨by kernel_rfl, fun j t ht => by
        rw [Tryd.params8] at ht
        have hm : t ∈ [58] := by simpa using Array.mem_of_getElem? ht
        have hall : ([58].all fun u => !Tryd.prog.wantsStandIn u) = true := by kernel_rfl
        exact (show Tryd.prog.wantsStandIn t = false by simpa using List.all_eq_true.1 hall t hm)⟩)
    (by kernel_rfl)
#print axioms card
end Go.Proofs.YtoankokkdmbjmaaDoor.frameWraps
namespace Go.Proofs.YtoankokkdmbjmaaDoor
/-- The card, under a short name, for the claim. -/
theorem frameWraps_card : Rows.FrameWrapsCardSaid := frameWraps.card
end Go.Proofs.YtoankokkdmbjmaaDoor
