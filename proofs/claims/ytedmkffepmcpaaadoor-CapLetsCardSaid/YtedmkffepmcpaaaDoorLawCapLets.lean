/- CapLets: what any token lets, and where its caveats meet, are those of the document, for every input; the tables of the library that the row lists are tied to the program. -/
import Derived.Test.YtedmkffepmcpaaaDoorTie
import Derived.Test.YtedmkffepmcpaaaDoorCards
import Derived.Test.YtedmkffepmcpaaaDoorHCapLetsx11
import Derived.Test.YtedmkffepmcpaaaDoorPureCapLets
import Derived.WalkKit
import Derived.ProofKit
import Derived.OpenShut
import Derived.ShutString
import Derived.ChangeOld
import Derived.Below
import Derived.SizedLaws
import Derived.LaidMore
import Derived.Lay
import Derived.SevenTiedAt
import Derived.Stop.Joined
import Derived.Lib.SmallJoins
import Derived.Laws.IdiomArrays
import Derived.Deep.Slices
import Derived.Deep.Strs
namespace Go.Proofs.YtedmkffepmcpaaaDoor.capLets
open Go.ChangeShapes Go.WideShapes Go.ChangeAt Go.RowKit
open Go.ChangeMaps (open_string shut_string)
open Go.Proofs.YtedmkffepmcpaaaDoorW.PrintWords Go.Proofs.YtedmkffepmcpaaaDoorW.PrintLast Go.Proofs.YtedmkffepmcpaaaDoorW.PrintMore Go.Proofs.YtedmkffepmcpaaaDoorH.HCapLets
set_option linter.unusedVariables false
set_option maxRecDepth 100000
theorem own : ownKnob Tryd.prog.godebug = none := by kernel_rfl
theorem laidOut : laidOutB Tryd.prog = true := by kernel_rfl
theorem cells3 : Tryd.prog.cellsOf 3 = 1 := by kernel_rfl
theorem cells9 : Tryd.prog.cellsOf 9 = 1 := by kernel_rfl
theorem cells23 : Tryd.prog.cellsOf 23 = 1 := by kernel_rfl
theorem cells25 : Tryd.prog.cellsOf 25 = 4 := by kernel_rfl
theorem cells33 : Tryd.prog.cellsOf 33 = 1 := by kernel_rfl
theorem cells35 : Tryd.prog.cellsOf 35 = 3 := by kernel_rfl
theorem cells43 : Tryd.prog.cellsOf 43 = 2 := by kernel_rfl
theorem cells45 : Tryd.prog.cellsOf 45 = 3 := by kernel_rfl
section
variable {H : Type} {enc : TypeId × Value → H} {W : World}
theorem open_el {n : Nat} {cs : List Value} {x : DataW H × List MemPlace} (h : DataW.trod enc Tryd.prog W 0 (fun _ => true) true n 35 cs = some x) : ∃ y : S35, cs = [.string y.f0, .int .i64 y.f1, .int .i64 y.f2] := by
  obtain ⟨y0, y1, y2, m, _, hl, h0, h1, h2⟩ := Go.Deep.trod_struct3 Tryd.underlying35 h
  rw [cells35] at hl
  match cs, hl with
  | [c0, c1, c2], _ =>
    simp [cells9] at h0
    simp [cells33] at h1
    simp [cells3] at h2
    obtain ⟨s, e0, _, _⟩ := DataW.trod_string Tryd.underlying9 h0
    obtain ⟨r, e1, _, _⟩ := DataW.trod_int Tryd.underlying33 h1
    obtain ⟨u, e2, _, _⟩ := DataW.trod_int Tryd.underlying3 h2
    simp at e0 e1 e2
    subst e0 e1 e2
    exact ⟨⟨s, r, u⟩, rfl⟩
instance : Inhabited S35 := ⟨z35⟩
theorem open_sl {fuel : Nat} {cs : List Value} {x : DataW H × List MemPlace} (h : DataW.trod enc Tryd.prog W 0 (fun _ => true) true fuel 23 cs = some x) : ∃ (A : Option Addr) (c : Nat) (l : List S35), cs = [.slice A l.length c] ∧ l.length ≤ c ∧ Kd.C k35 W A l.length l := by
  rcases Go.Deep.open_slice Tryd.underlying23 h with ⟨rfl, _⟩ | ⟨a, len, cap, m, n, D, Pl, rfl, hb, hl, hm, hmm, _, hx⟩
  · exact ⟨none, 0, [], rfl, Nat.le_refl 0, rfl, by simp, fun h => absurd h (by simp)⟩
  · have each : ∀ i, i < len → ∃ y : S35, W.cells? 0 (a.add (i * 3)) 3 = some [.string y.f0, .int .i64 y.f1, .int .i64 y.f2] := by
      intro i hi
      obtain ⟨cs', h1, h2⟩ := hx i (by rw [hmm]; simp; omega)
      obtain ⟨y, rfl⟩ := open_el h2
      rw [cells35] at h1
      exact ⟨y, h1⟩
    obtain ⟨f, hf⟩ := Go.Deep.choose_lt each
    have hml : cap ≤ 9223372036854775807 := by simp only [maxLen] at hm; omega
    refine ⟨some a, cap, (List.range len).map f, by simp, by simpa using hl, by simp, by simp; omega, fun _ => ⟨a, rfl, fun j p hp => ?_⟩⟩
    have hj : j < len := by
      have := (List.getElem?_eq_some_iff.1 hp).1
      simpa using this
    obtain rfl : f j = p := by
      rw [List.getElem?_map, List.getElem?_range hj] at hp
      simpa using hp
    obtain ⟨_, _, hcell⟩ := World.cells?_some (hf j hj)
    refine ⟨_, rfl, k35_mk W (f j), fun i u hu => ?_⟩
    have hi : i < 3 := by
      have := (List.getElem?_eq_some_iff.1 hu).1
      simpa using this
    have e := hcell i hi
    rw [Go.Deep.add_add] at e
    show W.cell? (a.add (j * 3 + i)) = some u
    rw [e, hu]
end
theorem open_tok {H : Type} {enc : TypeId × Value → H} {W : World} {base : Nat} {v : Value} {d : DataW H} {p : List MemPlace} (hv : Value.okWide Tryd.prog W .any base 25 v) (h : ∃ fuel, DataW.trod enc Tryd.prog W 0 (fun _ => true) true fuel 25 v.cells.toList = some (d, p)) : ∃ (a b : Int) (A : Option Addr) (c : Nat) (l : List S35) (s : ByteArray), v = .agg #[.int .i64 a, .int .i64 b, .slice A l.length c, .string s] ∧ l.length ≤ c ∧ Kd.C k35 W A l.length l := by
  obtain ⟨cs, rfl, hsz, _⟩ : ∃ cs, v = .agg cs ∧ cs.size = Tryd.prog.cellsOf 25 ∧ Row.okWide Tryd.prog W .any base 25 cs := by
    simpa [Value.okWide, Tryd.underlying25] using hv
  rw [cells25] at hsz
  obtain ⟨c0, c1, c2, c3, rfl⟩ := Joins.array4 hsz
  obtain ⟨fuel, hf⟩ := h
  obtain ⟨xs, n, _, _, hl, hlen, hfi⟩ := DataW.trod_struct Tryd.underlying25 hf
  match xs, hlen with
  | [y0, y1, y2, y3], _ =>
    have g0 := hfi 0 _ rfl
    have g1 := hfi 1 _ rfl
    have g2 := hfi 2 _ rfl
    have g3 := hfi 3 _ rfl
    simp [Value.cells, cells3] at g0 g1
    simp [Value.cells, cells23] at g2
    simp [Value.cells, cells9] at g3
    obtain ⟨a, e0, _, _⟩ := DataW.trod_int Tryd.underlying3 g0
    obtain ⟨b, e1, _, _⟩ := DataW.trod_int Tryd.underlying3 g1
    obtain ⟨Ad, c, l, e2, hc, hk⟩ := open_sl g2
    obtain ⟨s, e3, _, _⟩ := DataW.trod_string Tryd.underlying9 g3
    simp at e0 e1 e2 e3
    subst e0 e1 e2 e3
    exact ⟨a, b, Ad, c, l, s, rfl, hc, hk⟩
theorem open_arr2 {H : Type} {enc : TypeId × Value → H} {W : World} {base : Nat} {v : Value} {d : DataW H} {p : List MemPlace} (hv : Value.okWide Tryd.prog W .any base 43 v) (h : ∃ fuel, DataW.trod enc Tryd.prog W 0 (fun _ => true) true fuel 43 v.cells.toList = some (d, p)) : ∃ x y : Int, v = .agg #[.int .i64 x, .int .i64 y] ∧ (Lit.int .i64 x).wf = true ∧ (Lit.int .i64 y).wf = true := by
  obtain ⟨cs, rfl, hsz, _⟩ : ∃ cs, v = .agg cs ∧ cs.size = Tryd.prog.cellsOf 43 ∧ Row.okWide Tryd.prog W .any base 43 cs := by
    simpa [Value.okWide, Tryd.underlying43] using hv
  rw [cells43] at hsz
  obtain ⟨c0, c1, rfl⟩ := Joins.array2 hsz
  obtain ⟨fuel, hf⟩ := h
  obtain ⟨xs, m, _, ex, _, hl, hel⟩ := DataW.trod_array Tryd.underlying43 hf
  have g0 := hel 0 (by decide)
  have g1 := hel 1 (by decide)
  match xs, hl with
  | [y0, y1], _ =>
    simp [Value.cells, cells3] at g0 g1
    obtain ⟨a, e0, _, w0⟩ := DataW.trod_int Tryd.underlying3 g0
    obtain ⟨b, e1, _, w1⟩ := DataW.trod_int Tryd.underlying3 g1
    simp at e0 e1
    subst e0 e1
    exact ⟨a, b, rfl, w0, w1⟩
set_option maxHeartbeats 1000000 in
set_option maxRecDepth 100000 in
theorem lifted (os : Os) (started : os.Started) (H : Type) (enc : TypeId × Value → H) :
    ReturnsInHanded {} Tryd.checked os 7 .any (fun w args => (Rows.capLetsSpec.pre enc Tryd.prog Tryd.f7 Rows.capLetsRow.domain false w args ∧ laidMetH Tryd.prog Rows.capLetsRow.laid w) ∧ sizedMet enc Tryd.prog Tryd.f7 (OpenSpec.ofChange Rows.capLetsSpec) false w args)
      (Rows.capLetsSpec.post enc Tryd.prog Tryd.f7 false true false false) := by
  refine returnsInHanded_of_change_and (C := Tryd.checked) (X := fun w _ => laidMetH Tryd.prog Rows.capLetsRow.laid w) (fun _ _ _ hh h => h.of_heap hh) own started (by kernel_rfl) Tryd.func7
    (ChangeSpec.witness_shaped (enc := enc) (C := Tryd.checked) (os := os) (X := fun w _ => laidMetH Tryd.prog Rows.capLetsRow.laid w) false (World.laidAll Tryd.prog os Rows.capLetsRow.laid) #[.agg #[.int .i64 0, .int .i64 0, .slice none 0 0, .string ByteArray.empty], .agg #[.int .i64 0, .int .i64 0], .string ByteArray.empty] 8 (World.laidAll_os _ _ _)
      (World.shaped_of_ZipB (by kernel_rfl) (by kernel_rfl)) (by kernel_rfl) (by kernel_rfl) (by kernel_rfl)
      (by rw [MakeChecks.laidMetH_plain _ _ _ (by kernel_rfl)]; exact laidMet_laidAll _ (by kernel_rfl) (by kernel_rfl))) ?_
  intro W base args ds gs before hval0 hW _ _ _ _
  have hval : ∀ (j : Nat) t v, Tryd.f7.params[j]? = some t → args[j]? = some v → Value.okWide Tryd.prog W .any base t v := hval0
  have hW' := hW
  obtain ⟨p, q, hA0, hV, rfl, hfz, hnd⟩ := hW
  have hA : DataW.TrodAll enc Tryd.prog W 0 (fun _ => true) true Tryd.f7.params.toList args.toList ds p := hA0
  rw [Tryd.params7] at hA hval
  obtain ⟨v0, vs0, d0, ds0, p0, q0, hargs, rfl, rfl, h0, r0⟩ := trodAll_cons hA
  obtain ⟨v1, vs1, d1, ds1, p1, q1, rfl, rfl, rfl, h1, r1⟩ := trodAll_cons r0
  obtain ⟨v2, vs2, d2, ds2, p2, q2, rfl, rfl, rfl, h2, r2⟩ := trodAll_cons r1
  obtain ⟨rfl, rfl, rfl⟩ := trodAll_nil r2
  obtain rfl : args = #[v0, v1, v2] := by cases args; simp_all
  obtain ⟨rfl, rfl⟩ := trodVars_none hV
  have k0 := h0
  have lt0 : ∀ x ∈ p0, x.block < W.heap.size := by obtain ⟨m, hm⟩ := k0; exact DataW.trod_lt m _ _ _ hm
  obtain ⟨t0_0, t0_1, A0, c0, L0, t0_3, rfl, hc0, hk0⟩ := open_tok (hval 0 25 v0 rfl rfl) h0
  have k1 := h1
  have lt1 : ∀ x ∈ p1, x.block < W.heap.size := by obtain ⟨m, hm⟩ := k1; exact DataW.trod_lt m _ _ _ hm
  obtain ⟨x1_0, x1_1, rfl, w1_0, w1_1⟩ := open_arr2 (hval 1 43 v1 rfl rfl) h1
  obtain ⟨a2, rfl, rfl, rfl, w2⟩ := open_string Tryd.underlying9 (hval 2 9 v2 rfl rfl) h2
  clear hA0 hval0
  obtain ⟨k, hf⟩ := Pure.CapLets t0_0 t0_1 L0 t0_3 x1_0 x1_1 a2
  refine (strongroomlaw12_CapLets.calls k t0_0 t0_1 A0 c0 L0 t0_3 x1_0 x1_1 a2 true W hk0 hc0 hf rfl).mono fun e W' ⟨he, bel⟩ => ?_
  subst he
  exact ⟨_, rfl, _, _, _, [], _, [], hW', trodAll_mk1 (shut_bool Tryd.underlying4 _), (trodAll_cons_mk (Below.trod laidOut (by kernel_rfl) (of_decide_eq_true (by kernel_rfl)) k0 bel lt0) (trodAll_cons_mk (Below.trod laidOut (by kernel_rfl) (of_decide_eq_true (by kernel_rfl)) k1 bel lt1) (trodAll_cons_mk (shut_string Tryd.underlying9 w2) trodAll_mk0))), rfl, bel.frame _, fun h => by cases h⟩
theorem row_holds : Rows.CapLetsSaid :=
  OpenClaim.holds_of_wide 7 Tryd.f7 rfl rfl rfl rfl rfl rfl rfl ⟨rfl, rfl, rfl, rfl, rfl⟩ rfl rfl rfl rfl rfl (by kernel_rfl) Tryd.func7 (by kernel_rfl)
    (of_decide_eq_true (by kernel_rfl)) (by unfold Func.isWrapper; first | (rw [if_pos (by decide +kernel)]; kernel_rfl) | (rw [if_neg (by decide +kernel)]; exact ⟨rfl, rfl⟩))
    (fun os started H enc _ => lifted os started H enc)
theorem card : Rows.CapLetsCardSaid :=
  Claim7.holds_tied_plain_at .later [] [.data, .pinned] true (true, "390bfe5490f72f51b9fca2b244e6baf020242aa27eb4097c70c2f68b4c628206") false
    row_holds (fun _ h => by cases h) (by kernel_rfl) (fun _ h => by cases h) capLets_row_tie rfl ⟨rfl, rfl⟩ (by kernel_rfl) rfl
    (fun f fn hf hfn => by
      obtain rfl : f = 7 := Option.some.inj ((show Tryd.prog.funcNamed "strongroom/strongroomlaw12.CapLets" = some 7 by kernel_rfl).symm.trans hf) |>.symm
      obtain rfl : fn = Tryd.f7 := (Option.some.inj (Tryd.func7.symm.trans hfn)).symm
      exact ⟨by kernel_rfl, fun j t ht => by
        rw [Tryd.params7] at ht
        have hm : t ∈ [25, 43, 9] := by simpa using Array.mem_of_getElem? ht
        have hall : ([25, 43, 9].all fun u => !Tryd.prog.wantsStandIn u) = true := by kernel_rfl
        exact (show Tryd.prog.wantsStandIn t = false by simpa using List.all_eq_true.1 hall t hm)⟩)
    (by kernel_rfl)
#print axioms card
end Go.Proofs.YtedmkffepmcpaaaDoor.capLets
namespace Go.Proofs.YtedmkffepmcpaaaDoor
/-- The card, under a short name, for the claim. -/
theorem capLets_card : Rows.CapLetsCardSaid := capLets.card
end Go.Proofs.YtedmkffepmcpaaaDoor
