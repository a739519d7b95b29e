/- CapCodes: the bytes of any token, and the token at any place of any bytes, are those of the document; there and back, whatever stands ahead and behind, for every input; the tables of the library that the row lists are tied to the program. -/
import Derived.Test.YtedmkffepmcpaaaDoorTie
import Derived.Test.YtedmkffepmcpaaaDoorCards
import Derived.Test.YtedmkffepmcpaaaDoorHCapCodesx15
import Derived.Test.YtedmkffepmcpaaaDoorPureCapCodes
import Derived.WalkKit
import Derived.ProofKit
import Derived.OpenShut
import Derived.ShutString
import Derived.ChangeOld
import Derived.Below
import Derived.SizedLaws
import Derived.LaidMore
import Derived.Lay
import Derived.SevenTiedAt
import Derived.Stop.Joined
import Derived.Lib.SmallJoins
import Derived.Laws.IdiomArrays
import Derived.Deep.Slices
import Derived.Deep.Strs
namespace Go.Proofs.YtedmkffepmcpaaaDoor.capCodes
open Go.ChangeShapes Go.WideShapes Go.ChangeAt Go.RowKit
open Go.ChangeMaps (open_string shut_string)
open Go.Proofs.YtedmkffepmcpaaaDoorW.PrintWords Go.Proofs.YtedmkffepmcpaaaDoorW.PrintLast Go.Proofs.YtedmkffepmcpaaaDoorW.PrintMore Go.Proofs.YtedmkffepmcpaaaDoorH.HCapCodes
set_option linter.unusedVariables false
set_option linter.unusedSimpArgs false
set_option maxRecDepth 100000
theorem own : ownKnob Tryd.prog.godebug = none := by kernel_rfl
theorem laidOut : laidOutB Tryd.prog = true := by kernel_rfl
theorem cells3 : Tryd.prog.cellsOf 3 = 1 := by kernel_rfl
theorem cells5 : Tryd.prog.cellsOf 5 = 1 := by kernel_rfl
theorem cells9 : Tryd.prog.cellsOf 9 = 1 := by kernel_rfl
theorem cells23 : Tryd.prog.cellsOf 23 = 1 := by kernel_rfl
theorem cells25 : Tryd.prog.cellsOf 25 = 4 := by kernel_rfl
theorem cells33 : Tryd.prog.cellsOf 33 = 1 := by kernel_rfl
theorem cells35 : Tryd.prog.cellsOf 35 = 3 := by kernel_rfl
theorem cells53 : Tryd.prog.cellsOf 53 = 1 := by kernel_rfl
section
variable {H : Type} {enc : TypeId × Value → H} {W : World}
theorem op3 {n : Nat} {cs : List Value} {x : DataW H × List MemPlace} (h : DataW.trod enc Tryd.prog W 0 (fun _ => true) true n 3 cs = some x) : ∃ a : Int, cs = [.int .i64 a] := by
  obtain ⟨a, e, _, _⟩ := DataW.trod_int Tryd.underlying3 h
  exact ⟨a, e⟩
theorem op9 {n : Nat} {cs : List Value} {x : DataW H × List MemPlace} (h : DataW.trod enc Tryd.prog W 0 (fun _ => true) true n 9 cs = some x) : ∃ s : ByteArray, cs = [.string s] := by
  obtain ⟨s, e, _, _⟩ := DataW.trod_string Tryd.underlying9 h
  exact ⟨s, e⟩
theorem op33 {n : Nat} {cs : List Value} {x : DataW H × List MemPlace} (h : DataW.trod enc Tryd.prog W 0 (fun _ => true) true n 33 cs = some x) : ∃ a : Int, cs = [.int .i64 a] := by
  obtain ⟨a, e, _, _⟩ := DataW.trod_int Tryd.underlying33 h
  exact ⟨a, e⟩
theorem op35 {n : Nat} {cs : List Value} {x : DataW H × List MemPlace} (h : DataW.trod enc Tryd.prog W 0 (fun _ => true) true n 35 cs = some x) : ∃ (z_0 : ByteArray) (z_1 : Int) (z_2 : Int), cs = [.string z_0, .int .i64 z_1, .int .i64 z_2] := by
  obtain ⟨xs, n, _, _, hl, hlen, hfi⟩ := DataW.trod_struct Tryd.underlying35 h
  rw [cells35] at hl
  match xs, hlen, cs, hl with
  | [y0, y1, y2], _, [q0, q1, q2], _ =>
    have g0 := hfi 0 _ rfl
    have g1 := hfi 1 _ rfl
    have g2 := hfi 2 _ rfl
    simp [cells3, cells5, cells9, cells23, cells25, cells33, cells35, cells53] at g0
    simp [cells3, cells5, cells9, cells23, cells25, cells33, cells35, cells53] at g1
    simp [cells3, cells5, cells9, cells23, cells25, cells33, cells35, cells53] at g2
    obtain ⟨z_0, e0⟩ := op9 g0
    obtain ⟨z_1, e1⟩ := op33 g1
    obtain ⟨z_2, e2⟩ := op3 g2
    simp at e0
    simp at e1
    simp at e2
    subst e0
    subst e1
    subst e2
    exact ⟨z_0, z_1, z_2, rfl⟩
instance : Inhabited S35 := ⟨z35⟩
theorem op23 {n : Nat} {cs : List Value} {x : DataW H × List MemPlace} (h : DataW.trod enc Tryd.prog W 0 (fun _ => true) true n 23 cs = some x) : ∃ (A : Option Addr) (c : Nat) (l : List S35), cs = [.slice A l.length c] ∧ l.length ≤ c ∧ Kd.C k35 W A l.length l := by
  rcases Go.Deep.open_slice Tryd.underlying23 h with ⟨rfl, _⟩ | ⟨a, len, cap, m, n, D, Pl, rfl, hb, hl, hm, hmm, _, hx⟩
  · exact ⟨none, 0, [], rfl, Nat.le_refl 0, rfl, by simp, fun h => absurd h (by simp)⟩
  · have each : ∀ i, i < len → ∃ y : S35, W.cells? 0 (a.add (i * 3)) 3 = some [.string y.f0, .int .i64 y.f1, .int .i64 y.f2] := by
      intro i hi
      obtain ⟨cs', h1, h2⟩ := hx i (by rw [hmm]; simp; omega)
      obtain ⟨z_0, z_1, z_2, rfl⟩ := op35 h2
      rw [cells35] at h1
      exact ⟨⟨z_0, z_1, z_2⟩, h1⟩
    obtain ⟨f, hf⟩ := Go.Deep.choose_lt each
    have hml : cap ≤ 9223372036854775807 := by simp only [maxLen] at hm; omega
    refine ⟨some a, cap, (List.range len).map f, by simp, by simpa using hl, by simp, by simp; omega, fun _ => ⟨a, rfl, fun j p hp => ?_⟩⟩
    have hj : j < len := by
      have := (List.getElem?_eq_some_iff.1 hp).1
      simpa using this
    obtain rfl : f j = p := by
      rw [List.getElem?_map, List.getElem?_range hj] at hp
      simpa using hp
    obtain ⟨_, _, hcell⟩ := World.cells?_some (hf j hj)
    refine ⟨_, rfl, k35_mk W (f j), fun i u hu => ?_⟩
    have hi : i < 3 := by
      have := (List.getElem?_eq_some_iff.1 hu).1
      simpa using this
    have e := hcell i hi
    rw [Go.Deep.add_add] at e
    show W.cell? (a.add (j * 3 + i)) = some u
    rw [e, hu]
theorem op25 {n : Nat} {cs : List Value} {x : DataW H × List MemPlace} (h : DataW.trod enc Tryd.prog W 0 (fun _ => true) true n 25 cs = some x) : ∃ (z_0 : Int) (z_1 : Int) (Az_2 : Option Addr) (cz_2 : Nat) (Lz_2 : List S35) (z_3 : ByteArray), cs = [.int .i64 z_0, .int .i64 z_1, .slice Az_2 Lz_2.length cz_2, .string z_3] ∧ Lz_2.length ≤ cz_2 ∧ Kd.C k35 W Az_2 Lz_2.length Lz_2 := by
  obtain ⟨xs, n, _, _, hl, hlen, hfi⟩ := DataW.trod_struct Tryd.underlying25 h
  rw [cells25] at hl
  match xs, hlen, cs, hl with
  | [y0, y1, y2, y3], _, [q0, q1, q2, q3], _ =>
    have g0 := hfi 0 _ rfl
    have g1 := hfi 1 _ rfl
    have g2 := hfi 2 _ rfl
    have g3 := hfi 3 _ rfl
    simp [cells3, cells5, cells9, cells23, cells25, cells33, cells35, cells53] at g0
    simp [cells3, cells5, cells9, cells23, cells25, cells33, cells35, cells53] at g1
    simp [cells3, cells5, cells9, cells23, cells25, cells33, cells35, cells53] at g2
    simp [cells3, cells5, cells9, cells23, cells25, cells33, cells35, cells53] at g3
    obtain ⟨z_0, e0⟩ := op3 g0
    obtain ⟨z_1, e1⟩ := op3 g1
    obtain ⟨Az_2, cz_2, Lz_2, e2, hcz_2, hkz_2⟩ := op23 g2
    obtain ⟨z_3, e3⟩ := op9 g3
    simp at e0
    simp at e1
    simp at e2
    simp at e3
    subst e0
    subst e1
    subst e2
    subst e3
    exact ⟨z_0, z_1, Az_2, cz_2, Lz_2, z_3, rfl, hcz_2, hkz_2⟩
theorem op5 {n : Nat} {cs : List Value} {x : DataW H × List MemPlace} (h : DataW.trod enc Tryd.prog W 0 (fun _ => true) true n 5 cs = some x) : ∃ a : Int, cs = [.int .u8 a] := by
  obtain ⟨a, e, _, _⟩ := DataW.trod_int Tryd.underlying5 h
  exact ⟨a, e⟩
theorem op53 {n : Nat} {cs : List Value} {x : DataW H × List MemPlace} (h : DataW.trod enc Tryd.prog W 0 (fun _ => true) true n 53 cs = some x) : ∃ (A : Option Addr) (c : Nat) (l : List Int), cs = [.slice A l.length c] ∧ l.length ≤ c ∧ Kd.C (Kd.int .u8) W A l.length l ∧ (∀ n ∈ l, (Lit.int .u8 n).wf = true) := by
  rcases Go.Deep.open_slice Tryd.underlying53 h with ⟨rfl, _⟩ | ⟨a, len, cap, m, n, D, Pl, rfl, hb, hl, hm, hmm, _, hx⟩
  · exact ⟨none, 0, [], rfl, Nat.le_refl 0, ⟨rfl, by simp, fun h => absurd h (by simp)⟩, by simp⟩
  · have each : ∀ i, i < len → ∃ y : Int, W.cells? 0 (a.add (i * 1)) 1 = some [.int .u8 y] ∧ (Lit.int .u8 y).wf = true := by
      intro i hi
      obtain ⟨cs', h1, h2⟩ := hx i (by rw [hmm]; simp; omega)
      obtain ⟨y, rfl, _, hw⟩ := DataW.trod_int Tryd.underlying5 h2
      rw [cells5] at h1
      exact ⟨y, h1, hw⟩
    obtain ⟨f, hf⟩ := Go.Deep.choose_lt each
    have hml : cap ≤ 9223372036854775807 := by simp only [maxLen] at hm; omega
    refine ⟨some a, cap, (List.range len).map f, by simp, by simpa using hl, ⟨by simp, by simp; omega, fun _ => ⟨a, rfl, fun j p hp => ?_⟩⟩, fun n hn => ?_⟩
    · have hj : j < len := by
        have := (List.getElem?_eq_some_iff.1 hp).1
        simpa using this
      obtain rfl : f j = p := by
        rw [List.getElem?_map, List.getElem?_range hj] at hp
        simpa using hp
      obtain ⟨_, _, hcell⟩ := World.cells?_some (hf j hj).1
      refine ⟨_, rfl, rfl, fun i u hu => ?_⟩
      have hi : i < 1 := by
        have := (List.getElem?_eq_some_iff.1 hu).1
        simpa using this
      have e := hcell i hi
      rw [Go.Deep.add_add] at e
      show W.cell? (a.add (j * 1 + i)) = some u
      rw [e, hu]
    · obtain ⟨j, hj, rfl⟩ := List.mem_map.1 hn
      exact (hf j (List.mem_range.1 hj)).2
end
theorem vo25 {H : Type} {enc : TypeId × Value → H} {W : World} {base : Nat} {v : Value} {d : DataW H} {p : List MemPlace} (hv : Value.okWide Tryd.prog W .any base 25 v) (h : ∃ fuel, DataW.trod enc Tryd.prog W 0 (fun _ => true) true fuel 25 v.cells.toList = some (d, p)) : ∃ (z_0 : Int) (z_1 : Int) (Az_2 : Option Addr) (cz_2 : Nat) (Lz_2 : List S35) (z_3 : ByteArray), v = .agg #[.int .i64 z_0, .int .i64 z_1, .slice Az_2 Lz_2.length cz_2, .string z_3] ∧ Lz_2.length ≤ cz_2 ∧ Kd.C k35 W Az_2 Lz_2.length Lz_2 := by
  obtain ⟨cs, rfl, hsz, _⟩ : ∃ cs, v = .agg cs ∧ cs.size = Tryd.prog.cellsOf 25 ∧ Row.okWide Tryd.prog W .any base 25 cs := by
    simpa [Value.okWide, Tryd.underlying25] using hv
  obtain ⟨fuel, hf⟩ := h
  obtain ⟨z_0, z_1, Az_2, cz_2, Lz_2, z_3, e, hcz_2, hkz_2⟩ := op25 hf
  refine ⟨z_0, z_1, Az_2, cz_2, Lz_2, z_3, ?_, hcz_2, hkz_2⟩
  obtain ⟨l⟩ := cs
  simp [Value.cells] at e
  subst e
  rfl
theorem bytes_of {l : List Int} (h : ∀ n ∈ l, (Lit.int .u8 n).wf = true) : ∃ b : List UInt8, l = b.map Pure.I := by
  refine ⟨l.map fun n => UInt8.ofNat n.toNat, ?_⟩
  rw [List.map_map]
  conv => lhs; rw [← List.map_id l]
  refine List.map_congr_left fun n hn => ?_
  have := h n hn
  simp [Lit.wf, IntKind.min, IntKind.max, IntKind.bits, IntKind.signed] at this
  simp [Pure.I]
  omega
set_option maxHeartbeats 1000000 in
theorem lifted (os : Os) (started : os.Started) (H : Type) (enc : TypeId × Value → H) :
    ReturnsInHanded {} Tryd.checked os 9 .any (fun w args => (Rows.capCodesSpec.pre enc Tryd.prog Tryd.f9 Rows.capCodesRow.domain false w args ∧ laidMetH Tryd.prog Rows.capCodesRow.laid w) ∧ sizedMet enc Tryd.prog Tryd.f9 (OpenSpec.ofChange Rows.capCodesSpec) false w args)
      (Rows.capCodesSpec.post enc Tryd.prog Tryd.f9 false true false false) := by
  refine returnsInHanded_of_change_and (C := Tryd.checked) (X := fun w _ => laidMetH Tryd.prog Rows.capCodesRow.laid w) (fun _ _ _ hh h => h.of_heap hh) own started (by kernel_rfl) Tryd.func9
    (ChangeSpec.witness_shaped (enc := enc) (C := Tryd.checked) (os := os) (X := fun w _ => laidMetH Tryd.prog Rows.capCodesRow.laid w) false (World.laidAll Tryd.prog os Rows.capCodesRow.laid) #[.agg #[.int .i64 0, .int .i64 0, .slice none 0 0, .string ByteArray.empty], .slice none 0 0, .int .i64 0] 8 (World.laidAll_os _ _ _)
      (World.shaped_of_ZipB (by kernel_rfl) (by kernel_rfl)) (by kernel_rfl) (by kernel_rfl) (by kernel_rfl)
      (by rw [MakeChecks.laidMetH_plain _ _ _ (by kernel_rfl)]; exact laidMet_laidAll _ (by kernel_rfl) (by kernel_rfl))) ?_
  intro W base args ds gs before hval0 hW _ _ _ _
  have hval : ∀ (j : Nat) t v, Tryd.f9.params[j]? = some t → args[j]? = some v → Value.okWide Tryd.prog W .any base t v := hval0
  have hW' := hW
  obtain ⟨p, q, hA0, hV, rfl, hfz, hnd⟩ := hW
  have hA : DataW.TrodAll enc Tryd.prog W 0 (fun _ => true) true Tryd.f9.params.toList args.toList ds p := hA0
  rw [Tryd.params9] at hA hval
  obtain ⟨v0, vs0, d0, ds0, p0, q0, hargs, rfl, rfl, h0, r0⟩ := trodAll_cons hA
  obtain ⟨v1, vs1, d1, ds1, p1, q1, rfl, rfl, rfl, h1, r1⟩ := trodAll_cons r0
  obtain ⟨v2, vs2, d2, ds2, p2, q2, rfl, rfl, rfl, h2, r2⟩ := trodAll_cons r1
  obtain ⟨rfl, rfl, rfl⟩ := trodAll_nil r2
  obtain rfl : args = #[v0, v1, v2] := by cases args; simp_all
  obtain ⟨rfl, rfl⟩ := trodVars_none hV
  have k0 := h0
  have lt0 : ∀ x ∈ p0, x.block < W.heap.size := by obtain ⟨m, hm⟩ := k0; exact DataW.trod_lt m _ _ _ hm
  obtain ⟨a0_0, a0_1, Aa0_2, ca0_2, La0_2, a0_3, rfl, hca0_2, hka0_2⟩ := vo25 (hval 0 25 v0 rfl rfl) h0
  have k1 := h1
  have lt1 : ∀ x ∈ p1, x.block < W.heap.size := by obtain ⟨m, hm⟩ := k1; exact DataW.trod_lt m _ _ _ hm
  obtain ⟨Aa1, ca1, La1, rfl, hca1, hka1, hwa1⟩ : ∃ A c L, v1 = .slice A (List.length L) c ∧ L.length ≤ c ∧ Kd.C (Kd.int .u8) W A L.length L ∧ (∀ n ∈ L, (Lit.int .u8 n).wf = true) := by
    obtain ⟨a, len, cap, rfl⟩ := okWide_slice Tryd.underlying53 (hval 1 53 v1 rfl rfl)
    obtain ⟨fuel, hf⟩ := h1
    obtain ⟨A, c, L, e, hc, hk, hw⟩ := op53 hf
    simp [Value.cells] at e
    obtain ⟨rfl, rfl, rfl⟩ := e
    exact ⟨_, _, L, rfl, hc, hk, hw⟩
  obtain ⟨a2, rfl, rfl, rfl, w2⟩ := open_int Tryd.underlying3 (hval 2 3 v2 rfl rfl) h2
  clear hA0 hval0
  obtain ⟨b1, rfl⟩ := bytes_of hwa1
  obtain ⟨k, hf⟩ := Pure.CapCodes a0_0 a0_1 La0_2 a0_3 b1 a2
  refine (strongroomlaw12_CapCodes.calls k a0_0 a0_1 Aa0_2 ca0_2 La0_2 a0_3 Aa1 ca1 _ a2 true W hka0_2 hca0_2 hka1 hca1 hf rfl).mono fun e W' ⟨he, bel⟩ => ?_
  subst he
  exact ⟨_, rfl, _, _, _, [], _, [], hW', trodAll_mk1 (shut_bool Tryd.underlying4 _), (trodAll_cons_mk (Below.trod laidOut (by kernel_rfl) (of_decide_eq_true (by kernel_rfl)) k0 bel lt0) (trodAll_cons_mk (Below.trod laidOut (by kernel_rfl) (of_decide_eq_true (by kernel_rfl)) k1 bel lt1) (trodAll_cons_mk (shut_int Tryd.underlying3 w2) trodAll_mk0))), rfl, bel.frame _, fun h => by cases h⟩
theorem row_holds : Rows.CapCodesSaid :=
  OpenClaim.holds_of_wide 9 Tryd.f9 rfl rfl rfl rfl rfl rfl rfl ⟨rfl, rfl, rfl, rfl, rfl⟩ rfl rfl rfl rfl rfl (by kernel_rfl) Tryd.func9 (by kernel_rfl)
    (of_decide_eq_true (by kernel_rfl)) (by unfold Func.isWrapper; first | (rw [if_pos (by decide +kernel)]; kernel_rfl) | (rw [if_neg (by decide +kernel)]; exact ⟨rfl, rfl⟩))
    (fun os started H enc _ => lifted os started H enc)
theorem card : Rows.CapCodesCardSaid :=
  Claim7.holds_tied_plain_at .later [] [.data, .pinned] true (true, "390bfe5490f72f51b9fca2b244e6baf020242aa27eb4097c70c2f68b4c628206") false
    row_holds (fun _ h => by cases h) (by kernel_rfl) (fun _ h => by cases h) capCodes_row_tie rfl ⟨rfl, rfl⟩ (by kernel_rfl) rfl
    (fun f fn hf hfn => by
      obtain rfl : f = 9 := Option.some.inj ((show Tryd.prog.funcNamed "strongroom/strongroomlaw12.CapCodes" = some 9 by kernel_rfl).symm.trans hf) |>.symm
      obtain rfl : fn = Tryd.f9 := (Option.some.inj (Tryd.func9.symm.trans hfn)).symm
      exact ⟨by kernel_rfl, fun j t ht => by
        rw [Tryd.params9] at ht
        have hm : t ∈ [25, 53, 3] := by simpa using Array.mem_of_getElem? ht
        have hall : ([25, 53, 3].all fun u => !Tryd.prog.wantsStandIn u) = true := by kernel_rfl
        exact (show Tryd.prog.wantsStandIn t = false by simpa using List.all_eq_true.1 hall t hm)⟩)
    (by kernel_rfl)
#print axioms card
end Go.Proofs.YtedmkffepmcpaaaDoor.capCodes
namespace Go.Proofs.YtedmkffepmcpaaaDoor
/-- The card, under a short name, for the claim. -/
theorem capCodes_card : Rows.CapCodesCardSaid := capCodes.card
end Go.Proofs.YtedmkffepmcpaaaDoor
