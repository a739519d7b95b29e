-- PRINTED by print.py (a twelfth state) out of the translation. Not trusted: Lean checks it.
import Derived.Test.YtdeggemomajhcaaDoorHMerkleAppliesx0
import Derived.Test.YtdeggemomajhcaaDoorHMerkleAppliesx3
import Derived.Test.YtdeggemomajhcaaDoorHMerkleAppliesx7
import Derived.Test.YtdeggemomajhcaaDoorHMerkleAppliesx10
import Derived.Test.YtdeggemomajhcaaDoorHMerkleAppliesx11
import Derived.Test.YtdeggemomajhcaaDoorHMerkleAppliesx12
import Derived.Test.YtdeggemomajhcaaDoorHMerkleAppliesx13
import Derived.Test.YtdeggemomajhcaaDoorHMerkleAppliesx14
namespace Go.Proofs.YtdeggemomajhcaaDoorH.HMerkleApplies
open Go.RowKit Go.Proofs.YtdeggemomajhcaaDoorW.PrintWords Go.Proofs.YtdeggemomajhcaaDoorW.PrintLast Go.Proofs.YtdeggemomajhcaaDoorW.PrintMore
attribute [local go_sem] max2_int min2_int max_two min_two max_three min_three max_four min_four   -- for this text's walks alone
set_option linter.unusedVariables false
set_option linter.unusedSimpArgs false

/-! ### strongroomlaw20_MerkleApplies: function 9 -/
mutual
def strongroomlaw20_MerkleApplies.j0 : Nat → List (S39) → List (S67) → ByteArray → Bool → Option (Bool)
 | 0, _, _, _, _ => none
 | k + 1, x0, x1, x2, x26 => if x26 = true then ((strongroomlaw20_lives.f k).bind fun t320 => (some t320)) else (strongroomlaw20_MerkleApplies.l0 k x0 x1 x2 ([] : List (S66)) 0)
def strongroomlaw20_MerkleApplies.l0 : Nat → List (S39) → List (S67) → ByteArray → List (S66) → Int → Option (Bool)
 | 0, _, _, _, _, _ => none
 | k + 1, x0, x1, x2, x7, x8 => if x8 < (x1.length : Int) then (if 0 ≤ x8 then (if (wrap64 ((wrap64 ((((rd_T67 x1 x8).f0).size : Int) + (((rd_T67 x1 x8).f1).size : Int))) + (((rd_T67 x1 x8).f2).size : Int))) > 300 then ((strongroomlaw20_lives.f k).bind fun t324 => (some t324)) else (if x7.length < 2932031007402 then (strongroomlaw20_MerkleApplies.l0 k x0 x1 x2 (x7 ++ [(⟨(rd_T67 x1 x8).f0, (rd_T67 x1 x8).f1, (rd_T67 x1 x8).f2⟩ : S66)]) (wrap64 (x8 + 1))) else (none))) else (none)) else ((strongroomlaw20_mine.f k x0).bind fun t331 => ((merkle_Apply.f k t331 x7).bind fun bt334 => ((strongroomref20_Apply.f k x0 x1).bind fun bt338 => ((strongroomlaw20_theirs.f k bt334.1).bind fun t342 => ((strongroomref20_Same.f k t342 bt338.1).bind fun t345 => (if t345 = true then (strongroomlaw20_MerkleApplies.j2 k x0 x2 (bt334.2 != bt338.2)) else (strongroomlaw20_MerkleApplies.j2 k x0 x2 true)))))))
def strongroomlaw20_MerkleApplies.j2 : Nat → List (S39) → ByteArray → Bool → Option (Bool)
 | 0, _, _, _ => none
 | k + 1, x0, x2, x97 => if x97 = true then (some false) else ((strongroomlaw20_mine.f k x0).bind fun t346 => ((merkle_Below.f k t346 x2).bind fun t349 => ((strongroomlaw20_list.f k x0).bind fun t352 => (if t352 = true then ((strongroomlaw20_theirs.f k t349).bind fun t354 => ((strongroomref20_Below.f k x0 x2).bind fun t357 => ((strongroomref20_Same.f k t354 t357).bind fun t360 => (if t360 = true then ((strongroomlaw20_lives.f k).bind fun t361 => (some t361)) else (some false))))) else (if (t349.length : Int) = 0 then ((strongroomlaw20_lives.f k).bind fun t353 => (some t353)) else (some false))))))
end
def strongroomlaw20_MerkleApplies.f (k : Nat) (l0 : List (S39)) (l1 : List (S67)) (a2 : ByteArray) : Option (Bool) := (strongroomlaw20_small.f k l0).bind fun t319 => (if t319 = true then (if (l1.length : Int) > 60 then (strongroomlaw20_MerkleApplies.j0 k l0 l1 a2 true) else (strongroomlaw20_MerkleApplies.j0 k l0 l1 a2 (decide ((a2.size : Int) > 200)))) else (strongroomlaw20_MerkleApplies.j0 k l0 l1 a2 true))
theorem strongroomlaw20_MerkleApplies.mono_l : ∀ k, (∀ y0 y1 y2 y3, LeO (strongroomlaw20_MerkleApplies.j0 k y0 y1 y2 y3) (strongroomlaw20_MerkleApplies.j0 (k + 1) y0 y1 y2 y3)) ∧ (∀ y0 y1 y2 y3 y4, LeO (strongroomlaw20_MerkleApplies.l0 k y0 y1 y2 y3 y4) (strongroomlaw20_MerkleApplies.l0 (k + 1) y0 y1 y2 y3 y4)) ∧ (∀ y0 y1 y2, LeO (strongroomlaw20_MerkleApplies.j2 k y0 y1 y2) (strongroomlaw20_MerkleApplies.j2 (k + 1) y0 y1 y2))
 | 0 => ⟨fun _ _ _ _ r h => by simp [strongroomlaw20_MerkleApplies.j0] at h, fun _ _ _ _ _ r h => by simp [strongroomlaw20_MerkleApplies.l0] at h, fun _ _ _ r h => by simp [strongroomlaw20_MerkleApplies.j2] at h⟩
 | k + 1 => by
  obtain ⟨ih0, ih1, ih2⟩ := strongroomlaw20_MerkleApplies.mono_l k
  refine ⟨?_, ?_, ?_⟩
  ·intro y0 y1 y2 y3
   unfold strongroomlaw20_MerkleApplies.j0
   repeat' first
   | (with_reducible exact ih0 _ _ _ _)
   | (with_reducible exact ih1 _ _ _ _ _)
   | (with_reducible exact ih2 _ _ _)
   | (with_reducible exact merkle_Apply.mono _ _ _)
   | (with_reducible exact merkle_Below.mono _ _ _)
   | (with_reducible exact strongroomlaw20_list.mono _ _)
   | (with_reducible exact strongroomlaw20_lives.mono _)
   | (with_reducible exact strongroomlaw20_mine.mono _ _)
   | (with_reducible exact strongroomlaw20_small.mono _ _)
   | (with_reducible exact strongroomlaw20_theirs.mono _ _)
   | (with_reducible exact strongroomref20_Apply.mono _ _ _)
   | (with_reducible exact strongroomref20_Below.mono _ _ _)
   | (with_reducible exact strongroomref20_Same.mono _ _ _)
   | (with_reducible exact LeO.refl _)
   | (with_reducible exact LeO.none _)
   | (with_reducible refine LeO.ite ?_ ?_)
   | (with_reducible refine LeO.bind ?_ (fun _ => ?_))
   | exact ih0 _ _ _ _
   | exact ih1 _ _ _ _ _
   | exact ih2 _ _ _
   | exact merkle_Apply.mono _ _ _
   | exact merkle_Below.mono _ _ _
   | exact strongroomlaw20_list.mono _ _
   | exact strongroomlaw20_lives.mono _
   | exact strongroomlaw20_mine.mono _ _
   | exact strongroomlaw20_small.mono _ _
   | exact strongroomlaw20_theirs.mono _ _
   | exact strongroomref20_Apply.mono _ _ _
   | exact strongroomref20_Below.mono _ _ _
   | exact strongroomref20_Same.mono _ _ _
   | exact LeO.none _
   | refine LeO.ite ?_ ?_
   | refine LeO.bind ?_ (fun _ => ?_)
  ·intro y0 y1 y2 y3 y4
   unfold strongroomlaw20_MerkleApplies.l0
   repeat' first
   | (with_reducible exact ih0 _ _ _ _)
   | (with_reducible exact ih1 _ _ _ _ _)
   | (with_reducible exact ih2 _ _ _)
   | (with_reducible exact merkle_Apply.mono _ _ _)
   | (with_reducible exact merkle_Below.mono _ _ _)
   | (with_reducible exact strongroomlaw20_list.mono _ _)
   | (with_reducible exact strongroomlaw20_lives.mono _)
   | (with_reducible exact strongroomlaw20_mine.mono _ _)
   | (with_reducible exact strongroomlaw20_small.mono _ _)
   | (with_reducible exact strongroomlaw20_theirs.mono _ _)
   | (with_reducible exact strongroomref20_Apply.mono _ _ _)
   | (with_reducible exact strongroomref20_Below.mono _ _ _)
   | (with_reducible exact strongroomref20_Same.mono _ _ _)
   | (with_reducible exact LeO.refl _)
   | (with_reducible exact LeO.none _)
   | (with_reducible refine LeO.ite ?_ ?_)
   | (with_reducible refine LeO.bind ?_ (fun _ => ?_))
   | exact ih0 _ _ _ _
   | exact ih1 _ _ _ _ _
   | exact ih2 _ _ _
   | exact merkle_Apply.mono _ _ _
   | exact merkle_Below.mono _ _ _
   | exact strongroomlaw20_list.mono _ _
   | exact strongroomlaw20_lives.mono _
   | exact strongroomlaw20_mine.mono _ _
   | exact strongroomlaw20_small.mono _ _
   | exact strongroomlaw20_theirs.mono _ _
   | exact strongroomref20_Apply.mono _ _ _
   | exact strongroomref20_Below.mono _ _ _
   | exact strongroomref20_Same.mono _ _ _
   | exact LeO.none _
   | refine LeO.ite ?_ ?_
   | refine LeO.bind ?_ (fun _ => ?_)
  ·intro y0 y1 y2
   unfold strongroomlaw20_MerkleApplies.j2
   repeat' first
   | (with_reducible exact ih0 _ _ _ _)
   | (with_reducible exact ih1 _ _ _ _ _)
   | (with_reducible exact ih2 _ _ _)
   | (with_reducible exact merkle_Apply.mono _ _ _)
   | (with_reducible exact merkle_Below.mono _ _ _)
   | (with_reducible exact strongroomlaw20_list.mono _ _)
   | (with_reducible exact strongroomlaw20_lives.mono _)
   | (with_reducible exact strongroomlaw20_mine.mono _ _)
   | (with_reducible exact strongroomlaw20_small.mono _ _)
   | (with_reducible exact strongroomlaw20_theirs.mono _ _)
   | (with_reducible exact strongroomref20_Apply.mono _ _ _)
   | (with_reducible exact strongroomref20_Below.mono _ _ _)
   | (with_reducible exact strongroomref20_Same.mono _ _ _)
   | (with_reducible exact LeO.refl _)
   | (with_reducible exact LeO.none _)
   | (with_reducible refine LeO.ite ?_ ?_)
   | (with_reducible refine LeO.bind ?_ (fun _ => ?_))
   | exact ih0 _ _ _ _
   | exact ih1 _ _ _ _ _
   | exact ih2 _ _ _
   | exact merkle_Apply.mono _ _ _
   | exact merkle_Below.mono _ _ _
   | exact strongroomlaw20_list.mono _ _
   | exact strongroomlaw20_lives.mono _
   | exact strongroomlaw20_mine.mono _ _
   | exact strongroomlaw20_small.mono _ _
   | exact strongroomlaw20_theirs.mono _ _
   | exact strongroomref20_Apply.mono _ _ _
   | exact strongroomref20_Below.mono _ _ _
   | exact strongroomref20_Same.mono _ _ _
   | exact LeO.none _
   | refine LeO.ite ?_ ?_
   | refine LeO.bind ?_ (fun _ => ?_)
theorem strongroomlaw20_MerkleApplies.mono : ∀ a0 a1 a2 k, LeO (strongroomlaw20_MerkleApplies.f k a0 a1 a2) (strongroomlaw20_MerkleApplies.f (k + 1) a0 a1 a2) := by
 intro a0 a1 a2 k
 obtain ⟨ih0, ih1, ih2⟩ := strongroomlaw20_MerkleApplies.mono_l k
 unfold strongroomlaw20_MerkleApplies.f
 repeat' first
   | (with_reducible exact ih0 _ _ _ _)
   | (with_reducible exact ih1 _ _ _ _ _)
   | (with_reducible exact ih2 _ _ _)
   | (with_reducible exact merkle_Apply.mono _ _ _)
   | (with_reducible exact merkle_Below.mono _ _ _)
   | (with_reducible exact strongroomlaw20_list.mono _ _)
   | (with_reducible exact strongroomlaw20_lives.mono _)
   | (with_reducible exact strongroomlaw20_mine.mono _ _)
   | (with_reducible exact strongroomlaw20_small.mono _ _)
   | (with_reducible exact strongroomlaw20_theirs.mono _ _)
   | (with_reducible exact strongroomref20_Apply.mono _ _ _)
   | (with_reducible exact strongroomref20_Below.mono _ _ _)
   | (with_reducible exact strongroomref20_Same.mono _ _ _)
   | (with_reducible exact LeO.refl _)
   | (with_reducible exact LeO.none _)
   | (with_reducible refine LeO.ite ?_ ?_)
   | (with_reducible refine LeO.bind ?_ (fun _ => ?_))
   | exact ih0 _ _ _ _
   | exact ih1 _ _ _ _ _
   | exact ih2 _ _ _
   | exact merkle_Apply.mono _ _ _
   | exact merkle_Below.mono _ _ _
   | exact strongroomlaw20_list.mono _ _
   | exact strongroomlaw20_lives.mono _
   | exact strongroomlaw20_mine.mono _ _
   | exact strongroomlaw20_small.mono _ _
   | exact strongroomlaw20_theirs.mono _ _
   | exact strongroomref20_Apply.mono _ _ _
   | exact strongroomref20_Below.mono _ _ _
   | exact strongroomref20_Same.mono _ _ _
   | exact LeO.none _
   | refine LeO.ite ?_ ?_
   | refine LeO.bind ?_ (fun _ => ?_)
def strongroomlaw20_MerkleApplies.T7 : Bool × List (List Nat × List Nat) := (true, [([], []), ([], []), ([0, 1], [0, 1]), ([2], [2]), ([3], [3]), ([4], [4]), ([], []), ([], []), ([6, 7], [6, 7]), ([8], [8]), ([9], [9]), ([10], [10]), ([5, 11], [5, 11]), ([], []), ([], []), ([13, 14], [13, 14]), ([15], [15]), ([16], [16]), ([17], [17]), ([12, 18], [12, 18]), ([19], [19])])
def strongroomlaw20_MerkleApplies.B7 : List Nat := [0, 0, 3, 7, 15, 31, 0, 0, 192, 448, 960, 1984, 4095, 0, 0, 24576, 57344, 122880, 253952, 524287, 1048575]
theorem strongroomlaw20_MerkleApplies.tab7 : rtab .any (opsOf Tryd.f9 7) = strongroomlaw20_MerkleApplies.T7 := by kernel_rfl
theorem strongroomlaw20_MerkleApplies.bits7 : waitsOk strongroomlaw20_MerkleApplies.T7.2 strongroomlaw20_MerkleApplies.B7 = true := by kernel_rfl
def strongroomlaw20_MerkleApplies.T9 : Bool × List (List Nat × List Nat) := (true, [([], []), ([], []), ([], []), ([1, 2], [1, 2]), ([3], [3]), ([4], [4]), ([], []), ([], []), ([6, 7], [6, 7]), ([8], [8]), ([9], [9]), ([], []), ([], []), ([11, 12], [11, 12]), ([13], [13]), ([14], [14]), ([5, 10, 15], [5, 10, 15]), ([16], [16]), ([0, 17], [0, 17]), ([18, 18, 0, 1, 2, 3, 4, 5, 6, 7, 8, 9, 10, 11, 12, 13, 14, 15, 16, 17, 18], [0, 18])])
def strongroomlaw20_MerkleApplies.B9 : List Nat := [0, 0, 0, 6, 14, 30, 0, 0, 192, 448, 960, 0, 0, 6144, 14336, 30720, 65534, 131070, 262143, 524287]
theorem strongroomlaw20_MerkleApplies.tab9 : rtab .any (opsOf Tryd.f9 9) = strongroomlaw20_MerkleApplies.T9 := by kernel_rfl
theorem strongroomlaw20_MerkleApplies.bits9 : waitsOk strongroomlaw20_MerkleApplies.T9.2 strongroomlaw20_MerkleApplies.B9 = true := by kernel_rfl
set_option maxHeartbeats 8000000 in
set_option maxRecDepth 100000 in
theorem strongroomlaw20_MerkleApplies.calls (k : Nat) (A0 : Option Addr) (c0 : Nat) (l0 : List (S39)) (A1 : Option Addr) (c1 : Nat) (l1 : List (S67)) (a2 : ByteArray) (r : Bool) (w : World) (hr0 : Kd.C k39 w A0 l0.length l0) (hc0 : l0.length ≤ c0) (hr1 : Kd.C k67 w A1 l1.length l1) (hc1 : l1.length ≤ c1) (h : strongroomlaw20_MerkleApplies.f k l0 l1 a2 = some r) (hr_ : r = true) :
  Calls Tryd.prog 9 #[.slice A0 l0.length c0, .slice A1 l1.length c1, .string a2] w fun e w' => e = .returned (.bool r) ∧ Below w.heap.size w w' := by
 have hu66 := Tryd.underlying66
 have HR0 := Aside0.mk hr0
 have HC0 := Aside0.mk hc0
 clear hr0 hc0
 have HR1 := Aside0.mk hr1
 have HC1 := Aside0.mk hc1
 clear hr1 hc1
 have HB := Aside0.mk (Below.refl w.heap.size w)
 have H : ((strongroomlaw20_small.f k l0).bind fun t319 => (if t319 = true then (if (l1.length : Int) > 60 then (strongroomlaw20_MerkleApplies.j0 k l0 l1 a2 true) else (strongroomlaw20_MerkleApplies.j0 k l0 l1 a2 (decide ((a2.size : Int) > 200)))) else (strongroomlaw20_MerkleApplies.j0 k l0 l1 a2 true))) = some r := h
 clear h
 have HC4 := Aside0.mk H
 clear H
 go_enter Tryd.func9, Tryd.ntmps9
 go_upto_region 1 with (fail)
 go_cut [26] (fun v26 wc => ∃ (kq : Nat) (x26_3 : Bool), v26 = .bool x26_3 ∧ Aside0 (strongroomlaw20_MerkleApplies.j0 kq l0 l1 a2 x26_3 = some r) ∧ Aside0 (kq ≤ k) ∧ Aside0 (Below w.heap.size w wc))
 case first =>
  have H := HC4.out
  clear HC4
  replace H := Option.bind_eq_some_iff.mp H
  obtain ⟨t319, A50, H⟩ := H
  replace H : (if t319 = true then (if (l1.length : Int) > 60 then (strongroomlaw20_MerkleApplies.j0 k l0 l1 a2 true) else (strongroomlaw20_MerkleApplies.j0 k l0 l1 a2 (decide ((a2.size : Int) > 200)))) else (strongroomlaw20_MerkleApplies.j0 k l0 l1 a2 true)) = some r := H
  have A5 := Aside0.mk A50
  clear A50
  by_cases c6 : t319 = true
  case neg =>
   replace c6 := Bool.eq_false_iff.mpr c6
   subst c6
   have H1 : (strongroomlaw20_MerkleApplies.j0 k l0 l1 a2 true) = some r := by rw [if_neg (show ¬ (false = true) by decide)] at H; exact H
   clear H
   have H := H1
   clear H1
   have H' := Aside0.mk H
   clear H
   go_wp2_with (first | ((with_reducible refine gate_callee (f := 11) rfl ?_); refine goesL_ (some 15) rfl rfl Tryd.func11 (by kernel_rfl) rfl #[.slice A0 l0.length c0] rfl m6_ ?_; (with_reducible refine (strongroomlaw20_small.calls k _ _ l0 false _ ?side1 ?side2 A5.out).mono ?_); (case side1 => exact m20_); (case side2 => exact HC0.out); rintro e w' ⟨rfl, ⟨nd, rfl⟩⟩; refine ⟨_, rfl, ?_⟩))
   go_meet
   case rel => exact ⟨_, (true), m19_, H', ⟨by first | omega | exact Nat.le_refl _⟩, ⟨m27_⟩⟩
  subst c6
  have H1 : (if (l1.length : Int) > 60 then (strongroomlaw20_MerkleApplies.j0 k l0 l1 a2 true) else (strongroomlaw20_MerkleApplies.j0 k l0 l1 a2 (decide ((a2.size : Int) > 200)))) = some r := by rw [if_pos rfl] at H; exact H
  clear H
  have H := H1
  clear H1
  by_cases c7 : (l1.length : Int) > 60
  ·rw [if_pos c7] at H
   have c7b0 : decide (60 < (l1.length : Int)) = true := decide_eq_true c7
   have c7b1 : decide (60 < l1.length) = true := decide_eq_true (by omega)
   clear c7
   (first | rw [c7b0] | (simp only [i64_w, i32_w]; rw [c7b0]) | skip)
   have H' := Aside0.mk H
   clear H
   go_wp2_with (first | ((with_reducible refine gate_callee (f := 11) rfl ?_); refine goesL_ (some 15) rfl rfl Tryd.func11 (by kernel_rfl) rfl #[.slice A0 l0.length c0] rfl m6_ ?_; (with_reducible refine (strongroomlaw20_small.calls k _ _ l0 true _ ?side1 ?side2 A5.out).mono ?_); (case side1 => exact m20_); (case side2 => exact HC0.out); rintro e w' ⟨rfl, ⟨nd, rfl⟩⟩; refine ⟨_, rfl, ?_⟩))
   go_meet
   case rel => exact ⟨_, (true), m19_, H', ⟨by first | omega | exact Nat.le_refl _⟩, ⟨m27_⟩⟩
  rw [if_neg c7] at H
  have c7b0 : decide (60 < (l1.length : Int)) = false := decide_eq_false c7
  have c7b1 : decide (60 < l1.length) = false := decide_eq_false (by omega)
  clear c7
  (first | rw [c7b0] | (simp only [i64_w, i32_w]; rw [c7b0]) | skip)
  have H' := Aside0.mk H
  clear H
  go_wp2_with (first | ((with_reducible refine gate_callee (f := 11) rfl ?_); refine goesL_ (some 15) rfl rfl Tryd.func11 (by kernel_rfl) rfl #[.slice A0 l0.length c0] rfl m6_ ?_; (with_reducible refine (strongroomlaw20_small.calls k _ _ l0 true _ ?side1 ?side2 A5.out).mono ?_); (case side1 => exact m20_); (case side2 => exact HC0.out); rintro e w' ⟨rfl, ⟨nd, rfl⟩⟩; refine ⟨_, rfl, ?_⟩))
  go_meet
  case rel => exact ⟨_, (decide ((a2.size : Int) > 200)), m19_, H', ⟨by first | omega | exact Nat.le_refl _⟩, ⟨m27_⟩⟩
 clear HC4
 try clear c1; try clear p2; try clear c6; try clear c7; try clear c7b0; try clear c7b1
 obtain ⟨kq, x26_3, rfl, HA, HJ3, HB⟩ := hcut
 cases kq with
 | zero => exact absurd HA.out (by simp [strongroomlaw20_MerkleApplies.j0])
 | succ kj3 =>
  have H := HA.out
  clear HA
  simp only [strongroomlaw20_MerkleApplies.j0] at H
  by_cases c8 : x26_3 = true
  ·subst c8
   have H1 : ((strongroomlaw20_lives.f kj3).bind fun t320 => (some t320)) = some r := by rw [if_pos rfl] at H; exact H
   clear H
   have H := H1
   clear H1
   replace H := Option.bind_eq_some_iff.mp H
   obtain ⟨t320, A90, H⟩ := H
   replace H : (some t320) = some r := H
   have A9 := Aside0.mk A90
   clear A90
   obtain rfl := Option.some.inj H
   go_wp2_with (first | ((with_reducible refine gate_callee (f := 12) rfl ?_); refine goesL_ (some 27) rfl rfl Tryd.func12 (by kernel_rfl) rfl #[] rfl m6_ ?_; (with_reducible refine (strongroomlaw20_lives.calls kj3  t320 _ A9.out hr_).mono ?_); rintro e w10 ⟨rfl, hb⟩; refine ⟨_, rfl, ?_⟩; replace HB := Aside0.mk (below_step m7_ hb); (try clear hb); (try clear hb2); (try clear hk); (try clear hi)))
   go_ret
   exact ⟨by first | rfl | (simp [errW_none, errW_some] <;> rfl) | (simp [*, errW_none, errW_some] <;> rfl), m27_⟩
  replace c8 := Bool.eq_false_iff.mpr c8
  subst c8
  have H1 : (strongroomlaw20_MerkleApplies.l0 kj3 l0 l1 a2 ([] : List (S66)) 0) = some r := by rw [if_neg (show ¬ (false = true) by decide)] at H; exact H
  clear H
  have H := H1
  clear H1
  have H' := Aside0.mk H
  clear H
  go_wp2
  go_loopg [7, 8] kj3 (fun kq v7 v8 w' => ∃ (x7_2 : List (S66)) (x8_2 : Int), v8 = .int .i64 x8_2 ∧ Aside0 (strongroomlaw20_MerkleApplies.l0 kq l0 l1 a2 x7_2 x8_2 = some r) ∧ Aside0 (kq ≤ kj3) ∧ Aside0 (Kd.R k66 66 w' w.heap.size (fun _ => True) v7 x7_2) ∧ Aside0 (Below w.heap.size w w'))
  case atStart => exact ⟨(([] : List (S66))), (0), m19_, H', ⟨Nat.le_refl _⟩, ⟨by first | exact Kd.R_nil _ _ _ _ _ | exact Kd.N_nil _ _ _ _ _ | exact Kd.V_nil _ _ _ _ _ | exact Kd.Q_nil _ _ _ _ _ | exact Kd.S_nil _ _ _ _ _⟩, ⟨m27_⟩⟩
  clear H'
  try clear c1; try clear p2; try clear c6; try clear c7; try clear c7b0; try clear c7b1; try clear c8; try clear c9; try clear p2
  obtain ⟨x7_2, x8_2, rfl, HA, HK2, HO_7, HB⟩ := hrel
  cases gk with
  | zero => exact absurd HA.out (by simp [strongroomlaw20_MerkleApplies.l0])
  | succ k2 =>
   have H := HA.out
   clear HA
   simp only [strongroomlaw20_MerkleApplies.l0] at H
   by_cases c11 : x8_2 < (l1.length : Int)
   case neg =>
    rw [if_neg c11] at H
    have c11b0 : decide (x8_2 < (l1.length : Int)) = false := decide_eq_false c11
    clear c11
    replace H := Option.bind_eq_some_iff.mp H
    obtain ⟨t331, A210, H⟩ := H
    replace H : ((merkle_Apply.f k2 t331 x7_2).bind fun bt334 => ((strongroomref20_Apply.f k2 l0 l1).bind fun bt338 => ((strongroomlaw20_theirs.f k2 bt334.1).bind fun t342 => ((strongroomref20_Same.f k2 t342 bt338.1).bind fun t345 => (if t345 = true then (strongroomlaw20_MerkleApplies.j2 k2 l0 a2 (bt334.2 != bt338.2)) else (strongroomlaw20_MerkleApplies.j2 k2 l0 a2 true)))))) = some r := H
    have A21 := Aside0.mk A210
    clear A210
    replace H := Option.bind_eq_some_iff.mp H
    obtain ⟨⟨t334, t337⟩, A220, H⟩ := H
    replace H : ((strongroomref20_Apply.f k2 l0 l1).bind fun bt338 => ((strongroomlaw20_theirs.f k2 t334).bind fun t342 => ((strongroomref20_Same.f k2 t342 bt338.1).bind fun t345 => (if t345 = true then (strongroomlaw20_MerkleApplies.j2 k2 l0 a2 (t337 != bt338.2)) else (strongroomlaw20_MerkleApplies.j2 k2 l0 a2 true))))) = some r := H
    have A22 := Aside0.mk A220
    clear A220
    replace H := Option.bind_eq_some_iff.mp H
    obtain ⟨⟨t338, t341⟩, A230, H⟩ := H
    replace H : ((strongroomlaw20_theirs.f k2 t334).bind fun t342 => ((strongroomref20_Same.f k2 t342 t338).bind fun t345 => (if t345 = true then (strongroomlaw20_MerkleApplies.j2 k2 l0 a2 (t337 != t341)) else (strongroomlaw20_MerkleApplies.j2 k2 l0 a2 true)))) = some r := H
    have A23 := Aside0.mk A230
    clear A230
    have HC24 := Aside0.mk H
    clear H
    go_upto_region 12 with (first | ((with_reducible refine gate_callee (f := 14) rfl ?_); refine goesL_ (some 77) rfl rfl Tryd.func14 (by kernel_rfl) rfl #[.slice A0 l0.length c0] rfl m6_ ?_; (with_reducible refine (strongroomlaw20_mine.calls k2 _ _ l0 t331 _ ?side1 ?side2 A21.out).mono ?_); (case side1 => exact m20_); (case side2 => exact HC0.out); rintro e w25 ⟨v332, rfl, ho0, hb⟩; refine ⟨_, rfl, ?_⟩; replace HO_7 := Aside0.mk (Kd.R_below m15_ hb); have HO333 := Aside0.mk (Kd.R_lower ho0 (below_size m7_)); replace HB := Aside0.mk (below_step m7_ hb); (try clear hb); (try clear hb2); (try clear hk); (try clear hi); (try clear ho0); obtain ⟨Ao26, co26, eo26⟩ := Kd.R_slice HO333.out; subst eo26; obtain ⟨Ao27, co27, eo27⟩ := Kd.R_slice HO_7.out; subst eo27) | ((with_reducible refine gate_callee (f := 32) rfl ?_); refine goesL_ (some 79) rfl rfl Tryd.func32 (by kernel_rfl) rfl #[.slice Ao26 t331.length co26, .slice Ao27 x7_2.length co27] rfl m6_ ?_; (with_reducible refine (merkle_Apply.calls k2 (fun k_ => some k_ = (.slice Ao26 t331.length co26 : Value).ownBlock) _ _ t331 _ _ x7_2 t334 t337 _ ?side1 ?side2 ?side3 A22.out).mono ?_); (case side1 => exact Kd.R_V (Kd.R_tight rfl (Kd.R_apart' (HO333.out) (Kd.R_typed HO_7.out) (by decide)))); (case side2 => repeat (first | exact (Kd.R_reads' HO_7.out).2.2 | (with_reducible refine Kd.C_alloc ?_ _) | (with_reducible refine Kd.C_drewN ?_ _) | (with_reducible refine Kd.C_drew ?_))); (case side3 => exact (Kd.R_reads' HO_7.out).2.1); rintro e w28 ⟨v335, rfl, ho0, hb⟩; refine ⟨_, rfl, ?_⟩; have n0_ := Aside0.mk (Kd.R_below m15_ hb); have n1_ := Aside0.mk (Kd.R_elder' m13_ (Kd.R_base ho0) hb); have n2_ := Aside0.mk (Kd.R_lower (Kd.R_new' (Kd.R_mono (ok' := fun k_ => True) ho0 (fun _ hk_ => trivial)) (Kd.R_lt m13_)) (below_size m7_)); have n3_ := Aside0.mk (below_step m7_ hb); clear HO_7; clear HO333; clear HB; have HO_7 := n0_; have HO333 := n1_; have HO336 := n2_; have HB := n3_; clear n0_ n1_ n2_ n3_; (try clear hb); (try clear hb2); (try clear hk); (try clear hi); (try clear ho0)) | ((with_reducible refine gate_callee (f := 35) rfl ?_); refine goesL_ (some 85) rfl rfl Tryd.func35 (by kernel_rfl) rfl #[.slice A0 l0.length c0, .slice A1 l1.length c1] rfl m6_ ?_; (with_reducible refine (strongroomref20_Apply.calls k2 (fun k_ => k_ < w.heap.size) _ _ l0 _ _ l1 t338 t341 _ ?side1 ?side2 ?side3 A23.out).mono ?_); (case side1 => exact Kd.V_mk HC0.out (Kd.F_below (Kd.C_F k39_heap HR0.out) m7_)); (case side2 => repeat (first | exact (Kd.C_below HR1.out HB.out) | (with_reducible refine Kd.C_alloc ?_ _) | (with_reducible refine Kd.C_drewN ?_ _) | (with_reducible refine Kd.C_drew ?_))); (case side3 => exact HC1.out); rintro e w29 ⟨v339, rfl, ho0, hb⟩; refine ⟨_, rfl, ?_⟩; have n0_ := Aside0.mk (Kd.R_below m15_ hb); have n1_ := Aside0.mk (Kd.R_below m13_ hb); have n2_ := Aside0.mk (Kd.R_below (by (with_reducible repeat (first | apply Kd.R_alloc | apply Kd.R_drewN | apply Kd.R_drew)); exact HO336.out) hb); have n3_ := Aside0.mk (Kd.V_lower (Kd.V_mono (ok' := fun k_ => some k_ ≠ (.slice Ao27 x7_2.length co27 : Value).ownBlock ∧ some k_ ≠ (.slice Ao26 t331.length co26 : Value).ownBlock ∧ some k_ ≠ (v335 : Value).ownBlock) ho0 (fun k_ hk_ => ⟨Or.elim hk_ (fun hs_ => fun e_ => Nat.not_le.2 hs_ (Kd.R_base HO_7.out k_ e_.symm)) (fun hn_ => (Kd.fresh' (Kd.R_lt m15_) k_ hn_)), Or.elim hk_ (fun hs_ => fun e_ => Nat.not_le.2 hs_ (Kd.R_base HO333.out k_ e_.symm)) (fun hn_ => (Kd.fresh' (Kd.R_lt m13_) k_ hn_)), Or.elim hk_ (fun hs_ => fun e_ => Nat.not_le.2 hs_ (Kd.R_base HO336.out k_ e_.symm)) (fun hn_ => (Kd.fresh' (Kd.R_lt (by (with_reducible repeat (first | apply Kd.R_alloc | apply Kd.R_drewN | apply Kd.R_drew)); exact HO336.out)) k_ hn_))⟩)) (below_size m7_)); have n4_ := Aside0.mk (below_step m7_ hb); clear HO_7; clear HO333; clear HO336; clear HB; have HO_7 := n0_; have HO333 := n1_; have HO336 := n2_; have HO340 := n3_; have HB := n4_; clear n0_ n1_ n2_ n3_ n4_; (try clear hb); (try clear hb2); (try clear hk); (try clear hi); (try clear ho0)))
    (try simp only [Act.put, List.setIfInBounds_toArray, List.set_cons_zero, List.set_cons_succ])
    go_cut [97] (fun v97 wc => ∃ (kq : Nat) (x97_23 : Bool), v97 = .bool x97_23 ∧ Aside0 (strongroomlaw20_MerkleApplies.j2 kq l0 a2 x97_23 = some r) ∧ Aside0 (kq ≤ k2) ∧ Aside0 (Below w.heap.size w wc))
    case first =>
     have H := HC24.out
     clear HC24
     replace H := Option.bind_eq_some_iff.mp H
     obtain ⟨t342, A300, H⟩ := H
     replace H : ((strongroomref20_Same.f k2 t342 t338).bind fun t345 => (if t345 = true then (strongroomlaw20_MerkleApplies.j2 k2 l0 a2 (t337 != t341)) else (strongroomlaw20_MerkleApplies.j2 k2 l0 a2 true))) = some r := H
     have A30 := Aside0.mk A300
     clear A300
     replace H := Option.bind_eq_some_iff.mp H
     obtain ⟨t345, A310, H⟩ := H
     replace H : (if t345 = true then (strongroomlaw20_MerkleApplies.j2 k2 l0 a2 (t337 != t341)) else (strongroomlaw20_MerkleApplies.j2 k2 l0 a2 true)) = some r := H
     have A31 := Aside0.mk A310
     clear A310
     by_cases c32 : t345 = true
     ·subst c32
      have H1 : (strongroomlaw20_MerkleApplies.j2 k2 l0 a2 (t337 != t341)) = some r := by rw [if_pos rfl] at H; exact H
      clear H
      have H := H1
      clear H1
      have H' := Aside0.mk H
      clear H
      obtain ⟨Ao33, co33, eo33⟩ := Kd.R_slice HO336.out
      subst eo33
      go_wp2_with (first | ((with_reducible refine gate_callee (f := 34) rfl ?_); refine goesL_ (some 89) rfl rfl Tryd.func34 (by kernel_rfl) rfl #[.slice Ao33 t334.length co33] rfl m6_ ?_; (with_reducible refine (strongroomlaw20_theirs.calls k2 _ _ t334 t342 _ ?side1 ?side2 A30.out).mono ?_); (case side1 => repeat (first | exact (Kd.R_reads' HO336.out).2.2 | (with_reducible refine Kd.C_alloc ?_ _) | (with_reducible refine Kd.C_drewN ?_ _) | (with_reducible refine Kd.C_drew ?_))); (case side2 => exact (Kd.R_reads' HO336.out).2.1); rintro e w34 ⟨v343, rfl, ho0, hb⟩; refine ⟨_, rfl, ?_⟩; have n0_ := Aside0.mk (Kd.R_below m15_ hb); have n1_ := Aside0.mk (Kd.R_below m13_ hb); have n2_ := Aside0.mk (Kd.R_below (by (with_reducible repeat (first | apply Kd.R_alloc | apply Kd.R_drewN | apply Kd.R_drew)); exact HO336.out) hb); have n3_ := Aside0.mk (Kd.V_elder' (by (with_reducible repeat (first | apply Kd.V_alloc | apply Kd.V_drewN | apply Kd.V_drew)); exact HO340.out) (Kd.R_base ho0) hb); have n4_ := Aside0.mk (Kd.R_lower ho0 (below_size m7_)); have n5_ := Aside0.mk (below_step m7_ hb); clear HO_7; clear HO333; clear HO336; clear HO340; clear HB; have HO_7 := n0_; have HO333 := n1_; have HO336 := n2_; have HO340 := n3_; have HO344 := n4_; have HB := n5_; clear n0_ n1_ n2_ n3_ n4_ n5_; (try clear hb); (try clear hb2); (try clear hk); (try clear hi); (try clear ho0); obtain ⟨Ao35, co35, eo35⟩ := Kd.R_slice HO344.out; subst eo35; obtain ⟨Ao36, co36, eo36⟩ := Kd.V_slice HO340.out; subst eo36) | ((with_reducible refine gate_callee (f := 33) rfl ?_); refine goesL_ (some 91) rfl rfl Tryd.func33 (by kernel_rfl) rfl #[.slice Ao35 t342.length co35, .slice Ao36 t338.length co36] rfl m6_ ?_; (with_reducible refine (strongroomref20_Same.calls k2 _ _ t342 _ _ t338 true _ ?side1 ?side2 ?side3 ?side4 A31.out).mono ?_); (case side1 => repeat (first | exact (Kd.R_reads' HO344.out).2.2 | (with_reducible refine Kd.C_alloc ?_ _) | (with_reducible refine Kd.C_drewN ?_ _) | (with_reducible refine Kd.C_drew ?_))); (case side2 => exact (Kd.R_reads' HO344.out).2.1); (case side3 => repeat (first | exact (Kd.V_reads' HO340.out).2.2 | (with_reducible refine Kd.C_alloc ?_ _) | (with_reducible refine Kd.C_drewN ?_ _) | (with_reducible refine Kd.C_drew ?_))); (case side4 => exact (Kd.V_reads' HO340.out).2.1); rintro e w' ⟨rfl, ⟨nd, rfl⟩⟩; refine ⟨_, rfl, ?_⟩))
      go_meet
      case rel => exact ⟨_, ((t337 != t341)), m19_, H', ⟨by have := HJ3.out; have := HK2.out; first | omega | exact Nat.le_refl _⟩, ⟨m27_⟩⟩
     replace c32 := Bool.eq_false_iff.mpr c32
     subst c32
     have H1 : (strongroomlaw20_MerkleApplies.j2 k2 l0 a2 true) = some r := by rw [if_neg (show ¬ (false = true) by decide)] at H; exact H
     clear H
     have H := H1
     clear H1
     have H' := Aside0.mk H
     clear H
     obtain ⟨Ao37, co37, eo37⟩ := Kd.R_slice HO336.out
     subst eo37
     go_wp2_with (first | ((with_reducible refine gate_callee (f := 34) rfl ?_); refine goesL_ (some 89) rfl rfl Tryd.func34 (by kernel_rfl) rfl #[.slice Ao37 t334.length co37] rfl m6_ ?_; (with_reducible refine (strongroomlaw20_theirs.calls k2 _ _ t334 t342 _ ?side1 ?side2 A30.out).mono ?_); (case side1 => repeat (first | exact (Kd.R_reads' HO336.out).2.2 | (with_reducible refine Kd.C_alloc ?_ _) | (with_reducible refine Kd.C_drewN ?_ _) | (with_reducible refine Kd.C_drew ?_))); (case side2 => exact (Kd.R_reads' HO336.out).2.1); rintro e w38 ⟨v343, rfl, ho0, hb⟩; refine ⟨_, rfl, ?_⟩; have n0_ := Aside0.mk (Kd.R_below m15_ hb); have n1_ := Aside0.mk (Kd.R_below m13_ hb); have n2_ := Aside0.mk (Kd.R_below (by (with_reducible repeat (first | apply Kd.R_alloc | apply Kd.R_drewN | apply Kd.R_drew)); exact HO336.out) hb); have n3_ := Aside0.mk (Kd.V_elder' (by (with_reducible repeat (first | apply Kd.V_alloc | apply Kd.V_drewN | apply Kd.V_drew)); exact HO340.out) (Kd.R_base ho0) hb); have n4_ := Aside0.mk (Kd.R_lower ho0 (below_size m7_)); have n5_ := Aside0.mk (below_step m7_ hb); clear HO_7; clear HO333; clear HO336; clear HO340; clear HB; have HO_7 := n0_; have HO333 := n1_; have HO336 := n2_; have HO340 := n3_; have HO344 := n4_; have HB := n5_; clear n0_ n1_ n2_ n3_ n4_ n5_; (try clear hb); (try clear hb2); (try clear hk); (try clear hi); (try clear ho0); obtain ⟨Ao39, co39, eo39⟩ := Kd.R_slice HO344.out; subst eo39; obtain ⟨Ao40, co40, eo40⟩ := Kd.V_slice HO340.out; subst eo40) | ((with_reducible refine gate_callee (f := 33) rfl ?_); refine goesL_ (some 91) rfl rfl Tryd.func33 (by kernel_rfl) rfl #[.slice Ao39 t342.length co39, .slice Ao40 t338.length co40] rfl m6_ ?_; (with_reducible refine (strongroomref20_Same.calls k2 _ _ t342 _ _ t338 false _ ?side1 ?side2 ?side3 ?side4 A31.out).mono ?_); (case side1 => repeat (first | exact (Kd.R_reads' HO344.out).2.2 | (with_reducible refine Kd.C_alloc ?_ _) | (with_reducible refine Kd.C_drewN ?_ _) | (with_reducible refine Kd.C_drew ?_))); (case side2 => exact (Kd.R_reads' HO344.out).2.1); (case side3 => repeat (first | exact (Kd.V_reads' HO340.out).2.2 | (with_reducible refine Kd.C_alloc ?_ _) | (with_reducible refine Kd.C_drewN ?_ _) | (with_reducible refine Kd.C_drew ?_))); (case side4 => exact (Kd.V_reads' HO340.out).2.1); rintro e w' ⟨rfl, ⟨nd, rfl⟩⟩; refine ⟨_, rfl, ?_⟩))
     go_meet
     case rel => exact ⟨_, (true), m19_, H', ⟨by have := HJ3.out; have := HK2.out; first | omega | exact Nat.le_refl _⟩, ⟨m27_⟩⟩
    clear HC24
    try clear c1; try clear p2; try clear c3; try clear p3; try clear q3; try clear hx3; try clear p6; try clear c11; try clear c11b0; try clear c12; try clear c13; try clear c13b0; try clear c14; try clear c17; try clear c32; try clear p32; try clear q32; try clear hx32; try clear c33; try clear c34; try clear c35; try clear hx321_0; try clear hx321_1; try clear hx321_2; try clear hx322_0; try clear hx322_1; try clear hx322_2; try clear hx323_0; try clear hx323_1; try clear hx323_2; try clear hx325_0; try clear hx325_1; try clear hx325_2; try clear hx326_0; try clear hx326_1; try clear hx326_2; try clear hx327_0; try clear hx327_1; try clear hx327_2; try clear p321; try clear p322; try clear p323; try clear p325; try clear p326; try clear p327; try clear q321; try clear q322; try clear q323; try clear q325; try clear q326; try clear q327
    obtain ⟨kq, x97_23, rfl, HA, HJ23, HB⟩ := hcut
    cases kq with
    | zero => exact absurd HA.out (by simp [strongroomlaw20_MerkleApplies.j2])
    | succ kj23 =>
     have H := HA.out
     clear HA
     simp only [strongroomlaw20_MerkleApplies.j2] at H
     by_cases c41 : x97_23 = true
     ·subst c41
      have H1 : (some false) = some r := by rw [if_pos rfl] at H; exact H
      clear H
      have H := H1
      clear H1
      exact absurd ((Option.some.inj H).trans hr_) (by decide)
     replace c41 := Bool.eq_false_iff.mpr c41
     subst c41
     have H1 : ((strongroomlaw20_mine.f kj23 l0).bind fun t346 => ((merkle_Below.f kj23 t346 a2).bind fun t349 => ((strongroomlaw20_list.f kj23 l0).bind fun t352 => (if t352 = true then ((strongroomlaw20_theirs.f kj23 t349).bind fun t354 => ((strongroomref20_Below.f kj23 l0 a2).bind fun t357 => ((strongroomref20_Same.f kj23 t354 t357).bind fun t360 => (if t360 = true then ((strongroomlaw20_lives.f kj23).bind fun t361 => (some t361)) else (some false))))) else (if (t349.length : Int) = 0 then ((strongroomlaw20_lives.f kj23).bind fun t353 => (some t353)) else (some false)))))) = some r := by rw [if_neg (show ¬ (false = true) by decide)] at H; exact H
     clear H
     have H := H1
     clear H1
     replace H := Option.bind_eq_some_iff.mp H
     obtain ⟨t346, A420, H⟩ := H
     replace H : ((merkle_Below.f kj23 t346 a2).bind fun t349 => ((strongroomlaw20_list.f kj23 l0).bind fun t352 => (if t352 = true then ((strongroomlaw20_theirs.f kj23 t349).bind fun t354 => ((strongroomref20_Below.f kj23 l0 a2).bind fun t357 => ((strongroomref20_Same.f kj23 t354 t357).bind fun t360 => (if t360 = true then ((strongroomlaw20_lives.f kj23).bind fun t361 => (some t361)) else (some false))))) else (if (t349.length : Int) = 0 then ((strongroomlaw20_lives.f kj23).bind fun t353 => (some t353)) else (some false))))) = some r := H
     have A42 := Aside0.mk A420
     clear A420
     replace H := Option.bind_eq_some_iff.mp H
     obtain ⟨t349, A430, H⟩ := H
     replace H : ((strongroomlaw20_list.f kj23 l0).bind fun t352 => (if t352 = true then ((strongroomlaw20_theirs.f kj23 t349).bind fun t354 => ((strongroomref20_Below.f kj23 l0 a2).bind fun t357 => ((strongroomref20_Same.f kj23 t354 t357).bind fun t360 => (if t360 = true then ((strongroomlaw20_lives.f kj23).bind fun t361 => (some t361)) else (some false))))) else (if (t349.length : Int) = 0 then ((strongroomlaw20_lives.f kj23).bind fun t353 => (some t353)) else (some false)))) = some r := H
     have A43 := Aside0.mk A430
     clear A430
     replace H := Option.bind_eq_some_iff.mp H
     obtain ⟨t352, A440, H⟩ := H
     replace H : (if t352 = true then ((strongroomlaw20_theirs.f kj23 t349).bind fun t354 => ((strongroomref20_Below.f kj23 l0 a2).bind fun t357 => ((strongroomref20_Same.f kj23 t354 t357).bind fun t360 => (if t360 = true then ((strongroomlaw20_lives.f kj23).bind fun t361 => (some t361)) else (some false))))) else (if (t349.length : Int) = 0 then ((strongroomlaw20_lives.f kj23).bind fun t353 => (some t353)) else (some false))) = some r := H
     have A44 := Aside0.mk A440
     clear A440
     by_cases c45 : t352 = true
     case neg =>
      replace c45 := Bool.eq_false_iff.mpr c45
      subst c45
      have H1 : (if (t349.length : Int) = 0 then ((strongroomlaw20_lives.f kj23).bind fun t353 => (some t353)) else (some false)) = some r := by rw [if_neg (show ¬ (false = true) by decide)] at H; exact H
      clear H
      have H := H1
      clear H1
      by_cases c70 : (t349.length : Int) = 0
      case neg =>
       rw [if_neg c70] at H
       have c70b0 : ((t349.length : Int) == 0) = false := beq_eq_false_iff_ne.mpr c70
       have c70b1 : ((t349.length : Int) != 0) = true := bne_iff_ne.mpr c70
       have c70b2 : ¬ (t349 = []) := fun h_ => c70 (by rw [h_]; rfl)
       exact absurd ((Option.some.inj H).trans hr_) (by decide)
      rw [if_pos c70] at H
      have c70b0 : ((t349.length : Int) == 0) = true := beq_iff_eq.mpr c70
      have c70b1 : ((t349.length : Int) != 0) = false := bne_eq_false_iff_eq.mpr c70
      clear c70
      replace H := Option.bind_eq_some_iff.mp H
      obtain ⟨t353, A710, H⟩ := H
      replace H : (some t353) = some r := H
      have A71 := Aside0.mk A710
      clear A710
      obtain rfl := Option.some.inj H
      go_wp2_with (first | ((with_reducible refine gate_callee (f := 14) rfl ?_); refine goesL_ (some 99) rfl rfl Tryd.func14 (by kernel_rfl) rfl #[.slice A0 l0.length c0] rfl m6_ ?_; (with_reducible refine (strongroomlaw20_mine.calls kj23 _ _ l0 t346 _ ?side1 ?side2 A42.out).mono ?_); (case side1 => exact m20_); (case side2 => exact HC0.out); rintro e w72 ⟨v347, rfl, ho0, hb⟩; refine ⟨_, rfl, ?_⟩; have HO348 := Aside0.mk (Kd.R_lower ho0 (below_size m7_)); replace HB := Aside0.mk (below_step m7_ hb); (try clear hb); (try clear hb2); (try clear hk); (try clear hi); (try clear ho0); obtain ⟨Ao73, co73, eo73⟩ := Kd.R_slice HO348.out; subst eo73) | ((with_reducible refine gate_callee (f := 36) rfl ?_); refine goesL_ (some 101) rfl rfl Tryd.func36 (by kernel_rfl) rfl #[.slice Ao73 t346.length co73, .string a2] rfl m6_ ?_; (with_reducible refine (merkle_Below.calls kj23 _ _ t346 a2 t349 _ ?side1 ?side2 A43.out).mono ?_); (case side1 => repeat (first | exact (Kd.R_reads' HO348.out).2.2 | (with_reducible refine Kd.C_alloc ?_ _) | (with_reducible refine Kd.C_drewN ?_ _) | (with_reducible refine Kd.C_drew ?_))); (case side2 => exact (Kd.R_reads' HO348.out).2.1); rintro e w74 ⟨v350, rfl, ho0, hb⟩; refine ⟨_, rfl, ?_⟩; have n0_ := Aside0.mk (Kd.R_elder' m11_ (Kd.R_base ho0) hb); have n1_ := Aside0.mk (Kd.R_lower (Kd.R_new' ho0 (Kd.R_lt m11_)) (below_size m7_)); have n2_ := Aside0.mk (below_step m7_ hb); clear HO348; clear HB; have HO348 := n0_; have HO351 := n1_; have HB := n2_; clear n0_ n1_ n2_; (try clear hb); (try clear hb2); (try clear hk); (try clear hi); (try clear ho0)) | ((with_reducible refine gate_callee (f := 17) rfl ?_); refine goesL_ (some 103) rfl rfl Tryd.func17 (by kernel_rfl) rfl #[.slice A0 l0.length c0] rfl m6_ ?_; (with_reducible refine (strongroomlaw20_list.calls kj23 _ _ l0 false _ ?side1 ?side2 A44.out).mono ?_); (case side1 => exact m20_); (case side2 => exact HC0.out); rintro e w75 ⟨rfl, hb⟩; refine ⟨_, rfl, ?_⟩; replace HO348 := Aside0.mk (Kd.R_below m11_ hb); replace HO351 := Aside0.mk (Kd.R_below m12_ hb); replace HB := Aside0.mk (below_step m7_ hb); (try clear hb); (try clear hb2); (try clear hk); (try clear hi); obtain ⟨Ao76, co76, eo76⟩ := Kd.R_slice HO351.out; subst eo76) | (go_at_call 12; (with_reducible refine (strongroomlaw20_lives.calls kj23  t353 _ A71.out hr_).mono ?_); rintro e w77 ⟨rfl, hb⟩; replace HO348 := Aside0.mk (Kd.R_below m11_ hb); replace HO351 := Aside0.mk (Kd.R_below m12_ hb); replace HB := Aside0.mk (below_step m7_ hb); (try clear hb); (try clear hb2); (try clear hk); (try clear hi)))
      go_ret
      exact ⟨by first | rfl | (simp [errW_none, errW_some] <;> rfl) | (simp [*, errW_none, errW_some] <;> rfl), m27_⟩
     subst c45
     have H1 : ((strongroomlaw20_theirs.f kj23 t349).bind fun t354 => ((strongroomref20_Below.f kj23 l0 a2).bind fun t357 => ((strongroomref20_Same.f kj23 t354 t357).bind fun t360 => (if t360 = true then ((strongroomlaw20_lives.f kj23).bind fun t361 => (some t361)) else (some false))))) = some r := by rw [if_pos rfl] at H; exact H
     clear H
     have H := H1
     clear H1
     replace H := Option.bind_eq_some_iff.mp H
     obtain ⟨t354, A460, H⟩ := H
     replace H : ((strongroomref20_Below.f kj23 l0 a2).bind fun t357 => ((strongroomref20_Same.f kj23 t354 t357).bind fun t360 => (if t360 = true then ((strongroomlaw20_lives.f kj23).bind fun t361 => (some t361)) else (some false)))) = some r := H
     have A46 := Aside0.mk A460
     clear A460
     replace H := Option.bind_eq_some_iff.mp H
     obtain ⟨t357, A470, H⟩ := H
     replace H : ((strongroomref20_Same.f kj23 t354 t357).bind fun t360 => (if t360 = true then ((strongroomlaw20_lives.f kj23).bind fun t361 => (some t361)) else (some false))) = some r := H
     have A47 := Aside0.mk A470
     clear A470
     replace H := Option.bind_eq_some_iff.mp H
     obtain ⟨t360, A480, H⟩ := H
     replace H : (if t360 = true then ((strongroomlaw20_lives.f kj23).bind fun t361 => (some t361)) else (some false)) = some r := H
     have A48 := Aside0.mk A480
     clear A480
     by_cases c49 : t360 = true
     case neg =>
      replace c49 := Bool.eq_false_iff.mpr c49
      subst c49
      have H1 : (some false) = some r := by rw [if_neg (show ¬ (false = true) by decide)] at H; exact H
      clear H
      have H := H1
      clear H1
      exact absurd ((Option.some.inj H).trans hr_) (by decide)
     subst c49
     have H1 : ((strongroomlaw20_lives.f kj23).bind fun t361 => (some t361)) = some r := by rw [if_pos rfl] at H; exact H
     clear H
     have H := H1
     clear H1
     replace H := Option.bind_eq_some_iff.mp H
     obtain ⟨t361, A500, H⟩ := H
     replace H : (some t361) = some r := H
     have A50 := Aside0.mk A500
     clear A500
     obtain rfl := Option.some.inj H
     go_wp2_with (first | ((with_reducible refine gate_callee (f := 14) rfl ?_); refine goesL_ (some 99) rfl rfl Tryd.func14 (by kernel_rfl) rfl #[.slice A0 l0.length c0] rfl m6_ ?_; (with_reducible refine (strongroomlaw20_mine.calls kj23 _ _ l0 t346 _ ?side1 ?side2 A42.out).mono ?_); (case side1 => exact m20_); (case side2 => exact HC0.out); rintro e w51 ⟨v347, rfl, ho0, hb⟩; refine ⟨_, rfl, ?_⟩; have HO348 := Aside0.mk (Kd.R_lower ho0 (below_size m7_)); replace HB := Aside0.mk (below_step m7_ hb); (try clear hb); (try clear hb2); (try clear hk); (try clear hi); (try clear ho0); obtain ⟨Ao52, co52, eo52⟩ := Kd.R_slice HO348.out; subst eo52) | ((with_reducible refine gate_callee (f := 36) rfl ?_); refine goesL_ (some 101) rfl rfl Tryd.func36 (by kernel_rfl) rfl #[.slice Ao52 t346.length co52, .string a2] rfl m6_ ?_; (with_reducible refine (merkle_Below.calls kj23 _ _ t346 a2 t349 _ ?side1 ?side2 A43.out).mono ?_); (case side1 => repeat (first | exact (Kd.R_reads' HO348.out).2.2 | (with_reducible refine Kd.C_alloc ?_ _) | (with_reducible refine Kd.C_drewN ?_ _) | (with_reducible refine Kd.C_drew ?_))); (case side2 => exact (Kd.R_reads' HO348.out).2.1); rintro e w53 ⟨v350, rfl, ho0, hb⟩; refine ⟨_, rfl, ?_⟩; have n0_ := Aside0.mk (Kd.R_elder' m11_ (Kd.R_base ho0) hb); have n1_ := Aside0.mk (Kd.R_lower (Kd.R_new' ho0 (Kd.R_lt m11_)) (below_size m7_)); have n2_ := Aside0.mk (below_step m7_ hb); clear HO348; clear HB; have HO348 := n0_; have HO351 := n1_; have HB := n2_; clear n0_ n1_ n2_; (try clear hb); (try clear hb2); (try clear hk); (try clear hi); (try clear ho0)) | ((with_reducible refine gate_callee (f := 17) rfl ?_); refine goesL_ (some 103) rfl rfl Tryd.func17 (by kernel_rfl) rfl #[.slice A0 l0.length c0] rfl m6_ ?_; (with_reducible refine (strongroomlaw20_list.calls kj23 _ _ l0 true _ ?side1 ?side2 A44.out).mono ?_); (case side1 => exact m20_); (case side2 => exact HC0.out); rintro e w54 ⟨rfl, hb⟩; refine ⟨_, rfl, ?_⟩; replace HO348 := Aside0.mk (Kd.R_below m11_ hb); replace HO351 := Aside0.mk (Kd.R_below m12_ hb); replace HB := Aside0.mk (below_step m7_ hb); (try clear hb); (try clear hb2); (try clear hk); (try clear hi); obtain ⟨Ao55, co55, eo55⟩ := Kd.R_slice HO351.out; subst eo55) | ((with_reducible refine gate_callee (f := 34) rfl ?_); refine goesL_ (some 112) rfl rfl Tryd.func34 (by kernel_rfl) rfl #[.slice Ao55 t349.length co55] rfl m6_ ?_; (with_reducible refine (strongroomlaw20_theirs.calls kj23 _ _ t349 t354 _ ?side1 ?side2 A46.out).mono ?_); (case side1 => repeat (first | exact (Kd.R_reads' HO351.out).2.2 | (with_reducible refine Kd.C_alloc ?_ _) | (with_reducible refine Kd.C_drewN ?_ _) | (with_reducible refine Kd.C_drew ?_))); (case side2 => exact (Kd.R_reads' HO351.out).2.1); rintro e w56 ⟨v355, rfl, ho0, hb⟩; refine ⟨_, rfl, ?_⟩; replace HO348 := Aside0.mk (Kd.R_below m11_ hb); replace HO351 := Aside0.mk (Kd.R_below m12_ hb); have HO356 := Aside0.mk (Kd.R_lower ho0 (below_size m7_)); replace HB := Aside0.mk (below_step m7_ hb); (try clear hb); (try clear hb2); (try clear hk); (try clear hi); (try clear ho0)) | ((with_reducible refine gate_callee (f := 37) rfl ?_); refine goesL_ (some 115) rfl rfl Tryd.func37 (by kernel_rfl) rfl #[.slice A0 l0.length c0, .string a2] rfl m6_ ?_; (with_reducible refine (strongroomref20_Below.calls kj23 _ _ l0 a2 t357 _ ?side1 ?side2 A47.out).mono ?_); (case side1 => exact m20_); (case side2 => exact HC0.out); rintro e w57 ⟨v358, rfl, ho0, hb⟩; refine ⟨_, rfl, ?_⟩; have n0_ := Aside0.mk (Kd.R_below m11_ hb); have n1_ := Aside0.mk (Kd.R_below m12_ hb); have n2_ := Aside0.mk (Kd.R_elder' (by (with_reducible repeat (first | apply Kd.R_alloc | apply Kd.R_drewN | apply Kd.R_drew)); exact HO356.out) (Kd.R_base ho0) hb); have n3_ := Aside0.mk (Kd.R_lower (Kd.R_new' ho0 (Kd.R_lt (by (with_reducible repeat (first | apply Kd.R_alloc | apply Kd.R_drewN | apply Kd.R_drew)); exact HO356.out))) (below_size m7_)); have n4_ := Aside0.mk (below_step m7_ hb); clear HO348; clear HO351; clear HO356; clear HB; have HO348 := n0_; have HO351 := n1_; have HO356 := n2_; have HO359 := n3_; have HB := n4_; clear n0_ n1_ n2_ n3_ n4_; (try clear hb); (try clear hb2); (try clear hk); (try clear hi); (try clear ho0); obtain ⟨Ao58, co58, eo58⟩ := Kd.R_slice HO356.out; subst eo58; obtain ⟨Ao59, co59, eo59⟩ := Kd.R_slice HO359.out; subst eo59) | ((with_reducible refine gate_callee (f := 33) rfl ?_); refine goesL_ (some 116) rfl rfl Tryd.func33 (by kernel_rfl) rfl #[.slice Ao58 t354.length co58, .slice Ao59 t357.length co59] rfl m6_ ?_; (with_reducible refine (strongroomref20_Same.calls kj23 _ _ t354 _ _ t357 true _ ?side1 ?side2 ?side3 ?side4 A48.out).mono ?_); (case side1 => repeat (first | exact (Kd.R_reads' HO356.out).2.2 | (with_reducible refine Kd.C_alloc ?_ _) | (with_reducible refine Kd.C_drewN ?_ _) | (with_reducible refine Kd.C_drew ?_))); (case side2 => exact (Kd.R_reads' HO356.out).2.1); (case side3 => repeat (first | exact (Kd.R_reads' HO359.out).2.2 | (with_reducible refine Kd.C_alloc ?_ _) | (with_reducible refine Kd.C_drewN ?_ _) | (with_reducible refine Kd.C_drew ?_))); (case side4 => exact (Kd.R_reads' HO359.out).2.1); rintro e w' ⟨rfl, ⟨nd, rfl⟩⟩; refine ⟨_, rfl, ?_⟩) | (go_at_call 12; (with_reducible refine (strongroomlaw20_lives.calls kj23  t361 _ A50.out hr_).mono ?_); rintro e w60 ⟨rfl, hb⟩; have n0_ := Aside0.mk (Kd.R_below m11_ hb); have n1_ := Aside0.mk (Kd.R_below m12_ hb); have n2_ := Aside0.mk (Kd.R_below (by (with_reducible repeat (first | apply Kd.R_alloc | apply Kd.R_drewN | apply Kd.R_drew)); exact HO356.out) hb); have n3_ := Aside0.mk (Kd.R_below (by (with_reducible repeat (first | apply Kd.R_alloc | apply Kd.R_drewN | apply Kd.R_drew)); exact HO359.out) hb); have n4_ := Aside0.mk (below_step m7_ hb); clear HO348; clear HO351; clear HO356; clear HO359; clear HB; have HO348 := n0_; have HO351 := n1_; have HO356 := n2_; have HO359 := n3_; have HB := n4_; clear n0_ n1_ n2_ n3_ n4_; (try clear hb); (try clear hb2); (try clear hk); (try clear hi)))
     go_ret
     exact ⟨by first | rfl | (simp [errW_none, errW_some] <;> rfl) | (simp [*, errW_none, errW_some] <;> rfl), m27_⟩
   rw [if_pos c11] at H
   have c11b0 : decide (x8_2 < (l1.length : Int)) = true := decide_eq_true c11
   clear c11
   by_cases c12 : 0 ≤ x8_2
   case neg =>
    rw [if_neg c12] at H
    exact absurd H (by simp)
   rw [if_pos c12] at H
   have c12b0 : decide (0 ≤ x8_2) = true := decide_eq_true c12
   clear c12
   by_cases c13 : (wrap64 ((wrap64 ((((rd_T67 l1 x8_2).f0).size : Int) + (((rd_T67 l1 x8_2).f1).size : Int))) + (((rd_T67 l1 x8_2).f2).size : Int))) > 300
   ·rw [if_pos c13] at H
    have c13b0 : decide (300 < (wrap64 ((wrap64 ((((rd_T67 l1 x8_2).f0).size : Int) + (((rd_T67 l1 x8_2).f1).size : Int))) + (((rd_T67 l1 x8_2).f2).size : Int)))) = true := decide_eq_true c13
    clear c13
    replace H := Option.bind_eq_some_iff.mp H
    obtain ⟨t324, A140, H⟩ := H
    replace H : (some t324) = some r := H
    have A14 := Aside0.mk A140
    clear A140
    obtain rfl := Option.some.inj H
    try go_wp2
    replace HO_7 := Aside0.mk (Kd.R_drew HO_7.out)
    replace HB := Aside0.mk (below_drew1 HB.out)
    have p321 : 0 ≤ (x8_2 : Int) := of_decide_eq_true m18_
    have q321 : x8_2 < (l1.length : Int) := of_decide_eq_true m18_
    obtain ⟨ad321, e321, hx321_0, hx321_1, hx321_2⟩ := at_T67 HR1.out x8_2 p321 q321
    have hw321_2 := hx321_2
    have hw321_1 := hx321_1
    have hw321_0 := hx321_0
    cases e321
    replace hx321_0 := (HB.out.cell (World.block_lt_of_cell? w _ hx321_0)).trans hx321_0
    replace hx321_1 := (HB.out.cell (World.block_lt_of_cell? w _ hx321_1)).trans hx321_1
    replace hx321_2 := (HB.out.cell (World.block_lt_of_cell? w _ hx321_2)).trans hx321_2
    replace p321 := eq_true p321
    replace q321 := eq_true q321
    have p322 : 0 ≤ (x8_2 : Int) := of_decide_eq_true m18_
    have q322 : x8_2 < (l1.length : Int) := of_decide_eq_true m18_
    obtain ⟨ad322, e322, hx322_0, hx322_1, hx322_2⟩ := at_T67 HR1.out x8_2 p322 q322
    have hw322_2 := hx322_2
    have hw322_1 := hx322_1
    have hw322_0 := hx322_0
    obtain rfl : ad321 = ad322 := (by injection e322)
    replace hx322_0 := (HB.out.cell (World.block_lt_of_cell? w _ hx322_0)).trans hx322_0
    replace hx322_1 := (HB.out.cell (World.block_lt_of_cell? w _ hx322_1)).trans hx322_1
    replace hx322_2 := (HB.out.cell (World.block_lt_of_cell? w _ hx322_2)).trans hx322_2
    replace p322 := eq_true p322
    replace q322 := eq_true q322
    have p323 : 0 ≤ (x8_2 : Int) := of_decide_eq_true m18_
    have q323 : x8_2 < (l1.length : Int) := of_decide_eq_true m18_
    obtain ⟨ad323, e323, hx323_0, hx323_1, hx323_2⟩ := at_T67 HR1.out x8_2 p323 q323
    have hw323_2 := hx323_2
    have hw323_1 := hx323_1
    have hw323_0 := hx323_0
    obtain rfl : ad321 = ad323 := (by injection e323)
    replace hx323_0 := (HB.out.cell (World.block_lt_of_cell? w _ hx323_0)).trans hx323_0
    replace hx323_1 := (HB.out.cell (World.block_lt_of_cell? w _ hx323_1)).trans hx323_1
    replace hx323_2 := (HB.out.cell (World.block_lt_of_cell? w _ hx323_2)).trans hx323_2
    replace p323 := eq_true p323
    replace q323 := eq_true q323
    refine start_ (n := 21) (S := fun w' => w'.cell? (ad321.add ((x8_2).toNat * 3)) = some (.string ((rd_T67 l1 x8_2).f0)) ∧ w'.cell? ⟨(ad321.add ((x8_2).toNat * 3)).block, (ad321.add ((x8_2).toNat * 3)).off + 1, none⟩ = some (.string ((rd_T67 l1 x8_2).f1)) ∧ w'.cell? ⟨(ad321.add ((x8_2).toNat * 3)).block, (ad321.add ((x8_2).toNat * 3)).off + 2, none⟩ = some (.string ((rd_T67 l1 x8_2).f2)) ∧ w'.cell? (ad321.add ((x8_2).toNat * 3)) = some (.string ((rd_T67 l1 x8_2).f0)) ∧ w'.cell? ⟨(ad321.add ((x8_2).toNat * 3)).block, (ad321.add ((x8_2).toNat * 3)).off + 1, none⟩ = some (.string ((rd_T67 l1 x8_2).f1)) ∧ w'.cell? ⟨(ad321.add ((x8_2).toNat * 3)).block, (ad321.add ((x8_2).toNat * 3)).off + 2, none⟩ = some (.string ((rd_T67 l1 x8_2).f2)) ∧ w'.cell? (ad321.add ((x8_2).toNat * 3)) = some (.string ((rd_T67 l1 x8_2).f0)) ∧ w'.cell? ⟨(ad321.add ((x8_2).toNat * 3)).block, (ad321.add ((x8_2).toNat * 3)).off + 1, none⟩ = some (.string ((rd_T67 l1 x8_2).f1)) ∧ w'.cell? ⟨(ad321.add ((x8_2).toNat * 3)).block, (ad321.add ((x8_2).toNat * 3)).off + 2, none⟩ = some (.string ((rd_T67 l1 x8_2).f2))) (ds := []) (Ra_ [0, 21]) (by kernel_rfl) rfl rfl ⟨((HB.out.cell (World.block_lt_of_cell? w _ hw321_0)).trans hw321_0), ((HB.out.cell (World.block_lt_of_cell? w _ hw321_1)).trans hw321_1), ((HB.out.cell (World.block_lt_of_cell? w _ hw321_2)).trans hw321_2), ((HB.out.cell (World.block_lt_of_cell? w _ hw322_0)).trans hw322_0), ((HB.out.cell (World.block_lt_of_cell? w _ hw322_1)).trans hw322_1), ((HB.out.cell (World.block_lt_of_cell? w _ hw322_2)).trans hw322_2), ((HB.out.cell (World.block_lt_of_cell? w _ hw323_0)).trans hw323_0), ((HB.out.cell (World.block_lt_of_cell? w _ hw323_1)).trans hw323_1), ((HB.out.cell (World.block_lt_of_cell? w _ hw323_2)).trans hw323_2)⟩ (fun hHeld => ?_); refine with_tabW strongroomlaw20_MerkleApplies.tab7 strongroomlaw20_MerkleApplies.bits7 (fun HT_ HW_ => ?_)
    generalize wr.drew = w15 at HO_7 HB hx321_0 hx321_1 hx321_2 hx322_0 hx322_1 hx322_2 hx323_0 hx323_1 hx323_2 hHeld ⊢
    refine pI_ 0 (some 34) (Ra_ [1, 20]) (h := ?_)
    refine pI_ 1 (some 35) (Ra_ [2, 19]) (h := ?_)
    refine pI_ 2 (some 36) (Ra_ [3, 18]) (h := ?_)
    refine pI_ 3 (some 37) (Ra_ [4, 17]) (h := ?_)
    refine pI_ 6 (some 40) (Ra_ [4, 2, 1, 14]) (h := ?_)
    refine pI_ 7 (some 41) (Ra_ [4, 2, 2, 13]) (h := ?_)
    refine pI_ 8 (some 42) (Ra_ [4, 2, 3, 12]) (h := ?_)
    refine pI_ 9 (some 43) (Ra_ [4, 2, 4, 11]) (h := ?_)
    refine pI_ 13 (some 47) (Ra_ [4, 2, 4, 3, 1, 7]) (h := ?_)
    refine pI_ 14 (some 48) (Ra_ [4, 2, 4, 3, 2, 6]) (h := ?_)
    refine pI_ 15 (some 49) (Ra_ [4, 2, 4, 3, 3, 5]) (h := ?_)
    refine pI_ 16 (some 50) (Ra_ [4, 2, 4, 3, 4, 4]) (h := ?_)
    refine tI9_ 4 (some 38) (Ra_ [5, 1, 4, 3, 4, 4]) (h := ?_)
    refine pI_ 5 (some 39) (Ra_ [10, 3, 4, 4]) (h := ?_)
    refine tI9_ 10 (some 44) (Ra_ [11, 2, 4, 4]) (h := ?_)
    refine pI_ 11 (some 45) (Ra_ [12, 1, 4, 4]) (h := ?_)
    refine pI_ 12 (some 46) (Ra_ [17, 4]) (h := ?_)
    refine tI9_ 17 (some 51) (Ra_ [18, 3]) (h := ?_)
    refine pI_ 18 (some 52) (Ra_ [19, 2]) (h := ?_)
    refine pI_ 19 (some 53) (Ra_ [20, 1]) (h := ?_)
    refine pI_ 20 (some 54) (Ra_ [21]) (h := ?_)
    refine done_ (done_of HT_.out (by kernel_rfl)) ?_
    try go_wp2_with (first | ((with_reducible refine gate_callee (f := 12) rfl ?_); refine goesL_ (some 55) rfl rfl Tryd.func12 (by kernel_rfl) rfl #[] rfl m6_ ?_; (with_reducible refine (strongroomlaw20_lives.calls k2  t324 _ A14.out hr_).mono ?_); rintro e w16 ⟨rfl, hb⟩; refine ⟨_, rfl, ?_⟩; replace HO_7 := Aside0.mk (Kd.R_below m15_ hb); replace HB := Aside0.mk (below_step m7_ hb); (try clear hb); (try clear hb2); (try clear hk); (try clear hi)))
    go_ret
    exact ⟨by first | rfl | (simp [errW_none, errW_some] <;> rfl) | (simp [*, errW_none, errW_some] <;> rfl), m27_⟩
   rw [if_neg c13] at H
   have c13b0 : decide (300 < (wrap64 ((wrap64 ((((rd_T67 l1 x8_2).f0).size : Int) + (((rd_T67 l1 x8_2).f1).size : Int))) + (((rd_T67 l1 x8_2).f2).size : Int)))) = false := decide_eq_false c13
   clear c13
   by_cases c17 : x7_2.length < 2932031007402
   case neg =>
    rw [if_neg c17] at H
    exact absurd H (by simp)
   rw [if_pos c17] at H
   have LMc17 := Aside0.mk c17
   clear c17
   obtain ⟨y328, hy328⟩ : ∃ y_ : List (S66), y_ = (x7_2 ++ [(⟨(rd_T67 l1 x8_2).f0, (rd_T67 l1 x8_2).f1, (rd_T67 l1 x8_2).f2⟩ : S66)]) := ⟨_, rfl⟩
   replace H : (strongroomlaw20_MerkleApplies.l0 k2 l0 l1 a2 y328 (wrap64 (x8_2 + 1))) = some r := by first | (rw [hy328]; with_reducible exact H) | (have H2_ := (Option.bind_some _ _).symm.trans H; rw [hy328]; with_reducible exact H2_) | (have H2_ := (Option.bind_some _ _).symm.trans H; with_reducible exact H2_) | with_reducible exact H | (rw [hy328]; exact H) | exact H
   have Ny328 := Aside0.mk hy328
   clear hy328
   have H' := Aside0.mk H
   clear H
   try go_wp2
   replace HO_7 := Aside0.mk (Kd.R_drew HO_7.out)
   replace HB := Aside0.mk (below_drew1 HB.out)
   have p321 : 0 ≤ (x8_2 : Int) := of_decide_eq_true m18_
   have q321 : x8_2 < (l1.length : Int) := of_decide_eq_true m18_
   obtain ⟨ad321, e321, hx321_0, hx321_1, hx321_2⟩ := at_T67 HR1.out x8_2 p321 q321
   have hw321_2 := hx321_2
   have hw321_1 := hx321_1
   have hw321_0 := hx321_0
   cases e321
   replace hx321_0 := (HB.out.cell (World.block_lt_of_cell? w _ hx321_0)).trans hx321_0
   replace hx321_1 := (HB.out.cell (World.block_lt_of_cell? w _ hx321_1)).trans hx321_1
   replace hx321_2 := (HB.out.cell (World.block_lt_of_cell? w _ hx321_2)).trans hx321_2
   replace p321 := eq_true p321
   replace q321 := eq_true q321
   have p322 : 0 ≤ (x8_2 : Int) := of_decide_eq_true m18_
   have q322 : x8_2 < (l1.length : Int) := of_decide_eq_true m18_
   obtain ⟨ad322, e322, hx322_0, hx322_1, hx322_2⟩ := at_T67 HR1.out x8_2 p322 q322
   have hw322_2 := hx322_2
   have hw322_1 := hx322_1
   have hw322_0 := hx322_0
   obtain rfl : ad321 = ad322 := (by injection e322)
   replace hx322_0 := (HB.out.cell (World.block_lt_of_cell? w _ hx322_0)).trans hx322_0
   replace hx322_1 := (HB.out.cell (World.block_lt_of_cell? w _ hx322_1)).trans hx322_1
   replace hx322_2 := (HB.out.cell (World.block_lt_of_cell? w _ hx322_2)).trans hx322_2
   replace p322 := eq_true p322
   replace q322 := eq_true q322
   have p323 : 0 ≤ (x8_2 : Int) := of_decide_eq_true m18_
   have q323 : x8_2 < (l1.length : Int) := of_decide_eq_true m18_
   obtain ⟨ad323, e323, hx323_0, hx323_1, hx323_2⟩ := at_T67 HR1.out x8_2 p323 q323
   have hw323_2 := hx323_2
   have hw323_1 := hx323_1
   have hw323_0 := hx323_0
   obtain rfl : ad321 = ad323 := (by injection e323)
   replace hx323_0 := (HB.out.cell (World.block_lt_of_cell? w _ hx323_0)).trans hx323_0
   replace hx323_1 := (HB.out.cell (World.block_lt_of_cell? w _ hx323_1)).trans hx323_1
   replace hx323_2 := (HB.out.cell (World.block_lt_of_cell? w _ hx323_2)).trans hx323_2
   replace p323 := eq_true p323
   replace q323 := eq_true q323
   refine start_ (n := 21) (S := fun w' => w'.cell? (ad321.add ((x8_2).toNat * 3)) = some (.string ((rd_T67 l1 x8_2).f0)) ∧ w'.cell? ⟨(ad321.add ((x8_2).toNat * 3)).block, (ad321.add ((x8_2).toNat * 3)).off + 1, none⟩ = some (.string ((rd_T67 l1 x8_2).f1)) ∧ w'.cell? ⟨(ad321.add ((x8_2).toNat * 3)).block, (ad321.add ((x8_2).toNat * 3)).off + 2, none⟩ = some (.string ((rd_T67 l1 x8_2).f2)) ∧ w'.cell? (ad321.add ((x8_2).toNat * 3)) = some (.string ((rd_T67 l1 x8_2).f0)) ∧ w'.cell? ⟨(ad321.add ((x8_2).toNat * 3)).block, (ad321.add ((x8_2).toNat * 3)).off + 1, none⟩ = some (.string ((rd_T67 l1 x8_2).f1)) ∧ w'.cell? ⟨(ad321.add ((x8_2).toNat * 3)).block, (ad321.add ((x8_2).toNat * 3)).off + 2, none⟩ = some (.string ((rd_T67 l1 x8_2).f2)) ∧ w'.cell? (ad321.add ((x8_2).toNat * 3)) = some (.string ((rd_T67 l1 x8_2).f0)) ∧ w'.cell? ⟨(ad321.add ((x8_2).toNat * 3)).block, (ad321.add ((x8_2).toNat * 3)).off + 1, none⟩ = some (.string ((rd_T67 l1 x8_2).f1)) ∧ w'.cell? ⟨(ad321.add ((x8_2).toNat * 3)).block, (ad321.add ((x8_2).toNat * 3)).off + 2, none⟩ = some (.string ((rd_T67 l1 x8_2).f2))) (ds := []) (Ra_ [0, 21]) (by kernel_rfl) rfl rfl ⟨((HB.out.cell (World.block_lt_of_cell? w _ hw321_0)).trans hw321_0), ((HB.out.cell (World.block_lt_of_cell? w _ hw321_1)).trans hw321_1), ((HB.out.cell (World.block_lt_of_cell? w _ hw321_2)).trans hw321_2), ((HB.out.cell (World.block_lt_of_cell? w _ hw322_0)).trans hw322_0), ((HB.out.cell (World.block_lt_of_cell? w _ hw322_1)).trans hw322_1), ((HB.out.cell (World.block_lt_of_cell? w _ hw322_2)).trans hw322_2), ((HB.out.cell (World.block_lt_of_cell? w _ hw323_0)).trans hw323_0), ((HB.out.cell (World.block_lt_of_cell? w _ hw323_1)).trans hw323_1), ((HB.out.cell (World.block_lt_of_cell? w _ hw323_2)).trans hw323_2)⟩ (fun hHeld => ?_); refine with_tabW strongroomlaw20_MerkleApplies.tab7 strongroomlaw20_MerkleApplies.bits7 (fun HT_ HW_ => ?_)
   generalize wr.drew = w18 at HO_7 HB hx321_0 hx321_1 hx321_2 hx322_0 hx322_1 hx322_2 hx323_0 hx323_1 hx323_2 hHeld ⊢
   refine pI_ 0 (some 34) (Ra_ [1, 20]) (h := ?_)
   refine pI_ 1 (some 35) (Ra_ [2, 19]) (h := ?_)
   refine pI_ 2 (some 36) (Ra_ [3, 18]) (h := ?_)
   refine pI_ 3 (some 37) (Ra_ [4, 17]) (h := ?_)
   refine pI_ 6 (some 40) (Ra_ [4, 2, 1, 14]) (h := ?_)
   refine pI_ 7 (some 41) (Ra_ [4, 2, 2, 13]) (h := ?_)
   refine pI_ 8 (some 42) (Ra_ [4, 2, 3, 12]) (h := ?_)
   refine pI_ 9 (some 43) (Ra_ [4, 2, 4, 11]) (h := ?_)
   refine pI_ 13 (some 47) (Ra_ [4, 2, 4, 3, 1, 7]) (h := ?_)
   refine pI_ 14 (some 48) (Ra_ [4, 2, 4, 3, 2, 6]) (h := ?_)
   refine pI_ 15 (some 49) (Ra_ [4, 2, 4, 3, 3, 5]) (h := ?_)
   refine pI_ 16 (some 50) (Ra_ [4, 2, 4, 3, 4, 4]) (h := ?_)
   refine tI9_ 4 (some 38) (Ra_ [5, 1, 4, 3, 4, 4]) (h := ?_)
   refine pI_ 5 (some 39) (Ra_ [10, 3, 4, 4]) (h := ?_)
   refine tI9_ 10 (some 44) (Ra_ [11, 2, 4, 4]) (h := ?_)
   refine pI_ 11 (some 45) (Ra_ [12, 1, 4, 4]) (h := ?_)
   refine pI_ 12 (some 46) (Ra_ [17, 4]) (h := ?_)
   refine tI9_ 17 (some 51) (Ra_ [18, 3]) (h := ?_)
   refine pI_ 18 (some 52) (Ra_ [19, 2]) (h := ?_)
   refine pI_ 19 (some 53) (Ra_ [20, 1]) (h := ?_)
   refine pI_ 20 (some 54) (Ra_ [21]) (h := ?_)
   refine done_ (done_of HT_.out (by kernel_rfl)) ?_
   try go_wp2
   replace HO_7 := Aside0.mk (Kd.R_drew HO_7.out)
   replace HB := Aside0.mk (below_drew1 HB.out)
   have p325 : 0 ≤ (x8_2 : Int) := of_decide_eq_true m18_
   have q325 : x8_2 < (l1.length : Int) := of_decide_eq_true m18_
   obtain ⟨ad325, e325, hx325_0, hx325_1, hx325_2⟩ := at_T67 HR1.out x8_2 p325 q325
   have hw325_2 := hx325_2
   have hw325_1 := hx325_1
   have hw325_0 := hx325_0
   obtain rfl : ad321 = ad325 := (by injection e325)
   replace hx325_0 := (HB.out.cell (World.block_lt_of_cell? w _ hx325_0)).trans hx325_0
   replace hx325_1 := (HB.out.cell (World.block_lt_of_cell? w _ hx325_1)).trans hx325_1
   replace hx325_2 := (HB.out.cell (World.block_lt_of_cell? w _ hx325_2)).trans hx325_2
   replace p325 := eq_true p325
   replace q325 := eq_true q325
   have p326 : 0 ≤ (x8_2 : Int) := of_decide_eq_true m18_
   have q326 : x8_2 < (l1.length : Int) := of_decide_eq_true m18_
   obtain ⟨ad326, e326, hx326_0, hx326_1, hx326_2⟩ := at_T67 HR1.out x8_2 p326 q326
   have hw326_2 := hx326_2
   have hw326_1 := hx326_1
   have hw326_0 := hx326_0
   obtain rfl : ad321 = ad326 := (by injection e326)
   replace hx326_0 := (HB.out.cell (World.block_lt_of_cell? w _ hx326_0)).trans hx326_0
   replace hx326_1 := (HB.out.cell (World.block_lt_of_cell? w _ hx326_1)).trans hx326_1
   replace hx326_2 := (HB.out.cell (World.block_lt_of_cell? w _ hx326_2)).trans hx326_2
   replace p326 := eq_true p326
   replace q326 := eq_true q326
   have p327 : 0 ≤ (x8_2 : Int) := of_decide_eq_true m18_
   have q327 : x8_2 < (l1.length : Int) := of_decide_eq_true m18_
   obtain ⟨ad327, e327, hx327_0, hx327_1, hx327_2⟩ := at_T67 HR1.out x8_2 p327 q327
   have hw327_2 := hx327_2
   have hw327_1 := hx327_1
   have hw327_0 := hx327_0
   obtain rfl : ad321 = ad327 := (by injection e327)
   replace hx327_0 := (HB.out.cell (World.block_lt_of_cell? w _ hx327_0)).trans hx327_0
   replace hx327_1 := (HB.out.cell (World.block_lt_of_cell? w _ hx327_1)).trans hx327_1
   replace hx327_2 := (HB.out.cell (World.block_lt_of_cell? w _ hx327_2)).trans hx327_2
   replace p327 := eq_true p327
   replace q327 := eq_true q327
   refine start_ (n := 20) (S := fun w' => w'.cell? (ad321.add ((x8_2).toNat * 3)) = some (.string ((rd_T67 l1 x8_2).f0)) ∧ w'.cell? ⟨(ad321.add ((x8_2).toNat * 3)).block, (ad321.add ((x8_2).toNat * 3)).off + 1, none⟩ = some (.string ((rd_T67 l1 x8_2).f1)) ∧ w'.cell? ⟨(ad321.add ((x8_2).toNat * 3)).block, (ad321.add ((x8_2).toNat * 3)).off + 2, none⟩ = some (.string ((rd_T67 l1 x8_2).f2)) ∧ w'.cell? (ad321.add ((x8_2).toNat * 3)) = some (.string ((rd_T67 l1 x8_2).f0)) ∧ w'.cell? ⟨(ad321.add ((x8_2).toNat * 3)).block, (ad321.add ((x8_2).toNat * 3)).off + 1, none⟩ = some (.string ((rd_T67 l1 x8_2).f1)) ∧ w'.cell? ⟨(ad321.add ((x8_2).toNat * 3)).block, (ad321.add ((x8_2).toNat * 3)).off + 2, none⟩ = some (.string ((rd_T67 l1 x8_2).f2)) ∧ w'.cell? (ad321.add ((x8_2).toNat * 3)) = some (.string ((rd_T67 l1 x8_2).f0)) ∧ w'.cell? ⟨(ad321.add ((x8_2).toNat * 3)).block, (ad321.add ((x8_2).toNat * 3)).off + 1, none⟩ = some (.string ((rd_T67 l1 x8_2).f1)) ∧ w'.cell? ⟨(ad321.add ((x8_2).toNat * 3)).block, (ad321.add ((x8_2).toNat * 3)).off + 2, none⟩ = some (.string ((rd_T67 l1 x8_2).f2))) (ds := []) (Ra_ [0, 20]) (by kernel_rfl) rfl rfl ⟨((HB.out.cell (World.block_lt_of_cell? w _ hw325_0)).trans hw325_0), ((HB.out.cell (World.block_lt_of_cell? w _ hw325_1)).trans hw325_1), ((HB.out.cell (World.block_lt_of_cell? w _ hw325_2)).trans hw325_2), ((HB.out.cell (World.block_lt_of_cell? w _ hw326_0)).trans hw326_0), ((HB.out.cell (World.block_lt_of_cell? w _ hw326_1)).trans hw326_1), ((HB.out.cell (World.block_lt_of_cell? w _ hw326_2)).trans hw326_2), ((HB.out.cell (World.block_lt_of_cell? w _ hw327_0)).trans hw327_0), ((HB.out.cell (World.block_lt_of_cell? w _ hw327_1)).trans hw327_1), ((HB.out.cell (World.block_lt_of_cell? w _ hw327_2)).trans hw327_2)⟩ (fun hHeld => ?_); refine with_tabW strongroomlaw20_MerkleApplies.tab9 strongroomlaw20_MerkleApplies.bits9 (fun HT_ HW_ => ?_)
   generalize w18.drew = w19 at HO_7 HB hx325_0 hx325_1 hx325_2 hx326_0 hx326_1 hx326_2 hx327_0 hx327_1 hx327_2 hHeld ⊢
   refine pI_ 0 (some 56) (Ra_ [1, 19]) (h := ?_)
   refine pI_ 1 (some 57) (Ra_ [2, 18]) (h := ?_)
   refine pI_ 2 (some 58) (Ra_ [3, 17]) (h := ?_)
   refine pI_ 3 (some 59) (Ra_ [4, 16]) (h := ?_)
   refine pI_ 4 (some 60) (Ra_ [5, 15]) (h := ?_)
   refine pI_ 6 (some 62) (Ra_ [5, 1, 1, 13]) (h := ?_)
   refine pI_ 7 (some 63) (Ra_ [5, 1, 2, 12]) (h := ?_)
   refine pI_ 8 (some 64) (Ra_ [5, 1, 3, 11]) (h := ?_)
   refine pI_ 9 (some 65) (Ra_ [5, 1, 4, 10]) (h := ?_)
   refine pI_ 11 (some 67) (Ra_ [5, 1, 4, 1, 1, 8]) (h := ?_)
   refine pI_ 12 (some 68) (Ra_ [5, 1, 4, 1, 2, 7]) (h := ?_)
   refine pI_ 13 (some 69) (Ra_ [5, 1, 4, 1, 3, 6]) (h := ?_)
   refine pI_ 14 (some 70) (Ra_ [5, 1, 4, 1, 4, 5]) (h := ?_)
   refine tI9_ 5 (some 61) (Ra_ [10, 1, 4, 5]) (h := ?_)
   refine tI9_ 10 (some 66) (Ra_ [15, 5]) (h := ?_)
   refine tI9_ 15 (some 71) (Ra_ [16, 4]) (h := ?_)
   refine pI_ 16 (some 72) (Ra_ [17, 3]) (h := ?_)
   refine one_ (i := 17) (N := some 73) (Ra_ [18, 2]) rfl rfl (one_of HT_.out (by kernel_rfl)) (by decide) (fun K hK => ?_)
   refine value_ (w1 := ?_) (v := ?_) (by rfl) rfl ?_ ?_
   rotate_left 2
   ·go_simp
    constructor
    ·rfl
    rfl
   refine hK.out _ _ ⟨(World.cell?_alloc_lt _ _ _ (World.block_lt_of_cell? _ _ (((HB.out.cell (World.block_lt_of_cell? w _ hw325_0)).trans hw325_0)))).trans (((HB.out.cell (World.block_lt_of_cell? w _ hw325_0)).trans hw325_0)), (World.cell?_alloc_lt _ _ _ (World.block_lt_of_cell? _ _ (((HB.out.cell (World.block_lt_of_cell? w _ hw325_1)).trans hw325_1)))).trans (((HB.out.cell (World.block_lt_of_cell? w _ hw325_1)).trans hw325_1)), (World.cell?_alloc_lt _ _ _ (World.block_lt_of_cell? _ _ (((HB.out.cell (World.block_lt_of_cell? w _ hw325_2)).trans hw325_2)))).trans (((HB.out.cell (World.block_lt_of_cell? w _ hw325_2)).trans hw325_2)), (World.cell?_alloc_lt _ _ _ (World.block_lt_of_cell? _ _ (((HB.out.cell (World.block_lt_of_cell? w _ hw326_0)).trans hw326_0)))).trans (((HB.out.cell (World.block_lt_of_cell? w _ hw326_0)).trans hw326_0)), (World.cell?_alloc_lt _ _ _ (World.block_lt_of_cell? _ _ (((HB.out.cell (World.block_lt_of_cell? w _ hw326_1)).trans hw326_1)))).trans (((HB.out.cell (World.block_lt_of_cell? w _ hw326_1)).trans hw326_1)), (World.cell?_alloc_lt _ _ _ (World.block_lt_of_cell? _ _ (((HB.out.cell (World.block_lt_of_cell? w _ hw326_2)).trans hw326_2)))).trans (((HB.out.cell (World.block_lt_of_cell? w _ hw326_2)).trans hw326_2)), (World.cell?_alloc_lt _ _ _ (World.block_lt_of_cell? _ _ (((HB.out.cell (World.block_lt_of_cell? w _ hw327_0)).trans hw327_0)))).trans (((HB.out.cell (World.block_lt_of_cell? w _ hw327_0)).trans hw327_0)), (World.cell?_alloc_lt _ _ _ (World.block_lt_of_cell? _ _ (((HB.out.cell (World.block_lt_of_cell? w _ hw327_1)).trans hw327_1)))).trans (((HB.out.cell (World.block_lt_of_cell? w _ hw327_1)).trans hw327_1)), (World.cell?_alloc_lt _ _ _ (World.block_lt_of_cell? _ _ (((HB.out.cell (World.block_lt_of_cell? w _ hw327_2)).trans hw327_2)))).trans (((HB.out.cell (World.block_lt_of_cell? w _ hw327_2)).trans hw327_2))⟩ (fun hHeld => ?_)
   clear hK K
   refine norm_ (a' := ?_) ?_ ?_
   rotate_left
   ·show Act.put _ (some 73) _ = _
    simp only [Act.put, sA_, sB_, sC_, i64_w, i32_w]
    rfl
   refine one_ (i := 18) (N := some 74) (Ra_ [19, 1]) rfl rfl (one_of HT_.out (by kernel_rfl)) (by decide) (fun K hK => ?_)
   refine Kd.R_append_step k66 (w0 := w) w.heap.size (by rfl) (.tmp 56) (.tmp 73) 61 66 (.agg #[(.string ⟨#[]⟩), (.string ⟨#[]⟩), (.string ⟨#[]⟩)]) 48 rfl Tryd.underlying61 info66 rfl (by decide) (by omega) u7 x7_2 (⟨(rd_T67 l1 x8_2).f0, (rd_T67 l1 x8_2).f1, (rd_T67 l1 x8_2).f2⟩ : S66) [.string ((rd_T67 l1 x8_2).f0), .string ((rd_T67 l1 x8_2).f1), .string ((rd_T67 l1 x8_2).f2)] (fun _ => True) (fun _ => False) rfl rfl ?aP (fun _ hk => hk.elim) ?aF ?aO ?aB ?aS ?aL ?_
   (case aP => exact k66_mkM _ _ _ (⟨(rd_T67 l1 x8_2).f0, (rd_T67 l1 x8_2).f1, (rd_T67 l1 x8_2).f2⟩ : S66))
   (case aB => exact m7_)
   (case aF => exact (fun _ _ => trivial))
   (case aO => exact m15_)
   (case aS => exact (below_size m7_))
   (case aL => have := LMc17.out; omega)
   intro v329 w20 ho hb hg hat
   rw [← Ny328.out] at ho
   have n0_ := Aside0.mk (hb)
   have n1_ := Aside0.mk (ho)
   clear HB HO_7
   have HB := n0_
   have HO330 := n1_
   clear n0_ n1_ ho hb hg hat
   refine hK.out _ _ ⟨((HB.out.cell (World.block_lt_of_cell? w _ hw325_0)).trans hw325_0), ((HB.out.cell (World.block_lt_of_cell? w _ hw325_1)).trans hw325_1), ((HB.out.cell (World.block_lt_of_cell? w _ hw325_2)).trans hw325_2), ((HB.out.cell (World.block_lt_of_cell? w _ hw326_0)).trans hw326_0), ((HB.out.cell (World.block_lt_of_cell? w _ hw326_1)).trans hw326_1), ((HB.out.cell (World.block_lt_of_cell? w _ hw326_2)).trans hw326_2), ((HB.out.cell (World.block_lt_of_cell? w _ hw327_0)).trans hw327_0), ((HB.out.cell (World.block_lt_of_cell? w _ hw327_1)).trans hw327_1), ((HB.out.cell (World.block_lt_of_cell? w _ hw327_2)).trans hw327_2)⟩ (fun hHeld => ?_)
   clear hK K
   refine norm_ (a' := ?_) ?_ ?_
   rotate_left
   ·show Act.put _ (some 74) _ = _
    simp only [Act.put, sA_, sB_, sC_, i64_w, i32_w]
    rfl
   refine pI_ 19 (some 7) (Ra_ [20]) (h := ?_)
   refine done_ (done_of HT_.out (by kernel_rfl)) ?_
   try go_wp2
   go_roundg k2
   case measure => have := HJ3.out; have := HK2.out; omega
   case rel => exact ⟨(y328), (wrap64 (x8_2 + 1)), m19_, H', ⟨by have := HJ3.out; have := HK2.out; omega⟩, ⟨by (with_reducible repeat (first | apply Kd.R_alloc | apply Kd.R_drewN | apply Kd.R_drew)); exact HO330.out⟩, ⟨m27_⟩⟩

end Go.Proofs.YtdeggemomajhcaaDoorH.HMerkleApplies
