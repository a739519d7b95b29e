-- PRINTED by print.py (a twelfth state) out of the translation. Not trusted: Lean checks it.
import Derived.Test.YtdeggemomajhcaaDoorHMerkleShowsx0
import Derived.Test.YtdeggemomajhcaaDoorHMerkleShowsx10
namespace Go.Proofs.YtdeggemomajhcaaDoorH.HMerkleShows
open Go.RowKit Go.Proofs.YtdeggemomajhcaaDoorW.PrintWords Go.Proofs.YtdeggemomajhcaaDoorW.PrintLast Go.Proofs.YtdeggemomajhcaaDoorW.PrintMore
attribute [local go_sem] max2_int min2_int max_two min_two max_three min_three max_four min_four   -- for this text's walks alone
set_option linter.unusedVariables false
set_option linter.unusedSimpArgs false

/-! ### strongroomlaw20_climb: function 27 -/
def strongroomlaw20_climb.f : Nat → Int → Int → ByteArray → ByteArray → List ByteArray → Option (ByteArray × ByteArray × Bool)
 | 0, _, _, _, _, _ => none
 | k + 1, a0, a1, a2, a3, l4 => if a0 = 1 then (some (a2, a3, false)) else ((strongroomlaw20_half.f k a0).bind fun t259 => (if a1 < t259 then (if 0 ≤ (wrap64 ((l4.length : Int) - 1)) then (if (wrap64 ((l4.length : Int) - 1)) ≤ (l4.length : Int) then ((strongroomlaw20_climb.f k t259 a1 a2 a3 (l4.take ((wrap64 ((l4.length : Int) - 1)) : Int).toNat)).bind fun bt261 => (if 1 + bt261.1.size ≤ 9223372036854775807 then (if (wrap64 ((l4.length : Int) - 1)) < (l4.length : Int) then (if ((⟨#[1]⟩ : ByteArray) ++ bt261.1).size + (rdOf ByteArray.empty l4 (wrap64 ((l4.length : Int) - 1))).size ≤ 9223372036854775807 then ((strongroomref02_Sum.f (((⟨#[1]⟩ : ByteArray) ++ bt261.1) ++ (rdOf ByteArray.empty l4 (wrap64 ((l4.length : Int) - 1))))).bind fun t265 => (if 1 + bt261.2.1.size ≤ 9223372036854775807 then (if ((⟨#[1]⟩ : ByteArray) ++ bt261.2.1).size + (rdOf ByteArray.empty l4 (wrap64 ((l4.length : Int) - 1))).size ≤ 9223372036854775807 then ((strongroomref02_Sum.f (((⟨#[1]⟩ : ByteArray) ++ bt261.2.1) ++ (rdOf ByteArray.empty l4 (wrap64 ((l4.length : Int) - 1))))).bind fun t267 => (if bt261.2.2 = true then (some (t265, t267, true)) else (if bt261.1.toList = bt261.2.1.toList then (some (t265, t267, false)) else (some (t265, t267, (t265.toList == t267.toList)))))) else (none)) else (none))) else (none)) else (none)) else (none))) else (none)) else (none)) else (if 0 ≤ (wrap64 ((l4.length : Int) - 1)) then (if (wrap64 ((l4.length : Int) - 1)) ≤ (l4.length : Int) then ((strongroomlaw20_climb.f k (wrap64 (a0 - t259)) (wrap64 (a1 - t259)) a2 a3 (l4.take ((wrap64 ((l4.length : Int) - 1)) : Int).toNat)).bind fun bt269 => (if (wrap64 ((l4.length : Int) - 1)) < (l4.length : Int) then (if 1 + (rdOf ByteArray.empty l4 (wrap64 ((l4.length : Int) - 1))).size ≤ 9223372036854775807 then (if ((⟨#[1]⟩ : ByteArray) ++ (rdOf ByteArray.empty l4 (wrap64 ((l4.length : Int) - 1)))).size + bt269.1.size ≤ 9223372036854775807 then ((strongroomref02_Sum.f (((⟨#[1]⟩ : ByteArray) ++ (rdOf ByteArray.empty l4 (wrap64 ((l4.length : Int) - 1)))) ++ bt269.1)).bind fun t273 => (if ((⟨#[1]⟩ : ByteArray) ++ (rdOf ByteArray.empty l4 (wrap64 ((l4.length : Int) - 1)))).size + bt269.2.1.size ≤ 9223372036854775807 then ((strongroomref02_Sum.f (((⟨#[1]⟩ : ByteArray) ++ (rdOf ByteArray.empty l4 (wrap64 ((l4.length : Int) - 1)))) ++ bt269.2.1)).bind fun t275 => (if bt269.2.2 = true then (some (t273, t275, true)) else (if bt269.1.toList = bt269.2.1.toList then (some (t273, t275, false)) else (some (t273, t275, (t273.toList == t275.toList)))))) else (none))) else (none)) else (none)) else (none))) else (none)) else (none))))
theorem strongroomlaw20_climb.mono_l : ∀ k, (∀ y0 y1 y2 y3 y4, LeO (strongroomlaw20_climb.f k y0 y1 y2 y3 y4) (strongroomlaw20_climb.f (k + 1) y0 y1 y2 y3 y4))
 | 0 => fun _ _ _ _ _ r h => by simp [strongroomlaw20_climb.f] at h
 | k + 1 => by
  have ih0 := strongroomlaw20_climb.mono_l k
  ·intro y0 y1 y2 y3 y4
   unfold strongroomlaw20_climb.f
   repeat' first
   | (with_reducible exact ih0 _ _ _ _ _)
   | (with_reducible exact strongroomlaw20_half.mono _ _)
   | (with_reducible exact LeO.refl _)
   | (with_reducible exact LeO.none _)
   | (with_reducible refine LeO.ite ?_ ?_)
   | (with_reducible refine LeO.bind ?_ (fun _ => ?_))
   | exact ih0 _ _ _ _ _
   | exact strongroomlaw20_half.mono _ _
   | exact LeO.none _
   | refine LeO.ite ?_ ?_
   | refine LeO.bind ?_ (fun _ => ?_)
theorem strongroomlaw20_climb.mono : ∀ a0 a1 a2 a3 a4 k, LeO (strongroomlaw20_climb.f k a0 a1 a2 a3 a4) (strongroomlaw20_climb.f (k + 1) a0 a1 a2 a3 a4) := by
 intro a0 a1 a2 a3 a4 k
 have ih0 := strongroomlaw20_climb.mono_l k
 exact ih0 a0 a1 a2 a3 a4
def strongroomlaw20_climb.T6 : Bool × List (List Nat × List Nat) := (true, [([], []), ([0], [0]), ([], []), ([], []), ([2, 3], [2, 3]), ([4], [4]), ([1, 5], [1, 5]), ([6], [6]), ([], []), ([8], [8]), ([], []), ([], []), ([10, 11], [10, 11]), ([12], [12]), ([9, 13], [9, 13]), ([14, 7], [14]), ([7, 15, 0, 1, 2, 3, 4, 5, 6, 7], [7]), ([15, 16, 0, 1, 2, 3, 4, 5, 6, 7, 8, 9, 10, 11, 12, 13, 14, 15, 16], [15])])
def strongroomlaw20_climb.B6 : List Nat := [0, 1, 0, 0, 12, 28, 63, 127, 0, 256, 0, 0, 3072, 7168, 16128, 32767, 65535, 131071]
theorem strongroomlaw20_climb.tab6 : rtab .any (opsOf Tryd.f27 6) = strongroomlaw20_climb.T6 := by kernel_rfl
theorem strongroomlaw20_climb.bits6 : waitsOk strongroomlaw20_climb.T6.2 strongroomlaw20_climb.B6 = true := by kernel_rfl
def strongroomlaw20_climb.T9 : Bool × List (List Nat × List Nat) := (true, [([], []), ([], []), ([0, 1], [0, 1]), ([2], [2]), ([3], [3]), ([], []), ([4, 5], [4, 5]), ([6], [6]), ([], []), ([], []), ([8, 9], [8, 9]), ([10], [10]), ([11], [11]), ([], []), ([12, 13], [12, 13]), ([14, 7], [14]), ([7, 15, 0, 1, 2, 3, 4, 5, 6, 7], [7]), ([15, 16, 0, 1, 2, 3, 4, 5, 6, 7, 8, 9, 10, 11, 12, 13, 14, 15, 16], [15])])
def strongroomlaw20_climb.B9 : List Nat := [0, 0, 3, 7, 15, 0, 63, 127, 0, 0, 768, 1792, 3840, 0, 16128, 32767, 65535, 131071]
theorem strongroomlaw20_climb.tab9 : rtab .any (opsOf Tryd.f27 9) = strongroomlaw20_climb.T9 := by kernel_rfl
theorem strongroomlaw20_climb.bits9 : waitsOk strongroomlaw20_climb.T9.2 strongroomlaw20_climb.B9 = true := by kernel_rfl
set_option maxHeartbeats 8000000 in
set_option maxRecDepth 100000 in
theorem strongroomlaw20_climb.calls (k : Nat) : ∀ (a0 : Int) (a1 : Int) (a2 : ByteArray) (a3 : ByteArray) (A4 : Option Addr) (c4 : Nat) (l4 : List ByteArray) (r1 : ByteArray) (r2 : ByteArray) (r3 : Bool) (w : World) (hr4 : Kd.C Kd.string w A4 l4.length l4) (hc4 : l4.length ≤ c4) (h : strongroomlaw20_climb.f k a0 a1 a2 a3 l4 = some (r1, r2, r3)),
  Calls Tryd.prog 27 #[.int .i64 a0, .int .i64 a1, .string a2, .string a3, .slice A4 l4.length c4] w fun e w' => e = .returned (.tuple #[.string r1, .string r2, .bool r3]) ∧ Below w.heap.size w w' := by
 induction k using Nat.strongRecOn with
 | _ k ih =>
 intro a0 a1 a2 a3 A4 c4 l4 r1 r2 r3 w hr4 hc4 h
 cases k with
 | zero => exact absurd h (by simp [strongroomlaw20_climb.f])
 | succ k =>
 simp only [strongroomlaw20_climb.f] at h
 have HR4 := Aside0.mk hr4
 have HC4 := Aside0.mk hc4
 clear hr4 hc4
 have HB := Aside0.mk (Below.refl w.heap.size w)
 have H : (if a0 = 1 then (some (a2, a3, false)) else ((strongroomlaw20_half.f k a0).bind fun t259 => (if a1 < t259 then (if 0 ≤ (wrap64 ((l4.length : Int) - 1)) then (if (wrap64 ((l4.length : Int) - 1)) ≤ (l4.length : Int) then ((strongroomlaw20_climb.f k t259 a1 a2 a3 (l4.take ((wrap64 ((l4.length : Int) - 1)) : Int).toNat)).bind fun bt261 => (if 1 + bt261.1.size ≤ 9223372036854775807 then (if (wrap64 ((l4.length : Int) - 1)) < (l4.length : Int) then (if ((⟨#[1]⟩ : ByteArray) ++ bt261.1).size + (rdOf ByteArray.empty l4 (wrap64 ((l4.length : Int) - 1))).size ≤ 9223372036854775807 then ((strongroomref02_Sum.f (((⟨#[1]⟩ : ByteArray) ++ bt261.1) ++ (rdOf ByteArray.empty l4 (wrap64 ((l4.length : Int) - 1))))).bind fun t265 => (if 1 + bt261.2.1.size ≤ 9223372036854775807 then (if ((⟨#[1]⟩ : ByteArray) ++ bt261.2.1).size + (rdOf ByteArray.empty l4 (wrap64 ((l4.length : Int) - 1))).size ≤ 9223372036854775807 then ((strongroomref02_Sum.f (((⟨#[1]⟩ : ByteArray) ++ bt261.2.1) ++ (rdOf ByteArray.empty l4 (wrap64 ((l4.length : Int) - 1))))).bind fun t267 => (if bt261.2.2 = true then (some (t265, t267, true)) else (if bt261.1.toList = bt261.2.1.toList then (some (t265, t267, false)) else (some (t265, t267, (t265.toList == t267.toList)))))) else (none)) else (none))) else (none)) else (none)) else (none))) else (none)) else (none)) else (if 0 ≤ (wrap64 ((l4.length : Int) - 1)) then (if (wrap64 ((l4.length : Int) - 1)) ≤ (l4.length : Int) then ((strongroomlaw20_climb.f k (wrap64 (a0 - t259)) (wrap64 (a1 - t259)) a2 a3 (l4.take ((wrap64 ((l4.length : Int) - 1)) : Int).toNat)).bind fun bt269 => (if (wrap64 ((l4.length : Int) - 1)) < (l4.length : Int) then (if 1 + (rdOf ByteArray.empty l4 (wrap64 ((l4.length : Int) - 1))).size ≤ 9223372036854775807 then (if ((⟨#[1]⟩ : ByteArray) ++ (rdOf ByteArray.empty l4 (wrap64 ((l4.length : Int) - 1)))).size + bt269.1.size ≤ 9223372036854775807 then ((strongroomref02_Sum.f (((⟨#[1]⟩ : ByteArray) ++ (rdOf ByteArray.empty l4 (wrap64 ((l4.length : Int) - 1)))) ++ bt269.1)).bind fun t273 => (if ((⟨#[1]⟩ : ByteArray) ++ (rdOf ByteArray.empty l4 (wrap64 ((l4.length : Int) - 1)))).size + bt269.2.1.size ≤ 9223372036854775807 then ((strongroomref02_Sum.f (((⟨#[1]⟩ : ByteArray) ++ (rdOf ByteArray.empty l4 (wrap64 ((l4.length : Int) - 1)))) ++ bt269.2.1)).bind fun t275 => (if bt269.2.2 = true then (some (t273, t275, true)) else (if bt269.1.toList = bt269.2.1.toList then (some (t273, t275, false)) else (some (t273, t275, (t273.toList == t275.toList)))))) else (none))) else (none)) else (none)) else (none))) else (none)) else (none))))) = some (r1, r2, r3) := h
 clear h
 by_cases c6 : a0 = 1
 ·rw [if_pos c6] at H
  have c6b0 : (a0 == 1) = true := beq_iff_eq.mpr c6
  have c6b1 : (a0 != 1) = false := bne_eq_false_iff_eq.mpr c6
  clear c6
  simp only [Option.some.injEq, Prod.mk.injEq] at H
  obtain ⟨rfl, rfl, rfl⟩ := H
  go_enter Tryd.func27, Tryd.ntmps27
  go_wp2
  go_ret3
  exact ⟨by first | rfl | (simp [errW_none, errW_some] <;> rfl) | (simp [*, errW_none, errW_some] <;> rfl), m29_⟩
 rw [if_neg c6] at H
 have c6b0 : (a0 == 1) = false := beq_eq_false_iff_ne.mpr c6
 have c6b1 : (a0 != 1) = true := bne_iff_ne.mpr c6
 replace H := Option.bind_eq_some_iff.mp H
 obtain ⟨t259, A70, H⟩ := H
 replace H : (if a1 < t259 then (if 0 ≤ (wrap64 ((l4.length : Int) - 1)) then (if (wrap64 ((l4.length : Int) - 1)) ≤ (l4.length : Int) then ((strongroomlaw20_climb.f k t259 a1 a2 a3 (l4.take ((wrap64 ((l4.length : Int) - 1)) : Int).toNat)).bind fun bt261 => (if 1 + bt261.1.size ≤ 9223372036854775807 then (if (wrap64 ((l4.length : Int) - 1)) < (l4.length : Int) then (if ((⟨#[1]⟩ : ByteArray) ++ bt261.1).size + (rdOf ByteArray.empty l4 (wrap64 ((l4.length : Int) - 1))).size ≤ 9223372036854775807 then ((strongroomref02_Sum.f (((⟨#[1]⟩ : ByteArray) ++ bt261.1) ++ (rdOf ByteArray.empty l4 (wrap64 ((l4.length : Int) - 1))))).bind fun t265 => (if 1 + bt261.2.1.size ≤ 9223372036854775807 then (if ((⟨#[1]⟩ : ByteArray) ++ bt261.2.1).size + (rdOf ByteArray.empty l4 (wrap64 ((l4.length : Int) - 1))).size ≤ 9223372036854775807 then ((strongroomref02_Sum.f (((⟨#[1]⟩ : ByteArray) ++ bt261.2.1) ++ (rdOf ByteArray.empty l4 (wrap64 ((l4.length : Int) - 1))))).bind fun t267 => (if bt261.2.2 = true then (some (t265, t267, true)) else (if bt261.1.toList = bt261.2.1.toList then (some (t265, t267, false)) else (some (t265, t267, (t265.toList == t267.toList)))))) else (none)) else (none))) else (none)) else (none)) else (none))) else (none)) else (none)) else (if 0 ≤ (wrap64 ((l4.length : Int) - 1)) then (if (wrap64 ((l4.length : Int) - 1)) ≤ (l4.length : Int) then ((strongroomlaw20_climb.f k (wrap64 (a0 - t259)) (wrap64 (a1 - t259)) a2 a3 (l4.take ((wrap64 ((l4.length : Int) - 1)) : Int).toNat)).bind fun bt269 => (if (wrap64 ((l4.length : Int) - 1)) < (l4.length : Int) then (if 1 + (rdOf ByteArray.empty l4 (wrap64 ((l4.length : Int) - 1))).size ≤ 9223372036854775807 then (if ((⟨#[1]⟩ : ByteArray) ++ (rdOf ByteArray.empty l4 (wrap64 ((l4.length : Int) - 1)))).size + bt269.1.size ≤ 9223372036854775807 then ((strongroomref02_Sum.f (((⟨#[1]⟩ : ByteArray) ++ (rdOf ByteArray.empty l4 (wrap64 ((l4.length : Int) - 1)))) ++ bt269.1)).bind fun t273 => (if ((⟨#[1]⟩ : ByteArray) ++ (rdOf ByteArray.empty l4 (wrap64 ((l4.length : Int) - 1)))).size + bt269.2.1.size ≤ 9223372036854775807 then ((strongroomref02_Sum.f (((⟨#[1]⟩ : ByteArray) ++ (rdOf ByteArray.empty l4 (wrap64 ((l4.length : Int) - 1)))) ++ bt269.2.1)).bind fun t275 => (if bt269.2.2 = true then (some (t273, t275, true)) else (if bt269.1.toList = bt269.2.1.toList then (some (t273, t275, false)) else (some (t273, t275, (t273.toList == t275.toList)))))) else (none))) else (none)) else (none)) else (none))) else (none)) else (none))) = some (r1, r2, r3) := H
 have A7 := Aside0.mk A70
 clear A70
 by_cases c8 : a1 < t259
 case neg =>
  rw [if_neg c8] at H
  have c8b0 : decide (a1 < t259) = false := decide_eq_false c8
  clear c8
  obtain ⟨ji37, hji37⟩ : ∃ j_ : Int, (wrap64 ((l4.length : Int) - 1)) = j_ := ⟨_, rfl⟩
  replace H : (if 0 ≤ (ji37) then (if (ji37) ≤ (l4.length : Int) then ((strongroomlaw20_climb.f k (wrap64 (a0 - t259)) (wrap64 (a1 - t259)) a2 a3 (l4.take ((ji37) : Int).toNat)).bind fun bt269 => (if (ji37) < (l4.length : Int) then (if 1 + (rdOf ByteArray.empty l4 (ji37)).size ≤ 9223372036854775807 then (if ((⟨#[1]⟩ : ByteArray) ++ (rdOf ByteArray.empty l4 (ji37))).size + bt269.1.size ≤ 9223372036854775807 then ((strongroomref02_Sum.f (((⟨#[1]⟩ : ByteArray) ++ (rdOf ByteArray.empty l4 (ji37))) ++ bt269.1)).bind fun t273 => (if ((⟨#[1]⟩ : ByteArray) ++ (rdOf ByteArray.empty l4 (ji37))).size + bt269.2.1.size ≤ 9223372036854775807 then ((strongroomref02_Sum.f (((⟨#[1]⟩ : ByteArray) ++ (rdOf ByteArray.empty l4 (ji37))) ++ bt269.2.1)).bind fun t275 => (if bt269.2.2 = true then (some (t273, t275, true)) else (if bt269.1.toList = bt269.2.1.toList then (some (t273, t275, false)) else (some (t273, t275, (t273.toList == t275.toList)))))) else (none))) else (none)) else (none)) else (none))) else (none)) else (none)) = some (r1, r2, r3) := by first | (rw [hji37] at H; exact H) | (simp only [hji37] at H ⊢; exact H)
  (try rw [hji37] at A7)
  have hji37w : (IntKind.i64.wrap ((l4.length : Int) - 1)) = ji37 := (i64_w _).trans hji37
  by_cases c38 : 0 ≤ (ji37)
  case neg =>
   rw [if_neg c38] at H
   exact absurd H (by simp)
  rw [if_pos c38] at H
  have c38b0 := eq_true c38
  have c38b1 : decide (0 ≤ (ji37)) = true := decide_eq_true c38
  clear c38
  by_cases c39 : (ji37) ≤ (l4.length : Int)
  case neg =>
   rw [if_neg c39] at H
   exact absurd H (by simp)
  rw [if_pos c39] at H
  have c39b0 := eq_true c39
  have c39b1 : decide ((ji37) ≤ (l4.length : Int)) = true := decide_eq_true c39
  clear c39
  replace H := Option.bind_eq_some_iff.mp H
  obtain ⟨⟨t269, t270, t271⟩, A400, H⟩ := H
  replace H : (if (ji37) < (l4.length : Int) then (if 1 + (rdOf ByteArray.empty l4 (ji37)).size ≤ 9223372036854775807 then (if ((⟨#[1]⟩ : ByteArray) ++ (rdOf ByteArray.empty l4 (ji37))).size + t269.size ≤ 9223372036854775807 then ((strongroomref02_Sum.f (((⟨#[1]⟩ : ByteArray) ++ (rdOf ByteArray.empty l4 (ji37))) ++ t269)).bind fun t273 => (if ((⟨#[1]⟩ : ByteArray) ++ (rdOf ByteArray.empty l4 (ji37))).size + t270.size ≤ 9223372036854775807 then ((strongroomref02_Sum.f (((⟨#[1]⟩ : ByteArray) ++ (rdOf ByteArray.empty l4 (ji37))) ++ t270)).bind fun t275 => (if t271 = true then (some (t273, t275, true)) else (if t269.toList = t270.toList then (some (t273, t275, false)) else (some (t273, t275, (t273.toList == t275.toList)))))) else (none))) else (none)) else (none)) else (none)) = some (r1, r2, r3) := H
  have A40 := Aside0.mk A400
  clear A400
  by_cases c41 : (ji37) < (l4.length : Int)
  case neg =>
   rw [if_neg c41] at H
   exact absurd H (by simp)
  rw [if_pos c41] at H
  have c41b0 : decide ((ji37) < (l4.length : Int)) = true := decide_eq_true c41
  clear c41
  by_cases c42 : 1 + (rdOf ByteArray.empty l4 (ji37)).size ≤ 9223372036854775807
  case neg =>
   rw [if_neg c42] at H
   exact absurd H (by simp)
  rw [if_pos c42] at H
  have c42b0 := eq_true c42
  have c42b1 : decide (1 + (rdOf ByteArray.empty l4 (ji37)).size ≤ 9223372036854775807) = true := decide_eq_true c42
  try have c42b2 : (9223372036854775807 < 1 + (rdOf ByteArray.empty l4 (ji37)).size) = False := eq_false (Nat.not_lt.2 c42)
  by_cases c43 : ((⟨#[1]⟩ : ByteArray) ++ (rdOf ByteArray.empty l4 (ji37))).size + t269.size ≤ 9223372036854775807
  case neg =>
   rw [if_neg c43] at H
   exact absurd H (by simp)
  rw [if_pos c43] at H
  have c43b0 := eq_true c43
  have c43b1 : decide (((⟨#[1]⟩ : ByteArray) ++ (rdOf ByteArray.empty l4 (ji37))).size + t269.size ≤ 9223372036854775807) = true := decide_eq_true c43
  try have c43b2 : (9223372036854775807 < ((⟨#[1]⟩ : ByteArray) ++ (rdOf ByteArray.empty l4 (ji37))).size + t269.size) = False := eq_false (Nat.not_lt.2 c43)
  try (have c43b3 := c43b2; simp only [ByteArray.size_append, show ((⟨#[0]⟩ : ByteArray)).size = 1 from rfl, show ((⟨#[1]⟩ : ByteArray)).size = 1 from rfl, show ((⟨#[2]⟩ : ByteArray)).size = 1 from rfl] at c43b3)
  replace H := Option.bind_eq_some_iff.mp H
  obtain ⟨t273, A440, H⟩ := H
  replace H : (if ((⟨#[1]⟩ : ByteArray) ++ (rdOf ByteArray.empty l4 (ji37))).size + t270.size ≤ 9223372036854775807 then ((strongroomref02_Sum.f (((⟨#[1]⟩ : ByteArray) ++ (rdOf ByteArray.empty l4 (ji37))) ++ t270)).bind fun t275 => (if t271 = true then (some (t273, t275, true)) else (if t269.toList = t270.toList then (some (t273, t275, false)) else (some (t273, t275, (t273.toList == t275.toList)))))) else (none)) = some (r1, r2, r3) := H
  have A44 := Aside0.mk A440
  clear A440
  by_cases c45 : ((⟨#[1]⟩ : ByteArray) ++ (rdOf ByteArray.empty l4 (ji37))).size + t270.size ≤ 9223372036854775807
  case neg =>
   rw [if_neg c45] at H
   exact absurd H (by simp)
  rw [if_pos c45] at H
  have c45b0 := eq_true c45
  have c45b1 : decide (((⟨#[1]⟩ : ByteArray) ++ (rdOf ByteArray.empty l4 (ji37))).size + t270.size ≤ 9223372036854775807) = true := decide_eq_true c45
  try have c45b2 : (9223372036854775807 < ((⟨#[1]⟩ : ByteArray) ++ (rdOf ByteArray.empty l4 (ji37))).size + t270.size) = False := eq_false (Nat.not_lt.2 c45)
  try (have c45b3 := c45b2; simp only [ByteArray.size_append, show ((⟨#[0]⟩ : ByteArray)).size = 1 from rfl, show ((⟨#[1]⟩ : ByteArray)).size = 1 from rfl, show ((⟨#[2]⟩ : ByteArray)).size = 1 from rfl] at c45b3)
  replace H := Option.bind_eq_some_iff.mp H
  obtain ⟨t275, A460, H⟩ := H
  replace H : (if t271 = true then (some (t273, t275, true)) else (if t269.toList = t270.toList then (some (t273, t275, false)) else (some (t273, t275, (t273.toList == t275.toList))))) = some (r1, r2, r3) := H
  have A46 := Aside0.mk A460
  clear A460
  by_cases c47 : t271 = true
  ·subst c47
   have H1 : (some (t273, t275, true)) = some (r1, r2, r3) := by rw [if_pos rfl] at H; exact H
   clear H
   have H := H1
   clear H1
   simp only [Option.some.injEq, Prod.mk.injEq] at H
   obtain ⟨rfl, rfl, rfl⟩ := H
   go_enter Tryd.func27, Tryd.ntmps27
   try go_wp2_with (first | ((with_reducible refine gate_callee (f := 52) rfl ?_); refine goesL_ (some 30) rfl rfl Tryd.func52 (by kernel_rfl) rfl #[.int .i64 a0] rfl m10_ ?_; (with_reducible refine (strongroomlaw20_half.calls k a0 t259 _ A7.out).mono ?_); rintro e w' ⟨rfl, ⟨nd, rfl⟩⟩; refine ⟨_, rfl, ?_⟩; obtain ⟨i048, hi048, _, hsz48, _⟩ := info_parts info9; obtain ⟨hcut48, hA48, hC48⟩ := print_take_of (P := Tryd.prog) Value.string (⟨#[]⟩ : ByteArray) 32 9 .i64 Tryd.underlying32 hi048 hsz48 A4 c4 l4 (ji37) (of_decide_eq_true m20_) (of_decide_eq_true m20_) HC4.out; have HR268 := Aside0.mk (Kd.C_of_reads (h1 := fun _ => rfl) (hA48 _ (Kd.reads_of_C HR4.out))); have HC268 := Aside0.mk hC48; clear hA48 hC48 hi048 hsz48) | ((with_reducible refine gate_callee (f := 27) rfl ?_); refine goesL_ (some 90) rfl rfl Tryd.func27 (by kernel_rfl) rfl #[.int .i64 (wrap64 (a0 - t259)), .int .i64 (wrap64 (a1 - t259)), .string a2, .string a3, .slice A4 (l4.take ((ji37) : Int).toNat).length c4] rfl (by (try simp only [List.map_toArray, List.map_cons, List.map_nil]); first | done | (rw [show (l4.take ((ji37) : Int).toNat).length = (ji37).toNat from (by rw [List.length_take]; have h_ : ((ji37) : Int) ≤ (l4.length : Int) := of_decide_eq_true m20_; omega)] <;> rfl) | (simp only [hji37]; rfl) | rfl | (simp only [List.length_drop, List.length_take]; rfl)) ?_; (with_reducible refine (ih k (by omega) (wrap64 (a0 - t259)) (wrap64 (a1 - t259)) a2 a3 _ _ (l4.take ((ji37) : Int).toNat) t269 t270 true _ ?side1 ?side2 A40.out).mono ?_); (case side1 => repeat (first | exact HR268.out | (with_reducible refine Kd.C_alloc ?_ _) | (with_reducible refine Kd.C_drewN ?_ _) | (with_reducible refine Kd.C_drew ?_))); (case side2 => exact HC268.out); rintro e w49 ⟨rfl, hb⟩; refine ⟨_, rfl, ?_⟩; have n0_ := Aside0.mk (below_step m11_ hb); clear HB; have HB := n0_; clear n0_; (try clear hb); (try clear hb2); (try clear hk); (try clear hi)))
   have n0_ := Aside0.mk (below_drew1 HB.out)
   clear HB
   have HB := n0_
   clear n0_
   have p272 : 0 ≤ ((ji37) : Int) := of_decide_eq_true m20_
   have q272 : (ji37) < (l4.length : Int) := of_decide_eq_true m20_
   obtain ⟨ad272, e272, hx272_0⟩ := Kd.at_string HR4.out (ji37) p272 q272
   have hw272_0 := hx272_0
   cases e272
   replace hx272_0 := (HB.out.cell (World.block_lt_of_cell? w _ hx272_0)).trans hx272_0
   replace p272 := eq_true p272
   replace q272 := eq_true q272
   have p274 : 0 ≤ ((ji37) : Int) := of_decide_eq_true m20_
   have q274 : (ji37) < (l4.length : Int) := of_decide_eq_true m20_
   obtain ⟨ad274, e274, hx274_0⟩ := Kd.at_string HR4.out (ji37) p274 q274
   have hw274_0 := hx274_0
   obtain rfl : ad272 = ad274 := (by injection e274)
   replace hx274_0 := (HB.out.cell (World.block_lt_of_cell? w _ hx274_0)).trans hx274_0
   replace p274 := eq_true p274
   replace q274 := eq_true q274
   refine start_ (n := 18) (S := fun w' => w'.cell? (ad272.add ((ji37)).toNat) = some (.string (rdOf ByteArray.empty l4 (ji37))) ∧ w'.cell? (ad272.add ((ji37)).toNat) = some (.string (rdOf ByteArray.empty l4 (ji37)))) (ds := []) (Ra_ [0, 18]) (by kernel_rfl) rfl rfl ⟨((HB.out.cell (World.block_lt_of_cell? w _ hw272_0)).trans hw272_0), ((HB.out.cell (World.block_lt_of_cell? w _ hw274_0)).trans hw274_0)⟩ (fun hHeld => ?_); refine with_tabW strongroomlaw20_climb.tab9 strongroomlaw20_climb.bits9 (fun HT_ HW_ => ?_)
   generalize w49.drew = w50 at HB hx272_0 hx274_0 hHeld ⊢
   refine pure_ (i := 0) (N := some 94) (v := ?_) (a' := ?_) (Ra_ [1, 17]) rfl rfl (any_of HT_.out (by kernel_rfl)) (fun _ _ _ h => h) (Or.inl ⟨by rfl, ?_⟩) ?_ ?_
   rotate_left
   ·intro w'
    go_simp
    with_reducible rfl
   rotate_left
   ·simp only [Act.put, sA_, sB_, sC_, i64_w, i32_w]
    rfl
   refine pure_ (i := 1) (N := some 95) (v := ?_) (a' := ?_) (Ra_ [2, 16]) rfl rfl (any_of HT_.out (by kernel_rfl)) (fun _ _ _ h => h) (Or.inl ⟨by rfl, ?_⟩) ?_ ?_
   rotate_left
   ·intro w'
    go_simp
    with_reducible rfl
   rotate_left
   ·simp only [Act.put, sA_, sB_, sC_, i64_w, i32_w]
    rfl
   refine pure_ (i := 2) (N := some 96) (v := ?_) (a' := ?_) (Ra_ [3, 15]) rfl rfl (any_of HT_.out (by kernel_rfl)) (fun _ _ _ h => h) (Or.inl ⟨by rfl, ?_⟩) ?_ ?_
   rotate_left
   ·intro w'
    go_simp
    with_reducible rfl
   rotate_left
   ·simp only [Act.put, sA_, sB_, sC_, i64_w, i32_w]
    rfl
   refine pure_ (i := 5) (N := some 99) (v := ?_) (a' := ?_) (Ra_ [3, 2, 1, 12]) rfl rfl (any_of HT_.out (by kernel_rfl)) (fun _ _ _ h => h) (Or.inl ⟨by rfl, ?_⟩) ?_ ?_
   rotate_left
   ·intro w'
    go_simp
    with_reducible rfl
   rotate_left
   ·simp only [Act.put, sA_, sB_, sC_, i64_w, i32_w]
    rfl
   refine pure_ (i := 8) (N := some 102) (v := ?_) (a' := ?_) (Ra_ [3, 2, 1, 2, 1, 9]) rfl rfl (any_of HT_.out (by kernel_rfl)) (fun _ _ _ h => h) (Or.inl ⟨by rfl, ?_⟩) ?_ ?_
   rotate_left
   ·intro w'
    go_simp
    with_reducible rfl
   rotate_left
   ·simp only [Act.put, sA_, sB_, sC_, i64_w, i32_w]
    rfl
   refine pure_ (i := 9) (N := some 103) (v := ?_) (a' := ?_) (Ra_ [3, 2, 1, 2, 2, 8]) rfl rfl (any_of HT_.out (by kernel_rfl)) (fun _ _ _ h => h) (Or.inl ⟨by rfl, ?_⟩) ?_ ?_
   rotate_left
   ·intro w'
    go_simp
    with_reducible rfl
   rotate_left
   ·simp only [Act.put, sA_, sB_, sC_, i64_w, i32_w]
    rfl
   refine pure_ (i := 10) (N := some 104) (v := ?_) (a' := ?_) (Ra_ [3, 2, 1, 2, 3, 7]) rfl rfl (any_of HT_.out (by kernel_rfl)) (fun _ _ _ h => h) (Or.inl ⟨by rfl, ?_⟩) ?_ ?_
   rotate_left
   ·intro w'
    go_simp
    with_reducible rfl
   rotate_left
   ·simp only [Act.put, sA_, sB_, sC_, i64_w, i32_w]
    rfl
   refine pure_ (i := 13) (N := some 107) (v := ?_) (a' := ?_) (Ra_ [3, 2, 1, 2, 3, 2, 1, 4]) rfl rfl (any_of HT_.out (by kernel_rfl)) (fun _ _ _ h => h) (Or.inl ⟨by rfl, ?_⟩) ?_ ?_
   rotate_left
   ·intro w'
    go_simp
    with_reducible rfl
   rotate_left
   ·simp only [Act.put, sA_, sB_, sC_, i64_w, i32_w]
    rfl
   refine take_ (i := 3) (N := some 97) (v := ?_) (a' := ?_) (Ra_ [4, 1, 1, 2, 3, 2, 1, 4]) rfl rfl (take_ofW HT_.out HW_.out (by kernel_rfl)) (fun _ _ _ h => h) (Or.inl ⟨by rfl, ?_⟩) hHeld ?_ ?_
   rotate_left
   ·rintro w' ⟨s0, s1⟩
    go_simp
    with_reducible rfl
   rotate_left
   ·simp only [Act.put, sA_, sB_, sC_, i64_w, i32_w]
    rfl
   refine pure_ (i := 4) (N := some 98) (v := ?_) (a' := ?_) (Ra_ [6, 2, 3, 2, 1, 4]) rfl rfl (any_of HT_.out (by kernel_rfl)) (fun _ _ _ h => h) (Or.inl ⟨by rfl, ?_⟩) ?_ ?_
   rotate_left
   ·intro w'
    go_simp
    with_reducible rfl
   rotate_left
   ·simp only [Act.put, sA_, sB_, sC_, i64_w, i32_w]
    rfl
   refine pure_ (i := 6) (N := some 100) (v := ?_) (a' := ?_) (Ra_ [7, 1, 3, 2, 1, 4]) rfl rfl (any_of HT_.out (by kernel_rfl)) (fun _ _ _ h => h) (Or.inl ⟨by rfl, ?_⟩) ?_ ?_
   rotate_left
   ·intro w'
    go_simp
    with_reducible rfl
   rotate_left
   ·simp only [Act.put, sA_, sB_, sC_, i64_w, i32_w]
    rfl
   refine take_ (i := 11) (N := some 105) (v := ?_) (a' := ?_) (Ra_ [7, 1, 4, 1, 1, 4]) rfl rfl (take_ofW HT_.out HW_.out (by kernel_rfl)) (fun _ _ _ h => h) (Or.inl ⟨by rfl, ?_⟩) hHeld ?_ ?_
   rotate_left
   ·rintro w' ⟨s0, s1⟩
    go_simp
    with_reducible rfl
   rotate_left
   ·simp only [Act.put, sA_, sB_, sC_, i64_w, i32_w]
    rfl
   refine pure_ (i := 12) (N := some 106) (v := ?_) (a' := ?_) (Ra_ [7, 1, 6, 4]) rfl rfl (any_of HT_.out (by kernel_rfl)) (fun _ _ _ h => h) (Or.inl ⟨by rfl, ?_⟩) ?_ ?_
   rotate_left
   ·intro w'
    go_simp
    with_reducible rfl
   rotate_left
   ·simp only [Act.put, sA_, sB_, sC_, i64_w, i32_w]
    rfl
   refine pure_ (i := 14) (N := some 108) (v := ?_) (a' := ?_) (Ra_ [7, 1, 7, 3]) rfl rfl (any_of HT_.out (by kernel_rfl)) (fun _ _ _ h => h) (Or.inl ⟨by rfl, ?_⟩) ?_ ?_
   rotate_left
   ·intro w'
    go_simp
    with_reducible rfl
   rotate_left
   ·simp only [Act.put, sA_, sB_, sC_, i64_w, i32_w]
    rfl
   refine one_ (i := 7) (N := some 101) (Ra_ [15, 3]) rfl rfl (one_of HT_.out (by kernel_rfl)) (by decide) (fun K hK => ?_)
   refine goes_ Tryd.func44 (by kernel_rfl) rfl #[.string (((⟨#[1]⟩ : ByteArray) ++ (rdOf ByteArray.empty l4 (ji37))) ++ t269)] (by rfl) rfl rfl m2_ ?_
   with_reducible refine (strongroomref02_Sum.calls (((⟨#[1]⟩ : ByteArray) ++ (rdOf ByteArray.empty l4 (ji37))) ++ t269) t273 _ A44.out).mono ?_
   rintro e w51 ⟨rfl, hb⟩
   refine ⟨_, rfl, ?_⟩
   have n0_ := Aside0.mk (below_step m11_ hb)
   clear HB
   have HB := n0_
   clear n0_
   (try clear hb)
   (try clear hb2)
   (try clear hk)
   (try clear hi)
   refine hK.out _ _ ⟨((HB.out.cell (World.block_lt_of_cell? w _ hw272_0)).trans hw272_0), ((HB.out.cell (World.block_lt_of_cell? w _ hw274_0)).trans hw274_0)⟩ (fun hHeld => ?_)
   clear hK K
   refine norm_ (a' := ?_) ?_ ?_
   rotate_left
   ·show Act.put _ (some 101) _ = _
    simp only [Act.put, sA_, sB_, sC_, i64_w, i32_w]
    rfl
   refine one_ (i := 15) (N := some 109) (Ra_ [16, 2]) rfl rfl (one_of HT_.out (by kernel_rfl)) (by decide) (fun K hK => ?_)
   refine goes_ Tryd.func44 (by kernel_rfl) rfl #[.string (((⟨#[1]⟩ : ByteArray) ++ (rdOf ByteArray.empty l4 (ji37))) ++ t270)] (by rfl) rfl rfl m2_ ?_
   with_reducible refine (strongroomref02_Sum.calls (((⟨#[1]⟩ : ByteArray) ++ (rdOf ByteArray.empty l4 (ji37))) ++ t270) t275 _ A46.out).mono ?_
   rintro e w52 ⟨rfl, hb⟩
   refine ⟨_, rfl, ?_⟩
   have n0_ := Aside0.mk (below_step m11_ hb)
   clear HB
   have HB := n0_
   clear n0_
   (try clear hb)
   (try clear hb2)
   (try clear hk)
   (try clear hi)
   refine hK.out _ _ ⟨((HB.out.cell (World.block_lt_of_cell? w _ hw272_0)).trans hw272_0), ((HB.out.cell (World.block_lt_of_cell? w _ hw274_0)).trans hw274_0)⟩ (fun hHeld => ?_)
   clear hK K
   refine norm_ (a' := ?_) ?_ ?_
   rotate_left
   ·show Act.put _ (some 109) _ = _
    simp only [Act.put, sA_, sB_, sC_, i64_w, i32_w]
    rfl
   refine pure_ (i := 16) (N := some 23) (v := ?_) (a' := ?_) (Ra_ [17, 1]) rfl rfl (any_of HT_.out (by kernel_rfl)) (fun _ _ _ h => h) (Or.inl ⟨by rfl, ?_⟩) ?_ ?_
   rotate_left
   ·intro w'
    go_simp
    with_reducible rfl
   rotate_left
   ·simp only [Act.put, sA_, sB_, sC_, i64_w, i32_w]
    rfl
   refine pure_ (i := 17) (N := some 24) (v := ?_) (a' := ?_) (Ra_ [18]) rfl rfl (any_of HT_.out (by kernel_rfl)) (fun _ _ _ h => h) (Or.inl ⟨by rfl, ?_⟩) ?_ ?_
   rotate_left
   ·intro w'
    go_simp
    with_reducible rfl
   rotate_left
   ·simp only [Act.put, sA_, sB_, sC_, i64_w, i32_w]
    rfl
   refine done_ (done_of HT_.out (by kernel_rfl)) ?_
   try go_wp2
   go_ret3
   exact ⟨by first | rfl | (simp [errW_none, errW_some] <;> rfl) | (simp only [← hji37]; first | rfl | (simp [errW_none, errW_some] <;> rfl)) | (simp [*, errW_none, errW_some] <;> rfl), m29_⟩
  replace c47 := Bool.eq_false_iff.mpr c47
  subst c47
  have H1 : (if t269.toList = t270.toList then (some (t273, t275, false)) else (some (t273, t275, (t273.toList == t275.toList)))) = some (r1, r2, r3) := by rw [if_neg (show ¬ (false = true) by decide)] at H; exact H
  clear H
  have H := H1
  clear H1
  by_cases c53 : t269.toList = t270.toList
  case neg =>
   rw [if_neg c53] at H
   have c53b0 : (t269.toList == t270.toList) = false := beq_eq_false_iff_ne.mpr c53
   have c53b1 : (t269.toList != t270.toList) = true := bne_iff_ne.mpr c53
   simp only [Option.some.injEq, Prod.mk.injEq] at H
   obtain ⟨rfl, rfl, rfl⟩ := H
   go_enter Tryd.func27, Tryd.ntmps27
   try go_wp2_with (first | ((with_reducible refine gate_callee (f := 52) rfl ?_); refine goesL_ (some 30) rfl rfl Tryd.func52 (by kernel_rfl) rfl #[.int .i64 a0] rfl m10_ ?_; (with_reducible refine (strongroomlaw20_half.calls k a0 t259 _ A7.out).mono ?_); rintro e w' ⟨rfl, ⟨nd, rfl⟩⟩; refine ⟨_, rfl, ?_⟩; obtain ⟨i059, hi059, _, hsz59, _⟩ := info_parts info9; obtain ⟨hcut59, hA59, hC59⟩ := print_take_of (P := Tryd.prog) Value.string (⟨#[]⟩ : ByteArray) 32 9 .i64 Tryd.underlying32 hi059 hsz59 A4 c4 l4 (ji37) (of_decide_eq_true m20_) (of_decide_eq_true m20_) HC4.out; have HR268 := Aside0.mk (Kd.C_of_reads (h1 := fun _ => rfl) (hA59 _ (Kd.reads_of_C HR4.out))); have HC268 := Aside0.mk hC59; clear hA59 hC59 hi059 hsz59) | ((with_reducible refine gate_callee (f := 27) rfl ?_); refine goesL_ (some 90) rfl rfl Tryd.func27 (by kernel_rfl) rfl #[.int .i64 (wrap64 (a0 - t259)), .int .i64 (wrap64 (a1 - t259)), .string a2, .string a3, .slice A4 (l4.take ((ji37) : Int).toNat).length c4] rfl (by (try simp only [List.map_toArray, List.map_cons, List.map_nil]); first | done | (rw [show (l4.take ((ji37) : Int).toNat).length = (ji37).toNat from (by rw [List.length_take]; have h_ : ((ji37) : Int) ≤ (l4.length : Int) := of_decide_eq_true m20_; omega)] <;> rfl) | (simp only [hji37]; rfl) | rfl | (simp only [List.length_drop, List.length_take]; rfl)) ?_; (with_reducible refine (ih k (by omega) (wrap64 (a0 - t259)) (wrap64 (a1 - t259)) a2 a3 _ _ (l4.take ((ji37) : Int).toNat) t269 t270 false _ ?side1 ?side2 A40.out).mono ?_); (case side1 => repeat (first | exact HR268.out | (with_reducible refine Kd.C_alloc ?_ _) | (with_reducible refine Kd.C_drewN ?_ _) | (with_reducible refine Kd.C_drew ?_))); (case side2 => exact HC268.out); rintro e w60 ⟨rfl, hb⟩; refine ⟨_, rfl, ?_⟩; have n0_ := Aside0.mk (below_step m11_ hb); clear HB; have HB := n0_; clear n0_; (try clear hb); (try clear hb2); (try clear hk); (try clear hi)))
   have n0_ := Aside0.mk (below_drew1 HB.out)
   clear HB
   have HB := n0_
   clear n0_
   have p272 : 0 ≤ ((ji37) : Int) := of_decide_eq_true m20_
   have q272 : (ji37) < (l4.length : Int) := of_decide_eq_true m20_
   obtain ⟨ad272, e272, hx272_0⟩ := Kd.at_string HR4.out (ji37) p272 q272
   have hw272_0 := hx272_0
   cases e272
   replace hx272_0 := (HB.out.cell (World.block_lt_of_cell? w _ hx272_0)).trans hx272_0
   replace p272 := eq_true p272
   replace q272 := eq_true q272
   have p274 : 0 ≤ ((ji37) : Int) := of_decide_eq_true m20_
   have q274 : (ji37) < (l4.length : Int) := of_decide_eq_true m20_
   obtain ⟨ad274, e274, hx274_0⟩ := Kd.at_string HR4.out (ji37) p274 q274
   have hw274_0 := hx274_0
   obtain rfl : ad272 = ad274 := (by injection e274)
   replace hx274_0 := (HB.out.cell (World.block_lt_of_cell? w _ hx274_0)).trans hx274_0
   replace p274 := eq_true p274
   replace q274 := eq_true q274
   refine start_ (n := 18) (S := fun w' => w'.cell? (ad272.add ((ji37)).toNat) = some (.string (rdOf ByteArray.empty l4 (ji37))) ∧ w'.cell? (ad272.add ((ji37)).toNat) = some (.string (rdOf ByteArray.empty l4 (ji37)))) (ds := []) (Ra_ [0, 18]) (by kernel_rfl) rfl rfl ⟨((HB.out.cell (World.block_lt_of_cell? w _ hw272_0)).trans hw272_0), ((HB.out.cell (World.block_lt_of_cell? w _ hw274_0)).trans hw274_0)⟩ (fun hHeld => ?_); refine with_tabW strongroomlaw20_climb.tab9 strongroomlaw20_climb.bits9 (fun HT_ HW_ => ?_)
   generalize w60.drew = w61 at HB hx272_0 hx274_0 hHeld ⊢
   refine pure_ (i := 0) (N := some 94) (v := ?_) (a' := ?_) (Ra_ [1, 17]) rfl rfl (any_of HT_.out (by kernel_rfl)) (fun _ _ _ h => h) (Or.inl ⟨by rfl, ?_⟩) ?_ ?_
   rotate_left
   ·intro w'
    go_simp
    with_reducible rfl
   rotate_left
   ·simp only [Act.put, sA_, sB_, sC_, i64_w, i32_w]
    rfl
   refine pure_ (i := 1) (N := some 95) (v := ?_) (a' := ?_) (Ra_ [2, 16]) rfl rfl (any_of HT_.out (by kernel_rfl)) (fun _ _ _ h => h) (Or.inl ⟨by rfl, ?_⟩) ?_ ?_
   rotate_left
   ·intro w'
    go_simp
    with_reducible rfl
   rotate_left
   ·simp only [Act.put, sA_, sB_, sC_, i64_w, i32_w]
    rfl
   refine pure_ (i := 2) (N := some 96) (v := ?_) (a' := ?_) (Ra_ [3, 15]) rfl rfl (any_of HT_.out (by kernel_rfl)) (fun _ _ _ h => h) (Or.inl ⟨by rfl, ?_⟩) ?_ ?_
   rotate_left
   ·intro w'
    go_simp
    with_reducible rfl
   rotate_left
   ·simp only [Act.put, sA_, sB_, sC_, i64_w, i32_w]
    rfl
   refine pure_ (i := 5) (N := some 99) (v := ?_) (a' := ?_) (Ra_ [3, 2, 1, 12]) rfl rfl (any_of HT_.out (by kernel_rfl)) (fun _ _ _ h => h) (Or.inl ⟨by rfl, ?_⟩) ?_ ?_
   rotate_left
   ·intro w'
    go_simp
    with_reducible rfl
   rotate_left
   ·simp only [Act.put, sA_, sB_, sC_, i64_w, i32_w]
    rfl
   refine pure_ (i := 8) (N := some 102) (v := ?_) (a' := ?_) (Ra_ [3, 2, 1, 2, 1, 9]) rfl rfl (any_of HT_.out (by kernel_rfl)) (fun _ _ _ h => h) (Or.inl ⟨by rfl, ?_⟩) ?_ ?_
   rotate_left
   ·intro w'
    go_simp
    with_reducible rfl
   rotate_left
   ·simp only [Act.put, sA_, sB_, sC_, i64_w, i32_w]
    rfl
   refine pure_ (i := 9) (N := some 103) (v := ?_) (a' := ?_) (Ra_ [3, 2, 1, 2, 2, 8]) rfl rfl (any_of HT_.out (by kernel_rfl)) (fun _ _ _ h => h) (Or.inl ⟨by rfl, ?_⟩) ?_ ?_
   rotate_left
   ·intro w'
    go_simp
    with_reducible rfl
   rotate_left
   ·simp only [Act.put, sA_, sB_, sC_, i64_w, i32_w]
    rfl
   refine pure_ (i := 10) (N := some 104) (v := ?_) (a' := ?_) (Ra_ [3, 2, 1, 2, 3, 7]) rfl rfl (any_of HT_.out (by kernel_rfl)) (fun _ _ _ h => h) (Or.inl ⟨by rfl, ?_⟩) ?_ ?_
   rotate_left
   ·intro w'
    go_simp
    with_reducible rfl
   rotate_left
   ·simp only [Act.put, sA_, sB_, sC_, i64_w, i32_w]
    rfl
   refine pure_ (i := 13) (N := some 107) (v := ?_) (a' := ?_) (Ra_ [3, 2, 1, 2, 3, 2, 1, 4]) rfl rfl (any_of HT_.out (by kernel_rfl)) (fun _ _ _ h => h) (Or.inl ⟨by rfl, ?_⟩) ?_ ?_
   rotate_left
   ·intro w'
    go_simp
    with_reducible rfl
   rotate_left
   ·simp only [Act.put, sA_, sB_, sC_, i64_w, i32_w]
    rfl
   refine take_ (i := 3) (N := some 97) (v := ?_) (a' := ?_) (Ra_ [4, 1, 1, 2, 3, 2, 1, 4]) rfl rfl (take_ofW HT_.out HW_.out (by kernel_rfl)) (fun _ _ _ h => h) (Or.inl ⟨by rfl, ?_⟩) hHeld ?_ ?_
   rotate_left
   ·rintro w' ⟨s0, s1⟩
    go_simp
    with_reducible rfl
   rotate_left
   ·simp only [Act.put, sA_, sB_, sC_, i64_w, i32_w]
    rfl
   refine pure_ (i := 4) (N := some 98) (v := ?_) (a' := ?_) (Ra_ [6, 2, 3, 2, 1, 4]) rfl rfl (any_of HT_.out (by kernel_rfl)) (fun _ _ _ h => h) (Or.inl ⟨by rfl, ?_⟩) ?_ ?_
   rotate_left
   ·intro w'
    go_simp
    with_reducible rfl
   rotate_left
   ·simp only [Act.put, sA_, sB_, sC_, i64_w, i32_w]
    rfl
   refine pure_ (i := 6) (N := some 100) (v := ?_) (a' := ?_) (Ra_ [7, 1, 3, 2, 1, 4]) rfl rfl (any_of HT_.out (by kernel_rfl)) (fun _ _ _ h => h) (Or.inl ⟨by rfl, ?_⟩) ?_ ?_
   rotate_left
   ·intro w'
    go_simp
    with_reducible rfl
   rotate_left
   ·simp only [Act.put, sA_, sB_, sC_, i64_w, i32_w]
    rfl
   refine take_ (i := 11) (N := some 105) (v := ?_) (a' := ?_) (Ra_ [7, 1, 4, 1, 1, 4]) rfl rfl (take_ofW HT_.out HW_.out (by kernel_rfl)) (fun _ _ _ h => h) (Or.inl ⟨by rfl, ?_⟩) hHeld ?_ ?_
   rotate_left
   ·rintro w' ⟨s0, s1⟩
    go_simp
    with_reducible rfl
   rotate_left
   ·simp only [Act.put, sA_, sB_, sC_, i64_w, i32_w]
    rfl
   refine pure_ (i := 12) (N := some 106) (v := ?_) (a' := ?_) (Ra_ [7, 1, 6, 4]) rfl rfl (any_of HT_.out (by kernel_rfl)) (fun _ _ _ h => h) (Or.inl ⟨by rfl, ?_⟩) ?_ ?_
   rotate_left
   ·intro w'
    go_simp
    with_reducible rfl
   rotate_left
   ·simp only [Act.put, sA_, sB_, sC_, i64_w, i32_w]
    rfl
   refine pure_ (i := 14) (N := some 108) (v := ?_) (a' := ?_) (Ra_ [7, 1, 7, 3]) rfl rfl (any_of HT_.out (by kernel_rfl)) (fun _ _ _ h => h) (Or.inl ⟨by rfl, ?_⟩) ?_ ?_
   rotate_left
   ·intro w'
    go_simp
    with_reducible rfl
   rotate_left
   ·simp only [Act.put, sA_, sB_, sC_, i64_w, i32_w]
    rfl
   refine one_ (i := 7) (N := some 101) (Ra_ [15, 3]) rfl rfl (one_of HT_.out (by kernel_rfl)) (by decide) (fun K hK => ?_)
   refine goes_ Tryd.func44 (by kernel_rfl) rfl #[.string (((⟨#[1]⟩ : ByteArray) ++ (rdOf ByteArray.empty l4 (ji37))) ++ t269)] (by rfl) rfl rfl m2_ ?_
   with_reducible refine (strongroomref02_Sum.calls (((⟨#[1]⟩ : ByteArray) ++ (rdOf ByteArray.empty l4 (ji37))) ++ t269) t273 _ A44.out).mono ?_
   rintro e w62 ⟨rfl, hb⟩
   refine ⟨_, rfl, ?_⟩
   have n0_ := Aside0.mk (below_step m11_ hb)
   clear HB
   have HB := n0_
   clear n0_
   (try clear hb)
   (try clear hb2)
   (try clear hk)
   (try clear hi)
   refine hK.out _ _ ⟨((HB.out.cell (World.block_lt_of_cell? w _ hw272_0)).trans hw272_0), ((HB.out.cell (World.block_lt_of_cell? w _ hw274_0)).trans hw274_0)⟩ (fun hHeld => ?_)
   clear hK K
   refine norm_ (a' := ?_) ?_ ?_
   rotate_left
   ·show Act.put _ (some 101) _ = _
    simp only [Act.put, sA_, sB_, sC_, i64_w, i32_w]
    rfl
   refine one_ (i := 15) (N := some 109) (Ra_ [16, 2]) rfl rfl (one_of HT_.out (by kernel_rfl)) (by decide) (fun K hK => ?_)
   refine goes_ Tryd.func44 (by kernel_rfl) rfl #[.string (((⟨#[1]⟩ : ByteArray) ++ (rdOf ByteArray.empty l4 (ji37))) ++ t270)] (by rfl) rfl rfl m2_ ?_
   with_reducible refine (strongroomref02_Sum.calls (((⟨#[1]⟩ : ByteArray) ++ (rdOf ByteArray.empty l4 (ji37))) ++ t270) t275 _ A46.out).mono ?_
   rintro e w63 ⟨rfl, hb⟩
   refine ⟨_, rfl, ?_⟩
   have n0_ := Aside0.mk (below_step m11_ hb)
   clear HB
   have HB := n0_
   clear n0_
   (try clear hb)
   (try clear hb2)
   (try clear hk)
   (try clear hi)
   refine hK.out _ _ ⟨((HB.out.cell (World.block_lt_of_cell? w _ hw272_0)).trans hw272_0), ((HB.out.cell (World.block_lt_of_cell? w _ hw274_0)).trans hw274_0)⟩ (fun hHeld => ?_)
   clear hK K
   refine norm_ (a' := ?_) ?_ ?_
   rotate_left
   ·show Act.put _ (some 109) _ = _
    simp only [Act.put, sA_, sB_, sC_, i64_w, i32_w]
    rfl
   refine pure_ (i := 16) (N := some 23) (v := ?_) (a' := ?_) (Ra_ [17, 1]) rfl rfl (any_of HT_.out (by kernel_rfl)) (fun _ _ _ h => h) (Or.inl ⟨by rfl, ?_⟩) ?_ ?_
   rotate_left
   ·intro w'
    go_simp
    with_reducible rfl
   rotate_left
   ·simp only [Act.put, sA_, sB_, sC_, i64_w, i32_w]
    rfl
   refine pure_ (i := 17) (N := some 24) (v := ?_) (a' := ?_) (Ra_ [18]) rfl rfl (any_of HT_.out (by kernel_rfl)) (fun _ _ _ h => h) (Or.inl ⟨by rfl, ?_⟩) ?_ ?_
   rotate_left
   ·intro w'
    go_simp
    with_reducible rfl
   rotate_left
   ·simp only [Act.put, sA_, sB_, sC_, i64_w, i32_w]
    rfl
   refine done_ (done_of HT_.out (by kernel_rfl)) ?_
   try go_wp2
   go_ret3
   exact ⟨by first | rfl | (simp [errW_none, errW_some] <;> rfl) | (simp only [← hji37]; first | rfl | (simp [errW_none, errW_some] <;> rfl)) | (simp [*, errW_none, errW_some] <;> rfl), m29_⟩
  rw [if_pos c53] at H
  have c53b0 : (t269.toList == t270.toList) = true := beq_iff_eq.mpr c53
  have c53b1 : (t269.toList != t270.toList) = false := bne_eq_false_iff_eq.mpr c53
  clear c53
  simp only [Option.some.injEq, Prod.mk.injEq] at H
  obtain ⟨rfl, rfl, rfl⟩ := H
  go_enter Tryd.func27, Tryd.ntmps27
  try go_wp2_with (first | ((with_reducible refine gate_callee (f := 52) rfl ?_); refine goesL_ (some 30) rfl rfl Tryd.func52 (by kernel_rfl) rfl #[.int .i64 a0] rfl m10_ ?_; (with_reducible refine (strongroomlaw20_half.calls k a0 t259 _ A7.out).mono ?_); rintro e w' ⟨rfl, ⟨nd, rfl⟩⟩; refine ⟨_, rfl, ?_⟩; obtain ⟨i054, hi054, _, hsz54, _⟩ := info_parts info9; obtain ⟨hcut54, hA54, hC54⟩ := print_take_of (P := Tryd.prog) Value.string (⟨#[]⟩ : ByteArray) 32 9 .i64 Tryd.underlying32 hi054 hsz54 A4 c4 l4 (ji37) (of_decide_eq_true m20_) (of_decide_eq_true m20_) HC4.out; have HR268 := Aside0.mk (Kd.C_of_reads (h1 := fun _ => rfl) (hA54 _ (Kd.reads_of_C HR4.out))); have HC268 := Aside0.mk hC54; clear hA54 hC54 hi054 hsz54) | ((with_reducible refine gate_callee (f := 27) rfl ?_); refine goesL_ (some 90) rfl rfl Tryd.func27 (by kernel_rfl) rfl #[.int .i64 (wrap64 (a0 - t259)), .int .i64 (wrap64 (a1 - t259)), .string a2, .string a3, .slice A4 (l4.take ((ji37) : Int).toNat).length c4] rfl (by (try simp only [List.map_toArray, List.map_cons, List.map_nil]); first | done | (rw [show (l4.take ((ji37) : Int).toNat).length = (ji37).toNat from (by rw [List.length_take]; have h_ : ((ji37) : Int) ≤ (l4.length : Int) := of_decide_eq_true m20_; omega)] <;> rfl) | (simp only [hji37]; rfl) | rfl | (simp only [List.length_drop, List.length_take]; rfl)) ?_; (with_reducible refine (ih k (by omega) (wrap64 (a0 - t259)) (wrap64 (a1 - t259)) a2 a3 _ _ (l4.take ((ji37) : Int).toNat) t269 t270 false _ ?side1 ?side2 A40.out).mono ?_); (case side1 => repeat (first | exact HR268.out | (with_reducible refine Kd.C_alloc ?_ _) | (with_reducible refine Kd.C_drewN ?_ _) | (with_reducible refine Kd.C_drew ?_))); (case side2 => exact HC268.out); rintro e w55 ⟨rfl, hb⟩; refine ⟨_, rfl, ?_⟩; have n0_ := Aside0.mk (below_step m11_ hb); clear HB; have HB := n0_; clear n0_; (try clear hb); (try clear hb2); (try clear hk); (try clear hi)))
  have n0_ := Aside0.mk (below_drew1 HB.out)
  clear HB
  have HB := n0_
  clear n0_
  have p272 : 0 ≤ ((ji37) : Int) := of_decide_eq_true m20_
  have q272 : (ji37) < (l4.length : Int) := of_decide_eq_true m20_
  obtain ⟨ad272, e272, hx272_0⟩ := Kd.at_string HR4.out (ji37) p272 q272
  have hw272_0 := hx272_0
  cases e272
  replace hx272_0 := (HB.out.cell (World.block_lt_of_cell? w _ hx272_0)).trans hx272_0
  replace p272 := eq_true p272
  replace q272 := eq_true q272
  have p274 : 0 ≤ ((ji37) : Int) := of_decide_eq_true m20_
  have q274 : (ji37) < (l4.length : Int) := of_decide_eq_true m20_
  obtain ⟨ad274, e274, hx274_0⟩ := Kd.at_string HR4.out (ji37) p274 q274
  have hw274_0 := hx274_0
  obtain rfl : ad272 = ad274 := (by injection e274)
  replace hx274_0 := (HB.out.cell (World.block_lt_of_cell? w _ hx274_0)).trans hx274_0
  replace p274 := eq_true p274
  replace q274 := eq_true q274
  refine start_ (n := 18) (S := fun w' => w'.cell? (ad272.add ((ji37)).toNat) = some (.string (rdOf ByteArray.empty l4 (ji37))) ∧ w'.cell? (ad272.add ((ji37)).toNat) = some (.string (rdOf ByteArray.empty l4 (ji37)))) (ds := []) (Ra_ [0, 18]) (by kernel_rfl) rfl rfl ⟨((HB.out.cell (World.block_lt_of_cell? w _ hw272_0)).trans hw272_0), ((HB.out.cell (World.block_lt_of_cell? w _ hw274_0)).trans hw274_0)⟩ (fun hHeld => ?_); refine with_tabW strongroomlaw20_climb.tab9 strongroomlaw20_climb.bits9 (fun HT_ HW_ => ?_)
  generalize w55.drew = w56 at HB hx272_0 hx274_0 hHeld ⊢
  refine pure_ (i := 0) (N := some 94) (v := ?_) (a' := ?_) (Ra_ [1, 17]) rfl rfl (any_of HT_.out (by kernel_rfl)) (fun _ _ _ h => h) (Or.inl ⟨by rfl, ?_⟩) ?_ ?_
  rotate_left
  ·intro w'
   go_simp
   with_reducible rfl
  rotate_left
  ·simp only [Act.put, sA_, sB_, sC_, i64_w, i32_w]
   rfl
  refine pure_ (i := 1) (N := some 95) (v := ?_) (a' := ?_) (Ra_ [2, 16]) rfl rfl (any_of HT_.out (by kernel_rfl)) (fun _ _ _ h => h) (Or.inl ⟨by rfl, ?_⟩) ?_ ?_
  rotate_left
  ·intro w'
   go_simp
   with_reducible rfl
  rotate_left
  ·simp only [Act.put, sA_, sB_, sC_, i64_w, i32_w]
   rfl
  refine pure_ (i := 2) (N := some 96) (v := ?_) (a' := ?_) (Ra_ [3, 15]) rfl rfl (any_of HT_.out (by kernel_rfl)) (fun _ _ _ h => h) (Or.inl ⟨by rfl, ?_⟩) ?_ ?_
  rotate_left
  ·intro w'
   go_simp
   with_reducible rfl
  rotate_left
  ·simp only [Act.put, sA_, sB_, sC_, i64_w, i32_w]
   rfl
  refine pure_ (i := 5) (N := some 99) (v := ?_) (a' := ?_) (Ra_ [3, 2, 1, 12]) rfl rfl (any_of HT_.out (by kernel_rfl)) (fun _ _ _ h => h) (Or.inl ⟨by rfl, ?_⟩) ?_ ?_
  rotate_left
  ·intro w'
   go_simp
   with_reducible rfl
  rotate_left
  ·simp only [Act.put, sA_, sB_, sC_, i64_w, i32_w]
   rfl
  refine pure_ (i := 8) (N := some 102) (v := ?_) (a' := ?_) (Ra_ [3, 2, 1, 2, 1, 9]) rfl rfl (any_of HT_.out (by kernel_rfl)) (fun _ _ _ h => h) (Or.inl ⟨by rfl, ?_⟩) ?_ ?_
  rotate_left
  ·intro w'
   go_simp
   with_reducible rfl
  rotate_left
  ·simp only [Act.put, sA_, sB_, sC_, i64_w, i32_w]
   rfl
  refine pure_ (i := 9) (N := some 103) (v := ?_) (a' := ?_) (Ra_ [3, 2, 1, 2, 2, 8]) rfl rfl (any_of HT_.out (by kernel_rfl)) (fun _ _ _ h => h) (Or.inl ⟨by rfl, ?_⟩) ?_ ?_
  rotate_left
  ·intro w'
   go_simp
   with_reducible rfl
  rotate_left
  ·simp only [Act.put, sA_, sB_, sC_, i64_w, i32_w]
   rfl
  refine pure_ (i := 10) (N := some 104) (v := ?_) (a' := ?_) (Ra_ [3, 2, 1, 2, 3, 7]) rfl rfl (any_of HT_.out (by kernel_rfl)) (fun _ _ _ h => h) (Or.inl ⟨by rfl, ?_⟩) ?_ ?_
  rotate_left
  ·intro w'
   go_simp
   with_reducible rfl
  rotate_left
  ·simp only [Act.put, sA_, sB_, sC_, i64_w, i32_w]
   rfl
  refine pure_ (i := 13) (N := some 107) (v := ?_) (a' := ?_) (Ra_ [3, 2, 1, 2, 3, 2, 1, 4]) rfl rfl (any_of HT_.out (by kernel_rfl)) (fun _ _ _ h => h) (Or.inl ⟨by rfl, ?_⟩) ?_ ?_
  rotate_left
  ·intro w'
   go_simp
   with_reducible rfl
  rotate_left
  ·simp only [Act.put, sA_, sB_, sC_, i64_w, i32_w]
   rfl
  refine take_ (i := 3) (N := some 97) (v := ?_) (a' := ?_) (Ra_ [4, 1, 1, 2, 3, 2, 1, 4]) rfl rfl (take_ofW HT_.out HW_.out (by kernel_rfl)) (fun _ _ _ h => h) (Or.inl ⟨by rfl, ?_⟩) hHeld ?_ ?_
  rotate_left
  ·rintro w' ⟨s0, s1⟩
   go_simp
   with_reducible rfl
  rotate_left
  ·simp only [Act.put, sA_, sB_, sC_, i64_w, i32_w]
   rfl
  refine pure_ (i := 4) (N := some 98) (v := ?_) (a' := ?_) (Ra_ [6, 2, 3, 2, 1, 4]) rfl rfl (any_of HT_.out (by kernel_rfl)) (fun _ _ _ h => h) (Or.inl ⟨by rfl, ?_⟩) ?_ ?_
  rotate_left
  ·intro w'
   go_simp
   with_reducible rfl
  rotate_left
  ·simp only [Act.put, sA_, sB_, sC_, i64_w, i32_w]
   rfl
  refine pure_ (i := 6) (N := some 100) (v := ?_) (a' := ?_) (Ra_ [7, 1, 3, 2, 1, 4]) rfl rfl (any_of HT_.out (by kernel_rfl)) (fun _ _ _ h => h) (Or.inl ⟨by rfl, ?_⟩) ?_ ?_
  rotate_left
  ·intro w'
   go_simp
   with_reducible rfl
  rotate_left
  ·simp only [Act.put, sA_, sB_, sC_, i64_w, i32_w]
   rfl
  refine take_ (i := 11) (N := some 105) (v := ?_) (a' := ?_) (Ra_ [7, 1, 4, 1, 1, 4]) rfl rfl (take_ofW HT_.out HW_.out (by kernel_rfl)) (fun _ _ _ h => h) (Or.inl ⟨by rfl, ?_⟩) hHeld ?_ ?_
  rotate_left
  ·rintro w' ⟨s0, s1⟩
   go_simp
   with_reducible rfl
  rotate_left
  ·simp only [Act.put, sA_, sB_, sC_, i64_w, i32_w]
   rfl
  refine pure_ (i := 12) (N := some 106) (v := ?_) (a' := ?_) (Ra_ [7, 1, 6, 4]) rfl rfl (any_of HT_.out (by kernel_rfl)) (fun _ _ _ h => h) (Or.inl ⟨by rfl, ?_⟩) ?_ ?_
  rotate_left
  ·intro w'
   go_simp
   with_reducible rfl
  rotate_left
  ·simp only [Act.put, sA_, sB_, sC_, i64_w, i32_w]
   rfl
  refine pure_ (i := 14) (N := some 108) (v := ?_) (a' := ?_) (Ra_ [7, 1, 7, 3]) rfl rfl (any_of HT_.out (by kernel_rfl)) (fun _ _ _ h => h) (Or.inl ⟨by rfl, ?_⟩) ?_ ?_
  rotate_left
  ·intro w'
   go_simp
   with_reducible rfl
  rotate_left
  ·simp only [Act.put, sA_, sB_, sC_, i64_w, i32_w]
   rfl
  refine one_ (i := 7) (N := some 101) (Ra_ [15, 3]) rfl rfl (one_of HT_.out (by kernel_rfl)) (by decide) (fun K hK => ?_)
  refine goes_ Tryd.func44 (by kernel_rfl) rfl #[.string (((⟨#[1]⟩ : ByteArray) ++ (rdOf ByteArray.empty l4 (ji37))) ++ t269)] (by rfl) rfl rfl m2_ ?_
  with_reducible refine (strongroomref02_Sum.calls (((⟨#[1]⟩ : ByteArray) ++ (rdOf ByteArray.empty l4 (ji37))) ++ t269) t273 _ A44.out).mono ?_
  rintro e w57 ⟨rfl, hb⟩
  refine ⟨_, rfl, ?_⟩
  have n0_ := Aside0.mk (below_step m11_ hb)
  clear HB
  have HB := n0_
  clear n0_
  (try clear hb)
  (try clear hb2)
  (try clear hk)
  (try clear hi)
  refine hK.out _ _ ⟨((HB.out.cell (World.block_lt_of_cell? w _ hw272_0)).trans hw272_0), ((HB.out.cell (World.block_lt_of_cell? w _ hw274_0)).trans hw274_0)⟩ (fun hHeld => ?_)
  clear hK K
  refine norm_ (a' := ?_) ?_ ?_
  rotate_left
  ·show Act.put _ (some 101) _ = _
   simp only [Act.put, sA_, sB_, sC_, i64_w, i32_w]
   rfl
  refine one_ (i := 15) (N := some 109) (Ra_ [16, 2]) rfl rfl (one_of HT_.out (by kernel_rfl)) (by decide) (fun K hK => ?_)
  refine goes_ Tryd.func44 (by kernel_rfl) rfl #[.string (((⟨#[1]⟩ : ByteArray) ++ (rdOf ByteArray.empty l4 (ji37))) ++ t270)] (by rfl) rfl rfl m2_ ?_
  with_reducible refine (strongroomref02_Sum.calls (((⟨#[1]⟩ : ByteArray) ++ (rdOf ByteArray.empty l4 (ji37))) ++ t270) t275 _ A46.out).mono ?_
  rintro e w58 ⟨rfl, hb⟩
  refine ⟨_, rfl, ?_⟩
  have n0_ := Aside0.mk (below_step m11_ hb)
  clear HB
  have HB := n0_
  clear n0_
  (try clear hb)
  (try clear hb2)
  (try clear hk)
  (try clear hi)
  refine hK.out _ _ ⟨((HB.out.cell (World.block_lt_of_cell? w _ hw272_0)).trans hw272_0), ((HB.out.cell (World.block_lt_of_cell? w _ hw274_0)).trans hw274_0)⟩ (fun hHeld => ?_)
  clear hK K
  refine norm_ (a' := ?_) ?_ ?_
  rotate_left
  ·show Act.put _ (some 109) _ = _
   simp only [Act.put, sA_, sB_, sC_, i64_w, i32_w]
   rfl
  refine pure_ (i := 16) (N := some 23) (v := ?_) (a' := ?_) (Ra_ [17, 1]) rfl rfl (any_of HT_.out (by kernel_rfl)) (fun _ _ _ h => h) (Or.inl ⟨by rfl, ?_⟩) ?_ ?_
  rotate_left
  ·intro w'
   go_simp
   with_reducible rfl
  rotate_left
  ·simp only [Act.put, sA_, sB_, sC_, i64_w, i32_w]
   rfl
  refine pure_ (i := 17) (N := some 24) (v := ?_) (a' := ?_) (Ra_ [18]) rfl rfl (any_of HT_.out (by kernel_rfl)) (fun _ _ _ h => h) (Or.inl ⟨by rfl, ?_⟩) ?_ ?_
  rotate_left
  ·intro w'
   go_simp
   with_reducible rfl
  rotate_left
  ·simp only [Act.put, sA_, sB_, sC_, i64_w, i32_w]
   rfl
  refine done_ (done_of HT_.out (by kernel_rfl)) ?_
  try go_wp2
  go_ret3
  exact ⟨by first | rfl | (simp [errW_none, errW_some] <;> rfl) | (simp only [← hji37]; first | rfl | (simp [errW_none, errW_some] <;> rfl)) | (simp [*, errW_none, errW_some] <;> rfl), m29_⟩
 rw [if_pos c8] at H
 have c8b0 : decide (a1 < t259) = true := decide_eq_true c8
 clear c8
 obtain ⟨ji9, hji9⟩ : ∃ j_ : Int, (wrap64 ((l4.length : Int) - 1)) = j_ := ⟨_, rfl⟩
 replace H : (if 0 ≤ (ji9) then (if (ji9) ≤ (l4.length : Int) then ((strongroomlaw20_climb.f k t259 a1 a2 a3 (l4.take ((ji9) : Int).toNat)).bind fun bt261 => (if 1 + bt261.1.size ≤ 9223372036854775807 then (if (ji9) < (l4.length : Int) then (if ((⟨#[1]⟩ : ByteArray) ++ bt261.1).size + (rdOf ByteArray.empty l4 (ji9)).size ≤ 9223372036854775807 then ((strongroomref02_Sum.f (((⟨#[1]⟩ : ByteArray) ++ bt261.1) ++ (rdOf ByteArray.empty l4 (ji9)))).bind fun t265 => (if 1 + bt261.2.1.size ≤ 9223372036854775807 then (if ((⟨#[1]⟩ : ByteArray) ++ bt261.2.1).size + (rdOf ByteArray.empty l4 (ji9)).size ≤ 9223372036854775807 then ((strongroomref02_Sum.f (((⟨#[1]⟩ : ByteArray) ++ bt261.2.1) ++ (rdOf ByteArray.empty l4 (ji9)))).bind fun t267 => (if bt261.2.2 = true then (some (t265, t267, true)) else (if bt261.1.toList = bt261.2.1.toList then (some (t265, t267, false)) else (some (t265, t267, (t265.toList == t267.toList)))))) else (none)) else (none))) else (none)) else (none)) else (none))) else (none)) else (none)) = some (r1, r2, r3) := by first | (rw [hji9] at H; exact H) | (simp only [hji9] at H ⊢; exact H)
 (try rw [hji9] at A7)
 have hji9w : (IntKind.i64.wrap ((l4.length : Int) - 1)) = ji9 := (i64_w _).trans hji9
 by_cases c10 : 0 ≤ (ji9)
 case neg =>
  rw [if_neg c10] at H
  exact absurd H (by simp)
 rw [if_pos c10] at H
 have c10b0 := eq_true c10
 have c10b1 : decide (0 ≤ (ji9)) = true := decide_eq_true c10
 clear c10
 by_cases c11 : (ji9) ≤ (l4.length : Int)
 case neg =>
  rw [if_neg c11] at H
  exact absurd H (by simp)
 rw [if_pos c11] at H
 have c11b0 := eq_true c11
 have c11b1 : decide ((ji9) ≤ (l4.length : Int)) = true := decide_eq_true c11
 clear c11
 replace H := Option.bind_eq_some_iff.mp H
 obtain ⟨⟨t261, t262, t263⟩, A120, H⟩ := H
 replace H : (if 1 + t261.size ≤ 9223372036854775807 then (if (ji9) < (l4.length : Int) then (if ((⟨#[1]⟩ : ByteArray) ++ t261).size + (rdOf ByteArray.empty l4 (ji9)).size ≤ 9223372036854775807 then ((strongroomref02_Sum.f (((⟨#[1]⟩ : ByteArray) ++ t261) ++ (rdOf ByteArray.empty l4 (ji9)))).bind fun t265 => (if 1 + t262.size ≤ 9223372036854775807 then (if ((⟨#[1]⟩ : ByteArray) ++ t262).size + (rdOf ByteArray.empty l4 (ji9)).size ≤ 9223372036854775807 then ((strongroomref02_Sum.f (((⟨#[1]⟩ : ByteArray) ++ t262) ++ (rdOf ByteArray.empty l4 (ji9)))).bind fun t267 => (if t263 = true then (some (t265, t267, true)) else (if t261.toList = t262.toList then (some (t265, t267, false)) else (some (t265, t267, (t265.toList == t267.toList)))))) else (none)) else (none))) else (none)) else (none)) else (none)) = some (r1, r2, r3) := H
 have A12 := Aside0.mk A120
 clear A120
 by_cases c13 : 1 + t261.size ≤ 9223372036854775807
 case neg =>
  rw [if_neg c13] at H
  exact absurd H (by simp)
 rw [if_pos c13] at H
 have c13b0 := eq_true c13
 have c13b1 : decide (1 + t261.size ≤ 9223372036854775807) = true := decide_eq_true c13
 try have c13b2 : (9223372036854775807 < 1 + t261.size) = False := eq_false (Nat.not_lt.2 c13)
 by_cases c14 : (ji9) < (l4.length : Int)
 case neg =>
  rw [if_neg c14] at H
  exact absurd H (by simp)
 rw [if_pos c14] at H
 have c14b0 : decide ((ji9) < (l4.length : Int)) = true := decide_eq_true c14
 clear c14
 by_cases c15 : ((⟨#[1]⟩ : ByteArray) ++ t261).size + (rdOf ByteArray.empty l4 (ji9)).size ≤ 9223372036854775807
 case neg =>
  rw [if_neg c15] at H
  exact absurd H (by simp)
 rw [if_pos c15] at H
 have c15b0 := eq_true c15
 have c15b1 : decide (((⟨#[1]⟩ : ByteArray) ++ t261).size + (rdOf ByteArray.empty l4 (ji9)).size ≤ 9223372036854775807) = true := decide_eq_true c15
 try have c15b2 : (9223372036854775807 < ((⟨#[1]⟩ : ByteArray) ++ t261).size + (rdOf ByteArray.empty l4 (ji9)).size) = False := eq_false (Nat.not_lt.2 c15)
 try (have c15b3 := c15b2; simp only [ByteArray.size_append, show ((⟨#[0]⟩ : ByteArray)).size = 1 from rfl, show ((⟨#[1]⟩ : ByteArray)).size = 1 from rfl, show ((⟨#[2]⟩ : ByteArray)).size = 1 from rfl] at c15b3)
 replace H := Option.bind_eq_some_iff.mp H
 obtain ⟨t265, A160, H⟩ := H
 replace H : (if 1 + t262.size ≤ 9223372036854775807 then (if ((⟨#[1]⟩ : ByteArray) ++ t262).size + (rdOf ByteArray.empty l4 (ji9)).size ≤ 9223372036854775807 then ((strongroomref02_Sum.f (((⟨#[1]⟩ : ByteArray) ++ t262) ++ (rdOf ByteArray.empty l4 (ji9)))).bind fun t267 => (if t263 = true then (some (t265, t267, true)) else (if t261.toList = t262.toList then (some (t265, t267, false)) else (some (t265, t267, (t265.toList == t267.toList)))))) else (none)) else (none)) = some (r1, r2, r3) := H
 have A16 := Aside0.mk A160
 clear A160
 by_cases c17 : 1 + t262.size ≤ 9223372036854775807
 case neg =>
  rw [if_neg c17] at H
  exact absurd H (by simp)
 rw [if_pos c17] at H
 have c17b0 := eq_true c17
 have c17b1 : decide (1 + t262.size ≤ 9223372036854775807) = true := decide_eq_true c17
 try have c17b2 : (9223372036854775807 < 1 + t262.size) = False := eq_false (Nat.not_lt.2 c17)
 by_cases c18 : ((⟨#[1]⟩ : ByteArray) ++ t262).size + (rdOf ByteArray.empty l4 (ji9)).size ≤ 9223372036854775807
 case neg =>
  rw [if_neg c18] at H
  exact absurd H (by simp)
 rw [if_pos c18] at H
 have c18b0 := eq_true c18
 have c18b1 : decide (((⟨#[1]⟩ : ByteArray) ++ t262).size + (rdOf ByteArray.empty l4 (ji9)).size ≤ 9223372036854775807) = true := decide_eq_true c18
 try have c18b2 : (9223372036854775807 < ((⟨#[1]⟩ : ByteArray) ++ t262).size + (rdOf ByteArray.empty l4 (ji9)).size) = False := eq_false (Nat.not_lt.2 c18)
 try (have c18b3 := c18b2; simp only [ByteArray.size_append, show ((⟨#[0]⟩ : ByteArray)).size = 1 from rfl, show ((⟨#[1]⟩ : ByteArray)).size = 1 from rfl, show ((⟨#[2]⟩ : ByteArray)).size = 1 from rfl] at c18b3)
 replace H := Option.bind_eq_some_iff.mp H
 obtain ⟨t267, A190, H⟩ := H
 replace H : (if t263 = true then (some (t265, t267, true)) else (if t261.toList = t262.toList then (some (t265, t267, false)) else (some (t265, t267, (t265.toList == t267.toList))))) = some (r1, r2, r3) := H
 have A19 := Aside0.mk A190
 clear A190
 by_cases c20 : t263 = true
 ·subst c20
  have H1 : (some (t265, t267, true)) = some (r1, r2, r3) := by rw [if_pos rfl] at H; exact H
  clear H
  have H := H1
  clear H1
  simp only [Option.some.injEq, Prod.mk.injEq] at H
  obtain ⟨rfl, rfl, rfl⟩ := H
  go_enter Tryd.func27, Tryd.ntmps27
  try go_wp2_with (first | ((with_reducible refine gate_callee (f := 52) rfl ?_); refine goesL_ (some 30) rfl rfl Tryd.func52 (by kernel_rfl) rfl #[.int .i64 a0] rfl m10_ ?_; (with_reducible refine (strongroomlaw20_half.calls k a0 t259 _ A7.out).mono ?_); rintro e w' ⟨rfl, ⟨nd, rfl⟩⟩; refine ⟨_, rfl, ?_⟩; obtain ⟨i021, hi021, _, hsz21, _⟩ := info_parts info9; obtain ⟨hcut21, hA21, hC21⟩ := print_take_of (P := Tryd.prog) Value.string (⟨#[]⟩ : ByteArray) 32 9 .i64 Tryd.underlying32 hi021 hsz21 A4 c4 l4 (ji9) (of_decide_eq_true m20_) (of_decide_eq_true m20_) HC4.out; have HR260 := Aside0.mk (Kd.C_of_reads (h1 := fun _ => rfl) (hA21 _ (Kd.reads_of_C HR4.out))); have HC260 := Aside0.mk hC21; clear hA21 hC21 hi021 hsz21) | ((with_reducible refine gate_callee (f := 27) rfl ?_); refine goesL_ (some 45) rfl rfl Tryd.func27 (by kernel_rfl) rfl #[.int .i64 t259, .int .i64 a1, .string a2, .string a3, .slice A4 (l4.take ((ji9) : Int).toNat).length c4] rfl (by (try simp only [List.map_toArray, List.map_cons, List.map_nil]); first | done | (rw [show (l4.take ((ji9) : Int).toNat).length = (ji9).toNat from (by rw [List.length_take]; have h_ : ((ji9) : Int) ≤ (l4.length : Int) := of_decide_eq_true m20_; omega)] <;> rfl) | (simp only [hji9]; rfl) | rfl | (simp only [List.length_drop, List.length_take]; rfl)) ?_; (with_reducible refine (ih k (by omega) t259 a1 a2 a3 _ _ (l4.take ((ji9) : Int).toNat) t261 t262 true _ ?side1 ?side2 A12.out).mono ?_); (case side1 => repeat (first | exact HR260.out | (with_reducible refine Kd.C_alloc ?_ _) | (with_reducible refine Kd.C_drewN ?_ _) | (with_reducible refine Kd.C_drew ?_))); (case side2 => exact HC260.out); rintro e w22 ⟨rfl, hb⟩; refine ⟨_, rfl, ?_⟩; have n0_ := Aside0.mk (below_step m11_ hb); clear HB; have HB := n0_; clear n0_; (try clear hb); (try clear hb2); (try clear hk); (try clear hi)))
  have n0_ := Aside0.mk (below_drew1 HB.out)
  clear HB
  have HB := n0_
  clear n0_
  have p264 : 0 ≤ ((ji9) : Int) := of_decide_eq_true m20_
  have q264 : (ji9) < (l4.length : Int) := of_decide_eq_true m20_
  obtain ⟨ad264, e264, hx264_0⟩ := Kd.at_string HR4.out (ji9) p264 q264
  have hw264_0 := hx264_0
  cases e264
  replace hx264_0 := (HB.out.cell (World.block_lt_of_cell? w _ hx264_0)).trans hx264_0
  replace p264 := eq_true p264
  replace q264 := eq_true q264
  have p266 : 0 ≤ ((ji9) : Int) := of_decide_eq_true m20_
  have q266 : (ji9) < (l4.length : Int) := of_decide_eq_true m20_
  obtain ⟨ad266, e266, hx266_0⟩ := Kd.at_string HR4.out (ji9) p266 q266
  have hw266_0 := hx266_0
  obtain rfl : ad264 = ad266 := (by injection e266)
  replace hx266_0 := (HB.out.cell (World.block_lt_of_cell? w _ hx266_0)).trans hx266_0
  replace p266 := eq_true p266
  replace q266 := eq_true q266
  refine start_ (n := 18) (S := fun w' => w'.cell? (ad264.add ((ji9)).toNat) = some (.string (rdOf ByteArray.empty l4 (ji9))) ∧ w'.cell? (ad264.add ((ji9)).toNat) = some (.string (rdOf ByteArray.empty l4 (ji9)))) (ds := []) (Ra_ [0, 18]) (by kernel_rfl) rfl rfl ⟨((HB.out.cell (World.block_lt_of_cell? w _ hw264_0)).trans hw264_0), ((HB.out.cell (World.block_lt_of_cell? w _ hw266_0)).trans hw266_0)⟩ (fun hHeld => ?_); refine with_tabW strongroomlaw20_climb.tab6 strongroomlaw20_climb.bits6 (fun HT_ HW_ => ?_)
  generalize w22.drew = w23 at HB hx264_0 hx266_0 hHeld ⊢
  refine pure_ (i := 0) (N := some 49) (v := ?_) (a' := ?_) (Ra_ [1, 17]) rfl rfl (any_of HT_.out (by kernel_rfl)) (fun _ _ _ h => h) (Or.inl ⟨by rfl, ?_⟩) ?_ ?_
  rotate_left
  ·intro w'
   go_simp
   with_reducible rfl
  rotate_left
  ·simp only [Act.put, sA_, sB_, sC_, i64_w, i32_w]
   rfl
  refine pure_ (i := 1) (N := some 50) (v := ?_) (a' := ?_) (Ra_ [2, 16]) rfl rfl (any_of HT_.out (by kernel_rfl)) (fun _ _ _ h => h) (Or.inl ⟨by rfl, ?_⟩) ?_ ?_
  rotate_left
  ·intro w'
   go_simp
   with_reducible rfl
  rotate_left
  ·simp only [Act.put, sA_, sB_, sC_, i64_w, i32_w]
   rfl
  refine pure_ (i := 2) (N := some 51) (v := ?_) (a' := ?_) (Ra_ [3, 15]) rfl rfl (any_of HT_.out (by kernel_rfl)) (fun _ _ _ h => h) (Or.inl ⟨by rfl, ?_⟩) ?_ ?_
  rotate_left
  ·intro w'
   go_simp
   with_reducible rfl
  rotate_left
  ·simp only [Act.put, sA_, sB_, sC_, i64_w, i32_w]
   rfl
  refine pure_ (i := 3) (N := some 52) (v := ?_) (a' := ?_) (Ra_ [4, 14]) rfl rfl (any_of HT_.out (by kernel_rfl)) (fun _ _ _ h => h) (Or.inl ⟨by rfl, ?_⟩) ?_ ?_
  rotate_left
  ·intro w'
   go_simp
   with_reducible rfl
  rotate_left
  ·simp only [Act.put, sA_, sB_, sC_, i64_w, i32_w]
   rfl
  refine pure_ (i := 4) (N := some 53) (v := ?_) (a' := ?_) (Ra_ [5, 13]) rfl rfl (any_of HT_.out (by kernel_rfl)) (fun _ _ _ h => h) (Or.inl ⟨by rfl, ?_⟩) ?_ ?_
  rotate_left
  ·intro w'
   go_simp
   with_reducible rfl
  rotate_left
  ·simp only [Act.put, sA_, sB_, sC_, i64_w, i32_w]
   rfl
  refine pure_ (i := 8) (N := some 57) (v := ?_) (a' := ?_) (Ra_ [5, 3, 1, 9]) rfl rfl (any_of HT_.out (by kernel_rfl)) (fun _ _ _ h => h) (Or.inl ⟨by rfl, ?_⟩) ?_ ?_
  rotate_left
  ·intro w'
   go_simp
   with_reducible rfl
  rotate_left
  ·simp only [Act.put, sA_, sB_, sC_, i64_w, i32_w]
   rfl
  refine pure_ (i := 9) (N := some 58) (v := ?_) (a' := ?_) (Ra_ [5, 3, 2, 8]) rfl rfl (any_of HT_.out (by kernel_rfl)) (fun _ _ _ h => h) (Or.inl ⟨by rfl, ?_⟩) ?_ ?_
  rotate_left
  ·intro w'
   go_simp
   with_reducible rfl
  rotate_left
  ·simp only [Act.put, sA_, sB_, sC_, i64_w, i32_w]
   rfl
  refine pure_ (i := 10) (N := some 59) (v := ?_) (a' := ?_) (Ra_ [5, 3, 3, 7]) rfl rfl (any_of HT_.out (by kernel_rfl)) (fun _ _ _ h => h) (Or.inl ⟨by rfl, ?_⟩) ?_ ?_
  rotate_left
  ·intro w'
   go_simp
   with_reducible rfl
  rotate_left
  ·simp only [Act.put, sA_, sB_, sC_, i64_w, i32_w]
   rfl
  refine pure_ (i := 11) (N := some 60) (v := ?_) (a' := ?_) (Ra_ [5, 3, 4, 6]) rfl rfl (any_of HT_.out (by kernel_rfl)) (fun _ _ _ h => h) (Or.inl ⟨by rfl, ?_⟩) ?_ ?_
  rotate_left
  ·intro w'
   go_simp
   with_reducible rfl
  rotate_left
  ·simp only [Act.put, sA_, sB_, sC_, i64_w, i32_w]
   rfl
  refine pure_ (i := 12) (N := some 61) (v := ?_) (a' := ?_) (Ra_ [5, 3, 5, 5]) rfl rfl (any_of HT_.out (by kernel_rfl)) (fun _ _ _ h => h) (Or.inl ⟨by rfl, ?_⟩) ?_ ?_
  rotate_left
  ·intro w'
   go_simp
   with_reducible rfl
  rotate_left
  ·simp only [Act.put, sA_, sB_, sC_, i64_w, i32_w]
   rfl
  refine take_ (i := 5) (N := some 54) (v := ?_) (a' := ?_) (Ra_ [6, 2, 5, 5]) rfl rfl (take_ofW HT_.out HW_.out (by kernel_rfl)) (fun _ _ _ h => h) (Or.inl ⟨by rfl, ?_⟩) hHeld ?_ ?_
  rotate_left
  ·rintro w' ⟨s0, s1⟩
   go_simp
   with_reducible rfl
  rotate_left
  ·simp only [Act.put, sA_, sB_, sC_, i64_w, i32_w]
   rfl
  refine pure_ (i := 6) (N := some 55) (v := ?_) (a' := ?_) (Ra_ [7, 1, 5, 5]) rfl rfl (any_of HT_.out (by kernel_rfl)) (fun _ _ _ h => h) (Or.inl ⟨by rfl, ?_⟩) ?_ ?_
  rotate_left
  ·intro w'
   go_simp
   with_reducible rfl
  rotate_left
  ·simp only [Act.put, sA_, sB_, sC_, i64_w, i32_w]
   rfl
  refine take_ (i := 13) (N := some 62) (v := ?_) (a' := ?_) (Ra_ [7, 1, 6, 4]) rfl rfl (take_ofW HT_.out HW_.out (by kernel_rfl)) (fun _ _ _ h => h) (Or.inl ⟨by rfl, ?_⟩) hHeld ?_ ?_
  rotate_left
  ·rintro w' ⟨s0, s1⟩
   go_simp
   with_reducible rfl
  rotate_left
  ·simp only [Act.put, sA_, sB_, sC_, i64_w, i32_w]
   rfl
  refine pure_ (i := 14) (N := some 63) (v := ?_) (a' := ?_) (Ra_ [7, 1, 7, 3]) rfl rfl (any_of HT_.out (by kernel_rfl)) (fun _ _ _ h => h) (Or.inl ⟨by rfl, ?_⟩) ?_ ?_
  rotate_left
  ·intro w'
   go_simp
   with_reducible rfl
  rotate_left
  ·simp only [Act.put, sA_, sB_, sC_, i64_w, i32_w]
   rfl
  refine one_ (i := 7) (N := some 56) (Ra_ [15, 3]) rfl rfl (one_of HT_.out (by kernel_rfl)) (by decide) (fun K hK => ?_)
  refine goes_ Tryd.func44 (by kernel_rfl) rfl #[.string (((⟨#[1]⟩ : ByteArray) ++ t261) ++ (rdOf ByteArray.empty l4 (ji9)))] (by rfl) rfl rfl m3_ ?_
  with_reducible refine (strongroomref02_Sum.calls (((⟨#[1]⟩ : ByteArray) ++ t261) ++ (rdOf ByteArray.empty l4 (ji9))) t265 _ A16.out).mono ?_
  rintro e w24 ⟨rfl, hb⟩
  refine ⟨_, rfl, ?_⟩
  have n0_ := Aside0.mk (below_step m11_ hb)
  clear HB
  have HB := n0_
  clear n0_
  (try clear hb)
  (try clear hb2)
  (try clear hk)
  (try clear hi)
  refine hK.out _ _ ⟨((HB.out.cell (World.block_lt_of_cell? w _ hw264_0)).trans hw264_0), ((HB.out.cell (World.block_lt_of_cell? w _ hw266_0)).trans hw266_0)⟩ (fun hHeld => ?_)
  clear hK K
  refine norm_ (a' := ?_) ?_ ?_
  rotate_left
  ·show Act.put _ (some 56) _ = _
   simp only [Act.put, sA_, sB_, sC_, i64_w, i32_w]
   rfl
  refine one_ (i := 15) (N := some 64) (Ra_ [16, 2]) rfl rfl (one_of HT_.out (by kernel_rfl)) (by decide) (fun K hK => ?_)
  refine goes_ Tryd.func44 (by kernel_rfl) rfl #[.string (((⟨#[1]⟩ : ByteArray) ++ t262) ++ (rdOf ByteArray.empty l4 (ji9)))] (by rfl) rfl rfl m3_ ?_
  with_reducible refine (strongroomref02_Sum.calls (((⟨#[1]⟩ : ByteArray) ++ t262) ++ (rdOf ByteArray.empty l4 (ji9))) t267 _ A19.out).mono ?_
  rintro e w25 ⟨rfl, hb⟩
  refine ⟨_, rfl, ?_⟩
  have n0_ := Aside0.mk (below_step m11_ hb)
  clear HB
  have HB := n0_
  clear n0_
  (try clear hb)
  (try clear hb2)
  (try clear hk)
  (try clear hi)
  refine hK.out _ _ ⟨((HB.out.cell (World.block_lt_of_cell? w _ hw264_0)).trans hw264_0), ((HB.out.cell (World.block_lt_of_cell? w _ hw266_0)).trans hw266_0)⟩ (fun hHeld => ?_)
  clear hK K
  refine norm_ (a' := ?_) ?_ ?_
  rotate_left
  ·show Act.put _ (some 64) _ = _
   simp only [Act.put, sA_, sB_, sC_, i64_w, i32_w]
   rfl
  refine pure_ (i := 16) (N := some 18) (v := ?_) (a' := ?_) (Ra_ [17, 1]) rfl rfl (any_of HT_.out (by kernel_rfl)) (fun _ _ _ h => h) (Or.inl ⟨by rfl, ?_⟩) ?_ ?_
  rotate_left
  ·intro w'
   go_simp
   with_reducible rfl
  rotate_left
  ·simp only [Act.put, sA_, sB_, sC_, i64_w, i32_w]
   rfl
  refine pure_ (i := 17) (N := some 19) (v := ?_) (a' := ?_) (Ra_ [18]) rfl rfl (any_of HT_.out (by kernel_rfl)) (fun _ _ _ h => h) (Or.inl ⟨by rfl, ?_⟩) ?_ ?_
  rotate_left
  ·intro w'
   go_simp
   with_reducible rfl
  rotate_left
  ·simp only [Act.put, sA_, sB_, sC_, i64_w, i32_w]
   rfl
  refine done_ (done_of HT_.out (by kernel_rfl)) ?_
  try go_wp2
  go_ret3
  exact ⟨by first | rfl | (simp [errW_none, errW_some] <;> rfl) | (simp only [← hji9]; first | rfl | (simp [errW_none, errW_some] <;> rfl)) | (simp [*, errW_none, errW_some] <;> rfl), m29_⟩
 replace c20 := Bool.eq_false_iff.mpr c20
 subst c20
 have H1 : (if t261.toList = t262.toList then (some (t265, t267, false)) else (some (t265, t267, (t265.toList == t267.toList)))) = some (r1, r2, r3) := by rw [if_neg (show ¬ (false = true) by decide)] at H; exact H
 clear H
 have H := H1
 clear H1
 by_cases c26 : t261.toList = t262.toList
 case neg =>
  rw [if_neg c26] at H
  have c26b0 : (t261.toList == t262.toList) = false := beq_eq_false_iff_ne.mpr c26
  have c26b1 : (t261.toList != t262.toList) = true := bne_iff_ne.mpr c26
  simp only [Option.some.injEq, Prod.mk.injEq] at H
  obtain ⟨rfl, rfl, rfl⟩ := H
  go_enter Tryd.func27, Tryd.ntmps27
  try go_wp2_with (first | ((with_reducible refine gate_callee (f := 52) rfl ?_); refine goesL_ (some 30) rfl rfl Tryd.func52 (by kernel_rfl) rfl #[.int .i64 a0] rfl m10_ ?_; (with_reducible refine (strongroomlaw20_half.calls k a0 t259 _ A7.out).mono ?_); rintro e w' ⟨rfl, ⟨nd, rfl⟩⟩; refine ⟨_, rfl, ?_⟩; obtain ⟨i032, hi032, _, hsz32, _⟩ := info_parts info9; obtain ⟨hcut32, hA32, hC32⟩ := print_take_of (P := Tryd.prog) Value.string (⟨#[]⟩ : ByteArray) 32 9 .i64 Tryd.underlying32 hi032 hsz32 A4 c4 l4 (ji9) (of_decide_eq_true m20_) (of_decide_eq_true m20_) HC4.out; have HR260 := Aside0.mk (Kd.C_of_reads (h1 := fun _ => rfl) (hA32 _ (Kd.reads_of_C HR4.out))); have HC260 := Aside0.mk hC32; clear hA32 hC32 hi032 hsz32) | ((with_reducible refine gate_callee (f := 27) rfl ?_); refine goesL_ (some 45) rfl rfl Tryd.func27 (by kernel_rfl) rfl #[.int .i64 t259, .int .i64 a1, .string a2, .string a3, .slice A4 (l4.take ((ji9) : Int).toNat).length c4] rfl (by (try simp only [List.map_toArray, List.map_cons, List.map_nil]); first | done | (rw [show (l4.take ((ji9) : Int).toNat).length = (ji9).toNat from (by rw [List.length_take]; have h_ : ((ji9) : Int) ≤ (l4.length : Int) := of_decide_eq_true m20_; omega)] <;> rfl) | (simp only [hji9]; rfl) | rfl | (simp only [List.length_drop, List.length_take]; rfl)) ?_; (with_reducible refine (ih k (by omega) t259 a1 a2 a3 _ _ (l4.take ((ji9) : Int).toNat) t261 t262 false _ ?side1 ?side2 A12.out).mono ?_); (case side1 => repeat (first | exact HR260.out | (with_reducible refine Kd.C_alloc ?_ _) | (with_reducible refine Kd.C_drewN ?_ _) | (with_reducible refine Kd.C_drew ?_))); (case side2 => exact HC260.out); rintro e w33 ⟨rfl, hb⟩; refine ⟨_, rfl, ?_⟩; have n0_ := Aside0.mk (below_step m11_ hb); clear HB; have HB := n0_; clear n0_; (try clear hb); (try clear hb2); (try clear hk); (try clear hi)))
  have n0_ := Aside0.mk (below_drew1 HB.out)
  clear HB
  have HB := n0_
  clear n0_
  have p264 : 0 ≤ ((ji9) : Int) := of_decide_eq_true m20_
  have q264 : (ji9) < (l4.length : Int) := of_decide_eq_true m20_
  obtain ⟨ad264, e264, hx264_0⟩ := Kd.at_string HR4.out (ji9) p264 q264
  have hw264_0 := hx264_0
  cases e264
  replace hx264_0 := (HB.out.cell (World.block_lt_of_cell? w _ hx264_0)).trans hx264_0
  replace p264 := eq_true p264
  replace q264 := eq_true q264
  have p266 : 0 ≤ ((ji9) : Int) := of_decide_eq_true m20_
  have q266 : (ji9) < (l4.length : Int) := of_decide_eq_true m20_
  obtain ⟨ad266, e266, hx266_0⟩ := Kd.at_string HR4.out (ji9) p266 q266
  have hw266_0 := hx266_0
  obtain rfl : ad264 = ad266 := (by injection e266)
  replace hx266_0 := (HB.out.cell (World.block_lt_of_cell? w _ hx266_0)).trans hx266_0
  replace p266 := eq_true p266
  replace q266 := eq_true q266
  refine start_ (n := 18) (S := fun w' => w'.cell? (ad264.add ((ji9)).toNat) = some (.string (rdOf ByteArray.empty l4 (ji9))) ∧ w'.cell? (ad264.add ((ji9)).toNat) = some (.string (rdOf ByteArray.empty l4 (ji9)))) (ds := []) (Ra_ [0, 18]) (by kernel_rfl) rfl rfl ⟨((HB.out.cell (World.block_lt_of_cell? w _ hw264_0)).trans hw264_0), ((HB.out.cell (World.block_lt_of_cell? w _ hw266_0)).trans hw266_0)⟩ (fun hHeld => ?_); refine with_tabW strongroomlaw20_climb.tab6 strongroomlaw20_climb.bits6 (fun HT_ HW_ => ?_)
  generalize w33.drew = w34 at HB hx264_0 hx266_0 hHeld ⊢
  refine pure_ (i := 0) (N := some 49) (v := ?_) (a' := ?_) (Ra_ [1, 17]) rfl rfl (any_of HT_.out (by kernel_rfl)) (fun _ _ _ h => h) (Or.inl ⟨by rfl, ?_⟩) ?_ ?_
  rotate_left
  ·intro w'
   go_simp
   with_reducible rfl
  rotate_left
  ·simp only [Act.put, sA_, sB_, sC_, i64_w, i32_w]
   rfl
  refine pure_ (i := 1) (N := some 50) (v := ?_) (a' := ?_) (Ra_ [2, 16]) rfl rfl (any_of HT_.out (by kernel_rfl)) (fun _ _ _ h => h) (Or.inl ⟨by rfl, ?_⟩) ?_ ?_
  rotate_left
  ·intro w'
   go_simp
   with_reducible rfl
  rotate_left
  ·simp only [Act.put, sA_, sB_, sC_, i64_w, i32_w]
   rfl
  refine pure_ (i := 2) (N := some 51) (v := ?_) (a' := ?_) (Ra_ [3, 15]) rfl rfl (any_of HT_.out (by kernel_rfl)) (fun _ _ _ h => h) (Or.inl ⟨by rfl, ?_⟩) ?_ ?_
  rotate_left
  ·intro w'
   go_simp
   with_reducible rfl
  rotate_left
  ·simp only [Act.put, sA_, sB_, sC_, i64_w, i32_w]
   rfl
  refine pure_ (i := 3) (N := some 52) (v := ?_) (a' := ?_) (Ra_ [4, 14]) rfl rfl (any_of HT_.out (by kernel_rfl)) (fun _ _ _ h => h) (Or.inl ⟨by rfl, ?_⟩) ?_ ?_
  rotate_left
  ·intro w'
   go_simp
   with_reducible rfl
  rotate_left
  ·simp only [Act.put, sA_, sB_, sC_, i64_w, i32_w]
   rfl
  refine pure_ (i := 4) (N := some 53) (v := ?_) (a' := ?_) (Ra_ [5, 13]) rfl rfl (any_of HT_.out (by kernel_rfl)) (fun _ _ _ h => h) (Or.inl ⟨by rfl, ?_⟩) ?_ ?_
  rotate_left
  ·intro w'
   go_simp
   with_reducible rfl
  rotate_left
  ·simp only [Act.put, sA_, sB_, sC_, i64_w, i32_w]
   rfl
  refine pure_ (i := 8) (N := some 57) (v := ?_) (a' := ?_) (Ra_ [5, 3, 1, 9]) rfl rfl (any_of HT_.out (by kernel_rfl)) (fun _ _ _ h => h) (Or.inl ⟨by rfl, ?_⟩) ?_ ?_
  rotate_left
  ·intro w'
   go_simp
   with_reducible rfl
  rotate_left
  ·simp only [Act.put, sA_, sB_, sC_, i64_w, i32_w]
   rfl
  refine pure_ (i := 9) (N := some 58) (v := ?_) (a' := ?_) (Ra_ [5, 3, 2, 8]) rfl rfl (any_of HT_.out (by kernel_rfl)) (fun _ _ _ h => h) (Or.inl ⟨by rfl, ?_⟩) ?_ ?_
  rotate_left
  ·intro w'
   go_simp
   with_reducible rfl
  rotate_left
  ·simp only [Act.put, sA_, sB_, sC_, i64_w, i32_w]
   rfl
  refine pure_ (i := 10) (N := some 59) (v := ?_) (a' := ?_) (Ra_ [5, 3, 3, 7]) rfl rfl (any_of HT_.out (by kernel_rfl)) (fun _ _ _ h => h) (Or.inl ⟨by rfl, ?_⟩) ?_ ?_
  rotate_left
  ·intro w'
   go_simp
   with_reducible rfl
  rotate_left
  ·simp only [Act.put, sA_, sB_, sC_, i64_w, i32_w]
   rfl
  refine pure_ (i := 11) (N := some 60) (v := ?_) (a' := ?_) (Ra_ [5, 3, 4, 6]) rfl rfl (any_of HT_.out (by kernel_rfl)) (fun _ _ _ h => h) (Or.inl ⟨by rfl, ?_⟩) ?_ ?_
  rotate_left
  ·intro w'
   go_simp
   with_reducible rfl
  rotate_left
  ·simp only [Act.put, sA_, sB_, sC_, i64_w, i32_w]
   rfl
  refine pure_ (i := 12) (N := some 61) (v := ?_) (a' := ?_) (Ra_ [5, 3, 5, 5]) rfl rfl (any_of HT_.out (by kernel_rfl)) (fun _ _ _ h => h) (Or.inl ⟨by rfl, ?_⟩) ?_ ?_
  rotate_left
  ·intro w'
   go_simp
   with_reducible rfl
  rotate_left
  ·simp only [Act.put, sA_, sB_, sC_, i64_w, i32_w]
   rfl
  refine take_ (i := 5) (N := some 54) (v := ?_) (a' := ?_) (Ra_ [6, 2, 5, 5]) rfl rfl (take_ofW HT_.out HW_.out (by kernel_rfl)) (fun _ _ _ h => h) (Or.inl ⟨by rfl, ?_⟩) hHeld ?_ ?_
  rotate_left
  ·rintro w' ⟨s0, s1⟩
   go_simp
   with_reducible rfl
  rotate_left
  ·simp only [Act.put, sA_, sB_, sC_, i64_w, i32_w]
   rfl
  refine pure_ (i := 6) (N := some 55) (v := ?_) (a' := ?_) (Ra_ [7, 1, 5, 5]) rfl rfl (any_of HT_.out (by kernel_rfl)) (fun _ _ _ h => h) (Or.inl ⟨by rfl, ?_⟩) ?_ ?_
  rotate_left
  ·intro w'
   go_simp
   with_reducible rfl
  rotate_left
  ·simp only [Act.put, sA_, sB_, sC_, i64_w, i32_w]
   rfl
  refine take_ (i := 13) (N := some 62) (v := ?_) (a' := ?_) (Ra_ [7, 1, 6, 4]) rfl rfl (take_ofW HT_.out HW_.out (by kernel_rfl)) (fun _ _ _ h => h) (Or.inl ⟨by rfl, ?_⟩) hHeld ?_ ?_
  rotate_left
  ·rintro w' ⟨s0, s1⟩
   go_simp
   with_reducible rfl
  rotate_left
  ·simp only [Act.put, sA_, sB_, sC_, i64_w, i32_w]
   rfl
  refine pure_ (i := 14) (N := some 63) (v := ?_) (a' := ?_) (Ra_ [7, 1, 7, 3]) rfl rfl (any_of HT_.out (by kernel_rfl)) (fun _ _ _ h => h) (Or.inl ⟨by rfl, ?_⟩) ?_ ?_
  rotate_left
  ·intro w'
   go_simp
   with_reducible rfl
  rotate_left
  ·simp only [Act.put, sA_, sB_, sC_, i64_w, i32_w]
   rfl
  refine one_ (i := 7) (N := some 56) (Ra_ [15, 3]) rfl rfl (one_of HT_.out (by kernel_rfl)) (by decide) (fun K hK => ?_)
  refine goes_ Tryd.func44 (by kernel_rfl) rfl #[.string (((⟨#[1]⟩ : ByteArray) ++ t261) ++ (rdOf ByteArray.empty l4 (ji9)))] (by rfl) rfl rfl m3_ ?_
  with_reducible refine (strongroomref02_Sum.calls (((⟨#[1]⟩ : ByteArray) ++ t261) ++ (rdOf ByteArray.empty l4 (ji9))) t265 _ A16.out).mono ?_
  rintro e w35 ⟨rfl, hb⟩
  refine ⟨_, rfl, ?_⟩
  have n0_ := Aside0.mk (below_step m11_ hb)
  clear HB
  have HB := n0_
  clear n0_
  (try clear hb)
  (try clear hb2)
  (try clear hk)
  (try clear hi)
  refine hK.out _ _ ⟨((HB.out.cell (World.block_lt_of_cell? w _ hw264_0)).trans hw264_0), ((HB.out.cell (World.block_lt_of_cell? w _ hw266_0)).trans hw266_0)⟩ (fun hHeld => ?_)
  clear hK K
  refine norm_ (a' := ?_) ?_ ?_
  rotate_left
  ·show Act.put _ (some 56) _ = _
   simp only [Act.put, sA_, sB_, sC_, i64_w, i32_w]
   rfl
  refine one_ (i := 15) (N := some 64) (Ra_ [16, 2]) rfl rfl (one_of HT_.out (by kernel_rfl)) (by decide) (fun K hK => ?_)
  refine goes_ Tryd.func44 (by kernel_rfl) rfl #[.string (((⟨#[1]⟩ : ByteArray) ++ t262) ++ (rdOf ByteArray.empty l4 (ji9)))] (by rfl) rfl rfl m3_ ?_
  with_reducible refine (strongroomref02_Sum.calls (((⟨#[1]⟩ : ByteArray) ++ t262) ++ (rdOf ByteArray.empty l4 (ji9))) t267 _ A19.out).mono ?_
  rintro e w36 ⟨rfl, hb⟩
  refine ⟨_, rfl, ?_⟩
  have n0_ := Aside0.mk (below_step m11_ hb)
  clear HB
  have HB := n0_
  clear n0_
  (try clear hb)
  (try clear hb2)
  (try clear hk)
  (try clear hi)
  refine hK.out _ _ ⟨((HB.out.cell (World.block_lt_of_cell? w _ hw264_0)).trans hw264_0), ((HB.out.cell (World.block_lt_of_cell? w _ hw266_0)).trans hw266_0)⟩ (fun hHeld => ?_)
  clear hK K
  refine norm_ (a' := ?_) ?_ ?_
  rotate_left
  ·show Act.put _ (some 64) _ = _
   simp only [Act.put, sA_, sB_, sC_, i64_w, i32_w]
   rfl
  refine pure_ (i := 16) (N := some 18) (v := ?_) (a' := ?_) (Ra_ [17, 1]) rfl rfl (any_of HT_.out (by kernel_rfl)) (fun _ _ _ h => h) (Or.inl ⟨by rfl, ?_⟩) ?_ ?_
  rotate_left
  ·intro w'
   go_simp
   with_reducible rfl
  rotate_left
  ·simp only [Act.put, sA_, sB_, sC_, i64_w, i32_w]
   rfl
  refine pure_ (i := 17) (N := some 19) (v := ?_) (a' := ?_) (Ra_ [18]) rfl rfl (any_of HT_.out (by kernel_rfl)) (fun _ _ _ h => h) (Or.inl ⟨by rfl, ?_⟩) ?_ ?_
  rotate_left
  ·intro w'
   go_simp
   with_reducible rfl
  rotate_left
  ·simp only [Act.put, sA_, sB_, sC_, i64_w, i32_w]
   rfl
  refine done_ (done_of HT_.out (by kernel_rfl)) ?_
  try go_wp2
  go_ret3
  exact ⟨by first | rfl | (simp [errW_none, errW_some] <;> rfl) | (simp only [← hji9]; first | rfl | (simp [errW_none, errW_some] <;> rfl)) | (simp [*, errW_none, errW_some] <;> rfl), m29_⟩
 rw [if_pos c26] at H
 have c26b0 : (t261.toList == t262.toList) = true := beq_iff_eq.mpr c26
 have c26b1 : (t261.toList != t262.toList) = false := bne_eq_false_iff_eq.mpr c26
 clear c26
 simp only [Option.some.injEq, Prod.mk.injEq] at H
 obtain ⟨rfl, rfl, rfl⟩ := H
 go_enter Tryd.func27, Tryd.ntmps27
 try go_wp2_with (first | ((with_reducible refine gate_callee (f := 52) rfl ?_); refine goesL_ (some 30) rfl rfl Tryd.func52 (by kernel_rfl) rfl #[.int .i64 a0] rfl m10_ ?_; (with_reducible refine (strongroomlaw20_half.calls k a0 t259 _ A7.out).mono ?_); rintro e w' ⟨rfl, ⟨nd, rfl⟩⟩; refine ⟨_, rfl, ?_⟩; obtain ⟨i027, hi027, _, hsz27, _⟩ := info_parts info9; obtain ⟨hcut27, hA27, hC27⟩ := print_take_of (P := Tryd.prog) Value.string (⟨#[]⟩ : ByteArray) 32 9 .i64 Tryd.underlying32 hi027 hsz27 A4 c4 l4 (ji9) (of_decide_eq_true m20_) (of_decide_eq_true m20_) HC4.out; have HR260 := Aside0.mk (Kd.C_of_reads (h1 := fun _ => rfl) (hA27 _ (Kd.reads_of_C HR4.out))); have HC260 := Aside0.mk hC27; clear hA27 hC27 hi027 hsz27) | ((with_reducible refine gate_callee (f := 27) rfl ?_); refine goesL_ (some 45) rfl rfl Tryd.func27 (by kernel_rfl) rfl #[.int .i64 t259, .int .i64 a1, .string a2, .string a3, .slice A4 (l4.take ((ji9) : Int).toNat).length c4] rfl (by (try simp only [List.map_toArray, List.map_cons, List.map_nil]); first | done | (rw [show (l4.take ((ji9) : Int).toNat).length = (ji9).toNat from (by rw [List.length_take]; have h_ : ((ji9) : Int) ≤ (l4.length : Int) := of_decide_eq_true m20_; omega)] <;> rfl) | (simp only [hji9]; rfl) | rfl | (simp only [List.length_drop, List.length_take]; rfl)) ?_; (with_reducible refine (ih k (by omega) t259 a1 a2 a3 _ _ (l4.take ((ji9) : Int).toNat) t261 t262 false _ ?side1 ?side2 A12.out).mono ?_); (case side1 => repeat (first | exact HR260.out | (with_reducible refine Kd.C_alloc ?_ _) | (with_reducible refine Kd.C_drewN ?_ _) | (with_reducible refine Kd.C_drew ?_))); (case side2 => exact HC260.out); rintro e w28 ⟨rfl, hb⟩; refine ⟨_, rfl, ?_⟩; have n0_ := Aside0.mk (below_step m11_ hb); clear HB; have HB := n0_; clear n0_; (try clear hb); (try clear hb2); (try clear hk); (try clear hi)))
 have n0_ := Aside0.mk (below_drew1 HB.out)
 clear HB
 have HB := n0_
 clear n0_
 have p264 : 0 ≤ ((ji9) : Int) := of_decide_eq_true m20_
 have q264 : (ji9) < (l4.length : Int) := of_decide_eq_true m20_
 obtain ⟨ad264, e264, hx264_0⟩ := Kd.at_string HR4.out (ji9) p264 q264
 have hw264_0 := hx264_0
 cases e264
 replace hx264_0 := (HB.out.cell (World.block_lt_of_cell? w _ hx264_0)).trans hx264_0
 replace p264 := eq_true p264
 replace q264 := eq_true q264
 have p266 : 0 ≤ ((ji9) : Int) := of_decide_eq_true m20_
 have q266 : (ji9) < (l4.length : Int) := of_decide_eq_true m20_
 obtain ⟨ad266, e266, hx266_0⟩ := Kd.at_string HR4.out (ji9) p266 q266
 have hw266_0 := hx266_0
 obtain rfl : ad264 = ad266 := (by injection e266)
 replace hx266_0 := (HB.out.cell (World.block_lt_of_cell? w _ hx266_0)).trans hx266_0
 replace p266 := eq_true p266
 replace q266 := eq_true q266
 refine start_ (n := 18) (S := fun w' => w'.cell? (ad264.add ((ji9)).toNat) = some (.string (rdOf ByteArray.empty l4 (ji9))) ∧ w'.cell? (ad264.add ((ji9)).toNat) = some (.string (rdOf ByteArray.empty l4 (ji9)))) (ds := []) (Ra_ [0, 18]) (by kernel_rfl) rfl rfl ⟨((HB.out.cell (World.block_lt_of_cell? w _ hw264_0)).trans hw264_0), ((HB.out.cell (World.block_lt_of_cell? w _ hw266_0)).trans hw266_0)⟩ (fun hHeld => ?_); refine with_tabW strongroomlaw20_climb.tab6 strongroomlaw20_climb.bits6 (fun HT_ HW_ => ?_)
 generalize w28.drew = w29 at HB hx264_0 hx266_0 hHeld ⊢
 refine pure_ (i := 0) (N := some 49) (v := ?_) (a' := ?_) (Ra_ [1, 17]) rfl rfl (any_of HT_.out (by kernel_rfl)) (fun _ _ _ h => h) (Or.inl ⟨by rfl, ?_⟩) ?_ ?_
 rotate_left
 ·intro w'
  go_simp
  with_reducible rfl
 rotate_left
 ·simp only [Act.put, sA_, sB_, sC_, i64_w, i32_w]
  rfl
 refine pure_ (i := 1) (N := some 50) (v := ?_) (a' := ?_) (Ra_ [2, 16]) rfl rfl (any_of HT_.out (by kernel_rfl)) (fun _ _ _ h => h) (Or.inl ⟨by rfl, ?_⟩) ?_ ?_
 rotate_left
 ·intro w'
  go_simp
  with_reducible rfl
 rotate_left
 ·simp only [Act.put, sA_, sB_, sC_, i64_w, i32_w]
  rfl
 refine pure_ (i := 2) (N := some 51) (v := ?_) (a' := ?_) (Ra_ [3, 15]) rfl rfl (any_of HT_.out (by kernel_rfl)) (fun _ _ _ h => h) (Or.inl ⟨by rfl, ?_⟩) ?_ ?_
 rotate_left
 ·intro w'
  go_simp
  with_reducible rfl
 rotate_left
 ·simp only [Act.put, sA_, sB_, sC_, i64_w, i32_w]
  rfl
 refine pure_ (i := 3) (N := some 52) (v := ?_) (a' := ?_) (Ra_ [4, 14]) rfl rfl (any_of HT_.out (by kernel_rfl)) (fun _ _ _ h => h) (Or.inl ⟨by rfl, ?_⟩) ?_ ?_
 rotate_left
 ·intro w'
  go_simp
  with_reducible rfl
 rotate_left
 ·simp only [Act.put, sA_, sB_, sC_, i64_w, i32_w]
  rfl
 refine pure_ (i := 4) (N := some 53) (v := ?_) (a' := ?_) (Ra_ [5, 13]) rfl rfl (any_of HT_.out (by kernel_rfl)) (fun _ _ _ h => h) (Or.inl ⟨by rfl, ?_⟩) ?_ ?_
 rotate_left
 ·intro w'
  go_simp
  with_reducible rfl
 rotate_left
 ·simp only [Act.put, sA_, sB_, sC_, i64_w, i32_w]
  rfl
 refine pure_ (i := 8) (N := some 57) (v := ?_) (a' := ?_) (Ra_ [5, 3, 1, 9]) rfl rfl (any_of HT_.out (by kernel_rfl)) (fun _ _ _ h => h) (Or.inl ⟨by rfl, ?_⟩) ?_ ?_
 rotate_left
 ·intro w'
  go_simp
  with_reducible rfl
 rotate_left
 ·simp only [Act.put, sA_, sB_, sC_, i64_w, i32_w]
  rfl
 refine pure_ (i := 9) (N := some 58) (v := ?_) (a' := ?_) (Ra_ [5, 3, 2, 8]) rfl rfl (any_of HT_.out (by kernel_rfl)) (fun _ _ _ h => h) (Or.inl ⟨by rfl, ?_⟩) ?_ ?_
 rotate_left
 ·intro w'
  go_simp
  with_reducible rfl
 rotate_left
 ·simp only [Act.put, sA_, sB_, sC_, i64_w, i32_w]
  rfl
 refine pure_ (i := 10) (N := some 59) (v := ?_) (a' := ?_) (Ra_ [5, 3, 3, 7]) rfl rfl (any_of HT_.out (by kernel_rfl)) (fun _ _ _ h => h) (Or.inl ⟨by rfl, ?_⟩) ?_ ?_
 rotate_left
 ·intro w'
  go_simp
  with_reducible rfl
 rotate_left
 ·simp only [Act.put, sA_, sB_, sC_, i64_w, i32_w]
  rfl
 refine pure_ (i := 11) (N := some 60) (v := ?_) (a' := ?_) (Ra_ [5, 3, 4, 6]) rfl rfl (any_of HT_.out (by kernel_rfl)) (fun _ _ _ h => h) (Or.inl ⟨by rfl, ?_⟩) ?_ ?_
 rotate_left
 ·intro w'
  go_simp
  with_reducible rfl
 rotate_left
 ·simp only [Act.put, sA_, sB_, sC_, i64_w, i32_w]
  rfl
 refine pure_ (i := 12) (N := some 61) (v := ?_) (a' := ?_) (Ra_ [5, 3, 5, 5]) rfl rfl (any_of HT_.out (by kernel_rfl)) (fun _ _ _ h => h) (Or.inl ⟨by rfl, ?_⟩) ?_ ?_
 rotate_left
 ·intro w'
  go_simp
  with_reducible rfl
 rotate_left
 ·simp only [Act.put, sA_, sB_, sC_, i64_w, i32_w]
  rfl
 refine take_ (i := 5) (N := some 54) (v := ?_) (a' := ?_) (Ra_ [6, 2, 5, 5]) rfl rfl (take_ofW HT_.out HW_.out (by kernel_rfl)) (fun _ _ _ h => h) (Or.inl ⟨by rfl, ?_⟩) hHeld ?_ ?_
 rotate_left
 ·rintro w' ⟨s0, s1⟩
  go_simp
  with_reducible rfl
 rotate_left
 ·simp only [Act.put, sA_, sB_, sC_, i64_w, i32_w]
  rfl
 refine pure_ (i := 6) (N := some 55) (v := ?_) (a' := ?_) (Ra_ [7, 1, 5, 5]) rfl rfl (any_of HT_.out (by kernel_rfl)) (fun _ _ _ h => h) (Or.inl ⟨by rfl, ?_⟩) ?_ ?_
 rotate_left
 ·intro w'
  go_simp
  with_reducible rfl
 rotate_left
 ·simp only [Act.put, sA_, sB_, sC_, i64_w, i32_w]
  rfl
 refine take_ (i := 13) (N := some 62) (v := ?_) (a' := ?_) (Ra_ [7, 1, 6, 4]) rfl rfl (take_ofW HT_.out HW_.out (by kernel_rfl)) (fun _ _ _ h => h) (Or.inl ⟨by rfl, ?_⟩) hHeld ?_ ?_
 rotate_left
 ·rintro w' ⟨s0, s1⟩
  go_simp
  with_reducible rfl
 rotate_left
 ·simp only [Act.put, sA_, sB_, sC_, i64_w, i32_w]
  rfl
 refine pure_ (i := 14) (N := some 63) (v := ?_) (a' := ?_) (Ra_ [7, 1, 7, 3]) rfl rfl (any_of HT_.out (by kernel_rfl)) (fun _ _ _ h => h) (Or.inl ⟨by rfl, ?_⟩) ?_ ?_
 rotate_left
 ·intro w'
  go_simp
  with_reducible rfl
 rotate_left
 ·simp only [Act.put, sA_, sB_, sC_, i64_w, i32_w]
  rfl
 refine one_ (i := 7) (N := some 56) (Ra_ [15, 3]) rfl rfl (one_of HT_.out (by kernel_rfl)) (by decide) (fun K hK => ?_)
 refine goes_ Tryd.func44 (by kernel_rfl) rfl #[.string (((⟨#[1]⟩ : ByteArray) ++ t261) ++ (rdOf ByteArray.empty l4 (ji9)))] (by rfl) rfl rfl m3_ ?_
 with_reducible refine (strongroomref02_Sum.calls (((⟨#[1]⟩ : ByteArray) ++ t261) ++ (rdOf ByteArray.empty l4 (ji9))) t265 _ A16.out).mono ?_
 rintro e w30 ⟨rfl, hb⟩
 refine ⟨_, rfl, ?_⟩
 have n0_ := Aside0.mk (below_step m11_ hb)
 clear HB
 have HB := n0_
 clear n0_
 (try clear hb)
 (try clear hb2)
 (try clear hk)
 (try clear hi)
 refine hK.out _ _ ⟨((HB.out.cell (World.block_lt_of_cell? w _ hw264_0)).trans hw264_0), ((HB.out.cell (World.block_lt_of_cell? w _ hw266_0)).trans hw266_0)⟩ (fun hHeld => ?_)
 clear hK K
 refine norm_ (a' := ?_) ?_ ?_
 rotate_left
 ·show Act.put _ (some 56) _ = _
  simp only [Act.put, sA_, sB_, sC_, i64_w, i32_w]
  rfl
 refine one_ (i := 15) (N := some 64) (Ra_ [16, 2]) rfl rfl (one_of HT_.out (by kernel_rfl)) (by decide) (fun K hK => ?_)
 refine goes_ Tryd.func44 (by kernel_rfl) rfl #[.string (((⟨#[1]⟩ : ByteArray) ++ t262) ++ (rdOf ByteArray.empty l4 (ji9)))] (by rfl) rfl rfl m3_ ?_
 with_reducible refine (strongroomref02_Sum.calls (((⟨#[1]⟩ : ByteArray) ++ t262) ++ (rdOf ByteArray.empty l4 (ji9))) t267 _ A19.out).mono ?_
 rintro e w31 ⟨rfl, hb⟩
 refine ⟨_, rfl, ?_⟩
 have n0_ := Aside0.mk (below_step m11_ hb)
 clear HB
 have HB := n0_
 clear n0_
 (try clear hb)
 (try clear hb2)
 (try clear hk)
 (try clear hi)
 refine hK.out _ _ ⟨((HB.out.cell (World.block_lt_of_cell? w _ hw264_0)).trans hw264_0), ((HB.out.cell (World.block_lt_of_cell? w _ hw266_0)).trans hw266_0)⟩ (fun hHeld => ?_)
 clear hK K
 refine norm_ (a' := ?_) ?_ ?_
 rotate_left
 ·show Act.put _ (some 64) _ = _
  simp only [Act.put, sA_, sB_, sC_, i64_w, i32_w]
  rfl
 refine pure_ (i := 16) (N := some 18) (v := ?_) (a' := ?_) (Ra_ [17, 1]) rfl rfl (any_of HT_.out (by kernel_rfl)) (fun _ _ _ h => h) (Or.inl ⟨by rfl, ?_⟩) ?_ ?_
 rotate_left
 ·intro w'
  go_simp
  with_reducible rfl
 rotate_left
 ·simp only [Act.put, sA_, sB_, sC_, i64_w, i32_w]
  rfl
 refine pure_ (i := 17) (N := some 19) (v := ?_) (a' := ?_) (Ra_ [18]) rfl rfl (any_of HT_.out (by kernel_rfl)) (fun _ _ _ h => h) (Or.inl ⟨by rfl, ?_⟩) ?_ ?_
 rotate_left
 ·intro w'
  go_simp
  with_reducible rfl
 rotate_left
 ·simp only [Act.put, sA_, sB_, sC_, i64_w, i32_w]
  rfl
 refine done_ (done_of HT_.out (by kernel_rfl)) ?_
 try go_wp2
 go_ret3
 exact ⟨by first | rfl | (simp [errW_none, errW_some] <;> rfl) | (simp only [← hji9]; first | rfl | (simp [errW_none, errW_some] <;> rfl)) | (simp [*, errW_none, errW_some] <;> rfl), m29_⟩

end Go.Proofs.YtdeggemomajhcaaDoorH.HMerkleShows
