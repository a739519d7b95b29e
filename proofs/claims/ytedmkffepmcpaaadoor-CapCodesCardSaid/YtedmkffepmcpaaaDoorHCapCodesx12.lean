-- PRINTED by print.py (a twelfth state) out of the translation. Not trusted: Lean checks it.
import Derived.Test.YtedmkffepmcpaaaDoorHCapCodesx0
import Derived.Test.YtedmkffepmcpaaaDoorHCapCodesx9
namespace Go.Proofs.YtedmkffepmcpaaaDoorH.HCapCodes
open Go.RowKit Go.Proofs.YtedmkffepmcpaaaDoorW.PrintWords Go.Proofs.YtedmkffepmcpaaaDoorW.PrintLast Go.Proofs.YtedmkffepmcpaaaDoorW.PrintMore
attribute [local go_sem] max2_int min2_int max_two min_two max_three min_three max_four min_four   -- for this text's walks alone
set_option linter.unusedVariables false
set_option linter.unusedSimpArgs false

/-! ### strongroomref01_Get: function 67 -/
mutual
def strongroomref01_Get.j0 : Nat → ByteArray → Int → Bool → Option (Int × Int × Int)
 | 0, _, _, _ => none
 | k + 1, x0, x1, x18 => if x18 = true then (some (0, 0, 9)) else (strongroomref01_Get.l0 k x0 x1 0 1 0)
def strongroomref01_Get.l0 : Nat → ByteArray → Int → Int → Int → Int → Option (Int × Int × Int)
 | 0, _, _, _, _, _ => none
 | k + 1, x0, x1, x7, x8, x9 => if x9 < 10 then (if (wrap64 ((x0.size : Int) - x1)) = x9 then (some (0, 0, 3)) else (if 0 ≤ (wrap64 (x1 + x9)) then (if (wrap64 (x1 + x9)) < (x0.size : Int) then (if x9 = 9 then (strongroomref01_Get.j2 k x0 x1 x7 x8 x9 (IntKind.u64.wrap (bt x0 (wrap64 (x1 + x9)))) ((IntKind.u64.wrap (bt x0 (wrap64 (x1 + x9)))) != 1)) else (strongroomref01_Get.j2 k x0 x1 x7 x8 x9 (IntKind.u64.wrap (bt x0 (wrap64 (x1 + x9)))) false)) else (none)) else (none))) else (some (0, 0, 4))
def strongroomref01_Get.j2 : Nat → ByteArray → Int → Int → Int → Int → Int → Bool → Option (Int × Int × Int)
 | 0, _, _, _, _, _, _, _ => none
 | k + 1, x0, x1, x7, x8, x9, x10, x40 => if x40 = true then (some (0, 0, 4)) else (if x10 < 128 then (if x10 = 0 then (if x9 > 0 then (some (0, 0, 4)) else (some (IntKind.u64.wrap (x7 + (IntKind.u64.wrap ((Int.tmod x10 128) * x8))), wrap64 ((wrap64 (x1 + x9)) + 1), 0))) else (some (IntKind.u64.wrap (x7 + (IntKind.u64.wrap ((Int.tmod x10 128) * x8))), wrap64 ((wrap64 (x1 + x9)) + 1), 0))) else (strongroomref01_Get.l0 k x0 x1 (IntKind.u64.wrap (x7 + (IntKind.u64.wrap ((Int.tmod x10 128) * x8)))) (IntKind.u64.wrap (x8 * 128)) (wrap64 (x9 + 1))))
end
def strongroomref01_Get.f (k : Nat) (a0 : ByteArray) (a1 : Int) : Option (Int × Int × Int) := if a1 < 0 then (strongroomref01_Get.j0 k a0 a1 true) else (strongroomref01_Get.j0 k a0 a1 (decide (a1 > (a0.size : Int))))
theorem strongroomref01_Get.mono_l : ∀ k, (∀ y0 y1 y2, LeO (strongroomref01_Get.j0 k y0 y1 y2) (strongroomref01_Get.j0 (k + 1) y0 y1 y2)) ∧ (∀ y0 y1 y2 y3 y4, LeO (strongroomref01_Get.l0 k y0 y1 y2 y3 y4) (strongroomref01_Get.l0 (k + 1) y0 y1 y2 y3 y4)) ∧ (∀ y0 y1 y2 y3 y4 y5 y6, LeO (strongroomref01_Get.j2 k y0 y1 y2 y3 y4 y5 y6) (strongroomref01_Get.j2 (k + 1) y0 y1 y2 y3 y4 y5 y6))
 | 0 => ⟨fun _ _ _ r h => by simp [strongroomref01_Get.j0] at h, fun _ _ _ _ _ r h => by simp [strongroomref01_Get.l0] at h, fun _ _ _ _ _ _ _ r h => by simp [strongroomref01_Get.j2] at h⟩
 | k + 1 => by
  obtain ⟨ih0, ih1, ih2⟩ := strongroomref01_Get.mono_l k
  refine ⟨?_, ?_, ?_⟩
  ·intro y0 y1 y2
   unfold strongroomref01_Get.j0
   repeat' first
   | (with_reducible exact ih0 _ _ _)
   | (with_reducible exact ih1 _ _ _ _ _)
   | (with_reducible exact ih2 _ _ _ _ _ _ _)
   | (with_reducible exact LeO.refl _)
   | (with_reducible exact LeO.none _)
   | (with_reducible refine LeO.ite ?_ ?_)
   | (with_reducible refine LeO.bind ?_ (fun _ => ?_))
   | exact ih0 _ _ _
   | exact ih1 _ _ _ _ _
   | exact ih2 _ _ _ _ _ _ _
   | exact LeO.none _
   | refine LeO.ite ?_ ?_
   | refine LeO.bind ?_ (fun _ => ?_)
  ·intro y0 y1 y2 y3 y4
   unfold strongroomref01_Get.l0
   repeat' first
   | (with_reducible exact ih0 _ _ _)
   | (with_reducible exact ih1 _ _ _ _ _)
   | (with_reducible exact ih2 _ _ _ _ _ _ _)
   | (with_reducible exact LeO.refl _)
   | (with_reducible exact LeO.none _)
   | (with_reducible refine LeO.ite ?_ ?_)
   | (with_reducible refine LeO.bind ?_ (fun _ => ?_))
   | exact ih0 _ _ _
   | exact ih1 _ _ _ _ _
   | exact ih2 _ _ _ _ _ _ _
   | exact LeO.none _
   | refine LeO.ite ?_ ?_
   | refine LeO.bind ?_ (fun _ => ?_)
  ·intro y0 y1 y2 y3 y4 y5 y6
   unfold strongroomref01_Get.j2
   repeat' first
   | (with_reducible exact ih0 _ _ _)
   | (with_reducible exact ih1 _ _ _ _ _)
   | (with_reducible exact ih2 _ _ _ _ _ _ _)
   | (with_reducible exact LeO.refl _)
   | (with_reducible exact LeO.none _)
   | (with_reducible refine LeO.ite ?_ ?_)
   | (with_reducible refine LeO.bind ?_ (fun _ => ?_))
   | exact ih0 _ _ _
   | exact ih1 _ _ _ _ _
   | exact ih2 _ _ _ _ _ _ _
   | exact LeO.none _
   | refine LeO.ite ?_ ?_
   | refine LeO.bind ?_ (fun _ => ?_)
theorem strongroomref01_Get.mono : ∀ a0 a1 k, LeO (strongroomref01_Get.f k a0 a1) (strongroomref01_Get.f (k + 1) a0 a1) := by
 intro a0 a1 k
 obtain ⟨ih0, ih1, ih2⟩ := strongroomref01_Get.mono_l k
 unfold strongroomref01_Get.f
 repeat' first
   | (with_reducible exact ih0 _ _ _)
   | (with_reducible exact ih1 _ _ _ _ _)
   | (with_reducible exact ih2 _ _ _ _ _ _ _)
   | (with_reducible exact LeO.refl _)
   | (with_reducible exact LeO.none _)
   | (with_reducible refine LeO.ite ?_ ?_)
   | (with_reducible refine LeO.bind ?_ (fun _ => ?_))
   | exact ih0 _ _ _
   | exact ih1 _ _ _ _ _
   | exact ih2 _ _ _ _ _ _ _
   | exact LeO.none _
   | refine LeO.ite ?_ ?_
   | refine LeO.bind ?_ (fun _ => ?_)
set_option maxHeartbeats 8000000 in
set_option maxRecDepth 100000 in
theorem strongroomref01_Get.calls (k : Nat) (a0 : ByteArray) (a1 : Int) (r1 : Int) (r2 : Int) (r3 : Int) (w : World) (h : strongroomref01_Get.f k a0 a1 = some (r1, r2, r3)) :
  Calls Tryd.prog 67 #[.string a0, .int .i64 a1] w fun e w' => e = .returned (.tuple #[.int .u64 r1, .int .i64 r2, .int .i64 r3]) ∧ Drawn0 w w' := by
 have H : (if a1 < 0 then (strongroomref01_Get.j0 k a0 a1 true) else (strongroomref01_Get.j0 k a0 a1 (decide (a1 > (a0.size : Int))))) = some (r1, r2, r3) := h
 clear h
 have HC3 := Aside0.mk H
 clear H
 go_enter Tryd.func67, Tryd.ntmps67
 go_upto_region 1 with (fail)
 go_cut [18] (fun v18 wc => ∃ (kq : Nat) (x18_2 : Bool), v18 = .bool x18_2 ∧ Aside0 (strongroomref01_Get.j0 kq a0 a1 x18_2 = some (r1, r2, r3)) ∧ Aside0 (kq ≤ k) ∧ Drawn0 w wc)
 case first =>
  have H := HC3.out
  clear HC3
  by_cases c4 : a1 < 0
  ·rw [if_pos c4] at H
   have c4b0 : decide (a1 < 0) = true := decide_eq_true c4
   clear c4
   (first | rw [c4b0] | (simp only [i64_w, i32_w]; rw [c4b0]) | skip)
   have H' := Aside0.mk H
   clear H
   go_wp2
   go_meet
   case rel => exact ⟨_, (true), m55_, H', ⟨by first | omega | exact Nat.le_refl _⟩, m84_⟩
  rw [if_neg c4] at H
  have c4b0 : decide (a1 < 0) = false := decide_eq_false c4
  clear c4
  (first | rw [c4b0] | (simp only [i64_w, i32_w]; rw [c4b0]) | skip)
  have H' := Aside0.mk H
  clear H
  go_wp2
  go_meet
  case rel => exact ⟨_, (decide (a1 > (a0.size : Int))), m55_, H', ⟨by first | omega | exact Nat.le_refl _⟩, m84_⟩
 clear HC3
 obtain ⟨kq, x18_2, rfl, HA, HJ2, ⟨mc2, rfl⟩⟩ := hcut
 cases kq with
 | zero => exact absurd HA.out (by simp [strongroomref01_Get.j0])
 | succ kj2 =>
  have H := HA.out
  clear HA
  simp only [strongroomref01_Get.j0] at H
  by_cases c5 : x18_2 = true
  ·subst c5
   have H1 : (some (0, 0, 9)) = some (r1, r2, r3) := by rw [if_pos rfl] at H; exact H
   clear H
   have H := H1
   clear H1
   simp only [Option.some.injEq, Prod.mk.injEq] at H
   obtain ⟨rfl, rfl, rfl⟩ := H
   go_wp2
   go_ret3
   exact ⟨by first | rfl | (simp; done) | (simp [*]; done), m84_⟩
  replace c5 := Bool.eq_false_iff.mpr c5
  subst c5
  have H1 : (strongroomref01_Get.l0 kj2 a0 a1 0 1 0) = some (r1, r2, r3) := by rw [if_neg (show ¬ (false = true) by decide)] at H; exact H
  clear H
  have H := H1
  clear H1
  have H' := Aside0.mk H
  clear H
  go_wp2
  go_loopg [7, 8, 9] kj2 (fun kq v7 v8 v9 w' => ∃ (x7_2 : Int) (x8_2 : Int) (x9_2 : Int), v7 = .int .u64 x7_2 ∧ v8 = .int .u64 x8_2 ∧ v9 = .int .i64 x9_2 ∧ Aside0 (strongroomref01_Get.l0 kq a0 a1 x7_2 x8_2 x9_2 = some (r1, r2, r3)) ∧ Aside0 (kq ≤ kj2) ∧ Drawn0 w w')
  case atStart => exact ⟨(0), (1), (0), m55_, m55_, m55_, H', ⟨Nat.le_refl _⟩, m84_⟩
  clear H'
  try clear c5
  obtain ⟨x7_2, x8_2, x9_2, rfl, rfl, rfl, HA, HK2, ⟨m2, rfl⟩⟩ := hrel
  cases gk with
  | zero => exact absurd HA.out (by simp [strongroomref01_Get.l0])
  | succ k2 =>
   have H := HA.out
   clear HA
   simp only [strongroomref01_Get.l0] at H
   by_cases c6 : x9_2 < 10
   case neg =>
    rw [if_neg c6] at H
    have c6b0 : decide (x9_2 < 10) = false := decide_eq_false c6
    clear c6
    simp only [Option.some.injEq, Prod.mk.injEq] at H
    obtain ⟨rfl, rfl, rfl⟩ := H
    go_wp2
    go_ret3
    exact ⟨by first | rfl | (simp; done) | (simp [*]; done), m84_⟩
   rw [if_pos c6] at H
   have c6b0 : decide (x9_2 < 10) = true := decide_eq_true c6
   clear c6
   by_cases c7 : (wrap64 ((a0.size : Int) - a1)) = x9_2
   ·rw [if_pos c7] at H
    have c7b0 : ((wrap64 ((a0.size : Int) - a1)) == x9_2) = true := beq_iff_eq.mpr c7
    have c7b1 : ((wrap64 ((a0.size : Int) - a1)) != x9_2) = false := bne_eq_false_iff_eq.mpr c7
    clear c7
    simp only [Option.some.injEq, Prod.mk.injEq] at H
    obtain ⟨rfl, rfl, rfl⟩ := H
    go_wp2
    go_ret3
    exact ⟨by first | rfl | (simp; done) | (simp [*]; done), m84_⟩
   rw [if_neg c7] at H
   have c7b0 : ((wrap64 ((a0.size : Int) - a1)) == x9_2) = false := beq_eq_false_iff_ne.mpr c7
   have c7b1 : ((wrap64 ((a0.size : Int) - a1)) != x9_2) = true := bne_iff_ne.mpr c7
   obtain ⟨ji8, hji8⟩ : ∃ j_ : Int, (wrap64 (a1 + x9_2)) = j_ := ⟨_, rfl⟩
   replace H : (if 0 ≤ (ji8) then (if (ji8) < (a0.size : Int) then (if x9_2 = 9 then (strongroomref01_Get.j2 k2 a0 a1 x7_2 x8_2 x9_2 (IntKind.u64.wrap (bt a0 (ji8))) ((IntKind.u64.wrap (bt a0 (ji8))) != 1)) else (strongroomref01_Get.j2 k2 a0 a1 x7_2 x8_2 x9_2 (IntKind.u64.wrap (bt a0 (ji8))) false)) else (none)) else (none)) = some (r1, r2, r3) := by first | (rw [hji8] at H; exact H) | (simp only [hji8] at H ⊢; exact H)
   have hji8w : (IntKind.i64.wrap (a1 + x9_2)) = ji8 := (i64_w _).trans hji8
   by_cases c9 : 0 ≤ (ji8)
   case neg =>
    rw [if_neg c9] at H
    exact absurd H (by simp)
   rw [if_pos c9] at H
   have c9b0 : decide (0 ≤ (ji8)) = true := decide_eq_true c9
   clear c9
   by_cases c10 : (ji8) < (a0.size : Int)
   case neg =>
    rw [if_neg c10] at H
    exact absurd H (by simp)
   rw [if_pos c10] at H
   have c10b0 : decide ((ji8) < (a0.size : Int)) = true := decide_eq_true c10
   clear c10
   have HC12 := Aside0.mk H
   clear H
   have p11 : 0 ≤ ((ji8) : Int) := of_decide_eq_true m54_
   have q11 : (ji8) < (a0.size : Int) := of_decide_eq_true m54_
   have hx11 := bt_at a0 (ji8)
   replace p11 := eq_true p11
   replace q11 := eq_true q11
   go_upto_region 10 with (fail)
   go_cut [40] (fun v40 wc => ∃ (kq : Nat) (x40_11 : Bool), v40 = .bool x40_11 ∧ Aside0 (strongroomref01_Get.j2 kq a0 a1 x7_2 x8_2 x9_2 (IntKind.u64.wrap (bt a0 (ji8))) x40_11 = some (r1, r2, r3)) ∧ Aside0 (kq ≤ k2) ∧ Drawn0 w wc)
   case first =>
    have H := HC12.out
    clear HC12
    by_cases c13 : x9_2 = 9
    case neg =>
     rw [if_neg c13] at H
     have c13b0 : (x9_2 == 9) = false := beq_eq_false_iff_ne.mpr c13
     have c13b1 : (x9_2 != 9) = true := bne_iff_ne.mpr c13
     (first | rw [c13b0] | (simp only [i64_w, i32_w]; rw [c13b0]) | skip)
     have H' := Aside0.mk H
     clear H
     go_wp2
     go_meet
     case rel => exact ⟨_, (false), m55_, H', ⟨by have := HJ2.out; have := HK2.out; first | omega | exact Nat.le_refl _⟩, m84_⟩
    rw [if_pos c13] at H
    have c13b0 : (x9_2 == 9) = true := beq_iff_eq.mpr c13
    have c13b1 : (x9_2 != 9) = false := bne_eq_false_iff_eq.mpr c13
    clear c13
    (first | rw [c13b0] | (simp only [i64_w, i32_w]; rw [c13b0]) | skip)
    have H' := Aside0.mk H
    clear H
    go_wp2
    go_meet
    case rel => exact ⟨_, (((IntKind.u64.wrap (bt a0 (ji8))) != 1)), (by first | rfl | (simp; done) | (simp only [← hji8] <;> (first | rfl | simp)) | (simp [*]; done)), H', ⟨by have := HJ2.out; have := HK2.out; first | omega | exact Nat.le_refl _⟩, m84_⟩
   clear HC12
   try clear c6b0; try clear c7; try clear c7b0; try clear c7b1; try clear c9b0; try clear c10b0; try clear p11; try clear q11; try clear hx11; try clear p11; try clear q11
   obtain ⟨kq, x40_11, rfl, HA, HJ11, ⟨mc11, rfl⟩⟩ := hcut
   cases kq with
   | zero => exact absurd HA.out (by simp [strongroomref01_Get.j2])
   | succ kj11 =>
    have H := HA.out
    clear HA
    simp only [strongroomref01_Get.j2] at H
    by_cases c14 : x40_11 = true
    ·subst c14
     have H1 : (some (0, 0, 4)) = some (r1, r2, r3) := by rw [if_pos rfl] at H; exact H
     clear H
     have H := H1
     clear H1
     simp only [Option.some.injEq, Prod.mk.injEq] at H
     obtain ⟨rfl, rfl, rfl⟩ := H
     go_wp2
     go_ret3
     exact ⟨by first | rfl | (simp; done) | (simp only [← hji8] <;> (first | rfl | simp)) | (simp [*]; done), m84_⟩
    replace c14 := Bool.eq_false_iff.mpr c14
    subst c14
    have H1 : (if (IntKind.u64.wrap (bt a0 (ji8))) < 128 then (if (IntKind.u64.wrap (bt a0 (ji8))) = 0 then (if x9_2 > 0 then (some (0, 0, 4)) else (some (IntKind.u64.wrap (x7_2 + (IntKind.u64.wrap ((Int.tmod (IntKind.u64.wrap (bt a0 (ji8))) 128) * x8_2))), wrap64 ((wrap64 (a1 + x9_2)) + 1), 0))) else (some (IntKind.u64.wrap (x7_2 + (IntKind.u64.wrap ((Int.tmod (IntKind.u64.wrap (bt a0 (ji8))) 128) * x8_2))), wrap64 ((wrap64 (a1 + x9_2)) + 1), 0))) else (strongroomref01_Get.l0 kj11 a0 a1 (IntKind.u64.wrap (x7_2 + (IntKind.u64.wrap ((Int.tmod (IntKind.u64.wrap (bt a0 (ji8))) 128) * x8_2)))) (IntKind.u64.wrap (x8_2 * 128)) (wrap64 (x9_2 + 1)))) = some (r1, r2, r3) := by rw [if_neg (show ¬ (false = true) by decide)] at H; exact H
    clear H
    have H := H1
    clear H1
    by_cases c15 : (IntKind.u64.wrap (bt a0 (ji8))) < 128
    case neg =>
     rw [if_neg c15] at H
     have c15b0 : decide ((IntKind.u64.wrap (bt a0 (ji8))) < 128) = false := decide_eq_false c15
     clear c15
     have H' := Aside0.mk H
     clear H
     go_wp2
     go_roundg kj11
     case measure => have := HJ2.out; have := HK2.out; have := HJ11.out; omega
     case rel => exact ⟨(IntKind.u64.wrap (x7_2 + (IntKind.u64.wrap ((Int.tmod (IntKind.u64.wrap (bt a0 (ji8))) 128) * x8_2)))), (IntKind.u64.wrap (x8_2 * 128)), (wrap64 (x9_2 + 1)), (by first | rfl | (simp; done) | (simp only [← hji8] <;> (first | rfl | simp)) | (simp [*]; done)), m55_, m55_, H', ⟨by have := HJ2.out; have := HK2.out; have := HJ11.out; omega⟩, m84_⟩
    rw [if_pos c15] at H
    have c15b0 : decide ((IntKind.u64.wrap (bt a0 (ji8))) < 128) = true := decide_eq_true c15
    clear c15
    by_cases c16 : (IntKind.u64.wrap (bt a0 (ji8))) = 0
    case neg =>
     rw [if_neg c16] at H
     have c16b0 : ((IntKind.u64.wrap (bt a0 (ji8))) == 0) = false := beq_eq_false_iff_ne.mpr c16
     have c16b1 : ((IntKind.u64.wrap (bt a0 (ji8))) != 0) = true := bne_iff_ne.mpr c16
     simp only [Option.some.injEq, Prod.mk.injEq] at H
     obtain ⟨rfl, rfl, rfl⟩ := H
     go_wp2
     go_ret3
     exact ⟨by first | rfl | (simp; done) | (simp only [← hji8] <;> (first | rfl | simp)) | (simp [*]; done), m84_⟩
    rw [if_pos c16] at H
    have c16b0 : ((IntKind.u64.wrap (bt a0 (ji8))) == 0) = true := beq_iff_eq.mpr c16
    have c16b1 : ((IntKind.u64.wrap (bt a0 (ji8))) != 0) = false := bne_eq_false_iff_eq.mpr c16
    clear c16
    by_cases c17 : x9_2 > 0
    ·rw [if_pos c17] at H
     have c17b0 : decide (0 < x9_2) = true := decide_eq_true c17
     clear c17
     simp only [Option.some.injEq, Prod.mk.injEq] at H
     obtain ⟨rfl, rfl, rfl⟩ := H
     go_wp2
     go_ret3
     exact ⟨by first | rfl | (simp; done) | (simp only [← hji8] <;> (first | rfl | simp)) | (simp [*]; done), m84_⟩
    rw [if_neg c17] at H
    have c17b0 : decide (0 < x9_2) = false := decide_eq_false c17
    clear c17
    simp only [Option.some.injEq, Prod.mk.injEq] at H
    obtain ⟨rfl, rfl, rfl⟩ := H
    go_wp2
    go_ret3
    exact ⟨by first | rfl | (simp; done) | (simp only [← hji8] <;> (first | rfl | simp)) | (simp [*]; done), m84_⟩

/-! ### strongroomref12_number: function 49 -/
def strongroomref12_number.f (k : Nat) (a0 : ByteArray) (a1 : Int) : Option (Int × Int × Int) := (strongroomref01_Get.f k a0 a1).bind fun bt280 => (if bt280.1 > 4611686018427387904 then (some (4611686018427387904, bt280.2.1, bt280.2.2)) else (some (wrap64 (bt280.1), bt280.2.1, bt280.2.2)))
theorem strongroomref12_number.mono : ∀ a0 a1 k, LeO (strongroomref12_number.f k a0 a1) (strongroomref12_number.f (k + 1) a0 a1) := by
 intro a0 a1 k
 unfold strongroomref12_number.f
 repeat' first
   | (with_reducible exact strongroomref01_Get.mono _ _ _)
   | (with_reducible exact LeO.refl _)
   | (with_reducible exact LeO.none _)
   | (with_reducible refine LeO.ite ?_ ?_)
   | (with_reducible refine LeO.bind ?_ (fun _ => ?_))
   | exact strongroomref01_Get.mono _ _ _
   | exact LeO.none _
   | refine LeO.ite ?_ ?_
   | refine LeO.bind ?_ (fun _ => ?_)
set_option maxHeartbeats 8000000 in
set_option maxRecDepth 100000 in
theorem strongroomref12_number.calls (k : Nat) (a0 : ByteArray) (a1 : Int) (r1 : Int) (r2 : Int) (r3 : Int) (w : World) (h : strongroomref12_number.f k a0 a1 = some (r1, r2, r3)) :
  Calls Tryd.prog 49 #[.string a0, .int .i64 a1] w fun e w' => e = .returned (.tuple #[.int .i64 r1, .int .i64 r2, .int .i64 r3]) ∧ Drawn0 w w' := by
 have H : ((strongroomref01_Get.f k a0 a1).bind fun bt280 => (if bt280.1 > 4611686018427387904 then (some (4611686018427387904, bt280.2.1, bt280.2.2)) else (some (wrap64 (bt280.1), bt280.2.1, bt280.2.2)))) = some (r1, r2, r3) := h
 clear h
 replace H := Option.bind_eq_some_iff.mp H
 obtain ⟨⟨t280, t281, t282⟩, A30, H⟩ := H
 replace H : (if t280 > 4611686018427387904 then (some (4611686018427387904, t281, t282)) else (some (wrap64 (t280), t281, t282))) = some (r1, r2, r3) := H
 have A3 := Aside0.mk A30
 clear A30
 by_cases c4 : t280 > 4611686018427387904
 ·rw [if_pos c4] at H
  have c4b0 : decide (4611686018427387904 < t280) = true := decide_eq_true c4
  clear c4
  simp only [Option.some.injEq, Prod.mk.injEq] at H
  obtain ⟨rfl, rfl, rfl⟩ := H
  go_enter Tryd.func49, Tryd.ntmps49
  go_wp2_with (first | ((with_reducible refine gate_callee (f := 67) rfl ?_); refine goesL_ (some 13) rfl rfl Tryd.func67 (by kernel_rfl) rfl #[.string a0, .int .i64 a1] rfl m30_ ?_; (with_reducible refine (strongroomref01_Get.calls k a0 a1 t280 t281 t282 _ A3.out).mono ?_); rintro e w' ⟨rfl, ⟨nd, rfl⟩⟩; refine ⟨_, rfl, ?_⟩))
  go_ret3
  exact ⟨by first | rfl | (simp; done) | (simp [*]; done), m84_⟩
 rw [if_neg c4] at H
 have c4b0 : decide (4611686018427387904 < t280) = false := decide_eq_false c4
 clear c4
 simp only [Option.some.injEq, Prod.mk.injEq] at H
 obtain ⟨rfl, rfl, rfl⟩ := H
 go_enter Tryd.func49, Tryd.ntmps49
 go_wp2_with (first | ((with_reducible refine gate_callee (f := 67) rfl ?_); refine goesL_ (some 13) rfl rfl Tryd.func67 (by kernel_rfl) rfl #[.string a0, .int .i64 a1] rfl m30_ ?_; (with_reducible refine (strongroomref01_Get.calls k a0 a1 t280 t281 t282 _ A3.out).mono ?_); rintro e w' ⟨rfl, ⟨nd, rfl⟩⟩; refine ⟨_, rfl, ?_⟩))
 go_ret3
 exact ⟨by first | rfl | (simp; done) | (simp [*]; done), m84_⟩

/-! ### strongroomref01_GetText: function 50 -/
def strongroomref01_GetText.j0 : Nat → ByteArray → Int → Int → Int → Option (ByteArray × Int × Int)
 | 0, _, _, _, _ => none
 | k + 1, x0, x2, x9, x10 => if x9 > (IntKind.u64.wrap (x2)) then (some ((⟨#[]⟩ : ByteArray), 0, 2)) else (if x9 > (IntKind.u64.wrap (wrap64 ((x0.size : Int) - x10))) then (some ((⟨#[]⟩ : ByteArray), 0, 3)) else (if 0 ≤ x10 then (if x10 ≤ (wrap64 (x10 + (wrap64 (x9)))) then (if (wrap64 (x10 + (wrap64 (x9)))) ≤ (x0.size : Int) then (some (x0.extract (x10 : Int).toNat ((wrap64 (x10 + (wrap64 (x9)))) : Int).toNat, wrap64 (x10 + (wrap64 (x9))), 0)) else (none)) else (none)) else (none)))
def strongroomref01_GetText.f (k : Nat) (a0 : ByteArray) (a1 : Int) (a2 : Int) : Option (ByteArray × Int × Int) := (strongroomref01_Get.f k a0 a1).bind fun bt283 => (if bt283.2.2 = 0 then (if a2 < 0 then (strongroomref01_GetText.j0 k a0 0 bt283.1 bt283.2.1) else (strongroomref01_GetText.j0 k a0 a2 bt283.1 bt283.2.1)) else (some ((⟨#[]⟩ : ByteArray), 0, bt283.2.2)))
theorem strongroomref01_GetText.mono_l : ∀ k, (∀ y0 y1 y2 y3, LeO (strongroomref01_GetText.j0 k y0 y1 y2 y3) (strongroomref01_GetText.j0 (k + 1) y0 y1 y2 y3))
 | 0 => fun _ _ _ _ r h => by simp [strongroomref01_GetText.j0] at h
 | k + 1 => by
  have ih0 := strongroomref01_GetText.mono_l k
  ·intro y0 y1 y2 y3
   unfold strongroomref01_GetText.j0
   repeat' first
   | (with_reducible exact ih0 _ _ _ _)
   | (with_reducible exact strongroomref01_Get.mono _ _ _)
   | (with_reducible exact LeO.refl _)
   | (with_reducible exact LeO.none _)
   | (with_reducible refine LeO.ite ?_ ?_)
   | (with_reducible refine LeO.bind ?_ (fun _ => ?_))
   | exact ih0 _ _ _ _
   | exact strongroomref01_Get.mono _ _ _
   | exact LeO.none _
   | refine LeO.ite ?_ ?_
   | refine LeO.bind ?_ (fun _ => ?_)
theorem strongroomref01_GetText.mono : ∀ a0 a1 a2 k, LeO (strongroomref01_GetText.f k a0 a1 a2) (strongroomref01_GetText.f (k + 1) a0 a1 a2) := by
 intro a0 a1 a2 k
 have ih0 := strongroomref01_GetText.mono_l k
 unfold strongroomref01_GetText.f
 repeat' first
   | (with_reducible exact ih0 _ _ _ _)
   | (with_reducible exact strongroomref01_Get.mono _ _ _)
   | (with_reducible exact LeO.refl _)
   | (with_reducible exact LeO.none _)
   | (with_reducible refine LeO.ite ?_ ?_)
   | (with_reducible refine LeO.bind ?_ (fun _ => ?_))
   | exact ih0 _ _ _ _
   | exact strongroomref01_Get.mono _ _ _
   | exact LeO.none _
   | refine LeO.ite ?_ ?_
   | refine LeO.bind ?_ (fun _ => ?_)
set_option maxHeartbeats 8000000 in
set_option maxRecDepth 100000 in
theorem strongroomref01_GetText.calls (k : Nat) (a0 : ByteArray) (a1 : Int) (a2 : Int) (r1 : ByteArray) (r2 : Int) (r3 : Int) (w : World) (h : strongroomref01_GetText.f k a0 a1 a2 = some (r1, r2, r3)) :
  Calls Tryd.prog 50 #[.string a0, .int .i64 a1, .int .i64 a2] w fun e w' => e = .returned (.tuple #[.string r1, .int .i64 r2, .int .i64 r3]) ∧ Drawn0 w w' := by
 have H : ((strongroomref01_Get.f k a0 a1).bind fun bt283 => (if bt283.2.2 = 0 then (if a2 < 0 then (strongroomref01_GetText.j0 k a0 0 bt283.1 bt283.2.1) else (strongroomref01_GetText.j0 k a0 a2 bt283.1 bt283.2.1)) else (some ((⟨#[]⟩ : ByteArray), 0, bt283.2.2)))) = some (r1, r2, r3) := h
 clear h
 replace H := Option.bind_eq_some_iff.mp H
 obtain ⟨⟨t283, t284, t285⟩, A40, H⟩ := H
 replace H : (if t285 = 0 then (if a2 < 0 then (strongroomref01_GetText.j0 k a0 0 t283 t284) else (strongroomref01_GetText.j0 k a0 a2 t283 t284)) else (some ((⟨#[]⟩ : ByteArray), 0, t285))) = some (r1, r2, r3) := H
 have A4 := Aside0.mk A40
 clear A40
 by_cases c5 : t285 = 0
 case neg =>
  rw [if_neg c5] at H
  have c5b0 : (t285 == 0) = false := beq_eq_false_iff_ne.mpr c5
  have c5b1 : (t285 != 0) = true := bne_iff_ne.mpr c5
  simp only [Option.some.injEq, Prod.mk.injEq] at H
  obtain ⟨rfl, rfl, rfl⟩ := H
  go_enter Tryd.func50, Tryd.ntmps50
  go_wp2_with (first | ((with_reducible refine gate_callee (f := 67) rfl ?_); refine goesL_ (some 15) rfl rfl Tryd.func67 (by kernel_rfl) rfl #[.string a0, .int .i64 a1] rfl m30_ ?_; (with_reducible refine (strongroomref01_Get.calls k a0 a1 t283 t284 t285 _ A4.out).mono ?_); rintro e w' ⟨rfl, ⟨nd, rfl⟩⟩; refine ⟨_, rfl, ?_⟩))
  go_ret3
  exact ⟨by first | rfl | (simp; done) | (simp [*]; done), m84_⟩
 rw [if_pos c5] at H
 have c5b0 : (t285 == 0) = true := beq_iff_eq.mpr c5
 have c5b1 : (t285 != 0) = false := bne_eq_false_iff_eq.mpr c5
 clear c5
 have HC6 := Aside0.mk H
 clear H
 go_enter Tryd.func50, Tryd.ntmps50
 go_upto_if 23 with (first | ((with_reducible refine gate_callee (f := 67) rfl ?_); refine goesL_ (some 15) rfl rfl Tryd.func67 (by kernel_rfl) rfl #[.string a0, .int .i64 a1] rfl m30_ ?_; (with_reducible refine (strongroomref01_Get.calls k a0 a1 t283 t284 t285 _ A4.out).mono ?_); rintro e w' ⟨rfl, ⟨nd, rfl⟩⟩; refine ⟨_, rfl, ?_⟩))
 (try simp only [Act.put, List.setIfInBounds_toArray, List.set_cons_zero, List.set_cons_succ])
 go_cut [2] (fun v2 wc => ∃ (kq : Nat) (x2_5 : Int), v2 = .int .i64 x2_5 ∧ Aside0 (strongroomref01_GetText.j0 kq a0 x2_5 t283 t284 = some (r1, r2, r3)) ∧ Aside0 (kq ≤ k) ∧ Drawn0 w wc)
 case first =>
  have H := HC6.out
  clear HC6
  by_cases c7 : a2 < 0
  ·rw [if_pos c7] at H
   have c7b0 : decide (a2 < 0) = true := decide_eq_true c7
   clear c7
   (first | rw [c7b0] | (simp only [i64_w, i32_w]; rw [c7b0]) | skip)
   have H' := Aside0.mk H
   clear H
   go_wp2
   go_meet
   case rel => exact ⟨_, (0), m55_, H', ⟨by first | omega | exact Nat.le_refl _⟩, m84_⟩
  rw [if_neg c7] at H
  have c7b0 : decide (a2 < 0) = false := decide_eq_false c7
  clear c7
  (first | rw [c7b0] | (simp only [i64_w, i32_w]; rw [c7b0]) | skip)
  have H' := Aside0.mk H
  clear H
  go_wp2
  go_meet
  case rel => exact ⟨_, (a2), m55_, H', ⟨by first | omega | exact Nat.le_refl _⟩, m84_⟩
 clear HC6
 try clear c5b0; try clear c5b1
 obtain ⟨kq, x2_5, rfl, HA, HJ5, ⟨mc5, rfl⟩⟩ := hcut
 cases kq with
 | zero => exact absurd HA.out (by simp [strongroomref01_GetText.j0])
 | succ kj5 =>
  have H := HA.out
  clear HA
  simp only [strongroomref01_GetText.j0] at H
  by_cases c8 : t283 > (IntKind.u64.wrap (x2_5))
  ·rw [if_pos c8] at H
   have c8b0 : decide ((IntKind.u64.wrap (x2_5)) < t283) = true := decide_eq_true c8
   clear c8
   simp only [Option.some.injEq, Prod.mk.injEq] at H
   obtain ⟨rfl, rfl, rfl⟩ := H
   go_wp2
   go_ret3
   exact ⟨by first | rfl | (simp; done) | (simp [*]; done), m84_⟩
  rw [if_neg c8] at H
  have c8b0 : decide ((IntKind.u64.wrap (x2_5)) < t283) = false := decide_eq_false c8
  clear c8
  by_cases c9 : t283 > (IntKind.u64.wrap (wrap64 ((a0.size : Int) - t284)))
  ·rw [if_pos c9] at H
   have c9b0 : decide ((IntKind.u64.wrap (wrap64 ((a0.size : Int) - t284))) < t283) = true := decide_eq_true c9
   clear c9
   simp only [Option.some.injEq, Prod.mk.injEq] at H
   obtain ⟨rfl, rfl, rfl⟩ := H
   go_wp2
   go_ret3
   exact ⟨by first | rfl | (simp; done) | (simp [*]; done), m84_⟩
  rw [if_neg c9] at H
  have c9b0 : decide ((IntKind.u64.wrap (wrap64 ((a0.size : Int) - t284))) < t283) = false := decide_eq_false c9
  clear c9
  by_cases c10 : 0 ≤ t284
  case neg =>
   rw [if_neg c10] at H
   exact absurd H (by simp)
  rw [if_pos c10] at H
  have c10b0 := eq_true c10
  have c10b1 : decide (0 ≤ t284) = true := decide_eq_true c10
  clear c10
  by_cases c11 : t284 ≤ (wrap64 (t284 + (wrap64 (t283))))
  case neg =>
   rw [if_neg c11] at H
   exact absurd H (by simp)
  rw [if_pos c11] at H
  have c11b0 := eq_true c11
  have c11b1 : decide (t284 ≤ (wrap64 (t284 + (wrap64 (t283))))) = true := decide_eq_true c11
  by_cases c12 : (wrap64 (t284 + (wrap64 (t283)))) ≤ (a0.size : Int)
  case neg =>
   rw [if_neg c12] at H
   exact absurd H (by simp)
  rw [if_pos c12] at H
  have c12b0 := eq_true c12
  have c12b1 : decide ((wrap64 (t284 + (wrap64 (t283)))) ≤ (a0.size : Int)) = true := decide_eq_true c12
  simp only [Option.some.injEq, Prod.mk.injEq] at H
  obtain ⟨rfl, rfl, rfl⟩ := H
  go_wp2
  go_ret3
  exact ⟨by first | rfl | (simp; done) | (simp [*]; done), m84_⟩

/-! ### strongroomref12_Decode: function 27 -/
def strongroomref12_Decode.l0 : Nat → ByteArray → Int → Int → Int → Int → Int → ByteArray → Int → Int → List (S35) → ByteArray → Option (Int × Int × (List (S35)) × ByteArray × Int × Int)
 | 0, _, _, _, _, _, _, _, _, _, _, _ => none
 | k + 1, x0, x1, x11, x13, x288000, x288001, x288003, x298000, x298001, x298002, x298003 => if x13 < x11 then ((strongroomref01_GetText.f k x0 x1 32).bind fun bt298 => (if bt298.2.2 = 0 then ((strongroomref12_number.f k x0 bt298.2.1).bind fun bt301 => (if bt301.2.2 = 0 then ((strongroomref12_number.f k x0 bt301.2.1).bind fun bt304 => (if bt304.2.2 = 0 then (if x298002.length < 4398046511104 then (strongroomref12_Decode.l0 k x0 bt304.2.1 x11 (wrap64 (x13 + 1)) x288000 x288001 x288003 x298000 x298001 (x298002 ++ [(⟨bt298.1, bt301.1, bt304.1⟩ : S35)]) x298003) else (none)) else (some (x288000, x288001, ([] : List (S35)), x288003, 0, bt304.2.2)))) else (some (x288000, x288001, ([] : List (S35)), x288003, 0, bt301.2.2)))) else (some (x288000, x288001, ([] : List (S35)), x288003, 0, bt298.2.2)))) else ((strongroomref01_GetText.f k x0 x1 32).bind fun bt310 => (if bt310.2.2 = 0 then ((strongroomref12_May.f k x298000 x298001 x298002 bt310.1).bind fun t313 => (if t313 = true then (some (x298000, x298001, x298002, bt310.1, bt310.2.1, 0)) else (some (x288000, x288001, ([] : List (S35)), x288003, 0, 4)))) else (some (x288000, x288001, ([] : List (S35)), x288003, 0, bt310.2.2))))
def strongroomref12_Decode.f (k : Nat) (a0 : ByteArray) (a1 : Int) : Option (Int × Int × (List (S35)) × ByteArray × Int × Int) := (strongroomref12_number.f k a0 a1).bind fun bt288 => (if bt288.2.2 = 0 then ((strongroomref12_number.f k a0 bt288.2.1).bind fun bt291 => (if bt291.2.2 = 0 then ((strongroomref12_number.f k a0 bt291.2.1).bind fun bt294 => (if bt294.2.2 = 0 then (if bt294.1 > 8 then (some (0, 0, ([] : List (S35)), (⟨#[]⟩ : ByteArray), 0, 4)) else (strongroomref12_Decode.l0 k a0 bt294.2.1 bt294.1 0 0 0 (⟨#[]⟩ : ByteArray) bt288.1 bt291.1 ([] : List (S35)) (⟨#[]⟩ : ByteArray))) else (some (0, 0, ([] : List (S35)), (⟨#[]⟩ : ByteArray), 0, bt294.2.2)))) else (some (0, 0, ([] : List (S35)), (⟨#[]⟩ : ByteArray), 0, bt291.2.2)))) else (some (0, 0, ([] : List (S35)), (⟨#[]⟩ : ByteArray), 0, bt288.2.2)))
theorem strongroomref12_Decode.mono_l : ∀ k, (∀ y0 y1 y2 y3 y4 y5 y6 y7 y8 y9 y10, LeO (strongroomref12_Decode.l0 k y0 y1 y2 y3 y4 y5 y6 y7 y8 y9 y10) (strongroomref12_Decode.l0 (k + 1) y0 y1 y2 y3 y4 y5 y6 y7 y8 y9 y10))
 | 0 => fun _ _ _ _ _ _ _ _ _ _ _ r h => by simp [strongroomref12_Decode.l0] at h
 | k + 1 => by
  have ih0 := strongroomref12_Decode.mono_l k
  ·intro y0 y1 y2 y3 y4 y5 y6 y7 y8 y9 y10
   unfold strongroomref12_Decode.l0
   repeat' first
   | (with_reducible exact ih0 _ _ _ _ _ _ _ _ _ _ _)
   | (with_reducible exact strongroomref01_GetText.mono _ _ _ _)
   | (with_reducible exact strongroomref12_May.mono _ _ _ _ _)
   | (with_reducible exact strongroomref12_number.mono _ _ _)
   | (with_reducible exact LeO.refl _)
   | (with_reducible exact LeO.none _)
   | (with_reducible refine LeO.ite ?_ ?_)
   | (with_reducible refine LeO.bind ?_ (fun _ => ?_))
   | exact ih0 _ _ _ _ _ _ _ _ _ _ _
   | exact strongroomref01_GetText.mono _ _ _ _
   | exact strongroomref12_May.mono _ _ _ _ _
   | exact strongroomref12_number.mono _ _ _
   | exact LeO.none _
   | refine LeO.ite ?_ ?_
   | refine LeO.bind ?_ (fun _ => ?_)
theorem strongroomref12_Decode.mono : ∀ a0 a1 k, LeO (strongroomref12_Decode.f k a0 a1) (strongroomref12_Decode.f (k + 1) a0 a1) := by
 intro a0 a1 k
 have ih0 := strongroomref12_Decode.mono_l k
 unfold strongroomref12_Decode.f
 repeat' first
   | (with_reducible exact ih0 _ _ _ _ _ _ _ _ _ _ _)
   | (with_reducible exact strongroomref01_GetText.mono _ _ _ _)
   | (with_reducible exact strongroomref12_May.mono _ _ _ _ _)
   | (with_reducible exact strongroomref12_number.mono _ _ _)
   | (with_reducible exact LeO.refl _)
   | (with_reducible exact LeO.none _)
   | (with_reducible refine LeO.ite ?_ ?_)
   | (with_reducible refine LeO.bind ?_ (fun _ => ?_))
   | exact ih0 _ _ _ _ _ _ _ _ _ _ _
   | exact strongroomref01_GetText.mono _ _ _ _
   | exact strongroomref12_May.mono _ _ _ _ _
   | exact strongroomref12_number.mono _ _ _
   | exact LeO.none _
   | refine LeO.ite ?_ ?_
   | refine LeO.bind ?_ (fun _ => ?_)
set_option maxHeartbeats 8000000 in
set_option maxRecDepth 100000 in
theorem strongroomref12_Decode.calls (k : Nat) (a0 : ByteArray) (a1 : Int) (r1 : Int) (r2 : Int) (r3 : List (S35)) (r4 : ByteArray) (r5 : Int) (r6 : Int) (w : World) (h : strongroomref12_Decode.f k a0 a1 = some (r1, r2, r3, r4, r5, r6)) :
  Calls Tryd.prog 27 #[.string a0, .int .i64 a1] w fun e w' => ∃ v2_ : Value, e = .returned (.tuple #[.agg #[.int .i64 r1, .int .i64 r2, v2_, .string r4], .int .i64 r5, .int .i64 r6]) ∧ Kd.R k35 35 w' w.heap.size (fun _ => True) v2_ r3 ∧ Below w.heap.size w w' := by
 have hu25 := Tryd.underlying25
 have hu35 := Tryd.underlying35
 have HB := Aside0.mk (Below.refl w.heap.size w)
 have H : ((strongroomref12_number.f k a0 a1).bind fun bt288 => (if bt288.2.2 = 0 then ((strongroomref12_number.f k a0 bt288.2.1).bind fun bt291 => (if bt291.2.2 = 0 then ((strongroomref12_number.f k a0 bt291.2.1).bind fun bt294 => (if bt294.2.2 = 0 then (if bt294.1 > 8 then (some (0, 0, ([] : List (S35)), (⟨#[]⟩ : ByteArray), 0, 4)) else (strongroomref12_Decode.l0 k a0 bt294.2.1 bt294.1 0 0 0 (⟨#[]⟩ : ByteArray) bt288.1 bt291.1 ([] : List (S35)) (⟨#[]⟩ : ByteArray))) else (some (0, 0, ([] : List (S35)), (⟨#[]⟩ : ByteArray), 0, bt294.2.2)))) else (some (0, 0, ([] : List (S35)), (⟨#[]⟩ : ByteArray), 0, bt291.2.2)))) else (some (0, 0, ([] : List (S35)), (⟨#[]⟩ : ByteArray), 0, bt288.2.2)))) = some (r1, r2, r3, r4, r5, r6) := h
 clear h
 replace H := Option.bind_eq_some_iff.mp H
 obtain ⟨⟨t288, t289, t290⟩, A30, H⟩ := H
 replace H : (if t290 = 0 then ((strongroomref12_number.f k a0 t289).bind fun bt291 => (if bt291.2.2 = 0 then ((strongroomref12_number.f k a0 bt291.2.1).bind fun bt294 => (if bt294.2.2 = 0 then (if bt294.1 > 8 then (some (0, 0, ([] : List (S35)), (⟨#[]⟩ : ByteArray), 0, 4)) else (strongroomref12_Decode.l0 k a0 bt294.2.1 bt294.1 0 0 0 (⟨#[]⟩ : ByteArray) t288 bt291.1 ([] : List (S35)) (⟨#[]⟩ : ByteArray))) else (some (0, 0, ([] : List (S35)), (⟨#[]⟩ : ByteArray), 0, bt294.2.2)))) else (some (0, 0, ([] : List (S35)), (⟨#[]⟩ : ByteArray), 0, bt291.2.2)))) else (some (0, 0, ([] : List (S35)), (⟨#[]⟩ : ByteArray), 0, t290))) = some (r1, r2, r3, r4, r5, r6) := H
 have A3 := Aside0.mk A30
 clear A30
 by_cases c4 : t290 = 0
 case neg =>
  rw [if_neg c4] at H
  have c4b0 : (t290 == 0) = false := beq_eq_false_iff_ne.mpr c4
  have c4b1 : (t290 != 0) = true := bne_iff_ne.mpr c4
  simp only [Option.some.injEq, Prod.mk.injEq] at H
  obtain ⟨rfl, rfl, rfl, rfl, rfl, rfl⟩ := H
  go_enter Tryd.func27, Tryd.ntmps27
  go_wp2_with (first | ((with_reducible refine gate_dst (N := 4) rfl ?_); refine box_event ?hg (N := 4) ?hd (cs := #[.int .i64 0, .int .i64 0, .slice none 0 0, .string (⟨#[]⟩ : ByteArray)]) (t := 25) ?hr ?_; (case hd => rfl); (case hg => rfl); (case hr => first | (go_simp; done) | (go_simp; rfl)); intro gb286 hg w87 hbox hb; have n0_ := Aside0.mk (below_step m31_ hb); have n1_ := Aside0.mk (hbox); have n2_ := Aside0.mk ((by rw [hg]; exact (below_size m31_) : w.heap.size ≤ gb286)); have n3_ := Aside0.mk ((by rw [hg]; exact (below_size m31_) : w.heap.size ≤ gb286)); clear HB; have HB := n0_; have BK286 := n1_; have GW286 := n2_; have GE286 := n3_; clear n0_ n1_ n2_ n3_; clear hb hbox hg) | ((with_reducible refine gate_dst (N := 7) rfl ?_); refine box_event ?hg (N := 7) ?hd (cs := #[.int .i64 0, .int .i64 0, .slice none 0 0, .string (⟨#[]⟩ : ByteArray)]) (t := 25) ?hr ?_; (case hd => rfl); (case hg => rfl); (case hr => first | (go_simp; done) | (go_simp; rfl)); intro gb287 hg w88 hbox hb; have n0_ := Aside0.mk (blk_below (g := gb286) (o := .cells #[.int .i64 0, .int .i64 0, .slice none 0 0, .string (⟨#[]⟩ : ByteArray)] 25 (0, 0)) m33_ hb); have n1_ := Aside0.mk (below_step m19_ hb); have n2_ := Aside0.mk (hbox); have n3_ := Aside0.mk ((by rw [hg]; exact (below_size m19_) : w.heap.size ≤ gb287)); have n4_ := Aside0.mk ((by rw [hg]; exact (below_size m19_) : w.heap.size ≤ gb287)); have n5_ := Aside0.mk ((by rw [hg]; exact Nat.ne_of_lt (blk_lt (g := gb286) (o := .cells #[.int .i64 0, .int .i64 0, .slice none 0 0, .string (⟨#[]⟩ : ByteArray)] 25 (0, 0)) m33_) : gb286 ≠ gb287)); have n6_ := Aside0.mk ((by rw [hg]; exact Nat.ne_of_gt (blk_lt (g := gb286) (o := .cells #[.int .i64 0, .int .i64 0, .slice none 0 0, .string (⟨#[]⟩ : ByteArray)] 25 (0, 0)) m33_) : gb287 ≠ gb286)); clear BK286; clear HB; have BK286 := n0_; have HB := n1_; have BK287 := n2_; have GW287 := n3_; have GE287 := n4_; have NB286_287 := n5_; have NB287_286 := n6_; clear n0_ n1_ n2_ n3_ n4_ n5_ n6_; clear hb hbox hg; have hnb89 := NB287_286.out; have hnc89 := NB286_287.out; obtain ⟨hcz90_0, hcz90_1, hcz90_2, hcz90_3⟩ := bc4_ BK287.out; obtain ⟨hfz90_0, hfz90_1, hfz90_2, hfz90_3⟩ := bf4_ BK287.out) | ((with_reducible refine gate_callee (f := 49) rfl ?_); refine goesL_ (some 28) rfl rfl Tryd.func49 (by kernel_rfl) rfl #[.string a0, .int .i64 a1] rfl m30_ ?_; (with_reducible refine (strongroomref12_number.calls k a0 a1 t288 t289 t290 _ A3.out).mono ?_); rintro e w' ⟨rfl, ⟨nd, rfl⟩⟩; refine ⟨_, rfl, ?_⟩; obtain ⟨hcz91_0, hcz91_1, hcz91_2, hcz91_3⟩ := bc4_ BK286.out; obtain ⟨hfz91_0, hfz91_1, hfz91_2, hfz91_3⟩ := bf4_ BK286.out))
  refine bodyPost_ret (results_ctt rfl _ _ gb286 25 #[.int .i64 0, .int .i64 0, .slice none 0 0, .string (⟨#[]⟩ : ByteArray)] (0, 0) _ rfl (by refine bD_ ?_; refine blk_put (cs := #[.int .i64 0, .int .i64 0, .slice none 0 0, .string (⟨#[]⟩ : ByteArray)]) ?_ 3 _ rfl; refine bD_ ?_; refine blk_put (cs := #[.int .i64 0, .int .i64 0, .slice none 0 0, .string (⟨#[]⟩ : ByteArray)]) ?_ 2 _ rfl; refine bD_ ?_; refine blk_put (cs := #[.int .i64 0, .int .i64 0, .slice none 0 0, .string (⟨#[]⟩ : ByteArray)]) ?_ 1 _ rfl; refine bD_ ?_; refine blk_put (cs := #[.int .i64 0, .int .i64 0, .slice none 0 0, .string (⟨#[]⟩ : ByteArray)]) ?_ 0 _ rfl; refine bD_ ?_; refine blk_far ?_ NB286_287.out _; refine bD_ ?_; refine blk_far ?_ NB286_287.out _; refine bD_ ?_; refine blk_far ?_ NB286_287.out _; refine bD_ ?_; refine blk_far ?_ NB286_287.out _; refine bD_ ?_; exact BK286.out) Tryd.underlying25 rfl (by kernel_rfl)) rfl ?_
  exact ⟨_, by first | rfl | (simp [errW_none, errW_some] <;> rfl) | (simp [*, errW_none, errW_some] <;> rfl), by first | exact Kd.R_nil _ _ _ _ _ | exact Kd.N_nil _ _ _ _ _ | exact Kd.V_nil _ _ _ _ _ | exact Kd.Q_nil _ _ _ _ _ | exact Kd.S_nil _ _ _ _ _, m64_⟩
 rw [if_pos c4] at H
 have c4b0 : (t290 == 0) = true := beq_iff_eq.mpr c4
 have c4b1 : (t290 != 0) = false := bne_eq_false_iff_eq.mpr c4
 clear c4
 replace H := Option.bind_eq_some_iff.mp H
 obtain ⟨⟨t291, t292, t293⟩, A50, H⟩ := H
 replace H : (if t293 = 0 then ((strongroomref12_number.f k a0 t292).bind fun bt294 => (if bt294.2.2 = 0 then (if bt294.1 > 8 then (some (0, 0, ([] : List (S35)), (⟨#[]⟩ : ByteArray), 0, 4)) else (strongroomref12_Decode.l0 k a0 bt294.2.1 bt294.1 0 0 0 (⟨#[]⟩ : ByteArray) t288 t291 ([] : List (S35)) (⟨#[]⟩ : ByteArray))) else (some (0, 0, ([] : List (S35)), (⟨#[]⟩ : ByteArray), 0, bt294.2.2)))) else (some (0, 0, ([] : List (S35)), (⟨#[]⟩ : ByteArray), 0, t293))) = some (r1, r2, r3, r4, r5, r6) := H
 have A5 := Aside0.mk A50
 clear A50
 by_cases c6 : t293 = 0
 case neg =>
  rw [if_neg c6] at H
  have c6b0 : (t293 == 0) = false := beq_eq_false_iff_ne.mpr c6
  have c6b1 : (t293 != 0) = true := bne_iff_ne.mpr c6
  simp only [Option.some.injEq, Prod.mk.injEq] at H
  obtain ⟨rfl, rfl, rfl, rfl, rfl, rfl⟩ := H
  go_enter Tryd.func27, Tryd.ntmps27
  go_wp2_with (first | ((with_reducible refine gate_dst (N := 4) rfl ?_); refine box_event ?hg (N := 4) ?hd (cs := #[.int .i64 0, .int .i64 0, .slice none 0 0, .string (⟨#[]⟩ : ByteArray)]) (t := 25) ?hr ?_; (case hd => rfl); (case hg => rfl); (case hr => first | (go_simp; done) | (go_simp; rfl)); intro gb286 hg w82 hbox hb; have n0_ := Aside0.mk (below_step m31_ hb); have n1_ := Aside0.mk (hbox); have n2_ := Aside0.mk ((by rw [hg]; exact (below_size m31_) : w.heap.size ≤ gb286)); have n3_ := Aside0.mk ((by rw [hg]; exact (below_size m31_) : w.heap.size ≤ gb286)); clear HB; have HB := n0_; have BK286 := n1_; have GW286 := n2_; have GE286 := n3_; clear n0_ n1_ n2_ n3_; clear hb hbox hg) | ((with_reducible refine gate_dst (N := 7) rfl ?_); refine box_event ?hg (N := 7) ?hd (cs := #[.int .i64 0, .int .i64 0, .slice none 0 0, .string (⟨#[]⟩ : ByteArray)]) (t := 25) ?hr ?_; (case hd => rfl); (case hg => rfl); (case hr => first | (go_simp; done) | (go_simp; rfl)); intro gb287 hg w83 hbox hb; have n0_ := Aside0.mk (blk_below (g := gb286) (o := .cells #[.int .i64 0, .int .i64 0, .slice none 0 0, .string (⟨#[]⟩ : ByteArray)] 25 (0, 0)) m33_ hb); have n1_ := Aside0.mk (below_step m19_ hb); have n2_ := Aside0.mk (hbox); have n3_ := Aside0.mk ((by rw [hg]; exact (below_size m19_) : w.heap.size ≤ gb287)); have n4_ := Aside0.mk ((by rw [hg]; exact (below_size m19_) : w.heap.size ≤ gb287)); have n5_ := Aside0.mk ((by rw [hg]; exact Nat.ne_of_lt (blk_lt (g := gb286) (o := .cells #[.int .i64 0, .int .i64 0, .slice none 0 0, .string (⟨#[]⟩ : ByteArray)] 25 (0, 0)) m33_) : gb286 ≠ gb287)); have n6_ := Aside0.mk ((by rw [hg]; exact Nat.ne_of_gt (blk_lt (g := gb286) (o := .cells #[.int .i64 0, .int .i64 0, .slice none 0 0, .string (⟨#[]⟩ : ByteArray)] 25 (0, 0)) m33_) : gb287 ≠ gb286)); clear BK286; clear HB; have BK286 := n0_; have HB := n1_; have BK287 := n2_; have GW287 := n3_; have GE287 := n4_; have NB286_287 := n5_; have NB287_286 := n6_; clear n0_ n1_ n2_ n3_ n4_ n5_ n6_; clear hb hbox hg; have hnb84 := NB287_286.out; have hnc84 := NB286_287.out; obtain ⟨hcz85_0, hcz85_1, hcz85_2, hcz85_3⟩ := bc4_ BK287.out; obtain ⟨hfz85_0, hfz85_1, hfz85_2, hfz85_3⟩ := bf4_ BK287.out) | ((with_reducible refine gate_callee (f := 49) rfl ?_); refine goesL_ (some 28) rfl rfl Tryd.func49 (by kernel_rfl) rfl #[.string a0, .int .i64 a1] rfl m30_ ?_; (with_reducible refine (strongroomref12_number.calls k a0 a1 t288 t289 t290 _ A3.out).mono ?_); rintro e w' ⟨rfl, ⟨nd, rfl⟩⟩; refine ⟨_, rfl, ?_⟩) | ((with_reducible refine gate_callee (f := 49) rfl ?_); refine goesL_ (some 39) rfl rfl Tryd.func49 (by kernel_rfl) rfl #[.string a0, .int .i64 t289] rfl m30_ ?_; (with_reducible refine (strongroomref12_number.calls k a0 t289 t291 t292 t293 _ A5.out).mono ?_); rintro e w' ⟨rfl, ⟨nd, rfl⟩⟩; refine ⟨_, rfl, ?_⟩; obtain ⟨hcz86_0, hcz86_1, hcz86_2, hcz86_3⟩ := bc4_ BK286.out; obtain ⟨hfz86_0, hfz86_1, hfz86_2, hfz86_3⟩ := bf4_ BK286.out))
  refine bodyPost_ret (results_ctt rfl _ _ gb286 25 #[.int .i64 0, .int .i64 0, .slice none 0 0, .string (⟨#[]⟩ : ByteArray)] (0, 0) _ rfl (by refine bD_ ?_; refine blk_put (cs := #[.int .i64 0, .int .i64 0, .slice none 0 0, .string (⟨#[]⟩ : ByteArray)]) ?_ 3 _ rfl; refine bD_ ?_; refine blk_put (cs := #[.int .i64 0, .int .i64 0, .slice none 0 0, .string (⟨#[]⟩ : ByteArray)]) ?_ 2 _ rfl; refine bD_ ?_; refine blk_put (cs := #[.int .i64 0, .int .i64 0, .slice none 0 0, .string (⟨#[]⟩ : ByteArray)]) ?_ 1 _ rfl; refine bD_ ?_; refine blk_put (cs := #[.int .i64 0, .int .i64 0, .slice none 0 0, .string (⟨#[]⟩ : ByteArray)]) ?_ 0 _ rfl; refine bD_ ?_; refine blk_far ?_ NB286_287.out _; refine bD_ ?_; refine blk_far ?_ NB286_287.out _; refine bD_ ?_; refine blk_far ?_ NB286_287.out _; refine bD_ ?_; refine blk_far ?_ NB286_287.out _; refine bD_ ?_; exact BK286.out) Tryd.underlying25 rfl (by kernel_rfl)) rfl ?_
  exact ⟨_, by first | rfl | (simp [errW_none, errW_some] <;> rfl) | (simp [*, errW_none, errW_some] <;> rfl), by first | exact Kd.R_nil _ _ _ _ _ | exact Kd.N_nil _ _ _ _ _ | exact Kd.V_nil _ _ _ _ _ | exact Kd.Q_nil _ _ _ _ _ | exact Kd.S_nil _ _ _ _ _, m64_⟩
 rw [if_pos c6] at H
 have c6b0 : (t293 == 0) = true := beq_iff_eq.mpr c6
 have c6b1 : (t293 != 0) = false := bne_eq_false_iff_eq.mpr c6
 clear c6
 replace H := Option.bind_eq_some_iff.mp H
 obtain ⟨⟨t294, t295, t296⟩, A70, H⟩ := H
 replace H : (if t296 = 0 then (if t294 > 8 then (some (0, 0, ([] : List (S35)), (⟨#[]⟩ : ByteArray), 0, 4)) else (strongroomref12_Decode.l0 k a0 t295 t294 0 0 0 (⟨#[]⟩ : ByteArray) t288 t291 ([] : List (S35)) (⟨#[]⟩ : ByteArray))) else (some (0, 0, ([] : List (S35)), (⟨#[]⟩ : ByteArray), 0, t296))) = some (r1, r2, r3, r4, r5, r6) := H
 have A7 := Aside0.mk A70
 clear A70
 by_cases c8 : t296 = 0
 case neg =>
  rw [if_neg c8] at H
  have c8b0 : (t296 == 0) = false := beq_eq_false_iff_ne.mpr c8
  have c8b1 : (t296 != 0) = true := bne_iff_ne.mpr c8
  simp only [Option.some.injEq, Prod.mk.injEq] at H
  obtain ⟨rfl, rfl, rfl, rfl, rfl, rfl⟩ := H
  go_enter Tryd.func27, Tryd.ntmps27
  go_wp2_with (first | ((with_reducible refine gate_dst (N := 4) rfl ?_); refine box_event ?hg (N := 4) ?hd (cs := #[.int .i64 0, .int .i64 0, .slice none 0 0, .string (⟨#[]⟩ : ByteArray)]) (t := 25) ?hr ?_; (case hd => rfl); (case hg => rfl); (case hr => first | (go_simp; done) | (go_simp; rfl)); intro gb286 hg w77 hbox hb; have n0_ := Aside0.mk (below_step m31_ hb); have n1_ := Aside0.mk (hbox); have n2_ := Aside0.mk ((by rw [hg]; exact (below_size m31_) : w.heap.size ≤ gb286)); have n3_ := Aside0.mk ((by rw [hg]; exact (below_size m31_) : w.heap.size ≤ gb286)); clear HB; have HB := n0_; have BK286 := n1_; have GW286 := n2_; have GE286 := n3_; clear n0_ n1_ n2_ n3_; clear hb hbox hg) | ((with_reducible refine gate_dst (N := 7) rfl ?_); refine box_event ?hg (N := 7) ?hd (cs := #[.int .i64 0, .int .i64 0, .slice none 0 0, .string (⟨#[]⟩ : ByteArray)]) (t := 25) ?hr ?_; (case hd => rfl); (case hg => rfl); (case hr => first | (go_simp; done) | (go_simp; rfl)); intro gb287 hg w78 hbox hb; have n0_ := Aside0.mk (blk_below (g := gb286) (o := .cells #[.int .i64 0, .int .i64 0, .slice none 0 0, .string (⟨#[]⟩ : ByteArray)] 25 (0, 0)) m33_ hb); have n1_ := Aside0.mk (below_step m19_ hb); have n2_ := Aside0.mk (hbox); have n3_ := Aside0.mk ((by rw [hg]; exact (below_size m19_) : w.heap.size ≤ gb287)); have n4_ := Aside0.mk ((by rw [hg]; exact (below_size m19_) : w.heap.size ≤ gb287)); have n5_ := Aside0.mk ((by rw [hg]; exact Nat.ne_of_lt (blk_lt (g := gb286) (o := .cells #[.int .i64 0, .int .i64 0, .slice none 0 0, .string (⟨#[]⟩ : ByteArray)] 25 (0, 0)) m33_) : gb286 ≠ gb287)); have n6_ := Aside0.mk ((by rw [hg]; exact Nat.ne_of_gt (blk_lt (g := gb286) (o := .cells #[.int .i64 0, .int .i64 0, .slice none 0 0, .string (⟨#[]⟩ : ByteArray)] 25 (0, 0)) m33_) : gb287 ≠ gb286)); clear BK286; clear HB; have BK286 := n0_; have HB := n1_; have BK287 := n2_; have GW287 := n3_; have GE287 := n4_; have NB286_287 := n5_; have NB287_286 := n6_; clear n0_ n1_ n2_ n3_ n4_ n5_ n6_; clear hb hbox hg; have hnb79 := NB287_286.out; have hnc79 := NB286_287.out; obtain ⟨hcz80_0, hcz80_1, hcz80_2, hcz80_3⟩ := bc4_ BK287.out; obtain ⟨hfz80_0, hfz80_1, hfz80_2, hfz80_3⟩ := bf4_ BK287.out) | ((with_reducible refine gate_callee (f := 49) rfl ?_); refine goesL_ (some 28) rfl rfl Tryd.func49 (by kernel_rfl) rfl #[.string a0, .int .i64 a1] rfl m30_ ?_; (with_reducible refine (strongroomref12_number.calls k a0 a1 t288 t289 t290 _ A3.out).mono ?_); rintro e w' ⟨rfl, ⟨nd, rfl⟩⟩; refine ⟨_, rfl, ?_⟩) | ((with_reducible refine gate_callee (f := 49) rfl ?_); refine goesL_ (some 39) rfl rfl Tryd.func49 (by kernel_rfl) rfl #[.string a0, .int .i64 t289] rfl m30_ ?_; (with_reducible refine (strongroomref12_number.calls k a0 t289 t291 t292 t293 _ A5.out).mono ?_); rintro e w' ⟨rfl, ⟨nd, rfl⟩⟩; refine ⟨_, rfl, ?_⟩) | ((with_reducible refine gate_callee (f := 49) rfl ?_); refine goesL_ (some 50) rfl rfl Tryd.func49 (by kernel_rfl) rfl #[.string a0, .int .i64 t292] rfl m30_ ?_; (with_reducible refine (strongroomref12_number.calls k a0 t292 t294 t295 t296 _ A7.out).mono ?_); rintro e w' ⟨rfl, ⟨nd, rfl⟩⟩; refine ⟨_, rfl, ?_⟩; obtain ⟨hcz81_0, hcz81_1, hcz81_2, hcz81_3⟩ := bc4_ BK286.out; obtain ⟨hfz81_0, hfz81_1, hfz81_2, hfz81_3⟩ := bf4_ BK286.out))
  refine bodyPost_ret (results_ctt rfl _ _ gb286 25 #[.int .i64 0, .int .i64 0, .slice none 0 0, .string (⟨#[]⟩ : ByteArray)] (0, 0) _ rfl (by refine bD_ ?_; refine blk_put (cs := #[.int .i64 0, .int .i64 0, .slice none 0 0, .string (⟨#[]⟩ : ByteArray)]) ?_ 3 _ rfl; refine bD_ ?_; refine blk_put (cs := #[.int .i64 0, .int .i64 0, .slice none 0 0, .string (⟨#[]⟩ : ByteArray)]) ?_ 2 _ rfl; refine bD_ ?_; refine blk_put (cs := #[.int .i64 0, .int .i64 0, .slice none 0 0, .string (⟨#[]⟩ : ByteArray)]) ?_ 1 _ rfl; refine bD_ ?_; refine blk_put (cs := #[.int .i64 0, .int .i64 0, .slice none 0 0, .string (⟨#[]⟩ : ByteArray)]) ?_ 0 _ rfl; refine bD_ ?_; refine blk_far ?_ NB286_287.out _; refine bD_ ?_; refine blk_far ?_ NB286_287.out _; refine bD_ ?_; refine blk_far ?_ NB286_287.out _; refine bD_ ?_; refine blk_far ?_ NB286_287.out _; refine bD_ ?_; exact BK286.out) Tryd.underlying25 rfl (by kernel_rfl)) rfl ?_
  exact ⟨_, by first | rfl | (simp [errW_none, errW_some] <;> rfl) | (simp [*, errW_none, errW_some] <;> rfl), by first | exact Kd.R_nil _ _ _ _ _ | exact Kd.N_nil _ _ _ _ _ | exact Kd.V_nil _ _ _ _ _ | exact Kd.Q_nil _ _ _ _ _ | exact Kd.S_nil _ _ _ _ _, m64_⟩
 rw [if_pos c8] at H
 have c8b0 : (t296 == 0) = true := beq_iff_eq.mpr c8
 have c8b1 : (t296 != 0) = false := bne_eq_false_iff_eq.mpr c8
 clear c8
 by_cases c9 : t294 > 8
 ·rw [if_pos c9] at H
  have c9b0 : decide (8 < t294) = true := decide_eq_true c9
  clear c9
  simp only [Option.some.injEq, Prod.mk.injEq] at H
  obtain ⟨rfl, rfl, rfl, rfl, rfl, rfl⟩ := H
  go_enter Tryd.func27, Tryd.ntmps27
  go_wp2_with (first | ((with_reducible refine gate_dst (N := 4) rfl ?_); refine box_event ?hg (N := 4) ?hd (cs := #[.int .i64 0, .int .i64 0, .slice none 0 0, .string (⟨#[]⟩ : ByteArray)]) (t := 25) ?hr ?_; (case hd => rfl); (case hg => rfl); (case hr => first | (go_simp; done) | (go_simp; rfl)); intro gb286 hg w10 hbox hb; have n0_ := Aside0.mk (below_step m31_ hb); have n1_ := Aside0.mk (hbox); have n2_ := Aside0.mk ((by rw [hg]; exact (below_size m31_) : w.heap.size ≤ gb286)); have n3_ := Aside0.mk ((by rw [hg]; exact (below_size m31_) : w.heap.size ≤ gb286)); clear HB; have HB := n0_; have BK286 := n1_; have GW286 := n2_; have GE286 := n3_; clear n0_ n1_ n2_ n3_; clear hb hbox hg) | ((with_reducible refine gate_dst (N := 7) rfl ?_); refine box_event ?hg (N := 7) ?hd (cs := #[.int .i64 0, .int .i64 0, .slice none 0 0, .string (⟨#[]⟩ : ByteArray)]) (t := 25) ?hr ?_; (case hd => rfl); (case hg => rfl); (case hr => first | (go_simp; done) | (go_simp; rfl)); intro gb287 hg w11 hbox hb; have n0_ := Aside0.mk (blk_below (g := gb286) (o := .cells #[.int .i64 0, .int .i64 0, .slice none 0 0, .string (⟨#[]⟩ : ByteArray)] 25 (0, 0)) m33_ hb); have n1_ := Aside0.mk (below_step m19_ hb); have n2_ := Aside0.mk (hbox); have n3_ := Aside0.mk ((by rw [hg]; exact (below_size m19_) : w.heap.size ≤ gb287)); have n4_ := Aside0.mk ((by rw [hg]; exact (below_size m19_) : w.heap.size ≤ gb287)); have n5_ := Aside0.mk ((by rw [hg]; exact Nat.ne_of_lt (blk_lt (g := gb286) (o := .cells #[.int .i64 0, .int .i64 0, .slice none 0 0, .string (⟨#[]⟩ : ByteArray)] 25 (0, 0)) m33_) : gb286 ≠ gb287)); have n6_ := Aside0.mk ((by rw [hg]; exact Nat.ne_of_gt (blk_lt (g := gb286) (o := .cells #[.int .i64 0, .int .i64 0, .slice none 0 0, .string (⟨#[]⟩ : ByteArray)] 25 (0, 0)) m33_) : gb287 ≠ gb286)); clear BK286; clear HB; have BK286 := n0_; have HB := n1_; have BK287 := n2_; have GW287 := n3_; have GE287 := n4_; have NB286_287 := n5_; have NB287_286 := n6_; clear n0_ n1_ n2_ n3_ n4_ n5_ n6_; clear hb hbox hg; have hnb12 := NB287_286.out; have hnc12 := NB286_287.out; obtain ⟨hcz13_0, hcz13_1, hcz13_2, hcz13_3⟩ := bc4_ BK287.out; obtain ⟨hfz13_0, hfz13_1, hfz13_2, hfz13_3⟩ := bf4_ BK287.out) | ((with_reducible refine gate_callee (f := 49) rfl ?_); refine goesL_ (some 28) rfl rfl Tryd.func49 (by kernel_rfl) rfl #[.string a0, .int .i64 a1] rfl m30_ ?_; (with_reducible refine (strongroomref12_number.calls k a0 a1 t288 t289 t290 _ A3.out).mono ?_); rintro e w' ⟨rfl, ⟨nd, rfl⟩⟩; refine ⟨_, rfl, ?_⟩) | ((with_reducible refine gate_callee (f := 49) rfl ?_); refine goesL_ (some 39) rfl rfl Tryd.func49 (by kernel_rfl) rfl #[.string a0, .int .i64 t289] rfl m30_ ?_; (with_reducible refine (strongroomref12_number.calls k a0 t289 t291 t292 t293 _ A5.out).mono ?_); rintro e w' ⟨rfl, ⟨nd, rfl⟩⟩; refine ⟨_, rfl, ?_⟩) | ((with_reducible refine gate_callee (f := 49) rfl ?_); refine goesL_ (some 50) rfl rfl Tryd.func49 (by kernel_rfl) rfl #[.string a0, .int .i64 t292] rfl m30_ ?_; (with_reducible refine (strongroomref12_number.calls k a0 t292 t294 t295 t296 _ A7.out).mono ?_); rintro e w' ⟨rfl, ⟨nd, rfl⟩⟩; refine ⟨_, rfl, ?_⟩; obtain ⟨hcz14_0, hcz14_1, hcz14_2, hcz14_3⟩ := bc4_ BK286.out; obtain ⟨hfz14_0, hfz14_1, hfz14_2, hfz14_3⟩ := bf4_ BK286.out))
  refine bodyPost_ret (results_ctt rfl _ _ gb286 25 #[.int .i64 0, .int .i64 0, .slice none 0 0, .string (⟨#[]⟩ : ByteArray)] (0, 0) _ rfl (by refine bD_ ?_; refine blk_put (cs := #[.int .i64 0, .int .i64 0, .slice none 0 0, .string (⟨#[]⟩ : ByteArray)]) ?_ 3 _ rfl; refine bD_ ?_; refine blk_put (cs := #[.int .i64 0, .int .i64 0, .slice none 0 0, .string (⟨#[]⟩ : ByteArray)]) ?_ 2 _ rfl; refine bD_ ?_; refine blk_put (cs := #[.int .i64 0, .int .i64 0, .slice none 0 0, .string (⟨#[]⟩ : ByteArray)]) ?_ 1 _ rfl; refine bD_ ?_; refine blk_put (cs := #[.int .i64 0, .int .i64 0, .slice none 0 0, .string (⟨#[]⟩ : ByteArray)]) ?_ 0 _ rfl; refine bD_ ?_; refine blk_far ?_ NB286_287.out _; refine bD_ ?_; refine blk_far ?_ NB286_287.out _; refine bD_ ?_; refine blk_far ?_ NB286_287.out _; refine bD_ ?_; refine blk_far ?_ NB286_287.out _; refine bD_ ?_; exact BK286.out) Tryd.underlying25 rfl (by kernel_rfl)) rfl ?_
  exact ⟨_, by first | rfl | (simp [errW_none, errW_some] <;> rfl) | (simp [*, errW_none, errW_some] <;> rfl), by first | exact Kd.R_nil _ _ _ _ _ | exact Kd.N_nil _ _ _ _ _ | exact Kd.V_nil _ _ _ _ _ | exact Kd.Q_nil _ _ _ _ _ | exact Kd.S_nil _ _ _ _ _, m64_⟩
 rw [if_neg c9] at H
 have c9b0 : decide (8 < t294) = false := decide_eq_false c9
 clear c9
 have H' := Aside0.mk H
 clear H
 go_enter Tryd.func27, Tryd.ntmps27
 go_wp2_with (first | ((with_reducible refine gate_dst (N := 4) rfl ?_); refine box_event ?hg (N := 4) ?hd (cs := #[.int .i64 0, .int .i64 0, .slice none 0 0, .string (⟨#[]⟩ : ByteArray)]) (t := 25) ?hr ?_; (case hd => rfl); (case hg => rfl); (case hr => first | (go_simp; done) | (go_simp; rfl)); intro gb286 hg w15 hbox hb; have n0_ := Aside0.mk (below_step m31_ hb); have n1_ := Aside0.mk (hbox); have n2_ := Aside0.mk ((by rw [hg]; exact (below_size m31_) : w.heap.size ≤ gb286)); have n3_ := Aside0.mk ((by rw [hg]; exact (below_size m31_) : w.heap.size ≤ gb286)); clear HB; have HB := n0_; have BK286 := n1_; have GW286 := n2_; have GE286 := n3_; clear n0_ n1_ n2_ n3_; clear hb hbox hg) | ((with_reducible refine gate_dst (N := 7) rfl ?_); refine box_event ?hg (N := 7) ?hd (cs := #[.int .i64 0, .int .i64 0, .slice none 0 0, .string (⟨#[]⟩ : ByteArray)]) (t := 25) ?hr ?_; (case hd => rfl); (case hg => rfl); (case hr => first | (go_simp; done) | (go_simp; rfl)); intro gb287 hg w16 hbox hb; have n0_ := Aside0.mk (blk_below (g := gb286) (o := .cells #[.int .i64 0, .int .i64 0, .slice none 0 0, .string (⟨#[]⟩ : ByteArray)] 25 (0, 0)) m33_ hb); have n1_ := Aside0.mk (below_step m19_ hb); have n2_ := Aside0.mk (hbox); have n3_ := Aside0.mk ((by rw [hg]; exact (below_size m19_) : w.heap.size ≤ gb287)); have n4_ := Aside0.mk ((by rw [hg]; exact (below_size m19_) : w.heap.size ≤ gb287)); have n5_ := Aside0.mk ((by rw [hg]; exact Nat.ne_of_lt (blk_lt (g := gb286) (o := .cells #[.int .i64 0, .int .i64 0, .slice none 0 0, .string (⟨#[]⟩ : ByteArray)] 25 (0, 0)) m33_) : gb286 ≠ gb287)); have n6_ := Aside0.mk ((by rw [hg]; exact Nat.ne_of_gt (blk_lt (g := gb286) (o := .cells #[.int .i64 0, .int .i64 0, .slice none 0 0, .string (⟨#[]⟩ : ByteArray)] 25 (0, 0)) m33_) : gb287 ≠ gb286)); clear BK286; clear HB; have BK286 := n0_; have HB := n1_; have BK287 := n2_; have GW287 := n3_; have GE287 := n4_; have NB286_287 := n5_; have NB287_286 := n6_; clear n0_ n1_ n2_ n3_ n4_ n5_ n6_; clear hb hbox hg; have hnb17 := NB287_286.out; have hnc17 := NB286_287.out; obtain ⟨hcz18_0, hcz18_1, hcz18_2, hcz18_3⟩ := bc4_ BK287.out; obtain ⟨hfz18_0, hfz18_1, hfz18_2, hfz18_3⟩ := bf4_ BK287.out) | ((with_reducible refine gate_callee (f := 49) rfl ?_); refine goesL_ (some 28) rfl rfl Tryd.func49 (by kernel_rfl) rfl #[.string a0, .int .i64 a1] rfl m30_ ?_; (with_reducible refine (strongroomref12_number.calls k a0 a1 t288 t289 t290 _ A3.out).mono ?_); rintro e w' ⟨rfl, ⟨nd, rfl⟩⟩; refine ⟨_, rfl, ?_⟩) | ((with_reducible refine gate_callee (f := 49) rfl ?_); refine goesL_ (some 39) rfl rfl Tryd.func49 (by kernel_rfl) rfl #[.string a0, .int .i64 t289] rfl m30_ ?_; (with_reducible refine (strongroomref12_number.calls k a0 t289 t291 t292 t293 _ A5.out).mono ?_); rintro e w' ⟨rfl, ⟨nd, rfl⟩⟩; refine ⟨_, rfl, ?_⟩) | ((with_reducible refine gate_callee (f := 49) rfl ?_); refine goesL_ (some 50) rfl rfl Tryd.func49 (by kernel_rfl) rfl #[.string a0, .int .i64 t292] rfl m30_ ?_; (with_reducible refine (strongroomref12_number.calls k a0 t292 t294 t295 t296 _ A7.out).mono ?_); rintro e w' ⟨rfl, ⟨nd, rfl⟩⟩; refine ⟨_, rfl, ?_⟩) | ((with_reducible refine gate_dst (N := 12) rfl ?_); refine box_event ?hg (N := 12) ?hd (cs := #[.int .i64 0, .int .i64 0, .slice none 0 0, .string (⟨#[]⟩ : ByteArray)]) (t := 25) ?hr ?_; (case hd => rfl); (case hg => rfl); (case hr => first | (go_simp; done) | (go_simp; rfl)); intro gb297 hg w19 hbox hb; have n0_ := Aside0.mk (blk_below (g := gb286) (o := .cells #[.int .i64 0, .int .i64 0, .slice none 0 0, .string (⟨#[]⟩ : ByteArray)] 25 (0, 0)) m3_ hb); have n1_ := Aside0.mk (blk_below (g := gb287) (o := .cells #[.int .i64 0, .int .i64 0, .slice none 0 0, .string (⟨#[]⟩ : ByteArray)] 25 (0, 0)) (by refine bD_ ?_; refine blk_put (cs := #[.int .i64 0, .int .i64 0, .slice none 0 0, .string (⟨#[]⟩ : ByteArray)]) ?_ 3 _ rfl; refine bD_ ?_; refine blk_put (cs := #[.int .i64 0, .int .i64 0, .slice none 0 0, .string (⟨#[]⟩ : ByteArray)]) ?_ 2 _ rfl; refine bD_ ?_; refine blk_put (cs := #[.int .i64 0, .int .i64 0, .slice none 0 0, .string (⟨#[]⟩ : ByteArray)]) ?_ 1 _ rfl; refine bD_ ?_; refine blk_put (cs := #[.int .i64 0, .int .i64 0, .slice none 0 0, .string (⟨#[]⟩ : ByteArray)]) ?_ 0 _ rfl; refine bD_ ?_; exact BK287.out) hb); have n2_ := Aside0.mk (below_step (by repeat (first | (with_reducible first | exact HB.out | apply below_alloc | apply pw_below_drewN | apply below_drew1 | refine below_set ?_ GE286.out | refine below_set ?_ GE287.out) | exact HB.out)) hb); have n3_ := Aside0.mk (hbox); have n4_ := Aside0.mk ((by rw [hg]; exact (below_size (by repeat (first | (with_reducible first | exact HB.out | apply below_alloc | apply pw_below_drewN | apply below_drew1 | refine below_set ?_ GE286.out | refine below_set ?_ GE287.out) | exact HB.out))) : w.heap.size ≤ gb297)); have n5_ := Aside0.mk ((by rw [hg]; exact (below_size (by repeat (first | (with_reducible first | exact HB.out | apply below_alloc | apply pw_below_drewN | apply below_drew1 | refine below_set ?_ GE286.out | refine below_set ?_ GE287.out) | exact HB.out))) : w.heap.size ≤ gb297)); have n6_ := Aside0.mk ((by rw [hg]; exact Nat.ne_of_lt (blk_lt (g := gb286) (o := .cells #[.int .i64 0, .int .i64 0, .slice none 0 0, .string (⟨#[]⟩ : ByteArray)] 25 (0, 0)) m3_) : gb286 ≠ gb297)); have n7_ := Aside0.mk ((by rw [hg]; exact Nat.ne_of_gt (blk_lt (g := gb286) (o := .cells #[.int .i64 0, .int .i64 0, .slice none 0 0, .string (⟨#[]⟩ : ByteArray)] 25 (0, 0)) m3_) : gb297 ≠ gb286)); have n8_ := Aside0.mk ((by rw [hg]; exact Nat.ne_of_lt (blk_lt (g := gb287) (o := .cells #[.int .i64 0, .int .i64 0, .slice none 0 0, .string (⟨#[]⟩ : ByteArray)] 25 (0, 0)) (by refine bD_ ?_; refine blk_put (cs := #[.int .i64 0, .int .i64 0, .slice none 0 0, .string (⟨#[]⟩ : ByteArray)]) ?_ 3 _ rfl; refine bD_ ?_; refine blk_put (cs := #[.int .i64 0, .int .i64 0, .slice none 0 0, .string (⟨#[]⟩ : ByteArray)]) ?_ 2 _ rfl; refine bD_ ?_; refine blk_put (cs := #[.int .i64 0, .int .i64 0, .slice none 0 0, .string (⟨#[]⟩ : ByteArray)]) ?_ 1 _ rfl; refine bD_ ?_; refine blk_put (cs := #[.int .i64 0, .int .i64 0, .slice none 0 0, .string (⟨#[]⟩ : ByteArray)]) ?_ 0 _ rfl; refine bD_ ?_; exact BK287.out)) : gb287 ≠ gb297)); have n9_ := Aside0.mk ((by rw [hg]; exact Nat.ne_of_gt (blk_lt (g := gb287) (o := .cells #[.int .i64 0, .int .i64 0, .slice none 0 0, .string (⟨#[]⟩ : ByteArray)] 25 (0, 0)) (by refine bD_ ?_; refine blk_put (cs := #[.int .i64 0, .int .i64 0, .slice none 0 0, .string (⟨#[]⟩ : ByteArray)]) ?_ 3 _ rfl; refine bD_ ?_; refine blk_put (cs := #[.int .i64 0, .int .i64 0, .slice none 0 0, .string (⟨#[]⟩ : ByteArray)]) ?_ 2 _ rfl; refine bD_ ?_; refine blk_put (cs := #[.int .i64 0, .int .i64 0, .slice none 0 0, .string (⟨#[]⟩ : ByteArray)]) ?_ 1 _ rfl; refine bD_ ?_; refine blk_put (cs := #[.int .i64 0, .int .i64 0, .slice none 0 0, .string (⟨#[]⟩ : ByteArray)]) ?_ 0 _ rfl; refine bD_ ?_; exact BK287.out)) : gb297 ≠ gb287)); clear BK286; clear BK287; clear HB; have BK286 := n0_; have BK287 := n1_; have HB := n2_; have BK297 := n3_; have GW297 := n4_; have GE297 := n5_; have NB286_297 := n6_; have NB297_286 := n7_; have NB287_297 := n8_; have NB297_287 := n9_; clear n0_ n1_ n2_ n3_ n4_ n5_ n6_ n7_ n8_ n9_; clear hb hbox hg; have hnb20 := NB297_286.out; have hnc20 := NB286_297.out; have hnb21 := NB297_287.out; have hnc21 := NB287_297.out; obtain ⟨hcz22_0, hcz22_1, hcz22_2, hcz22_3⟩ := bc4_ BK297.out; obtain ⟨hfz22_0, hfz22_1, hfz22_2, hfz22_3⟩ := bf4_ BK297.out))
 go_loopg [1, 13] k (fun kq v1 v13 w' => ∃ (x1_1 : Int) (x13_1 : Int) (x287000_1 : Int) (x287001_1 : Int) (x287003_1 : ByteArray) (x298002_1 : List (S35)) (u298002 : Value), v1 = .int .i64 x1_1 ∧ v13 = .int .i64 x13_1 ∧ Aside0 (strongroomref12_Decode.l0 kq a0 x1_1 t294 x13_1 0 0 (⟨#[]⟩ : ByteArray) t288 t291 x298002_1 (⟨#[]⟩ : ByteArray) = some (r1, r2, r3, r4, r5, r6)) ∧ Aside0 (kq ≤ k) ∧ Aside0 (Kd.R k35 35 w' w.heap.size (fun _ => True) u298002 x298002_1) ∧ Aside0 (w'.heap[gb286]? = some (.cells #[.int .i64 x287000_1, .int .i64 x287001_1, (.slice none 0 0), .string x287003_1] 25 (0, 0))) ∧ Aside0 (w'.heap[gb287]? = some (.cells #[.int .i64 0, .int .i64 0, (.slice none 0 0), .string (⟨#[]⟩ : ByteArray)] 25 (0, 0))) ∧ Aside0 (w'.heap[gb297]? = some (.cells #[.int .i64 t288, .int .i64 t291, u298002, .string (⟨#[]⟩ : ByteArray)] 25 (0, 0))) ∧ Aside0 (Below w.heap.size w w'))
 case atStart => exact ⟨(t295), (0), (0), (0), ((⟨#[]⟩ : ByteArray)), (([] : List (S35))), (.slice none 0 0), m55_, m55_, H', ⟨Nat.le_refl _⟩, ⟨by first | exact Kd.R_nil _ _ _ _ _ | exact Kd.N_nil _ _ _ _ _ | exact Kd.V_nil _ _ _ _ _ | exact Kd.Q_nil _ _ _ _ _ | exact Kd.S_nil _ _ _ _ _⟩, ⟨by refine bD_ ?_; refine blk_far ?_ NB286_297.out _; refine bD_ ?_; refine blk_far ?_ NB286_297.out _; refine bD_ ?_; refine blk_far ?_ NB286_297.out _; refine bD_ ?_; refine blk_far ?_ NB286_297.out _; refine bD_ ?_; exact BK286.out⟩, ⟨by refine bD_ ?_; refine blk_far ?_ NB287_297.out _; refine bD_ ?_; refine blk_far ?_ NB287_297.out _; refine bD_ ?_; refine blk_far ?_ NB287_297.out _; refine bD_ ?_; refine blk_far ?_ NB287_297.out _; refine bD_ ?_; exact BK287.out⟩, ⟨by refine bD_ ?_; refine blk_put (cs := #[.int .i64 t288, .int .i64 t291, .slice none 0 0, .string (⟨#[]⟩ : ByteArray)]) ?_ 3 _ rfl; refine bD_ ?_; refine blk_put (cs := #[.int .i64 t288, .int .i64 t291, .slice none 0 0, .string (⟨#[]⟩ : ByteArray)]) ?_ 2 _ rfl; refine bD_ ?_; refine blk_put (cs := #[.int .i64 t288, .int .i64 0, .slice none 0 0, .string (⟨#[]⟩ : ByteArray)]) ?_ 1 _ rfl; refine bD_ ?_; refine blk_put (cs := #[.int .i64 0, .int .i64 0, .slice none 0 0, .string (⟨#[]⟩ : ByteArray)]) ?_ 0 _ rfl; refine bD_ ?_; exact BK297.out⟩, ⟨m60_⟩⟩
 clear H'
 try clear c4b0; try clear c4b1; try clear c6b0; try clear c6b1; try clear c8b0; try clear c8b1; try clear c9b0; try clear hcz18_0; try clear hcz18_1; try clear hcz18_2; try clear hcz18_3; try clear hcz22_0; try clear hcz22_1; try clear hcz22_2; try clear hcz22_3; try clear hfz18_0; try clear hfz18_1; try clear hfz18_2; try clear hfz18_3; try clear hfz22_0; try clear hfz22_1; try clear hfz22_2; try clear hfz22_3
 obtain ⟨x1_1, x13_1, x287000_1, x287001_1, x287003_1, x298002_1, u298002, rfl, rfl, HA, HK1, HO_298002, BK286, BK287, BK297, HB⟩ := hrel
 cases gk with
 | zero => exact absurd HA.out (by simp [strongroomref12_Decode.l0])
 | succ k1 =>
  have H := HA.out
  clear HA
  simp only [strongroomref12_Decode.l0] at H
  by_cases c23 : x13_1 < t294
  case neg =>
   rw [if_neg c23] at H
   have c23b0 : decide (x13_1 < t294) = false := decide_eq_false c23
   clear c23
   replace H := Option.bind_eq_some_iff.mp H
   obtain ⟨⟨t310, t311, t312⟩, A520, H⟩ := H
   replace H : (if t312 = 0 then ((strongroomref12_May.f k1 t288 t291 x298002_1 t310).bind fun t313 => (if t313 = true then (some (t288, t291, x298002_1, t310, t311, 0)) else (some (0, 0, ([] : List (S35)), (⟨#[]⟩ : ByteArray), 0, 4)))) else (some (0, 0, ([] : List (S35)), (⟨#[]⟩ : ByteArray), 0, t312))) = some (r1, r2, r3, r4, r5, r6) := H
   have A52 := Aside0.mk A520
   clear A520
   by_cases c53 : t312 = 0
   case neg =>
    rw [if_neg c53] at H
    have c53b0 : (t312 == 0) = false := beq_eq_false_iff_ne.mpr c53
    have c53b1 : (t312 != 0) = true := bne_iff_ne.mpr c53
    simp only [Option.some.injEq, Prod.mk.injEq] at H
    obtain ⟨rfl, rfl, rfl, rfl, rfl, rfl⟩ := H
    go_wp2_with (first | ((with_reducible refine gate_callee (f := 50) rfl ?_); refine goesL_ (some 115) rfl rfl Tryd.func50 (by kernel_rfl) rfl #[.string a0, .int .i64 x1_1, .int .i64 32] rfl m30_ ?_; (with_reducible refine (strongroomref01_GetText.calls k1 a0 x1_1 32 t310 t311 t312 _ A52.out).mono ?_); rintro e w' ⟨rfl, ⟨nd, rfl⟩⟩; refine ⟨_, rfl, ?_⟩; (try (rw [drewN_self wr]; generalize hq_ : World.drewN wr _ = wr; have n0_ : Aside0 (Kd.R k35 35 wr w.heap.size (fun _ => True) u298002 x298002_1) := ⟨by rw [← hq_]; exact m50_⟩; have n1_ : Aside0 (wr.heap[gb286]? = some (.cells #[.int .i64 x287000_1, .int .i64 x287001_1, .slice none 0 0, .string x287003_1] 25 (0, 0))) := ⟨by rw [← hq_]; exact m33_⟩; have n2_ : Aside0 (wr.heap[gb287]? = some (.cells #[.int .i64 0, .int .i64 0, .slice none 0 0, .string (⟨#[]⟩ : ByteArray)] 25 (0, 0))) := ⟨by rw [← hq_]; exact m42_⟩; have n3_ : Aside0 (wr.heap[gb297]? = some (.cells #[.int .i64 t288, .int .i64 t291, u298002, .string (⟨#[]⟩ : ByteArray)] 25 (0, 0))) := ⟨by rw [← hq_]; exact m41_⟩; have n4_ : Aside0 (Below w.heap.size w wr) := ⟨by rw [← hq_]; exact m10_⟩; clear HO_298002 BK286 BK287 BK297 HB hq_; have HO_298002 := n0_; have BK286 := n1_; have BK287 := n2_; have BK297 := n3_; have HB := n4_; clear n0_ n1_ n2_ n3_ n4_)); have hnb72 := NB287_286.out; have hnc72 := NB286_287.out; have hnb73 := NB287_297.out; have hnc73 := NB297_287.out; obtain ⟨hcz74_0, hcz74_1, hcz74_2, hcz74_3⟩ := bc4_ BK287.out; obtain ⟨hfz74_0, hfz74_1, hfz74_2, hfz74_3⟩ := bf4_ BK287.out; have hnb75 := NB286_297.out; have hnc75 := NB297_286.out; obtain ⟨hcz76_0, hcz76_1, hcz76_2, hcz76_3⟩ := bc4_ BK286.out; obtain ⟨hfz76_0, hfz76_1, hfz76_2, hfz76_3⟩ := bf4_ BK286.out))
    refine bodyPost_ret (results_ctt rfl _ _ gb286 25 #[.int .i64 0, .int .i64 0, .slice none 0 0, .string (⟨#[]⟩ : ByteArray)] (0, 0) _ rfl m0_ Tryd.underlying25 rfl (by kernel_rfl)) rfl ?_
    exact ⟨_, by first | rfl | (simp [errW_none, errW_some] <;> rfl) | (simp [*, errW_none, errW_some] <;> rfl), by first | exact Kd.R_nil _ _ _ _ _ | exact Kd.N_nil _ _ _ _ _ | exact Kd.V_nil _ _ _ _ _ | exact Kd.Q_nil _ _ _ _ _ | exact Kd.S_nil _ _ _ _ _, m60_⟩
   rw [if_pos c53] at H
   have c53b0 : (t312 == 0) = true := beq_iff_eq.mpr c53
   have c53b1 : (t312 != 0) = false := bne_eq_false_iff_eq.mpr c53
   clear c53
   replace H := Option.bind_eq_some_iff.mp H
   obtain ⟨t313, A540, H⟩ := H
   replace H : (if t313 = true then (some (t288, t291, x298002_1, t310, t311, 0)) else (some (0, 0, ([] : List (S35)), (⟨#[]⟩ : ByteArray), 0, 4))) = some (r1, r2, r3, r4, r5, r6) := H
   have A54 := Aside0.mk A540
   clear A540
   by_cases c55 : t313 = true
   case neg =>
    replace c55 := Bool.eq_false_iff.mpr c55
    subst c55
    have H1 : (some (0, 0, ([] : List (S35)), (⟨#[]⟩ : ByteArray), 0, 4)) = some (r1, r2, r3, r4, r5, r6) := by rw [if_neg (show ¬ (false = true) by decide)] at H; exact H
    clear H
    have H := H1
    clear H1
    simp only [Option.some.injEq, Prod.mk.injEq] at H
    obtain ⟨rfl, rfl, rfl, rfl, rfl, rfl⟩ := H
    go_wp2_with (first | ((with_reducible refine gate_callee (f := 50) rfl ?_); refine goesL_ (some 115) rfl rfl Tryd.func50 (by kernel_rfl) rfl #[.string a0, .int .i64 x1_1, .int .i64 32] rfl m30_ ?_; (with_reducible refine (strongroomref01_GetText.calls k1 a0 x1_1 32 t310 t311 t312 _ A52.out).mono ?_); rintro e w' ⟨rfl, ⟨nd, rfl⟩⟩; refine ⟨_, rfl, ?_⟩; (try (rw [drewN_self wr]; generalize hq_ : World.drewN wr _ = wr; have n0_ : Aside0 (Kd.R k35 35 wr w.heap.size (fun _ => True) u298002 x298002_1) := ⟨by rw [← hq_]; exact m50_⟩; have n1_ : Aside0 (wr.heap[gb286]? = some (.cells #[.int .i64 x287000_1, .int .i64 x287001_1, .slice none 0 0, .string x287003_1] 25 (0, 0))) := ⟨by rw [← hq_]; exact m33_⟩; have n2_ : Aside0 (wr.heap[gb287]? = some (.cells #[.int .i64 0, .int .i64 0, .slice none 0 0, .string (⟨#[]⟩ : ByteArray)] 25 (0, 0))) := ⟨by rw [← hq_]; exact m42_⟩; have n3_ : Aside0 (wr.heap[gb297]? = some (.cells #[.int .i64 t288, .int .i64 t291, u298002, .string (⟨#[]⟩ : ByteArray)] 25 (0, 0))) := ⟨by rw [← hq_]; exact m41_⟩; have n4_ : Aside0 (Below w.heap.size w wr) := ⟨by rw [← hq_]; exact m10_⟩; clear HO_298002 BK286 BK287 BK297 HB hq_; have HO_298002 := n0_; have BK286 := n1_; have BK287 := n2_; have BK297 := n3_; have HB := n4_; clear n0_ n1_ n2_ n3_ n4_)); have hnb64 := NB297_286.out; have hnc64 := NB286_297.out; have hnb65 := NB297_287.out; have hnc65 := NB287_297.out; obtain ⟨hcz66_0, hcz66_1, hcz66_2, hcz66_3⟩ := bc4_ BK297.out; obtain ⟨hfz66_0, hfz66_1, hfz66_2, hfz66_3⟩ := bf4_ BK297.out; obtain ⟨Ao67, co67, eo67⟩ := Kd.R_slice HO_298002.out; subst eo67) | ((with_reducible refine gate_callee (f := 19) rfl ?_); refine goesL_ (some 126) rfl rfl Tryd.func19 (by kernel_rfl) rfl #[.agg #[.int .i64 t288, .int .i64 t291, .slice Ao67 x298002_1.length co67, .string t310]] rfl m30_ ?_; (with_reducible refine (strongroomref12_May.calls k1 t288 t291 _ _ x298002_1 t310 false _ ?side1 ?side2 A54.out).mono ?_); (case side1 => refine (Kd.R_reads' (e := 35) (base := w.heap.size) (ok := fun k_ => True) (n := x298002_1.length) (c := co67) ?_).2.2; exact (by refine rD_ ?_; exact (Kd.R_mono (Kd.R_far (p := ⟨gb297, 3, none⟩) (Kd.R_types HO_298002.out BK297.out (by decide)) (fun _ hk => hk.2) (.string t310)) (fun _ h_ => h_.1)))); (case side2 => exact (Kd.R_reads' HO_298002.out).2.1); rintro e w68 ⟨rfl, hb⟩; refine ⟨_, rfl, ?_⟩; have n0_ := Aside0.mk (Kd.R_below (by refine rD_ ?_; exact (Kd.R_mono (Kd.R_far (p := ⟨gb297, 3, none⟩) (Kd.R_types HO_298002.out BK297.out (by decide)) (fun _ hk => hk.2) (.string t310)) (fun _ h_ => h_.1))) hb); have n1_ := Aside0.mk (blk_below (g := gb286) (o := .cells #[.int .i64 x287000_1, .int .i64 x287001_1, .slice none 0 0, .string x287003_1] 25 (0, 0)) (by refine bD_ ?_; refine blk_far ?_ NB286_297.out _; refine bD_ ?_; exact BK286.out) hb); have n2_ := Aside0.mk (blk_below (g := gb287) (o := .cells #[.int .i64 0, .int .i64 0, .slice none 0 0, .string (⟨#[]⟩ : ByteArray)] 25 (0, 0)) (by refine bD_ ?_; refine blk_far ?_ NB287_297.out _; refine bD_ ?_; exact BK287.out) hb); have n3_ := Aside0.mk (blk_below (g := gb297) (o := .cells #[.int .i64 t288, .int .i64 t291, .slice Ao67 x298002_1.length co67, .string t310] 25 (0, 0)) (by refine bD_ ?_; refine blk_put (cs := #[.int .i64 t288, .int .i64 t291, .slice Ao67 x298002_1.length co67, .string (⟨#[]⟩ : ByteArray)]) ?_ 3 _ rfl; refine bD_ ?_; exact BK297.out) hb); have n4_ := Aside0.mk (below_step m10_ hb); clear HO_298002; clear BK286; clear BK287; clear BK297; clear HB; have HO_298002 := n0_; have BK286 := n1_; have BK287 := n2_; have BK297 := n3_; have HB := n4_; clear n0_ n1_ n2_ n3_ n4_; (try clear hb); (try clear hb2); (try clear hk); (try clear hi); have hnb69 := NB287_286.out; have hnc69 := NB286_287.out; obtain ⟨hcz70_0, hcz70_1, hcz70_2, hcz70_3⟩ := bc4_ BK287.out; obtain ⟨hfz70_0, hfz70_1, hfz70_2, hfz70_3⟩ := bf4_ BK287.out; obtain ⟨hcz71_0, hcz71_1, hcz71_2, hcz71_3⟩ := bc4_ BK286.out; obtain ⟨hfz71_0, hfz71_1, hfz71_2, hfz71_3⟩ := bf4_ BK286.out))
    refine bodyPost_ret (results_ctt rfl _ _ gb286 25 #[.int .i64 0, .int .i64 0, .slice none 0 0, .string (⟨#[]⟩ : ByteArray)] (0, 0) _ rfl m0_ Tryd.underlying25 rfl (by kernel_rfl)) rfl ?_
    exact ⟨_, by first | rfl | (simp [errW_none, errW_some] <;> rfl) | (simp [*, errW_none, errW_some] <;> rfl), by first | exact Kd.R_nil _ _ _ _ _ | exact Kd.N_nil _ _ _ _ _ | exact Kd.V_nil _ _ _ _ _ | exact Kd.Q_nil _ _ _ _ _ | exact Kd.S_nil _ _ _ _ _, m60_⟩
   subst c55
   have H1 : (some (t288, t291, x298002_1, t310, t311, 0)) = some (r1, r2, r3, r4, r5, r6) := by rw [if_pos rfl] at H; exact H
   clear H
   have H := H1
   clear H1
   simp only [Option.some.injEq, Prod.mk.injEq] at H
   obtain ⟨rfl, rfl, rfl, rfl, rfl, rfl⟩ := H
   go_wp2_with (first | ((with_reducible refine gate_callee (f := 50) rfl ?_); refine goesL_ (some 115) rfl rfl Tryd.func50 (by kernel_rfl) rfl #[.string a0, .int .i64 x1_1, .int .i64 32] rfl m30_ ?_; (with_reducible refine (strongroomref01_GetText.calls k1 a0 x1_1 32 t310 t311 t312 _ A52.out).mono ?_); rintro e w' ⟨rfl, ⟨nd, rfl⟩⟩; refine ⟨_, rfl, ?_⟩; (try (rw [drewN_self wr]; generalize hq_ : World.drewN wr _ = wr; have n0_ : Aside0 (Kd.R k35 35 wr w.heap.size (fun _ => True) u298002 x298002_1) := ⟨by rw [← hq_]; exact m50_⟩; have n1_ : Aside0 (wr.heap[gb286]? = some (.cells #[.int .i64 x287000_1, .int .i64 x287001_1, .slice none 0 0, .string x287003_1] 25 (0, 0))) := ⟨by rw [← hq_]; exact m33_⟩; have n2_ : Aside0 (wr.heap[gb287]? = some (.cells #[.int .i64 0, .int .i64 0, .slice none 0 0, .string (⟨#[]⟩ : ByteArray)] 25 (0, 0))) := ⟨by rw [← hq_]; exact m42_⟩; have n3_ : Aside0 (wr.heap[gb297]? = some (.cells #[.int .i64 t288, .int .i64 t291, u298002, .string (⟨#[]⟩ : ByteArray)] 25 (0, 0))) := ⟨by rw [← hq_]; exact m41_⟩; have n4_ : Aside0 (Below w.heap.size w wr) := ⟨by rw [← hq_]; exact m10_⟩; clear HO_298002 BK286 BK287 BK297 HB hq_; have HO_298002 := n0_; have BK286 := n1_; have BK287 := n2_; have BK297 := n3_; have HB := n4_; clear n0_ n1_ n2_ n3_ n4_)); have hnb56 := NB297_286.out; have hnc56 := NB286_297.out; have hnb57 := NB297_287.out; have hnc57 := NB287_297.out; obtain ⟨hcz58_0, hcz58_1, hcz58_2, hcz58_3⟩ := bc4_ BK297.out; obtain ⟨hfz58_0, hfz58_1, hfz58_2, hfz58_3⟩ := bf4_ BK297.out; obtain ⟨Ao59, co59, eo59⟩ := Kd.R_slice HO_298002.out; subst eo59) | ((with_reducible refine gate_callee (f := 19) rfl ?_); refine goesL_ (some 126) rfl rfl Tryd.func19 (by kernel_rfl) rfl #[.agg #[.int .i64 t288, .int .i64 t291, .slice Ao59 x298002_1.length co59, .string t310]] rfl m30_ ?_; (with_reducible refine (strongroomref12_May.calls k1 t288 t291 _ _ x298002_1 t310 true _ ?side1 ?side2 A54.out).mono ?_); (case side1 => refine (Kd.R_reads' (e := 35) (base := w.heap.size) (ok := fun k_ => True) (n := x298002_1.length) (c := co59) ?_).2.2; exact (by refine rD_ ?_; exact (Kd.R_mono (Kd.R_far (p := ⟨gb297, 3, none⟩) (Kd.R_types HO_298002.out BK297.out (by decide)) (fun _ hk => hk.2) (.string t310)) (fun _ h_ => h_.1)))); (case side2 => exact (Kd.R_reads' HO_298002.out).2.1); rintro e w60 ⟨rfl, hb⟩; refine ⟨_, rfl, ?_⟩; have n0_ := Aside0.mk (Kd.R_below (by refine rD_ ?_; exact (Kd.R_mono (Kd.R_far (p := ⟨gb297, 3, none⟩) (Kd.R_types HO_298002.out BK297.out (by decide)) (fun _ hk => hk.2) (.string t310)) (fun _ h_ => h_.1))) hb); have n1_ := Aside0.mk (blk_below (g := gb286) (o := .cells #[.int .i64 x287000_1, .int .i64 x287001_1, .slice none 0 0, .string x287003_1] 25 (0, 0)) (by refine bD_ ?_; refine blk_far ?_ NB286_297.out _; refine bD_ ?_; exact BK286.out) hb); have n2_ := Aside0.mk (blk_below (g := gb287) (o := .cells #[.int .i64 0, .int .i64 0, .slice none 0 0, .string (⟨#[]⟩ : ByteArray)] 25 (0, 0)) (by refine bD_ ?_; refine blk_far ?_ NB287_297.out _; refine bD_ ?_; exact BK287.out) hb); have n3_ := Aside0.mk (blk_below (g := gb297) (o := .cells #[.int .i64 t288, .int .i64 t291, .slice Ao59 x298002_1.length co59, .string t310] 25 (0, 0)) (by refine bD_ ?_; refine blk_put (cs := #[.int .i64 t288, .int .i64 t291, .slice Ao59 x298002_1.length co59, .string (⟨#[]⟩ : ByteArray)]) ?_ 3 _ rfl; refine bD_ ?_; exact BK297.out) hb); have n4_ := Aside0.mk (below_step m10_ hb); clear HO_298002; clear BK286; clear BK287; clear BK297; clear HB; have HO_298002 := n0_; have BK286 := n1_; have BK287 := n2_; have BK297 := n3_; have HB := n4_; clear n0_ n1_ n2_ n3_ n4_; (try clear hb); (try clear hb2); (try clear hk); (try clear hi); obtain ⟨hcz61_0, hcz61_1, hcz61_2, hcz61_3⟩ := bc4_ BK297.out; obtain ⟨hfz61_0, hfz61_1, hfz61_2, hfz61_3⟩ := bf4_ BK297.out; have hnb62 := NB286_287.out; have hnc62 := NB287_286.out; obtain ⟨hcz63_0, hcz63_1, hcz63_2, hcz63_3⟩ := bc4_ BK286.out; obtain ⟨hfz63_0, hfz63_1, hfz63_2, hfz63_3⟩ := bf4_ BK286.out))
   refine bodyPost_ret (results_ctt rfl _ _ gb286 25 #[.int .i64 t288, .int .i64 t291, .slice Ao59 x298002_1.length co59, .string t310] (0, 0) _ rfl (by refine bD_ ?_; refine blk_put (cs := #[.int .i64 t288, .int .i64 t291, .slice Ao59 x298002_1.length co59, .string x287003_1]) ?_ 3 _ rfl; refine bD_ ?_; refine blk_put (cs := #[.int .i64 t288, .int .i64 t291, .slice none 0 0, .string x287003_1]) ?_ 2 _ rfl; refine bD_ ?_; refine blk_put (cs := #[.int .i64 t288, .int .i64 x287001_1, .slice none 0 0, .string x287003_1]) ?_ 1 _ rfl; refine bD_ ?_; refine blk_put (cs := #[.int .i64 x287000_1, .int .i64 x287001_1, .slice none 0 0, .string x287003_1]) ?_ 0 _ rfl; refine bD_ ?_; exact BK286.out) Tryd.underlying25 rfl (by kernel_rfl)) rfl ?_
   exact ⟨_, by first | rfl | (simp [errW_none, errW_some] <;> rfl) | (simp [*, errW_none, errW_some] <;> rfl), by refine rD_ ?_; exact Kd.R_mono (Kd.R_far (p := ⟨gb286, 3, none⟩) (Kd.R_far (p := ⟨gb286, 2, none⟩) (Kd.R_far (p := ⟨gb286, 1, none⟩) (Kd.R_far (p := ⟨gb286, 0, none⟩) (Kd.R_types HO_298002.out BK286.out (by decide)) (fun _ hk => hk.2) (.int .i64 t288)) (fun _ hk => hk.2) (.int .i64 t291)) (fun _ hk => hk.2) (.slice Ao59 x298002_1.length co59)) (fun _ hk => hk.2) (.string t310)) (fun _ hk => trivial), m60_⟩
  rw [if_pos c23] at H
  have c23b0 : decide (x13_1 < t294) = true := decide_eq_true c23
  clear c23
  replace H := Option.bind_eq_some_iff.mp H
  obtain ⟨⟨t298, t299, t300⟩, A240, H⟩ := H
  replace H : (if t300 = 0 then ((strongroomref12_number.f k1 a0 t299).bind fun bt301 => (if bt301.2.2 = 0 then ((strongroomref12_number.f k1 a0 bt301.2.1).bind fun bt304 => (if bt304.2.2 = 0 then (if x298002_1.length < 4398046511104 then (strongroomref12_Decode.l0 k1 a0 bt304.2.1 t294 (wrap64 (x13_1 + 1)) 0 0 (⟨#[]⟩ : ByteArray) t288 t291 (x298002_1 ++ [(⟨t298, bt301.1, bt304.1⟩ : S35)]) (⟨#[]⟩ : ByteArray)) else (none)) else (some (0, 0, ([] : List (S35)), (⟨#[]⟩ : ByteArray), 0, bt304.2.2)))) else (some (0, 0, ([] : List (S35)), (⟨#[]⟩ : ByteArray), 0, bt301.2.2)))) else (some (0, 0, ([] : List (S35)), (⟨#[]⟩ : ByteArray), 0, t300))) = some (r1, r2, r3, r4, r5, r6) := H
  have A24 := Aside0.mk A240
  clear A240
  by_cases c25 : t300 = 0
  case neg =>
   rw [if_neg c25] at H
   have c25b0 : (t300 == 0) = false := beq_eq_false_iff_ne.mpr c25
   have c25b1 : (t300 != 0) = true := bne_iff_ne.mpr c25
   simp only [Option.some.injEq, Prod.mk.injEq] at H
   obtain ⟨rfl, rfl, rfl, rfl, rfl, rfl⟩ := H
   go_wp2_with (first | ((with_reducible refine gate_callee (f := 50) rfl ?_); refine goesL_ (some 72) rfl rfl Tryd.func50 (by kernel_rfl) rfl #[.string a0, .int .i64 x1_1, .int .i64 32] rfl m30_ ?_; (with_reducible refine (strongroomref01_GetText.calls k1 a0 x1_1 32 t298 t299 t300 _ A24.out).mono ?_); rintro e w' ⟨rfl, ⟨nd, rfl⟩⟩; refine ⟨_, rfl, ?_⟩; (try (rw [drewN_self wr]; generalize hq_ : World.drewN wr _ = wr; have n0_ : Aside0 (Kd.R k35 35 wr w.heap.size (fun _ => True) u298002 x298002_1) := ⟨by rw [← hq_]; exact m50_⟩; have n1_ : Aside0 (wr.heap[gb286]? = some (.cells #[.int .i64 x287000_1, .int .i64 x287001_1, .slice none 0 0, .string x287003_1] 25 (0, 0))) := ⟨by rw [← hq_]; exact m33_⟩; have n2_ : Aside0 (wr.heap[gb287]? = some (.cells #[.int .i64 0, .int .i64 0, .slice none 0 0, .string (⟨#[]⟩ : ByteArray)] 25 (0, 0))) := ⟨by rw [← hq_]; exact m42_⟩; have n3_ : Aside0 (wr.heap[gb297]? = some (.cells #[.int .i64 t288, .int .i64 t291, u298002, .string (⟨#[]⟩ : ByteArray)] 25 (0, 0))) := ⟨by rw [← hq_]; exact m41_⟩; have n4_ : Aside0 (Below w.heap.size w wr) := ⟨by rw [← hq_]; exact m10_⟩; clear HO_298002 BK286 BK287 BK297 HB hq_; have HO_298002 := n0_; have BK286 := n1_; have BK287 := n2_; have BK297 := n3_; have HB := n4_; clear n0_ n1_ n2_ n3_ n4_)); have hnb47 := NB287_286.out; have hnc47 := NB286_287.out; have hnb48 := NB287_297.out; have hnc48 := NB297_287.out; obtain ⟨hcz49_0, hcz49_1, hcz49_2, hcz49_3⟩ := bc4_ BK287.out; obtain ⟨hfz49_0, hfz49_1, hfz49_2, hfz49_3⟩ := bf4_ BK287.out; have hnb50 := NB286_297.out; have hnc50 := NB297_286.out; obtain ⟨hcz51_0, hcz51_1, hcz51_2, hcz51_3⟩ := bc4_ BK286.out; obtain ⟨hfz51_0, hfz51_1, hfz51_2, hfz51_3⟩ := bf4_ BK286.out))
   refine bodyPost_ret (results_ctt rfl _ _ gb286 25 #[.int .i64 0, .int .i64 0, .slice none 0 0, .string (⟨#[]⟩ : ByteArray)] (0, 0) _ rfl m0_ Tryd.underlying25 rfl (by kernel_rfl)) rfl ?_
   exact ⟨_, by first | rfl | (simp [errW_none, errW_some] <;> rfl) | (simp [*, errW_none, errW_some] <;> rfl), by first | exact Kd.R_nil _ _ _ _ _ | exact Kd.N_nil _ _ _ _ _ | exact Kd.V_nil _ _ _ _ _ | exact Kd.Q_nil _ _ _ _ _ | exact Kd.S_nil _ _ _ _ _, m60_⟩
  rw [if_pos c25] at H
  have c25b0 : (t300 == 0) = true := beq_iff_eq.mpr c25
  have c25b1 : (t300 != 0) = false := bne_eq_false_iff_eq.mpr c25
  clear c25
  replace H := Option.bind_eq_some_iff.mp H
  obtain ⟨⟨t301, t302, t303⟩, A260, H⟩ := H
  replace H : (if t303 = 0 then ((strongroomref12_number.f k1 a0 t302).bind fun bt304 => (if bt304.2.2 = 0 then (if x298002_1.length < 4398046511104 then (strongroomref12_Decode.l0 k1 a0 bt304.2.1 t294 (wrap64 (x13_1 + 1)) 0 0 (⟨#[]⟩ : ByteArray) t288 t291 (x298002_1 ++ [(⟨t298, t301, bt304.1⟩ : S35)]) (⟨#[]⟩ : ByteArray)) else (none)) else (some (0, 0, ([] : List (S35)), (⟨#[]⟩ : ByteArray), 0, bt304.2.2)))) else (some (0, 0, ([] : List (S35)), (⟨#[]⟩ : ByteArray), 0, t303))) = some (r1, r2, r3, r4, r5, r6) := H
  have A26 := Aside0.mk A260
  clear A260
  by_cases c27 : t303 = 0
  case neg =>
   rw [if_neg c27] at H
   have c27b0 : (t303 == 0) = false := beq_eq_false_iff_ne.mpr c27
   have c27b1 : (t303 != 0) = true := bne_iff_ne.mpr c27
   simp only [Option.some.injEq, Prod.mk.injEq] at H
   obtain ⟨rfl, rfl, rfl, rfl, rfl, rfl⟩ := H
   go_wp2_with (first | ((with_reducible refine gate_callee (f := 50) rfl ?_); refine goesL_ (some 72) rfl rfl Tryd.func50 (by kernel_rfl) rfl #[.string a0, .int .i64 x1_1, .int .i64 32] rfl m30_ ?_; (with_reducible refine (strongroomref01_GetText.calls k1 a0 x1_1 32 t298 t299 t300 _ A24.out).mono ?_); rintro e w' ⟨rfl, ⟨nd, rfl⟩⟩; refine ⟨_, rfl, ?_⟩; (try (rw [drewN_self wr]; generalize hq_ : World.drewN wr _ = wr; have n0_ : Aside0 (Kd.R k35 35 wr w.heap.size (fun _ => True) u298002 x298002_1) := ⟨by rw [← hq_]; exact m50_⟩; have n1_ : Aside0 (wr.heap[gb286]? = some (.cells #[.int .i64 x287000_1, .int .i64 x287001_1, .slice none 0 0, .string x287003_1] 25 (0, 0))) := ⟨by rw [← hq_]; exact m33_⟩; have n2_ : Aside0 (wr.heap[gb287]? = some (.cells #[.int .i64 0, .int .i64 0, .slice none 0 0, .string (⟨#[]⟩ : ByteArray)] 25 (0, 0))) := ⟨by rw [← hq_]; exact m42_⟩; have n3_ : Aside0 (wr.heap[gb297]? = some (.cells #[.int .i64 t288, .int .i64 t291, u298002, .string (⟨#[]⟩ : ByteArray)] 25 (0, 0))) := ⟨by rw [← hq_]; exact m41_⟩; have n4_ : Aside0 (Below w.heap.size w wr) := ⟨by rw [← hq_]; exact m10_⟩; clear HO_298002 BK286 BK287 BK297 HB hq_; have HO_298002 := n0_; have BK286 := n1_; have BK287 := n2_; have BK297 := n3_; have HB := n4_; clear n0_ n1_ n2_ n3_ n4_))) | ((with_reducible refine gate_callee (f := 49) rfl ?_); refine goesL_ (some 83) rfl rfl Tryd.func49 (by kernel_rfl) rfl #[.string a0, .int .i64 t299] rfl m30_ ?_; (with_reducible refine (strongroomref12_number.calls k1 a0 t299 t301 t302 t303 _ A26.out).mono ?_); rintro e w' ⟨rfl, ⟨nd, rfl⟩⟩; refine ⟨_, rfl, ?_⟩; (try (rw [drewN_self wr]; generalize hq_ : World.drewN wr _ = wr; have n0_ : Aside0 (Kd.R k35 35 wr w.heap.size (fun _ => True) u298002 x298002_1) := ⟨by rw [← hq_]; exact m50_⟩; have n1_ : Aside0 (wr.heap[gb286]? = some (.cells #[.int .i64 x287000_1, .int .i64 x287001_1, .slice none 0 0, .string x287003_1] 25 (0, 0))) := ⟨by rw [← hq_]; exact m33_⟩; have n2_ : Aside0 (wr.heap[gb287]? = some (.cells #[.int .i64 0, .int .i64 0, .slice none 0 0, .string (⟨#[]⟩ : ByteArray)] 25 (0, 0))) := ⟨by rw [← hq_]; exact m42_⟩; have n3_ : Aside0 (wr.heap[gb297]? = some (.cells #[.int .i64 t288, .int .i64 t291, u298002, .string (⟨#[]⟩ : ByteArray)] 25 (0, 0))) := ⟨by rw [← hq_]; exact m41_⟩; have n4_ : Aside0 (Below w.heap.size w wr) := ⟨by rw [← hq_]; exact m10_⟩; clear HO_298002 BK286 BK287 BK297 HB hq_; have HO_298002 := n0_; have BK286 := n1_; have BK287 := n2_; have BK297 := n3_; have HB := n4_; clear n0_ n1_ n2_ n3_ n4_)); have hnb42 := NB287_286.out; have hnc42 := NB286_287.out; have hnb43 := NB287_297.out; have hnc43 := NB297_287.out; obtain ⟨hcz44_0, hcz44_1, hcz44_2, hcz44_3⟩ := bc4_ BK287.out; obtain ⟨hfz44_0, hfz44_1, hfz44_2, hfz44_3⟩ := bf4_ BK287.out; have hnb45 := NB286_297.out; have hnc45 := NB297_286.out; obtain ⟨hcz46_0, hcz46_1, hcz46_2, hcz46_3⟩ := bc4_ BK286.out; obtain ⟨hfz46_0, hfz46_1, hfz46_2, hfz46_3⟩ := bf4_ BK286.out))
   refine bodyPost_ret (results_ctt rfl _ _ gb286 25 #[.int .i64 0, .int .i64 0, .slice none 0 0, .string (⟨#[]⟩ : ByteArray)] (0, 0) _ rfl m0_ Tryd.underlying25 rfl (by kernel_rfl)) rfl ?_
   exact ⟨_, by first | rfl | (simp [errW_none, errW_some] <;> rfl) | (simp [*, errW_none, errW_some] <;> rfl), by first | exact Kd.R_nil _ _ _ _ _ | exact Kd.N_nil _ _ _ _ _ | exact Kd.V_nil _ _ _ _ _ | exact Kd.Q_nil _ _ _ _ _ | exact Kd.S_nil _ _ _ _ _, m60_⟩
  rw [if_pos c27] at H
  have c27b0 : (t303 == 0) = true := beq_iff_eq.mpr c27
  have c27b1 : (t303 != 0) = false := bne_eq_false_iff_eq.mpr c27
  clear c27
  replace H := Option.bind_eq_some_iff.mp H
  obtain ⟨⟨t304, t305, t306⟩, A280, H⟩ := H
  replace H : (if t306 = 0 then (if x298002_1.length < 4398046511104 then (strongroomref12_Decode.l0 k1 a0 t305 t294 (wrap64 (x13_1 + 1)) 0 0 (⟨#[]⟩ : ByteArray) t288 t291 (x298002_1 ++ [(⟨t298, t301, t304⟩ : S35)]) (⟨#[]⟩ : ByteArray)) else (none)) else (some (0, 0, ([] : List (S35)), (⟨#[]⟩ : ByteArray), 0, t306))) = some (r1, r2, r3, r4, r5, r6) := H
  have A28 := Aside0.mk A280
  clear A280
  by_cases c29 : t306 = 0
  case neg =>
   rw [if_neg c29] at H
   have c29b0 : (t306 == 0) = false := beq_eq_false_iff_ne.mpr c29
   have c29b1 : (t306 != 0) = true := bne_iff_ne.mpr c29
   simp only [Option.some.injEq, Prod.mk.injEq] at H
   obtain ⟨rfl, rfl, rfl, rfl, rfl, rfl⟩ := H
   go_wp2_with (first | ((with_reducible refine gate_callee (f := 50) rfl ?_); refine goesL_ (some 72) rfl rfl Tryd.func50 (by kernel_rfl) rfl #[.string a0, .int .i64 x1_1, .int .i64 32] rfl m30_ ?_; (with_reducible refine (strongroomref01_GetText.calls k1 a0 x1_1 32 t298 t299 t300 _ A24.out).mono ?_); rintro e w' ⟨rfl, ⟨nd, rfl⟩⟩; refine ⟨_, rfl, ?_⟩; (try (rw [drewN_self wr]; generalize hq_ : World.drewN wr _ = wr; have n0_ : Aside0 (Kd.R k35 35 wr w.heap.size (fun _ => True) u298002 x298002_1) := ⟨by rw [← hq_]; exact m50_⟩; have n1_ : Aside0 (wr.heap[gb286]? = some (.cells #[.int .i64 x287000_1, .int .i64 x287001_1, .slice none 0 0, .string x287003_1] 25 (0, 0))) := ⟨by rw [← hq_]; exact m33_⟩; have n2_ : Aside0 (wr.heap[gb287]? = some (.cells #[.int .i64 0, .int .i64 0, .slice none 0 0, .string (⟨#[]⟩ : ByteArray)] 25 (0, 0))) := ⟨by rw [← hq_]; exact m42_⟩; have n3_ : Aside0 (wr.heap[gb297]? = some (.cells #[.int .i64 t288, .int .i64 t291, u298002, .string (⟨#[]⟩ : ByteArray)] 25 (0, 0))) := ⟨by rw [← hq_]; exact m41_⟩; have n4_ : Aside0 (Below w.heap.size w wr) := ⟨by rw [← hq_]; exact m10_⟩; clear HO_298002 BK286 BK287 BK297 HB hq_; have HO_298002 := n0_; have BK286 := n1_; have BK287 := n2_; have BK297 := n3_; have HB := n4_; clear n0_ n1_ n2_ n3_ n4_))) | ((with_reducible refine gate_callee (f := 49) rfl ?_); refine goesL_ (some 83) rfl rfl Tryd.func49 (by kernel_rfl) rfl #[.string a0, .int .i64 t299] rfl m30_ ?_; (with_reducible refine (strongroomref12_number.calls k1 a0 t299 t301 t302 t303 _ A26.out).mono ?_); rintro e w' ⟨rfl, ⟨nd, rfl⟩⟩; refine ⟨_, rfl, ?_⟩; (try (rw [drewN_self wr]; generalize hq_ : World.drewN wr _ = wr; have n0_ : Aside0 (Kd.R k35 35 wr w.heap.size (fun _ => True) u298002 x298002_1) := ⟨by rw [← hq_]; exact m50_⟩; have n1_ : Aside0 (wr.heap[gb286]? = some (.cells #[.int .i64 x287000_1, .int .i64 x287001_1, .slice none 0 0, .string x287003_1] 25 (0, 0))) := ⟨by rw [← hq_]; exact m33_⟩; have n2_ : Aside0 (wr.heap[gb287]? = some (.cells #[.int .i64 0, .int .i64 0, .slice none 0 0, .string (⟨#[]⟩ : ByteArray)] 25 (0, 0))) := ⟨by rw [← hq_]; exact m42_⟩; have n3_ : Aside0 (wr.heap[gb297]? = some (.cells #[.int .i64 t288, .int .i64 t291, u298002, .string (⟨#[]⟩ : ByteArray)] 25 (0, 0))) := ⟨by rw [← hq_]; exact m41_⟩; have n4_ : Aside0 (Below w.heap.size w wr) := ⟨by rw [← hq_]; exact m10_⟩; clear HO_298002 BK286 BK287 BK297 HB hq_; have HO_298002 := n0_; have BK286 := n1_; have BK287 := n2_; have BK297 := n3_; have HB := n4_; clear n0_ n1_ n2_ n3_ n4_))) | ((with_reducible refine gate_callee (f := 49) rfl ?_); refine goesL_ (some 94) rfl rfl Tryd.func49 (by kernel_rfl) rfl #[.string a0, .int .i64 t302] rfl m30_ ?_; (with_reducible refine (strongroomref12_number.calls k1 a0 t302 t304 t305 t306 _ A28.out).mono ?_); rintro e w' ⟨rfl, ⟨nd, rfl⟩⟩; refine ⟨_, rfl, ?_⟩; (try (rw [drewN_self wr]; generalize hq_ : World.drewN wr _ = wr; have n0_ : Aside0 (Kd.R k35 35 wr w.heap.size (fun _ => True) u298002 x298002_1) := ⟨by rw [← hq_]; exact m50_⟩; have n1_ : Aside0 (wr.heap[gb286]? = some (.cells #[.int .i64 x287000_1, .int .i64 x287001_1, .slice none 0 0, .string x287003_1] 25 (0, 0))) := ⟨by rw [← hq_]; exact m33_⟩; have n2_ : Aside0 (wr.heap[gb287]? = some (.cells #[.int .i64 0, .int .i64 0, .slice none 0 0, .string (⟨#[]⟩ : ByteArray)] 25 (0, 0))) := ⟨by rw [← hq_]; exact m42_⟩; have n3_ : Aside0 (wr.heap[gb297]? = some (.cells #[.int .i64 t288, .int .i64 t291, u298002, .string (⟨#[]⟩ : ByteArray)] 25 (0, 0))) := ⟨by rw [← hq_]; exact m41_⟩; have n4_ : Aside0 (Below w.heap.size w wr) := ⟨by rw [← hq_]; exact m10_⟩; clear HO_298002 BK286 BK287 BK297 HB hq_; have HO_298002 := n0_; have BK286 := n1_; have BK287 := n2_; have BK297 := n3_; have HB := n4_; clear n0_ n1_ n2_ n3_ n4_)); have hnb37 := NB287_286.out; have hnc37 := NB286_287.out; have hnb38 := NB287_297.out; have hnc38 := NB297_287.out; obtain ⟨hcz39_0, hcz39_1, hcz39_2, hcz39_3⟩ := bc4_ BK287.out; obtain ⟨hfz39_0, hfz39_1, hfz39_2, hfz39_3⟩ := bf4_ BK287.out; have hnb40 := NB286_297.out; have hnc40 := NB297_286.out; obtain ⟨hcz41_0, hcz41_1, hcz41_2, hcz41_3⟩ := bc4_ BK286.out; obtain ⟨hfz41_0, hfz41_1, hfz41_2, hfz41_3⟩ := bf4_ BK286.out))
   refine bodyPost_ret (results_ctt rfl _ _ gb286 25 #[.int .i64 0, .int .i64 0, .slice none 0 0, .string (⟨#[]⟩ : ByteArray)] (0, 0) _ rfl m0_ Tryd.underlying25 rfl (by kernel_rfl)) rfl ?_
   exact ⟨_, by first | rfl | (simp [errW_none, errW_some] <;> rfl) | (simp [*, errW_none, errW_some] <;> rfl), by first | exact Kd.R_nil _ _ _ _ _ | exact Kd.N_nil _ _ _ _ _ | exact Kd.V_nil _ _ _ _ _ | exact Kd.Q_nil _ _ _ _ _ | exact Kd.S_nil _ _ _ _ _, m60_⟩
  rw [if_pos c29] at H
  have c29b0 : (t306 == 0) = true := beq_iff_eq.mpr c29
  have c29b1 : (t306 != 0) = false := bne_eq_false_iff_eq.mpr c29
  clear c29
  by_cases c30 : x298002_1.length < 4398046511104
  case neg =>
   rw [if_neg c30] at H
   exact absurd H (by simp)
  rw [if_pos c30] at H
  have LMc30 := Aside0.mk c30
  clear c30
  obtain ⟨y307, hy307⟩ : ∃ y_ : List (S35), y_ = (x298002_1 ++ [(⟨t298, t301, t304⟩ : S35)]) := ⟨_, rfl⟩
  replace H : (strongroomref12_Decode.l0 k1 a0 t305 t294 (wrap64 (x13_1 + 1)) 0 0 (⟨#[]⟩ : ByteArray) t288 t291 y307 (⟨#[]⟩ : ByteArray)) = some (r1, r2, r3, r4, r5, r6) := by first | (rw [hy307]; with_reducible exact H) | (have H2_ := (Option.bind_some _ _).symm.trans H; rw [hy307]; with_reducible exact H2_) | (have H2_ := (Option.bind_some _ _).symm.trans H; with_reducible exact H2_) | with_reducible exact H | (rw [hy307]; exact H) | exact H
  have Ny307 := Aside0.mk hy307
  clear hy307
  have H' := Aside0.mk H
  clear H
  go_wp2_with (first | ((with_reducible refine gate_callee (f := 50) rfl ?_); refine goesL_ (some 72) rfl rfl Tryd.func50 (by kernel_rfl) rfl #[.string a0, .int .i64 x1_1, .int .i64 32] rfl m30_ ?_; (with_reducible refine (strongroomref01_GetText.calls k1 a0 x1_1 32 t298 t299 t300 _ A24.out).mono ?_); rintro e w' ⟨rfl, ⟨nd, rfl⟩⟩; refine ⟨_, rfl, ?_⟩; (try (rw [drewN_self wr]; generalize hq_ : World.drewN wr _ = wr; have n0_ : Aside0 (Kd.R k35 35 wr w.heap.size (fun _ => True) u298002 x298002_1) := ⟨by rw [← hq_]; exact m50_⟩; have n1_ : Aside0 (wr.heap[gb286]? = some (.cells #[.int .i64 x287000_1, .int .i64 x287001_1, .slice none 0 0, .string x287003_1] 25 (0, 0))) := ⟨by rw [← hq_]; exact m33_⟩; have n2_ : Aside0 (wr.heap[gb287]? = some (.cells #[.int .i64 0, .int .i64 0, .slice none 0 0, .string (⟨#[]⟩ : ByteArray)] 25 (0, 0))) := ⟨by rw [← hq_]; exact m42_⟩; have n3_ : Aside0 (wr.heap[gb297]? = some (.cells #[.int .i64 t288, .int .i64 t291, u298002, .string (⟨#[]⟩ : ByteArray)] 25 (0, 0))) := ⟨by rw [← hq_]; exact m41_⟩; have n4_ : Aside0 (Below w.heap.size w wr) := ⟨by rw [← hq_]; exact m10_⟩; clear HO_298002 BK286 BK287 BK297 HB hq_; have HO_298002 := n0_; have BK286 := n1_; have BK287 := n2_; have BK297 := n3_; have HB := n4_; clear n0_ n1_ n2_ n3_ n4_))) | ((with_reducible refine gate_callee (f := 49) rfl ?_); refine goesL_ (some 83) rfl rfl Tryd.func49 (by kernel_rfl) rfl #[.string a0, .int .i64 t299] rfl m30_ ?_; (with_reducible refine (strongroomref12_number.calls k1 a0 t299 t301 t302 t303 _ A26.out).mono ?_); rintro e w' ⟨rfl, ⟨nd, rfl⟩⟩; refine ⟨_, rfl, ?_⟩; (try (rw [drewN_self wr]; generalize hq_ : World.drewN wr _ = wr; have n0_ : Aside0 (Kd.R k35 35 wr w.heap.size (fun _ => True) u298002 x298002_1) := ⟨by rw [← hq_]; exact m50_⟩; have n1_ : Aside0 (wr.heap[gb286]? = some (.cells #[.int .i64 x287000_1, .int .i64 x287001_1, .slice none 0 0, .string x287003_1] 25 (0, 0))) := ⟨by rw [← hq_]; exact m33_⟩; have n2_ : Aside0 (wr.heap[gb287]? = some (.cells #[.int .i64 0, .int .i64 0, .slice none 0 0, .string (⟨#[]⟩ : ByteArray)] 25 (0, 0))) := ⟨by rw [← hq_]; exact m42_⟩; have n3_ : Aside0 (wr.heap[gb297]? = some (.cells #[.int .i64 t288, .int .i64 t291, u298002, .string (⟨#[]⟩ : ByteArray)] 25 (0, 0))) := ⟨by rw [← hq_]; exact m41_⟩; have n4_ : Aside0 (Below w.heap.size w wr) := ⟨by rw [← hq_]; exact m10_⟩; clear HO_298002 BK286 BK287 BK297 HB hq_; have HO_298002 := n0_; have BK286 := n1_; have BK287 := n2_; have BK297 := n3_; have HB := n4_; clear n0_ n1_ n2_ n3_ n4_))) | ((with_reducible refine gate_callee (f := 49) rfl ?_); refine goesL_ (some 94) rfl rfl Tryd.func49 (by kernel_rfl) rfl #[.string a0, .int .i64 t302] rfl m30_ ?_; (with_reducible refine (strongroomref12_number.calls k1 a0 t302 t304 t305 t306 _ A28.out).mono ?_); rintro e w' ⟨rfl, ⟨nd, rfl⟩⟩; refine ⟨_, rfl, ?_⟩; (try (rw [drewN_self wr]; generalize hq_ : World.drewN wr _ = wr; have n0_ : Aside0 (Kd.R k35 35 wr w.heap.size (fun _ => True) u298002 x298002_1) := ⟨by rw [← hq_]; exact m50_⟩; have n1_ : Aside0 (wr.heap[gb286]? = some (.cells #[.int .i64 x287000_1, .int .i64 x287001_1, .slice none 0 0, .string x287003_1] 25 (0, 0))) := ⟨by rw [← hq_]; exact m33_⟩; have n2_ : Aside0 (wr.heap[gb287]? = some (.cells #[.int .i64 0, .int .i64 0, .slice none 0 0, .string (⟨#[]⟩ : ByteArray)] 25 (0, 0))) := ⟨by rw [← hq_]; exact m42_⟩; have n3_ : Aside0 (wr.heap[gb297]? = some (.cells #[.int .i64 t288, .int .i64 t291, u298002, .string (⟨#[]⟩ : ByteArray)] 25 (0, 0))) := ⟨by rw [← hq_]; exact m41_⟩; have n4_ : Aside0 (Below w.heap.size w wr) := ⟨by rw [← hq_]; exact m10_⟩; clear HO_298002 BK286 BK287 BK297 HB hq_; have HO_298002 := n0_; have BK286 := n1_; have BK287 := n2_; have BK297 := n3_; have HB := n4_; clear n0_ n1_ n2_ n3_ n4_)); have hnb31 := NB297_286.out; have hnc31 := NB286_297.out; have hnb32 := NB297_287.out; have hnc32 := NB287_297.out; obtain ⟨hcz33_0, hcz33_1, hcz33_2, hcz33_3⟩ := bc4_ BK297.out; obtain ⟨hfz33_0, hfz33_1, hfz33_2, hfz33_3⟩ := bf4_ BK297.out) | ((with_reducible refine gate_builtin (b := .append) (xs := #[.tmp 103, .tmp 108]) rfl ?_); at_builtin; refine Kd.R_append k35 (w0 := w) w.heap.size rfl (.tmp 103) (.tmp 108) 23 35 (.agg #[(.string ⟨#[]⟩), (.int .i64 0), (.int .i64 0)]) 32 rfl Tryd.underlying23 info35 rfl (by decide) (by omega) u298002 x298002_1 (⟨t298, t301, t304⟩ : S35) [.string t298, .int .i64 t301, .int .i64 t304] (fun _ => True) (fun _ => False) rfl rfl ?aP (fun _ hk => hk.elim) ?aF ?aO ?aB ?aS ?aL ?_; (case aP => exact k35_mkM _ _ _ (⟨t298, t301, t304⟩ : S35)); (case aB => exact m10_); (case aF => exact (fun _ _ => trivial)); (case aO => exact m50_); (case aS => exact (below_size m10_)); (case aL => have := LMc30.out; omega); intro v308 w34 ho hb hg hat; rw [← Ny307.out] at ho; have n0_ := Aside0.mk (blk_grown (g := gb286) (o := .cells #[.int .i64 x287000_1, .int .i64 x287001_1, .slice none 0 0, .string x287003_1] 25 (0, 0)) m33_ hg (Kd.R_ne HO_298002.out BK286.out (by decide))); have n1_ := Aside0.mk (blk_grown (g := gb287) (o := .cells #[.int .i64 0, .int .i64 0, .slice none 0 0, .string (⟨#[]⟩ : ByteArray)] 25 (0, 0)) m42_ hg (Kd.R_ne HO_298002.out BK287.out (by decide))); have n2_ := Aside0.mk (blk_grown (g := gb297) (o := .cells #[.int .i64 t288, .int .i64 t291, u298002, .string (⟨#[]⟩ : ByteArray)] 25 (0, 0)) m41_ hg (Kd.R_ne HO_298002.out BK297.out (by decide))); have n3_ := Aside0.mk (hb); have n4_ := Aside0.mk (ho); clear BK286; clear BK287; clear BK297; clear HB; clear HO_298002; have BK286 := n0_; have BK287 := n1_; have BK297 := n2_; have HB := n3_; have HO309 := n4_; clear n0_ n1_ n2_ n3_ n4_; clear ho hb hg hat; obtain ⟨Ao35, co35, eo35⟩ := Kd.R_slice HO309.out; subst eo35; obtain ⟨hcz36_0, hcz36_1, hcz36_2, hcz36_3⟩ := bc4_ BK297.out; obtain ⟨hfz36_0, hfz36_1, hfz36_2, hfz36_3⟩ := bf4_ BK297.out))
  go_roundg k1
  case measure => have := HK1.out; omega
  case rel => exact ⟨(t305), (wrap64 (x13_1 + 1)), (x287000_1), (x287001_1), (x287003_1), (y307), (.slice Ao35 y307.length co35), m55_, m55_, H', ⟨by have := HK1.out; omega⟩, ⟨by refine rD_ ?_; exact Kd.R_mono (Kd.R_far (p := ⟨gb297, 2, none⟩) (Kd.R_types HO309.out BK297.out (by decide)) (fun _ hk => hk.2) (.slice Ao35 y307.length co35)) (fun _ hk => trivial)⟩, ⟨by refine bD_ ?_; refine blk_far ?_ NB286_297.out _; refine bD_ ?_; exact BK286.out⟩, ⟨by refine bD_ ?_; refine blk_far ?_ NB287_297.out _; refine bD_ ?_; exact BK287.out⟩, ⟨by refine bD_ ?_; refine blk_put (cs := #[.int .i64 t288, .int .i64 t291, u298002, .string (⟨#[]⟩ : ByteArray)]) ?_ 2 _ rfl; refine bD_ ?_; exact BK297.out⟩, ⟨m60_⟩⟩

end Go.Proofs.YtedmkffepmcpaaaDoorH.HCapCodes
