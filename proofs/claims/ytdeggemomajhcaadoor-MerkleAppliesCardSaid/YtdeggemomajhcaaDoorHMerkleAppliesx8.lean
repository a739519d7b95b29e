-- PRINTED by print.py (a twelfth state) out of the translation. Not trusted: Lean checks it.
import Derived.Test.YtdeggemomajhcaaDoorHMerkleAppliesx0
import Derived.Test.YtdeggemomajhcaaDoorHMerkleAppliesx7
namespace Go.Proofs.YtdeggemomajhcaaDoorH.HMerkleApplies
open Go.RowKit Go.Proofs.YtdeggemomajhcaaDoorW.PrintWords Go.Proofs.YtdeggemomajhcaaDoorW.PrintLast Go.Proofs.YtdeggemomajhcaaDoorW.PrintMore
attribute [local go_sem] max2_int min2_int max_two min_two max_three min_three max_four min_four   -- for this text's walks alone
set_option linter.unusedVariables false
set_option linter.unusedSimpArgs false

/-! ### strongroomref05_Name: function 72 -/
mutual
def strongroomref05_Name.j0 : Nat → ByteArray → Bool → Option (Bool)
 | 0, _, _ => none
 | k + 1, x0, x20 => if x20 = true then (some false) else (strongroomref05_Name.l0 k x0 0)
def strongroomref05_Name.l0 : Nat → ByteArray → Int → Option (Bool)
 | 0, _, _ => none
 | k + 1, x0, x3 => if x3 < (x0.size : Int) then (if 0 ≤ x3 then (if (bt x0 x3) ≥ 97 then (if (bt x0 x3) ≤ 122 then (strongroomref05_Name.l0 k x0 (wrap64 (x3 + 1))) else (if (bt x0 x3) ≥ 48 then (if (bt x0 x3) ≤ 57 then (strongroomref05_Name.l0 k x0 (wrap64 (x3 + 1))) else (if (bt x0 x3) = 45 then (strongroomref05_Name.l0 k x0 (wrap64 (x3 + 1))) else (if (bt x0 x3) = 95 then (strongroomref05_Name.l0 k x0 (wrap64 (x3 + 1))) else (if ((bt x0 x3) = 46) then (strongroomref05_Name.l0 k x0 (wrap64 (x3 + 1))) else (some false))))) else (if (bt x0 x3) = 45 then (strongroomref05_Name.l0 k x0 (wrap64 (x3 + 1))) else (if (bt x0 x3) = 95 then (strongroomref05_Name.l0 k x0 (wrap64 (x3 + 1))) else (if ((bt x0 x3) = 46) then (strongroomref05_Name.l0 k x0 (wrap64 (x3 + 1))) else (some false)))))) else (if (bt x0 x3) ≥ 48 then (if (bt x0 x3) ≤ 57 then (strongroomref05_Name.l0 k x0 (wrap64 (x3 + 1))) else (if (bt x0 x3) = 45 then (strongroomref05_Name.l0 k x0 (wrap64 (x3 + 1))) else (if (bt x0 x3) = 95 then (strongroomref05_Name.l0 k x0 (wrap64 (x3 + 1))) else (if ((bt x0 x3) = 46) then (strongroomref05_Name.l0 k x0 (wrap64 (x3 + 1))) else (some false))))) else (if (bt x0 x3) = 45 then (strongroomref05_Name.l0 k x0 (wrap64 (x3 + 1))) else (if (bt x0 x3) = 95 then (strongroomref05_Name.l0 k x0 (wrap64 (x3 + 1))) else (if ((bt x0 x3) = 46) then (strongroomref05_Name.l0 k x0 (wrap64 (x3 + 1))) else (some false)))))) else (none)) else (some true)
end
def strongroomref05_Name.f (k : Nat) (a0 : ByteArray) : Option (Bool) := if a0.toList = ([] : List UInt8) then (strongroomref05_Name.j0 k a0 true) else (if (a0.size : Int) > 12 then (strongroomref05_Name.j0 k a0 true) else (if a0.toList = ([46] : List UInt8) then (strongroomref05_Name.j0 k a0 true) else (strongroomref05_Name.j0 k a0 (a0.toList == ([46, 46] : List UInt8)))))
theorem strongroomref05_Name.mono_l : ∀ k, (∀ y0 y1, LeO (strongroomref05_Name.j0 k y0 y1) (strongroomref05_Name.j0 (k + 1) y0 y1)) ∧ (∀ y0 y1, LeO (strongroomref05_Name.l0 k y0 y1) (strongroomref05_Name.l0 (k + 1) y0 y1))
 | 0 => ⟨fun _ _ r h => by simp [strongroomref05_Name.j0] at h, fun _ _ r h => by simp [strongroomref05_Name.l0] at h⟩
 | k + 1 => by
  obtain ⟨ih0, ih1⟩ := strongroomref05_Name.mono_l k
  refine ⟨?_, ?_⟩
  ·intro y0 y1
   unfold strongroomref05_Name.j0
   repeat' first
   | (with_reducible exact ih0 _ _)
   | (with_reducible exact ih1 _ _)
   | (with_reducible exact LeO.refl _)
   | (with_reducible exact LeO.none _)
   | (with_reducible refine LeO.ite ?_ ?_)
   | (with_reducible refine LeO.bind ?_ (fun _ => ?_))
   | exact ih0 _ _
   | exact ih1 _ _
   | exact LeO.none _
   | refine LeO.ite ?_ ?_
   | refine LeO.bind ?_ (fun _ => ?_)
  ·intro y0 y1
   unfold strongroomref05_Name.l0
   repeat' first
   | (with_reducible exact ih0 _ _)
   | (with_reducible exact ih1 _ _)
   | (with_reducible exact LeO.refl _)
   | (with_reducible exact LeO.none _)
   | (with_reducible refine LeO.ite ?_ ?_)
   | (with_reducible refine LeO.bind ?_ (fun _ => ?_))
   | exact ih0 _ _
   | exact ih1 _ _
   | exact LeO.none _
   | refine LeO.ite ?_ ?_
   | refine LeO.bind ?_ (fun _ => ?_)
theorem strongroomref05_Name.mono : ∀ a0 k, LeO (strongroomref05_Name.f k a0) (strongroomref05_Name.f (k + 1) a0) := by
 intro a0 k
 obtain ⟨ih0, ih1⟩ := strongroomref05_Name.mono_l k
 unfold strongroomref05_Name.f
 repeat' first
   | (with_reducible exact ih0 _ _)
   | (with_reducible exact ih1 _ _)
   | (with_reducible exact LeO.refl _)
   | (with_reducible exact LeO.none _)
   | (with_reducible refine LeO.ite ?_ ?_)
   | (with_reducible refine LeO.bind ?_ (fun _ => ?_))
   | exact ih0 _ _
   | exact ih1 _ _
   | exact LeO.none _
   | refine LeO.ite ?_ ?_
   | refine LeO.bind ?_ (fun _ => ?_)
set_option maxHeartbeats 8000000 in
set_option maxRecDepth 100000 in
theorem strongroomref05_Name.calls (k : Nat) (a0 : ByteArray) (r : Bool) (w : World) (h : strongroomref05_Name.f k a0 = some r) :
  Calls Tryd.prog 72 #[.string a0] w fun e w' => e = .returned (.bool r) ∧ Drawn0 w w' := by
 have H : (if a0.toList = ([] : List UInt8) then (strongroomref05_Name.j0 k a0 true) else (if (a0.size : Int) > 12 then (strongroomref05_Name.j0 k a0 true) else (if a0.toList = ([46] : List UInt8) then (strongroomref05_Name.j0 k a0 true) else (strongroomref05_Name.j0 k a0 (a0.toList == ([46, 46] : List UInt8)))))) = some r := h
 clear h
 have HC2 := Aside0.mk H
 clear H
 go_enter Tryd.func72, Tryd.ntmps72
 go_upto_region 1 with (fail)
 go_cut [20] (fun v20 wc => ∃ (kq : Nat) (x20_1 : Bool), v20 = .bool x20_1 ∧ Aside0 (strongroomref05_Name.j0 kq a0 x20_1 = some r) ∧ Aside0 (kq ≤ k) ∧ Drawn0 w wc)
 case first =>
  have H := HC2.out
  clear HC2
  by_cases c3 : a0.toList = ([] : List UInt8)
  ·rw [if_pos c3] at H
   have c3b0 : (a0.toList == ([] : List UInt8)) = true := beq_iff_eq.mpr c3
   have c3b1 : (a0.toList != ([] : List UInt8)) = false := bne_eq_false_iff_eq.mpr c3
   clear c3
   (first | rw [c3b0] | (simp only [i64_w, i32_w]; rw [c3b0]) | skip)
   have H' := Aside0.mk H
   clear H
   go_wp2
   go_meet
   case rel => exact ⟨_, (true), m19_, H', ⟨by first | omega | exact Nat.le_refl _⟩, m29_⟩
  rw [if_neg c3] at H
  have c3b0 : (a0.toList == ([] : List UInt8)) = false := beq_eq_false_iff_ne.mpr c3
  have c3b1 : (a0.toList != ([] : List UInt8)) = true := bne_iff_ne.mpr c3
  (first | rw [c3b0] | (simp only [i64_w, i32_w]; rw [c3b0]) | skip)
  by_cases c4 : (a0.size : Int) > 12
  ·rw [if_pos c4] at H
   have c4b0 : decide (12 < (a0.size : Int)) = true := decide_eq_true c4
   have c4b1 : decide (12 < a0.size) = true := decide_eq_true (by omega)
   clear c4
   have H' := Aside0.mk H
   clear H
   go_wp2
   go_meet
   case rel => exact ⟨_, (true), m19_, H', ⟨by first | omega | exact Nat.le_refl _⟩, m29_⟩
  rw [if_neg c4] at H
  have c4b0 : decide (12 < (a0.size : Int)) = false := decide_eq_false c4
  have c4b1 : decide (12 < a0.size) = false := decide_eq_false (by omega)
  clear c4
  by_cases c5 : a0.toList = ([46] : List UInt8)
  ·rw [if_pos c5] at H
   have c5b0 : (a0.toList == ([46] : List UInt8)) = true := beq_iff_eq.mpr c5
   have c5b1 : (a0.toList != ([46] : List UInt8)) = false := bne_eq_false_iff_eq.mpr c5
   clear c5
   have H' := Aside0.mk H
   clear H
   go_wp2
   go_meet
   case rel => exact ⟨_, (true), m19_, H', ⟨by first | omega | exact Nat.le_refl _⟩, m29_⟩
  rw [if_neg c5] at H
  have c5b0 : (a0.toList == ([46] : List UInt8)) = false := beq_eq_false_iff_ne.mpr c5
  have c5b1 : (a0.toList != ([46] : List UInt8)) = true := bne_iff_ne.mpr c5
  have H' := Aside0.mk H
  clear H
  go_wp2
  go_meet
  case rel => exact ⟨_, ((a0.toList == ([46, 46] : List UInt8))), m19_, H', ⟨by first | omega | exact Nat.le_refl _⟩, m29_⟩
 clear HC2
 try clear p2; try clear c3; try clear c3b0; try clear c3b1; try clear c4; try clear c4b0; try clear c4b1; try clear c5; try clear c5b0; try clear c5b1
 obtain ⟨kq, x20_1, rfl, HA, HJ1, ⟨mc1, rfl⟩⟩ := hcut
 cases kq with
 | zero => exact absurd HA.out (by simp [strongroomref05_Name.j0])
 | succ kj1 =>
  have H := HA.out
  clear HA
  simp only [strongroomref05_Name.j0] at H
  by_cases c6 : x20_1 = true
  ·subst c6
   have H1 : (some false) = some r := by rw [if_pos rfl] at H; exact H
   clear H
   have H := H1
   clear H1
   obtain rfl := Option.some.inj H
   go_wp2
   go_ret
   exact ⟨by first | rfl | (simp; done) | (simp [*]; done), m29_⟩
  replace c6 := Bool.eq_false_iff.mpr c6
  subst c6
  have H1 : (strongroomref05_Name.l0 kj1 a0 0) = some r := by rw [if_neg (show ¬ (false = true) by decide)] at H; exact H
  clear H
  have H := H1
  clear H1
  have H' := Aside0.mk H
  clear H
  go_wp2
  go_loopg [3] kj1 (fun kq v3 w' => ∃ (x3_2 : Int), v3 = .int .i64 x3_2 ∧ Aside0 (strongroomref05_Name.l0 kq a0 x3_2 = some r) ∧ Aside0 (kq ≤ kj1) ∧ Drawn0 w w')
  case atStart => exact ⟨(0), m19_, H', ⟨Nat.le_refl _⟩, m29_⟩
  clear H'
  try clear c1; try clear p2; try clear c3; try clear c3b0; try clear c3b1; try clear c4; try clear c4b0; try clear c4b1; try clear c5; try clear c5b0; try clear c5b1; try clear c6; try clear p2
  obtain ⟨x3_2, rfl, HA, HK2, ⟨m2, rfl⟩⟩ := hrel
  cases gk with
  | zero => exact absurd HA.out (by simp [strongroomref05_Name.l0])
  | succ k2 =>
   have H := HA.out
   clear HA
   simp only [strongroomref05_Name.l0] at H
   by_cases c7 : x3_2 < (a0.size : Int)
   case neg =>
    rw [if_neg c7] at H
    have c7b0 : decide (x3_2 < (a0.size : Int)) = false := decide_eq_false c7
    clear c7
    obtain rfl := Option.some.inj H
    go_wp2
    go_ret
    exact ⟨by first | rfl | (simp; done) | (simp [*]; done), m29_⟩
   rw [if_pos c7] at H
   have c7b0 : decide (x3_2 < (a0.size : Int)) = true := decide_eq_true c7
   clear c7
   by_cases c8 : 0 ≤ x3_2
   case neg =>
    rw [if_neg c8] at H
    exact absurd H (by simp)
   rw [if_pos c8] at H
   have c8b0 : decide (0 ≤ x3_2) = true := decide_eq_true c8
   clear c8
   by_cases c10 : (bt a0 x3_2) ≥ 97
   case neg =>
    rw [if_neg c10] at H
    have c10b0 : decide (97 ≤ (bt a0 x3_2)) = false := decide_eq_false c10
    clear c10
    by_cases c20 : (bt a0 x3_2) ≥ 48
    case neg =>
     rw [if_neg c20] at H
     have c20b0 : decide (48 ≤ (bt a0 x3_2)) = false := decide_eq_false c20
     clear c20
     by_cases c25 : (bt a0 x3_2) = 45
     ·rw [if_pos c25] at H
      have c25b0 : ((bt a0 x3_2) == 45) = true := beq_iff_eq.mpr c25
      have c25b1 : ((bt a0 x3_2) != 45) = false := bne_eq_false_iff_eq.mpr c25
      clear c25
      have H' := Aside0.mk H
      clear H
      have p9 : 0 ≤ (x3_2 : Int) := of_decide_eq_true m18_
      have q9 : x3_2 < (a0.size : Int) := of_decide_eq_true m18_
      have hx9 := bt_at a0 x3_2
      replace p9 := eq_true p9
      replace q9 := eq_true q9
      go_wp2
      go_roundg k2
      case measure => have := HJ1.out; have := HK2.out; omega
      case rel => exact ⟨(wrap64 (x3_2 + 1)), m19_, H', ⟨by have := HJ1.out; have := HK2.out; omega⟩, m29_⟩
     rw [if_neg c25] at H
     have c25b0 : ((bt a0 x3_2) == 45) = false := beq_eq_false_iff_ne.mpr c25
     have c25b1 : ((bt a0 x3_2) != 45) = true := bne_iff_ne.mpr c25
     by_cases c26 : (bt a0 x3_2) = 95
     ·rw [if_pos c26] at H
      have c26b0 : ((bt a0 x3_2) == 95) = true := beq_iff_eq.mpr c26
      have c26b1 : ((bt a0 x3_2) != 95) = false := bne_eq_false_iff_eq.mpr c26
      clear c26
      have H' := Aside0.mk H
      clear H
      have p9 : 0 ≤ (x3_2 : Int) := of_decide_eq_true m18_
      have q9 : x3_2 < (a0.size : Int) := of_decide_eq_true m18_
      have hx9 := bt_at a0 x3_2
      replace p9 := eq_true p9
      replace q9 := eq_true q9
      go_wp2
      go_roundg k2
      case measure => have := HJ1.out; have := HK2.out; omega
      case rel => exact ⟨(wrap64 (x3_2 + 1)), m19_, H', ⟨by have := HJ1.out; have := HK2.out; omega⟩, m29_⟩
     rw [if_neg c26] at H
     have c26b0 : ((bt a0 x3_2) == 95) = false := beq_eq_false_iff_ne.mpr c26
     have c26b1 : ((bt a0 x3_2) != 95) = true := bne_iff_ne.mpr c26
     by_cases c27 : ((bt a0 x3_2) = 46)
     case neg =>
      rw [if_neg c27] at H
      have c27b0 : ((bt a0 x3_2) == 46) = false := beq_eq_false_iff_ne.mpr c27
      have c27b1 : ((bt a0 x3_2) != 46) = true := bne_iff_ne.mpr c27
      obtain rfl := Option.some.inj H
      have p9 : 0 ≤ (x3_2 : Int) := of_decide_eq_true m18_
      have q9 : x3_2 < (a0.size : Int) := of_decide_eq_true m18_
      have hx9 := bt_at a0 x3_2
      replace p9 := eq_true p9
      replace q9 := eq_true q9
      go_wp2
      go_ret
      exact ⟨by first | rfl | (simp; done) | (simp [*]; done), m29_⟩
     rw [if_pos c27] at H
     have c27b0 : ((bt a0 x3_2) == 46) = true := beq_iff_eq.mpr c27
     have c27b1 : ((bt a0 x3_2) != 46) = false := bne_eq_false_iff_eq.mpr c27
     clear c27
     have H' := Aside0.mk H
     clear H
     have p9 : 0 ≤ (x3_2 : Int) := of_decide_eq_true m18_
     have q9 : x3_2 < (a0.size : Int) := of_decide_eq_true m18_
     have hx9 := bt_at a0 x3_2
     replace p9 := eq_true p9
     replace q9 := eq_true q9
     go_wp2
     go_roundg k2
     case measure => have := HJ1.out; have := HK2.out; omega
     case rel => exact ⟨(wrap64 (x3_2 + 1)), m19_, H', ⟨by have := HJ1.out; have := HK2.out; omega⟩, m29_⟩
    rw [if_pos c20] at H
    have c20b0 : decide (48 ≤ (bt a0 x3_2)) = true := decide_eq_true c20
    clear c20
    by_cases c21 : (bt a0 x3_2) ≤ 57
    ·rw [if_pos c21] at H
     have c21b0 : decide ((bt a0 x3_2) ≤ 57) = true := decide_eq_true c21
     clear c21
     have H' := Aside0.mk H
     clear H
     have p9 : 0 ≤ (x3_2 : Int) := of_decide_eq_true m18_
     have q9 : x3_2 < (a0.size : Int) := of_decide_eq_true m18_
     have hx9 := bt_at a0 x3_2
     replace p9 := eq_true p9
     replace q9 := eq_true q9
     go_wp2
     go_roundg k2
     case measure => have := HJ1.out; have := HK2.out; omega
     case rel => exact ⟨(wrap64 (x3_2 + 1)), m19_, H', ⟨by have := HJ1.out; have := HK2.out; omega⟩, m29_⟩
    rw [if_neg c21] at H
    have c21b0 : decide ((bt a0 x3_2) ≤ 57) = false := decide_eq_false c21
    clear c21
    by_cases c22 : (bt a0 x3_2) = 45
    ·rw [if_pos c22] at H
     have c22b0 : ((bt a0 x3_2) == 45) = true := beq_iff_eq.mpr c22
     have c22b1 : ((bt a0 x3_2) != 45) = false := bne_eq_false_iff_eq.mpr c22
     clear c22
     have H' := Aside0.mk H
     clear H
     have p9 : 0 ≤ (x3_2 : Int) := of_decide_eq_true m18_
     have q9 : x3_2 < (a0.size : Int) := of_decide_eq_true m18_
     have hx9 := bt_at a0 x3_2
     replace p9 := eq_true p9
     replace q9 := eq_true q9
     go_wp2
     go_roundg k2
     case measure => have := HJ1.out; have := HK2.out; omega
     case rel => exact ⟨(wrap64 (x3_2 + 1)), m19_, H', ⟨by have := HJ1.out; have := HK2.out; omega⟩, m29_⟩
    rw [if_neg c22] at H
    have c22b0 : ((bt a0 x3_2) == 45) = false := beq_eq_false_iff_ne.mpr c22
    have c22b1 : ((bt a0 x3_2) != 45) = true := bne_iff_ne.mpr c22
    by_cases c23 : (bt a0 x3_2) = 95
    ·rw [if_pos c23] at H
     have c23b0 : ((bt a0 x3_2) == 95) = true := beq_iff_eq.mpr c23
     have c23b1 : ((bt a0 x3_2) != 95) = false := bne_eq_false_iff_eq.mpr c23
     clear c23
     have H' := Aside0.mk H
     clear H
     have p9 : 0 ≤ (x3_2 : Int) := of_decide_eq_true m18_
     have q9 : x3_2 < (a0.size : Int) := of_decide_eq_true m18_
     have hx9 := bt_at a0 x3_2
     replace p9 := eq_true p9
     replace q9 := eq_true q9
     go_wp2
     go_roundg k2
     case measure => have := HJ1.out; have := HK2.out; omega
     case rel => exact ⟨(wrap64 (x3_2 + 1)), m19_, H', ⟨by have := HJ1.out; have := HK2.out; omega⟩, m29_⟩
    rw [if_neg c23] at H
    have c23b0 : ((bt a0 x3_2) == 95) = false := beq_eq_false_iff_ne.mpr c23
    have c23b1 : ((bt a0 x3_2) != 95) = true := bne_iff_ne.mpr c23
    by_cases c24 : ((bt a0 x3_2) = 46)
    case neg =>
     rw [if_neg c24] at H
     have c24b0 : ((bt a0 x3_2) == 46) = false := beq_eq_false_iff_ne.mpr c24
     have c24b1 : ((bt a0 x3_2) != 46) = true := bne_iff_ne.mpr c24
     obtain rfl := Option.some.inj H
     have p9 : 0 ≤ (x3_2 : Int) := of_decide_eq_true m18_
     have q9 : x3_2 < (a0.size : Int) := of_decide_eq_true m18_
     have hx9 := bt_at a0 x3_2
     replace p9 := eq_true p9
     replace q9 := eq_true q9
     go_wp2
     go_ret
     exact ⟨by first | rfl | (simp; done) | (simp [*]; done), m29_⟩
    rw [if_pos c24] at H
    have c24b0 : ((bt a0 x3_2) == 46) = true := beq_iff_eq.mpr c24
    have c24b1 : ((bt a0 x3_2) != 46) = false := bne_eq_false_iff_eq.mpr c24
    clear c24
    have H' := Aside0.mk H
    clear H
    have p9 : 0 ≤ (x3_2 : Int) := of_decide_eq_true m18_
    have q9 : x3_2 < (a0.size : Int) := of_decide_eq_true m18_
    have hx9 := bt_at a0 x3_2
    replace p9 := eq_true p9
    replace q9 := eq_true q9
    go_wp2
    go_roundg k2
    case measure => have := HJ1.out; have := HK2.out; omega
    case rel => exact ⟨(wrap64 (x3_2 + 1)), m19_, H', ⟨by have := HJ1.out; have := HK2.out; omega⟩, m29_⟩
   rw [if_pos c10] at H
   have c10b0 : decide (97 ≤ (bt a0 x3_2)) = true := decide_eq_true c10
   clear c10
   by_cases c11 : (bt a0 x3_2) ≤ 122
   ·rw [if_pos c11] at H
    have c11b0 : decide ((bt a0 x3_2) ≤ 122) = true := decide_eq_true c11
    clear c11
    have H' := Aside0.mk H
    clear H
    have p9 : 0 ≤ (x3_2 : Int) := of_decide_eq_true m18_
    have q9 : x3_2 < (a0.size : Int) := of_decide_eq_true m18_
    have hx9 := bt_at a0 x3_2
    replace p9 := eq_true p9
    replace q9 := eq_true q9
    go_wp2
    go_roundg k2
    case measure => have := HJ1.out; have := HK2.out; omega
    case rel => exact ⟨(wrap64 (x3_2 + 1)), m19_, H', ⟨by have := HJ1.out; have := HK2.out; omega⟩, m29_⟩
   rw [if_neg c11] at H
   have c11b0 : decide ((bt a0 x3_2) ≤ 122) = false := decide_eq_false c11
   clear c11
   by_cases c12 : (bt a0 x3_2) ≥ 48
   case neg =>
    rw [if_neg c12] at H
    have c12b0 : decide (48 ≤ (bt a0 x3_2)) = false := decide_eq_false c12
    clear c12
    by_cases c17 : (bt a0 x3_2) = 45
    ·rw [if_pos c17] at H
     have c17b0 : ((bt a0 x3_2) == 45) = true := beq_iff_eq.mpr c17
     have c17b1 : ((bt a0 x3_2) != 45) = false := bne_eq_false_iff_eq.mpr c17
     clear c17
     have H' := Aside0.mk H
     clear H
     have p9 : 0 ≤ (x3_2 : Int) := of_decide_eq_true m18_
     have q9 : x3_2 < (a0.size : Int) := of_decide_eq_true m18_
     have hx9 := bt_at a0 x3_2
     replace p9 := eq_true p9
     replace q9 := eq_true q9
     go_wp2
     go_roundg k2
     case measure => have := HJ1.out; have := HK2.out; omega
     case rel => exact ⟨(wrap64 (x3_2 + 1)), m19_, H', ⟨by have := HJ1.out; have := HK2.out; omega⟩, m29_⟩
    rw [if_neg c17] at H
    have c17b0 : ((bt a0 x3_2) == 45) = false := beq_eq_false_iff_ne.mpr c17
    have c17b1 : ((bt a0 x3_2) != 45) = true := bne_iff_ne.mpr c17
    by_cases c18 : (bt a0 x3_2) = 95
    ·rw [if_pos c18] at H
     have c18b0 : ((bt a0 x3_2) == 95) = true := beq_iff_eq.mpr c18
     have c18b1 : ((bt a0 x3_2) != 95) = false := bne_eq_false_iff_eq.mpr c18
     clear c18
     have H' := Aside0.mk H
     clear H
     have p9 : 0 ≤ (x3_2 : Int) := of_decide_eq_true m18_
     have q9 : x3_2 < (a0.size : Int) := of_decide_eq_true m18_
     have hx9 := bt_at a0 x3_2
     replace p9 := eq_true p9
     replace q9 := eq_true q9
     go_wp2
     go_roundg k2
     case measure => have := HJ1.out; have := HK2.out; omega
     case rel => exact ⟨(wrap64 (x3_2 + 1)), m19_, H', ⟨by have := HJ1.out; have := HK2.out; omega⟩, m29_⟩
    rw [if_neg c18] at H
    have c18b0 : ((bt a0 x3_2) == 95) = false := beq_eq_false_iff_ne.mpr c18
    have c18b1 : ((bt a0 x3_2) != 95) = true := bne_iff_ne.mpr c18
    by_cases c19 : ((bt a0 x3_2) = 46)
    case neg =>
     rw [if_neg c19] at H
     have c19b0 : ((bt a0 x3_2) == 46) = false := beq_eq_false_iff_ne.mpr c19
     have c19b1 : ((bt a0 x3_2) != 46) = true := bne_iff_ne.mpr c19
     obtain rfl := Option.some.inj H
     have p9 : 0 ≤ (x3_2 : Int) := of_decide_eq_true m18_
     have q9 : x3_2 < (a0.size : Int) := of_decide_eq_true m18_
     have hx9 := bt_at a0 x3_2
     replace p9 := eq_true p9
     replace q9 := eq_true q9
     go_wp2
     go_ret
     exact ⟨by first | rfl | (simp; done) | (simp [*]; done), m29_⟩
    rw [if_pos c19] at H
    have c19b0 : ((bt a0 x3_2) == 46) = true := beq_iff_eq.mpr c19
    have c19b1 : ((bt a0 x3_2) != 46) = false := bne_eq_false_iff_eq.mpr c19
    clear c19
    have H' := Aside0.mk H
    clear H
    have p9 : 0 ≤ (x3_2 : Int) := of_decide_eq_true m18_
    have q9 : x3_2 < (a0.size : Int) := of_decide_eq_true m18_
    have hx9 := bt_at a0 x3_2
    replace p9 := eq_true p9
    replace q9 := eq_true q9
    go_wp2
    go_roundg k2
    case measure => have := HJ1.out; have := HK2.out; omega
    case rel => exact ⟨(wrap64 (x3_2 + 1)), m19_, H', ⟨by have := HJ1.out; have := HK2.out; omega⟩, m29_⟩
   rw [if_pos c12] at H
   have c12b0 : decide (48 ≤ (bt a0 x3_2)) = true := decide_eq_true c12
   clear c12
   by_cases c13 : (bt a0 x3_2) ≤ 57
   ·rw [if_pos c13] at H
    have c13b0 : decide ((bt a0 x3_2) ≤ 57) = true := decide_eq_true c13
    clear c13
    have H' := Aside0.mk H
    clear H
    have p9 : 0 ≤ (x3_2 : Int) := of_decide_eq_true m18_
    have q9 : x3_2 < (a0.size : Int) := of_decide_eq_true m18_
    have hx9 := bt_at a0 x3_2
    replace p9 := eq_true p9
    replace q9 := eq_true q9
    go_wp2
    go_roundg k2
    case measure => have := HJ1.out; have := HK2.out; omega
    case rel => exact ⟨(wrap64 (x3_2 + 1)), m19_, H', ⟨by have := HJ1.out; have := HK2.out; omega⟩, m29_⟩
   rw [if_neg c13] at H
   have c13b0 : decide ((bt a0 x3_2) ≤ 57) = false := decide_eq_false c13
   clear c13
   by_cases c14 : (bt a0 x3_2) = 45
   ·rw [if_pos c14] at H
    have c14b0 : ((bt a0 x3_2) == 45) = true := beq_iff_eq.mpr c14
    have c14b1 : ((bt a0 x3_2) != 45) = false := bne_eq_false_iff_eq.mpr c14
    clear c14
    have H' := Aside0.mk H
    clear H
    have p9 : 0 ≤ (x3_2 : Int) := of_decide_eq_true m18_
    have q9 : x3_2 < (a0.size : Int) := of_decide_eq_true m18_
    have hx9 := bt_at a0 x3_2
    replace p9 := eq_true p9
    replace q9 := eq_true q9
    go_wp2
    go_roundg k2
    case measure => have := HJ1.out; have := HK2.out; omega
    case rel => exact ⟨(wrap64 (x3_2 + 1)), m19_, H', ⟨by have := HJ1.out; have := HK2.out; omega⟩, m29_⟩
   rw [if_neg c14] at H
   have c14b0 : ((bt a0 x3_2) == 45) = false := beq_eq_false_iff_ne.mpr c14
   have c14b1 : ((bt a0 x3_2) != 45) = true := bne_iff_ne.mpr c14
   by_cases c15 : (bt a0 x3_2) = 95
   ·rw [if_pos c15] at H
    have c15b0 : ((bt a0 x3_2) == 95) = true := beq_iff_eq.mpr c15
    have c15b1 : ((bt a0 x3_2) != 95) = false := bne_eq_false_iff_eq.mpr c15
    clear c15
    have H' := Aside0.mk H
    clear H
    have p9 : 0 ≤ (x3_2 : Int) := of_decide_eq_true m18_
    have q9 : x3_2 < (a0.size : Int) := of_decide_eq_true m18_
    have hx9 := bt_at a0 x3_2
    replace p9 := eq_true p9
    replace q9 := eq_true q9
    go_wp2
    go_roundg k2
    case measure => have := HJ1.out; have := HK2.out; omega
    case rel => exact ⟨(wrap64 (x3_2 + 1)), m19_, H', ⟨by have := HJ1.out; have := HK2.out; omega⟩, m29_⟩
   rw [if_neg c15] at H
   have c15b0 : ((bt a0 x3_2) == 95) = false := beq_eq_false_iff_ne.mpr c15
   have c15b1 : ((bt a0 x3_2) != 95) = true := bne_iff_ne.mpr c15
   by_cases c16 : ((bt a0 x3_2) = 46)
   case neg =>
    rw [if_neg c16] at H
    have c16b0 : ((bt a0 x3_2) == 46) = false := beq_eq_false_iff_ne.mpr c16
    have c16b1 : ((bt a0 x3_2) != 46) = true := bne_iff_ne.mpr c16
    obtain rfl := Option.some.inj H
    have p9 : 0 ≤ (x3_2 : Int) := of_decide_eq_true m18_
    have q9 : x3_2 < (a0.size : Int) := of_decide_eq_true m18_
    have hx9 := bt_at a0 x3_2
    replace p9 := eq_true p9
    replace q9 := eq_true q9
    go_wp2
    go_ret
    exact ⟨by first | rfl | (simp; done) | (simp [*]; done), m29_⟩
   rw [if_pos c16] at H
   have c16b0 : ((bt a0 x3_2) == 46) = true := beq_iff_eq.mpr c16
   have c16b1 : ((bt a0 x3_2) != 46) = false := bne_eq_false_iff_eq.mpr c16
   clear c16
   have H' := Aside0.mk H
   clear H
   have p9 : 0 ≤ (x3_2 : Int) := of_decide_eq_true m18_
   have q9 : x3_2 < (a0.size : Int) := of_decide_eq_true m18_
   have hx9 := bt_at a0 x3_2
   replace p9 := eq_true p9
   replace q9 := eq_true q9
   go_wp2
   go_roundg k2
   case measure => have := HJ1.out; have := HK2.out; omega
   case rel => exact ⟨(wrap64 (x3_2 + 1)), m19_, H', ⟨by have := HJ1.out; have := HK2.out; omega⟩, m29_⟩

/-! ### strongroomref05_Good: function 51 -/
def strongroomref05_Good.l0 : Nat → List ByteArray → Int → Option (Bool)
 | 0, _, _ => none
 | k + 1, x3, x4 => if x4 < (x3.length : Int) then (if 0 ≤ x4 then ((strongroomref05_Name.f k (rdOf ByteArray.empty x3 x4)).bind fun t187 => (if t187 = true then (strongroomref05_Good.l0 k x3 (wrap64 (x4 + 1))) else (some false))) else (none)) else (some true)
def strongroomref05_Good.f (k : Nat) (a0 : ByteArray) : Option (Bool) := if (a0.size : Int) > 32 then (some false) else ((strongroomref05_Cut.f k a0).bind fun t183 => (strongroomref05_Good.l0 k t183 0))
theorem strongroomref05_Good.mono_l : ∀ k, (∀ y0 y1, LeO (strongroomref05_Good.l0 k y0 y1) (strongroomref05_Good.l0 (k + 1) y0 y1))
 | 0 => fun _ _ r h => by simp [strongroomref05_Good.l0] at h
 | k + 1 => by
  have ih0 := strongroomref05_Good.mono_l k
  ·intro y0 y1
   unfold strongroomref05_Good.l0
   repeat' first
   | (with_reducible exact ih0 _ _)
   | (with_reducible exact strongroomref05_Cut.mono _ _)
   | (with_reducible exact strongroomref05_Name.mono _ _)
   | (with_reducible exact LeO.refl _)
   | (with_reducible exact LeO.none _)
   | (with_reducible refine LeO.ite ?_ ?_)
   | (with_reducible refine LeO.bind ?_ (fun _ => ?_))
   | exact ih0 _ _
   | exact strongroomref05_Cut.mono _ _
   | exact strongroomref05_Name.mono _ _
   | exact LeO.none _
   | refine LeO.ite ?_ ?_
   | refine LeO.bind ?_ (fun _ => ?_)
theorem strongroomref05_Good.mono : ∀ a0 k, LeO (strongroomref05_Good.f k a0) (strongroomref05_Good.f (k + 1) a0) := by
 intro a0 k
 have ih0 := strongroomref05_Good.mono_l k
 unfold strongroomref05_Good.f
 repeat' first
   | (with_reducible exact ih0 _ _)
   | (with_reducible exact strongroomref05_Cut.mono _ _)
   | (with_reducible exact strongroomref05_Name.mono _ _)
   | (with_reducible exact LeO.refl _)
   | (with_reducible exact LeO.none _)
   | (with_reducible refine LeO.ite ?_ ?_)
   | (with_reducible refine LeO.bind ?_ (fun _ => ?_))
   | exact ih0 _ _
   | exact strongroomref05_Cut.mono _ _
   | exact strongroomref05_Name.mono _ _
   | exact LeO.none _
   | refine LeO.ite ?_ ?_
   | refine LeO.bind ?_ (fun _ => ?_)
set_option maxHeartbeats 8000000 in
set_option maxRecDepth 100000 in
theorem strongroomref05_Good.calls (k : Nat) (a0 : ByteArray) (r : Bool) (w : World) (h : strongroomref05_Good.f k a0 = some r) :
  Calls Tryd.prog 51 #[.string a0] w fun e w' => e = .returned (.bool r) ∧ Below w.heap.size w w' := by
 have HB := Aside0.mk (Below.refl w.heap.size w)
 have H : (if (a0.size : Int) > 32 then (some false) else ((strongroomref05_Cut.f k a0).bind fun t183 => (strongroomref05_Good.l0 k t183 0))) = some r := h
 clear h
 by_cases c2 : (a0.size : Int) > 32
 ·rw [if_pos c2] at H
  have c2b0 : decide (32 < (a0.size : Int)) = true := decide_eq_true c2
  have c2b1 : decide (32 < a0.size) = true := decide_eq_true (by omega)
  clear c2
  obtain rfl := Option.some.inj H
  go_enter Tryd.func51, Tryd.ntmps51
  go_wp2
  go_ret
  exact ⟨by first | rfl | (simp [errW_none, errW_some] <;> rfl) | (simp [*, errW_none, errW_some] <;> rfl), m27_⟩
 rw [if_neg c2] at H
 have c2b0 : decide (32 < (a0.size : Int)) = false := decide_eq_false c2
 have c2b1 : decide (32 < a0.size) = false := decide_eq_false (by omega)
 clear c2
 replace H := Option.bind_eq_some_iff.mp H
 obtain ⟨t183, A30, H⟩ := H
 replace H : (strongroomref05_Good.l0 k t183 0) = some r := H
 have A3 := Aside0.mk A30
 clear A30
 have H' := Aside0.mk H
 clear H
 go_enter Tryd.func51, Tryd.ntmps51
 go_wp2_with (first | ((with_reducible refine gate_callee (f := 71) rfl ?_); refine goesL_ (some 9) rfl rfl Tryd.func71 (by kernel_rfl) rfl #[.string a0] rfl m6_ ?_; (with_reducible refine (strongroomref05_Cut.calls k a0 t183 _ A3.out).mono ?_); rintro e w4 ⟨v184, rfl, ho0, hb⟩; refine ⟨_, rfl, ?_⟩; have HO185 := Aside0.mk (Kd.R_lower ho0 (below_size m7_)); replace HB := Aside0.mk (below_step m7_ hb); (try clear hb); (try clear hb2); (try clear hk); (try clear hi); (try clear ho0)))
 go_loopg [4] k (fun kq v4 w' => ∃ (x4_1 : Int), v4 = .int .i64 x4_1 ∧ Aside0 (strongroomref05_Good.l0 kq t183 x4_1 = some r) ∧ Aside0 (kq ≤ k) ∧ Aside0 (Kd.R Kd.string 9 w' w.heap.size (fun _ => True) v184 t183) ∧ Aside0 (Below w.heap.size w w'))
 case atStart => exact ⟨(0), m19_, H', ⟨Nat.le_refl _⟩, ⟨by (with_reducible repeat (first | apply Kd.R_alloc | apply Kd.R_drewN | apply Kd.R_drew)); exact HO185.out⟩, ⟨m27_⟩⟩
 clear H'
 try clear c2; try clear c2b0; try clear c2b1; try clear p2
 obtain ⟨x4_1, rfl, HA, HK1, HO_3, HB⟩ := hrel
 cases gk with
 | zero => exact absurd HA.out (by simp [strongroomref05_Good.l0])
 | succ k1 =>
  have H := HA.out
  clear HA
  simp only [strongroomref05_Good.l0] at H
  by_cases c5 : x4_1 < (t183.length : Int)
  case neg =>
   rw [if_neg c5] at H
   have c5b0 : decide (x4_1 < (t183.length : Int)) = false := decide_eq_false c5
   clear c5
   obtain rfl := Option.some.inj H
   obtain ⟨Ao11, co11, eo11⟩ := Kd.R_slice HO_3.out
   subst eo11
   go_wp2
   go_ret
   exact ⟨by first | rfl | (simp [errW_none, errW_some] <;> rfl) | (simp [*, errW_none, errW_some] <;> rfl), m27_⟩
  rw [if_pos c5] at H
  have c5b0 : decide (x4_1 < (t183.length : Int)) = true := decide_eq_true c5
  clear c5
  by_cases c6 : 0 ≤ x4_1
  case neg =>
   rw [if_neg c6] at H
   exact absurd H (by simp)
  rw [if_pos c6] at H
  have c6b0 : decide (0 ≤ x4_1) = true := decide_eq_true c6
  clear c6
  replace H := Option.bind_eq_some_iff.mp H
  obtain ⟨t187, A70, H⟩ := H
  replace H : (if t187 = true then (strongroomref05_Good.l0 k1 t183 (wrap64 (x4_1 + 1))) else (some false)) = some r := H
  have A7 := Aside0.mk A70
  clear A70
  by_cases c8 : t187 = true
  case neg =>
   replace c8 := Bool.eq_false_iff.mpr c8
   subst c8
   have H1 : (some false) = some r := by rw [if_neg (show ¬ (false = true) by decide)] at H; exact H
   clear H
   have H := H1
   clear H1
   obtain rfl := Option.some.inj H
   obtain ⟨Ao10, co10, eo10⟩ := Kd.R_slice HO_3.out
   subst eo10
   have p186 : 0 ≤ (x4_1 : Int) := of_decide_eq_true m18_
   have q186 : x4_1 < (t183.length : Int) := of_decide_eq_true m18_
   obtain ⟨ad186, e186, hx186_0⟩ := Kd.at_string (Kd.R_reads' HO_3.out).2.2 x4_1 p186 q186
   cases e186
   replace p186 := eq_true p186
   replace q186 := eq_true q186
   go_wp2_with (first | ((with_reducible refine gate_callee (f := 72) rfl ?_); refine goesL_ (some 20) rfl rfl Tryd.func72 (by kernel_rfl) rfl #[.string (rdOf ByteArray.empty t183 x4_1)] rfl m6_ ?_; (with_reducible refine (strongroomref05_Name.calls k1 (rdOf ByteArray.empty t183 x4_1) false _ A7.out).mono ?_); rintro e w' ⟨rfl, ⟨nd, rfl⟩⟩; refine ⟨_, rfl, ?_⟩))
   go_ret
   exact ⟨by first | rfl | (simp [errW_none, errW_some] <;> rfl) | (simp [*, errW_none, errW_some] <;> rfl), m27_⟩
  subst c8
  have H1 : (strongroomref05_Good.l0 k1 t183 (wrap64 (x4_1 + 1))) = some r := by rw [if_pos rfl] at H; exact H
  clear H
  have H := H1
  clear H1
  have H' := Aside0.mk H
  clear H
  obtain ⟨Ao9, co9, eo9⟩ := Kd.R_slice HO_3.out
  subst eo9
  have p186 : 0 ≤ (x4_1 : Int) := of_decide_eq_true m18_
  have q186 : x4_1 < (t183.length : Int) := of_decide_eq_true m18_
  obtain ⟨ad186, e186, hx186_0⟩ := Kd.at_string (Kd.R_reads' HO_3.out).2.2 x4_1 p186 q186
  cases e186
  replace p186 := eq_true p186
  replace q186 := eq_true q186
  go_wp2_with (first | ((with_reducible refine gate_callee (f := 72) rfl ?_); refine goesL_ (some 20) rfl rfl Tryd.func72 (by kernel_rfl) rfl #[.string (rdOf ByteArray.empty t183 x4_1)] rfl m6_ ?_; (with_reducible refine (strongroomref05_Name.calls k1 (rdOf ByteArray.empty t183 x4_1) true _ A7.out).mono ?_); rintro e w' ⟨rfl, ⟨nd, rfl⟩⟩; refine ⟨_, rfl, ?_⟩))
  go_roundg k1
  case measure => have := HK1.out; omega
  case rel => exact ⟨(wrap64 (x4_1 + 1)), m19_, H', ⟨by have := HK1.out; omega⟩, ⟨by (with_reducible repeat (first | apply Kd.R_alloc | apply Kd.R_drewN | apply Kd.R_drew)); exact HO_3.out⟩, ⟨m27_⟩⟩

/-! ### strongroomref20_Good: function 26 -/
def strongroomref20_Good.f (k : Nat) (a0_0 : ByteArray) (a0_1 : ByteArray) : Option (Bool) := (strongroomref05_Good.f k a0_0).bind fun t189 => (if t189 = true then (some ((a0_1.size : Int) == 32)) else (some false))
theorem strongroomref20_Good.mono : ∀ a0 a1 k, LeO (strongroomref20_Good.f k a0 a1) (strongroomref20_Good.f (k + 1) a0 a1) := by
 intro a0 a1 k
 unfold strongroomref20_Good.f
 repeat' first
   | (with_reducible exact strongroomref05_Good.mono _ _)
   | (with_reducible exact LeO.refl _)
   | (with_reducible exact LeO.none _)
   | (with_reducible refine LeO.ite ?_ ?_)
   | (with_reducible refine LeO.bind ?_ (fun _ => ?_))
   | exact strongroomref05_Good.mono _ _
   | exact LeO.none _
   | refine LeO.ite ?_ ?_
   | refine LeO.bind ?_ (fun _ => ?_)
set_option maxHeartbeats 8000000 in
set_option maxRecDepth 100000 in
theorem strongroomref20_Good.calls (k : Nat) (a0_0 : ByteArray) (a0_1 : ByteArray) (r : Bool) (w : World) (h : strongroomref20_Good.f k a0_0 a0_1 = some r) :
  Calls Tryd.prog 26 #[.agg #[.string a0_0, .string a0_1]] w fun e w' => e = .returned (.bool r) ∧ Below w.heap.size w w' := by
 have hu39 := Tryd.underlying39
 have HB := Aside0.mk (Below.refl w.heap.size w)
 have H : ((strongroomref05_Good.f k a0_0).bind fun t189 => (if t189 = true then (some ((a0_1.size : Int) == 32)) else (some false))) = some r := h
 clear h
 replace H := Option.bind_eq_some_iff.mp H
 obtain ⟨t189, A20, H⟩ := H
 replace H : (if t189 = true then (some ((a0_1.size : Int) == 32)) else (some false)) = some r := H
 have A2 := Aside0.mk A20
 clear A20
 by_cases c3 : t189 = true
 case neg =>
  replace c3 := Bool.eq_false_iff.mpr c3
  subst c3
  have H1 : (some false) = some r := by rw [if_neg (show ¬ (false = true) by decide)] at H; exact H
  clear H
  have H := H1
  clear H1
  obtain rfl := Option.some.inj H
  go_enter Tryd.func26, Tryd.ntmps26
  go_wp2_with (first | ((with_reducible refine gate_dst (N := 1) rfl ?_); (try (refine gate_guard (by rfl) ?_; dsimp only)); refine box_event ?hg (N := 1) ?hd (cs := #[.string a0_0, .string a0_1]) (t := 39) ?hr ?_; (case hd => rfl); (case hg => rfl); (case hr => first | (go_simp; done) | (go_simp; rfl)); intro gb188 hg w8 hbox hb; have n0_ := Aside0.mk (below_step m7_ hb); have n1_ := Aside0.mk (hbox); have n2_ := Aside0.mk ((by rw [hg]; exact (below_size m7_) : w.heap.size ≤ gb188)); have n3_ := Aside0.mk ((by rw [hg]; exact (below_size m7_) : w.heap.size ≤ gb188)); clear HB; have HB := n0_; have BK188 := n1_; have GW188 := n2_; have GE188 := n3_; clear n0_ n1_ n2_ n3_; clear hb hbox hg; obtain ⟨hcz9_0, hcz9_1⟩ := bc2_ BK188.out; obtain ⟨hfz9_0, hfz9_1⟩ := bf2_ BK188.out) | ((with_reducible refine gate_callee (f := 51) rfl ?_); refine goesL_ (some 5) rfl rfl Tryd.func51 (by kernel_rfl) rfl #[.string a0_0] rfl m6_ ?_; (with_reducible refine (strongroomref05_Good.calls k a0_0 false _ A2.out).mono ?_); rintro e w10 ⟨rfl, hb⟩; refine ⟨_, rfl, ?_⟩; have n0_ := Aside0.mk (blk_below (g := gb188) (o := .cells #[.string a0_0, .string a0_1] 39 (0, 0)) (by (with_reducible repeat (first | refine blk_drewN ?_ _ | refine blk_drew ?_ | refine blk_alloc ?_ _)); exact BK188.out) hb); have n1_ := Aside0.mk (below_step (by repeat (first | (with_reducible first | exact HB.out | apply below_alloc | apply pw_below_drewN | apply below_drew1 | refine below_set ?_ GE188.out) | exact HB.out)) hb); clear BK188; clear HB; have BK188 := n0_; have HB := n1_; clear n0_ n1_; (try clear hb); (try clear hb2); (try clear hk); (try clear hi)))
  go_ret
  exact ⟨by first | rfl | (simp [errW_none, errW_some] <;> rfl) | (simp [*, errW_none, errW_some] <;> rfl), by repeat (first | (with_reducible first | exact HB.out | apply below_alloc | apply pw_below_drewN | apply below_drew1 | refine below_set ?_ GE188.out) | exact HB.out)⟩
 subst c3
 have H1 : (some ((a0_1.size : Int) == 32)) = some r := by rw [if_pos rfl] at H; exact H
 clear H
 have H := H1
 clear H1
 obtain rfl := Option.some.inj H
 go_enter Tryd.func26, Tryd.ntmps26
 go_wp2_with (first | ((with_reducible refine gate_dst (N := 1) rfl ?_); (try (refine gate_guard (by rfl) ?_; dsimp only)); refine box_event ?hg (N := 1) ?hd (cs := #[.string a0_0, .string a0_1]) (t := 39) ?hr ?_; (case hd => rfl); (case hg => rfl); (case hr => first | (go_simp; done) | (go_simp; rfl)); intro gb188 hg w4 hbox hb; have n0_ := Aside0.mk (below_step m7_ hb); have n1_ := Aside0.mk (hbox); have n2_ := Aside0.mk ((by rw [hg]; exact (below_size m7_) : w.heap.size ≤ gb188)); have n3_ := Aside0.mk ((by rw [hg]; exact (below_size m7_) : w.heap.size ≤ gb188)); clear HB; have HB := n0_; have BK188 := n1_; have GW188 := n2_; have GE188 := n3_; clear n0_ n1_ n2_ n3_; clear hb hbox hg; obtain ⟨hcz5_0, hcz5_1⟩ := bc2_ BK188.out; obtain ⟨hfz5_0, hfz5_1⟩ := bf2_ BK188.out) | ((with_reducible refine gate_callee (f := 51) rfl ?_); refine goesL_ (some 5) rfl rfl Tryd.func51 (by kernel_rfl) rfl #[.string a0_0] rfl m6_ ?_; (with_reducible refine (strongroomref05_Good.calls k a0_0 true _ A2.out).mono ?_); rintro e w6 ⟨rfl, hb⟩; refine ⟨_, rfl, ?_⟩; have n0_ := Aside0.mk (blk_below (g := gb188) (o := .cells #[.string a0_0, .string a0_1] 39 (0, 0)) (by (with_reducible repeat (first | refine blk_drewN ?_ _ | refine blk_drew ?_ | refine blk_alloc ?_ _)); exact BK188.out) hb); have n1_ := Aside0.mk (below_step (by repeat (first | (with_reducible first | exact HB.out | apply below_alloc | apply pw_below_drewN | apply below_drew1 | refine below_set ?_ GE188.out) | exact HB.out)) hb); clear BK188; clear HB; have BK188 := n0_; have HB := n1_; clear n0_ n1_; (try clear hb); (try clear hb2); (try clear hk); (try clear hi); obtain ⟨hcz7_0, hcz7_1⟩ := bc2_ BK188.out; obtain ⟨hfz7_0, hfz7_1⟩ := bf2_ BK188.out))
 go_ret
 exact ⟨by first | rfl | (simp [errW_none, errW_some] <;> rfl) | (simp [*, errW_none, errW_some] <;> rfl), by repeat (first | (with_reducible first | exact HB.out | apply below_alloc | apply pw_below_drewN | apply below_drew1 | refine below_set ?_ GE188.out) | exact HB.out)⟩

end Go.Proofs.YtdeggemomajhcaaDoorH.HMerkleApplies
