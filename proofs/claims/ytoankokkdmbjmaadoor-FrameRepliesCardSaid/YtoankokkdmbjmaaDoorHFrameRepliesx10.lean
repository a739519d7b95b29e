-- PRINTED by print.py (a twelfth state) out of the translation. Not trusted: Lean checks it.
import Derived.Test.YtoankokkdmbjmaaDoorHFrameRepliesx0
namespace Go.Proofs.YtoankokkdmbjmaaDoorH.HFrameReplies
open Go.RowKit Go.Proofs.YtoankokkdmbjmaaDoorW.PrintWords Go.Proofs.YtoankokkdmbjmaaDoorW.PrintLast Go.Proofs.YtoankokkdmbjmaaDoorW.PrintMore
attribute [local go_sem] max2_int min2_int max_two min_two max_three min_three max_four min_four   -- for this text's walks alone
set_option linter.unusedVariables false
set_option linter.unusedSimpArgs false

/-! ### strongroomref05_Name: function 51 -/
mutual
def strongroomref05_Name.j0 : Nat → ByteArray → Bool → Option (Bool)
  | 0, _, _ => none
  | k + 1, x0, x20 => if x20 = true then (some false) else (strongroomref05_Name.l0 k x0 0)
def strongroomref05_Name.l0 : Nat → ByteArray → Int → Option (Bool)
  | 0, _, _ => none
  | k + 1, x0, x3 => if x3 < (x0.size : Int) then (if 0 ≤ x3 then (if (bt x0 x3) ≥ 97 then (if (bt x0 x3) ≤ 122 then (strongroomref05_Name.j2 k x0 x3 true) else (if (bt x0 x3) ≥ 48 then (if (bt x0 x3) ≤ 57 then (strongroomref05_Name.j2 k x0 x3 true) else (if (bt x0 x3) = 45 then (strongroomref05_Name.j2 k x0 x3 true) else (if (bt x0 x3) = 95 then (strongroomref05_Name.j2 k x0 x3 true) else (strongroomref05_Name.j2 k x0 x3 ((bt x0 x3) == 46))))) else (if (bt x0 x3) = 45 then (strongroomref05_Name.j2 k x0 x3 true) else (if (bt x0 x3) = 95 then (strongroomref05_Name.j2 k x0 x3 true) else (strongroomref05_Name.j2 k x0 x3 ((bt x0 x3) == 46)))))) else (if (bt x0 x3) ≥ 48 then (if (bt x0 x3) ≤ 57 then (strongroomref05_Name.j2 k x0 x3 true) else (if (bt x0 x3) = 45 then (strongroomref05_Name.j2 k x0 x3 true) else (if (bt x0 x3) = 95 then (strongroomref05_Name.j2 k x0 x3 true) else (strongroomref05_Name.j2 k x0 x3 ((bt x0 x3) == 46))))) else (if (bt x0 x3) = 45 then (strongroomref05_Name.j2 k x0 x3 true) else (if (bt x0 x3) = 95 then (strongroomref05_Name.j2 k x0 x3 true) else (strongroomref05_Name.j2 k x0 x3 ((bt x0 x3) == 46)))))) else (none)) else (some true)
def strongroomref05_Name.j2 : Nat → ByteArray → Int → Bool → Option (Bool)
  | 0, _, _, _ => none
  | k + 1, x0, x3, x5 => if x5 = true then (strongroomref05_Name.l0 k x0 (wrap64 (x3 + 1))) else (some false)
end
def strongroomref05_Name.f (k : Nat) (a0 : ByteArray) : Option (Bool) := if a0.toList = ([] : List UInt8) then (strongroomref05_Name.j0 k a0 true) else (if (a0.size : Int) > 12 then (strongroomref05_Name.j0 k a0 true) else (if a0.toList = ([46] : List UInt8) then (strongroomref05_Name.j0 k a0 true) else (strongroomref05_Name.j0 k a0 (a0.toList == ([46, 46] : List UInt8)))))
theorem strongroomref05_Name.mono_l : ∀ k, (∀ y0 y1, LeO (strongroomref05_Name.j0 k y0 y1) (strongroomref05_Name.j0 (k + 1) y0 y1)) ∧ (∀ y0 y1, LeO (strongroomref05_Name.l0 k y0 y1) (strongroomref05_Name.l0 (k + 1) y0 y1)) ∧ (∀ y0 y1 y2, LeO (strongroomref05_Name.j2 k y0 y1 y2) (strongroomref05_Name.j2 (k + 1) y0 y1 y2))
  | 0 => ⟨fun _ _ r h => by simp [strongroomref05_Name.j0] at h, fun _ _ r h => by simp [strongroomref05_Name.l0] at h, fun _ _ _ r h => by simp [strongroomref05_Name.j2] at h⟩
  | k + 1 => by
    obtain ⟨ih0, ih1, ih2⟩ := strongroomref05_Name.mono_l k
    refine ⟨?_, ?_, ?_⟩
    · intro y0 y1
      unfold strongroomref05_Name.j0
      repeat' first
      | (with_reducible exact ih0 _ _)
      | (with_reducible exact ih1 _ _)
      | (with_reducible exact ih2 _ _ _)
      | (with_reducible exact LeO.refl _)
      | (with_reducible exact LeO.none _)
      | (with_reducible refine LeO.ite ?_ ?_)
      | (with_reducible refine LeO.bind ?_ (fun _ => ?_))
      | exact ih0 _ _
      | exact ih1 _ _
      | exact ih2 _ _ _
      | exact LeO.none _
      | refine LeO.ite ?_ ?_
      | refine LeO.bind ?_ (fun _ => ?_)
    · intro y0 y1
      unfold strongroomref05_Name.l0
      repeat' first
      | (with_reducible exact ih0 _ _)
      | (with_reducible exact ih1 _ _)
      | (with_reducible exact ih2 _ _ _)
      | (with_reducible exact LeO.refl _)
      | (with_reducible exact LeO.none _)
      | (with_reducible refine LeO.ite ?_ ?_)
      | (with_reducible refine LeO.bind ?_ (fun _ => ?_))
      | exact ih0 _ _
      | exact ih1 _ _
      | exact ih2 _ _ _
      | exact LeO.none _
      | refine LeO.ite ?_ ?_
      | refine LeO.bind ?_ (fun _ => ?_)
    · intro y0 y1 y2
      unfold strongroomref05_Name.j2
      repeat' first
      | (with_reducible exact ih0 _ _)
      | (with_reducible exact ih1 _ _)
      | (with_reducible exact ih2 _ _ _)
      | (with_reducible exact LeO.refl _)
      | (with_reducible exact LeO.none _)
      | (with_reducible refine LeO.ite ?_ ?_)
      | (with_reducible refine LeO.bind ?_ (fun _ => ?_))
      | exact ih0 _ _
      | exact ih1 _ _
      | exact ih2 _ _ _
      | exact LeO.none _
      | refine LeO.ite ?_ ?_
      | refine LeO.bind ?_ (fun _ => ?_)
theorem strongroomref05_Name.mono : ∀ a0 k, LeO (strongroomref05_Name.f k a0) (strongroomref05_Name.f (k + 1) a0) := by
  intro a0 k
  obtain ⟨ih0, ih1, ih2⟩ := strongroomref05_Name.mono_l k
  unfold strongroomref05_Name.f
  repeat' first
      | (with_reducible exact ih0 _ _)
      | (with_reducible exact ih1 _ _)
      | (with_reducible exact ih2 _ _ _)
      | (with_reducible exact LeO.refl _)
      | (with_reducible exact LeO.none _)
      | (with_reducible refine LeO.ite ?_ ?_)
      | (with_reducible refine LeO.bind ?_ (fun _ => ?_))
      | exact ih0 _ _
      | exact ih1 _ _
      | exact ih2 _ _ _
      | exact LeO.none _
      | refine LeO.ite ?_ ?_
      | refine LeO.bind ?_ (fun _ => ?_)
set_option maxHeartbeats 8000000 in
set_option maxRecDepth 100000 in
theorem strongroomref05_Name.calls (k : Nat) (a0 : ByteArray) (r : Bool) (w : World) (h : strongroomref05_Name.f k a0 = some r) :
    Calls Tryd.prog 51 #[.string a0] w fun e w' => e = .returned (.bool r) ∧ Drawn0 w w' := by
  have H : (if a0.toList = ([] : List UInt8) then (strongroomref05_Name.j0 k a0 true) else (if (a0.size : Int) > 12 then (strongroomref05_Name.j0 k a0 true) else (if a0.toList = ([46] : List UInt8) then (strongroomref05_Name.j0 k a0 true) else (strongroomref05_Name.j0 k a0 (a0.toList == ([46, 46] : List UInt8)))))) = some r := h
  clear h
  have HC2 := Aside0.mk H
  clear H
  go_enter Tryd.func51, Tryd.ntmps51
  go_upto_region 1 with (fail)
  go_cut [20] (fun v20 wc => ∃ (kq : Nat) (x20_1 : Bool), v20 = .bool x20_1 ∧ Aside0 (strongroomref05_Name.j0 kq a0 x20_1 = some r) ∧ Aside0 (kq ≤ k) ∧ Drawn0 w wc)
  case first =>
   have H := HC2.out
   clear HC2
   by_cases c3 : a0.toList = ([] : List UInt8)
   ·rw [if_pos c3] at H
    have c3b0 : (a0.toList == ([] : List UInt8)) = true := beq_iff_eq.mpr c3
    have c3b1 : (a0.toList != ([] : List UInt8)) = false := bne_eq_false_iff_eq.mpr c3
    clear c3
    (first | rw [c3b0] | (simp only [i64_w, i32_w]; rw [c3b0]) | skip)
    have H' := Aside0.mk H
    clear H
    go_wp2
    go_meet
    case rel => exact ⟨_, (true), m39_, H', ⟨by first | omega | exact Nat.le_refl _⟩, m67_⟩
   rw [if_neg c3] at H
   have c3b0 : (a0.toList == ([] : List UInt8)) = false := beq_eq_false_iff_ne.mpr c3
   have c3b1 : (a0.toList != ([] : List UInt8)) = true := bne_iff_ne.mpr c3
   (first | rw [c3b0] | (simp only [i64_w, i32_w]; rw [c3b0]) | skip)
   by_cases c4 : (a0.size : Int) > 12
   ·rw [if_pos c4] at H
    have c4b0 : decide (12 < (a0.size : Int)) = true := decide_eq_true c4
    have c4b1 : decide (12 < a0.size) = true := decide_eq_true (by omega)
    clear c4
    have H' := Aside0.mk H
    clear H
    go_wp2
    go_meet
    case rel => exact ⟨_, (true), m39_, H', ⟨by first | omega | exact Nat.le_refl _⟩, m67_⟩
   rw [if_neg c4] at H
   have c4b0 : decide (12 < (a0.size : Int)) = false := decide_eq_false c4
   have c4b1 : decide (12 < a0.size) = false := decide_eq_false (by omega)
   clear c4
   by_cases c5 : a0.toList = ([46] : List UInt8)
   ·rw [if_pos c5] at H
    have c5b0 : (a0.toList == ([46] : List UInt8)) = true := beq_iff_eq.mpr c5
    have c5b1 : (a0.toList != ([46] : List UInt8)) = false := bne_eq_false_iff_eq.mpr c5
    clear c5
    have H' := Aside0.mk H
    clear H
    go_wp2
    go_meet
    case rel => exact ⟨_, (true), m39_, H', ⟨by first | omega | exact Nat.le_refl _⟩, m67_⟩
   rw [if_neg c5] at H
   have c5b0 : (a0.toList == ([46] : List UInt8)) = false := beq_eq_false_iff_ne.mpr c5
   have c5b1 : (a0.toList != ([46] : List UInt8)) = true := bne_iff_ne.mpr c5
   have H' := Aside0.mk H
   clear H
   go_wp2
   go_meet
   case rel => exact ⟨_, ((a0.toList == ([46, 46] : List UInt8))), m39_, H', ⟨by first | omega | exact Nat.le_refl _⟩, m67_⟩
  clear HC2
  obtain ⟨kq, x20_1, rfl, HA, HJ1, ⟨mc1, rfl⟩⟩ := hcut
  cases kq with
  | zero => exact absurd HA.out (by simp [strongroomref05_Name.j0])
  | succ kj1 =>
   have H := HA.out
   clear HA
   simp only [strongroomref05_Name.j0] at H
   by_cases c6 : x20_1 = true
   ·subst c6
    rw [if_pos rfl] at H
    obtain rfl := Option.some.inj H
    go_wp2
    go_ret
    exact ⟨by first | rfl | (simp; done) | (simp [*]; done), m67_⟩
   replace c6 := Bool.eq_false_iff.mpr c6
   subst c6
   rw [if_neg Bool.false_ne_true] at H
   have H' := Aside0.mk H
   clear H
   go_wp2
   go_loopg [3] kj1 (fun kq v3 w' => ∃ (x3_2 : Int), v3 = .int .i64 x3_2 ∧ Aside0 (strongroomref05_Name.l0 kq a0 x3_2 = some r) ∧ Aside0 (kq ≤ kj1) ∧ Drawn0 w w')
   case atStart => exact ⟨(0), m39_, H', ⟨Nat.le_refl _⟩, m67_⟩
   clear H'
   try clear c6
   obtain ⟨x3_2, rfl, HA, HK2, ⟨m2, rfl⟩⟩ := hrel
   cases gk with
   | zero => exact absurd HA.out (by simp [strongroomref05_Name.l0])
   | succ k2 =>
    have H := HA.out
    clear HA
    simp only [strongroomref05_Name.l0] at H
    by_cases c7 : x3_2 < (a0.size : Int)
    case neg =>
     rw [if_neg c7] at H
     have c7b0 : decide (x3_2 < (a0.size : Int)) = false := decide_eq_false c7
     clear c7
     obtain rfl := Option.some.inj H
     go_wp2
     go_ret
     exact ⟨by first | rfl | (simp; done) | (simp [*]; done), m67_⟩
    rw [if_pos c7] at H
    have c7b0 : decide (x3_2 < (a0.size : Int)) = true := decide_eq_true c7
    clear c7
    by_cases c8 : 0 ≤ x3_2
    case neg =>
     rw [if_neg c8] at H
     exact absurd H (by simp)
    rw [if_pos c8] at H
    have c8b0 : decide (0 ≤ x3_2) = true := decide_eq_true c8
    clear c8
    have HC10 := Aside0.mk H
    clear H
    have p9 : 0 ≤ (x3_2 : Int) := of_decide_eq_true m38_
    have q9 : x3_2 < (a0.size : Int) := of_decide_eq_true m38_
    have hx9 := bt_at a0 x3_2
    replace p9 := eq_true p9
    replace q9 := eq_true q9
    go_upto_region 7 with (fail)
    go_cut [5] (fun v5 wc => ∃ (kq : Nat) (x5_9 : Bool), v5 = .bool x5_9 ∧ Aside0 (strongroomref05_Name.j2 kq a0 x3_2 x5_9 = some r) ∧ Aside0 (kq ≤ k2) ∧ Drawn0 w wc)
    case first =>
     have H := HC10.out
     clear HC10
     by_cases c11 : (bt a0 x3_2) ≥ 97
     case neg =>
      rw [if_neg c11] at H
      have c11b0 : decide (97 ≤ (bt a0 x3_2)) = false := decide_eq_false c11
      clear c11
      (first | rw [c11b0] | (simp only [i64_w, i32_w]; rw [c11b0]) | skip)
      by_cases c19 : (bt a0 x3_2) ≥ 48
      case neg =>
       rw [if_neg c19] at H
       have c19b0 : decide (48 ≤ (bt a0 x3_2)) = false := decide_eq_false c19
       clear c19
       by_cases c23 : (bt a0 x3_2) = 45
       ·rw [if_pos c23] at H
        have c23b0 : ((bt a0 x3_2) == 45) = true := beq_iff_eq.mpr c23
        have c23b1 : ((bt a0 x3_2) != 45) = false := bne_eq_false_iff_eq.mpr c23
        clear c23
        have H' := Aside0.mk H
        clear H
        go_wp2
        go_meet
        case rel => exact ⟨_, (true), m39_, H', ⟨by have := HJ1.out; have := HK2.out; first | omega | exact Nat.le_refl _⟩, m67_⟩
       rw [if_neg c23] at H
       have c23b0 : ((bt a0 x3_2) == 45) = false := beq_eq_false_iff_ne.mpr c23
       have c23b1 : ((bt a0 x3_2) != 45) = true := bne_iff_ne.mpr c23
       by_cases c24 : (bt a0 x3_2) = 95
       case neg =>
        rw [if_neg c24] at H
        have c24b0 : ((bt a0 x3_2) == 95) = false := beq_eq_false_iff_ne.mpr c24
        have c24b1 : ((bt a0 x3_2) != 95) = true := bne_iff_ne.mpr c24
        have H' := Aside0.mk H
        clear H
        go_wp2
        go_meet
        case rel => exact ⟨_, (((bt a0 x3_2) == 46)), m39_, H', ⟨by have := HJ1.out; have := HK2.out; first | omega | exact Nat.le_refl _⟩, m67_⟩
       rw [if_pos c24] at H
       have c24b0 : ((bt a0 x3_2) == 95) = true := beq_iff_eq.mpr c24
       have c24b1 : ((bt a0 x3_2) != 95) = false := bne_eq_false_iff_eq.mpr c24
       clear c24
       have H' := Aside0.mk H
       clear H
       go_wp2
       go_meet
       case rel => exact ⟨_, (true), m39_, H', ⟨by have := HJ1.out; have := HK2.out; first | omega | exact Nat.le_refl _⟩, m67_⟩
      rw [if_pos c19] at H
      have c19b0 : decide (48 ≤ (bt a0 x3_2)) = true := decide_eq_true c19
      clear c19
      by_cases c20 : (bt a0 x3_2) ≤ 57
      ·rw [if_pos c20] at H
       have c20b0 : decide ((bt a0 x3_2) ≤ 57) = true := decide_eq_true c20
       clear c20
       have H' := Aside0.mk H
       clear H
       go_wp2
       go_meet
       case rel => exact ⟨_, (true), m39_, H', ⟨by have := HJ1.out; have := HK2.out; first | omega | exact Nat.le_refl _⟩, m67_⟩
      rw [if_neg c20] at H
      have c20b0 : decide ((bt a0 x3_2) ≤ 57) = false := decide_eq_false c20
      clear c20
      by_cases c21 : (bt a0 x3_2) = 45
      ·rw [if_pos c21] at H
       have c21b0 : ((bt a0 x3_2) == 45) = true := beq_iff_eq.mpr c21
       have c21b1 : ((bt a0 x3_2) != 45) = false := bne_eq_false_iff_eq.mpr c21
       clear c21
       have H' := Aside0.mk H
       clear H
       go_wp2
       go_meet
       case rel => exact ⟨_, (true), m39_, H', ⟨by have := HJ1.out; have := HK2.out; first | omega | exact Nat.le_refl _⟩, m67_⟩
      rw [if_neg c21] at H
      have c21b0 : ((bt a0 x3_2) == 45) = false := beq_eq_false_iff_ne.mpr c21
      have c21b1 : ((bt a0 x3_2) != 45) = true := bne_iff_ne.mpr c21
      by_cases c22 : (bt a0 x3_2) = 95
      case neg =>
       rw [if_neg c22] at H
       have c22b0 : ((bt a0 x3_2) == 95) = false := beq_eq_false_iff_ne.mpr c22
       have c22b1 : ((bt a0 x3_2) != 95) = true := bne_iff_ne.mpr c22
       have H' := Aside0.mk H
       clear H
       go_wp2
       go_meet
       case rel => exact ⟨_, (((bt a0 x3_2) == 46)), m39_, H', ⟨by have := HJ1.out; have := HK2.out; first | omega | exact Nat.le_refl _⟩, m67_⟩
      rw [if_pos c22] at H
      have c22b0 : ((bt a0 x3_2) == 95) = true := beq_iff_eq.mpr c22
      have c22b1 : ((bt a0 x3_2) != 95) = false := bne_eq_false_iff_eq.mpr c22
      clear c22
      have H' := Aside0.mk H
      clear H
      go_wp2
      go_meet
      case rel => exact ⟨_, (true), m39_, H', ⟨by have := HJ1.out; have := HK2.out; first | omega | exact Nat.le_refl _⟩, m67_⟩
     rw [if_pos c11] at H
     have c11b0 : decide (97 ≤ (bt a0 x3_2)) = true := decide_eq_true c11
     clear c11
     (first | rw [c11b0] | (simp only [i64_w, i32_w]; rw [c11b0]) | skip)
     by_cases c12 : (bt a0 x3_2) ≤ 122
     ·rw [if_pos c12] at H
      have c12b0 : decide ((bt a0 x3_2) ≤ 122) = true := decide_eq_true c12
      clear c12
      have H' := Aside0.mk H
      clear H
      go_wp2
      go_meet
      case rel => exact ⟨_, (true), m39_, H', ⟨by have := HJ1.out; have := HK2.out; first | omega | exact Nat.le_refl _⟩, m67_⟩
     rw [if_neg c12] at H
     have c12b0 : decide ((bt a0 x3_2) ≤ 122) = false := decide_eq_false c12
     clear c12
     by_cases c13 : (bt a0 x3_2) ≥ 48
     case neg =>
      rw [if_neg c13] at H
      have c13b0 : decide (48 ≤ (bt a0 x3_2)) = false := decide_eq_false c13
      clear c13
      by_cases c17 : (bt a0 x3_2) = 45
      ·rw [if_pos c17] at H
       have c17b0 : ((bt a0 x3_2) == 45) = true := beq_iff_eq.mpr c17
       have c17b1 : ((bt a0 x3_2) != 45) = false := bne_eq_false_iff_eq.mpr c17
       clear c17
       have H' := Aside0.mk H
       clear H
       go_wp2
       go_meet
       case rel => exact ⟨_, (true), m39_, H', ⟨by have := HJ1.out; have := HK2.out; first | omega | exact Nat.le_refl _⟩, m67_⟩
      rw [if_neg c17] at H
      have c17b0 : ((bt a0 x3_2) == 45) = false := beq_eq_false_iff_ne.mpr c17
      have c17b1 : ((bt a0 x3_2) != 45) = true := bne_iff_ne.mpr c17
      by_cases c18 : (bt a0 x3_2) = 95
      case neg =>
       rw [if_neg c18] at H
       have c18b0 : ((bt a0 x3_2) == 95) = false := beq_eq_false_iff_ne.mpr c18
       have c18b1 : ((bt a0 x3_2) != 95) = true := bne_iff_ne.mpr c18
       have H' := Aside0.mk H
       clear H
       go_wp2
       go_meet
       case rel => exact ⟨_, (((bt a0 x3_2) == 46)), m39_, H', ⟨by have := HJ1.out; have := HK2.out; first | omega | exact Nat.le_refl _⟩, m67_⟩
      rw [if_pos c18] at H
      have c18b0 : ((bt a0 x3_2) == 95) = true := beq_iff_eq.mpr c18
      have c18b1 : ((bt a0 x3_2) != 95) = false := bne_eq_false_iff_eq.mpr c18
      clear c18
      have H' := Aside0.mk H
      clear H
      go_wp2
      go_meet
      case rel => exact ⟨_, (true), m39_, H', ⟨by have := HJ1.out; have := HK2.out; first | omega | exact Nat.le_refl _⟩, m67_⟩
     rw [if_pos c13] at H
     have c13b0 : decide (48 ≤ (bt a0 x3_2)) = true := decide_eq_true c13
     clear c13
     by_cases c14 : (bt a0 x3_2) ≤ 57
     ·rw [if_pos c14] at H
      have c14b0 : decide ((bt a0 x3_2) ≤ 57) = true := decide_eq_true c14
      clear c14
      have H' := Aside0.mk H
      clear H
      go_wp2
      go_meet
      case rel => exact ⟨_, (true), m39_, H', ⟨by have := HJ1.out; have := HK2.out; first | omega | exact Nat.le_refl _⟩, m67_⟩
     rw [if_neg c14] at H
     have c14b0 : decide ((bt a0 x3_2) ≤ 57) = false := decide_eq_false c14
     clear c14
     by_cases c15 : (bt a0 x3_2) = 45
     ·rw [if_pos c15] at H
      have c15b0 : ((bt a0 x3_2) == 45) = true := beq_iff_eq.mpr c15
      have c15b1 : ((bt a0 x3_2) != 45) = false := bne_eq_false_iff_eq.mpr c15
      clear c15
      have H' := Aside0.mk H
      clear H
      go_wp2
      go_meet
      case rel => exact ⟨_, (true), m39_, H', ⟨by have := HJ1.out; have := HK2.out; first | omega | exact Nat.le_refl _⟩, m67_⟩
     rw [if_neg c15] at H
     have c15b0 : ((bt a0 x3_2) == 45) = false := beq_eq_false_iff_ne.mpr c15
     have c15b1 : ((bt a0 x3_2) != 45) = true := bne_iff_ne.mpr c15
     by_cases c16 : (bt a0 x3_2) = 95
     case neg =>
      rw [if_neg c16] at H
      have c16b0 : ((bt a0 x3_2) == 95) = false := beq_eq_false_iff_ne.mpr c16
      have c16b1 : ((bt a0 x3_2) != 95) = true := bne_iff_ne.mpr c16
      have H' := Aside0.mk H
      clear H
      go_wp2
      go_meet
      case rel => exact ⟨_, (((bt a0 x3_2) == 46)), m39_, H', ⟨by have := HJ1.out; have := HK2.out; first | omega | exact Nat.le_refl _⟩, m67_⟩
     rw [if_pos c16] at H
     have c16b0 : ((bt a0 x3_2) == 95) = true := beq_iff_eq.mpr c16
     have c16b1 : ((bt a0 x3_2) != 95) = false := bne_eq_false_iff_eq.mpr c16
     clear c16
     have H' := Aside0.mk H
     clear H
     go_wp2
     go_meet
     case rel => exact ⟨_, (true), m39_, H', ⟨by have := HJ1.out; have := HK2.out; first | omega | exact Nat.le_refl _⟩, m67_⟩
    clear HC10
    try clear c7b0; try clear c8b0; try clear p9; try clear q9; try clear hx9; try clear p9; try clear q9
    obtain ⟨kq, x5_9, rfl, HA, HJ9, ⟨mc9, rfl⟩⟩ := hcut
    cases kq with
    | zero => exact absurd HA.out (by simp [strongroomref05_Name.j2])
    | succ kj9 =>
     have H := HA.out
     clear HA
     simp only [strongroomref05_Name.j2] at H
     by_cases c25 : x5_9 = true
     case neg =>
      replace c25 := Bool.eq_false_iff.mpr c25
      subst c25
      rw [if_neg Bool.false_ne_true] at H
      obtain rfl := Option.some.inj H
      go_wp2
      go_ret
      exact ⟨by first | rfl | (simp; done) | (simp [*]; done), m67_⟩
     subst c25
     rw [if_pos rfl] at H
     have H' := Aside0.mk H
     clear H
     go_wp2
     go_roundg kj9
     case measure => have := HJ1.out; have := HK2.out; have := HJ9.out; omega
     case rel => exact ⟨(wrap64 (x3_2 + 1)), m39_, H', ⟨by have := HJ1.out; have := HK2.out; have := HJ9.out; omega⟩, m67_⟩

/-! ### strongroomref05_Cut: function 69 -/
def strongroomref05_Cut.l0 : Nat → ByteArray → List ByteArray → Int → Int → Option (List ByteArray)
  | 0, _, _, _, _ => none
  | k + 1, x0, x3, x4, x5 => if x5 ≤ (x0.size : Int) then (if x5 = (x0.size : Int) then (if 0 ≤ x4 then (if x4 ≤ x5 then (if x3.length < 8796093022208 then (strongroomref05_Cut.l0 k x0 (x3 ++ [x0.extract (x4 : Int).toNat (x5 : Int).toNat]) (wrap64 (x5 + 1)) (wrap64 (x5 + 1))) else (none)) else (none)) else (none)) else (if 0 ≤ x5 then (if x5 < (x0.size : Int) then (if (bt x0 x5) = 47 then (if 0 ≤ x4 then (if x4 ≤ x5 then (if x3.length < 8796093022208 then (strongroomref05_Cut.l0 k x0 (x3 ++ [x0.extract (x4 : Int).toNat (x5 : Int).toNat]) (wrap64 (x5 + 1)) (wrap64 (x5 + 1))) else (none)) else (none)) else (none)) else (strongroomref05_Cut.l0 k x0 x3 x4 (wrap64 (x5 + 1)))) else (none)) else (none))) else (some x3)
def strongroomref05_Cut.f (k : Nat) (a0 : ByteArray) : Option (List ByteArray) := strongroomref05_Cut.l0 k a0 ([] : List ByteArray) 0 0
theorem strongroomref05_Cut.mono_l : ∀ k, (∀ y0 y1 y2 y3, LeO (strongroomref05_Cut.l0 k y0 y1 y2 y3) (strongroomref05_Cut.l0 (k + 1) y0 y1 y2 y3))
  | 0 => fun _ _ _ _ r h => by simp [strongroomref05_Cut.l0] at h
  | k + 1 => by
    have ih0 := strongroomref05_Cut.mono_l k
    · intro y0 y1 y2 y3
      unfold strongroomref05_Cut.l0
      repeat' first
      | (with_reducible exact ih0 _ _ _ _)
      | (with_reducible exact LeO.refl _)
      | (with_reducible exact LeO.none _)
      | (with_reducible refine LeO.ite ?_ ?_)
      | (with_reducible refine LeO.bind ?_ (fun _ => ?_))
      | exact ih0 _ _ _ _
      | exact LeO.none _
      | refine LeO.ite ?_ ?_
      | refine LeO.bind ?_ (fun _ => ?_)
theorem strongroomref05_Cut.mono : ∀ a0 k, LeO (strongroomref05_Cut.f k a0) (strongroomref05_Cut.f (k + 1) a0) := by
  intro a0 k
  have ih0 := strongroomref05_Cut.mono_l k
  unfold strongroomref05_Cut.f
  repeat' first
      | (with_reducible exact ih0 _ _ _ _)
      | (with_reducible exact LeO.refl _)
      | (with_reducible exact LeO.none _)
      | (with_reducible refine LeO.ite ?_ ?_)
      | (with_reducible refine LeO.bind ?_ (fun _ => ?_))
      | exact ih0 _ _ _ _
      | exact LeO.none _
      | refine LeO.ite ?_ ?_
      | refine LeO.bind ?_ (fun _ => ?_)
set_option maxHeartbeats 8000000 in
set_option maxRecDepth 100000 in
theorem strongroomref05_Cut.calls (k : Nat) (a0 : ByteArray) (r : List ByteArray) (w : World) (h : strongroomref05_Cut.f k a0 = some r) :
    Calls Tryd.prog 69 #[.string a0] w fun e w' => ∃ v0_ : Value, e = .returned (v0_) ∧ Kd.R Kd.string 9 w' w.heap.size (fun _ => True) v0_ r ∧ Below w.heap.size w w' := by
  have HB := Aside0.mk (Below.refl w.heap.size w)
  have H : (strongroomref05_Cut.l0 k a0 ([] : List ByteArray) 0 0) = some r := h
  clear h
  have H' := Aside0.mk H
  clear H
  go_enter Tryd.func69, Tryd.ntmps69
  go_wp2
  go_loopg [3, 4, 5] k (fun kq v3 v4 v5 w' => ∃ (x3_1 : List ByteArray) (x4_1 : Int) (x5_1 : Int), v4 = .int .i64 x4_1 ∧ v5 = .int .i64 x5_1 ∧ Aside0 (strongroomref05_Cut.l0 kq a0 x3_1 x4_1 x5_1 = some r) ∧ Aside0 (kq ≤ k) ∧ Aside0 (Kd.R Kd.string 9 w' w.heap.size (fun _ => True) v3 x3_1) ∧ Aside0 (Below w.heap.size w w'))
  case atStart => exact ⟨(([] : List ByteArray)), (0), (0), m39_, m39_, H', ⟨Nat.le_refl _⟩, ⟨by first | exact Kd.R_nil _ _ _ _ _ | exact Kd.N_nil _ _ _ _ _ | exact Kd.V_nil _ _ _ _ _ | exact Kd.Q_nil _ _ _ _ _ | exact Kd.S_nil _ _ _ _ _⟩, ⟨m64_⟩⟩
  clear H'
  obtain ⟨x3_1, x4_1, x5_1, rfl, rfl, HA, HK1, HO_3, HB⟩ := hrel
  cases gk with
  | zero => exact absurd HA.out (by simp [strongroomref05_Cut.l0])
  | succ k1 =>
   have H := HA.out
   clear HA
   simp only [strongroomref05_Cut.l0] at H
   by_cases c2 : x5_1 ≤ (a0.size : Int)
   case neg =>
    rw [if_neg c2] at H
    have c2b0 : decide (x5_1 ≤ (a0.size : Int)) = false := decide_eq_false c2
    clear c2
    obtain rfl := Option.some.inj H
    go_wp2
    go_ret
    exact ⟨_, by first | rfl | (simp [errW_none, errW_some] <;> rfl) | (simp [*, errW_none, errW_some] <;> rfl), by refine rD_ ?_; exact HO_3.out, m64_⟩
   rw [if_pos c2] at H
   have c2b0 : decide (x5_1 ≤ (a0.size : Int)) = true := decide_eq_true c2
   clear c2
   by_cases c3 : x5_1 = (a0.size : Int)
   ·rw [if_pos c3] at H
    have c3b0 : (x5_1 == (a0.size : Int)) = true := beq_iff_eq.mpr c3
    have c3b1 : (x5_1 != (a0.size : Int)) = false := bne_eq_false_iff_eq.mpr c3
    clear c3
    by_cases c4 : 0 ≤ x4_1
    case neg =>
     rw [if_neg c4] at H
     exact absurd H (by simp)
    rw [if_pos c4] at H
    have c4b0 := eq_true c4
    have c4b1 : decide (0 ≤ x4_1) = true := decide_eq_true c4
    clear c4
    by_cases c5 : x4_1 ≤ x5_1
    case neg =>
     rw [if_neg c5] at H
     exact absurd H (by simp)
    rw [if_pos c5] at H
    have c5b0 := eq_true c5
    have c5b1 : decide (x4_1 ≤ x5_1) = true := decide_eq_true c5
    clear c5
    have c6b0 := eq_true (of_decide_eq_true m38_ : x5_1 ≤ (a0.size : Int))
    by_cases c7 : x3_1.length < 8796093022208
    case neg =>
     rw [if_neg c7] at H
     exact absurd H (by simp)
    rw [if_pos c7] at H
    have LMc7 := Aside0.mk c7
    clear c7
    obtain ⟨y262, hy262⟩ : ∃ y_ : List ByteArray, y_ = (x3_1 ++ [a0.extract (x4_1 : Int).toNat (x5_1 : Int).toNat]) := ⟨_, rfl⟩
    replace H : (strongroomref05_Cut.l0 k1 a0 y262 (wrap64 (x5_1 + 1)) (wrap64 (x5_1 + 1))) = some r := by first | (rw [hy262]; with_reducible exact H) | (have H2_ := (Option.bind_some _ _).symm.trans H; rw [hy262]; with_reducible exact H2_) | (have H2_ := (Option.bind_some _ _).symm.trans H; with_reducible exact H2_) | with_reducible exact H | (rw [hy262]; exact H) | exact H
    have Ny262 := Aside0.mk hy262
    clear hy262
    have H' := Aside0.mk H
    clear H
    go_wp2_with (first | ((with_reducible refine gate_builtin (b := .append) (xs := #[.tmp 22, .tmp 27]) rfl ?_); at_builtin; refine Kd.R_append Kd.string (w0 := w) w.heap.size rfl (.tmp 22) (.tmp 27) 29 9 (.string ⟨#[]⟩) 16 rfl Tryd.underlying29 info9 rfl (by decide) (by omega) u3 x3_1 (a0.extract (x4_1 : Int).toNat (x5_1 : Int).toNat) [.string (a0.extract (x4_1 : Int).toNat (x5_1 : Int).toNat)] (fun _ => True) (fun _ => False) rfl rfl ?aP (fun _ hk => hk.elim) ?aF ?aO ?aB ?aS ?aL ?_; (case aP => exact rfl); (case aB => exact m15_); (case aF => exact (fun _ _ => trivial)); (case aO => exact (rD_ HO_3.out)); (case aS => exact (below_size m15_)); (case aL => have := LMc7.out; omega); intro v263 w8 ho hb hg hat; rw [← Ny262.out] at ho; replace HB := Aside0.mk (hb); have HO264 := Aside0.mk (ho); clear HO_3; clear ho hb hg hat))
    go_roundg k1
    case measure => have := HK1.out; omega
    case rel => exact ⟨(y262), (wrap64 (x5_1 + 1)), (wrap64 (x5_1 + 1)), m39_, m39_, H', ⟨by have := HK1.out; omega⟩, ⟨by refine rD_ ?_; exact HO264.out⟩, ⟨m64_⟩⟩
   rw [if_neg c3] at H
   have c3b0 : (x5_1 == (a0.size : Int)) = false := beq_eq_false_iff_ne.mpr c3
   have c3b1 : (x5_1 != (a0.size : Int)) = true := bne_iff_ne.mpr c3
   by_cases c9 : 0 ≤ x5_1
   case neg =>
    rw [if_neg c9] at H
    exact absurd H (by simp)
   rw [if_pos c9] at H
   have c9b0 : decide (0 ≤ x5_1) = true := decide_eq_true c9
   clear c9
   by_cases c10 : x5_1 < (a0.size : Int)
   case neg =>
    rw [if_neg c10] at H
    exact absurd H (by simp)
   rw [if_pos c10] at H
   have c10b0 : decide (x5_1 < (a0.size : Int)) = true := decide_eq_true c10
   clear c10
   by_cases c12 : (bt a0 x5_1) = 47
   case neg =>
    rw [if_neg c12] at H
    have c12b0 : ((bt a0 x5_1) == 47) = false := beq_eq_false_iff_ne.mpr c12
    have c12b1 : ((bt a0 x5_1) != 47) = true := bne_iff_ne.mpr c12
    have H' := Aside0.mk H
    clear H
    have p11 : 0 ≤ (x5_1 : Int) := of_decide_eq_true m38_
    have q11 : x5_1 < (a0.size : Int) := of_decide_eq_true m38_
    have hx11 := bt_at a0 x5_1
    replace p11 := eq_true p11
    replace q11 := eq_true q11
    go_wp2
    go_roundg k1
    case measure => have := HK1.out; omega
    case rel => exact ⟨(x3_1), (x4_1), (wrap64 (x5_1 + 1)), m39_, m39_, H', ⟨by have := HK1.out; omega⟩, ⟨by refine rD_ ?_; exact HO_3.out⟩, ⟨m64_⟩⟩
   rw [if_pos c12] at H
   have c12b0 : ((bt a0 x5_1) == 47) = true := beq_iff_eq.mpr c12
   have c12b1 : ((bt a0 x5_1) != 47) = false := bne_eq_false_iff_eq.mpr c12
   clear c12
   by_cases c13 : 0 ≤ x4_1
   case neg =>
    rw [if_neg c13] at H
    exact absurd H (by simp)
   rw [if_pos c13] at H
   have c13b0 := eq_true c13
   have c13b1 : decide (0 ≤ x4_1) = true := decide_eq_true c13
   clear c13
   by_cases c14 : x4_1 ≤ x5_1
   case neg =>
    rw [if_neg c14] at H
    exact absurd H (by simp)
   rw [if_pos c14] at H
   have c14b0 := eq_true c14
   have c14b1 : decide (x4_1 ≤ x5_1) = true := decide_eq_true c14
   clear c14
   have c15b0 := eq_true (of_decide_eq_true m38_ : x5_1 ≤ (a0.size : Int))
   by_cases c16 : x3_1.length < 8796093022208
   case neg =>
    rw [if_neg c16] at H
    exact absurd H (by simp)
   rw [if_pos c16] at H
   have LMc16 := Aside0.mk c16
   clear c16
   obtain ⟨y265, hy265⟩ : ∃ y_ : List ByteArray, y_ = (x3_1 ++ [a0.extract (x4_1 : Int).toNat (x5_1 : Int).toNat]) := ⟨_, rfl⟩
   replace H : (strongroomref05_Cut.l0 k1 a0 y265 (wrap64 (x5_1 + 1)) (wrap64 (x5_1 + 1))) = some r := by first | (rw [hy265]; with_reducible exact H) | (have H2_ := (Option.bind_some _ _).symm.trans H; rw [hy265]; with_reducible exact H2_) | (have H2_ := (Option.bind_some _ _).symm.trans H; with_reducible exact H2_) | with_reducible exact H | (rw [hy265]; exact H) | exact H
   have Ny265 := Aside0.mk hy265
   clear hy265
   have H' := Aside0.mk H
   clear H
   have p11 : 0 ≤ (x5_1 : Int) := of_decide_eq_true m38_
   have q11 : x5_1 < (a0.size : Int) := of_decide_eq_true m38_
   have hx11 := bt_at a0 x5_1
   replace p11 := eq_true p11
   replace q11 := eq_true q11
   go_wp2_with (first | ((with_reducible refine gate_builtin (b := .append) (xs := #[.tmp 22, .tmp 27]) rfl ?_); at_builtin; refine Kd.R_append Kd.string (w0 := w) w.heap.size rfl (.tmp 22) (.tmp 27) 29 9 (.string ⟨#[]⟩) 16 rfl Tryd.underlying29 info9 rfl (by decide) (by omega) u3 x3_1 (a0.extract (x4_1 : Int).toNat (x5_1 : Int).toNat) [.string (a0.extract (x4_1 : Int).toNat (x5_1 : Int).toNat)] (fun _ => True) (fun _ => False) rfl rfl ?aP (fun _ hk => hk.elim) ?aF ?aO ?aB ?aS ?aL ?_; (case aP => exact rfl); (case aB => exact m15_); (case aF => exact (fun _ _ => trivial)); (case aO => exact (rD_ HO_3.out)); (case aS => exact (below_size m15_)); (case aL => have := LMc16.out; omega); intro v266 w17 ho hb hg hat; rw [← Ny265.out] at ho; replace HB := Aside0.mk (hb); have HO267 := Aside0.mk (ho); clear HO_3; clear ho hb hg hat))
   go_roundg k1
   case measure => have := HK1.out; omega
   case rel => exact ⟨(y265), (wrap64 (x5_1 + 1)), (wrap64 (x5_1 + 1)), m39_, m39_, H', ⟨by have := HK1.out; omega⟩, ⟨by refine rD_ ?_; exact HO267.out⟩, ⟨m64_⟩⟩

/-! ### strongroomref05_Good: function 34 -/
def strongroomref05_Good.l0 : Nat → List ByteArray → Int → Option (Bool)
  | 0, _, _ => none
  | k + 1, x3, x4 => if x4 < (x3.length : Int) then (if 0 ≤ x4 then ((strongroomref05_Name.f k (rdOf ByteArray.empty x3 x4)).bind fun t272 => (if t272 = true then (strongroomref05_Good.l0 k x3 (wrap64 (x4 + 1))) else (some false))) else (none)) else (some true)
def strongroomref05_Good.f (k : Nat) (a0 : ByteArray) : Option (Bool) := if (a0.size : Int) > 32 then (some false) else ((strongroomref05_Cut.f k a0).bind fun t268 => (strongroomref05_Good.l0 k t268 0))
theorem strongroomref05_Good.mono_l : ∀ k, (∀ y0 y1, LeO (strongroomref05_Good.l0 k y0 y1) (strongroomref05_Good.l0 (k + 1) y0 y1))
  | 0 => fun _ _ r h => by simp [strongroomref05_Good.l0] at h
  | k + 1 => by
    have ih0 := strongroomref05_Good.mono_l k
    · intro y0 y1
      unfold strongroomref05_Good.l0
      repeat' first
      | (with_reducible exact ih0 _ _)
      | (with_reducible exact strongroomref05_Cut.mono _ _)
      | (with_reducible exact strongroomref05_Name.mono _ _)
      | (with_reducible exact LeO.refl _)
      | (with_reducible exact LeO.none _)
      | (with_reducible refine LeO.ite ?_ ?_)
      | (with_reducible refine LeO.bind ?_ (fun _ => ?_))
      | exact ih0 _ _
      | exact strongroomref05_Cut.mono _ _
      | exact strongroomref05_Name.mono _ _
      | exact LeO.none _
      | refine LeO.ite ?_ ?_
      | refine LeO.bind ?_ (fun _ => ?_)
theorem strongroomref05_Good.mono : ∀ a0 k, LeO (strongroomref05_Good.f k a0) (strongroomref05_Good.f (k + 1) a0) := by
  intro a0 k
  have ih0 := strongroomref05_Good.mono_l k
  unfold strongroomref05_Good.f
  repeat' first
      | (with_reducible exact ih0 _ _)
      | (with_reducible exact strongroomref05_Cut.mono _ _)
      | (with_reducible exact strongroomref05_Name.mono _ _)
      | (with_reducible exact LeO.refl _)
      | (with_reducible exact LeO.none _)
      | (with_reducible refine LeO.ite ?_ ?_)
      | (with_reducible refine LeO.bind ?_ (fun _ => ?_))
      | exact ih0 _ _
      | exact strongroomref05_Cut.mono _ _
      | exact strongroomref05_Name.mono _ _
      | exact LeO.none _
      | refine LeO.ite ?_ ?_
      | refine LeO.bind ?_ (fun _ => ?_)
set_option maxHeartbeats 8000000 in
set_option maxRecDepth 100000 in
theorem strongroomref05_Good.calls (k : Nat) (a0 : ByteArray) (r : Bool) (w : World) (h : strongroomref05_Good.f k a0 = some r) :
    Calls Tryd.prog 34 #[.string a0] w fun e w' => e = .returned (.bool r) ∧ Below w.heap.size w w' := by
  have HB := Aside0.mk (Below.refl w.heap.size w)
  have H : (if (a0.size : Int) > 32 then (some false) else ((strongroomref05_Cut.f k a0).bind fun t268 => (strongroomref05_Good.l0 k t268 0))) = some r := h
  clear h
  by_cases c2 : (a0.size : Int) > 32
  ·rw [if_pos c2] at H
   have c2b0 : decide (32 < (a0.size : Int)) = true := decide_eq_true c2
   have c2b1 : decide (32 < a0.size) = true := decide_eq_true (by omega)
   clear c2
   obtain rfl := Option.some.inj H
   go_enter Tryd.func34, Tryd.ntmps34
   go_wp2
   go_ret
   exact ⟨by first | rfl | (simp [errW_none, errW_some] <;> rfl) | (simp [*, errW_none, errW_some] <;> rfl), m64_⟩
  rw [if_neg c2] at H
  have c2b0 : decide (32 < (a0.size : Int)) = false := decide_eq_false c2
  have c2b1 : decide (32 < a0.size) = false := decide_eq_false (by omega)
  clear c2
  replace H := Option.bind_eq_some_iff.mp H
  obtain ⟨t268, A30, H⟩ := H
  try dsimp only at H
  have A3 := Aside0.mk A30
  clear A30
  have H' := Aside0.mk H
  clear H
  go_enter Tryd.func34, Tryd.ntmps34
  go_wp2_with (first | ((with_reducible refine gate_callee (f := 69) rfl ?_); refine goesL_ (some 9) rfl rfl Tryd.func69 (by kernel_rfl) rfl #[.string a0] rfl m14_ ?_; (with_reducible refine (strongroomref05_Cut.calls k a0 t268 _ A3.out).mono ?_); rintro e w4 ⟨v269, rfl, ho0, hb⟩; refine ⟨_, rfl, ?_⟩; have HO270 := Aside0.mk (Kd.R_lower ho0 (below_size m15_)); replace HB := Aside0.mk (below_step m15_ hb); (try clear hb ho0)))
  go_loopg [4] k (fun kq v4 w' => ∃ (x4_1 : Int), v4 = .int .i64 x4_1 ∧ Aside0 (strongroomref05_Good.l0 kq t268 x4_1 = some r) ∧ Aside0 (kq ≤ k) ∧ Aside0 (Kd.R Kd.string 9 w' w.heap.size (fun _ => True) v269 t268) ∧ Aside0 (Below w.heap.size w w'))
  case atStart => exact ⟨(0), m39_, H', ⟨Nat.le_refl _⟩, ⟨by refine rD_ ?_; exact HO270.out⟩, ⟨m64_⟩⟩
  clear H'
  try clear c2b0; try clear c2b1
  obtain ⟨x4_1, rfl, HA, HK1, HO_3, HB⟩ := hrel
  cases gk with
  | zero => exact absurd HA.out (by simp [strongroomref05_Good.l0])
  | succ k1 =>
   have H := HA.out
   clear HA
   simp only [strongroomref05_Good.l0] at H
   by_cases c5 : x4_1 < (t268.length : Int)
   case neg =>
    rw [if_neg c5] at H
    have c5b0 : decide (x4_1 < (t268.length : Int)) = false := decide_eq_false c5
    clear c5
    obtain rfl := Option.some.inj H
    obtain ⟨Ao11, co11, eo11⟩ := Kd.R_slice HO_3.out
    subst eo11
    go_wp2
    go_ret
    exact ⟨by first | rfl | (simp [errW_none, errW_some] <;> rfl) | (simp [*, errW_none, errW_some] <;> rfl), m64_⟩
   rw [if_pos c5] at H
   have c5b0 : decide (x4_1 < (t268.length : Int)) = true := decide_eq_true c5
   clear c5
   by_cases c6 : 0 ≤ x4_1
   case neg =>
    rw [if_neg c6] at H
    exact absurd H (by simp)
   rw [if_pos c6] at H
   have c6b0 : decide (0 ≤ x4_1) = true := decide_eq_true c6
   clear c6
   replace H := Option.bind_eq_some_iff.mp H
   obtain ⟨t272, A70, H⟩ := H
   try dsimp only at H
   have A7 := Aside0.mk A70
   clear A70
   by_cases c8 : t272 = true
   case neg =>
    replace c8 := Bool.eq_false_iff.mpr c8
    subst c8
    rw [if_neg Bool.false_ne_true] at H
    obtain rfl := Option.some.inj H
    obtain ⟨Ao10, co10, eo10⟩ := Kd.R_slice HO_3.out
    subst eo10
    have p271 : 0 ≤ (x4_1 : Int) := of_decide_eq_true m38_
    have q271 : x4_1 < (t268.length : Int) := of_decide_eq_true m38_
    obtain ⟨ad271, e271, hx271_0⟩ := Kd.at_string (Kd.R_reads' HO_3.out).2.2 x4_1 p271 q271
    cases e271
    replace p271 := eq_true p271
    replace q271 := eq_true q271
    go_wp2_with (first | ((with_reducible refine gate_callee (f := 51) rfl ?_); refine goesL_ (some 20) rfl rfl Tryd.func51 (by kernel_rfl) rfl #[.string (rdOf ByteArray.empty t268 x4_1)] rfl m14_ ?_; (with_reducible refine (strongroomref05_Name.calls k1 (rdOf ByteArray.empty t268 x4_1) false _ A7.out).mono ?_); rintro e w' ⟨rfl, ⟨nd, rfl⟩⟩; refine ⟨_, rfl, ?_⟩))
    go_ret
    exact ⟨by first | rfl | (simp [errW_none, errW_some] <;> rfl) | (simp [*, errW_none, errW_some] <;> rfl), m64_⟩
   subst c8
   rw [if_pos rfl] at H
   have H' := Aside0.mk H
   clear H
   obtain ⟨Ao9, co9, eo9⟩ := Kd.R_slice HO_3.out
   subst eo9
   have p271 : 0 ≤ (x4_1 : Int) := of_decide_eq_true m38_
   have q271 : x4_1 < (t268.length : Int) := of_decide_eq_true m38_
   obtain ⟨ad271, e271, hx271_0⟩ := Kd.at_string (Kd.R_reads' HO_3.out).2.2 x4_1 p271 q271
   cases e271
   replace p271 := eq_true p271
   replace q271 := eq_true q271
   go_wp2_with (first | ((with_reducible refine gate_callee (f := 51) rfl ?_); refine goesL_ (some 20) rfl rfl Tryd.func51 (by kernel_rfl) rfl #[.string (rdOf ByteArray.empty t268 x4_1)] rfl m14_ ?_; (with_reducible refine (strongroomref05_Name.calls k1 (rdOf ByteArray.empty t268 x4_1) true _ A7.out).mono ?_); rintro e w' ⟨rfl, ⟨nd, rfl⟩⟩; refine ⟨_, rfl, ?_⟩))
   go_roundg k1
   case measure => have := HK1.out; omega
   case rel => exact ⟨(wrap64 (x4_1 + 1)), m39_, H', ⟨by have := HK1.out; omega⟩, ⟨by refine rD_ ?_; exact HO_3.out⟩, ⟨m64_⟩⟩

end Go.Proofs.YtoankokkdmbjmaaDoorH.HFrameReplies
