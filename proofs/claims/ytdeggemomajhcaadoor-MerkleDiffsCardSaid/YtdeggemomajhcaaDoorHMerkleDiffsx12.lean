-- PRINTED by print.py (a twelfth state) out of the translation. Not trusted: Lean checks it.
import Derived.Test.YtdeggemomajhcaaDoorHMerkleDiffsx0
import Derived.Test.YtdeggemomajhcaaDoorHMerkleDiffsx11
namespace Go.Proofs.YtdeggemomajhcaaDoorH.HMerkleDiffs
open Go.RowKit Go.Proofs.YtdeggemomajhcaaDoorW.PrintWords Go.Proofs.YtdeggemomajhcaaDoorW.PrintLast Go.Proofs.YtdeggemomajhcaaDoorW.PrintMore
attribute [local go_sem] max2_int min2_int max_two min_two max_three min_three max_four min_four   -- for this text's walks alone
set_option linter.unusedVariables false
set_option linter.unusedSimpArgs false

/-! ### strongroomref20_Diff: function 31 -/
mutual
def strongroomref20_Diff.l0 : Nat → List (S39) → List (S39) → List (S67) → Int → Int → Option ((List (S67)))
 | 0, _, _, _, _, _ => none
 | k + 1, x0, x1, x5, x6, x7 => if x6 < (x0.length : Int) then (strongroomref20_Diff.j1 k x0 x1 x5 x6 x7 true) else (strongroomref20_Diff.j1 k x0 x1 x5 x6 x7 (decide (x7 < (x1.length : Int))))
def strongroomref20_Diff.j1 : Nat → List (S39) → List (S39) → List (S67) → Int → Int → Bool → Option ((List (S67)))
 | 0, _, _, _, _, _, _ => none
 | k + 1, x0, x1, x5, x6, x7, x20 => if x20 = true then (if x6 < (x0.length : Int) then (if 0 ≤ x6 then (strongroomref20_Diff.j2 k x0 x1 x5 x6 x7 ((rd_T39 x0 x6).f0)) else (none)) else (strongroomref20_Diff.j2 k x0 x1 x5 x6 x7 (⟨#[]⟩ : ByteArray))) else (some x5)
def strongroomref20_Diff.j2 : Nat → List (S39) → List (S39) → List (S67) → Int → Int → ByteArray → Option ((List (S67)))
 | 0, _, _, _, _, _, _ => none
 | k + 1, x0, x1, x5, x6, x7, x8 => if x8.toList = ([] : List UInt8) then (strongroomref20_Diff.j3 k x0 x1 x5 x6 x7 x8 true) else (if x7 < (x1.length : Int) then (if 0 ≤ x7 then (strongroomref20_Diff.j3 k x0 x1 x5 x6 x7 x8 (Op.bytesLess (((rd_T39 x1 x7).f0).toList) x8.toList)) else (none)) else (strongroomref20_Diff.j3 k x0 x1 x5 x6 x7 x8 false))
def strongroomref20_Diff.j3 : Nat → List (S39) → List (S39) → List (S67) → Int → Int → ByteArray → Bool → Option ((List (S67)))
 | 0, _, _, _, _, _, _, _ => none
 | k + 1, x0, x1, x5, x6, x7, x8, x46 => if x46 = true then (if 0 ≤ x7 then (if x7 < (x1.length : Int) then (strongroomref20_Diff.j4 k x0 x1 x5 x6 x7 ((rd_T39 x1 x7).f0)) else (none)) else (none)) else (strongroomref20_Diff.j4 k x0 x1 x5 x6 x7 x8)
def strongroomref20_Diff.j4 : Nat → List (S39) → List (S39) → List (S67) → Int → Int → ByteArray → Option ((List (S67)))
 | 0, _, _, _, _, _, _ => none
 | k + 1, x0, x1, x5, x6, x7, x8 => (strongroomref20_sumOf.f k x0 x8).bind fun t259 => ((strongroomref20_sumOf.f k x1 x8).bind fun t260 => (if t259.toList = t260.toList then (strongroomref20_Diff.j5 k x0 x1 x5 x6 x7 t259 t260) else (if x5.length < 2932031007402 then (strongroomref20_Diff.j5 k x0 x1 (x5 ++ [(⟨x8, t259, t260⟩ : S67)]) x6 x7 t259 t260) else (none))))
def strongroomref20_Diff.j5 : Nat → List (S39) → List (S39) → List (S67) → Int → Int → ByteArray → ByteArray → Option ((List (S67)))
 | 0, _, _, _, _, _, _, _ => none
 | k + 1, x0, x1, x5, x6, x7, x9, x10 => if x9.toList = ([] : List UInt8) then (if x10.toList = ([] : List UInt8) then (strongroomref20_Diff.l0 k x0 x1 x5 x6 x7) else (strongroomref20_Diff.l0 k x0 x1 x5 x6 (wrap64 (x7 + 1)))) else (if x10.toList = ([] : List UInt8) then (strongroomref20_Diff.l0 k x0 x1 x5 (wrap64 (x6 + 1)) x7) else (strongroomref20_Diff.l0 k x0 x1 x5 (wrap64 (x6 + 1)) (wrap64 (x7 + 1))))
end
def strongroomref20_Diff.f (k : Nat) (l0 : List (S39)) (l1 : List (S39)) : Option ((List (S67))) := strongroomref20_Diff.l0 k l0 l1 ([] : List (S67)) 0 0
theorem strongroomref20_Diff.mono_l : ∀ k, (∀ y0 y1 y2 y3 y4, LeO (strongroomref20_Diff.l0 k y0 y1 y2 y3 y4) (strongroomref20_Diff.l0 (k + 1) y0 y1 y2 y3 y4)) ∧ (∀ y0 y1 y2 y3 y4 y5, LeO (strongroomref20_Diff.j1 k y0 y1 y2 y3 y4 y5) (strongroomref20_Diff.j1 (k + 1) y0 y1 y2 y3 y4 y5)) ∧ (∀ y0 y1 y2 y3 y4 y5, LeO (strongroomref20_Diff.j2 k y0 y1 y2 y3 y4 y5) (strongroomref20_Diff.j2 (k + 1) y0 y1 y2 y3 y4 y5)) ∧ (∀ y0 y1 y2 y3 y4 y5 y6, LeO (strongroomref20_Diff.j3 k y0 y1 y2 y3 y4 y5 y6) (strongroomref20_Diff.j3 (k + 1) y0 y1 y2 y3 y4 y5 y6)) ∧ (∀ y0 y1 y2 y3 y4 y5, LeO (strongroomref20_Diff.j4 k y0 y1 y2 y3 y4 y5) (strongroomref20_Diff.j4 (k + 1) y0 y1 y2 y3 y4 y5)) ∧ (∀ y0 y1 y2 y3 y4 y5 y6, LeO (strongroomref20_Diff.j5 k y0 y1 y2 y3 y4 y5 y6) (strongroomref20_Diff.j5 (k + 1) y0 y1 y2 y3 y4 y5 y6))
 | 0 => ⟨fun _ _ _ _ _ r h => by simp [strongroomref20_Diff.l0] at h, fun _ _ _ _ _ _ r h => by simp [strongroomref20_Diff.j1] at h, fun _ _ _ _ _ _ r h => by simp [strongroomref20_Diff.j2] at h, fun _ _ _ _ _ _ _ r h => by simp [strongroomref20_Diff.j3] at h, fun _ _ _ _ _ _ r h => by simp [strongroomref20_Diff.j4] at h, fun _ _ _ _ _ _ _ r h => by simp [strongroomref20_Diff.j5] at h⟩
 | k + 1 => by
  obtain ⟨ih0, ih1, ih2, ih3, ih4, ih5⟩ := strongroomref20_Diff.mono_l k
  refine ⟨?_, ?_, ?_, ?_, ?_, ?_⟩
  ·intro y0 y1 y2 y3 y4
   unfold strongroomref20_Diff.l0
   repeat' first
   | (with_reducible exact ih0 _ _ _ _ _)
   | (with_reducible exact ih1 _ _ _ _ _ _)
   | (with_reducible exact ih2 _ _ _ _ _ _)
   | (with_reducible exact ih3 _ _ _ _ _ _ _)
   | (with_reducible exact ih4 _ _ _ _ _ _)
   | (with_reducible exact ih5 _ _ _ _ _ _ _)
   | (with_reducible exact strongroomref20_sumOf.mono _ _ _)
   | (with_reducible exact LeO.refl _)
   | (with_reducible exact LeO.none _)
   | (with_reducible refine LeO.ite ?_ ?_)
   | (with_reducible refine LeO.bind ?_ (fun _ => ?_))
   | exact ih0 _ _ _ _ _
   | exact ih1 _ _ _ _ _ _
   | exact ih2 _ _ _ _ _ _
   | exact ih3 _ _ _ _ _ _ _
   | exact ih4 _ _ _ _ _ _
   | exact ih5 _ _ _ _ _ _ _
   | exact strongroomref20_sumOf.mono _ _ _
   | exact LeO.none _
   | refine LeO.ite ?_ ?_
   | refine LeO.bind ?_ (fun _ => ?_)
  ·intro y0 y1 y2 y3 y4 y5
   unfold strongroomref20_Diff.j1
   repeat' first
   | (with_reducible exact ih0 _ _ _ _ _)
   | (with_reducible exact ih1 _ _ _ _ _ _)
   | (with_reducible exact ih2 _ _ _ _ _ _)
   | (with_reducible exact ih3 _ _ _ _ _ _ _)
   | (with_reducible exact ih4 _ _ _ _ _ _)
   | (with_reducible exact ih5 _ _ _ _ _ _ _)
   | (with_reducible exact strongroomref20_sumOf.mono _ _ _)
   | (with_reducible exact LeO.refl _)
   | (with_reducible exact LeO.none _)
   | (with_reducible refine LeO.ite ?_ ?_)
   | (with_reducible refine LeO.bind ?_ (fun _ => ?_))
   | exact ih0 _ _ _ _ _
   | exact ih1 _ _ _ _ _ _
   | exact ih2 _ _ _ _ _ _
   | exact ih3 _ _ _ _ _ _ _
   | exact ih4 _ _ _ _ _ _
   | exact ih5 _ _ _ _ _ _ _
   | exact strongroomref20_sumOf.mono _ _ _
   | exact LeO.none _
   | refine LeO.ite ?_ ?_
   | refine LeO.bind ?_ (fun _ => ?_)
  ·intro y0 y1 y2 y3 y4 y5
   unfold strongroomref20_Diff.j2
   repeat' first
   | (with_reducible exact ih0 _ _ _ _ _)
   | (with_reducible exact ih1 _ _ _ _ _ _)
   | (with_reducible exact ih2 _ _ _ _ _ _)
   | (with_reducible exact ih3 _ _ _ _ _ _ _)
   | (with_reducible exact ih4 _ _ _ _ _ _)
   | (with_reducible exact ih5 _ _ _ _ _ _ _)
   | (with_reducible exact strongroomref20_sumOf.mono _ _ _)
   | (with_reducible exact LeO.refl _)
   | (with_reducible exact LeO.none _)
   | (with_reducible refine LeO.ite ?_ ?_)
   | (with_reducible refine LeO.bind ?_ (fun _ => ?_))
   | exact ih0 _ _ _ _ _
   | exact ih1 _ _ _ _ _ _
   | exact ih2 _ _ _ _ _ _
   | exact ih3 _ _ _ _ _ _ _
   | exact ih4 _ _ _ _ _ _
   | exact ih5 _ _ _ _ _ _ _
   | exact strongroomref20_sumOf.mono _ _ _
   | exact LeO.none _
   | refine LeO.ite ?_ ?_
   | refine LeO.bind ?_ (fun _ => ?_)
  ·intro y0 y1 y2 y3 y4 y5 y6
   unfold strongroomref20_Diff.j3
   repeat' first
   | (with_reducible exact ih0 _ _ _ _ _)
   | (with_reducible exact ih1 _ _ _ _ _ _)
   | (with_reducible exact ih2 _ _ _ _ _ _)
   | (with_reducible exact ih3 _ _ _ _ _ _ _)
   | (with_reducible exact ih4 _ _ _ _ _ _)
   | (with_reducible exact ih5 _ _ _ _ _ _ _)
   | (with_reducible exact strongroomref20_sumOf.mono _ _ _)
   | (with_reducible exact LeO.refl _)
   | (with_reducible exact LeO.none _)
   | (with_reducible refine LeO.ite ?_ ?_)
   | (with_reducible refine LeO.bind ?_ (fun _ => ?_))
   | exact ih0 _ _ _ _ _
   | exact ih1 _ _ _ _ _ _
   | exact ih2 _ _ _ _ _ _
   | exact ih3 _ _ _ _ _ _ _
   | exact ih4 _ _ _ _ _ _
   | exact ih5 _ _ _ _ _ _ _
   | exact strongroomref20_sumOf.mono _ _ _
   | exact LeO.none _
   | refine LeO.ite ?_ ?_
   | refine LeO.bind ?_ (fun _ => ?_)
  ·intro y0 y1 y2 y3 y4 y5
   unfold strongroomref20_Diff.j4
   repeat' first
   | (with_reducible exact ih0 _ _ _ _ _)
   | (with_reducible exact ih1 _ _ _ _ _ _)
   | (with_reducible exact ih2 _ _ _ _ _ _)
   | (with_reducible exact ih3 _ _ _ _ _ _ _)
   | (with_reducible exact ih4 _ _ _ _ _ _)
   | (with_reducible exact ih5 _ _ _ _ _ _ _)
   | (with_reducible exact strongroomref20_sumOf.mono _ _ _)
   | (with_reducible exact LeO.refl _)
   | (with_reducible exact LeO.none _)
   | (with_reducible refine LeO.ite ?_ ?_)
   | (with_reducible refine LeO.bind ?_ (fun _ => ?_))
   | exact ih0 _ _ _ _ _
   | exact ih1 _ _ _ _ _ _
   | exact ih2 _ _ _ _ _ _
   | exact ih3 _ _ _ _ _ _ _
   | exact ih4 _ _ _ _ _ _
   | exact ih5 _ _ _ _ _ _ _
   | exact strongroomref20_sumOf.mono _ _ _
   | exact LeO.none _
   | refine LeO.ite ?_ ?_
   | refine LeO.bind ?_ (fun _ => ?_)
  ·intro y0 y1 y2 y3 y4 y5 y6
   unfold strongroomref20_Diff.j5
   repeat' first
   | (with_reducible exact ih0 _ _ _ _ _)
   | (with_reducible exact ih1 _ _ _ _ _ _)
   | (with_reducible exact ih2 _ _ _ _ _ _)
   | (with_reducible exact ih3 _ _ _ _ _ _ _)
   | (with_reducible exact ih4 _ _ _ _ _ _)
   | (with_reducible exact ih5 _ _ _ _ _ _ _)
   | (with_reducible exact strongroomref20_sumOf.mono _ _ _)
   | (with_reducible exact LeO.refl _)
   | (with_reducible exact LeO.none _)
   | (with_reducible refine LeO.ite ?_ ?_)
   | (with_reducible refine LeO.bind ?_ (fun _ => ?_))
   | exact ih0 _ _ _ _ _
   | exact ih1 _ _ _ _ _ _
   | exact ih2 _ _ _ _ _ _
   | exact ih3 _ _ _ _ _ _ _
   | exact ih4 _ _ _ _ _ _
   | exact ih5 _ _ _ _ _ _ _
   | exact strongroomref20_sumOf.mono _ _ _
   | exact LeO.none _
   | refine LeO.ite ?_ ?_
   | refine LeO.bind ?_ (fun _ => ?_)
theorem strongroomref20_Diff.mono : ∀ a0 a1 k, LeO (strongroomref20_Diff.f k a0 a1) (strongroomref20_Diff.f (k + 1) a0 a1) := by
 intro a0 a1 k
 obtain ⟨ih0, ih1, ih2, ih3, ih4, ih5⟩ := strongroomref20_Diff.mono_l k
 unfold strongroomref20_Diff.f
 repeat' first
   | (with_reducible exact ih0 _ _ _ _ _)
   | (with_reducible exact ih1 _ _ _ _ _ _)
   | (with_reducible exact ih2 _ _ _ _ _ _)
   | (with_reducible exact ih3 _ _ _ _ _ _ _)
   | (with_reducible exact ih4 _ _ _ _ _ _)
   | (with_reducible exact ih5 _ _ _ _ _ _ _)
   | (with_reducible exact strongroomref20_sumOf.mono _ _ _)
   | (with_reducible exact LeO.refl _)
   | (with_reducible exact LeO.none _)
   | (with_reducible refine LeO.ite ?_ ?_)
   | (with_reducible refine LeO.bind ?_ (fun _ => ?_))
   | exact ih0 _ _ _ _ _
   | exact ih1 _ _ _ _ _ _
   | exact ih2 _ _ _ _ _ _
   | exact ih3 _ _ _ _ _ _ _
   | exact ih4 _ _ _ _ _ _
   | exact ih5 _ _ _ _ _ _ _
   | exact strongroomref20_sumOf.mono _ _ _
   | exact LeO.none _
   | refine LeO.ite ?_ ?_
   | refine LeO.bind ?_ (fun _ => ?_)
set_option maxHeartbeats 8000000 in
set_option maxRecDepth 100000 in
theorem strongroomref20_Diff.calls (k : Nat) (A0 : Option Addr) (c0 : Nat) (l0 : List (S39)) (A1 : Option Addr) (c1 : Nat) (l1 : List (S39)) (r : List (S67)) (w : World) (hr0 : Kd.C k39 w A0 l0.length l0) (hc0 : l0.length ≤ c0) (hr1 : Kd.C k39 w A1 l1.length l1) (hc1 : l1.length ≤ c1) (h : strongroomref20_Diff.f k l0 l1 = some r) :
  Calls Tryd.prog 31 #[.slice A0 l0.length c0, .slice A1 l1.length c1] w fun e w' => ∃ v0_ : Value, e = .returned (v0_) ∧ Kd.R k67 67 w' w.heap.size (fun _ => True) v0_ r ∧ Below w.heap.size w w' := by
 have hu67 := Tryd.underlying67
 have HR0 := Aside0.mk hr0
 have HC0 := Aside0.mk hc0
 clear hr0 hc0
 have HR1 := Aside0.mk hr1
 have HC1 := Aside0.mk hc1
 clear hr1 hc1
 have HB := Aside0.mk (Below.refl w.heap.size w)
 have H : (strongroomref20_Diff.l0 k l0 l1 ([] : List (S67)) 0 0) = some r := h
 clear h
 have H' := Aside0.mk H
 clear H
 go_enter Tryd.func31, Tryd.ntmps31
 go_wp2
 go_loopg [5, 6, 7] k (fun kq v5 v6 v7 w' => ∃ (x5_1 : List (S67)) (x6_1 : Int) (x7_1 : Int), v6 = .int .i64 x6_1 ∧ v7 = .int .i64 x7_1 ∧ Aside0 (strongroomref20_Diff.l0 kq l0 l1 x5_1 x6_1 x7_1 = some r) ∧ Aside0 (kq ≤ k) ∧ Aside0 (Kd.R k67 67 w' w.heap.size (fun _ => True) v5 x5_1) ∧ Aside0 (Below w.heap.size w w'))
 case atStart => exact ⟨(([] : List (S67))), (0), (0), (by first | rfl | (simp; done) | (simp [*]; done)), (by first | rfl | (simp; done) | (simp [*]; done)), H', ⟨Nat.le_refl _⟩, ⟨by first | exact Kd.R_nil _ _ _ _ _ | exact Kd.N_nil _ _ _ _ _ | exact Kd.V_nil _ _ _ _ _ | exact Kd.Q_nil _ _ _ _ _ | exact Kd.S_nil _ _ _ _ _⟩, ⟨by repeat (first | (with_reducible first | exact HB.out | apply below_alloc | apply pw_below_drewN | apply below_drew1) | exact HB.out)⟩⟩
 clear H'
 try clear c1; try clear p2
 obtain ⟨x5_1, x6_1, x7_1, rfl, rfl, HA, HK1, HO_5, HB⟩ := hrel
 cases gk with
 | zero => exact absurd HA.out (by simp [strongroomref20_Diff.l0])
 | succ k1 =>
  have H := HA.out
  clear HA
  simp only [strongroomref20_Diff.l0] at H
  have HC3 := Aside0.mk H
  clear H
  go_upto_region 3 with (fail)
  go_cut [20] (fun v20 wc => ∃ (kq : Nat) (x20_2 : Bool), v20 = .bool x20_2 ∧ Aside0 (strongroomref20_Diff.j1 kq l0 l1 x5_1 x6_1 x7_1 x20_2 = some r) ∧ Aside0 (kq ≤ k1) ∧ Aside0 (Kd.R k67 67 wc w.heap.size (fun _ => True) u5 x5_1) ∧ Aside0 (Below w.heap.size w wc))
  case first =>
   have H := HC3.out
   clear HC3
   by_cases c4 : x6_1 < (l0.length : Int)
   ·rw [if_pos c4] at H
    have c4b0 : decide (x6_1 < (l0.length : Int)) = true := decide_eq_true c4
    clear c4
    (first | rw [c4b0] | (simp only [i64_w, i32_w]; rw [c4b0]) | skip)
    have H' := Aside0.mk H
    clear H
    go_wp2
    go_meet
    case rel => exact ⟨_, (true), (by first | rfl | (simp; done) | (simp [*]; done)), H', ⟨by have := HK1.out; first | omega | exact Nat.le_refl _⟩, ⟨by (with_reducible repeat (first | apply Kd.R_alloc | apply Kd.R_drewN | apply Kd.R_drew)); exact HO_5.out⟩, ⟨by repeat (first | (with_reducible first | exact HB.out | apply below_alloc | apply pw_below_drewN | apply below_drew1) | exact HB.out)⟩⟩
   rw [if_neg c4] at H
   have c4b0 : decide (x6_1 < (l0.length : Int)) = false := decide_eq_false c4
   clear c4
   (first | rw [c4b0] | (simp only [i64_w, i32_w]; rw [c4b0]) | skip)
   have H' := Aside0.mk H
   clear H
   go_wp2
   go_meet
   case rel => exact ⟨_, (decide (x7_1 < (l1.length : Int))), (by first | rfl | (simp; done) | (simp [*]; done)), H', ⟨by have := HK1.out; first | omega | exact Nat.le_refl _⟩, ⟨by (with_reducible repeat (first | apply Kd.R_alloc | apply Kd.R_drewN | apply Kd.R_drew)); exact HO_5.out⟩, ⟨by repeat (first | (with_reducible first | exact HB.out | apply below_alloc | apply pw_below_drewN | apply below_drew1) | exact HB.out)⟩⟩
  clear HC3
  try clear c1; try clear p2; try clear c3; try clear c4; try clear c4b0; try clear p2
  obtain ⟨kq, x20_2, rfl, HA, HJ2, HO_5, HB⟩ := hcut
  cases kq with
  | zero => exact absurd HA.out (by simp [strongroomref20_Diff.j1])
  | succ kj2 =>
   have H := HA.out
   clear HA
   simp only [strongroomref20_Diff.j1] at H
   by_cases c5 : x20_2 = true
   case neg =>
    replace c5 := Bool.eq_false_iff.mpr c5
    subst c5
    have H1 : (some x5_1) = some r := by rw [if_neg (show ¬ (false = true) by decide)] at H; exact H
    clear H
    have H := H1
    clear H1
    obtain rfl := Option.some.inj H
    go_wp2
    go_ret
    exact ⟨_, by first | rfl | (simp [errW_none, errW_some] <;> rfl) | (simp [*, errW_none, errW_some] <;> rfl), by (with_reducible repeat (first | apply Kd.R_alloc | apply Kd.R_drewN | apply Kd.R_drew)); exact HO_5.out, by repeat (first | (with_reducible first | exact HB.out | apply below_alloc | apply pw_below_drewN | apply below_drew1) | exact HB.out)⟩
   subst c5
   have H1 : (if x6_1 < (l0.length : Int) then (if 0 ≤ x6_1 then (strongroomref20_Diff.j2 kj2 l0 l1 x5_1 x6_1 x7_1 ((rd_T39 l0 x6_1).f0)) else (none)) else (strongroomref20_Diff.j2 kj2 l0 l1 x5_1 x6_1 x7_1 (⟨#[]⟩ : ByteArray))) = some r := by rw [if_pos rfl] at H; exact H
   clear H
   have H := H1
   clear H1
   have HC6 := Aside0.mk H
   clear H
   go_upto_if 24 with (fail)
   go_cut [8] (fun v8 wc => ∃ (kq : Nat) (x8_5 : ByteArray), v8 = .string x8_5 ∧ Aside0 (strongroomref20_Diff.j2 kq l0 l1 x5_1 x6_1 x7_1 x8_5 = some r) ∧ Aside0 (kq ≤ kj2) ∧ Aside0 (Kd.R k67 67 wc w.heap.size (fun _ => True) u5 x5_1) ∧ Aside0 (Below w.heap.size w wc))
   case first =>
    have H := HC6.out
    clear HC6
    by_cases c7 : x6_1 < (l0.length : Int)
    case neg =>
     rw [if_neg c7] at H
     have c7b0 : decide (x6_1 < (l0.length : Int)) = false := decide_eq_false c7
     clear c7
     (first | rw [c7b0] | (simp only [i64_w, i32_w]; rw [c7b0]) | skip)
     have H' := Aside0.mk H
     clear H
     go_wp2
     go_meet
     case rel => exact ⟨_, ((⟨#[]⟩ : ByteArray)), (by first | rfl | (simp; done) | (simp [*]; done)), H', ⟨by have := HK1.out; have := HJ2.out; first | omega | exact Nat.le_refl _⟩, ⟨by (with_reducible repeat (first | apply Kd.R_alloc | apply Kd.R_drewN | apply Kd.R_drew)); exact HO_5.out⟩, ⟨by repeat (first | (with_reducible first | exact HB.out | apply below_alloc | apply pw_below_drewN | apply below_drew1) | exact HB.out)⟩⟩
    rw [if_pos c7] at H
    have c7b0 : decide (x6_1 < (l0.length : Int)) = true := decide_eq_true c7
    clear c7
    (first | rw [c7b0] | (simp only [i64_w, i32_w]; rw [c7b0]) | skip)
    by_cases c8 : 0 ≤ x6_1
    case neg =>
     rw [if_neg c8] at H
     exact absurd H (by simp)
    rw [if_pos c8] at H
    have c8b0 : decide (0 ≤ x6_1) = true := decide_eq_true c8
    clear c8
    have H' := Aside0.mk H
    clear H
    have p256 : 0 ≤ (x6_1 : Int) := of_decide_eq_true (by first | (with_reducible assumption) | assumption)
    have q256 : x6_1 < (l0.length : Int) := of_decide_eq_true (by first | (with_reducible assumption) | assumption)
    obtain ⟨ad256, e256, hx256_0, hx256_1⟩ := at_T39 HR0.out x6_1 p256 q256
    cases e256
    replace hx256_0 := (HB.out.cell (World.block_lt_of_cell? w _ hx256_0)).trans hx256_0
    replace hx256_1 := (HB.out.cell (World.block_lt_of_cell? w _ hx256_1)).trans hx256_1
    replace p256 := eq_true p256
    replace q256 := eq_true q256
    go_wp2
    go_meet
    case rel => exact ⟨_, ((rd_T39 l0 x6_1).f0), (by first | rfl | (simp; done) | (simp [*]; done)), H', ⟨by have := HK1.out; have := HJ2.out; first | omega | exact Nat.le_refl _⟩, ⟨by (with_reducible repeat (first | apply Kd.R_alloc | apply Kd.R_drewN | apply Kd.R_drew)); exact HO_5.out⟩, ⟨by repeat (first | (with_reducible first | exact HB.out | apply below_alloc | apply pw_below_drewN | apply below_drew1) | exact HB.out)⟩⟩
   clear HC6
   try clear c1; try clear p2; try clear q2; try clear hx2; try clear c3; try clear c4; try clear c4b0; try clear c5; try clear c7; try clear c7b0; try clear c8; try clear c8b0; try clear hx256_0; try clear hx256_1; try clear p2; try clear p256; try clear q256
   obtain ⟨kq, x8_5, rfl, HA, HJ5, HO_5, HB⟩ := hcut
   cases kq with
   | zero => exact absurd HA.out (by simp [strongroomref20_Diff.j2])
   | succ kj5 =>
    have H := HA.out
    clear HA
    simp only [strongroomref20_Diff.j2] at H
    have HC9 := Aside0.mk H
    clear H
    go_upto_region 7 with (fail)
    go_cut [46] (fun v46 wc => ∃ (kq : Nat) (x46_8 : Bool), v46 = .bool x46_8 ∧ Aside0 (strongroomref20_Diff.j3 kq l0 l1 x5_1 x6_1 x7_1 x8_5 x46_8 = some r) ∧ Aside0 (kq ≤ kj5) ∧ Aside0 (Kd.R k67 67 wc w.heap.size (fun _ => True) u5 x5_1) ∧ Aside0 (Below w.heap.size w wc))
    case first =>
     have H := HC9.out
     clear HC9
     by_cases c10 : x8_5.toList = ([] : List UInt8)
     ·rw [if_pos c10] at H
      have c10b0 : (x8_5.toList == ([] : List UInt8)) = true := beq_iff_eq.mpr c10
      have c10b1 : (x8_5.toList != ([] : List UInt8)) = false := bne_eq_false_iff_eq.mpr c10
      clear c10
      (first | rw [c10b0] | (simp only [i64_w, i32_w]; rw [c10b0]) | skip)
      have H' := Aside0.mk H
      clear H
      go_wp2
      go_meet
      case rel => exact ⟨_, (true), (by first | rfl | (simp; done) | (simp [*]; done)), H', ⟨by have := HK1.out; have := HJ2.out; have := HJ5.out; first | omega | exact Nat.le_refl _⟩, ⟨by (with_reducible repeat (first | apply Kd.R_alloc | apply Kd.R_drewN | apply Kd.R_drew)); exact HO_5.out⟩, ⟨by repeat (first | (with_reducible first | exact HB.out | apply below_alloc | apply pw_below_drewN | apply below_drew1) | exact HB.out)⟩⟩
     rw [if_neg c10] at H
     have c10b0 : (x8_5.toList == ([] : List UInt8)) = false := beq_eq_false_iff_ne.mpr c10
     have c10b1 : (x8_5.toList != ([] : List UInt8)) = true := bne_iff_ne.mpr c10
     (first | rw [c10b0] | (simp only [i64_w, i32_w]; rw [c10b0]) | skip)
     by_cases c11 : x7_1 < (l1.length : Int)
     case neg =>
      rw [if_neg c11] at H
      have c11b0 : decide (x7_1 < (l1.length : Int)) = false := decide_eq_false c11
      clear c11
      have H' := Aside0.mk H
      clear H
      go_wp2
      go_meet
      case rel => exact ⟨_, (false), (by first | rfl | (simp; done) | (simp [*]; done)), H', ⟨by have := HK1.out; have := HJ2.out; have := HJ5.out; first | omega | exact Nat.le_refl _⟩, ⟨by (with_reducible repeat (first | apply Kd.R_alloc | apply Kd.R_drewN | apply Kd.R_drew)); exact HO_5.out⟩, ⟨by repeat (first | (with_reducible first | exact HB.out | apply below_alloc | apply pw_below_drewN | apply below_drew1) | exact HB.out)⟩⟩
     rw [if_pos c11] at H
     have c11b0 : decide (x7_1 < (l1.length : Int)) = true := decide_eq_true c11
     clear c11
     by_cases c12 : 0 ≤ x7_1
     case neg =>
      rw [if_neg c12] at H
      exact absurd H (by simp)
     rw [if_pos c12] at H
     have c12b0 : decide (0 ≤ x7_1) = true := decide_eq_true c12
     clear c12
     have H' := Aside0.mk H
     clear H
     have p257 : 0 ≤ (x7_1 : Int) := of_decide_eq_true (by first | (with_reducible assumption) | assumption)
     have q257 : x7_1 < (l1.length : Int) := of_decide_eq_true (by first | (with_reducible assumption) | assumption)
     obtain ⟨ad257, e257, hx257_0, hx257_1⟩ := at_T39 HR1.out x7_1 p257 q257
     cases e257
     replace hx257_0 := (HB.out.cell (World.block_lt_of_cell? w _ hx257_0)).trans hx257_0
     replace hx257_1 := (HB.out.cell (World.block_lt_of_cell? w _ hx257_1)).trans hx257_1
     replace p257 := eq_true p257
     replace q257 := eq_true q257
     go_wp2
     go_meet
     case rel => exact ⟨_, ((Op.bytesLess (((rd_T39 l1 x7_1).f0).toList) x8_5.toList)), (by first | rfl | (simp; done) | (simp [*]; done)), H', ⟨by have := HK1.out; have := HJ2.out; have := HJ5.out; first | omega | exact Nat.le_refl _⟩, ⟨by (with_reducible repeat (first | apply Kd.R_alloc | apply Kd.R_drewN | apply Kd.R_drew)); exact HO_5.out⟩, ⟨by repeat (first | (with_reducible first | exact HB.out | apply below_alloc | apply pw_below_drewN | apply below_drew1) | exact HB.out)⟩⟩
    clear HC9
    try clear c1; try clear p2; try clear q2; try clear hx2; try clear c3; try clear c4; try clear c4b0; try clear c5; try clear c7; try clear c7b0; try clear c8; try clear c8b0; try clear c10; try clear c10b0; try clear c10b1; try clear c11; try clear c11b0; try clear c12; try clear c12b0; try clear hx256_0; try clear hx256_1; try clear hx257_0; try clear hx257_1; try clear p2; try clear p256; try clear p257; try clear q2; try clear q256; try clear q257
    obtain ⟨kq, x46_8, rfl, HA, HJ8, HO_5, HB⟩ := hcut
    cases kq with
    | zero => exact absurd HA.out (by simp [strongroomref20_Diff.j3])
    | succ kj8 =>
     have H := HA.out
     clear HA
     simp only [strongroomref20_Diff.j3] at H
     have HC13 := Aside0.mk H
     clear H
     go_upto_if 46 with (fail)
     go_cut [8] (fun v8 wc => ∃ (kq : Nat) (x8_12 : ByteArray), v8 = .string x8_12 ∧ Aside0 (strongroomref20_Diff.j4 kq l0 l1 x5_1 x6_1 x7_1 x8_12 = some r) ∧ Aside0 (kq ≤ kj8) ∧ Aside0 (Kd.R k67 67 wc w.heap.size (fun _ => True) u5 x5_1) ∧ Aside0 (Below w.heap.size w wc))
     case first =>
      have H := HC13.out
      clear HC13
      by_cases c14 : x46_8 = true
      case neg =>
       replace c14 := Bool.eq_false_iff.mpr c14
       subst c14
       have H1 : (strongroomref20_Diff.j4 kj8 l0 l1 x5_1 x6_1 x7_1 x8_5) = some r := by rw [if_neg (show ¬ (false = true) by decide)] at H; exact H
       clear H
       have H := H1
       clear H1
       have H' := Aside0.mk H
       clear H
       go_wp2
       go_meet
       case rel => exact ⟨_, (x8_5), (by first | rfl | (simp; done) | (simp [*]; done)), H', ⟨by have := HK1.out; have := HJ2.out; have := HJ5.out; have := HJ8.out; first | omega | exact Nat.le_refl _⟩, ⟨by (with_reducible repeat (first | apply Kd.R_alloc | apply Kd.R_drewN | apply Kd.R_drew)); exact HO_5.out⟩, ⟨by repeat (first | (with_reducible first | exact HB.out | apply below_alloc | apply pw_below_drewN | apply below_drew1) | exact HB.out)⟩⟩
      subst c14
      have H1 : (if 0 ≤ x7_1 then (if x7_1 < (l1.length : Int) then (strongroomref20_Diff.j4 kj8 l0 l1 x5_1 x6_1 x7_1 ((rd_T39 l1 x7_1).f0)) else (none)) else (none)) = some r := by rw [if_pos rfl] at H; exact H
      clear H
      have H := H1
      clear H1
      by_cases c15 : 0 ≤ x7_1
      case neg =>
       rw [if_neg c15] at H
       exact absurd H (by simp)
      rw [if_pos c15] at H
      have c15b0 : decide (0 ≤ x7_1) = true := decide_eq_true c15
      clear c15
      (first | rw [c15b0] | (simp only [i64_w, i32_w]; rw [c15b0]) | skip)
      by_cases c16 : x7_1 < (l1.length : Int)
      case neg =>
       rw [if_neg c16] at H
       exact absurd H (by simp)
      rw [if_pos c16] at H
      have c16b0 : decide (x7_1 < (l1.length : Int)) = true := decide_eq_true c16
      clear c16
      have H' := Aside0.mk H
      clear H
      have p258 : 0 ≤ (x7_1 : Int) := of_decide_eq_true (by first | (with_reducible assumption) | assumption)
      have q258 : x7_1 < (l1.length : Int) := of_decide_eq_true (by first | (with_reducible assumption) | assumption)
      obtain ⟨ad258, e258, hx258_0, hx258_1⟩ := at_T39 HR1.out x7_1 p258 q258
      cases e258
      replace hx258_0 := (HB.out.cell (World.block_lt_of_cell? w _ hx258_0)).trans hx258_0
      replace hx258_1 := (HB.out.cell (World.block_lt_of_cell? w _ hx258_1)).trans hx258_1
      replace p258 := eq_true p258
      replace q258 := eq_true q258
      go_wp2
      go_meet
      case rel => exact ⟨_, ((rd_T39 l1 x7_1).f0), (by first | rfl | (simp; done) | (simp [*]; done)), H', ⟨by have := HK1.out; have := HJ2.out; have := HJ5.out; have := HJ8.out; first | omega | exact Nat.le_refl _⟩, ⟨by (with_reducible repeat (first | apply Kd.R_alloc | apply Kd.R_drewN | apply Kd.R_drew)); exact HO_5.out⟩, ⟨by repeat (first | (with_reducible first | exact HB.out | apply below_alloc | apply pw_below_drewN | apply below_drew1) | exact HB.out)⟩⟩
     clear HC13
     try clear c1; try clear p2; try clear q2; try clear hx2; try clear c3; try clear c4; try clear c4b0; try clear c5; try clear c7; try clear c7b0; try clear c8; try clear c8b0; try clear c10; try clear c10b0; try clear c10b1; try clear c11; try clear c11b0; try clear c12; try clear c12b0; try clear c14; try clear c15; try clear c15b0; try clear c16; try clear c16b0; try clear hx256_0; try clear hx256_1; try clear hx257_0; try clear hx257_1; try clear hx258_0; try clear hx258_1; try clear p2; try clear p256; try clear p257; try clear p258; try clear q2; try clear q256; try clear q257; try clear q258
     obtain ⟨kq, x8_12, rfl, HA, HJ12, HO_5, HB⟩ := hcut
     cases kq with
     | zero => exact absurd HA.out (by simp [strongroomref20_Diff.j4])
     | succ kj12 =>
      have H := HA.out
      clear HA
      simp only [strongroomref20_Diff.j4] at H
      replace H := Option.bind_eq_some_iff.mp H
      obtain ⟨t259, A170, H⟩ := H
      replace H : ((strongroomref20_sumOf.f kj12 l1 x8_12).bind fun t260 => (if t259.toList = t260.toList then (strongroomref20_Diff.j5 kj12 l0 l1 x5_1 x6_1 x7_1 t259 t260) else (if x5_1.length < 2932031007402 then (strongroomref20_Diff.j5 kj12 l0 l1 (x5_1 ++ [(⟨x8_12, t259, t260⟩ : S67)]) x6_1 x7_1 t259 t260) else (none)))) = some r := H
      have A17 := Aside0.mk A170
      clear A170
      replace H := Option.bind_eq_some_iff.mp H
      obtain ⟨t260, A180, H⟩ := H
      replace H : (if t259.toList = t260.toList then (strongroomref20_Diff.j5 kj12 l0 l1 x5_1 x6_1 x7_1 t259 t260) else (if x5_1.length < 2932031007402 then (strongroomref20_Diff.j5 kj12 l0 l1 (x5_1 ++ [(⟨x8_12, t259, t260⟩ : S67)]) x6_1 x7_1 t259 t260) else (none))) = some r := H
      have A18 := Aside0.mk A180
      clear A180
      have HC19 := Aside0.mk H
      clear H
      go_upto_if 60 with (first | ((with_reducible refine gate_callee (f := 56) rfl ?_); refine goesL_ (some 54) rfl rfl Tryd.func56 (by kernel_rfl) rfl #[.slice A0 l0.length c0, .string x8_12] rfl (by (try simp only [List.map_toArray, List.map_cons, List.map_nil]); first | done | rfl | (simp only [List.length_drop, List.length_take]; rfl)) ?_; (with_reducible refine (strongroomref20_sumOf.calls kj12 _ _ l0 x8_12 t259 _ ?side1 ?side2 A17.out).mono ?_); (case side1 => repeat (first | exact (Kd.C_below HR0.out HB.out) | (with_reducible refine Kd.C_alloc ?_ _) | (with_reducible refine Kd.C_drewN ?_ _) | (with_reducible refine Kd.C_drew ?_))); (case side2 => exact HC0.out); rintro e w' ⟨rfl, ⟨nd, rfl⟩⟩; refine ⟨_, rfl, ?_⟩) | ((with_reducible refine gate_callee (f := 56) rfl ?_); refine goesL_ (some 57) rfl rfl Tryd.func56 (by kernel_rfl) rfl #[.slice A1 l1.length c1, .string x8_12] rfl (by (try simp only [List.map_toArray, List.map_cons, List.map_nil]); first | done | rfl | (simp only [List.length_drop, List.length_take]; rfl)) ?_; (with_reducible refine (strongroomref20_sumOf.calls kj12 _ _ l1 x8_12 t260 _ ?side1 ?side2 A18.out).mono ?_); (case side1 => repeat (first | exact (Kd.C_below HR1.out (by repeat (first | (with_reducible first | exact HB.out | apply below_alloc | apply pw_below_drewN | apply below_drew1) | exact HB.out))) | (with_reducible refine Kd.C_alloc ?_ _) | (with_reducible refine Kd.C_drewN ?_ _) | (with_reducible refine Kd.C_drew ?_))); (case side2 => exact HC1.out); rintro e w' ⟨rfl, ⟨nd, rfl⟩⟩; refine ⟨_, rfl, ?_⟩))
      (try simp only [Act.put, List.setIfInBounds_toArray, List.set_cons_zero, List.set_cons_succ])
      go_cut [5] (fun v5 wc => ∃ (kq : Nat) (x5_18 : List (S67)), Aside0 (strongroomref20_Diff.j5 kq l0 l1 x5_18 x6_1 x7_1 t259 t260 = some r) ∧ Aside0 (kq ≤ kj12) ∧ Aside0 (Kd.R k67 67 wc w.heap.size (fun _ => True) v5 x5_18) ∧ Aside0 (Below w.heap.size w wc))
      case first =>
       have H := HC19.out
       clear HC19
       by_cases c20 : t259.toList = t260.toList
       ·rw [if_pos c20] at H
        have c20b0 : (t259.toList == t260.toList) = true := beq_iff_eq.mpr c20
        have c20b1 : (t259.toList != t260.toList) = false := bne_eq_false_iff_eq.mpr c20
        clear c20
        (first | rw [c20b0] | (simp only [i64_w, i32_w]; rw [c20b0]) | skip)
        have H' := Aside0.mk H
        clear H
        go_wp2
        go_meet
        case rel => exact ⟨_, (x5_1), H', ⟨by have := HK1.out; have := HJ2.out; have := HJ5.out; have := HJ8.out; have := HJ12.out; first | omega | exact Nat.le_refl _⟩, ⟨by (with_reducible repeat (first | apply Kd.R_alloc | apply Kd.R_drewN | apply Kd.R_drew)); exact HO_5.out⟩, ⟨by repeat (first | (with_reducible first | exact HB.out | apply below_alloc | apply pw_below_drewN | apply below_drew1) | exact HB.out)⟩⟩
       rw [if_neg c20] at H
       have c20b0 : (t259.toList == t260.toList) = false := beq_eq_false_iff_ne.mpr c20
       have c20b1 : (t259.toList != t260.toList) = true := bne_iff_ne.mpr c20
       (first | rw [c20b0] | (simp only [i64_w, i32_w]; rw [c20b0]) | skip)
       by_cases c21 : x5_1.length < 2932031007402
       case neg =>
        rw [if_neg c21] at H
        exact absurd H (by simp)
       rw [if_pos c21] at H
       have LMc21 := Aside0.mk c21
       clear c21
       obtain ⟨y261, hy261⟩ : ∃ y_ : List (S67), y_ = (x5_1 ++ [(⟨x8_12, t259, t260⟩ : S67)]) := ⟨_, rfl⟩
       replace H : (strongroomref20_Diff.j5 kj12 l0 l1 y261 x6_1 x7_1 t259 t260) = some r := by first | (rw [hy261]; with_reducible exact H) | (have H2_ := (Option.bind_some _ _).symm.trans H; rw [hy261]; with_reducible exact H2_) | (have H2_ := (Option.bind_some _ _).symm.trans H; with_reducible exact H2_) | with_reducible exact H | (rw [hy261]; exact H) | exact H
       have Ny261 := Aside0.mk hy261
       clear hy261
       have H' := Aside0.mk H
       clear H
       go_wp2_with (first | ((with_reducible refine gate_builtin (b := .append) (xs := #[.tmp 61, .tmp 66]) rfl ?_); (try (refine gate_guard (by rfl) ?_; dsimp only)); at_builtin; refine Kd.R_append k67 (w0 := w) w.heap.size rfl (.tmp 61) (.tmp 66) 63 67 (.agg #[(.string ⟨#[]⟩), (.string ⟨#[]⟩), (.string ⟨#[]⟩)]) 48 rfl Tryd.underlying63 info67 rfl (by decide) (by omega) u5 x5_1 (⟨x8_12, t259, t260⟩ : S67) [.string x8_12, .string t259, .string t260] (fun _ => True) (fun _ => False) rfl rfl ?aP (fun _ hk => hk.elim) ?aF ?aO ?aB ?aS ?aL ?_; (case aP => exact k67_mkM _ _ _ (⟨x8_12, t259, t260⟩ : S67)); (case aB => exact (by repeat (first | (with_reducible first | exact HB.out | apply below_alloc | apply pw_below_drewN | apply below_drew1) | exact HB.out))); (case aF => exact (fun _ _ => trivial)); (case aO => exact (by (with_reducible repeat (first | apply Kd.R_alloc | apply Kd.R_drewN | apply Kd.R_drew)); exact HO_5.out)); (case aS => exact (below_size (by repeat (first | (with_reducible first | exact HB.out | apply below_alloc | apply pw_below_drewN | apply below_drew1) | exact HB.out)))); (case aL => have := LMc21.out; omega); intro v262 w22 ho hb hg hat; rw [← Ny261.out] at ho; have n0_ := Aside0.mk (hb); have n1_ := Aside0.mk (ho); clear HB; clear HO_5; have HB := n0_; have HO263 := n1_; clear n0_ n1_; clear ho hb hg hat))
       go_meet
       case rel => exact ⟨_, (y261), H', ⟨by have := HK1.out; have := HJ2.out; have := HJ5.out; have := HJ8.out; have := HJ12.out; first | omega | exact Nat.le_refl _⟩, ⟨by (with_reducible repeat (first | apply Kd.R_alloc | apply Kd.R_drewN | apply Kd.R_drew)); exact HO263.out⟩, ⟨by repeat (first | (with_reducible first | exact HB.out | apply below_alloc | apply pw_below_drewN | apply below_drew1) | exact HB.out)⟩⟩
      clear HC19
      try clear c1; try clear c2; try clear p2; try clear q2; try clear hx2; try clear c3; try clear c4; try clear c4b0; try clear c5; try clear c7; try clear c7b0; try clear c8; try clear c8b0; try clear c10; try clear c10b0; try clear c10b1; try clear c11; try clear c11b0; try clear c12; try clear c12b0; try clear c14; try clear c15; try clear c15b0; try clear c16; try clear c16b0; try clear c20; try clear c20b0; try clear c20b1; try clear c21; try clear hx256_0; try clear hx256_1; try clear hx257_0; try clear hx257_1; try clear hx258_0; try clear hx258_1; try clear p2; try clear p256; try clear p257; try clear p258; try clear q2; try clear q256; try clear q257; try clear q258
      obtain ⟨kq, x5_18, HA, HJ18, HO_5, HB⟩ := hcut
      cases kq with
      | zero => exact absurd HA.out (by simp [strongroomref20_Diff.j5])
      | succ kj18 =>
       have H := HA.out
       clear HA
       simp only [strongroomref20_Diff.j5] at H
       by_cases c23 : t259.toList = ([] : List UInt8)
       ·rw [if_pos c23] at H
        have c23b0 : (t259.toList == ([] : List UInt8)) = true := beq_iff_eq.mpr c23
        have c23b1 : (t259.toList != ([] : List UInt8)) = false := bne_eq_false_iff_eq.mpr c23
        clear c23
        by_cases c24 : t260.toList = ([] : List UInt8)
        case neg =>
         rw [if_neg c24] at H
         have c24b0 : (t260.toList == ([] : List UInt8)) = false := beq_eq_false_iff_ne.mpr c24
         have c24b1 : (t260.toList != ([] : List UInt8)) = true := bne_iff_ne.mpr c24
         have H' := Aside0.mk H
         clear H
         go_wp2
         go_roundg kj18
         case measure => have := HK1.out; have := HJ2.out; have := HJ5.out; have := HJ8.out; have := HJ12.out; have := HJ18.out; omega
         case rel => exact ⟨(x5_18), (x6_1), (wrap64 (x7_1 + 1)), (by first | rfl | (simp; done) | (simp [*]; done)), (by first | rfl | (simp; done) | (simp [*]; done)), H', ⟨by have := HK1.out; have := HJ2.out; have := HJ5.out; have := HJ8.out; have := HJ12.out; have := HJ18.out; omega⟩, ⟨by (with_reducible repeat (first | apply Kd.R_alloc | apply Kd.R_drewN | apply Kd.R_drew)); exact HO_5.out⟩, ⟨by repeat (first | (with_reducible first | exact HB.out | apply below_alloc | apply pw_below_drewN | apply below_drew1) | exact HB.out)⟩⟩
        rw [if_pos c24] at H
        have c24b0 : (t260.toList == ([] : List UInt8)) = true := beq_iff_eq.mpr c24
        have c24b1 : (t260.toList != ([] : List UInt8)) = false := bne_eq_false_iff_eq.mpr c24
        clear c24
        have H' := Aside0.mk H
        clear H
        go_wp2
        go_roundg kj18
        case measure => have := HK1.out; have := HJ2.out; have := HJ5.out; have := HJ8.out; have := HJ12.out; have := HJ18.out; omega
        case rel => exact ⟨(x5_18), (x6_1), (x7_1), (by first | rfl | (simp; done) | (simp [*]; done)), (by first | rfl | (simp; done) | (simp [*]; done)), H', ⟨by have := HK1.out; have := HJ2.out; have := HJ5.out; have := HJ8.out; have := HJ12.out; have := HJ18.out; omega⟩, ⟨by (with_reducible repeat (first | apply Kd.R_alloc | apply Kd.R_drewN | apply Kd.R_drew)); exact HO_5.out⟩, ⟨by repeat (first | (with_reducible first | exact HB.out | apply below_alloc | apply pw_below_drewN | apply below_drew1) | exact HB.out)⟩⟩
       rw [if_neg c23] at H
       have c23b0 : (t259.toList == ([] : List UInt8)) = false := beq_eq_false_iff_ne.mpr c23
       have c23b1 : (t259.toList != ([] : List UInt8)) = true := bne_iff_ne.mpr c23
       by_cases c25 : t260.toList = ([] : List UInt8)
       case neg =>
        rw [if_neg c25] at H
        have c25b0 : (t260.toList == ([] : List UInt8)) = false := beq_eq_false_iff_ne.mpr c25
        have c25b1 : (t260.toList != ([] : List UInt8)) = true := bne_iff_ne.mpr c25
        have H' := Aside0.mk H
        clear H
        go_wp2
        go_roundg kj18
        case measure => have := HK1.out; have := HJ2.out; have := HJ5.out; have := HJ8.out; have := HJ12.out; have := HJ18.out; omega
        case rel => exact ⟨(x5_18), (wrap64 (x6_1 + 1)), (wrap64 (x7_1 + 1)), (by first | rfl | (simp; done) | (simp [*]; done)), (by first | rfl | (simp; done) | (simp [*]; done)), H', ⟨by have := HK1.out; have := HJ2.out; have := HJ5.out; have := HJ8.out; have := HJ12.out; have := HJ18.out; omega⟩, ⟨by (with_reducible repeat (first | apply Kd.R_alloc | apply Kd.R_drewN | apply Kd.R_drew)); exact HO_5.out⟩, ⟨by repeat (first | (with_reducible first | exact HB.out | apply below_alloc | apply pw_below_drewN | apply below_drew1) | exact HB.out)⟩⟩
       rw [if_pos c25] at H
       have c25b0 : (t260.toList == ([] : List UInt8)) = true := beq_iff_eq.mpr c25
       have c25b1 : (t260.toList != ([] : List UInt8)) = false := bne_eq_false_iff_eq.mpr c25
       clear c25
       have H' := Aside0.mk H
       clear H
       go_wp2
       go_roundg kj18
       case measure => have := HK1.out; have := HJ2.out; have := HJ5.out; have := HJ8.out; have := HJ12.out; have := HJ18.out; omega
       case rel => exact ⟨(x5_18), (wrap64 (x6_1 + 1)), (x7_1), (by first | rfl | (simp; done) | (simp [*]; done)), (by first | rfl | (simp; done) | (simp [*]; done)), H', ⟨by have := HK1.out; have := HJ2.out; have := HJ5.out; have := HJ8.out; have := HJ12.out; have := HJ18.out; omega⟩, ⟨by (with_reducible repeat (first | apply Kd.R_alloc | apply Kd.R_drewN | apply Kd.R_drew)); exact HO_5.out⟩, ⟨by repeat (first | (with_reducible first | exact HB.out | apply below_alloc | apply pw_below_drewN | apply below_drew1) | exact HB.out)⟩⟩

/-! ### merkle_sum: function 57 -/
def merkle_sum.f (a0 : ByteArray) : Option (Bool) := if a0.toList = ([] : List UInt8) then (some true) else (some ((a0.size : Int) == 32))
set_option maxHeartbeats 8000000 in
set_option maxRecDepth 100000 in
theorem merkle_sum.calls (a0 : ByteArray) (r : Bool) (w : World) (h : merkle_sum.f a0 = some r) :
  Calls Tryd.prog 57 #[.string a0] w fun e w' => e = .returned (.bool r) ∧ Drawn0 w w' := by
 have H : (if a0.toList = ([] : List UInt8) then (some true) else (some ((a0.size : Int) == 32))) = some r := h
 clear h
 by_cases c2 : a0.toList = ([] : List UInt8)
 case neg =>
  rw [if_neg c2] at H
  have c2b0 : (a0.toList == ([] : List UInt8)) = false := beq_eq_false_iff_ne.mpr c2
  have c2b1 : (a0.toList != ([] : List UInt8)) = true := bne_iff_ne.mpr c2
  obtain rfl := Option.some.inj H
  go_enter Tryd.func57, Tryd.ntmps57
  go_wp2
  go_ret
  exact ⟨by first | rfl | (simp; done) | (simp [*]; done), by repeat (first | exact Drawn0.refl _ | apply Drawn0.step)⟩
 rw [if_pos c2] at H
 have c2b0 : (a0.toList == ([] : List UInt8)) = true := beq_iff_eq.mpr c2
 have c2b1 : (a0.toList != ([] : List UInt8)) = false := bne_eq_false_iff_eq.mpr c2
 clear c2
 obtain rfl := Option.some.inj H
 go_enter Tryd.func57, Tryd.ntmps57
 go_wp2
 go_ret
 exact ⟨by first | rfl | (simp; done) | (simp [*]; done), by repeat (first | exact Drawn0.refl _ | apply Drawn0.step)⟩

/-! ### merkle_place: function 58 -/
theorem merkle_place.clo (ba bx : Nat) (ad : Addr) (n cap : Nat) (y x : ByteArray) (i : Nat) (W : World) (hi : i < n)
    (ha : W.cell? ⟨ba, 0, none⟩ = some (.slice (some ad) n cap)) (hx : W.cell? ⟨bx, 0, none⟩ = some (.string x)) (hc : W.cell? (ad.add (i * 2)) = some (.string y)) :
    Calls Tryd.prog 76 (#[.int .i64 i] ++ #[.pointer (some ⟨ba, 0, none⟩), .pointer (some ⟨bx, 0, none⟩)]) W fun e w' => e = .returned (.bool (!Op.bytesLess y.toList x.toList)) ∧ ∃ q, w' = W.drewN q := by
  have hiz : (i : Int) < (n : Int) := by omega
  have hu44 := Tryd.underlying44
  go_enter Tryd.func76, Tryd.ntmps76
  go_wp2
  go_region
  all_goals go_wp2
  all_goals go_ret
  all_goals exact ⟨by first | rfl | simp, 1, rfl⟩
def merkle_place.less (l0 : List S44) (a1 : ByteArray) (i : Nat) : Bool := Op.bytesLess ((rd_T44 l0 (i : Int)).f0.toList) a1.toList
def merkle_place.f (l0 : List S44) (a1 : ByteArray) : Option (Int) := if (decide (l0.length < 4611686018427387904) && (List.range l0.length).all fun a => (List.range l0.length).all fun b => !(decide (a ≤ b) && (!merkle_place.less l0 a1 a && merkle_place.less l0 a1 b))) = true then some (((List.range l0.length).countP (merkle_place.less l0 a1) : Nat) : Int) else none
set_option maxHeartbeats 8000000 in
set_option maxRecDepth 100000 in
theorem merkle_place.calls (A0 : Option Addr) (c0 : Nat) (l0 : List (S44)) (a1 : ByteArray) (r : Int) (w : World) (hr0 : Kd.C k44 w A0 l0.length l0) (hc0 : l0.length ≤ c0) (h : merkle_place.f l0 a1 = some r) :
    Calls Tryd.prog 58 #[.slice A0 l0.length c0, .string a1] w fun e w' => e = .returned (.int .i64 r) ∧ Below w.heap.size w w' := by
  unfold merkle_place.f at h
  split at h
  case isFalse => exact absurd h (by simp)
  rename_i hcond
  obtain rfl := Option.some.inj h
  simp only [Bool.and_eq_true, decide_eq_true_eq, List.all_eq_true, List.mem_range] at hcond
  obtain ⟨hsz, hmo⟩ := hcond
  obtain ⟨W0, hW0⟩ : ∃ W0, W0 = (w.alloc (.cells #[.slice A0 l0.length c0] 26)).alloc (.cells #[.string a1] 9) := ⟨_, rfl⟩
  have hsize : W0.heap.size = w.heap.size + 1 + 1 := by rw [hW0]; simp
  have ca : W0.cell? ⟨w.heap.size, 0, none⟩ = some (.slice A0 l0.length c0) := by rw [hW0]; exact cell_alloc_sl _ (cell_new_sl w _ _)
  have cx : W0.cell? ⟨w.heap.size + 1, 0, none⟩ = some (.string a1) := by rw [hW0]; have := cell_new_sl (w.alloc (.cells #[.slice A0 l0.length c0] 26)) (.string a1) 9; rwa [World.size_alloc] at this
  have hB0 : Below w.heap.size w W0 := by rw [hW0]; exact below_alloc (below_alloc (Below.refl _ w) _) _
  have hr1 : Kd.C k44 W0 A0 l0.length l0 := Kd.C_below hr0 hB0
  have eg : ∀ args w, (callFunc 76 args).run Tryd.prog w = .ok (.enter 76 args) w := enters_of Tryd.func76 (by kernel_rfl) rfl
  have hS := Any.sort_Search Tryd.search 76 #[.pointer (some ⟨w.heap.size, 0, none⟩), .pointer (some ⟨w.heap.size + 1, 0, none⟩)] l0.length (fun i => !merkle_place.less l0 a1 i) W0 eg hsz
    (fun m os i hi => by
      have hb2 : Below W0.heap.size W0 (Go.Sort.grow (W0.drewN m) os) := below_grown_sl W0.heap.size W0 m os (Nat.le_refl _)
      obtain ⟨ad, e, hx, _⟩ := at_T44 (Kd.C_below hr1 hb2) (i : Int) (by omega) (by omega)
      subst e
      refine (merkle_place.clo w.heap.size (w.heap.size + 1) ad l0.length c0 _ a1 i _ hi (cell_grown (by simp [hsize]; omega) ca m os) (cell_grown (by simp [hsize]) cx m os) hx).mono ?_
      rintro _ _ ⟨he, q, hq⟩
      exact ⟨he, q, #[], by rw [hq, Go.Sort.grow_empty]⟩)
    (fun a b hab hb h => by
      have := hmo a (by omega) b hb
      simp only [hab, decide_true, Bool.true_and, Bool.not_eq_true'] at this
      simp only [Bool.not_eq_true'] at h ⊢
      rw [h] at this
      simpa using this)
  simp only [Bool.not_not] at hS
  change Calls Tryd.prog 75 _ _ _ at hS
  clear ca cx hr1 hmo
  generalize (List.range l0.length).countP (merkle_place.less l0 a1) = r at hS ⊢
  go_enter Tryd.func58, Tryd.ntmps58
  go_wp2_with (go_at_call 75; rw [← hW0]; refine hS.mono ?_; rintro e w' ⟨rfl, q, os, rfl⟩)
  go_ret
  refine ⟨rfl, ?_⟩
  rw [← hW0]
  exact hB0.trans (below_grown_sl w.heap.size W0 q os (by omega))

end Go.Proofs.YtdeggemomajhcaaDoorH.HMerkleDiffs
