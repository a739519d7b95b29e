-- PRINTED by print.py (a twelfth state) out of the translation. Not trusted: Lean checks it.
import Derived.Test.YtdeggemomajhcaaDoorHMerkleMissingx0
import Derived.Test.YtdeggemomajhcaaDoorHMerkleMissingx10
import Derived.Test.YtdeggemomajhcaaDoorHMerkleMissingx11
import Derived.Test.YtdeggemomajhcaaDoorHMerkleMissingx12
import Derived.Test.YtdeggemomajhcaaDoorHMerkleMissingx13
namespace Go.Proofs.YtdeggemomajhcaaDoorH.HMerkleMissing
open Go.RowKit Go.Proofs.YtdeggemomajhcaaDoorW.PrintWords Go.Proofs.YtdeggemomajhcaaDoorW.PrintLast Go.Proofs.YtdeggemomajhcaaDoorW.PrintMore
attribute [local go_sem] max2_int min2_int max_two min_two max_three min_three max_four min_four   -- for this text's walks alone
set_option linter.unusedVariables false
set_option linter.unusedSimpArgs false

/-! ### strongroomref20_Verify: function 24 -/
mutual
def strongroomref20_Verify.j0 : Nat → ByteArray → Int → Int → List ByteArray → Bool → ByteArray → ByteArray → Option (Bool)
 | 0, _, _, _, _, _, _, _ => none
 | k + 1, x0, x1, x2, x4, x39, x248000, x248001 => if x39 = true then (some false) else (strongroomref20_Verify.l0 k x0 x1 x2 x4 0 x248000 x248001)
def strongroomref20_Verify.l0 : Nat → ByteArray → Int → Int → List ByteArray → Int → ByteArray → ByteArray → Option (Bool)
 | 0, _, _, _, _, _, _, _ => none
 | k + 1, x0, x1, x2, x4, x11, x248000, x248001 => if x11 < (x4.length : Int) then (if 0 ≤ x11 then (if ((rdOf ByteArray.empty x4 x11).size : Int) = 32 then (strongroomref20_Verify.l0 k x0 x1 x2 x4 (wrap64 (x11 + 1)) x248000 x248001) else (some false)) else (none)) else ((strongroomref20_one.f k x248000 x248001).bind fun t251 => ((strongroomref20_up.f k t251 x1 x2 x4).bind fun t252 => (some (t252.toList == x0.toList))))
end
def strongroomref20_Verify.f (k : Nat) (a0 : ByteArray) (a1 : Int) (a2 : Int) (a3_0 : ByteArray) (a3_1 : ByteArray) (l4 : List ByteArray) : Option (Bool) := (strongroomref20_Good.f k a3_0 a3_1).bind fun t248 => (if t248 = true then (if a1 < 1 then (strongroomref20_Verify.j0 k a0 a1 a2 l4 true a3_0 a3_1) else (if a1 > 1024 then (strongroomref20_Verify.j0 k a0 a1 a2 l4 true a3_0 a3_1) else (if a2 < 0 then (strongroomref20_Verify.j0 k a0 a1 a2 l4 true a3_0 a3_1) else (if a2 ≥ a1 then (strongroomref20_Verify.j0 k a0 a1 a2 l4 true a3_0 a3_1) else ((strongroomref20_Length.f k a1 a2).bind fun t249 => (strongroomref20_Verify.j0 k a0 a1 a2 l4 ((l4.length : Int) != t249) a3_0 a3_1)))))) else (strongroomref20_Verify.j0 k a0 a1 a2 l4 true a3_0 a3_1))
theorem strongroomref20_Verify.mono_l : ∀ k, (∀ y0 y1 y2 y3 y4 y5 y6, LeO (strongroomref20_Verify.j0 k y0 y1 y2 y3 y4 y5 y6) (strongroomref20_Verify.j0 (k + 1) y0 y1 y2 y3 y4 y5 y6)) ∧ (∀ y0 y1 y2 y3 y4 y5 y6, LeO (strongroomref20_Verify.l0 k y0 y1 y2 y3 y4 y5 y6) (strongroomref20_Verify.l0 (k + 1) y0 y1 y2 y3 y4 y5 y6))
 | 0 => ⟨fun _ _ _ _ _ _ _ r h => by simp [strongroomref20_Verify.j0] at h, fun _ _ _ _ _ _ _ r h => by simp [strongroomref20_Verify.l0] at h⟩
 | k + 1 => by
  obtain ⟨ih0, ih1⟩ := strongroomref20_Verify.mono_l k
  refine ⟨?_, ?_⟩
  ·intro y0 y1 y2 y3 y4 y5 y6
   unfold strongroomref20_Verify.j0
   repeat' first
   | (with_reducible exact ih0 _ _ _ _ _ _ _)
   | (with_reducible exact ih1 _ _ _ _ _ _ _)
   | (with_reducible exact strongroomref20_Good.mono _ _ _)
   | (with_reducible exact strongroomref20_Length.mono _ _ _)
   | (with_reducible exact strongroomref20_one.mono _ _ _)
   | (with_reducible exact strongroomref20_up.mono _ _ _ _ _)
   | (with_reducible exact LeO.refl _)
   | (with_reducible exact LeO.none _)
   | (with_reducible refine LeO.ite ?_ ?_)
   | (with_reducible refine LeO.bind ?_ (fun _ => ?_))
   | exact ih0 _ _ _ _ _ _ _
   | exact ih1 _ _ _ _ _ _ _
   | exact strongroomref20_Good.mono _ _ _
   | exact strongroomref20_Length.mono _ _ _
   | exact strongroomref20_one.mono _ _ _
   | exact strongroomref20_up.mono _ _ _ _ _
   | exact LeO.none _
   | refine LeO.ite ?_ ?_
   | refine LeO.bind ?_ (fun _ => ?_)
  ·intro y0 y1 y2 y3 y4 y5 y6
   unfold strongroomref20_Verify.l0
   repeat' first
   | (with_reducible exact ih0 _ _ _ _ _ _ _)
   | (with_reducible exact ih1 _ _ _ _ _ _ _)
   | (with_reducible exact strongroomref20_Good.mono _ _ _)
   | (with_reducible exact strongroomref20_Length.mono _ _ _)
   | (with_reducible exact strongroomref20_one.mono _ _ _)
   | (with_reducible exact strongroomref20_up.mono _ _ _ _ _)
   | (with_reducible exact LeO.refl _)
   | (with_reducible exact LeO.none _)
   | (with_reducible refine LeO.ite ?_ ?_)
   | (with_reducible refine LeO.bind ?_ (fun _ => ?_))
   | exact ih0 _ _ _ _ _ _ _
   | exact ih1 _ _ _ _ _ _ _
   | exact strongroomref20_Good.mono _ _ _
   | exact strongroomref20_Length.mono _ _ _
   | exact strongroomref20_one.mono _ _ _
   | exact strongroomref20_up.mono _ _ _ _ _
   | exact LeO.none _
   | refine LeO.ite ?_ ?_
   | refine LeO.bind ?_ (fun _ => ?_)
theorem strongroomref20_Verify.mono : ∀ a0 a1 a2 a3 a4 a5 k, LeO (strongroomref20_Verify.f k a0 a1 a2 a3 a4 a5) (strongroomref20_Verify.f (k + 1) a0 a1 a2 a3 a4 a5) := by
 intro a0 a1 a2 a3 a4 a5 k
 obtain ⟨ih0, ih1⟩ := strongroomref20_Verify.mono_l k
 unfold strongroomref20_Verify.f
 repeat' first
   | (with_reducible exact ih0 _ _ _ _ _ _ _)
   | (with_reducible exact ih1 _ _ _ _ _ _ _)
   | (with_reducible exact strongroomref20_Good.mono _ _ _)
   | (with_reducible exact strongroomref20_Length.mono _ _ _)
   | (with_reducible exact strongroomref20_one.mono _ _ _)
   | (with_reducible exact strongroomref20_up.mono _ _ _ _ _)
   | (with_reducible exact LeO.refl _)
   | (with_reducible exact LeO.none _)
   | (with_reducible refine LeO.ite ?_ ?_)
   | (with_reducible refine LeO.bind ?_ (fun _ => ?_))
   | exact ih0 _ _ _ _ _ _ _
   | exact ih1 _ _ _ _ _ _ _
   | exact strongroomref20_Good.mono _ _ _
   | exact strongroomref20_Length.mono _ _ _
   | exact strongroomref20_one.mono _ _ _
   | exact strongroomref20_up.mono _ _ _ _ _
   | exact LeO.none _
   | refine LeO.ite ?_ ?_
   | refine LeO.bind ?_ (fun _ => ?_)
set_option maxHeartbeats 8000000 in
set_option maxRecDepth 100000 in
theorem strongroomref20_Verify.calls (k : Nat) (a0 : ByteArray) (a1 : Int) (a2 : Int) (a3_0 : ByteArray) (a3_1 : ByteArray) (A4 : Option Addr) (c4 : Nat) (l4 : List ByteArray) (r : Bool) (w : World) (hr4 : Kd.C Kd.string w A4 l4.length l4) (hc4 : l4.length ≤ c4) (h : strongroomref20_Verify.f k a0 a1 a2 a3_0 a3_1 l4 = some r) :
  Calls Tryd.prog 24 #[.string a0, .int .i64 a1, .int .i64 a2, .agg #[.string a3_0, .string a3_1], .slice A4 l4.length c4] w fun e w' => e = .returned (.bool r) ∧ Below w.heap.size w w' := by
 have hu39 := Tryd.underlying39
 have HR4 := Aside0.mk hr4
 have HC4 := Aside0.mk hc4
 clear hr4 hc4
 have HB := Aside0.mk (Below.refl w.heap.size w)
 have H : ((strongroomref20_Good.f k a3_0 a3_1).bind fun t248 => (if t248 = true then (if a1 < 1 then (strongroomref20_Verify.j0 k a0 a1 a2 l4 true a3_0 a3_1) else (if a1 > 1024 then (strongroomref20_Verify.j0 k a0 a1 a2 l4 true a3_0 a3_1) else (if a2 < 0 then (strongroomref20_Verify.j0 k a0 a1 a2 l4 true a3_0 a3_1) else (if a2 ≥ a1 then (strongroomref20_Verify.j0 k a0 a1 a2 l4 true a3_0 a3_1) else ((strongroomref20_Length.f k a1 a2).bind fun t249 => (strongroomref20_Verify.j0 k a0 a1 a2 l4 ((l4.length : Int) != t249) a3_0 a3_1)))))) else (strongroomref20_Verify.j0 k a0 a1 a2 l4 true a3_0 a3_1))) = some r := h
 clear h
 have HC6 := Aside0.mk H
 clear H
 go_enter Tryd.func24, Tryd.ntmps24
 go_upto_region 1 with (first | ((with_reducible refine gate_dst (N := 8) rfl ?_); (try (refine gate_guard (by rfl) ?_; dsimp only)); refine box_event ?hg (N := 8) ?hd (cs := #[.string a3_0, .string a3_1]) (t := 39) ?hr ?_; (case hd => rfl); (case hg => rfl); (case hr => first | (go_simp; done) | (go_simp; rfl)); intro gb247 hg w7 hbox hb; have n0_ := Aside0.mk (below_step m9_ hb); have n1_ := Aside0.mk (hbox); have n2_ := Aside0.mk ((by rw [hg]; exact (below_size m9_) : w.heap.size ≤ gb247)); have n3_ := Aside0.mk ((by rw [hg]; exact (below_size m9_) : w.heap.size ≤ gb247)); clear HB; have HB := n0_; have BK247 := n1_; have GW247 := n2_; have GE247 := n3_; clear n0_ n1_ n2_ n3_; clear hb hbox hg))
 (try simp only [Act.put, List.setIfInBounds_toArray, List.set_cons_zero, List.set_cons_succ])
 go_cut [39] (fun v39 wc => ∃ (kq : Nat) (x39_5 : Bool), v39 = .bool x39_5 ∧ Aside0 (strongroomref20_Verify.j0 kq a0 a1 a2 l4 x39_5 a3_0 a3_1 = some r) ∧ Aside0 (kq ≤ k) ∧ Aside0 (wc.heap[gb247]? = some (.cells #[.string a3_0, .string a3_1] 39 (0, 0))) ∧ Aside0 (Below w.heap.size w wc))
 case first =>
  have H := HC6.out
  clear HC6
  replace H := Option.bind_eq_some_iff.mp H
  obtain ⟨t248, A80, H⟩ := H
  replace H : (if t248 = true then (if a1 < 1 then (strongroomref20_Verify.j0 k a0 a1 a2 l4 true a3_0 a3_1) else (if a1 > 1024 then (strongroomref20_Verify.j0 k a0 a1 a2 l4 true a3_0 a3_1) else (if a2 < 0 then (strongroomref20_Verify.j0 k a0 a1 a2 l4 true a3_0 a3_1) else (if a2 ≥ a1 then (strongroomref20_Verify.j0 k a0 a1 a2 l4 true a3_0 a3_1) else ((strongroomref20_Length.f k a1 a2).bind fun t249 => (strongroomref20_Verify.j0 k a0 a1 a2 l4 ((l4.length : Int) != t249) a3_0 a3_1)))))) else (strongroomref20_Verify.j0 k a0 a1 a2 l4 true a3_0 a3_1)) = some r := H
  have A8 := Aside0.mk A80
  clear A80
  by_cases c9 : t248 = true
  case neg =>
   replace c9 := Bool.eq_false_iff.mpr c9
   subst c9
   have H1 : (strongroomref20_Verify.j0 k a0 a1 a2 l4 true a3_0 a3_1) = some r := by rw [if_neg (show ¬ (false = true) by decide)] at H; exact H
   clear H
   have H := H1
   clear H1
   have H' := Aside0.mk H
   clear H
   have hcz25_0 : w7.cell? ⟨gb247, 0, none⟩ = some (.string a3_0) := (blk_cell BK247.out 0).trans rfl
   have hcz25_1 : w7.cell? ⟨gb247, 1, none⟩ = some (.string a3_1) := (blk_cell BK247.out 1).trans rfl
   have hfz25_0 := blk_frozen BK247.out 0
   have hfz25_1 := blk_frozen BK247.out 1
   go_wp2_with (first | ((with_reducible refine gate_callee (f := 26) rfl ?_); refine goesL_ (some 13) rfl rfl Tryd.func26 (by kernel_rfl) rfl #[.agg #[.string a3_0, .string a3_1]] rfl m8_ ?_; (with_reducible refine (strongroomref20_Good.calls k a3_0 a3_1 false _ A8.out).mono ?_); rintro e w26 ⟨rfl, hb⟩; refine ⟨_, rfl, ?_⟩; have n0_ := Aside0.mk (blk_below (g := gb247) (o := .cells #[.string a3_0, .string a3_1] 39 (0, 0)) m14_ hb); have n1_ := Aside0.mk (below_step m5_ hb); clear BK247; clear HB; have BK247 := n0_; have HB := n1_; clear n0_ n1_; (try clear hb); (try clear hb2); (try clear hk); (try clear hi)))
   go_meet
   case rel => exact ⟨_, (true), m16_, H', ⟨by first | omega | exact Nat.le_refl _⟩, ⟨by (with_reducible repeat (first | refine blk_drewN ?_ _ | refine blk_drew ?_ | refine blk_alloc ?_ _)); exact BK247.out⟩, ⟨m29_⟩⟩
  subst c9
  have H1 : (if a1 < 1 then (strongroomref20_Verify.j0 k a0 a1 a2 l4 true a3_0 a3_1) else (if a1 > 1024 then (strongroomref20_Verify.j0 k a0 a1 a2 l4 true a3_0 a3_1) else (if a2 < 0 then (strongroomref20_Verify.j0 k a0 a1 a2 l4 true a3_0 a3_1) else (if a2 ≥ a1 then (strongroomref20_Verify.j0 k a0 a1 a2 l4 true a3_0 a3_1) else ((strongroomref20_Length.f k a1 a2).bind fun t249 => (strongroomref20_Verify.j0 k a0 a1 a2 l4 ((l4.length : Int) != t249) a3_0 a3_1)))))) = some r := by rw [if_pos rfl] at H; exact H
  clear H
  have H := H1
  clear H1
  by_cases c10 : a1 < 1
  ·rw [if_pos c10] at H
   have c10b0 : decide (a1 < 1) = true := decide_eq_true c10
   clear c10
   (first | rw [c10b0] | (simp only [i64_w, i32_w]; rw [c10b0]) | skip)
   have H' := Aside0.mk H
   clear H
   have hcz11_0 : w7.cell? ⟨gb247, 0, none⟩ = some (.string a3_0) := (blk_cell BK247.out 0).trans rfl
   have hcz11_1 : w7.cell? ⟨gb247, 1, none⟩ = some (.string a3_1) := (blk_cell BK247.out 1).trans rfl
   have hfz11_0 := blk_frozen BK247.out 0
   have hfz11_1 := blk_frozen BK247.out 1
   go_wp2_with (first | ((with_reducible refine gate_callee (f := 26) rfl ?_); refine goesL_ (some 13) rfl rfl Tryd.func26 (by kernel_rfl) rfl #[.agg #[.string a3_0, .string a3_1]] rfl m8_ ?_; (with_reducible refine (strongroomref20_Good.calls k a3_0 a3_1 true _ A8.out).mono ?_); rintro e w12 ⟨rfl, hb⟩; refine ⟨_, rfl, ?_⟩; have n0_ := Aside0.mk (blk_below (g := gb247) (o := .cells #[.string a3_0, .string a3_1] 39 (0, 0)) m14_ hb); have n1_ := Aside0.mk (below_step m5_ hb); clear BK247; clear HB; have BK247 := n0_; have HB := n1_; clear n0_ n1_; (try clear hb); (try clear hb2); (try clear hk); (try clear hi)))
   go_meet
   case rel => exact ⟨_, (true), m16_, H', ⟨by first | omega | exact Nat.le_refl _⟩, ⟨by (with_reducible repeat (first | refine blk_drewN ?_ _ | refine blk_drew ?_ | refine blk_alloc ?_ _)); exact BK247.out⟩, ⟨m29_⟩⟩
  rw [if_neg c10] at H
  have c10b0 : decide (a1 < 1) = false := decide_eq_false c10
  clear c10
  (first | rw [c10b0] | (simp only [i64_w, i32_w]; rw [c10b0]) | skip)
  by_cases c13 : a1 > 1024
  ·rw [if_pos c13] at H
   have c13b0 : decide (1024 < a1) = true := decide_eq_true c13
   clear c13
   have H' := Aside0.mk H
   clear H
   have hcz14_0 : w7.cell? ⟨gb247, 0, none⟩ = some (.string a3_0) := (blk_cell BK247.out 0).trans rfl
   have hcz14_1 : w7.cell? ⟨gb247, 1, none⟩ = some (.string a3_1) := (blk_cell BK247.out 1).trans rfl
   have hfz14_0 := blk_frozen BK247.out 0
   have hfz14_1 := blk_frozen BK247.out 1
   go_wp2_with (first | ((with_reducible refine gate_callee (f := 26) rfl ?_); refine goesL_ (some 13) rfl rfl Tryd.func26 (by kernel_rfl) rfl #[.agg #[.string a3_0, .string a3_1]] rfl m8_ ?_; (with_reducible refine (strongroomref20_Good.calls k a3_0 a3_1 true _ A8.out).mono ?_); rintro e w15 ⟨rfl, hb⟩; refine ⟨_, rfl, ?_⟩; have n0_ := Aside0.mk (blk_below (g := gb247) (o := .cells #[.string a3_0, .string a3_1] 39 (0, 0)) m14_ hb); have n1_ := Aside0.mk (below_step m5_ hb); clear BK247; clear HB; have BK247 := n0_; have HB := n1_; clear n0_ n1_; (try clear hb); (try clear hb2); (try clear hk); (try clear hi)))
   go_meet
   case rel => exact ⟨_, (true), m16_, H', ⟨by first | omega | exact Nat.le_refl _⟩, ⟨by (with_reducible repeat (first | refine blk_drewN ?_ _ | refine blk_drew ?_ | refine blk_alloc ?_ _)); exact BK247.out⟩, ⟨m29_⟩⟩
  rw [if_neg c13] at H
  have c13b0 : decide (1024 < a1) = false := decide_eq_false c13
  clear c13
  by_cases c16 : a2 < 0
  ·rw [if_pos c16] at H
   have c16b0 : decide (a2 < 0) = true := decide_eq_true c16
   clear c16
   have H' := Aside0.mk H
   clear H
   have hcz17_0 : w7.cell? ⟨gb247, 0, none⟩ = some (.string a3_0) := (blk_cell BK247.out 0).trans rfl
   have hcz17_1 : w7.cell? ⟨gb247, 1, none⟩ = some (.string a3_1) := (blk_cell BK247.out 1).trans rfl
   have hfz17_0 := blk_frozen BK247.out 0
   have hfz17_1 := blk_frozen BK247.out 1
   go_wp2_with (first | ((with_reducible refine gate_callee (f := 26) rfl ?_); refine goesL_ (some 13) rfl rfl Tryd.func26 (by kernel_rfl) rfl #[.agg #[.string a3_0, .string a3_1]] rfl m8_ ?_; (with_reducible refine (strongroomref20_Good.calls k a3_0 a3_1 true _ A8.out).mono ?_); rintro e w18 ⟨rfl, hb⟩; refine ⟨_, rfl, ?_⟩; have n0_ := Aside0.mk (blk_below (g := gb247) (o := .cells #[.string a3_0, .string a3_1] 39 (0, 0)) m14_ hb); have n1_ := Aside0.mk (below_step m5_ hb); clear BK247; clear HB; have BK247 := n0_; have HB := n1_; clear n0_ n1_; (try clear hb); (try clear hb2); (try clear hk); (try clear hi)))
   go_meet
   case rel => exact ⟨_, (true), m16_, H', ⟨by first | omega | exact Nat.le_refl _⟩, ⟨by (with_reducible repeat (first | refine blk_drewN ?_ _ | refine blk_drew ?_ | refine blk_alloc ?_ _)); exact BK247.out⟩, ⟨m29_⟩⟩
  rw [if_neg c16] at H
  have c16b0 : decide (a2 < 0) = false := decide_eq_false c16
  clear c16
  by_cases c19 : a2 ≥ a1
  ·rw [if_pos c19] at H
   have c19b0 : decide (a1 ≤ a2) = true := decide_eq_true c19
   clear c19
   have H' := Aside0.mk H
   clear H
   have hcz20_0 : w7.cell? ⟨gb247, 0, none⟩ = some (.string a3_0) := (blk_cell BK247.out 0).trans rfl
   have hcz20_1 : w7.cell? ⟨gb247, 1, none⟩ = some (.string a3_1) := (blk_cell BK247.out 1).trans rfl
   have hfz20_0 := blk_frozen BK247.out 0
   have hfz20_1 := blk_frozen BK247.out 1
   go_wp2_with (first | ((with_reducible refine gate_callee (f := 26) rfl ?_); refine goesL_ (some 13) rfl rfl Tryd.func26 (by kernel_rfl) rfl #[.agg #[.string a3_0, .string a3_1]] rfl m8_ ?_; (with_reducible refine (strongroomref20_Good.calls k a3_0 a3_1 true _ A8.out).mono ?_); rintro e w21 ⟨rfl, hb⟩; refine ⟨_, rfl, ?_⟩; have n0_ := Aside0.mk (blk_below (g := gb247) (o := .cells #[.string a3_0, .string a3_1] 39 (0, 0)) m14_ hb); have n1_ := Aside0.mk (below_step m5_ hb); clear BK247; clear HB; have BK247 := n0_; have HB := n1_; clear n0_ n1_; (try clear hb); (try clear hb2); (try clear hk); (try clear hi)))
   go_meet
   case rel => exact ⟨_, (true), m16_, H', ⟨by first | omega | exact Nat.le_refl _⟩, ⟨by (with_reducible repeat (first | refine blk_drewN ?_ _ | refine blk_drew ?_ | refine blk_alloc ?_ _)); exact BK247.out⟩, ⟨m29_⟩⟩
  rw [if_neg c19] at H
  have c19b0 : decide (a1 ≤ a2) = false := decide_eq_false c19
  clear c19
  replace H := Option.bind_eq_some_iff.mp H
  obtain ⟨t249, A220, H⟩ := H
  replace H : (strongroomref20_Verify.j0 k a0 a1 a2 l4 ((l4.length : Int) != t249) a3_0 a3_1) = some r := H
  have A22 := Aside0.mk A220
  clear A220
  have H' := Aside0.mk H
  clear H
  have hcz23_0 : w7.cell? ⟨gb247, 0, none⟩ = some (.string a3_0) := (blk_cell BK247.out 0).trans rfl
  have hcz23_1 : w7.cell? ⟨gb247, 1, none⟩ = some (.string a3_1) := (blk_cell BK247.out 1).trans rfl
  have hfz23_0 := blk_frozen BK247.out 0
  have hfz23_1 := blk_frozen BK247.out 1
  go_wp2_with (first | ((with_reducible refine gate_callee (f := 26) rfl ?_); refine goesL_ (some 13) rfl rfl Tryd.func26 (by kernel_rfl) rfl #[.agg #[.string a3_0, .string a3_1]] rfl m8_ ?_; (with_reducible refine (strongroomref20_Good.calls k a3_0 a3_1 true _ A8.out).mono ?_); rintro e w24 ⟨rfl, hb⟩; refine ⟨_, rfl, ?_⟩; have n0_ := Aside0.mk (blk_below (g := gb247) (o := .cells #[.string a3_0, .string a3_1] 39 (0, 0)) m14_ hb); have n1_ := Aside0.mk (below_step m5_ hb); clear BK247; clear HB; have BK247 := n0_; have HB := n1_; clear n0_ n1_; (try clear hb); (try clear hb2); (try clear hk); (try clear hi)) | (go_at_call 25; (with_reducible refine (strongroomref20_Length.calls k a1 a2 t249 _ A22.out).mono ?_); rintro e w' ⟨rfl, ⟨nd, rfl⟩⟩))
  go_meet
  case rel => exact ⟨_, (((l4.length : Int) != t249)), m16_, H', ⟨by first | omega | exact Nat.le_refl _⟩, ⟨by (with_reducible repeat (first | refine blk_drewN ?_ _ | refine blk_drew ?_ | refine blk_alloc ?_ _)); exact BK247.out⟩, ⟨m29_⟩⟩
 clear HC6
 try clear c1; try clear c2; try clear p2; try clear c4; try clear c9; try clear c10; try clear c10b0; try clear c13; try clear c13b0; try clear c16; try clear c16b0; try clear c19; try clear c19b0; try clear c24; try clear c26; try clear hcz11_0; try clear hcz11_1; try clear hcz14_0; try clear hcz14_1; try clear hcz17_0; try clear hcz17_1; try clear hcz20_0; try clear hcz20_1; try clear hcz23_0; try clear hcz23_1; try clear hcz25_0; try clear hcz25_1; try clear hfz11_0; try clear hfz11_1; try clear hfz14_0; try clear hfz14_1; try clear hfz17_0; try clear hfz17_1; try clear hfz20_0; try clear hfz20_1; try clear hfz23_0; try clear hfz23_1; try clear hfz25_0; try clear hfz25_1
 obtain ⟨kq, x39_5, rfl, HA, HJ5, BK247, HB⟩ := hcut
 cases kq with
 | zero => exact absurd HA.out (by simp [strongroomref20_Verify.j0])
 | succ kj5 =>
  have H := HA.out
  clear HA
  simp only [strongroomref20_Verify.j0] at H
  by_cases c27 : x39_5 = true
  ·subst c27
   have H1 : (some false) = some r := by rw [if_pos rfl] at H; exact H
   clear H
   have H := H1
   clear H1
   obtain rfl := Option.some.inj H
   go_wp2
   go_ret
   exact ⟨by first | rfl | (simp [errW_none, errW_some] <;> rfl) | (simp [*, errW_none, errW_some] <;> rfl), m29_⟩
  replace c27 := Bool.eq_false_iff.mpr c27
  subst c27
  have H1 : (strongroomref20_Verify.l0 kj5 a0 a1 a2 l4 0 a3_0 a3_1) = some r := by rw [if_neg (show ¬ (false = true) by decide)] at H; exact H
  clear H
  have H := H1
  clear H1
  have H' := Aside0.mk H
  clear H
  go_wp2
  go_loopg [11] kj5 (fun kq v11 w' => ∃ (x11_2 : Int), v11 = .int .i64 x11_2 ∧ Aside0 (strongroomref20_Verify.l0 kq a0 a1 a2 l4 x11_2 a3_0 a3_1 = some r) ∧ Aside0 (kq ≤ kj5) ∧ Aside0 (w'.heap[gb247]? = some (.cells #[.string a3_0, .string a3_1] 39 (0, 0))) ∧ Aside0 (Below w.heap.size w w'))
  case atStart => exact ⟨(0), m16_, H', ⟨Nat.le_refl _⟩, ⟨by (with_reducible repeat (first | refine blk_drewN ?_ _ | refine blk_drew ?_ | refine blk_alloc ?_ _)); exact BK247.out⟩, ⟨m29_⟩⟩
  clear H'
  try clear c1; try clear c2; try clear p2; try clear c4; try clear c9; try clear c10; try clear c10b0; try clear c13; try clear c13b0; try clear c16; try clear c16b0; try clear c19; try clear c19b0; try clear c24; try clear c26; try clear c27; try clear hcz11_0; try clear hcz11_1; try clear hcz14_0; try clear hcz14_1; try clear hcz17_0; try clear hcz17_1; try clear hcz20_0; try clear hcz20_1; try clear hcz23_0; try clear hcz23_1; try clear hcz25_0; try clear hcz25_1; try clear hfz11_0; try clear hfz11_1; try clear hfz14_0; try clear hfz14_1; try clear hfz17_0; try clear hfz17_1; try clear hfz20_0; try clear hfz20_1; try clear hfz23_0; try clear hfz23_1; try clear hfz25_0; try clear hfz25_1; try clear p2
  obtain ⟨x11_2, rfl, HA, HK2, BK247, HB⟩ := hrel
  cases gk with
  | zero => exact absurd HA.out (by simp [strongroomref20_Verify.l0])
  | succ k2 =>
   have H := HA.out
   clear HA
   simp only [strongroomref20_Verify.l0] at H
   by_cases c28 : x11_2 < (l4.length : Int)
   ·rw [if_pos c28] at H
    have c28b0 : decide (x11_2 < (l4.length : Int)) = true := decide_eq_true c28
    clear c28
    by_cases c29 : 0 ≤ x11_2
    case neg =>
     rw [if_neg c29] at H
     exact absurd H (by simp)
    rw [if_pos c29] at H
    have c29b0 : decide (0 ≤ x11_2) = true := decide_eq_true c29
    clear c29
    by_cases c30 : ((rdOf ByteArray.empty l4 x11_2).size : Int) = 32
    case neg =>
     rw [if_neg c30] at H
     have c30b0 : (((rdOf ByteArray.empty l4 x11_2).size : Int) == 32) = false := beq_eq_false_iff_ne.mpr c30
     have c30b1 : (((rdOf ByteArray.empty l4 x11_2).size : Int) != 32) = true := bne_iff_ne.mpr c30
     obtain rfl := Option.some.inj H
     have p250 : 0 ≤ (x11_2 : Int) := of_decide_eq_true m15_
     have q250 : x11_2 < (l4.length : Int) := of_decide_eq_true m15_
     obtain ⟨ad250, e250, hx250_0⟩ := Kd.at_string HR4.out x11_2 p250 q250
     cases e250
     replace hx250_0 := (HB.out.cell (World.block_lt_of_cell? w _ hx250_0)).trans hx250_0
     replace p250 := eq_true p250
     replace q250 := eq_true q250
     go_wp2
     go_ret
     exact ⟨by first | rfl | (simp [errW_none, errW_some] <;> rfl) | (simp [*, errW_none, errW_some] <;> rfl), m29_⟩
    rw [if_pos c30] at H
    have c30b0 : (((rdOf ByteArray.empty l4 x11_2).size : Int) == 32) = true := beq_iff_eq.mpr c30
    have c30b1 : (((rdOf ByteArray.empty l4 x11_2).size : Int) != 32) = false := bne_eq_false_iff_eq.mpr c30
    clear c30
    have H' := Aside0.mk H
    clear H
    have p250 : 0 ≤ (x11_2 : Int) := of_decide_eq_true m15_
    have q250 : x11_2 < (l4.length : Int) := of_decide_eq_true m15_
    obtain ⟨ad250, e250, hx250_0⟩ := Kd.at_string HR4.out x11_2 p250 q250
    cases e250
    replace hx250_0 := (HB.out.cell (World.block_lt_of_cell? w _ hx250_0)).trans hx250_0
    replace p250 := eq_true p250
    replace q250 := eq_true q250
    go_wp2
    go_roundg k2
    case measure => have := HJ5.out; have := HK2.out; omega
    case rel => exact ⟨(wrap64 (x11_2 + 1)), m16_, H', ⟨by have := HJ5.out; have := HK2.out; omega⟩, ⟨by (with_reducible repeat (first | refine blk_drewN ?_ _ | refine blk_drew ?_ | refine blk_alloc ?_ _)); exact BK247.out⟩, ⟨m29_⟩⟩
   rw [if_neg c28] at H
   have c28b0 : decide (x11_2 < (l4.length : Int)) = false := decide_eq_false c28
   clear c28
   replace H := Option.bind_eq_some_iff.mp H
   obtain ⟨t251, A310, H⟩ := H
   replace H : ((strongroomref20_up.f k2 t251 a1 a2 l4).bind fun t252 => (some (t252.toList == a0.toList))) = some r := H
   have A31 := Aside0.mk A310
   clear A310
   replace H := Option.bind_eq_some_iff.mp H
   obtain ⟨t252, A320, H⟩ := H
   replace H : (some (t252.toList == a0.toList)) = some r := H
   have A32 := Aside0.mk A320
   clear A320
   obtain rfl := Option.some.inj H
   have hcz33_0 : wr.cell? ⟨gb247, 0, none⟩ = some (.string a3_0) := (blk_cell BK247.out 0).trans rfl
   have hcz33_1 : wr.cell? ⟨gb247, 1, none⟩ = some (.string a3_1) := (blk_cell BK247.out 1).trans rfl
   have hfz33_0 := blk_frozen BK247.out 0
   have hfz33_1 := blk_frozen BK247.out 1
   go_wp2_with (first | ((with_reducible refine gate_callee (f := 45) rfl ?_); refine goesL_ (some 53) rfl rfl Tryd.func45 (by kernel_rfl) rfl #[.agg #[.string a3_0, .string a3_1]] rfl m8_ ?_; (with_reducible refine (strongroomref20_one.calls k2 a3_0 a3_1 t251 _ A31.out).mono ?_); rintro e w34 ⟨rfl, hb⟩; refine ⟨_, rfl, ?_⟩; have n0_ := Aside0.mk (blk_below (g := gb247) (o := .cells #[.string a3_0, .string a3_1] 39 (0, 0)) m14_ hb); have n1_ := Aside0.mk (below_step m5_ hb); clear BK247; clear HB; have BK247 := n0_; have HB := n1_; clear n0_ n1_; (try clear hb); (try clear hb2); (try clear hk); (try clear hi)) | ((with_reducible refine gate_callee (f := 50) rfl ?_); refine goesL_ (some 57) rfl rfl Tryd.func50 (by kernel_rfl) rfl #[.string t251, .int .i64 a1, .int .i64 a2, .slice A4 l4.length c4] rfl m8_ ?_; (with_reducible refine (strongroomref20_up.calls k2 t251 a1 a2 _ _ l4 t252 _ ?side1 ?side2 A32.out).mono ?_); (case side1 => exact m23_); (case side2 => exact HC4.out); rintro e w35 ⟨rfl, hb⟩; refine ⟨_, rfl, ?_⟩; have n0_ := Aside0.mk (blk_below (g := gb247) (o := .cells #[.string a3_0, .string a3_1] 39 (0, 0)) m14_ hb); have n1_ := Aside0.mk (below_step m5_ hb); clear BK247; clear HB; have BK247 := n0_; have HB := n1_; clear n0_ n1_; (try clear hb); (try clear hb2); (try clear hk); (try clear hi)))
   go_ret
   exact ⟨by first | rfl | (simp [errW_none, errW_some] <;> rfl) | (simp [*, errW_none, errW_some] <;> rfl), m29_⟩

end Go.Proofs.YtdeggemomajhcaaDoorH.HMerkleMissing
