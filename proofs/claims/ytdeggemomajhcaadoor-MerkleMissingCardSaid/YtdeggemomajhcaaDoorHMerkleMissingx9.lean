-- PRINTED by print.py (a twelfth state) out of the translation. Not trusted: Lean checks it.
import Derived.Test.YtdeggemomajhcaaDoorHMerkleMissingx0
import Derived.Test.YtdeggemomajhcaaDoorHMerkleMissingx2
import Derived.Test.YtdeggemomajhcaaDoorHMerkleMissingx4
import Derived.Test.YtdeggemomajhcaaDoorHMerkleMissingx6
import Derived.Test.YtdeggemomajhcaaDoorHMerkleMissingx8
namespace Go.Proofs.YtdeggemomajhcaaDoorH.HMerkleMissing
open Go.RowKit Go.Proofs.YtdeggemomajhcaaDoorW.PrintWords Go.Proofs.YtdeggemomajhcaaDoorW.PrintLast Go.Proofs.YtdeggemomajhcaaDoorW.PrintMore
attribute [local go_sem] max2_int min2_int max_two min_two max_three min_three max_four min_four   -- for this text's walks alone
set_option linter.unusedVariables false
set_option linter.unusedSimpArgs false

attribute [local go_sem high] eqA44
/-! ### merkle_Verify: function 23 -/
def merkle_Verify.j0 : Nat → ByteArray → Int → Int → List ByteArray → Bool → ByteArray → ByteArray → Option (Bool)
 | 0, _, _, _, _, _, _, _ => none
 | k + 1, x0, x1, x2, x4, x32, x184000, x184001 => if x32 = true then (some false) else ((merkle_leaf.f k x184000 x184001).bind fun t185 => ((merkle_climb.f k t185 x1 x2 x4).bind fun bt186 => (if bt186.2 = true then (some (bt186.1.toList == x0.toList)) else (some false))))
def merkle_Verify.f (k : Nat) (a0 : ByteArray) (a1 : Int) (a2 : Int) (a3_0 : ByteArray) (a3_1 : ByteArray) (l4 : List ByteArray) : Option (Bool) := (merkle_good.f a3_0 a3_1).bind fun t184 => (if t184 = true then (if a1 < 1 then (merkle_Verify.j0 k a0 a1 a2 l4 true a3_0 a3_1) else (if a1 > 1024 then (merkle_Verify.j0 k a0 a1 a2 l4 true a3_0 a3_1) else (if a2 < 0 then (merkle_Verify.j0 k a0 a1 a2 l4 true a3_0 a3_1) else (merkle_Verify.j0 k a0 a1 a2 l4 (decide (a2 ≥ a1)) a3_0 a3_1)))) else (merkle_Verify.j0 k a0 a1 a2 l4 true a3_0 a3_1))
theorem merkle_Verify.mono_l : ∀ k, (∀ y0 y1 y2 y3 y4 y5 y6, LeO (merkle_Verify.j0 k y0 y1 y2 y3 y4 y5 y6) (merkle_Verify.j0 (k + 1) y0 y1 y2 y3 y4 y5 y6))
 | 0 => fun _ _ _ _ _ _ _ r h => by simp [merkle_Verify.j0] at h
 | k + 1 => by
  have ih0 := merkle_Verify.mono_l k
  ·intro y0 y1 y2 y3 y4 y5 y6
   unfold merkle_Verify.j0
   repeat' first
   | (with_reducible exact ih0 _ _ _ _ _ _ _)
   | (with_reducible exact merkle_climb.mono _ _ _ _ _)
   | (with_reducible exact merkle_leaf.mono _ _ _)
   | (with_reducible exact LeO.refl _)
   | (with_reducible exact LeO.none _)
   | (with_reducible refine LeO.ite ?_ ?_)
   | (with_reducible refine LeO.bind ?_ (fun _ => ?_))
   | exact ih0 _ _ _ _ _ _ _
   | exact merkle_climb.mono _ _ _ _ _
   | exact merkle_leaf.mono _ _ _
   | exact LeO.none _
   | refine LeO.ite ?_ ?_
   | refine LeO.bind ?_ (fun _ => ?_)
theorem merkle_Verify.mono : ∀ a0 a1 a2 a3 a4 a5 k, LeO (merkle_Verify.f k a0 a1 a2 a3 a4 a5) (merkle_Verify.f (k + 1) a0 a1 a2 a3 a4 a5) := by
 intro a0 a1 a2 a3 a4 a5 k
 have ih0 := merkle_Verify.mono_l k
 unfold merkle_Verify.f
 repeat' first
   | (with_reducible exact ih0 _ _ _ _ _ _ _)
   | (with_reducible exact merkle_climb.mono _ _ _ _ _)
   | (with_reducible exact merkle_leaf.mono _ _ _)
   | (with_reducible exact LeO.refl _)
   | (with_reducible exact LeO.none _)
   | (with_reducible refine LeO.ite ?_ ?_)
   | (with_reducible refine LeO.bind ?_ (fun _ => ?_))
   | exact ih0 _ _ _ _ _ _ _
   | exact merkle_climb.mono _ _ _ _ _
   | exact merkle_leaf.mono _ _ _
   | exact LeO.none _
   | refine LeO.ite ?_ ?_
   | refine LeO.bind ?_ (fun _ => ?_)
set_option maxHeartbeats 8000000 in
set_option maxRecDepth 100000 in
theorem merkle_Verify.calls (k : Nat) (a0 : ByteArray) (a1 : Int) (a2 : Int) (a3_0 : ByteArray) (a3_1 : ByteArray) (A4 : Option Addr) (c4 : Nat) (l4 : List ByteArray) (r : Bool) (w : World) (hr4 : Kd.C Kd.string w A4 l4.length l4) (hc4 : l4.length ≤ c4) (h : merkle_Verify.f k a0 a1 a2 a3_0 a3_1 l4 = some r) :
  Calls Tryd.prog 23 #[.string a0, .int .i64 a1, .int .i64 a2, .agg #[.string a3_0, .string a3_1], .slice A4 l4.length c4] w fun e w' => e = .returned (.bool r) ∧ Below w.heap.size w w' := by
 have hu44 := Tryd.underlying44
 have HR4 := Aside0.mk hr4
 have HC4 := Aside0.mk hc4
 clear hr4 hc4
 have HB := Aside0.mk (Below.refl w.heap.size w)
 have H : ((merkle_good.f a3_0 a3_1).bind fun t184 => (if t184 = true then (if a1 < 1 then (merkle_Verify.j0 k a0 a1 a2 l4 true a3_0 a3_1) else (if a1 > 1024 then (merkle_Verify.j0 k a0 a1 a2 l4 true a3_0 a3_1) else (if a2 < 0 then (merkle_Verify.j0 k a0 a1 a2 l4 true a3_0 a3_1) else (merkle_Verify.j0 k a0 a1 a2 l4 (decide (a2 ≥ a1)) a3_0 a3_1)))) else (merkle_Verify.j0 k a0 a1 a2 l4 true a3_0 a3_1))) = some r := h
 clear h
 have HC6 := Aside0.mk H
 clear H
 go_enter Tryd.func23, Tryd.ntmps23
 go_upto_region 1 with (first | ((with_reducible refine gate_dst (N := 8) rfl ?_); refine box_event ?hg (N := 8) ?hd (cs := #[.string a3_0, .string a3_1]) (t := 44) ?hr ?_; (case hd => rfl); (case hg => rfl); (case hr => first | (go_simp; done) | (go_simp; rfl)); intro gb183 hg w7 hbox hb; have n0_ := Aside0.mk (below_step m9_ hb); have n1_ := Aside0.mk (hbox); have n2_ := Aside0.mk ((by rw [hg]; exact (below_size m9_) : w.heap.size ≤ gb183)); have n3_ := Aside0.mk ((by rw [hg]; exact (below_size m9_) : w.heap.size ≤ gb183)); clear HB; have HB := n0_; have BK183 := n1_; have GW183 := n2_; have GE183 := n3_; clear n0_ n1_ n2_ n3_; clear hb hbox hg))
 (try simp only [Act.put, List.setIfInBounds_toArray, List.set_cons_zero, List.set_cons_succ])
 go_cut [32] (fun v32 wc => ∃ (kq : Nat) (x32_5 : Bool), v32 = .bool x32_5 ∧ Aside0 (merkle_Verify.j0 kq a0 a1 a2 l4 x32_5 a3_0 a3_1 = some r) ∧ Aside0 (kq ≤ k) ∧ Aside0 (wc.heap[gb183]? = some (.cells #[.string a3_0, .string a3_1] 44 (0, 0))) ∧ Aside0 (Below w.heap.size w wc))
 case first =>
  have H := HC6.out
  clear HC6
  replace H := Option.bind_eq_some_iff.mp H
  obtain ⟨t184, A80, H⟩ := H
  replace H : (if t184 = true then (if a1 < 1 then (merkle_Verify.j0 k a0 a1 a2 l4 true a3_0 a3_1) else (if a1 > 1024 then (merkle_Verify.j0 k a0 a1 a2 l4 true a3_0 a3_1) else (if a2 < 0 then (merkle_Verify.j0 k a0 a1 a2 l4 true a3_0 a3_1) else (merkle_Verify.j0 k a0 a1 a2 l4 (decide (a2 ≥ a1)) a3_0 a3_1)))) else (merkle_Verify.j0 k a0 a1 a2 l4 true a3_0 a3_1)) = some r := H
  have A8 := Aside0.mk A80
  clear A80
  by_cases c9 : t184 = true
  case neg =>
   replace c9 := Bool.eq_false_iff.mpr c9
   subst c9
   have H1 : (merkle_Verify.j0 k a0 a1 a2 l4 true a3_0 a3_1) = some r := by rw [if_neg (show ¬ (false = true) by decide)] at H; exact H
   clear H
   have H := H1
   clear H1
   have H' := Aside0.mk H
   clear H
   have hcz21_0 : w7.cell? ⟨gb183, 0, none⟩ = some (.string a3_0) := (blk_cell BK183.out 0).trans rfl
   have hcz21_1 : w7.cell? ⟨gb183, 1, none⟩ = some (.string a3_1) := (blk_cell BK183.out 1).trans rfl
   have hfz21_0 := blk_frozen BK183.out 0
   have hfz21_1 := blk_frozen BK183.out 1
   go_wp2_with (first | ((with_reducible refine gate_callee (f := 43) rfl ?_); refine goesL_ (some 14) rfl rfl Tryd.func43 (by kernel_rfl) rfl #[.agg #[.string a3_0, .string a3_1]] rfl m8_ ?_; (with_reducible refine (merkle_good.calls a3_0 a3_1 false _ A8.out).mono ?_); rintro e w22 ⟨rfl, hb⟩; refine ⟨_, rfl, ?_⟩; have n0_ := Aside0.mk (blk_below (g := gb183) (o := .cells #[.string a3_0, .string a3_1] 44 (0, 0)) m13_ hb); have n1_ := Aside0.mk (below_step m3_ hb); clear BK183; clear HB; have BK183 := n0_; have HB := n1_; clear n0_ n1_; (try clear hb); (try clear hb2); (try clear hk); (try clear hi)))
   go_meet
   case rel => exact ⟨_, (true), m16_, H', ⟨by first | omega | exact Nat.le_refl _⟩, ⟨by (with_reducible repeat (first | refine blk_drewN ?_ _ | refine blk_drew ?_ | refine blk_alloc ?_ _)); exact BK183.out⟩, ⟨m26_⟩⟩
  subst c9
  have H1 : (if a1 < 1 then (merkle_Verify.j0 k a0 a1 a2 l4 true a3_0 a3_1) else (if a1 > 1024 then (merkle_Verify.j0 k a0 a1 a2 l4 true a3_0 a3_1) else (if a2 < 0 then (merkle_Verify.j0 k a0 a1 a2 l4 true a3_0 a3_1) else (merkle_Verify.j0 k a0 a1 a2 l4 (decide (a2 ≥ a1)) a3_0 a3_1)))) = some r := by rw [if_pos rfl] at H; exact H
  clear H
  have H := H1
  clear H1
  by_cases c10 : a1 < 1
  ·rw [if_pos c10] at H
   have c10b0 : decide (a1 < 1) = true := decide_eq_true c10
   clear c10
   (first | rw [c10b0] | (simp only [i64_w, i32_w]; rw [c10b0]) | skip)
   have H' := Aside0.mk H
   clear H
   have hcz11_0 : w7.cell? ⟨gb183, 0, none⟩ = some (.string a3_0) := (blk_cell BK183.out 0).trans rfl
   have hcz11_1 : w7.cell? ⟨gb183, 1, none⟩ = some (.string a3_1) := (blk_cell BK183.out 1).trans rfl
   have hfz11_0 := blk_frozen BK183.out 0
   have hfz11_1 := blk_frozen BK183.out 1
   go_wp2_with (first | ((with_reducible refine gate_callee (f := 43) rfl ?_); refine goesL_ (some 14) rfl rfl Tryd.func43 (by kernel_rfl) rfl #[.agg #[.string a3_0, .string a3_1]] rfl m8_ ?_; (with_reducible refine (merkle_good.calls a3_0 a3_1 true _ A8.out).mono ?_); rintro e w12 ⟨rfl, hb⟩; refine ⟨_, rfl, ?_⟩; have n0_ := Aside0.mk (blk_below (g := gb183) (o := .cells #[.string a3_0, .string a3_1] 44 (0, 0)) m13_ hb); have n1_ := Aside0.mk (below_step m3_ hb); clear BK183; clear HB; have BK183 := n0_; have HB := n1_; clear n0_ n1_; (try clear hb); (try clear hb2); (try clear hk); (try clear hi)))
   go_meet
   case rel => exact ⟨_, (true), m16_, H', ⟨by first | omega | exact Nat.le_refl _⟩, ⟨by (with_reducible repeat (first | refine blk_drewN ?_ _ | refine blk_drew ?_ | refine blk_alloc ?_ _)); exact BK183.out⟩, ⟨m26_⟩⟩
  rw [if_neg c10] at H
  have c10b0 : decide (a1 < 1) = false := decide_eq_false c10
  clear c10
  (first | rw [c10b0] | (simp only [i64_w, i32_w]; rw [c10b0]) | skip)
  by_cases c13 : a1 > 1024
  ·rw [if_pos c13] at H
   have c13b0 : decide (1024 < a1) = true := decide_eq_true c13
   clear c13
   have H' := Aside0.mk H
   clear H
   have hcz14_0 : w7.cell? ⟨gb183, 0, none⟩ = some (.string a3_0) := (blk_cell BK183.out 0).trans rfl
   have hcz14_1 : w7.cell? ⟨gb183, 1, none⟩ = some (.string a3_1) := (blk_cell BK183.out 1).trans rfl
   have hfz14_0 := blk_frozen BK183.out 0
   have hfz14_1 := blk_frozen BK183.out 1
   go_wp2_with (first | ((with_reducible refine gate_callee (f := 43) rfl ?_); refine goesL_ (some 14) rfl rfl Tryd.func43 (by kernel_rfl) rfl #[.agg #[.string a3_0, .string a3_1]] rfl m8_ ?_; (with_reducible refine (merkle_good.calls a3_0 a3_1 true _ A8.out).mono ?_); rintro e w15 ⟨rfl, hb⟩; refine ⟨_, rfl, ?_⟩; have n0_ := Aside0.mk (blk_below (g := gb183) (o := .cells #[.string a3_0, .string a3_1] 44 (0, 0)) m13_ hb); have n1_ := Aside0.mk (below_step m3_ hb); clear BK183; clear HB; have BK183 := n0_; have HB := n1_; clear n0_ n1_; (try clear hb); (try clear hb2); (try clear hk); (try clear hi)))
   go_meet
   case rel => exact ⟨_, (true), m16_, H', ⟨by first | omega | exact Nat.le_refl _⟩, ⟨by (with_reducible repeat (first | refine blk_drewN ?_ _ | refine blk_drew ?_ | refine blk_alloc ?_ _)); exact BK183.out⟩, ⟨m26_⟩⟩
  rw [if_neg c13] at H
  have c13b0 : decide (1024 < a1) = false := decide_eq_false c13
  clear c13
  by_cases c16 : a2 < 0
  ·rw [if_pos c16] at H
   have c16b0 : decide (a2 < 0) = true := decide_eq_true c16
   clear c16
   have H' := Aside0.mk H
   clear H
   have hcz17_0 : w7.cell? ⟨gb183, 0, none⟩ = some (.string a3_0) := (blk_cell BK183.out 0).trans rfl
   have hcz17_1 : w7.cell? ⟨gb183, 1, none⟩ = some (.string a3_1) := (blk_cell BK183.out 1).trans rfl
   have hfz17_0 := blk_frozen BK183.out 0
   have hfz17_1 := blk_frozen BK183.out 1
   go_wp2_with (first | ((with_reducible refine gate_callee (f := 43) rfl ?_); refine goesL_ (some 14) rfl rfl Tryd.func43 (by kernel_rfl) rfl #[.agg #[.string a3_0, .string a3_1]] rfl m8_ ?_; (with_reducible refine (merkle_good.calls a3_0 a3_1 true _ A8.out).mono ?_); rintro e w18 ⟨rfl, hb⟩; refine ⟨_, rfl, ?_⟩; have n0_ := Aside0.mk (blk_below (g := gb183) (o := .cells #[.string a3_0, .string a3_1] 44 (0, 0)) m13_ hb); have n1_ := Aside0.mk (below_step m3_ hb); clear BK183; clear HB; have BK183 := n0_; have HB := n1_; clear n0_ n1_; (try clear hb); (try clear hb2); (try clear hk); (try clear hi)))
   go_meet
   case rel => exact ⟨_, (true), m16_, H', ⟨by first | omega | exact Nat.le_refl _⟩, ⟨by (with_reducible repeat (first | refine blk_drewN ?_ _ | refine blk_drew ?_ | refine blk_alloc ?_ _)); exact BK183.out⟩, ⟨m26_⟩⟩
  rw [if_neg c16] at H
  have c16b0 : decide (a2 < 0) = false := decide_eq_false c16
  clear c16
  have H' := Aside0.mk H
  clear H
  have hcz19_0 : w7.cell? ⟨gb183, 0, none⟩ = some (.string a3_0) := (blk_cell BK183.out 0).trans rfl
  have hcz19_1 : w7.cell? ⟨gb183, 1, none⟩ = some (.string a3_1) := (blk_cell BK183.out 1).trans rfl
  have hfz19_0 := blk_frozen BK183.out 0
  have hfz19_1 := blk_frozen BK183.out 1
  go_wp2_with (first | ((with_reducible refine gate_callee (f := 43) rfl ?_); refine goesL_ (some 14) rfl rfl Tryd.func43 (by kernel_rfl) rfl #[.agg #[.string a3_0, .string a3_1]] rfl m8_ ?_; (with_reducible refine (merkle_good.calls a3_0 a3_1 true _ A8.out).mono ?_); rintro e w20 ⟨rfl, hb⟩; refine ⟨_, rfl, ?_⟩; have n0_ := Aside0.mk (blk_below (g := gb183) (o := .cells #[.string a3_0, .string a3_1] 44 (0, 0)) m13_ hb); have n1_ := Aside0.mk (below_step m3_ hb); clear BK183; clear HB; have BK183 := n0_; have HB := n1_; clear n0_ n1_; (try clear hb); (try clear hb2); (try clear hk); (try clear hi)))
  go_meet
  case rel => exact ⟨_, (decide (a2 ≥ a1)), m16_, H', ⟨by first | omega | exact Nat.le_refl _⟩, ⟨by (with_reducible repeat (first | refine blk_drewN ?_ _ | refine blk_drew ?_ | refine blk_alloc ?_ _)); exact BK183.out⟩, ⟨m26_⟩⟩
 clear HC6
 try clear c1; try clear c2; try clear p2; try clear c4; try clear c9; try clear c10; try clear c10b0; try clear c13; try clear c13b0; try clear c16; try clear c16b0; try clear hcz11_0; try clear hcz11_1; try clear hcz14_0; try clear hcz14_1; try clear hcz17_0; try clear hcz17_1; try clear hcz19_0; try clear hcz19_1; try clear hcz21_0; try clear hcz21_1; try clear hfz11_0; try clear hfz11_1; try clear hfz14_0; try clear hfz14_1; try clear hfz17_0; try clear hfz17_1; try clear hfz19_0; try clear hfz19_1; try clear hfz21_0; try clear hfz21_1
 obtain ⟨kq, x32_5, rfl, HA, HJ5, BK183, HB⟩ := hcut
 cases kq with
 | zero => exact absurd HA.out (by simp [merkle_Verify.j0])
 | succ kj5 =>
  have H := HA.out
  clear HA
  simp only [merkle_Verify.j0] at H
  by_cases c23 : x32_5 = true
  ·subst c23
   have H1 : (some false) = some r := by rw [if_pos rfl] at H; exact H
   clear H
   have H := H1
   clear H1
   obtain rfl := Option.some.inj H
   go_wp2
   go_ret
   exact ⟨by first | rfl | (simp [errW_none, errW_some] <;> rfl) | (simp [*, errW_none, errW_some] <;> rfl), m26_⟩
  replace c23 := Bool.eq_false_iff.mpr c23
  subst c23
  have H1 : ((merkle_leaf.f kj5 a3_0 a3_1).bind fun t185 => ((merkle_climb.f kj5 t185 a1 a2 l4).bind fun bt186 => (if bt186.2 = true then (some (bt186.1.toList == a0.toList)) else (some false)))) = some r := by rw [if_neg (show ¬ (false = true) by decide)] at H; exact H
  clear H
  have H := H1
  clear H1
  replace H := Option.bind_eq_some_iff.mp H
  obtain ⟨t185, A240, H⟩ := H
  replace H : ((merkle_climb.f kj5 t185 a1 a2 l4).bind fun bt186 => (if bt186.2 = true then (some (bt186.1.toList == a0.toList)) else (some false))) = some r := H
  have A24 := Aside0.mk A240
  clear A240
  replace H := Option.bind_eq_some_iff.mp H
  obtain ⟨⟨t186, t187⟩, A250, H⟩ := H
  replace H : (if t187 = true then (some (t186.toList == a0.toList)) else (some false)) = some r := H
  have A25 := Aside0.mk A250
  clear A250
  by_cases c26 : t187 = true
  ·subst c26
   have H1 : (some (t186.toList == a0.toList)) = some r := by rw [if_pos rfl] at H; exact H
   clear H
   have H := H1
   clear H1
   obtain rfl := Option.some.inj H
   have hcz27_0 : wc.cell? ⟨gb183, 0, none⟩ = some (.string a3_0) := (blk_cell BK183.out 0).trans rfl
   have hcz27_1 : wc.cell? ⟨gb183, 1, none⟩ = some (.string a3_1) := (blk_cell BK183.out 1).trans rfl
   have hfz27_0 := blk_frozen BK183.out 0
   have hfz27_1 := blk_frozen BK183.out 1
   go_wp2_with (first | ((with_reducible refine gate_callee (f := 49) rfl ?_); refine goesL_ (some 35) rfl rfl Tryd.func49 (by kernel_rfl) rfl #[.agg #[.string a3_0, .string a3_1]] rfl m8_ ?_; (with_reducible refine (merkle_leaf.calls kj5 a3_0 a3_1 t185 _ A24.out).mono ?_); rintro e w28 ⟨rfl, hb⟩; refine ⟨_, rfl, ?_⟩; have n0_ := Aside0.mk (blk_below (g := gb183) (o := .cells #[.string a3_0, .string a3_1] 44 (0, 0)) m13_ hb); have n1_ := Aside0.mk (below_step m3_ hb); clear BK183; clear HB; have BK183 := n0_; have HB := n1_; clear n0_ n1_; (try clear hb); (try clear hb2); (try clear hk); (try clear hi)) | ((with_reducible refine gate_callee (f := 48) rfl ?_); refine goesL_ (some 39) rfl rfl Tryd.func48 (by kernel_rfl) rfl #[.string t185, .int .i64 a1, .int .i64 a2, .slice A4 l4.length c4] rfl m8_ ?_; (with_reducible refine (merkle_climb.calls kj5 t185 a1 a2 _ _ l4 t186 true _ ?side1 ?side2 A25.out).mono ?_); (case side1 => exact m23_); (case side2 => exact HC4.out); rintro e w29 ⟨rfl, hb⟩; refine ⟨_, rfl, ?_⟩; have n0_ := Aside0.mk (blk_below (g := gb183) (o := .cells #[.string a3_0, .string a3_1] 44 (0, 0)) m13_ hb); have n1_ := Aside0.mk (below_step m3_ hb); clear BK183; clear HB; have BK183 := n0_; have HB := n1_; clear n0_ n1_; (try clear hb); (try clear hb2); (try clear hk); (try clear hi)))
   go_ret
   exact ⟨by first | rfl | (simp [errW_none, errW_some] <;> rfl) | (simp [*, errW_none, errW_some] <;> rfl), m26_⟩
  replace c26 := Bool.eq_false_iff.mpr c26
  subst c26
  have H1 : (some false) = some r := by rw [if_neg (show ¬ (false = true) by decide)] at H; exact H
  clear H
  have H := H1
  clear H1
  obtain rfl := Option.some.inj H
  have hcz30_0 : wc.cell? ⟨gb183, 0, none⟩ = some (.string a3_0) := (blk_cell BK183.out 0).trans rfl
  have hcz30_1 : wc.cell? ⟨gb183, 1, none⟩ = some (.string a3_1) := (blk_cell BK183.out 1).trans rfl
  have hfz30_0 := blk_frozen BK183.out 0
  have hfz30_1 := blk_frozen BK183.out 1
  go_wp2_with (first | ((with_reducible refine gate_callee (f := 49) rfl ?_); refine goesL_ (some 35) rfl rfl Tryd.func49 (by kernel_rfl) rfl #[.agg #[.string a3_0, .string a3_1]] rfl m8_ ?_; (with_reducible refine (merkle_leaf.calls kj5 a3_0 a3_1 t185 _ A24.out).mono ?_); rintro e w31 ⟨rfl, hb⟩; refine ⟨_, rfl, ?_⟩; have n0_ := Aside0.mk (blk_below (g := gb183) (o := .cells #[.string a3_0, .string a3_1] 44 (0, 0)) m13_ hb); have n1_ := Aside0.mk (below_step m3_ hb); clear BK183; clear HB; have BK183 := n0_; have HB := n1_; clear n0_ n1_; (try clear hb); (try clear hb2); (try clear hk); (try clear hi)) | ((with_reducible refine gate_callee (f := 48) rfl ?_); refine goesL_ (some 39) rfl rfl Tryd.func48 (by kernel_rfl) rfl #[.string t185, .int .i64 a1, .int .i64 a2, .slice A4 l4.length c4] rfl m8_ ?_; (with_reducible refine (merkle_climb.calls kj5 t185 a1 a2 _ _ l4 t186 false _ ?side1 ?side2 A25.out).mono ?_); (case side1 => exact m23_); (case side2 => exact HC4.out); rintro e w32 ⟨rfl, hb⟩; refine ⟨_, rfl, ?_⟩; have n0_ := Aside0.mk (blk_below (g := gb183) (o := .cells #[.string a3_0, .string a3_1] 44 (0, 0)) m13_ hb); have n1_ := Aside0.mk (below_step m3_ hb); clear BK183; clear HB; have BK183 := n0_; have HB := n1_; clear n0_ n1_; (try clear hb); (try clear hb2); (try clear hk); (try clear hi)))
  go_ret
  exact ⟨by first | rfl | (simp [errW_none, errW_some] <;> rfl) | (simp [*, errW_none, errW_some] <;> rfl), m26_⟩

/-! ### merkle_beside: function 55 -/
def merkle_beside.f (k : Nat) (a0 : Bool) (a1 : Bool) (a2 : ByteArray) (a3 : Int) (a4 : Int) (a5_0 : ByteArray) (a5_1 : ByteArray) (l6 : List ByteArray) : Option (Bool) := if a0 = true then (if a1 = true then ((merkle_Verify.f k a2 a3 a4 a5_0 a5_1 l6).bind fun t189 => (some t189)) else (some false)) else (if (a5_0.toList == ([] : List UInt8) && (a5_1.toList == ([] : List UInt8))) = true then (some ((l6.length : Int) == 0)) else (some false))
theorem merkle_beside.mono : ∀ a0 a1 a2 a3 a4 a5 a6 a7 k, LeO (merkle_beside.f k a0 a1 a2 a3 a4 a5 a6 a7) (merkle_beside.f (k + 1) a0 a1 a2 a3 a4 a5 a6 a7) := by
 intro a0 a1 a2 a3 a4 a5 a6 a7 k
 unfold merkle_beside.f
 repeat' first
   | (with_reducible exact merkle_Verify.mono _ _ _ _ _ _ _)
   | (with_reducible exact LeO.refl _)
   | (with_reducible exact LeO.none _)
   | (with_reducible refine LeO.ite ?_ ?_)
   | (with_reducible refine LeO.bind ?_ (fun _ => ?_))
   | exact merkle_Verify.mono _ _ _ _ _ _ _
   | exact LeO.none _
   | refine LeO.ite ?_ ?_
   | refine LeO.bind ?_ (fun _ => ?_)
set_option maxHeartbeats 8000000 in
set_option maxRecDepth 100000 in
theorem merkle_beside.calls (k : Nat) (a0 : Bool) (a1 : Bool) (a2 : ByteArray) (a3 : Int) (a4 : Int) (a5_0 : ByteArray) (a5_1 : ByteArray) (A6 : Option Addr) (c6 : Nat) (l6 : List ByteArray) (r : Bool) (w : World) (hr6 : Kd.C Kd.string w A6 l6.length l6) (hc6 : l6.length ≤ c6) (h : merkle_beside.f k a0 a1 a2 a3 a4 a5_0 a5_1 l6 = some r) :
  Calls Tryd.prog 55 #[.bool a0, .bool a1, .string a2, .int .i64 a3, .int .i64 a4, .agg #[.string a5_0, .string a5_1], .slice A6 l6.length c6] w fun e w' => e = .returned (.bool r) ∧ Below w.heap.size w w' := by
 have hu44 := Tryd.underlying44
 have HR6 := Aside0.mk hr6
 have HC6 := Aside0.mk hc6
 clear hr6 hc6
 have HB := Aside0.mk (Below.refl w.heap.size w)
 have H : (if a0 = true then (if a1 = true then ((merkle_Verify.f k a2 a3 a4 a5_0 a5_1 l6).bind fun t189 => (some t189)) else (some false)) else (if (a5_0.toList == ([] : List UInt8) && (a5_1.toList == ([] : List UInt8))) = true then (some ((l6.length : Int) == 0)) else (some false))) = some r := h
 clear h
 by_cases c8 : a0 = true
 ·subst c8
  have H1 : (if a1 = true then ((merkle_Verify.f k a2 a3 a4 a5_0 a5_1 l6).bind fun t189 => (some t189)) else (some false)) = some r := by rw [if_pos rfl] at H; exact H
  clear H
  have H := H1
  clear H1
  by_cases c9 : a1 = true
  case neg =>
   replace c9 := Bool.eq_false_iff.mpr c9
   subst c9
   have H1 : (some false) = some r := by rw [if_neg (show ¬ (false = true) by decide)] at H; exact H
   clear H
   have H := H1
   clear H1
   obtain rfl := Option.some.inj H
   go_enter Tryd.func55, Tryd.ntmps55
   go_wp2_with (first | ((with_reducible refine gate_dst (N := 12) rfl ?_); (try (refine gate_guard (by rfl) ?_; dsimp only)); refine box_event ?hg (N := 12) ?hd (cs := #[.string a5_0, .string a5_1]) (t := 44) ?hr ?_; (case hd => rfl); (case hg => rfl); (case hr => first | (go_simp; done) | (go_simp; rfl)); intro gb188 hg w14 hbox hb; have n0_ := Aside0.mk (below_step m9_ hb); have n1_ := Aside0.mk (hbox); have n2_ := Aside0.mk ((by rw [hg]; exact (below_size m9_) : w.heap.size ≤ gb188)); have n3_ := Aside0.mk ((by rw [hg]; exact (below_size m9_) : w.heap.size ≤ gb188)); clear HB; have HB := n0_; have BK188 := n1_; have GW188 := n2_; have GE188 := n3_; clear n0_ n1_ n2_ n3_; clear hb hbox hg))
   go_ret
   exact ⟨by first | rfl | (simp [errW_none, errW_some] <;> rfl) | (simp [*, errW_none, errW_some] <;> rfl), m27_⟩
  subst c9
  have H1 : ((merkle_Verify.f k a2 a3 a4 a5_0 a5_1 l6).bind fun t189 => (some t189)) = some r := by rw [if_pos rfl] at H; exact H
  clear H
  have H := H1
  clear H1
  replace H := Option.bind_eq_some_iff.mp H
  obtain ⟨t189, A100, H⟩ := H
  replace H : (some t189) = some r := H
  have A10 := Aside0.mk A100
  clear A100
  obtain rfl := Option.some.inj H
  go_enter Tryd.func55, Tryd.ntmps55
  go_wp2_with (first | ((with_reducible refine gate_dst (N := 12) rfl ?_); (try (refine gate_guard (by rfl) ?_; dsimp only)); refine box_event ?hg (N := 12) ?hd (cs := #[.string a5_0, .string a5_1]) (t := 44) ?hr ?_; (case hd => rfl); (case hg => rfl); (case hr => first | (go_simp; done) | (go_simp; rfl)); intro gb188 hg w11 hbox hb; have n0_ := Aside0.mk (below_step m9_ hb); have n1_ := Aside0.mk (hbox); have n2_ := Aside0.mk ((by rw [hg]; exact (below_size m9_) : w.heap.size ≤ gb188)); have n3_ := Aside0.mk ((by rw [hg]; exact (below_size m9_) : w.heap.size ≤ gb188)); clear HB; have HB := n0_; have BK188 := n1_; have GW188 := n2_; have GE188 := n3_; clear n0_ n1_ n2_ n3_; clear hb hbox hg; have hcz12_0 : w11.cell? ⟨gb188, 0, none⟩ = some (.string a5_0) := (blk_cell BK188.out 0).trans rfl; have hcz12_1 : w11.cell? ⟨gb188, 1, none⟩ = some (.string a5_1) := (blk_cell BK188.out 1).trans rfl; have hfz12_0 := blk_frozen BK188.out 0; have hfz12_1 := blk_frozen BK188.out 1) | (go_at_call 23; (with_reducible refine (merkle_Verify.calls k a2 a3 a4 a5_0 a5_1 _ _ l6 t189 _ ?side1 ?side2 A10.out).mono ?_); (case side1 => repeat (first | exact (Kd.C_below HR6.out HB.out) | (with_reducible refine Kd.C_alloc ?_ _) | (with_reducible refine Kd.C_drewN ?_ _) | (with_reducible refine Kd.C_drew ?_))); (case side2 => exact HC6.out); rintro e w13 ⟨rfl, hb⟩; have n0_ := Aside0.mk (blk_below (g := gb188) (o := .cells #[.string a5_0, .string a5_1] 44 (0, 0)) (by (with_reducible repeat (first | refine blk_drewN ?_ _ | refine blk_drew ?_ | refine blk_alloc ?_ _)); exact BK188.out) hb); have n1_ := Aside0.mk (below_step (by repeat (first | (with_reducible first | exact HB.out | apply below_alloc | apply pw_below_drewN | apply below_drew1 | refine below_set ?_ GE188.out) | exact HB.out)) hb); clear BK188; clear HB; have BK188 := n0_; have HB := n1_; clear n0_ n1_; (try clear hb); (try clear hb2); (try clear hk); (try clear hi)))
  go_ret
  exact ⟨by first | rfl | (simp [errW_none, errW_some] <;> rfl) | (simp [*, errW_none, errW_some] <;> rfl), m27_⟩
 replace c8 := Bool.eq_false_iff.mpr c8
 subst c8
 have H1 : (if (a5_0.toList == ([] : List UInt8) && (a5_1.toList == ([] : List UInt8))) = true then (some ((l6.length : Int) == 0)) else (some false)) = some r := by rw [if_neg (show ¬ (false = true) by decide)] at H; exact H
 clear H
 have H := H1
 clear H1
 by_cases c15 : (a5_0.toList == ([] : List UInt8) && (a5_1.toList == ([] : List UInt8))) = true
 ·rw [if_pos c15] at H
  have c15b0 : (a5_0.toList == ([] : List UInt8) && (a5_1.toList == ([] : List UInt8))) = true := c15
  (try (have c15b1 : decide (a5_0.toList = ([] : List UInt8) && (a5_1.toList == ([] : List UInt8))) = true := by simpa using c15))
  (try (have c15b2 : (a5_0.toList == ([] : List UInt8) && (a5_1.toList == ([] : List UInt8))) = true := by simpa using c15))
  have c15b4 : (a5_0.toList.isEmpty && a5_1.toList.isEmpty) = true := (fun {x_ y_ : List UInt8} {v_ : Bool} (h_ : (x_ == ([] : List UInt8) && (y_ == ([] : List UInt8))) = v_) => (show (x_.isEmpty && y_.isEmpty) = v_ by cases x_ <;> cases y_ <;> first | exact h_ | simpa using h_)) c15b2
  clear c15
  obtain rfl := Option.some.inj H
  go_enter Tryd.func55, Tryd.ntmps55
  go_wp2_with (first | ((with_reducible refine gate_dst (N := 12) rfl ?_); (try (refine gate_guard (by rfl) ?_; dsimp only)); refine box_event ?hg (N := 12) ?hd (cs := #[.string a5_0, .string a5_1]) (t := 44) ?hr ?_; (case hd => rfl); (case hg => rfl); (case hr => first | (go_simp; done) | (go_simp; rfl)); intro gb188 hg w16 hbox hb; have n0_ := Aside0.mk (below_step m9_ hb); have n1_ := Aside0.mk (hbox); have n2_ := Aside0.mk ((by rw [hg]; exact (below_size m9_) : w.heap.size ≤ gb188)); have n3_ := Aside0.mk ((by rw [hg]; exact (below_size m9_) : w.heap.size ≤ gb188)); clear HB; have HB := n0_; have BK188 := n1_; have GW188 := n2_; have GE188 := n3_; clear n0_ n1_ n2_ n3_; clear hb hbox hg; have hcz17_0 : w16.cell? ⟨gb188, 0, none⟩ = some (.string a5_0) := (blk_cell BK188.out 0).trans rfl; have hcz17_1 : w16.cell? ⟨gb188, 1, none⟩ = some (.string a5_1) := (blk_cell BK188.out 1).trans rfl; have hfz17_0 := blk_frozen BK188.out 0; have hfz17_1 := blk_frozen BK188.out 1))
  go_ret
  exact ⟨by first | rfl | (simp [errW_none, errW_some] <;> rfl) | (simp [*, errW_none, errW_some] <;> rfl), m27_⟩
 rw [if_neg c15] at H
 have c15b0 : (a5_0.toList == ([] : List UInt8) && (a5_1.toList == ([] : List UInt8))) = false := by simpa using c15
 (try (have c15b1 : decide (a5_0.toList = ([] : List UInt8) && (a5_1.toList == ([] : List UInt8))) = false := by simpa using c15))
 (try (have c15b2 : (a5_0.toList == ([] : List UInt8) && (a5_1.toList == ([] : List UInt8))) = false := by simpa using c15))
 have c15b4 : (a5_0.toList.isEmpty && a5_1.toList.isEmpty) = false := (fun {x_ y_ : List UInt8} {v_ : Bool} (h_ : (x_ == ([] : List UInt8) && (y_ == ([] : List UInt8))) = v_) => (show (x_.isEmpty && y_.isEmpty) = v_ by cases x_ <;> cases y_ <;> first | exact h_ | simpa using h_)) c15b2
 (try (have c15b3 : ¬ (a5_0.toList = ([] : List UInt8) && (a5_1.toList == ([] : List UInt8))) := by simpa using c15))
 clear c15
 obtain rfl := Option.some.inj H
 go_enter Tryd.func55, Tryd.ntmps55
 go_wp2_with (first | ((with_reducible refine gate_dst (N := 12) rfl ?_); (try (refine gate_guard (by rfl) ?_; dsimp only)); refine box_event ?hg (N := 12) ?hd (cs := #[.string a5_0, .string a5_1]) (t := 44) ?hr ?_; (case hd => rfl); (case hg => rfl); (case hr => first | (go_simp; done) | (go_simp; rfl)); intro gb188 hg w18 hbox hb; have n0_ := Aside0.mk (below_step m9_ hb); have n1_ := Aside0.mk (hbox); have n2_ := Aside0.mk ((by rw [hg]; exact (below_size m9_) : w.heap.size ≤ gb188)); have n3_ := Aside0.mk ((by rw [hg]; exact (below_size m9_) : w.heap.size ≤ gb188)); clear HB; have HB := n0_; have BK188 := n1_; have GW188 := n2_; have GE188 := n3_; clear n0_ n1_ n2_ n3_; clear hb hbox hg; have hcz19_0 : w18.cell? ⟨gb188, 0, none⟩ = some (.string a5_0) := (blk_cell BK188.out 0).trans rfl; have hcz19_1 : w18.cell? ⟨gb188, 1, none⟩ = some (.string a5_1) := (blk_cell BK188.out 1).trans rfl; have hfz19_0 := blk_frozen BK188.out 0; have hfz19_1 := blk_frozen BK188.out 1))
 go_ret
 exact ⟨by first | rfl | (simp [errW_none, errW_some] <;> rfl) | (simp [*, errW_none, errW_some] <;> rfl), m27_⟩

/-! ### merkle_Missing: function 28 -/
mutual
def merkle_Missing.j0 : Nat → ByteArray → Int → ByteArray → Bool → Int → ByteArray → ByteArray → ByteArray → ByteArray → List ByteArray → List ByteArray → Option (Bool)
 | 0, _, _, _, _, _, _, _, _, _, _, _ => none
 | k + 1, x0, x1, x2, x30, x191000, x191001, x191002, x191003, x191004, x191005, x191006 => if x30 = true then (some false) else (if x1 = 0 then ((merkle_none.f).bind fun t192 => (merkle_Missing.j1 k x0 x1 x2 (x0.toList != t192.toList) x191000 x191001 x191002 x191003 x191004 x191005 x191006)) else (merkle_Missing.j1 k x0 x1 x2 false x191000 x191001 x191002 x191003 x191004 x191005 x191006))
def merkle_Missing.j1 : Nat → ByteArray → Int → ByteArray → Bool → Int → ByteArray → ByteArray → ByteArray → ByteArray → List ByteArray → List ByteArray → Option (Bool)
 | 0, _, _, _, _, _, _, _, _, _, _, _ => none
 | k + 1, x0, x1, x2, x37, x191000, x191001, x191002, x191003, x191004, x191005, x191006 => if x37 = true then (some false) else ((merkle_beside.f k (decide (x191000 > 0)) (Op.bytesLess x191001.toList x2.toList) x0 x1 (wrap64 (x191000 - 1)) x191001 x191002 x191005).bind fun t193 => (if t193 = true then ((merkle_beside.f k (decide (x191000 < x1)) (Op.bytesLess x2.toList x191003.toList) x0 x1 x191000 x191003 x191004 x191006).bind fun t194 => (some t194)) else (some false)))
end
def merkle_Missing.f (k : Nat) (a0 : ByteArray) (a1 : Int) (a2 : ByteArray) (a3_0 : Int) (a3_1 : ByteArray) (a3_2 : ByteArray) (a3_3 : ByteArray) (a3_4 : ByteArray) (l3_5 : List ByteArray) (l3_6 : List ByteArray) : Option (Bool) := (path_Good.f a2).bind fun t191 => (if t191 = true then (if a1 < 0 then (merkle_Missing.j0 k a0 a1 a2 true a3_0 a3_1 a3_2 a3_3 a3_4 l3_5 l3_6) else (if a1 > 1024 then (merkle_Missing.j0 k a0 a1 a2 true a3_0 a3_1 a3_2 a3_3 a3_4 l3_5 l3_6) else (if a3_0 < 0 then (merkle_Missing.j0 k a0 a1 a2 true a3_0 a3_1 a3_2 a3_3 a3_4 l3_5 l3_6) else (merkle_Missing.j0 k a0 a1 a2 (decide (a3_0 > a1)) a3_0 a3_1 a3_2 a3_3 a3_4 l3_5 l3_6)))) else (merkle_Missing.j0 k a0 a1 a2 true a3_0 a3_1 a3_2 a3_3 a3_4 l3_5 l3_6))
theorem merkle_Missing.mono_l : ∀ k, (∀ y0 y1 y2 y3 y4 y5 y6 y7 y8 y9 y10, LeO (merkle_Missing.j0 k y0 y1 y2 y3 y4 y5 y6 y7 y8 y9 y10) (merkle_Missing.j0 (k + 1) y0 y1 y2 y3 y4 y5 y6 y7 y8 y9 y10)) ∧ (∀ y0 y1 y2 y3 y4 y5 y6 y7 y8 y9 y10, LeO (merkle_Missing.j1 k y0 y1 y2 y3 y4 y5 y6 y7 y8 y9 y10) (merkle_Missing.j1 (k + 1) y0 y1 y2 y3 y4 y5 y6 y7 y8 y9 y10))
 | 0 => ⟨fun _ _ _ _ _ _ _ _ _ _ _ r h => by simp [merkle_Missing.j0] at h, fun _ _ _ _ _ _ _ _ _ _ _ r h => by simp [merkle_Missing.j1] at h⟩
 | k + 1 => by
  obtain ⟨ih0, ih1⟩ := merkle_Missing.mono_l k
  refine ⟨?_, ?_⟩
  ·intro y0 y1 y2 y3 y4 y5 y6 y7 y8 y9 y10
   unfold merkle_Missing.j0
   repeat' first
   | (with_reducible exact ih0 _ _ _ _ _ _ _ _ _ _ _)
   | (with_reducible exact ih1 _ _ _ _ _ _ _ _ _ _ _)
   | (with_reducible exact merkle_beside.mono _ _ _ _ _ _ _ _ _)
   | (with_reducible exact LeO.refl _)
   | (with_reducible exact LeO.none _)
   | (with_reducible refine LeO.ite ?_ ?_)
   | (with_reducible refine LeO.bind ?_ (fun _ => ?_))
   | exact ih0 _ _ _ _ _ _ _ _ _ _ _
   | exact ih1 _ _ _ _ _ _ _ _ _ _ _
   | exact merkle_beside.mono _ _ _ _ _ _ _ _ _
   | exact LeO.none _
   | refine LeO.ite ?_ ?_
   | refine LeO.bind ?_ (fun _ => ?_)
  ·intro y0 y1 y2 y3 y4 y5 y6 y7 y8 y9 y10
   unfold merkle_Missing.j1
   repeat' first
   | (with_reducible exact ih0 _ _ _ _ _ _ _ _ _ _ _)
   | (with_reducible exact ih1 _ _ _ _ _ _ _ _ _ _ _)
   | (with_reducible exact merkle_beside.mono _ _ _ _ _ _ _ _ _)
   | (with_reducible exact LeO.refl _)
   | (with_reducible exact LeO.none _)
   | (with_reducible refine LeO.ite ?_ ?_)
   | (with_reducible refine LeO.bind ?_ (fun _ => ?_))
   | exact ih0 _ _ _ _ _ _ _ _ _ _ _
   | exact ih1 _ _ _ _ _ _ _ _ _ _ _
   | exact merkle_beside.mono _ _ _ _ _ _ _ _ _
   | exact LeO.none _
   | refine LeO.ite ?_ ?_
   | refine LeO.bind ?_ (fun _ => ?_)
theorem merkle_Missing.mono : ∀ a0 a1 a2 a3 a4 a5 a6 a7 a8 a9 k, LeO (merkle_Missing.f k a0 a1 a2 a3 a4 a5 a6 a7 a8 a9) (merkle_Missing.f (k + 1) a0 a1 a2 a3 a4 a5 a6 a7 a8 a9) := by
 intro a0 a1 a2 a3 a4 a5 a6 a7 a8 a9 k
 obtain ⟨ih0, ih1⟩ := merkle_Missing.mono_l k
 unfold merkle_Missing.f
 repeat' first
   | (with_reducible exact ih0 _ _ _ _ _ _ _ _ _ _ _)
   | (with_reducible exact ih1 _ _ _ _ _ _ _ _ _ _ _)
   | (with_reducible exact merkle_beside.mono _ _ _ _ _ _ _ _ _)
   | (with_reducible exact LeO.refl _)
   | (with_reducible exact LeO.none _)
   | (with_reducible refine LeO.ite ?_ ?_)
   | (with_reducible refine LeO.bind ?_ (fun _ => ?_))
   | exact ih0 _ _ _ _ _ _ _ _ _ _ _
   | exact ih1 _ _ _ _ _ _ _ _ _ _ _
   | exact merkle_beside.mono _ _ _ _ _ _ _ _ _
   | exact LeO.none _
   | refine LeO.ite ?_ ?_
   | refine LeO.bind ?_ (fun _ => ?_)
set_option maxHeartbeats 8000000 in
set_option maxRecDepth 100000 in
theorem merkle_Missing.calls (k : Nat) (a0 : ByteArray) (a1 : Int) (a2 : ByteArray) (a3_0 : Int) (a3_1 : ByteArray) (a3_2 : ByteArray) (a3_3 : ByteArray) (a3_4 : ByteArray) (A3_5 : Option Addr) (c3_5 : Nat) (l3_5 : List ByteArray) (A3_6 : Option Addr) (c3_6 : Nat) (l3_6 : List ByteArray) (r : Bool) (w : World) (hr3_5 : Kd.C Kd.string w A3_5 l3_5.length l3_5) (hc3_5 : l3_5.length ≤ c3_5) (hr3_6 : Kd.C Kd.string w A3_6 l3_6.length l3_6) (hc3_6 : l3_6.length ≤ c3_6) (h : merkle_Missing.f k a0 a1 a2 a3_0 a3_1 a3_2 a3_3 a3_4 l3_5 l3_6 = some r) :
  Calls Tryd.prog 28 #[.string a0, .int .i64 a1, .string a2, .agg #[.int .i64 a3_0, .string a3_1, .string a3_2, .string a3_3, .string a3_4, .slice A3_5 l3_5.length c3_5, .slice A3_6 l3_6.length c3_6]] w fun e w' => e = .returned (.bool r) ∧ Below w.heap.size w w' := by
 have hu57 := Tryd.underlying57
 have hu44 := Tryd.underlying44
 have HR3_5 := Aside0.mk hr3_5
 have HC3_5 := Aside0.mk hc3_5
 clear hr3_5 hc3_5
 have HR3_6 := Aside0.mk hr3_6
 have HC3_6 := Aside0.mk hc3_6
 clear hr3_6 hc3_6
 have HB := Aside0.mk (Below.refl w.heap.size w)
 have H : ((path_Good.f a2).bind fun t191 => (if t191 = true then (if a1 < 0 then (merkle_Missing.j0 k a0 a1 a2 true a3_0 a3_1 a3_2 a3_3 a3_4 l3_5 l3_6) else (if a1 > 1024 then (merkle_Missing.j0 k a0 a1 a2 true a3_0 a3_1 a3_2 a3_3 a3_4 l3_5 l3_6) else (if a3_0 < 0 then (merkle_Missing.j0 k a0 a1 a2 true a3_0 a3_1 a3_2 a3_3 a3_4 l3_5 l3_6) else (merkle_Missing.j0 k a0 a1 a2 (decide (a3_0 > a1)) a3_0 a3_1 a3_2 a3_3 a3_4 l3_5 l3_6)))) else (merkle_Missing.j0 k a0 a1 a2 true a3_0 a3_1 a3_2 a3_3 a3_4 l3_5 l3_6))) = some r := h
 clear h
 have HC5 := Aside0.mk H
 clear H
 go_enter Tryd.func28, Tryd.ntmps28
 go_upto_region 1 with (first | ((with_reducible refine gate_dst (N := 7) rfl ?_); refine box_event ?hg (N := 7) ?hd (cs := #[.int .i64 a3_0, .string a3_1, .string a3_2, .string a3_3, .string a3_4, .slice A3_5 l3_5.length c3_5, .slice A3_6 l3_6.length c3_6]) (t := 57) ?hr ?_; (case hd => rfl); (case hg => rfl); (case hr => first | (go_simp; done) | (go_simp; rfl)); intro gb190 hg w6 hbox hb; have n0_ := Aside0.mk (below_step m9_ hb); have n1_ := Aside0.mk (hbox); have n2_ := Aside0.mk ((by rw [hg]; exact (below_size m9_) : w.heap.size ≤ gb190)); have n3_ := Aside0.mk ((by rw [hg]; exact (below_size m9_) : w.heap.size ≤ gb190)); clear HB; have HB := n0_; have BK190 := n1_; have GW190 := n2_; have GE190 := n3_; clear n0_ n1_ n2_ n3_; clear hb hbox hg))
 (try simp only [Act.put, List.setIfInBounds_toArray, List.set_cons_zero, List.set_cons_succ])
 go_cut [30] (fun v30 wc => ∃ (kq : Nat) (x30_4 : Bool), v30 = .bool x30_4 ∧ Aside0 (merkle_Missing.j0 kq a0 a1 a2 x30_4 a3_0 a3_1 a3_2 a3_3 a3_4 l3_5 l3_6 = some r) ∧ Aside0 (kq ≤ k) ∧ Aside0 (wc.heap[gb190]? = some (.cells #[.int .i64 a3_0, .string a3_1, .string a3_2, .string a3_3, .string a3_4, (.slice A3_5 l3_5.length c3_5), (.slice A3_6 l3_6.length c3_6)] 57 (0, 0))) ∧ Aside0 (Below w.heap.size w wc))
 case first =>
  have H := HC5.out
  clear HC5
  replace H := Option.bind_eq_some_iff.mp H
  obtain ⟨t191, A70, H⟩ := H
  replace H : (if t191 = true then (if a1 < 0 then (merkle_Missing.j0 k a0 a1 a2 true a3_0 a3_1 a3_2 a3_3 a3_4 l3_5 l3_6) else (if a1 > 1024 then (merkle_Missing.j0 k a0 a1 a2 true a3_0 a3_1 a3_2 a3_3 a3_4 l3_5 l3_6) else (if a3_0 < 0 then (merkle_Missing.j0 k a0 a1 a2 true a3_0 a3_1 a3_2 a3_3 a3_4 l3_5 l3_6) else (merkle_Missing.j0 k a0 a1 a2 (decide (a3_0 > a1)) a3_0 a3_1 a3_2 a3_3 a3_4 l3_5 l3_6)))) else (merkle_Missing.j0 k a0 a1 a2 true a3_0 a3_1 a3_2 a3_3 a3_4 l3_5 l3_6)) = some r := H
  have A7 := Aside0.mk A70
  clear A70
  by_cases c8 : t191 = true
  case neg =>
   replace c8 := Bool.eq_false_iff.mpr c8
   subst c8
   have H1 : (merkle_Missing.j0 k a0 a1 a2 true a3_0 a3_1 a3_2 a3_3 a3_4 l3_5 l3_6) = some r := by rw [if_neg (show ¬ (false = true) by decide)] at H; exact H
   clear H
   have H := H1
   clear H1
   have H' := Aside0.mk H
   clear H
   go_wp2_with (first | ((with_reducible refine gate_callee (f := 53) rfl ?_); refine goesL_ (some 10) rfl rfl Tryd.func53 (by kernel_rfl) rfl #[.string a2] rfl m8_ ?_; (with_reducible refine (path_Good.calls a2 false _ A7.out).mono ?_); rintro e w18 ⟨rfl, hb⟩; refine ⟨_, rfl, ?_⟩; have n0_ := Aside0.mk (blk_below (g := gb190) (o := .cells #[.int .i64 a3_0, .string a3_1, .string a3_2, .string a3_3, .string a3_4, .slice A3_5 l3_5.length c3_5, .slice A3_6 l3_6.length c3_6] 57 (0, 0)) m12_ hb); have n1_ := Aside0.mk (below_step m2_ hb); clear BK190; clear HB; have BK190 := n0_; have HB := n1_; clear n0_ n1_; (try clear hb); (try clear hb2); (try clear hk); (try clear hi)))
   go_meet
   case rel => exact ⟨_, (true), m16_, H', ⟨by first | omega | exact Nat.le_refl _⟩, ⟨by (with_reducible repeat (first | refine blk_drewN ?_ _ | refine blk_drew ?_ | refine blk_alloc ?_ _)); exact BK190.out⟩, ⟨m28_⟩⟩
  subst c8
  have H1 : (if a1 < 0 then (merkle_Missing.j0 k a0 a1 a2 true a3_0 a3_1 a3_2 a3_3 a3_4 l3_5 l3_6) else (if a1 > 1024 then (merkle_Missing.j0 k a0 a1 a2 true a3_0 a3_1 a3_2 a3_3 a3_4 l3_5 l3_6) else (if a3_0 < 0 then (merkle_Missing.j0 k a0 a1 a2 true a3_0 a3_1 a3_2 a3_3 a3_4 l3_5 l3_6) else (merkle_Missing.j0 k a0 a1 a2 (decide (a3_0 > a1)) a3_0 a3_1 a3_2 a3_3 a3_4 l3_5 l3_6)))) = some r := by rw [if_pos rfl] at H; exact H
  clear H
  have H := H1
  clear H1
  by_cases c9 : a1 < 0
  ·rw [if_pos c9] at H
   have c9b0 : decide (a1 < 0) = true := decide_eq_true c9
   clear c9
   (first | rw [c9b0] | (simp only [i64_w, i32_w]; rw [c9b0]) | skip)
   have H' := Aside0.mk H
   clear H
   go_wp2_with (first | ((with_reducible refine gate_callee (f := 53) rfl ?_); refine goesL_ (some 10) rfl rfl Tryd.func53 (by kernel_rfl) rfl #[.string a2] rfl m8_ ?_; (with_reducible refine (path_Good.calls a2 true _ A7.out).mono ?_); rintro e w10 ⟨rfl, hb⟩; refine ⟨_, rfl, ?_⟩; have n0_ := Aside0.mk (blk_below (g := gb190) (o := .cells #[.int .i64 a3_0, .string a3_1, .string a3_2, .string a3_3, .string a3_4, .slice A3_5 l3_5.length c3_5, .slice A3_6 l3_6.length c3_6] 57 (0, 0)) m12_ hb); have n1_ := Aside0.mk (below_step m2_ hb); clear BK190; clear HB; have BK190 := n0_; have HB := n1_; clear n0_ n1_; (try clear hb); (try clear hb2); (try clear hk); (try clear hi)))
   go_meet
   case rel => exact ⟨_, (true), m16_, H', ⟨by first | omega | exact Nat.le_refl _⟩, ⟨by (with_reducible repeat (first | refine blk_drewN ?_ _ | refine blk_drew ?_ | refine blk_alloc ?_ _)); exact BK190.out⟩, ⟨m28_⟩⟩
  rw [if_neg c9] at H
  have c9b0 : decide (a1 < 0) = false := decide_eq_false c9
  clear c9
  (first | rw [c9b0] | (simp only [i64_w, i32_w]; rw [c9b0]) | skip)
  by_cases c11 : a1 > 1024
  ·rw [if_pos c11] at H
   have c11b0 : decide (1024 < a1) = true := decide_eq_true c11
   clear c11
   have H' := Aside0.mk H
   clear H
   go_wp2_with (first | ((with_reducible refine gate_callee (f := 53) rfl ?_); refine goesL_ (some 10) rfl rfl Tryd.func53 (by kernel_rfl) rfl #[.string a2] rfl m8_ ?_; (with_reducible refine (path_Good.calls a2 true _ A7.out).mono ?_); rintro e w12 ⟨rfl, hb⟩; refine ⟨_, rfl, ?_⟩; have n0_ := Aside0.mk (blk_below (g := gb190) (o := .cells #[.int .i64 a3_0, .string a3_1, .string a3_2, .string a3_3, .string a3_4, .slice A3_5 l3_5.length c3_5, .slice A3_6 l3_6.length c3_6] 57 (0, 0)) m12_ hb); have n1_ := Aside0.mk (below_step m2_ hb); clear BK190; clear HB; have BK190 := n0_; have HB := n1_; clear n0_ n1_; (try clear hb); (try clear hb2); (try clear hk); (try clear hi)))
   go_meet
   case rel => exact ⟨_, (true), m16_, H', ⟨by first | omega | exact Nat.le_refl _⟩, ⟨by (with_reducible repeat (first | refine blk_drewN ?_ _ | refine blk_drew ?_ | refine blk_alloc ?_ _)); exact BK190.out⟩, ⟨m28_⟩⟩
  rw [if_neg c11] at H
  have c11b0 : decide (1024 < a1) = false := decide_eq_false c11
  clear c11
  by_cases c13 : a3_0 < 0
  ·rw [if_pos c13] at H
   have c13b0 : decide (a3_0 < 0) = true := decide_eq_true c13
   clear c13
   have H' := Aside0.mk H
   clear H
   go_wp2_with (first | ((with_reducible refine gate_callee (f := 53) rfl ?_); refine goesL_ (some 10) rfl rfl Tryd.func53 (by kernel_rfl) rfl #[.string a2] rfl m8_ ?_; (with_reducible refine (path_Good.calls a2 true _ A7.out).mono ?_); rintro e w14 ⟨rfl, hb⟩; refine ⟨_, rfl, ?_⟩; have n0_ := Aside0.mk (blk_below (g := gb190) (o := .cells #[.int .i64 a3_0, .string a3_1, .string a3_2, .string a3_3, .string a3_4, .slice A3_5 l3_5.length c3_5, .slice A3_6 l3_6.length c3_6] 57 (0, 0)) m12_ hb); have n1_ := Aside0.mk (below_step m2_ hb); clear BK190; clear HB; have BK190 := n0_; have HB := n1_; clear n0_ n1_; (try clear hb); (try clear hb2); (try clear hk); (try clear hi); have hcz15_0 : w14.cell? ⟨gb190, 0, none⟩ = some (.int .i64 a3_0) := (blk_cell BK190.out 0).trans rfl; have hcz15_1 : w14.cell? ⟨gb190, 1, none⟩ = some (.string a3_1) := (blk_cell BK190.out 1).trans rfl; have hcz15_2 : w14.cell? ⟨gb190, 2, none⟩ = some (.string a3_2) := (blk_cell BK190.out 2).trans rfl; have hcz15_3 : w14.cell? ⟨gb190, 3, none⟩ = some (.string a3_3) := (blk_cell BK190.out 3).trans rfl; have hcz15_4 : w14.cell? ⟨gb190, 4, none⟩ = some (.string a3_4) := (blk_cell BK190.out 4).trans rfl; have hcz15_5 : w14.cell? ⟨gb190, 5, none⟩ = some (.slice A3_5 l3_5.length c3_5) := (blk_cell BK190.out 5).trans rfl; have hcz15_6 : w14.cell? ⟨gb190, 6, none⟩ = some (.slice A3_6 l3_6.length c3_6) := (blk_cell BK190.out 6).trans rfl; have hfz15_0 := blk_frozen BK190.out 0; have hfz15_1 := blk_frozen BK190.out 1; have hfz15_2 := blk_frozen BK190.out 2; have hfz15_3 := blk_frozen BK190.out 3; have hfz15_4 := blk_frozen BK190.out 4; have hfz15_5 := blk_frozen BK190.out 5; have hfz15_6 := blk_frozen BK190.out 6))
   go_meet
   case rel => exact ⟨_, (true), m16_, H', ⟨by first | omega | exact Nat.le_refl _⟩, ⟨by (with_reducible repeat (first | refine blk_drewN ?_ _ | refine blk_drew ?_ | refine blk_alloc ?_ _)); exact BK190.out⟩, ⟨m28_⟩⟩
  rw [if_neg c13] at H
  have c13b0 : decide (a3_0 < 0) = false := decide_eq_false c13
  clear c13
  have H' := Aside0.mk H
  clear H
  go_wp2_with (first | ((with_reducible refine gate_callee (f := 53) rfl ?_); refine goesL_ (some 10) rfl rfl Tryd.func53 (by kernel_rfl) rfl #[.string a2] rfl m8_ ?_; (with_reducible refine (path_Good.calls a2 true _ A7.out).mono ?_); rintro e w16 ⟨rfl, hb⟩; refine ⟨_, rfl, ?_⟩; have n0_ := Aside0.mk (blk_below (g := gb190) (o := .cells #[.int .i64 a3_0, .string a3_1, .string a3_2, .string a3_3, .string a3_4, .slice A3_5 l3_5.length c3_5, .slice A3_6 l3_6.length c3_6] 57 (0, 0)) m12_ hb); have n1_ := Aside0.mk (below_step m2_ hb); clear BK190; clear HB; have BK190 := n0_; have HB := n1_; clear n0_ n1_; (try clear hb); (try clear hb2); (try clear hk); (try clear hi); have hcz17_0 : w16.cell? ⟨gb190, 0, none⟩ = some (.int .i64 a3_0) := (blk_cell BK190.out 0).trans rfl; have hcz17_1 : w16.cell? ⟨gb190, 1, none⟩ = some (.string a3_1) := (blk_cell BK190.out 1).trans rfl; have hcz17_2 : w16.cell? ⟨gb190, 2, none⟩ = some (.string a3_2) := (blk_cell BK190.out 2).trans rfl; have hcz17_3 : w16.cell? ⟨gb190, 3, none⟩ = some (.string a3_3) := (blk_cell BK190.out 3).trans rfl; have hcz17_4 : w16.cell? ⟨gb190, 4, none⟩ = some (.string a3_4) := (blk_cell BK190.out 4).trans rfl; have hcz17_5 : w16.cell? ⟨gb190, 5, none⟩ = some (.slice A3_5 l3_5.length c3_5) := (blk_cell BK190.out 5).trans rfl; have hcz17_6 : w16.cell? ⟨gb190, 6, none⟩ = some (.slice A3_6 l3_6.length c3_6) := (blk_cell BK190.out 6).trans rfl; have hfz17_0 := blk_frozen BK190.out 0; have hfz17_1 := blk_frozen BK190.out 1; have hfz17_2 := blk_frozen BK190.out 2; have hfz17_3 := blk_frozen BK190.out 3; have hfz17_4 := blk_frozen BK190.out 4; have hfz17_5 := blk_frozen BK190.out 5; have hfz17_6 := blk_frozen BK190.out 6))
  go_meet
  case rel => exact ⟨_, (decide (a3_0 > a1)), m16_, H', ⟨by first | omega | exact Nat.le_refl _⟩, ⟨by (with_reducible repeat (first | refine blk_drewN ?_ _ | refine blk_drew ?_ | refine blk_alloc ?_ _)); exact BK190.out⟩, ⟨m28_⟩⟩
 clear HC5
 try clear c1; try clear c2; try clear p2; try clear c3; try clear c5; try clear c8; try clear c9; try clear c9b0; try clear c11; try clear c11b0; try clear c13; try clear c13b0; try clear hcz15_0; try clear hcz15_1; try clear hcz15_2; try clear hcz15_3; try clear hcz15_4; try clear hcz15_5; try clear hcz15_6; try clear hcz17_0; try clear hcz17_1; try clear hcz17_2; try clear hcz17_3; try clear hcz17_4; try clear hcz17_5; try clear hcz17_6; try clear hfz15_0; try clear hfz15_1; try clear hfz15_2; try clear hfz15_3; try clear hfz15_4; try clear hfz15_5; try clear hfz15_6; try clear hfz17_0; try clear hfz17_1; try clear hfz17_2; try clear hfz17_3; try clear hfz17_4; try clear hfz17_5; try clear hfz17_6
 obtain ⟨kq, x30_4, rfl, HA, HJ4, BK190, HB⟩ := hcut
 cases kq with
 | zero => exact absurd HA.out (by simp [merkle_Missing.j0])
 | succ kj4 =>
  have H := HA.out
  clear HA
  simp only [merkle_Missing.j0] at H
  by_cases c19 : x30_4 = true
  ·subst c19
   have H1 : (some false) = some r := by rw [if_pos rfl] at H; exact H
   clear H
   have H := H1
   clear H1
   obtain rfl := Option.some.inj H
   go_wp2
   go_ret
   exact ⟨by first | rfl | (simp [errW_none, errW_some] <;> rfl) | (simp [*, errW_none, errW_some] <;> rfl), m28_⟩
  replace c19 := Bool.eq_false_iff.mpr c19
  subst c19
  have H1 : (if a1 = 0 then ((merkle_none.f).bind fun t192 => (merkle_Missing.j1 kj4 a0 a1 a2 (a0.toList != t192.toList) a3_0 a3_1 a3_2 a3_3 a3_4 l3_5 l3_6)) else (merkle_Missing.j1 kj4 a0 a1 a2 false a3_0 a3_1 a3_2 a3_3 a3_4 l3_5 l3_6)) = some r := by rw [if_neg (show ¬ (false = true) by decide)] at H; exact H
  clear H
  have H := H1
  clear H1
  have HC20 := Aside0.mk H
  clear H
  go_upto_region 3 with (fail)
  go_cut [37] (fun v37 wc => ∃ (kq : Nat) (x37_19 : Bool), v37 = .bool x37_19 ∧ Aside0 (merkle_Missing.j1 kq a0 a1 a2 x37_19 a3_0 a3_1 a3_2 a3_3 a3_4 l3_5 l3_6 = some r) ∧ Aside0 (kq ≤ kj4) ∧ Aside0 (wc.heap[gb190]? = some (.cells #[.int .i64 a3_0, .string a3_1, .string a3_2, .string a3_3, .string a3_4, (.slice A3_5 l3_5.length c3_5), (.slice A3_6 l3_6.length c3_6)] 57 (0, 0))) ∧ Aside0 (Below w.heap.size w wc))
  case first =>
   have H := HC20.out
   clear HC20
   by_cases c21 : a1 = 0
   case neg =>
    rw [if_neg c21] at H
    have c21b0 : (a1 == 0) = false := beq_eq_false_iff_ne.mpr c21
    have c21b1 : (a1 != 0) = true := bne_iff_ne.mpr c21
    (first | rw [c21b0] | (simp only [i64_w, i32_w]; rw [c21b0]) | skip)
    have H' := Aside0.mk H
    clear H
    go_wp2
    go_meet
    case rel => exact ⟨_, (false), m16_, H', ⟨by have := HJ4.out; first | omega | exact Nat.le_refl _⟩, ⟨by (with_reducible repeat (first | refine blk_drewN ?_ _ | refine blk_drew ?_ | refine blk_alloc ?_ _)); exact BK190.out⟩, ⟨m28_⟩⟩
   rw [if_pos c21] at H
   have c21b0 : (a1 == 0) = true := beq_iff_eq.mpr c21
   have c21b1 : (a1 != 0) = false := bne_eq_false_iff_eq.mpr c21
   clear c21
   (first | rw [c21b0] | (simp only [i64_w, i32_w]; rw [c21b0]) | skip)
   replace H := Option.bind_eq_some_iff.mp H
   obtain ⟨t192, A220, H⟩ := H
   replace H : (merkle_Missing.j1 kj4 a0 a1 a2 (a0.toList != t192.toList) a3_0 a3_1 a3_2 a3_3 a3_4 l3_5 l3_6) = some r := H
   have A22 := Aside0.mk A220
   clear A220
   have H' := Aside0.mk H
   clear H
   go_wp2_with (first | (go_at_call 54; (with_reducible refine (merkle_none.calls  t192 _ A22.out).mono ?_); rintro e w23 ⟨rfl, hb⟩; have n0_ := Aside0.mk (blk_below (g := gb190) (o := .cells #[.int .i64 a3_0, .string a3_1, .string a3_2, .string a3_3, .string a3_4, .slice A3_5 l3_5.length c3_5, .slice A3_6 l3_6.length c3_6] 57 (0, 0)) m12_ hb); have n1_ := Aside0.mk (below_step m2_ hb); clear BK190; clear HB; have BK190 := n0_; have HB := n1_; clear n0_ n1_; (try clear hb); (try clear hb2); (try clear hk); (try clear hi)))
   go_meet
   case rel => exact ⟨_, ((a0.toList != t192.toList)), m16_, H', ⟨by have := HJ4.out; first | omega | exact Nat.le_refl _⟩, ⟨by (with_reducible repeat (first | refine blk_drewN ?_ _ | refine blk_drew ?_ | refine blk_alloc ?_ _)); exact BK190.out⟩, ⟨m28_⟩⟩
  clear HC20
  try clear c1; try clear c2; try clear p2; try clear c3; try clear c5; try clear c8; try clear c9; try clear c9b0; try clear c11; try clear c11b0; try clear c13; try clear c13b0; try clear c19; try clear c21; try clear c21b0; try clear c21b1; try clear hcz15_0; try clear hcz15_1; try clear hcz15_2; try clear hcz15_3; try clear hcz15_4; try clear hcz15_5; try clear hcz15_6; try clear hcz17_0; try clear hcz17_1; try clear hcz17_2; try clear hcz17_3; try clear hcz17_4; try clear hcz17_5; try clear hcz17_6; try clear hfz15_0; try clear hfz15_1; try clear hfz15_2; try clear hfz15_3; try clear hfz15_4; try clear hfz15_5; try clear hfz15_6; try clear hfz17_0; try clear hfz17_1; try clear hfz17_2; try clear hfz17_3; try clear hfz17_4; try clear hfz17_5; try clear hfz17_6; try clear p2
  obtain ⟨kq, x37_19, rfl, HA, HJ19, BK190, HB⟩ := hcut
  cases kq with
  | zero => exact absurd HA.out (by simp [merkle_Missing.j1])
  | succ kj19 =>
   have H := HA.out
   clear HA
   simp only [merkle_Missing.j1] at H
   by_cases c24 : x37_19 = true
   ·subst c24
    have H1 : (some false) = some r := by rw [if_pos rfl] at H; exact H
    clear H
    have H := H1
    clear H1
    obtain rfl := Option.some.inj H
    go_wp2
    go_ret
    exact ⟨by first | rfl | (simp [errW_none, errW_some] <;> rfl) | (simp [*, errW_none, errW_some] <;> rfl), m28_⟩
   replace c24 := Bool.eq_false_iff.mpr c24
   subst c24
   have H1 : ((merkle_beside.f kj19 (decide (a3_0 > 0)) (Op.bytesLess a3_1.toList a2.toList) a0 a1 (wrap64 (a3_0 - 1)) a3_1 a3_2 l3_5).bind fun t193 => (if t193 = true then ((merkle_beside.f kj19 (decide (a3_0 < a1)) (Op.bytesLess a2.toList a3_3.toList) a0 a1 a3_0 a3_3 a3_4 l3_6).bind fun t194 => (some t194)) else (some false))) = some r := by rw [if_neg (show ¬ (false = true) by decide)] at H; exact H
   clear H
   have H := H1
   clear H1
   replace H := Option.bind_eq_some_iff.mp H
   obtain ⟨t193, A250, H⟩ := H
   replace H : (if t193 = true then ((merkle_beside.f kj19 (decide (a3_0 < a1)) (Op.bytesLess a2.toList a3_3.toList) a0 a1 a3_0 a3_3 a3_4 l3_6).bind fun t194 => (some t194)) else (some false)) = some r := H
   have A25 := Aside0.mk A250
   clear A250
   by_cases c26 : t193 = true
   case neg =>
    replace c26 := Bool.eq_false_iff.mpr c26
    subst c26
    have H1 : (some false) = some r := by rw [if_neg (show ¬ (false = true) by decide)] at H; exact H
    clear H
    have H := H1
    clear H1
    obtain rfl := Option.some.inj H
    have hcz32_0 : wc.cell? ⟨gb190, 0, none⟩ = some (.int .i64 a3_0) := (blk_cell BK190.out 0).trans rfl
    have hcz32_1 : wc.cell? ⟨gb190, 1, none⟩ = some (.string a3_1) := (blk_cell BK190.out 1).trans rfl
    have hcz32_2 : wc.cell? ⟨gb190, 2, none⟩ = some (.string a3_2) := (blk_cell BK190.out 2).trans rfl
    have hcz32_3 : wc.cell? ⟨gb190, 3, none⟩ = some (.string a3_3) := (blk_cell BK190.out 3).trans rfl
    have hcz32_4 : wc.cell? ⟨gb190, 4, none⟩ = some (.string a3_4) := (blk_cell BK190.out 4).trans rfl
    have hcz32_5 : wc.cell? ⟨gb190, 5, none⟩ = some (.slice A3_5 l3_5.length c3_5) := (blk_cell BK190.out 5).trans rfl
    have hcz32_6 : wc.cell? ⟨gb190, 6, none⟩ = some (.slice A3_6 l3_6.length c3_6) := (blk_cell BK190.out 6).trans rfl
    have hfz32_0 := blk_frozen BK190.out 0
    have hfz32_1 := blk_frozen BK190.out 1
    have hfz32_2 := blk_frozen BK190.out 2
    have hfz32_3 := blk_frozen BK190.out 3
    have hfz32_4 := blk_frozen BK190.out 4
    have hfz32_5 := blk_frozen BK190.out 5
    have hfz32_6 := blk_frozen BK190.out 6
    go_wp2_with (first | ((with_reducible refine gate_callee (f := 55) rfl ?_); refine goesL_ (some 55) rfl rfl Tryd.func55 (by kernel_rfl) rfl #[.bool (decide (a3_0 > 0)), .bool (Op.bytesLess a3_1.toList a2.toList), .string a0, .int .i64 a1, .int .i64 (wrap64 (a3_0 - 1)), .agg #[.string a3_1, .string a3_2], .slice A3_5 l3_5.length c3_5] rfl m8_ ?_; (with_reducible refine (merkle_beside.calls kj19 (decide (a3_0 > 0)) (Op.bytesLess a3_1.toList a2.toList) a0 a1 (wrap64 (a3_0 - 1)) a3_1 a3_2 _ _ l3_5 false _ ?side1 ?side2 A25.out).mono ?_); (case side1 => exact m20_); (case side2 => exact HC3_5.out); rintro e w33 ⟨rfl, hb⟩; refine ⟨_, rfl, ?_⟩; have n0_ := Aside0.mk (blk_below (g := gb190) (o := .cells #[.int .i64 a3_0, .string a3_1, .string a3_2, .string a3_3, .string a3_4, .slice A3_5 l3_5.length c3_5, .slice A3_6 l3_6.length c3_6] 57 (0, 0)) m12_ hb); have n1_ := Aside0.mk (below_step m2_ hb); clear BK190; clear HB; have BK190 := n0_; have HB := n1_; clear n0_ n1_; (try clear hb); (try clear hb2); (try clear hk); (try clear hi)))
    go_ret
    exact ⟨by first | rfl | (simp [errW_none, errW_some] <;> rfl) | (simp [*, errW_none, errW_some] <;> rfl), m28_⟩
   subst c26
   have H1 : ((merkle_beside.f kj19 (decide (a3_0 < a1)) (Op.bytesLess a2.toList a3_3.toList) a0 a1 a3_0 a3_3 a3_4 l3_6).bind fun t194 => (some t194)) = some r := by rw [if_pos rfl] at H; exact H
   clear H
   have H := H1
   clear H1
   replace H := Option.bind_eq_some_iff.mp H
   obtain ⟨t194, A270, H⟩ := H
   replace H : (some t194) = some r := H
   have A27 := Aside0.mk A270
   clear A270
   obtain rfl := Option.some.inj H
   have hcz28_0 : wc.cell? ⟨gb190, 0, none⟩ = some (.int .i64 a3_0) := (blk_cell BK190.out 0).trans rfl
   have hcz28_1 : wc.cell? ⟨gb190, 1, none⟩ = some (.string a3_1) := (blk_cell BK190.out 1).trans rfl
   have hcz28_2 : wc.cell? ⟨gb190, 2, none⟩ = some (.string a3_2) := (blk_cell BK190.out 2).trans rfl
   have hcz28_3 : wc.cell? ⟨gb190, 3, none⟩ = some (.string a3_3) := (blk_cell BK190.out 3).trans rfl
   have hcz28_4 : wc.cell? ⟨gb190, 4, none⟩ = some (.string a3_4) := (blk_cell BK190.out 4).trans rfl
   have hcz28_5 : wc.cell? ⟨gb190, 5, none⟩ = some (.slice A3_5 l3_5.length c3_5) := (blk_cell BK190.out 5).trans rfl
   have hcz28_6 : wc.cell? ⟨gb190, 6, none⟩ = some (.slice A3_6 l3_6.length c3_6) := (blk_cell BK190.out 6).trans rfl
   have hfz28_0 := blk_frozen BK190.out 0
   have hfz28_1 := blk_frozen BK190.out 1
   have hfz28_2 := blk_frozen BK190.out 2
   have hfz28_3 := blk_frozen BK190.out 3
   have hfz28_4 := blk_frozen BK190.out 4
   have hfz28_5 := blk_frozen BK190.out 5
   have hfz28_6 := blk_frozen BK190.out 6
   go_wp2_with (first | ((with_reducible refine gate_callee (f := 55) rfl ?_); refine goesL_ (some 55) rfl rfl Tryd.func55 (by kernel_rfl) rfl #[.bool (decide (a3_0 > 0)), .bool (Op.bytesLess a3_1.toList a2.toList), .string a0, .int .i64 a1, .int .i64 (wrap64 (a3_0 - 1)), .agg #[.string a3_1, .string a3_2], .slice A3_5 l3_5.length c3_5] rfl m8_ ?_; (with_reducible refine (merkle_beside.calls kj19 (decide (a3_0 > 0)) (Op.bytesLess a3_1.toList a2.toList) a0 a1 (wrap64 (a3_0 - 1)) a3_1 a3_2 _ _ l3_5 true _ ?side1 ?side2 A25.out).mono ?_); (case side1 => exact m20_); (case side2 => exact HC3_5.out); rintro e w29 ⟨rfl, hb⟩; refine ⟨_, rfl, ?_⟩; have n0_ := Aside0.mk (blk_below (g := gb190) (o := .cells #[.int .i64 a3_0, .string a3_1, .string a3_2, .string a3_3, .string a3_4, .slice A3_5 l3_5.length c3_5, .slice A3_6 l3_6.length c3_6] 57 (0, 0)) m12_ hb); have n1_ := Aside0.mk (below_step m2_ hb); clear BK190; clear HB; have BK190 := n0_; have HB := n1_; clear n0_ n1_; (try clear hb); (try clear hb2); (try clear hk); (try clear hi); have hcz30_0 : w29.cell? ⟨gb190, 0, none⟩ = some (.int .i64 a3_0) := (blk_cell BK190.out 0).trans rfl; have hcz30_1 : w29.cell? ⟨gb190, 1, none⟩ = some (.string a3_1) := (blk_cell BK190.out 1).trans rfl; have hcz30_2 : w29.cell? ⟨gb190, 2, none⟩ = some (.string a3_2) := (blk_cell BK190.out 2).trans rfl; have hcz30_3 : w29.cell? ⟨gb190, 3, none⟩ = some (.string a3_3) := (blk_cell BK190.out 3).trans rfl; have hcz30_4 : w29.cell? ⟨gb190, 4, none⟩ = some (.string a3_4) := (blk_cell BK190.out 4).trans rfl; have hcz30_5 : w29.cell? ⟨gb190, 5, none⟩ = some (.slice A3_5 l3_5.length c3_5) := (blk_cell BK190.out 5).trans rfl; have hcz30_6 : w29.cell? ⟨gb190, 6, none⟩ = some (.slice A3_6 l3_6.length c3_6) := (blk_cell BK190.out 6).trans rfl; have hfz30_0 := blk_frozen BK190.out 0; have hfz30_1 := blk_frozen BK190.out 1; have hfz30_2 := blk_frozen BK190.out 2; have hfz30_3 := blk_frozen BK190.out 3; have hfz30_4 := blk_frozen BK190.out 4; have hfz30_5 := blk_frozen BK190.out 5; have hfz30_6 := blk_frozen BK190.out 6) | (go_at_call 55; (with_reducible refine (merkle_beside.calls kj19 (decide (a3_0 < a1)) (Op.bytesLess a2.toList a3_3.toList) a0 a1 a3_0 a3_3 a3_4 _ _ l3_6 t194 _ ?side1 ?side2 A27.out).mono ?_); (case side1 => exact m21_); (case side2 => exact HC3_6.out); rintro e w31 ⟨rfl, hb⟩; have n0_ := Aside0.mk (blk_below (g := gb190) (o := .cells #[.int .i64 a3_0, .string a3_1, .string a3_2, .string a3_3, .string a3_4, .slice A3_5 l3_5.length c3_5, .slice A3_6 l3_6.length c3_6] 57 (0, 0)) m12_ hb); have n1_ := Aside0.mk (below_step m2_ hb); clear BK190; clear HB; have BK190 := n0_; have HB := n1_; clear n0_ n1_; (try clear hb); (try clear hb2); (try clear hk); (try clear hi)))
   go_ret
   exact ⟨by first | rfl | (simp [errW_none, errW_some] <;> rfl) | (simp [*, errW_none, errW_some] <;> rfl), m28_⟩

/-! ### strongroomref02_Sum: function 44 -/
def strongroomref02_Sum.f (a0 : ByteArray) : Option (ByteArray) := Go.Proofs.YtdeggemomajhcaaDoor.refSumF a0
theorem strongroomref02_Sum.calls (a0 : ByteArray) (r : ByteArray) (w : World) (h : strongroomref02_Sum.f a0 = some r) :
    Calls Tryd.prog 44 #[.string a0] w fun e w' => e = .returned (.string r) ∧ Below w.heap.size w w' := Go.Proofs.YtdeggemomajhcaaDoor.refSum_calls a0 r w h

end Go.Proofs.YtdeggemomajhcaaDoorH.HMerkleMissing
