-- PRINTED by print.py (a twelfth state) out of the translation. Not trusted: Lean checks it.
import Derived.Test.YtdeggemomajhcaaDoorHMerkleAppliesx0
import Derived.Test.YtdeggemomajhcaaDoorHMerkleAppliesx8
namespace Go.Proofs.YtdeggemomajhcaaDoorH.HMerkleApplies
open Go.RowKit Go.Proofs.YtdeggemomajhcaaDoorW.PrintWords Go.Proofs.YtdeggemomajhcaaDoorW.PrintLast Go.Proofs.YtdeggemomajhcaaDoorW.PrintMore
attribute [local go_sem] max2_int min2_int max_two min_two max_three min_three max_four min_four   -- for this text's walks alone
set_option linter.unusedVariables false
set_option linter.unusedSimpArgs false

/-! ### strongroomref20_Why: function 16 -/
def strongroomref20_Why.l0 : Nat → List (S39) → Int → Option (Int)
 | 0, _, _ => none
 | k + 1, x0, x3 => if x3 < (x0.length : Int) then (if 0 ≤ x3 then ((strongroomref20_Good.f k ((rd_T39 x0 x3).f0) ((rd_T39 x0 x3).f1)).bind fun t191 => (if t191 = true then (if x3 > 0 then (if 0 ≤ (wrap64 (x3 - 1)) then (if (wrap64 (x3 - 1)) < (x0.length : Int) then (if ((Op.bytesLess (((rd_T39 x0 (wrap64 (x3 - 1))).f0).toList) (((rd_T39 x0 x3).f0).toList)) = true) then (strongroomref20_Why.l0 k x0 (wrap64 (x3 + 1))) else (some 1)) else (none)) else (none)) else (strongroomref20_Why.l0 k x0 (wrap64 (x3 + 1)))) else (some 1))) else (none)) else (some 0)
def strongroomref20_Why.f (k : Nat) (l0 : List (S39)) : Option (Int) := if (l0.length : Int) > 1024 then (some 2) else (strongroomref20_Why.l0 k l0 0)
theorem strongroomref20_Why.mono_l : ∀ k, (∀ y0 y1, LeO (strongroomref20_Why.l0 k y0 y1) (strongroomref20_Why.l0 (k + 1) y0 y1))
 | 0 => fun _ _ r h => by simp [strongroomref20_Why.l0] at h
 | k + 1 => by
  have ih0 := strongroomref20_Why.mono_l k
  ·intro y0 y1
   unfold strongroomref20_Why.l0
   repeat' first
   | (with_reducible exact ih0 _ _)
   | (with_reducible exact strongroomref20_Good.mono _ _ _)
   | (with_reducible exact LeO.refl _)
   | (with_reducible exact LeO.none _)
   | (with_reducible refine LeO.ite ?_ ?_)
   | (with_reducible refine LeO.bind ?_ (fun _ => ?_))
   | exact ih0 _ _
   | exact strongroomref20_Good.mono _ _ _
   | exact LeO.none _
   | refine LeO.ite ?_ ?_
   | refine LeO.bind ?_ (fun _ => ?_)
theorem strongroomref20_Why.mono : ∀ a0 k, LeO (strongroomref20_Why.f k a0) (strongroomref20_Why.f (k + 1) a0) := by
 intro a0 k
 have ih0 := strongroomref20_Why.mono_l k
 unfold strongroomref20_Why.f
 repeat' first
   | (with_reducible exact ih0 _ _)
   | (with_reducible exact strongroomref20_Good.mono _ _ _)
   | (with_reducible exact LeO.refl _)
   | (with_reducible exact LeO.none _)
   | (with_reducible refine LeO.ite ?_ ?_)
   | (with_reducible refine LeO.bind ?_ (fun _ => ?_))
   | exact ih0 _ _
   | exact strongroomref20_Good.mono _ _ _
   | exact LeO.none _
   | refine LeO.ite ?_ ?_
   | refine LeO.bind ?_ (fun _ => ?_)
def strongroomref20_Why.T6 : Bool × List (List Nat × List Nat) := (true, [([], []), ([], []), ([0, 1], [0, 1]), ([2], [2]), ([3], [3]), ([4], [4]), ([5, 4], [5]), ([6], [6]), ([7, 6], [6, 7]), ([8, 6, 6], [6, 8]), ([9], [9]), ([9], [9]), ([11, 9], [9, 11]), ([10, 12, 9], [9, 10, 12]), ([13, 9], [9, 13]), ([14, 9], [9, 14]), ([9], [9]), ([9], [9]), ([16, 17, 9], [9, 16, 17]), ([18, 9], [9, 18]), ([19, 9], [9, 19]), ([15, 20, 9], [9, 15, 20]), ([21, 9], [9, 21]), ([9, 22, 6], [6, 9, 22]), ([6, 23], [6, 23])])
def strongroomref20_Why.B6 : List Nat := [0, 0, 3, 7, 15, 31, 63, 127, 255, 511, 1023, 1023, 3071, 8191, 16383, 32767, 1023, 1023, 197631, 459775, 984063, 2097151, 4194303, 8388607, 16777215]
theorem strongroomref20_Why.tab6 : rtab .any (opsOf Tryd.f16 6) = strongroomref20_Why.T6 := by kernel_rfl
theorem strongroomref20_Why.bits6 : waitsOk strongroomref20_Why.T6.2 strongroomref20_Why.B6 = true := by kernel_rfl
set_option maxHeartbeats 8000000 in
set_option maxRecDepth 100000 in
theorem strongroomref20_Why.calls (k : Nat) (A0 : Option Addr) (c0 : Nat) (l0 : List (S39)) (r : Int) (w : World) (hr0 : Kd.C k39 w A0 l0.length l0) (hc0 : l0.length ≤ c0) (h : strongroomref20_Why.f k l0 = some r) :
  Calls Tryd.prog 16 #[.slice A0 l0.length c0] w fun e w' => e = .returned (.int .i64 r) ∧ Below w.heap.size w w' := by
 have hu39 := Tryd.underlying39
 have HR0 := Aside0.mk hr0
 have HC0 := Aside0.mk hc0
 clear hr0 hc0
 have HB := Aside0.mk (Below.refl w.heap.size w)
 have H : (if (l0.length : Int) > 1024 then (some 2) else (strongroomref20_Why.l0 k l0 0)) = some r := h
 clear h
 by_cases c2 : (l0.length : Int) > 1024
 ·rw [if_pos c2] at H
  have c2b0 : decide (1024 < (l0.length : Int)) = true := decide_eq_true c2
  have c2b1 : decide (1024 < l0.length) = true := decide_eq_true (by omega)
  clear c2
  obtain rfl := Option.some.inj H
  go_enter Tryd.func16, Tryd.ntmps16
  go_wp2
  go_ret
  exact ⟨by first | rfl | (simp [errW_none, errW_some] <;> rfl) | (simp [*, errW_none, errW_some] <;> rfl), m27_⟩
 rw [if_neg c2] at H
 have c2b0 : decide (1024 < (l0.length : Int)) = false := decide_eq_false c2
 have c2b1 : decide (1024 < l0.length) = false := decide_eq_false (by omega)
 clear c2
 have H' := Aside0.mk H
 clear H
 go_enter Tryd.func16, Tryd.ntmps16
 go_wp2
 go_loopg [3] k (fun kq v3 w' => ∃ (x3_1 : Int), v3 = .int .i64 x3_1 ∧ Aside0 (strongroomref20_Why.l0 kq l0 x3_1 = some r) ∧ Aside0 (kq ≤ k) ∧ Aside0 (Below w.heap.size w w'))
 case atStart => exact ⟨(0), m19_, H', ⟨Nat.le_refl _⟩, ⟨m27_⟩⟩
 clear H'
 try clear c1; try clear c2; try clear c2b0; try clear c2b1; try clear p2
 obtain ⟨x3_1, rfl, HA, HK1, HB⟩ := hrel
 cases gk with
 | zero => exact absurd HA.out (by simp [strongroomref20_Why.l0])
 | succ k1 =>
  have H := HA.out
  clear HA
  simp only [strongroomref20_Why.l0] at H
  by_cases c3 : x3_1 < (l0.length : Int)
  case neg =>
   rw [if_neg c3] at H
   have c3b0 : decide (x3_1 < (l0.length : Int)) = false := decide_eq_false c3
   clear c3
   obtain rfl := Option.some.inj H
   go_wp2
   go_ret
   exact ⟨by first | rfl | (simp [errW_none, errW_some] <;> rfl) | (simp [*, errW_none, errW_some] <;> rfl), m27_⟩
  rw [if_pos c3] at H
  have c3b0 : decide (x3_1 < (l0.length : Int)) = true := decide_eq_true c3
  clear c3
  by_cases c4 : 0 ≤ x3_1
  case neg =>
   rw [if_neg c4] at H
   exact absurd H (by simp)
  rw [if_pos c4] at H
  have c4b0 : decide (0 ≤ x3_1) = true := decide_eq_true c4
  clear c4
  replace H := Option.bind_eq_some_iff.mp H
  obtain ⟨t191, A50, H⟩ := H
  replace H : (if t191 = true then (if x3_1 > 0 then (if 0 ≤ (wrap64 (x3_1 - 1)) then (if (wrap64 (x3_1 - 1)) < (l0.length : Int) then (if ((Op.bytesLess (((rd_T39 l0 (wrap64 (x3_1 - 1))).f0).toList) (((rd_T39 l0 x3_1).f0).toList)) = true) then (strongroomref20_Why.l0 k1 l0 (wrap64 (x3_1 + 1))) else (some 1)) else (none)) else (none)) else (strongroomref20_Why.l0 k1 l0 (wrap64 (x3_1 + 1)))) else (some 1)) = some r := H
  have A5 := Aside0.mk A50
  clear A50
  by_cases c6 : t191 = true
  case neg =>
   replace c6 := Bool.eq_false_iff.mpr c6
   subst c6
   have H1 : (some 1) = some r := by rw [if_neg (show ¬ (false = true) by decide)] at H; exact H
   clear H
   have H := H1
   clear H1
   obtain rfl := Option.some.inj H
   try go_wp2
   replace HB := Aside0.mk (below_drew1 HB.out)
   have p190 : 0 ≤ (x3_1 : Int) := of_decide_eq_true m18_
   have q190 : x3_1 < (l0.length : Int) := of_decide_eq_true m18_
   obtain ⟨ad190, e190, hx190_0, hx190_1⟩ := at_T39 HR0.out x3_1 p190 q190
   have hw190_1 := hx190_1
   have hw190_0 := hx190_0
   cases e190
   replace hx190_0 := (HB.out.cell (World.block_lt_of_cell? w _ hx190_0)).trans hx190_0
   replace hx190_1 := (HB.out.cell (World.block_lt_of_cell? w _ hx190_1)).trans hx190_1
   replace p190 := eq_true p190
   replace q190 := eq_true q190
   refine start_ (n := 25) (S := fun w' => w'.cell? (ad190.add ((x3_1).toNat * 2)) = some (.string ((rd_T39 l0 x3_1).f0)) ∧ w'.cell? ⟨(ad190.add ((x3_1).toNat * 2)).block, (ad190.add ((x3_1).toNat * 2)).off + 1, none⟩ = some (.string ((rd_T39 l0 x3_1).f1))) (ds := []) (Ra_ [0, 25]) (by kernel_rfl) rfl rfl ⟨((HB.out.cell (World.block_lt_of_cell? w _ hw190_0)).trans hw190_0), ((HB.out.cell (World.block_lt_of_cell? w _ hw190_1)).trans hw190_1)⟩ (fun hHeld => ?_); refine with_tabW strongroomref20_Why.tab6 strongroomref20_Why.bits6 (fun HT_ HW_ => ?_)
   generalize wr.drew = w18 at HB hx190_0 hx190_1 hHeld ⊢
   refine pI_ 0 (some 13) (Ra_ [1, 24]) (h := ?_)
   refine pI_ 1 (some 14) (Ra_ [2, 23]) (h := ?_)
   refine pI_ 2 (some 15) (Ra_ [3, 22]) (h := ?_)
   refine tI2_ 3 (some 16) (Ra_ [4, 21]) (h := ?_)
   refine one_ (i := 4) (N := some 17) (Ra_ [5, 20]) rfl rfl (one_of HT_.out (by kernel_rfl)) (by decide) (fun K hK => ?_)
   refine goes_ Tryd.func26 (by kernel_rfl) rfl #[.agg #[.string ((rd_T39 l0 x3_1).f0), .string ((rd_T39 l0 x3_1).f1)]] (by rfl) rfl rfl m6_ ?_
   with_reducible refine (strongroomref20_Good.calls k1 ((rd_T39 l0 x3_1).f0) ((rd_T39 l0 x3_1).f1) false _ A5.out).mono ?_
   rintro e w19 ⟨rfl, hb⟩
   refine ⟨_, rfl, ?_⟩
   replace HB := Aside0.mk (below_step m7_ hb)
   (try clear hb)
   (try clear hb2)
   (try clear hk)
   (try clear hi)
   refine hK.out _ _ ⟨((HB.out.cell (World.block_lt_of_cell? w _ hw190_0)).trans hw190_0), ((HB.out.cell (World.block_lt_of_cell? w _ hw190_1)).trans hw190_1)⟩ (fun hHeld => ?_)
   clear hK K
   refine norm_ (a' := ?_) ?_ ?_
   rotate_left
   ·show Act.put _ (some 17) _ = _
    simp only [Act.put, sA_, sB_, sC_, i64_w, i32_w]
    rfl
   refine pI_ 5 (some 18) (Ra_ [6, 19]) (h := ?_)
   refine pI_ 6 (some 19) (Ra_ [7, 18]) (h := ?_)
   refine uI_ 7 (some 20) (Ra_ [8, 17]) (h := ?_)
   refine uI_ 8 (some 21) (Ra_ [9, 16]) (h := ?_)
   refine uI_ 9 (some 22) (Ra_ [10, 15]) (h := ?_)
   refine uI_ 10 (some 23) (Ra_ [11, 14]) (h := ?_)
   refine uI_ 11 (some 24) (Ra_ [12, 13]) (h := ?_)
   refine uI_ 12 (some 25) (Ra_ [13, 12]) (h := ?_)
   refine uI_ 13 (some 26) (Ra_ [14, 11]) (h := ?_)
   refine uI_ 14 (some 27) (Ra_ [15, 10]) (h := ?_)
   refine uI_ 15 (some 28) (Ra_ [16, 9]) (h := ?_)
   refine uI_ 16 (some 29) (Ra_ [17, 8]) (h := ?_)
   refine uI_ 17 (some 30) (Ra_ [18, 7]) (h := ?_)
   refine uI_ 18 (some 31) (Ra_ [19, 6]) (h := ?_)
   refine uI_ 19 (some 32) (Ra_ [20, 5]) (h := ?_)
   refine uI_ 20 (some 33) (Ra_ [21, 4]) (h := ?_)
   refine uI_ 21 (some 34) (Ra_ [22, 3]) (h := ?_)
   refine uI_ 22 (some 35) (Ra_ [23, 2]) (h := ?_)
   refine uI_ 23 (some 36) (Ra_ [24, 1]) (h := ?_)
   refine pI_ 24 (some 37) (Ra_ [25]) (h := ?_)
   refine done_ (done_of HT_.out (by kernel_rfl)) ?_
   try go_wp2
   go_ret
   exact ⟨by first | rfl | (simp [errW_none, errW_some] <;> rfl) | (simp [*, errW_none, errW_some] <;> rfl), m27_⟩
  subst c6
  have H1 : (if x3_1 > 0 then (if 0 ≤ (wrap64 (x3_1 - 1)) then (if (wrap64 (x3_1 - 1)) < (l0.length : Int) then (if ((Op.bytesLess (((rd_T39 l0 (wrap64 (x3_1 - 1))).f0).toList) (((rd_T39 l0 x3_1).f0).toList)) = true) then (strongroomref20_Why.l0 k1 l0 (wrap64 (x3_1 + 1))) else (some 1)) else (none)) else (none)) else (strongroomref20_Why.l0 k1 l0 (wrap64 (x3_1 + 1)))) = some r := by rw [if_pos rfl] at H; exact H
  clear H
  have H := H1
  clear H1
  by_cases c7 : x3_1 > 0
  case neg =>
   rw [if_neg c7] at H
   have c7b0 : decide (0 < x3_1) = false := decide_eq_false c7
   clear c7
   have H' := Aside0.mk H
   clear H
   try go_wp2
   replace HB := Aside0.mk (below_drew1 HB.out)
   have p190 : 0 ≤ (x3_1 : Int) := of_decide_eq_true m18_
   have q190 : x3_1 < (l0.length : Int) := of_decide_eq_true m18_
   obtain ⟨ad190, e190, hx190_0, hx190_1⟩ := at_T39 HR0.out x3_1 p190 q190
   have hw190_1 := hx190_1
   have hw190_0 := hx190_0
   cases e190
   replace hx190_0 := (HB.out.cell (World.block_lt_of_cell? w _ hx190_0)).trans hx190_0
   replace hx190_1 := (HB.out.cell (World.block_lt_of_cell? w _ hx190_1)).trans hx190_1
   replace p190 := eq_true p190
   replace q190 := eq_true q190
   refine start_ (n := 25) (S := fun w' => w'.cell? (ad190.add ((x3_1).toNat * 2)) = some (.string ((rd_T39 l0 x3_1).f0)) ∧ w'.cell? ⟨(ad190.add ((x3_1).toNat * 2)).block, (ad190.add ((x3_1).toNat * 2)).off + 1, none⟩ = some (.string ((rd_T39 l0 x3_1).f1))) (ds := []) (Ra_ [0, 25]) (by kernel_rfl) rfl rfl ⟨((HB.out.cell (World.block_lt_of_cell? w _ hw190_0)).trans hw190_0), ((HB.out.cell (World.block_lt_of_cell? w _ hw190_1)).trans hw190_1)⟩ (fun hHeld => ?_); refine with_tabW strongroomref20_Why.tab6 strongroomref20_Why.bits6 (fun HT_ HW_ => ?_)
   generalize wr.drew = w16 at HB hx190_0 hx190_1 hHeld ⊢
   refine pI_ 0 (some 13) (Ra_ [1, 24]) (h := ?_)
   refine pI_ 1 (some 14) (Ra_ [2, 23]) (h := ?_)
   refine pI_ 2 (some 15) (Ra_ [3, 22]) (h := ?_)
   refine tI2_ 3 (some 16) (Ra_ [4, 21]) (h := ?_)
   refine one_ (i := 4) (N := some 17) (Ra_ [5, 20]) rfl rfl (one_of HT_.out (by kernel_rfl)) (by decide) (fun K hK => ?_)
   refine goes_ Tryd.func26 (by kernel_rfl) rfl #[.agg #[.string ((rd_T39 l0 x3_1).f0), .string ((rd_T39 l0 x3_1).f1)]] (by rfl) rfl rfl m6_ ?_
   with_reducible refine (strongroomref20_Good.calls k1 ((rd_T39 l0 x3_1).f0) ((rd_T39 l0 x3_1).f1) true _ A5.out).mono ?_
   rintro e w17 ⟨rfl, hb⟩
   refine ⟨_, rfl, ?_⟩
   replace HB := Aside0.mk (below_step m7_ hb)
   (try clear hb)
   (try clear hb2)
   (try clear hk)
   (try clear hi)
   refine hK.out _ _ ⟨((HB.out.cell (World.block_lt_of_cell? w _ hw190_0)).trans hw190_0), ((HB.out.cell (World.block_lt_of_cell? w _ hw190_1)).trans hw190_1)⟩ (fun hHeld => ?_)
   clear hK K
   refine norm_ (a' := ?_) ?_ ?_
   rotate_left
   ·show Act.put _ (some 17) _ = _
    simp only [Act.put, sA_, sB_, sC_, i64_w, i32_w]
    rfl
   refine pI_ 5 (some 18) (Ra_ [6, 19]) (h := ?_)
   refine pI_ 6 (some 19) (Ra_ [7, 18]) (h := ?_)
   refine pI_ 7 (some 20) (Ra_ [8, 17]) (h := ?_)
   refine pI_ 8 (some 21) (Ra_ [9, 16]) (h := ?_)
   refine pI_ 9 (some 22) (Ra_ [10, 15]) (h := ?_)
   refine uI_ 10 (some 23) (Ra_ [11, 14]) (h := ?_)
   refine uI_ 11 (some 24) (Ra_ [12, 13]) (h := ?_)
   refine uI_ 12 (some 25) (Ra_ [13, 12]) (h := ?_)
   refine uI_ 13 (some 26) (Ra_ [14, 11]) (h := ?_)
   refine uI_ 14 (some 27) (Ra_ [15, 10]) (h := ?_)
   refine uI_ 15 (some 28) (Ra_ [16, 9]) (h := ?_)
   refine uI_ 16 (some 29) (Ra_ [17, 8]) (h := ?_)
   refine uI_ 17 (some 30) (Ra_ [18, 7]) (h := ?_)
   refine uI_ 18 (some 31) (Ra_ [19, 6]) (h := ?_)
   refine uI_ 19 (some 32) (Ra_ [20, 5]) (h := ?_)
   refine uI_ 20 (some 33) (Ra_ [21, 4]) (h := ?_)
   refine uI_ 21 (some 34) (Ra_ [22, 3]) (h := ?_)
   refine uI_ 22 (some 35) (Ra_ [23, 2]) (h := ?_)
   refine pI_ 23 (some 36) (Ra_ [24, 1]) (h := ?_)
   refine pI_ 24 (some 37) (Ra_ [25]) (h := ?_)
   refine done_ (done_of HT_.out (by kernel_rfl)) ?_
   try go_wp2
   go_roundg k1
   case measure => have := HK1.out; omega
   case rel => exact ⟨(wrap64 (x3_1 + 1)), m19_, H', ⟨by have := HK1.out; omega⟩, ⟨m27_⟩⟩
  rw [if_pos c7] at H
  have c7b0 : decide (0 < x3_1) = true := decide_eq_true c7
  clear c7
  obtain ⟨ji8, hji8⟩ : ∃ j_ : Int, (wrap64 (x3_1 - 1)) = j_ := ⟨_, rfl⟩
  replace H : (if 0 ≤ (ji8) then (if (ji8) < (l0.length : Int) then (if ((Op.bytesLess (((rd_T39 l0 (ji8)).f0).toList) (((rd_T39 l0 x3_1).f0).toList)) = true) then (strongroomref20_Why.l0 k1 l0 (wrap64 (x3_1 + 1))) else (some 1)) else (none)) else (none)) = some r := by first | (rw [hji8] at H; exact H) | (simp only [hji8] at H ⊢; exact H)
  (try rw [hji8] at A5)
  have hji8w : (IntKind.i64.wrap (x3_1 - 1)) = ji8 := (i64_w _).trans hji8
  by_cases c9 : 0 ≤ (ji8)
  case neg =>
   rw [if_neg c9] at H
   exact absurd H (by simp)
  rw [if_pos c9] at H
  have c9b0 : decide (0 ≤ (ji8)) = true := decide_eq_true c9
  clear c9
  by_cases c10 : (ji8) < (l0.length : Int)
  case neg =>
   rw [if_neg c10] at H
   exact absurd H (by simp)
  rw [if_pos c10] at H
  have c10b0 : decide ((ji8) < (l0.length : Int)) = true := decide_eq_true c10
  clear c10
  by_cases c11 : ((Op.bytesLess (((rd_T39 l0 (ji8)).f0).toList) (((rd_T39 l0 x3_1).f0).toList)) = true)
  ·rw [if_pos c11] at H
   have c11b0 : (Op.bytesLess (((rd_T39 l0 (ji8)).f0).toList) (((rd_T39 l0 x3_1).f0).toList)) = true := c11
   clear c11
   have H' := Aside0.mk H
   clear H
   try go_wp2
   replace HB := Aside0.mk (below_drew1 HB.out)
   have p190 : 0 ≤ (x3_1 : Int) := of_decide_eq_true m18_
   have q190 : x3_1 < (l0.length : Int) := of_decide_eq_true m18_
   obtain ⟨ad190, e190, hx190_0, hx190_1⟩ := at_T39 HR0.out x3_1 p190 q190
   have hw190_1 := hx190_1
   have hw190_0 := hx190_0
   cases e190
   replace hx190_0 := (HB.out.cell (World.block_lt_of_cell? w _ hx190_0)).trans hx190_0
   replace hx190_1 := (HB.out.cell (World.block_lt_of_cell? w _ hx190_1)).trans hx190_1
   replace p190 := eq_true p190
   replace q190 := eq_true q190
   have p192 : 0 ≤ ((ji8) : Int) := of_decide_eq_true m18_
   have q192 : (ji8) < (l0.length : Int) := of_decide_eq_true m18_
   obtain ⟨ad192, e192, hx192_0, hx192_1⟩ := at_T39 HR0.out (ji8) p192 q192
   have hw192_1 := hx192_1
   have hw192_0 := hx192_0
   obtain rfl : ad190 = ad192 := (by injection e192)
   replace hx192_0 := (HB.out.cell (World.block_lt_of_cell? w _ hx192_0)).trans hx192_0
   replace hx192_1 := (HB.out.cell (World.block_lt_of_cell? w _ hx192_1)).trans hx192_1
   replace p192 := eq_true p192
   replace q192 := eq_true q192
   have p193 : 0 ≤ (x3_1 : Int) := of_decide_eq_true m18_
   have q193 : x3_1 < (l0.length : Int) := of_decide_eq_true m18_
   obtain ⟨ad193, e193, hx193_0, hx193_1⟩ := at_T39 HR0.out x3_1 p193 q193
   have hw193_1 := hx193_1
   have hw193_0 := hx193_0
   obtain rfl : ad190 = ad193 := (by injection e193)
   replace hx193_0 := (HB.out.cell (World.block_lt_of_cell? w _ hx193_0)).trans hx193_0
   replace hx193_1 := (HB.out.cell (World.block_lt_of_cell? w _ hx193_1)).trans hx193_1
   replace p193 := eq_true p193
   replace q193 := eq_true q193
   refine start_ (n := 25) (S := fun w' => w'.cell? (ad190.add ((x3_1).toNat * 2)) = some (.string ((rd_T39 l0 x3_1).f0)) ∧ w'.cell? ⟨(ad190.add ((x3_1).toNat * 2)).block, (ad190.add ((x3_1).toNat * 2)).off + 1, none⟩ = some (.string ((rd_T39 l0 x3_1).f1)) ∧ w'.cell? (ad190.add (((ji8)).toNat * 2)) = some (.string ((rd_T39 l0 (ji8)).f0)) ∧ w'.cell? ⟨(ad190.add (((ji8)).toNat * 2)).block, (ad190.add (((ji8)).toNat * 2)).off + 1, none⟩ = some (.string ((rd_T39 l0 (ji8)).f1)) ∧ w'.cell? (ad190.add ((x3_1).toNat * 2)) = some (.string ((rd_T39 l0 x3_1).f0)) ∧ w'.cell? ⟨(ad190.add ((x3_1).toNat * 2)).block, (ad190.add ((x3_1).toNat * 2)).off + 1, none⟩ = some (.string ((rd_T39 l0 x3_1).f1))) (ds := []) (Ra_ [0, 25]) (by kernel_rfl) rfl rfl ⟨((HB.out.cell (World.block_lt_of_cell? w _ hw190_0)).trans hw190_0), ((HB.out.cell (World.block_lt_of_cell? w _ hw190_1)).trans hw190_1), ((HB.out.cell (World.block_lt_of_cell? w _ hw192_0)).trans hw192_0), ((HB.out.cell (World.block_lt_of_cell? w _ hw192_1)).trans hw192_1), ((HB.out.cell (World.block_lt_of_cell? w _ hw193_0)).trans hw193_0), ((HB.out.cell (World.block_lt_of_cell? w _ hw193_1)).trans hw193_1)⟩ (fun hHeld => ?_); refine with_tabW strongroomref20_Why.tab6 strongroomref20_Why.bits6 (fun HT_ HW_ => ?_)
   generalize wr.drew = w12 at HB hx190_0 hx190_1 hx192_0 hx192_1 hx193_0 hx193_1 hHeld ⊢
   refine pI_ 0 (some 13) (Ra_ [1, 24]) (h := ?_)
   refine pI_ 1 (some 14) (Ra_ [2, 23]) (h := ?_)
   refine pI_ 2 (some 15) (Ra_ [3, 22]) (h := ?_)
   refine tI6_ 3 (some 16) (Ra_ [4, 21]) (h := ?_)
   refine one_ (i := 4) (N := some 17) (Ra_ [5, 20]) rfl rfl (one_of HT_.out (by kernel_rfl)) (by decide) (fun K hK => ?_)
   refine goes_ Tryd.func26 (by kernel_rfl) rfl #[.agg #[.string ((rd_T39 l0 x3_1).f0), .string ((rd_T39 l0 x3_1).f1)]] (by rfl) rfl rfl m6_ ?_
   with_reducible refine (strongroomref20_Good.calls k1 ((rd_T39 l0 x3_1).f0) ((rd_T39 l0 x3_1).f1) true _ A5.out).mono ?_
   rintro e w13 ⟨rfl, hb⟩
   refine ⟨_, rfl, ?_⟩
   replace HB := Aside0.mk (below_step m7_ hb)
   (try clear hb)
   (try clear hb2)
   (try clear hk)
   (try clear hi)
   refine hK.out _ _ ⟨((HB.out.cell (World.block_lt_of_cell? w _ hw190_0)).trans hw190_0), ((HB.out.cell (World.block_lt_of_cell? w _ hw190_1)).trans hw190_1), ((HB.out.cell (World.block_lt_of_cell? w _ hw192_0)).trans hw192_0), ((HB.out.cell (World.block_lt_of_cell? w _ hw192_1)).trans hw192_1), ((HB.out.cell (World.block_lt_of_cell? w _ hw193_0)).trans hw193_0), ((HB.out.cell (World.block_lt_of_cell? w _ hw193_1)).trans hw193_1)⟩ (fun hHeld => ?_)
   clear hK K
   refine norm_ (a' := ?_) ?_ ?_
   rotate_left
   ·show Act.put _ (some 17) _ = _
    simp only [Act.put, sA_, sB_, sC_, i64_w, i32_w]
    rfl
   refine pI_ 5 (some 18) (Ra_ [6, 19]) (h := ?_)
   refine pI_ 6 (some 19) (Ra_ [7, 18]) (h := ?_)
   refine pI_ 7 (some 20) (Ra_ [8, 17]) (h := ?_)
   refine pI_ 8 (some 21) (Ra_ [9, 16]) (h := ?_)
   refine pI_ 9 (some 22) (Ra_ [10, 15]) (h := ?_)
   refine pI_ 10 (some 23) (Ra_ [11, 14]) (h := ?_)
   refine pI_ 11 (some 24) (Ra_ [12, 13]) (h := ?_)
   refine pI_ 12 (some 25) (Ra_ [13, 12]) (h := ?_)
   refine pI_ 13 (some 26) (Ra_ [14, 11]) (h := ?_)
   refine pI_ 14 (some 27) (Ra_ [15, 10]) (h := ?_)
   refine pI_ 16 (some 29) (Ra_ [15, 1, 1, 8]) (h := ?_)
   refine pI_ 17 (some 30) (Ra_ [15, 1, 2, 7]) (h := ?_)
   refine pI_ 18 (some 31) (Ra_ [15, 1, 3, 6]) (h := ?_)
   refine pI_ 19 (some 32) (Ra_ [15, 1, 4, 5]) (h := ?_)
   refine tI6_ 15 (some 28) (Ra_ [20, 5]) (h := ?_)
   refine tI6_ 20 (some 33) (Ra_ [21, 4]) (h := ?_)
   refine pI_ 21 (some 34) (Ra_ [22, 3]) (h := ?_)
   refine pI_ 22 (some 35) (Ra_ [23, 2]) (h := ?_)
   refine pI_ 23 (some 36) (Ra_ [24, 1]) (h := ?_)
   refine pI_ 24 (some 37) (Ra_ [25]) (h := ?_)
   refine done_ (done_of HT_.out (by kernel_rfl)) ?_
   try go_wp2
   go_roundg k1
   case measure => have := HK1.out; omega
   case rel => exact ⟨(wrap64 (x3_1 + 1)), m19_, H', ⟨by have := HK1.out; omega⟩, ⟨m27_⟩⟩
  rw [if_neg c11] at H
  have c11b0 : (Op.bytesLess (((rd_T39 l0 (ji8)).f0).toList) (((rd_T39 l0 x3_1).f0).toList)) = false := by simpa using c11
  clear c11
  obtain rfl := Option.some.inj H
  try go_wp2
  replace HB := Aside0.mk (below_drew1 HB.out)
  have p190 : 0 ≤ (x3_1 : Int) := of_decide_eq_true m18_
  have q190 : x3_1 < (l0.length : Int) := of_decide_eq_true m18_
  obtain ⟨ad190, e190, hx190_0, hx190_1⟩ := at_T39 HR0.out x3_1 p190 q190
  have hw190_1 := hx190_1
  have hw190_0 := hx190_0
  cases e190
  replace hx190_0 := (HB.out.cell (World.block_lt_of_cell? w _ hx190_0)).trans hx190_0
  replace hx190_1 := (HB.out.cell (World.block_lt_of_cell? w _ hx190_1)).trans hx190_1
  replace p190 := eq_true p190
  replace q190 := eq_true q190
  have p192 : 0 ≤ ((ji8) : Int) := of_decide_eq_true m18_
  have q192 : (ji8) < (l0.length : Int) := of_decide_eq_true m18_
  obtain ⟨ad192, e192, hx192_0, hx192_1⟩ := at_T39 HR0.out (ji8) p192 q192
  have hw192_1 := hx192_1
  have hw192_0 := hx192_0
  obtain rfl : ad190 = ad192 := (by injection e192)
  replace hx192_0 := (HB.out.cell (World.block_lt_of_cell? w _ hx192_0)).trans hx192_0
  replace hx192_1 := (HB.out.cell (World.block_lt_of_cell? w _ hx192_1)).trans hx192_1
  replace p192 := eq_true p192
  replace q192 := eq_true q192
  have p193 : 0 ≤ (x3_1 : Int) := of_decide_eq_true m18_
  have q193 : x3_1 < (l0.length : Int) := of_decide_eq_true m18_
  obtain ⟨ad193, e193, hx193_0, hx193_1⟩ := at_T39 HR0.out x3_1 p193 q193
  have hw193_1 := hx193_1
  have hw193_0 := hx193_0
  obtain rfl : ad190 = ad193 := (by injection e193)
  replace hx193_0 := (HB.out.cell (World.block_lt_of_cell? w _ hx193_0)).trans hx193_0
  replace hx193_1 := (HB.out.cell (World.block_lt_of_cell? w _ hx193_1)).trans hx193_1
  replace p193 := eq_true p193
  replace q193 := eq_true q193
  refine start_ (n := 25) (S := fun w' => w'.cell? (ad190.add ((x3_1).toNat * 2)) = some (.string ((rd_T39 l0 x3_1).f0)) ∧ w'.cell? ⟨(ad190.add ((x3_1).toNat * 2)).block, (ad190.add ((x3_1).toNat * 2)).off + 1, none⟩ = some (.string ((rd_T39 l0 x3_1).f1)) ∧ w'.cell? (ad190.add (((ji8)).toNat * 2)) = some (.string ((rd_T39 l0 (ji8)).f0)) ∧ w'.cell? ⟨(ad190.add (((ji8)).toNat * 2)).block, (ad190.add (((ji8)).toNat * 2)).off + 1, none⟩ = some (.string ((rd_T39 l0 (ji8)).f1)) ∧ w'.cell? (ad190.add ((x3_1).toNat * 2)) = some (.string ((rd_T39 l0 x3_1).f0)) ∧ w'.cell? ⟨(ad190.add ((x3_1).toNat * 2)).block, (ad190.add ((x3_1).toNat * 2)).off + 1, none⟩ = some (.string ((rd_T39 l0 x3_1).f1))) (ds := []) (Ra_ [0, 25]) (by kernel_rfl) rfl rfl ⟨((HB.out.cell (World.block_lt_of_cell? w _ hw190_0)).trans hw190_0), ((HB.out.cell (World.block_lt_of_cell? w _ hw190_1)).trans hw190_1), ((HB.out.cell (World.block_lt_of_cell? w _ hw192_0)).trans hw192_0), ((HB.out.cell (World.block_lt_of_cell? w _ hw192_1)).trans hw192_1), ((HB.out.cell (World.block_lt_of_cell? w _ hw193_0)).trans hw193_0), ((HB.out.cell (World.block_lt_of_cell? w _ hw193_1)).trans hw193_1)⟩ (fun hHeld => ?_); refine with_tabW strongroomref20_Why.tab6 strongroomref20_Why.bits6 (fun HT_ HW_ => ?_)
  generalize wr.drew = w14 at HB hx190_0 hx190_1 hx192_0 hx192_1 hx193_0 hx193_1 hHeld ⊢
  refine pI_ 0 (some 13) (Ra_ [1, 24]) (h := ?_)
  refine pI_ 1 (some 14) (Ra_ [2, 23]) (h := ?_)
  refine pI_ 2 (some 15) (Ra_ [3, 22]) (h := ?_)
  refine tI6_ 3 (some 16) (Ra_ [4, 21]) (h := ?_)
  refine one_ (i := 4) (N := some 17) (Ra_ [5, 20]) rfl rfl (one_of HT_.out (by kernel_rfl)) (by decide) (fun K hK => ?_)
  refine goes_ Tryd.func26 (by kernel_rfl) rfl #[.agg #[.string ((rd_T39 l0 x3_1).f0), .string ((rd_T39 l0 x3_1).f1)]] (by rfl) rfl rfl m6_ ?_
  with_reducible refine (strongroomref20_Good.calls k1 ((rd_T39 l0 x3_1).f0) ((rd_T39 l0 x3_1).f1) true _ A5.out).mono ?_
  rintro e w15 ⟨rfl, hb⟩
  refine ⟨_, rfl, ?_⟩
  replace HB := Aside0.mk (below_step m7_ hb)
  (try clear hb)
  (try clear hb2)
  (try clear hk)
  (try clear hi)
  refine hK.out _ _ ⟨((HB.out.cell (World.block_lt_of_cell? w _ hw190_0)).trans hw190_0), ((HB.out.cell (World.block_lt_of_cell? w _ hw190_1)).trans hw190_1), ((HB.out.cell (World.block_lt_of_cell? w _ hw192_0)).trans hw192_0), ((HB.out.cell (World.block_lt_of_cell? w _ hw192_1)).trans hw192_1), ((HB.out.cell (World.block_lt_of_cell? w _ hw193_0)).trans hw193_0), ((HB.out.cell (World.block_lt_of_cell? w _ hw193_1)).trans hw193_1)⟩ (fun hHeld => ?_)
  clear hK K
  refine norm_ (a' := ?_) ?_ ?_
  rotate_left
  ·show Act.put _ (some 17) _ = _
   simp only [Act.put, sA_, sB_, sC_, i64_w, i32_w]
   rfl
  refine pI_ 5 (some 18) (Ra_ [6, 19]) (h := ?_)
  refine pI_ 6 (some 19) (Ra_ [7, 18]) (h := ?_)
  refine pI_ 7 (some 20) (Ra_ [8, 17]) (h := ?_)
  refine pI_ 8 (some 21) (Ra_ [9, 16]) (h := ?_)
  refine pI_ 9 (some 22) (Ra_ [10, 15]) (h := ?_)
  refine pI_ 10 (some 23) (Ra_ [11, 14]) (h := ?_)
  refine pI_ 11 (some 24) (Ra_ [12, 13]) (h := ?_)
  refine pI_ 12 (some 25) (Ra_ [13, 12]) (h := ?_)
  refine pI_ 13 (some 26) (Ra_ [14, 11]) (h := ?_)
  refine pI_ 14 (some 27) (Ra_ [15, 10]) (h := ?_)
  refine pI_ 16 (some 29) (Ra_ [15, 1, 1, 8]) (h := ?_)
  refine pI_ 17 (some 30) (Ra_ [15, 1, 2, 7]) (h := ?_)
  refine pI_ 18 (some 31) (Ra_ [15, 1, 3, 6]) (h := ?_)
  refine pI_ 19 (some 32) (Ra_ [15, 1, 4, 5]) (h := ?_)
  refine tI6_ 15 (some 28) (Ra_ [20, 5]) (h := ?_)
  refine tI6_ 20 (some 33) (Ra_ [21, 4]) (h := ?_)
  refine pI_ 21 (some 34) (Ra_ [22, 3]) (h := ?_)
  refine pI_ 22 (some 35) (Ra_ [23, 2]) (h := ?_)
  refine pI_ 23 (some 36) (Ra_ [24, 1]) (h := ?_)
  refine pI_ 24 (some 37) (Ra_ [25]) (h := ?_)
  refine done_ (done_of HT_.out (by kernel_rfl)) ?_
  try go_wp2
  go_ret
  exact ⟨by first | rfl | (simp [errW_none, errW_some] <;> rfl) | (simp only [← hji8]; first | rfl | (simp [errW_none, errW_some] <;> rfl)) | (simp [*, errW_none, errW_some] <;> rfl), m27_⟩

end Go.Proofs.YtdeggemomajhcaaDoorH.HMerkleApplies
