-- PRINTED by print.py (a twelfth state) out of the translation. Not trusted: Lean checks it.
import Derived.Test.YtdeggemomajhcaaDoorHMerkleAbsentx0
import Derived.Test.YtdeggemomajhcaaDoorHMerkleAbsentx2
import Derived.Test.YtdeggemomajhcaaDoorHMerkleAbsentx4
import Derived.Test.YtdeggemomajhcaaDoorHMerkleAbsentx6
import Derived.Test.YtdeggemomajhcaaDoorHMerkleAbsentx11
namespace Go.Proofs.YtdeggemomajhcaaDoorH.HMerkleAbsent
open Go.RowKit Go.Proofs.YtdeggemomajhcaaDoorW.PrintWords Go.Proofs.YtdeggemomajhcaaDoorW.PrintLast Go.Proofs.YtdeggemomajhcaaDoorW.PrintMore
attribute [local go_sem] max2_int min2_int max_two min_two max_three min_three max_four min_four   -- for this text's walks alone
set_option linter.unusedVariables false
set_option linter.unusedSimpArgs false

attribute [local go_sem high] eqA44
/-! ### strongroomlaw20_list: function 17 -/
def strongroomlaw20_list.f (k : Nat) (l0 : List (S39)) : Option (Bool) := (strongroomref20_Why.f k l0).bind fun t239 => (some (t239 == 0))
theorem strongroomlaw20_list.mono : ∀ a0 k, LeO (strongroomlaw20_list.f k a0) (strongroomlaw20_list.f (k + 1) a0) := by
 intro a0 k
 unfold strongroomlaw20_list.f
 repeat' first
   | (with_reducible exact strongroomref20_Why.mono _ _)
   | (with_reducible exact LeO.refl _)
   | (with_reducible exact LeO.none _)
   | (with_reducible refine LeO.ite ?_ ?_)
   | (with_reducible refine LeO.bind ?_ (fun _ => ?_))
   | exact strongroomref20_Why.mono _ _
   | exact LeO.none _
   | refine LeO.ite ?_ ?_
   | refine LeO.bind ?_ (fun _ => ?_)
set_option maxHeartbeats 8000000 in
set_option maxRecDepth 100000 in
theorem strongroomlaw20_list.calls (k : Nat) (A0 : Option Addr) (c0 : Nat) (l0 : List (S39)) (r : Bool) (w : World) (hr0 : Kd.C k39 w A0 l0.length l0) (hc0 : l0.length ≤ c0) (h : strongroomlaw20_list.f k l0 = some r) :
  Calls Tryd.prog 17 #[.slice A0 l0.length c0] w fun e w' => e = .returned (.bool r) ∧ Below w.heap.size w w' := by
 have HR0 := Aside0.mk hr0
 have HC0 := Aside0.mk hc0
 clear hr0 hc0
 have HB := Aside0.mk (Below.refl w.heap.size w)
 have H : ((strongroomref20_Why.f k l0).bind fun t239 => (some (t239 == 0))) = some r := h
 clear h
 replace H := Option.bind_eq_some_iff.mp H
 obtain ⟨t239, A20, H⟩ := H
 replace H : (some (t239 == 0)) = some r := H
 have A2 := Aside0.mk A20
 clear A20
 obtain rfl := Option.some.inj H
 go_enter Tryd.func17, Tryd.ntmps17
 go_wp2_with (first | ((with_reducible refine gate_callee (f := 16) rfl ?_); refine goesL_ (some 4) rfl rfl Tryd.func16 (by kernel_rfl) rfl #[.slice A0 l0.length c0] rfl m10_ ?_; (with_reducible refine (strongroomref20_Why.calls k _ _ l0 t239 _ ?side1 ?side2 A2.out).mono ?_); (case side1 => repeat (first | exact HR0.out | (with_reducible refine Kd.C_alloc ?_ _) | (with_reducible refine Kd.C_drewN ?_ _) | (with_reducible refine Kd.C_drew ?_))); (case side2 => exact HC0.out); rintro e w3 ⟨rfl, hb⟩; refine ⟨_, rfl, ?_⟩; replace HB := Aside0.mk (below_step m11_ hb); (try clear hb); (try clear hb2); (try clear hk); (try clear hi)))
 go_ret
 exact ⟨by first | rfl | (simp [errW_none, errW_some] <;> rfl) | (simp [*, errW_none, errW_some] <;> rfl), m41_⟩

/-! ### merkle_climb: function 48 -/
mutual
def merkle_climb.j0 : Nat → ByteArray → Int → Int → List ByteArray → Bool → Option (ByteArray × Bool)
 | 0, _, _, _, _, _ => none
 | k + 1, x0, x1, x2, x3, x35 => if x35 = true then (some ((⟨#[]⟩ : ByteArray), false)) else (if 0 ≤ (wrap64 ((x3.length : Int) - 1)) then (if (wrap64 ((x3.length : Int) - 1)) < (x3.length : Int) then (if (wrap64 ((x3.length : Int) - 1)) ≤ (x3.length : Int) then ((merkle_half.f k x1).bind fun t243 => (if x2 < t243 then ((merkle_climb.f k x0 t243 x2 (x3.take ((wrap64 ((x3.length : Int) - 1)) : Int).toNat)).bind fun bt244 => ((merkle_both.f bt244.1 (rdOf ByteArray.empty x3 (wrap64 ((x3.length : Int) - 1)))).bind fun t246 => (some (t246, bt244.2)))) else ((merkle_climb.f k x0 (wrap64 (x1 - t243)) (wrap64 (x2 - t243)) (x3.take ((wrap64 ((x3.length : Int) - 1)) : Int).toNat)).bind fun bt247 => ((merkle_both.f (rdOf ByteArray.empty x3 (wrap64 ((x3.length : Int) - 1))) bt247.1).bind fun t249 => (some (t249, bt247.2)))))) else (none)) else (none)) else (none))
def merkle_climb.f : Nat → ByteArray → Int → Int → List ByteArray → Option (ByteArray × Bool)
 | 0, _, _, _, _ => none
 | k + 1, a0, a1, a2, l3 => if a1 = 1 then (some (a0, ((l3.length : Int) == 0))) else (if (l3.length : Int) = 0 then (merkle_climb.j0 k a0 a1 a2 l3 true) else (if 0 ≤ (wrap64 ((l3.length : Int) - 1)) then (if (wrap64 ((l3.length : Int) - 1)) < (l3.length : Int) then (merkle_climb.j0 k a0 a1 a2 l3 (((rdOf ByteArray.empty l3 (wrap64 ((l3.length : Int) - 1))).size : Int) != 32)) else (none)) else (none)))
end
theorem merkle_climb.mono_l : ∀ k, (∀ y0 y1 y2 y3, LeO (merkle_climb.f k y0 y1 y2 y3) (merkle_climb.f (k + 1) y0 y1 y2 y3)) ∧ (∀ y0 y1 y2 y3 y4, LeO (merkle_climb.j0 k y0 y1 y2 y3 y4) (merkle_climb.j0 (k + 1) y0 y1 y2 y3 y4))
 | 0 => ⟨fun _ _ _ _ r h => by simp [merkle_climb.f] at h, fun _ _ _ _ _ r h => by simp [merkle_climb.j0] at h⟩
 | k + 1 => by
  obtain ⟨ih0, ih1⟩ := merkle_climb.mono_l k
  refine ⟨?_, ?_⟩
  ·intro y0 y1 y2 y3
   unfold merkle_climb.f
   repeat' first
   | (with_reducible exact ih0 _ _ _ _)
   | (with_reducible exact ih1 _ _ _ _ _)
   | (with_reducible exact merkle_half.mono _ _)
   | (with_reducible exact LeO.refl _)
   | (with_reducible exact LeO.none _)
   | (with_reducible refine LeO.ite ?_ ?_)
   | (with_reducible refine LeO.bind ?_ (fun _ => ?_))
   | exact ih0 _ _ _ _
   | exact ih1 _ _ _ _ _
   | exact merkle_half.mono _ _
   | exact LeO.none _
   | refine LeO.ite ?_ ?_
   | refine LeO.bind ?_ (fun _ => ?_)
  ·intro y0 y1 y2 y3 y4
   unfold merkle_climb.j0
   repeat' first
   | (with_reducible exact ih0 _ _ _ _)
   | (with_reducible exact ih1 _ _ _ _ _)
   | (with_reducible exact merkle_half.mono _ _)
   | (with_reducible exact LeO.refl _)
   | (with_reducible exact LeO.none _)
   | (with_reducible refine LeO.ite ?_ ?_)
   | (with_reducible refine LeO.bind ?_ (fun _ => ?_))
   | exact ih0 _ _ _ _
   | exact ih1 _ _ _ _ _
   | exact merkle_half.mono _ _
   | exact LeO.none _
   | refine LeO.ite ?_ ?_
   | refine LeO.bind ?_ (fun _ => ?_)
theorem merkle_climb.mono : ∀ a0 a1 a2 a3 k, LeO (merkle_climb.f k a0 a1 a2 a3) (merkle_climb.f (k + 1) a0 a1 a2 a3) := by
 intro a0 a1 a2 a3 k
 obtain ⟨ih0, ih1⟩ := merkle_climb.mono_l k
 exact ih0 a0 a1 a2 a3
set_option maxHeartbeats 8000000 in
set_option maxRecDepth 100000 in
theorem merkle_climb.calls (k : Nat) : ∀ (a0 : ByteArray) (a1 : Int) (a2 : Int) (A3 : Option Addr) (c3 : Nat) (l3 : List ByteArray) (r1 : ByteArray) (r2 : Bool) (w : World) (hr3 : Kd.C Kd.string w A3 l3.length l3) (hc3 : l3.length ≤ c3) (h : merkle_climb.f k a0 a1 a2 l3 = some (r1, r2)),
  Calls Tryd.prog 48 #[.string a0, .int .i64 a1, .int .i64 a2, .slice A3 l3.length c3] w fun e w' => e = .returned (.tuple #[.string r1, .bool r2]) ∧ Below w.heap.size w w' := by
 induction k using Nat.strongRecOn with
 | _ k ih =>
 intro a0 a1 a2 A3 c3 l3 r1 r2 w hr3 hc3 h
 cases k with
 | zero => exact absurd h (by simp [merkle_climb.f])
 | succ k =>
 simp only [merkle_climb.f] at h
 have HR3 := Aside0.mk hr3
 have HC3 := Aside0.mk hc3
 clear hr3 hc3
 have HB := Aside0.mk (Below.refl w.heap.size w)
 have H : (if a1 = 1 then (some (a0, ((l3.length : Int) == 0))) else (if (l3.length : Int) = 0 then (merkle_climb.j0 k a0 a1 a2 l3 true) else (if 0 ≤ (wrap64 ((l3.length : Int) - 1)) then (if (wrap64 ((l3.length : Int) - 1)) < (l3.length : Int) then (merkle_climb.j0 k a0 a1 a2 l3 (((rdOf ByteArray.empty l3 (wrap64 ((l3.length : Int) - 1))).size : Int) != 32)) else (none)) else (none)))) = some (r1, r2) := h
 clear h
 by_cases c5 : a1 = 1
 ·rw [if_pos c5] at H
  have c5b0 : (a1 == 1) = true := beq_iff_eq.mpr c5
  have c5b1 : (a1 != 1) = false := bne_eq_false_iff_eq.mpr c5
  clear c5
  simp only [Option.some.injEq, Prod.mk.injEq] at H
  obtain ⟨rfl, rfl⟩ := H
  go_enter Tryd.func48, Tryd.ntmps48
  go_wp2
  repeat (go_quiet (fail); try go_wp2)
  go_ret2
  exact ⟨by first | rfl | (simp [errW_none, errW_some] <;> rfl) | (simp [*, errW_none, errW_some] <;> rfl), m41_⟩
 rw [if_neg c5] at H
 have c5b0 : (a1 == 1) = false := beq_eq_false_iff_ne.mpr c5
 have c5b1 : (a1 != 1) = true := bne_iff_ne.mpr c5
 have HC6 := Aside0.mk H
 clear H
 go_enter Tryd.func48, Tryd.ntmps48
 go_upto_region 3 with (fail)
 repeat (go_quiet (fail); go_upto_region 3 with (fail))
 go_cut [35] (fun v35 wc => ∃ (kq : Nat) (x35_5 : Bool), v35 = .bool x35_5 ∧ Aside0 (merkle_climb.j0 kq a0 a1 a2 l3 x35_5 = some (r1, r2)) ∧ Aside0 (kq ≤ k) ∧ Aside0 (Below w.heap.size w wc))
 case first =>
  have H := HC6.out
  clear HC6
  by_cases c7 : (l3.length : Int) = 0
  ·rw [if_pos c7] at H
   have c7b0 : ((l3.length : Int) == 0) = true := beq_iff_eq.mpr c7
   have c7b1 : ((l3.length : Int) != 0) = false := bne_eq_false_iff_eq.mpr c7
   clear c7
   (first | rw [c7b0] | (simp only [i64_w, i32_w]; rw [c7b0]) | skip)
   have H' := Aside0.mk H
   clear H
   go_wp2
   repeat (go_quiet (fail); try go_wp2)
   go_meet
   case rel => exact ⟨_, (true), m23_, H', ⟨by first | omega | exact Nat.le_refl _⟩, ⟨m41_⟩⟩
  rw [if_neg c7] at H
  have c7b0 : ((l3.length : Int) == 0) = false := beq_eq_false_iff_ne.mpr c7
  have c7b1 : ((l3.length : Int) != 0) = true := bne_iff_ne.mpr c7
  have c7b2 : ¬ (l3 = []) := fun h_ => c7 (by rw [h_]; rfl)
  (first | rw [c7b0] | (simp only [i64_w, i32_w]; rw [c7b0]) | skip)
  obtain ⟨ji8, hji8⟩ : ∃ j_ : Int, (wrap64 ((l3.length : Int) - 1)) = j_ := ⟨_, rfl⟩
  replace H : (if 0 ≤ (ji8) then (if (ji8) < (l3.length : Int) then (merkle_climb.j0 k a0 a1 a2 l3 (((rdOf ByteArray.empty l3 (ji8)).size : Int) != 32)) else (none)) else (none)) = some (r1, r2) := by first | (rw [hji8] at H; exact H) | (simp only [hji8] at H ⊢; exact H)
  have hji8w : (IntKind.i64.wrap ((l3.length : Int) - 1)) = ji8 := (i64_w _).trans hji8
  by_cases c9 : 0 ≤ (ji8)
  case neg =>
   rw [if_neg c9] at H
   exact absurd H (by simp)
  rw [if_pos c9] at H
  have c9b0 : decide (0 ≤ (ji8)) = true := decide_eq_true c9
  clear c9
  by_cases c10 : (ji8) < (l3.length : Int)
  case neg =>
   rw [if_neg c10] at H
   exact absurd H (by simp)
  rw [if_pos c10] at H
  have c10b0 : decide ((ji8) < (l3.length : Int)) = true := decide_eq_true c10
  clear c10
  have H' := Aside0.mk H
  clear H
  have p240 : 0 ≤ ((ji8) : Int) := of_decide_eq_true m22_
  have q240 : (ji8) < (l3.length : Int) := of_decide_eq_true m22_
  obtain ⟨ad240, e240, hx240_0⟩ := Kd.at_string HR3.out (ji8) p240 q240
  cases e240
  replace hx240_0 := (HB.out.cell (World.block_lt_of_cell? w _ hx240_0)).trans hx240_0
  replace p240 := eq_true p240
  replace q240 := eq_true q240
  go_wp2
  repeat (go_quiet (fail); try go_wp2)
  go_meet
  case rel => exact ⟨_, ((((rdOf ByteArray.empty l3 (ji8)).size : Int) != 32)), (by first | rfl | (simp; done) | (simp only [← hji8] <;> (first | rfl | simp)) | (simp [*]; done)), H', ⟨by first | omega | exact Nat.le_refl _⟩, ⟨m41_⟩⟩
 clear HC6
 try clear c1; try clear p2; try clear q2; try clear hx2; try clear c3; try clear c4; try clear c5; try clear c5b0; try clear c5b1; try clear p6; try clear c7; try clear c7b0; try clear c7b1; try clear c7b2; try clear c9; try clear c9b0; try clear c10; try clear c10b0; try clear hx240_0; try clear p240; try clear q240
 obtain ⟨kq, x35_5, rfl, HA, HJ5, HB⟩ := hcut
 cases kq with
 | zero => exact absurd HA.out (by simp [merkle_climb.j0])
 | succ kj5 =>
  have H := HA.out
  clear HA
  simp only [merkle_climb.j0] at H
  by_cases c11 : x35_5 = true
  ·subst c11
   have H1 : (some ((⟨#[]⟩ : ByteArray), false)) = some (r1, r2) := by rw [if_pos rfl] at H; exact H
   clear H
   have H := H1
   clear H1
   simp only [Option.some.injEq, Prod.mk.injEq] at H
   obtain ⟨rfl, rfl⟩ := H
   go_wp2
   repeat (go_quiet (fail); try go_wp2)
   go_ret2
   exact ⟨by first | rfl | (simp [errW_none, errW_some] <;> rfl) | (simp [*, errW_none, errW_some] <;> rfl), m41_⟩
  replace c11 := Bool.eq_false_iff.mpr c11
  subst c11
  have H1 : (if 0 ≤ (wrap64 ((l3.length : Int) - 1)) then (if (wrap64 ((l3.length : Int) - 1)) < (l3.length : Int) then (if (wrap64 ((l3.length : Int) - 1)) ≤ (l3.length : Int) then ((merkle_half.f kj5 a1).bind fun t243 => (if a2 < t243 then ((merkle_climb.f kj5 a0 t243 a2 (l3.take ((wrap64 ((l3.length : Int) - 1)) : Int).toNat)).bind fun bt244 => ((merkle_both.f bt244.1 (rdOf ByteArray.empty l3 (wrap64 ((l3.length : Int) - 1)))).bind fun t246 => (some (t246, bt244.2)))) else ((merkle_climb.f kj5 a0 (wrap64 (a1 - t243)) (wrap64 (a2 - t243)) (l3.take ((wrap64 ((l3.length : Int) - 1)) : Int).toNat)).bind fun bt247 => ((merkle_both.f (rdOf ByteArray.empty l3 (wrap64 ((l3.length : Int) - 1))) bt247.1).bind fun t249 => (some (t249, bt247.2)))))) else (none)) else (none)) else (none)) = some (r1, r2) := by rw [if_neg (show ¬ (false = true) by decide)] at H; exact H
  clear H
  have H := H1
  clear H1
  obtain ⟨ji12, hji12⟩ : ∃ j_ : Int, (wrap64 ((l3.length : Int) - 1)) = j_ := ⟨_, rfl⟩
  replace H : (if 0 ≤ (ji12) then (if (ji12) < (l3.length : Int) then (if (ji12) ≤ (l3.length : Int) then ((merkle_half.f kj5 a1).bind fun t243 => (if a2 < t243 then ((merkle_climb.f kj5 a0 t243 a2 (l3.take ((ji12) : Int).toNat)).bind fun bt244 => ((merkle_both.f bt244.1 (rdOf ByteArray.empty l3 (ji12))).bind fun t246 => (some (t246, bt244.2)))) else ((merkle_climb.f kj5 a0 (wrap64 (a1 - t243)) (wrap64 (a2 - t243)) (l3.take ((ji12) : Int).toNat)).bind fun bt247 => ((merkle_both.f (rdOf ByteArray.empty l3 (ji12)) bt247.1).bind fun t249 => (some (t249, bt247.2)))))) else (none)) else (none)) else (none)) = some (r1, r2) := by first | (rw [hji12] at H; exact H) | (simp only [hji12] at H ⊢; exact H)
  have hji12w : (IntKind.i64.wrap ((l3.length : Int) - 1)) = ji12 := (i64_w _).trans hji12
  by_cases c13 : 0 ≤ (ji12)
  case neg =>
   rw [if_neg c13] at H
   exact absurd H (by simp)
  rw [if_pos c13] at H
  have c13b0 : decide (0 ≤ (ji12)) = true := decide_eq_true c13
  clear c13
  by_cases c14 : (ji12) < (l3.length : Int)
  case neg =>
   rw [if_neg c14] at H
   exact absurd H (by simp)
  rw [if_pos c14] at H
  have c14b0 : decide ((ji12) < (l3.length : Int)) = true := decide_eq_true c14
  clear c14
  have c15b0 := eq_true (of_decide_eq_true m22_ : 0 ≤ (ji12))
  by_cases c16 : (ji12) ≤ (l3.length : Int)
  case neg =>
   rw [if_neg c16] at H
   exact absurd H (by simp)
  rw [if_pos c16] at H
  have c16b0 := eq_true c16
  have c16b1 : decide ((ji12) ≤ (l3.length : Int)) = true := decide_eq_true c16
  clear c16
  replace H := Option.bind_eq_some_iff.mp H
  obtain ⟨t243, A170, H⟩ := H
  replace H : (if a2 < t243 then ((merkle_climb.f kj5 a0 t243 a2 (l3.take ((ji12) : Int).toNat)).bind fun bt244 => ((merkle_both.f bt244.1 (rdOf ByteArray.empty l3 (ji12))).bind fun t246 => (some (t246, bt244.2)))) else ((merkle_climb.f kj5 a0 (wrap64 (a1 - t243)) (wrap64 (a2 - t243)) (l3.take ((ji12) : Int).toNat)).bind fun bt247 => ((merkle_both.f (rdOf ByteArray.empty l3 (ji12)) bt247.1).bind fun t249 => (some (t249, bt247.2))))) = some (r1, r2) := H
  have A17 := Aside0.mk A170
  clear A170
  by_cases c18 : a2 < t243
  ·rw [if_pos c18] at H
   have c18b0 : decide (a2 < t243) = true := decide_eq_true c18
   clear c18
   replace H := Option.bind_eq_some_iff.mp H
   obtain ⟨⟨t244, t245⟩, A190, H⟩ := H
   replace H : ((merkle_both.f t244 (rdOf ByteArray.empty l3 (ji12))).bind fun t246 => (some (t246, t245))) = some (r1, r2) := H
   have A19 := Aside0.mk A190
   clear A190
   replace H := Option.bind_eq_some_iff.mp H
   obtain ⟨t246, A200, H⟩ := H
   replace H : (some (t246, t245)) = some (r1, r2) := H
   have A20 := Aside0.mk A200
   clear A200
   simp only [Option.some.injEq, Prod.mk.injEq] at H
   obtain ⟨rfl, rfl⟩ := H
   have p241 : 0 ≤ ((ji12) : Int) := of_decide_eq_true m22_
   have q241 : (ji12) < (l3.length : Int) := of_decide_eq_true m22_
   obtain ⟨ad241, e241, hx241_0⟩ := Kd.at_string HR3.out (ji12) p241 q241
   cases e241
   replace hx241_0 := (HB.out.cell (World.block_lt_of_cell? w _ hx241_0)).trans hx241_0
   replace p241 := eq_true p241
   replace q241 := eq_true q241
   obtain ⟨i021, hi021, _, hsz21, _⟩ := info_parts info9
   obtain ⟨hcut21, hA21, hC21⟩ := print_take_of (P := Tryd.prog) Value.string (⟨#[]⟩ : ByteArray) 32 9 .i64 Tryd.underlying32 hi021 hsz21 (some ad241) c3 l3 (ji12) (of_decide_eq_true m22_) (of_decide_eq_true m22_) HC3.out
   have HR242 := Aside0.mk (Kd.C_of_reads (h1 := fun _ => rfl) (hA21 _ (Kd.reads_of_C HR3.out)))
   have HC242 := Aside0.mk hC21
   clear hA21 hC21 hi021 hsz21
   go_wp2_with (first | (go_at_call 61; (with_reducible refine (merkle_half.calls kj5 a1 t243 _ A17.out).mono ?_); rintro e w' ⟨rfl, ⟨nd, rfl⟩⟩; (try first | exact ⟨rfl, _, World.drewN_drewN _ _ _⟩ | exact ⟨rfl, _, Eq.trans (World.drewN_drewN _ _ _) (congrArg (World.drewN _) (Nat.add_assoc _ _ _))⟩)) | (go_at_call 48; (with_reducible refine (Go.Proofs.YtdeggemomajhcaaDoor.cast_len4 (by have h_ : (ji12) < (l3.length : Int) := of_decide_eq_true m22_; rw [List.length_take]; omega) (ih kj5 (by have := HJ5.out; omega) a0 t243 a2 _ _ (l3.take ((ji12) : Int).toNat) t244 t245 _ ?side1 ?side2 A19.out)).mono ?_); (case side1 => repeat (first | exact (Kd.C_below HR242.out m9_) | (with_reducible refine Kd.C_alloc ?_ _) | (with_reducible refine Kd.C_drewN ?_ _) | (with_reducible refine Kd.C_drew ?_))); (case side2 => exact HC242.out); rintro e w22 ⟨rfl, hb⟩; replace HB := Aside0.mk (below_step m9_ hb); (try clear hb); (try clear hb2); (try clear hk); (try clear hi)) | (go_at_call 62; (with_reducible refine (merkle_both.calls t244 (rdOf ByteArray.empty l3 (ji12)) t246 _ A20.out).mono ?_); rintro e w23 ⟨rfl, hb⟩; replace HB := Aside0.mk (below_step m9_ hb); (try clear hb); (try clear hb2); (try clear hk); (try clear hi)))
   repeat (go_quiet (first | (go_at_call 61; (with_reducible refine (merkle_half.calls kj5 a1 t243 _ A17.out).mono ?_); rintro e w' ⟨rfl, ⟨nd, rfl⟩⟩; (try first | exact ⟨rfl, _, World.drewN_drewN _ _ _⟩ | exact ⟨rfl, _, Eq.trans (World.drewN_drewN _ _ _) (congrArg (World.drewN _) (Nat.add_assoc _ _ _))⟩)) | (go_at_call 48; (with_reducible refine (Go.Proofs.YtdeggemomajhcaaDoor.cast_len4 (by have h_ : (ji12) < (l3.length : Int) := of_decide_eq_true m22_; rw [List.length_take]; omega) (ih kj5 (by have := HJ5.out; omega) a0 t243 a2 _ _ (l3.take ((ji12) : Int).toNat) t244 t245 _ ?side1 ?side2 A19.out)).mono ?_); (case side1 => repeat (first | exact (Kd.C_below HR242.out m9_) | (with_reducible refine Kd.C_alloc ?_ _) | (with_reducible refine Kd.C_drewN ?_ _) | (with_reducible refine Kd.C_drew ?_))); (case side2 => exact HC242.out); rintro e w22 ⟨rfl, hb⟩; replace HB := Aside0.mk (below_step m9_ hb); (try clear hb); (try clear hb2); (try clear hk); (try clear hi)) | (go_at_call 62; (with_reducible refine (merkle_both.calls t244 (rdOf ByteArray.empty l3 (ji12)) t246 _ A20.out).mono ?_); rintro e w23 ⟨rfl, hb⟩; replace HB := Aside0.mk (below_step m9_ hb); (try clear hb); (try clear hb2); (try clear hk); (try clear hi))); try go_wp2_with (first | (go_at_call 61; (with_reducible refine (merkle_half.calls kj5 a1 t243 _ A17.out).mono ?_); rintro e w' ⟨rfl, ⟨nd, rfl⟩⟩; (try first | exact ⟨rfl, _, World.drewN_drewN _ _ _⟩ | exact ⟨rfl, _, Eq.trans (World.drewN_drewN _ _ _) (congrArg (World.drewN _) (Nat.add_assoc _ _ _))⟩)) | (go_at_call 48; (with_reducible refine (Go.Proofs.YtdeggemomajhcaaDoor.cast_len4 (by have h_ : (ji12) < (l3.length : Int) := of_decide_eq_true m22_; rw [List.length_take]; omega) (ih kj5 (by have := HJ5.out; omega) a0 t243 a2 _ _ (l3.take ((ji12) : Int).toNat) t244 t245 _ ?side1 ?side2 A19.out)).mono ?_); (case side1 => repeat (first | exact (Kd.C_below HR242.out m9_) | (with_reducible refine Kd.C_alloc ?_ _) | (with_reducible refine Kd.C_drewN ?_ _) | (with_reducible refine Kd.C_drew ?_))); (case side2 => exact HC242.out); rintro e w22 ⟨rfl, hb⟩; replace HB := Aside0.mk (below_step m9_ hb); (try clear hb); (try clear hb2); (try clear hk); (try clear hi)) | (go_at_call 62; (with_reducible refine (merkle_both.calls t244 (rdOf ByteArray.empty l3 (ji12)) t246 _ A20.out).mono ?_); rintro e w23 ⟨rfl, hb⟩; replace HB := Aside0.mk (below_step m9_ hb); (try clear hb); (try clear hb2); (try clear hk); (try clear hi))))
   go_ret2
   exact ⟨by first | rfl | (simp [errW_none, errW_some] <;> rfl) | (simp only [← hji12]; first | rfl | (simp [errW_none, errW_some] <;> rfl)) | (simp [*, errW_none, errW_some] <;> rfl), m41_⟩
  rw [if_neg c18] at H
  have c18b0 : decide (a2 < t243) = false := decide_eq_false c18
  clear c18
  replace H := Option.bind_eq_some_iff.mp H
  obtain ⟨⟨t247, t248⟩, A240, H⟩ := H
  replace H : ((merkle_both.f (rdOf ByteArray.empty l3 (ji12)) t247).bind fun t249 => (some (t249, t248))) = some (r1, r2) := H
  have A24 := Aside0.mk A240
  clear A240
  replace H := Option.bind_eq_some_iff.mp H
  obtain ⟨t249, A250, H⟩ := H
  replace H : (some (t249, t248)) = some (r1, r2) := H
  have A25 := Aside0.mk A250
  clear A250
  simp only [Option.some.injEq, Prod.mk.injEq] at H
  obtain ⟨rfl, rfl⟩ := H
  have p241 : 0 ≤ ((ji12) : Int) := of_decide_eq_true m22_
  have q241 : (ji12) < (l3.length : Int) := of_decide_eq_true m22_
  obtain ⟨ad241, e241, hx241_0⟩ := Kd.at_string HR3.out (ji12) p241 q241
  cases e241
  replace hx241_0 := (HB.out.cell (World.block_lt_of_cell? w _ hx241_0)).trans hx241_0
  replace p241 := eq_true p241
  replace q241 := eq_true q241
  obtain ⟨i026, hi026, _, hsz26, _⟩ := info_parts info9
  obtain ⟨hcut26, hA26, hC26⟩ := print_take_of (P := Tryd.prog) Value.string (⟨#[]⟩ : ByteArray) 32 9 .i64 Tryd.underlying32 hi026 hsz26 (some ad241) c3 l3 (ji12) (of_decide_eq_true m22_) (of_decide_eq_true m22_) HC3.out
  have HR242 := Aside0.mk (Kd.C_of_reads (h1 := fun _ => rfl) (hA26 _ (Kd.reads_of_C HR3.out)))
  have HC242 := Aside0.mk hC26
  clear hA26 hC26 hi026 hsz26
  go_wp2_with (first | (go_at_call 61; (with_reducible refine (merkle_half.calls kj5 a1 t243 _ A17.out).mono ?_); rintro e w' ⟨rfl, ⟨nd, rfl⟩⟩; (try first | exact ⟨rfl, _, World.drewN_drewN _ _ _⟩ | exact ⟨rfl, _, Eq.trans (World.drewN_drewN _ _ _) (congrArg (World.drewN _) (Nat.add_assoc _ _ _))⟩)) | (go_at_call 48; (with_reducible refine (Go.Proofs.YtdeggemomajhcaaDoor.cast_len4 (by have h_ : (ji12) < (l3.length : Int) := of_decide_eq_true m22_; rw [List.length_take]; omega) (ih kj5 (by have := HJ5.out; omega) a0 (wrap64 (a1 - t243)) (wrap64 (a2 - t243)) _ _ (l3.take ((ji12) : Int).toNat) t247 t248 _ ?side1 ?side2 A24.out)).mono ?_); (case side1 => repeat (first | exact (Kd.C_below HR242.out m9_) | (with_reducible refine Kd.C_alloc ?_ _) | (with_reducible refine Kd.C_drewN ?_ _) | (with_reducible refine Kd.C_drew ?_))); (case side2 => exact HC242.out); rintro e w27 ⟨rfl, hb⟩; replace HB := Aside0.mk (below_step m9_ hb); (try clear hb); (try clear hb2); (try clear hk); (try clear hi)) | (go_at_call 62; (with_reducible refine (merkle_both.calls (rdOf ByteArray.empty l3 (ji12)) t247 t249 _ A25.out).mono ?_); rintro e w28 ⟨rfl, hb⟩; replace HB := Aside0.mk (below_step m9_ hb); (try clear hb); (try clear hb2); (try clear hk); (try clear hi)))
  repeat (go_quiet (first | (go_at_call 61; (with_reducible refine (merkle_half.calls kj5 a1 t243 _ A17.out).mono ?_); rintro e w' ⟨rfl, ⟨nd, rfl⟩⟩; (try first | exact ⟨rfl, _, World.drewN_drewN _ _ _⟩ | exact ⟨rfl, _, Eq.trans (World.drewN_drewN _ _ _) (congrArg (World.drewN _) (Nat.add_assoc _ _ _))⟩)) | (go_at_call 48; (with_reducible refine (Go.Proofs.YtdeggemomajhcaaDoor.cast_len4 (by have h_ : (ji12) < (l3.length : Int) := of_decide_eq_true m22_; rw [List.length_take]; omega) (ih kj5 (by have := HJ5.out; omega) a0 (wrap64 (a1 - t243)) (wrap64 (a2 - t243)) _ _ (l3.take ((ji12) : Int).toNat) t247 t248 _ ?side1 ?side2 A24.out)).mono ?_); (case side1 => repeat (first | exact (Kd.C_below HR242.out m9_) | (with_reducible refine Kd.C_alloc ?_ _) | (with_reducible refine Kd.C_drewN ?_ _) | (with_reducible refine Kd.C_drew ?_))); (case side2 => exact HC242.out); rintro e w27 ⟨rfl, hb⟩; replace HB := Aside0.mk (below_step m9_ hb); (try clear hb); (try clear hb2); (try clear hk); (try clear hi)) | (go_at_call 62; (with_reducible refine (merkle_both.calls (rdOf ByteArray.empty l3 (ji12)) t247 t249 _ A25.out).mono ?_); rintro e w28 ⟨rfl, hb⟩; replace HB := Aside0.mk (below_step m9_ hb); (try clear hb); (try clear hb2); (try clear hk); (try clear hi))); try go_wp2_with (first | (go_at_call 61; (with_reducible refine (merkle_half.calls kj5 a1 t243 _ A17.out).mono ?_); rintro e w' ⟨rfl, ⟨nd, rfl⟩⟩; (try first | exact ⟨rfl, _, World.drewN_drewN _ _ _⟩ | exact ⟨rfl, _, Eq.trans (World.drewN_drewN _ _ _) (congrArg (World.drewN _) (Nat.add_assoc _ _ _))⟩)) | (go_at_call 48; (with_reducible refine (Go.Proofs.YtdeggemomajhcaaDoor.cast_len4 (by have h_ : (ji12) < (l3.length : Int) := of_decide_eq_true m22_; rw [List.length_take]; omega) (ih kj5 (by have := HJ5.out; omega) a0 (wrap64 (a1 - t243)) (wrap64 (a2 - t243)) _ _ (l3.take ((ji12) : Int).toNat) t247 t248 _ ?side1 ?side2 A24.out)).mono ?_); (case side1 => repeat (first | exact (Kd.C_below HR242.out m9_) | (with_reducible refine Kd.C_alloc ?_ _) | (with_reducible refine Kd.C_drewN ?_ _) | (with_reducible refine Kd.C_drew ?_))); (case side2 => exact HC242.out); rintro e w27 ⟨rfl, hb⟩; replace HB := Aside0.mk (below_step m9_ hb); (try clear hb); (try clear hb2); (try clear hk); (try clear hi)) | (go_at_call 62; (with_reducible refine (merkle_both.calls (rdOf ByteArray.empty l3 (ji12)) t247 t249 _ A25.out).mono ?_); rintro e w28 ⟨rfl, hb⟩; replace HB := Aside0.mk (below_step m9_ hb); (try clear hb); (try clear hb2); (try clear hk); (try clear hi))))
  go_ret2
  exact ⟨by first | rfl | (simp [errW_none, errW_some] <;> rfl) | (simp only [← hji12]; first | rfl | (simp [errW_none, errW_some] <;> rfl)) | (simp [*, errW_none, errW_some] <;> rfl), m41_⟩

/-! ### merkle_Verify: function 23 -/
def merkle_Verify.j0 : Nat → ByteArray → Int → Int → List ByteArray → Bool → ByteArray → ByteArray → Option (Bool)
 | 0, _, _, _, _, _, _, _ => none
 | k + 1, x0, x1, x2, x4, x32, x251000, x251001 => if x32 = true then (some false) else ((merkle_leaf.f k x251000 x251001).bind fun t252 => ((merkle_climb.f k t252 x1 x2 x4).bind fun bt253 => (if bt253.2 = true then (some (bt253.1.toList == x0.toList)) else (some false))))
def merkle_Verify.f (k : Nat) (a0 : ByteArray) (a1 : Int) (a2 : Int) (a3_0 : ByteArray) (a3_1 : ByteArray) (l4 : List ByteArray) : Option (Bool) := (merkle_good.f a3_0 a3_1).bind fun t251 => (if t251 = true then (if a1 < 1 then (merkle_Verify.j0 k a0 a1 a2 l4 true a3_0 a3_1) else (if a1 > 1024 then (merkle_Verify.j0 k a0 a1 a2 l4 true a3_0 a3_1) else (if a2 < 0 then (merkle_Verify.j0 k a0 a1 a2 l4 true a3_0 a3_1) else (merkle_Verify.j0 k a0 a1 a2 l4 (decide (a2 ≥ a1)) a3_0 a3_1)))) else (merkle_Verify.j0 k a0 a1 a2 l4 true a3_0 a3_1))
theorem merkle_Verify.mono_l : ∀ k, (∀ y0 y1 y2 y3 y4 y5 y6, LeO (merkle_Verify.j0 k y0 y1 y2 y3 y4 y5 y6) (merkle_Verify.j0 (k + 1) y0 y1 y2 y3 y4 y5 y6))
 | 0 => fun _ _ _ _ _ _ _ r h => by simp [merkle_Verify.j0] at h
 | k + 1 => by
  have ih0 := merkle_Verify.mono_l k
  ·intro y0 y1 y2 y3 y4 y5 y6
   unfold merkle_Verify.j0
   repeat' first
   | (with_reducible exact ih0 _ _ _ _ _ _ _)
   | (with_reducible exact merkle_climb.mono _ _ _ _ _)
   | (with_reducible exact merkle_leaf.mono _ _ _)
   | (with_reducible exact LeO.refl _)
   | (with_reducible exact LeO.none _)
   | (with_reducible refine LeO.ite ?_ ?_)
   | (with_reducible refine LeO.bind ?_ (fun _ => ?_))
   | exact ih0 _ _ _ _ _ _ _
   | exact merkle_climb.mono _ _ _ _ _
   | exact merkle_leaf.mono _ _ _
   | exact LeO.none _
   | refine LeO.ite ?_ ?_
   | refine LeO.bind ?_ (fun _ => ?_)
theorem merkle_Verify.mono : ∀ a0 a1 a2 a3 a4 a5 k, LeO (merkle_Verify.f k a0 a1 a2 a3 a4 a5) (merkle_Verify.f (k + 1) a0 a1 a2 a3 a4 a5) := by
 intro a0 a1 a2 a3 a4 a5 k
 have ih0 := merkle_Verify.mono_l k
 unfold merkle_Verify.f
 repeat' first
   | (with_reducible exact ih0 _ _ _ _ _ _ _)
   | (with_reducible exact merkle_climb.mono _ _ _ _ _)
   | (with_reducible exact merkle_leaf.mono _ _ _)
   | (with_reducible exact LeO.refl _)
   | (with_reducible exact LeO.none _)
   | (with_reducible refine LeO.ite ?_ ?_)
   | (with_reducible refine LeO.bind ?_ (fun _ => ?_))
   | exact ih0 _ _ _ _ _ _ _
   | exact merkle_climb.mono _ _ _ _ _
   | exact merkle_leaf.mono _ _ _
   | exact LeO.none _
   | refine LeO.ite ?_ ?_
   | refine LeO.bind ?_ (fun _ => ?_)
set_option maxHeartbeats 8000000 in
set_option maxRecDepth 100000 in
theorem merkle_Verify.calls (k : Nat) (a0 : ByteArray) (a1 : Int) (a2 : Int) (a3_0 : ByteArray) (a3_1 : ByteArray) (A4 : Option Addr) (c4 : Nat) (l4 : List ByteArray) (r : Bool) (w : World) (hr4 : Kd.C Kd.string w A4 l4.length l4) (hc4 : l4.length ≤ c4) (h : merkle_Verify.f k a0 a1 a2 a3_0 a3_1 l4 = some r) :
  Calls Tryd.prog 23 #[.string a0, .int .i64 a1, .int .i64 a2, .agg #[.string a3_0, .string a3_1], .slice A4 l4.length c4] w fun e w' => e = .returned (.bool r) ∧ Below w.heap.size w w' := by
 have hu44 := Tryd.underlying44
 have HR4 := Aside0.mk hr4
 have HC4 := Aside0.mk hc4
 clear hr4 hc4
 have HB := Aside0.mk (Below.refl w.heap.size w)
 have H : ((merkle_good.f a3_0 a3_1).bind fun t251 => (if t251 = true then (if a1 < 1 then (merkle_Verify.j0 k a0 a1 a2 l4 true a3_0 a3_1) else (if a1 > 1024 then (merkle_Verify.j0 k a0 a1 a2 l4 true a3_0 a3_1) else (if a2 < 0 then (merkle_Verify.j0 k a0 a1 a2 l4 true a3_0 a3_1) else (merkle_Verify.j0 k a0 a1 a2 l4 (decide (a2 ≥ a1)) a3_0 a3_1)))) else (merkle_Verify.j0 k a0 a1 a2 l4 true a3_0 a3_1))) = some r := h
 clear h
 have HC6 := Aside0.mk H
 clear H
 go_enter Tryd.func23, Tryd.ntmps23
 go_upto_region 1 with (first | ((with_reducible refine gate_dst (N := 8) rfl ?_); refine box_event ?hg (N := 8) ?hd (cs := #[.string a3_0, .string a3_1]) (t := 44) ?hr ?_; (case hd => rfl); (case hg => rfl); (case hr => first | (go_simp; done) | (go_simp; rfl)); intro gb250 hg w7 hbox hb; have n0_ := Aside0.mk (below_step m11_ hb); have n1_ := Aside0.mk (hbox); have n2_ := Aside0.mk ((by rw [hg]; exact (below_size m11_) : w.heap.size ≤ gb250)); have n3_ := Aside0.mk ((by rw [hg]; exact (below_size m11_) : w.heap.size ≤ gb250)); clear HB; have HB := n0_; have BK250 := n1_; have GW250 := n2_; have GE250 := n3_; clear n0_ n1_ n2_ n3_; clear hb hbox hg))
 (try simp only [Act.put, List.setIfInBounds_toArray, List.set_cons_zero, List.set_cons_succ])
 go_cut [32] (fun v32 wc => ∃ (kq : Nat) (x32_5 : Bool), v32 = .bool x32_5 ∧ Aside0 (merkle_Verify.j0 kq a0 a1 a2 l4 x32_5 a3_0 a3_1 = some r) ∧ Aside0 (kq ≤ k) ∧ Aside0 (wc.heap[gb250]? = some (.cells #[.string a3_0, .string a3_1] 44 (0, 0))) ∧ Aside0 (Below w.heap.size w wc))
 case first =>
  have H := HC6.out
  clear HC6
  replace H := Option.bind_eq_some_iff.mp H
  obtain ⟨t251, A80, H⟩ := H
  replace H : (if t251 = true then (if a1 < 1 then (merkle_Verify.j0 k a0 a1 a2 l4 true a3_0 a3_1) else (if a1 > 1024 then (merkle_Verify.j0 k a0 a1 a2 l4 true a3_0 a3_1) else (if a2 < 0 then (merkle_Verify.j0 k a0 a1 a2 l4 true a3_0 a3_1) else (merkle_Verify.j0 k a0 a1 a2 l4 (decide (a2 ≥ a1)) a3_0 a3_1)))) else (merkle_Verify.j0 k a0 a1 a2 l4 true a3_0 a3_1)) = some r := H
  have A8 := Aside0.mk A80
  clear A80
  by_cases c9 : t251 = true
  case neg =>
   replace c9 := Bool.eq_false_iff.mpr c9
   subst c9
   have H1 : (merkle_Verify.j0 k a0 a1 a2 l4 true a3_0 a3_1) = some r := by rw [if_neg (show ¬ (false = true) by decide)] at H; exact H
   clear H
   have H := H1
   clear H1
   have H' := Aside0.mk H
   clear H
   obtain ⟨hcz21_0, hcz21_1⟩ := bc2_ BK250.out
   obtain ⟨hfz21_0, hfz21_1⟩ := bf2_ BK250.out
   go_wp2_with (first | ((with_reducible refine gate_callee (f := 43) rfl ?_); refine goesL_ (some 14) rfl rfl Tryd.func43 (by kernel_rfl) rfl #[.agg #[.string a3_0, .string a3_1]] rfl m10_ ?_; (with_reducible refine (merkle_good.calls a3_0 a3_1 false _ A8.out).mono ?_); rintro e w22 ⟨rfl, hb⟩; refine ⟨_, rfl, ?_⟩; replace BK250 := Aside0.mk (blk_below (g := gb250) (o := .cells #[.string a3_0, .string a3_1] 44 (0, 0)) m16_ hb); replace HB := Aside0.mk (below_step m5_ hb); (try clear hb); (try clear hb2); (try clear hk); (try clear hi)))
   go_meet
   case rel => exact ⟨_, (true), m23_, H', ⟨by first | omega | exact Nat.le_refl _⟩, ⟨by (with_reducible repeat (first | refine blk_drewN ?_ _ | refine blk_drew ?_ | refine blk_alloc ?_ _)); exact BK250.out⟩, ⟨m34_⟩⟩
  subst c9
  have H1 : (if a1 < 1 then (merkle_Verify.j0 k a0 a1 a2 l4 true a3_0 a3_1) else (if a1 > 1024 then (merkle_Verify.j0 k a0 a1 a2 l4 true a3_0 a3_1) else (if a2 < 0 then (merkle_Verify.j0 k a0 a1 a2 l4 true a3_0 a3_1) else (merkle_Verify.j0 k a0 a1 a2 l4 (decide (a2 ≥ a1)) a3_0 a3_1)))) = some r := by rw [if_pos rfl] at H; exact H
  clear H
  have H := H1
  clear H1
  by_cases c10 : a1 < 1
  ·rw [if_pos c10] at H
   have c10b0 : decide (a1 < 1) = true := decide_eq_true c10
   clear c10
   (first | rw [c10b0] | (simp only [i64_w, i32_w]; rw [c10b0]) | skip)
   have H' := Aside0.mk H
   clear H
   obtain ⟨hcz11_0, hcz11_1⟩ := bc2_ BK250.out
   obtain ⟨hfz11_0, hfz11_1⟩ := bf2_ BK250.out
   go_wp2_with (first | ((with_reducible refine gate_callee (f := 43) rfl ?_); refine goesL_ (some 14) rfl rfl Tryd.func43 (by kernel_rfl) rfl #[.agg #[.string a3_0, .string a3_1]] rfl m10_ ?_; (with_reducible refine (merkle_good.calls a3_0 a3_1 true _ A8.out).mono ?_); rintro e w12 ⟨rfl, hb⟩; refine ⟨_, rfl, ?_⟩; replace BK250 := Aside0.mk (blk_below (g := gb250) (o := .cells #[.string a3_0, .string a3_1] 44 (0, 0)) m16_ hb); replace HB := Aside0.mk (below_step m5_ hb); (try clear hb); (try clear hb2); (try clear hk); (try clear hi)))
   go_meet
   case rel => exact ⟨_, (true), m23_, H', ⟨by first | omega | exact Nat.le_refl _⟩, ⟨by (with_reducible repeat (first | refine blk_drewN ?_ _ | refine blk_drew ?_ | refine blk_alloc ?_ _)); exact BK250.out⟩, ⟨m34_⟩⟩
  rw [if_neg c10] at H
  have c10b0 : decide (a1 < 1) = false := decide_eq_false c10
  clear c10
  (first | rw [c10b0] | (simp only [i64_w, i32_w]; rw [c10b0]) | skip)
  by_cases c13 : a1 > 1024
  ·rw [if_pos c13] at H
   have c13b0 : decide (1024 < a1) = true := decide_eq_true c13
   clear c13
   have H' := Aside0.mk H
   clear H
   obtain ⟨hcz14_0, hcz14_1⟩ := bc2_ BK250.out
   obtain ⟨hfz14_0, hfz14_1⟩ := bf2_ BK250.out
   go_wp2_with (first | ((with_reducible refine gate_callee (f := 43) rfl ?_); refine goesL_ (some 14) rfl rfl Tryd.func43 (by kernel_rfl) rfl #[.agg #[.string a3_0, .string a3_1]] rfl m10_ ?_; (with_reducible refine (merkle_good.calls a3_0 a3_1 true _ A8.out).mono ?_); rintro e w15 ⟨rfl, hb⟩; refine ⟨_, rfl, ?_⟩; replace BK250 := Aside0.mk (blk_below (g := gb250) (o := .cells #[.string a3_0, .string a3_1] 44 (0, 0)) m16_ hb); replace HB := Aside0.mk (below_step m5_ hb); (try clear hb); (try clear hb2); (try clear hk); (try clear hi)))
   go_meet
   case rel => exact ⟨_, (true), m23_, H', ⟨by first | omega | exact Nat.le_refl _⟩, ⟨by (with_reducible repeat (first | refine blk_drewN ?_ _ | refine blk_drew ?_ | refine blk_alloc ?_ _)); exact BK250.out⟩, ⟨m34_⟩⟩
  rw [if_neg c13] at H
  have c13b0 : decide (1024 < a1) = false := decide_eq_false c13
  clear c13
  by_cases c16 : a2 < 0
  ·rw [if_pos c16] at H
   have c16b0 : decide (a2 < 0) = true := decide_eq_true c16
   clear c16
   have H' := Aside0.mk H
   clear H
   obtain ⟨hcz17_0, hcz17_1⟩ := bc2_ BK250.out
   obtain ⟨hfz17_0, hfz17_1⟩ := bf2_ BK250.out
   go_wp2_with (first | ((with_reducible refine gate_callee (f := 43) rfl ?_); refine goesL_ (some 14) rfl rfl Tryd.func43 (by kernel_rfl) rfl #[.agg #[.string a3_0, .string a3_1]] rfl m10_ ?_; (with_reducible refine (merkle_good.calls a3_0 a3_1 true _ A8.out).mono ?_); rintro e w18 ⟨rfl, hb⟩; refine ⟨_, rfl, ?_⟩; replace BK250 := Aside0.mk (blk_below (g := gb250) (o := .cells #[.string a3_0, .string a3_1] 44 (0, 0)) m16_ hb); replace HB := Aside0.mk (below_step m5_ hb); (try clear hb); (try clear hb2); (try clear hk); (try clear hi)))
   go_meet
   case rel => exact ⟨_, (true), m23_, H', ⟨by first | omega | exact Nat.le_refl _⟩, ⟨by (with_reducible repeat (first | refine blk_drewN ?_ _ | refine blk_drew ?_ | refine blk_alloc ?_ _)); exact BK250.out⟩, ⟨m34_⟩⟩
  rw [if_neg c16] at H
  have c16b0 : decide (a2 < 0) = false := decide_eq_false c16
  clear c16
  have H' := Aside0.mk H
  clear H
  obtain ⟨hcz19_0, hcz19_1⟩ := bc2_ BK250.out
  obtain ⟨hfz19_0, hfz19_1⟩ := bf2_ BK250.out
  go_wp2_with (first | ((with_reducible refine gate_callee (f := 43) rfl ?_); refine goesL_ (some 14) rfl rfl Tryd.func43 (by kernel_rfl) rfl #[.agg #[.string a3_0, .string a3_1]] rfl m10_ ?_; (with_reducible refine (merkle_good.calls a3_0 a3_1 true _ A8.out).mono ?_); rintro e w20 ⟨rfl, hb⟩; refine ⟨_, rfl, ?_⟩; replace BK250 := Aside0.mk (blk_below (g := gb250) (o := .cells #[.string a3_0, .string a3_1] 44 (0, 0)) m16_ hb); replace HB := Aside0.mk (below_step m5_ hb); (try clear hb); (try clear hb2); (try clear hk); (try clear hi)))
  go_meet
  case rel => exact ⟨_, (decide (a2 ≥ a1)), m23_, H', ⟨by first | omega | exact Nat.le_refl _⟩, ⟨by (with_reducible repeat (first | refine blk_drewN ?_ _ | refine blk_drew ?_ | refine blk_alloc ?_ _)); exact BK250.out⟩, ⟨m34_⟩⟩
 clear HC6
 try clear c1; try clear c2; try clear p2; try clear c4; try clear c9; try clear c10; try clear c10b0; try clear c13; try clear c13b0; try clear c16; try clear c16b0; try clear hcz11_0; try clear hcz11_1; try clear hcz14_0; try clear hcz14_1; try clear hcz17_0; try clear hcz17_1; try clear hcz19_0; try clear hcz19_1; try clear hcz21_0; try clear hcz21_1; try clear hfz11_0; try clear hfz11_1; try clear hfz14_0; try clear hfz14_1; try clear hfz17_0; try clear hfz17_1; try clear hfz19_0; try clear hfz19_1; try clear hfz21_0; try clear hfz21_1
 obtain ⟨kq, x32_5, rfl, HA, HJ5, BK250, HB⟩ := hcut
 cases kq with
 | zero => exact absurd HA.out (by simp [merkle_Verify.j0])
 | succ kj5 =>
  have H := HA.out
  clear HA
  simp only [merkle_Verify.j0] at H
  by_cases c23 : x32_5 = true
  ·subst c23
   have H1 : (some false) = some r := by rw [if_pos rfl] at H; exact H
   clear H
   have H := H1
   clear H1
   obtain rfl := Option.some.inj H
   go_wp2
   go_ret
   exact ⟨by first | rfl | (simp [errW_none, errW_some] <;> rfl) | (simp [*, errW_none, errW_some] <;> rfl), m34_⟩
  replace c23 := Bool.eq_false_iff.mpr c23
  subst c23
  have H1 : ((merkle_leaf.f kj5 a3_0 a3_1).bind fun t252 => ((merkle_climb.f kj5 t252 a1 a2 l4).bind fun bt253 => (if bt253.2 = true then (some (bt253.1.toList == a0.toList)) else (some false)))) = some r := by rw [if_neg (show ¬ (false = true) by decide)] at H; exact H
  clear H
  have H := H1
  clear H1
  replace H := Option.bind_eq_some_iff.mp H
  obtain ⟨t252, A240, H⟩ := H
  replace H : ((merkle_climb.f kj5 t252 a1 a2 l4).bind fun bt253 => (if bt253.2 = true then (some (bt253.1.toList == a0.toList)) else (some false))) = some r := H
  have A24 := Aside0.mk A240
  clear A240
  replace H := Option.bind_eq_some_iff.mp H
  obtain ⟨⟨t253, t254⟩, A250, H⟩ := H
  replace H : (if t254 = true then (some (t253.toList == a0.toList)) else (some false)) = some r := H
  have A25 := Aside0.mk A250
  clear A250
  by_cases c26 : t254 = true
  ·subst c26
   have H1 : (some (t253.toList == a0.toList)) = some r := by rw [if_pos rfl] at H; exact H
   clear H
   have H := H1
   clear H1
   obtain rfl := Option.some.inj H
   obtain ⟨hcz27_0, hcz27_1⟩ := bc2_ BK250.out
   obtain ⟨hfz27_0, hfz27_1⟩ := bf2_ BK250.out
   go_wp2_with (first | ((with_reducible refine gate_callee (f := 49) rfl ?_); refine goesL_ (some 35) rfl rfl Tryd.func49 (by kernel_rfl) rfl #[.agg #[.string a3_0, .string a3_1]] rfl m10_ ?_; (with_reducible refine (merkle_leaf.calls kj5 a3_0 a3_1 t252 _ A24.out).mono ?_); rintro e w28 ⟨rfl, hb⟩; refine ⟨_, rfl, ?_⟩; replace BK250 := Aside0.mk (blk_below (g := gb250) (o := .cells #[.string a3_0, .string a3_1] 44 (0, 0)) m16_ hb); replace HB := Aside0.mk (below_step m5_ hb); (try clear hb); (try clear hb2); (try clear hk); (try clear hi)) | ((with_reducible refine gate_callee (f := 48) rfl ?_); refine goesL_ (some 39) rfl rfl Tryd.func48 (by kernel_rfl) rfl #[.string t252, .int .i64 a1, .int .i64 a2, .slice A4 l4.length c4] rfl m10_ ?_; (with_reducible refine (merkle_climb.calls kj5 t252 a1 a2 _ _ l4 t253 true _ ?side1 ?side2 A25.out).mono ?_); (case side1 => exact m31_); (case side2 => exact HC4.out); rintro e w29 ⟨rfl, hb⟩; refine ⟨_, rfl, ?_⟩; replace BK250 := Aside0.mk (blk_below (g := gb250) (o := .cells #[.string a3_0, .string a3_1] 44 (0, 0)) m16_ hb); replace HB := Aside0.mk (below_step m5_ hb); (try clear hb); (try clear hb2); (try clear hk); (try clear hi)))
   go_ret
   exact ⟨by first | rfl | (simp [errW_none, errW_some] <;> rfl) | (simp [*, errW_none, errW_some] <;> rfl), m34_⟩
  replace c26 := Bool.eq_false_iff.mpr c26
  subst c26
  have H1 : (some false) = some r := by rw [if_neg (show ¬ (false = true) by decide)] at H; exact H
  clear H
  have H := H1
  clear H1
  obtain rfl := Option.some.inj H
  obtain ⟨hcz30_0, hcz30_1⟩ := bc2_ BK250.out
  obtain ⟨hfz30_0, hfz30_1⟩ := bf2_ BK250.out
  go_wp2_with (first | ((with_reducible refine gate_callee (f := 49) rfl ?_); refine goesL_ (some 35) rfl rfl Tryd.func49 (by kernel_rfl) rfl #[.agg #[.string a3_0, .string a3_1]] rfl m10_ ?_; (with_reducible refine (merkle_leaf.calls kj5 a3_0 a3_1 t252 _ A24.out).mono ?_); rintro e w31 ⟨rfl, hb⟩; refine ⟨_, rfl, ?_⟩; replace BK250 := Aside0.mk (blk_below (g := gb250) (o := .cells #[.string a3_0, .string a3_1] 44 (0, 0)) m16_ hb); replace HB := Aside0.mk (below_step m5_ hb); (try clear hb); (try clear hb2); (try clear hk); (try clear hi)) | ((with_reducible refine gate_callee (f := 48) rfl ?_); refine goesL_ (some 39) rfl rfl Tryd.func48 (by kernel_rfl) rfl #[.string t252, .int .i64 a1, .int .i64 a2, .slice A4 l4.length c4] rfl m10_ ?_; (with_reducible refine (merkle_climb.calls kj5 t252 a1 a2 _ _ l4 t253 false _ ?side1 ?side2 A25.out).mono ?_); (case side1 => exact m31_); (case side2 => exact HC4.out); rintro e w32 ⟨rfl, hb⟩; refine ⟨_, rfl, ?_⟩; replace BK250 := Aside0.mk (blk_below (g := gb250) (o := .cells #[.string a3_0, .string a3_1] 44 (0, 0)) m16_ hb); replace HB := Aside0.mk (below_step m5_ hb); (try clear hb); (try clear hb2); (try clear hk); (try clear hi)))
  go_ret
  exact ⟨by first | rfl | (simp [errW_none, errW_some] <;> rfl) | (simp [*, errW_none, errW_some] <;> rfl), m34_⟩

/-! ### merkle_beside: function 55 -/
def merkle_beside.f (k : Nat) (a0 : Bool) (a1 : Bool) (a2 : ByteArray) (a3 : Int) (a4 : Int) (a5_0 : ByteArray) (a5_1 : ByteArray) (l6 : List ByteArray) : Option (Bool) := if a0 = true then (if a1 = true then ((merkle_Verify.f k a2 a3 a4 a5_0 a5_1 l6).bind fun t256 => (some t256)) else (some false)) else (if (a5_0.toList == ([] : List UInt8) && (a5_1.toList == ([] : List UInt8))) = true then (some ((l6.length : Int) == 0)) else (some false))
theorem merkle_beside.mono : ∀ a0 a1 a2 a3 a4 a5 a6 a7 k, LeO (merkle_beside.f k a0 a1 a2 a3 a4 a5 a6 a7) (merkle_beside.f (k + 1) a0 a1 a2 a3 a4 a5 a6 a7) := by
 intro a0 a1 a2 a3 a4 a5 a6 a7 k
 unfold merkle_beside.f
 repeat' first
   | (with_reducible exact merkle_Verify.mono _ _ _ _ _ _ _)
   | (with_reducible exact LeO.refl _)
   | (with_reducible exact LeO.none _)
   | (with_reducible refine LeO.ite ?_ ?_)
   | (with_reducible refine LeO.bind ?_ (fun _ => ?_))
   | exact merkle_Verify.mono _ _ _ _ _ _ _
   | exact LeO.none _
   | refine LeO.ite ?_ ?_
   | refine LeO.bind ?_ (fun _ => ?_)
set_option maxHeartbeats 8000000 in
set_option maxRecDepth 100000 in
theorem merkle_beside.calls (k : Nat) (a0 : Bool) (a1 : Bool) (a2 : ByteArray) (a3 : Int) (a4 : Int) (a5_0 : ByteArray) (a5_1 : ByteArray) (A6 : Option Addr) (c6 : Nat) (l6 : List ByteArray) (r : Bool) (w : World) (hr6 : Kd.C Kd.string w A6 l6.length l6) (hc6 : l6.length ≤ c6) (h : merkle_beside.f k a0 a1 a2 a3 a4 a5_0 a5_1 l6 = some r) :
  Calls Tryd.prog 55 #[.bool a0, .bool a1, .string a2, .int .i64 a3, .int .i64 a4, .agg #[.string a5_0, .string a5_1], .slice A6 l6.length c6] w fun e w' => e = .returned (.bool r) ∧ Below w.heap.size w w' := by
 have hu44 := Tryd.underlying44
 have HR6 := Aside0.mk hr6
 have HC6 := Aside0.mk hc6
 clear hr6 hc6
 have HB := Aside0.mk (Below.refl w.heap.size w)
 have H : (if a0 = true then (if a1 = true then ((merkle_Verify.f k a2 a3 a4 a5_0 a5_1 l6).bind fun t256 => (some t256)) else (some false)) else (if (a5_0.toList == ([] : List UInt8) && (a5_1.toList == ([] : List UInt8))) = true then (some ((l6.length : Int) == 0)) else (some false))) = some r := h
 clear h
 by_cases c8 : a0 = true
 ·subst c8
  have H1 : (if a1 = true then ((merkle_Verify.f k a2 a3 a4 a5_0 a5_1 l6).bind fun t256 => (some t256)) else (some false)) = some r := by rw [if_pos rfl] at H; exact H
  clear H
  have H := H1
  clear H1
  by_cases c9 : a1 = true
  case neg =>
   replace c9 := Bool.eq_false_iff.mpr c9
   subst c9
   have H1 : (some false) = some r := by rw [if_neg (show ¬ (false = true) by decide)] at H; exact H
   clear H
   have H := H1
   clear H1
   obtain rfl := Option.some.inj H
   go_enter Tryd.func55, Tryd.ntmps55
   go_wp2_with (first | ((with_reducible refine gate_dst (N := 12) rfl ?_); (try (refine gate_guard (by rfl) ?_; dsimp only)); refine box_event ?hg (N := 12) ?hd (cs := #[.string a5_0, .string a5_1]) (t := 44) ?hr ?_; (case hd => rfl); (case hg => rfl); (case hr => first | (go_simp; done) | (go_simp; rfl)); intro gb255 hg w14 hbox hb; have n0_ := Aside0.mk (below_step m11_ hb); have n1_ := Aside0.mk (hbox); have n2_ := Aside0.mk ((by rw [hg]; exact (below_size m11_) : w.heap.size ≤ gb255)); have n3_ := Aside0.mk ((by rw [hg]; exact (below_size m11_) : w.heap.size ≤ gb255)); clear HB; have HB := n0_; have BK255 := n1_; have GW255 := n2_; have GE255 := n3_; clear n0_ n1_ n2_ n3_; clear hb hbox hg))
   go_ret
   exact ⟨by first | rfl | (simp [errW_none, errW_some] <;> rfl) | (simp [*, errW_none, errW_some] <;> rfl), m35_⟩
  subst c9
  have H1 : ((merkle_Verify.f k a2 a3 a4 a5_0 a5_1 l6).bind fun t256 => (some t256)) = some r := by rw [if_pos rfl] at H; exact H
  clear H
  have H := H1
  clear H1
  replace H := Option.bind_eq_some_iff.mp H
  obtain ⟨t256, A100, H⟩ := H
  replace H : (some t256) = some r := H
  have A10 := Aside0.mk A100
  clear A100
  obtain rfl := Option.some.inj H
  go_enter Tryd.func55, Tryd.ntmps55
  go_wp2_with (first | ((with_reducible refine gate_dst (N := 12) rfl ?_); (try (refine gate_guard (by rfl) ?_; dsimp only)); refine box_event ?hg (N := 12) ?hd (cs := #[.string a5_0, .string a5_1]) (t := 44) ?hr ?_; (case hd => rfl); (case hg => rfl); (case hr => first | (go_simp; done) | (go_simp; rfl)); intro gb255 hg w11 hbox hb; have n0_ := Aside0.mk (below_step m11_ hb); have n1_ := Aside0.mk (hbox); have n2_ := Aside0.mk ((by rw [hg]; exact (below_size m11_) : w.heap.size ≤ gb255)); have n3_ := Aside0.mk ((by rw [hg]; exact (below_size m11_) : w.heap.size ≤ gb255)); clear HB; have HB := n0_; have BK255 := n1_; have GW255 := n2_; have GE255 := n3_; clear n0_ n1_ n2_ n3_; clear hb hbox hg; obtain ⟨hcz12_0, hcz12_1⟩ := bc2_ BK255.out; obtain ⟨hfz12_0, hfz12_1⟩ := bf2_ BK255.out) | (go_at_call 23; (with_reducible refine (merkle_Verify.calls k a2 a3 a4 a5_0 a5_1 _ _ l6 t256 _ ?side1 ?side2 A10.out).mono ?_); (case side1 => repeat (first | exact (Kd.C_below HR6.out HB.out) | (with_reducible refine Kd.C_alloc ?_ _) | (with_reducible refine Kd.C_drewN ?_ _) | (with_reducible refine Kd.C_drew ?_))); (case side2 => exact HC6.out); rintro e w13 ⟨rfl, hb⟩; have n0_ := Aside0.mk (blk_below (g := gb255) (o := .cells #[.string a5_0, .string a5_1] 44 (0, 0)) (by (with_reducible repeat (first | refine blk_drewN ?_ _ | refine blk_drew ?_ | refine blk_alloc ?_ _)); exact BK255.out) hb); have n1_ := Aside0.mk (below_step (by repeat (first | (with_reducible first | exact HB.out | apply below_alloc | apply pw_below_drewN | apply below_drew1 | refine below_set ?_ GE255.out) | exact HB.out)) hb); clear BK255; clear HB; have BK255 := n0_; have HB := n1_; clear n0_ n1_; (try clear hb); (try clear hb2); (try clear hk); (try clear hi)))
  go_ret
  exact ⟨by first | rfl | (simp [errW_none, errW_some] <;> rfl) | (simp [*, errW_none, errW_some] <;> rfl), m35_⟩
 replace c8 := Bool.eq_false_iff.mpr c8
 subst c8
 have H1 : (if (a5_0.toList == ([] : List UInt8) && (a5_1.toList == ([] : List UInt8))) = true then (some ((l6.length : Int) == 0)) else (some false)) = some r := by rw [if_neg (show ¬ (false = true) by decide)] at H; exact H
 clear H
 have H := H1
 clear H1
 by_cases c15 : (a5_0.toList == ([] : List UInt8) && (a5_1.toList == ([] : List UInt8))) = true
 ·rw [if_pos c15] at H
  have c15b0 : (a5_0.toList == ([] : List UInt8) && (a5_1.toList == ([] : List UInt8))) = true := c15
  (try (have c15b1 : decide (a5_0.toList = ([] : List UInt8) && (a5_1.toList == ([] : List UInt8))) = true := by simpa using c15))
  (try (have c15b2 : (a5_0.toList == ([] : List UInt8) && (a5_1.toList == ([] : List UInt8))) = true := by simpa using c15))
  have c15b4 : (a5_0.toList.isEmpty && a5_1.toList.isEmpty) = true := (fun {x_ y_ : List UInt8} {v_ : Bool} (h_ : (x_ == ([] : List UInt8) && (y_ == ([] : List UInt8))) = v_) => (show (x_.isEmpty && y_.isEmpty) = v_ by cases x_ <;> cases y_ <;> first | exact h_ | simpa using h_)) c15b2
  clear c15
  obtain rfl := Option.some.inj H
  go_enter Tryd.func55, Tryd.ntmps55
  go_wp2_with (first | ((with_reducible refine gate_dst (N := 12) rfl ?_); (try (refine gate_guard (by rfl) ?_; dsimp only)); refine box_event ?hg (N := 12) ?hd (cs := #[.string a5_0, .string a5_1]) (t := 44) ?hr ?_; (case hd => rfl); (case hg => rfl); (case hr => first | (go_simp; done) | (go_simp; rfl)); intro gb255 hg w16 hbox hb; have n0_ := Aside0.mk (below_step m11_ hb); have n1_ := Aside0.mk (hbox); have n2_ := Aside0.mk ((by rw [hg]; exact (below_size m11_) : w.heap.size ≤ gb255)); have n3_ := Aside0.mk ((by rw [hg]; exact (below_size m11_) : w.heap.size ≤ gb255)); clear HB; have HB := n0_; have BK255 := n1_; have GW255 := n2_; have GE255 := n3_; clear n0_ n1_ n2_ n3_; clear hb hbox hg; obtain ⟨hcz17_0, hcz17_1⟩ := bc2_ BK255.out; obtain ⟨hfz17_0, hfz17_1⟩ := bf2_ BK255.out))
  go_ret
  exact ⟨by first | rfl | (simp [errW_none, errW_some] <;> rfl) | (simp [*, errW_none, errW_some] <;> rfl), m35_⟩
 rw [if_neg c15] at H
 have c15b0 : (a5_0.toList == ([] : List UInt8) && (a5_1.toList == ([] : List UInt8))) = false := by simpa using c15
 (try (have c15b1 : decide (a5_0.toList = ([] : List UInt8) && (a5_1.toList == ([] : List UInt8))) = false := by simpa using c15))
 (try (have c15b2 : (a5_0.toList == ([] : List UInt8) && (a5_1.toList == ([] : List UInt8))) = false := by simpa using c15))
 have c15b4 : (a5_0.toList.isEmpty && a5_1.toList.isEmpty) = false := (fun {x_ y_ : List UInt8} {v_ : Bool} (h_ : (x_ == ([] : List UInt8) && (y_ == ([] : List UInt8))) = v_) => (show (x_.isEmpty && y_.isEmpty) = v_ by cases x_ <;> cases y_ <;> first | exact h_ | simpa using h_)) c15b2
 (try (have c15b3 : ¬ (a5_0.toList = ([] : List UInt8) && (a5_1.toList == ([] : List UInt8))) := by simpa using c15))
 clear c15
 obtain rfl := Option.some.inj H
 go_enter Tryd.func55, Tryd.ntmps55
 go_wp2_with (first | ((with_reducible refine gate_dst (N := 12) rfl ?_); (try (refine gate_guard (by rfl) ?_; dsimp only)); refine box_event ?hg (N := 12) ?hd (cs := #[.string a5_0, .string a5_1]) (t := 44) ?hr ?_; (case hd => rfl); (case hg => rfl); (case hr => first | (go_simp; done) | (go_simp; rfl)); intro gb255 hg w18 hbox hb; have n0_ := Aside0.mk (below_step m11_ hb); have n1_ := Aside0.mk (hbox); have n2_ := Aside0.mk ((by rw [hg]; exact (below_size m11_) : w.heap.size ≤ gb255)); have n3_ := Aside0.mk ((by rw [hg]; exact (below_size m11_) : w.heap.size ≤ gb255)); clear HB; have HB := n0_; have BK255 := n1_; have GW255 := n2_; have GE255 := n3_; clear n0_ n1_ n2_ n3_; clear hb hbox hg; obtain ⟨hcz19_0, hcz19_1⟩ := bc2_ BK255.out; obtain ⟨hfz19_0, hfz19_1⟩ := bf2_ BK255.out))
 go_ret
 exact ⟨by first | rfl | (simp [errW_none, errW_some] <;> rfl) | (simp [*, errW_none, errW_some] <;> rfl), m35_⟩

end Go.Proofs.YtdeggemomajhcaaDoorH.HMerkleAbsent
