-- PRINTED by print.py (a twelfth state) out of the translation. Not trusted: Lean checks it.
import Derived.Test.YtdeggemomajhcaaDoorHMerkleMissingx0
import Derived.Test.YtdeggemomajhcaaDoorHMerkleMissingx9
import Derived.Test.YtdeggemomajhcaaDoorHMerkleMissingx10
namespace Go.Proofs.YtdeggemomajhcaaDoorH.HMerkleMissing
open Go.RowKit Go.Proofs.YtdeggemomajhcaaDoorW.PrintWords Go.Proofs.YtdeggemomajhcaaDoorW.PrintLast Go.Proofs.YtdeggemomajhcaaDoorW.PrintMore
attribute [local go_sem] max2_int min2_int max_two min_two max_three min_three max_four min_four   -- for this text's walks alone
set_option linter.unusedVariables false
set_option linter.unusedSimpArgs false

/-! ### strongroomref20_up: function 50 -/
def strongroomref20_up.f : Nat → ByteArray → Int → Int → List ByteArray → Option (ByteArray)
 | 0, _, _, _, _ => none
 | k + 1, a0, a1, a2, l3 => if a1 = 1 then (some a0) else ((strongroomref20_cut.f k a1).bind fun t238 => (if a2 < t238 then (if 0 ≤ (wrap64 ((l3.length : Int) - 1)) then (if (wrap64 ((l3.length : Int) - 1)) ≤ (l3.length : Int) then ((strongroomref20_up.f k a0 t238 a2 (l3.take ((wrap64 ((l3.length : Int) - 1)) : Int).toNat)).bind fun t240 => (if 1 + t240.size ≤ 9223372036854775807 then (if (wrap64 ((l3.length : Int) - 1)) < (l3.length : Int) then (if ((⟨#[1]⟩ : ByteArray) ++ t240).size + (rdOf ByteArray.empty l3 (wrap64 ((l3.length : Int) - 1))).size ≤ 9223372036854775807 then ((strongroomref02_Sum.f (((⟨#[1]⟩ : ByteArray) ++ t240) ++ (rdOf ByteArray.empty l3 (wrap64 ((l3.length : Int) - 1))))).bind fun t242 => (some t242)) else (none)) else (none)) else (none))) else (none)) else (none)) else (if 0 ≤ (wrap64 ((l3.length : Int) - 1)) then (if (wrap64 ((l3.length : Int) - 1)) < (l3.length : Int) then (if 1 + (rdOf ByteArray.empty l3 (wrap64 ((l3.length : Int) - 1))).size ≤ 9223372036854775807 then (if (wrap64 ((l3.length : Int) - 1)) ≤ (l3.length : Int) then ((strongroomref20_up.f k a0 (wrap64 (a1 - t238)) (wrap64 (a2 - t238)) (l3.take ((wrap64 ((l3.length : Int) - 1)) : Int).toNat)).bind fun t245 => (if ((⟨#[1]⟩ : ByteArray) ++ (rdOf ByteArray.empty l3 (wrap64 ((l3.length : Int) - 1)))).size + t245.size ≤ 9223372036854775807 then ((strongroomref02_Sum.f (((⟨#[1]⟩ : ByteArray) ++ (rdOf ByteArray.empty l3 (wrap64 ((l3.length : Int) - 1)))) ++ t245)).bind fun t246 => (some t246)) else (none))) else (none)) else (none)) else (none)) else (none))))
theorem strongroomref20_up.mono_l : ∀ k, (∀ y0 y1 y2 y3, LeO (strongroomref20_up.f k y0 y1 y2 y3) (strongroomref20_up.f (k + 1) y0 y1 y2 y3))
 | 0 => fun _ _ _ _ r h => by simp [strongroomref20_up.f] at h
 | k + 1 => by
  have ih0 := strongroomref20_up.mono_l k
  ·intro y0 y1 y2 y3
   unfold strongroomref20_up.f
   repeat' first
   | (with_reducible exact ih0 _ _ _ _)
   | (with_reducible exact strongroomref20_cut.mono _ _)
   | (with_reducible exact LeO.refl _)
   | (with_reducible exact LeO.none _)
   | (with_reducible refine LeO.ite ?_ ?_)
   | (with_reducible refine LeO.bind ?_ (fun _ => ?_))
   | exact ih0 _ _ _ _
   | exact strongroomref20_cut.mono _ _
   | exact LeO.none _
   | refine LeO.ite ?_ ?_
   | refine LeO.bind ?_ (fun _ => ?_)
theorem strongroomref20_up.mono : ∀ a0 a1 a2 a3 k, LeO (strongroomref20_up.f k a0 a1 a2 a3) (strongroomref20_up.f (k + 1) a0 a1 a2 a3) := by
 intro a0 a1 a2 a3 k
 have ih0 := strongroomref20_up.mono_l k
 exact ih0 a0 a1 a2 a3
def strongroomref20_up.T5 : Bool × List (List Nat × List Nat) := (true, [([], []), ([], []), ([], []), ([], []), ([], []), ([3, 4], [3, 4]), ([0, 1, 2, 5], [0, 1, 2, 5]), ([6], [6]), ([], []), ([], []), ([8, 9], [8, 9]), ([10], [10]), ([7, 11], [7, 11]), ([12, 6], [12]), ([13, 13, 0, 1, 2, 3, 4, 5, 6, 7, 8, 9, 10, 11, 12, 13], [13])])
def strongroomref20_up.B5 : List Nat := [0, 0, 0, 0, 0, 24, 63, 127, 0, 0, 768, 1792, 4095, 8191, 16383]
theorem strongroomref20_up.tab5 : rtab .any (opsOf Tryd.f50 5) = strongroomref20_up.T5 := by kernel_rfl
theorem strongroomref20_up.bits5 : waitsOk strongroomref20_up.T5.2 strongroomref20_up.B5 = true := by kernel_rfl
def strongroomref20_up.T6 : Bool × List (List Nat × List Nat) := (true, [([], []), ([], []), ([0, 1], [0, 1]), ([2], [2]), ([3], [3]), ([], []), ([], []), ([], []), ([6, 7], [6, 7]), ([], []), ([], []), ([9, 10], [9, 10]), ([], []), ([], []), ([12, 13], [12, 13]), ([5, 8, 11, 14], [5, 8, 11, 14]), ([4, 15], [4, 15]), ([16, 15], [16]), ([17, 17, 0, 1, 2, 3, 4, 5, 6, 7, 8, 9, 10, 11, 12, 13, 14, 15, 16, 17], [17])])
def strongroomref20_up.B6 : List Nat := [0, 0, 3, 7, 15, 0, 0, 0, 192, 0, 0, 1536, 0, 0, 12288, 32736, 65535, 131071, 262143]
theorem strongroomref20_up.tab6 : rtab .any (opsOf Tryd.f50 6) = strongroomref20_up.T6 := by kernel_rfl
theorem strongroomref20_up.bits6 : waitsOk strongroomref20_up.T6.2 strongroomref20_up.B6 = true := by kernel_rfl
set_option maxHeartbeats 8000000 in
set_option maxRecDepth 100000 in
theorem strongroomref20_up.calls (k : Nat) : ∀ (a0 : ByteArray) (a1 : Int) (a2 : Int) (A3 : Option Addr) (c3 : Nat) (l3 : List ByteArray) (r : ByteArray) (w : World) (hr3 : Kd.C Kd.string w A3 l3.length l3) (hc3 : l3.length ≤ c3) (h : strongroomref20_up.f k a0 a1 a2 l3 = some r),
  Calls Tryd.prog 50 #[.string a0, .int .i64 a1, .int .i64 a2, .slice A3 l3.length c3] w fun e w' => e = .returned (.string r) ∧ Below w.heap.size w w' := by
 induction k using Nat.strongRecOn with
 | _ k ih =>
 intro a0 a1 a2 A3 c3 l3 r w hr3 hc3 h
 cases k with
 | zero => exact absurd h (by simp [strongroomref20_up.f])
 | succ k =>
 simp only [strongroomref20_up.f] at h
 have HR3 := Aside0.mk hr3
 have HC3 := Aside0.mk hc3
 clear hr3 hc3
 have HB := Aside0.mk (Below.refl w.heap.size w)
 have H : (if a1 = 1 then (some a0) else ((strongroomref20_cut.f k a1).bind fun t238 => (if a2 < t238 then (if 0 ≤ (wrap64 ((l3.length : Int) - 1)) then (if (wrap64 ((l3.length : Int) - 1)) ≤ (l3.length : Int) then ((strongroomref20_up.f k a0 t238 a2 (l3.take ((wrap64 ((l3.length : Int) - 1)) : Int).toNat)).bind fun t240 => (if 1 + t240.size ≤ 9223372036854775807 then (if (wrap64 ((l3.length : Int) - 1)) < (l3.length : Int) then (if ((⟨#[1]⟩ : ByteArray) ++ t240).size + (rdOf ByteArray.empty l3 (wrap64 ((l3.length : Int) - 1))).size ≤ 9223372036854775807 then ((strongroomref02_Sum.f (((⟨#[1]⟩ : ByteArray) ++ t240) ++ (rdOf ByteArray.empty l3 (wrap64 ((l3.length : Int) - 1))))).bind fun t242 => (some t242)) else (none)) else (none)) else (none))) else (none)) else (none)) else (if 0 ≤ (wrap64 ((l3.length : Int) - 1)) then (if (wrap64 ((l3.length : Int) - 1)) < (l3.length : Int) then (if 1 + (rdOf ByteArray.empty l3 (wrap64 ((l3.length : Int) - 1))).size ≤ 9223372036854775807 then (if (wrap64 ((l3.length : Int) - 1)) ≤ (l3.length : Int) then ((strongroomref20_up.f k a0 (wrap64 (a1 - t238)) (wrap64 (a2 - t238)) (l3.take ((wrap64 ((l3.length : Int) - 1)) : Int).toNat)).bind fun t245 => (if ((⟨#[1]⟩ : ByteArray) ++ (rdOf ByteArray.empty l3 (wrap64 ((l3.length : Int) - 1)))).size + t245.size ≤ 9223372036854775807 then ((strongroomref02_Sum.f (((⟨#[1]⟩ : ByteArray) ++ (rdOf ByteArray.empty l3 (wrap64 ((l3.length : Int) - 1)))) ++ t245)).bind fun t246 => (some t246)) else (none))) else (none)) else (none)) else (none)) else (none))))) = some r := h
 clear h
 by_cases c5 : a1 = 1
 ·rw [if_pos c5] at H
  have c5b0 : (a1 == 1) = true := beq_iff_eq.mpr c5
  have c5b1 : (a1 != 1) = false := bne_eq_false_iff_eq.mpr c5
  clear c5
  obtain rfl := Option.some.inj H
  go_enter Tryd.func50, Tryd.ntmps50
  go_wp2
  go_ret
  exact ⟨by first | rfl | (simp [errW_none, errW_some] <;> rfl) | (simp [*, errW_none, errW_some] <;> rfl), m32_⟩
 rw [if_neg c5] at H
 have c5b0 : (a1 == 1) = false := beq_eq_false_iff_ne.mpr c5
 have c5b1 : (a1 != 1) = true := bne_iff_ne.mpr c5
 replace H := Option.bind_eq_some_iff.mp H
 obtain ⟨t238, A60, H⟩ := H
 replace H : (if a2 < t238 then (if 0 ≤ (wrap64 ((l3.length : Int) - 1)) then (if (wrap64 ((l3.length : Int) - 1)) ≤ (l3.length : Int) then ((strongroomref20_up.f k a0 t238 a2 (l3.take ((wrap64 ((l3.length : Int) - 1)) : Int).toNat)).bind fun t240 => (if 1 + t240.size ≤ 9223372036854775807 then (if (wrap64 ((l3.length : Int) - 1)) < (l3.length : Int) then (if ((⟨#[1]⟩ : ByteArray) ++ t240).size + (rdOf ByteArray.empty l3 (wrap64 ((l3.length : Int) - 1))).size ≤ 9223372036854775807 then ((strongroomref02_Sum.f (((⟨#[1]⟩ : ByteArray) ++ t240) ++ (rdOf ByteArray.empty l3 (wrap64 ((l3.length : Int) - 1))))).bind fun t242 => (some t242)) else (none)) else (none)) else (none))) else (none)) else (none)) else (if 0 ≤ (wrap64 ((l3.length : Int) - 1)) then (if (wrap64 ((l3.length : Int) - 1)) < (l3.length : Int) then (if 1 + (rdOf ByteArray.empty l3 (wrap64 ((l3.length : Int) - 1))).size ≤ 9223372036854775807 then (if (wrap64 ((l3.length : Int) - 1)) ≤ (l3.length : Int) then ((strongroomref20_up.f k a0 (wrap64 (a1 - t238)) (wrap64 (a2 - t238)) (l3.take ((wrap64 ((l3.length : Int) - 1)) : Int).toNat)).bind fun t245 => (if ((⟨#[1]⟩ : ByteArray) ++ (rdOf ByteArray.empty l3 (wrap64 ((l3.length : Int) - 1)))).size + t245.size ≤ 9223372036854775807 then ((strongroomref02_Sum.f (((⟨#[1]⟩ : ByteArray) ++ (rdOf ByteArray.empty l3 (wrap64 ((l3.length : Int) - 1)))) ++ t245)).bind fun t246 => (some t246)) else (none))) else (none)) else (none)) else (none)) else (none))) = some r := H
 have A6 := Aside0.mk A60
 clear A60
 by_cases c7 : a2 < t238
 ·rw [if_pos c7] at H
  have c7b0 : decide (a2 < t238) = true := decide_eq_true c7
  clear c7
  obtain ⟨ji8, hji8⟩ : ∃ j_ : Int, (wrap64 ((l3.length : Int) - 1)) = j_ := ⟨_, rfl⟩
  replace H : (if 0 ≤ (ji8) then (if (ji8) ≤ (l3.length : Int) then ((strongroomref20_up.f k a0 t238 a2 (l3.take ((ji8) : Int).toNat)).bind fun t240 => (if 1 + t240.size ≤ 9223372036854775807 then (if (ji8) < (l3.length : Int) then (if ((⟨#[1]⟩ : ByteArray) ++ t240).size + (rdOf ByteArray.empty l3 (ji8)).size ≤ 9223372036854775807 then ((strongroomref02_Sum.f (((⟨#[1]⟩ : ByteArray) ++ t240) ++ (rdOf ByteArray.empty l3 (ji8)))).bind fun t242 => (some t242)) else (none)) else (none)) else (none))) else (none)) else (none)) = some r := by first | (rw [hji8] at H; exact H) | (simp only [hji8] at H ⊢; exact H)
  (try rw [hji8] at A6)
  have hji8w : (IntKind.i64.wrap ((l3.length : Int) - 1)) = ji8 := (i64_w _).trans hji8
  by_cases c9 : 0 ≤ (ji8)
  case neg =>
   rw [if_neg c9] at H
   exact absurd H (by simp)
  rw [if_pos c9] at H
  have c9b0 := eq_true c9
  have c9b1 : decide (0 ≤ (ji8)) = true := decide_eq_true c9
  clear c9
  by_cases c10 : (ji8) ≤ (l3.length : Int)
  case neg =>
   rw [if_neg c10] at H
   exact absurd H (by simp)
  rw [if_pos c10] at H
  have c10b0 := eq_true c10
  have c10b1 : decide ((ji8) ≤ (l3.length : Int)) = true := decide_eq_true c10
  clear c10
  replace H := Option.bind_eq_some_iff.mp H
  obtain ⟨t240, A110, H⟩ := H
  replace H : (if 1 + t240.size ≤ 9223372036854775807 then (if (ji8) < (l3.length : Int) then (if ((⟨#[1]⟩ : ByteArray) ++ t240).size + (rdOf ByteArray.empty l3 (ji8)).size ≤ 9223372036854775807 then ((strongroomref02_Sum.f (((⟨#[1]⟩ : ByteArray) ++ t240) ++ (rdOf ByteArray.empty l3 (ji8)))).bind fun t242 => (some t242)) else (none)) else (none)) else (none)) = some r := H
  have A11 := Aside0.mk A110
  clear A110
  by_cases c12 : 1 + t240.size ≤ 9223372036854775807
  case neg =>
   rw [if_neg c12] at H
   exact absurd H (by simp)
  rw [if_pos c12] at H
  have c12b0 := eq_true c12
  have c12b1 : decide (1 + t240.size ≤ 9223372036854775807) = true := decide_eq_true c12
  try have c12b2 : (9223372036854775807 < 1 + t240.size) = False := eq_false (Nat.not_lt.2 c12)
  by_cases c13 : (ji8) < (l3.length : Int)
  case neg =>
   rw [if_neg c13] at H
   exact absurd H (by simp)
  rw [if_pos c13] at H
  have c13b0 : decide ((ji8) < (l3.length : Int)) = true := decide_eq_true c13
  clear c13
  by_cases c14 : ((⟨#[1]⟩ : ByteArray) ++ t240).size + (rdOf ByteArray.empty l3 (ji8)).size ≤ 9223372036854775807
  case neg =>
   rw [if_neg c14] at H
   exact absurd H (by simp)
  rw [if_pos c14] at H
  have c14b0 := eq_true c14
  have c14b1 : decide (((⟨#[1]⟩ : ByteArray) ++ t240).size + (rdOf ByteArray.empty l3 (ji8)).size ≤ 9223372036854775807) = true := decide_eq_true c14
  try have c14b2 : (9223372036854775807 < ((⟨#[1]⟩ : ByteArray) ++ t240).size + (rdOf ByteArray.empty l3 (ji8)).size) = False := eq_false (Nat.not_lt.2 c14)
  try (have c14b3 := c14b2; simp only [ByteArray.size_append, show ((⟨#[0]⟩ : ByteArray)).size = 1 from rfl, show ((⟨#[1]⟩ : ByteArray)).size = 1 from rfl, show ((⟨#[2]⟩ : ByteArray)).size = 1 from rfl] at c14b3)
  replace H := Option.bind_eq_some_iff.mp H
  obtain ⟨t242, A150, H⟩ := H
  replace H : (some t242) = some r := H
  have A15 := Aside0.mk A150
  clear A150
  obtain rfl := Option.some.inj H
  go_enter Tryd.func50, Tryd.ntmps50
  try go_wp2_with (first | ((with_reducible refine gate_callee (f := 46) rfl ?_); refine goesL_ (some 15) rfl rfl Tryd.func46 (by kernel_rfl) rfl #[.int .i64 a1] rfl m8_ ?_; (with_reducible refine (strongroomref20_cut.calls k a1 t238 _ A6.out).mono ?_); rintro e w' ⟨rfl, ⟨nd, rfl⟩⟩; refine ⟨_, rfl, ?_⟩))
  have n0_ := Aside0.mk (below_drew1 HB.out)
  clear HB
  have HB := n0_
  clear n0_
  obtain ⟨i017, hi017, _, hsz17, _⟩ := info_parts info9
  obtain ⟨hcut17, hA17, hC17⟩ := print_take_of (P := Tryd.prog) Value.string (⟨#[]⟩ : ByteArray) 32 9 .i64 Tryd.underlying32 hi017 hsz17 A3 c3 l3 (ji8) (of_decide_eq_true m15_) (of_decide_eq_true m15_) HC3.out
  have HR239 := Aside0.mk (Kd.C_of_reads (h1 := fun _ => rfl) (hA17 _ (Kd.reads_of_C HR3.out)))
  have HC239 := Aside0.mk hC17
  clear hA17 hC17 hi017 hsz17
  have p241 : 0 ≤ ((ji8) : Int) := of_decide_eq_true m15_
  have q241 : (ji8) < (l3.length : Int) := of_decide_eq_true m15_
  obtain ⟨ad241, e241, hx241_0⟩ := Kd.at_string HR3.out (ji8) p241 q241
  have hw241_0 := hx241_0
  cases e241
  replace hx241_0 := (HB.out.cell (World.block_lt_of_cell? w _ hx241_0)).trans hx241_0
  replace p241 := eq_true p241
  replace q241 := eq_true q241
  refine start_ (n := 15) (S := fun w' => w'.cell? (ad241.add ((ji8)).toNat) = some (.string (rdOf ByteArray.empty l3 (ji8)))) (ds := []) (Ra_ [0, 15]) (by kernel_rfl) rfl rfl (((HB.out.cell (World.block_lt_of_cell? w _ hw241_0)).trans hw241_0)) (fun hHeld => ?_); refine with_tabW strongroomref20_up.tab5 strongroomref20_up.bits5 (fun HT_ HW_ => ?_)
  generalize w.drew = w16 at HB HR239 hx241_0 hHeld ⊢
  refine pure_ (i := 0) (N := some 22) (v := ?_) (a' := ?_) (Ra_ [1, 14]) rfl rfl (any_of HT_.out (by kernel_rfl)) (fun _ _ _ h => h) (Or.inl ⟨by rfl, ?_⟩) ?_ ?_
  rotate_left
  ·intro w'
   go_simp
   with_reducible rfl
  rotate_left
  ·simp only [Act.put, sA_, sB_, sC_, i64_w, i32_w]
   rfl
  refine pure_ (i := 1) (N := some 23) (v := ?_) (a' := ?_) (Ra_ [2, 13]) rfl rfl (any_of HT_.out (by kernel_rfl)) (fun _ _ _ h => h) (Or.inl ⟨by rfl, ?_⟩) ?_ ?_
  rotate_left
  ·intro w'
   go_simp
   with_reducible rfl
  rotate_left
  ·simp only [Act.put, sA_, sB_, sC_, i64_w, i32_w]
   rfl
  refine pure_ (i := 2) (N := some 24) (v := ?_) (a' := ?_) (Ra_ [3, 12]) rfl rfl (any_of HT_.out (by kernel_rfl)) (fun _ _ _ h => h) (Or.inl ⟨by rfl, ?_⟩) ?_ ?_
  rotate_left
  ·intro w'
   go_simp
   with_reducible rfl
  rotate_left
  ·simp only [Act.put, sA_, sB_, sC_, i64_w, i32_w]
   rfl
  refine pure_ (i := 3) (N := some 25) (v := ?_) (a' := ?_) (Ra_ [4, 11]) rfl rfl (any_of HT_.out (by kernel_rfl)) (fun _ _ _ h => h) (Or.inl ⟨by rfl, ?_⟩) ?_ ?_
  rotate_left
  ·intro w'
   go_simp
   with_reducible rfl
  rotate_left
  ·simp only [Act.put, sA_, sB_, sC_, i64_w, i32_w]
   rfl
  refine pure_ (i := 4) (N := some 26) (v := ?_) (a' := ?_) (Ra_ [5, 10]) rfl rfl (any_of HT_.out (by kernel_rfl)) (fun _ _ _ h => h) (Or.inl ⟨by rfl, ?_⟩) ?_ ?_
  rotate_left
  ·intro w'
   go_simp
   with_reducible rfl
  rotate_left
  ·simp only [Act.put, sA_, sB_, sC_, i64_w, i32_w]
   rfl
  refine pure_ (i := 5) (N := some 27) (v := ?_) (a' := ?_) (Ra_ [6, 9]) rfl rfl (any_of HT_.out (by kernel_rfl)) (fun _ _ _ h => h) (Or.inl ⟨by rfl, ?_⟩) ?_ ?_
  rotate_left
  ·intro w'
   go_simp
   with_reducible rfl
  rotate_left
  ·simp only [Act.put, sA_, sB_, sC_, i64_w, i32_w]
   rfl
  refine pure_ (i := 8) (N := some 30) (v := ?_) (a' := ?_) (Ra_ [6, 2, 1, 6]) rfl rfl (any_of HT_.out (by kernel_rfl)) (fun _ _ _ h => h) (Or.inl ⟨by rfl, ?_⟩) ?_ ?_
  rotate_left
  ·intro w'
   go_simp
   with_reducible rfl
  rotate_left
  ·simp only [Act.put, sA_, sB_, sC_, i64_w, i32_w]
   rfl
  refine pure_ (i := 9) (N := some 31) (v := ?_) (a' := ?_) (Ra_ [6, 2, 2, 5]) rfl rfl (any_of HT_.out (by kernel_rfl)) (fun _ _ _ h => h) (Or.inl ⟨by rfl, ?_⟩) ?_ ?_
  rotate_left
  ·intro w'
   go_simp
   with_reducible rfl
  rotate_left
  ·simp only [Act.put, sA_, sB_, sC_, i64_w, i32_w]
   rfl
  refine pure_ (i := 10) (N := some 32) (v := ?_) (a' := ?_) (Ra_ [6, 2, 3, 4]) rfl rfl (any_of HT_.out (by kernel_rfl)) (fun _ _ _ h => h) (Or.inl ⟨by rfl, ?_⟩) ?_ ?_
  rotate_left
  ·intro w'
   go_simp
   with_reducible rfl
  rotate_left
  ·simp only [Act.put, sA_, sB_, sC_, i64_w, i32_w]
   rfl
  refine take_ (i := 11) (N := some 33) (v := ?_) (a' := ?_) (Ra_ [6, 2, 4, 3]) rfl rfl (take_ofW HT_.out HW_.out (by kernel_rfl)) (fun _ _ _ h => h) (Or.inl ⟨by rfl, ?_⟩) hHeld ?_ ?_
  rotate_left
  ·intro w' s0
   go_simp
   with_reducible rfl
  rotate_left
  ·simp only [Act.put, sA_, sB_, sC_, i64_w, i32_w]
   rfl
  refine one_ (i := 6) (N := some 28) (Ra_ [7, 1, 4, 3]) rfl rfl (one_of HT_.out (by kernel_rfl)) (by decide) (fun K hK => ?_)
  refine goes_ Tryd.func50 (by kernel_rfl) rfl #[.string a0, .int .i64 t238, .int .i64 a2, .slice (some ad241) (l3.take ((ji8) : Int).toNat).length c3] (by rfl) rfl rfl (by (try simp only [List.map_toArray, List.map_cons, List.map_nil]); first | done | (rw [show (l3.take ((ji8) : Int).toNat).length = (ji8).toNat from (by rw [List.length_take]; have h_ : ((ji8) : Int) ≤ (l3.length : Int) := of_decide_eq_true m15_; omega)] <;> rfl) | (simp only [hji8]; rfl) | rfl | (simp only [List.length_drop, List.length_take]; rfl)) ?_
  with_reducible refine (ih k (by omega) a0 t238 a2 _ _ (l3.take ((ji8) : Int).toNat) t240 _ ?side1 ?side2 A11.out).mono ?_
  (case side1 => repeat (first | exact (Kd.C_below HR239.out HB.out) | exact HR239.out | (with_reducible refine Kd.C_alloc ?_ _) | (with_reducible refine Kd.C_drewN ?_ _) | (with_reducible refine Kd.C_drew ?_)))
  (case side2 => exact HC239.out)
  rintro e w18 ⟨rfl, hb⟩
  refine ⟨_, rfl, ?_⟩
  have n0_ := Aside0.mk (below_step m7_ hb)
  clear HB
  have HB := n0_
  clear n0_
  (try clear hb)
  (try clear hb2)
  (try clear hk)
  (try clear hi)
  refine hK.out _ _ (((HB.out.cell (World.block_lt_of_cell? w _ hw241_0)).trans hw241_0)) (fun hHeld => ?_)
  clear hK K
  refine norm_ (a' := ?_) ?_ ?_
  rotate_left
  ·show Act.put _ (some 28) _ = _
   simp only [Act.put, sA_, sB_, sC_, i64_w, i32_w]
   rfl
  refine pure_ (i := 7) (N := some 29) (v := ?_) (a' := ?_) (Ra_ [12, 3]) rfl rfl (any_of HT_.out (by kernel_rfl)) (fun _ _ _ h => h) (Or.inl ⟨by rfl, ?_⟩) ?_ ?_
  rotate_left
  ·intro w'
   go_simp
   with_reducible rfl
  rotate_left
  ·simp only [Act.put, sA_, sB_, sC_, i64_w, i32_w]
   rfl
  refine pure_ (i := 12) (N := some 34) (v := ?_) (a' := ?_) (Ra_ [13, 2]) rfl rfl (any_of HT_.out (by kernel_rfl)) (fun _ _ _ h => h) (Or.inl ⟨by rfl, ?_⟩) ?_ ?_
  rotate_left
  ·intro w'
   go_simp
   with_reducible rfl
  rotate_left
  ·simp only [Act.put, sA_, sB_, sC_, i64_w, i32_w]
   rfl
  refine one_ (i := 13) (N := some 35) (Ra_ [14, 1]) rfl rfl (one_of HT_.out (by kernel_rfl)) (by decide) (fun K hK => ?_)
  refine goes_ Tryd.func44 (by kernel_rfl) rfl #[.string (((⟨#[1]⟩ : ByteArray) ++ t240) ++ (rdOf ByteArray.empty l3 (ji8)))] (by rfl) rfl rfl (by (try simp only [List.map_toArray, List.map_cons, List.map_nil]); first | done | (simp only [hji8]; rfl) | rfl | (simp only [List.length_drop, List.length_take]; rfl)) ?_
  with_reducible refine (strongroomref02_Sum.calls (((⟨#[1]⟩ : ByteArray) ++ t240) ++ (rdOf ByteArray.empty l3 (ji8))) t242 _ A15.out).mono ?_
  rintro e w19 ⟨rfl, hb⟩
  refine ⟨_, rfl, ?_⟩
  have n0_ := Aside0.mk (below_step m7_ hb)
  clear HB
  have HB := n0_
  clear n0_
  (try clear hb)
  (try clear hb2)
  (try clear hk)
  (try clear hi)
  refine hK.out _ _ (((HB.out.cell (World.block_lt_of_cell? w _ hw241_0)).trans hw241_0)) (fun hHeld => ?_)
  clear hK K
  refine norm_ (a' := ?_) ?_ ?_
  rotate_left
  ·show Act.put _ (some 35) _ = _
   simp only [Act.put, sA_, sB_, sC_, i64_w, i32_w]
   rfl
  refine pure_ (i := 14) (N := some 8) (v := ?_) (a' := ?_) (Ra_ [15]) rfl rfl (any_of HT_.out (by kernel_rfl)) (fun _ _ _ h => h) (Or.inl ⟨by rfl, ?_⟩) ?_ ?_
  rotate_left
  ·intro w'
   go_simp
   with_reducible rfl
  rotate_left
  ·simp only [Act.put, sA_, sB_, sC_, i64_w, i32_w]
   rfl
  refine done_ (done_of HT_.out (by kernel_rfl)) ?_
  try go_wp2
  go_ret
  exact ⟨by first | rfl | (simp [errW_none, errW_some] <;> rfl) | (simp only [← hji8]; first | rfl | (simp [errW_none, errW_some] <;> rfl)) | (simp [*, errW_none, errW_some] <;> rfl), m32_⟩
 rw [if_neg c7] at H
 have c7b0 : decide (a2 < t238) = false := decide_eq_false c7
 clear c7
 obtain ⟨ji20, hji20⟩ : ∃ j_ : Int, (wrap64 ((l3.length : Int) - 1)) = j_ := ⟨_, rfl⟩
 replace H : (if 0 ≤ (ji20) then (if (ji20) < (l3.length : Int) then (if 1 + (rdOf ByteArray.empty l3 (ji20)).size ≤ 9223372036854775807 then (if (ji20) ≤ (l3.length : Int) then ((strongroomref20_up.f k a0 (wrap64 (a1 - t238)) (wrap64 (a2 - t238)) (l3.take ((ji20) : Int).toNat)).bind fun t245 => (if ((⟨#[1]⟩ : ByteArray) ++ (rdOf ByteArray.empty l3 (ji20))).size + t245.size ≤ 9223372036854775807 then ((strongroomref02_Sum.f (((⟨#[1]⟩ : ByteArray) ++ (rdOf ByteArray.empty l3 (ji20))) ++ t245)).bind fun t246 => (some t246)) else (none))) else (none)) else (none)) else (none)) else (none)) = some r := by first | (rw [hji20] at H; exact H) | (simp only [hji20] at H ⊢; exact H)
 (try rw [hji20] at A6)
 have hji20w : (IntKind.i64.wrap ((l3.length : Int) - 1)) = ji20 := (i64_w _).trans hji20
 by_cases c21 : 0 ≤ (ji20)
 case neg =>
  rw [if_neg c21] at H
  exact absurd H (by simp)
 rw [if_pos c21] at H
 have c21b0 : decide (0 ≤ (ji20)) = true := decide_eq_true c21
 clear c21
 by_cases c22 : (ji20) < (l3.length : Int)
 case neg =>
  rw [if_neg c22] at H
  exact absurd H (by simp)
 rw [if_pos c22] at H
 have c22b0 : decide ((ji20) < (l3.length : Int)) = true := decide_eq_true c22
 clear c22
 by_cases c23 : 1 + (rdOf ByteArray.empty l3 (ji20)).size ≤ 9223372036854775807
 case neg =>
  rw [if_neg c23] at H
  exact absurd H (by simp)
 rw [if_pos c23] at H
 have c23b0 := eq_true c23
 have c23b1 : decide (1 + (rdOf ByteArray.empty l3 (ji20)).size ≤ 9223372036854775807) = true := decide_eq_true c23
 try have c23b2 : (9223372036854775807 < 1 + (rdOf ByteArray.empty l3 (ji20)).size) = False := eq_false (Nat.not_lt.2 c23)
 have c24b0 := eq_true (of_decide_eq_true m15_ : 0 ≤ (ji20))
 by_cases c25 : (ji20) ≤ (l3.length : Int)
 case neg =>
  rw [if_neg c25] at H
  exact absurd H (by simp)
 rw [if_pos c25] at H
 have c25b0 := eq_true c25
 have c25b1 : decide ((ji20) ≤ (l3.length : Int)) = true := decide_eq_true c25
 clear c25
 replace H := Option.bind_eq_some_iff.mp H
 obtain ⟨t245, A260, H⟩ := H
 replace H : (if ((⟨#[1]⟩ : ByteArray) ++ (rdOf ByteArray.empty l3 (ji20))).size + t245.size ≤ 9223372036854775807 then ((strongroomref02_Sum.f (((⟨#[1]⟩ : ByteArray) ++ (rdOf ByteArray.empty l3 (ji20))) ++ t245)).bind fun t246 => (some t246)) else (none)) = some r := H
 have A26 := Aside0.mk A260
 clear A260
 by_cases c27 : ((⟨#[1]⟩ : ByteArray) ++ (rdOf ByteArray.empty l3 (ji20))).size + t245.size ≤ 9223372036854775807
 case neg =>
  rw [if_neg c27] at H
  exact absurd H (by simp)
 rw [if_pos c27] at H
 have c27b0 := eq_true c27
 have c27b1 : decide (((⟨#[1]⟩ : ByteArray) ++ (rdOf ByteArray.empty l3 (ji20))).size + t245.size ≤ 9223372036854775807) = true := decide_eq_true c27
 try have c27b2 : (9223372036854775807 < ((⟨#[1]⟩ : ByteArray) ++ (rdOf ByteArray.empty l3 (ji20))).size + t245.size) = False := eq_false (Nat.not_lt.2 c27)
 try (have c27b3 := c27b2; simp only [ByteArray.size_append, show ((⟨#[0]⟩ : ByteArray)).size = 1 from rfl, show ((⟨#[1]⟩ : ByteArray)).size = 1 from rfl, show ((⟨#[2]⟩ : ByteArray)).size = 1 from rfl] at c27b3)
 replace H := Option.bind_eq_some_iff.mp H
 obtain ⟨t246, A280, H⟩ := H
 replace H : (some t246) = some r := H
 have A28 := Aside0.mk A280
 clear A280
 obtain rfl := Option.some.inj H
 go_enter Tryd.func50, Tryd.ntmps50
 try go_wp2_with (first | ((with_reducible refine gate_callee (f := 46) rfl ?_); refine goesL_ (some 15) rfl rfl Tryd.func46 (by kernel_rfl) rfl #[.int .i64 a1] rfl m8_ ?_; (with_reducible refine (strongroomref20_cut.calls k a1 t238 _ A6.out).mono ?_); rintro e w' ⟨rfl, ⟨nd, rfl⟩⟩; refine ⟨_, rfl, ?_⟩))
 have n0_ := Aside0.mk (below_drew1 HB.out)
 clear HB
 have HB := n0_
 clear n0_
 have p243 : 0 ≤ ((ji20) : Int) := of_decide_eq_true m15_
 have q243 : (ji20) < (l3.length : Int) := of_decide_eq_true m15_
 obtain ⟨ad243, e243, hx243_0⟩ := Kd.at_string HR3.out (ji20) p243 q243
 have hw243_0 := hx243_0
 cases e243
 replace hx243_0 := (HB.out.cell (World.block_lt_of_cell? w _ hx243_0)).trans hx243_0
 replace p243 := eq_true p243
 replace q243 := eq_true q243
 obtain ⟨i030, hi030, _, hsz30, _⟩ := info_parts info9
 obtain ⟨hcut30, hA30, hC30⟩ := print_take_of (P := Tryd.prog) Value.string (⟨#[]⟩ : ByteArray) 32 9 .i64 Tryd.underlying32 hi030 hsz30 (some ad243) c3 l3 (ji20) (of_decide_eq_true m15_) (of_decide_eq_true m15_) HC3.out
 have HR244 := Aside0.mk (Kd.C_of_reads (h1 := fun _ => rfl) (hA30 _ (Kd.reads_of_C HR3.out)))
 have HC244 := Aside0.mk hC30
 clear hA30 hC30 hi030 hsz30
 refine start_ (n := 19) (S := fun w' => w'.cell? (ad243.add ((ji20)).toNat) = some (.string (rdOf ByteArray.empty l3 (ji20)))) (ds := []) (Ra_ [0, 19]) (by kernel_rfl) rfl rfl (((HB.out.cell (World.block_lt_of_cell? w _ hw243_0)).trans hw243_0)) (fun hHeld => ?_); refine with_tabW strongroomref20_up.tab6 strongroomref20_up.bits6 (fun HT_ HW_ => ?_)
 generalize w.drew = w29 at HB HR244 hx243_0 hHeld ⊢
 refine pure_ (i := 0) (N := some 36) (v := ?_) (a' := ?_) (Ra_ [1, 18]) rfl rfl (any_of HT_.out (by kernel_rfl)) (fun _ _ _ h => h) (Or.inl ⟨by rfl, ?_⟩) ?_ ?_
 rotate_left
 ·intro w'
  go_simp
  with_reducible rfl
 rotate_left
 ·simp only [Act.put, sA_, sB_, sC_, i64_w, i32_w]
  rfl
 refine pure_ (i := 1) (N := some 37) (v := ?_) (a' := ?_) (Ra_ [2, 17]) rfl rfl (any_of HT_.out (by kernel_rfl)) (fun _ _ _ h => h) (Or.inl ⟨by rfl, ?_⟩) ?_ ?_
 rotate_left
 ·intro w'
  go_simp
  with_reducible rfl
 rotate_left
 ·simp only [Act.put, sA_, sB_, sC_, i64_w, i32_w]
  rfl
 refine pure_ (i := 2) (N := some 38) (v := ?_) (a' := ?_) (Ra_ [3, 16]) rfl rfl (any_of HT_.out (by kernel_rfl)) (fun _ _ _ h => h) (Or.inl ⟨by rfl, ?_⟩) ?_ ?_
 rotate_left
 ·intro w'
  go_simp
  with_reducible rfl
 rotate_left
 ·simp only [Act.put, sA_, sB_, sC_, i64_w, i32_w]
  rfl
 refine pure_ (i := 5) (N := some 41) (v := ?_) (a' := ?_) (Ra_ [3, 2, 1, 13]) rfl rfl (any_of HT_.out (by kernel_rfl)) (fun _ _ _ h => h) (Or.inl ⟨by rfl, ?_⟩) ?_ ?_
 rotate_left
 ·intro w'
  go_simp
  with_reducible rfl
 rotate_left
 ·simp only [Act.put, sA_, sB_, sC_, i64_w, i32_w]
  rfl
 refine pure_ (i := 6) (N := some 42) (v := ?_) (a' := ?_) (Ra_ [3, 2, 2, 12]) rfl rfl (any_of HT_.out (by kernel_rfl)) (fun _ _ _ h => h) (Or.inl ⟨by rfl, ?_⟩) ?_ ?_
 rotate_left
 ·intro w'
  go_simp
  with_reducible rfl
 rotate_left
 ·simp only [Act.put, sA_, sB_, sC_, i64_w, i32_w]
  rfl
 refine pure_ (i := 7) (N := some 43) (v := ?_) (a' := ?_) (Ra_ [3, 2, 3, 11]) rfl rfl (any_of HT_.out (by kernel_rfl)) (fun _ _ _ h => h) (Or.inl ⟨by rfl, ?_⟩) ?_ ?_
 rotate_left
 ·intro w'
  go_simp
  with_reducible rfl
 rotate_left
 ·simp only [Act.put, sA_, sB_, sC_, i64_w, i32_w]
  rfl
 refine pure_ (i := 8) (N := some 44) (v := ?_) (a' := ?_) (Ra_ [3, 2, 4, 10]) rfl rfl (any_of HT_.out (by kernel_rfl)) (fun _ _ _ h => h) (Or.inl ⟨by rfl, ?_⟩) ?_ ?_
 rotate_left
 ·intro w'
  go_simp
  with_reducible rfl
 rotate_left
 ·simp only [Act.put, sA_, sB_, sC_, i64_w, i32_w]
  rfl
 refine pure_ (i := 9) (N := some 45) (v := ?_) (a' := ?_) (Ra_ [3, 2, 5, 9]) rfl rfl (any_of HT_.out (by kernel_rfl)) (fun _ _ _ h => h) (Or.inl ⟨by rfl, ?_⟩) ?_ ?_
 rotate_left
 ·intro w'
  go_simp
  with_reducible rfl
 rotate_left
 ·simp only [Act.put, sA_, sB_, sC_, i64_w, i32_w]
  rfl
 refine pure_ (i := 10) (N := some 46) (v := ?_) (a' := ?_) (Ra_ [3, 2, 6, 8]) rfl rfl (any_of HT_.out (by kernel_rfl)) (fun _ _ _ h => h) (Or.inl ⟨by rfl, ?_⟩) ?_ ?_
 rotate_left
 ·intro w'
  go_simp
  with_reducible rfl
 rotate_left
 ·simp only [Act.put, sA_, sB_, sC_, i64_w, i32_w]
  rfl
 refine pure_ (i := 11) (N := some 47) (v := ?_) (a' := ?_) (Ra_ [3, 2, 7, 7]) rfl rfl (any_of HT_.out (by kernel_rfl)) (fun _ _ _ h => h) (Or.inl ⟨by rfl, ?_⟩) ?_ ?_
 rotate_left
 ·intro w'
  go_simp
  with_reducible rfl
 rotate_left
 ·simp only [Act.put, sA_, sB_, sC_, i64_w, i32_w]
  rfl
 refine pure_ (i := 12) (N := some 48) (v := ?_) (a' := ?_) (Ra_ [3, 2, 8, 6]) rfl rfl (any_of HT_.out (by kernel_rfl)) (fun _ _ _ h => h) (Or.inl ⟨by rfl, ?_⟩) ?_ ?_
 rotate_left
 ·intro w'
  go_simp
  with_reducible rfl
 rotate_left
 ·simp only [Act.put, sA_, sB_, sC_, i64_w, i32_w]
  rfl
 refine pure_ (i := 13) (N := some 49) (v := ?_) (a' := ?_) (Ra_ [3, 2, 9, 5]) rfl rfl (any_of HT_.out (by kernel_rfl)) (fun _ _ _ h => h) (Or.inl ⟨by rfl, ?_⟩) ?_ ?_
 rotate_left
 ·intro w'
  go_simp
  with_reducible rfl
 rotate_left
 ·simp only [Act.put, sA_, sB_, sC_, i64_w, i32_w]
  rfl
 refine pure_ (i := 14) (N := some 50) (v := ?_) (a' := ?_) (Ra_ [3, 2, 10, 4]) rfl rfl (any_of HT_.out (by kernel_rfl)) (fun _ _ _ h => h) (Or.inl ⟨by rfl, ?_⟩) ?_ ?_
 rotate_left
 ·intro w'
  go_simp
  with_reducible rfl
 rotate_left
 ·simp only [Act.put, sA_, sB_, sC_, i64_w, i32_w]
  rfl
 refine take_ (i := 3) (N := some 39) (v := ?_) (a' := ?_) (Ra_ [4, 1, 10, 4]) rfl rfl (take_ofW HT_.out HW_.out (by kernel_rfl)) (fun _ _ _ h => h) (Or.inl ⟨by rfl, ?_⟩) hHeld ?_ ?_
 rotate_left
 ·intro w' s0
  go_simp
  with_reducible rfl
 rotate_left
 ·simp only [Act.put, sA_, sB_, sC_, i64_w, i32_w]
  rfl
 refine pure_ (i := 4) (N := some 40) (v := ?_) (a' := ?_) (Ra_ [15, 4]) rfl rfl (any_of HT_.out (by kernel_rfl)) (fun _ _ _ h => h) (Or.inl ⟨by rfl, ?_⟩) ?_ ?_
 rotate_left
 ·intro w'
  go_simp
  with_reducible rfl
 rotate_left
 ·simp only [Act.put, sA_, sB_, sC_, i64_w, i32_w]
  rfl
 refine one_ (i := 15) (N := some 51) (Ra_ [16, 3]) rfl rfl (one_of HT_.out (by kernel_rfl)) (by decide) (fun K hK => ?_)
 refine goes_ Tryd.func50 (by kernel_rfl) rfl #[.string a0, .int .i64 (wrap64 (a1 - t238)), .int .i64 (wrap64 (a2 - t238)), .slice (some ad243) (l3.take ((ji20) : Int).toNat).length c3] (by rfl) rfl rfl (by (try simp only [List.map_toArray, List.map_cons, List.map_nil]); first | done | (rw [show (l3.take ((ji20) : Int).toNat).length = (ji20).toNat from (by rw [List.length_take]; have h_ : ((ji20) : Int) ≤ (l3.length : Int) := of_decide_eq_true m15_; omega)] <;> rfl) | (simp only [hji20]; rfl) | rfl | (simp only [List.length_drop, List.length_take]; rfl)) ?_
 with_reducible refine (ih k (by omega) a0 (wrap64 (a1 - t238)) (wrap64 (a2 - t238)) _ _ (l3.take ((ji20) : Int).toNat) t245 _ ?side1 ?side2 A26.out).mono ?_
 (case side1 => repeat (first | exact (Kd.C_below HR244.out HB.out) | exact HR244.out | (with_reducible refine Kd.C_alloc ?_ _) | (with_reducible refine Kd.C_drewN ?_ _) | (with_reducible refine Kd.C_drew ?_)))
 (case side2 => exact HC244.out)
 rintro e w31 ⟨rfl, hb⟩
 refine ⟨_, rfl, ?_⟩
 have n0_ := Aside0.mk (below_step m7_ hb)
 clear HB
 have HB := n0_
 clear n0_
 (try clear hb)
 (try clear hb2)
 (try clear hk)
 (try clear hi)
 refine hK.out _ _ (((HB.out.cell (World.block_lt_of_cell? w _ hw243_0)).trans hw243_0)) (fun hHeld => ?_)
 clear hK K
 refine norm_ (a' := ?_) ?_ ?_
 rotate_left
 ·show Act.put _ (some 51) _ = _
  simp only [Act.put, sA_, sB_, sC_, i64_w, i32_w]
  rfl
 refine pure_ (i := 16) (N := some 52) (v := ?_) (a' := ?_) (Ra_ [17, 2]) rfl rfl (any_of HT_.out (by kernel_rfl)) (fun _ _ _ h => h) (Or.inl ⟨by rfl, ?_⟩) ?_ ?_
 rotate_left
 ·intro w'
  go_simp
  with_reducible rfl
 rotate_left
 ·simp only [Act.put, sA_, sB_, sC_, i64_w, i32_w]
  rfl
 refine one_ (i := 17) (N := some 53) (Ra_ [18, 1]) rfl rfl (one_of HT_.out (by kernel_rfl)) (by decide) (fun K hK => ?_)
 refine goes_ Tryd.func44 (by kernel_rfl) rfl #[.string (((⟨#[1]⟩ : ByteArray) ++ (rdOf ByteArray.empty l3 (ji20))) ++ t245)] (by rfl) rfl rfl (by (try simp only [List.map_toArray, List.map_cons, List.map_nil]); first | done | (simp only [hji20]; rfl) | rfl | (simp only [List.length_drop, List.length_take]; rfl)) ?_
 with_reducible refine (strongroomref02_Sum.calls (((⟨#[1]⟩ : ByteArray) ++ (rdOf ByteArray.empty l3 (ji20))) ++ t245) t246 _ A28.out).mono ?_
 rintro e w32 ⟨rfl, hb⟩
 refine ⟨_, rfl, ?_⟩
 have n0_ := Aside0.mk (below_step m7_ hb)
 clear HB
 have HB := n0_
 clear n0_
 (try clear hb)
 (try clear hb2)
 (try clear hk)
 (try clear hi)
 refine hK.out _ _ (((HB.out.cell (World.block_lt_of_cell? w _ hw243_0)).trans hw243_0)) (fun hHeld => ?_)
 clear hK K
 refine norm_ (a' := ?_) ?_ ?_
 rotate_left
 ·show Act.put _ (some 53) _ = _
  simp only [Act.put, sA_, sB_, sC_, i64_w, i32_w]
  rfl
 refine pure_ (i := 18) (N := some 8) (v := ?_) (a' := ?_) (Ra_ [19]) rfl rfl (any_of HT_.out (by kernel_rfl)) (fun _ _ _ h => h) (Or.inl ⟨by rfl, ?_⟩) ?_ ?_
 rotate_left
 ·intro w'
  go_simp
  with_reducible rfl
 rotate_left
 ·simp only [Act.put, sA_, sB_, sC_, i64_w, i32_w]
  rfl
 refine done_ (done_of HT_.out (by kernel_rfl)) ?_
 try go_wp2
 go_ret
 exact ⟨by first | rfl | (simp [errW_none, errW_some] <;> rfl) | (simp only [← hji20]; first | rfl | (simp [errW_none, errW_some] <;> rfl)) | (simp [*, errW_none, errW_some] <;> rfl), m32_⟩

end Go.Proofs.YtdeggemomajhcaaDoorH.HMerkleMissing
