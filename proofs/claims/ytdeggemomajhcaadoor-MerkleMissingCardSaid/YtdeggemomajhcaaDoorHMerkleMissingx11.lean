-- PRINTED by print.py (a twelfth state) out of the translation. Not trusted: Lean checks it.
import Derived.Test.YtdeggemomajhcaaDoorHMerkleMissingx0
import Derived.Test.YtdeggemomajhcaaDoorHMerkleMissingx9
import Derived.Test.YtdeggemomajhcaaDoorHMerkleMissingx10
namespace Go.Proofs.YtdeggemomajhcaaDoorH.HMerkleMissing
open Go.RowKit Go.Proofs.YtdeggemomajhcaaDoorW.PrintWords Go.Proofs.YtdeggemomajhcaaDoorW.PrintLast Go.Proofs.YtdeggemomajhcaaDoorW.PrintMore
attribute [local go_sem] max2_int min2_int max_two min_two max_three min_three max_four min_four   -- for this text's walks alone
set_option linter.unusedVariables false
set_option linter.unusedSimpArgs false

/-! ### strongroomref20_Digest: function 18 -/
def strongroomref20_Digest.f : Nat → List (S39) → Option (ByteArray)
 | 0, _ => none
 | k + 1, l0 => if (l0.length : Int) = 0 then ((strongroomref02_Sum.f (⟨#[2]⟩ : ByteArray)).bind fun t207 => (some t207)) else (if (l0.length : Int) = 1 then (if 0 < (l0.length : Int) then ((strongroomref20_one.f k ((rd_T39 l0 0).f0) ((rd_T39 l0 0).f1)).bind fun t209 => (some t209)) else (none)) else ((strongroomref20_cut.f k (l0.length : Int)).bind fun t210 => (if 0 ≤ t210 then (if t210 ≤ (l0.length : Int) then ((strongroomref20_Digest.f k (l0.take (t210 : Int).toNat)).bind fun t215 => (if 1 + t215.size ≤ 9223372036854775807 then ((strongroomref20_Digest.f k (l0.drop (t210 : Int).toNat)).bind fun t220 => (if ((⟨#[1]⟩ : ByteArray) ++ t215).size + t220.size ≤ 9223372036854775807 then ((strongroomref02_Sum.f (((⟨#[1]⟩ : ByteArray) ++ t215) ++ t220)).bind fun t221 => (some t221)) else (none))) else (none))) else (none)) else (none))))
theorem strongroomref20_Digest.mono_l : ∀ k, (∀ y0, LeO (strongroomref20_Digest.f k y0) (strongroomref20_Digest.f (k + 1) y0))
 | 0 => fun _ r h => by simp [strongroomref20_Digest.f] at h
 | k + 1 => by
  have ih0 := strongroomref20_Digest.mono_l k
  ·intro y0
   unfold strongroomref20_Digest.f
   repeat' first
   | (with_reducible exact ih0 _)
   | (with_reducible exact strongroomref20_cut.mono _ _)
   | (with_reducible exact strongroomref20_one.mono _ _ _)
   | (with_reducible exact LeO.refl _)
   | (with_reducible exact LeO.none _)
   | (with_reducible refine LeO.ite ?_ ?_)
   | (with_reducible refine LeO.bind ?_ (fun _ => ?_))
   | exact ih0 _
   | exact strongroomref20_cut.mono _ _
   | exact strongroomref20_one.mono _ _ _
   | exact LeO.none _
   | refine LeO.ite ?_ ?_
   | refine LeO.bind ?_ (fun _ => ?_)
theorem strongroomref20_Digest.mono : ∀ a0 k, LeO (strongroomref20_Digest.f k a0) (strongroomref20_Digest.f (k + 1) a0) := by
 intro a0 k
 have ih0 := strongroomref20_Digest.mono_l k
 exact ih0 a0
def strongroomref20_Digest.T6 : Bool × List (List Nat × List Nat) := (true, [([], []), ([], []), ([0, 1], [0, 1]), ([2], [2]), ([3], [3]), ([], []), ([], []), ([5, 6], [5, 6]), ([7, 3], [7]), ([4, 8], [4, 8]), ([9, 8], [9]), ([10, 10, 0, 1, 2, 3, 4, 5, 6, 7, 8, 9, 10], [10])])
def strongroomref20_Digest.B6 : List Nat := [0, 0, 3, 7, 15, 0, 0, 96, 239, 511, 1023, 2047]
theorem strongroomref20_Digest.tab6 : rtab .any (opsOf Tryd.f18 6) = strongroomref20_Digest.T6 := by kernel_rfl
theorem strongroomref20_Digest.bits6 : waitsOk strongroomref20_Digest.T6.2 strongroomref20_Digest.B6 = true := by kernel_rfl
set_option maxHeartbeats 8000000 in
set_option maxRecDepth 100000 in
theorem strongroomref20_Digest.calls (k : Nat) : ∀ (A0 : Option Addr) (c0 : Nat) (l0 : List (S39)) (r : ByteArray) (w : World) (hr0 : Kd.C k39 w A0 l0.length l0) (hc0 : l0.length ≤ c0) (h : strongroomref20_Digest.f k l0 = some r),
  Calls Tryd.prog 18 #[.slice A0 l0.length c0] w fun e w' => e = .returned (.string r) ∧ Below w.heap.size w w' := by
 induction k using Nat.strongRecOn with
 | _ k ih =>
 intro A0 c0 l0 r w hr0 hc0 h
 cases k with
 | zero => exact absurd h (by simp [strongroomref20_Digest.f])
 | succ k =>
 simp only [strongroomref20_Digest.f] at h
 have hu39 := Tryd.underlying39
 have HR0 := Aside0.mk hr0
 have HC0 := Aside0.mk hc0
 clear hr0 hc0
 have HB := Aside0.mk (Below.refl w.heap.size w)
 have H : (if (l0.length : Int) = 0 then ((strongroomref02_Sum.f (⟨#[2]⟩ : ByteArray)).bind fun t207 => (some t207)) else (if (l0.length : Int) = 1 then (if 0 < (l0.length : Int) then ((strongroomref20_one.f k ((rd_T39 l0 0).f0) ((rd_T39 l0 0).f1)).bind fun t209 => (some t209)) else (none)) else ((strongroomref20_cut.f k (l0.length : Int)).bind fun t210 => (if 0 ≤ t210 then (if t210 ≤ (l0.length : Int) then ((strongroomref20_Digest.f k (l0.take (t210 : Int).toNat)).bind fun t215 => (if 1 + t215.size ≤ 9223372036854775807 then ((strongroomref20_Digest.f k (l0.drop (t210 : Int).toNat)).bind fun t220 => (if ((⟨#[1]⟩ : ByteArray) ++ t215).size + t220.size ≤ 9223372036854775807 then ((strongroomref02_Sum.f (((⟨#[1]⟩ : ByteArray) ++ t215) ++ t220)).bind fun t221 => (some t221)) else (none))) else (none))) else (none)) else (none))))) = some r := h
 clear h
 by_cases c2 : (l0.length : Int) = 0
 ·rw [if_pos c2] at H
  have c2b0 : ((l0.length : Int) == 0) = true := beq_iff_eq.mpr c2
  have c2b1 : ((l0.length : Int) != 0) = false := bne_eq_false_iff_eq.mpr c2
  clear c2
  replace H := Option.bind_eq_some_iff.mp H
  obtain ⟨t207, A30, H⟩ := H
  replace H : (some t207) = some r := H
  have A3 := Aside0.mk A30
  clear A30
  obtain rfl := Option.some.inj H
  go_enter Tryd.func18, Tryd.ntmps18
  go_wp2_with (first | ((with_reducible refine gate_callee (f := 44) rfl ?_); refine goesL_ (some 7) rfl rfl Tryd.func44 (by kernel_rfl) rfl #[.string (⟨#[2]⟩ : ByteArray)] rfl m8_ ?_; (with_reducible refine (strongroomref02_Sum.calls (⟨#[2]⟩ : ByteArray) t207 _ A3.out).mono ?_); rintro e w4 ⟨rfl, hb⟩; refine ⟨_, rfl, ?_⟩; have n0_ := Aside0.mk (below_step m7_ hb); clear HB; have HB := n0_; clear n0_; (try clear hb); (try clear hb2); (try clear hk); (try clear hi)))
  go_ret
  exact ⟨by first | rfl | (simp [errW_none, errW_some] <;> rfl) | (simp [*, errW_none, errW_some] <;> rfl), m32_⟩
 rw [if_neg c2] at H
 have c2b0 : ((l0.length : Int) == 0) = false := beq_eq_false_iff_ne.mpr c2
 have c2b1 : ((l0.length : Int) != 0) = true := bne_iff_ne.mpr c2
 have c2b2 : ¬ (l0 = []) := fun h_ => c2 (by rw [h_]; rfl)
 by_cases c5 : (l0.length : Int) = 1
 ·rw [if_pos c5] at H
  have c5b0 : ((l0.length : Int) == 1) = true := beq_iff_eq.mpr c5
  have c5b1 : ((l0.length : Int) != 1) = false := bne_eq_false_iff_eq.mpr c5
  clear c5
  by_cases c6 : 0 < (l0.length : Int)
  case neg =>
   rw [if_neg c6] at H
   exact absurd H (by simp)
  rw [if_pos c6] at H
  have c6b0 : decide (0 < (l0.length : Int)) = true := decide_eq_true c6
  have c6b1 : decide (0 < l0.length) = true := decide_eq_true (by omega)
  clear c6
  replace H := Option.bind_eq_some_iff.mp H
  obtain ⟨t209, A70, H⟩ := H
  replace H : (some t209) = some r := H
  have A7 := Aside0.mk A70
  clear A70
  obtain rfl := Option.some.inj H
  have p208 : 0 ≤ (0 : Int) := (by omega)
  have q208 : 0 < (l0.length : Int) := of_decide_eq_true m15_
  obtain ⟨ad208, e208, hx208_0, hx208_1⟩ := at_T39 HR0.out 0 p208 q208
  cases e208
  have qi208 : (0 < l0.length) = True := eq_true (by omega)
  (try rw [show ((0 : Int)).toNat = 0 from rfl] at hx208_0)
  (try rw [show 0 * 2 = 0 from rfl] at hx208_0)
  (try rw [Addr.add_zero'] at hx208_0)
  (try rw [show ((0 : Int)).toNat = 0 from rfl] at hx208_1)
  (try rw [show 0 * 2 = 0 from rfl] at hx208_1)
  (try rw [Addr.add_zero'] at hx208_1)
  replace p208 := eq_true p208
  replace q208 := eq_true q208
  go_enter Tryd.func18, Tryd.ntmps18
  go_wp2_with (first | ((with_reducible refine gate_callee (f := 45) rfl ?_); refine goesL_ (some 14) rfl rfl Tryd.func45 (by kernel_rfl) rfl #[.agg #[.string ((rd_T39 l0 0).f0), .string ((rd_T39 l0 0).f1)]] rfl m8_ ?_; (with_reducible refine (strongroomref20_one.calls k ((rd_T39 l0 0).f0) ((rd_T39 l0 0).f1) t209 _ A7.out).mono ?_); rintro e w8 ⟨rfl, hb⟩; refine ⟨_, rfl, ?_⟩; have n0_ := Aside0.mk (below_step m7_ hb); clear HB; have HB := n0_; clear n0_; (try clear hb); (try clear hb2); (try clear hk); (try clear hi)))
  go_ret
  exact ⟨by first | rfl | (simp [errW_none, errW_some] <;> rfl) | (simp [*, errW_none, errW_some] <;> rfl), m32_⟩
 rw [if_neg c5] at H
 have c5b0 : ((l0.length : Int) == 1) = false := beq_eq_false_iff_ne.mpr c5
 have c5b1 : ((l0.length : Int) != 1) = true := bne_iff_ne.mpr c5
 replace H := Option.bind_eq_some_iff.mp H
 obtain ⟨t210, A90, H⟩ := H
 replace H : (if 0 ≤ t210 then (if t210 ≤ (l0.length : Int) then ((strongroomref20_Digest.f k (l0.take (t210 : Int).toNat)).bind fun t215 => (if 1 + t215.size ≤ 9223372036854775807 then ((strongroomref20_Digest.f k (l0.drop (t210 : Int).toNat)).bind fun t220 => (if ((⟨#[1]⟩ : ByteArray) ++ t215).size + t220.size ≤ 9223372036854775807 then ((strongroomref02_Sum.f (((⟨#[1]⟩ : ByteArray) ++ t215) ++ t220)).bind fun t221 => (some t221)) else (none))) else (none))) else (none)) else (none)) = some r := H
 have A9 := Aside0.mk A90
 clear A90
 by_cases c10 : 0 ≤ t210
 case neg =>
  rw [if_neg c10] at H
  exact absurd H (by simp)
 rw [if_pos c10] at H
 have c10b0 := eq_true c10
 have c10b1 : decide (0 ≤ t210) = true := decide_eq_true c10
 clear c10
 by_cases c11 : t210 ≤ (l0.length : Int)
 case neg =>
  rw [if_neg c11] at H
  exact absurd H (by simp)
 rw [if_pos c11] at H
 have c11b0 := eq_true c11
 have c11b1 : decide (t210 ≤ (l0.length : Int)) = true := decide_eq_true c11
 clear c11
 obtain ⟨y211, hy211⟩ : ∃ y_ : List (S39), y_ = (l0.take (t210 : Int).toNat) := ⟨_, rfl⟩
 replace H : ((strongroomref20_Digest.f k y211).bind fun t215 => (if 1 + t215.size ≤ 9223372036854775807 then ((strongroomref20_Digest.f k (l0.drop (t210 : Int).toNat)).bind fun t220 => (if ((⟨#[1]⟩ : ByteArray) ++ t215).size + t220.size ≤ 9223372036854775807 then ((strongroomref02_Sum.f (((⟨#[1]⟩ : ByteArray) ++ t215) ++ t220)).bind fun t221 => (some t221)) else (none))) else (none))) = some r := by first | (rw [hy211]; with_reducible exact H) | (have H2_ := (Option.bind_some _ _).symm.trans H; rw [hy211]; with_reducible exact H2_) | (have H2_ := (Option.bind_some _ _).symm.trans H; with_reducible exact H2_) | with_reducible exact H | (rw [hy211]; exact H) | exact H
 have Ny211 := Aside0.mk hy211
 clear hy211
 replace H := Option.bind_eq_some_iff.mp H
 obtain ⟨t215, A120, H⟩ := H
 replace H : (if 1 + t215.size ≤ 9223372036854775807 then ((strongroomref20_Digest.f k (l0.drop (t210 : Int).toNat)).bind fun t220 => (if ((⟨#[1]⟩ : ByteArray) ++ t215).size + t220.size ≤ 9223372036854775807 then ((strongroomref02_Sum.f (((⟨#[1]⟩ : ByteArray) ++ t215) ++ t220)).bind fun t221 => (some t221)) else (none))) else (none)) = some r := H
 have A12 := Aside0.mk A120
 clear A120
 by_cases c13 : 1 + t215.size ≤ 9223372036854775807
 case neg =>
  rw [if_neg c13] at H
  exact absurd H (by simp)
 rw [if_pos c13] at H
 have c13b0 := eq_true c13
 have c13b1 : decide (1 + t215.size ≤ 9223372036854775807) = true := decide_eq_true c13
 try have c13b2 : (9223372036854775807 < 1 + t215.size) = False := eq_false (Nat.not_lt.2 c13)
 have c14b0 := eq_true (of_decide_eq_true m15_ : 0 ≤ t210)
 have c15b0 := eq_true (of_decide_eq_true m15_ : t210 ≤ (l0.length : Int))
 obtain ⟨y216, hy216⟩ : ∃ y_ : List (S39), y_ = (l0.drop (t210 : Int).toNat) := ⟨_, rfl⟩
 replace H : ((strongroomref20_Digest.f k y216).bind fun t220 => (if ((⟨#[1]⟩ : ByteArray) ++ t215).size + t220.size ≤ 9223372036854775807 then ((strongroomref02_Sum.f (((⟨#[1]⟩ : ByteArray) ++ t215) ++ t220)).bind fun t221 => (some t221)) else (none))) = some r := by first | (rw [hy216]; with_reducible exact H) | (have H2_ := (Option.bind_some _ _).symm.trans H; rw [hy216]; with_reducible exact H2_) | (have H2_ := (Option.bind_some _ _).symm.trans H; with_reducible exact H2_) | with_reducible exact H | (rw [hy216]; exact H) | exact H
 have Ny216 := Aside0.mk hy216
 clear hy216
 replace H := Option.bind_eq_some_iff.mp H
 obtain ⟨t220, A160, H⟩ := H
 replace H : (if ((⟨#[1]⟩ : ByteArray) ++ t215).size + t220.size ≤ 9223372036854775807 then ((strongroomref02_Sum.f (((⟨#[1]⟩ : ByteArray) ++ t215) ++ t220)).bind fun t221 => (some t221)) else (none)) = some r := H
 have A16 := Aside0.mk A160
 clear A160
 by_cases c17 : ((⟨#[1]⟩ : ByteArray) ++ t215).size + t220.size ≤ 9223372036854775807
 case neg =>
  rw [if_neg c17] at H
  exact absurd H (by simp)
 rw [if_pos c17] at H
 have c17b0 := eq_true c17
 have c17b1 : decide (((⟨#[1]⟩ : ByteArray) ++ t215).size + t220.size ≤ 9223372036854775807) = true := decide_eq_true c17
 try have c17b2 : (9223372036854775807 < ((⟨#[1]⟩ : ByteArray) ++ t215).size + t220.size) = False := eq_false (Nat.not_lt.2 c17)
 try (have c17b3 := c17b2; simp only [ByteArray.size_append, show ((⟨#[0]⟩ : ByteArray)).size = 1 from rfl, show ((⟨#[1]⟩ : ByteArray)).size = 1 from rfl, show ((⟨#[2]⟩ : ByteArray)).size = 1 from rfl] at c17b3)
 replace H := Option.bind_eq_some_iff.mp H
 obtain ⟨t221, A180, H⟩ := H
 replace H : (some t221) = some r := H
 have A18 := Aside0.mk A180
 clear A180
 obtain rfl := Option.some.inj H
 go_enter Tryd.func18, Tryd.ntmps18
 try go_wp2_with (first | ((with_reducible refine gate_callee (f := 46) rfl ?_); refine goesL_ (some 17) rfl rfl Tryd.func46 (by kernel_rfl) rfl #[.int .i64 (l0.length : Int)] rfl m8_ ?_; (with_reducible refine (strongroomref20_cut.calls k (l0.length : Int) t210 _ A9.out).mono ?_); rintro e w' ⟨rfl, ⟨nd, rfl⟩⟩; refine ⟨_, rfl, ?_⟩))
 have n0_ := Aside0.mk (below_drew1 HB.out)
 clear HB
 have HB := n0_
 clear n0_
 have q20 : (t210 : Int) ≤ ((l0.length : Int) : Int) := of_decide_eq_true m15_
 obtain ⟨i020, hi020, _, hsz20, _⟩ := info_parts info39
 have hroom20 : l0.length ≤ c0 := HC0.out
 have hC20 : Kd.C k39 _ A0 l0.length l0 := HR0.out
 have hcut20 := cut_to (P := Tryd.prog) 22 39 .i64 Tryd.underlying22 hi020 A0 l0.length c0 t210 (of_decide_eq_true m15_) q20 hroom20
 have hr20 := Kd.C_take (m := (t210 : Int).toNat) hC20 (by omega)
 have hy20 : y211.length = (t210 : Int).toNat := (by rw [Ny211.out, List.length_take]; omega)
 rw [← Ny211.out] at hr20
 rw [← hy20] at hcut20
 have HR214 := Aside0.mk hr20
 have HC214 := Aside0.mk (show y211.length ≤ c0 from by omega)
 clear hr20 hC20 hroom20 hi020 hsz20
 have KY20 := Aside0.mk hy20
 clear hy20
 replace q20 := eq_true q20
 have q21 : (t210 : Int) ≤ ((l0.length : Int) : Int) := of_decide_eq_true m15_
 obtain ⟨i021, hi021, _, hsz21, _⟩ := info_parts info39
 have hroom21 : l0.length ≤ c0 := HC0.out
 have hC21 : Kd.C k39 _ A0 l0.length l0 := HR0.out
 have q021 : (0 : Int) ≤ (t210 : Int) := of_decide_eq_true m15_
 have hcut21 := cut_from (P := Tryd.prog) 22 39 .i64 Tryd.underlying22 hi021 2 hsz21 A0 l0.length c0 t210 q021 q21
 have hr21 := Kd.C_drop (m := (t210 : Int).toNat) (c := c0) hC21 (by omega) hroom21
 obtain ⟨A21, hA21⟩ : ∃ A1, A1 = (if c0 = (t210 : Int).toNat then A0 else (A0 : Option Addr).map (·.add ((t210 : Int).toNat * 2))) := ⟨_, rfl⟩
 obtain ⟨c21, hc21⟩ : ∃ c1, c1 = c0 - (t210 : Int).toNat := ⟨_, rfl⟩
 have hy21 : y216.length = l0.length - (t210 : Int).toNat := (by rw [Ny216.out, List.length_drop] <;> omega)
 rw [show (l0).drop (t210 : Int).toNat = y216 from Ny216.out.symm] at hr21
 replace hr21 : Kd.C k39 _ A21 y216.length y216 := (by rw [hA21]; exact hr21)
 rw [← hy21, ← hA21, ← hc21] at hcut21
 have HR219 := Aside0.mk hr21
 have HC219 := Aside0.mk (show y216.length ≤ c21 from by rw [hy21, hc21]; exact Nat.sub_le_sub_right hroom21 _)
 clear hr21 hC21 hroom21 hi021 hsz21 hc21
 have KY21 := Aside0.mk hy21
 have KA21 := Aside0.mk hA21
 clear hy21 hA21
 replace q21 := eq_true q21
 refine start_ (n := 12) (S := fun w' => True) (ds := []) (Ra_ [0, 12]) (by kernel_rfl) rfl rfl trivial (fun hHeld => ?_); refine with_tabW strongroomref20_Digest.tab6 strongroomref20_Digest.bits6 (fun HT_ HW_ => ?_)
 generalize w.drew = w19 at HB HR214 HR219 hHeld ⊢
 refine pure_ (i := 0) (N := some 18) (v := ?_) (a' := ?_) (Ra_ [1, 11]) rfl rfl (any_of HT_.out (by kernel_rfl)) (fun _ _ _ h => h) (Or.inl ⟨by rfl, ?_⟩) ?_ ?_
 rotate_left
 ·intro w'
  go_simp
  with_reducible rfl
 rotate_left
 ·simp only [Act.put, sA_, sB_, sC_, i64_w, i32_w]
  rfl
 refine pure_ (i := 1) (N := some 19) (v := ?_) (a' := ?_) (Ra_ [2, 10]) rfl rfl (any_of HT_.out (by kernel_rfl)) (fun _ _ _ h => h) (Or.inl ⟨by rfl, ?_⟩) ?_ ?_
 rotate_left
 ·intro w'
  go_simp
  with_reducible rfl
 rotate_left
 ·simp only [Act.put, sA_, sB_, sC_, i64_w, i32_w]
  rfl
 refine pure_ (i := 2) (N := some 20) (v := ?_) (a' := ?_) (Ra_ [3, 9]) rfl rfl (any_of HT_.out (by kernel_rfl)) (fun _ _ _ h => h) (Or.inl ⟨by rfl, ?_⟩) ?_ ?_
 rotate_left
 ·intro w'
  go_simp
  with_reducible rfl
 rotate_left
 ·simp only [Act.put, sA_, sB_, sC_, i64_w, i32_w]
  rfl
 refine pure_ (i := 5) (N := some 23) (v := ?_) (a' := ?_) (Ra_ [3, 2, 1, 6]) rfl rfl (any_of HT_.out (by kernel_rfl)) (fun _ _ _ h => h) (Or.inl ⟨by rfl, ?_⟩) ?_ ?_
 rotate_left
 ·intro w'
  go_simp
  with_reducible rfl
 rotate_left
 ·simp only [Act.put, sA_, sB_, sC_, i64_w, i32_w]
  rfl
 refine pure_ (i := 6) (N := some 24) (v := ?_) (a' := ?_) (Ra_ [3, 2, 2, 5]) rfl rfl (any_of HT_.out (by kernel_rfl)) (fun _ _ _ h => h) (Or.inl ⟨by rfl, ?_⟩) ?_ ?_
 rotate_left
 ·intro w'
  go_simp
  with_reducible rfl
 rotate_left
 ·simp only [Act.put, sA_, sB_, sC_, i64_w, i32_w]
  rfl
 refine pure_ (i := 7) (N := some 25) (v := ?_) (a' := ?_) (Ra_ [3, 2, 3, 4]) rfl rfl (any_of HT_.out (by kernel_rfl)) (fun _ _ _ h => h) (Or.inl ⟨by rfl, ?_⟩) ?_ ?_
 rotate_left
 ·intro w'
  go_simp
  with_reducible rfl
 rotate_left
 ·simp only [Act.put, sA_, sB_, sC_, i64_w, i32_w]
  rfl
 refine one_ (i := 3) (N := some 21) (Ra_ [4, 1, 3, 4]) rfl rfl (one_of HT_.out (by kernel_rfl)) (by decide) (fun K hK => ?_)
 refine goes_ Tryd.func18 (by kernel_rfl) rfl #[.slice A0 y211.length c0] (by rfl) rfl rfl m8_ ?_
 with_reducible refine (ih k (by omega) _ _ y211 t215 _ ?side1 ?side2 A12.out).mono ?_
 (case side1 => repeat (first | exact (Kd.C_below HR214.out HB.out) | exact HR214.out | (with_reducible refine Kd.C_alloc ?_ _) | (with_reducible refine Kd.C_drewN ?_ _) | (with_reducible refine Kd.C_drew ?_)))
 (case side2 => exact HC214.out)
 rintro e w22 ⟨rfl, hb⟩
 refine ⟨_, rfl, ?_⟩
 have n0_ := Aside0.mk (below_step m7_ hb)
 clear HB
 have HB := n0_
 clear n0_
 (try clear hb)
 (try clear hb2)
 (try clear hk)
 (try clear hi)
 refine hK.out _ _ trivial (fun hHeld => ?_)
 clear hK K
 refine norm_ (a' := ?_) ?_ ?_
 rotate_left
 ·show Act.put _ (some 21) _ = _
  simp only [Act.put, sA_, sB_, sC_, i64_w, i32_w]
  rfl
 refine pure_ (i := 4) (N := some 22) (v := ?_) (a' := ?_) (Ra_ [8, 4]) rfl rfl (any_of HT_.out (by kernel_rfl)) (fun _ _ _ h => h) (Or.inl ⟨by rfl, ?_⟩) ?_ ?_
 rotate_left
 ·intro w'
  go_simp
  with_reducible rfl
 rotate_left
 ·simp only [Act.put, sA_, sB_, sC_, i64_w, i32_w]
  rfl
 refine one_ (i := 8) (N := some 26) (Ra_ [9, 3]) rfl rfl (one_of HT_.out (by kernel_rfl)) (by decide) (fun K hK => ?_)
 refine goes_ Tryd.func18 (by kernel_rfl) rfl #[.slice A21 y216.length c21] (by rfl) rfl rfl m8_ ?_
 with_reducible refine (ih k (by omega) _ _ y216 t220 _ ?side1 ?side2 A16.out).mono ?_
 (case side1 => repeat (first | exact (Kd.C_below HR219.out HB.out) | exact HR219.out | (with_reducible refine Kd.C_alloc ?_ _) | (with_reducible refine Kd.C_drewN ?_ _) | (with_reducible refine Kd.C_drew ?_)))
 (case side2 => exact HC219.out)
 rintro e w23 ⟨rfl, hb⟩
 refine ⟨_, rfl, ?_⟩
 have n0_ := Aside0.mk (below_step m7_ hb)
 clear HB
 have HB := n0_
 clear n0_
 (try clear hb)
 (try clear hb2)
 (try clear hk)
 (try clear hi)
 refine hK.out _ _ trivial (fun hHeld => ?_)
 clear hK K
 refine norm_ (a' := ?_) ?_ ?_
 rotate_left
 ·show Act.put _ (some 26) _ = _
  simp only [Act.put, sA_, sB_, sC_, i64_w, i32_w]
  rfl
 refine pure_ (i := 9) (N := some 27) (v := ?_) (a' := ?_) (Ra_ [10, 2]) rfl rfl (any_of HT_.out (by kernel_rfl)) (fun _ _ _ h => h) (Or.inl ⟨by rfl, ?_⟩) ?_ ?_
 rotate_left
 ·intro w'
  go_simp
  with_reducible rfl
 rotate_left
 ·simp only [Act.put, sA_, sB_, sC_, i64_w, i32_w]
  rfl
 refine one_ (i := 10) (N := some 28) (Ra_ [11, 1]) rfl rfl (one_of HT_.out (by kernel_rfl)) (by decide) (fun K hK => ?_)
 refine goes_ Tryd.func44 (by kernel_rfl) rfl #[.string (((⟨#[1]⟩ : ByteArray) ++ t215) ++ t220)] (by rfl) rfl rfl m8_ ?_
 with_reducible refine (strongroomref02_Sum.calls (((⟨#[1]⟩ : ByteArray) ++ t215) ++ t220) t221 _ A18.out).mono ?_
 rintro e w24 ⟨rfl, hb⟩
 refine ⟨_, rfl, ?_⟩
 have n0_ := Aside0.mk (below_step m7_ hb)
 clear HB
 have HB := n0_
 clear n0_
 (try clear hb)
 (try clear hb2)
 (try clear hk)
 (try clear hi)
 refine hK.out _ _ trivial (fun hHeld => ?_)
 clear hK K
 refine norm_ (a' := ?_) ?_ ?_
 rotate_left
 ·show Act.put _ (some 28) _ = _
  simp only [Act.put, sA_, sB_, sC_, i64_w, i32_w]
  rfl
 refine pure_ (i := 11) (N := some 2) (v := ?_) (a' := ?_) (Ra_ [12]) rfl rfl (any_of HT_.out (by kernel_rfl)) (fun _ _ _ h => h) (Or.inl ⟨by rfl, ?_⟩) ?_ ?_
 rotate_left
 ·intro w'
  go_simp
  with_reducible rfl
 rotate_left
 ·simp only [Act.put, sA_, sB_, sC_, i64_w, i32_w]
  rfl
 refine done_ (done_of HT_.out (by kernel_rfl)) ?_
 try go_wp2
 go_ret
 exact ⟨by first | rfl | (simp [errW_none, errW_some] <;> rfl) | (simp [*, errW_none, errW_some] <;> rfl), m32_⟩

/-! ### strongroomref20_Length: function 25 -/
def strongroomref20_Length.f : Nat → Int → Int → Option (Int)
 | 0, _, _ => none
 | k + 1, a0, a1 => if a0 = 1 then (some 0) else ((strongroomref20_cut.f k a0).bind fun t222 => (if a1 < t222 then ((strongroomref20_Length.f k t222 a1).bind fun t223 => (some (wrap64 (1 + t223)))) else ((strongroomref20_Length.f k (wrap64 (a0 - t222)) (wrap64 (a1 - t222))).bind fun t224 => (some (wrap64 (1 + t224))))))
theorem strongroomref20_Length.mono_l : ∀ k, (∀ y0 y1, LeO (strongroomref20_Length.f k y0 y1) (strongroomref20_Length.f (k + 1) y0 y1))
 | 0 => fun _ _ r h => by simp [strongroomref20_Length.f] at h
 | k + 1 => by
  have ih0 := strongroomref20_Length.mono_l k
  ·intro y0 y1
   unfold strongroomref20_Length.f
   repeat' first
   | (with_reducible exact ih0 _ _)
   | (with_reducible exact strongroomref20_cut.mono _ _)
   | (with_reducible exact LeO.refl _)
   | (with_reducible exact LeO.none _)
   | (with_reducible refine LeO.ite ?_ ?_)
   | (with_reducible refine LeO.bind ?_ (fun _ => ?_))
   | exact ih0 _ _
   | exact strongroomref20_cut.mono _ _
   | exact LeO.none _
   | refine LeO.ite ?_ ?_
   | refine LeO.bind ?_ (fun _ => ?_)
theorem strongroomref20_Length.mono : ∀ a0 a1 k, LeO (strongroomref20_Length.f k a0 a1) (strongroomref20_Length.f (k + 1) a0 a1) := by
 intro a0 a1 k
 have ih0 := strongroomref20_Length.mono_l k
 exact ih0 a0 a1
set_option maxHeartbeats 8000000 in
set_option maxRecDepth 100000 in
theorem strongroomref20_Length.calls (k : Nat) : ∀ (a0 : Int) (a1 : Int) (r : Int) (w : World) (h : strongroomref20_Length.f k a0 a1 = some r),
  Calls Tryd.prog 25 #[.int .i64 a0, .int .i64 a1] w fun e w' => e = .returned (.int .i64 r) ∧ Drawn0 w w' := by
 induction k using Nat.strongRecOn with
 | _ k ih =>
 intro a0 a1 r w h
 cases k with
 | zero => exact absurd h (by simp [strongroomref20_Length.f])
 | succ k =>
 simp only [strongroomref20_Length.f] at h
 have H : (if a0 = 1 then (some 0) else ((strongroomref20_cut.f k a0).bind fun t222 => (if a1 < t222 then ((strongroomref20_Length.f k t222 a1).bind fun t223 => (some (wrap64 (1 + t223)))) else ((strongroomref20_Length.f k (wrap64 (a0 - t222)) (wrap64 (a1 - t222))).bind fun t224 => (some (wrap64 (1 + t224))))))) = some r := h
 clear h
 by_cases c3 : a0 = 1
 ·rw [if_pos c3] at H
  have c3b0 : (a0 == 1) = true := beq_iff_eq.mpr c3
  have c3b1 : (a0 != 1) = false := bne_eq_false_iff_eq.mpr c3
  clear c3
  obtain rfl := Option.some.inj H
  go_enter Tryd.func25, Tryd.ntmps25
  go_wp2
  go_ret
  exact ⟨by first | rfl | (simp; done) | (simp [*]; done), m34_⟩
 rw [if_neg c3] at H
 have c3b0 : (a0 == 1) = false := beq_eq_false_iff_ne.mpr c3
 have c3b1 : (a0 != 1) = true := bne_iff_ne.mpr c3
 replace H := Option.bind_eq_some_iff.mp H
 obtain ⟨t222, A40, H⟩ := H
 replace H : (if a1 < t222 then ((strongroomref20_Length.f k t222 a1).bind fun t223 => (some (wrap64 (1 + t223)))) else ((strongroomref20_Length.f k (wrap64 (a0 - t222)) (wrap64 (a1 - t222))).bind fun t224 => (some (wrap64 (1 + t224))))) = some r := H
 have A4 := Aside0.mk A40
 clear A40
 by_cases c5 : a1 < t222
 ·rw [if_pos c5] at H
  have c5b0 : decide (a1 < t222) = true := decide_eq_true c5
  clear c5
  replace H := Option.bind_eq_some_iff.mp H
  obtain ⟨t223, A60, H⟩ := H
  replace H : (some (wrap64 (1 + t223))) = some r := H
  have A6 := Aside0.mk A60
  clear A60
  obtain rfl := Option.some.inj H
  go_enter Tryd.func25, Tryd.ntmps25
  go_wp2_with (first | ((with_reducible refine gate_callee (f := 46) rfl ?_); refine goesL_ (some 9) rfl rfl Tryd.func46 (by kernel_rfl) rfl #[.int .i64 a0] rfl m8_ ?_; (with_reducible refine (strongroomref20_cut.calls k a0 t222 _ A4.out).mono ?_); rintro e w' ⟨rfl, ⟨nd, rfl⟩⟩; refine ⟨_, rfl, ?_⟩) | ((with_reducible refine gate_callee (f := 25) rfl ?_); refine goesL_ (some 15) rfl rfl Tryd.func25 (by kernel_rfl) rfl #[.int .i64 t222, .int .i64 a1] rfl m8_ ?_; (with_reducible refine (ih k (by omega) t222 a1 t223 _ A6.out).mono ?_); rintro e w' ⟨rfl, ⟨nd, rfl⟩⟩; refine ⟨_, rfl, ?_⟩))
  go_ret
  exact ⟨by first | rfl | (simp; done) | (simp [*]; done), m34_⟩
 rw [if_neg c5] at H
 have c5b0 : decide (a1 < t222) = false := decide_eq_false c5
 clear c5
 replace H := Option.bind_eq_some_iff.mp H
 obtain ⟨t224, A70, H⟩ := H
 replace H : (some (wrap64 (1 + t224))) = some r := H
 have A7 := Aside0.mk A70
 clear A70
 obtain rfl := Option.some.inj H
 go_enter Tryd.func25, Tryd.ntmps25
 go_wp2_with (first | ((with_reducible refine gate_callee (f := 46) rfl ?_); refine goesL_ (some 9) rfl rfl Tryd.func46 (by kernel_rfl) rfl #[.int .i64 a0] rfl m8_ ?_; (with_reducible refine (strongroomref20_cut.calls k a0 t222 _ A4.out).mono ?_); rintro e w' ⟨rfl, ⟨nd, rfl⟩⟩; refine ⟨_, rfl, ?_⟩) | ((with_reducible refine gate_callee (f := 25) rfl ?_); refine goesL_ (some 23) rfl rfl Tryd.func25 (by kernel_rfl) rfl #[.int .i64 (wrap64 (a0 - t222)), .int .i64 (wrap64 (a1 - t222))] rfl m8_ ?_; (with_reducible refine (ih k (by omega) (wrap64 (a0 - t222)) (wrap64 (a1 - t222)) t224 _ A7.out).mono ?_); rintro e w' ⟨rfl, ⟨nd, rfl⟩⟩; refine ⟨_, rfl, ?_⟩))
 go_ret
 exact ⟨by first | rfl | (simp; done) | (simp [*]; done), m34_⟩

/-! ### strongroomref05_Cut: function 71 -/
def strongroomref05_Cut.l0 : Nat → ByteArray → List ByteArray → Int → Int → Option (List ByteArray)
 | 0, _, _, _, _ => none
 | k + 1, x0, x3, x4, x5 => if x5 ≤ (x0.size : Int) then (if x5 = (x0.size : Int) then (if 0 ≤ x4 then (if x4 ≤ x5 then (if x3.length < 8796093022208 then (strongroomref05_Cut.l0 k x0 (x3 ++ [x0.extract (x4 : Int).toNat (x5 : Int).toNat]) (wrap64 (x5 + 1)) (wrap64 (x5 + 1))) else (none)) else (none)) else (none)) else (if 0 ≤ x5 then (if x5 < (x0.size : Int) then (if (bt x0 x5) = 47 then (if 0 ≤ x4 then (if x4 ≤ x5 then (if x3.length < 8796093022208 then (strongroomref05_Cut.l0 k x0 (x3 ++ [x0.extract (x4 : Int).toNat (x5 : Int).toNat]) (wrap64 (x5 + 1)) (wrap64 (x5 + 1))) else (none)) else (none)) else (none)) else (strongroomref05_Cut.l0 k x0 x3 x4 (wrap64 (x5 + 1)))) else (none)) else (none))) else (some x3)
def strongroomref05_Cut.f (k : Nat) (a0 : ByteArray) : Option (List ByteArray) := strongroomref05_Cut.l0 k a0 ([] : List ByteArray) 0 0
theorem strongroomref05_Cut.mono_l : ∀ k, (∀ y0 y1 y2 y3, LeO (strongroomref05_Cut.l0 k y0 y1 y2 y3) (strongroomref05_Cut.l0 (k + 1) y0 y1 y2 y3))
 | 0 => fun _ _ _ _ r h => by simp [strongroomref05_Cut.l0] at h
 | k + 1 => by
  have ih0 := strongroomref05_Cut.mono_l k
  ·intro y0 y1 y2 y3
   unfold strongroomref05_Cut.l0
   repeat' first
   | (with_reducible exact ih0 _ _ _ _)
   | (with_reducible exact LeO.refl _)
   | (with_reducible exact LeO.none _)
   | (with_reducible refine LeO.ite ?_ ?_)
   | (with_reducible refine LeO.bind ?_ (fun _ => ?_))
   | exact ih0 _ _ _ _
   | exact LeO.none _
   | refine LeO.ite ?_ ?_
   | refine LeO.bind ?_ (fun _ => ?_)
theorem strongroomref05_Cut.mono : ∀ a0 k, LeO (strongroomref05_Cut.f k a0) (strongroomref05_Cut.f (k + 1) a0) := by
 intro a0 k
 have ih0 := strongroomref05_Cut.mono_l k
 unfold strongroomref05_Cut.f
 repeat' first
   | (with_reducible exact ih0 _ _ _ _)
   | (with_reducible exact LeO.refl _)
   | (with_reducible exact LeO.none _)
   | (with_reducible refine LeO.ite ?_ ?_)
   | (with_reducible refine LeO.bind ?_ (fun _ => ?_))
   | exact ih0 _ _ _ _
   | exact LeO.none _
   | refine LeO.ite ?_ ?_
   | refine LeO.bind ?_ (fun _ => ?_)
set_option maxHeartbeats 8000000 in
set_option maxRecDepth 100000 in
theorem strongroomref05_Cut.calls (k : Nat) (a0 : ByteArray) (r : List ByteArray) (w : World) (h : strongroomref05_Cut.f k a0 = some r) :
  Calls Tryd.prog 71 #[.string a0] w fun e w' => ∃ v0_ : Value, e = .returned (v0_) ∧ Kd.R Kd.string 9 w' w.heap.size (fun _ => True) v0_ r ∧ Below w.heap.size w w' := by
 have HB := Aside0.mk (Below.refl w.heap.size w)
 have H : (strongroomref05_Cut.l0 k a0 ([] : List ByteArray) 0 0) = some r := h
 clear h
 have H' := Aside0.mk H
 clear H
 go_enter Tryd.func71, Tryd.ntmps71
 go_wp2
 go_loopg [3, 4, 5] k (fun kq v3 v4 v5 w' => ∃ (x3_1 : List ByteArray) (x4_1 : Int) (x5_1 : Int), v4 = .int .i64 x4_1 ∧ v5 = .int .i64 x5_1 ∧ Aside0 (strongroomref05_Cut.l0 kq a0 x3_1 x4_1 x5_1 = some r) ∧ Aside0 (kq ≤ k) ∧ Aside0 (Kd.R Kd.string 9 w' w.heap.size (fun _ => True) v3 x3_1) ∧ Aside0 (Below w.heap.size w w'))
 case atStart => exact ⟨(([] : List ByteArray)), (0), (0), m16_, m16_, H', ⟨Nat.le_refl _⟩, ⟨by first | exact Kd.R_nil _ _ _ _ _ | exact Kd.N_nil _ _ _ _ _ | exact Kd.V_nil _ _ _ _ _ | exact Kd.Q_nil _ _ _ _ _ | exact Kd.S_nil _ _ _ _ _⟩, ⟨m32_⟩⟩
 clear H'
 obtain ⟨x3_1, x4_1, x5_1, rfl, rfl, HA, HK1, HO_3, HB⟩ := hrel
 cases gk with
 | zero => exact absurd HA.out (by simp [strongroomref05_Cut.l0])
 | succ k1 =>
  have H := HA.out
  clear HA
  simp only [strongroomref05_Cut.l0] at H
  by_cases c2 : x5_1 ≤ (a0.size : Int)
  case neg =>
   rw [if_neg c2] at H
   have c2b0 : decide (x5_1 ≤ (a0.size : Int)) = false := decide_eq_false c2
   clear c2
   obtain rfl := Option.some.inj H
   go_wp2
   go_ret
   exact ⟨_, by first | rfl | (simp [errW_none, errW_some] <;> rfl) | (simp [*, errW_none, errW_some] <;> rfl), by (with_reducible repeat (first | apply Kd.R_alloc | apply Kd.R_drewN | apply Kd.R_drew)); exact HO_3.out, m32_⟩
  rw [if_pos c2] at H
  have c2b0 : decide (x5_1 ≤ (a0.size : Int)) = true := decide_eq_true c2
  clear c2
  by_cases c3 : x5_1 = (a0.size : Int)
  ·rw [if_pos c3] at H
   have c3b0 : (x5_1 == (a0.size : Int)) = true := beq_iff_eq.mpr c3
   have c3b1 : (x5_1 != (a0.size : Int)) = false := bne_eq_false_iff_eq.mpr c3
   clear c3
   by_cases c4 : 0 ≤ x4_1
   case neg =>
    rw [if_neg c4] at H
    exact absurd H (by simp)
   rw [if_pos c4] at H
   have c4b0 := eq_true c4
   have c4b1 : decide (0 ≤ x4_1) = true := decide_eq_true c4
   clear c4
   by_cases c5 : x4_1 ≤ x5_1
   case neg =>
    rw [if_neg c5] at H
    exact absurd H (by simp)
   rw [if_pos c5] at H
   have c5b0 := eq_true c5
   have c5b1 : decide (x4_1 ≤ x5_1) = true := decide_eq_true c5
   clear c5
   have c6b0 := eq_true (of_decide_eq_true m15_ : x5_1 ≤ (a0.size : Int))
   by_cases c7 : x3_1.length < 8796093022208
   case neg =>
    rw [if_neg c7] at H
    exact absurd H (by simp)
   rw [if_pos c7] at H
   have LMc7 := Aside0.mk c7
   clear c7
   obtain ⟨y225, hy225⟩ : ∃ y_ : List ByteArray, y_ = (x3_1 ++ [a0.extract (x4_1 : Int).toNat (x5_1 : Int).toNat]) := ⟨_, rfl⟩
   replace H : (strongroomref05_Cut.l0 k1 a0 y225 (wrap64 (x5_1 + 1)) (wrap64 (x5_1 + 1))) = some r := by first | (rw [hy225]; with_reducible exact H) | (have H2_ := (Option.bind_some _ _).symm.trans H; rw [hy225]; with_reducible exact H2_) | (have H2_ := (Option.bind_some _ _).symm.trans H; with_reducible exact H2_) | with_reducible exact H | (rw [hy225]; exact H) | exact H
   have Ny225 := Aside0.mk hy225
   clear hy225
   have H' := Aside0.mk H
   clear H
   go_wp2_with (first | ((with_reducible refine gate_builtin (b := .append) (xs := #[.tmp 22, .tmp 27]) rfl ?_); at_builtin; refine Kd.R_append Kd.string (w0 := w) w.heap.size rfl (.tmp 22) (.tmp 27) 32 9 (.string ⟨#[]⟩) 16 rfl Tryd.underlying32 info9 rfl (by decide) (by omega) u3 x3_1 (a0.extract (x4_1 : Int).toNat (x5_1 : Int).toNat) [.string (a0.extract (x4_1 : Int).toNat (x5_1 : Int).toNat)] (fun _ => True) (fun _ => False) rfl rfl ?aP (fun _ hk => hk.elim) ?aF ?aO ?aB ?aS ?aL ?_; (case aP => exact rfl); (case aB => exact m9_); (case aF => exact (fun _ _ => trivial)); (case aO => exact (by (with_reducible repeat (first | apply Kd.R_alloc | apply Kd.R_drewN | apply Kd.R_drew)); exact HO_3.out)); (case aS => exact (below_size m9_)); (case aL => have := LMc7.out; omega); intro v226 w8 ho hb hg hat; rw [← Ny225.out] at ho; have n0_ := Aside0.mk (hb); have n1_ := Aside0.mk (ho); clear HB; clear HO_3; have HB := n0_; have HO227 := n1_; clear n0_ n1_; clear ho hb hg hat))
   go_roundg k1
   case measure => have := HK1.out; omega
   case rel => exact ⟨(y225), (wrap64 (x5_1 + 1)), (wrap64 (x5_1 + 1)), m16_, m16_, H', ⟨by have := HK1.out; omega⟩, ⟨by (with_reducible repeat (first | apply Kd.R_alloc | apply Kd.R_drewN | apply Kd.R_drew)); exact HO227.out⟩, ⟨m32_⟩⟩
  rw [if_neg c3] at H
  have c3b0 : (x5_1 == (a0.size : Int)) = false := beq_eq_false_iff_ne.mpr c3
  have c3b1 : (x5_1 != (a0.size : Int)) = true := bne_iff_ne.mpr c3
  by_cases c9 : 0 ≤ x5_1
  case neg =>
   rw [if_neg c9] at H
   exact absurd H (by simp)
  rw [if_pos c9] at H
  have c9b0 : decide (0 ≤ x5_1) = true := decide_eq_true c9
  clear c9
  by_cases c10 : x5_1 < (a0.size : Int)
  case neg =>
   rw [if_neg c10] at H
   exact absurd H (by simp)
  rw [if_pos c10] at H
  have c10b0 : decide (x5_1 < (a0.size : Int)) = true := decide_eq_true c10
  clear c10
  by_cases c12 : (bt a0 x5_1) = 47
  case neg =>
   rw [if_neg c12] at H
   have c12b0 : ((bt a0 x5_1) == 47) = false := beq_eq_false_iff_ne.mpr c12
   have c12b1 : ((bt a0 x5_1) != 47) = true := bne_iff_ne.mpr c12
   have H' := Aside0.mk H
   clear H
   have p11 : 0 ≤ (x5_1 : Int) := of_decide_eq_true m15_
   have q11 : x5_1 < (a0.size : Int) := of_decide_eq_true m15_
   have hx11 := bt_at a0 x5_1
   replace p11 := eq_true p11
   replace q11 := eq_true q11
   go_wp2
   go_roundg k1
   case measure => have := HK1.out; omega
   case rel => exact ⟨(x3_1), (x4_1), (wrap64 (x5_1 + 1)), m16_, m16_, H', ⟨by have := HK1.out; omega⟩, ⟨by (with_reducible repeat (first | apply Kd.R_alloc | apply Kd.R_drewN | apply Kd.R_drew)); exact HO_3.out⟩, ⟨m32_⟩⟩
  rw [if_pos c12] at H
  have c12b0 : ((bt a0 x5_1) == 47) = true := beq_iff_eq.mpr c12
  have c12b1 : ((bt a0 x5_1) != 47) = false := bne_eq_false_iff_eq.mpr c12
  clear c12
  by_cases c13 : 0 ≤ x4_1
  case neg =>
   rw [if_neg c13] at H
   exact absurd H (by simp)
  rw [if_pos c13] at H
  have c13b0 := eq_true c13
  have c13b1 : decide (0 ≤ x4_1) = true := decide_eq_true c13
  clear c13
  by_cases c14 : x4_1 ≤ x5_1
  case neg =>
   rw [if_neg c14] at H
   exact absurd H (by simp)
  rw [if_pos c14] at H
  have c14b0 := eq_true c14
  have c14b1 : decide (x4_1 ≤ x5_1) = true := decide_eq_true c14
  clear c14
  have c15b0 := eq_true (of_decide_eq_true m15_ : x5_1 ≤ (a0.size : Int))
  by_cases c16 : x3_1.length < 8796093022208
  case neg =>
   rw [if_neg c16] at H
   exact absurd H (by simp)
  rw [if_pos c16] at H
  have LMc16 := Aside0.mk c16
  clear c16
  obtain ⟨y228, hy228⟩ : ∃ y_ : List ByteArray, y_ = (x3_1 ++ [a0.extract (x4_1 : Int).toNat (x5_1 : Int).toNat]) := ⟨_, rfl⟩
  replace H : (strongroomref05_Cut.l0 k1 a0 y228 (wrap64 (x5_1 + 1)) (wrap64 (x5_1 + 1))) = some r := by first | (rw [hy228]; with_reducible exact H) | (have H2_ := (Option.bind_some _ _).symm.trans H; rw [hy228]; with_reducible exact H2_) | (have H2_ := (Option.bind_some _ _).symm.trans H; with_reducible exact H2_) | with_reducible exact H | (rw [hy228]; exact H) | exact H
  have Ny228 := Aside0.mk hy228
  clear hy228
  have H' := Aside0.mk H
  clear H
  have p11 : 0 ≤ (x5_1 : Int) := of_decide_eq_true m15_
  have q11 : x5_1 < (a0.size : Int) := of_decide_eq_true m15_
  have hx11 := bt_at a0 x5_1
  replace p11 := eq_true p11
  replace q11 := eq_true q11
  go_wp2_with (first | ((with_reducible refine gate_builtin (b := .append) (xs := #[.tmp 22, .tmp 27]) rfl ?_); at_builtin; refine Kd.R_append Kd.string (w0 := w) w.heap.size rfl (.tmp 22) (.tmp 27) 32 9 (.string ⟨#[]⟩) 16 rfl Tryd.underlying32 info9 rfl (by decide) (by omega) u3 x3_1 (a0.extract (x4_1 : Int).toNat (x5_1 : Int).toNat) [.string (a0.extract (x4_1 : Int).toNat (x5_1 : Int).toNat)] (fun _ => True) (fun _ => False) rfl rfl ?aP (fun _ hk => hk.elim) ?aF ?aO ?aB ?aS ?aL ?_; (case aP => exact rfl); (case aB => exact m9_); (case aF => exact (fun _ _ => trivial)); (case aO => exact (by (with_reducible repeat (first | apply Kd.R_alloc | apply Kd.R_drewN | apply Kd.R_drew)); exact HO_3.out)); (case aS => exact (below_size m9_)); (case aL => have := LMc16.out; omega); intro v229 w17 ho hb hg hat; rw [← Ny228.out] at ho; have n0_ := Aside0.mk (hb); have n1_ := Aside0.mk (ho); clear HB; clear HO_3; have HB := n0_; have HO230 := n1_; clear n0_ n1_; clear ho hb hg hat))
  go_roundg k1
  case measure => have := HK1.out; omega
  case rel => exact ⟨(y228), (wrap64 (x5_1 + 1)), (wrap64 (x5_1 + 1)), m16_, m16_, H', ⟨by have := HK1.out; omega⟩, ⟨by (with_reducible repeat (first | apply Kd.R_alloc | apply Kd.R_drewN | apply Kd.R_drew)); exact HO230.out⟩, ⟨m32_⟩⟩

end Go.Proofs.YtdeggemomajhcaaDoorH.HMerkleMissing
