-- PRINTED by print.py (a twelfth state) out of the translation. Not trusted: Lean checks it.
import Derived.Test.YtdeggemomajhcaaDoorHMerkleAbsentx0
import Derived.Test.YtdeggemomajhcaaDoorHMerkleAbsentx5
import Derived.Test.YtdeggemomajhcaaDoorHMerkleAbsentx6
namespace Go.Proofs.YtdeggemomajhcaaDoorH.HMerkleAbsent
open Go.RowKit Go.Proofs.YtdeggemomajhcaaDoorW.PrintWords Go.Proofs.YtdeggemomajhcaaDoorW.PrintLast Go.Proofs.YtdeggemomajhcaaDoorW.PrintMore
attribute [local go_sem] max2_int min2_int max_two min_two max_three min_three max_four min_four   -- for this text's walks alone
set_option linter.unusedVariables false
set_option linter.unusedSimpArgs false

/-! ### merkle_prove: function 47 -/
def merkle_prove.f : Nat → List (S44) → Int → Option (List ByteArray)
 | 0, _, _ => none
 | k + 1, l0, a1 => if (l0.length : Int) = 1 then (some ([] : List ByteArray)) else ((merkle_half.f k (l0.length : Int)).bind fun t151 => (if a1 < t151 then (if 0 ≤ t151 then (if t151 ≤ (l0.length : Int) then ((merkle_prove.f k (l0.take (t151 : Int).toNat) a1).bind fun t156 => ((merkle_digest.f k (l0.drop (t151 : Int).toNat)).bind fun t163 => (if t156.length < 8796093022208 then (some (t156 ++ [t163])) else (none)))) else (none)) else (none)) else (if 0 ≤ t151 then (if t151 ≤ (l0.length : Int) then ((merkle_prove.f k (l0.drop (t151 : Int).toNat) (wrap64 (a1 - t151))).bind fun t171 => ((merkle_digest.f k (l0.take (t151 : Int).toNat)).bind fun t178 => (if t171.length < 8796093022208 then (some (t171 ++ [t178])) else (none)))) else (none)) else (none))))
theorem merkle_prove.mono_l : ∀ k, (∀ y0 y1, LeO (merkle_prove.f k y0 y1) (merkle_prove.f (k + 1) y0 y1))
 | 0 => fun _ _ r h => by simp [merkle_prove.f] at h
 | k + 1 => by
  have ih0 := merkle_prove.mono_l k
  ·intro y0 y1
   unfold merkle_prove.f
   repeat' first
   | (with_reducible exact ih0 _ _)
   | (with_reducible exact merkle_digest.mono _ _)
   | (with_reducible exact merkle_half.mono _ _)
   | (with_reducible exact LeO.refl _)
   | (with_reducible exact LeO.none _)
   | (with_reducible refine LeO.ite ?_ ?_)
   | (with_reducible refine LeO.bind ?_ (fun _ => ?_))
   | exact ih0 _ _
   | exact merkle_digest.mono _ _
   | exact merkle_half.mono _ _
   | exact LeO.none _
   | refine LeO.ite ?_ ?_
   | refine LeO.bind ?_ (fun _ => ?_)
theorem merkle_prove.mono : ∀ a0 a1 k, LeO (merkle_prove.f k a0 a1) (merkle_prove.f (k + 1) a0 a1) := by
 intro a0 a1 k
 have ih0 := merkle_prove.mono_l k
 exact ih0 a0 a1
def merkle_prove.T5 : Bool × List (List Nat × List Nat) := (true, [([], []), ([], []), ([], []), ([0, 1, 2], [0, 1, 2]), ([], []), ([3, 4], [3, 4]), ([], []), ([], []), ([6, 7], [6, 7]), ([8, 5], [8]), ([9], [9]), ([5, 10, 9], [5, 10]), ([11, 11, 0, 1, 2, 3, 4, 5, 6, 7, 8, 9, 10, 11], [11])])
def merkle_prove.B5 : List Nat := [0, 0, 0, 7, 0, 31, 0, 0, 192, 511, 1023, 2047, 4095]
theorem merkle_prove.tab5 : rtab .any (opsOf Tryd.f47 5) = merkle_prove.T5 := by kernel_rfl
theorem merkle_prove.bits5 : waitsOk merkle_prove.T5.2 merkle_prove.B5 = true := by kernel_rfl
def merkle_prove.T6 : Bool × List (List Nat × List Nat) := (true, [([], []), ([], []), ([0, 1], [0, 1]), ([], []), ([], []), ([3, 4], [3, 4]), ([2, 5], [2, 5]), ([], []), ([], []), ([], []), ([7, 8, 9], [7, 8, 9]), ([10, 6], [10]), ([11], [11]), ([6, 12, 11], [6, 12]), ([13, 13, 0, 1, 2, 3, 4, 5, 6, 7, 8, 9, 10, 11, 12, 13], [13])])
def merkle_prove.B6 : List Nat := [0, 0, 3, 0, 0, 24, 63, 0, 0, 0, 896, 2047, 4095, 8191, 16383]
theorem merkle_prove.tab6 : rtab .any (opsOf Tryd.f47 6) = merkle_prove.T6 := by kernel_rfl
theorem merkle_prove.bits6 : waitsOk merkle_prove.T6.2 merkle_prove.B6 = true := by kernel_rfl
set_option maxHeartbeats 8000000 in
set_option maxRecDepth 100000 in
theorem merkle_prove.calls (k : Nat) : ∀ (A0 : Option Addr) (c0 : Nat) (l0 : List (S44)) (a1 : Int) (r : List ByteArray) (w : World) (hr0 : Kd.C k44 w A0 l0.length l0) (hc0 : l0.length ≤ c0) (h : merkle_prove.f k l0 a1 = some r),
  Calls Tryd.prog 47 #[.slice A0 l0.length c0, .int .i64 a1] w fun e w' => ∃ v0_ : Value, e = .returned (v0_) ∧ Kd.R Kd.string 9 w' w.heap.size (fun _ => True) v0_ r ∧ Below w.heap.size w w' := by
 induction k using Nat.strongRecOn with
 | _ k ih =>
 intro A0 c0 l0 a1 r w hr0 hc0 h
 cases k with
 | zero => exact absurd h (by simp [merkle_prove.f])
 | succ k =>
 simp only [merkle_prove.f] at h
 have HR0 := Aside0.mk hr0
 have HC0 := Aside0.mk hc0
 clear hr0 hc0
 have HB := Aside0.mk (Below.refl w.heap.size w)
 have H : (if (l0.length : Int) = 1 then (some ([] : List ByteArray)) else ((merkle_half.f k (l0.length : Int)).bind fun t151 => (if a1 < t151 then (if 0 ≤ t151 then (if t151 ≤ (l0.length : Int) then ((merkle_prove.f k (l0.take (t151 : Int).toNat) a1).bind fun t156 => ((merkle_digest.f k (l0.drop (t151 : Int).toNat)).bind fun t163 => (if t156.length < 8796093022208 then (some (t156 ++ [t163])) else (none)))) else (none)) else (none)) else (if 0 ≤ t151 then (if t151 ≤ (l0.length : Int) then ((merkle_prove.f k (l0.drop (t151 : Int).toNat) (wrap64 (a1 - t151))).bind fun t171 => ((merkle_digest.f k (l0.take (t151 : Int).toNat)).bind fun t178 => (if t171.length < 8796093022208 then (some (t171 ++ [t178])) else (none)))) else (none)) else (none))))) = some r := h
 clear h
 by_cases c3 : (l0.length : Int) = 1
 ·rw [if_pos c3] at H
  have c3b0 : ((l0.length : Int) == 1) = true := beq_iff_eq.mpr c3
  have c3b1 : ((l0.length : Int) != 1) = false := bne_eq_false_iff_eq.mpr c3
  clear c3
  obtain rfl := Option.some.inj H
  go_enter Tryd.func47, Tryd.ntmps47
  go_wp2
  go_ret
  exact ⟨_, by first | rfl | (simp [errW_none, errW_some] <;> rfl) | (simp [*, errW_none, errW_some] <;> rfl), by first | exact Kd.R_nil _ _ _ _ _ | exact Kd.N_nil _ _ _ _ _ | exact Kd.V_nil _ _ _ _ _ | exact Kd.Q_nil _ _ _ _ _ | exact Kd.S_nil _ _ _ _ _, m41_⟩
 rw [if_neg c3] at H
 have c3b0 : ((l0.length : Int) == 1) = false := beq_eq_false_iff_ne.mpr c3
 have c3b1 : ((l0.length : Int) != 1) = true := bne_iff_ne.mpr c3
 replace H := Option.bind_eq_some_iff.mp H
 obtain ⟨t151, A40, H⟩ := H
 replace H : (if a1 < t151 then (if 0 ≤ t151 then (if t151 ≤ (l0.length : Int) then ((merkle_prove.f k (l0.take (t151 : Int).toNat) a1).bind fun t156 => ((merkle_digest.f k (l0.drop (t151 : Int).toNat)).bind fun t163 => (if t156.length < 8796093022208 then (some (t156 ++ [t163])) else (none)))) else (none)) else (none)) else (if 0 ≤ t151 then (if t151 ≤ (l0.length : Int) then ((merkle_prove.f k (l0.drop (t151 : Int).toNat) (wrap64 (a1 - t151))).bind fun t171 => ((merkle_digest.f k (l0.take (t151 : Int).toNat)).bind fun t178 => (if t171.length < 8796093022208 then (some (t171 ++ [t178])) else (none)))) else (none)) else (none))) = some r := H
 have A4 := Aside0.mk A40
 clear A40
 by_cases c5 : a1 < t151
 ·rw [if_pos c5] at H
  have c5b0 : decide (a1 < t151) = true := decide_eq_true c5
  clear c5
  by_cases c6 : 0 ≤ t151
  case neg =>
   rw [if_neg c6] at H
   exact absurd H (by simp)
  rw [if_pos c6] at H
  have c6b0 := eq_true c6
  have c6b1 : decide (0 ≤ t151) = true := decide_eq_true c6
  clear c6
  by_cases c7 : t151 ≤ (l0.length : Int)
  case neg =>
   rw [if_neg c7] at H
   exact absurd H (by simp)
  rw [if_pos c7] at H
  have c7b0 := eq_true c7
  have c7b1 : decide (t151 ≤ (l0.length : Int)) = true := decide_eq_true c7
  clear c7
  obtain ⟨y152, hy152⟩ : ∃ y_ : List (S44), y_ = (l0.take (t151 : Int).toNat) := ⟨_, rfl⟩
  replace H : ((merkle_prove.f k y152 a1).bind fun t156 => ((merkle_digest.f k (l0.drop (t151 : Int).toNat)).bind fun t163 => (if t156.length < 8796093022208 then (some (t156 ++ [t163])) else (none)))) = some r := by first | (rw [hy152]; with_reducible exact H) | (have H2_ := (Option.bind_some _ _).symm.trans H; rw [hy152]; with_reducible exact H2_) | (have H2_ := (Option.bind_some _ _).symm.trans H; with_reducible exact H2_) | with_reducible exact H | (rw [hy152]; exact H) | exact H
  have Ny152 := Aside0.mk hy152
  clear hy152
  replace H := Option.bind_eq_some_iff.mp H
  obtain ⟨t156, A80, H⟩ := H
  replace H : ((merkle_digest.f k (l0.drop (t151 : Int).toNat)).bind fun t163 => (if t156.length < 8796093022208 then (some (t156 ++ [t163])) else (none))) = some r := H
  have A8 := Aside0.mk A80
  clear A80
  have c9b0 := eq_true (of_decide_eq_true m22_ : 0 ≤ t151)
  have c10b0 := eq_true (of_decide_eq_true m22_ : t151 ≤ (l0.length : Int))
  obtain ⟨y159, hy159⟩ : ∃ y_ : List (S44), y_ = (l0.drop (t151 : Int).toNat) := ⟨_, rfl⟩
  replace H : ((merkle_digest.f k y159).bind fun t163 => (if t156.length < 8796093022208 then (some (t156 ++ [t163])) else (none))) = some r := by first | (rw [hy159]; with_reducible exact H) | (have H2_ := (Option.bind_some _ _).symm.trans H; rw [hy159]; with_reducible exact H2_) | (have H2_ := (Option.bind_some _ _).symm.trans H; with_reducible exact H2_) | with_reducible exact H | (rw [hy159]; exact H) | exact H
  have Ny159 := Aside0.mk hy159
  clear hy159
  replace H := Option.bind_eq_some_iff.mp H
  obtain ⟨t163, A110, H⟩ := H
  replace H : (if t156.length < 8796093022208 then (some (t156 ++ [t163])) else (none)) = some r := H
  have A11 := Aside0.mk A110
  clear A110
  by_cases c12 : t156.length < 8796093022208
  case neg =>
   rw [if_neg c12] at H
   exact absurd H (by simp)
  rw [if_pos c12] at H
  have LMc12 := Aside0.mk c12
  clear c12
  obtain ⟨y164, hy164⟩ : ∃ y_ : List ByteArray, y_ = (t156 ++ [t163]) := ⟨_, rfl⟩
  replace H : (some y164) = some r := by first | (rw [hy164]; with_reducible exact H) | (have H2_ := (Option.bind_some _ _).symm.trans H; rw [hy164]; with_reducible exact H2_) | (have H2_ := (Option.bind_some _ _).symm.trans H; with_reducible exact H2_) | with_reducible exact H | (rw [hy164]; exact H) | exact H
  have Ny164 := Aside0.mk hy164
  clear hy164
  obtain rfl := Option.some.inj H
  go_enter Tryd.func47, Tryd.ntmps47
  try go_wp2_with (first | ((with_reducible refine gate_callee (f := 61) rfl ?_); refine goesL_ (some 11) rfl rfl Tryd.func61 (by kernel_rfl) rfl #[.int .i64 (l0.length : Int)] rfl m10_ ?_; (with_reducible refine (merkle_half.calls k (l0.length : Int) t151 _ A4.out).mono ?_); rintro e w' ⟨rfl, ⟨nd, rfl⟩⟩; refine ⟨_, rfl, ?_⟩))
  replace HB := Aside0.mk (below_drew1 HB.out)
  have q14 : (t151 : Int) ≤ ((l0.length : Int) : Int) := of_decide_eq_true m22_
  obtain ⟨i014, hi014, _, hsz14, _⟩ := info_parts info44
  have hroom14 : l0.length ≤ c0 := HC0.out
  have hC14 : Kd.C k44 _ A0 l0.length l0 := HR0.out
  have hcut14 := Go.Proofs.YtdeggemomajhcaaDoor.cut_to3 (P := Tryd.prog) 26 44 .i64 Tryd.underlying26 hi014 A0 l0.length c0 t151 (of_decide_eq_true m22_) q14 hroom14
  have hr14 := Kd.C_take (m := (t151 : Int).toNat) hC14 (by omega)
  have hy14 : y152.length = (t151 : Int).toNat := (by rw [Ny152.out, List.length_take]; omega)
  rw [← Ny152.out] at hr14
  rw [← hy14] at hcut14
  have HR155 := Aside0.mk hr14
  have HC155 := Aside0.mk (Nat.le_refl y152.length)
  clear hr14 hC14 hroom14 hi014 hsz14
  have KY14 := Aside0.mk hy14
  clear hy14
  replace q14 := eq_true q14
  have q15 : (t151 : Int) ≤ ((l0.length : Int) : Int) := of_decide_eq_true m22_
  obtain ⟨i015, hi015, _, hsz15, _⟩ := info_parts info44
  have hroom15 : l0.length ≤ c0 := HC0.out
  have hC15 : Kd.C k44 _ A0 l0.length l0 := HR0.out
  have q015 : (0 : Int) ≤ (t151 : Int) := of_decide_eq_true m22_
  have hcut15 := cut_from (P := Tryd.prog) 26 44 .i64 Tryd.underlying26 hi015 2 hsz15 A0 l0.length c0 t151 q015 q15
  have hr15 := Kd.C_drop (m := (t151 : Int).toNat) (c := c0) hC15 (by omega) hroom15
  obtain ⟨A15, hA15⟩ : ∃ A1, A1 = (if c0 = (t151 : Int).toNat then A0 else (A0 : Option Addr).map (·.add ((t151 : Int).toNat * 2))) := ⟨_, rfl⟩
  obtain ⟨c15, hc15⟩ : ∃ c1, c1 = c0 - (t151 : Int).toNat := ⟨_, rfl⟩
  have hy15 : y159.length = l0.length - (t151 : Int).toNat := (by rw [Ny159.out, List.length_drop] <;> omega)
  rw [show (l0).drop (t151 : Int).toNat = y159 from Ny159.out.symm] at hr15
  replace hr15 : Kd.C k44 _ A15 y159.length y159 := (by rw [hA15]; exact hr15)
  rw [← hy15, ← hA15, ← hc15] at hcut15
  have HR162 := Aside0.mk hr15
  have HC162 := Aside0.mk (show y159.length ≤ c15 from by rw [hy15, hc15]; exact Nat.sub_le_sub_right hroom15 _)
  clear hr15 hC15 hroom15 hi015 hsz15 hc15
  have KY15 := Aside0.mk hy15
  have KA15 := Aside0.mk hA15
  clear hy15 hA15
  replace q15 := eq_true q15
  refine start_ (n := 13) (S := fun w' => True) (ds := []) (Ra_ [0, 13]) (by kernel_rfl) rfl rfl trivial (fun hHeld => ?_); refine with_tabW merkle_prove.tab5 merkle_prove.bits5 (fun HT_ HW_ => ?_)
  generalize w.drew = w13 at HB HR155 HR162 hHeld ⊢
  refine pI_ 0 (some 15) (Ra_ [1, 12]) (h := ?_)
  refine pI_ 1 (some 16) (Ra_ [2, 11]) (h := ?_)
  refine pI_ 2 (some 17) (Ra_ [3, 10]) (h := ?_)
  refine pI_ 3 (some 18) (Ra_ [4, 9]) (h := ?_)
  refine pI_ 4 (some 19) (Ra_ [5, 8]) (h := ?_)
  refine pI_ 6 (some 21) (Ra_ [5, 1, 1, 6]) (h := ?_)
  refine pI_ 7 (some 22) (Ra_ [5, 1, 2, 5]) (h := ?_)
  refine pI_ 8 (some 23) (Ra_ [5, 1, 3, 4]) (h := ?_)
  refine one_ (i := 5) (N := some 20) (Ra_ [9, 4]) rfl rfl (one_of HT_.out (by kernel_rfl)) (by decide) (fun K hK => ?_)
  refine goes_ Tryd.func47 (by kernel_rfl) rfl #[.slice A0 y152.length y152.length, .int .i64 a1] (by rfl) rfl rfl m10_ ?_
  with_reducible refine (ih k (by omega) _ _ y152 a1 t156 _ ?side1 ?side2 A8.out).mono ?_
  (case side1 => repeat (first | exact (Kd.C_below HR155.out HB.out) | exact HR155.out | (with_reducible refine Kd.C_alloc ?_ _) | (with_reducible refine Kd.C_drewN ?_ _) | (with_reducible refine Kd.C_drew ?_)))
  (case side2 => exact HC155.out)
  rintro e w16 ⟨v157, rfl, ho0, hb⟩
  refine ⟨_, rfl, ?_⟩
  have HO158 := Aside0.mk (Kd.R_lower ho0 (below_size m9_))
  replace HB := Aside0.mk (below_step m9_ hb)
  (try clear hb)
  (try clear hb2)
  (try clear hk)
  (try clear hi)
  (try clear ho0)
  refine hK.out _ _ trivial (fun hHeld => ?_)
  clear hK K
  refine norm_ (a' := ?_) ?_ ?_
  rotate_left
  ·show Act.put _ (some 20) _ = _
   simp only [Act.put, sA_, sB_, sC_, i64_w, i32_w]
   rfl
  refine one_ (i := 9) (N := some 24) (Ra_ [10, 3]) rfl rfl (one_of HT_.out (by kernel_rfl)) (by decide) (fun K hK => ?_)
  refine goes_ Tryd.func42 (by kernel_rfl) rfl #[.slice A15 y159.length c15] (by rfl) rfl rfl m10_ ?_
  with_reducible refine (merkle_digest.calls k _ _ y159 t163 _ ?side1 ?side2 A11.out).mono ?_
  (case side1 => repeat (first | exact (Kd.C_below HR162.out HB.out) | exact HR162.out | (with_reducible refine Kd.C_alloc ?_ _) | (with_reducible refine Kd.C_drewN ?_ _) | (with_reducible refine Kd.C_drew ?_)))
  (case side2 => exact HC162.out)
  rintro e w17 ⟨rfl, hb⟩
  refine ⟨_, rfl, ?_⟩
  have n0_ := Aside0.mk (Kd.R_below (by (with_reducible repeat (first | apply Kd.R_alloc | apply Kd.R_drewN | apply Kd.R_drew)); exact HO158.out) hb)
  have n1_ := Aside0.mk (below_step m9_ hb)
  clear HO158 HB
  have HO158 := n0_
  have HB := n1_
  clear n0_ n1_
  (try clear hb)
  (try clear hb2)
  (try clear hk)
  (try clear hi)
  refine hK.out _ _ trivial (fun hHeld => ?_)
  clear hK K
  refine norm_ (a' := ?_) ?_ ?_
  rotate_left
  ·show Act.put _ (some 24) _ = _
   simp only [Act.put, sA_, sB_, sC_, i64_w, i32_w]
   rfl
  refine one_ (i := 10) (N := some 25) (Ra_ [11, 2]) rfl rfl (one_of HT_.out (by kernel_rfl)) (by decide) (fun K hK => ?_)
  refine value_ (w1 := ?_) (v := ?_) (by rfl) rfl ?_ ?_
  rotate_left 2
  ·go_simp
   constructor
   ·rfl
   rfl
  refine hK.out _ _ trivial (fun hHeld => ?_)
  clear hK K
  refine norm_ (a' := ?_) ?_ ?_
  rotate_left
  ·show Act.put _ (some 25) _ = _
   simp only [Act.put, sA_, sB_, sC_, i64_w, i32_w]
   rfl
  refine one_ (i := 11) (N := some 26) (Ra_ [12, 1]) rfl rfl (one_of HT_.out (by kernel_rfl)) (by decide) (fun K hK => ?_)
  refine Kd.R_append_step Kd.string (w0 := w) w.heap.size (by rfl) (.tmp 20) (.tmp 25) 32 9 (.string ⟨#[]⟩) 16 rfl Tryd.underlying32 info9 rfl (by decide) (by omega) v157 t156 t163 [.string t163] (fun _ => True) (fun _ => False) rfl rfl ?aP (fun _ hk => hk.elim) ?aF ?aO ?aB ?aS ?aL ?_
  (case aP => exact rfl)
  (case aB => exact m9_)
  (case aF => exact (fun _ _ => trivial))
  (case aO => exact (by (with_reducible repeat (first | apply Kd.R_alloc | apply Kd.R_drewN | apply Kd.R_drew)); exact HO158.out))
  (case aS => exact (below_size m9_))
  (case aL => have := LMc12.out; omega)
  intro v165 w18 ho hb hg hat
  rw [← Ny164.out] at ho
  have n0_ := Aside0.mk (hb)
  have n1_ := Aside0.mk (ho)
  clear HB HO158
  have HB := n0_
  have HO166 := n1_
  clear n0_ n1_ ho hb hg hat
  refine hK.out _ _ trivial (fun hHeld => ?_)
  clear hK K
  refine norm_ (a' := ?_) ?_ ?_
  rotate_left
  ·show Act.put _ (some 26) _ = _
   simp only [Act.put, sA_, sB_, sC_, i64_w, i32_w]
   rfl
  refine pI_ 12 (some 4) (Ra_ [13]) (h := ?_)
  refine done_ (done_of HT_.out (by kernel_rfl)) ?_
  try go_wp2
  go_ret
  exact ⟨_, by first | rfl | (simp [errW_none, errW_some] <;> rfl) | (simp [*, errW_none, errW_some] <;> rfl), by (with_reducible repeat (first | apply Kd.R_alloc | apply Kd.R_drewN | apply Kd.R_drew)); exact HO166.out, m41_⟩
 rw [if_neg c5] at H
 have c5b0 : decide (a1 < t151) = false := decide_eq_false c5
 clear c5
 by_cases c19 : 0 ≤ t151
 case neg =>
  rw [if_neg c19] at H
  exact absurd H (by simp)
 rw [if_pos c19] at H
 have c19b0 := eq_true c19
 have c19b1 : decide (0 ≤ t151) = true := decide_eq_true c19
 clear c19
 by_cases c20 : t151 ≤ (l0.length : Int)
 case neg =>
  rw [if_neg c20] at H
  exact absurd H (by simp)
 rw [if_pos c20] at H
 have c20b0 := eq_true c20
 have c20b1 : decide (t151 ≤ (l0.length : Int)) = true := decide_eq_true c20
 clear c20
 obtain ⟨y167, hy167⟩ : ∃ y_ : List (S44), y_ = (l0.drop (t151 : Int).toNat) := ⟨_, rfl⟩
 replace H : ((merkle_prove.f k y167 (wrap64 (a1 - t151))).bind fun t171 => ((merkle_digest.f k (l0.take (t151 : Int).toNat)).bind fun t178 => (if t171.length < 8796093022208 then (some (t171 ++ [t178])) else (none)))) = some r := by first | (rw [hy167]; with_reducible exact H) | (have H2_ := (Option.bind_some _ _).symm.trans H; rw [hy167]; with_reducible exact H2_) | (have H2_ := (Option.bind_some _ _).symm.trans H; with_reducible exact H2_) | with_reducible exact H | (rw [hy167]; exact H) | exact H
 have Ny167 := Aside0.mk hy167
 clear hy167
 replace H := Option.bind_eq_some_iff.mp H
 obtain ⟨t171, A210, H⟩ := H
 replace H : ((merkle_digest.f k (l0.take (t151 : Int).toNat)).bind fun t178 => (if t171.length < 8796093022208 then (some (t171 ++ [t178])) else (none))) = some r := H
 have A21 := Aside0.mk A210
 clear A210
 have c22b0 := eq_true (of_decide_eq_true m22_ : 0 ≤ t151)
 have c23b0 := eq_true (of_decide_eq_true m22_ : t151 ≤ (l0.length : Int))
 obtain ⟨y174, hy174⟩ : ∃ y_ : List (S44), y_ = (l0.take (t151 : Int).toNat) := ⟨_, rfl⟩
 replace H : ((merkle_digest.f k y174).bind fun t178 => (if t171.length < 8796093022208 then (some (t171 ++ [t178])) else (none))) = some r := by first | (rw [hy174]; with_reducible exact H) | (have H2_ := (Option.bind_some _ _).symm.trans H; rw [hy174]; with_reducible exact H2_) | (have H2_ := (Option.bind_some _ _).symm.trans H; with_reducible exact H2_) | with_reducible exact H | (rw [hy174]; exact H) | exact H
 have Ny174 := Aside0.mk hy174
 clear hy174
 replace H := Option.bind_eq_some_iff.mp H
 obtain ⟨t178, A240, H⟩ := H
 replace H : (if t171.length < 8796093022208 then (some (t171 ++ [t178])) else (none)) = some r := H
 have A24 := Aside0.mk A240
 clear A240
 by_cases c25 : t171.length < 8796093022208
 case neg =>
  rw [if_neg c25] at H
  exact absurd H (by simp)
 rw [if_pos c25] at H
 have LMc25 := Aside0.mk c25
 clear c25
 obtain ⟨y179, hy179⟩ : ∃ y_ : List ByteArray, y_ = (t171 ++ [t178]) := ⟨_, rfl⟩
 replace H : (some y179) = some r := by first | (rw [hy179]; with_reducible exact H) | (have H2_ := (Option.bind_some _ _).symm.trans H; rw [hy179]; with_reducible exact H2_) | (have H2_ := (Option.bind_some _ _).symm.trans H; with_reducible exact H2_) | with_reducible exact H | (rw [hy179]; exact H) | exact H
 have Ny179 := Aside0.mk hy179
 clear hy179
 obtain rfl := Option.some.inj H
 go_enter Tryd.func47, Tryd.ntmps47
 try go_wp2_with (first | ((with_reducible refine gate_callee (f := 61) rfl ?_); refine goesL_ (some 11) rfl rfl Tryd.func61 (by kernel_rfl) rfl #[.int .i64 (l0.length : Int)] rfl m10_ ?_; (with_reducible refine (merkle_half.calls k (l0.length : Int) t151 _ A4.out).mono ?_); rintro e w' ⟨rfl, ⟨nd, rfl⟩⟩; refine ⟨_, rfl, ?_⟩))
 replace HB := Aside0.mk (below_drew1 HB.out)
 have q27 : (t151 : Int) ≤ ((l0.length : Int) : Int) := of_decide_eq_true m22_
 obtain ⟨i027, hi027, _, hsz27, _⟩ := info_parts info44
 have hroom27 : l0.length ≤ c0 := HC0.out
 have hC27 : Kd.C k44 _ A0 l0.length l0 := HR0.out
 have q027 : (0 : Int) ≤ (t151 : Int) := of_decide_eq_true m22_
 have hcut27 := cut_from (P := Tryd.prog) 26 44 .i64 Tryd.underlying26 hi027 2 hsz27 A0 l0.length c0 t151 q027 q27
 have hr27 := Kd.C_drop (m := (t151 : Int).toNat) (c := c0) hC27 (by omega) hroom27
 obtain ⟨A27, hA27⟩ : ∃ A1, A1 = (if c0 = (t151 : Int).toNat then A0 else (A0 : Option Addr).map (·.add ((t151 : Int).toNat * 2))) := ⟨_, rfl⟩
 obtain ⟨c27, hc27⟩ : ∃ c1, c1 = c0 - (t151 : Int).toNat := ⟨_, rfl⟩
 have hy27 : y167.length = l0.length - (t151 : Int).toNat := (by rw [Ny167.out, List.length_drop] <;> omega)
 rw [show (l0).drop (t151 : Int).toNat = y167 from Ny167.out.symm] at hr27
 replace hr27 : Kd.C k44 _ A27 y167.length y167 := (by rw [hA27]; exact hr27)
 rw [← hy27, ← hA27, ← hc27] at hcut27
 have HR170 := Aside0.mk hr27
 have HC170 := Aside0.mk (show y167.length ≤ c27 from by rw [hy27, hc27]; exact Nat.sub_le_sub_right hroom27 _)
 clear hr27 hC27 hroom27 hi027 hsz27 hc27
 have KY27 := Aside0.mk hy27
 have KA27 := Aside0.mk hA27
 clear hy27 hA27
 replace q27 := eq_true q27
 have q28 : (t151 : Int) ≤ ((l0.length : Int) : Int) := of_decide_eq_true m22_
 obtain ⟨i028, hi028, _, hsz28, _⟩ := info_parts info44
 have hroom28 : l0.length ≤ c0 := HC0.out
 have hC28 : Kd.C k44 _ A0 l0.length l0 := HR0.out
 have hcut28 := Go.Proofs.YtdeggemomajhcaaDoor.cut_to3 (P := Tryd.prog) 26 44 .i64 Tryd.underlying26 hi028 A0 l0.length c0 t151 (of_decide_eq_true m22_) q28 hroom28
 have hr28 := Kd.C_take (m := (t151 : Int).toNat) hC28 (by omega)
 have hy28 : y174.length = (t151 : Int).toNat := (by rw [Ny174.out, List.length_take]; omega)
 rw [← Ny174.out] at hr28
 rw [← hy28] at hcut28
 have HR177 := Aside0.mk hr28
 have HC177 := Aside0.mk (Nat.le_refl y174.length)
 clear hr28 hC28 hroom28 hi028 hsz28
 have KY28 := Aside0.mk hy28
 clear hy28
 replace q28 := eq_true q28
 refine start_ (n := 15) (S := fun w' => True) (ds := []) (Ra_ [0, 15]) (by kernel_rfl) rfl rfl trivial (fun hHeld => ?_); refine with_tabW merkle_prove.tab6 merkle_prove.bits6 (fun HT_ HW_ => ?_)
 generalize w.drew = w26 at HB HR170 HR177 hHeld ⊢
 refine pI_ 0 (some 27) (Ra_ [1, 14]) (h := ?_)
 refine pI_ 1 (some 28) (Ra_ [2, 13]) (h := ?_)
 refine pI_ 2 (some 29) (Ra_ [3, 12]) (h := ?_)
 refine pI_ 3 (some 30) (Ra_ [4, 11]) (h := ?_)
 refine pI_ 4 (some 31) (Ra_ [5, 10]) (h := ?_)
 refine pI_ 5 (some 32) (Ra_ [6, 9]) (h := ?_)
 refine pI_ 7 (some 34) (Ra_ [6, 1, 1, 7]) (h := ?_)
 refine pI_ 8 (some 35) (Ra_ [6, 1, 2, 6]) (h := ?_)
 refine pI_ 9 (some 36) (Ra_ [6, 1, 3, 5]) (h := ?_)
 refine pI_ 10 (some 37) (Ra_ [6, 1, 4, 4]) (h := ?_)
 refine one_ (i := 6) (N := some 33) (Ra_ [11, 4]) rfl rfl (one_of HT_.out (by kernel_rfl)) (by decide) (fun K hK => ?_)
 refine goes_ Tryd.func47 (by kernel_rfl) rfl #[.slice A27 y167.length c27, .int .i64 (wrap64 (a1 - t151))] (by rfl) rfl rfl m10_ ?_
 with_reducible refine (ih k (by omega) _ _ y167 (wrap64 (a1 - t151)) t171 _ ?side1 ?side2 A21.out).mono ?_
 (case side1 => repeat (first | exact (Kd.C_below HR170.out HB.out) | exact HR170.out | (with_reducible refine Kd.C_alloc ?_ _) | (with_reducible refine Kd.C_drewN ?_ _) | (with_reducible refine Kd.C_drew ?_)))
 (case side2 => exact HC170.out)
 rintro e w29 ⟨v172, rfl, ho0, hb⟩
 refine ⟨_, rfl, ?_⟩
 have HO173 := Aside0.mk (Kd.R_lower ho0 (below_size m9_))
 replace HB := Aside0.mk (below_step m9_ hb)
 (try clear hb)
 (try clear hb2)
 (try clear hk)
 (try clear hi)
 (try clear ho0)
 refine hK.out _ _ trivial (fun hHeld => ?_)
 clear hK K
 refine norm_ (a' := ?_) ?_ ?_
 rotate_left
 ·show Act.put _ (some 33) _ = _
  simp only [Act.put, sA_, sB_, sC_, i64_w, i32_w]
  rfl
 refine one_ (i := 11) (N := some 38) (Ra_ [12, 3]) rfl rfl (one_of HT_.out (by kernel_rfl)) (by decide) (fun K hK => ?_)
 refine goes_ Tryd.func42 (by kernel_rfl) rfl #[.slice A0 y174.length y174.length] (by rfl) rfl rfl m10_ ?_
 with_reducible refine (merkle_digest.calls k _ _ y174 t178 _ ?side1 ?side2 A24.out).mono ?_
 (case side1 => repeat (first | exact (Kd.C_below HR177.out HB.out) | exact HR177.out | (with_reducible refine Kd.C_alloc ?_ _) | (with_reducible refine Kd.C_drewN ?_ _) | (with_reducible refine Kd.C_drew ?_)))
 (case side2 => exact HC177.out)
 rintro e w30 ⟨rfl, hb⟩
 refine ⟨_, rfl, ?_⟩
 have n0_ := Aside0.mk (Kd.R_below (by (with_reducible repeat (first | apply Kd.R_alloc | apply Kd.R_drewN | apply Kd.R_drew)); exact HO173.out) hb)
 have n1_ := Aside0.mk (below_step m9_ hb)
 clear HO173 HB
 have HO173 := n0_
 have HB := n1_
 clear n0_ n1_
 (try clear hb)
 (try clear hb2)
 (try clear hk)
 (try clear hi)
 refine hK.out _ _ trivial (fun hHeld => ?_)
 clear hK K
 refine norm_ (a' := ?_) ?_ ?_
 rotate_left
 ·show Act.put _ (some 38) _ = _
  simp only [Act.put, sA_, sB_, sC_, i64_w, i32_w]
  rfl
 refine one_ (i := 12) (N := some 39) (Ra_ [13, 2]) rfl rfl (one_of HT_.out (by kernel_rfl)) (by decide) (fun K hK => ?_)
 refine value_ (w1 := ?_) (v := ?_) (by rfl) rfl ?_ ?_
 rotate_left 2
 ·go_simp
  constructor
  ·rfl
  rfl
 refine hK.out _ _ trivial (fun hHeld => ?_)
 clear hK K
 refine norm_ (a' := ?_) ?_ ?_
 rotate_left
 ·show Act.put _ (some 39) _ = _
  simp only [Act.put, sA_, sB_, sC_, i64_w, i32_w]
  rfl
 refine one_ (i := 13) (N := some 40) (Ra_ [14, 1]) rfl rfl (one_of HT_.out (by kernel_rfl)) (by decide) (fun K hK => ?_)
 refine Kd.R_append_step Kd.string (w0 := w) w.heap.size (by rfl) (.tmp 33) (.tmp 39) 32 9 (.string ⟨#[]⟩) 16 rfl Tryd.underlying32 info9 rfl (by decide) (by omega) v172 t171 t178 [.string t178] (fun _ => True) (fun _ => False) rfl rfl ?aP (fun _ hk => hk.elim) ?aF ?aO ?aB ?aS ?aL ?_
 (case aP => exact rfl)
 (case aB => exact m9_)
 (case aF => exact (fun _ _ => trivial))
 (case aO => exact (by (with_reducible repeat (first | apply Kd.R_alloc | apply Kd.R_drewN | apply Kd.R_drew)); exact HO173.out))
 (case aS => exact (below_size m9_))
 (case aL => have := LMc25.out; omega)
 intro v180 w31 ho hb hg hat
 rw [← Ny179.out] at ho
 have n0_ := Aside0.mk (hb)
 have n1_ := Aside0.mk (ho)
 clear HB HO173
 have HB := n0_
 have HO181 := n1_
 clear n0_ n1_ ho hb hg hat
 refine hK.out _ _ trivial (fun hHeld => ?_)
 clear hK K
 refine norm_ (a' := ?_) ?_ ?_
 rotate_left
 ·show Act.put _ (some 40) _ = _
  simp only [Act.put, sA_, sB_, sC_, i64_w, i32_w]
  rfl
 refine pI_ 14 (some 4) (Ra_ [15]) (h := ?_)
 refine done_ (done_of HT_.out (by kernel_rfl)) ?_
 try go_wp2
 go_ret
 exact ⟨_, by first | rfl | (simp [errW_none, errW_some] <;> rfl) | (simp [*, errW_none, errW_some] <;> rfl), by (with_reducible repeat (first | apply Kd.R_alloc | apply Kd.R_drewN | apply Kd.R_drew)); exact HO181.out, m41_⟩

/-! ### merkle_Prove: function 19 -/
def merkle_Prove.f (k : Nat) (l0 : List (S44)) (a1 : Int) : Option (List ByteArray × Int) := (merkle_Check.f k l0).bind fun t182 => (if t182 = 0 then (if a1 < 0 then (some (([] : List ByteArray), 9)) else (if a1 ≥ (l0.length : Int) then (some (([] : List ByteArray), 9)) else ((merkle_prove.f k l0 a1).bind fun t183 => (some (t183, 0))))) else (some (([] : List ByteArray), t182)))
theorem merkle_Prove.mono : ∀ a0 a1 k, LeO (merkle_Prove.f k a0 a1) (merkle_Prove.f (k + 1) a0 a1) := by
 intro a0 a1 k
 unfold merkle_Prove.f
 repeat' first
   | (with_reducible exact merkle_Check.mono _ _)
   | (with_reducible exact merkle_prove.mono _ _ _)
   | (with_reducible exact LeO.refl _)
   | (with_reducible exact LeO.none _)
   | (with_reducible refine LeO.ite ?_ ?_)
   | (with_reducible refine LeO.bind ?_ (fun _ => ?_))
   | exact merkle_Check.mono _ _
   | exact merkle_prove.mono _ _ _
   | exact LeO.none _
   | refine LeO.ite ?_ ?_
   | refine LeO.bind ?_ (fun _ => ?_)
set_option maxHeartbeats 8000000 in
set_option maxRecDepth 100000 in
theorem merkle_Prove.calls (k : Nat) (A0 : Option Addr) (c0 : Nat) (l0 : List (S44)) (a1 : Int) (r1 : List ByteArray) (r2 : Int) (w : World) (hr0 : Kd.C k44 w A0 l0.length l0) (hc0 : l0.length ≤ c0) (h : merkle_Prove.f k l0 a1 = some (r1, r2)) :
  Calls Tryd.prog 19 #[.slice A0 l0.length c0, .int .i64 a1] w fun e w' => ∃ v0_ : Value, e = .returned (.tuple #[v0_, .int .i64 r2]) ∧ Kd.R Kd.string 9 w' w.heap.size (fun _ => True) v0_ r1 ∧ Below w.heap.size w w' := by
 have HR0 := Aside0.mk hr0
 have HC0 := Aside0.mk hc0
 clear hr0 hc0
 have HB := Aside0.mk (Below.refl w.heap.size w)
 have H : ((merkle_Check.f k l0).bind fun t182 => (if t182 = 0 then (if a1 < 0 then (some (([] : List ByteArray), 9)) else (if a1 ≥ (l0.length : Int) then (some (([] : List ByteArray), 9)) else ((merkle_prove.f k l0 a1).bind fun t183 => (some (t183, 0))))) else (some (([] : List ByteArray), t182)))) = some (r1, r2) := h
 clear h
 replace H := Option.bind_eq_some_iff.mp H
 obtain ⟨t182, A30, H⟩ := H
 replace H : (if t182 = 0 then (if a1 < 0 then (some (([] : List ByteArray), 9)) else (if a1 ≥ (l0.length : Int) then (some (([] : List ByteArray), 9)) else ((merkle_prove.f k l0 a1).bind fun t183 => (some (t183, 0))))) else (some (([] : List ByteArray), t182))) = some (r1, r2) := H
 have A3 := Aside0.mk A30
 clear A30
 by_cases c4 : t182 = 0
 case neg =>
  rw [if_neg c4] at H
  have c4b0 : (t182 == 0) = false := beq_eq_false_iff_ne.mpr c4
  have c4b1 : (t182 != 0) = true := bne_iff_ne.mpr c4
  simp only [Option.some.injEq, Prod.mk.injEq] at H
  obtain ⟨rfl, rfl⟩ := H
  go_enter Tryd.func19, Tryd.ntmps19
  go_wp2_with (first | ((with_reducible refine gate_callee (f := 15) rfl ?_); refine goesL_ (some 8) rfl rfl Tryd.func15 (by kernel_rfl) rfl #[.slice A0 l0.length c0] rfl m10_ ?_; (with_reducible refine (merkle_Check.calls k _ _ l0 t182 _ ?side1 ?side2 A3.out).mono ?_); (case side1 => repeat (first | exact HR0.out | (with_reducible refine Kd.C_alloc ?_ _) | (with_reducible refine Kd.C_drewN ?_ _) | (with_reducible refine Kd.C_drew ?_))); (case side2 => exact HC0.out); rintro e w12 ⟨rfl, hb⟩; refine ⟨_, rfl, ?_⟩; replace HB := Aside0.mk (below_step m11_ hb); (try clear hb); (try clear hb2); (try clear hk); (try clear hi)))
  go_ret2
  exact ⟨_, by first | rfl | (simp [errW_none, errW_some] <;> rfl) | (simp [*, errW_none, errW_some] <;> rfl), by first | exact Kd.R_nil _ _ _ _ _ | exact Kd.N_nil _ _ _ _ _ | exact Kd.V_nil _ _ _ _ _ | exact Kd.Q_nil _ _ _ _ _ | exact Kd.S_nil _ _ _ _ _, m41_⟩
 rw [if_pos c4] at H
 have c4b0 : (t182 == 0) = true := beq_iff_eq.mpr c4
 have c4b1 : (t182 != 0) = false := bne_eq_false_iff_eq.mpr c4
 clear c4
 by_cases c5 : a1 < 0
 ·rw [if_pos c5] at H
  have c5b0 : decide (a1 < 0) = true := decide_eq_true c5
  clear c5
  simp only [Option.some.injEq, Prod.mk.injEq] at H
  obtain ⟨rfl, rfl⟩ := H
  go_enter Tryd.func19, Tryd.ntmps19
  go_wp2_with (first | ((with_reducible refine gate_callee (f := 15) rfl ?_); refine goesL_ (some 8) rfl rfl Tryd.func15 (by kernel_rfl) rfl #[.slice A0 l0.length c0] rfl m10_ ?_; (with_reducible refine (merkle_Check.calls k _ _ l0 t182 _ ?side1 ?side2 A3.out).mono ?_); (case side1 => repeat (first | exact HR0.out | (with_reducible refine Kd.C_alloc ?_ _) | (with_reducible refine Kd.C_drewN ?_ _) | (with_reducible refine Kd.C_drew ?_))); (case side2 => exact HC0.out); rintro e w6 ⟨rfl, hb⟩; refine ⟨_, rfl, ?_⟩; replace HB := Aside0.mk (below_step m11_ hb); (try clear hb); (try clear hb2); (try clear hk); (try clear hi)))
  go_ret2
  exact ⟨_, by first | rfl | (simp [errW_none, errW_some] <;> rfl) | (simp [*, errW_none, errW_some] <;> rfl), by first | exact Kd.R_nil _ _ _ _ _ | exact Kd.N_nil _ _ _ _ _ | exact Kd.V_nil _ _ _ _ _ | exact Kd.Q_nil _ _ _ _ _ | exact Kd.S_nil _ _ _ _ _, m41_⟩
 rw [if_neg c5] at H
 have c5b0 : decide (a1 < 0) = false := decide_eq_false c5
 clear c5
 by_cases c7 : a1 ≥ (l0.length : Int)
 ·rw [if_pos c7] at H
  have c7b0 : decide ((l0.length : Int) ≤ a1) = true := decide_eq_true c7
  clear c7
  simp only [Option.some.injEq, Prod.mk.injEq] at H
  obtain ⟨rfl, rfl⟩ := H
  go_enter Tryd.func19, Tryd.ntmps19
  go_wp2_with (first | ((with_reducible refine gate_callee (f := 15) rfl ?_); refine goesL_ (some 8) rfl rfl Tryd.func15 (by kernel_rfl) rfl #[.slice A0 l0.length c0] rfl m10_ ?_; (with_reducible refine (merkle_Check.calls k _ _ l0 t182 _ ?side1 ?side2 A3.out).mono ?_); (case side1 => repeat (first | exact HR0.out | (with_reducible refine Kd.C_alloc ?_ _) | (with_reducible refine Kd.C_drewN ?_ _) | (with_reducible refine Kd.C_drew ?_))); (case side2 => exact HC0.out); rintro e w8 ⟨rfl, hb⟩; refine ⟨_, rfl, ?_⟩; replace HB := Aside0.mk (below_step m11_ hb); (try clear hb); (try clear hb2); (try clear hk); (try clear hi)))
  go_ret2
  exact ⟨_, by first | rfl | (simp [errW_none, errW_some] <;> rfl) | (simp [*, errW_none, errW_some] <;> rfl), by first | exact Kd.R_nil _ _ _ _ _ | exact Kd.N_nil _ _ _ _ _ | exact Kd.V_nil _ _ _ _ _ | exact Kd.Q_nil _ _ _ _ _ | exact Kd.S_nil _ _ _ _ _, m41_⟩
 rw [if_neg c7] at H
 have c7b0 : decide ((l0.length : Int) ≤ a1) = false := decide_eq_false c7
 clear c7
 replace H := Option.bind_eq_some_iff.mp H
 obtain ⟨t183, A90, H⟩ := H
 replace H : (some (t183, 0)) = some (r1, r2) := H
 have A9 := Aside0.mk A90
 clear A90
 simp only [Option.some.injEq, Prod.mk.injEq] at H
 obtain ⟨rfl, rfl⟩ := H
 go_enter Tryd.func19, Tryd.ntmps19
 go_wp2_with (first | ((with_reducible refine gate_callee (f := 15) rfl ?_); refine goesL_ (some 8) rfl rfl Tryd.func15 (by kernel_rfl) rfl #[.slice A0 l0.length c0] rfl m10_ ?_; (with_reducible refine (merkle_Check.calls k _ _ l0 t182 _ ?side1 ?side2 A3.out).mono ?_); (case side1 => repeat (first | exact HR0.out | (with_reducible refine Kd.C_alloc ?_ _) | (with_reducible refine Kd.C_drewN ?_ _) | (with_reducible refine Kd.C_drew ?_))); (case side2 => exact HC0.out); rintro e w10 ⟨rfl, hb⟩; refine ⟨_, rfl, ?_⟩; replace HB := Aside0.mk (below_step m11_ hb); (try clear hb); (try clear hb2); (try clear hk); (try clear hi)) | ((with_reducible refine gate_callee (f := 47) rfl ?_); refine goesL_ (some 22) rfl rfl Tryd.func47 (by kernel_rfl) rfl #[.slice A0 l0.length c0, .int .i64 a1] rfl m10_ ?_; (with_reducible refine (merkle_prove.calls k _ _ l0 a1 t183 _ ?side1 ?side2 A9.out).mono ?_); (case side1 => exact m30_); (case side2 => exact HC0.out); rintro e w11 ⟨v184, rfl, ho0, hb⟩; refine ⟨_, rfl, ?_⟩; have HO185 := Aside0.mk (Kd.R_lower ho0 (below_size m11_)); replace HB := Aside0.mk (below_step m11_ hb); (try clear hb); (try clear hb2); (try clear hk); (try clear hi); (try clear ho0)))
 go_ret2
 exact ⟨_, by first | rfl | (simp [errW_none, errW_some] <;> rfl) | (simp [*, errW_none, errW_some] <;> rfl), by (with_reducible repeat (first | apply Kd.R_alloc | apply Kd.R_drewN | apply Kd.R_drew)); exact HO185.out, m41_⟩

end Go.Proofs.YtdeggemomajhcaaDoorH.HMerkleAbsent
