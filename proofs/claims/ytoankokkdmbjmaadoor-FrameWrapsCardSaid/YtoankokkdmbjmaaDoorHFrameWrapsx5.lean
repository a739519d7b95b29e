-- PRINTED by print.py (a twelfth state) out of the translation. Not trusted: Lean checks it.
import Derived.Test.YtoankokkdmbjmaaDoorHFrameWrapsx0
import Derived.Test.YtoankokkdmbjmaaDoorHFrameWrapsx4
namespace Go.Proofs.YtoankokkdmbjmaaDoorH.HFrameWraps
open Go.RowKit Go.Proofs.YtoankokkdmbjmaaDoorW.PrintWords Go.Proofs.YtoankokkdmbjmaaDoorW.PrintLast Go.Proofs.YtoankokkdmbjmaaDoorW.PrintMore
attribute [local go_sem] max2_int min2_int max_two min_two max_three min_three max_four min_four   -- for this text's walks alone
set_option linter.unusedVariables false
set_option linter.unusedSimpArgs false

/-! ### strongroomlaw25_lives: function 11 -/
theorem v_string {P : Program} {w : World} {src dst e e2 : TypeId} {base : Nat} {ok : Nat → Prop} {v : Value} {xs : List Int} (hs : P.underlying src = some (.slice e)) (he : P.underlying e = some (.int .u8)) (hd : P.underlying dst = some .string)
    (h : (Kd.int .u8).V e2 w base ok v xs) : (convert src dst v).run P w = .ok (.string (strOfNums xs)) w := by
  obtain ⟨A, c, rfl, _, hf⟩ := h
  exact Kd.C_string hs he hd (Kd.F_now hf)
def strongroomlaw25_lives.f (k : Nat)  : Option (Bool) := (frame_Reply.f k 1 2 0 ([] : List ByteArray) (⟨#[]⟩ : ByteArray) (⟨#[]⟩ : ByteArray) ([] : List (S65)) ([] : List (S74)) (⟨#[]⟩ : ByteArray) ([] : List (S67)) 0 0).bind fun bt200 => (if bt200.2 = 0 then (if 10 ≤ 281474976710656 then ((some (List.replicate 10 0 : List Int)).bind fun y204 => (if 3 + (strOfNums y204).size ≤ 9223372036854775807 then (some ((strOfNums bt200.1).toList == ((⟨#[2, 1, 2]⟩ : ByteArray) ++ (strOfNums y204)).toList)) else (none))) else (none)) else (some false))
theorem strongroomlaw25_lives.mono : ∀ k, LeO (strongroomlaw25_lives.f k ) (strongroomlaw25_lives.f (k + 1) ) := by
  intro  k
  unfold strongroomlaw25_lives.f
  repeat' first
      | (with_reducible exact frame_Reply.mono _ _ _ _ _ _ _ _ _ _ _ _ _)
      | (with_reducible exact LeO.refl _)
      | (with_reducible exact LeO.none _)
      | (with_reducible refine LeO.ite ?_ ?_)
      | (with_reducible refine LeO.bind ?_ (fun _ => ?_))
      | exact frame_Reply.mono _ _ _ _ _ _ _ _ _ _ _ _ _
      | exact LeO.none _
      | refine LeO.ite ?_ ?_
      | refine LeO.bind ?_ (fun _ => ?_)
def strongroomlaw25_lives.T2 : Bool × List (List Nat × List Nat) := (true, [([], []), ([0], [0]), ([1], [1]), ([2], [2]), ([3, 2], [2, 3]), ([2], [2]), ([5, 2], [2, 5]), ([6, 2], [2, 6]), ([4, 7, 2], [2, 4, 7]), ([2, 8], [2, 8]), ([9, 2, 0, 1, 2, 3, 4, 5, 6, 7, 8, 9], [9])])
def strongroomlaw25_lives.B2 : List Nat := [0, 1, 3, 7, 15, 7, 39, 103, 255, 511, 1023]
theorem strongroomlaw25_lives.tab2 : rtab .any (opsOf Tryd.f11 2) = strongroomlaw25_lives.T2 := by kernel_rfl
theorem strongroomlaw25_lives.bits2 : waitsOk strongroomlaw25_lives.T2.2 strongroomlaw25_lives.B2 = true := by kernel_rfl
set_option maxHeartbeats 8000000 in
set_option maxRecDepth 100000 in
theorem strongroomlaw25_lives.calls (k : Nat)  (r : Bool) (w : World) (h : strongroomlaw25_lives.f k  = some r) :
    Calls Tryd.prog 11 #[] w fun e w' => e = .returned (.bool r) ∧ Below w.heap.size w w' := by
  have hu34 := Tryd.underlying34
  have HB := Aside0.mk (Below.refl w.heap.size w)
  have H : ((frame_Reply.f k 1 2 0 ([] : List ByteArray) (⟨#[]⟩ : ByteArray) (⟨#[]⟩ : ByteArray) ([] : List (S65)) ([] : List (S74)) (⟨#[]⟩ : ByteArray) ([] : List (S67)) 0 0).bind fun bt200 => (if bt200.2 = 0 then (if 10 ≤ 281474976710656 then ((some (List.replicate 10 0 : List Int)).bind fun y204 => (if 3 + (strOfNums y204).size ≤ 9223372036854775807 then (some ((strOfNums bt200.1).toList == ((⟨#[2, 1, 2]⟩ : ByteArray) ++ (strOfNums y204)).toList)) else (none))) else (none)) else (some false))) = some r := h
  clear h
  replace H := Option.bind_eq_some_iff.mp H
  obtain ⟨⟨t200, t203⟩, A10, H⟩ := H
  replace H : (if t203 = 0 then (if 10 ≤ 281474976710656 then ((some (List.replicate 10 0 : List Int)).bind fun y204 => (if 3 + (strOfNums y204).size ≤ 9223372036854775807 then (some ((strOfNums t200).toList == ((⟨#[2, 1, 2]⟩ : ByteArray) ++ (strOfNums y204)).toList)) else (none))) else (none)) else (some false)) = some r := H
  have A1 := Aside0.mk A10
  clear A10
  by_cases c2 : t203 = 0
  case neg =>
   rw [if_neg c2] at H
   have c2b0 : (t203 == 0) = false := beq_eq_false_iff_ne.mpr c2
   have c2b1 : (t203 != 0) = true := bne_iff_ne.mpr c2
   obtain rfl := Option.some.inj H
   go_enter Tryd.func11, Tryd.ntmps11
   try go_wp2_with (first | ((with_reducible refine gate_callee (f := 13) rfl ?_); refine goesL_ (some 5) rfl rfl Tryd.func13 (by kernel_rfl) rfl #[.agg #[.int .i64 1, .int .i64 2, .int .i64 0, .slice none 0 0, .string (⟨#[]⟩ : ByteArray), .string (⟨#[]⟩ : ByteArray), .slice none 0 0, .slice none 0 0, .string (⟨#[]⟩ : ByteArray), .slice none 0 0, .int .i64 0, .int .i64 0]] rfl m3_ ?_; (refine (frame_Reply.calls k 1 2 0 _ _ ([] : List ByteArray) (⟨#[]⟩ : ByteArray) (⟨#[]⟩ : ByteArray) _ _ ([] : List (S65)) _ _ ([] : List (S74)) (⟨#[]⟩ : ByteArray) _ _ ([] : List (S67)) 0 0 t200 t203 _ ?side1 ?side2 ?side3 ?side4 ?side5 ?side6 ?side7 ?side8 A1.out).mono ?_); (case side1 => exact Kd.C_nil _ _); (case side2 => exact Nat.le_refl _); (case side3 => exact Kd.C_nil _ _); (case side4 => exact Nat.le_refl _); (case side5 => exact Kd.C_nil _ _); (case side6 => exact Nat.le_refl _); (case side7 => exact Kd.C_nil _ _); (case side8 => exact Nat.le_refl _); rintro e w12 ⟨v201, rfl, ho0, hb⟩; refine ⟨_, rfl, ?_⟩; have HO202 := Aside0.mk (Kd.V_lower (Kd.V_mono (ok' := fun k_ => True) ho0 (fun k_ hk_ => trivial)) (below_size m4_)); replace HB := Aside0.mk (below_step m4_ hb); (try clear hb); (try clear hb2); (try clear hk); (try clear hi); (try clear ho0)))
   replace HO202 := Aside0.mk (Kd.V_drew HO202.out)
   replace HB := Aside0.mk (below_drew1 HB.out)
   refine start_ (n := 11) (S := fun w' => True) (ds := []) (Ra_ [0, 11]) (by kernel_rfl) rfl rfl trivial (fun hHeld => ?_); refine with_tabW strongroomlaw25_lives.tab2 strongroomlaw25_lives.bits2 (fun HT_ HW_ => ?_)
   generalize w12.drew = w13 at HO202 HB hHeld ⊢
   refine pure_ (i := 0) (N := some 8) (v := ?_) (a' := ?_) (Ra_ [1, 10]) rfl rfl (any_of HT_.out (by kernel_rfl)) (fun _ _ _ h => h) (Or.inl ⟨by rfl, ?_⟩) ?_ ?_
   rotate_left
   ·intro w'
    go_simp
    with_reducible rfl
   rotate_left
   ·simp only [Act.put, sA_, sB_, sC_, i64_w, i32_w]
    rfl
   refine pure_ (i := 1) (N := some 9) (v := ?_) (a' := ?_) (Ra_ [2, 9]) rfl rfl (any_of HT_.out (by kernel_rfl)) (fun _ _ _ h => h) (Or.inl ⟨by rfl, ?_⟩) ?_ ?_
   rotate_left
   ·intro w'
    go_simp
    with_reducible rfl
   rotate_left
   ·simp only [Act.put, sA_, sB_, sC_, i64_w, i32_w]
    rfl
   refine pure_ (i := 2) (N := some 10) (v := ?_) (a' := ?_) (Ra_ [3, 8]) rfl rfl (any_of HT_.out (by kernel_rfl)) (fun _ _ _ h => h) (Or.inl ⟨by rfl, ?_⟩) ?_ ?_
   rotate_left
   ·intro w'
    go_simp
    with_reducible rfl
   rotate_left
   ·simp only [Act.put, sA_, sB_, sC_, i64_w, i32_w]
    rfl
   refine pure_ (i := 3) (N := some 11) (v := undef) (a' := ?_) (Ra_ [4, 7]) rfl rfl (any_of HT_.out (by kernel_rfl)) (fun _ _ _ h => h) (Or.inr ⟨by rfl, rfl⟩) ?_ ?_
   rotate_left
   ·simp only [Act.put, sA_, sB_, sC_, i64_w, i32_w]
    rfl
   refine pure_ (i := 4) (N := some 12) (v := undef) (a' := ?_) (Ra_ [5, 6]) rfl rfl (any_of HT_.out (by kernel_rfl)) (fun _ _ _ h => h) (Or.inr ⟨by rfl, rfl⟩) ?_ ?_
   rotate_left
   ·simp only [Act.put, sA_, sB_, sC_, i64_w, i32_w]
    rfl
   refine pure_ (i := 5) (N := some 13) (v := undef) (a' := ?_) (Ra_ [6, 5]) rfl rfl (any_of HT_.out (by kernel_rfl)) (fun _ _ _ h => h) (Or.inr ⟨by rfl, rfl⟩) ?_ ?_
   rotate_left
   ·simp only [Act.put, sA_, sB_, sC_, i64_w, i32_w]
    rfl
   refine pure_ (i := 6) (N := some 14) (v := undef) (a' := ?_) (Ra_ [7, 4]) rfl rfl (any_of HT_.out (by kernel_rfl)) (fun _ _ _ h => h) (Or.inr ⟨by rfl, rfl⟩) ?_ ?_
   rotate_left
   ·simp only [Act.put, sA_, sB_, sC_, i64_w, i32_w]
    rfl
   refine pure_ (i := 7) (N := some 15) (v := undef) (a' := ?_) (Ra_ [8, 3]) rfl rfl (any_of HT_.out (by kernel_rfl)) (fun _ _ _ h => h) (Or.inr ⟨by rfl, rfl⟩) ?_ ?_
   rotate_left
   ·simp only [Act.put, sA_, sB_, sC_, i64_w, i32_w]
    rfl
   refine pure_ (i := 8) (N := some 16) (v := undef) (a' := ?_) (Ra_ [9, 2]) rfl rfl (any_of HT_.out (by kernel_rfl)) (fun _ _ _ h => h) (Or.inr ⟨by rfl, rfl⟩) ?_ ?_
   rotate_left
   ·simp only [Act.put, sA_, sB_, sC_, i64_w, i32_w]
    rfl
   refine pure_ (i := 9) (N := some 17) (v := ?_) (a' := ?_) (Ra_ [10, 1]) rfl rfl (any_of HT_.out (by kernel_rfl)) (fun _ _ _ h => h) (Or.inl ⟨by rfl, ?_⟩) ?_ ?_
   rotate_left
   ·intro w'
    go_simp
    with_reducible rfl
   rotate_left
   ·simp only [Act.put, sA_, sB_, sC_, i64_w, i32_w]
    rfl
   refine pure_ (i := 10) (N := some 0) (v := ?_) (a' := ?_) (Ra_ [11]) rfl rfl (any_of HT_.out (by kernel_rfl)) (fun _ _ _ h => h) (Or.inl ⟨by rfl, ?_⟩) ?_ ?_
   rotate_left
   ·intro w'
    go_simp
    with_reducible rfl
   rotate_left
   ·simp only [Act.put, sA_, sB_, sC_, i64_w, i32_w]
    rfl
   refine done_ (done_of HT_.out (by kernel_rfl)) ?_
   try go_wp2
   go_ret
   exact ⟨by first | rfl | (simp [errW_none, errW_some] <;> rfl) | (simp [*, errW_none, errW_some] <;> rfl), m17_⟩
  rw [if_pos c2] at H
  have c2b0 : (t203 == 0) = true := beq_iff_eq.mpr c2
  have c2b1 : (t203 != 0) = false := bne_eq_false_iff_eq.mpr c2
  clear c2
  by_cases c3 : 10 ≤ 281474976710656
  case neg =>
   rw [if_neg c3] at H
   exact absurd H (by simp)
  rw [if_pos c3] at H
  have c3b0 := eq_true c3
  have c3b1 : decide (10 ≤ 281474976710656) = true := decide_eq_true c3
  clear c3
  obtain ⟨y204, hy204⟩ : ∃ y_ : List Int, y_ = (List.replicate 10 0) := ⟨_, rfl⟩
  replace H : (if 3 + (strOfNums y204).size ≤ 9223372036854775807 then (some ((strOfNums t200).toList == ((⟨#[2, 1, 2]⟩ : ByteArray) ++ (strOfNums y204)).toList)) else (none)) = some r := by first | (rw [hy204]; with_reducible exact H) | (have H2_ := (Option.bind_some _ _).symm.trans H; rw [hy204]; with_reducible exact H2_) | (have H2_ := (Option.bind_some _ _).symm.trans H; with_reducible exact H2_) | with_reducible exact H | (rw [hy204]; exact H) | exact H
  have Ny204 := Aside0.mk hy204
  clear hy204
  by_cases c4 : 3 + (strOfNums y204).size ≤ 9223372036854775807
  case neg =>
   rw [if_neg c4] at H
   exact absurd H (by simp)
  rw [if_pos c4] at H
  have c4b0 := eq_true c4
  have c4b1 : decide (3 + (strOfNums y204).size ≤ 9223372036854775807) = true := decide_eq_true c4
  try have c4b2 : (9223372036854775807 < 3 + (strOfNums y204).size) = False := eq_false (Nat.not_lt.2 c4)
  obtain rfl := Option.some.inj H
  go_enter Tryd.func11, Tryd.ntmps11
  try go_wp2_with (first | ((with_reducible refine gate_callee (f := 13) rfl ?_); refine goesL_ (some 5) rfl rfl Tryd.func13 (by kernel_rfl) rfl #[.agg #[.int .i64 1, .int .i64 2, .int .i64 0, .slice none 0 0, .string (⟨#[]⟩ : ByteArray), .string (⟨#[]⟩ : ByteArray), .slice none 0 0, .slice none 0 0, .string (⟨#[]⟩ : ByteArray), .slice none 0 0, .int .i64 0, .int .i64 0]] rfl m3_ ?_; (refine (frame_Reply.calls k 1 2 0 _ _ ([] : List ByteArray) (⟨#[]⟩ : ByteArray) (⟨#[]⟩ : ByteArray) _ _ ([] : List (S65)) _ _ ([] : List (S74)) (⟨#[]⟩ : ByteArray) _ _ ([] : List (S67)) 0 0 t200 t203 _ ?side1 ?side2 ?side3 ?side4 ?side5 ?side6 ?side7 ?side8 A1.out).mono ?_); (case side1 => exact Kd.C_nil _ _); (case side2 => exact Nat.le_refl _); (case side3 => exact Kd.C_nil _ _); (case side4 => exact Nat.le_refl _); (case side5 => exact Kd.C_nil _ _); (case side6 => exact Nat.le_refl _); (case side7 => exact Kd.C_nil _ _); (case side8 => exact Nat.le_refl _); rintro e w5 ⟨v201, rfl, ho0, hb⟩; refine ⟨_, rfl, ?_⟩; have HO202 := Aside0.mk (Kd.V_lower (Kd.V_mono (ok' := fun k_ => True) ho0 (fun k_ hk_ => trivial)) (below_size m4_)); replace HB := Aside0.mk (below_step m4_ hb); (try clear hb); (try clear hb2); (try clear hk); (try clear hi); (try clear ho0)))
  replace HO202 := Aside0.mk (Kd.V_drew HO202.out)
  replace HB := Aside0.mk (below_drew1 HB.out)
  have hcv7 := v_string (P := Tryd.prog) Tryd.underlying36 Tryd.underlying5 Tryd.underlying9 HO202.out
  refine start_ (n := 11) (S := fun w' => (convert 36 9 v201).run Tryd.prog w' = .ok (.string (strOfNums t200)) w') (ds := []) (Ra_ [0, 11]) (by kernel_rfl) rfl rfl hcv7 (fun hHeld => ?_); refine with_tabW strongroomlaw25_lives.tab2 strongroomlaw25_lives.bits2 (fun HT_ HW_ => ?_)
  generalize w5.drew = w6 at HO202 HB hHeld ⊢
  refine pure_ (i := 0) (N := some 8) (v := ?_) (a' := ?_) (Ra_ [1, 10]) rfl rfl (any_of HT_.out (by kernel_rfl)) (fun _ _ _ h => h) (Or.inl ⟨by rfl, ?_⟩) ?_ ?_
  rotate_left
  ·intro w'
   go_simp
   with_reducible rfl
  rotate_left
  ·simp only [Act.put, sA_, sB_, sC_, i64_w, i32_w]
   rfl
  refine pure_ (i := 1) (N := some 9) (v := ?_) (a' := ?_) (Ra_ [2, 9]) rfl rfl (any_of HT_.out (by kernel_rfl)) (fun _ _ _ h => h) (Or.inl ⟨by rfl, ?_⟩) ?_ ?_
  rotate_left
  ·intro w'
   go_simp
   with_reducible rfl
  rotate_left
  ·simp only [Act.put, sA_, sB_, sC_, i64_w, i32_w]
   rfl
  refine pure_ (i := 2) (N := some 10) (v := ?_) (a' := ?_) (Ra_ [3, 8]) rfl rfl (any_of HT_.out (by kernel_rfl)) (fun _ _ _ h => h) (Or.inl ⟨by rfl, ?_⟩) ?_ ?_
  rotate_left
  ·intro w'
   go_simp
   with_reducible rfl
  rotate_left
  ·simp only [Act.put, sA_, sB_, sC_, i64_w, i32_w]
   rfl
  refine pure_ (i := 3) (N := some 11) (v := ?_) (a' := ?_) (Ra_ [4, 7]) rfl rfl (any_of HT_.out (by kernel_rfl)) (fun _ _ _ h => h) (Or.inl ⟨by rfl, ?_⟩) ?_ ?_
  rotate_left
  ·intro w'
   go_simp
   with_reducible rfl
  rotate_left
  ·simp only [Act.put, sA_, sB_, sC_, i64_w, i32_w]
   rfl
  refine take_ (i := 4) (N := some 12) (v := ?_) (a' := ?_) (Ra_ [5, 6]) rfl rfl (take_ofW HT_.out HW_.out (by kernel_rfl)) (fun _ _ _ h => h) (Or.inl ⟨by rfl, ?_⟩) hHeld ?_ ?_
  rotate_left
  ·intro w' s0
   go_simp
   with_reducible rfl
  rotate_left
  ·simp only [Act.put, sA_, sB_, sC_, i64_w, i32_w]
   rfl
  refine one_ (i := 5) (N := some 13) (Ra_ [6, 5]) rfl rfl (one_of HT_.out (by kernel_rfl)) (by decide) (fun K hK => ?_)
  refine Kd.R_make_step (Kd.int .u8) _ 5 (by rfl) (N := 13) rfl 36 _ _ rfl 10 rfl rfl Tryd.underlying36 (.int .u8 0) 1 info5 rfl (by decide) (by omega) 0 (ok := fun _ => True) (okp := fun _ => True) rfl (fun _ hk => hk) trivial (by omega) (by omega) (Below.refl _ _) (Nat.le_refl _) ?_
  intro v205 w8 ho9 hb hg_ hnew_
  clear hg_ hnew_
  (first | rw [← Ny204.out] at ho9 | (simp only [Int.reduceToNat] at ho9; rw [← Ny204.out] at ho9))
  have n0_ := Aside0.mk (Kd.V_elder' (by (with_reducible repeat (first | apply Kd.V_alloc | apply Kd.V_drewN | apply Kd.V_drew)); exact HO202.out) (Kd.R_base ho9) hb)
  have n1_ := Aside0.mk (Kd.R_lower ho9 (below_size m4_))
  have n2_ := Aside0.mk (below_step m4_ hb)
  clear HO202 HB
  have HO202 := n0_
  have HO206 := n1_
  have HB := n2_
  clear n0_ n1_ n2_ hb ho9
  refine hK.out _ _ (v_string (P := Tryd.prog) Tryd.underlying36 Tryd.underlying5 Tryd.underlying9 HO202.out) (fun hHeld => ?_)
  clear hK K
  refine norm_ (a' := ?_) ?_ ?_
  rotate_left
  ·show Act.put _ (some 13) _ = _
   simp only [Act.put, sA_, sB_, sC_, i64_w, i32_w]
   rfl
  refine one_ (i := 6) (N := some 14) (Ra_ [7, 4]) rfl rfl (one_of HT_.out (by kernel_rfl)) (by decide) (fun K hK => ?_)
  have hcv10 := own_string (P := Tryd.prog) Tryd.underlying36 Tryd.underlying5 Tryd.underlying9 (Kd.own_of_R HO206.out)
  refine value_ (w1 := ?_) (v := ?_) (by rfl) rfl ?_ ?_
  rotate_left 2
  ·go_simp
   constructor
   ·rfl
   rfl
  clear hcv10
  refine hK.out _ _ (v_string (P := Tryd.prog) Tryd.underlying36 Tryd.underlying5 Tryd.underlying9 HO202.out) (fun hHeld => ?_)
  clear hK K
  refine norm_ (a' := ?_) ?_ ?_
  rotate_left
  ·show Act.put _ (some 14) _ = _
   simp only [Act.put, sA_, sB_, sC_, i64_w, i32_w]
   rfl
  refine pure_ (i := 7) (N := some 15) (v := ?_) (a' := ?_) (Ra_ [8, 3]) rfl rfl (any_of HT_.out (by kernel_rfl)) (fun _ _ _ h => h) (Or.inl ⟨by rfl, ?_⟩) ?_ ?_
  rotate_left
  ·intro w'
   go_simp
   with_reducible rfl
  rotate_left
  ·simp only [Act.put, sA_, sB_, sC_, i64_w, i32_w]
   rfl
  refine pure_ (i := 8) (N := some 16) (v := ?_) (a' := ?_) (Ra_ [9, 2]) rfl rfl (any_of HT_.out (by kernel_rfl)) (fun _ _ _ h => h) (Or.inl ⟨by rfl, ?_⟩) ?_ ?_
  rotate_left
  ·intro w'
   go_simp
   with_reducible rfl
  rotate_left
  ·simp only [Act.put, sA_, sB_, sC_, i64_w, i32_w]
   rfl
  refine pure_ (i := 9) (N := some 17) (v := ?_) (a' := ?_) (Ra_ [10, 1]) rfl rfl (any_of HT_.out (by kernel_rfl)) (fun _ _ _ h => h) (Or.inl ⟨by rfl, ?_⟩) ?_ ?_
  rotate_left
  ·intro w'
   go_simp
   with_reducible rfl
  rotate_left
  ·simp only [Act.put, sA_, sB_, sC_, i64_w, i32_w]
   rfl
  refine pure_ (i := 10) (N := some 0) (v := ?_) (a' := ?_) (Ra_ [11]) rfl rfl (any_of HT_.out (by kernel_rfl)) (fun _ _ _ h => h) (Or.inl ⟨by rfl, ?_⟩) ?_ ?_
  rotate_left
  ·intro w'
   go_simp
   with_reducible rfl
  rotate_left
  ·simp only [Act.put, sA_, sB_, sC_, i64_w, i32_w]
   rfl
  refine done_ (done_of HT_.out (by kernel_rfl)) ?_
  try go_wp2
  go_ret
  exact ⟨by first | rfl | (simp [errW_none, errW_some] <;> rfl) | (simp [*, errW_none, errW_some] <;> rfl), m17_⟩

/-! ### frame_Wrap: function 26 -/
def frame_Wrap.f (a0 : ByteArray) (a1 : Int) (a2 : Int) (a3 : Int) (a4 : ByteArray) : Option (ByteArray × Int) := Go.Proofs.YtoankokkdmbjmaaDoor.wrapF a0 a1 a2 a3 a4
theorem frame_Wrap.calls (a0 : ByteArray) (a1 : Int) (a2 : Int) (a3 : Int) (a4 : ByteArray) (r1 : ByteArray) (r2 : Int) (w : World) (h : frame_Wrap.f a0 a1 a2 a3 a4 = some (r1, r2)) :
    Calls Tryd.prog 26 #[.string a0, .int .i64 a1, .int .i64 a2, .int .i64 a3, .string a4] w fun e w' => e = .returned (.tuple #[.string r1, .int .i64 r2]) ∧ Below w.heap.size w w' :=
  Go.Proofs.YtoankokkdmbjmaaDoor.wrapF_post h (fun s x hk hs hx => Go.Proofs.YtoankokkdmbjmaaDoor.wrap_yes s x a1 a2 a3 w hk hs hx) (fun s x hk => Go.Proofs.YtoankokkdmbjmaaDoor.wrap_no s x a1 a2 a3 w hk)

/-! ### strongroomref25_Wrap: function 27 -/
def strongroomref25_Wrap.f (a0 : ByteArray) (a1 : Int) (a2 : Int) (a3 : Int) (a4 : ByteArray) : Option (ByteArray × Int) := Go.Proofs.YtoankokkdmbjmaaDoor.wrapF a0 a1 a2 a3 a4
theorem strongroomref25_Wrap.calls (a0 : ByteArray) (a1 : Int) (a2 : Int) (a3 : Int) (a4 : ByteArray) (r1 : ByteArray) (r2 : Int) (w : World) (h : strongroomref25_Wrap.f a0 a1 a2 a3 a4 = some (r1, r2)) :
    Calls Tryd.prog 27 #[.string a0, .int .i64 a1, .int .i64 a2, .int .i64 a3, .string a4] w fun e w' => e = .returned (.tuple #[.string r1, .int .i64 r2]) ∧ Below w.heap.size w w' :=
  Go.Proofs.YtoankokkdmbjmaaDoor.wrapF_post h (fun s x hk hs hx => Go.Proofs.YtoankokkdmbjmaaDoor.rwrap_yes s x a1 a2 a3 w hk hs hx) (fun s x hk => Go.Proofs.YtoankokkdmbjmaaDoor.rwrap_no s x a1 a2 a3 w hk)

/-! ### frame_Unwrap: function 28 -/
def frame_Unwrap.f (a0 : ByteArray) (a1 : Int) (a2 : Int) (a3 : Int) (a4 : ByteArray) : Option (ByteArray × Int) := Go.Proofs.YtoankokkdmbjmaaDoor.unwrapF a0 a1 a2 a3 a4
theorem frame_Unwrap.calls (a0 : ByteArray) (a1 : Int) (a2 : Int) (a3 : Int) (a4 : ByteArray) (r1 : ByteArray) (r2 : Int) (w : World) (h : frame_Unwrap.f a0 a1 a2 a3 a4 = some (r1, r2)) :
    Calls Tryd.prog 28 #[.string a0, .int .i64 a1, .int .i64 a2, .int .i64 a3, .string a4] w fun e w' => e = .returned (.tuple #[.string r1, .int .i64 r2]) ∧ Below w.heap.size w w' :=
  Go.Proofs.YtoankokkdmbjmaaDoor.unwrapF_post h (fun s x hk hs hx => Go.Proofs.YtoankokkdmbjmaaDoor.unwrap_yes s x a1 a2 a3 w hk hs hx) (fun s x hk => Go.Proofs.YtoankokkdmbjmaaDoor.unwrap_no s x a1 a2 a3 w hk)

/-! ### strongroomref25_Unwrap: function 29 -/
def strongroomref25_Unwrap.f (a0 : ByteArray) (a1 : Int) (a2 : Int) (a3 : Int) (a4 : ByteArray) : Option (ByteArray × Int) := Go.Proofs.YtoankokkdmbjmaaDoor.unwrapF a0 a1 a2 a3 a4
theorem strongroomref25_Unwrap.calls (a0 : ByteArray) (a1 : Int) (a2 : Int) (a3 : Int) (a4 : ByteArray) (r1 : ByteArray) (r2 : Int) (w : World) (h : strongroomref25_Unwrap.f a0 a1 a2 a3 a4 = some (r1, r2)) :
    Calls Tryd.prog 29 #[.string a0, .int .i64 a1, .int .i64 a2, .int .i64 a3, .string a4] w fun e w' => e = .returned (.tuple #[.string r1, .int .i64 r2]) ∧ Below w.heap.size w w' :=
  Go.Proofs.YtoankokkdmbjmaaDoor.unwrapF_post h (fun s x hk hs hx => Go.Proofs.YtoankokkdmbjmaaDoor.runwrap_yes s x a1 a2 a3 w hk hs hx) (fun s x hk => Go.Proofs.YtoankokkdmbjmaaDoor.runwrap_no s x a1 a2 a3 w hk)

/-! ### strongroomlaw25_FrameWraps: function 8 -/
mutual
def strongroomlaw25_FrameWraps.j0 : Nat → Bool → ByteArray → Int → Int → Int → ByteArray → Option (Bool)
  | 0, _, _, _, _, _, _ => none
  | k + 1, x22, x208000, x208001, x208002, x208003, x208004 => if x22 = true then ((strongroomlaw25_lives.f k).bind fun t208 => (some t208)) else ((frame_Wrap.f x208000 x208001 x208002 x208003 x208004).bind fun bt209 => ((strongroomref25_Wrap.f x208000 x208001 x208002 x208003 x208004).bind fun bt211 => ((frame_Unwrap.f x208000 x208001 x208002 x208003 x208004).bind fun bt213 => ((strongroomref25_Unwrap.f x208000 x208001 x208002 x208003 x208004).bind fun bt215 => (if bt209.1.toList = bt211.1.toList then (if bt209.2 = bt211.2 then (if bt213.1.toList = bt215.1.toList then (strongroomlaw25_FrameWraps.j1 k bt209.1 bt209.2 (bt213.2 != bt215.2) x208000 x208001 x208002 x208003 x208004) else (strongroomlaw25_FrameWraps.j1 k bt209.1 bt209.2 true x208000 x208001 x208002 x208003 x208004)) else (strongroomlaw25_FrameWraps.j1 k bt209.1 bt209.2 true x208000 x208001 x208002 x208003 x208004)) else (strongroomlaw25_FrameWraps.j1 k bt209.1 bt209.2 true x208000 x208001 x208002 x208003 x208004))))))
def strongroomlaw25_FrameWraps.j1 : Nat → ByteArray → Int → Bool → ByteArray → Int → Int → Int → ByteArray → Option (Bool)
  | 0, _, _, _, _, _, _, _, _ => none
  | k + 1, x3, x4, x97, x208000, x208001, x208002, x208003, x208004 => if x97 = true then (some false) else (if x4 = 0 then ((frame_Unwrap.f x208000 x208001 x208002 x208003 x3).bind fun bt217 => (if bt217.2 = 0 then (if bt217.1.toList = x208004.toList then ((strongroomlaw25_lives.f k).bind fun t219 => (some t219)) else (some false)) else (some false))) else ((strongroomlaw25_lives.f k).bind fun t220 => (some t220)))
end
def strongroomlaw25_FrameWraps.f (k : Nat) (a0_0 : ByteArray) (a0_1 : Int) (a0_2 : Int) (a0_3 : Int) (a0_4 : ByteArray) : Option (Bool) := if (a0_0.size : Int) > 1000 then (strongroomlaw25_FrameWraps.j0 k true a0_0 a0_1 a0_2 a0_3 a0_4) else (strongroomlaw25_FrameWraps.j0 k (decide ((a0_4.size : Int) > 2000)) a0_0 a0_1 a0_2 a0_3 a0_4)
theorem strongroomlaw25_FrameWraps.mono_l : ∀ k, (∀ y0 y1 y2 y3 y4 y5, LeO (strongroomlaw25_FrameWraps.j0 k y0 y1 y2 y3 y4 y5) (strongroomlaw25_FrameWraps.j0 (k + 1) y0 y1 y2 y3 y4 y5)) ∧ (∀ y0 y1 y2 y3 y4 y5 y6 y7, LeO (strongroomlaw25_FrameWraps.j1 k y0 y1 y2 y3 y4 y5 y6 y7) (strongroomlaw25_FrameWraps.j1 (k + 1) y0 y1 y2 y3 y4 y5 y6 y7))
  | 0 => ⟨fun _ _ _ _ _ _ r h => by simp [strongroomlaw25_FrameWraps.j0] at h, fun _ _ _ _ _ _ _ _ r h => by simp [strongroomlaw25_FrameWraps.j1] at h⟩
  | k + 1 => by
    obtain ⟨ih0, ih1⟩ := strongroomlaw25_FrameWraps.mono_l k
    refine ⟨?_, ?_⟩
    · intro y0 y1 y2 y3 y4 y5
      unfold strongroomlaw25_FrameWraps.j0
      repeat' first
      | (with_reducible exact ih0 _ _ _ _ _ _)
      | (with_reducible exact ih1 _ _ _ _ _ _ _ _)
      | (with_reducible exact strongroomlaw25_lives.mono _)
      | (with_reducible exact LeO.refl _)
      | (with_reducible exact LeO.none _)
      | (with_reducible refine LeO.ite ?_ ?_)
      | (with_reducible refine LeO.bind ?_ (fun _ => ?_))
      | exact ih0 _ _ _ _ _ _
      | exact ih1 _ _ _ _ _ _ _ _
      | exact strongroomlaw25_lives.mono _
      | exact LeO.none _
      | refine LeO.ite ?_ ?_
      | refine LeO.bind ?_ (fun _ => ?_)
    · intro y0 y1 y2 y3 y4 y5 y6 y7
      unfold strongroomlaw25_FrameWraps.j1
      repeat' first
      | (with_reducible exact ih0 _ _ _ _ _ _)
      | (with_reducible exact ih1 _ _ _ _ _ _ _ _)
      | (with_reducible exact strongroomlaw25_lives.mono _)
      | (with_reducible exact LeO.refl _)
      | (with_reducible exact LeO.none _)
      | (with_reducible refine LeO.ite ?_ ?_)
      | (with_reducible refine LeO.bind ?_ (fun _ => ?_))
      | exact ih0 _ _ _ _ _ _
      | exact ih1 _ _ _ _ _ _ _ _
      | exact strongroomlaw25_lives.mono _
      | exact LeO.none _
      | refine LeO.ite ?_ ?_
      | refine LeO.bind ?_ (fun _ => ?_)
theorem strongroomlaw25_FrameWraps.mono : ∀ a0 a1 a2 a3 a4 k, LeO (strongroomlaw25_FrameWraps.f k a0 a1 a2 a3 a4) (strongroomlaw25_FrameWraps.f (k + 1) a0 a1 a2 a3 a4) := by
  intro a0 a1 a2 a3 a4 k
  obtain ⟨ih0, ih1⟩ := strongroomlaw25_FrameWraps.mono_l k
  unfold strongroomlaw25_FrameWraps.f
  repeat' first
      | (with_reducible exact ih0 _ _ _ _ _ _)
      | (with_reducible exact ih1 _ _ _ _ _ _ _ _)
      | (with_reducible exact strongroomlaw25_lives.mono _)
      | (with_reducible exact LeO.refl _)
      | (with_reducible exact LeO.none _)
      | (with_reducible refine LeO.ite ?_ ?_)
      | (with_reducible refine LeO.bind ?_ (fun _ => ?_))
      | exact ih0 _ _ _ _ _ _
      | exact ih1 _ _ _ _ _ _ _ _
      | exact strongroomlaw25_lives.mono _
      | exact LeO.none _
      | refine LeO.ite ?_ ?_
      | refine LeO.bind ?_ (fun _ => ?_)
set_option maxHeartbeats 8000000 in
set_option maxRecDepth 100000 in
theorem strongroomlaw25_FrameWraps.calls (k : Nat) (a0_0 : ByteArray) (a0_1 : Int) (a0_2 : Int) (a0_3 : Int) (a0_4 : ByteArray) (r : Bool) (w : World) (h : strongroomlaw25_FrameWraps.f k a0_0 a0_1 a0_2 a0_3 a0_4 = some r) :
    Calls Tryd.prog 8 #[.agg #[.string a0_0, .int .i64 a0_1, .int .i64 a0_2, .int .i64 a0_3, .string a0_4]] w fun e w' => e = .returned (.bool r) ∧ Below w.heap.size w w' := by
  have hu58 := Tryd.underlying58
  have HB := Aside0.mk (Below.refl w.heap.size w)
  have H : (if (a0_0.size : Int) > 1000 then (strongroomlaw25_FrameWraps.j0 k true a0_0 a0_1 a0_2 a0_3 a0_4) else (strongroomlaw25_FrameWraps.j0 k (decide ((a0_4.size : Int) > 2000)) a0_0 a0_1 a0_2 a0_3 a0_4)) = some r := h
  clear h
  have HC2 := Aside0.mk H
  clear H
  go_enter Tryd.func8, Tryd.ntmps8
  go_upto_region 1 with (first | ((with_reducible refine gate_dst (N := 1) rfl ?_); (try (refine gate_guard (by rfl) ?_; dsimp only)); refine box_event ?hg (N := 1) ?hd (cs := #[.string a0_0, .int .i64 a0_1, .int .i64 a0_2, .int .i64 a0_3, .string a0_4]) (t := 58) ?hr ?_; (case hd => rfl); (case hg => rfl); (case hr => first | (go_simp; done) | (go_simp; rfl)); intro gb207 hg w3 hbox hb; have n0_ := Aside0.mk (below_step m4_ hb); have n1_ := Aside0.mk (hbox); have n2_ := Aside0.mk ((by rw [hg]; exact (below_size m4_) : w.heap.size ≤ gb207)); have n3_ := Aside0.mk ((by rw [hg]; exact (below_size m4_) : w.heap.size ≤ gb207)); clear HB; have HB := n0_; have BK207 := n1_; have GW207 := n2_; have GE207 := n3_; clear n0_ n1_ n2_ n3_; clear hb hbox hg))
  (try simp only [Act.put, List.setIfInBounds_toArray, List.set_cons_zero, List.set_cons_succ])
  go_cut [22] (fun v22 wc => ∃ (kq : Nat) (x22_1 : Bool), v22 = .bool x22_1 ∧ Aside0 (strongroomlaw25_FrameWraps.j0 kq x22_1 a0_0 a0_1 a0_2 a0_3 a0_4 = some r) ∧ Aside0 (kq ≤ k) ∧ Aside0 (wc.heap[gb207]? = some (.cells #[.string a0_0, .int .i64 a0_1, .int .i64 a0_2, .int .i64 a0_3, .string a0_4] 58 (0, 0))) ∧ Aside0 (Below w.heap.size w wc))
  case first =>
   have H := HC2.out
   clear HC2
   by_cases c4 : (a0_0.size : Int) > 1000
   ·rw [if_pos c4] at H
    have c4b0 : decide (1000 < (a0_0.size : Int)) = true := decide_eq_true c4
    have c4b1 : decide (1000 < a0_0.size) = true := decide_eq_true (by omega)
    clear c4
    (first | rw [c4b0] | (simp only [i64_w, i32_w]; rw [c4b0]) | skip)
    have H' := Aside0.mk H
    clear H
    obtain ⟨hcz5_0, hcz5_1, hcz5_2, hcz5_3, hcz5_4⟩ := bc5_ BK207.out
    obtain ⟨hfz5_0, hfz5_1, hfz5_2, hfz5_3, hfz5_4⟩ := bf5_ BK207.out
    go_wp2
    go_meet
    case rel => exact ⟨_, (true), m11_, H', ⟨by first | omega | exact Nat.le_refl _⟩, ⟨by (with_reducible repeat (first | refine blk_drewN ?_ _ | refine blk_drew ?_ | refine blk_alloc ?_ _)); exact BK207.out⟩, ⟨m16_⟩⟩
   rw [if_neg c4] at H
   have c4b0 : decide (1000 < (a0_0.size : Int)) = false := decide_eq_false c4
   have c4b1 : decide (1000 < a0_0.size) = false := decide_eq_false (by omega)
   clear c4
   (first | rw [c4b0] | (simp only [i64_w, i32_w]; rw [c4b0]) | skip)
   have H' := Aside0.mk H
   clear H
   obtain ⟨hcz6_0, hcz6_1, hcz6_2, hcz6_3, hcz6_4⟩ := bc5_ BK207.out
   obtain ⟨hfz6_0, hfz6_1, hfz6_2, hfz6_3, hfz6_4⟩ := bf5_ BK207.out
   go_wp2
   go_meet
   case rel => exact ⟨_, (decide ((a0_4.size : Int) > 2000)), m11_, H', ⟨by first | omega | exact Nat.le_refl _⟩, ⟨by (with_reducible repeat (first | refine blk_drewN ?_ _ | refine blk_drew ?_ | refine blk_alloc ?_ _)); exact BK207.out⟩, ⟨m16_⟩⟩
  clear HC2
  try clear p2; try clear c4; try clear c4b0; try clear c4b1; try clear hcz5_0; try clear hcz5_1; try clear hcz5_2; try clear hcz5_3; try clear hcz5_4; try clear hcz6_0; try clear hcz6_1; try clear hcz6_2; try clear hcz6_3; try clear hcz6_4; try clear hfz5_0; try clear hfz5_1; try clear hfz5_2; try clear hfz5_3; try clear hfz5_4; try clear hfz6_0; try clear hfz6_1; try clear hfz6_2; try clear hfz6_3; try clear hfz6_4
  obtain ⟨kq, x22_1, rfl, HA, HJ1, BK207, HB⟩ := hcut
  cases kq with
  | zero => exact absurd HA.out (by simp [strongroomlaw25_FrameWraps.j0])
  | succ kj1 =>
   have H := HA.out
   clear HA
   simp only [strongroomlaw25_FrameWraps.j0] at H
   by_cases c7 : x22_1 = true
   ·subst c7
    have H1 : ((strongroomlaw25_lives.f kj1).bind fun t208 => (some t208)) = some r := by rw [if_pos rfl] at H; exact H
    clear H
    have H := H1
    clear H1
    replace H := Option.bind_eq_some_iff.mp H
    obtain ⟨t208, A80, H⟩ := H
    replace H : (some t208) = some r := H
    have A8 := Aside0.mk A80
    clear A80
    obtain rfl := Option.some.inj H
    go_wp2_with (first | ((with_reducible refine gate_callee (f := 11) rfl ?_); refine goesL_ (some 23) rfl rfl Tryd.func11 (by kernel_rfl) rfl #[] rfl m3_ ?_; (with_reducible refine (strongroomlaw25_lives.calls kj1  t208 _ A8.out).mono ?_); rintro e w9 ⟨rfl, hb⟩; refine ⟨_, rfl, ?_⟩; replace BK207 := Aside0.mk (blk_below (g := gb207) (o := .cells #[.string a0_0, .int .i64 a0_1, .int .i64 a0_2, .int .i64 a0_3, .string a0_4] 58 (0, 0)) m6_ hb); replace HB := Aside0.mk (below_step m1_ hb); (try clear hb); (try clear hb2); (try clear hk); (try clear hi)))
    go_ret
    exact ⟨by first | rfl | (simp [errW_none, errW_some] <;> rfl) | (simp [*, errW_none, errW_some] <;> rfl), m16_⟩
   replace c7 := Bool.eq_false_iff.mpr c7
   subst c7
   have H1 : ((frame_Wrap.f a0_0 a0_1 a0_2 a0_3 a0_4).bind fun bt209 => ((strongroomref25_Wrap.f a0_0 a0_1 a0_2 a0_3 a0_4).bind fun bt211 => ((frame_Unwrap.f a0_0 a0_1 a0_2 a0_3 a0_4).bind fun bt213 => ((strongroomref25_Unwrap.f a0_0 a0_1 a0_2 a0_3 a0_4).bind fun bt215 => (if bt209.1.toList = bt211.1.toList then (if bt209.2 = bt211.2 then (if bt213.1.toList = bt215.1.toList then (strongroomlaw25_FrameWraps.j1 kj1 bt209.1 bt209.2 (bt213.2 != bt215.2) a0_0 a0_1 a0_2 a0_3 a0_4) else (strongroomlaw25_FrameWraps.j1 kj1 bt209.1 bt209.2 true a0_0 a0_1 a0_2 a0_3 a0_4)) else (strongroomlaw25_FrameWraps.j1 kj1 bt209.1 bt209.2 true a0_0 a0_1 a0_2 a0_3 a0_4)) else (strongroomlaw25_FrameWraps.j1 kj1 bt209.1 bt209.2 true a0_0 a0_1 a0_2 a0_3 a0_4)))))) = some r := by rw [if_neg (show ¬ (false = true) by decide)] at H; exact H
   clear H
   have H := H1
   clear H1
   replace H := Option.bind_eq_some_iff.mp H
   obtain ⟨⟨t209, t210⟩, A100, H⟩ := H
   replace H : ((strongroomref25_Wrap.f a0_0 a0_1 a0_2 a0_3 a0_4).bind fun bt211 => ((frame_Unwrap.f a0_0 a0_1 a0_2 a0_3 a0_4).bind fun bt213 => ((strongroomref25_Unwrap.f a0_0 a0_1 a0_2 a0_3 a0_4).bind fun bt215 => (if t209.toList = bt211.1.toList then (if t210 = bt211.2 then (if bt213.1.toList = bt215.1.toList then (strongroomlaw25_FrameWraps.j1 kj1 t209 t210 (bt213.2 != bt215.2) a0_0 a0_1 a0_2 a0_3 a0_4) else (strongroomlaw25_FrameWraps.j1 kj1 t209 t210 true a0_0 a0_1 a0_2 a0_3 a0_4)) else (strongroomlaw25_FrameWraps.j1 kj1 t209 t210 true a0_0 a0_1 a0_2 a0_3 a0_4)) else (strongroomlaw25_FrameWraps.j1 kj1 t209 t210 true a0_0 a0_1 a0_2 a0_3 a0_4))))) = some r := H
   have A10 := Aside0.mk A100
   clear A100
   replace H := Option.bind_eq_some_iff.mp H
   obtain ⟨⟨t211, t212⟩, A110, H⟩ := H
   replace H : ((frame_Unwrap.f a0_0 a0_1 a0_2 a0_3 a0_4).bind fun bt213 => ((strongroomref25_Unwrap.f a0_0 a0_1 a0_2 a0_3 a0_4).bind fun bt215 => (if t209.toList = t211.toList then (if t210 = t212 then (if bt213.1.toList = bt215.1.toList then (strongroomlaw25_FrameWraps.j1 kj1 t209 t210 (bt213.2 != bt215.2) a0_0 a0_1 a0_2 a0_3 a0_4) else (strongroomlaw25_FrameWraps.j1 kj1 t209 t210 true a0_0 a0_1 a0_2 a0_3 a0_4)) else (strongroomlaw25_FrameWraps.j1 kj1 t209 t210 true a0_0 a0_1 a0_2 a0_3 a0_4)) else (strongroomlaw25_FrameWraps.j1 kj1 t209 t210 true a0_0 a0_1 a0_2 a0_3 a0_4)))) = some r := H
   have A11 := Aside0.mk A110
   clear A110
   replace H := Option.bind_eq_some_iff.mp H
   obtain ⟨⟨t213, t214⟩, A120, H⟩ := H
   replace H : ((strongroomref25_Unwrap.f a0_0 a0_1 a0_2 a0_3 a0_4).bind fun bt215 => (if t209.toList = t211.toList then (if t210 = t212 then (if t213.toList = bt215.1.toList then (strongroomlaw25_FrameWraps.j1 kj1 t209 t210 (t214 != bt215.2) a0_0 a0_1 a0_2 a0_3 a0_4) else (strongroomlaw25_FrameWraps.j1 kj1 t209 t210 true a0_0 a0_1 a0_2 a0_3 a0_4)) else (strongroomlaw25_FrameWraps.j1 kj1 t209 t210 true a0_0 a0_1 a0_2 a0_3 a0_4)) else (strongroomlaw25_FrameWraps.j1 kj1 t209 t210 true a0_0 a0_1 a0_2 a0_3 a0_4))) = some r := H
   have A12 := Aside0.mk A120
   clear A120
   replace H := Option.bind_eq_some_iff.mp H
   obtain ⟨⟨t215, t216⟩, A130, H⟩ := H
   replace H : (if t209.toList = t211.toList then (if t210 = t212 then (if t213.toList = t215.toList then (strongroomlaw25_FrameWraps.j1 kj1 t209 t210 (t214 != t216) a0_0 a0_1 a0_2 a0_3 a0_4) else (strongroomlaw25_FrameWraps.j1 kj1 t209 t210 true a0_0 a0_1 a0_2 a0_3 a0_4)) else (strongroomlaw25_FrameWraps.j1 kj1 t209 t210 true a0_0 a0_1 a0_2 a0_3 a0_4)) else (strongroomlaw25_FrameWraps.j1 kj1 t209 t210 true a0_0 a0_1 a0_2 a0_3 a0_4)) = some r := H
   have A13 := Aside0.mk A130
   clear A130
   have HC14 := Aside0.mk H
   clear H
   obtain ⟨hcz15_0, hcz15_1, hcz15_2, hcz15_3, hcz15_4⟩ := bc5_ BK207.out
   obtain ⟨hfz15_0, hfz15_1, hfz15_2, hfz15_3, hfz15_4⟩ := bf5_ BK207.out
   go_upto_region 7 with (first | ((with_reducible refine gate_callee (f := 26) rfl ?_); refine goesL_ (some 35) rfl rfl Tryd.func26 (by kernel_rfl) rfl #[.string a0_0, .int .i64 a0_1, .int .i64 a0_2, .int .i64 a0_3, .string a0_4] rfl m3_ ?_; (with_reducible refine (frame_Wrap.calls a0_0 a0_1 a0_2 a0_3 a0_4 t209 t210 _ A10.out).mono ?_); rintro e w16 ⟨rfl, hb⟩; refine ⟨_, rfl, ?_⟩; replace BK207 := Aside0.mk (blk_below (g := gb207) (o := .cells #[.string a0_0, .int .i64 a0_1, .int .i64 a0_2, .int .i64 a0_3, .string a0_4] 58 (0, 0)) m6_ hb); replace HB := Aside0.mk (below_step m1_ hb); (try clear hb); (try clear hb2); (try clear hk); (try clear hi); obtain ⟨hcz17_0, hcz17_1, hcz17_2, hcz17_3, hcz17_4⟩ := bc5_ BK207.out; obtain ⟨hfz17_0, hfz17_1, hfz17_2, hfz17_3, hfz17_4⟩ := bf5_ BK207.out) | ((with_reducible refine gate_callee (f := 27) rfl ?_); refine goesL_ (some 49) rfl rfl Tryd.func27 (by kernel_rfl) rfl #[.string a0_0, .int .i64 a0_1, .int .i64 a0_2, .int .i64 a0_3, .string a0_4] rfl m3_ ?_; (with_reducible refine (strongroomref25_Wrap.calls a0_0 a0_1 a0_2 a0_3 a0_4 t211 t212 _ A11.out).mono ?_); rintro e w18 ⟨rfl, hb⟩; refine ⟨_, rfl, ?_⟩; replace BK207 := Aside0.mk (blk_below (g := gb207) (o := .cells #[.string a0_0, .int .i64 a0_1, .int .i64 a0_2, .int .i64 a0_3, .string a0_4] 58 (0, 0)) m6_ hb); replace HB := Aside0.mk (below_step m1_ hb); (try clear hb); (try clear hb2); (try clear hk); (try clear hi); obtain ⟨hcz19_0, hcz19_1, hcz19_2, hcz19_3, hcz19_4⟩ := bc5_ BK207.out; obtain ⟨hfz19_0, hfz19_1, hfz19_2, hfz19_3, hfz19_4⟩ := bf5_ BK207.out) | ((with_reducible refine gate_callee (f := 28) rfl ?_); refine goesL_ (some 63) rfl rfl Tryd.func28 (by kernel_rfl) rfl #[.string a0_0, .int .i64 a0_1, .int .i64 a0_2, .int .i64 a0_3, .string a0_4] rfl m3_ ?_; (with_reducible refine (frame_Unwrap.calls a0_0 a0_1 a0_2 a0_3 a0_4 t213 t214 _ A12.out).mono ?_); rintro e w20 ⟨rfl, hb⟩; refine ⟨_, rfl, ?_⟩; replace BK207 := Aside0.mk (blk_below (g := gb207) (o := .cells #[.string a0_0, .int .i64 a0_1, .int .i64 a0_2, .int .i64 a0_3, .string a0_4] 58 (0, 0)) m6_ hb); replace HB := Aside0.mk (below_step m1_ hb); (try clear hb); (try clear hb2); (try clear hk); (try clear hi); obtain ⟨hcz21_0, hcz21_1, hcz21_2, hcz21_3, hcz21_4⟩ := bc5_ BK207.out; obtain ⟨hfz21_0, hfz21_1, hfz21_2, hfz21_3, hfz21_4⟩ := bf5_ BK207.out) | ((with_reducible refine gate_callee (f := 29) rfl ?_); refine goesL_ (some 77) rfl rfl Tryd.func29 (by kernel_rfl) rfl #[.string a0_0, .int .i64 a0_1, .int .i64 a0_2, .int .i64 a0_3, .string a0_4] rfl m3_ ?_; (with_reducible refine (strongroomref25_Unwrap.calls a0_0 a0_1 a0_2 a0_3 a0_4 t215 t216 _ A13.out).mono ?_); rintro e w22 ⟨rfl, hb⟩; refine ⟨_, rfl, ?_⟩; replace BK207 := Aside0.mk (blk_below (g := gb207) (o := .cells #[.string a0_0, .int .i64 a0_1, .int .i64 a0_2, .int .i64 a0_3, .string a0_4] 58 (0, 0)) m6_ hb); replace HB := Aside0.mk (below_step m1_ hb); (try clear hb); (try clear hb2); (try clear hk); (try clear hi)))
   (try simp only [Act.put, List.setIfInBounds_toArray, List.set_cons_zero, List.set_cons_succ])
   go_cut [97] (fun v97 wc => ∃ (kq : Nat) (x97_13 : Bool), v97 = .bool x97_13 ∧ Aside0 (strongroomlaw25_FrameWraps.j1 kq t209 t210 x97_13 a0_0 a0_1 a0_2 a0_3 a0_4 = some r) ∧ Aside0 (kq ≤ kj1) ∧ Aside0 (wc.heap[gb207]? = some (.cells #[.string a0_0, .int .i64 a0_1, .int .i64 a0_2, .int .i64 a0_3, .string a0_4] 58 (0, 0))) ∧ Aside0 (Below w.heap.size w wc))
   case first =>
    have H := HC14.out
    clear HC14
    by_cases c23 : t209.toList = t211.toList
    case neg =>
     rw [if_neg c23] at H
     have c23b0 : (t209.toList == t211.toList) = false := beq_eq_false_iff_ne.mpr c23
     have c23b1 : (t209.toList != t211.toList) = true := bne_iff_ne.mpr c23
     (first | rw [c23b0] | (simp only [i64_w, i32_w]; rw [c23b0]) | skip)
     have H' := Aside0.mk H
     clear H
     go_wp2
     go_meet
     case rel => exact ⟨_, (true), m11_, H', ⟨by have := HJ1.out; first | omega | exact Nat.le_refl _⟩, ⟨by (with_reducible repeat (first | refine blk_drewN ?_ _ | refine blk_drew ?_ | refine blk_alloc ?_ _)); exact BK207.out⟩, ⟨m16_⟩⟩
    rw [if_pos c23] at H
    have c23b0 : (t209.toList == t211.toList) = true := beq_iff_eq.mpr c23
    have c23b1 : (t209.toList != t211.toList) = false := bne_eq_false_iff_eq.mpr c23
    clear c23
    (first | rw [c23b0] | (simp only [i64_w, i32_w]; rw [c23b0]) | skip)
    by_cases c24 : t210 = t212
    case neg =>
     rw [if_neg c24] at H
     have c24b0 : (t210 == t212) = false := beq_eq_false_iff_ne.mpr c24
     have c24b1 : (t210 != t212) = true := bne_iff_ne.mpr c24
     have H' := Aside0.mk H
     clear H
     go_wp2
     go_meet
     case rel => exact ⟨_, (true), m11_, H', ⟨by have := HJ1.out; first | omega | exact Nat.le_refl _⟩, ⟨by (with_reducible repeat (first | refine blk_drewN ?_ _ | refine blk_drew ?_ | refine blk_alloc ?_ _)); exact BK207.out⟩, ⟨m16_⟩⟩
    rw [if_pos c24] at H
    have c24b0 : (t210 == t212) = true := beq_iff_eq.mpr c24
    have c24b1 : (t210 != t212) = false := bne_eq_false_iff_eq.mpr c24
    clear c24
    by_cases c25 : t213.toList = t215.toList
    case neg =>
     rw [if_neg c25] at H
     have c25b0 : (t213.toList == t215.toList) = false := beq_eq_false_iff_ne.mpr c25
     have c25b1 : (t213.toList != t215.toList) = true := bne_iff_ne.mpr c25
     have H' := Aside0.mk H
     clear H
     go_wp2
     go_meet
     case rel => exact ⟨_, (true), m11_, H', ⟨by have := HJ1.out; first | omega | exact Nat.le_refl _⟩, ⟨by (with_reducible repeat (first | refine blk_drewN ?_ _ | refine blk_drew ?_ | refine blk_alloc ?_ _)); exact BK207.out⟩, ⟨m16_⟩⟩
    rw [if_pos c25] at H
    have c25b0 : (t213.toList == t215.toList) = true := beq_iff_eq.mpr c25
    have c25b1 : (t213.toList != t215.toList) = false := bne_eq_false_iff_eq.mpr c25
    clear c25
    have H' := Aside0.mk H
    clear H
    go_wp2
    go_meet
    case rel => exact ⟨_, ((t214 != t216)), m11_, H', ⟨by have := HJ1.out; first | omega | exact Nat.le_refl _⟩, ⟨by (with_reducible repeat (first | refine blk_drewN ?_ _ | refine blk_drew ?_ | refine blk_alloc ?_ _)); exact BK207.out⟩, ⟨m16_⟩⟩
   clear HC14
   try clear c1; try clear c2; try clear p2; try clear c4; try clear c4b0; try clear c4b1; try clear c7; try clear c8; try clear c11; try clear c23; try clear c23b0; try clear c23b1; try clear c24; try clear c24b0; try clear c24b1; try clear c25; try clear c25b0; try clear c25b1; try clear hcz15_0; try clear hcz15_1; try clear hcz15_2; try clear hcz15_3; try clear hcz15_4; try clear hcz17_0; try clear hcz17_1; try clear hcz17_2; try clear hcz17_3; try clear hcz17_4; try clear hcz19_0; try clear hcz19_1; try clear hcz19_2; try clear hcz19_3; try clear hcz19_4; try clear hcz21_0; try clear hcz21_1; try clear hcz21_2; try clear hcz21_3; try clear hcz21_4; try clear hcz5_0; try clear hcz5_1; try clear hcz5_2; try clear hcz5_3; try clear hcz5_4; try clear hcz6_0; try clear hcz6_1; try clear hcz6_2; try clear hcz6_3; try clear hcz6_4; try clear hfz15_0; try clear hfz15_1; try clear hfz15_2; try clear hfz15_3; try clear hfz15_4; try clear hfz17_0; try clear hfz17_1; try clear hfz17_2; try clear hfz17_3; try clear hfz17_4; try clear hfz19_0; try clear hfz19_1; try clear hfz19_2; try clear hfz19_3; try clear hfz19_4; try clear hfz21_0; try clear hfz21_1; try clear hfz21_2; try clear hfz21_3; try clear hfz21_4; try clear hfz5_0; try clear hfz5_1; try clear hfz5_2; try clear hfz5_3; try clear hfz5_4; try clear hfz6_0; try clear hfz6_1; try clear hfz6_2; try clear hfz6_3; try clear hfz6_4; try clear p2
   obtain ⟨kq, x97_13, rfl, HA, HJ13, BK207, HB⟩ := hcut
   cases kq with
   | zero => exact absurd HA.out (by simp [strongroomlaw25_FrameWraps.j1])
   | succ kj13 =>
    have H := HA.out
    clear HA
    simp only [strongroomlaw25_FrameWraps.j1] at H
    by_cases c26 : x97_13 = true
    ·subst c26
     have H1 : (some false) = some r := by rw [if_pos rfl] at H; exact H
     clear H
     have H := H1
     clear H1
     obtain rfl := Option.some.inj H
     go_wp2
     go_ret
     exact ⟨by first | rfl | (simp [errW_none, errW_some] <;> rfl) | (simp [*, errW_none, errW_some] <;> rfl), m16_⟩
    replace c26 := Bool.eq_false_iff.mpr c26
    subst c26
    have H1 : (if t210 = 0 then ((frame_Unwrap.f a0_0 a0_1 a0_2 a0_3 t209).bind fun bt217 => (if bt217.2 = 0 then (if bt217.1.toList = a0_4.toList then ((strongroomlaw25_lives.f kj13).bind fun t219 => (some t219)) else (some false)) else (some false))) else ((strongroomlaw25_lives.f kj13).bind fun t220 => (some t220))) = some r := by rw [if_neg (show ¬ (false = true) by decide)] at H; exact H
    clear H
    have H := H1
    clear H1
    by_cases c27 : t210 = 0
    case neg =>
     rw [if_neg c27] at H
     have c27b0 : (t210 == 0) = false := beq_eq_false_iff_ne.mpr c27
     have c27b1 : (t210 != 0) = true := bne_iff_ne.mpr c27
     replace H := Option.bind_eq_some_iff.mp H
     obtain ⟨t220, A410, H⟩ := H
     replace H : (some t220) = some r := H
     have A41 := Aside0.mk A410
     clear A410
     obtain rfl := Option.some.inj H
     go_wp2_with (first | ((with_reducible refine gate_callee (f := 11) rfl ?_); refine goesL_ (some 100) rfl rfl Tryd.func11 (by kernel_rfl) rfl #[] rfl m3_ ?_; (with_reducible refine (strongroomlaw25_lives.calls kj13  t220 _ A41.out).mono ?_); rintro e w42 ⟨rfl, hb⟩; refine ⟨_, rfl, ?_⟩; replace BK207 := Aside0.mk (blk_below (g := gb207) (o := .cells #[.string a0_0, .int .i64 a0_1, .int .i64 a0_2, .int .i64 a0_3, .string a0_4] 58 (0, 0)) m6_ hb); replace HB := Aside0.mk (below_step m1_ hb); (try clear hb); (try clear hb2); (try clear hk); (try clear hi)))
     go_ret
     exact ⟨by first | rfl | (simp [errW_none, errW_some] <;> rfl) | (simp [*, errW_none, errW_some] <;> rfl), m16_⟩
    rw [if_pos c27] at H
    have c27b0 : (t210 == 0) = true := beq_iff_eq.mpr c27
    have c27b1 : (t210 != 0) = false := bne_eq_false_iff_eq.mpr c27
    clear c27
    replace H := Option.bind_eq_some_iff.mp H
    obtain ⟨⟨t217, t218⟩, A280, H⟩ := H
    replace H : (if t218 = 0 then (if t217.toList = a0_4.toList then ((strongroomlaw25_lives.f kj13).bind fun t219 => (some t219)) else (some false)) else (some false)) = some r := H
    have A28 := Aside0.mk A280
    clear A280
    by_cases c29 : t218 = 0
    case neg =>
     rw [if_neg c29] at H
     have c29b0 : (t218 == 0) = false := beq_eq_false_iff_ne.mpr c29
     have c29b1 : (t218 != 0) = true := bne_iff_ne.mpr c29
     obtain rfl := Option.some.inj H
     obtain ⟨hcz39_0, hcz39_1, hcz39_2, hcz39_3, hcz39_4⟩ := bc5_ BK207.out
     obtain ⟨hfz39_0, hfz39_1, hfz39_2, hfz39_3, hfz39_4⟩ := bf5_ BK207.out
     go_wp2_with (first | ((with_reducible refine gate_callee (f := 28) rfl ?_); refine goesL_ (some 111) rfl rfl Tryd.func28 (by kernel_rfl) rfl #[.string a0_0, .int .i64 a0_1, .int .i64 a0_2, .int .i64 a0_3, .string t209] rfl m3_ ?_; (with_reducible refine (frame_Unwrap.calls a0_0 a0_1 a0_2 a0_3 t209 t217 t218 _ A28.out).mono ?_); rintro e w40 ⟨rfl, hb⟩; refine ⟨_, rfl, ?_⟩; replace BK207 := Aside0.mk (blk_below (g := gb207) (o := .cells #[.string a0_0, .int .i64 a0_1, .int .i64 a0_2, .int .i64 a0_3, .string a0_4] 58 (0, 0)) m6_ hb); replace HB := Aside0.mk (below_step m1_ hb); (try clear hb); (try clear hb2); (try clear hk); (try clear hi)))
     go_ret
     exact ⟨by first | rfl | (simp [errW_none, errW_some] <;> rfl) | (simp [*, errW_none, errW_some] <;> rfl), m16_⟩
    rw [if_pos c29] at H
    have c29b0 : (t218 == 0) = true := beq_iff_eq.mpr c29
    have c29b1 : (t218 != 0) = false := bne_eq_false_iff_eq.mpr c29
    clear c29
    by_cases c30 : t217.toList = a0_4.toList
    case neg =>
     rw [if_neg c30] at H
     have c30b0 : (t217.toList == a0_4.toList) = false := beq_eq_false_iff_ne.mpr c30
     have c30b1 : (t217.toList != a0_4.toList) = true := bne_iff_ne.mpr c30
     obtain rfl := Option.some.inj H
     obtain ⟨hcz36_0, hcz36_1, hcz36_2, hcz36_3, hcz36_4⟩ := bc5_ BK207.out
     obtain ⟨hfz36_0, hfz36_1, hfz36_2, hfz36_3, hfz36_4⟩ := bf5_ BK207.out
     go_wp2_with (first | ((with_reducible refine gate_callee (f := 28) rfl ?_); refine goesL_ (some 111) rfl rfl Tryd.func28 (by kernel_rfl) rfl #[.string a0_0, .int .i64 a0_1, .int .i64 a0_2, .int .i64 a0_3, .string t209] rfl m3_ ?_; (with_reducible refine (frame_Unwrap.calls a0_0 a0_1 a0_2 a0_3 t209 t217 t218 _ A28.out).mono ?_); rintro e w37 ⟨rfl, hb⟩; refine ⟨_, rfl, ?_⟩; replace BK207 := Aside0.mk (blk_below (g := gb207) (o := .cells #[.string a0_0, .int .i64 a0_1, .int .i64 a0_2, .int .i64 a0_3, .string a0_4] 58 (0, 0)) m6_ hb); replace HB := Aside0.mk (below_step m1_ hb); (try clear hb); (try clear hb2); (try clear hk); (try clear hi); obtain ⟨hcz38_0, hcz38_1, hcz38_2, hcz38_3, hcz38_4⟩ := bc5_ BK207.out; obtain ⟨hfz38_0, hfz38_1, hfz38_2, hfz38_3, hfz38_4⟩ := bf5_ BK207.out))
     go_ret
     exact ⟨by first | rfl | (simp [errW_none, errW_some] <;> rfl) | (simp [*, errW_none, errW_some] <;> rfl), m16_⟩
    rw [if_pos c30] at H
    have c30b0 : (t217.toList == a0_4.toList) = true := beq_iff_eq.mpr c30
    have c30b1 : (t217.toList != a0_4.toList) = false := bne_eq_false_iff_eq.mpr c30
    clear c30
    replace H := Option.bind_eq_some_iff.mp H
    obtain ⟨t219, A310, H⟩ := H
    replace H : (some t219) = some r := H
    have A31 := Aside0.mk A310
    clear A310
    obtain rfl := Option.some.inj H
    obtain ⟨hcz32_0, hcz32_1, hcz32_2, hcz32_3, hcz32_4⟩ := bc5_ BK207.out
    obtain ⟨hfz32_0, hfz32_1, hfz32_2, hfz32_3, hfz32_4⟩ := bf5_ BK207.out
    go_wp2_with (first | ((with_reducible refine gate_callee (f := 28) rfl ?_); refine goesL_ (some 111) rfl rfl Tryd.func28 (by kernel_rfl) rfl #[.string a0_0, .int .i64 a0_1, .int .i64 a0_2, .int .i64 a0_3, .string t209] rfl m3_ ?_; (with_reducible refine (frame_Unwrap.calls a0_0 a0_1 a0_2 a0_3 t209 t217 t218 _ A28.out).mono ?_); rintro e w33 ⟨rfl, hb⟩; refine ⟨_, rfl, ?_⟩; replace BK207 := Aside0.mk (blk_below (g := gb207) (o := .cells #[.string a0_0, .int .i64 a0_1, .int .i64 a0_2, .int .i64 a0_3, .string a0_4] 58 (0, 0)) m6_ hb); replace HB := Aside0.mk (below_step m1_ hb); (try clear hb); (try clear hb2); (try clear hk); (try clear hi); obtain ⟨hcz34_0, hcz34_1, hcz34_2, hcz34_3, hcz34_4⟩ := bc5_ BK207.out; obtain ⟨hfz34_0, hfz34_1, hfz34_2, hfz34_3, hfz34_4⟩ := bf5_ BK207.out) | (go_at_call 11; (with_reducible refine (strongroomlaw25_lives.calls kj13  t219 _ A31.out).mono ?_); rintro e w35 ⟨rfl, hb⟩; replace BK207 := Aside0.mk (blk_below (g := gb207) (o := .cells #[.string a0_0, .int .i64 a0_1, .int .i64 a0_2, .int .i64 a0_3, .string a0_4] 58 (0, 0)) m6_ hb); replace HB := Aside0.mk (below_step m1_ hb); (try clear hb); (try clear hb2); (try clear hk); (try clear hi)))
    go_ret
    exact ⟨by first | rfl | (simp [errW_none, errW_some] <;> rfl) | (simp [*, errW_none, errW_some] <;> rfl), m16_⟩

end Go.Proofs.YtoankokkdmbjmaaDoorH.HFrameWraps
