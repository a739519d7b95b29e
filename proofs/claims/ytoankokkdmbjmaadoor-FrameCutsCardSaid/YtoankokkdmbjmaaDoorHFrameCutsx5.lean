-- PRINTED by print.py (a twelfth state) out of the translation. Not trusted: Lean checks it.
import Derived.Test.YtoankokkdmbjmaaDoorHFrameCutsx0
import Derived.Test.YtoankokkdmbjmaaDoorHFrameCutsx4
namespace Go.Proofs.YtoankokkdmbjmaaDoorH.HFrameCuts
open Go.RowKit Go.Proofs.YtoankokkdmbjmaaDoorW.PrintWords Go.Proofs.YtoankokkdmbjmaaDoorW.PrintLast Go.Proofs.YtoankokkdmbjmaaDoorW.PrintMore
attribute [local go_sem] max2_int min2_int max_two min_two max_three min_three max_four min_four   -- for this text's walks alone
set_option linter.unusedVariables false
set_option linter.unusedSimpArgs false

/-! ### strongroomlaw25_lives: function 11 -/
theorem v_string {P : Program} {w : World} {src dst e e2 : TypeId} {base : Nat} {ok : Nat → Prop} {v : Value} {xs : List Int} (hs : P.underlying src = some (.slice e)) (he : P.underlying e = some (.int .u8)) (hd : P.underlying dst = some .string)
    (h : (Kd.int .u8).V e2 w base ok v xs) : (convert src dst v).run P w = .ok (.string (strOfNums xs)) w := by
  obtain ⟨A, c, rfl, _, hf⟩ := h
  exact Kd.C_string hs he hd (Kd.F_now hf)
def strongroomlaw25_lives.f (k : Nat)  : Option (Bool) := (frame_Reply.f k 1 2 0 ([] : List ByteArray) (⟨#[]⟩ : ByteArray) (⟨#[]⟩ : ByteArray) ([] : List (S65)) ([] : List (S74)) (⟨#[]⟩ : ByteArray) ([] : List (S67)) 0 0).bind fun bt251 => (if bt251.2 = 0 then (if 10 ≤ 281474976710656 then ((some (List.replicate 10 0 : List Int)).bind fun y255 => (if 3 + (strOfNums y255).size ≤ 9223372036854775807 then (some ((strOfNums bt251.1).toList == ((⟨#[2, 1, 2]⟩ : ByteArray) ++ (strOfNums y255)).toList)) else (none))) else (none)) else (some false))
theorem strongroomlaw25_lives.mono : ∀ k, LeO (strongroomlaw25_lives.f k ) (strongroomlaw25_lives.f (k + 1) ) := by
  intro  k
  unfold strongroomlaw25_lives.f
  repeat' first
      | (with_reducible exact frame_Reply.mono _ _ _ _ _ _ _ _ _ _ _ _ _)
      | (with_reducible exact LeO.refl _)
      | (with_reducible exact LeO.none _)
      | (with_reducible refine LeO.ite ?_ ?_)
      | (with_reducible refine LeO.bind ?_ (fun _ => ?_))
      | exact frame_Reply.mono _ _ _ _ _ _ _ _ _ _ _ _ _
      | exact LeO.none _
      | refine LeO.ite ?_ ?_
      | refine LeO.bind ?_ (fun _ => ?_)
def strongroomlaw25_lives.T2 : Bool × List (List Nat × List Nat) := (true, [([], []), ([0], [0]), ([1], [1]), ([2], [2]), ([3, 2], [2, 3]), ([2], [2]), ([5, 2], [2, 5]), ([6, 2], [2, 6]), ([4, 7, 2], [2, 4, 7]), ([2, 8], [2, 8]), ([9, 2, 0, 1, 2, 3, 4, 5, 6, 7, 8, 9], [9])])
def strongroomlaw25_lives.B2 : List Nat := [0, 1, 3, 7, 15, 7, 39, 103, 255, 511, 1023]
theorem strongroomlaw25_lives.tab2 : rtab .any (opsOf Tryd.f11 2) = strongroomlaw25_lives.T2 := by kernel_rfl
theorem strongroomlaw25_lives.bits2 : waitsOk strongroomlaw25_lives.T2.2 strongroomlaw25_lives.B2 = true := by kernel_rfl
set_option maxHeartbeats 8000000 in
set_option maxRecDepth 100000 in
theorem strongroomlaw25_lives.calls (k : Nat)  (r : Bool) (w : World) (h : strongroomlaw25_lives.f k  = some r) (hr_ : r = true) :
    Calls Tryd.prog 11 #[] w fun e w' => e = .returned (.bool r) ∧ Below w.heap.size w w' := by
  have hu34 := Tryd.underlying34
  have HB := Aside0.mk (Below.refl w.heap.size w)
  have H : ((frame_Reply.f k 1 2 0 ([] : List ByteArray) (⟨#[]⟩ : ByteArray) (⟨#[]⟩ : ByteArray) ([] : List (S65)) ([] : List (S74)) (⟨#[]⟩ : ByteArray) ([] : List (S67)) 0 0).bind fun bt251 => (if bt251.2 = 0 then (if 10 ≤ 281474976710656 then ((some (List.replicate 10 0 : List Int)).bind fun y255 => (if 3 + (strOfNums y255).size ≤ 9223372036854775807 then (some ((strOfNums bt251.1).toList == ((⟨#[2, 1, 2]⟩ : ByteArray) ++ (strOfNums y255)).toList)) else (none))) else (none)) else (some false))) = some r := h
  clear h
  replace H := Option.bind_eq_some_iff.mp H
  obtain ⟨⟨t251, t254⟩, A10, H⟩ := H
  replace H : (if t254 = 0 then (if 10 ≤ 281474976710656 then ((some (List.replicate 10 0 : List Int)).bind fun y255 => (if 3 + (strOfNums y255).size ≤ 9223372036854775807 then (some ((strOfNums t251).toList == ((⟨#[2, 1, 2]⟩ : ByteArray) ++ (strOfNums y255)).toList)) else (none))) else (none)) else (some false)) = some r := H
  have A1 := Aside0.mk A10
  clear A10
  by_cases c2 : t254 = 0
  case neg =>
   rw [if_neg c2] at H
   have c2b0 : (t254 == 0) = false := beq_eq_false_iff_ne.mpr c2
   have c2b1 : (t254 != 0) = true := bne_iff_ne.mpr c2
   exact absurd ((Option.some.inj H).trans hr_) (by decide)
  rw [if_pos c2] at H
  have c2b0 : (t254 == 0) = true := beq_iff_eq.mpr c2
  have c2b1 : (t254 != 0) = false := bne_eq_false_iff_eq.mpr c2
  clear c2
  by_cases c3 : 10 ≤ 281474976710656
  case neg =>
   rw [if_neg c3] at H
   exact absurd H (by simp)
  rw [if_pos c3] at H
  have c3b0 := eq_true c3
  have c3b1 : decide (10 ≤ 281474976710656) = true := decide_eq_true c3
  clear c3
  obtain ⟨y255, hy255⟩ : ∃ y_ : List Int, y_ = (List.replicate 10 0) := ⟨_, rfl⟩
  replace H : (if 3 + (strOfNums y255).size ≤ 9223372036854775807 then (some ((strOfNums t251).toList == ((⟨#[2, 1, 2]⟩ : ByteArray) ++ (strOfNums y255)).toList)) else (none)) = some r := by first | (rw [hy255]; with_reducible exact H) | (have H2_ := (Option.bind_some _ _).symm.trans H; rw [hy255]; with_reducible exact H2_) | (have H2_ := (Option.bind_some _ _).symm.trans H; with_reducible exact H2_) | with_reducible exact H | (rw [hy255]; exact H) | exact H
  have Ny255 := Aside0.mk hy255
  clear hy255
  by_cases c4 : 3 + (strOfNums y255).size ≤ 9223372036854775807
  case neg =>
   rw [if_neg c4] at H
   exact absurd H (by simp)
  rw [if_pos c4] at H
  have c4b0 := eq_true c4
  have c4b1 : decide (3 + (strOfNums y255).size ≤ 9223372036854775807) = true := decide_eq_true c4
  try have c4b2 : (9223372036854775807 < 3 + (strOfNums y255).size) = False := eq_false (Nat.not_lt.2 c4)
  obtain rfl := Option.some.inj H
  go_enter Tryd.func11, Tryd.ntmps11
  try go_wp2_with (first | ((with_reducible refine gate_callee (f := 13) rfl ?_); refine goesL_ (some 5) rfl rfl Tryd.func13 (by kernel_rfl) rfl #[.agg #[.int .i64 1, .int .i64 2, .int .i64 0, .slice none 0 0, .string (⟨#[]⟩ : ByteArray), .string (⟨#[]⟩ : ByteArray), .slice none 0 0, .slice none 0 0, .string (⟨#[]⟩ : ByteArray), .slice none 0 0, .int .i64 0, .int .i64 0]] rfl m12_ ?_; (refine (frame_Reply.calls k 1 2 0 _ _ ([] : List ByteArray) (⟨#[]⟩ : ByteArray) (⟨#[]⟩ : ByteArray) _ _ ([] : List (S65)) _ _ ([] : List (S74)) (⟨#[]⟩ : ByteArray) _ _ ([] : List (S67)) 0 0 t251 t254 _ ?side1 ?side2 ?side3 ?side4 ?side5 ?side6 ?side7 ?side8 A1.out).mono ?_); (case side1 => exact Kd.C_nil _ _); (case side2 => exact Nat.le_refl _); (case side3 => exact Kd.C_nil _ _); (case side4 => exact Nat.le_refl _); (case side5 => exact Kd.C_nil _ _); (case side6 => exact Nat.le_refl _); (case side7 => exact Kd.C_nil _ _); (case side8 => exact Nat.le_refl _); rintro e w5 ⟨v252, rfl, ho0, hb⟩; refine ⟨_, rfl, ?_⟩; have HO253 := Aside0.mk (Kd.V_lower (Kd.V_mono (ok' := fun k_ => True) ho0 (fun k_ hk_ => trivial)) (below_size m13_)); replace HB := Aside0.mk (below_step m13_ hb); (try clear hb); (try clear hb2); (try clear hk); (try clear hi); (try clear ho0)))
  replace HO253 := Aside0.mk (Kd.V_drew HO253.out)
  replace HB := Aside0.mk (below_drew1 HB.out)
  have hcv7 := v_string (P := Tryd.prog) Tryd.underlying36 Tryd.underlying5 Tryd.underlying9 HO253.out
  refine start_ (n := 11) (S := fun w' => (convert 36 9 v252).run Tryd.prog w' = .ok (.string (strOfNums t251)) w') (ds := []) (Ra_ [0, 11]) (by kernel_rfl) rfl rfl hcv7 (fun hHeld => ?_); refine with_tabW strongroomlaw25_lives.tab2 strongroomlaw25_lives.bits2 (fun HT_ HW_ => ?_)
  generalize w5.drew = w6 at HO253 HB hHeld ⊢
  refine pI_ 0 (some 8) (Ra_ [1, 10]) (h := ?_)
  refine pI_ 1 (some 9) (Ra_ [2, 9]) (h := ?_)
  refine pI_ 2 (some 10) (Ra_ [3, 8]) (h := ?_)
  refine pI_ 3 (some 11) (Ra_ [4, 7]) (h := ?_)
  refine take_ (i := 4) (N := some 12) (v := ?_) (a' := ?_) (Ra_ [5, 6]) rfl rfl (take_ofW HT_.out HW_.out (by kernel_rfl)) (fun _ _ _ h => h) (Or.inl ⟨by rfl, ?_⟩) hHeld ?_ ?_
  rotate_left
  ·intro w' s0
   go_simp
   with_reducible rfl
  rotate_left
  ·simp only [Act.put, sA_, sB_, sC_, i64_w, i32_w]
   rfl
  refine one_ (i := 5) (N := some 13) (Ra_ [6, 5]) rfl rfl (one_of HT_.out (by kernel_rfl)) (by decide) (fun K hK => ?_)
  refine Kd.R_make_step (Kd.int .u8) _ 5 (by rfl) (N := 13) rfl 36 _ _ rfl 10 rfl rfl Tryd.underlying36 (.int .u8 0) 1 info5 rfl (by decide) (by omega) 0 (ok := fun _ => True) (okp := fun _ => True) rfl (fun _ hk => hk) trivial (by omega) (by omega) (Below.refl _ _) (Nat.le_refl _) ?_
  intro v256 w8 ho9 hb hg_ hnew_
  clear hg_ hnew_
  (first | rw [← Ny255.out] at ho9 | (simp only [Int.reduceToNat] at ho9; rw [← Ny255.out] at ho9))
  have n0_ := Aside0.mk (Kd.V_elder' (by (with_reducible repeat (first | apply Kd.V_alloc | apply Kd.V_drewN | apply Kd.V_drew)); exact HO253.out) (Kd.R_base ho9) hb)
  have n1_ := Aside0.mk (Kd.R_lower ho9 (below_size m13_))
  have n2_ := Aside0.mk (below_step m13_ hb)
  clear HO253 HB
  have HO253 := n0_
  have HO257 := n1_
  have HB := n2_
  clear n0_ n1_ n2_ hb ho9
  refine hK.out _ _ (v_string (P := Tryd.prog) Tryd.underlying36 Tryd.underlying5 Tryd.underlying9 HO253.out) (fun hHeld => ?_)
  clear hK K
  refine norm_ (a' := ?_) ?_ ?_
  rotate_left
  ·show Act.put _ (some 13) _ = _
   simp only [Act.put, sA_, sB_, sC_, i64_w, i32_w]
   rfl
  refine one_ (i := 6) (N := some 14) (Ra_ [7, 4]) rfl rfl (one_of HT_.out (by kernel_rfl)) (by decide) (fun K hK => ?_)
  have hcv10 := own_string (P := Tryd.prog) Tryd.underlying36 Tryd.underlying5 Tryd.underlying9 (Kd.own_of_R HO257.out)
  refine value_ (w1 := ?_) (v := ?_) (by rfl) rfl ?_ ?_
  rotate_left 2
  ·go_simp
   constructor
   ·rfl
   rfl
  clear hcv10
  refine hK.out _ _ (v_string (P := Tryd.prog) Tryd.underlying36 Tryd.underlying5 Tryd.underlying9 HO253.out) (fun hHeld => ?_)
  clear hK K
  refine norm_ (a' := ?_) ?_ ?_
  rotate_left
  ·show Act.put _ (some 14) _ = _
   simp only [Act.put, sA_, sB_, sC_, i64_w, i32_w]
   rfl
  refine pI_ 7 (some 15) (Ra_ [8, 3]) (h := ?_)
  refine pI_ 8 (some 16) (Ra_ [9, 2]) (h := ?_)
  refine pI_ 9 (some 17) (Ra_ [10, 1]) (h := ?_)
  refine pI_ 10 (some 0) (Ra_ [11]) (h := ?_)
  refine done_ (done_of HT_.out (by kernel_rfl)) ?_
  try go_wp2
  go_ret
  exact ⟨by first | rfl | (simp [errW_none, errW_some] <;> rfl) | (simp [*, errW_none, errW_some] <;> rfl), m52_⟩

end Go.Proofs.YtoankokkdmbjmaaDoorH.HFrameCuts
