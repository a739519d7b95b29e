-- PRINTED by print.py (a twelfth state) out of the translation. Not trusted: Lean checks it.
import Derived.Test.YtoankokkdmbjmaaDoorHFrameWrapsx0
import Derived.Test.YtoankokkdmbjmaaDoorHFrameWrapsx3
namespace Go.Proofs.YtoankokkdmbjmaaDoorH.HFrameWraps
open Go.RowKit Go.Proofs.YtoankokkdmbjmaaDoorW.PrintWords Go.Proofs.YtoankokkdmbjmaaDoorW.PrintLast Go.Proofs.YtoankokkdmbjmaaDoorW.PrintMore
attribute [local go_sem] max2_int min2_int max_two min_two max_three min_three max_four min_four   -- for this text's walks alone
set_option linter.unusedVariables false
set_option linter.unusedSimpArgs false

/-! ### frame_Reply: function 13 -/
mutual
def frame_Reply.l0 : Nat → List Int → Int → Int → Int → Int → Int → List ByteArray → ByteArray → ByteArray → List (S65) → List (S74) → ByteArray → List (S67) → Int → Int → Option (List Int × Int)
  | 0, _, _, _, _, _, _, _, _, _, _, _, _, _, _, _ => none
  | k + 1, x4, x41, x42, x154000, x154001, x154002, x154003, x154004, x154005, x154006, x154007, x154008, x154009, x154010, x154011 => if x42 < x41 then (none) else ((frame_put.f k x4 (([(x154007.length : Int)] : List Int))).bind fun t182 => (frame_Reply.l1 k t182 (x154007.length : Int) 0 x154000 x154001 x154002 x154003 x154004 x154005 x154006 x154007 x154008 x154009 x154010 x154011))
def frame_Reply.l1 : Nat → List Int → Int → Int → Int → Int → Int → List ByteArray → ByteArray → ByteArray → List (S65) → List (S74) → ByteArray → List (S67) → Int → Int → Option (List Int × Int)
  | 0, _, _, _, _, _, _, _, _, _, _, _, _, _, _, _ => none
  | k + 1, x4, x63, x64, x154000, x154001, x154002, x154003, x154004, x154005, x154006, x154007, x154008, x154009, x154010, x154011 => if x64 < x63 then (none) else ((num_PutText.f k x4 x154008).bind fun t185 => ((frame_put.f k t185 (([(x154009.length : Int)] : List Int))).bind fun t191 => (frame_Reply.l2 k t191 (x154009.length : Int) 0 x154000 x154001 x154002 x154003 x154004 x154005 x154006 x154007 x154008 x154009 x154010 x154011)))
def frame_Reply.l2 : Nat → List Int → Int → Int → Int → Int → Int → List ByteArray → ByteArray → ByteArray → List (S65) → List (S74) → ByteArray → List (S67) → Int → Int → Option (List Int × Int)
  | 0, _, _, _, _, _, _, _, _, _, _, _, _, _, _, _ => none
  | k + 1, x4, x87, x88, x154000, x154001, x154002, x154003, x154004, x154005, x154006, x154007, x154008, x154009, x154010, x154011 => if x88 < x87 then (none) else ((frame_put.f k x4 (([x154010, x154011] : List Int))).bind fun t197 => (some (t197, 0)))
end
def frame_Reply.f (k : Nat) (a0_0 : Int) (a0_1 : Int) (a0_2 : Int) (l0_3 : List ByteArray) (a0_4 : ByteArray) (a0_5 : ByteArray) (l0_6 : List (S65)) (l0_7 : List (S74)) (a0_8 : ByteArray) (l0_9 : List (S67)) (a0_10 : Int) (a0_11 : Int) : Option (List Int × Int) := (frame_Fits.f k a0_0 a0_1 a0_2 l0_3 a0_4 a0_5 l0_6 l0_7 a0_8 l0_9 a0_10 a0_11).bind fun t154 => (if t154 = true then ((frame_put.f k (([2] : List Int)) (([a0_0, a0_1, a0_2] : List Int))).bind fun t161 => ((num_PutList.f k t161 l0_3).bind fun t164 => ((num_PutText.f k t164 a0_4).bind fun t167 => ((num_PutText.f k t167 a0_5).bind fun t170 => ((frame_put.f k t170 (([(l0_6.length : Int)] : List Int))).bind fun t176 => (frame_Reply.l0 k t176 (l0_6.length : Int) 0 a0_0 a0_1 a0_2 l0_3 a0_4 a0_5 l0_6 l0_7 a0_8 l0_9 a0_10 a0_11)))))) else (none))
theorem frame_Reply.mono_l : ∀ k, (∀ y0 y1 y2 y3 y4 y5 y6 y7 y8 y9 y10 y11 y12 y13 y14, LeO (frame_Reply.l0 k y0 y1 y2 y3 y4 y5 y6 y7 y8 y9 y10 y11 y12 y13 y14) (frame_Reply.l0 (k + 1) y0 y1 y2 y3 y4 y5 y6 y7 y8 y9 y10 y11 y12 y13 y14)) ∧ (∀ y0 y1 y2 y3 y4 y5 y6 y7 y8 y9 y10 y11 y12 y13 y14, LeO (frame_Reply.l1 k y0 y1 y2 y3 y4 y5 y6 y7 y8 y9 y10 y11 y12 y13 y14) (frame_Reply.l1 (k + 1) y0 y1 y2 y3 y4 y5 y6 y7 y8 y9 y10 y11 y12 y13 y14)) ∧ (∀ y0 y1 y2 y3 y4 y5 y6 y7 y8 y9 y10 y11 y12 y13 y14, LeO (frame_Reply.l2 k y0 y1 y2 y3 y4 y5 y6 y7 y8 y9 y10 y11 y12 y13 y14) (frame_Reply.l2 (k + 1) y0 y1 y2 y3 y4 y5 y6 y7 y8 y9 y10 y11 y12 y13 y14))
  | 0 => ⟨fun _ _ _ _ _ _ _ _ _ _ _ _ _ _ _ r h => by simp [frame_Reply.l0] at h, fun _ _ _ _ _ _ _ _ _ _ _ _ _ _ _ r h => by simp [frame_Reply.l1] at h, fun _ _ _ _ _ _ _ _ _ _ _ _ _ _ _ r h => by simp [frame_Reply.l2] at h⟩
  | k + 1 => by
    obtain ⟨ih0, ih1, ih2⟩ := frame_Reply.mono_l k
    refine ⟨?_, ?_, ?_⟩
    · intro y0 y1 y2 y3 y4 y5 y6 y7 y8 y9 y10 y11 y12 y13 y14
      unfold frame_Reply.l0
      repeat' first
      | (with_reducible exact ih0 _ _ _ _ _ _ _ _ _ _ _ _ _ _ _)
      | (with_reducible exact ih1 _ _ _ _ _ _ _ _ _ _ _ _ _ _ _)
      | (with_reducible exact ih2 _ _ _ _ _ _ _ _ _ _ _ _ _ _ _)
      | (with_reducible exact frame_Fits.mono _ _ _ _ _ _ _ _ _ _ _ _ _)
      | (with_reducible exact frame_put.mono _ _ _)
      | (with_reducible exact num_PutList.mono _ _ _)
      | (with_reducible exact num_PutText.mono _ _ _)
      | (with_reducible exact LeO.refl _)
      | (with_reducible exact LeO.none _)
      | (with_reducible refine LeO.ite ?_ ?_)
      | (with_reducible refine LeO.bind ?_ (fun _ => ?_))
      | exact ih0 _ _ _ _ _ _ _ _ _ _ _ _ _ _ _
      | exact ih1 _ _ _ _ _ _ _ _ _ _ _ _ _ _ _
      | exact ih2 _ _ _ _ _ _ _ _ _ _ _ _ _ _ _
      | exact frame_Fits.mono _ _ _ _ _ _ _ _ _ _ _ _ _
      | exact frame_put.mono _ _ _
      | exact num_PutList.mono _ _ _
      | exact num_PutText.mono _ _ _
      | exact LeO.none _
      | refine LeO.ite ?_ ?_
      | refine LeO.bind ?_ (fun _ => ?_)
    · intro y0 y1 y2 y3 y4 y5 y6 y7 y8 y9 y10 y11 y12 y13 y14
      unfold frame_Reply.l1
      repeat' first
      | (with_reducible exact ih0 _ _ _ _ _ _ _ _ _ _ _ _ _ _ _)
      | (with_reducible exact ih1 _ _ _ _ _ _ _ _ _ _ _ _ _ _ _)
      | (with_reducible exact ih2 _ _ _ _ _ _ _ _ _ _ _ _ _ _ _)
      | (with_reducible exact frame_Fits.mono _ _ _ _ _ _ _ _ _ _ _ _ _)
      | (with_reducible exact frame_put.mono _ _ _)
      | (with_reducible exact num_PutList.mono _ _ _)
      | (with_reducible exact num_PutText.mono _ _ _)
      | (with_reducible exact LeO.refl _)
      | (with_reducible exact LeO.none _)
      | (with_reducible refine LeO.ite ?_ ?_)
      | (with_reducible refine LeO.bind ?_ (fun _ => ?_))
      | exact ih0 _ _ _ _ _ _ _ _ _ _ _ _ _ _ _
      | exact ih1 _ _ _ _ _ _ _ _ _ _ _ _ _ _ _
      | exact ih2 _ _ _ _ _ _ _ _ _ _ _ _ _ _ _
      | exact frame_Fits.mono _ _ _ _ _ _ _ _ _ _ _ _ _
      | exact frame_put.mono _ _ _
      | exact num_PutList.mono _ _ _
      | exact num_PutText.mono _ _ _
      | exact LeO.none _
      | refine LeO.ite ?_ ?_
      | refine LeO.bind ?_ (fun _ => ?_)
    · intro y0 y1 y2 y3 y4 y5 y6 y7 y8 y9 y10 y11 y12 y13 y14
      unfold frame_Reply.l2
      repeat' first
      | (with_reducible exact ih0 _ _ _ _ _ _ _ _ _ _ _ _ _ _ _)
      | (with_reducible exact ih1 _ _ _ _ _ _ _ _ _ _ _ _ _ _ _)
      | (with_reducible exact ih2 _ _ _ _ _ _ _ _ _ _ _ _ _ _ _)
      | (with_reducible exact frame_Fits.mono _ _ _ _ _ _ _ _ _ _ _ _ _)
      | (with_reducible exact frame_put.mono _ _ _)
      | (with_reducible exact num_PutList.mono _ _ _)
      | (with_reducible exact num_PutText.mono _ _ _)
      | (with_reducible exact LeO.refl _)
      | (with_reducible exact LeO.none _)
      | (with_reducible refine LeO.ite ?_ ?_)
      | (with_reducible refine LeO.bind ?_ (fun _ => ?_))
      | exact ih0 _ _ _ _ _ _ _ _ _ _ _ _ _ _ _
      | exact ih1 _ _ _ _ _ _ _ _ _ _ _ _ _ _ _
      | exact ih2 _ _ _ _ _ _ _ _ _ _ _ _ _ _ _
      | exact frame_Fits.mono _ _ _ _ _ _ _ _ _ _ _ _ _
      | exact frame_put.mono _ _ _
      | exact num_PutList.mono _ _ _
      | exact num_PutText.mono _ _ _
      | exact LeO.none _
      | refine LeO.ite ?_ ?_
      | refine LeO.bind ?_ (fun _ => ?_)
theorem frame_Reply.mono : ∀ a0 a1 a2 a3 a4 a5 a6 a7 a8 a9 a10 a11 k, LeO (frame_Reply.f k a0 a1 a2 a3 a4 a5 a6 a7 a8 a9 a10 a11) (frame_Reply.f (k + 1) a0 a1 a2 a3 a4 a5 a6 a7 a8 a9 a10 a11) := by
  intro a0 a1 a2 a3 a4 a5 a6 a7 a8 a9 a10 a11 k
  obtain ⟨ih0, ih1, ih2⟩ := frame_Reply.mono_l k
  unfold frame_Reply.f
  repeat' first
      | (with_reducible exact ih0 _ _ _ _ _ _ _ _ _ _ _ _ _ _ _)
      | (with_reducible exact ih1 _ _ _ _ _ _ _ _ _ _ _ _ _ _ _)
      | (with_reducible exact ih2 _ _ _ _ _ _ _ _ _ _ _ _ _ _ _)
      | (with_reducible exact frame_Fits.mono _ _ _ _ _ _ _ _ _ _ _ _ _)
      | (with_reducible exact frame_put.mono _ _ _)
      | (with_reducible exact num_PutList.mono _ _ _)
      | (with_reducible exact num_PutText.mono _ _ _)
      | (with_reducible exact LeO.refl _)
      | (with_reducible exact LeO.none _)
      | (with_reducible refine LeO.ite ?_ ?_)
      | (with_reducible refine LeO.bind ?_ (fun _ => ?_))
      | exact ih0 _ _ _ _ _ _ _ _ _ _ _ _ _ _ _
      | exact ih1 _ _ _ _ _ _ _ _ _ _ _ _ _ _ _
      | exact ih2 _ _ _ _ _ _ _ _ _ _ _ _ _ _ _
      | exact frame_Fits.mono _ _ _ _ _ _ _ _ _ _ _ _ _
      | exact frame_put.mono _ _ _
      | exact num_PutList.mono _ _ _
      | exact num_PutText.mono _ _ _
      | exact LeO.none _
      | refine LeO.ite ?_ ?_
      | refine LeO.bind ?_ (fun _ => ?_)
def frame_Reply.T4 : Bool × List (List Nat × List Nat) := (true, [([], []), ([], []), ([1], [1]), ([0, 2], [0, 2]), ([], []), ([4], [4]), ([3, 5, 3], [3, 5]), ([], []), ([7], [7]), ([6, 8, 6], [6, 8]), ([9, 9, 0, 1, 2, 3, 4, 5, 6, 7, 8, 9], [0, 9])])
def frame_Reply.B4 : List Nat := [0, 0, 2, 7, 0, 16, 63, 0, 128, 511, 1023]
theorem frame_Reply.tab4 : rtab .any (opsOf Tryd.f13 4) = frame_Reply.T4 := by kernel_rfl
theorem frame_Reply.bits4 : waitsOk frame_Reply.T4.2 frame_Reply.B4 = true := by kernel_rfl
def frame_Reply.T17 : Bool × List (List Nat × List Nat) := (true, [([], []), ([], []), ([1], [1]), ([0, 2], [0, 2]), ([], []), ([4], [4]), ([5], [5]), ([6], [6]), ([3, 7, 3], [3, 7]), ([8, 8, 0, 1, 2, 3, 4, 5, 6, 7, 8], [0, 8])])
def frame_Reply.B17 : List Nat := [0, 0, 2, 7, 0, 16, 48, 112, 255, 511]
theorem frame_Reply.tab17 : rtab .any (opsOf Tryd.f13 17) = frame_Reply.T17 := by kernel_rfl
theorem frame_Reply.bits17 : waitsOk frame_Reply.T17.2 frame_Reply.B17 = true := by kernel_rfl
set_option maxHeartbeats 8000000 in
set_option maxRecDepth 100000 in
theorem frame_Reply.calls (k : Nat) (a0_0 : Int) (a0_1 : Int) (a0_2 : Int) (A0_3 : Option Addr) (c0_3 : Nat) (l0_3 : List ByteArray) (a0_4 : ByteArray) (a0_5 : ByteArray) (A0_6 : Option Addr) (c0_6 : Nat) (l0_6 : List (S65)) (A0_7 : Option Addr) (c0_7 : Nat) (l0_7 : List (S74)) (a0_8 : ByteArray) (A0_9 : Option Addr) (c0_9 : Nat) (l0_9 : List (S67)) (a0_10 : Int) (a0_11 : Int) (r1 : List Int) (r2 : Int) (w : World) (hr0_3 : Kd.C Kd.string w A0_3 l0_3.length l0_3) (hc0_3 : l0_3.length ≤ c0_3) (hr0_6 : Kd.C k65 w A0_6 l0_6.length l0_6) (hc0_6 : l0_6.length ≤ c0_6) (hr0_7 : Kd.C k74 w A0_7 l0_7.length l0_7) (hc0_7 : l0_7.length ≤ c0_7) (hr0_9 : Kd.C k67 w A0_9 l0_9.length l0_9) (hc0_9 : l0_9.length ≤ c0_9) (h : frame_Reply.f k a0_0 a0_1 a0_2 l0_3 a0_4 a0_5 l0_6 l0_7 a0_8 l0_9 a0_10 a0_11 = some (r1, r2)) :
    Calls Tryd.prog 13 #[.agg #[.int .i64 a0_0, .int .i64 a0_1, .int .i64 a0_2, .slice A0_3 l0_3.length c0_3, .string a0_4, .string a0_5, .slice A0_6 l0_6.length c0_6, .slice A0_7 l0_7.length c0_7, .string a0_8, .slice A0_9 l0_9.length c0_9, .int .i64 a0_10, .int .i64 a0_11]] w fun e w' => ∃ v0_ : Value, e = .returned (.tuple #[v0_, .int .i64 r2]) ∧ Kd.V (Kd.int .u8) 5 w' w.heap.size (fun k_ => (w.heap.size ≤ k_)) v0_ r1 ∧ Below w.heap.size w w' := by
  have hu34 := Tryd.underlying34
  have hu65 := Tryd.underlying65
  have hu74 := Tryd.underlying74
  have hu67 := Tryd.underlying67
  have HR0_3 := Aside0.mk hr0_3
  have HC0_3 := Aside0.mk hc0_3
  clear hr0_3 hc0_3
  have HR0_6 := Aside0.mk hr0_6
  have HC0_6 := Aside0.mk hc0_6
  clear hr0_6 hc0_6
  have HR0_7 := Aside0.mk hr0_7
  have HC0_7 := Aside0.mk hc0_7
  clear hr0_7 hc0_7
  have HR0_9 := Aside0.mk hr0_9
  have HC0_9 := Aside0.mk hc0_9
  clear hr0_9 hc0_9
  have HB := Aside0.mk (Below.refl w.heap.size w)
  have H : ((frame_Fits.f k a0_0 a0_1 a0_2 l0_3 a0_4 a0_5 l0_6 l0_7 a0_8 l0_9 a0_10 a0_11).bind fun t154 => (if t154 = true then ((frame_put.f k (([2] : List Int)) (([a0_0, a0_1, a0_2] : List Int))).bind fun t161 => ((num_PutList.f k t161 l0_3).bind fun t164 => ((num_PutText.f k t164 a0_4).bind fun t167 => ((num_PutText.f k t167 a0_5).bind fun t170 => ((frame_put.f k t170 (([(l0_6.length : Int)] : List Int))).bind fun t176 => (frame_Reply.l0 k t176 (l0_6.length : Int) 0 a0_0 a0_1 a0_2 l0_3 a0_4 a0_5 l0_6 l0_7 a0_8 l0_9 a0_10 a0_11)))))) else (none))) = some (r1, r2) := h
  clear h
  replace H := Option.bind_eq_some_iff.mp H
  obtain ⟨t154, A20, H⟩ := H
  replace H : (if t154 = true then ((frame_put.f k (([2] : List Int)) (([a0_0, a0_1, a0_2] : List Int))).bind fun t161 => ((num_PutList.f k t161 l0_3).bind fun t164 => ((num_PutText.f k t164 a0_4).bind fun t167 => ((num_PutText.f k t167 a0_5).bind fun t170 => ((frame_put.f k t170 (([(l0_6.length : Int)] : List Int))).bind fun t176 => (frame_Reply.l0 k t176 (l0_6.length : Int) 0 a0_0 a0_1 a0_2 l0_3 a0_4 a0_5 l0_6 l0_7 a0_8 l0_9 a0_10 a0_11)))))) else (none)) = some (r1, r2) := H
  have A2 := Aside0.mk A20
  clear A20
  by_cases c3 : t154 = true
  case neg =>
   replace c3 := Bool.eq_false_iff.mpr c3
   subst c3
   have H1 : (none) = some (r1, r2) := by rw [if_neg (show ¬ (false = true) by decide)] at H; exact H
   clear H
   have H := H1
   clear H1
   exact absurd H (by simp)
  subst c3
  have H1 : ((frame_put.f k (([2] : List Int)) (([a0_0, a0_1, a0_2] : List Int))).bind fun t161 => ((num_PutList.f k t161 l0_3).bind fun t164 => ((num_PutText.f k t164 a0_4).bind fun t167 => ((num_PutText.f k t167 a0_5).bind fun t170 => ((frame_put.f k t170 (([(l0_6.length : Int)] : List Int))).bind fun t176 => (frame_Reply.l0 k t176 (l0_6.length : Int) 0 a0_0 a0_1 a0_2 l0_3 a0_4 a0_5 l0_6 l0_7 a0_8 l0_9 a0_10 a0_11)))))) = some (r1, r2) := by rw [if_pos rfl] at H; exact H
  clear H
  have H := H1
  clear H1
  obtain ⟨y155, hy155⟩ : ∃ y_ : List Int, y_ = (([2] : List Int)) := ⟨_, rfl⟩
  replace H : ((frame_put.f k y155 (([a0_0, a0_1, a0_2] : List Int))).bind fun t161 => ((num_PutList.f k t161 l0_3).bind fun t164 => ((num_PutText.f k t164 a0_4).bind fun t167 => ((num_PutText.f k t167 a0_5).bind fun t170 => ((frame_put.f k t170 (([(l0_6.length : Int)] : List Int))).bind fun t176 => (frame_Reply.l0 k t176 (l0_6.length : Int) 0 a0_0 a0_1 a0_2 l0_3 a0_4 a0_5 l0_6 l0_7 a0_8 l0_9 a0_10 a0_11)))))) = some (r1, r2) := by first | (rw [hy155]; with_reducible exact H) | (have H2_ := (Option.bind_some _ _).symm.trans H; rw [hy155]; with_reducible exact H2_) | (have H2_ := (Option.bind_some _ _).symm.trans H; with_reducible exact H2_) | with_reducible exact H | (rw [hy155]; exact H) | exact H
  have Ny155 := Aside0.mk hy155
  clear hy155
  obtain ⟨y158, hy158⟩ : ∃ y_ : List Int, y_ = (([a0_0, a0_1, a0_2] : List Int)) := ⟨_, rfl⟩
  replace H : ((frame_put.f k y155 y158).bind fun t161 => ((num_PutList.f k t161 l0_3).bind fun t164 => ((num_PutText.f k t164 a0_4).bind fun t167 => ((num_PutText.f k t167 a0_5).bind fun t170 => ((frame_put.f k t170 (([(l0_6.length : Int)] : List Int))).bind fun t176 => (frame_Reply.l0 k t176 (l0_6.length : Int) 0 a0_0 a0_1 a0_2 l0_3 a0_4 a0_5 l0_6 l0_7 a0_8 l0_9 a0_10 a0_11)))))) = some (r1, r2) := by first | (rw [hy158]; with_reducible exact H) | (have H2_ := (Option.bind_some _ _).symm.trans H; rw [hy158]; with_reducible exact H2_) | (have H2_ := (Option.bind_some _ _).symm.trans H; with_reducible exact H2_) | with_reducible exact H | (rw [hy158]; exact H) | exact H
  have Ny158 := Aside0.mk hy158
  clear hy158
  replace H := Option.bind_eq_some_iff.mp H
  obtain ⟨t161, A40, H⟩ := H
  replace H : ((num_PutList.f k t161 l0_3).bind fun t164 => ((num_PutText.f k t164 a0_4).bind fun t167 => ((num_PutText.f k t167 a0_5).bind fun t170 => ((frame_put.f k t170 (([(l0_6.length : Int)] : List Int))).bind fun t176 => (frame_Reply.l0 k t176 (l0_6.length : Int) 0 a0_0 a0_1 a0_2 l0_3 a0_4 a0_5 l0_6 l0_7 a0_8 l0_9 a0_10 a0_11))))) = some (r1, r2) := H
  have A4 := Aside0.mk A40
  clear A40
  replace H := Option.bind_eq_some_iff.mp H
  obtain ⟨t164, A50, H⟩ := H
  replace H : ((num_PutText.f k t164 a0_4).bind fun t167 => ((num_PutText.f k t167 a0_5).bind fun t170 => ((frame_put.f k t170 (([(l0_6.length : Int)] : List Int))).bind fun t176 => (frame_Reply.l0 k t176 (l0_6.length : Int) 0 a0_0 a0_1 a0_2 l0_3 a0_4 a0_5 l0_6 l0_7 a0_8 l0_9 a0_10 a0_11)))) = some (r1, r2) := H
  have A5 := Aside0.mk A50
  clear A50
  replace H := Option.bind_eq_some_iff.mp H
  obtain ⟨t167, A60, H⟩ := H
  replace H : ((num_PutText.f k t167 a0_5).bind fun t170 => ((frame_put.f k t170 (([(l0_6.length : Int)] : List Int))).bind fun t176 => (frame_Reply.l0 k t176 (l0_6.length : Int) 0 a0_0 a0_1 a0_2 l0_3 a0_4 a0_5 l0_6 l0_7 a0_8 l0_9 a0_10 a0_11))) = some (r1, r2) := H
  have A6 := Aside0.mk A60
  clear A60
  replace H := Option.bind_eq_some_iff.mp H
  obtain ⟨t170, A70, H⟩ := H
  replace H : ((frame_put.f k t170 (([(l0_6.length : Int)] : List Int))).bind fun t176 => (frame_Reply.l0 k t176 (l0_6.length : Int) 0 a0_0 a0_1 a0_2 l0_3 a0_4 a0_5 l0_6 l0_7 a0_8 l0_9 a0_10 a0_11)) = some (r1, r2) := H
  have A7 := Aside0.mk A70
  clear A70
  obtain ⟨y173, hy173⟩ : ∃ y_ : List Int, y_ = (([(l0_6.length : Int)] : List Int)) := ⟨_, rfl⟩
  replace H : ((frame_put.f k t170 y173).bind fun t176 => (frame_Reply.l0 k t176 (l0_6.length : Int) 0 a0_0 a0_1 a0_2 l0_3 a0_4 a0_5 l0_6 l0_7 a0_8 l0_9 a0_10 a0_11)) = some (r1, r2) := by first | (rw [hy173]; with_reducible exact H) | (have H2_ := (Option.bind_some _ _).symm.trans H; rw [hy173]; with_reducible exact H2_) | (have H2_ := (Option.bind_some _ _).symm.trans H; with_reducible exact H2_) | with_reducible exact H | (rw [hy173]; exact H) | exact H
  have Ny173 := Aside0.mk hy173
  clear hy173
  replace H := Option.bind_eq_some_iff.mp H
  obtain ⟨t176, A80, H⟩ := H
  replace H : (frame_Reply.l0 k t176 (l0_6.length : Int) 0 a0_0 a0_1 a0_2 l0_3 a0_4 a0_5 l0_6 l0_7 a0_8 l0_9 a0_10 a0_11) = some (r1, r2) := H
  have A8 := Aside0.mk A80
  clear A80
  have H' := Aside0.mk H
  clear H
  go_enter Tryd.func13, Tryd.ntmps13
  try go_wp2_with (first | ((with_reducible refine gate_dst (N := 1) rfl ?_); refine box_event ?hg (N := 1) ?hd (cs := #[.int .i64 a0_0, .int .i64 a0_1, .int .i64 a0_2, .slice A0_3 l0_3.length c0_3, .string a0_4, .string a0_5, .slice A0_6 l0_6.length c0_6, .slice A0_7 l0_7.length c0_7, .string a0_8, .slice A0_9 l0_9.length c0_9, .int .i64 a0_10, .int .i64 a0_11]) (t := 34) ?hr ?_; (case hd => rfl); (case hg => rfl); (case hr => first | (go_simp; done) | (go_simp; rfl)); intro gb153 hg w9 hbox hb; have n0_ := Aside0.mk (below_step m4_ hb); have n1_ := Aside0.mk (hbox); have n2_ := Aside0.mk ((by rw [hg]; exact (below_size m4_) : w.heap.size ≤ gb153)); have n3_ := Aside0.mk ((by rw [hg]; exact (below_size m4_) : w.heap.size ≤ gb153)); clear HB; have HB := n0_; have BK153 := n1_; have GW153 := n2_; have GE153 := n3_; clear n0_ n1_ n2_ n3_; clear hb hbox hg; obtain ⟨hcz10_0, hcz10_1, hcz10_2, hcz10_3, hcz10_4, hcz10_5, hcz10_6, hcz10_7, hcz10_8, hcz10_9, hcz10_10, hcz10_11⟩ := bc12_ BK153.out; obtain ⟨hfz10_0, hfz10_1, hfz10_2, hfz10_3, hfz10_4, hfz10_5, hfz10_6, hfz10_7, hfz10_8, hfz10_9, hfz10_10, hfz10_11⟩ := bf12_ BK153.out) | ((with_reducible refine gate_callee (f := 15) rfl ?_); refine goesL_ (some 12) rfl rfl Tryd.func15 (by kernel_rfl) rfl #[.agg #[.int .i64 a0_0, .int .i64 a0_1, .int .i64 a0_2, .slice A0_3 l0_3.length c0_3, .string a0_4, .string a0_5, .slice A0_6 l0_6.length c0_6, .slice A0_7 l0_7.length c0_7, .string a0_8, .slice A0_9 l0_9.length c0_9, .int .i64 a0_10, .int .i64 a0_11]] rfl m3_ ?_; (with_reducible refine (frame_Fits.calls k a0_0 a0_1 a0_2 _ _ l0_3 a0_4 a0_5 _ _ l0_6 _ _ l0_7 a0_8 _ _ l0_9 a0_10 a0_11 true _ ?side1 ?side2 ?side3 ?side4 ?side5 ?side6 ?side7 ?side8 A2.out).mono ?_); (case side1 => repeat (first | exact (Kd.C_below HR0_3.out HB.out) | (with_reducible refine Kd.C_alloc ?_ _) | (with_reducible refine Kd.C_drewN ?_ _) | (with_reducible refine Kd.C_drew ?_))); (case side2 => exact HC0_3.out); (case side3 => repeat (first | exact (Kd.C_below HR0_6.out HB.out) | (with_reducible refine Kd.C_alloc ?_ _) | (with_reducible refine Kd.C_drewN ?_ _) | (with_reducible refine Kd.C_drew ?_))); (case side4 => exact HC0_6.out); (case side5 => repeat (first | exact (Kd.C_below HR0_7.out HB.out) | (with_reducible refine Kd.C_alloc ?_ _) | (with_reducible refine Kd.C_drewN ?_ _) | (with_reducible refine Kd.C_drew ?_))); (case side6 => exact HC0_7.out); (case side7 => repeat (first | exact (Kd.C_below HR0_9.out HB.out) | (with_reducible refine Kd.C_alloc ?_ _) | (with_reducible refine Kd.C_drewN ?_ _) | (with_reducible refine Kd.C_drew ?_))); (case side8 => exact HC0_9.out); rintro e w11 ⟨rfl, hb⟩; refine ⟨_, rfl, ?_⟩; replace BK153 := Aside0.mk (blk_below (g := gb153) (o := .cells #[.int .i64 a0_0, .int .i64 a0_1, .int .i64 a0_2, .slice A0_3 l0_3.length c0_3, .string a0_4, .string a0_5, .slice A0_6 l0_6.length c0_6, .slice A0_7 l0_7.length c0_7, .string a0_8, .slice A0_9 l0_9.length c0_9, .int .i64 a0_10, .int .i64 a0_11] 34 (0, 0)) m5_ hb); replace HB := Aside0.mk (below_step m0_ hb); (try clear hb); (try clear hb2); (try clear hk); (try clear hi)) | ((with_reducible refine gate_dst (N := 14) rfl ?_); refine Kd.R_lit (Kd.int .u8) _ 5 ?hg (N := 14) ?hd (xs := ([2] : List Int)) (inner := [.int .u8 2]) (ok := fun _ => True) (okp := fun _ => True) ?hr ?hp (fun _ hk => hk) trivial (Below.refl _ _) (Nat.le_refl _) (by simp) ?_; (case hd => rfl); (case hg => rfl); (case hr => first | (go_simp; done) | (go_simp; rfl)); (case hp => exact (Reps.one (show Kd.M (Kd.int .u8) _ _ _ 2 [.int .u8 2] from rfl) (Reps.none _ _))); intro v156 w12 ho13 hb hg_ hnew_; clear hg_ hnew_; (first | rw [← Ny155.out] at ho13 | (simp only [Int.reduceToNat] at ho13; rw [← Ny155.out] at ho13)); have HO157 := Aside0.mk (Kd.R_lower (Kd.R_newM (M := fun k_ => (w.heap.size ≤ k_)) ho13 (below_size m0_) (fun k_ h_ => h_)) (below_size m0_)); replace BK153 := Aside0.mk (blk_below (g := gb153) (o := .cells #[.int .i64 a0_0, .int .i64 a0_1, .int .i64 a0_2, .slice A0_3 l0_3.length c0_3, .string a0_4, .string a0_5, .slice A0_6 l0_6.length c0_6, .slice A0_7 l0_7.length c0_7, .string a0_8, .slice A0_9 l0_9.length c0_9, .int .i64 a0_10, .int .i64 a0_11] 34 (0, 0)) m5_ hb); replace HB := Aside0.mk (below_step m0_ hb); clear hb ho13; obtain ⟨hcz14_0, hcz14_1, hcz14_2, hcz14_3, hcz14_4, hcz14_5, hcz14_6, hcz14_7, hcz14_8, hcz14_9, hcz14_10, hcz14_11⟩ := bc12_ BK153.out; obtain ⟨hfz14_0, hfz14_1, hfz14_2, hfz14_3, hfz14_4, hfz14_5, hfz14_6, hfz14_7, hfz14_8, hfz14_9, hfz14_10, hfz14_11⟩ := bf12_ BK153.out) | ((with_reducible refine gate_dst (N := 21) rfl ?_); refine Kd.R_lit (Kd.int .i64) _ 3 ?hg (N := 21) ?hd (xs := ([a0_0, a0_1, a0_2] : List Int)) (inner := [.int .i64 a0_0, .int .i64 a0_1, .int .i64 a0_2]) (ok := fun _ => True) (okp := fun _ => True) ?hr ?hp (fun _ hk => hk) trivial (Below.refl _ _) (Nat.le_refl _) (by simp) ?_; (case hd => rfl); (case hg => rfl); (case hr => first | (go_simp; done) | (go_simp; rfl)); (case hp => exact (Reps.one (show Kd.M (Kd.int .i64) _ _ _ a0_0 [.int .i64 a0_0] from rfl) (Reps.one (show Kd.M (Kd.int .i64) _ _ _ a0_1 [.int .i64 a0_1] from rfl) (Reps.one (show Kd.M (Kd.int .i64) _ _ _ a0_2 [.int .i64 a0_2] from rfl) (Reps.none _ _))))); intro v159 w15 ho16 hb hg_ hnew_; clear hg_ hnew_; (first | rw [← Ny158.out] at ho16 | (simp only [Int.reduceToNat] at ho16; rw [← Ny158.out] at ho16)); replace HO157 := Aside0.mk (Kd.R_below m7_ hb); have HO160 := Aside0.mk (Kd.R_lower (Kd.R_newM (M := fun k_ => (w.heap.size ≤ k_)) ho16 (below_size m0_) (fun k_ h_ => h_)) (below_size m0_)); replace BK153 := Aside0.mk (blk_below (g := gb153) (o := .cells #[.int .i64 a0_0, .int .i64 a0_1, .int .i64 a0_2, .slice A0_3 l0_3.length c0_3, .string a0_4, .string a0_5, .slice A0_6 l0_6.length c0_6, .slice A0_7 l0_7.length c0_7, .string a0_8, .slice A0_9 l0_9.length c0_9, .int .i64 a0_10, .int .i64 a0_11] 34 (0, 0)) m5_ hb); replace HB := Aside0.mk (below_step m0_ hb); clear hb ho16; obtain ⟨Ao17, co17, eo17⟩ := Kd.R_slice HO157.out; subst eo17; obtain ⟨Ao18, co18, eo18⟩ := Kd.R_slice HO160.out; subst eo18) | ((with_reducible refine gate_callee (f := 30) rfl ?_); refine goesL_ (some 22) rfl rfl Tryd.func30 (by kernel_rfl) rfl #[.slice Ao17 y155.length co17, .slice Ao18 y158.length co18] rfl m3_ ?_; (with_reducible refine (frame_put.calls k (fun k_ => some k_ = (.slice Ao17 y155.length co17 : Value).ownBlock) _ _ y155 _ _ y158 t161 _ ?side1 ?side2 ?side3 A4.out).mono ?_); (case side1 => exact Kd.R_V (Kd.R_tight rfl (Kd.R_types (Kd.R_apart' (HO157.out) (Kd.R_typed HO160.out) (by decide)) BK153.out (by decide)))); (case side2 => repeat (first | exact (Kd.R_reads' HO160.out).2.2 | (with_reducible refine Kd.C_alloc ?_ _) | (with_reducible refine Kd.C_drewN ?_ _) | (with_reducible refine Kd.C_drew ?_))); (case side3 => exact (Kd.R_reads' HO160.out).2.1); rintro e w19 ⟨v162, rfl, ho0, hb⟩; refine ⟨_, rfl, ?_⟩; have n0_ := Aside0.mk (Kd.R_below m7_ hb); have n1_ := Aside0.mk (Kd.R_below m8_ hb); have n2_ := Aside0.mk (Kd.V_lower (Kd.V_mono (ok' := fun k_ => (w.heap.size ≤ k_) ∧ some k_ ≠ (.slice Ao18 y158.length co18 : Value).ownBlock ∧ k_ ≠ gb153) ho0 (fun k_ hk_ => ⟨Or.elim hk_ (fun hs_ => ((Kd.R_types (Kd.R_apart' (HO157.out) (Kd.R_typed HO160.out) (by decide)) BK153.out (by decide)).1 k_ hs_.symm).1.1.1) (fun hn_ => (Nat.le_trans (below_size m0_) hn_)), Or.elim hk_ (fun hs_ => ((Kd.R_types (Kd.R_apart' (HO157.out) (Kd.R_typed HO160.out) (by decide)) BK153.out (by decide)).1 k_ hs_.symm).1.2) (fun hn_ => (Kd.fresh' (Kd.R_lt m8_) k_ hn_)), Or.elim hk_ (fun hs_ => ((Kd.R_types (Kd.R_apart' (HO157.out) (Kd.R_typed HO160.out) (by decide)) BK153.out (by decide)).1 k_ hs_.symm).2) (fun hn_ => (Kd.freshB (g := gb153) (o := .cells #[.int .i64 a0_0, .int .i64 a0_1, .int .i64 a0_2, .slice A0_3 l0_3.length c0_3, .string a0_4, .string a0_5, .slice A0_6 l0_6.length c0_6, .slice A0_7 l0_7.length c0_7, .string a0_8, .slice A0_9 l0_9.length c0_9, .int .i64 a0_10, .int .i64 a0_11] 34 (0, 0)) m5_ k_ hn_))⟩)) (below_size m0_)); have n3_ := Aside0.mk (blk_below (g := gb153) (o := .cells #[.int .i64 a0_0, .int .i64 a0_1, .int .i64 a0_2, .slice A0_3 l0_3.length c0_3, .string a0_4, .string a0_5, .slice A0_6 l0_6.length c0_6, .slice A0_7 l0_7.length c0_7, .string a0_8, .slice A0_9 l0_9.length c0_9, .int .i64 a0_10, .int .i64 a0_11] 34 (0, 0)) m5_ hb); have n4_ := Aside0.mk (below_step m0_ hb); clear HO157; clear HO160; clear BK153; clear HB; have HO157 := n0_; have HO160 := n1_; have HO163 := n2_; have BK153 := n3_; have HB := n4_; clear n0_ n1_ n2_ n3_ n4_; (try clear hb); (try clear hb2); (try clear hk); (try clear hi); (try clear ho0)))
  replace HO157 := Aside0.mk (Kd.R_drew HO157.out)
  replace HO160 := Aside0.mk (Kd.R_drew HO160.out)
  replace HO163 := Aside0.mk (Kd.V_drew HO163.out)
  replace BK153 := Aside0.mk (blk_drew BK153.out)
  replace HB := Aside0.mk (below_drew1 HB.out)
  obtain ⟨Ao21, co21, eo21⟩ := Kd.V_slice HO163.out
  (first | subst eo21 | (injection eo21 with f1_ f2_ f3_; have f4_ := f1_.symm; have f5_ := f3_.symm; clear f1_ f2_ f3_; subst f4_; subst f5_))
  refine start_ (n := 11) (S := fun w' => w'.cell? ⟨gb153, 0, none⟩ = some (.int .i64 a0_0) ∧ w'.cell? ⟨gb153, 1, none⟩ = some (.int .i64 a0_1) ∧ w'.cell? ⟨gb153, 2, none⟩ = some (.int .i64 a0_2) ∧ w'.cell? ⟨gb153, 3, none⟩ = some (.slice A0_3 l0_3.length c0_3) ∧ w'.cell? ⟨gb153, 4, none⟩ = some (.string a0_4) ∧ w'.cell? ⟨gb153, 5, none⟩ = some (.string a0_5) ∧ w'.cell? ⟨gb153, 6, none⟩ = some (.slice A0_6 l0_6.length c0_6) ∧ w'.cell? ⟨gb153, 7, none⟩ = some (.slice A0_7 l0_7.length c0_7) ∧ w'.cell? ⟨gb153, 8, none⟩ = some (.string a0_8) ∧ w'.cell? ⟨gb153, 9, none⟩ = some (.slice A0_9 l0_9.length c0_9) ∧ w'.cell? ⟨gb153, 10, none⟩ = some (.int .i64 a0_10) ∧ w'.cell? ⟨gb153, 11, none⟩ = some (.int .i64 a0_11)) (ds := []) (Ra_ [0, 11]) (by kernel_rfl) rfl rfl ⟨(blk_cell BK153.out 0).trans rfl, (blk_cell BK153.out 1).trans rfl, (blk_cell BK153.out 2).trans rfl, (blk_cell BK153.out 3).trans rfl, (blk_cell BK153.out 4).trans rfl, (blk_cell BK153.out 5).trans rfl, (blk_cell BK153.out 6).trans rfl, (blk_cell BK153.out 7).trans rfl, (blk_cell BK153.out 8).trans rfl, (blk_cell BK153.out 9).trans rfl, (blk_cell BK153.out 10).trans rfl, (blk_cell BK153.out 11).trans rfl⟩ (fun hHeld => ?_); refine with_tabW frame_Reply.tab4 frame_Reply.bits4 (fun HT_ HW_ => ?_)
  generalize w19.drew = w20 at HO157 HO160 HO163 BK153 HB hHeld ⊢
  refine pure_ (i := 0) (N := some 23) (v := ?_) (a' := ?_) (Ra_ [1, 10]) rfl rfl (any_of HT_.out (by kernel_rfl)) (fun _ _ _ h => h) (Or.inl ⟨by rfl, ?_⟩) ?_ ?_
  rotate_left
  ·intro w'
   go_simp
   with_reducible rfl
  rotate_left
  ·simp only [Act.put, sA_, sB_, sC_, i64_w, i32_w]
   rfl
  refine pure_ (i := 1) (N := some 24) (v := ?_) (a' := ?_) (Ra_ [2, 9]) rfl rfl (any_of HT_.out (by kernel_rfl)) (fun _ _ _ h => h) (Or.inl ⟨by rfl, ?_⟩) ?_ ?_
  rotate_left
  ·intro w'
   go_simp
   with_reducible rfl
  rotate_left
  ·simp only [Act.put, sA_, sB_, sC_, i64_w, i32_w]
   rfl
  refine pure_ (i := 4) (N := some 27) (v := ?_) (a' := ?_) (Ra_ [2, 2, 1, 6]) rfl rfl (any_of HT_.out (by kernel_rfl)) (fun _ _ _ h => h) (Or.inl ⟨by rfl, ?_⟩) ?_ ?_
  rotate_left
  ·intro w'
   go_simp
   with_reducible rfl
  rotate_left
  ·simp only [Act.put, sA_, sB_, sC_, i64_w, i32_w]
   rfl
  refine pure_ (i := 7) (N := some 30) (v := ?_) (a' := ?_) (Ra_ [2, 2, 1, 2, 1, 3]) rfl rfl (any_of HT_.out (by kernel_rfl)) (fun _ _ _ h => h) (Or.inl ⟨by rfl, ?_⟩) ?_ ?_
  rotate_left
  ·intro w'
   go_simp
   with_reducible rfl
  rotate_left
  ·simp only [Act.put, sA_, sB_, sC_, i64_w, i32_w]
   rfl
  refine take_ (i := 2) (N := some 25) (v := ?_) (a' := ?_) (Ra_ [3, 1, 1, 2, 1, 3]) rfl rfl (take_ofW HT_.out HW_.out (by kernel_rfl)) (fun _ _ _ h => h) (Or.inl ⟨by rfl, ?_⟩) hHeld ?_ ?_
  rotate_left
  ·rintro w' ⟨s0, s1, s2, s3, s4, s5, s6, s7, s8, s9, s10, s11⟩
   go_simp
   with_reducible rfl
  rotate_left
  ·simp only [Act.put, sA_, sB_, sC_, i64_w, i32_w]
   rfl
  refine take_ (i := 5) (N := some 28) (v := ?_) (a' := ?_) (Ra_ [3, 1, 2, 1, 1, 3]) rfl rfl (take_ofW HT_.out HW_.out (by kernel_rfl)) (fun _ _ _ h => h) (Or.inl ⟨by rfl, ?_⟩) hHeld ?_ ?_
  rotate_left
  ·rintro w' ⟨s0, s1, s2, s3, s4, s5, s6, s7, s8, s9, s10, s11⟩
   go_simp
   with_reducible rfl
  rotate_left
  ·simp only [Act.put, sA_, sB_, sC_, i64_w, i32_w]
   rfl
  refine take_ (i := 8) (N := some 31) (v := ?_) (a' := ?_) (Ra_ [3, 1, 2, 1, 2, 2]) rfl rfl (take_ofW HT_.out HW_.out (by kernel_rfl)) (fun _ _ _ h => h) (Or.inl ⟨by rfl, ?_⟩) hHeld ?_ ?_
  rotate_left
  ·rintro w' ⟨s0, s1, s2, s3, s4, s5, s6, s7, s8, s9, s10, s11⟩
   go_simp
   with_reducible rfl
  rotate_left
  ·simp only [Act.put, sA_, sB_, sC_, i64_w, i32_w]
   rfl
  refine one_ (i := 3) (N := some 26) (Ra_ [6, 1, 2, 2]) rfl rfl (one_of HT_.out (by kernel_rfl)) (by decide) (fun K hK => ?_)
  refine goes_ Tryd.func32 (by kernel_rfl) rfl #[.slice Ao21 t161.length co21, .slice A0_3 l0_3.length c0_3] (by rfl) rfl rfl m3_ ?_
  with_reducible refine (num_PutList.calls k _ _ t161 _ _ l0_3 t164 _ ?side1 ?side2 ?side3 ?side4 A5.out).mono ?_
  (case side1 => repeat (first | exact (Kd.V_reads' HO163.out).2.2 | (with_reducible refine Kd.C_alloc ?_ _) | (with_reducible refine Kd.C_drewN ?_ _) | (with_reducible refine Kd.C_drew ?_)))
  (case side2 => exact (Kd.V_reads' HO163.out).2.1)
  (case side3 => repeat (first | exact (Kd.C_below HR0_3.out HB.out) | (with_reducible refine Kd.C_alloc ?_ _) | (with_reducible refine Kd.C_drewN ?_ _) | (with_reducible refine Kd.C_drew ?_)))
  (case side4 => exact HC0_3.out)
  rintro e w22 ⟨v165, rfl, ho0, hb⟩
  refine ⟨_, rfl, ?_⟩
  have n0_ := Aside0.mk (Kd.R_elder' m7_ (Kd.R_base ho0) hb)
  have n1_ := Aside0.mk (Kd.R_below m8_ hb)
  have n2_ := Aside0.mk (Kd.V_elder' (by (with_reducible repeat (first | apply Kd.V_alloc | apply Kd.V_drewN | apply Kd.V_drew)); exact HO163.out) (Kd.R_base ho0) hb)
  have n3_ := Aside0.mk (Kd.R_lower (Kd.R_new' (Kd.R_newM (M := fun k_ => (w.heap.size ≤ k_)) ho0 (below_size m0_) (fun k_ h_ => h_)) (Kd.R_lt m7_)) (below_size m0_))
  have n4_ := Aside0.mk (blk_below (g := gb153) (o := .cells #[.int .i64 a0_0, .int .i64 a0_1, .int .i64 a0_2, .slice A0_3 l0_3.length c0_3, .string a0_4, .string a0_5, .slice A0_6 l0_6.length c0_6, .slice A0_7 l0_7.length c0_7, .string a0_8, .slice A0_9 l0_9.length c0_9, .int .i64 a0_10, .int .i64 a0_11] 34 (0, 0)) m5_ hb)
  have n5_ := Aside0.mk (below_step m0_ hb)
  clear HO157 HO160 HO163 BK153 HB
  have HO157 := n0_
  have HO160 := n1_
  have HO163 := n2_
  have HO166 := n3_
  have BK153 := n4_
  have HB := n5_
  clear n0_ n1_ n2_ n3_ n4_ n5_
  (try clear hb)
  (try clear hb2)
  (try clear hk)
  (try clear hi)
  (try clear ho0)
  obtain ⟨Ao23, co23, eo23⟩ := Kd.R_slice HO166.out
  (first | subst eo23 | (injection eo23 with f1_ f2_ f3_; have f4_ := f1_.symm; have f5_ := f3_.symm; clear f1_ f2_ f3_; subst f4_; subst f5_))
  refine hK.out _ _ ⟨(blk_cell BK153.out 0).trans rfl, (blk_cell BK153.out 1).trans rfl, (blk_cell BK153.out 2).trans rfl, (blk_cell BK153.out 3).trans rfl, (blk_cell BK153.out 4).trans rfl, (blk_cell BK153.out 5).trans rfl, (blk_cell BK153.out 6).trans rfl, (blk_cell BK153.out 7).trans rfl, (blk_cell BK153.out 8).trans rfl, (blk_cell BK153.out 9).trans rfl, (blk_cell BK153.out 10).trans rfl, (blk_cell BK153.out 11).trans rfl⟩ (fun hHeld => ?_)
  clear hK K
  refine norm_ (a' := ?_) ?_ ?_
  rotate_left
  ·show Act.put _ (some 26) _ = _
   simp only [Act.put, sA_, sB_, sC_, i64_w, i32_w]
   rfl
  refine one_ (i := 6) (N := some 29) (Ra_ [9, 2]) rfl rfl (one_of HT_.out (by kernel_rfl)) (by decide) (fun K hK => ?_)
  refine goes_ Tryd.func31 (by kernel_rfl) rfl #[.slice Ao23 t164.length co23, .string a0_4] (by rfl) rfl rfl m3_ ?_
  with_reducible refine (num_PutText.calls k _ _ t164 a0_4 t167 _ ?side1 ?side2 A6.out).mono ?_
  (case side1 => repeat (first | exact (Kd.R_reads' HO166.out).2.2 | (with_reducible refine Kd.C_alloc ?_ _) | (with_reducible refine Kd.C_drewN ?_ _) | (with_reducible refine Kd.C_drew ?_)))
  (case side2 => exact (Kd.R_reads' HO166.out).2.1)
  rintro e w24 ⟨v168, rfl, ho0, hb⟩
  refine ⟨_, rfl, ?_⟩
  have n0_ := Aside0.mk (Kd.R_elder' m7_ (Kd.R_base ho0) hb)
  have n1_ := Aside0.mk (Kd.R_below m8_ hb)
  have n2_ := Aside0.mk (Kd.V_elder' (by (with_reducible repeat (first | apply Kd.V_alloc | apply Kd.V_drewN | apply Kd.V_drew)); exact HO163.out) (Kd.R_base ho0) hb)
  have n3_ := Aside0.mk (Kd.R_elder' m9_ (Kd.R_base ho0) hb)
  have n4_ := Aside0.mk (Kd.R_lower (Kd.R_new' (Kd.R_new' (Kd.R_newM (M := fun k_ => (w.heap.size ≤ k_)) ho0 (below_size m0_) (fun k_ h_ => h_)) (Kd.R_lt m7_)) (Kd.R_lt m9_)) (below_size m0_))
  have n5_ := Aside0.mk (blk_below (g := gb153) (o := .cells #[.int .i64 a0_0, .int .i64 a0_1, .int .i64 a0_2, .slice A0_3 l0_3.length c0_3, .string a0_4, .string a0_5, .slice A0_6 l0_6.length c0_6, .slice A0_7 l0_7.length c0_7, .string a0_8, .slice A0_9 l0_9.length c0_9, .int .i64 a0_10, .int .i64 a0_11] 34 (0, 0)) m5_ hb)
  have n6_ := Aside0.mk (below_step m0_ hb)
  clear HO157 HO160 HO163 HO166 BK153 HB
  have HO157 := n0_
  have HO160 := n1_
  have HO163 := n2_
  have HO166 := n3_
  have HO169 := n4_
  have BK153 := n5_
  have HB := n6_
  clear n0_ n1_ n2_ n3_ n4_ n5_ n6_
  (try clear hb)
  (try clear hb2)
  (try clear hk)
  (try clear hi)
  (try clear ho0)
  obtain ⟨Ao25, co25, eo25⟩ := Kd.R_slice HO169.out
  (first | subst eo25 | (injection eo25 with f1_ f2_ f3_; have f4_ := f1_.symm; have f5_ := f3_.symm; clear f1_ f2_ f3_; subst f4_; subst f5_))
  refine hK.out _ _ ⟨(blk_cell BK153.out 0).trans rfl, (blk_cell BK153.out 1).trans rfl, (blk_cell BK153.out 2).trans rfl, (blk_cell BK153.out 3).trans rfl, (blk_cell BK153.out 4).trans rfl, (blk_cell BK153.out 5).trans rfl, (blk_cell BK153.out 6).trans rfl, (blk_cell BK153.out 7).trans rfl, (blk_cell BK153.out 8).trans rfl, (blk_cell BK153.out 9).trans rfl, (blk_cell BK153.out 10).trans rfl, (blk_cell BK153.out 11).trans rfl⟩ (fun hHeld => ?_)
  clear hK K
  refine norm_ (a' := ?_) ?_ ?_
  rotate_left
  ·show Act.put _ (some 29) _ = _
   simp only [Act.put, sA_, sB_, sC_, i64_w, i32_w]
   rfl
  refine one_ (i := 9) (N := some 32) (Ra_ [10, 1]) rfl rfl (one_of HT_.out (by kernel_rfl)) (by decide) (fun K hK => ?_)
  refine goes_ Tryd.func31 (by kernel_rfl) rfl #[.slice Ao25 t167.length co25, .string a0_5] (by rfl) rfl rfl m3_ ?_
  with_reducible refine (num_PutText.calls k _ _ t167 a0_5 t170 _ ?side1 ?side2 A7.out).mono ?_
  (case side1 => repeat (first | exact (Kd.R_reads' HO169.out).2.2 | (with_reducible refine Kd.C_alloc ?_ _) | (with_reducible refine Kd.C_drewN ?_ _) | (with_reducible refine Kd.C_drew ?_)))
  (case side2 => exact (Kd.R_reads' HO169.out).2.1)
  rintro e w26 ⟨v171, rfl, ho0, hb⟩
  refine ⟨_, rfl, ?_⟩
  have n0_ := Aside0.mk (Kd.R_elder' m7_ (Kd.R_base ho0) hb)
  have n1_ := Aside0.mk (Kd.R_below m8_ hb)
  have n2_ := Aside0.mk (Kd.V_elder' (by (with_reducible repeat (first | apply Kd.V_alloc | apply Kd.V_drewN | apply Kd.V_drew)); exact HO163.out) (Kd.R_base ho0) hb)
  have n3_ := Aside0.mk (Kd.R_elder' m9_ (Kd.R_base ho0) hb)
  have n4_ := Aside0.mk (Kd.R_elder' (by (with_reducible repeat (first | apply Kd.R_alloc | apply Kd.R_drewN | apply Kd.R_drew)); exact HO169.out) (Kd.R_base ho0) hb)
  have n5_ := Aside0.mk (Kd.R_lower (Kd.R_new' (Kd.R_new' (Kd.R_new' (Kd.R_newM (M := fun k_ => (w.heap.size ≤ k_)) ho0 (below_size m0_) (fun k_ h_ => h_)) (Kd.R_lt m7_)) (Kd.R_lt m9_)) (Kd.R_lt (by (with_reducible repeat (first | apply Kd.R_alloc | apply Kd.R_drewN | apply Kd.R_drew)); exact HO169.out))) (below_size m0_))
  have n6_ := Aside0.mk (blk_below (g := gb153) (o := .cells #[.int .i64 a0_0, .int .i64 a0_1, .int .i64 a0_2, .slice A0_3 l0_3.length c0_3, .string a0_4, .string a0_5, .slice A0_6 l0_6.length c0_6, .slice A0_7 l0_7.length c0_7, .string a0_8, .slice A0_9 l0_9.length c0_9, .int .i64 a0_10, .int .i64 a0_11] 34 (0, 0)) m5_ hb)
  have n7_ := Aside0.mk (below_step m0_ hb)
  clear HO157 HO160 HO163 HO166 HO169 BK153 HB
  have HO157 := n0_
  have HO160 := n1_
  have HO163 := n2_
  have HO166 := n3_
  have HO169 := n4_
  have HO172 := n5_
  have BK153 := n6_
  have HB := n7_
  clear n0_ n1_ n2_ n3_ n4_ n5_ n6_ n7_
  (try clear hb)
  (try clear hb2)
  (try clear hk)
  (try clear hi)
  (try clear ho0)
  refine hK.out _ _ ⟨(blk_cell BK153.out 0).trans rfl, (blk_cell BK153.out 1).trans rfl, (blk_cell BK153.out 2).trans rfl, (blk_cell BK153.out 3).trans rfl, (blk_cell BK153.out 4).trans rfl, (blk_cell BK153.out 5).trans rfl, (blk_cell BK153.out 6).trans rfl, (blk_cell BK153.out 7).trans rfl, (blk_cell BK153.out 8).trans rfl, (blk_cell BK153.out 9).trans rfl, (blk_cell BK153.out 10).trans rfl, (blk_cell BK153.out 11).trans rfl⟩ (fun hHeld => ?_)
  clear hK K
  refine norm_ (a' := ?_) ?_ ?_
  rotate_left
  ·show Act.put _ (some 32) _ = _
   simp only [Act.put, sA_, sB_, sC_, i64_w, i32_w]
   rfl
  refine pure_ (i := 10) (N := some 4) (v := ?_) (a' := ?_) (Ra_ [11]) rfl rfl (any_of HT_.out (by kernel_rfl)) (fun _ _ _ h => h) (Or.inl ⟨by rfl, ?_⟩) ?_ ?_
  rotate_left
  ·intro w'
   go_simp
   with_reducible rfl
  rotate_left
  ·simp only [Act.put, sA_, sB_, sC_, i64_w, i32_w]
   rfl
  refine done_ (done_of HT_.out (by kernel_rfl)) ?_
  obtain ⟨hcz27_0, hcz27_1, hcz27_2, hcz27_3, hcz27_4, hcz27_5, hcz27_6, hcz27_7, hcz27_8, hcz27_9, hcz27_10, hcz27_11⟩ := bc12_ BK153.out
  obtain ⟨hfz27_0, hfz27_1, hfz27_2, hfz27_3, hfz27_4, hfz27_5, hfz27_6, hfz27_7, hfz27_8, hfz27_9, hfz27_10, hfz27_11⟩ := bf12_ BK153.out
  try go_wp2_with (first | ((with_reducible refine gate_dst (N := 37) rfl ?_); refine Kd.R_lit (Kd.int .i64) _ 3 ?hg (N := 37) ?hd (xs := ([(l0_6.length : Int)] : List Int)) (inner := [.int .i64 (l0_6.length : Int)]) (ok := fun _ => True) (okp := fun _ => True) ?hr ?hp (fun _ hk => hk) trivial (Below.refl _ _) (Nat.le_refl _) (by simp) ?_; (case hd => rfl); (case hg => rfl); (case hr => first | (go_simp; done) | (go_simp; rfl)); (case hp => exact (Reps.one (show Kd.M (Kd.int .i64) _ _ _ (l0_6.length : Int) [.int .i64 (l0_6.length : Int)] from rfl) (Reps.none _ _))); intro v174 w28 ho29 hb hg_ hnew_; clear hg_ hnew_; (first | rw [← Ny173.out] at ho29 | (simp only [Int.reduceToNat] at ho29; rw [← Ny173.out] at ho29)); have n0_ := Aside0.mk (Kd.R_below m7_ hb); have n1_ := Aside0.mk (Kd.R_elder' m8_ (Kd.R_base ho29) hb); have n2_ := Aside0.mk (Kd.V_elder' (by (with_reducible repeat (first | apply Kd.V_alloc | apply Kd.V_drewN | apply Kd.V_drew)); exact HO163.out) (Kd.R_base ho29) hb); have n3_ := Aside0.mk (Kd.R_below m9_ hb); have n4_ := Aside0.mk (Kd.R_below (by (with_reducible repeat (first | apply Kd.R_alloc | apply Kd.R_drewN | apply Kd.R_drew)); exact HO169.out) hb); have n5_ := Aside0.mk (Kd.R_below (by (with_reducible repeat (first | apply Kd.R_alloc | apply Kd.R_drewN | apply Kd.R_drew)); exact HO172.out) hb); have n6_ := Aside0.mk (Kd.R_lower (Kd.R_new' (Kd.R_newM (M := fun k_ => (w.heap.size ≤ k_)) ho29 (below_size m0_) (fun k_ h_ => h_)) (Kd.R_lt m8_)) (below_size m0_)); have n7_ := Aside0.mk (blk_below (g := gb153) (o := .cells #[.int .i64 a0_0, .int .i64 a0_1, .int .i64 a0_2, .slice A0_3 l0_3.length c0_3, .string a0_4, .string a0_5, .slice A0_6 l0_6.length c0_6, .slice A0_7 l0_7.length c0_7, .string a0_8, .slice A0_9 l0_9.length c0_9, .int .i64 a0_10, .int .i64 a0_11] 34 (0, 0)) m5_ hb); have n8_ := Aside0.mk (below_step m0_ hb); clear HO157; clear HO160; clear HO163; clear HO166; clear HO169; clear HO172; clear BK153; clear HB; have HO157 := n0_; have HO160 := n1_; have HO163 := n2_; have HO166 := n3_; have HO169 := n4_; have HO172 := n5_; have HO175 := n6_; have BK153 := n7_; have HB := n8_; clear n0_ n1_ n2_ n3_ n4_ n5_ n6_ n7_ n8_; clear hb ho29; obtain ⟨Ao30, co30, eo30⟩ := Kd.R_slice HO172.out; subst eo30; obtain ⟨Ao31, co31, eo31⟩ := Kd.R_slice HO175.out; subst eo31) | ((with_reducible refine gate_callee (f := 30) rfl ?_); refine goesL_ (some 38) rfl rfl Tryd.func30 (by kernel_rfl) rfl #[.slice Ao30 t170.length co30, .slice Ao31 y173.length co31] rfl m3_ ?_; (with_reducible refine (frame_put.calls k (fun k_ => some k_ = (.slice Ao30 t170.length co30 : Value).ownBlock) _ _ t170 _ _ y173 t176 _ ?side1 ?side2 ?side3 A8.out).mono ?_); (case side1 => exact Kd.R_V (Kd.R_tight rfl (Kd.R_types (Kd.R_apart' (Kd.R_apart' (HO172.out) (Kd.R_typed HO160.out) (by decide)) (Kd.R_typed HO175.out) (by decide)) BK153.out (by decide)))); (case side2 => repeat (first | exact (Kd.R_reads' HO175.out).2.2 | (with_reducible refine Kd.C_alloc ?_ _) | (with_reducible refine Kd.C_drewN ?_ _) | (with_reducible refine Kd.C_drew ?_))); (case side3 => exact (Kd.R_reads' HO175.out).2.1); rintro e w32 ⟨v177, rfl, ho0, hb⟩; refine ⟨_, rfl, ?_⟩; have n0_ := Aside0.mk (Kd.R_below m7_ hb); have n1_ := Aside0.mk (Kd.R_below m8_ hb); have n2_ := Aside0.mk (Kd.V_below (by (with_reducible repeat (first | apply Kd.V_alloc | apply Kd.V_drewN | apply Kd.V_drew)); exact HO163.out) hb); have n3_ := Aside0.mk (Kd.R_below m9_ hb); have n4_ := Aside0.mk (Kd.R_below (by (with_reducible repeat (first | apply Kd.R_alloc | apply Kd.R_drewN | apply Kd.R_drew)); exact HO169.out) hb); have n5_ := Aside0.mk (Kd.R_below (by (with_reducible repeat (first | apply Kd.R_alloc | apply Kd.R_drewN | apply Kd.R_drew)); exact HO172.out) hb); have n6_ := Aside0.mk (Kd.R_below (by (with_reducible repeat (first | apply Kd.R_alloc | apply Kd.R_drewN | apply Kd.R_drew)); exact HO175.out) hb); have n7_ := Aside0.mk (Kd.V_lower (Kd.V_mono (ok' := fun k_ => (w.heap.size ≤ k_) ∧ some k_ ≠ (.slice Ao17 y155.length co17 : Value).ownBlock ∧ some k_ ≠ (.slice Ao18 y158.length co18 : Value).ownBlock ∧ some k_ ≠ (.slice Ao23 t164.length co23 : Value).ownBlock ∧ some k_ ≠ (.slice Ao25 t167.length co25 : Value).ownBlock ∧ some k_ ≠ (.slice Ao31 y173.length co31 : Value).ownBlock ∧ k_ ≠ gb153) ho0 (fun k_ hk_ => ⟨Or.elim hk_ (fun hs_ => ((Kd.R_types (Kd.R_apart' (Kd.R_apart' (HO172.out) (Kd.R_typed HO160.out) (by decide)) (Kd.R_typed HO175.out) (by decide)) BK153.out (by decide)).1 k_ hs_.symm).1.1.1.1.1.1.1) (fun hn_ => (Nat.le_trans (below_size m0_) hn_)), Or.elim hk_ (fun hs_ => ((Kd.R_types (Kd.R_apart' (Kd.R_apart' (HO172.out) (Kd.R_typed HO160.out) (by decide)) (Kd.R_typed HO175.out) (by decide)) BK153.out (by decide)).1 k_ hs_.symm).1.1.1.1.1.2) (fun hn_ => (Kd.fresh' (Kd.R_lt m7_) k_ hn_)), Or.elim hk_ (fun hs_ => ((Kd.R_types (Kd.R_apart' (Kd.R_apart' (HO172.out) (Kd.R_typed HO160.out) (by decide)) (Kd.R_typed HO175.out) (by decide)) BK153.out (by decide)).1 k_ hs_.symm).1.1.2) (fun hn_ => (Kd.fresh' (Kd.R_lt m8_) k_ hn_)), Or.elim hk_ (fun hs_ => ((Kd.R_types (Kd.R_apart' (Kd.R_apart' (HO172.out) (Kd.R_typed HO160.out) (by decide)) (Kd.R_typed HO175.out) (by decide)) BK153.out (by decide)).1 k_ hs_.symm).1.1.1.1.2) (fun hn_ => (Kd.fresh' (Kd.R_lt m9_) k_ hn_)), Or.elim hk_ (fun hs_ => ((Kd.R_types (Kd.R_apart' (Kd.R_apart' (HO172.out) (Kd.R_typed HO160.out) (by decide)) (Kd.R_typed HO175.out) (by decide)) BK153.out (by decide)).1 k_ hs_.symm).1.1.1.2) (fun hn_ => (Kd.fresh' (Kd.R_lt (by (with_reducible repeat (first | apply Kd.R_alloc | apply Kd.R_drewN | apply Kd.R_drew)); exact HO169.out)) k_ hn_)), Or.elim hk_ (fun hs_ => ((Kd.R_types (Kd.R_apart' (Kd.R_apart' (HO172.out) (Kd.R_typed HO160.out) (by decide)) (Kd.R_typed HO175.out) (by decide)) BK153.out (by decide)).1 k_ hs_.symm).1.2) (fun hn_ => (Kd.fresh' (Kd.R_lt (by (with_reducible repeat (first | apply Kd.R_alloc | apply Kd.R_drewN | apply Kd.R_drew)); exact HO175.out)) k_ hn_)), Or.elim hk_ (fun hs_ => ((Kd.R_types (Kd.R_apart' (Kd.R_apart' (HO172.out) (Kd.R_typed HO160.out) (by decide)) (Kd.R_typed HO175.out) (by decide)) BK153.out (by decide)).1 k_ hs_.symm).2) (fun hn_ => (Kd.freshB (g := gb153) (o := .cells #[.int .i64 a0_0, .int .i64 a0_1, .int .i64 a0_2, .slice A0_3 l0_3.length c0_3, .string a0_4, .string a0_5, .slice A0_6 l0_6.length c0_6, .slice A0_7 l0_7.length c0_7, .string a0_8, .slice A0_9 l0_9.length c0_9, .int .i64 a0_10, .int .i64 a0_11] 34 (0, 0)) m5_ k_ hn_))⟩)) (below_size m0_)); have n8_ := Aside0.mk (blk_below (g := gb153) (o := .cells #[.int .i64 a0_0, .int .i64 a0_1, .int .i64 a0_2, .slice A0_3 l0_3.length c0_3, .string a0_4, .string a0_5, .slice A0_6 l0_6.length c0_6, .slice A0_7 l0_7.length c0_7, .string a0_8, .slice A0_9 l0_9.length c0_9, .int .i64 a0_10, .int .i64 a0_11] 34 (0, 0)) m5_ hb); have n9_ := Aside0.mk (below_step m0_ hb); clear HO157; clear HO160; clear HO163; clear HO166; clear HO169; clear HO172; clear HO175; clear BK153; clear HB; have HO157 := n0_; have HO160 := n1_; have HO163 := n2_; have HO166 := n3_; have HO169 := n4_; have HO172 := n5_; have HO175 := n6_; have HO178 := n7_; have BK153 := n8_; have HB := n9_; clear n0_ n1_ n2_ n3_ n4_ n5_ n6_ n7_ n8_ n9_; (try clear hb); (try clear hb2); (try clear hk); (try clear hi); (try clear ho0); obtain ⟨hcz33_0, hcz33_1, hcz33_2, hcz33_3, hcz33_4, hcz33_5, hcz33_6, hcz33_7, hcz33_8, hcz33_9, hcz33_10, hcz33_11⟩ := bc12_ BK153.out; obtain ⟨hfz33_0, hfz33_1, hfz33_2, hfz33_3, hfz33_4, hfz33_5, hfz33_6, hfz33_7, hfz33_8, hfz33_9, hfz33_10, hfz33_11⟩ := bf12_ BK153.out))
  go_loopg [4, 42] k (fun kq v4 v42 w' => ∃ (x4_1 : List Int) (x42_1 : Int), v42 = .int .i64 x42_1 ∧ Aside0 (frame_Reply.l0 kq x4_1 (l0_6.length : Int) x42_1 a0_0 a0_1 a0_2 l0_3 a0_4 a0_5 l0_6 l0_7 a0_8 l0_9 a0_10 a0_11 = some (r1, r2)) ∧ Aside0 (kq ≤ k) ∧ Aside0 (Kd.V (Kd.int .u8) 5 w' w.heap.size (fun k_ => (w.heap.size ≤ k_) ∧ k_ ≠ gb153) v4 x4_1) ∧ Aside0 (w'.heap[gb153]? = some (.cells #[.int .i64 a0_0, .int .i64 a0_1, .int .i64 a0_2, (.slice A0_3 l0_3.length c0_3), .string a0_4, .string a0_5, (.slice A0_6 l0_6.length c0_6), (.slice A0_7 l0_7.length c0_7), .string a0_8, (.slice A0_9 l0_9.length c0_9), .int .i64 a0_10, .int .i64 a0_11] 34 (0, 0))) ∧ Aside0 (Below w.heap.size w w'))
  case atStart => exact ⟨(t176), (0), m11_, H', ⟨Nat.le_refl _⟩, ⟨by (with_reducible repeat (first | apply Kd.V_alloc | apply Kd.V_drewN | apply Kd.V_drew)); exact Kd.V_mono HO178.out (fun _ hk => ⟨hk.1, hk.2.2.2.2.2.2⟩)⟩, ⟨by (with_reducible repeat (first | refine blk_drewN ?_ _ | refine blk_drew ?_ | refine blk_alloc ?_ _)); exact BK153.out⟩, ⟨m15_⟩⟩
  clear H'
  try clear c1; try clear p2; try clear c3; try clear c13; try clear c15; try clear c30; try clear c31; try clear c32; try clear hcz10_0; try clear hcz10_1; try clear hcz10_10; try clear hcz10_11; try clear hcz10_2; try clear hcz10_3; try clear hcz10_4; try clear hcz10_5; try clear hcz10_6; try clear hcz10_7; try clear hcz10_8; try clear hcz10_9; try clear hcz14_0; try clear hcz14_1; try clear hcz14_10; try clear hcz14_11; try clear hcz14_2; try clear hcz14_3; try clear hcz14_4; try clear hcz14_5; try clear hcz14_6; try clear hcz14_7; try clear hcz14_8; try clear hcz14_9; try clear hcz27_0; try clear hcz27_1; try clear hcz27_10; try clear hcz27_11; try clear hcz27_2; try clear hcz27_3; try clear hcz27_4; try clear hcz27_5; try clear hcz27_6; try clear hcz27_7; try clear hcz27_8; try clear hcz27_9; try clear hcz33_0; try clear hcz33_1; try clear hcz33_10; try clear hcz33_11; try clear hcz33_2; try clear hcz33_3; try clear hcz33_4; try clear hcz33_5; try clear hcz33_6; try clear hcz33_7; try clear hcz33_8; try clear hcz33_9; try clear hfz10_0; try clear hfz10_1; try clear hfz10_10; try clear hfz10_11; try clear hfz10_2; try clear hfz10_3; try clear hfz10_4; try clear hfz10_5; try clear hfz10_6; try clear hfz10_7; try clear hfz10_8; try clear hfz10_9; try clear hfz14_0; try clear hfz14_1; try clear hfz14_10; try clear hfz14_11; try clear hfz14_2; try clear hfz14_3; try clear hfz14_4; try clear hfz14_5; try clear hfz14_6; try clear hfz14_7; try clear hfz14_8; try clear hfz14_9; try clear hfz27_0; try clear hfz27_1; try clear hfz27_10; try clear hfz27_11; try clear hfz27_2; try clear hfz27_3; try clear hfz27_4; try clear hfz27_5; try clear hfz27_6; try clear hfz27_7; try clear hfz27_8; try clear hfz27_9; try clear hfz33_0; try clear hfz33_1; try clear hfz33_10; try clear hfz33_11; try clear hfz33_2; try clear hfz33_3; try clear hfz33_4; try clear hfz33_5; try clear hfz33_6; try clear hfz33_7; try clear hfz33_8; try clear hfz33_9
  obtain ⟨x4_1, x42_1, rfl, HA, HK1, HO_4, BK153, HB⟩ := hrel
  cases gk with
  | zero => exact absurd HA.out (by simp [frame_Reply.l0])
  | succ k1 =>
   have H := HA.out
   clear HA
   simp only [frame_Reply.l0] at H
   by_cases c34 : x42_1 < (l0_6.length : Int)
   ·rw [if_pos c34] at H
    exact absurd H (by simp)
   rw [if_neg c34] at H
   have c34b0 : decide (x42_1 < (l0_6.length : Int)) = false := decide_eq_false c34
   clear c34
   obtain ⟨y179, hy179⟩ : ∃ y_ : List Int, y_ = (([(l0_7.length : Int)] : List Int)) := ⟨_, rfl⟩
   replace H : ((frame_put.f k1 x4_1 y179).bind fun t182 => (frame_Reply.l1 k1 t182 (l0_7.length : Int) 0 a0_0 a0_1 a0_2 l0_3 a0_4 a0_5 l0_6 l0_7 a0_8 l0_9 a0_10 a0_11)) = some (r1, r2) := by first | (rw [hy179]; with_reducible exact H) | (have H2_ := (Option.bind_some _ _).symm.trans H; rw [hy179]; with_reducible exact H2_) | (have H2_ := (Option.bind_some _ _).symm.trans H; with_reducible exact H2_) | with_reducible exact H | (rw [hy179]; exact H) | exact H
   have Ny179 := Aside0.mk hy179
   clear hy179
   replace H := Option.bind_eq_some_iff.mp H
   obtain ⟨t182, A350, H⟩ := H
   replace H : (frame_Reply.l1 k1 t182 (l0_7.length : Int) 0 a0_0 a0_1 a0_2 l0_3 a0_4 a0_5 l0_6 l0_7 a0_8 l0_9 a0_10 a0_11) = some (r1, r2) := H
   have A35 := Aside0.mk A350
   clear A350
   have H' := Aside0.mk H
   clear H
   obtain ⟨hcz36_0, hcz36_1, hcz36_2, hcz36_3, hcz36_4, hcz36_5, hcz36_6, hcz36_7, hcz36_8, hcz36_9, hcz36_10, hcz36_11⟩ := bc12_ BK153.out
   obtain ⟨hfz36_0, hfz36_1, hfz36_2, hfz36_3, hfz36_4, hfz36_5, hfz36_6, hfz36_7, hfz36_8, hfz36_9, hfz36_10, hfz36_11⟩ := bf12_ BK153.out
   go_wp2_with (first | ((with_reducible refine gate_dst (N := 59) rfl ?_); refine Kd.R_lit (Kd.int .i64) _ 3 ?hg (N := 59) ?hd (xs := ([(l0_7.length : Int)] : List Int)) (inner := [.int .i64 (l0_7.length : Int)]) (ok := fun _ => True) (okp := fun _ => True) ?hr ?hp (fun _ hk => hk) trivial (Below.refl _ _) (Nat.le_refl _) (by simp) ?_; (case hd => rfl); (case hg => rfl); (case hr => first | (go_simp; done) | (go_simp; rfl)); (case hp => exact (Reps.one (show Kd.M (Kd.int .i64) _ _ _ (l0_7.length : Int) [.int .i64 (l0_7.length : Int)] from rfl) (Reps.none _ _))); intro v180 w37 ho38 hb hg_ hnew_; clear hg_ hnew_; (first | rw [← Ny179.out] at ho38 | (simp only [Int.reduceToNat] at ho38; rw [← Ny179.out] at ho38)); replace HO_4 := Aside0.mk (Kd.V_elder' m10_ (Kd.R_base ho38) hb); have HO181 := Aside0.mk (Kd.R_lower (Kd.R_newM (M := fun k_ => (w.heap.size ≤ k_)) ho38 (below_size m0_) (fun k_ h_ => h_)) (below_size m0_)); replace BK153 := Aside0.mk (blk_below (g := gb153) (o := .cells #[.int .i64 a0_0, .int .i64 a0_1, .int .i64 a0_2, .slice A0_3 l0_3.length c0_3, .string a0_4, .string a0_5, .slice A0_6 l0_6.length c0_6, .slice A0_7 l0_7.length c0_7, .string a0_8, .slice A0_9 l0_9.length c0_9, .int .i64 a0_10, .int .i64 a0_11] 34 (0, 0)) m5_ hb); replace HB := Aside0.mk (below_step m0_ hb); clear hb ho38; obtain ⟨Ao39, co39, eo39⟩ := Kd.V_slice HO_4.out; subst eo39; obtain ⟨Ao40, co40, eo40⟩ := Kd.R_slice HO181.out; subst eo40) | ((with_reducible refine gate_callee (f := 30) rfl ?_); refine goesL_ (some 60) rfl rfl Tryd.func30 (by kernel_rfl) rfl #[.slice Ao39 x4_1.length co39, .slice Ao40 y179.length co40] rfl m3_ ?_; (with_reducible refine (frame_put.calls k1 (fun k_ => (((w.heap.size ≤ k_) ∧ k_ ≠ gb153) ∧ some k_ ≠ (.slice Ao40 y179.length co40 : Value).ownBlock)) _ _ x4_1 _ _ y179 t182 _ ?side1 ?side2 ?side3 A35.out).mono ?_); (case side1 => exact HO_4.out); (case side2 => repeat (first | exact (Kd.R_reads' HO181.out).2.2 | (with_reducible refine Kd.C_alloc ?_ _) | (with_reducible refine Kd.C_drewN ?_ _) | (with_reducible refine Kd.C_drew ?_))); (case side3 => exact (Kd.R_reads' HO181.out).2.1); rintro e w41 ⟨v183, rfl, ho0, hb⟩; refine ⟨_, rfl, ?_⟩; have n0_ := Aside0.mk (Kd.V_below m10_ hb); have n1_ := Aside0.mk (Kd.R_below (by (with_reducible repeat (first | apply Kd.R_alloc | apply Kd.R_drewN | apply Kd.R_drew)); exact HO181.out) hb); have n2_ := Aside0.mk (Kd.V_lower (Kd.V_mono (ok' := fun k_ => (w.heap.size ≤ k_) ∧ some k_ ≠ (.slice Ao40 y179.length co40 : Value).ownBlock ∧ k_ ≠ gb153) ho0 (fun k_ hk_ => ⟨Or.elim hk_ (fun hs_ => hs_.1.1) (fun hn_ => (Nat.le_trans (below_size m0_) hn_)), Or.elim hk_ (fun hs_ => hs_.2) (fun hn_ => (Kd.fresh' (Kd.R_lt (by (with_reducible repeat (first | apply Kd.R_alloc | apply Kd.R_drewN | apply Kd.R_drew)); exact HO181.out)) k_ hn_)), Or.elim hk_ (fun hs_ => hs_.1.2) (fun hn_ => (Kd.freshB (g := gb153) (o := .cells #[.int .i64 a0_0, .int .i64 a0_1, .int .i64 a0_2, .slice A0_3 l0_3.length c0_3, .string a0_4, .string a0_5, .slice A0_6 l0_6.length c0_6, .slice A0_7 l0_7.length c0_7, .string a0_8, .slice A0_9 l0_9.length c0_9, .int .i64 a0_10, .int .i64 a0_11] 34 (0, 0)) m5_ k_ hn_))⟩)) (below_size m0_)); have n3_ := Aside0.mk (blk_below (g := gb153) (o := .cells #[.int .i64 a0_0, .int .i64 a0_1, .int .i64 a0_2, .slice A0_3 l0_3.length c0_3, .string a0_4, .string a0_5, .slice A0_6 l0_6.length c0_6, .slice A0_7 l0_7.length c0_7, .string a0_8, .slice A0_9 l0_9.length c0_9, .int .i64 a0_10, .int .i64 a0_11] 34 (0, 0)) m5_ hb); have n4_ := Aside0.mk (below_step m0_ hb); clear HO_4; clear HO181; clear BK153; clear HB; have HO_4 := n0_; have HO181 := n1_; have HO184 := n2_; have BK153 := n3_; have HB := n4_; clear n0_ n1_ n2_ n3_ n4_; (try clear hb); (try clear hb2); (try clear hk); (try clear hi); (try clear ho0); obtain ⟨hcz42_0, hcz42_1, hcz42_2, hcz42_3, hcz42_4, hcz42_5, hcz42_6, hcz42_7, hcz42_8, hcz42_9, hcz42_10, hcz42_11⟩ := bc12_ BK153.out; obtain ⟨hfz42_0, hfz42_1, hfz42_2, hfz42_3, hfz42_4, hfz42_5, hfz42_6, hfz42_7, hfz42_8, hfz42_9, hfz42_10, hfz42_11⟩ := bf12_ BK153.out))
   go_loopg [4, 64] k1 (fun kq v4 v64 w' => ∃ (x4_2 : List Int) (x64_2 : Int), v64 = .int .i64 x64_2 ∧ Aside0 (frame_Reply.l1 kq x4_2 (l0_7.length : Int) x64_2 a0_0 a0_1 a0_2 l0_3 a0_4 a0_5 l0_6 l0_7 a0_8 l0_9 a0_10 a0_11 = some (r1, r2)) ∧ Aside0 (kq ≤ k1) ∧ Aside0 (Kd.V (Kd.int .u8) 5 w' w.heap.size (fun k_ => (w.heap.size ≤ k_) ∧ k_ ≠ gb153) v4 x4_2) ∧ Aside0 (w'.heap[gb153]? = some (.cells #[.int .i64 a0_0, .int .i64 a0_1, .int .i64 a0_2, (.slice A0_3 l0_3.length c0_3), .string a0_4, .string a0_5, (.slice A0_6 l0_6.length c0_6), (.slice A0_7 l0_7.length c0_7), .string a0_8, (.slice A0_9 l0_9.length c0_9), .int .i64 a0_10, .int .i64 a0_11] 34 (0, 0))) ∧ Aside0 (Below w.heap.size w w'))
   case atStart => exact ⟨(t182), (0), m11_, H', ⟨Nat.le_refl _⟩, ⟨by (with_reducible repeat (first | apply Kd.V_alloc | apply Kd.V_drewN | apply Kd.V_drew)); exact Kd.V_mono HO184.out (fun _ hk => ⟨hk.1, hk.2.2⟩)⟩, ⟨by (with_reducible repeat (first | refine blk_drewN ?_ _ | refine blk_drew ?_ | refine blk_alloc ?_ _)); exact BK153.out⟩, ⟨m15_⟩⟩
   clear H'
   try clear c1; try clear p2; try clear c3; try clear c13; try clear c15; try clear c30; try clear c31; try clear c32; try clear c34; try clear c34b0; try clear hcz10_0; try clear hcz10_1; try clear hcz10_10; try clear hcz10_11; try clear hcz10_2; try clear hcz10_3; try clear hcz10_4; try clear hcz10_5; try clear hcz10_6; try clear hcz10_7; try clear hcz10_8; try clear hcz10_9; try clear hcz14_0; try clear hcz14_1; try clear hcz14_10; try clear hcz14_11; try clear hcz14_2; try clear hcz14_3; try clear hcz14_4; try clear hcz14_5; try clear hcz14_6; try clear hcz14_7; try clear hcz14_8; try clear hcz14_9; try clear hcz27_0; try clear hcz27_1; try clear hcz27_10; try clear hcz27_11; try clear hcz27_2; try clear hcz27_3; try clear hcz27_4; try clear hcz27_5; try clear hcz27_6; try clear hcz27_7; try clear hcz27_8; try clear hcz27_9; try clear hcz33_0; try clear hcz33_1; try clear hcz33_10; try clear hcz33_11; try clear hcz33_2; try clear hcz33_3; try clear hcz33_4; try clear hcz33_5; try clear hcz33_6; try clear hcz33_7; try clear hcz33_8; try clear hcz33_9; try clear hcz36_0; try clear hcz36_1; try clear hcz36_10; try clear hcz36_11; try clear hcz36_2; try clear hcz36_3; try clear hcz36_4; try clear hcz36_5; try clear hcz36_6; try clear hcz36_7; try clear hcz36_8; try clear hcz36_9; try clear hcz42_0; try clear hcz42_1; try clear hcz42_10; try clear hcz42_11; try clear hcz42_2; try clear hcz42_3; try clear hcz42_4; try clear hcz42_5; try clear hcz42_6; try clear hcz42_7; try clear hcz42_8; try clear hcz42_9; try clear hfz10_0; try clear hfz10_1; try clear hfz10_10; try clear hfz10_11; try clear hfz10_2; try clear hfz10_3; try clear hfz10_4; try clear hfz10_5; try clear hfz10_6; try clear hfz10_7; try clear hfz10_8; try clear hfz10_9; try clear hfz14_0; try clear hfz14_1; try clear hfz14_10; try clear hfz14_11; try clear hfz14_2; try clear hfz14_3; try clear hfz14_4; try clear hfz14_5; try clear hfz14_6; try clear hfz14_7; try clear hfz14_8; try clear hfz14_9; try clear hfz27_0; try clear hfz27_1; try clear hfz27_10; try clear hfz27_11; try clear hfz27_2; try clear hfz27_3; try clear hfz27_4; try clear hfz27_5; try clear hfz27_6; try clear hfz27_7; try clear hfz27_8; try clear hfz27_9; try clear hfz33_0; try clear hfz33_1; try clear hfz33_10; try clear hfz33_11; try clear hfz33_2; try clear hfz33_3; try clear hfz33_4; try clear hfz33_5; try clear hfz33_6; try clear hfz33_7; try clear hfz33_8; try clear hfz33_9; try clear hfz36_0; try clear hfz36_1; try clear hfz36_10; try clear hfz36_11; try clear hfz36_2; try clear hfz36_3; try clear hfz36_4; try clear hfz36_5; try clear hfz36_6; try clear hfz36_7; try clear hfz36_8; try clear hfz36_9; try clear hfz42_0; try clear hfz42_1; try clear hfz42_10; try clear hfz42_11; try clear hfz42_2; try clear hfz42_3; try clear hfz42_4; try clear hfz42_5; try clear hfz42_6; try clear hfz42_7; try clear hfz42_8; try clear hfz42_9; try clear p2
   obtain ⟨x4_2, x64_2, rfl, HA, HK2, HO_4, BK153, HB⟩ := hrel
   cases gk with
   | zero => exact absurd HA.out (by simp [frame_Reply.l1])
   | succ k2 =>
    have H := HA.out
    clear HA
    simp only [frame_Reply.l1] at H
    by_cases c43 : x64_2 < (l0_7.length : Int)
    ·rw [if_pos c43] at H
     exact absurd H (by simp)
    rw [if_neg c43] at H
    have c43b0 : decide (x64_2 < (l0_7.length : Int)) = false := decide_eq_false c43
    clear c43
    replace H := Option.bind_eq_some_iff.mp H
    obtain ⟨t185, A440, H⟩ := H
    replace H : ((frame_put.f k2 t185 (([(l0_9.length : Int)] : List Int))).bind fun t191 => (frame_Reply.l2 k2 t191 (l0_9.length : Int) 0 a0_0 a0_1 a0_2 l0_3 a0_4 a0_5 l0_6 l0_7 a0_8 l0_9 a0_10 a0_11)) = some (r1, r2) := H
    have A44 := Aside0.mk A440
    clear A440
    obtain ⟨y188, hy188⟩ : ∃ y_ : List Int, y_ = (([(l0_9.length : Int)] : List Int)) := ⟨_, rfl⟩
    replace H : ((frame_put.f k2 t185 y188).bind fun t191 => (frame_Reply.l2 k2 t191 (l0_9.length : Int) 0 a0_0 a0_1 a0_2 l0_3 a0_4 a0_5 l0_6 l0_7 a0_8 l0_9 a0_10 a0_11)) = some (r1, r2) := by first | (rw [hy188]; with_reducible exact H) | (have H2_ := (Option.bind_some _ _).symm.trans H; rw [hy188]; with_reducible exact H2_) | (have H2_ := (Option.bind_some _ _).symm.trans H; with_reducible exact H2_) | with_reducible exact H | (rw [hy188]; exact H) | exact H
    have Ny188 := Aside0.mk hy188
    clear hy188
    replace H := Option.bind_eq_some_iff.mp H
    obtain ⟨t191, A450, H⟩ := H
    replace H : (frame_Reply.l2 k2 t191 (l0_9.length : Int) 0 a0_0 a0_1 a0_2 l0_3 a0_4 a0_5 l0_6 l0_7 a0_8 l0_9 a0_10 a0_11) = some (r1, r2) := H
    have A45 := Aside0.mk A450
    clear A450
    have H' := Aside0.mk H
    clear H
    obtain ⟨Ao46, co46, eo46⟩ := Kd.V_slice HO_4.out
    subst eo46
    try go_wp2
    replace HO_4 := Aside0.mk (Kd.V_drew HO_4.out)
    replace BK153 := Aside0.mk (blk_drew BK153.out)
    replace HB := Aside0.mk (below_drew1 HB.out)
    refine start_ (n := 10) (S := fun w' => w'.cell? ⟨gb153, 0, none⟩ = some (.int .i64 a0_0) ∧ w'.cell? ⟨gb153, 1, none⟩ = some (.int .i64 a0_1) ∧ w'.cell? ⟨gb153, 2, none⟩ = some (.int .i64 a0_2) ∧ w'.cell? ⟨gb153, 3, none⟩ = some (.slice A0_3 l0_3.length c0_3) ∧ w'.cell? ⟨gb153, 4, none⟩ = some (.string a0_4) ∧ w'.cell? ⟨gb153, 5, none⟩ = some (.string a0_5) ∧ w'.cell? ⟨gb153, 6, none⟩ = some (.slice A0_6 l0_6.length c0_6) ∧ w'.cell? ⟨gb153, 7, none⟩ = some (.slice A0_7 l0_7.length c0_7) ∧ w'.cell? ⟨gb153, 8, none⟩ = some (.string a0_8) ∧ w'.cell? ⟨gb153, 9, none⟩ = some (.slice A0_9 l0_9.length c0_9) ∧ w'.cell? ⟨gb153, 10, none⟩ = some (.int .i64 a0_10) ∧ w'.cell? ⟨gb153, 11, none⟩ = some (.int .i64 a0_11)) (ds := []) (Ra_ [0, 10]) (by kernel_rfl) rfl rfl ⟨(blk_cell BK153.out 0).trans rfl, (blk_cell BK153.out 1).trans rfl, (blk_cell BK153.out 2).trans rfl, (blk_cell BK153.out 3).trans rfl, (blk_cell BK153.out 4).trans rfl, (blk_cell BK153.out 5).trans rfl, (blk_cell BK153.out 6).trans rfl, (blk_cell BK153.out 7).trans rfl, (blk_cell BK153.out 8).trans rfl, (blk_cell BK153.out 9).trans rfl, (blk_cell BK153.out 10).trans rfl, (blk_cell BK153.out 11).trans rfl⟩ (fun hHeld => ?_); refine with_tabW frame_Reply.tab17 frame_Reply.bits17 (fun HT_ HW_ => ?_)
    generalize wr.drew = w47 at HO_4 BK153 HB hHeld ⊢
    refine pure_ (i := 0) (N := some 76) (v := ?_) (a' := ?_) (Ra_ [1, 9]) rfl rfl (any_of HT_.out (by kernel_rfl)) (fun _ _ _ h => h) (Or.inl ⟨by rfl, ?_⟩) ?_ ?_
    rotate_left
    ·intro w'
     go_simp
     with_reducible rfl
    rotate_left
    ·simp only [Act.put, sA_, sB_, sC_, i64_w, i32_w]
     rfl
    refine pure_ (i := 1) (N := some 77) (v := ?_) (a' := ?_) (Ra_ [2, 8]) rfl rfl (any_of HT_.out (by kernel_rfl)) (fun _ _ _ h => h) (Or.inl ⟨by rfl, ?_⟩) ?_ ?_
    rotate_left
    ·intro w'
     go_simp
     with_reducible rfl
    rotate_left
    ·simp only [Act.put, sA_, sB_, sC_, i64_w, i32_w]
     rfl
    refine pure_ (i := 4) (N := some 80) (v := ?_) (a' := ?_) (Ra_ [2, 2, 1, 5]) rfl rfl (any_of HT_.out (by kernel_rfl)) (fun _ _ _ h => h) (Or.inl ⟨by rfl, ?_⟩) ?_ ?_
    rotate_left
    ·intro w'
     go_simp
     with_reducible rfl
    rotate_left
    ·simp only [Act.put, sA_, sB_, sC_, i64_w, i32_w]
     rfl
    refine take_ (i := 2) (N := some 78) (v := ?_) (a' := ?_) (Ra_ [3, 1, 1, 5]) rfl rfl (take_ofW HT_.out HW_.out (by kernel_rfl)) (fun _ _ _ h => h) (Or.inl ⟨by rfl, ?_⟩) hHeld ?_ ?_
    rotate_left
    ·rintro w' ⟨s0, s1, s2, s3, s4, s5, s6, s7, s8, s9, s10, s11⟩
     go_simp
     with_reducible rfl
    rotate_left
    ·simp only [Act.put, sA_, sB_, sC_, i64_w, i32_w]
     rfl
    refine take_ (i := 5) (N := some 81) (v := ?_) (a' := ?_) (Ra_ [3, 1, 2, 4]) rfl rfl (take_ofW HT_.out HW_.out (by kernel_rfl)) (fun _ _ _ h => h) (Or.inl ⟨by rfl, ?_⟩) hHeld ?_ ?_
    rotate_left
    ·rintro w' ⟨s0, s1, s2, s3, s4, s5, s6, s7, s8, s9, s10, s11⟩
     go_simp
     with_reducible rfl
    rotate_left
    ·simp only [Act.put, sA_, sB_, sC_, i64_w, i32_w]
     rfl
    refine pure_ (i := 6) (N := some 82) (v := ?_) (a' := ?_) (Ra_ [3, 1, 3, 3]) rfl rfl (any_of HT_.out (by kernel_rfl)) (fun _ _ _ h => h) (Or.inl ⟨by rfl, ?_⟩) ?_ ?_
    rotate_left
    ·intro w'
     go_simp
     with_reducible rfl
    rotate_left
    ·simp only [Act.put, sA_, sB_, sC_, i64_w, i32_w]
     rfl
    refine join_ (σ := Value × Value) 2 (Ra_ [8, 2]) (fun s_ => [(79, s_.1), (83, s_.2)]) (fun s_ w' => (w'.cell? ⟨gb153, 0, none⟩ = some (.int .i64 a0_0) ∧ w'.cell? ⟨gb153, 1, none⟩ = some (.int .i64 a0_1) ∧ w'.cell? ⟨gb153, 2, none⟩ = some (.int .i64 a0_2) ∧ w'.cell? ⟨gb153, 3, none⟩ = some (.slice A0_3 l0_3.length c0_3) ∧ w'.cell? ⟨gb153, 4, none⟩ = some (.string a0_4) ∧ w'.cell? ⟨gb153, 5, none⟩ = some (.string a0_5) ∧ w'.cell? ⟨gb153, 6, none⟩ = some (.slice A0_6 l0_6.length c0_6) ∧ w'.cell? ⟨gb153, 7, none⟩ = some (.slice A0_7 l0_7.length c0_7) ∧ w'.cell? ⟨gb153, 8, none⟩ = some (.string a0_8) ∧ w'.cell? ⟨gb153, 9, none⟩ = some (.slice A0_9 l0_9.length c0_9) ∧ w'.cell? ⟨gb153, 10, none⟩ = some (.int .i64 a0_10) ∧ w'.cell? ⟨gb153, 11, none⟩ = some (.int .i64 a0_11)) ∧ (Kd.R (Kd.int .u8) 5 w' w.heap.size (fun k_ => (w.heap.size ≤ k_)) s_.1 t185) ∧ (Kd.R (Kd.int .i64) 3 w' w.heap.size (fun k_ => (w.heap.size ≤ k_)) s_.2 y188) ∧ (Kd.V (Kd.int .u8) 5 w' w.heap.size (fun k_ => (w.heap.size ≤ k_) ∧ some k_ ≠ (s_.1 : Value).ownBlock ∧ some k_ ≠ (s_.2 : Value).ownBlock ∧ k_ ≠ gb153) (.slice Ao46 x4_2.length co46) x4_2) ∧ (w'.heap[gb153]? = some (.cells #[.int .i64 a0_0, .int .i64 a0_1, .int .i64 a0_2, .slice A0_3 l0_3.length c0_3, .string a0_4, .string a0_5, .slice A0_6 l0_6.length c0_6, .slice A0_7 l0_7.length c0_7, .string a0_8, .slice A0_9 l0_9.length c0_9, .int .i64 a0_10, .int .i64 a0_11] 34 (0, 0))) ∧ (Below w.heap.size w w')) ?_ ?_
    rotate_left
    ·intro hCont
     refine two_ (i := 3) (j := 7) (Ni := some 79) (Nj := some 83) (Ra_ [7, 3]) (Ra_ [3, 1, 4, 2]) rfl rfl rfl rfl (two_of HT_.out (by kernel_rfl)) (by decide) (by decide) (fun K hK => ?_) (fun K hK => ?_)
     ·skip
      refine goes_ Tryd.func31 (by kernel_rfl) rfl #[.slice Ao46 x4_2.length co46, .string a0_8] (by rfl) rfl rfl m3_ ?_
      with_reducible refine (num_PutText.calls k2 _ _ x4_2 a0_8 t185 _ ?side1 ?side2 A44.out).mono ?_
      (case side1 => repeat (first | exact (Kd.V_reads' HO_4.out).2.2 | (with_reducible refine Kd.C_alloc ?_ _) | (with_reducible refine Kd.C_drewN ?_ _) | (with_reducible refine Kd.C_drew ?_)))
      (case side2 => exact (Kd.V_reads' HO_4.out).2.1)
      rintro e w48 ⟨v186, rfl, ho0, hb⟩
      refine ⟨_, rfl, ?_⟩
      replace HO_4 := Aside0.mk (Kd.V_elder' m10_ (Kd.R_base ho0) hb)
      have HO187 := Aside0.mk (Kd.R_lower (Kd.R_newM (M := fun k_ => (w.heap.size ≤ k_)) ho0 (below_size m0_) (fun k_ h_ => h_)) (below_size m0_))
      replace BK153 := Aside0.mk (blk_below (g := gb153) (o := .cells #[.int .i64 a0_0, .int .i64 a0_1, .int .i64 a0_2, .slice A0_3 l0_3.length c0_3, .string a0_4, .string a0_5, .slice A0_6 l0_6.length c0_6, .slice A0_7 l0_7.length c0_7, .string a0_8, .slice A0_9 l0_9.length c0_9, .int .i64 a0_10, .int .i64 a0_11] 34 (0, 0)) m5_ hb)
      replace HB := Aside0.mk (below_step m0_ hb)
      (try clear hb)
      (try clear hb2)
      (try clear hk)
      (try clear hi)
      (try clear ho0)
      refine hK.out _ _ ⟨(blk_cell BK153.out 0).trans rfl, (blk_cell BK153.out 1).trans rfl, (blk_cell BK153.out 2).trans rfl, (blk_cell BK153.out 3).trans rfl, (blk_cell BK153.out 4).trans rfl, (blk_cell BK153.out 5).trans rfl, (blk_cell BK153.out 6).trans rfl, (blk_cell BK153.out 7).trans rfl, (blk_cell BK153.out 8).trans rfl, (blk_cell BK153.out 9).trans rfl, (blk_cell BK153.out 10).trans rfl, (blk_cell BK153.out 11).trans rfl⟩ (fun hHeld => ?_)
      clear hK K
      refine norm_ (a' := ?_) ?_ ?_
      rotate_left
      ·show Act.put _ (some 79) _ = _
       simp only [Act.put, sA_, sB_, sC_, i64_w, i32_w]
       rfl
      refine one_ (i := 7) (N := some 83) (Ra_ [8, 2]) rfl rfl (one_of HT_.out (by kernel_rfl)) (by decide) (fun K hK => ?_)
      refine Kd.R_lit_step (Kd.int .i64) _ 3 ?hg (N := 83) ?hd (xs := ([(l0_9.length : Int)] : List Int)) (inner := [.int .i64 (l0_9.length : Int)]) (ok := fun _ => True) (okp := fun _ => True) ?hr ?hp (fun _ hk => hk) trivial (Below.refl _ _) (Nat.le_refl _) (by simp) ?_; (case hd => rfl); (case hg => rfl); (case hr => first | (go_simp; done) | (go_simp; rfl)); (case hp => exact (Reps.one (show Kd.M (Kd.int .i64) _ _ _ (l0_9.length : Int) [.int .i64 (l0_9.length : Int)] from rfl) (Reps.none _ _)))
      intro v189 w49 ho50 hb hg_ hnew_
      clear hg_ hnew_
      (first | rw [← Ny188.out] at ho50 | (simp only [Int.reduceToNat] at ho50; rw [← Ny188.out] at ho50))
      have n0_ := Aside0.mk (Kd.V_elder' m10_ (Kd.R_base ho50) hb)
      have n1_ := Aside0.mk (Kd.R_below (by (with_reducible repeat (first | apply Kd.R_alloc | apply Kd.R_drewN | apply Kd.R_drew)); exact HO187.out) hb)
      have n2_ := Aside0.mk (Kd.R_lower (Kd.R_newM (M := fun k_ => (w.heap.size ≤ k_)) ho50 (below_size m0_) (fun k_ h_ => h_)) (below_size m0_))
      have n3_ := Aside0.mk (blk_below (g := gb153) (o := .cells #[.int .i64 a0_0, .int .i64 a0_1, .int .i64 a0_2, .slice A0_3 l0_3.length c0_3, .string a0_4, .string a0_5, .slice A0_6 l0_6.length c0_6, .slice A0_7 l0_7.length c0_7, .string a0_8, .slice A0_9 l0_9.length c0_9, .int .i64 a0_10, .int .i64 a0_11] 34 (0, 0)) m5_ hb)
      have n4_ := Aside0.mk (below_step m0_ hb)
      clear HO_4 HO187 BK153 HB
      have HO_4 := n0_
      have HO187 := n1_
      have HO190 := n2_
      have BK153 := n3_
      have HB := n4_
      clear n0_ n1_ n2_ n3_ n4_ hb ho50
      refine hK.out _ _ ⟨(blk_cell BK153.out 0).trans rfl, (blk_cell BK153.out 1).trans rfl, (blk_cell BK153.out 2).trans rfl, (blk_cell BK153.out 3).trans rfl, (blk_cell BK153.out 4).trans rfl, (blk_cell BK153.out 5).trans rfl, (blk_cell BK153.out 6).trans rfl, (blk_cell BK153.out 7).trans rfl, (blk_cell BK153.out 8).trans rfl, (blk_cell BK153.out 9).trans rfl, (blk_cell BK153.out 10).trans rfl, (blk_cell BK153.out 11).trans rfl⟩ (fun hHeld => ?_)
      clear hK K
      refine norm_ (a' := ?_) ?_ ?_
      rotate_left
      ·show Act.put _ (some 83) _ = _
       simp only [Act.put, sA_, sB_, sC_, i64_w, i32_w]
       rfl
      exact norm_ (by simp only [putAll, Act.put, List.setIfInBounds_toArray, List.set_cons_zero, List.set_cons_succ]) (hCont (v186, v189) _ ⟨hHeld, (by (with_reducible repeat (first | apply Kd.R_alloc | apply Kd.R_drewN | apply Kd.R_drew)); exact Kd.R_mono HO187.out (fun _ hk => hk.1)), (by (with_reducible repeat (first | apply Kd.R_alloc | apply Kd.R_drewN | apply Kd.R_drew)); exact Kd.R_mono HO190.out (fun _ hk => hk.1)), (by (with_reducible repeat (first | apply Kd.V_alloc | apply Kd.V_drewN | apply Kd.V_drew)); exact Kd.V_mono HO_4.out (fun _ hk => ⟨hk.1.1.1, ⟨hk.1.2, ⟨hk.2, hk.1.1.2⟩⟩⟩)), m5_, m0_⟩)
     skip
     refine Kd.R_lit_step (Kd.int .i64) _ 3 ?hg (N := 83) ?hd (xs := ([(l0_9.length : Int)] : List Int)) (inner := [.int .i64 (l0_9.length : Int)]) (ok := fun _ => True) (okp := fun _ => True) ?hr ?hp (fun _ hk => hk) trivial (Below.refl _ _) (Nat.le_refl _) (by simp) ?_; (case hd => rfl); (case hg => rfl); (case hr => first | (go_simp; done) | (go_simp; rfl)); (case hp => exact (Reps.one (show Kd.M (Kd.int .i64) _ _ _ (l0_9.length : Int) [.int .i64 (l0_9.length : Int)] from rfl) (Reps.none _ _)))
     intro v189 w48 ho49 hb hg_ hnew_
     clear hg_ hnew_
     (first | rw [← Ny188.out] at ho49 | (simp only [Int.reduceToNat] at ho49; rw [← Ny188.out] at ho49))
     replace HO_4 := Aside0.mk (Kd.V_elder' m10_ (Kd.R_base ho49) hb)
     have HO190 := Aside0.mk (Kd.R_lower (Kd.R_newM (M := fun k_ => (w.heap.size ≤ k_)) ho49 (below_size m0_) (fun k_ h_ => h_)) (below_size m0_))
     replace BK153 := Aside0.mk (blk_below (g := gb153) (o := .cells #[.int .i64 a0_0, .int .i64 a0_1, .int .i64 a0_2, .slice A0_3 l0_3.length c0_3, .string a0_4, .string a0_5, .slice A0_6 l0_6.length c0_6, .slice A0_7 l0_7.length c0_7, .string a0_8, .slice A0_9 l0_9.length c0_9, .int .i64 a0_10, .int .i64 a0_11] 34 (0, 0)) m5_ hb)
     replace HB := Aside0.mk (below_step m0_ hb)
     clear hb ho49
     refine hK.out _ _ ⟨(blk_cell BK153.out 0).trans rfl, (blk_cell BK153.out 1).trans rfl, (blk_cell BK153.out 2).trans rfl, (blk_cell BK153.out 3).trans rfl, (blk_cell BK153.out 4).trans rfl, (blk_cell BK153.out 5).trans rfl, (blk_cell BK153.out 6).trans rfl, (blk_cell BK153.out 7).trans rfl, (blk_cell BK153.out 8).trans rfl, (blk_cell BK153.out 9).trans rfl, (blk_cell BK153.out 10).trans rfl, (blk_cell BK153.out 11).trans rfl⟩ (fun hHeld => ?_)
     clear hK K
     refine norm_ (a' := ?_) ?_ ?_
     rotate_left
     ·show Act.put _ (some 83) _ = _
      simp only [Act.put, sA_, sB_, sC_, i64_w, i32_w]
      rfl
     refine one_ (i := 3) (N := some 79) (Ra_ [8, 2]) rfl rfl (one_of HT_.out (by kernel_rfl)) (by decide) (fun K hK => ?_)
     refine goes_ Tryd.func31 (by kernel_rfl) rfl #[.slice Ao46 x4_2.length co46, .string a0_8] (by rfl) rfl rfl m3_ ?_
     with_reducible refine (num_PutText.calls k2 _ _ x4_2 a0_8 t185 _ ?side1 ?side2 A44.out).mono ?_
     (case side1 => repeat (first | exact (Kd.V_reads' HO_4.out).2.2 | (with_reducible refine Kd.C_alloc ?_ _) | (with_reducible refine Kd.C_drewN ?_ _) | (with_reducible refine Kd.C_drew ?_)))
     (case side2 => exact (Kd.V_reads' HO_4.out).2.1)
     rintro e w50 ⟨v186, rfl, ho0, hb⟩
     refine ⟨_, rfl, ?_⟩
     have n0_ := Aside0.mk (Kd.V_elder' m10_ (Kd.R_base ho0) hb)
     have n1_ := Aside0.mk (Kd.R_below (by (with_reducible repeat (first | apply Kd.R_alloc | apply Kd.R_drewN | apply Kd.R_drew)); exact HO190.out) hb)
     have n2_ := Aside0.mk (Kd.R_lower (Kd.R_newM (M := fun k_ => (w.heap.size ≤ k_)) ho0 (below_size m0_) (fun k_ h_ => h_)) (below_size m0_))
     have n3_ := Aside0.mk (blk_below (g := gb153) (o := .cells #[.int .i64 a0_0, .int .i64 a0_1, .int .i64 a0_2, .slice A0_3 l0_3.length c0_3, .string a0_4, .string a0_5, .slice A0_6 l0_6.length c0_6, .slice A0_7 l0_7.length c0_7, .string a0_8, .slice A0_9 l0_9.length c0_9, .int .i64 a0_10, .int .i64 a0_11] 34 (0, 0)) m5_ hb)
     have n4_ := Aside0.mk (below_step m0_ hb)
     clear HO_4 HO190 BK153 HB
     have HO_4 := n0_
     have HO190 := n1_
     have HO187 := n2_
     have BK153 := n3_
     have HB := n4_
     clear n0_ n1_ n2_ n3_ n4_
     (try clear hb)
     (try clear hb2)
     (try clear hk)
     (try clear hi)
     (try clear ho0)
     refine hK.out _ _ ⟨(blk_cell BK153.out 0).trans rfl, (blk_cell BK153.out 1).trans rfl, (blk_cell BK153.out 2).trans rfl, (blk_cell BK153.out 3).trans rfl, (blk_cell BK153.out 4).trans rfl, (blk_cell BK153.out 5).trans rfl, (blk_cell BK153.out 6).trans rfl, (blk_cell BK153.out 7).trans rfl, (blk_cell BK153.out 8).trans rfl, (blk_cell BK153.out 9).trans rfl, (blk_cell BK153.out 10).trans rfl, (blk_cell BK153.out 11).trans rfl⟩ (fun hHeld => ?_)
     clear hK K
     refine norm_ (a' := ?_) ?_ ?_
     rotate_left
     ·show Act.put _ (some 79) _ = _
      simp only [Act.put, sA_, sB_, sC_, i64_w, i32_w]
      rfl
     exact norm_ (by simp only [putAll, Act.put, List.setIfInBounds_toArray, List.set_cons_zero, List.set_cons_succ]) (hCont (v186, v189) _ ⟨hHeld, (by (with_reducible repeat (first | apply Kd.R_alloc | apply Kd.R_drewN | apply Kd.R_drew)); exact Kd.R_mono HO187.out (fun _ hk => hk.1)), (by (with_reducible repeat (first | apply Kd.R_alloc | apply Kd.R_drewN | apply Kd.R_drew)); exact Kd.R_mono HO190.out (fun _ hk => hk.1)), (by (with_reducible repeat (first | apply Kd.V_alloc | apply Kd.V_drewN | apply Kd.V_drew)); exact Kd.V_mono HO_4.out (fun _ hk => ⟨hk.1.1.1, ⟨hk.2, ⟨hk.1.2, hk.1.1.2⟩⟩⟩)), m5_, m0_⟩)
    rintro ⟨v186, v189⟩ w51 ⟨hS_, h0_, h1_, h2_, h3_, h4_⟩
    have n0_ : Aside0 (Kd.R (Kd.int .u8) 5 w51 w.heap.size (fun k_ => (w.heap.size ≤ k_)) v186 t185) := ⟨h0_⟩
    have n1_ : Aside0 (Kd.R (Kd.int .i64) 3 w51 w.heap.size (fun k_ => (w.heap.size ≤ k_)) v189 y188) := ⟨h1_⟩
    have n2_ : Aside0 (Kd.V (Kd.int .u8) 5 w51 w.heap.size (fun k_ => (w.heap.size ≤ k_) ∧ some k_ ≠ (v186 : Value).ownBlock ∧ some k_ ≠ (v189 : Value).ownBlock ∧ k_ ≠ gb153) (.slice Ao46 x4_2.length co46) x4_2) := ⟨h2_⟩
    have n3_ : Aside0 (w51.heap[gb153]? = some (.cells #[.int .i64 a0_0, .int .i64 a0_1, .int .i64 a0_2, .slice A0_3 l0_3.length c0_3, .string a0_4, .string a0_5, .slice A0_6 l0_6.length c0_6, .slice A0_7 l0_7.length c0_7, .string a0_8, .slice A0_9 l0_9.length c0_9, .int .i64 a0_10, .int .i64 a0_11] 34 (0, 0))) := ⟨h3_⟩
    have n4_ : Aside0 (Below w.heap.size w w51) := ⟨h4_⟩
    clear HO_4 BK153 HB h0_ h1_ h2_ h3_ h4_
    have HO187 := n0_
    have HO190 := n1_
    have HO_4 := n2_
    have BK153 := n3_
    have HB := n4_
    clear n0_ n1_ n2_ n3_ n4_
    have hHeld : w51.cell? ⟨gb153, 0, none⟩ = some (.int .i64 a0_0) ∧ w51.cell? ⟨gb153, 1, none⟩ = some (.int .i64 a0_1) ∧ w51.cell? ⟨gb153, 2, none⟩ = some (.int .i64 a0_2) ∧ w51.cell? ⟨gb153, 3, none⟩ = some (.slice A0_3 l0_3.length c0_3) ∧ w51.cell? ⟨gb153, 4, none⟩ = some (.string a0_4) ∧ w51.cell? ⟨gb153, 5, none⟩ = some (.string a0_5) ∧ w51.cell? ⟨gb153, 6, none⟩ = some (.slice A0_6 l0_6.length c0_6) ∧ w51.cell? ⟨gb153, 7, none⟩ = some (.slice A0_7 l0_7.length c0_7) ∧ w51.cell? ⟨gb153, 8, none⟩ = some (.string a0_8) ∧ w51.cell? ⟨gb153, 9, none⟩ = some (.slice A0_9 l0_9.length c0_9) ∧ w51.cell? ⟨gb153, 10, none⟩ = some (.int .i64 a0_10) ∧ w51.cell? ⟨gb153, 11, none⟩ = some (.int .i64 a0_11) := hS_
    obtain ⟨Ao52, co52, eo52⟩ := Kd.R_slice HO187.out
    (first | subst eo52 | (injection eo52 with f1_ f2_ f3_; have f4_ := f1_.symm; have f5_ := f3_.symm; clear f1_ f2_ f3_; subst f4_; subst f5_))
    obtain ⟨Ao53, co53, eo53⟩ := Kd.R_slice HO190.out
    (first | subst eo53 | (injection eo53 with f1_ f2_ f3_; have f4_ := f1_.symm; have f5_ := f3_.symm; clear f1_ f2_ f3_; subst f4_; subst f5_))
    refine norm_ (a' := ?_) ?_ ?_
    rotate_left
    ·simp only [putAll, Act.put, List.setIfInBounds_toArray, List.set_cons_zero, List.set_cons_succ]
     rfl
    refine one_ (i := 8) (N := some 84) (Ra_ [9, 1]) rfl rfl (one_of HT_.out (by kernel_rfl)) (by decide) (fun K hK => ?_)
    refine goes_ Tryd.func30 (by kernel_rfl) rfl #[.slice Ao52 t185.length co52, .slice Ao53 y188.length co53] (by rfl) rfl rfl m3_ ?_
    with_reducible refine (frame_put.calls k2 (fun k_ => some k_ = (.slice Ao52 t185.length co52 : Value).ownBlock) _ _ t185 _ _ y188 t191 _ ?side1 ?side2 ?side3 A45.out).mono ?_
    (case side1 => exact Kd.R_V (Kd.R_tight rfl (Kd.R_types (Kd.R_apart' (HO187.out) (Kd.R_typed HO190.out) (by decide)) BK153.out (by decide))))
    (case side2 => repeat (first | exact (Kd.R_reads' HO190.out).2.2 | (with_reducible refine Kd.C_alloc ?_ _) | (with_reducible refine Kd.C_drewN ?_ _) | (with_reducible refine Kd.C_drew ?_)))
    (case side3 => exact (Kd.R_reads' HO190.out).2.1)
    rintro e w54 ⟨v192, rfl, ho0, hb⟩
    refine ⟨_, rfl, ?_⟩
    have n0_ := Aside0.mk (Kd.V_below m10_ hb)
    have n1_ := Aside0.mk (Kd.R_below (by (with_reducible repeat (first | apply Kd.R_alloc | apply Kd.R_drewN | apply Kd.R_drew)); exact HO187.out) hb)
    have n2_ := Aside0.mk (Kd.R_below (by (with_reducible repeat (first | apply Kd.R_alloc | apply Kd.R_drewN | apply Kd.R_drew)); exact HO190.out) hb)
    have n3_ := Aside0.mk (Kd.V_lower (Kd.V_mono (ok' := fun k_ => (w.heap.size ≤ k_) ∧ some k_ ≠ (.slice Ao53 y188.length co53 : Value).ownBlock ∧ k_ ≠ gb153) ho0 (fun k_ hk_ => ⟨Or.elim hk_ (fun hs_ => ((Kd.R_types (Kd.R_apart' (HO187.out) (Kd.R_typed HO190.out) (by decide)) BK153.out (by decide)).1 k_ hs_.symm).1.1) (fun hn_ => (Nat.le_trans (below_size m0_) hn_)), Or.elim hk_ (fun hs_ => ((Kd.R_types (Kd.R_apart' (HO187.out) (Kd.R_typed HO190.out) (by decide)) BK153.out (by decide)).1 k_ hs_.symm).1.2) (fun hn_ => (Kd.fresh' (Kd.R_lt (by (with_reducible repeat (first | apply Kd.R_alloc | apply Kd.R_drewN | apply Kd.R_drew)); exact HO190.out)) k_ hn_)), Or.elim hk_ (fun hs_ => ((Kd.R_types (Kd.R_apart' (HO187.out) (Kd.R_typed HO190.out) (by decide)) BK153.out (by decide)).1 k_ hs_.symm).2) (fun hn_ => (Kd.freshB (g := gb153) (o := .cells #[.int .i64 a0_0, .int .i64 a0_1, .int .i64 a0_2, .slice A0_3 l0_3.length c0_3, .string a0_4, .string a0_5, .slice A0_6 l0_6.length c0_6, .slice A0_7 l0_7.length c0_7, .string a0_8, .slice A0_9 l0_9.length c0_9, .int .i64 a0_10, .int .i64 a0_11] 34 (0, 0)) m5_ k_ hn_))⟩)) (below_size m0_))
    have n4_ := Aside0.mk (blk_below (g := gb153) (o := .cells #[.int .i64 a0_0, .int .i64 a0_1, .int .i64 a0_2, .slice A0_3 l0_3.length c0_3, .string a0_4, .string a0_5, .slice A0_6 l0_6.length c0_6, .slice A0_7 l0_7.length c0_7, .string a0_8, .slice A0_9 l0_9.length c0_9, .int .i64 a0_10, .int .i64 a0_11] 34 (0, 0)) m5_ hb)
    have n5_ := Aside0.mk (below_step m0_ hb)
    clear HO_4 HO187 HO190 BK153 HB
    have HO_4 := n0_
    have HO187 := n1_
    have HO190 := n2_
    have HO193 := n3_
    have BK153 := n4_
    have HB := n5_
    clear n0_ n1_ n2_ n3_ n4_ n5_
    (try clear hb)
    (try clear hb2)
    (try clear hk)
    (try clear hi)
    (try clear ho0)
    refine hK.out _ _ ⟨(blk_cell BK153.out 0).trans rfl, (blk_cell BK153.out 1).trans rfl, (blk_cell BK153.out 2).trans rfl, (blk_cell BK153.out 3).trans rfl, (blk_cell BK153.out 4).trans rfl, (blk_cell BK153.out 5).trans rfl, (blk_cell BK153.out 6).trans rfl, (blk_cell BK153.out 7).trans rfl, (blk_cell BK153.out 8).trans rfl, (blk_cell BK153.out 9).trans rfl, (blk_cell BK153.out 10).trans rfl, (blk_cell BK153.out 11).trans rfl⟩ (fun hHeld => ?_)
    clear hK K
    refine norm_ (a' := ?_) ?_ ?_
    rotate_left
    ·show Act.put _ (some 84) _ = _
     simp only [Act.put, sA_, sB_, sC_, i64_w, i32_w]
     rfl
    refine pure_ (i := 9) (N := some 4) (v := ?_) (a' := ?_) (Ra_ [10]) rfl rfl (any_of HT_.out (by kernel_rfl)) (fun _ _ _ h => h) (Or.inl ⟨by rfl, ?_⟩) ?_ ?_
    rotate_left
    ·intro w'
     go_simp
     with_reducible rfl
    rotate_left
    ·simp only [Act.put, sA_, sB_, sC_, i64_w, i32_w]
     rfl
    refine done_ (done_of HT_.out (by kernel_rfl)) ?_
    obtain ⟨hcz55_0, hcz55_1, hcz55_2, hcz55_3, hcz55_4, hcz55_5, hcz55_6, hcz55_7, hcz55_8, hcz55_9, hcz55_10, hcz55_11⟩ := bc12_ BK153.out
    obtain ⟨hfz55_0, hfz55_1, hfz55_2, hfz55_3, hfz55_4, hfz55_5, hfz55_6, hfz55_7, hfz55_8, hfz55_9, hfz55_10, hfz55_11⟩ := bf12_ BK153.out
    try go_wp2
    go_loopg [4, 88] k2 (fun kq v4 v88 w' => ∃ (x4_3 : List Int) (x88_3 : Int), v88 = .int .i64 x88_3 ∧ Aside0 (frame_Reply.l2 kq x4_3 (l0_9.length : Int) x88_3 a0_0 a0_1 a0_2 l0_3 a0_4 a0_5 l0_6 l0_7 a0_8 l0_9 a0_10 a0_11 = some (r1, r2)) ∧ Aside0 (kq ≤ k2) ∧ Aside0 (Kd.V (Kd.int .u8) 5 w' w.heap.size (fun k_ => (w.heap.size ≤ k_) ∧ k_ ≠ gb153) v4 x4_3) ∧ Aside0 (w'.heap[gb153]? = some (.cells #[.int .i64 a0_0, .int .i64 a0_1, .int .i64 a0_2, (.slice A0_3 l0_3.length c0_3), .string a0_4, .string a0_5, (.slice A0_6 l0_6.length c0_6), (.slice A0_7 l0_7.length c0_7), .string a0_8, (.slice A0_9 l0_9.length c0_9), .int .i64 a0_10, .int .i64 a0_11] 34 (0, 0))) ∧ Aside0 (Below w.heap.size w w'))
    case atStart => exact ⟨(t191), (0), m11_, H', ⟨Nat.le_refl _⟩, ⟨by (with_reducible repeat (first | apply Kd.V_alloc | apply Kd.V_drewN | apply Kd.V_drew)); exact Kd.V_mono HO193.out (fun _ hk => ⟨hk.1, hk.2.2⟩)⟩, ⟨by (with_reducible repeat (first | refine blk_drewN ?_ _ | refine blk_drew ?_ | refine blk_alloc ?_ _)); exact BK153.out⟩, ⟨m15_⟩⟩
    clear H'
    try clear c1; try clear p2; try clear c3; try clear c4; try clear c13; try clear c15; try clear c30; try clear c31; try clear c32; try clear c34; try clear c34b0; try clear c43; try clear c43b0; try clear hcz10_0; try clear hcz10_1; try clear hcz10_10; try clear hcz10_11; try clear hcz10_2; try clear hcz10_3; try clear hcz10_4; try clear hcz10_5; try clear hcz10_6; try clear hcz10_7; try clear hcz10_8; try clear hcz10_9; try clear hcz14_0; try clear hcz14_1; try clear hcz14_10; try clear hcz14_11; try clear hcz14_2; try clear hcz14_3; try clear hcz14_4; try clear hcz14_5; try clear hcz14_6; try clear hcz14_7; try clear hcz14_8; try clear hcz14_9; try clear hcz27_0; try clear hcz27_1; try clear hcz27_10; try clear hcz27_11; try clear hcz27_2; try clear hcz27_3; try clear hcz27_4; try clear hcz27_5; try clear hcz27_6; try clear hcz27_7; try clear hcz27_8; try clear hcz27_9; try clear hcz33_0; try clear hcz33_1; try clear hcz33_10; try clear hcz33_11; try clear hcz33_2; try clear hcz33_3; try clear hcz33_4; try clear hcz33_5; try clear hcz33_6; try clear hcz33_7; try clear hcz33_8; try clear hcz33_9; try clear hcz36_0; try clear hcz36_1; try clear hcz36_10; try clear hcz36_11; try clear hcz36_2; try clear hcz36_3; try clear hcz36_4; try clear hcz36_5; try clear hcz36_6; try clear hcz36_7; try clear hcz36_8; try clear hcz36_9; try clear hcz42_0; try clear hcz42_1; try clear hcz42_10; try clear hcz42_11; try clear hcz42_2; try clear hcz42_3; try clear hcz42_4; try clear hcz42_5; try clear hcz42_6; try clear hcz42_7; try clear hcz42_8; try clear hcz42_9; try clear hcz55_0; try clear hcz55_1; try clear hcz55_10; try clear hcz55_11; try clear hcz55_2; try clear hcz55_3; try clear hcz55_4; try clear hcz55_5; try clear hcz55_6; try clear hcz55_7; try clear hcz55_8; try clear hcz55_9; try clear hfz10_0; try clear hfz10_1; try clear hfz10_10; try clear hfz10_11; try clear hfz10_2; try clear hfz10_3; try clear hfz10_4; try clear hfz10_5; try clear hfz10_6; try clear hfz10_7; try clear hfz10_8; try clear hfz10_9; try clear hfz14_0; try clear hfz14_1; try clear hfz14_10; try clear hfz14_11; try clear hfz14_2; try clear hfz14_3; try clear hfz14_4; try clear hfz14_5; try clear hfz14_6; try clear hfz14_7; try clear hfz14_8; try clear hfz14_9; try clear hfz27_0; try clear hfz27_1; try clear hfz27_10; try clear hfz27_11; try clear hfz27_2; try clear hfz27_3; try clear hfz27_4; try clear hfz27_5; try clear hfz27_6; try clear hfz27_7; try clear hfz27_8; try clear hfz27_9; try clear hfz33_0; try clear hfz33_1; try clear hfz33_10; try clear hfz33_11; try clear hfz33_2; try clear hfz33_3; try clear hfz33_4; try clear hfz33_5; try clear hfz33_6; try clear hfz33_7; try clear hfz33_8; try clear hfz33_9; try clear hfz36_0; try clear hfz36_1; try clear hfz36_10; try clear hfz36_11; try clear hfz36_2; try clear hfz36_3; try clear hfz36_4; try clear hfz36_5; try clear hfz36_6; try clear hfz36_7; try clear hfz36_8; try clear hfz36_9; try clear hfz42_0; try clear hfz42_1; try clear hfz42_10; try clear hfz42_11; try clear hfz42_2; try clear hfz42_3; try clear hfz42_4; try clear hfz42_5; try clear hfz42_6; try clear hfz42_7; try clear hfz42_8; try clear hfz42_9; try clear hfz55_0; try clear hfz55_1; try clear hfz55_10; try clear hfz55_11; try clear hfz55_2; try clear hfz55_3; try clear hfz55_4; try clear hfz55_5; try clear hfz55_6; try clear hfz55_7; try clear hfz55_8; try clear hfz55_9; try clear p2
    obtain ⟨x4_3, x88_3, rfl, HA, HK3, HO_4, BK153, HB⟩ := hrel
    cases gk with
    | zero => exact absurd HA.out (by simp [frame_Reply.l2])
    | succ k3 =>
     have H := HA.out
     clear HA
     simp only [frame_Reply.l2] at H
     by_cases c56 : x88_3 < (l0_9.length : Int)
     ·rw [if_pos c56] at H
      exact absurd H (by simp)
     rw [if_neg c56] at H
     have c56b0 : decide (x88_3 < (l0_9.length : Int)) = false := decide_eq_false c56
     clear c56
     obtain ⟨y194, hy194⟩ : ∃ y_ : List Int, y_ = (([a0_10, a0_11] : List Int)) := ⟨_, rfl⟩
     replace H : ((frame_put.f k3 x4_3 y194).bind fun t197 => (some (t197, 0))) = some (r1, r2) := by first | (rw [hy194]; with_reducible exact H) | (have H2_ := (Option.bind_some _ _).symm.trans H; rw [hy194]; with_reducible exact H2_) | (have H2_ := (Option.bind_some _ _).symm.trans H; with_reducible exact H2_) | with_reducible exact H | (rw [hy194]; exact H) | exact H
     have Ny194 := Aside0.mk hy194
     clear hy194
     replace H := Option.bind_eq_some_iff.mp H
     obtain ⟨t197, A570, H⟩ := H
     replace H : (some (t197, 0)) = some (r1, r2) := H
     have A57 := Aside0.mk A570
     clear A570
     simp only [Option.some.injEq, Prod.mk.injEq] at H
     obtain ⟨rfl, rfl⟩ := H
     obtain ⟨hcz58_0, hcz58_1, hcz58_2, hcz58_3, hcz58_4, hcz58_5, hcz58_6, hcz58_7, hcz58_8, hcz58_9, hcz58_10, hcz58_11⟩ := bc12_ BK153.out
     obtain ⟨hfz58_0, hfz58_1, hfz58_2, hfz58_3, hfz58_4, hfz58_5, hfz58_6, hfz58_7, hfz58_8, hfz58_9, hfz58_10, hfz58_11⟩ := bf12_ BK153.out
     go_wp2_with (first | ((with_reducible refine gate_dst (N := 114) rfl ?_); refine Kd.R_lit (Kd.int .i64) _ 3 ?hg (N := 114) ?hd (xs := ([a0_10, a0_11] : List Int)) (inner := [.int .i64 a0_10, .int .i64 a0_11]) (ok := fun _ => True) (okp := fun _ => True) ?hr ?hp (fun _ hk => hk) trivial (Below.refl _ _) (Nat.le_refl _) (by simp) ?_; (case hd => rfl); (case hg => rfl); (case hr => first | (go_simp; done) | (go_simp; rfl)); (case hp => exact (Reps.one (show Kd.M (Kd.int .i64) _ _ _ a0_10 [.int .i64 a0_10] from rfl) (Reps.one (show Kd.M (Kd.int .i64) _ _ _ a0_11 [.int .i64 a0_11] from rfl) (Reps.none _ _)))); intro v195 w59 ho60 hb hg_ hnew_; clear hg_ hnew_; (first | rw [← Ny194.out] at ho60 | (simp only [Int.reduceToNat] at ho60; rw [← Ny194.out] at ho60)); replace HO_4 := Aside0.mk (Kd.V_elder' m10_ (Kd.R_base ho60) hb); have HO196 := Aside0.mk (Kd.R_lower (Kd.R_newM (M := fun k_ => (w.heap.size ≤ k_)) ho60 (below_size m0_) (fun k_ h_ => h_)) (below_size m0_)); replace BK153 := Aside0.mk (blk_below (g := gb153) (o := .cells #[.int .i64 a0_0, .int .i64 a0_1, .int .i64 a0_2, .slice A0_3 l0_3.length c0_3, .string a0_4, .string a0_5, .slice A0_6 l0_6.length c0_6, .slice A0_7 l0_7.length c0_7, .string a0_8, .slice A0_9 l0_9.length c0_9, .int .i64 a0_10, .int .i64 a0_11] 34 (0, 0)) m5_ hb); replace HB := Aside0.mk (below_step m0_ hb); clear hb ho60; obtain ⟨Ao61, co61, eo61⟩ := Kd.V_slice HO_4.out; subst eo61; obtain ⟨Ao62, co62, eo62⟩ := Kd.R_slice HO196.out; subst eo62) | ((with_reducible refine gate_callee (f := 30) rfl ?_); refine goesL_ (some 115) rfl rfl Tryd.func30 (by kernel_rfl) rfl #[.slice Ao61 x4_3.length co61, .slice Ao62 y194.length co62] rfl m3_ ?_; (with_reducible refine (frame_put.calls k3 (fun k_ => (((w.heap.size ≤ k_) ∧ k_ ≠ gb153) ∧ some k_ ≠ (.slice Ao62 y194.length co62 : Value).ownBlock)) _ _ x4_3 _ _ y194 t197 _ ?side1 ?side2 ?side3 A57.out).mono ?_); (case side1 => exact HO_4.out); (case side2 => repeat (first | exact (Kd.R_reads' HO196.out).2.2 | (with_reducible refine Kd.C_alloc ?_ _) | (with_reducible refine Kd.C_drewN ?_ _) | (with_reducible refine Kd.C_drew ?_))); (case side3 => exact (Kd.R_reads' HO196.out).2.1); rintro e w63 ⟨v198, rfl, ho0, hb⟩; refine ⟨_, rfl, ?_⟩; have n0_ := Aside0.mk (Kd.V_below m10_ hb); have n1_ := Aside0.mk (Kd.R_below (by (with_reducible repeat (first | apply Kd.R_alloc | apply Kd.R_drewN | apply Kd.R_drew)); exact HO196.out) hb); have n2_ := Aside0.mk (Kd.V_lower (Kd.V_mono (ok' := fun k_ => (w.heap.size ≤ k_) ∧ some k_ ≠ (.slice Ao62 y194.length co62 : Value).ownBlock ∧ k_ ≠ gb153) ho0 (fun k_ hk_ => ⟨Or.elim hk_ (fun hs_ => hs_.1.1) (fun hn_ => (Nat.le_trans (below_size m0_) hn_)), Or.elim hk_ (fun hs_ => hs_.2) (fun hn_ => (Kd.fresh' (Kd.R_lt (by (with_reducible repeat (first | apply Kd.R_alloc | apply Kd.R_drewN | apply Kd.R_drew)); exact HO196.out)) k_ hn_)), Or.elim hk_ (fun hs_ => hs_.1.2) (fun hn_ => (Kd.freshB (g := gb153) (o := .cells #[.int .i64 a0_0, .int .i64 a0_1, .int .i64 a0_2, .slice A0_3 l0_3.length c0_3, .string a0_4, .string a0_5, .slice A0_6 l0_6.length c0_6, .slice A0_7 l0_7.length c0_7, .string a0_8, .slice A0_9 l0_9.length c0_9, .int .i64 a0_10, .int .i64 a0_11] 34 (0, 0)) m5_ k_ hn_))⟩)) (below_size m0_)); have n3_ := Aside0.mk (blk_below (g := gb153) (o := .cells #[.int .i64 a0_0, .int .i64 a0_1, .int .i64 a0_2, .slice A0_3 l0_3.length c0_3, .string a0_4, .string a0_5, .slice A0_6 l0_6.length c0_6, .slice A0_7 l0_7.length c0_7, .string a0_8, .slice A0_9 l0_9.length c0_9, .int .i64 a0_10, .int .i64 a0_11] 34 (0, 0)) m5_ hb); have n4_ := Aside0.mk (below_step m0_ hb); clear HO_4; clear HO196; clear BK153; clear HB; have HO_4 := n0_; have HO196 := n1_; have HO199 := n2_; have BK153 := n3_; have HB := n4_; clear n0_ n1_ n2_ n3_ n4_; (try clear hb); (try clear hb2); (try clear hk); (try clear hi); (try clear ho0)))
     go_ret2
     exact ⟨_, by first | rfl | (simp [errW_none, errW_some] <;> rfl) | (simp [*, errW_none, errW_some] <;> rfl), by (with_reducible repeat (first | apply Kd.V_alloc | apply Kd.V_drewN | apply Kd.V_drew)); exact Kd.V_mono HO199.out (fun _ hk => hk.1), m15_⟩

end Go.Proofs.YtoankokkdmbjmaaDoorH.HFrameWraps
