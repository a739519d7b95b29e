-- PRINTED by print.py (a twelfth state) out of the translation. Not trusted: Lean checks it.
import Derived.Test.YtoankokkdmbjmaaDoorHFrameCutsx0
import Derived.Test.YtoankokkdmbjmaaDoorHFrameCutsx3
namespace Go.Proofs.YtoankokkdmbjmaaDoorH.HFrameCuts
open Go.RowKit Go.Proofs.YtoankokkdmbjmaaDoorW.PrintWords Go.Proofs.YtoankokkdmbjmaaDoorW.PrintLast Go.Proofs.YtoankokkdmbjmaaDoorW.PrintMore
attribute [local go_sem] max2_int min2_int max_two min_two max_three min_three max_four min_four   -- for this text's walks alone
set_option linter.unusedVariables false
set_option linter.unusedSimpArgs false

/-! ### frame_Reply: function 13 -/
mutual
def frame_Reply.l0 : Nat → List Int → List (S65) → Int → Int → Int → Int → Int → List ByteArray → ByteArray → ByteArray → List (S65) → List (S74) → ByteArray → List (S67) → Int → Int → Option (List Int × Int)
 | 0, _, _, _, _, _, _, _, _, _, _, _, _, _, _, _, _ => none
 | k + 1, x4, x40, x41, x42, x172000, x172001, x172002, x172003, x172004, x172005, x172006, x172007, x172008, x172009, x172010, x172011 => if x42 < x41 then (if 0 ≤ x42 then (if x42 < (x40.length : Int) then ((num_Put.f k x4 (IntKind.u64.wrap ((rd_T65 x40 x42).f0))).bind fun t199 => ((num_PutText.f k t199 ((rd_T65 x40 x42).f1)).bind fun t202 => (frame_Reply.l0 k t202 x40 x41 (wrap64 (x42 + 1)) x172000 x172001 x172002 x172003 x172004 x172005 x172006 x172007 x172008 x172009 x172010 x172011))) else (none)) else (none)) else ((frame_put.f k x4 (([(x172007.length : Int)] : List Int))).bind fun t208 => (frame_Reply.l1 k t208 x172007 (x172007.length : Int) 0 x172000 x172001 x172002 x172003 x172004 x172005 x172006 x172007 x172008 x172009 x172010 x172011))
def frame_Reply.l1 : Nat → List Int → List (S74) → Int → Int → Int → Int → Int → List ByteArray → ByteArray → ByteArray → List (S65) → List (S74) → ByteArray → List (S67) → Int → Int → Option (List Int × Int)
 | 0, _, _, _, _, _, _, _, _, _, _, _, _, _, _, _, _ => none
 | k + 1, x4, x62, x63, x64, x172000, x172001, x172002, x172003, x172004, x172005, x172006, x172007, x172008, x172009, x172010, x172011 => if x64 < x63 then (if 0 ≤ x64 then (if x64 < (x62.length : Int) then ((frame_put.f k x4 (([(rd_T74 x62 x64).f0, (rd_T74 x62 x64).f1] : List Int))).bind fun t216 => (frame_Reply.l1 k t216 x62 x63 (wrap64 (x64 + 1)) x172000 x172001 x172002 x172003 x172004 x172005 x172006 x172007 x172008 x172009 x172010 x172011)) else (none)) else (none)) else ((num_PutText.f k x4 x172008).bind fun t219 => ((frame_put.f k t219 (([(x172009.length : Int)] : List Int))).bind fun t225 => (frame_Reply.l2 k t225 x172009 (x172009.length : Int) 0 x172000 x172001 x172002 x172003 x172004 x172005 x172006 x172007 x172008 x172009 x172010 x172011)))
def frame_Reply.l2 : Nat → List Int → List (S67) → Int → Int → Int → Int → Int → List ByteArray → ByteArray → ByteArray → List (S65) → List (S74) → ByteArray → List (S67) → Int → Int → Option (List Int × Int)
 | 0, _, _, _, _, _, _, _, _, _, _, _, _, _, _, _, _ => none
 | k + 1, x4, x86, x87, x88, x172000, x172001, x172002, x172003, x172004, x172005, x172006, x172007, x172008, x172009, x172010, x172011 => if x88 < x87 then (if 0 ≤ x88 then (if x88 < (x86.length : Int) then ((frame_put.f k x4 (([(rd_T67 x86 x88).f0, (rd_T67 x86 x88).f1, (rd_T67 x86 x88).f2] : List Int))).bind fun t239 => ((num_PutText.f k t239 ((rd_T67 x86 x88).f3)).bind fun t242 => ((frame_put.f k t242 (([(rd_T67 x86 x88).f4] : List Int))).bind fun t248 => (frame_Reply.l2 k t248 x86 x87 (wrap64 (x88 + 1)) x172000 x172001 x172002 x172003 x172004 x172005 x172006 x172007 x172008 x172009 x172010 x172011)))) else (none)) else (none)) else ((frame_put.f k x4 (([x172010, x172011] : List Int))).bind fun t231 => (some (t231, 0)))
end
def frame_Reply.f (k : Nat) (a0_0 : Int) (a0_1 : Int) (a0_2 : Int) (l0_3 : List ByteArray) (a0_4 : ByteArray) (a0_5 : ByteArray) (l0_6 : List (S65)) (l0_7 : List (S74)) (a0_8 : ByteArray) (l0_9 : List (S67)) (a0_10 : Int) (a0_11 : Int) : Option (List Int × Int) := (frame_Fits.f k a0_0 a0_1 a0_2 l0_3 a0_4 a0_5 l0_6 l0_7 a0_8 l0_9 a0_10 a0_11).bind fun t172 => (if t172 = true then ((frame_put.f k (([2] : List Int)) (([a0_0, a0_1, a0_2] : List Int))).bind fun t179 => ((num_PutList.f k t179 l0_3).bind fun t182 => ((num_PutText.f k t182 a0_4).bind fun t185 => ((num_PutText.f k t185 a0_5).bind fun t188 => ((frame_put.f k t188 (([(l0_6.length : Int)] : List Int))).bind fun t194 => (frame_Reply.l0 k t194 l0_6 (l0_6.length : Int) 0 a0_0 a0_1 a0_2 l0_3 a0_4 a0_5 l0_6 l0_7 a0_8 l0_9 a0_10 a0_11)))))) else (some (([] : List Int), 1)))
theorem frame_Reply.mono_l : ∀ k, (∀ y0 y1 y2 y3 y4 y5 y6 y7 y8 y9 y10 y11 y12 y13 y14 y15, LeO (frame_Reply.l0 k y0 y1 y2 y3 y4 y5 y6 y7 y8 y9 y10 y11 y12 y13 y14 y15) (frame_Reply.l0 (k + 1) y0 y1 y2 y3 y4 y5 y6 y7 y8 y9 y10 y11 y12 y13 y14 y15)) ∧ (∀ y0 y1 y2 y3 y4 y5 y6 y7 y8 y9 y10 y11 y12 y13 y14 y15, LeO (frame_Reply.l1 k y0 y1 y2 y3 y4 y5 y6 y7 y8 y9 y10 y11 y12 y13 y14 y15) (frame_Reply.l1 (k + 1) y0 y1 y2 y3 y4 y5 y6 y7 y8 y9 y10 y11 y12 y13 y14 y15)) ∧ (∀ y0 y1 y2 y3 y4 y5 y6 y7 y8 y9 y10 y11 y12 y13 y14 y15, LeO (frame_Reply.l2 k y0 y1 y2 y3 y4 y5 y6 y7 y8 y9 y10 y11 y12 y13 y14 y15) (frame_Reply.l2 (k + 1) y0 y1 y2 y3 y4 y5 y6 y7 y8 y9 y10 y11 y12 y13 y14 y15))
 | 0 => ⟨fun _ _ _ _ _ _ _ _ _ _ _ _ _ _ _ _ r h => by simp [frame_Reply.l0] at h, fun _ _ _ _ _ _ _ _ _ _ _ _ _ _ _ _ r h => by simp [frame_Reply.l1] at h, fun _ _ _ _ _ _ _ _ _ _ _ _ _ _ _ _ r h => by simp [frame_Reply.l2] at h⟩
 | k + 1 => by
  obtain ⟨ih0, ih1, ih2⟩ := frame_Reply.mono_l k
  refine ⟨?_, ?_, ?_⟩
  ·intro y0 y1 y2 y3 y4 y5 y6 y7 y8 y9 y10 y11 y12 y13 y14 y15
   unfold frame_Reply.l0
   repeat' first
   | (with_reducible exact ih0 _ _ _ _ _ _ _ _ _ _ _ _ _ _ _ _)
   | (with_reducible exact ih1 _ _ _ _ _ _ _ _ _ _ _ _ _ _ _ _)
   | (with_reducible exact ih2 _ _ _ _ _ _ _ _ _ _ _ _ _ _ _ _)
   | (with_reducible exact frame_Fits.mono _ _ _ _ _ _ _ _ _ _ _ _ _)
   | (with_reducible exact frame_put.mono _ _ _)
   | (with_reducible exact num_Put.mono _ _ _)
   | (with_reducible exact num_PutList.mono _ _ _)
   | (with_reducible exact num_PutText.mono _ _ _)
   | (with_reducible exact LeO.refl _)
   | (with_reducible exact LeO.none _)
   | (with_reducible refine LeO.ite ?_ ?_)
   | (with_reducible refine LeO.bind ?_ (fun _ => ?_))
   | exact ih0 _ _ _ _ _ _ _ _ _ _ _ _ _ _ _ _
   | exact ih1 _ _ _ _ _ _ _ _ _ _ _ _ _ _ _ _
   | exact ih2 _ _ _ _ _ _ _ _ _ _ _ _ _ _ _ _
   | exact frame_Fits.mono _ _ _ _ _ _ _ _ _ _ _ _ _
   | exact frame_put.mono _ _ _
   | exact num_Put.mono _ _ _
   | exact num_PutList.mono _ _ _
   | exact num_PutText.mono _ _ _
   | exact LeO.none _
   | refine LeO.ite ?_ ?_
   | refine LeO.bind ?_ (fun _ => ?_)
  ·intro y0 y1 y2 y3 y4 y5 y6 y7 y8 y9 y10 y11 y12 y13 y14 y15
   unfold frame_Reply.l1
   repeat' first
   | (with_reducible exact ih0 _ _ _ _ _ _ _ _ _ _ _ _ _ _ _ _)
   | (with_reducible exact ih1 _ _ _ _ _ _ _ _ _ _ _ _ _ _ _ _)
   | (with_reducible exact ih2 _ _ _ _ _ _ _ _ _ _ _ _ _ _ _ _)
   | (with_reducible exact frame_Fits.mono _ _ _ _ _ _ _ _ _ _ _ _ _)
   | (with_reducible exact frame_put.mono _ _ _)
   | (with_reducible exact num_Put.mono _ _ _)
   | (with_reducible exact num_PutList.mono _ _ _)
   | (with_reducible exact num_PutText.mono _ _ _)
   | (with_reducible exact LeO.refl _)
   | (with_reducible exact LeO.none _)
   | (with_reducible refine LeO.ite ?_ ?_)
   | (with_reducible refine LeO.bind ?_ (fun _ => ?_))
   | exact ih0 _ _ _ _ _ _ _ _ _ _ _ _ _ _ _ _
   | exact ih1 _ _ _ _ _ _ _ _ _ _ _ _ _ _ _ _
   | exact ih2 _ _ _ _ _ _ _ _ _ _ _ _ _ _ _ _
   | exact frame_Fits.mono _ _ _ _ _ _ _ _ _ _ _ _ _
   | exact frame_put.mono _ _ _
   | exact num_Put.mono _ _ _
   | exact num_PutList.mono _ _ _
   | exact num_PutText.mono _ _ _
   | exact LeO.none _
   | refine LeO.ite ?_ ?_
   | refine LeO.bind ?_ (fun _ => ?_)
  ·intro y0 y1 y2 y3 y4 y5 y6 y7 y8 y9 y10 y11 y12 y13 y14 y15
   unfold frame_Reply.l2
   repeat' first
   | (with_reducible exact ih0 _ _ _ _ _ _ _ _ _ _ _ _ _ _ _ _)
   | (with_reducible exact ih1 _ _ _ _ _ _ _ _ _ _ _ _ _ _ _ _)
   | (with_reducible exact ih2 _ _ _ _ _ _ _ _ _ _ _ _ _ _ _ _)
   | (with_reducible exact frame_Fits.mono _ _ _ _ _ _ _ _ _ _ _ _ _)
   | (with_reducible exact frame_put.mono _ _ _)
   | (with_reducible exact num_Put.mono _ _ _)
   | (with_reducible exact num_PutList.mono _ _ _)
   | (with_reducible exact num_PutText.mono _ _ _)
   | (with_reducible exact LeO.refl _)
   | (with_reducible exact LeO.none _)
   | (with_reducible refine LeO.ite ?_ ?_)
   | (with_reducible refine LeO.bind ?_ (fun _ => ?_))
   | exact ih0 _ _ _ _ _ _ _ _ _ _ _ _ _ _ _ _
   | exact ih1 _ _ _ _ _ _ _ _ _ _ _ _ _ _ _ _
   | exact ih2 _ _ _ _ _ _ _ _ _ _ _ _ _ _ _ _
   | exact frame_Fits.mono _ _ _ _ _ _ _ _ _ _ _ _ _
   | exact frame_put.mono _ _ _
   | exact num_Put.mono _ _ _
   | exact num_PutList.mono _ _ _
   | exact num_PutText.mono _ _ _
   | exact LeO.none _
   | refine LeO.ite ?_ ?_
   | refine LeO.bind ?_ (fun _ => ?_)
theorem frame_Reply.mono : ∀ a0 a1 a2 a3 a4 a5 a6 a7 a8 a9 a10 a11 k, LeO (frame_Reply.f k a0 a1 a2 a3 a4 a5 a6 a7 a8 a9 a10 a11) (frame_Reply.f (k + 1) a0 a1 a2 a3 a4 a5 a6 a7 a8 a9 a10 a11) := by
 intro a0 a1 a2 a3 a4 a5 a6 a7 a8 a9 a10 a11 k
 obtain ⟨ih0, ih1, ih2⟩ := frame_Reply.mono_l k
 unfold frame_Reply.f
 repeat' first
   | (with_reducible exact ih0 _ _ _ _ _ _ _ _ _ _ _ _ _ _ _ _)
   | (with_reducible exact ih1 _ _ _ _ _ _ _ _ _ _ _ _ _ _ _ _)
   | (with_reducible exact ih2 _ _ _ _ _ _ _ _ _ _ _ _ _ _ _ _)
   | (with_reducible exact frame_Fits.mono _ _ _ _ _ _ _ _ _ _ _ _ _)
   | (with_reducible exact frame_put.mono _ _ _)
   | (with_reducible exact num_Put.mono _ _ _)
   | (with_reducible exact num_PutList.mono _ _ _)
   | (with_reducible exact num_PutText.mono _ _ _)
   | (with_reducible exact LeO.refl _)
   | (with_reducible exact LeO.none _)
   | (with_reducible refine LeO.ite ?_ ?_)
   | (with_reducible refine LeO.bind ?_ (fun _ => ?_))
   | exact ih0 _ _ _ _ _ _ _ _ _ _ _ _ _ _ _ _
   | exact ih1 _ _ _ _ _ _ _ _ _ _ _ _ _ _ _ _
   | exact ih2 _ _ _ _ _ _ _ _ _ _ _ _ _ _ _ _
   | exact frame_Fits.mono _ _ _ _ _ _ _ _ _ _ _ _ _
   | exact frame_put.mono _ _ _
   | exact num_Put.mono _ _ _
   | exact num_PutList.mono _ _ _
   | exact num_PutText.mono _ _ _
   | exact LeO.none _
   | refine LeO.ite ?_ ?_
   | refine LeO.bind ?_ (fun _ => ?_)
def frame_Reply.T4 : Bool × List (List Nat × List Nat) := (true, [([], []), ([], []), ([1], [1]), ([0, 2], [0, 2]), ([], []), ([4], [4]), ([3, 5, 3], [3, 5]), ([], []), ([7], [7]), ([6, 8, 6], [6, 8]), ([9, 9, 0, 1, 2, 3, 4, 5, 6, 7, 8, 9], [0, 9])])
def frame_Reply.B4 : List Nat := [0, 0, 2, 7, 0, 16, 63, 0, 128, 511, 1023]
theorem frame_Reply.tab4 : rtab .any (opsOf Tryd.f13 4) = frame_Reply.T4 := by kernel_rfl
theorem frame_Reply.bits4 : waitsOk frame_Reply.T4.2 frame_Reply.B4 = true := by kernel_rfl
def frame_Reply.T9 : Bool × List (List Nat × List Nat) := (true, [([], []), ([], []), ([1], [1]), ([2], [2]), ([0, 3], [0, 3]), ([], []), ([5], [5]), ([4, 6, 4], [4, 6]), ([7, 7, 0, 1, 2, 3, 4, 5, 6, 7], [0, 7])])
def frame_Reply.B9 : List Nat := [0, 0, 2, 6, 15, 0, 32, 127, 255]
theorem frame_Reply.tab9 : rtab .any (opsOf Tryd.f13 9) = frame_Reply.T9 := by kernel_rfl
theorem frame_Reply.bits9 : waitsOk frame_Reply.T9.2 frame_Reply.B9 = true := by kernel_rfl
def frame_Reply.T17 : Bool × List (List Nat × List Nat) := (true, [([], []), ([], []), ([1], [1]), ([0, 2], [0, 2]), ([], []), ([4], [4]), ([5], [5]), ([6], [6]), ([3, 7, 3], [3, 7]), ([8, 8, 0, 1, 2, 3, 4, 5, 6, 7, 8], [0, 8])])
def frame_Reply.B17 : List Nat := [0, 0, 2, 7, 0, 16, 48, 112, 255, 511]
theorem frame_Reply.tab17 : rtab .any (opsOf Tryd.f13 17) = frame_Reply.T17 := by kernel_rfl
theorem frame_Reply.bits17 : waitsOk frame_Reply.T17.2 frame_Reply.B17 = true := by kernel_rfl
def frame_Reply.T21 : Bool × List (List Nat × List Nat) := (true, [([], []), ([], []), ([1], [1]), ([], []), ([3], [3]), ([], []), ([5], [5]), ([2, 4, 6], [2, 4, 6]), ([0, 7], [0, 7]), ([], []), ([9], [9]), ([8, 10, 8], [8, 10]), ([], []), ([12], [12]), ([13], [13]), ([11, 14, 11], [11, 14]), ([15, 15, 0, 1, 2, 3, 4, 5, 6, 7, 8, 9, 10, 11, 12, 13, 14, 15], [0, 15])])
def frame_Reply.B21 : List Nat := [0, 0, 2, 0, 8, 0, 32, 126, 255, 0, 512, 2047, 0, 4096, 12288, 32767, 65535]
theorem frame_Reply.tab21 : rtab .any (opsOf Tryd.f13 21) = frame_Reply.T21 := by kernel_rfl
theorem frame_Reply.bits21 : waitsOk frame_Reply.T21.2 frame_Reply.B21 = true := by kernel_rfl
set_option maxHeartbeats 8000000 in
set_option maxRecDepth 100000 in
theorem frame_Reply.calls (k : Nat) (a0_0 : Int) (a0_1 : Int) (a0_2 : Int) (A0_3 : Option Addr) (c0_3 : Nat) (l0_3 : List ByteArray) (a0_4 : ByteArray) (a0_5 : ByteArray) (A0_6 : Option Addr) (c0_6 : Nat) (l0_6 : List (S65)) (A0_7 : Option Addr) (c0_7 : Nat) (l0_7 : List (S74)) (a0_8 : ByteArray) (A0_9 : Option Addr) (c0_9 : Nat) (l0_9 : List (S67)) (a0_10 : Int) (a0_11 : Int) (r1 : List Int) (r2 : Int) (w : World) (hr0_3 : Kd.C Kd.string w A0_3 l0_3.length l0_3) (hc0_3 : l0_3.length ≤ c0_3) (hr0_6 : Kd.C k65 w A0_6 l0_6.length l0_6) (hc0_6 : l0_6.length ≤ c0_6) (hr0_7 : Kd.C k74 w A0_7 l0_7.length l0_7) (hc0_7 : l0_7.length ≤ c0_7) (hr0_9 : Kd.C k67 w A0_9 l0_9.length l0_9) (hc0_9 : l0_9.length ≤ c0_9) (h : frame_Reply.f k a0_0 a0_1 a0_2 l0_3 a0_4 a0_5 l0_6 l0_7 a0_8 l0_9 a0_10 a0_11 = some (r1, r2)) :
  Calls Tryd.prog 13 #[.agg #[.int .i64 a0_0, .int .i64 a0_1, .int .i64 a0_2, .slice A0_3 l0_3.length c0_3, .string a0_4, .string a0_5, .slice A0_6 l0_6.length c0_6, .slice A0_7 l0_7.length c0_7, .string a0_8, .slice A0_9 l0_9.length c0_9, .int .i64 a0_10, .int .i64 a0_11]] w fun e w' => ∃ v0_ : Value, e = .returned (.tuple #[v0_, .int .i64 r2]) ∧ Kd.V (Kd.int .u8) 5 w' w.heap.size (fun k_ => (w.heap.size ≤ k_)) v0_ r1 ∧ Below w.heap.size w w' := by
 have hu34 := Tryd.underlying34
 have hu65 := Tryd.underlying65
 have hu74 := Tryd.underlying74
 have hu67 := Tryd.underlying67
 have HR0_3 := Aside0.mk hr0_3
 have HC0_3 := Aside0.mk hc0_3
 clear hr0_3 hc0_3
 have HR0_6 := Aside0.mk hr0_6
 have HC0_6 := Aside0.mk hc0_6
 clear hr0_6 hc0_6
 have HR0_7 := Aside0.mk hr0_7
 have HC0_7 := Aside0.mk hc0_7
 clear hr0_7 hc0_7
 have HR0_9 := Aside0.mk hr0_9
 have HC0_9 := Aside0.mk hc0_9
 clear hr0_9 hc0_9
 have HB := Aside0.mk (Below.refl w.heap.size w)
 have H : ((frame_Fits.f k a0_0 a0_1 a0_2 l0_3 a0_4 a0_5 l0_6 l0_7 a0_8 l0_9 a0_10 a0_11).bind fun t172 => (if t172 = true then ((frame_put.f k (([2] : List Int)) (([a0_0, a0_1, a0_2] : List Int))).bind fun t179 => ((num_PutList.f k t179 l0_3).bind fun t182 => ((num_PutText.f k t182 a0_4).bind fun t185 => ((num_PutText.f k t185 a0_5).bind fun t188 => ((frame_put.f k t188 (([(l0_6.length : Int)] : List Int))).bind fun t194 => (frame_Reply.l0 k t194 l0_6 (l0_6.length : Int) 0 a0_0 a0_1 a0_2 l0_3 a0_4 a0_5 l0_6 l0_7 a0_8 l0_9 a0_10 a0_11)))))) else (some (([] : List Int), 1)))) = some (r1, r2) := h
 clear h
 replace H := Option.bind_eq_some_iff.mp H
 obtain ⟨t172, A20, H⟩ := H
 replace H : (if t172 = true then ((frame_put.f k (([2] : List Int)) (([a0_0, a0_1, a0_2] : List Int))).bind fun t179 => ((num_PutList.f k t179 l0_3).bind fun t182 => ((num_PutText.f k t182 a0_4).bind fun t185 => ((num_PutText.f k t185 a0_5).bind fun t188 => ((frame_put.f k t188 (([(l0_6.length : Int)] : List Int))).bind fun t194 => (frame_Reply.l0 k t194 l0_6 (l0_6.length : Int) 0 a0_0 a0_1 a0_2 l0_3 a0_4 a0_5 l0_6 l0_7 a0_8 l0_9 a0_10 a0_11)))))) else (some (([] : List Int), 1))) = some (r1, r2) := H
 have A2 := Aside0.mk A20
 clear A20
 by_cases c3 : t172 = true
 case neg =>
  replace c3 := Bool.eq_false_iff.mpr c3
  subst c3
  have H1 : (some (([] : List Int), 1)) = some (r1, r2) := by rw [if_neg (show ¬ (false = true) by decide)] at H; exact H
  clear H
  have H := H1
  clear H1
  simp only [Option.some.injEq, Prod.mk.injEq] at H
  obtain ⟨rfl, rfl⟩ := H
  go_enter Tryd.func13, Tryd.ntmps13
  go_wp2_with (first | ((with_reducible refine gate_dst (N := 1) rfl ?_); refine box_event ?hg (N := 1) ?hd (cs := #[.int .i64 a0_0, .int .i64 a0_1, .int .i64 a0_2, .slice A0_3 l0_3.length c0_3, .string a0_4, .string a0_5, .slice A0_6 l0_6.length c0_6, .slice A0_7 l0_7.length c0_7, .string a0_8, .slice A0_9 l0_9.length c0_9, .int .i64 a0_10, .int .i64 a0_11]) (t := 34) ?hr ?_; (case hd => rfl); (case hg => rfl); (case hr => first | (go_simp; done) | (go_simp; rfl)); intro gb171 hg w111 hbox hb; have n0_ := Aside0.mk (below_step m13_ hb); have n1_ := Aside0.mk (hbox); have n2_ := Aside0.mk ((by rw [hg]; exact (below_size m13_) : w.heap.size ≤ gb171)); have n3_ := Aside0.mk ((by rw [hg]; exact (below_size m13_) : w.heap.size ≤ gb171)); clear HB; have HB := n0_; have BK171 := n1_; have GW171 := n2_; have GE171 := n3_; clear n0_ n1_ n2_ n3_; clear hb hbox hg; obtain ⟨hcz112_0, hcz112_1, hcz112_2, hcz112_3, hcz112_4, hcz112_5, hcz112_6, hcz112_7, hcz112_8, hcz112_9, hcz112_10, hcz112_11⟩ := bc12_ BK171.out; obtain ⟨hfz112_0, hfz112_1, hfz112_2, hfz112_3, hfz112_4, hfz112_5, hfz112_6, hfz112_7, hfz112_8, hfz112_9, hfz112_10, hfz112_11⟩ := bf12_ BK171.out) | ((with_reducible refine gate_callee (f := 15) rfl ?_); refine goesL_ (some 12) rfl rfl Tryd.func15 (by kernel_rfl) rfl #[.agg #[.int .i64 a0_0, .int .i64 a0_1, .int .i64 a0_2, .slice A0_3 l0_3.length c0_3, .string a0_4, .string a0_5, .slice A0_6 l0_6.length c0_6, .slice A0_7 l0_7.length c0_7, .string a0_8, .slice A0_9 l0_9.length c0_9, .int .i64 a0_10, .int .i64 a0_11]] rfl m12_ ?_; (with_reducible refine (frame_Fits.calls k a0_0 a0_1 a0_2 _ _ l0_3 a0_4 a0_5 _ _ l0_6 _ _ l0_7 a0_8 _ _ l0_9 a0_10 a0_11 false _ ?side1 ?side2 ?side3 ?side4 ?side5 ?side6 ?side7 ?side8 A2.out).mono ?_); (case side1 => exact m31_); (case side2 => exact HC0_3.out); (case side3 => repeat (first | exact (Kd.C_below HR0_6.out HB.out) | (with_reducible refine Kd.C_alloc ?_ _) | (with_reducible refine Kd.C_drewN ?_ _) | (with_reducible refine Kd.C_drew ?_))); (case side4 => exact HC0_6.out); (case side5 => repeat (first | exact (Kd.C_below HR0_7.out HB.out) | (with_reducible refine Kd.C_alloc ?_ _) | (with_reducible refine Kd.C_drewN ?_ _) | (with_reducible refine Kd.C_drew ?_))); (case side6 => exact HC0_7.out); (case side7 => repeat (first | exact (Kd.C_below HR0_9.out HB.out) | (with_reducible refine Kd.C_alloc ?_ _) | (with_reducible refine Kd.C_drewN ?_ _) | (with_reducible refine Kd.C_drew ?_))); (case side8 => exact HC0_9.out); rintro e w113 ⟨rfl, hb⟩; refine ⟨_, rfl, ?_⟩; replace BK171 := Aside0.mk (blk_below (g := gb171) (o := .cells #[.int .i64 a0_0, .int .i64 a0_1, .int .i64 a0_2, .slice A0_3 l0_3.length c0_3, .string a0_4, .string a0_5, .slice A0_6 l0_6.length c0_6, .slice A0_7 l0_7.length c0_7, .string a0_8, .slice A0_9 l0_9.length c0_9, .int .i64 a0_10, .int .i64 a0_11] 34 (0, 0)) m14_ hb); replace HB := Aside0.mk (below_step m4_ hb); (try clear hb); (try clear hb2); (try clear hk); (try clear hi)))
  go_ret2
  exact ⟨_, by first | rfl | (simp [errW_none, errW_some] <;> rfl) | (simp [*, errW_none, errW_some] <;> rfl), Kd.R_V (base := w.heap.size) (ok := fun k_ => w.heap.size ≤ k_) (by first | exact Kd.R_nil _ _ _ _ _ | exact Kd.N_nil _ _ _ _ _ | exact Kd.V_nil _ _ _ _ _ | exact Kd.Q_nil _ _ _ _ _ | exact Kd.S_nil _ _ _ _ _), m40_⟩
 subst c3
 have H1 : ((frame_put.f k (([2] : List Int)) (([a0_0, a0_1, a0_2] : List Int))).bind fun t179 => ((num_PutList.f k t179 l0_3).bind fun t182 => ((num_PutText.f k t182 a0_4).bind fun t185 => ((num_PutText.f k t185 a0_5).bind fun t188 => ((frame_put.f k t188 (([(l0_6.length : Int)] : List Int))).bind fun t194 => (frame_Reply.l0 k t194 l0_6 (l0_6.length : Int) 0 a0_0 a0_1 a0_2 l0_3 a0_4 a0_5 l0_6 l0_7 a0_8 l0_9 a0_10 a0_11)))))) = some (r1, r2) := by rw [if_pos rfl] at H; exact H
 clear H
 have H := H1
 clear H1
 obtain ⟨y173, hy173⟩ : ∃ y_ : List Int, y_ = (([2] : List Int)) := ⟨_, rfl⟩
 replace H : ((frame_put.f k y173 (([a0_0, a0_1, a0_2] : List Int))).bind fun t179 => ((num_PutList.f k t179 l0_3).bind fun t182 => ((num_PutText.f k t182 a0_4).bind fun t185 => ((num_PutText.f k t185 a0_5).bind fun t188 => ((frame_put.f k t188 (([(l0_6.length : Int)] : List Int))).bind fun t194 => (frame_Reply.l0 k t194 l0_6 (l0_6.length : Int) 0 a0_0 a0_1 a0_2 l0_3 a0_4 a0_5 l0_6 l0_7 a0_8 l0_9 a0_10 a0_11)))))) = some (r1, r2) := by first | (rw [hy173]; with_reducible exact H) | (have H2_ := (Option.bind_some _ _).symm.trans H; rw [hy173]; with_reducible exact H2_) | (have H2_ := (Option.bind_some _ _).symm.trans H; with_reducible exact H2_) | with_reducible exact H | (rw [hy173]; exact H) | exact H
 have Ny173 := Aside0.mk hy173
 clear hy173
 obtain ⟨y176, hy176⟩ : ∃ y_ : List Int, y_ = (([a0_0, a0_1, a0_2] : List Int)) := ⟨_, rfl⟩
 replace H : ((frame_put.f k y173 y176).bind fun t179 => ((num_PutList.f k t179 l0_3).bind fun t182 => ((num_PutText.f k t182 a0_4).bind fun t185 => ((num_PutText.f k t185 a0_5).bind fun t188 => ((frame_put.f k t188 (([(l0_6.length : Int)] : List Int))).bind fun t194 => (frame_Reply.l0 k t194 l0_6 (l0_6.length : Int) 0 a0_0 a0_1 a0_2 l0_3 a0_4 a0_5 l0_6 l0_7 a0_8 l0_9 a0_10 a0_11)))))) = some (r1, r2) := by first | (rw [hy176]; with_reducible exact H) | (have H2_ := (Option.bind_some _ _).symm.trans H; rw [hy176]; with_reducible exact H2_) | (have H2_ := (Option.bind_some _ _).symm.trans H; with_reducible exact H2_) | with_reducible exact H | (rw [hy176]; exact H) | exact H
 have Ny176 := Aside0.mk hy176
 clear hy176
 replace H := Option.bind_eq_some_iff.mp H
 obtain ⟨t179, A40, H⟩ := H
 replace H : ((num_PutList.f k t179 l0_3).bind fun t182 => ((num_PutText.f k t182 a0_4).bind fun t185 => ((num_PutText.f k t185 a0_5).bind fun t188 => ((frame_put.f k t188 (([(l0_6.length : Int)] : List Int))).bind fun t194 => (frame_Reply.l0 k t194 l0_6 (l0_6.length : Int) 0 a0_0 a0_1 a0_2 l0_3 a0_4 a0_5 l0_6 l0_7 a0_8 l0_9 a0_10 a0_11))))) = some (r1, r2) := H
 have A4 := Aside0.mk A40
 clear A40
 replace H := Option.bind_eq_some_iff.mp H
 obtain ⟨t182, A50, H⟩ := H
 replace H : ((num_PutText.f k t182 a0_4).bind fun t185 => ((num_PutText.f k t185 a0_5).bind fun t188 => ((frame_put.f k t188 (([(l0_6.length : Int)] : List Int))).bind fun t194 => (frame_Reply.l0 k t194 l0_6 (l0_6.length : Int) 0 a0_0 a0_1 a0_2 l0_3 a0_4 a0_5 l0_6 l0_7 a0_8 l0_9 a0_10 a0_11)))) = some (r1, r2) := H
 have A5 := Aside0.mk A50
 clear A50
 replace H := Option.bind_eq_some_iff.mp H
 obtain ⟨t185, A60, H⟩ := H
 replace H : ((num_PutText.f k t185 a0_5).bind fun t188 => ((frame_put.f k t188 (([(l0_6.length : Int)] : List Int))).bind fun t194 => (frame_Reply.l0 k t194 l0_6 (l0_6.length : Int) 0 a0_0 a0_1 a0_2 l0_3 a0_4 a0_5 l0_6 l0_7 a0_8 l0_9 a0_10 a0_11))) = some (r1, r2) := H
 have A6 := Aside0.mk A60
 clear A60
 replace H := Option.bind_eq_some_iff.mp H
 obtain ⟨t188, A70, H⟩ := H
 replace H : ((frame_put.f k t188 (([(l0_6.length : Int)] : List Int))).bind fun t194 => (frame_Reply.l0 k t194 l0_6 (l0_6.length : Int) 0 a0_0 a0_1 a0_2 l0_3 a0_4 a0_5 l0_6 l0_7 a0_8 l0_9 a0_10 a0_11)) = some (r1, r2) := H
 have A7 := Aside0.mk A70
 clear A70
 obtain ⟨y191, hy191⟩ : ∃ y_ : List Int, y_ = (([(l0_6.length : Int)] : List Int)) := ⟨_, rfl⟩
 replace H : ((frame_put.f k t188 y191).bind fun t194 => (frame_Reply.l0 k t194 l0_6 (l0_6.length : Int) 0 a0_0 a0_1 a0_2 l0_3 a0_4 a0_5 l0_6 l0_7 a0_8 l0_9 a0_10 a0_11)) = some (r1, r2) := by first | (rw [hy191]; with_reducible exact H) | (have H2_ := (Option.bind_some _ _).symm.trans H; rw [hy191]; with_reducible exact H2_) | (have H2_ := (Option.bind_some _ _).symm.trans H; with_reducible exact H2_) | with_reducible exact H | (rw [hy191]; exact H) | exact H
 have Ny191 := Aside0.mk hy191
 clear hy191
 replace H := Option.bind_eq_some_iff.mp H
 obtain ⟨t194, A80, H⟩ := H
 replace H : (frame_Reply.l0 k t194 l0_6 (l0_6.length : Int) 0 a0_0 a0_1 a0_2 l0_3 a0_4 a0_5 l0_6 l0_7 a0_8 l0_9 a0_10 a0_11) = some (r1, r2) := H
 have A8 := Aside0.mk A80
 clear A80
 have H' := Aside0.mk H
 clear H
 go_enter Tryd.func13, Tryd.ntmps13
 try go_wp2_with (first | ((with_reducible refine gate_dst (N := 1) rfl ?_); refine box_event ?hg (N := 1) ?hd (cs := #[.int .i64 a0_0, .int .i64 a0_1, .int .i64 a0_2, .slice A0_3 l0_3.length c0_3, .string a0_4, .string a0_5, .slice A0_6 l0_6.length c0_6, .slice A0_7 l0_7.length c0_7, .string a0_8, .slice A0_9 l0_9.length c0_9, .int .i64 a0_10, .int .i64 a0_11]) (t := 34) ?hr ?_; (case hd => rfl); (case hg => rfl); (case hr => first | (go_simp; done) | (go_simp; rfl)); intro gb171 hg w9 hbox hb; have n0_ := Aside0.mk (below_step m13_ hb); have n1_ := Aside0.mk (hbox); have n2_ := Aside0.mk ((by rw [hg]; exact (below_size m13_) : w.heap.size ≤ gb171)); have n3_ := Aside0.mk ((by rw [hg]; exact (below_size m13_) : w.heap.size ≤ gb171)); clear HB; have HB := n0_; have BK171 := n1_; have GW171 := n2_; have GE171 := n3_; clear n0_ n1_ n2_ n3_; clear hb hbox hg; obtain ⟨hcz10_0, hcz10_1, hcz10_2, hcz10_3, hcz10_4, hcz10_5, hcz10_6, hcz10_7, hcz10_8, hcz10_9, hcz10_10, hcz10_11⟩ := bc12_ BK171.out; obtain ⟨hfz10_0, hfz10_1, hfz10_2, hfz10_3, hfz10_4, hfz10_5, hfz10_6, hfz10_7, hfz10_8, hfz10_9, hfz10_10, hfz10_11⟩ := bf12_ BK171.out) | ((with_reducible refine gate_callee (f := 15) rfl ?_); refine goesL_ (some 12) rfl rfl Tryd.func15 (by kernel_rfl) rfl #[.agg #[.int .i64 a0_0, .int .i64 a0_1, .int .i64 a0_2, .slice A0_3 l0_3.length c0_3, .string a0_4, .string a0_5, .slice A0_6 l0_6.length c0_6, .slice A0_7 l0_7.length c0_7, .string a0_8, .slice A0_9 l0_9.length c0_9, .int .i64 a0_10, .int .i64 a0_11]] rfl m12_ ?_; (with_reducible refine (frame_Fits.calls k a0_0 a0_1 a0_2 _ _ l0_3 a0_4 a0_5 _ _ l0_6 _ _ l0_7 a0_8 _ _ l0_9 a0_10 a0_11 true _ ?side1 ?side2 ?side3 ?side4 ?side5 ?side6 ?side7 ?side8 A2.out).mono ?_); (case side1 => exact m31_); (case side2 => exact HC0_3.out); (case side3 => repeat (first | exact (Kd.C_below HR0_6.out HB.out) | (with_reducible refine Kd.C_alloc ?_ _) | (with_reducible refine Kd.C_drewN ?_ _) | (with_reducible refine Kd.C_drew ?_))); (case side4 => exact HC0_6.out); (case side5 => repeat (first | exact (Kd.C_below HR0_7.out HB.out) | (with_reducible refine Kd.C_alloc ?_ _) | (with_reducible refine Kd.C_drewN ?_ _) | (with_reducible refine Kd.C_drew ?_))); (case side6 => exact HC0_7.out); (case side7 => repeat (first | exact (Kd.C_below HR0_9.out HB.out) | (with_reducible refine Kd.C_alloc ?_ _) | (with_reducible refine Kd.C_drewN ?_ _) | (with_reducible refine Kd.C_drew ?_))); (case side8 => exact HC0_9.out); rintro e w11 ⟨rfl, hb⟩; refine ⟨_, rfl, ?_⟩; replace BK171 := Aside0.mk (blk_below (g := gb171) (o := .cells #[.int .i64 a0_0, .int .i64 a0_1, .int .i64 a0_2, .slice A0_3 l0_3.length c0_3, .string a0_4, .string a0_5, .slice A0_6 l0_6.length c0_6, .slice A0_7 l0_7.length c0_7, .string a0_8, .slice A0_9 l0_9.length c0_9, .int .i64 a0_10, .int .i64 a0_11] 34 (0, 0)) m14_ hb); replace HB := Aside0.mk (below_step m4_ hb); (try clear hb); (try clear hb2); (try clear hk); (try clear hi)) | ((with_reducible refine gate_dst (N := 14) rfl ?_); refine Kd.R_lit (Kd.int .u8) _ 5 ?hg (N := 14) ?hd (xs := ([2] : List Int)) (inner := [.int .u8 2]) (ok := fun _ => True) (okp := fun _ => True) ?hr ?hp (fun _ hk => hk) trivial (Below.refl _ _) (Nat.le_refl _) (by simp) ?_; (case hd => rfl); (case hg => rfl); (case hr => first | (go_simp; done) | (go_simp; rfl)); (case hp => exact (Reps.one (show Kd.M (Kd.int .u8) _ _ _ 2 [.int .u8 2] from rfl) (Reps.none _ _))); intro v174 w12 ho13 hb hg_ hnew_; clear hg_ hnew_; (first | rw [← Ny173.out] at ho13 | (simp only [Int.reduceToNat] at ho13; rw [← Ny173.out] at ho13)); have HO175 := Aside0.mk (Kd.R_lower (Kd.R_newM (M := fun k_ => (w.heap.size ≤ k_)) ho13 (below_size m4_) (fun k_ h_ => h_)) (below_size m4_)); replace BK171 := Aside0.mk (blk_below (g := gb171) (o := .cells #[.int .i64 a0_0, .int .i64 a0_1, .int .i64 a0_2, .slice A0_3 l0_3.length c0_3, .string a0_4, .string a0_5, .slice A0_6 l0_6.length c0_6, .slice A0_7 l0_7.length c0_7, .string a0_8, .slice A0_9 l0_9.length c0_9, .int .i64 a0_10, .int .i64 a0_11] 34 (0, 0)) m14_ hb); replace HB := Aside0.mk (below_step m4_ hb); clear hb ho13; obtain ⟨hcz14_0, hcz14_1, hcz14_2, hcz14_3, hcz14_4, hcz14_5, hcz14_6, hcz14_7, hcz14_8, hcz14_9, hcz14_10, hcz14_11⟩ := bc12_ BK171.out; obtain ⟨hfz14_0, hfz14_1, hfz14_2, hfz14_3, hfz14_4, hfz14_5, hfz14_6, hfz14_7, hfz14_8, hfz14_9, hfz14_10, hfz14_11⟩ := bf12_ BK171.out) | ((with_reducible refine gate_dst (N := 21) rfl ?_); refine Kd.R_lit (Kd.int .i64) _ 3 ?hg (N := 21) ?hd (xs := ([a0_0, a0_1, a0_2] : List Int)) (inner := [.int .i64 a0_0, .int .i64 a0_1, .int .i64 a0_2]) (ok := fun _ => True) (okp := fun _ => True) ?hr ?hp (fun _ hk => hk) trivial (Below.refl _ _) (Nat.le_refl _) (by simp) ?_; (case hd => rfl); (case hg => rfl); (case hr => first | (go_simp; done) | (go_simp; rfl)); (case hp => exact (Reps.one (show Kd.M (Kd.int .i64) _ _ _ a0_0 [.int .i64 a0_0] from rfl) (Reps.one (show Kd.M (Kd.int .i64) _ _ _ a0_1 [.int .i64 a0_1] from rfl) (Reps.one (show Kd.M (Kd.int .i64) _ _ _ a0_2 [.int .i64 a0_2] from rfl) (Reps.none _ _))))); intro v177 w15 ho16 hb hg_ hnew_; clear hg_ hnew_; (first | rw [← Ny176.out] at ho16 | (simp only [Int.reduceToNat] at ho16; rw [← Ny176.out] at ho16)); replace HO175 := Aside0.mk (Kd.R_below m22_ hb); have HO178 := Aside0.mk (Kd.R_lower (Kd.R_newM (M := fun k_ => (w.heap.size ≤ k_)) ho16 (below_size m4_) (fun k_ h_ => h_)) (below_size m4_)); replace BK171 := Aside0.mk (blk_below (g := gb171) (o := .cells #[.int .i64 a0_0, .int .i64 a0_1, .int .i64 a0_2, .slice A0_3 l0_3.length c0_3, .string a0_4, .string a0_5, .slice A0_6 l0_6.length c0_6, .slice A0_7 l0_7.length c0_7, .string a0_8, .slice A0_9 l0_9.length c0_9, .int .i64 a0_10, .int .i64 a0_11] 34 (0, 0)) m14_ hb); replace HB := Aside0.mk (below_step m4_ hb); clear hb ho16; obtain ⟨Ao17, co17, eo17⟩ := Kd.R_slice HO175.out; subst eo17; obtain ⟨Ao18, co18, eo18⟩ := Kd.R_slice HO178.out; subst eo18) | ((with_reducible refine gate_callee (f := 30) rfl ?_); refine goesL_ (some 22) rfl rfl Tryd.func30 (by kernel_rfl) rfl #[.slice Ao17 y173.length co17, .slice Ao18 y176.length co18] rfl m12_ ?_; (with_reducible refine (frame_put.calls k (fun k_ => some k_ = (.slice Ao17 y173.length co17 : Value).ownBlock) _ _ y173 _ _ y176 t179 _ ?side1 ?side2 ?side3 A4.out).mono ?_); (case side1 => exact Kd.R_V (Kd.R_tight rfl (Kd.R_types (Kd.R_apart' (HO175.out) (Kd.R_typed HO178.out) (by decide)) BK171.out (by decide)))); (case side2 => repeat (first | exact (Kd.R_reads' HO178.out).2.2 | (with_reducible refine Kd.C_alloc ?_ _) | (with_reducible refine Kd.C_drewN ?_ _) | (with_reducible refine Kd.C_drew ?_))); (case side3 => exact (Kd.R_reads' HO178.out).2.1); rintro e w19 ⟨v180, rfl, ho0, hb⟩; refine ⟨_, rfl, ?_⟩; have n0_ := Aside0.mk (Kd.R_below m22_ hb); have n1_ := Aside0.mk (Kd.R_below m23_ hb); have n2_ := Aside0.mk (Kd.V_lower (Kd.V_mono (ok' := fun k_ => (w.heap.size ≤ k_) ∧ some k_ ≠ (.slice Ao18 y176.length co18 : Value).ownBlock ∧ k_ ≠ gb171) ho0 (fun k_ hk_ => ⟨Or.elim hk_ (fun hs_ => ((Kd.R_types (Kd.R_apart' (HO175.out) (Kd.R_typed HO178.out) (by decide)) BK171.out (by decide)).1 k_ hs_.symm).1.1.1) (fun hn_ => (Nat.le_trans (below_size m4_) hn_)), Or.elim hk_ (fun hs_ => ((Kd.R_types (Kd.R_apart' (HO175.out) (Kd.R_typed HO178.out) (by decide)) BK171.out (by decide)).1 k_ hs_.symm).1.2) (fun hn_ => (Kd.fresh' (Kd.R_lt m23_) k_ hn_)), Or.elim hk_ (fun hs_ => ((Kd.R_types (Kd.R_apart' (HO175.out) (Kd.R_typed HO178.out) (by decide)) BK171.out (by decide)).1 k_ hs_.symm).2) (fun hn_ => (Kd.freshB (g := gb171) (o := .cells #[.int .i64 a0_0, .int .i64 a0_1, .int .i64 a0_2, .slice A0_3 l0_3.length c0_3, .string a0_4, .string a0_5, .slice A0_6 l0_6.length c0_6, .slice A0_7 l0_7.length c0_7, .string a0_8, .slice A0_9 l0_9.length c0_9, .int .i64 a0_10, .int .i64 a0_11] 34 (0, 0)) m14_ k_ hn_))⟩)) (below_size m4_)); have n3_ := Aside0.mk (blk_below (g := gb171) (o := .cells #[.int .i64 a0_0, .int .i64 a0_1, .int .i64 a0_2, .slice A0_3 l0_3.length c0_3, .string a0_4, .string a0_5, .slice A0_6 l0_6.length c0_6, .slice A0_7 l0_7.length c0_7, .string a0_8, .slice A0_9 l0_9.length c0_9, .int .i64 a0_10, .int .i64 a0_11] 34 (0, 0)) m14_ hb); have n4_ := Aside0.mk (below_step m4_ hb); clear HO175; clear HO178; clear BK171; clear HB; have HO175 := n0_; have HO178 := n1_; have HO181 := n2_; have BK171 := n3_; have HB := n4_; clear n0_ n1_ n2_ n3_ n4_; (try clear hb); (try clear hb2); (try clear hk); (try clear hi); (try clear ho0)))
 replace HO175 := Aside0.mk (Kd.R_drew HO175.out)
 replace HO178 := Aside0.mk (Kd.R_drew HO178.out)
 replace HO181 := Aside0.mk (Kd.V_drew HO181.out)
 replace BK171 := Aside0.mk (blk_drew BK171.out)
 replace HB := Aside0.mk (below_drew1 HB.out)
 obtain ⟨Ao21, co21, eo21⟩ := Kd.V_slice HO181.out
 (first | subst eo21 | (injection eo21 with f1_ f2_ f3_; have f4_ := f1_.symm; have f5_ := f3_.symm; clear f1_ f2_ f3_; subst f4_; subst f5_))
 refine start_ (n := 11) (S := fun w' => w'.cell? ⟨gb171, 0, none⟩ = some (.int .i64 a0_0) ∧ w'.cell? ⟨gb171, 1, none⟩ = some (.int .i64 a0_1) ∧ w'.cell? ⟨gb171, 2, none⟩ = some (.int .i64 a0_2) ∧ w'.cell? ⟨gb171, 3, none⟩ = some (.slice A0_3 l0_3.length c0_3) ∧ w'.cell? ⟨gb171, 4, none⟩ = some (.string a0_4) ∧ w'.cell? ⟨gb171, 5, none⟩ = some (.string a0_5) ∧ w'.cell? ⟨gb171, 6, none⟩ = some (.slice A0_6 l0_6.length c0_6) ∧ w'.cell? ⟨gb171, 7, none⟩ = some (.slice A0_7 l0_7.length c0_7) ∧ w'.cell? ⟨gb171, 8, none⟩ = some (.string a0_8) ∧ w'.cell? ⟨gb171, 9, none⟩ = some (.slice A0_9 l0_9.length c0_9) ∧ w'.cell? ⟨gb171, 10, none⟩ = some (.int .i64 a0_10) ∧ w'.cell? ⟨gb171, 11, none⟩ = some (.int .i64 a0_11)) (ds := []) (Ra_ [0, 11]) (by kernel_rfl) rfl rfl ⟨(blk_cell BK171.out 0).trans rfl, (blk_cell BK171.out 1).trans rfl, (blk_cell BK171.out 2).trans rfl, (blk_cell BK171.out 3).trans rfl, (blk_cell BK171.out 4).trans rfl, (blk_cell BK171.out 5).trans rfl, (blk_cell BK171.out 6).trans rfl, (blk_cell BK171.out 7).trans rfl, (blk_cell BK171.out 8).trans rfl, (blk_cell BK171.out 9).trans rfl, (blk_cell BK171.out 10).trans rfl, (blk_cell BK171.out 11).trans rfl⟩ (fun hHeld => ?_); refine with_tabW frame_Reply.tab4 frame_Reply.bits4 (fun HT_ HW_ => ?_)
 generalize w19.drew = w20 at HO175 HO178 HO181 BK171 HB hHeld ⊢
 refine pI_ 0 (some 23) (Ra_ [1, 10]) (h := ?_)
 refine pI_ 1 (some 24) (Ra_ [2, 9]) (h := ?_)
 refine pI_ 4 (some 27) (Ra_ [2, 2, 1, 6]) (h := ?_)
 refine pI_ 7 (some 30) (Ra_ [2, 2, 1, 2, 1, 3]) (h := ?_)
 refine tI12_ 2 (some 25) (Ra_ [3, 1, 1, 2, 1, 3]) (h := ?_)
 refine tI12_ 5 (some 28) (Ra_ [3, 1, 2, 1, 1, 3]) (h := ?_)
 refine tI12_ 8 (some 31) (Ra_ [3, 1, 2, 1, 2, 2]) (h := ?_)
 refine one_ (i := 3) (N := some 26) (Ra_ [6, 1, 2, 2]) rfl rfl (one_of HT_.out (by kernel_rfl)) (by decide) (fun K hK => ?_)
 refine goes_ Tryd.func32 (by kernel_rfl) rfl #[.slice Ao21 t179.length co21, .slice A0_3 l0_3.length c0_3] (by rfl) rfl rfl m12_ ?_
 with_reducible refine (num_PutList.calls k _ _ t179 _ _ l0_3 t182 _ ?side1 ?side2 ?side3 ?side4 A5.out).mono ?_
 (case side1 => repeat (first | exact (Kd.V_reads' HO181.out).2.2 | (with_reducible refine Kd.C_alloc ?_ _) | (with_reducible refine Kd.C_drewN ?_ _) | (with_reducible refine Kd.C_drew ?_)))
 (case side2 => exact (Kd.V_reads' HO181.out).2.1)
 (case side3 => exact m31_)
 (case side4 => exact HC0_3.out)
 rintro e w22 ⟨v183, rfl, ho0, hb⟩
 refine ⟨_, rfl, ?_⟩
 have n0_ := Aside0.mk (Kd.R_elder' m22_ (Kd.R_base ho0) hb)
 have n1_ := Aside0.mk (Kd.R_below m23_ hb)
 have n2_ := Aside0.mk (Kd.V_elder' (by (with_reducible repeat (first | apply Kd.V_alloc | apply Kd.V_drewN | apply Kd.V_drew)); exact HO181.out) (Kd.R_base ho0) hb)
 have n3_ := Aside0.mk (Kd.R_lower (Kd.R_new' (Kd.R_newM (M := fun k_ => (w.heap.size ≤ k_)) ho0 (below_size m4_) (fun k_ h_ => h_)) (Kd.R_lt m22_)) (below_size m4_))
 have n4_ := Aside0.mk (blk_below (g := gb171) (o := .cells #[.int .i64 a0_0, .int .i64 a0_1, .int .i64 a0_2, .slice A0_3 l0_3.length c0_3, .string a0_4, .string a0_5, .slice A0_6 l0_6.length c0_6, .slice A0_7 l0_7.length c0_7, .string a0_8, .slice A0_9 l0_9.length c0_9, .int .i64 a0_10, .int .i64 a0_11] 34 (0, 0)) m14_ hb)
 have n5_ := Aside0.mk (below_step m4_ hb)
 clear HO175 HO178 HO181 BK171 HB
 have HO175 := n0_
 have HO178 := n1_
 have HO181 := n2_
 have HO184 := n3_
 have BK171 := n4_
 have HB := n5_
 clear n0_ n1_ n2_ n3_ n4_ n5_
 (try clear hb)
 (try clear hb2)
 (try clear hk)
 (try clear hi)
 (try clear ho0)
 obtain ⟨Ao23, co23, eo23⟩ := Kd.R_slice HO184.out
 (first | subst eo23 | (injection eo23 with f1_ f2_ f3_; have f4_ := f1_.symm; have f5_ := f3_.symm; clear f1_ f2_ f3_; subst f4_; subst f5_))
 refine hK.out _ _ ⟨(blk_cell BK171.out 0).trans rfl, (blk_cell BK171.out 1).trans rfl, (blk_cell BK171.out 2).trans rfl, (blk_cell BK171.out 3).trans rfl, (blk_cell BK171.out 4).trans rfl, (blk_cell BK171.out 5).trans rfl, (blk_cell BK171.out 6).trans rfl, (blk_cell BK171.out 7).trans rfl, (blk_cell BK171.out 8).trans rfl, (blk_cell BK171.out 9).trans rfl, (blk_cell BK171.out 10).trans rfl, (blk_cell BK171.out 11).trans rfl⟩ (fun hHeld => ?_)
 clear hK K
 refine norm_ (a' := ?_) ?_ ?_
 rotate_left
 ·show Act.put _ (some 26) _ = _
  simp only [Act.put, sA_, sB_, sC_, i64_w, i32_w]
  rfl
 refine one_ (i := 6) (N := some 29) (Ra_ [9, 2]) rfl rfl (one_of HT_.out (by kernel_rfl)) (by decide) (fun K hK => ?_)
 refine goes_ Tryd.func31 (by kernel_rfl) rfl #[.slice Ao23 t182.length co23, .string a0_4] (by rfl) rfl rfl m12_ ?_
 with_reducible refine (num_PutText.calls k _ _ t182 a0_4 t185 _ ?side1 ?side2 A6.out).mono ?_
 (case side1 => repeat (first | exact (Kd.R_reads' HO184.out).2.2 | (with_reducible refine Kd.C_alloc ?_ _) | (with_reducible refine Kd.C_drewN ?_ _) | (with_reducible refine Kd.C_drew ?_)))
 (case side2 => exact (Kd.R_reads' HO184.out).2.1)
 rintro e w24 ⟨v186, rfl, ho0, hb⟩
 refine ⟨_, rfl, ?_⟩
 have n0_ := Aside0.mk (Kd.R_elder' m22_ (Kd.R_base ho0) hb)
 have n1_ := Aside0.mk (Kd.R_below m23_ hb)
 have n2_ := Aside0.mk (Kd.V_elder' (by (with_reducible repeat (first | apply Kd.V_alloc | apply Kd.V_drewN | apply Kd.V_drew)); exact HO181.out) (Kd.R_base ho0) hb)
 have n3_ := Aside0.mk (Kd.R_elder' m25_ (Kd.R_base ho0) hb)
 have n4_ := Aside0.mk (Kd.R_lower (Kd.R_new' (Kd.R_new' (Kd.R_newM (M := fun k_ => (w.heap.size ≤ k_)) ho0 (below_size m4_) (fun k_ h_ => h_)) (Kd.R_lt m22_)) (Kd.R_lt m25_)) (below_size m4_))
 have n5_ := Aside0.mk (blk_below (g := gb171) (o := .cells #[.int .i64 a0_0, .int .i64 a0_1, .int .i64 a0_2, .slice A0_3 l0_3.length c0_3, .string a0_4, .string a0_5, .slice A0_6 l0_6.length c0_6, .slice A0_7 l0_7.length c0_7, .string a0_8, .slice A0_9 l0_9.length c0_9, .int .i64 a0_10, .int .i64 a0_11] 34 (0, 0)) m14_ hb)
 have n6_ := Aside0.mk (below_step m4_ hb)
 clear HO175 HO178 HO181 HO184 BK171 HB
 have HO175 := n0_
 have HO178 := n1_
 have HO181 := n2_
 have HO184 := n3_
 have HO187 := n4_
 have BK171 := n5_
 have HB := n6_
 clear n0_ n1_ n2_ n3_ n4_ n5_ n6_
 (try clear hb)
 (try clear hb2)
 (try clear hk)
 (try clear hi)
 (try clear ho0)
 obtain ⟨Ao25, co25, eo25⟩ := Kd.R_slice HO187.out
 (first | subst eo25 | (injection eo25 with f1_ f2_ f3_; have f4_ := f1_.symm; have f5_ := f3_.symm; clear f1_ f2_ f3_; subst f4_; subst f5_))
 refine hK.out _ _ ⟨(blk_cell BK171.out 0).trans rfl, (blk_cell BK171.out 1).trans rfl, (blk_cell BK171.out 2).trans rfl, (blk_cell BK171.out 3).trans rfl, (blk_cell BK171.out 4).trans rfl, (blk_cell BK171.out 5).trans rfl, (blk_cell BK171.out 6).trans rfl, (blk_cell BK171.out 7).trans rfl, (blk_cell BK171.out 8).trans rfl, (blk_cell BK171.out 9).trans rfl, (blk_cell BK171.out 10).trans rfl, (blk_cell BK171.out 11).trans rfl⟩ (fun hHeld => ?_)
 clear hK K
 refine norm_ (a' := ?_) ?_ ?_
 rotate_left
 ·show Act.put _ (some 29) _ = _
  simp only [Act.put, sA_, sB_, sC_, i64_w, i32_w]
  rfl
 refine one_ (i := 9) (N := some 32) (Ra_ [10, 1]) rfl rfl (one_of HT_.out (by kernel_rfl)) (by decide) (fun K hK => ?_)
 refine goes_ Tryd.func31 (by kernel_rfl) rfl #[.slice Ao25 t185.length co25, .string a0_5] (by rfl) rfl rfl m12_ ?_
 with_reducible refine (num_PutText.calls k _ _ t185 a0_5 t188 _ ?side1 ?side2 A7.out).mono ?_
 (case side1 => repeat (first | exact (Kd.R_reads' HO187.out).2.2 | (with_reducible refine Kd.C_alloc ?_ _) | (with_reducible refine Kd.C_drewN ?_ _) | (with_reducible refine Kd.C_drew ?_)))
 (case side2 => exact (Kd.R_reads' HO187.out).2.1)
 rintro e w26 ⟨v189, rfl, ho0, hb⟩
 refine ⟨_, rfl, ?_⟩
 have n0_ := Aside0.mk (Kd.R_elder' m22_ (Kd.R_base ho0) hb)
 have n1_ := Aside0.mk (Kd.R_below m23_ hb)
 have n2_ := Aside0.mk (Kd.V_elder' (by (with_reducible repeat (first | apply Kd.V_alloc | apply Kd.V_drewN | apply Kd.V_drew)); exact HO181.out) (Kd.R_base ho0) hb)
 have n3_ := Aside0.mk (Kd.R_elder' m25_ (Kd.R_base ho0) hb)
 have n4_ := Aside0.mk (Kd.R_elder' (by (with_reducible repeat (first | apply Kd.R_alloc | apply Kd.R_drewN | apply Kd.R_drew)); exact HO187.out) (Kd.R_base ho0) hb)
 have n5_ := Aside0.mk (Kd.R_lower (Kd.R_new' (Kd.R_new' (Kd.R_new' (Kd.R_newM (M := fun k_ => (w.heap.size ≤ k_)) ho0 (below_size m4_) (fun k_ h_ => h_)) (Kd.R_lt m22_)) (Kd.R_lt m25_)) (Kd.R_lt (by (with_reducible repeat (first | apply Kd.R_alloc | apply Kd.R_drewN | apply Kd.R_drew)); exact HO187.out))) (below_size m4_))
 have n6_ := Aside0.mk (blk_below (g := gb171) (o := .cells #[.int .i64 a0_0, .int .i64 a0_1, .int .i64 a0_2, .slice A0_3 l0_3.length c0_3, .string a0_4, .string a0_5, .slice A0_6 l0_6.length c0_6, .slice A0_7 l0_7.length c0_7, .string a0_8, .slice A0_9 l0_9.length c0_9, .int .i64 a0_10, .int .i64 a0_11] 34 (0, 0)) m14_ hb)
 have n7_ := Aside0.mk (below_step m4_ hb)
 clear HO175 HO178 HO181 HO184 HO187 BK171 HB
 have HO175 := n0_
 have HO178 := n1_
 have HO181 := n2_
 have HO184 := n3_
 have HO187 := n4_
 have HO190 := n5_
 have BK171 := n6_
 have HB := n7_
 clear n0_ n1_ n2_ n3_ n4_ n5_ n6_ n7_
 (try clear hb)
 (try clear hb2)
 (try clear hk)
 (try clear hi)
 (try clear ho0)
 refine hK.out _ _ ⟨(blk_cell BK171.out 0).trans rfl, (blk_cell BK171.out 1).trans rfl, (blk_cell BK171.out 2).trans rfl, (blk_cell BK171.out 3).trans rfl, (blk_cell BK171.out 4).trans rfl, (blk_cell BK171.out 5).trans rfl, (blk_cell BK171.out 6).trans rfl, (blk_cell BK171.out 7).trans rfl, (blk_cell BK171.out 8).trans rfl, (blk_cell BK171.out 9).trans rfl, (blk_cell BK171.out 10).trans rfl, (blk_cell BK171.out 11).trans rfl⟩ (fun hHeld => ?_)
 clear hK K
 refine norm_ (a' := ?_) ?_ ?_
 rotate_left
 ·show Act.put _ (some 32) _ = _
  simp only [Act.put, sA_, sB_, sC_, i64_w, i32_w]
  rfl
 refine pI_ 10 (some 4) (Ra_ [11]) (h := ?_)
 refine done_ (done_of HT_.out (by kernel_rfl)) ?_
 obtain ⟨hcz27_0, hcz27_1, hcz27_2, hcz27_3, hcz27_4, hcz27_5, hcz27_6, hcz27_7, hcz27_8, hcz27_9, hcz27_10, hcz27_11⟩ := bc12_ BK171.out
 obtain ⟨hfz27_0, hfz27_1, hfz27_2, hfz27_3, hfz27_4, hfz27_5, hfz27_6, hfz27_7, hfz27_8, hfz27_9, hfz27_10, hfz27_11⟩ := bf12_ BK171.out
 try go_wp2_with (first | ((with_reducible refine gate_dst (N := 37) rfl ?_); refine Kd.R_lit (Kd.int .i64) _ 3 ?hg (N := 37) ?hd (xs := ([(l0_6.length : Int)] : List Int)) (inner := [.int .i64 (l0_6.length : Int)]) (ok := fun _ => True) (okp := fun _ => True) ?hr ?hp (fun _ hk => hk) trivial (Below.refl _ _) (Nat.le_refl _) (by simp) ?_; (case hd => rfl); (case hg => rfl); (case hr => first | (go_simp; done) | (go_simp; rfl)); (case hp => exact (Reps.one (show Kd.M (Kd.int .i64) _ _ _ (l0_6.length : Int) [.int .i64 (l0_6.length : Int)] from rfl) (Reps.none _ _))); intro v192 w28 ho29 hb hg_ hnew_; clear hg_ hnew_; (first | rw [← Ny191.out] at ho29 | (simp only [Int.reduceToNat] at ho29; rw [← Ny191.out] at ho29)); have n0_ := Aside0.mk (Kd.R_below m22_ hb); have n1_ := Aside0.mk (Kd.R_elder' m23_ (Kd.R_base ho29) hb); have n2_ := Aside0.mk (Kd.V_elder' (by (with_reducible repeat (first | apply Kd.V_alloc | apply Kd.V_drewN | apply Kd.V_drew)); exact HO181.out) (Kd.R_base ho29) hb); have n3_ := Aside0.mk (Kd.R_below m25_ hb); have n4_ := Aside0.mk (Kd.R_below (by (with_reducible repeat (first | apply Kd.R_alloc | apply Kd.R_drewN | apply Kd.R_drew)); exact HO187.out) hb); have n5_ := Aside0.mk (Kd.R_below (by (with_reducible repeat (first | apply Kd.R_alloc | apply Kd.R_drewN | apply Kd.R_drew)); exact HO190.out) hb); have n6_ := Aside0.mk (Kd.R_lower (Kd.R_new' (Kd.R_newM (M := fun k_ => (w.heap.size ≤ k_)) ho29 (below_size m4_) (fun k_ h_ => h_)) (Kd.R_lt m23_)) (below_size m4_)); have n7_ := Aside0.mk (blk_below (g := gb171) (o := .cells #[.int .i64 a0_0, .int .i64 a0_1, .int .i64 a0_2, .slice A0_3 l0_3.length c0_3, .string a0_4, .string a0_5, .slice A0_6 l0_6.length c0_6, .slice A0_7 l0_7.length c0_7, .string a0_8, .slice A0_9 l0_9.length c0_9, .int .i64 a0_10, .int .i64 a0_11] 34 (0, 0)) m14_ hb); have n8_ := Aside0.mk (below_step m4_ hb); clear HO175; clear HO178; clear HO181; clear HO184; clear HO187; clear HO190; clear BK171; clear HB; have HO175 := n0_; have HO178 := n1_; have HO181 := n2_; have HO184 := n3_; have HO187 := n4_; have HO190 := n5_; have HO193 := n6_; have BK171 := n7_; have HB := n8_; clear n0_ n1_ n2_ n3_ n4_ n5_ n6_ n7_ n8_; clear hb ho29; obtain ⟨Ao30, co30, eo30⟩ := Kd.R_slice HO190.out; subst eo30; obtain ⟨Ao31, co31, eo31⟩ := Kd.R_slice HO193.out; subst eo31) | ((with_reducible refine gate_callee (f := 30) rfl ?_); refine goesL_ (some 38) rfl rfl Tryd.func30 (by kernel_rfl) rfl #[.slice Ao30 t188.length co30, .slice Ao31 y191.length co31] rfl m12_ ?_; (with_reducible refine (frame_put.calls k (fun k_ => some k_ = (.slice Ao30 t188.length co30 : Value).ownBlock) _ _ t188 _ _ y191 t194 _ ?side1 ?side2 ?side3 A8.out).mono ?_); (case side1 => exact Kd.R_V (Kd.R_tight rfl (Kd.R_types (Kd.R_apart' (Kd.R_apart' (HO190.out) (Kd.R_typed HO178.out) (by decide)) (Kd.R_typed HO193.out) (by decide)) BK171.out (by decide)))); (case side2 => repeat (first | exact (Kd.R_reads' HO193.out).2.2 | (with_reducible refine Kd.C_alloc ?_ _) | (with_reducible refine Kd.C_drewN ?_ _) | (with_reducible refine Kd.C_drew ?_))); (case side3 => exact (Kd.R_reads' HO193.out).2.1); rintro e w32 ⟨v195, rfl, ho0, hb⟩; refine ⟨_, rfl, ?_⟩; have n0_ := Aside0.mk (Kd.R_below m22_ hb); have n1_ := Aside0.mk (Kd.R_below m23_ hb); have n2_ := Aside0.mk (Kd.V_below (by (with_reducible repeat (first | apply Kd.V_alloc | apply Kd.V_drewN | apply Kd.V_drew)); exact HO181.out) hb); have n3_ := Aside0.mk (Kd.R_below m25_ hb); have n4_ := Aside0.mk (Kd.R_below (by (with_reducible repeat (first | apply Kd.R_alloc | apply Kd.R_drewN | apply Kd.R_drew)); exact HO187.out) hb); have n5_ := Aside0.mk (Kd.R_below (by (with_reducible repeat (first | apply Kd.R_alloc | apply Kd.R_drewN | apply Kd.R_drew)); exact HO190.out) hb); have n6_ := Aside0.mk (Kd.R_below (by (with_reducible repeat (first | apply Kd.R_alloc | apply Kd.R_drewN | apply Kd.R_drew)); exact HO193.out) hb); have n7_ := Aside0.mk (Kd.V_lower (Kd.V_mono (ok' := fun k_ => (w.heap.size ≤ k_) ∧ some k_ ≠ (.slice Ao17 y173.length co17 : Value).ownBlock ∧ some k_ ≠ (.slice Ao18 y176.length co18 : Value).ownBlock ∧ some k_ ≠ (.slice Ao23 t182.length co23 : Value).ownBlock ∧ some k_ ≠ (.slice Ao25 t185.length co25 : Value).ownBlock ∧ some k_ ≠ (.slice Ao31 y191.length co31 : Value).ownBlock ∧ k_ ≠ gb171) ho0 (fun k_ hk_ => ⟨Or.elim hk_ (fun hs_ => ((Kd.R_types (Kd.R_apart' (Kd.R_apart' (HO190.out) (Kd.R_typed HO178.out) (by decide)) (Kd.R_typed HO193.out) (by decide)) BK171.out (by decide)).1 k_ hs_.symm).1.1.1.1.1.1.1) (fun hn_ => (Nat.le_trans (below_size m4_) hn_)), Or.elim hk_ (fun hs_ => ((Kd.R_types (Kd.R_apart' (Kd.R_apart' (HO190.out) (Kd.R_typed HO178.out) (by decide)) (Kd.R_typed HO193.out) (by decide)) BK171.out (by decide)).1 k_ hs_.symm).1.1.1.1.1.2) (fun hn_ => (Kd.fresh' (Kd.R_lt m22_) k_ hn_)), Or.elim hk_ (fun hs_ => ((Kd.R_types (Kd.R_apart' (Kd.R_apart' (HO190.out) (Kd.R_typed HO178.out) (by decide)) (Kd.R_typed HO193.out) (by decide)) BK171.out (by decide)).1 k_ hs_.symm).1.1.2) (fun hn_ => (Kd.fresh' (Kd.R_lt m23_) k_ hn_)), Or.elim hk_ (fun hs_ => ((Kd.R_types (Kd.R_apart' (Kd.R_apart' (HO190.out) (Kd.R_typed HO178.out) (by decide)) (Kd.R_typed HO193.out) (by decide)) BK171.out (by decide)).1 k_ hs_.symm).1.1.1.1.2) (fun hn_ => (Kd.fresh' (Kd.R_lt m25_) k_ hn_)), Or.elim hk_ (fun hs_ => ((Kd.R_types (Kd.R_apart' (Kd.R_apart' (HO190.out) (Kd.R_typed HO178.out) (by decide)) (Kd.R_typed HO193.out) (by decide)) BK171.out (by decide)).1 k_ hs_.symm).1.1.1.2) (fun hn_ => (Kd.fresh' (Kd.R_lt (by (with_reducible repeat (first | apply Kd.R_alloc | apply Kd.R_drewN | apply Kd.R_drew)); exact HO187.out)) k_ hn_)), Or.elim hk_ (fun hs_ => ((Kd.R_types (Kd.R_apart' (Kd.R_apart' (HO190.out) (Kd.R_typed HO178.out) (by decide)) (Kd.R_typed HO193.out) (by decide)) BK171.out (by decide)).1 k_ hs_.symm).1.2) (fun hn_ => (Kd.fresh' (Kd.R_lt (by (with_reducible repeat (first | apply Kd.R_alloc | apply Kd.R_drewN | apply Kd.R_drew)); exact HO193.out)) k_ hn_)), Or.elim hk_ (fun hs_ => ((Kd.R_types (Kd.R_apart' (Kd.R_apart' (HO190.out) (Kd.R_typed HO178.out) (by decide)) (Kd.R_typed HO193.out) (by decide)) BK171.out (by decide)).1 k_ hs_.symm).2) (fun hn_ => (Kd.freshB (g := gb171) (o := .cells #[.int .i64 a0_0, .int .i64 a0_1, .int .i64 a0_2, .slice A0_3 l0_3.length c0_3, .string a0_4, .string a0_5, .slice A0_6 l0_6.length c0_6, .slice A0_7 l0_7.length c0_7, .string a0_8, .slice A0_9 l0_9.length c0_9, .int .i64 a0_10, .int .i64 a0_11] 34 (0, 0)) m14_ k_ hn_))⟩)) (below_size m4_)); have n8_ := Aside0.mk (blk_below (g := gb171) (o := .cells #[.int .i64 a0_0, .int .i64 a0_1, .int .i64 a0_2, .slice A0_3 l0_3.length c0_3, .string a0_4, .string a0_5, .slice A0_6 l0_6.length c0_6, .slice A0_7 l0_7.length c0_7, .string a0_8, .slice A0_9 l0_9.length c0_9, .int .i64 a0_10, .int .i64 a0_11] 34 (0, 0)) m14_ hb); have n9_ := Aside0.mk (below_step m4_ hb); clear HO175; clear HO178; clear HO181; clear HO184; clear HO187; clear HO190; clear HO193; clear BK171; clear HB; have HO175 := n0_; have HO178 := n1_; have HO181 := n2_; have HO184 := n3_; have HO187 := n4_; have HO190 := n5_; have HO193 := n6_; have HO196 := n7_; have BK171 := n8_; have HB := n9_; clear n0_ n1_ n2_ n3_ n4_ n5_ n6_ n7_ n8_ n9_; (try clear hb); (try clear hb2); (try clear hk); (try clear hi); (try clear ho0); obtain ⟨hcz33_0, hcz33_1, hcz33_2, hcz33_3, hcz33_4, hcz33_5, hcz33_6, hcz33_7, hcz33_8, hcz33_9, hcz33_10, hcz33_11⟩ := bc12_ BK171.out; obtain ⟨hfz33_0, hfz33_1, hfz33_2, hfz33_3, hfz33_4, hfz33_5, hfz33_6, hfz33_7, hfz33_8, hfz33_9, hfz33_10, hfz33_11⟩ := bf12_ BK171.out))
 go_loopg [4, 42] k (fun kq v4 v42 w' => ∃ (x4_1 : List Int) (x42_1 : Int), v42 = .int .i64 x42_1 ∧ Aside0 (frame_Reply.l0 kq x4_1 l0_6 (l0_6.length : Int) x42_1 a0_0 a0_1 a0_2 l0_3 a0_4 a0_5 l0_6 l0_7 a0_8 l0_9 a0_10 a0_11 = some (r1, r2)) ∧ Aside0 (kq ≤ k) ∧ Aside0 (Kd.V (Kd.int .u8) 5 w' w.heap.size (fun k_ => (w.heap.size ≤ k_) ∧ k_ ≠ gb171) v4 x4_1) ∧ Aside0 (w'.heap[gb171]? = some (.cells #[.int .i64 a0_0, .int .i64 a0_1, .int .i64 a0_2, (.slice A0_3 l0_3.length c0_3), .string a0_4, .string a0_5, (.slice A0_6 l0_6.length c0_6), (.slice A0_7 l0_7.length c0_7), .string a0_8, (.slice A0_9 l0_9.length c0_9), .int .i64 a0_10, .int .i64 a0_11] 34 (0, 0))) ∧ Aside0 (Below w.heap.size w w'))
 case atStart => exact ⟨(t194), (0), m28_, H', ⟨Nat.le_refl _⟩, ⟨by (with_reducible repeat (first | apply Kd.V_alloc | apply Kd.V_drewN | apply Kd.V_drew)); exact Kd.V_mono HO196.out (fun _ hk => ⟨hk.1, hk.2.2.2.2.2.2⟩)⟩, ⟨by (with_reducible repeat (first | refine blk_drewN ?_ _ | refine blk_drew ?_ | refine blk_alloc ?_ _)); exact BK171.out⟩, ⟨m40_⟩⟩
 clear H'
 try clear c1; try clear p2; try clear c3; try clear c13; try clear c15; try clear c30; try clear c31; try clear c32; try clear hcz10_0; try clear hcz10_1; try clear hcz10_10; try clear hcz10_11; try clear hcz10_2; try clear hcz10_3; try clear hcz10_4; try clear hcz10_5; try clear hcz10_6; try clear hcz10_7; try clear hcz10_8; try clear hcz10_9; try clear hcz14_0; try clear hcz14_1; try clear hcz14_10; try clear hcz14_11; try clear hcz14_2; try clear hcz14_3; try clear hcz14_4; try clear hcz14_5; try clear hcz14_6; try clear hcz14_7; try clear hcz14_8; try clear hcz14_9; try clear hcz27_0; try clear hcz27_1; try clear hcz27_10; try clear hcz27_11; try clear hcz27_2; try clear hcz27_3; try clear hcz27_4; try clear hcz27_5; try clear hcz27_6; try clear hcz27_7; try clear hcz27_8; try clear hcz27_9; try clear hcz33_0; try clear hcz33_1; try clear hcz33_10; try clear hcz33_11; try clear hcz33_2; try clear hcz33_3; try clear hcz33_4; try clear hcz33_5; try clear hcz33_6; try clear hcz33_7; try clear hcz33_8; try clear hcz33_9; try clear hfz10_0; try clear hfz10_1; try clear hfz10_10; try clear hfz10_11; try clear hfz10_2; try clear hfz10_3; try clear hfz10_4; try clear hfz10_5; try clear hfz10_6; try clear hfz10_7; try clear hfz10_8; try clear hfz10_9; try clear hfz14_0; try clear hfz14_1; try clear hfz14_10; try clear hfz14_11; try clear hfz14_2; try clear hfz14_3; try clear hfz14_4; try clear hfz14_5; try clear hfz14_6; try clear hfz14_7; try clear hfz14_8; try clear hfz14_9; try clear hfz27_0; try clear hfz27_1; try clear hfz27_10; try clear hfz27_11; try clear hfz27_2; try clear hfz27_3; try clear hfz27_4; try clear hfz27_5; try clear hfz27_6; try clear hfz27_7; try clear hfz27_8; try clear hfz27_9; try clear hfz33_0; try clear hfz33_1; try clear hfz33_10; try clear hfz33_11; try clear hfz33_2; try clear hfz33_3; try clear hfz33_4; try clear hfz33_5; try clear hfz33_6; try clear hfz33_7; try clear hfz33_8; try clear hfz33_9
 obtain ⟨x4_1, x42_1, rfl, HA, HK1, HO_4, BK171, HB⟩ := hrel
 cases gk with
 | zero => exact absurd HA.out (by simp [frame_Reply.l0])
 | succ k1 =>
  have H := HA.out
  clear HA
  simp only [frame_Reply.l0] at H
  by_cases c34 : x42_1 < (l0_6.length : Int)
  ·rw [if_pos c34] at H
   have c34b0 : decide (x42_1 < (l0_6.length : Int)) = true := decide_eq_true c34
   clear c34
   by_cases c35 : 0 ≤ x42_1
   case neg =>
    rw [if_neg c35] at H
    exact absurd H (by simp)
   rw [if_pos c35] at H
   have c35b0 : decide (0 ≤ x42_1) = true := decide_eq_true c35
   clear c35
   by_cases c36 : x42_1 < (l0_6.length : Int)
   case neg =>
    rw [if_neg c36] at H
    exact absurd H (by simp)
   rw [if_pos c36] at H
   have c36b0 : decide (x42_1 < (l0_6.length : Int)) = true := decide_eq_true c36
   clear c36
   replace H := Option.bind_eq_some_iff.mp H
   obtain ⟨t199, A370, H⟩ := H
   replace H : ((num_PutText.f k1 t199 ((rd_T65 l0_6 x42_1).f1)).bind fun t202 => (frame_Reply.l0 k1 t202 l0_6 (l0_6.length : Int) (wrap64 (x42_1 + 1)) a0_0 a0_1 a0_2 l0_3 a0_4 a0_5 l0_6 l0_7 a0_8 l0_9 a0_10 a0_11)) = some (r1, r2) := H
   have A37 := Aside0.mk A370
   clear A370
   replace H := Option.bind_eq_some_iff.mp H
   obtain ⟨t202, A380, H⟩ := H
   replace H : (frame_Reply.l0 k1 t202 l0_6 (l0_6.length : Int) (wrap64 (x42_1 + 1)) a0_0 a0_1 a0_2 l0_3 a0_4 a0_5 l0_6 l0_7 a0_8 l0_9 a0_10 a0_11) = some (r1, r2) := H
   have A38 := Aside0.mk A380
   clear A380
   have H' := Aside0.mk H
   clear H
   have p197 : 0 ≤ (x42_1 : Int) := of_decide_eq_true m27_
   have q197 : x42_1 < (l0_6.length : Int) := of_decide_eq_true m27_
   obtain ⟨ad197, e197, hx197_0, hx197_1⟩ := at_T65 HR0_6.out x42_1 p197 q197
   cases e197
   replace hx197_0 := (HB.out.cell (World.block_lt_of_cell? w _ hx197_0)).trans hx197_0
   replace hx197_1 := (HB.out.cell (World.block_lt_of_cell? w _ hx197_1)).trans hx197_1
   replace p197 := eq_true p197
   replace q197 := eq_true q197
   try go_wp2_with (first | ((with_reducible refine gate_dst (N := 6) rfl ?_); refine box_event ?hg (N := 6) ?hd (cs := #[.int .u32 0, .string (⟨#[]⟩ : ByteArray)]) (t := 65) ?hr ?_; (case hd => rfl); (case hg => rfl); (case hr => first | (go_simp; done) | (go_simp; rfl)); intro gb198 hg w39 hbox hb; have n0_ := Aside0.mk (Kd.V_below (Kd.V_elderB m26_ gb198 (Nat.le_of_eq hg.symm)) hb); have n1_ := Aside0.mk (blk_below (g := gb171) (o := .cells #[.int .i64 a0_0, .int .i64 a0_1, .int .i64 a0_2, .slice A0_3 l0_3.length c0_3, .string a0_4, .string a0_5, .slice (some ad197) l0_6.length c0_6, .slice A0_7 l0_7.length c0_7, .string a0_8, .slice A0_9 l0_9.length c0_9, .int .i64 a0_10, .int .i64 a0_11] 34 (0, 0)) m14_ hb); have n2_ := Aside0.mk (below_step m4_ hb); have n3_ := Aside0.mk (hbox); have n4_ := Aside0.mk ((by rw [hg]; exact (below_size m4_) : w.heap.size ≤ gb198)); have n5_ := Aside0.mk ((by rw [hg]; exact (below_size m4_) : w.heap.size ≤ gb198)); have n6_ := Aside0.mk ((by rw [hg]; exact Nat.ne_of_lt (blk_lt (g := gb171) (o := .cells #[.int .i64 a0_0, .int .i64 a0_1, .int .i64 a0_2, .slice A0_3 l0_3.length c0_3, .string a0_4, .string a0_5, .slice (some ad197) l0_6.length c0_6, .slice A0_7 l0_7.length c0_7, .string a0_8, .slice A0_9 l0_9.length c0_9, .int .i64 a0_10, .int .i64 a0_11] 34 (0, 0)) m14_) : gb171 ≠ gb198)); have n7_ := Aside0.mk ((by rw [hg]; exact Nat.ne_of_gt (blk_lt (g := gb171) (o := .cells #[.int .i64 a0_0, .int .i64 a0_1, .int .i64 a0_2, .slice A0_3 l0_3.length c0_3, .string a0_4, .string a0_5, .slice (some ad197) l0_6.length c0_6, .slice A0_7 l0_7.length c0_7, .string a0_8, .slice A0_9 l0_9.length c0_9, .int .i64 a0_10, .int .i64 a0_11] 34 (0, 0)) m14_) : gb198 ≠ gb171)); clear HO_4; clear BK171; clear HB; have HO_4 := n0_; have BK171 := n1_; have HB := n2_; have BK198 := n3_; have GW198 := n4_; have GE198 := n5_; have NB171_198 := n6_; have NB198_171 := n7_; clear n0_ n1_ n2_ n3_ n4_ n5_ n6_ n7_; clear hb hbox hg; have hnb40 := NB198_171.out; have hnc40 := NB171_198.out; obtain ⟨hcz41_0, hcz41_1⟩ := bc2_ BK198.out; obtain ⟨hfz41_0, hfz41_1⟩ := bf2_ BK198.out))
   have n0_ : Aside0 (Kd.V (Kd.int .u8) 5 ((w39.setCell ⟨gb198, 0, none⟩ (.int .u32 ((rd_T65 l0_6 x42_1).f0))).setCell ⟨gb198, 1, none⟩ (.string ((rd_T65 l0_6 x42_1).f1))) w.heap.size (fun k_ => (w.heap.size ≤ k_) ∧ k_ ≠ gb171 ∧ k_ ≠ gb198) u4 x4_1) := ⟨by (with_reducible repeat (first | apply Kd.V_alloc | apply Kd.V_drewN | apply Kd.V_drew)); exact Kd.V_mono (Kd.V_far (p := ⟨gb198, 1, none⟩) (Kd.V_far (p := ⟨gb198, 0, none⟩) (Kd.V_mono HO_4.out (fun k_ hk => (⟨hk, hk.2⟩ : _ ∧ k_ ≠ gb198))) (fun _ hk => hk.2) (.int .u32 ((rd_T65 l0_6 x42_1).f0))) (fun _ hk => hk.2) (.string ((rd_T65 l0_6 x42_1).f1))) (fun _ hk => ⟨hk.1.1.1, ⟨hk.1.1.2, hk.1.2⟩⟩)⟩
   have n1_ : Aside0 (((w39.setCell ⟨gb198, 0, none⟩ (.int .u32 ((rd_T65 l0_6 x42_1).f0))).setCell ⟨gb198, 1, none⟩ (.string ((rd_T65 l0_6 x42_1).f1))).heap[gb171]? = some (.cells #[.int .i64 a0_0, .int .i64 a0_1, .int .i64 a0_2, .slice A0_3 l0_3.length c0_3, .string a0_4, .string a0_5, .slice (some ad197) l0_6.length c0_6, .slice A0_7 l0_7.length c0_7, .string a0_8, .slice A0_9 l0_9.length c0_9, .int .i64 a0_10, .int .i64 a0_11] 34 (0, 0))) := ⟨by (with_reducible repeat (first | refine blk_drewN ?_ _ | refine blk_drew ?_ | refine blk_alloc ?_ _)); refine blk_far ?_ NB171_198.out _; (with_reducible repeat (first | refine blk_drewN ?_ _ | refine blk_drew ?_ | refine blk_alloc ?_ _)); refine blk_far ?_ NB171_198.out _; (with_reducible repeat (first | refine blk_drewN ?_ _ | refine blk_drew ?_ | refine blk_alloc ?_ _)); exact BK171.out⟩
   have n2_ : Aside0 (((w39.setCell ⟨gb198, 0, none⟩ (.int .u32 ((rd_T65 l0_6 x42_1).f0))).setCell ⟨gb198, 1, none⟩ (.string ((rd_T65 l0_6 x42_1).f1))).heap[gb198]? = some (.cells #[.int .u32 ((rd_T65 l0_6 x42_1).f0), .string ((rd_T65 l0_6 x42_1).f1)] 65 (0, 0))) := ⟨by (with_reducible repeat (first | refine blk_drewN ?_ _ | refine blk_drew ?_ | refine blk_alloc ?_ _)); refine blk_put (cs := #[.int .u32 ((rd_T65 l0_6 x42_1).f0), .string (⟨#[]⟩ : ByteArray)]) ?_ 1 _ rfl; (with_reducible repeat (first | refine blk_drewN ?_ _ | refine blk_drew ?_ | refine blk_alloc ?_ _)); refine blk_put (cs := #[.int .u32 0, .string (⟨#[]⟩ : ByteArray)]) ?_ 0 _ rfl; (with_reducible repeat (first | refine blk_drewN ?_ _ | refine blk_drew ?_ | refine blk_alloc ?_ _)); exact BK198.out⟩
   have n3_ : Aside0 (Below w.heap.size w ((w39.setCell ⟨gb198, 0, none⟩ (.int .u32 ((rd_T65 l0_6 x42_1).f0))).setCell ⟨gb198, 1, none⟩ (.string ((rd_T65 l0_6 x42_1).f1)))) := ⟨by repeat (first | (with_reducible first | exact HB.out | apply below_alloc | apply pw_below_drewN | apply below_drew1 | refine below_set ?_ GE171.out | refine below_set ?_ GE198.out) | exact HB.out)⟩
   (try clear HO_4)
   (try clear BK171)
   (try clear BK198)
   (try clear HB)
   generalize ((w39.setCell ⟨gb198, 0, none⟩ (.int .u32 ((rd_T65 l0_6 x42_1).f0))).setCell ⟨gb198, 1, none⟩ (.string ((rd_T65 l0_6 x42_1).f1))) = w42 at n0_ n1_ n2_ n3_ ⊢
   have HO_4 := n0_
   have BK171 := n1_
   have BK198 := n2_
   have HB := n3_
   clear n0_ n1_ n2_ n3_
   replace HO_4 := Aside0.mk (Kd.V_drew HO_4.out)
   replace BK171 := Aside0.mk (blk_drew BK171.out)
   replace BK198 := Aside0.mk (blk_drew BK198.out)
   replace HB := Aside0.mk (below_drew1 HB.out)
   obtain ⟨Ao44, co44, eo44⟩ := Kd.V_slice HO_4.out
   (first | subst eo44 | (injection eo44 with f1_ f2_ f3_; have f4_ := f1_.symm; have f5_ := f3_.symm; clear f1_ f2_ f3_; subst f4_; subst f5_))
   refine start_ (n := 9) (S := fun w' => w'.cell? ⟨gb198, 0, none⟩ = some (.int .u32 ((rd_T65 l0_6 x42_1).f0)) ∧ w'.cell? ⟨gb198, 1, none⟩ = some (.string ((rd_T65 l0_6 x42_1).f1))) (ds := []) (Ra_ [0, 9]) (by kernel_rfl) rfl rfl ⟨(blk_cell BK198.out 0).trans rfl, (blk_cell BK198.out 1).trans rfl⟩ (fun hHeld => ?_); refine with_tabW frame_Reply.tab9 frame_Reply.bits9 (fun HT_ HW_ => ?_)
   generalize w42.drew = w43 at HO_4 BK171 BK198 HB hHeld ⊢
   refine pI_ 0 (some 46) (Ra_ [1, 8]) (h := ?_)
   refine pI_ 1 (some 47) (Ra_ [2, 7]) (h := ?_)
   refine pI_ 5 (some 51) (Ra_ [2, 3, 1, 3]) (h := ?_)
   refine tI2_ 2 (some 48) (Ra_ [3, 2, 1, 3]) (h := ?_)
   refine pI_ 3 (some 49) (Ra_ [4, 1, 1, 3]) (h := ?_)
   refine tI2_ 6 (some 52) (Ra_ [4, 1, 2, 2]) (h := ?_)
   refine one_ (i := 4) (N := some 50) (Ra_ [7, 2]) rfl rfl (one_of HT_.out (by kernel_rfl)) (by decide) (fun K hK => ?_)
   refine goes_ Tryd.func33 (by kernel_rfl) rfl #[.slice Ao44 x4_1.length co44, .int .u64 (IntKind.u64.wrap ((rd_T65 l0_6 x42_1).f0))] (by rfl) rfl rfl m12_ ?_
   with_reducible refine (num_Put.calls k1 _ _ x4_1 (IntKind.u64.wrap ((rd_T65 l0_6 x42_1).f0)) t199 _ ?side1 ?side2 A37.out).mono ?_
   (case side1 => exact m36_)
   (case side2 => exact (Kd.V_reads' HO_4.out).2.1)
   rintro e w45 ⟨v200, rfl, ho0, hb⟩
   refine ⟨_, rfl, ?_⟩
   have n0_ := Aside0.mk (Kd.V_elder' m26_ (Kd.R_base ho0) hb)
   have n1_ := Aside0.mk (Kd.R_lower (Kd.R_newM (M := fun k_ => (w.heap.size ≤ k_)) ho0 (below_size m2_) (fun k_ h_ => h_)) (below_size m2_))
   have n2_ := Aside0.mk (blk_below (g := gb171) (o := .cells #[.int .i64 a0_0, .int .i64 a0_1, .int .i64 a0_2, .slice A0_3 l0_3.length c0_3, .string a0_4, .string a0_5, .slice (some ad197) l0_6.length c0_6, .slice A0_7 l0_7.length c0_7, .string a0_8, .slice A0_9 l0_9.length c0_9, .int .i64 a0_10, .int .i64 a0_11] 34 (0, 0)) m14_ hb)
   have n3_ := Aside0.mk (blk_below (g := gb198) (o := .cells #[.int .u32 ((rd_T65 l0_6 x42_1).f0), .string ((rd_T65 l0_6 x42_1).f1)] 65 (0, 0)) (by (with_reducible repeat (first | refine blk_drewN ?_ _ | refine blk_drew ?_ | refine blk_alloc ?_ _)); exact BK198.out) hb)
   have n4_ := Aside0.mk (below_step m2_ hb)
   clear HO_4 BK171 BK198 HB
   have HO_4 := n0_
   have HO201 := n1_
   have BK171 := n2_
   have BK198 := n3_
   have HB := n4_
   clear n0_ n1_ n2_ n3_ n4_
   (try clear hb)
   (try clear hb2)
   (try clear hk)
   (try clear hi)
   (try clear ho0)
   obtain ⟨Ao46, co46, eo46⟩ := Kd.R_slice HO201.out
   (first | subst eo46 | (injection eo46 with f1_ f2_ f3_; have f4_ := f1_.symm; have f5_ := f3_.symm; clear f1_ f2_ f3_; subst f4_; subst f5_))
   refine hK.out _ _ ⟨(blk_cell BK198.out 0).trans rfl, (blk_cell BK198.out 1).trans rfl⟩ (fun hHeld => ?_)
   clear hK K
   refine norm_ (a' := ?_) ?_ ?_
   rotate_left
   ·show Act.put _ (some 50) _ = _
    simp only [Act.put, sA_, sB_, sC_, i64_w, i32_w]
    rfl
   refine one_ (i := 7) (N := some 53) (Ra_ [8, 1]) rfl rfl (one_of HT_.out (by kernel_rfl)) (by decide) (fun K hK => ?_)
   refine goes_ Tryd.func31 (by kernel_rfl) rfl #[.slice Ao46 t199.length co46, .string ((rd_T65 l0_6 x42_1).f1)] (by rfl) rfl rfl m12_ ?_
   with_reducible refine (num_PutText.calls k1 _ _ t199 ((rd_T65 l0_6 x42_1).f1) t202 _ ?side1 ?side2 A38.out).mono ?_
   (case side1 => repeat (first | exact (Kd.R_reads' HO201.out).2.2 | (with_reducible refine Kd.C_alloc ?_ _) | (with_reducible refine Kd.C_drewN ?_ _) | (with_reducible refine Kd.C_drew ?_)))
   (case side2 => exact (Kd.R_reads' HO201.out).2.1)
   rintro e w47 ⟨v203, rfl, ho0, hb⟩
   refine ⟨_, rfl, ?_⟩
   have n0_ := Aside0.mk (Kd.V_elder' m26_ (Kd.R_base ho0) hb)
   have n1_ := Aside0.mk (Kd.R_elder' (by (with_reducible repeat (first | apply Kd.R_alloc | apply Kd.R_drewN | apply Kd.R_drew)); exact HO201.out) (Kd.R_base ho0) hb)
   have n2_ := Aside0.mk (Kd.R_lower (Kd.R_new' (Kd.R_newM (M := fun k_ => (w.heap.size ≤ k_)) ho0 (below_size m2_) (fun k_ h_ => h_)) (Kd.R_lt (by (with_reducible repeat (first | apply Kd.R_alloc | apply Kd.R_drewN | apply Kd.R_drew)); exact HO201.out))) (below_size m2_))
   have n3_ := Aside0.mk (blk_below (g := gb171) (o := .cells #[.int .i64 a0_0, .int .i64 a0_1, .int .i64 a0_2, .slice A0_3 l0_3.length c0_3, .string a0_4, .string a0_5, .slice (some ad197) l0_6.length c0_6, .slice A0_7 l0_7.length c0_7, .string a0_8, .slice A0_9 l0_9.length c0_9, .int .i64 a0_10, .int .i64 a0_11] 34 (0, 0)) m14_ hb)
   have n4_ := Aside0.mk (blk_below (g := gb198) (o := .cells #[.int .u32 ((rd_T65 l0_6 x42_1).f0), .string ((rd_T65 l0_6 x42_1).f1)] 65 (0, 0)) (by (with_reducible repeat (first | refine blk_drewN ?_ _ | refine blk_drew ?_ | refine blk_alloc ?_ _)); exact BK198.out) hb)
   have n5_ := Aside0.mk (below_step m2_ hb)
   clear HO_4 HO201 BK171 BK198 HB
   have HO_4 := n0_
   have HO201 := n1_
   have HO204 := n2_
   have BK171 := n3_
   have BK198 := n4_
   have HB := n5_
   clear n0_ n1_ n2_ n3_ n4_ n5_
   (try clear hb)
   (try clear hb2)
   (try clear hk)
   (try clear hi)
   (try clear ho0)
   refine hK.out _ _ ⟨(blk_cell BK198.out 0).trans rfl, (blk_cell BK198.out 1).trans rfl⟩ (fun hHeld => ?_)
   clear hK K
   refine norm_ (a' := ?_) ?_ ?_
   rotate_left
   ·show Act.put _ (some 53) _ = _
    simp only [Act.put, sA_, sB_, sC_, i64_w, i32_w]
    rfl
   refine pI_ 8 (some 4) (Ra_ [9]) (h := ?_)
   refine done_ (done_of HT_.out (by kernel_rfl)) ?_
   try go_wp2
   go_roundg k1
   case measure => have := HK1.out; omega
   case rel => exact ⟨(t202), (wrap64 (x42_1 + 1)), m28_, H', ⟨by have := HK1.out; omega⟩, ⟨Kd.R_V (by (with_reducible repeat (first | apply Kd.R_alloc | apply Kd.R_drewN | apply Kd.R_drew)); exact Kd.R_mono (Kd.R_types HO204.out BK171.out (by decide)) (fun _ hk => ⟨hk.1.1.1, hk.2⟩))⟩, ⟨by (with_reducible repeat (first | refine blk_drewN ?_ _ | refine blk_drew ?_ | refine blk_alloc ?_ _)); exact BK171.out⟩, ⟨by repeat (first | (with_reducible first | exact HB.out | apply below_alloc | apply pw_below_drewN | apply below_drew1 | refine below_set ?_ GE171.out | refine below_set ?_ GE198.out) | exact HB.out)⟩⟩
  rw [if_neg c34] at H
  have c34b0 : decide (x42_1 < (l0_6.length : Int)) = false := decide_eq_false c34
  clear c34
  obtain ⟨y205, hy205⟩ : ∃ y_ : List Int, y_ = (([(l0_7.length : Int)] : List Int)) := ⟨_, rfl⟩
  replace H : ((frame_put.f k1 x4_1 y205).bind fun t208 => (frame_Reply.l1 k1 t208 l0_7 (l0_7.length : Int) 0 a0_0 a0_1 a0_2 l0_3 a0_4 a0_5 l0_6 l0_7 a0_8 l0_9 a0_10 a0_11)) = some (r1, r2) := by first | (rw [hy205]; with_reducible exact H) | (have H2_ := (Option.bind_some _ _).symm.trans H; rw [hy205]; with_reducible exact H2_) | (have H2_ := (Option.bind_some _ _).symm.trans H; with_reducible exact H2_) | with_reducible exact H | (rw [hy205]; exact H) | exact H
  have Ny205 := Aside0.mk hy205
  clear hy205
  replace H := Option.bind_eq_some_iff.mp H
  obtain ⟨t208, A480, H⟩ := H
  replace H : (frame_Reply.l1 k1 t208 l0_7 (l0_7.length : Int) 0 a0_0 a0_1 a0_2 l0_3 a0_4 a0_5 l0_6 l0_7 a0_8 l0_9 a0_10 a0_11) = some (r1, r2) := H
  have A48 := Aside0.mk A480
  clear A480
  have H' := Aside0.mk H
  clear H
  obtain ⟨hcz49_0, hcz49_1, hcz49_2, hcz49_3, hcz49_4, hcz49_5, hcz49_6, hcz49_7, hcz49_8, hcz49_9, hcz49_10, hcz49_11⟩ := bc12_ BK171.out
  obtain ⟨hfz49_0, hfz49_1, hfz49_2, hfz49_3, hfz49_4, hfz49_5, hfz49_6, hfz49_7, hfz49_8, hfz49_9, hfz49_10, hfz49_11⟩ := bf12_ BK171.out
  go_wp2_with (first | ((with_reducible refine gate_dst (N := 59) rfl ?_); refine Kd.R_lit (Kd.int .i64) _ 3 ?hg (N := 59) ?hd (xs := ([(l0_7.length : Int)] : List Int)) (inner := [.int .i64 (l0_7.length : Int)]) (ok := fun _ => True) (okp := fun _ => True) ?hr ?hp (fun _ hk => hk) trivial (Below.refl _ _) (Nat.le_refl _) (by simp) ?_; (case hd => rfl); (case hg => rfl); (case hr => first | (go_simp; done) | (go_simp; rfl)); (case hp => exact (Reps.one (show Kd.M (Kd.int .i64) _ _ _ (l0_7.length : Int) [.int .i64 (l0_7.length : Int)] from rfl) (Reps.none _ _))); intro v206 w50 ho51 hb hg_ hnew_; clear hg_ hnew_; (first | rw [← Ny205.out] at ho51 | (simp only [Int.reduceToNat] at ho51; rw [← Ny205.out] at ho51)); replace HO_4 := Aside0.mk (Kd.V_elder' m26_ (Kd.R_base ho51) hb); have HO207 := Aside0.mk (Kd.R_lower (Kd.R_newM (M := fun k_ => (w.heap.size ≤ k_)) ho51 (below_size m4_) (fun k_ h_ => h_)) (below_size m4_)); replace BK171 := Aside0.mk (blk_below (g := gb171) (o := .cells #[.int .i64 a0_0, .int .i64 a0_1, .int .i64 a0_2, .slice A0_3 l0_3.length c0_3, .string a0_4, .string a0_5, .slice A0_6 l0_6.length c0_6, .slice A0_7 l0_7.length c0_7, .string a0_8, .slice A0_9 l0_9.length c0_9, .int .i64 a0_10, .int .i64 a0_11] 34 (0, 0)) m14_ hb); replace HB := Aside0.mk (below_step m4_ hb); clear hb ho51; obtain ⟨Ao52, co52, eo52⟩ := Kd.V_slice HO_4.out; subst eo52; obtain ⟨Ao53, co53, eo53⟩ := Kd.R_slice HO207.out; subst eo53) | ((with_reducible refine gate_callee (f := 30) rfl ?_); refine goesL_ (some 60) rfl rfl Tryd.func30 (by kernel_rfl) rfl #[.slice Ao52 x4_1.length co52, .slice Ao53 y205.length co53] rfl m12_ ?_; (with_reducible refine (frame_put.calls k1 (fun k_ => (((w.heap.size ≤ k_) ∧ k_ ≠ gb171) ∧ some k_ ≠ (.slice Ao53 y205.length co53 : Value).ownBlock)) _ _ x4_1 _ _ y205 t208 _ ?side1 ?side2 ?side3 A48.out).mono ?_); (case side1 => exact HO_4.out); (case side2 => repeat (first | exact (Kd.R_reads' HO207.out).2.2 | (with_reducible refine Kd.C_alloc ?_ _) | (with_reducible refine Kd.C_drewN ?_ _) | (with_reducible refine Kd.C_drew ?_))); (case side3 => exact (Kd.R_reads' HO207.out).2.1); rintro e w54 ⟨v209, rfl, ho0, hb⟩; refine ⟨_, rfl, ?_⟩; have n0_ := Aside0.mk (Kd.V_below m26_ hb); have n1_ := Aside0.mk (Kd.R_below (by (with_reducible repeat (first | apply Kd.R_alloc | apply Kd.R_drewN | apply Kd.R_drew)); exact HO207.out) hb); have n2_ := Aside0.mk (Kd.V_lower (Kd.V_mono (ok' := fun k_ => (w.heap.size ≤ k_) ∧ some k_ ≠ (.slice Ao53 y205.length co53 : Value).ownBlock ∧ k_ ≠ gb171) ho0 (fun k_ hk_ => ⟨Or.elim hk_ (fun hs_ => hs_.1.1) (fun hn_ => (Nat.le_trans (below_size m4_) hn_)), Or.elim hk_ (fun hs_ => hs_.2) (fun hn_ => (Kd.fresh' (Kd.R_lt (by (with_reducible repeat (first | apply Kd.R_alloc | apply Kd.R_drewN | apply Kd.R_drew)); exact HO207.out)) k_ hn_)), Or.elim hk_ (fun hs_ => hs_.1.2) (fun hn_ => (Kd.freshB (g := gb171) (o := .cells #[.int .i64 a0_0, .int .i64 a0_1, .int .i64 a0_2, .slice A0_3 l0_3.length c0_3, .string a0_4, .string a0_5, .slice A0_6 l0_6.length c0_6, .slice A0_7 l0_7.length c0_7, .string a0_8, .slice A0_9 l0_9.length c0_9, .int .i64 a0_10, .int .i64 a0_11] 34 (0, 0)) m14_ k_ hn_))⟩)) (below_size m4_)); have n3_ := Aside0.mk (blk_below (g := gb171) (o := .cells #[.int .i64 a0_0, .int .i64 a0_1, .int .i64 a0_2, .slice A0_3 l0_3.length c0_3, .string a0_4, .string a0_5, .slice A0_6 l0_6.length c0_6, .slice A0_7 l0_7.length c0_7, .string a0_8, .slice A0_9 l0_9.length c0_9, .int .i64 a0_10, .int .i64 a0_11] 34 (0, 0)) m14_ hb); have n4_ := Aside0.mk (below_step m4_ hb); clear HO_4; clear HO207; clear BK171; clear HB; have HO_4 := n0_; have HO207 := n1_; have HO210 := n2_; have BK171 := n3_; have HB := n4_; clear n0_ n1_ n2_ n3_ n4_; (try clear hb); (try clear hb2); (try clear hk); (try clear hi); (try clear ho0); obtain ⟨hcz55_0, hcz55_1, hcz55_2, hcz55_3, hcz55_4, hcz55_5, hcz55_6, hcz55_7, hcz55_8, hcz55_9, hcz55_10, hcz55_11⟩ := bc12_ BK171.out; obtain ⟨hfz55_0, hfz55_1, hfz55_2, hfz55_3, hfz55_4, hfz55_5, hfz55_6, hfz55_7, hfz55_8, hfz55_9, hfz55_10, hfz55_11⟩ := bf12_ BK171.out))
  go_loopg [4, 64] k1 (fun kq v4 v64 w' => ∃ (x4_2 : List Int) (x64_2 : Int), v64 = .int .i64 x64_2 ∧ Aside0 (frame_Reply.l1 kq x4_2 l0_7 (l0_7.length : Int) x64_2 a0_0 a0_1 a0_2 l0_3 a0_4 a0_5 l0_6 l0_7 a0_8 l0_9 a0_10 a0_11 = some (r1, r2)) ∧ Aside0 (kq ≤ k1) ∧ Aside0 (Kd.V (Kd.int .u8) 5 w' w.heap.size (fun k_ => (w.heap.size ≤ k_) ∧ k_ ≠ gb171) v4 x4_2) ∧ Aside0 (w'.heap[gb171]? = some (.cells #[.int .i64 a0_0, .int .i64 a0_1, .int .i64 a0_2, (.slice A0_3 l0_3.length c0_3), .string a0_4, .string a0_5, (.slice A0_6 l0_6.length c0_6), (.slice A0_7 l0_7.length c0_7), .string a0_8, (.slice A0_9 l0_9.length c0_9), .int .i64 a0_10, .int .i64 a0_11] 34 (0, 0))) ∧ Aside0 (Below w.heap.size w w'))
  case atStart => exact ⟨(t208), (0), m28_, H', ⟨Nat.le_refl _⟩, ⟨by (with_reducible repeat (first | apply Kd.V_alloc | apply Kd.V_drewN | apply Kd.V_drew)); exact Kd.V_mono HO210.out (fun _ hk => ⟨hk.1, hk.2.2⟩)⟩, ⟨by (with_reducible repeat (first | refine blk_drewN ?_ _ | refine blk_drew ?_ | refine blk_alloc ?_ _)); exact BK171.out⟩, ⟨m40_⟩⟩
  clear H'
  try clear c1; try clear p1; try clear q1; try clear hx1; try clear p2; try clear c3; try clear c4; try clear p6; try clear c13; try clear c15; try clear p19; try clear q19; try clear hx19; try clear c30; try clear c31; try clear c32; try clear c33; try clear c34; try clear c34b0; try clear c35; try clear c35b0; try clear c36; try clear c36b0; try clear c40; try clear hcz10_0; try clear hcz10_1; try clear hcz10_10; try clear hcz10_11; try clear hcz10_2; try clear hcz10_3; try clear hcz10_4; try clear hcz10_5; try clear hcz10_6; try clear hcz10_7; try clear hcz10_8; try clear hcz10_9; try clear hcz14_0; try clear hcz14_1; try clear hcz14_10; try clear hcz14_11; try clear hcz14_2; try clear hcz14_3; try clear hcz14_4; try clear hcz14_5; try clear hcz14_6; try clear hcz14_7; try clear hcz14_8; try clear hcz14_9; try clear hcz27_0; try clear hcz27_1; try clear hcz27_10; try clear hcz27_11; try clear hcz27_2; try clear hcz27_3; try clear hcz27_4; try clear hcz27_5; try clear hcz27_6; try clear hcz27_7; try clear hcz27_8; try clear hcz27_9; try clear hcz33_0; try clear hcz33_1; try clear hcz33_10; try clear hcz33_11; try clear hcz33_2; try clear hcz33_3; try clear hcz33_4; try clear hcz33_5; try clear hcz33_6; try clear hcz33_7; try clear hcz33_8; try clear hcz33_9; try clear hcz41_0; try clear hcz41_1; try clear hcz49_0; try clear hcz49_1; try clear hcz49_10; try clear hcz49_11; try clear hcz49_2; try clear hcz49_3; try clear hcz49_4; try clear hcz49_5; try clear hcz49_6; try clear hcz49_7; try clear hcz49_8; try clear hcz49_9; try clear hcz55_0; try clear hcz55_1; try clear hcz55_10; try clear hcz55_11; try clear hcz55_2; try clear hcz55_3; try clear hcz55_4; try clear hcz55_5; try clear hcz55_6; try clear hcz55_7; try clear hcz55_8; try clear hcz55_9; try clear hfz10_0; try clear hfz10_1; try clear hfz10_10; try clear hfz10_11; try clear hfz10_2; try clear hfz10_3; try clear hfz10_4; try clear hfz10_5; try clear hfz10_6; try clear hfz10_7; try clear hfz10_8; try clear hfz10_9; try clear hfz14_0; try clear hfz14_1; try clear hfz14_10; try clear hfz14_11; try clear hfz14_2; try clear hfz14_3; try clear hfz14_4; try clear hfz14_5; try clear hfz14_6; try clear hfz14_7; try clear hfz14_8; try clear hfz14_9; try clear hfz27_0; try clear hfz27_1; try clear hfz27_10; try clear hfz27_11; try clear hfz27_2; try clear hfz27_3; try clear hfz27_4; try clear hfz27_5; try clear hfz27_6; try clear hfz27_7; try clear hfz27_8; try clear hfz27_9; try clear hfz33_0; try clear hfz33_1; try clear hfz33_10; try clear hfz33_11; try clear hfz33_2; try clear hfz33_3; try clear hfz33_4; try clear hfz33_5; try clear hfz33_6; try clear hfz33_7; try clear hfz33_8; try clear hfz33_9; try clear hfz41_0; try clear hfz41_1; try clear hfz49_0; try clear hfz49_1; try clear hfz49_10; try clear hfz49_11; try clear hfz49_2; try clear hfz49_3; try clear hfz49_4; try clear hfz49_5; try clear hfz49_6; try clear hfz49_7; try clear hfz49_8; try clear hfz49_9; try clear hfz55_0; try clear hfz55_1; try clear hfz55_10; try clear hfz55_11; try clear hfz55_2; try clear hfz55_3; try clear hfz55_4; try clear hfz55_5; try clear hfz55_6; try clear hfz55_7; try clear hfz55_8; try clear hfz55_9; try clear hx197_0; try clear hx197_1; try clear p197; try clear p2; try clear q197
  obtain ⟨x4_2, x64_2, rfl, HA, HK2, HO_4, BK171, HB⟩ := hrel
  cases gk with
  | zero => exact absurd HA.out (by simp [frame_Reply.l1])
  | succ k2 =>
   have H := HA.out
   clear HA
   simp only [frame_Reply.l1] at H
   by_cases c56 : x64_2 < (l0_7.length : Int)
   ·rw [if_pos c56] at H
    have c56b0 : decide (x64_2 < (l0_7.length : Int)) = true := decide_eq_true c56
    clear c56
    by_cases c57 : 0 ≤ x64_2
    case neg =>
     rw [if_neg c57] at H
     exact absurd H (by simp)
    rw [if_pos c57] at H
    have c57b0 : decide (0 ≤ x64_2) = true := decide_eq_true c57
    clear c57
    by_cases c58 : x64_2 < (l0_7.length : Int)
    case neg =>
     rw [if_neg c58] at H
     exact absurd H (by simp)
    rw [if_pos c58] at H
    have c58b0 : decide (x64_2 < (l0_7.length : Int)) = true := decide_eq_true c58
    clear c58
    obtain ⟨y213, hy213⟩ : ∃ y_ : List Int, y_ = (([(rd_T74 l0_7 x64_2).f0, (rd_T74 l0_7 x64_2).f1] : List Int)) := ⟨_, rfl⟩
    replace H : ((frame_put.f k2 x4_2 y213).bind fun t216 => (frame_Reply.l1 k2 t216 l0_7 (l0_7.length : Int) (wrap64 (x64_2 + 1)) a0_0 a0_1 a0_2 l0_3 a0_4 a0_5 l0_6 l0_7 a0_8 l0_9 a0_10 a0_11)) = some (r1, r2) := by first | (rw [hy213]; with_reducible exact H) | (have H2_ := (Option.bind_some _ _).symm.trans H; rw [hy213]; with_reducible exact H2_) | (have H2_ := (Option.bind_some _ _).symm.trans H; with_reducible exact H2_) | with_reducible exact H | (rw [hy213]; exact H) | exact H
    have Ny213 := Aside0.mk hy213
    clear hy213
    replace H := Option.bind_eq_some_iff.mp H
    obtain ⟨t216, A590, H⟩ := H
    replace H : (frame_Reply.l1 k2 t216 l0_7 (l0_7.length : Int) (wrap64 (x64_2 + 1)) a0_0 a0_1 a0_2 l0_3 a0_4 a0_5 l0_6 l0_7 a0_8 l0_9 a0_10 a0_11) = some (r1, r2) := H
    have A59 := Aside0.mk A590
    clear A590
    have H' := Aside0.mk H
    clear H
    have p211 : 0 ≤ (x64_2 : Int) := of_decide_eq_true m27_
    have q211 : x64_2 < (l0_7.length : Int) := of_decide_eq_true m27_
    obtain ⟨ad211, e211, hx211_0, hx211_1⟩ := at_T74 HR0_7.out x64_2 p211 q211
    cases e211
    replace hx211_0 := (HB.out.cell (World.block_lt_of_cell? w _ hx211_0)).trans hx211_0
    replace hx211_1 := (HB.out.cell (World.block_lt_of_cell? w _ hx211_1)).trans hx211_1
    replace p211 := eq_true p211
    replace q211 := eq_true q211
    go_wp2_with (first | ((with_reducible refine gate_dst (N := 8) rfl ?_); refine box_event ?hg (N := 8) ?hd (cs := #[.int .i64 0, .int .i64 0]) (t := 74) ?hr ?_; (case hd => rfl); (case hg => rfl); (case hr => first | (go_simp; done) | (go_simp; rfl)); intro gb212 hg w60 hbox hb; have n0_ := Aside0.mk (Kd.V_below (Kd.V_elderB m26_ gb212 (Nat.le_of_eq hg.symm)) hb); have n1_ := Aside0.mk (blk_below (g := gb171) (o := .cells #[.int .i64 a0_0, .int .i64 a0_1, .int .i64 a0_2, .slice A0_3 l0_3.length c0_3, .string a0_4, .string a0_5, .slice A0_6 l0_6.length c0_6, .slice (some ad211) l0_7.length c0_7, .string a0_8, .slice A0_9 l0_9.length c0_9, .int .i64 a0_10, .int .i64 a0_11] 34 (0, 0)) m14_ hb); have n2_ := Aside0.mk (below_step m4_ hb); have n3_ := Aside0.mk (hbox); have n4_ := Aside0.mk ((by rw [hg]; exact (below_size m4_) : w.heap.size ≤ gb212)); have n5_ := Aside0.mk ((by rw [hg]; exact (below_size m4_) : w.heap.size ≤ gb212)); have n6_ := Aside0.mk ((by rw [hg]; exact Nat.ne_of_lt (blk_lt (g := gb171) (o := .cells #[.int .i64 a0_0, .int .i64 a0_1, .int .i64 a0_2, .slice A0_3 l0_3.length c0_3, .string a0_4, .string a0_5, .slice A0_6 l0_6.length c0_6, .slice (some ad211) l0_7.length c0_7, .string a0_8, .slice A0_9 l0_9.length c0_9, .int .i64 a0_10, .int .i64 a0_11] 34 (0, 0)) m14_) : gb171 ≠ gb212)); have n7_ := Aside0.mk ((by rw [hg]; exact Nat.ne_of_gt (blk_lt (g := gb171) (o := .cells #[.int .i64 a0_0, .int .i64 a0_1, .int .i64 a0_2, .slice A0_3 l0_3.length c0_3, .string a0_4, .string a0_5, .slice A0_6 l0_6.length c0_6, .slice (some ad211) l0_7.length c0_7, .string a0_8, .slice A0_9 l0_9.length c0_9, .int .i64 a0_10, .int .i64 a0_11] 34 (0, 0)) m14_) : gb212 ≠ gb171)); clear HO_4; clear BK171; clear HB; have HO_4 := n0_; have BK171 := n1_; have HB := n2_; have BK212 := n3_; have GW212 := n4_; have GE212 := n5_; have NB171_212 := n6_; have NB212_171 := n7_; clear n0_ n1_ n2_ n3_ n4_ n5_ n6_ n7_; clear hb hbox hg; have hnb61 := NB212_171.out; have hnc61 := NB171_212.out; obtain ⟨hcz62_0, hcz62_1⟩ := bc2_ BK212.out; obtain ⟨hfz62_0, hfz62_1⟩ := bf2_ BK212.out) | ((with_reducible refine gate_dst (N := 73) rfl ?_); refine Kd.R_lit (Kd.int .i64) _ 3 ?hg (N := 73) ?hd (xs := ([(rd_T74 l0_7 x64_2).f0, (rd_T74 l0_7 x64_2).f1] : List Int)) (inner := [.int .i64 ((rd_T74 l0_7 x64_2).f0), .int .i64 ((rd_T74 l0_7 x64_2).f1)]) (ok := fun _ => True) (okp := fun _ => True) ?hr ?hp (fun _ hk => hk) trivial (Below.refl _ _) (Nat.le_refl _) (by simp) ?_; (case hd => rfl); (case hg => rfl); (case hr => first | (go_simp; done) | (go_simp; rfl)); (case hp => exact (Reps.one (show Kd.M (Kd.int .i64) _ _ _ ((rd_T74 l0_7 x64_2).f0) [.int .i64 ((rd_T74 l0_7 x64_2).f0)] from rfl) (Reps.one (show Kd.M (Kd.int .i64) _ _ _ ((rd_T74 l0_7 x64_2).f1) [.int .i64 ((rd_T74 l0_7 x64_2).f1)] from rfl) (Reps.none _ _)))); intro v214 w63 ho64 hb hg_ hnew_; clear hg_ hnew_; (first | rw [← Ny213.out] at ho64 | (simp only [Int.reduceToNat] at ho64; rw [← Ny213.out] at ho64)); have n0_ := Aside0.mk (Kd.V_elder' (by (with_reducible repeat (first | apply Kd.V_alloc | apply Kd.V_drewN | apply Kd.V_drew)); exact (Kd.V_mono (Kd.V_far (p := ⟨gb212, 1, none⟩) (Kd.V_far (p := ⟨gb212, 0, none⟩) (Kd.V_mono HO_4.out (fun k_ hk => (⟨hk, hk.2⟩ : _ ∧ k_ ≠ gb212))) (fun _ hk => hk.2) (.int .i64 ((rd_T74 l0_7 x64_2).f0))) (fun _ hk => hk.2) (.int .i64 ((rd_T74 l0_7 x64_2).f1))) (fun _ h_ => h_.1))) (Kd.R_base ho64) hb); have n1_ := Aside0.mk (Kd.R_lower (Kd.R_newM (M := fun k_ => (w.heap.size ≤ k_)) ho64 (below_size m1_) (fun k_ h_ => h_)) (below_size m1_)); have n2_ := Aside0.mk (blk_below (g := gb171) (o := .cells #[.int .i64 a0_0, .int .i64 a0_1, .int .i64 a0_2, .slice A0_3 l0_3.length c0_3, .string a0_4, .string a0_5, .slice A0_6 l0_6.length c0_6, .slice (some ad211) l0_7.length c0_7, .string a0_8, .slice A0_9 l0_9.length c0_9, .int .i64 a0_10, .int .i64 a0_11] 34 (0, 0)) (by (with_reducible repeat (first | refine blk_drewN ?_ _ | refine blk_drew ?_ | refine blk_alloc ?_ _)); refine blk_far ?_ NB171_212.out _; (with_reducible repeat (first | refine blk_drewN ?_ _ | refine blk_drew ?_ | refine blk_alloc ?_ _)); refine blk_far ?_ NB171_212.out _; (with_reducible repeat (first | refine blk_drewN ?_ _ | refine blk_drew ?_ | refine blk_alloc ?_ _)); exact BK171.out) hb); have n3_ := Aside0.mk (blk_below (g := gb212) (o := .cells #[.int .i64 ((rd_T74 l0_7 x64_2).f0), .int .i64 ((rd_T74 l0_7 x64_2).f1)] 74 (0, 0)) (by (with_reducible repeat (first | refine blk_drewN ?_ _ | refine blk_drew ?_ | refine blk_alloc ?_ _)); refine blk_put (cs := #[.int .i64 ((rd_T74 l0_7 x64_2).f0), .int .i64 0]) ?_ 1 _ rfl; (with_reducible repeat (first | refine blk_drewN ?_ _ | refine blk_drew ?_ | refine blk_alloc ?_ _)); refine blk_put (cs := #[.int .i64 0, .int .i64 0]) ?_ 0 _ rfl; (with_reducible repeat (first | refine blk_drewN ?_ _ | refine blk_drew ?_ | refine blk_alloc ?_ _)); exact BK212.out) hb); have n4_ := Aside0.mk (below_step m1_ hb); clear HO_4; clear BK171; clear BK212; clear HB; have HO_4 := n0_; have HO215 := n1_; have BK171 := n2_; have BK212 := n3_; have HB := n4_; clear n0_ n1_ n2_ n3_ n4_; clear hb ho64; obtain ⟨Ao65, co65, eo65⟩ := Kd.V_slice HO_4.out; subst eo65; obtain ⟨Ao66, co66, eo66⟩ := Kd.R_slice HO215.out; subst eo66) | ((with_reducible refine gate_callee (f := 30) rfl ?_); refine goesL_ (some 74) rfl rfl Tryd.func30 (by kernel_rfl) rfl #[.slice Ao65 x4_2.length co65, .slice Ao66 y213.length co66] rfl m12_ ?_; (with_reducible refine (frame_put.calls k2 (fun k_ => ((((w.heap.size ≤ k_) ∧ k_ ≠ gb171) ∧ k_ ≠ gb212) ∧ some k_ ≠ (.slice Ao66 y213.length co66 : Value).ownBlock)) _ _ x4_2 _ _ y213 t216 _ ?side1 ?side2 ?side3 A59.out).mono ?_); (case side1 => exact HO_4.out); (case side2 => repeat (first | exact (Kd.R_reads' HO215.out).2.2 | (with_reducible refine Kd.C_alloc ?_ _) | (with_reducible refine Kd.C_drewN ?_ _) | (with_reducible refine Kd.C_drew ?_))); (case side3 => exact (Kd.R_reads' HO215.out).2.1); rintro e w67 ⟨v217, rfl, ho0, hb⟩; refine ⟨_, rfl, ?_⟩; have n0_ := Aside0.mk (Kd.V_below m26_ hb); have n1_ := Aside0.mk (Kd.R_below (by (with_reducible repeat (first | apply Kd.R_alloc | apply Kd.R_drewN | apply Kd.R_drew)); exact HO215.out) hb); have n2_ := Aside0.mk (Kd.V_lower (Kd.V_mono (ok' := fun k_ => (w.heap.size ≤ k_) ∧ some k_ ≠ (.slice Ao66 y213.length co66 : Value).ownBlock ∧ k_ ≠ gb171 ∧ k_ ≠ gb212) ho0 (fun k_ hk_ => ⟨Or.elim hk_ (fun hs_ => hs_.1.1.1) (fun hn_ => (Nat.le_trans (below_size m1_) hn_)), Or.elim hk_ (fun hs_ => hs_.2) (fun hn_ => (Kd.fresh' (Kd.R_lt (by (with_reducible repeat (first | apply Kd.R_alloc | apply Kd.R_drewN | apply Kd.R_drew)); exact HO215.out)) k_ hn_)), Or.elim hk_ (fun hs_ => hs_.1.1.2) (fun hn_ => (Kd.freshB (g := gb171) (o := .cells #[.int .i64 a0_0, .int .i64 a0_1, .int .i64 a0_2, .slice A0_3 l0_3.length c0_3, .string a0_4, .string a0_5, .slice A0_6 l0_6.length c0_6, .slice (some ad211) l0_7.length c0_7, .string a0_8, .slice A0_9 l0_9.length c0_9, .int .i64 a0_10, .int .i64 a0_11] 34 (0, 0)) m14_ k_ hn_)), Or.elim hk_ (fun hs_ => hs_.1.2) (fun hn_ => (Kd.freshB (g := gb212) (o := .cells #[.int .i64 ((rd_T74 l0_7 x64_2).f0), .int .i64 ((rd_T74 l0_7 x64_2).f1)] 74 (0, 0)) (by (with_reducible repeat (first | refine blk_drewN ?_ _ | refine blk_drew ?_ | refine blk_alloc ?_ _)); exact BK212.out) k_ hn_))⟩)) (below_size m1_)); have n3_ := Aside0.mk (blk_below (g := gb171) (o := .cells #[.int .i64 a0_0, .int .i64 a0_1, .int .i64 a0_2, .slice A0_3 l0_3.length c0_3, .string a0_4, .string a0_5, .slice A0_6 l0_6.length c0_6, .slice (some ad211) l0_7.length c0_7, .string a0_8, .slice A0_9 l0_9.length c0_9, .int .i64 a0_10, .int .i64 a0_11] 34 (0, 0)) m14_ hb); have n4_ := Aside0.mk (blk_below (g := gb212) (o := .cells #[.int .i64 ((rd_T74 l0_7 x64_2).f0), .int .i64 ((rd_T74 l0_7 x64_2).f1)] 74 (0, 0)) (by (with_reducible repeat (first | refine blk_drewN ?_ _ | refine blk_drew ?_ | refine blk_alloc ?_ _)); exact BK212.out) hb); have n5_ := Aside0.mk (below_step m1_ hb); clear HO_4; clear HO215; clear BK171; clear BK212; clear HB; have HO_4 := n0_; have HO215 := n1_; have HO218 := n2_; have BK171 := n3_; have BK212 := n4_; have HB := n5_; clear n0_ n1_ n2_ n3_ n4_ n5_; (try clear hb); (try clear hb2); (try clear hk); (try clear hi); (try clear ho0)))
    go_roundg k2
    case measure => have := HK1.out; have := HK2.out; omega
    case rel => exact ⟨(t216), (wrap64 (x64_2 + 1)), m28_, H', ⟨by have := HK1.out; have := HK2.out; omega⟩, ⟨by (with_reducible repeat (first | apply Kd.V_alloc | apply Kd.V_drewN | apply Kd.V_drew)); exact Kd.V_mono HO218.out (fun _ hk => ⟨hk.1, hk.2.2.1⟩)⟩, ⟨by (with_reducible repeat (first | refine blk_drewN ?_ _ | refine blk_drew ?_ | refine blk_alloc ?_ _)); exact BK171.out⟩, ⟨by repeat (first | (with_reducible first | exact HB.out | apply below_alloc | apply pw_below_drewN | apply below_drew1 | refine below_set ?_ GE171.out | refine below_set ?_ GE212.out) | exact HB.out)⟩⟩
   rw [if_neg c56] at H
   have c56b0 : decide (x64_2 < (l0_7.length : Int)) = false := decide_eq_false c56
   clear c56
   replace H := Option.bind_eq_some_iff.mp H
   obtain ⟨t219, A680, H⟩ := H
   replace H : ((frame_put.f k2 t219 (([(l0_9.length : Int)] : List Int))).bind fun t225 => (frame_Reply.l2 k2 t225 l0_9 (l0_9.length : Int) 0 a0_0 a0_1 a0_2 l0_3 a0_4 a0_5 l0_6 l0_7 a0_8 l0_9 a0_10 a0_11)) = some (r1, r2) := H
   have A68 := Aside0.mk A680
   clear A680
   obtain ⟨y222, hy222⟩ : ∃ y_ : List Int, y_ = (([(l0_9.length : Int)] : List Int)) := ⟨_, rfl⟩
   replace H : ((frame_put.f k2 t219 y222).bind fun t225 => (frame_Reply.l2 k2 t225 l0_9 (l0_9.length : Int) 0 a0_0 a0_1 a0_2 l0_3 a0_4 a0_5 l0_6 l0_7 a0_8 l0_9 a0_10 a0_11)) = some (r1, r2) := by first | (rw [hy222]; with_reducible exact H) | (have H2_ := (Option.bind_some _ _).symm.trans H; rw [hy222]; with_reducible exact H2_) | (have H2_ := (Option.bind_some _ _).symm.trans H; with_reducible exact H2_) | with_reducible exact H | (rw [hy222]; exact H) | exact H
   have Ny222 := Aside0.mk hy222
   clear hy222
   replace H := Option.bind_eq_some_iff.mp H
   obtain ⟨t225, A690, H⟩ := H
   replace H : (frame_Reply.l2 k2 t225 l0_9 (l0_9.length : Int) 0 a0_0 a0_1 a0_2 l0_3 a0_4 a0_5 l0_6 l0_7 a0_8 l0_9 a0_10 a0_11) = some (r1, r2) := H
   have A69 := Aside0.mk A690
   clear A690
   have H' := Aside0.mk H
   clear H
   obtain ⟨Ao70, co70, eo70⟩ := Kd.V_slice HO_4.out
   subst eo70
   try go_wp2
   replace HO_4 := Aside0.mk (Kd.V_drew HO_4.out)
   replace BK171 := Aside0.mk (blk_drew BK171.out)
   replace HB := Aside0.mk (below_drew1 HB.out)
   refine start_ (n := 10) (S := fun w' => w'.cell? ⟨gb171, 0, none⟩ = some (.int .i64 a0_0) ∧ w'.cell? ⟨gb171, 1, none⟩ = some (.int .i64 a0_1) ∧ w'.cell? ⟨gb171, 2, none⟩ = some (.int .i64 a0_2) ∧ w'.cell? ⟨gb171, 3, none⟩ = some (.slice A0_3 l0_3.length c0_3) ∧ w'.cell? ⟨gb171, 4, none⟩ = some (.string a0_4) ∧ w'.cell? ⟨gb171, 5, none⟩ = some (.string a0_5) ∧ w'.cell? ⟨gb171, 6, none⟩ = some (.slice A0_6 l0_6.length c0_6) ∧ w'.cell? ⟨gb171, 7, none⟩ = some (.slice A0_7 l0_7.length c0_7) ∧ w'.cell? ⟨gb171, 8, none⟩ = some (.string a0_8) ∧ w'.cell? ⟨gb171, 9, none⟩ = some (.slice A0_9 l0_9.length c0_9) ∧ w'.cell? ⟨gb171, 10, none⟩ = some (.int .i64 a0_10) ∧ w'.cell? ⟨gb171, 11, none⟩ = some (.int .i64 a0_11)) (ds := []) (Ra_ [0, 10]) (by kernel_rfl) rfl rfl ⟨(blk_cell BK171.out 0).trans rfl, (blk_cell BK171.out 1).trans rfl, (blk_cell BK171.out 2).trans rfl, (blk_cell BK171.out 3).trans rfl, (blk_cell BK171.out 4).trans rfl, (blk_cell BK171.out 5).trans rfl, (blk_cell BK171.out 6).trans rfl, (blk_cell BK171.out 7).trans rfl, (blk_cell BK171.out 8).trans rfl, (blk_cell BK171.out 9).trans rfl, (blk_cell BK171.out 10).trans rfl, (blk_cell BK171.out 11).trans rfl⟩ (fun hHeld => ?_); refine with_tabW frame_Reply.tab17 frame_Reply.bits17 (fun HT_ HW_ => ?_)
   generalize wr.drew = w71 at HO_4 BK171 HB hHeld ⊢
   refine pI_ 0 (some 76) (Ra_ [1, 9]) (h := ?_)
   refine pI_ 1 (some 77) (Ra_ [2, 8]) (h := ?_)
   refine pI_ 4 (some 80) (Ra_ [2, 2, 1, 5]) (h := ?_)
   refine tI12_ 2 (some 78) (Ra_ [3, 1, 1, 5]) (h := ?_)
   refine tI12_ 5 (some 81) (Ra_ [3, 1, 2, 4]) (h := ?_)
   refine pI_ 6 (some 82) (Ra_ [3, 1, 3, 3]) (h := ?_)
   refine join_ (σ := Value × Value) 2 (Ra_ [8, 2]) (fun s_ => [(79, s_.1), (83, s_.2)]) (fun s_ w' => (w'.cell? ⟨gb171, 0, none⟩ = some (.int .i64 a0_0) ∧ w'.cell? ⟨gb171, 1, none⟩ = some (.int .i64 a0_1) ∧ w'.cell? ⟨gb171, 2, none⟩ = some (.int .i64 a0_2) ∧ w'.cell? ⟨gb171, 3, none⟩ = some (.slice A0_3 l0_3.length c0_3) ∧ w'.cell? ⟨gb171, 4, none⟩ = some (.string a0_4) ∧ w'.cell? ⟨gb171, 5, none⟩ = some (.string a0_5) ∧ w'.cell? ⟨gb171, 6, none⟩ = some (.slice A0_6 l0_6.length c0_6) ∧ w'.cell? ⟨gb171, 7, none⟩ = some (.slice A0_7 l0_7.length c0_7) ∧ w'.cell? ⟨gb171, 8, none⟩ = some (.string a0_8) ∧ w'.cell? ⟨gb171, 9, none⟩ = some (.slice A0_9 l0_9.length c0_9) ∧ w'.cell? ⟨gb171, 10, none⟩ = some (.int .i64 a0_10) ∧ w'.cell? ⟨gb171, 11, none⟩ = some (.int .i64 a0_11)) ∧ (Kd.R (Kd.int .u8) 5 w' w.heap.size (fun k_ => (w.heap.size ≤ k_)) s_.1 t219) ∧ (Kd.R (Kd.int .i64) 3 w' w.heap.size (fun k_ => (w.heap.size ≤ k_)) s_.2 y222) ∧ (Kd.V (Kd.int .u8) 5 w' w.heap.size (fun k_ => (w.heap.size ≤ k_) ∧ some k_ ≠ (s_.1 : Value).ownBlock ∧ some k_ ≠ (s_.2 : Value).ownBlock ∧ k_ ≠ gb171) (.slice Ao70 x4_2.length co70) x4_2) ∧ (w'.heap[gb171]? = some (.cells #[.int .i64 a0_0, .int .i64 a0_1, .int .i64 a0_2, .slice A0_3 l0_3.length c0_3, .string a0_4, .string a0_5, .slice A0_6 l0_6.length c0_6, .slice A0_7 l0_7.length c0_7, .string a0_8, .slice A0_9 l0_9.length c0_9, .int .i64 a0_10, .int .i64 a0_11] 34 (0, 0))) ∧ (Below w.heap.size w w')) ?_ ?_
   rotate_left
   ·intro hCont
    refine two_ (i := 3) (j := 7) (Ni := some 79) (Nj := some 83) (Ra_ [7, 3]) (Ra_ [3, 1, 4, 2]) rfl rfl rfl rfl (two_of HT_.out (by kernel_rfl)) (by decide) (by decide) (fun K hK => ?_) (fun K hK => ?_)
    ·skip
     refine goes_ Tryd.func31 (by kernel_rfl) rfl #[.slice Ao70 x4_2.length co70, .string a0_8] (by rfl) rfl rfl m12_ ?_
     with_reducible refine (num_PutText.calls k2 _ _ x4_2 a0_8 t219 _ ?side1 ?side2 A68.out).mono ?_
     (case side1 => exact m36_)
     (case side2 => exact (Kd.V_reads' HO_4.out).2.1)
     rintro e w72 ⟨v220, rfl, ho0, hb⟩
     refine ⟨_, rfl, ?_⟩
     replace HO_4 := Aside0.mk (Kd.V_elder' m26_ (Kd.R_base ho0) hb)
     have HO221 := Aside0.mk (Kd.R_lower (Kd.R_newM (M := fun k_ => (w.heap.size ≤ k_)) ho0 (below_size m4_) (fun k_ h_ => h_)) (below_size m4_))
     replace BK171 := Aside0.mk (blk_below (g := gb171) (o := .cells #[.int .i64 a0_0, .int .i64 a0_1, .int .i64 a0_2, .slice A0_3 l0_3.length c0_3, .string a0_4, .string a0_5, .slice A0_6 l0_6.length c0_6, .slice A0_7 l0_7.length c0_7, .string a0_8, .slice A0_9 l0_9.length c0_9, .int .i64 a0_10, .int .i64 a0_11] 34 (0, 0)) m14_ hb)
     replace HB := Aside0.mk (below_step m4_ hb)
     (try clear hb)
     (try clear hb2)
     (try clear hk)
     (try clear hi)
     (try clear ho0)
     refine hK.out _ _ ⟨(blk_cell BK171.out 0).trans rfl, (blk_cell BK171.out 1).trans rfl, (blk_cell BK171.out 2).trans rfl, (blk_cell BK171.out 3).trans rfl, (blk_cell BK171.out 4).trans rfl, (blk_cell BK171.out 5).trans rfl, (blk_cell BK171.out 6).trans rfl, (blk_cell BK171.out 7).trans rfl, (blk_cell BK171.out 8).trans rfl, (blk_cell BK171.out 9).trans rfl, (blk_cell BK171.out 10).trans rfl, (blk_cell BK171.out 11).trans rfl⟩ (fun hHeld => ?_)
     clear hK K
     refine norm_ (a' := ?_) ?_ ?_
     rotate_left
     ·show Act.put _ (some 79) _ = _
      simp only [Act.put, sA_, sB_, sC_, i64_w, i32_w]
      rfl
     refine one_ (i := 7) (N := some 83) (Ra_ [8, 2]) rfl rfl (one_of HT_.out (by kernel_rfl)) (by decide) (fun K hK => ?_)
     refine Kd.R_lit_step (Kd.int .i64) _ 3 ?hg (N := 83) ?hd (xs := ([(l0_9.length : Int)] : List Int)) (inner := [.int .i64 (l0_9.length : Int)]) (ok := fun _ => True) (okp := fun _ => True) ?hr ?hp (fun _ hk => hk) trivial (Below.refl _ _) (Nat.le_refl _) (by simp) ?_; (case hd => rfl); (case hg => rfl); (case hr => first | (go_simp; done) | (go_simp; rfl)); (case hp => exact (Reps.one (show Kd.M (Kd.int .i64) _ _ _ (l0_9.length : Int) [.int .i64 (l0_9.length : Int)] from rfl) (Reps.none _ _)))
     intro v223 w73 ho74 hb hg_ hnew_
     clear hg_ hnew_
     (first | rw [← Ny222.out] at ho74 | (simp only [Int.reduceToNat] at ho74; rw [← Ny222.out] at ho74))
     have n0_ := Aside0.mk (Kd.V_elder' m26_ (Kd.R_base ho74) hb)
     have n1_ := Aside0.mk (Kd.R_below (by (with_reducible repeat (first | apply Kd.R_alloc | apply Kd.R_drewN | apply Kd.R_drew)); exact HO221.out) hb)
     have n2_ := Aside0.mk (Kd.R_lower (Kd.R_newM (M := fun k_ => (w.heap.size ≤ k_)) ho74 (below_size m4_) (fun k_ h_ => h_)) (below_size m4_))
     have n3_ := Aside0.mk (blk_below (g := gb171) (o := .cells #[.int .i64 a0_0, .int .i64 a0_1, .int .i64 a0_2, .slice A0_3 l0_3.length c0_3, .string a0_4, .string a0_5, .slice A0_6 l0_6.length c0_6, .slice A0_7 l0_7.length c0_7, .string a0_8, .slice A0_9 l0_9.length c0_9, .int .i64 a0_10, .int .i64 a0_11] 34 (0, 0)) m14_ hb)
     have n4_ := Aside0.mk (below_step m4_ hb)
     clear HO_4 HO221 BK171 HB
     have HO_4 := n0_
     have HO221 := n1_
     have HO224 := n2_
     have BK171 := n3_
     have HB := n4_
     clear n0_ n1_ n2_ n3_ n4_ hb ho74
     refine hK.out _ _ ⟨(blk_cell BK171.out 0).trans rfl, (blk_cell BK171.out 1).trans rfl, (blk_cell BK171.out 2).trans rfl, (blk_cell BK171.out 3).trans rfl, (blk_cell BK171.out 4).trans rfl, (blk_cell BK171.out 5).trans rfl, (blk_cell BK171.out 6).trans rfl, (blk_cell BK171.out 7).trans rfl, (blk_cell BK171.out 8).trans rfl, (blk_cell BK171.out 9).trans rfl, (blk_cell BK171.out 10).trans rfl, (blk_cell BK171.out 11).trans rfl⟩ (fun hHeld => ?_)
     clear hK K
     refine norm_ (a' := ?_) ?_ ?_
     rotate_left
     ·show Act.put _ (some 83) _ = _
      simp only [Act.put, sA_, sB_, sC_, i64_w, i32_w]
      rfl
     exact norm_ (by simp only [putAll, Act.put, List.setIfInBounds_toArray, List.set_cons_zero, List.set_cons_succ]) (hCont (v220, v223) _ ⟨hHeld, (by (with_reducible repeat (first | apply Kd.R_alloc | apply Kd.R_drewN | apply Kd.R_drew)); exact Kd.R_mono HO221.out (fun _ hk => hk.1)), (by (with_reducible repeat (first | apply Kd.R_alloc | apply Kd.R_drewN | apply Kd.R_drew)); exact Kd.R_mono HO224.out (fun _ hk => hk.1)), (by (with_reducible repeat (first | apply Kd.V_alloc | apply Kd.V_drewN | apply Kd.V_drew)); exact Kd.V_mono HO_4.out (fun _ hk => ⟨hk.1.1.1, ⟨hk.1.2, ⟨hk.2, hk.1.1.2⟩⟩⟩)), m14_, m4_⟩)
    skip
    refine Kd.R_lit_step (Kd.int .i64) _ 3 ?hg (N := 83) ?hd (xs := ([(l0_9.length : Int)] : List Int)) (inner := [.int .i64 (l0_9.length : Int)]) (ok := fun _ => True) (okp := fun _ => True) ?hr ?hp (fun _ hk => hk) trivial (Below.refl _ _) (Nat.le_refl _) (by simp) ?_; (case hd => rfl); (case hg => rfl); (case hr => first | (go_simp; done) | (go_simp; rfl)); (case hp => exact (Reps.one (show Kd.M (Kd.int .i64) _ _ _ (l0_9.length : Int) [.int .i64 (l0_9.length : Int)] from rfl) (Reps.none _ _)))
    intro v223 w72 ho73 hb hg_ hnew_
    clear hg_ hnew_
    (first | rw [← Ny222.out] at ho73 | (simp only [Int.reduceToNat] at ho73; rw [← Ny222.out] at ho73))
    replace HO_4 := Aside0.mk (Kd.V_elder' m26_ (Kd.R_base ho73) hb)
    have HO224 := Aside0.mk (Kd.R_lower (Kd.R_newM (M := fun k_ => (w.heap.size ≤ k_)) ho73 (below_size m4_) (fun k_ h_ => h_)) (below_size m4_))
    replace BK171 := Aside0.mk (blk_below (g := gb171) (o := .cells #[.int .i64 a0_0, .int .i64 a0_1, .int .i64 a0_2, .slice A0_3 l0_3.length c0_3, .string a0_4, .string a0_5, .slice A0_6 l0_6.length c0_6, .slice A0_7 l0_7.length c0_7, .string a0_8, .slice A0_9 l0_9.length c0_9, .int .i64 a0_10, .int .i64 a0_11] 34 (0, 0)) m14_ hb)
    replace HB := Aside0.mk (below_step m4_ hb)
    clear hb ho73
    refine hK.out _ _ ⟨(blk_cell BK171.out 0).trans rfl, (blk_cell BK171.out 1).trans rfl, (blk_cell BK171.out 2).trans rfl, (blk_cell BK171.out 3).trans rfl, (blk_cell BK171.out 4).trans rfl, (blk_cell BK171.out 5).trans rfl, (blk_cell BK171.out 6).trans rfl, (blk_cell BK171.out 7).trans rfl, (blk_cell BK171.out 8).trans rfl, (blk_cell BK171.out 9).trans rfl, (blk_cell BK171.out 10).trans rfl, (blk_cell BK171.out 11).trans rfl⟩ (fun hHeld => ?_)
    clear hK K
    refine norm_ (a' := ?_) ?_ ?_
    rotate_left
    ·show Act.put _ (some 83) _ = _
     simp only [Act.put, sA_, sB_, sC_, i64_w, i32_w]
     rfl
    refine one_ (i := 3) (N := some 79) (Ra_ [8, 2]) rfl rfl (one_of HT_.out (by kernel_rfl)) (by decide) (fun K hK => ?_)
    refine goes_ Tryd.func31 (by kernel_rfl) rfl #[.slice Ao70 x4_2.length co70, .string a0_8] (by rfl) rfl rfl m12_ ?_
    with_reducible refine (num_PutText.calls k2 _ _ x4_2 a0_8 t219 _ ?side1 ?side2 A68.out).mono ?_
    (case side1 => exact m36_)
    (case side2 => exact (Kd.V_reads' HO_4.out).2.1)
    rintro e w74 ⟨v220, rfl, ho0, hb⟩
    refine ⟨_, rfl, ?_⟩
    have n0_ := Aside0.mk (Kd.V_elder' m26_ (Kd.R_base ho0) hb)
    have n1_ := Aside0.mk (Kd.R_below (by (with_reducible repeat (first | apply Kd.R_alloc | apply Kd.R_drewN | apply Kd.R_drew)); exact HO224.out) hb)
    have n2_ := Aside0.mk (Kd.R_lower (Kd.R_newM (M := fun k_ => (w.heap.size ≤ k_)) ho0 (below_size m4_) (fun k_ h_ => h_)) (below_size m4_))
    have n3_ := Aside0.mk (blk_below (g := gb171) (o := .cells #[.int .i64 a0_0, .int .i64 a0_1, .int .i64 a0_2, .slice A0_3 l0_3.length c0_3, .string a0_4, .string a0_5, .slice A0_6 l0_6.length c0_6, .slice A0_7 l0_7.length c0_7, .string a0_8, .slice A0_9 l0_9.length c0_9, .int .i64 a0_10, .int .i64 a0_11] 34 (0, 0)) m14_ hb)
    have n4_ := Aside0.mk (below_step m4_ hb)
    clear HO_4 HO224 BK171 HB
    have HO_4 := n0_
    have HO224 := n1_
    have HO221 := n2_
    have BK171 := n3_
    have HB := n4_
    clear n0_ n1_ n2_ n3_ n4_
    (try clear hb)
    (try clear hb2)
    (try clear hk)
    (try clear hi)
    (try clear ho0)
    refine hK.out _ _ ⟨(blk_cell BK171.out 0).trans rfl, (blk_cell BK171.out 1).trans rfl, (blk_cell BK171.out 2).trans rfl, (blk_cell BK171.out 3).trans rfl, (blk_cell BK171.out 4).trans rfl, (blk_cell BK171.out 5).trans rfl, (blk_cell BK171.out 6).trans rfl, (blk_cell BK171.out 7).trans rfl, (blk_cell BK171.out 8).trans rfl, (blk_cell BK171.out 9).trans rfl, (blk_cell BK171.out 10).trans rfl, (blk_cell BK171.out 11).trans rfl⟩ (fun hHeld => ?_)
    clear hK K
    refine norm_ (a' := ?_) ?_ ?_
    rotate_left
    ·show Act.put _ (some 79) _ = _
     simp only [Act.put, sA_, sB_, sC_, i64_w, i32_w]
     rfl
    exact norm_ (by simp only [putAll, Act.put, List.setIfInBounds_toArray, List.set_cons_zero, List.set_cons_succ]) (hCont (v220, v223) _ ⟨hHeld, (by (with_reducible repeat (first | apply Kd.R_alloc | apply Kd.R_drewN | apply Kd.R_drew)); exact Kd.R_mono HO221.out (fun _ hk => hk.1)), (by (with_reducible repeat (first | apply Kd.R_alloc | apply Kd.R_drewN | apply Kd.R_drew)); exact Kd.R_mono HO224.out (fun _ hk => hk.1)), (by (with_reducible repeat (first | apply Kd.V_alloc | apply Kd.V_drewN | apply Kd.V_drew)); exact Kd.V_mono HO_4.out (fun _ hk => ⟨hk.1.1.1, ⟨hk.2, ⟨hk.1.2, hk.1.1.2⟩⟩⟩)), m14_, m4_⟩)
   rintro ⟨v220, v223⟩ w75 ⟨hS_, h0_, h1_, h2_, h3_, h4_⟩
   have n0_ : Aside0 (Kd.R (Kd.int .u8) 5 w75 w.heap.size (fun k_ => (w.heap.size ≤ k_)) v220 t219) := ⟨h0_⟩
   have n1_ : Aside0 (Kd.R (Kd.int .i64) 3 w75 w.heap.size (fun k_ => (w.heap.size ≤ k_)) v223 y222) := ⟨h1_⟩
   have n2_ : Aside0 (Kd.V (Kd.int .u8) 5 w75 w.heap.size (fun k_ => (w.heap.size ≤ k_) ∧ some k_ ≠ (v220 : Value).ownBlock ∧ some k_ ≠ (v223 : Value).ownBlock ∧ k_ ≠ gb171) (.slice Ao70 x4_2.length co70) x4_2) := ⟨h2_⟩
   have n3_ : Aside0 (w75.heap[gb171]? = some (.cells #[.int .i64 a0_0, .int .i64 a0_1, .int .i64 a0_2, .slice A0_3 l0_3.length c0_3, .string a0_4, .string a0_5, .slice A0_6 l0_6.length c0_6, .slice A0_7 l0_7.length c0_7, .string a0_8, .slice A0_9 l0_9.length c0_9, .int .i64 a0_10, .int .i64 a0_11] 34 (0, 0))) := ⟨h3_⟩
   have n4_ : Aside0 (Below w.heap.size w w75) := ⟨h4_⟩
   clear HO_4 BK171 HB h0_ h1_ h2_ h3_ h4_
   have HO221 := n0_
   have HO224 := n1_
   have HO_4 := n2_
   have BK171 := n3_
   have HB := n4_
   clear n0_ n1_ n2_ n3_ n4_
   have hHeld : w75.cell? ⟨gb171, 0, none⟩ = some (.int .i64 a0_0) ∧ w75.cell? ⟨gb171, 1, none⟩ = some (.int .i64 a0_1) ∧ w75.cell? ⟨gb171, 2, none⟩ = some (.int .i64 a0_2) ∧ w75.cell? ⟨gb171, 3, none⟩ = some (.slice A0_3 l0_3.length c0_3) ∧ w75.cell? ⟨gb171, 4, none⟩ = some (.string a0_4) ∧ w75.cell? ⟨gb171, 5, none⟩ = some (.string a0_5) ∧ w75.cell? ⟨gb171, 6, none⟩ = some (.slice A0_6 l0_6.length c0_6) ∧ w75.cell? ⟨gb171, 7, none⟩ = some (.slice A0_7 l0_7.length c0_7) ∧ w75.cell? ⟨gb171, 8, none⟩ = some (.string a0_8) ∧ w75.cell? ⟨gb171, 9, none⟩ = some (.slice A0_9 l0_9.length c0_9) ∧ w75.cell? ⟨gb171, 10, none⟩ = some (.int .i64 a0_10) ∧ w75.cell? ⟨gb171, 11, none⟩ = some (.int .i64 a0_11) := hS_
   obtain ⟨Ao76, co76, eo76⟩ := Kd.R_slice HO221.out
   (first | subst eo76 | (injection eo76 with f1_ f2_ f3_; have f4_ := f1_.symm; have f5_ := f3_.symm; clear f1_ f2_ f3_; subst f4_; subst f5_))
   obtain ⟨Ao77, co77, eo77⟩ := Kd.R_slice HO224.out
   (first | subst eo77 | (injection eo77 with f1_ f2_ f3_; have f4_ := f1_.symm; have f5_ := f3_.symm; clear f1_ f2_ f3_; subst f4_; subst f5_))
   refine norm_ (a' := ?_) ?_ ?_
   rotate_left
   ·simp only [putAll, Act.put, List.setIfInBounds_toArray, List.set_cons_zero, List.set_cons_succ]
    rfl
   refine one_ (i := 8) (N := some 84) (Ra_ [9, 1]) rfl rfl (one_of HT_.out (by kernel_rfl)) (by decide) (fun K hK => ?_)
   refine goes_ Tryd.func30 (by kernel_rfl) rfl #[.slice Ao76 t219.length co76, .slice Ao77 y222.length co77] (by rfl) rfl rfl m12_ ?_
   with_reducible refine (frame_put.calls k2 (fun k_ => some k_ = (.slice Ao76 t219.length co76 : Value).ownBlock) _ _ t219 _ _ y222 t225 _ ?side1 ?side2 ?side3 A69.out).mono ?_
   (case side1 => exact Kd.R_V (Kd.R_tight rfl (Kd.R_types (Kd.R_apart' (HO221.out) (Kd.R_typed HO224.out) (by decide)) BK171.out (by decide))))
   (case side2 => repeat (first | exact (Kd.R_reads' HO224.out).2.2 | (with_reducible refine Kd.C_alloc ?_ _) | (with_reducible refine Kd.C_drewN ?_ _) | (with_reducible refine Kd.C_drew ?_)))
   (case side3 => exact (Kd.R_reads' HO224.out).2.1)
   rintro e w78 ⟨v226, rfl, ho0, hb⟩
   refine ⟨_, rfl, ?_⟩
   have n0_ := Aside0.mk (Kd.V_below m26_ hb)
   have n1_ := Aside0.mk (Kd.R_below (by (with_reducible repeat (first | apply Kd.R_alloc | apply Kd.R_drewN | apply Kd.R_drew)); exact HO221.out) hb)
   have n2_ := Aside0.mk (Kd.R_below (by (with_reducible repeat (first | apply Kd.R_alloc | apply Kd.R_drewN | apply Kd.R_drew)); exact HO224.out) hb)
   have n3_ := Aside0.mk (Kd.V_lower (Kd.V_mono (ok' := fun k_ => (w.heap.size ≤ k_) ∧ some k_ ≠ (.slice Ao77 y222.length co77 : Value).ownBlock ∧ k_ ≠ gb171) ho0 (fun k_ hk_ => ⟨Or.elim hk_ (fun hs_ => ((Kd.R_types (Kd.R_apart' (HO221.out) (Kd.R_typed HO224.out) (by decide)) BK171.out (by decide)).1 k_ hs_.symm).1.1) (fun hn_ => (Nat.le_trans (below_size m4_) hn_)), Or.elim hk_ (fun hs_ => ((Kd.R_types (Kd.R_apart' (HO221.out) (Kd.R_typed HO224.out) (by decide)) BK171.out (by decide)).1 k_ hs_.symm).1.2) (fun hn_ => (Kd.fresh' (Kd.R_lt (by (with_reducible repeat (first | apply Kd.R_alloc | apply Kd.R_drewN | apply Kd.R_drew)); exact HO224.out)) k_ hn_)), Or.elim hk_ (fun hs_ => ((Kd.R_types (Kd.R_apart' (HO221.out) (Kd.R_typed HO224.out) (by decide)) BK171.out (by decide)).1 k_ hs_.symm).2) (fun hn_ => (Kd.freshB (g := gb171) (o := .cells #[.int .i64 a0_0, .int .i64 a0_1, .int .i64 a0_2, .slice A0_3 l0_3.length c0_3, .string a0_4, .string a0_5, .slice A0_6 l0_6.length c0_6, .slice A0_7 l0_7.length c0_7, .string a0_8, .slice A0_9 l0_9.length c0_9, .int .i64 a0_10, .int .i64 a0_11] 34 (0, 0)) m14_ k_ hn_))⟩)) (below_size m4_))
   have n4_ := Aside0.mk (blk_below (g := gb171) (o := .cells #[.int .i64 a0_0, .int .i64 a0_1, .int .i64 a0_2, .slice A0_3 l0_3.length c0_3, .string a0_4, .string a0_5, .slice A0_6 l0_6.length c0_6, .slice A0_7 l0_7.length c0_7, .string a0_8, .slice A0_9 l0_9.length c0_9, .int .i64 a0_10, .int .i64 a0_11] 34 (0, 0)) m14_ hb)
   have n5_ := Aside0.mk (below_step m4_ hb)
   clear HO_4 HO221 HO224 BK171 HB
   have HO_4 := n0_
   have HO221 := n1_
   have HO224 := n2_
   have HO227 := n3_
   have BK171 := n4_
   have HB := n5_
   clear n0_ n1_ n2_ n3_ n4_ n5_
   (try clear hb)
   (try clear hb2)
   (try clear hk)
   (try clear hi)
   (try clear ho0)
   refine hK.out _ _ ⟨(blk_cell BK171.out 0).trans rfl, (blk_cell BK171.out 1).trans rfl, (blk_cell BK171.out 2).trans rfl, (blk_cell BK171.out 3).trans rfl, (blk_cell BK171.out 4).trans rfl, (blk_cell BK171.out 5).trans rfl, (blk_cell BK171.out 6).trans rfl, (blk_cell BK171.out 7).trans rfl, (blk_cell BK171.out 8).trans rfl, (blk_cell BK171.out 9).trans rfl, (blk_cell BK171.out 10).trans rfl, (blk_cell BK171.out 11).trans rfl⟩ (fun hHeld => ?_)
   clear hK K
   refine norm_ (a' := ?_) ?_ ?_
   rotate_left
   ·show Act.put _ (some 84) _ = _
    simp only [Act.put, sA_, sB_, sC_, i64_w, i32_w]
    rfl
   refine pI_ 9 (some 4) (Ra_ [10]) (h := ?_)
   refine done_ (done_of HT_.out (by kernel_rfl)) ?_
   obtain ⟨hcz79_0, hcz79_1, hcz79_2, hcz79_3, hcz79_4, hcz79_5, hcz79_6, hcz79_7, hcz79_8, hcz79_9, hcz79_10, hcz79_11⟩ := bc12_ BK171.out
   obtain ⟨hfz79_0, hfz79_1, hfz79_2, hfz79_3, hfz79_4, hfz79_5, hfz79_6, hfz79_7, hfz79_8, hfz79_9, hfz79_10, hfz79_11⟩ := bf12_ BK171.out
   try go_wp2
   go_loopg [4, 88] k2 (fun kq v4 v88 w' => ∃ (x4_3 : List Int) (x88_3 : Int), v88 = .int .i64 x88_3 ∧ Aside0 (frame_Reply.l2 kq x4_3 l0_9 (l0_9.length : Int) x88_3 a0_0 a0_1 a0_2 l0_3 a0_4 a0_5 l0_6 l0_7 a0_8 l0_9 a0_10 a0_11 = some (r1, r2)) ∧ Aside0 (kq ≤ k2) ∧ Aside0 (Kd.V (Kd.int .u8) 5 w' w.heap.size (fun k_ => (w.heap.size ≤ k_) ∧ k_ ≠ gb171) v4 x4_3) ∧ Aside0 (w'.heap[gb171]? = some (.cells #[.int .i64 a0_0, .int .i64 a0_1, .int .i64 a0_2, (.slice A0_3 l0_3.length c0_3), .string a0_4, .string a0_5, (.slice A0_6 l0_6.length c0_6), (.slice A0_7 l0_7.length c0_7), .string a0_8, (.slice A0_9 l0_9.length c0_9), .int .i64 a0_10, .int .i64 a0_11] 34 (0, 0))) ∧ Aside0 (Below w.heap.size w w'))
   case atStart => exact ⟨(t225), (0), m28_, H', ⟨Nat.le_refl _⟩, ⟨by (with_reducible repeat (first | apply Kd.V_alloc | apply Kd.V_drewN | apply Kd.V_drew)); exact Kd.V_mono HO227.out (fun _ hk => ⟨hk.1, hk.2.2⟩)⟩, ⟨by (with_reducible repeat (first | refine blk_drewN ?_ _ | refine blk_drew ?_ | refine blk_alloc ?_ _)); exact BK171.out⟩, ⟨m40_⟩⟩
   clear H'
   try clear c1; try clear p1; try clear q1; try clear hx1; try clear p2; try clear q2; try clear hx2; try clear c3; try clear c4; try clear c5; try clear c6; try clear p6; try clear c13; try clear c15; try clear p19; try clear q19; try clear hx19; try clear p21; try clear q21; try clear hx21; try clear c30; try clear c31; try clear c32; try clear c33; try clear c34; try clear c34b0; try clear c35; try clear c35b0; try clear c36; try clear c36b0; try clear c40; try clear c56; try clear c56b0; try clear c57; try clear c57b0; try clear c58; try clear c58b0; try clear c61; try clear p64; try clear hcz10_0; try clear hcz10_1; try clear hcz10_10; try clear hcz10_11; try clear hcz10_2; try clear hcz10_3; try clear hcz10_4; try clear hcz10_5; try clear hcz10_6; try clear hcz10_7; try clear hcz10_8; try clear hcz10_9; try clear hcz14_0; try clear hcz14_1; try clear hcz14_10; try clear hcz14_11; try clear hcz14_2; try clear hcz14_3; try clear hcz14_4; try clear hcz14_5; try clear hcz14_6; try clear hcz14_7; try clear hcz14_8; try clear hcz14_9; try clear hcz27_0; try clear hcz27_1; try clear hcz27_10; try clear hcz27_11; try clear hcz27_2; try clear hcz27_3; try clear hcz27_4; try clear hcz27_5; try clear hcz27_6; try clear hcz27_7; try clear hcz27_8; try clear hcz27_9; try clear hcz33_0; try clear hcz33_1; try clear hcz33_10; try clear hcz33_11; try clear hcz33_2; try clear hcz33_3; try clear hcz33_4; try clear hcz33_5; try clear hcz33_6; try clear hcz33_7; try clear hcz33_8; try clear hcz33_9; try clear hcz41_0; try clear hcz41_1; try clear hcz49_0; try clear hcz49_1; try clear hcz49_10; try clear hcz49_11; try clear hcz49_2; try clear hcz49_3; try clear hcz49_4; try clear hcz49_5; try clear hcz49_6; try clear hcz49_7; try clear hcz49_8; try clear hcz49_9; try clear hcz55_0; try clear hcz55_1; try clear hcz55_10; try clear hcz55_11; try clear hcz55_2; try clear hcz55_3; try clear hcz55_4; try clear hcz55_5; try clear hcz55_6; try clear hcz55_7; try clear hcz55_8; try clear hcz55_9; try clear hcz62_0; try clear hcz62_1; try clear hcz79_0; try clear hcz79_1; try clear hcz79_10; try clear hcz79_11; try clear hcz79_2; try clear hcz79_3; try clear hcz79_4; try clear hcz79_5; try clear hcz79_6; try clear hcz79_7; try clear hcz79_8; try clear hcz79_9; try clear hfz10_0; try clear hfz10_1; try clear hfz10_10; try clear hfz10_11; try clear hfz10_2; try clear hfz10_3; try clear hfz10_4; try clear hfz10_5; try clear hfz10_6; try clear hfz10_7; try clear hfz10_8; try clear hfz10_9; try clear hfz14_0; try clear hfz14_1; try clear hfz14_10; try clear hfz14_11; try clear hfz14_2; try clear hfz14_3; try clear hfz14_4; try clear hfz14_5; try clear hfz14_6; try clear hfz14_7; try clear hfz14_8; try clear hfz14_9; try clear hfz27_0; try clear hfz27_1; try clear hfz27_10; try clear hfz27_11; try clear hfz27_2; try clear hfz27_3; try clear hfz27_4; try clear hfz27_5; try clear hfz27_6; try clear hfz27_7; try clear hfz27_8; try clear hfz27_9; try clear hfz33_0; try clear hfz33_1; try clear hfz33_10; try clear hfz33_11; try clear hfz33_2; try clear hfz33_3; try clear hfz33_4; try clear hfz33_5; try clear hfz33_6; try clear hfz33_7; try clear hfz33_8; try clear hfz33_9; try clear hfz41_0; try clear hfz41_1; try clear hfz49_0; try clear hfz49_1; try clear hfz49_10; try clear hfz49_11; try clear hfz49_2; try clear hfz49_3; try clear hfz49_4; try clear hfz49_5; try clear hfz49_6; try clear hfz49_7; try clear hfz49_8; try clear hfz49_9; try clear hfz55_0; try clear hfz55_1; try clear hfz55_10; try clear hfz55_11; try clear hfz55_2; try clear hfz55_3; try clear hfz55_4; try clear hfz55_5; try clear hfz55_6; try clear hfz55_7; try clear hfz55_8; try clear hfz55_9; try clear hfz62_0; try clear hfz62_1; try clear hfz79_0; try clear hfz79_1; try clear hfz79_10; try clear hfz79_11; try clear hfz79_2; try clear hfz79_3; try clear hfz79_4; try clear hfz79_5; try clear hfz79_6; try clear hfz79_7; try clear hfz79_8; try clear hfz79_9; try clear hx197_0; try clear hx197_1; try clear hx211_0; try clear hx211_1; try clear p1; try clear p19; try clear p197; try clear p2; try clear p211; try clear p6; try clear q1; try clear q19; try clear q197; try clear q211
   obtain ⟨x4_3, x88_3, rfl, HA, HK3, HO_4, BK171, HB⟩ := hrel
   cases gk with
   | zero => exact absurd HA.out (by simp [frame_Reply.l2])
   | succ k3 =>
    have H := HA.out
    clear HA
    simp only [frame_Reply.l2] at H
    by_cases c80 : x88_3 < (l0_9.length : Int)
    case neg =>
     rw [if_neg c80] at H
     have c80b0 : decide (x88_3 < (l0_9.length : Int)) = false := decide_eq_false c80
     clear c80
     obtain ⟨y228, hy228⟩ : ∃ y_ : List Int, y_ = (([a0_10, a0_11] : List Int)) := ⟨_, rfl⟩
     replace H : ((frame_put.f k3 x4_3 y228).bind fun t231 => (some (t231, 0))) = some (r1, r2) := by first | (rw [hy228]; with_reducible exact H) | (have H2_ := (Option.bind_some _ _).symm.trans H; rw [hy228]; with_reducible exact H2_) | (have H2_ := (Option.bind_some _ _).symm.trans H; with_reducible exact H2_) | with_reducible exact H | (rw [hy228]; exact H) | exact H
     have Ny228 := Aside0.mk hy228
     clear hy228
     replace H := Option.bind_eq_some_iff.mp H
     obtain ⟨t231, A1040, H⟩ := H
     replace H : (some (t231, 0)) = some (r1, r2) := H
     have A104 := Aside0.mk A1040
     clear A1040
     simp only [Option.some.injEq, Prod.mk.injEq] at H
     obtain ⟨rfl, rfl⟩ := H
     obtain ⟨hcz105_0, hcz105_1, hcz105_2, hcz105_3, hcz105_4, hcz105_5, hcz105_6, hcz105_7, hcz105_8, hcz105_9, hcz105_10, hcz105_11⟩ := bc12_ BK171.out
     obtain ⟨hfz105_0, hfz105_1, hfz105_2, hfz105_3, hfz105_4, hfz105_5, hfz105_6, hfz105_7, hfz105_8, hfz105_9, hfz105_10, hfz105_11⟩ := bf12_ BK171.out
     go_wp2_with (first | ((with_reducible refine gate_dst (N := 114) rfl ?_); refine Kd.R_lit (Kd.int .i64) _ 3 ?hg (N := 114) ?hd (xs := ([a0_10, a0_11] : List Int)) (inner := [.int .i64 a0_10, .int .i64 a0_11]) (ok := fun _ => True) (okp := fun _ => True) ?hr ?hp (fun _ hk => hk) trivial (Below.refl _ _) (Nat.le_refl _) (by simp) ?_; (case hd => rfl); (case hg => rfl); (case hr => first | (go_simp; done) | (go_simp; rfl)); (case hp => exact (Reps.one (show Kd.M (Kd.int .i64) _ _ _ a0_10 [.int .i64 a0_10] from rfl) (Reps.one (show Kd.M (Kd.int .i64) _ _ _ a0_11 [.int .i64 a0_11] from rfl) (Reps.none _ _)))); intro v229 w106 ho107 hb hg_ hnew_; clear hg_ hnew_; (first | rw [← Ny228.out] at ho107 | (simp only [Int.reduceToNat] at ho107; rw [← Ny228.out] at ho107)); replace HO_4 := Aside0.mk (Kd.V_elder' m26_ (Kd.R_base ho107) hb); have HO230 := Aside0.mk (Kd.R_lower (Kd.R_newM (M := fun k_ => (w.heap.size ≤ k_)) ho107 (below_size m4_) (fun k_ h_ => h_)) (below_size m4_)); replace BK171 := Aside0.mk (blk_below (g := gb171) (o := .cells #[.int .i64 a0_0, .int .i64 a0_1, .int .i64 a0_2, .slice A0_3 l0_3.length c0_3, .string a0_4, .string a0_5, .slice A0_6 l0_6.length c0_6, .slice A0_7 l0_7.length c0_7, .string a0_8, .slice A0_9 l0_9.length c0_9, .int .i64 a0_10, .int .i64 a0_11] 34 (0, 0)) m14_ hb); replace HB := Aside0.mk (below_step m4_ hb); clear hb ho107; obtain ⟨Ao108, co108, eo108⟩ := Kd.V_slice HO_4.out; subst eo108; obtain ⟨Ao109, co109, eo109⟩ := Kd.R_slice HO230.out; subst eo109) | ((with_reducible refine gate_callee (f := 30) rfl ?_); refine goesL_ (some 115) rfl rfl Tryd.func30 (by kernel_rfl) rfl #[.slice Ao108 x4_3.length co108, .slice Ao109 y228.length co109] rfl m12_ ?_; (with_reducible refine (frame_put.calls k3 (fun k_ => (((w.heap.size ≤ k_) ∧ k_ ≠ gb171) ∧ some k_ ≠ (.slice Ao109 y228.length co109 : Value).ownBlock)) _ _ x4_3 _ _ y228 t231 _ ?side1 ?side2 ?side3 A104.out).mono ?_); (case side1 => exact HO_4.out); (case side2 => repeat (first | exact (Kd.R_reads' HO230.out).2.2 | (with_reducible refine Kd.C_alloc ?_ _) | (with_reducible refine Kd.C_drewN ?_ _) | (with_reducible refine Kd.C_drew ?_))); (case side3 => exact (Kd.R_reads' HO230.out).2.1); rintro e w110 ⟨v232, rfl, ho0, hb⟩; refine ⟨_, rfl, ?_⟩; have n0_ := Aside0.mk (Kd.V_below m26_ hb); have n1_ := Aside0.mk (Kd.R_below (by (with_reducible repeat (first | apply Kd.R_alloc | apply Kd.R_drewN | apply Kd.R_drew)); exact HO230.out) hb); have n2_ := Aside0.mk (Kd.V_lower (Kd.V_mono (ok' := fun k_ => (w.heap.size ≤ k_) ∧ some k_ ≠ (.slice Ao109 y228.length co109 : Value).ownBlock ∧ k_ ≠ gb171) ho0 (fun k_ hk_ => ⟨Or.elim hk_ (fun hs_ => hs_.1.1) (fun hn_ => (Nat.le_trans (below_size m4_) hn_)), Or.elim hk_ (fun hs_ => hs_.2) (fun hn_ => (Kd.fresh' (Kd.R_lt (by (with_reducible repeat (first | apply Kd.R_alloc | apply Kd.R_drewN | apply Kd.R_drew)); exact HO230.out)) k_ hn_)), Or.elim hk_ (fun hs_ => hs_.1.2) (fun hn_ => (Kd.freshB (g := gb171) (o := .cells #[.int .i64 a0_0, .int .i64 a0_1, .int .i64 a0_2, .slice A0_3 l0_3.length c0_3, .string a0_4, .string a0_5, .slice A0_6 l0_6.length c0_6, .slice A0_7 l0_7.length c0_7, .string a0_8, .slice A0_9 l0_9.length c0_9, .int .i64 a0_10, .int .i64 a0_11] 34 (0, 0)) m14_ k_ hn_))⟩)) (below_size m4_)); have n3_ := Aside0.mk (blk_below (g := gb171) (o := .cells #[.int .i64 a0_0, .int .i64 a0_1, .int .i64 a0_2, .slice A0_3 l0_3.length c0_3, .string a0_4, .string a0_5, .slice A0_6 l0_6.length c0_6, .slice A0_7 l0_7.length c0_7, .string a0_8, .slice A0_9 l0_9.length c0_9, .int .i64 a0_10, .int .i64 a0_11] 34 (0, 0)) m14_ hb); have n4_ := Aside0.mk (below_step m4_ hb); clear HO_4; clear HO230; clear BK171; clear HB; have HO_4 := n0_; have HO230 := n1_; have HO233 := n2_; have BK171 := n3_; have HB := n4_; clear n0_ n1_ n2_ n3_ n4_; (try clear hb); (try clear hb2); (try clear hk); (try clear hi); (try clear ho0)))
     go_ret2
     exact ⟨_, by first | rfl | (simp [errW_none, errW_some] <;> rfl) | (simp [*, errW_none, errW_some] <;> rfl), by (with_reducible repeat (first | apply Kd.V_alloc | apply Kd.V_drewN | apply Kd.V_drew)); exact Kd.V_mono HO233.out (fun _ hk => hk.1), m40_⟩
    rw [if_pos c80] at H
    have c80b0 : decide (x88_3 < (l0_9.length : Int)) = true := decide_eq_true c80
    clear c80
    by_cases c81 : 0 ≤ x88_3
    case neg =>
     rw [if_neg c81] at H
     exact absurd H (by simp)
    rw [if_pos c81] at H
    have c81b0 : decide (0 ≤ x88_3) = true := decide_eq_true c81
    clear c81
    by_cases c82 : x88_3 < (l0_9.length : Int)
    case neg =>
     rw [if_neg c82] at H
     exact absurd H (by simp)
    rw [if_pos c82] at H
    have c82b0 : decide (x88_3 < (l0_9.length : Int)) = true := decide_eq_true c82
    clear c82
    obtain ⟨y236, hy236⟩ : ∃ y_ : List Int, y_ = (([(rd_T67 l0_9 x88_3).f0, (rd_T67 l0_9 x88_3).f1, (rd_T67 l0_9 x88_3).f2] : List Int)) := ⟨_, rfl⟩
    replace H : ((frame_put.f k3 x4_3 y236).bind fun t239 => ((num_PutText.f k3 t239 ((rd_T67 l0_9 x88_3).f3)).bind fun t242 => ((frame_put.f k3 t242 (([(rd_T67 l0_9 x88_3).f4] : List Int))).bind fun t248 => (frame_Reply.l2 k3 t248 l0_9 (l0_9.length : Int) (wrap64 (x88_3 + 1)) a0_0 a0_1 a0_2 l0_3 a0_4 a0_5 l0_6 l0_7 a0_8 l0_9 a0_10 a0_11)))) = some (r1, r2) := by first | (rw [hy236]; with_reducible exact H) | (have H2_ := (Option.bind_some _ _).symm.trans H; rw [hy236]; with_reducible exact H2_) | (have H2_ := (Option.bind_some _ _).symm.trans H; with_reducible exact H2_) | with_reducible exact H | (rw [hy236]; exact H) | exact H
    have Ny236 := Aside0.mk hy236
    clear hy236
    replace H := Option.bind_eq_some_iff.mp H
    obtain ⟨t239, A830, H⟩ := H
    replace H : ((num_PutText.f k3 t239 ((rd_T67 l0_9 x88_3).f3)).bind fun t242 => ((frame_put.f k3 t242 (([(rd_T67 l0_9 x88_3).f4] : List Int))).bind fun t248 => (frame_Reply.l2 k3 t248 l0_9 (l0_9.length : Int) (wrap64 (x88_3 + 1)) a0_0 a0_1 a0_2 l0_3 a0_4 a0_5 l0_6 l0_7 a0_8 l0_9 a0_10 a0_11))) = some (r1, r2) := H
    have A83 := Aside0.mk A830
    clear A830
    replace H := Option.bind_eq_some_iff.mp H
    obtain ⟨t242, A840, H⟩ := H
    replace H : ((frame_put.f k3 t242 (([(rd_T67 l0_9 x88_3).f4] : List Int))).bind fun t248 => (frame_Reply.l2 k3 t248 l0_9 (l0_9.length : Int) (wrap64 (x88_3 + 1)) a0_0 a0_1 a0_2 l0_3 a0_4 a0_5 l0_6 l0_7 a0_8 l0_9 a0_10 a0_11)) = some (r1, r2) := H
    have A84 := Aside0.mk A840
    clear A840
    obtain ⟨y245, hy245⟩ : ∃ y_ : List Int, y_ = (([(rd_T67 l0_9 x88_3).f4] : List Int)) := ⟨_, rfl⟩
    replace H : ((frame_put.f k3 t242 y245).bind fun t248 => (frame_Reply.l2 k3 t248 l0_9 (l0_9.length : Int) (wrap64 (x88_3 + 1)) a0_0 a0_1 a0_2 l0_3 a0_4 a0_5 l0_6 l0_7 a0_8 l0_9 a0_10 a0_11)) = some (r1, r2) := by first | (rw [hy245]; with_reducible exact H) | (have H2_ := (Option.bind_some _ _).symm.trans H; rw [hy245]; with_reducible exact H2_) | (have H2_ := (Option.bind_some _ _).symm.trans H; with_reducible exact H2_) | with_reducible exact H | (rw [hy245]; exact H) | exact H
    have Ny245 := Aside0.mk hy245
    clear hy245
    replace H := Option.bind_eq_some_iff.mp H
    obtain ⟨t248, A850, H⟩ := H
    replace H : (frame_Reply.l2 k3 t248 l0_9 (l0_9.length : Int) (wrap64 (x88_3 + 1)) a0_0 a0_1 a0_2 l0_3 a0_4 a0_5 l0_6 l0_7 a0_8 l0_9 a0_10 a0_11) = some (r1, r2) := H
    have A85 := Aside0.mk A850
    clear A850
    have H' := Aside0.mk H
    clear H
    have p234 : 0 ≤ (x88_3 : Int) := of_decide_eq_true m27_
    have q234 : x88_3 < (l0_9.length : Int) := of_decide_eq_true m27_
    obtain ⟨ad234, e234, hx234_0, hx234_1, hx234_2, hx234_3, hx234_4⟩ := at_T67 HR0_9.out x88_3 p234 q234
    cases e234
    replace hx234_0 := (HB.out.cell (World.block_lt_of_cell? w _ hx234_0)).trans hx234_0
    replace hx234_1 := (HB.out.cell (World.block_lt_of_cell? w _ hx234_1)).trans hx234_1
    replace hx234_2 := (HB.out.cell (World.block_lt_of_cell? w _ hx234_2)).trans hx234_2
    replace hx234_3 := (HB.out.cell (World.block_lt_of_cell? w _ hx234_3)).trans hx234_3
    replace hx234_4 := (HB.out.cell (World.block_lt_of_cell? w _ hx234_4)).trans hx234_4
    replace p234 := eq_true p234
    replace q234 := eq_true q234
    try go_wp2_with (first | ((with_reducible refine gate_dst (N := 10) rfl ?_); refine box_event ?hg (N := 10) ?hd (cs := #[.int .i64 0, .int .i64 0, .int .i64 0, .string (⟨#[]⟩ : ByteArray), .int .i64 0]) (t := 67) ?hr ?_; (case hd => rfl); (case hg => rfl); (case hr => first | (go_simp; done) | (go_simp; rfl)); intro gb235 hg w86 hbox hb; have n0_ := Aside0.mk (Kd.V_below (Kd.V_elderB m26_ gb235 (Nat.le_of_eq hg.symm)) hb); have n1_ := Aside0.mk (blk_below (g := gb171) (o := .cells #[.int .i64 a0_0, .int .i64 a0_1, .int .i64 a0_2, .slice A0_3 l0_3.length c0_3, .string a0_4, .string a0_5, .slice A0_6 l0_6.length c0_6, .slice A0_7 l0_7.length c0_7, .string a0_8, .slice (some ad234) l0_9.length c0_9, .int .i64 a0_10, .int .i64 a0_11] 34 (0, 0)) m14_ hb); have n2_ := Aside0.mk (below_step m4_ hb); have n3_ := Aside0.mk (hbox); have n4_ := Aside0.mk ((by rw [hg]; exact (below_size m4_) : w.heap.size ≤ gb235)); have n5_ := Aside0.mk ((by rw [hg]; exact (below_size m4_) : w.heap.size ≤ gb235)); have n6_ := Aside0.mk ((by rw [hg]; exact Nat.ne_of_lt (blk_lt (g := gb171) (o := .cells #[.int .i64 a0_0, .int .i64 a0_1, .int .i64 a0_2, .slice A0_3 l0_3.length c0_3, .string a0_4, .string a0_5, .slice A0_6 l0_6.length c0_6, .slice A0_7 l0_7.length c0_7, .string a0_8, .slice (some ad234) l0_9.length c0_9, .int .i64 a0_10, .int .i64 a0_11] 34 (0, 0)) m14_) : gb171 ≠ gb235)); have n7_ := Aside0.mk ((by rw [hg]; exact Nat.ne_of_gt (blk_lt (g := gb171) (o := .cells #[.int .i64 a0_0, .int .i64 a0_1, .int .i64 a0_2, .slice A0_3 l0_3.length c0_3, .string a0_4, .string a0_5, .slice A0_6 l0_6.length c0_6, .slice A0_7 l0_7.length c0_7, .string a0_8, .slice (some ad234) l0_9.length c0_9, .int .i64 a0_10, .int .i64 a0_11] 34 (0, 0)) m14_) : gb235 ≠ gb171)); clear HO_4; clear BK171; clear HB; have HO_4 := n0_; have BK171 := n1_; have HB := n2_; have BK235 := n3_; have GW235 := n4_; have GE235 := n5_; have NB171_235 := n6_; have NB235_171 := n7_; clear n0_ n1_ n2_ n3_ n4_ n5_ n6_ n7_; clear hb hbox hg; have hnb87 := NB235_171.out; have hnc87 := NB171_235.out; obtain ⟨hcz88_0, hcz88_1, hcz88_2, hcz88_3, hcz88_4⟩ := bc5_ BK235.out; obtain ⟨hfz88_0, hfz88_1, hfz88_2, hfz88_3, hfz88_4⟩ := bf5_ BK235.out; obtain ⟨Ao89, co89, eo89⟩ := Kd.V_slice HO_4.out; subst eo89))
    have n0_ : Aside0 (Kd.V (Kd.int .u8) 5 (((((w86.setCell ⟨gb235, 0, none⟩ (.int .i64 ((rd_T67 l0_9 x88_3).f0))).setCell ⟨gb235, 1, none⟩ (.int .i64 ((rd_T67 l0_9 x88_3).f1))).setCell ⟨gb235, 2, none⟩ (.int .i64 ((rd_T67 l0_9 x88_3).f2))).setCell ⟨gb235, 3, none⟩ (.string ((rd_T67 l0_9 x88_3).f3))).setCell ⟨gb235, 4, none⟩ (.int .i64 ((rd_T67 l0_9 x88_3).f4))) w.heap.size (fun k_ => (w.heap.size ≤ k_) ∧ k_ ≠ gb171 ∧ k_ ≠ gb235) (.slice Ao89 x4_3.length co89) x4_3) := ⟨by (with_reducible repeat (first | apply Kd.V_alloc | apply Kd.V_drewN | apply Kd.V_drew)); exact Kd.V_mono (Kd.V_far (p := ⟨gb235, 4, none⟩) (Kd.V_far (p := ⟨gb235, 3, none⟩) (Kd.V_far (p := ⟨gb235, 2, none⟩) (Kd.V_far (p := ⟨gb235, 1, none⟩) (Kd.V_far (p := ⟨gb235, 0, none⟩) (Kd.V_mono HO_4.out (fun k_ hk => (⟨hk, hk.2⟩ : _ ∧ k_ ≠ gb235))) (fun _ hk => hk.2) (.int .i64 ((rd_T67 l0_9 x88_3).f0))) (fun _ hk => hk.2) (.int .i64 ((rd_T67 l0_9 x88_3).f1))) (fun _ hk => hk.2) (.int .i64 ((rd_T67 l0_9 x88_3).f2))) (fun _ hk => hk.2) (.string ((rd_T67 l0_9 x88_3).f3))) (fun _ hk => hk.2) (.int .i64 ((rd_T67 l0_9 x88_3).f4))) (fun _ hk => ⟨hk.1.1.1, ⟨hk.1.1.2, hk.1.2⟩⟩)⟩
    have n1_ : Aside0 ((((((w86.setCell ⟨gb235, 0, none⟩ (.int .i64 ((rd_T67 l0_9 x88_3).f0))).setCell ⟨gb235, 1, none⟩ (.int .i64 ((rd_T67 l0_9 x88_3).f1))).setCell ⟨gb235, 2, none⟩ (.int .i64 ((rd_T67 l0_9 x88_3).f2))).setCell ⟨gb235, 3, none⟩ (.string ((rd_T67 l0_9 x88_3).f3))).setCell ⟨gb235, 4, none⟩ (.int .i64 ((rd_T67 l0_9 x88_3).f4))).heap[gb171]? = some (.cells #[.int .i64 a0_0, .int .i64 a0_1, .int .i64 a0_2, .slice A0_3 l0_3.length c0_3, .string a0_4, .string a0_5, .slice A0_6 l0_6.length c0_6, .slice A0_7 l0_7.length c0_7, .string a0_8, .slice (some ad234) l0_9.length c0_9, .int .i64 a0_10, .int .i64 a0_11] 34 (0, 0))) := ⟨by (with_reducible repeat (first | refine blk_drewN ?_ _ | refine blk_drew ?_ | refine blk_alloc ?_ _)); refine blk_far ?_ NB171_235.out _; (with_reducible repeat (first | refine blk_drewN ?_ _ | refine blk_drew ?_ | refine blk_alloc ?_ _)); refine blk_far ?_ NB171_235.out _; (with_reducible repeat (first | refine blk_drewN ?_ _ | refine blk_drew ?_ | refine blk_alloc ?_ _)); refine blk_far ?_ NB171_235.out _; (with_reducible repeat (first | refine blk_drewN ?_ _ | refine blk_drew ?_ | refine blk_alloc ?_ _)); refine blk_far ?_ NB171_235.out _; (with_reducible repeat (first | refine blk_drewN ?_ _ | refine blk_drew ?_ | refine blk_alloc ?_ _)); refine blk_far ?_ NB171_235.out _; (with_reducible repeat (first | refine blk_drewN ?_ _ | refine blk_drew ?_ | refine blk_alloc ?_ _)); exact BK171.out⟩
    have n2_ : Aside0 ((((((w86.setCell ⟨gb235, 0, none⟩ (.int .i64 ((rd_T67 l0_9 x88_3).f0))).setCell ⟨gb235, 1, none⟩ (.int .i64 ((rd_T67 l0_9 x88_3).f1))).setCell ⟨gb235, 2, none⟩ (.int .i64 ((rd_T67 l0_9 x88_3).f2))).setCell ⟨gb235, 3, none⟩ (.string ((rd_T67 l0_9 x88_3).f3))).setCell ⟨gb235, 4, none⟩ (.int .i64 ((rd_T67 l0_9 x88_3).f4))).heap[gb235]? = some (.cells #[.int .i64 ((rd_T67 l0_9 x88_3).f0), .int .i64 ((rd_T67 l0_9 x88_3).f1), .int .i64 ((rd_T67 l0_9 x88_3).f2), .string ((rd_T67 l0_9 x88_3).f3), .int .i64 ((rd_T67 l0_9 x88_3).f4)] 67 (0, 0))) := ⟨by (with_reducible repeat (first | refine blk_drewN ?_ _ | refine blk_drew ?_ | refine blk_alloc ?_ _)); refine blk_put (cs := #[.int .i64 ((rd_T67 l0_9 x88_3).f0), .int .i64 ((rd_T67 l0_9 x88_3).f1), .int .i64 ((rd_T67 l0_9 x88_3).f2), .string ((rd_T67 l0_9 x88_3).f3), .int .i64 0]) ?_ 4 _ rfl; (with_reducible repeat (first | refine blk_drewN ?_ _ | refine blk_drew ?_ | refine blk_alloc ?_ _)); refine blk_put (cs := #[.int .i64 ((rd_T67 l0_9 x88_3).f0), .int .i64 ((rd_T67 l0_9 x88_3).f1), .int .i64 ((rd_T67 l0_9 x88_3).f2), .string (⟨#[]⟩ : ByteArray), .int .i64 0]) ?_ 3 _ rfl; (with_reducible repeat (first | refine blk_drewN ?_ _ | refine blk_drew ?_ | refine blk_alloc ?_ _)); refine blk_put (cs := #[.int .i64 ((rd_T67 l0_9 x88_3).f0), .int .i64 ((rd_T67 l0_9 x88_3).f1), .int .i64 0, .string (⟨#[]⟩ : ByteArray), .int .i64 0]) ?_ 2 _ rfl; (with_reducible repeat (first | refine blk_drewN ?_ _ | refine blk_drew ?_ | refine blk_alloc ?_ _)); refine blk_put (cs := #[.int .i64 ((rd_T67 l0_9 x88_3).f0), .int .i64 0, .int .i64 0, .string (⟨#[]⟩ : ByteArray), .int .i64 0]) ?_ 1 _ rfl; (with_reducible repeat (first | refine blk_drewN ?_ _ | refine blk_drew ?_ | refine blk_alloc ?_ _)); refine blk_put (cs := #[.int .i64 0, .int .i64 0, .int .i64 0, .string (⟨#[]⟩ : ByteArray), .int .i64 0]) ?_ 0 _ rfl; (with_reducible repeat (first | refine blk_drewN ?_ _ | refine blk_drew ?_ | refine blk_alloc ?_ _)); exact BK235.out⟩
    have n3_ : Aside0 (Below w.heap.size w (((((w86.setCell ⟨gb235, 0, none⟩ (.int .i64 ((rd_T67 l0_9 x88_3).f0))).setCell ⟨gb235, 1, none⟩ (.int .i64 ((rd_T67 l0_9 x88_3).f1))).setCell ⟨gb235, 2, none⟩ (.int .i64 ((rd_T67 l0_9 x88_3).f2))).setCell ⟨gb235, 3, none⟩ (.string ((rd_T67 l0_9 x88_3).f3))).setCell ⟨gb235, 4, none⟩ (.int .i64 ((rd_T67 l0_9 x88_3).f4)))) := ⟨by repeat (first | (with_reducible first | exact HB.out | apply below_alloc | apply pw_below_drewN | apply below_drew1 | refine below_set ?_ GE171.out | refine below_set ?_ GE235.out) | exact HB.out)⟩
    (try clear HO_4)
    (try clear BK171)
    (try clear BK235)
    (try clear HB)
    generalize (((((w86.setCell ⟨gb235, 0, none⟩ (.int .i64 ((rd_T67 l0_9 x88_3).f0))).setCell ⟨gb235, 1, none⟩ (.int .i64 ((rd_T67 l0_9 x88_3).f1))).setCell ⟨gb235, 2, none⟩ (.int .i64 ((rd_T67 l0_9 x88_3).f2))).setCell ⟨gb235, 3, none⟩ (.string ((rd_T67 l0_9 x88_3).f3))).setCell ⟨gb235, 4, none⟩ (.int .i64 ((rd_T67 l0_9 x88_3).f4))) = w90 at n0_ n1_ n2_ n3_ ⊢
    have HO_4 := n0_
    have BK171 := n1_
    have BK235 := n2_
    have HB := n3_
    clear n0_ n1_ n2_ n3_
    replace HO_4 := Aside0.mk (Kd.V_drew HO_4.out)
    replace BK171 := Aside0.mk (blk_drew BK171.out)
    replace BK235 := Aside0.mk (blk_drew BK235.out)
    replace HB := Aside0.mk (below_drew1 HB.out)
    refine start_ (n := 17) (S := fun w' => w'.cell? ⟨gb235, 0, none⟩ = some (.int .i64 ((rd_T67 l0_9 x88_3).f0)) ∧ w'.cell? ⟨gb235, 1, none⟩ = some (.int .i64 ((rd_T67 l0_9 x88_3).f1)) ∧ w'.cell? ⟨gb235, 2, none⟩ = some (.int .i64 ((rd_T67 l0_9 x88_3).f2)) ∧ w'.cell? ⟨gb235, 3, none⟩ = some (.string ((rd_T67 l0_9 x88_3).f3)) ∧ w'.cell? ⟨gb235, 4, none⟩ = some (.int .i64 ((rd_T67 l0_9 x88_3).f4))) (ds := []) (Ra_ [0, 17]) (by kernel_rfl) rfl rfl ⟨(blk_cell BK235.out 0).trans rfl, (blk_cell BK235.out 1).trans rfl, (blk_cell BK235.out 2).trans rfl, (blk_cell BK235.out 3).trans rfl, (blk_cell BK235.out 4).trans rfl⟩ (fun hHeld => ?_); refine with_tabW frame_Reply.tab21 frame_Reply.bits21 (fun HT_ HW_ => ?_)
    generalize w90.drew = w91 at HO_4 BK171 BK235 HB hHeld ⊢
    refine pI_ 0 (some 92) (Ra_ [1, 16]) (h := ?_)
    refine pI_ 1 (some 93) (Ra_ [2, 15]) (h := ?_)
    refine pI_ 3 (some 95) (Ra_ [2, 1, 1, 13]) (h := ?_)
    refine pI_ 5 (some 97) (Ra_ [2, 1, 1, 1, 1, 11]) (h := ?_)
    refine pI_ 9 (some 101) (Ra_ [2, 1, 1, 1, 1, 3, 1, 7]) (h := ?_)
    refine pI_ 12 (some 104) (Ra_ [2, 1, 1, 1, 1, 3, 1, 2, 1, 4]) (h := ?_)
    refine tI5_ 2 (some 94) (Ra_ [4, 1, 1, 3, 1, 2, 1, 4]) (h := ?_)
    refine tI5_ 4 (some 96) (Ra_ [6, 3, 1, 2, 1, 4]) (h := ?_)
    refine tI5_ 6 (some 98) (Ra_ [7, 2, 1, 2, 1, 4]) (h := ?_)
    refine tI5_ 10 (some 102) (Ra_ [7, 2, 2, 1, 1, 4]) (h := ?_)
    refine tI5_ 13 (some 105) (Ra_ [7, 2, 2, 1, 2, 3]) (h := ?_)
    refine join_ (σ := Value × Value × Value × Value) 2 (Ra_ [15, 2]) (fun s_ => [(99, s_.1), (100, s_.2.1), (103, s_.2.2.1), (106, s_.2.2.2)]) (fun s_ w' => (w'.cell? ⟨gb235, 0, none⟩ = some (.int .i64 ((rd_T67 l0_9 x88_3).f0)) ∧ w'.cell? ⟨gb235, 1, none⟩ = some (.int .i64 ((rd_T67 l0_9 x88_3).f1)) ∧ w'.cell? ⟨gb235, 2, none⟩ = some (.int .i64 ((rd_T67 l0_9 x88_3).f2)) ∧ w'.cell? ⟨gb235, 3, none⟩ = some (.string ((rd_T67 l0_9 x88_3).f3)) ∧ w'.cell? ⟨gb235, 4, none⟩ = some (.int .i64 ((rd_T67 l0_9 x88_3).f4))) ∧ (Kd.R (Kd.int .i64) 3 w' w.heap.size (fun k_ => (w.heap.size ≤ k_) ∧ some k_ ≠ (s_.2.2.2 : Value).ownBlock) s_.1 y236) ∧ (Kd.V (Kd.int .u8) 5 w' w.heap.size (fun k_ => (w.heap.size ≤ k_) ∧ some k_ ≠ (s_.1 : Value).ownBlock ∧ some k_ ≠ (s_.2.2.1 : Value).ownBlock ∧ some k_ ≠ (s_.2.2.2 : Value).ownBlock ∧ k_ ≠ gb171 ∧ k_ ≠ gb235) s_.2.1 t239) ∧ (Kd.R (Kd.int .u8) 5 w' w.heap.size (fun k_ => (w.heap.size ≤ k_)) s_.2.2.1 t242) ∧ (Kd.R (Kd.int .i64) 3 w' w.heap.size (fun k_ => (w.heap.size ≤ k_) ∧ some k_ ≠ (s_.1 : Value).ownBlock) s_.2.2.2 y245) ∧ (Kd.V (Kd.int .u8) 5 w' w.heap.size (fun k_ => (w.heap.size ≤ k_) ∧ some k_ ≠ (s_.1 : Value).ownBlock ∧ some k_ ≠ (s_.2.2.1 : Value).ownBlock ∧ some k_ ≠ (s_.2.2.2 : Value).ownBlock ∧ k_ ≠ gb171 ∧ k_ ≠ gb235) (.slice Ao89 x4_3.length co89) x4_3) ∧ (w'.heap[gb171]? = some (.cells #[.int .i64 a0_0, .int .i64 a0_1, .int .i64 a0_2, .slice A0_3 l0_3.length c0_3, .string a0_4, .string a0_5, .slice A0_6 l0_6.length c0_6, .slice A0_7 l0_7.length c0_7, .string a0_8, .slice (some ad234) l0_9.length c0_9, .int .i64 a0_10, .int .i64 a0_11] 34 (0, 0))) ∧ (w'.heap[gb235]? = some (.cells #[.int .i64 ((rd_T67 l0_9 x88_3).f0), .int .i64 ((rd_T67 l0_9 x88_3).f1), .int .i64 ((rd_T67 l0_9 x88_3).f2), .string ((rd_T67 l0_9 x88_3).f3), .int .i64 ((rd_T67 l0_9 x88_3).f4)] 67 (0, 0))) ∧ (Below w.heap.size w w')) ?_ ?_
    rotate_left
    ·intro hCont
     refine two_ (i := 7) (j := 14) (Ni := some 99) (Nj := some 106) (Ra_ [8, 1, 2, 1, 2, 3]) (Ra_ [7, 2, 2, 1, 3, 2]) rfl rfl rfl rfl (two_of HT_.out (by kernel_rfl)) (by decide) (by decide) (fun K hK => ?_) (fun K hK => ?_)
     ·skip
      refine Kd.R_lit_step (Kd.int .i64) _ 3 ?hg (N := 99) ?hd (xs := ([(rd_T67 l0_9 x88_3).f0, (rd_T67 l0_9 x88_3).f1, (rd_T67 l0_9 x88_3).f2] : List Int)) (inner := [.int .i64 ((rd_T67 l0_9 x88_3).f0), .int .i64 ((rd_T67 l0_9 x88_3).f1), .int .i64 ((rd_T67 l0_9 x88_3).f2)]) (ok := fun _ => True) (okp := fun _ => True) ?hr ?hp (fun _ hk => hk) trivial (Below.refl _ _) (Nat.le_refl _) (by simp) ?_; (case hd => rfl); (case hg => rfl); (case hr => first | (go_simp; done) | (go_simp; rfl)); (case hp => exact (Reps.one (show Kd.M (Kd.int .i64) _ _ _ ((rd_T67 l0_9 x88_3).f0) [.int .i64 ((rd_T67 l0_9 x88_3).f0)] from rfl) (Reps.one (show Kd.M (Kd.int .i64) _ _ _ ((rd_T67 l0_9 x88_3).f1) [.int .i64 ((rd_T67 l0_9 x88_3).f1)] from rfl) (Reps.one (show Kd.M (Kd.int .i64) _ _ _ ((rd_T67 l0_9 x88_3).f2) [.int .i64 ((rd_T67 l0_9 x88_3).f2)] from rfl) (Reps.none _ _)))))
      intro v237 w92 ho93 hb hg_ hnew_
      clear hg_ hnew_
      (first | rw [← Ny236.out] at ho93 | (simp only [Int.reduceToNat] at ho93; rw [← Ny236.out] at ho93))
      replace HO_4 := Aside0.mk (Kd.V_elder' m26_ (Kd.R_base ho93) hb)
      have HO238 := Aside0.mk (Kd.R_lower (Kd.R_newM (M := fun k_ => (w.heap.size ≤ k_)) ho93 (below_size m0_) (fun k_ h_ => h_)) (below_size m0_))
      replace BK171 := Aside0.mk (blk_below (g := gb171) (o := .cells #[.int .i64 a0_0, .int .i64 a0_1, .int .i64 a0_2, .slice A0_3 l0_3.length c0_3, .string a0_4, .string a0_5, .slice A0_6 l0_6.length c0_6, .slice A0_7 l0_7.length c0_7, .string a0_8, .slice (some ad234) l0_9.length c0_9, .int .i64 a0_10, .int .i64 a0_11] 34 (0, 0)) m14_ hb)
      replace BK235 := Aside0.mk (blk_below (g := gb235) (o := .cells #[.int .i64 ((rd_T67 l0_9 x88_3).f0), .int .i64 ((rd_T67 l0_9 x88_3).f1), .int .i64 ((rd_T67 l0_9 x88_3).f2), .string ((rd_T67 l0_9 x88_3).f3), .int .i64 ((rd_T67 l0_9 x88_3).f4)] 67 (0, 0)) m16_ hb)
      replace HB := Aside0.mk (below_step m0_ hb)
      clear hb ho93
      obtain ⟨Ao94, co94, eo94⟩ := Kd.R_slice HO238.out
      (first | subst eo94 | (injection eo94 with f1_ f2_ f3_; have f4_ := f1_.symm; have f5_ := f3_.symm; clear f1_ f2_ f3_; subst f4_; subst f5_))
      refine hK.out _ _ ⟨(blk_cell BK235.out 0).trans rfl, (blk_cell BK235.out 1).trans rfl, (blk_cell BK235.out 2).trans rfl, (blk_cell BK235.out 3).trans rfl, (blk_cell BK235.out 4).trans rfl⟩ (fun hHeld => ?_)
      clear hK K
      refine norm_ (a' := ?_) ?_ ?_
      rotate_left
      ·show Act.put _ (some 99) _ = _
       simp only [Act.put, sA_, sB_, sC_, i64_w, i32_w]
       rfl
      refine two_ (i := 8) (j := 14) (Ni := some 100) (Nj := some 106) (Ra_ [11, 1, 2, 3]) (Ra_ [8, 1, 2, 1, 3, 2]) rfl rfl rfl rfl (two_of HT_.out (by kernel_rfl)) (by decide) (by decide) (fun K hK => ?_) (fun K hK => ?_)
      ·skip
       refine goes_ Tryd.func30 (by kernel_rfl) rfl #[.slice Ao89 x4_3.length co89, .slice Ao94 y236.length co94] (by rfl) rfl rfl m12_ ?_
       with_reducible refine (frame_put.calls k3 (fun k_ => (((w.heap.size ≤ k_) ∧ (k_ ≠ gb171 ∧ k_ ≠ gb235)) ∧ some k_ ≠ (.slice Ao94 y236.length co94 : Value).ownBlock)) _ _ x4_3 _ _ y236 t239 _ ?side1 ?side2 ?side3 A83.out).mono ?_
       (case side1 => exact HO_4.out)
       (case side2 => exact m34_)
       (case side3 => exact (Kd.R_reads' HO238.out).2.1)
       rintro e w95 ⟨v240, rfl, ho0, hb⟩
       refine ⟨_, rfl, ?_⟩
       have n0_ := Aside0.mk (Kd.V_below m26_ hb)
       have n1_ := Aside0.mk (Kd.R_below m20_ hb)
       have n2_ := Aside0.mk (Kd.V_lower (Kd.V_mono (ok' := fun k_ => (w.heap.size ≤ k_) ∧ some k_ ≠ (.slice Ao94 y236.length co94 : Value).ownBlock ∧ k_ ≠ gb171 ∧ k_ ≠ gb235) ho0 (fun k_ hk_ => ⟨Or.elim hk_ (fun hs_ => hs_.1.1) (fun hn_ => (Nat.le_trans (below_size m0_) hn_)), Or.elim hk_ (fun hs_ => hs_.2) (fun hn_ => (Kd.fresh' (Kd.R_lt m20_) k_ hn_)), Or.elim hk_ (fun hs_ => hs_.1.2.1) (fun hn_ => (Kd.freshB (g := gb171) (o := .cells #[.int .i64 a0_0, .int .i64 a0_1, .int .i64 a0_2, .slice A0_3 l0_3.length c0_3, .string a0_4, .string a0_5, .slice A0_6 l0_6.length c0_6, .slice A0_7 l0_7.length c0_7, .string a0_8, .slice (some ad234) l0_9.length c0_9, .int .i64 a0_10, .int .i64 a0_11] 34 (0, 0)) m14_ k_ hn_)), Or.elim hk_ (fun hs_ => hs_.1.2.2) (fun hn_ => (Kd.freshB (g := gb235) (o := .cells #[.int .i64 ((rd_T67 l0_9 x88_3).f0), .int .i64 ((rd_T67 l0_9 x88_3).f1), .int .i64 ((rd_T67 l0_9 x88_3).f2), .string ((rd_T67 l0_9 x88_3).f3), .int .i64 ((rd_T67 l0_9 x88_3).f4)] 67 (0, 0)) m16_ k_ hn_))⟩)) (below_size m0_))
       have n3_ := Aside0.mk (blk_below (g := gb171) (o := .cells #[.int .i64 a0_0, .int .i64 a0_1, .int .i64 a0_2, .slice A0_3 l0_3.length c0_3, .string a0_4, .string a0_5, .slice A0_6 l0_6.length c0_6, .slice A0_7 l0_7.length c0_7, .string a0_8, .slice (some ad234) l0_9.length c0_9, .int .i64 a0_10, .int .i64 a0_11] 34 (0, 0)) m14_ hb)
       have n4_ := Aside0.mk (blk_below (g := gb235) (o := .cells #[.int .i64 ((rd_T67 l0_9 x88_3).f0), .int .i64 ((rd_T67 l0_9 x88_3).f1), .int .i64 ((rd_T67 l0_9 x88_3).f2), .string ((rd_T67 l0_9 x88_3).f3), .int .i64 ((rd_T67 l0_9 x88_3).f4)] 67 (0, 0)) m16_ hb)
       have n5_ := Aside0.mk (below_step m0_ hb)
       clear HO_4 HO238 BK171 BK235 HB
       have HO_4 := n0_
       have HO238 := n1_
       have HO241 := n2_
       have BK171 := n3_
       have BK235 := n4_
       have HB := n5_
       clear n0_ n1_ n2_ n3_ n4_ n5_
       (try clear hb)
       (try clear hb2)
       (try clear hk)
       (try clear hi)
       (try clear ho0)
       obtain ⟨Ao96, co96, eo96⟩ := Kd.V_slice HO241.out
       (first | subst eo96 | (injection eo96 with f1_ f2_ f3_; have f4_ := f1_.symm; have f5_ := f3_.symm; clear f1_ f2_ f3_; subst f4_; subst f5_))
       refine hK.out _ _ ⟨(blk_cell BK235.out 0).trans rfl, (blk_cell BK235.out 1).trans rfl, (blk_cell BK235.out 2).trans rfl, (blk_cell BK235.out 3).trans rfl, (blk_cell BK235.out 4).trans rfl⟩ (fun hHeld => ?_)
       clear hK K
       refine norm_ (a' := ?_) ?_ ?_
       rotate_left
       ·show Act.put _ (some 100) _ = _
        simp only [Act.put, sA_, sB_, sC_, i64_w, i32_w]
        rfl
       refine two_ (i := 11) (j := 14) (Ni := some 103) (Nj := some 106) (Ra_ [14, 3]) (Ra_ [11, 1, 3, 2]) rfl rfl rfl rfl (two_of HT_.out (by kernel_rfl)) (by decide) (by decide) (fun K hK => ?_) (fun K hK => ?_)
       ·skip
        refine goes_ Tryd.func31 (by kernel_rfl) rfl #[.slice Ao96 t239.length co96, .string ((rd_T67 l0_9 x88_3).f3)] (by rfl) rfl rfl m12_ ?_
        with_reducible refine (num_PutText.calls k3 _ _ t239 ((rd_T67 l0_9 x88_3).f3) t242 _ ?side1 ?side2 A84.out).mono ?_
        (case side1 => exact m35_)
        (case side2 => exact (Kd.V_reads' HO241.out).2.1)
        rintro e w97 ⟨v243, rfl, ho0, hb⟩
        refine ⟨_, rfl, ?_⟩
        replace HO_4 := Aside0.mk (Kd.V_elder' m26_ (Kd.R_base ho0) hb)
        replace HO238 := Aside0.mk (Kd.R_below m20_ hb)
        replace HO241 := Aside0.mk (Kd.V_elder' m24_ (Kd.R_base ho0) hb)
        have HO244 := Aside0.mk (Kd.R_lower (Kd.R_newM (M := fun k_ => (w.heap.size ≤ k_)) ho0 (below_size m0_) (fun k_ h_ => h_)) (below_size m0_))
        replace BK171 := Aside0.mk (blk_below (g := gb171) (o := .cells #[.int .i64 a0_0, .int .i64 a0_1, .int .i64 a0_2, .slice A0_3 l0_3.length c0_3, .string a0_4, .string a0_5, .slice A0_6 l0_6.length c0_6, .slice A0_7 l0_7.length c0_7, .string a0_8, .slice (some ad234) l0_9.length c0_9, .int .i64 a0_10, .int .i64 a0_11] 34 (0, 0)) m14_ hb)
        replace BK235 := Aside0.mk (blk_below (g := gb235) (o := .cells #[.int .i64 ((rd_T67 l0_9 x88_3).f0), .int .i64 ((rd_T67 l0_9 x88_3).f1), .int .i64 ((rd_T67 l0_9 x88_3).f2), .string ((rd_T67 l0_9 x88_3).f3), .int .i64 ((rd_T67 l0_9 x88_3).f4)] 67 (0, 0)) m16_ hb)
        replace HB := Aside0.mk (below_step m0_ hb)
        (try clear hb)
        (try clear hb2)
        (try clear hk)
        (try clear hi)
        (try clear ho0)
        refine hK.out _ _ ⟨(blk_cell BK235.out 0).trans rfl, (blk_cell BK235.out 1).trans rfl, (blk_cell BK235.out 2).trans rfl, (blk_cell BK235.out 3).trans rfl, (blk_cell BK235.out 4).trans rfl⟩ (fun hHeld => ?_)
        clear hK K
        refine norm_ (a' := ?_) ?_ ?_
        rotate_left
        ·show Act.put _ (some 103) _ = _
         simp only [Act.put, sA_, sB_, sC_, i64_w, i32_w]
         rfl
        refine one_ (i := 14) (N := some 106) (Ra_ [15, 2]) rfl rfl (one_of HT_.out (by kernel_rfl)) (by decide) (fun K hK => ?_)
        refine Kd.R_lit_step (Kd.int .i64) _ 3 ?hg (N := 106) ?hd (xs := ([(rd_T67 l0_9 x88_3).f4] : List Int)) (inner := [.int .i64 ((rd_T67 l0_9 x88_3).f4)]) (ok := fun _ => True) (okp := fun _ => True) ?hr ?hp (fun _ hk => hk) trivial (Below.refl _ _) (Nat.le_refl _) (by simp) ?_; (case hd => rfl); (case hg => rfl); (case hr => first | (go_simp; done) | (go_simp; rfl)); (case hp => exact (Reps.one (show Kd.M (Kd.int .i64) _ _ _ ((rd_T67 l0_9 x88_3).f4) [.int .i64 ((rd_T67 l0_9 x88_3).f4)] from rfl) (Reps.none _ _)))
        intro v246 w98 ho99 hb hg_ hnew_
        clear hg_ hnew_
        (first | rw [← Ny245.out] at ho99 | (simp only [Int.reduceToNat] at ho99; rw [← Ny245.out] at ho99))
        have n0_ := Aside0.mk (Kd.V_elder' m26_ (Kd.R_base ho99) hb)
        have n1_ := Aside0.mk (Kd.R_elder' m20_ (Kd.R_base ho99) hb)
        have n2_ := Aside0.mk (Kd.V_elder' m24_ (Kd.R_base ho99) hb)
        have n3_ := Aside0.mk (Kd.R_below (by (with_reducible repeat (first | apply Kd.R_alloc | apply Kd.R_drewN | apply Kd.R_drew)); exact HO244.out) hb)
        have n4_ := Aside0.mk (Kd.R_lower (Kd.R_new' (Kd.R_newM (M := fun k_ => (w.heap.size ≤ k_)) ho99 (below_size m0_) (fun k_ h_ => h_)) (Kd.R_lt m20_)) (below_size m0_))
        have n5_ := Aside0.mk (blk_below (g := gb171) (o := .cells #[.int .i64 a0_0, .int .i64 a0_1, .int .i64 a0_2, .slice A0_3 l0_3.length c0_3, .string a0_4, .string a0_5, .slice A0_6 l0_6.length c0_6, .slice A0_7 l0_7.length c0_7, .string a0_8, .slice (some ad234) l0_9.length c0_9, .int .i64 a0_10, .int .i64 a0_11] 34 (0, 0)) m14_ hb)
        have n6_ := Aside0.mk (blk_below (g := gb235) (o := .cells #[.int .i64 ((rd_T67 l0_9 x88_3).f0), .int .i64 ((rd_T67 l0_9 x88_3).f1), .int .i64 ((rd_T67 l0_9 x88_3).f2), .string ((rd_T67 l0_9 x88_3).f3), .int .i64 ((rd_T67 l0_9 x88_3).f4)] 67 (0, 0)) m16_ hb)
        have n7_ := Aside0.mk (below_step m0_ hb)
        clear HO_4 HO238 HO241 HO244 BK171 BK235 HB
        have HO_4 := n0_
        have HO238 := n1_
        have HO241 := n2_
        have HO244 := n3_
        have HO247 := n4_
        have BK171 := n5_
        have BK235 := n6_
        have HB := n7_
        clear n0_ n1_ n2_ n3_ n4_ n5_ n6_ n7_ hb ho99
        refine hK.out _ _ ⟨(blk_cell BK235.out 0).trans rfl, (blk_cell BK235.out 1).trans rfl, (blk_cell BK235.out 2).trans rfl, (blk_cell BK235.out 3).trans rfl, (blk_cell BK235.out 4).trans rfl⟩ (fun hHeld => ?_)
        clear hK K
        refine norm_ (a' := ?_) ?_ ?_
        rotate_left
        ·show Act.put _ (some 106) _ = _
         simp only [Act.put, sA_, sB_, sC_, i64_w, i32_w]
         rfl
        exact norm_ (by simp only [putAll, Act.put, List.setIfInBounds_toArray, List.set_cons_zero, List.set_cons_succ]) (hCont (.slice Ao94 y236.length co94, .slice Ao96 t239.length co96, v243, v246) _ ⟨hHeld, (by (with_reducible repeat (first | apply Kd.R_alloc | apply Kd.R_drewN | apply Kd.R_drew)); exact Kd.R_mono HO238.out (fun _ hk => ⟨hk.1.1, hk.2⟩)), (by (with_reducible repeat (first | apply Kd.V_alloc | apply Kd.V_drewN | apply Kd.V_drew)); exact Kd.V_mono HO241.out (fun _ hk => ⟨hk.1.1.1, ⟨hk.1.1.2.1, ⟨hk.1.2, ⟨hk.2, ⟨hk.1.1.2.2.1, hk.1.1.2.2.2⟩⟩⟩⟩⟩)), (by (with_reducible repeat (first | apply Kd.R_alloc | apply Kd.R_drewN | apply Kd.R_drew)); exact Kd.R_mono HO244.out (fun _ hk => hk.1)), (by (with_reducible repeat (first | apply Kd.R_alloc | apply Kd.R_drewN | apply Kd.R_drew)); exact Kd.R_mono HO247.out (fun _ hk => ⟨hk.1.1, hk.2⟩)), (by (with_reducible repeat (first | apply Kd.V_alloc | apply Kd.V_drewN | apply Kd.V_drew)); exact Kd.V_mono HO_4.out (fun _ hk => ⟨hk.1.1.1.1, ⟨hk.1.1.2, ⟨hk.1.2, ⟨hk.2, ⟨hk.1.1.1.2.1, hk.1.1.1.2.2⟩⟩⟩⟩⟩)), m14_, m16_, m0_⟩)
       skip
       refine Kd.R_lit_step (Kd.int .i64) _ 3 ?hg (N := 106) ?hd (xs := ([(rd_T67 l0_9 x88_3).f4] : List Int)) (inner := [.int .i64 ((rd_T67 l0_9 x88_3).f4)]) (ok := fun _ => True) (okp := fun _ => True) ?hr ?hp (fun _ hk => hk) trivial (Below.refl _ _) (Nat.le_refl _) (by simp) ?_; (case hd => rfl); (case hg => rfl); (case hr => first | (go_simp; done) | (go_simp; rfl)); (case hp => exact (Reps.one (show Kd.M (Kd.int .i64) _ _ _ ((rd_T67 l0_9 x88_3).f4) [.int .i64 ((rd_T67 l0_9 x88_3).f4)] from rfl) (Reps.none _ _)))
       intro v246 w96 ho97 hb hg_ hnew_
       clear hg_ hnew_
       (first | rw [← Ny245.out] at ho97 | (simp only [Int.reduceToNat] at ho97; rw [← Ny245.out] at ho97))
       have n0_ := Aside0.mk (Kd.V_elder' m26_ (Kd.R_base ho97) hb)
       have n1_ := Aside0.mk (Kd.R_elder' m20_ (Kd.R_base ho97) hb)
       have n2_ := Aside0.mk (Kd.V_elder' m24_ (Kd.R_base ho97) hb)
       have n3_ := Aside0.mk (Kd.R_lower (Kd.R_new' (Kd.R_newM (M := fun k_ => (w.heap.size ≤ k_)) ho97 (below_size m0_) (fun k_ h_ => h_)) (Kd.R_lt m20_)) (below_size m0_))
       have n4_ := Aside0.mk (blk_below (g := gb171) (o := .cells #[.int .i64 a0_0, .int .i64 a0_1, .int .i64 a0_2, .slice A0_3 l0_3.length c0_3, .string a0_4, .string a0_5, .slice A0_6 l0_6.length c0_6, .slice A0_7 l0_7.length c0_7, .string a0_8, .slice (some ad234) l0_9.length c0_9, .int .i64 a0_10, .int .i64 a0_11] 34 (0, 0)) m14_ hb)
       have n5_ := Aside0.mk (blk_below (g := gb235) (o := .cells #[.int .i64 ((rd_T67 l0_9 x88_3).f0), .int .i64 ((rd_T67 l0_9 x88_3).f1), .int .i64 ((rd_T67 l0_9 x88_3).f2), .string ((rd_T67 l0_9 x88_3).f3), .int .i64 ((rd_T67 l0_9 x88_3).f4)] 67 (0, 0)) m16_ hb)
       have n6_ := Aside0.mk (below_step m0_ hb)
       clear HO_4 HO238 HO241 BK171 BK235 HB
       have HO_4 := n0_
       have HO238 := n1_
       have HO241 := n2_
       have HO247 := n3_
       have BK171 := n4_
       have BK235 := n5_
       have HB := n6_
       clear n0_ n1_ n2_ n3_ n4_ n5_ n6_ hb ho97
       obtain ⟨Ao98, co98, eo98⟩ := Kd.V_slice HO241.out
       (first | subst eo98 | (injection eo98 with f1_ f2_ f3_; have f4_ := f1_.symm; have f5_ := f3_.symm; clear f1_ f2_ f3_; subst f4_; subst f5_))
       refine hK.out _ _ ⟨(blk_cell BK235.out 0).trans rfl, (blk_cell BK235.out 1).trans rfl, (blk_cell BK235.out 2).trans rfl, (blk_cell BK235.out 3).trans rfl, (blk_cell BK235.out 4).trans rfl⟩ (fun hHeld => ?_)
       clear hK K
       refine norm_ (a' := ?_) ?_ ?_
       rotate_left
       ·show Act.put _ (some 106) _ = _
        simp only [Act.put, sA_, sB_, sC_, i64_w, i32_w]
        rfl
       refine one_ (i := 11) (N := some 103) (Ra_ [15, 2]) rfl rfl (one_of HT_.out (by kernel_rfl)) (by decide) (fun K hK => ?_)
       refine goes_ Tryd.func31 (by kernel_rfl) rfl #[.slice Ao98 t239.length co98, .string ((rd_T67 l0_9 x88_3).f3)] (by rfl) rfl rfl m12_ ?_
       with_reducible refine (num_PutText.calls k3 _ _ t239 ((rd_T67 l0_9 x88_3).f3) t242 _ ?side1 ?side2 A84.out).mono ?_
       (case side1 => exact m35_)
       (case side2 => exact (Kd.V_reads' HO241.out).2.1)
       rintro e w99 ⟨v243, rfl, ho0, hb⟩
       refine ⟨_, rfl, ?_⟩
       replace HO_4 := Aside0.mk (Kd.V_elder' m26_ (Kd.R_base ho0) hb)
       replace HO238 := Aside0.mk (Kd.R_below m20_ hb)
       replace HO241 := Aside0.mk (Kd.V_elder' m24_ (Kd.R_base ho0) hb)
       replace HO247 := Aside0.mk (Kd.R_below m21_ hb)
       have HO244 := Aside0.mk (Kd.R_lower (Kd.R_newM (M := fun k_ => (w.heap.size ≤ k_)) ho0 (below_size m0_) (fun k_ h_ => h_)) (below_size m0_))
       replace BK171 := Aside0.mk (blk_below (g := gb171) (o := .cells #[.int .i64 a0_0, .int .i64 a0_1, .int .i64 a0_2, .slice A0_3 l0_3.length c0_3, .string a0_4, .string a0_5, .slice A0_6 l0_6.length c0_6, .slice A0_7 l0_7.length c0_7, .string a0_8, .slice (some ad234) l0_9.length c0_9, .int .i64 a0_10, .int .i64 a0_11] 34 (0, 0)) m14_ hb)
       replace BK235 := Aside0.mk (blk_below (g := gb235) (o := .cells #[.int .i64 ((rd_T67 l0_9 x88_3).f0), .int .i64 ((rd_T67 l0_9 x88_3).f1), .int .i64 ((rd_T67 l0_9 x88_3).f2), .string ((rd_T67 l0_9 x88_3).f3), .int .i64 ((rd_T67 l0_9 x88_3).f4)] 67 (0, 0)) m16_ hb)
       replace HB := Aside0.mk (below_step m0_ hb)
       (try clear hb)
       (try clear hb2)
       (try clear hk)
       (try clear hi)
       (try clear ho0)
       refine hK.out _ _ ⟨(blk_cell BK235.out 0).trans rfl, (blk_cell BK235.out 1).trans rfl, (blk_cell BK235.out 2).trans rfl, (blk_cell BK235.out 3).trans rfl, (blk_cell BK235.out 4).trans rfl⟩ (fun hHeld => ?_)
       clear hK K
       refine norm_ (a' := ?_) ?_ ?_
       rotate_left
       ·show Act.put _ (some 103) _ = _
        simp only [Act.put, sA_, sB_, sC_, i64_w, i32_w]
        rfl
       exact norm_ (by simp only [putAll, Act.put, List.setIfInBounds_toArray, List.set_cons_zero, List.set_cons_succ]) (hCont (.slice Ao94 y236.length co94, .slice Ao98 t239.length co98, v243, v246) _ ⟨hHeld, (by (with_reducible repeat (first | apply Kd.R_alloc | apply Kd.R_drewN | apply Kd.R_drew)); exact Kd.R_mono HO238.out (fun _ hk => ⟨hk.1.1, hk.2⟩)), (by (with_reducible repeat (first | apply Kd.V_alloc | apply Kd.V_drewN | apply Kd.V_drew)); exact Kd.V_mono HO241.out (fun _ hk => ⟨hk.1.1.1, ⟨hk.1.1.2.1, ⟨hk.2, ⟨hk.1.2, ⟨hk.1.1.2.2.1, hk.1.1.2.2.2⟩⟩⟩⟩⟩)), (by (with_reducible repeat (first | apply Kd.R_alloc | apply Kd.R_drewN | apply Kd.R_drew)); exact Kd.R_mono HO244.out (fun _ hk => hk.1)), (by (with_reducible repeat (first | apply Kd.R_alloc | apply Kd.R_drewN | apply Kd.R_drew)); exact Kd.R_mono HO247.out (fun _ hk => ⟨hk.1.1, hk.2⟩)), (by (with_reducible repeat (first | apply Kd.V_alloc | apply Kd.V_drewN | apply Kd.V_drew)); exact Kd.V_mono HO_4.out (fun _ hk => ⟨hk.1.1.1.1, ⟨hk.1.1.2, ⟨hk.2, ⟨hk.1.2, ⟨hk.1.1.1.2.1, hk.1.1.1.2.2⟩⟩⟩⟩⟩)), m14_, m16_, m0_⟩)
      skip
      refine Kd.R_lit_step (Kd.int .i64) _ 3 ?hg (N := 106) ?hd (xs := ([(rd_T67 l0_9 x88_3).f4] : List Int)) (inner := [.int .i64 ((rd_T67 l0_9 x88_3).f4)]) (ok := fun _ => True) (okp := fun _ => True) ?hr ?hp (fun _ hk => hk) trivial (Below.refl _ _) (Nat.le_refl _) (by simp) ?_; (case hd => rfl); (case hg => rfl); (case hr => first | (go_simp; done) | (go_simp; rfl)); (case hp => exact (Reps.one (show Kd.M (Kd.int .i64) _ _ _ ((rd_T67 l0_9 x88_3).f4) [.int .i64 ((rd_T67 l0_9 x88_3).f4)] from rfl) (Reps.none _ _)))
      intro v246 w94 ho95 hb hg_ hnew_
      clear hg_ hnew_
      (first | rw [← Ny245.out] at ho95 | (simp only [Int.reduceToNat] at ho95; rw [← Ny245.out] at ho95))
      have n0_ := Aside0.mk (Kd.V_elder' m26_ (Kd.R_base ho95) hb)
      have n1_ := Aside0.mk (Kd.R_elder' m20_ (Kd.R_base ho95) hb)
      have n2_ := Aside0.mk (Kd.R_lower (Kd.R_new' (Kd.R_newM (M := fun k_ => (w.heap.size ≤ k_)) ho95 (below_size m0_) (fun k_ h_ => h_)) (Kd.R_lt m20_)) (below_size m0_))
      have n3_ := Aside0.mk (blk_below (g := gb171) (o := .cells #[.int .i64 a0_0, .int .i64 a0_1, .int .i64 a0_2, .slice A0_3 l0_3.length c0_3, .string a0_4, .string a0_5, .slice A0_6 l0_6.length c0_6, .slice A0_7 l0_7.length c0_7, .string a0_8, .slice (some ad234) l0_9.length c0_9, .int .i64 a0_10, .int .i64 a0_11] 34 (0, 0)) m14_ hb)
      have n4_ := Aside0.mk (blk_below (g := gb235) (o := .cells #[.int .i64 ((rd_T67 l0_9 x88_3).f0), .int .i64 ((rd_T67 l0_9 x88_3).f1), .int .i64 ((rd_T67 l0_9 x88_3).f2), .string ((rd_T67 l0_9 x88_3).f3), .int .i64 ((rd_T67 l0_9 x88_3).f4)] 67 (0, 0)) m16_ hb)
      have n5_ := Aside0.mk (below_step m0_ hb)
      clear HO_4 HO238 BK171 BK235 HB
      have HO_4 := n0_
      have HO238 := n1_
      have HO247 := n2_
      have BK171 := n3_
      have BK235 := n4_
      have HB := n5_
      clear n0_ n1_ n2_ n3_ n4_ n5_ hb ho95
      obtain ⟨Ao96, co96, eo96⟩ := Kd.R_slice HO238.out
      (first | subst eo96 | (injection eo96 with f1_ f2_ f3_; have f4_ := f1_.symm; have f5_ := f3_.symm; clear f1_ f2_ f3_; subst f4_; subst f5_))
      refine hK.out _ _ ⟨(blk_cell BK235.out 0).trans rfl, (blk_cell BK235.out 1).trans rfl, (blk_cell BK235.out 2).trans rfl, (blk_cell BK235.out 3).trans rfl, (blk_cell BK235.out 4).trans rfl⟩ (fun hHeld => ?_)
      clear hK K
      refine norm_ (a' := ?_) ?_ ?_
      rotate_left
      ·show Act.put _ (some 106) _ = _
       simp only [Act.put, sA_, sB_, sC_, i64_w, i32_w]
       rfl
      refine one_ (i := 8) (N := some 100) (Ra_ [11, 1, 3, 2]) rfl rfl (one_of HT_.out (by kernel_rfl)) (by decide) (fun K hK => ?_)
      refine goes_ Tryd.func30 (by kernel_rfl) rfl #[.slice Ao89 x4_3.length co89, .slice Ao96 y236.length co96] (by rfl) rfl rfl m12_ ?_
      with_reducible refine (frame_put.calls k3 (fun k_ => ((((w.heap.size ≤ k_) ∧ (k_ ≠ gb171 ∧ k_ ≠ gb235)) ∧ some k_ ≠ (.slice Ao96 y236.length co96 : Value).ownBlock) ∧ some k_ ≠ (v246 : Value).ownBlock)) _ _ x4_3 _ _ y236 t239 _ ?side1 ?side2 ?side3 A83.out).mono ?_
      (case side1 => exact HO_4.out)
      (case side2 => exact m34_)
      (case side3 => exact (Kd.R_reads' HO238.out).2.1)
      rintro e w97 ⟨v240, rfl, ho0, hb⟩
      refine ⟨_, rfl, ?_⟩
      have n0_ := Aside0.mk (Kd.V_below m26_ hb)
      have n1_ := Aside0.mk (Kd.R_below m20_ hb)
      have n2_ := Aside0.mk (Kd.R_below m21_ hb)
      have n3_ := Aside0.mk (Kd.V_lower (Kd.V_mono (ok' := fun k_ => (w.heap.size ≤ k_) ∧ some k_ ≠ (.slice Ao96 y236.length co96 : Value).ownBlock ∧ some k_ ≠ (v246 : Value).ownBlock ∧ k_ ≠ gb171 ∧ k_ ≠ gb235) ho0 (fun k_ hk_ => ⟨Or.elim hk_ (fun hs_ => hs_.1.1.1) (fun hn_ => (Nat.le_trans (below_size m0_) hn_)), Or.elim hk_ (fun hs_ => hs_.1.2) (fun hn_ => (Kd.fresh' (Kd.R_lt m20_) k_ hn_)), Or.elim hk_ (fun hs_ => hs_.2) (fun hn_ => (Kd.fresh' (Kd.R_lt m21_) k_ hn_)), Or.elim hk_ (fun hs_ => hs_.1.1.2.1) (fun hn_ => (Kd.freshB (g := gb171) (o := .cells #[.int .i64 a0_0, .int .i64 a0_1, .int .i64 a0_2, .slice A0_3 l0_3.length c0_3, .string a0_4, .string a0_5, .slice A0_6 l0_6.length c0_6, .slice A0_7 l0_7.length c0_7, .string a0_8, .slice (some ad234) l0_9.length c0_9, .int .i64 a0_10, .int .i64 a0_11] 34 (0, 0)) m14_ k_ hn_)), Or.elim hk_ (fun hs_ => hs_.1.1.2.2) (fun hn_ => (Kd.freshB (g := gb235) (o := .cells #[.int .i64 ((rd_T67 l0_9 x88_3).f0), .int .i64 ((rd_T67 l0_9 x88_3).f1), .int .i64 ((rd_T67 l0_9 x88_3).f2), .string ((rd_T67 l0_9 x88_3).f3), .int .i64 ((rd_T67 l0_9 x88_3).f4)] 67 (0, 0)) m16_ k_ hn_))⟩)) (below_size m0_))
      have n4_ := Aside0.mk (blk_below (g := gb171) (o := .cells #[.int .i64 a0_0, .int .i64 a0_1, .int .i64 a0_2, .slice A0_3 l0_3.length c0_3, .string a0_4, .string a0_5, .slice A0_6 l0_6.length c0_6, .slice A0_7 l0_7.length c0_7, .string a0_8, .slice (some ad234) l0_9.length c0_9, .int .i64 a0_10, .int .i64 a0_11] 34 (0, 0)) m14_ hb)
      have n5_ := Aside0.mk (blk_below (g := gb235) (o := .cells #[.int .i64 ((rd_T67 l0_9 x88_3).f0), .int .i64 ((rd_T67 l0_9 x88_3).f1), .int .i64 ((rd_T67 l0_9 x88_3).f2), .string ((rd_T67 l0_9 x88_3).f3), .int .i64 ((rd_T67 l0_9 x88_3).f4)] 67 (0, 0)) m16_ hb)
      have n6_ := Aside0.mk (below_step m0_ hb)
      clear HO_4 HO238 HO247 BK171 BK235 HB
      have HO_4 := n0_
      have HO238 := n1_
      have HO247 := n2_
      have HO241 := n3_
      have BK171 := n4_
      have BK235 := n5_
      have HB := n6_
      clear n0_ n1_ n2_ n3_ n4_ n5_ n6_
      (try clear hb)
      (try clear hb2)
      (try clear hk)
      (try clear hi)
      (try clear ho0)
      obtain ⟨Ao98, co98, eo98⟩ := Kd.V_slice HO241.out
      (first | subst eo98 | (injection eo98 with f1_ f2_ f3_; have f4_ := f1_.symm; have f5_ := f3_.symm; clear f1_ f2_ f3_; subst f4_; subst f5_))
      refine hK.out _ _ ⟨(blk_cell BK235.out 0).trans rfl, (blk_cell BK235.out 1).trans rfl, (blk_cell BK235.out 2).trans rfl, (blk_cell BK235.out 3).trans rfl, (blk_cell BK235.out 4).trans rfl⟩ (fun hHeld => ?_)
      clear hK K
      refine norm_ (a' := ?_) ?_ ?_
      rotate_left
      ·show Act.put _ (some 100) _ = _
       simp only [Act.put, sA_, sB_, sC_, i64_w, i32_w]
       rfl
      refine one_ (i := 11) (N := some 103) (Ra_ [15, 2]) rfl rfl (one_of HT_.out (by kernel_rfl)) (by decide) (fun K hK => ?_)
      refine goes_ Tryd.func31 (by kernel_rfl) rfl #[.slice Ao98 t239.length co98, .string ((rd_T67 l0_9 x88_3).f3)] (by rfl) rfl rfl m12_ ?_
      with_reducible refine (num_PutText.calls k3 _ _ t239 ((rd_T67 l0_9 x88_3).f3) t242 _ ?side1 ?side2 A84.out).mono ?_
      (case side1 => exact m35_)
      (case side2 => exact (Kd.V_reads' HO241.out).2.1)
      rintro e w99 ⟨v243, rfl, ho0, hb⟩
      refine ⟨_, rfl, ?_⟩
      replace HO_4 := Aside0.mk (Kd.V_elder' m26_ (Kd.R_base ho0) hb)
      replace HO238 := Aside0.mk (Kd.R_below m20_ hb)
      replace HO247 := Aside0.mk (Kd.R_below m21_ hb)
      replace HO241 := Aside0.mk (Kd.V_elder' m24_ (Kd.R_base ho0) hb)
      have HO244 := Aside0.mk (Kd.R_lower (Kd.R_newM (M := fun k_ => (w.heap.size ≤ k_)) ho0 (below_size m0_) (fun k_ h_ => h_)) (below_size m0_))
      replace BK171 := Aside0.mk (blk_below (g := gb171) (o := .cells #[.int .i64 a0_0, .int .i64 a0_1, .int .i64 a0_2, .slice A0_3 l0_3.length c0_3, .string a0_4, .string a0_5, .slice A0_6 l0_6.length c0_6, .slice A0_7 l0_7.length c0_7, .string a0_8, .slice (some ad234) l0_9.length c0_9, .int .i64 a0_10, .int .i64 a0_11] 34 (0, 0)) m14_ hb)
      replace BK235 := Aside0.mk (blk_below (g := gb235) (o := .cells #[.int .i64 ((rd_T67 l0_9 x88_3).f0), .int .i64 ((rd_T67 l0_9 x88_3).f1), .int .i64 ((rd_T67 l0_9 x88_3).f2), .string ((rd_T67 l0_9 x88_3).f3), .int .i64 ((rd_T67 l0_9 x88_3).f4)] 67 (0, 0)) m16_ hb)
      replace HB := Aside0.mk (below_step m0_ hb)
      (try clear hb)
      (try clear hb2)
      (try clear hk)
      (try clear hi)
      (try clear ho0)
      refine hK.out _ _ ⟨(blk_cell BK235.out 0).trans rfl, (blk_cell BK235.out 1).trans rfl, (blk_cell BK235.out 2).trans rfl, (blk_cell BK235.out 3).trans rfl, (blk_cell BK235.out 4).trans rfl⟩ (fun hHeld => ?_)
      clear hK K
      refine norm_ (a' := ?_) ?_ ?_
      rotate_left
      ·show Act.put _ (some 103) _ = _
       simp only [Act.put, sA_, sB_, sC_, i64_w, i32_w]
       rfl
      exact norm_ (by simp only [putAll, Act.put, List.setIfInBounds_toArray, List.set_cons_zero, List.set_cons_succ]) (hCont (.slice Ao96 y236.length co96, .slice Ao98 t239.length co98, v243, v246) _ ⟨hHeld, (by (with_reducible repeat (first | apply Kd.R_alloc | apply Kd.R_drewN | apply Kd.R_drew)); exact Kd.R_mono HO238.out (fun _ hk => ⟨hk.1.1, hk.2⟩)), (by (with_reducible repeat (first | apply Kd.V_alloc | apply Kd.V_drewN | apply Kd.V_drew)); exact Kd.V_mono HO241.out (fun _ hk => ⟨hk.1.1, ⟨hk.1.2.1, ⟨hk.2, ⟨hk.1.2.2.1, ⟨hk.1.2.2.2.1, hk.1.2.2.2.2⟩⟩⟩⟩⟩)), (by (with_reducible repeat (first | apply Kd.R_alloc | apply Kd.R_drewN | apply Kd.R_drew)); exact Kd.R_mono HO244.out (fun _ hk => hk.1)), (by (with_reducible repeat (first | apply Kd.R_alloc | apply Kd.R_drewN | apply Kd.R_drew)); exact Kd.R_mono HO247.out (fun _ hk => ⟨hk.1.1, hk.2⟩)), (by (with_reducible repeat (first | apply Kd.V_alloc | apply Kd.V_drewN | apply Kd.V_drew)); exact Kd.V_mono HO_4.out (fun _ hk => ⟨hk.1.1.1.1, ⟨hk.1.1.2, ⟨hk.2, ⟨hk.1.2, ⟨hk.1.1.1.2.1, hk.1.1.1.2.2⟩⟩⟩⟩⟩)), m14_, m16_, m0_⟩)
     skip
     refine Kd.R_lit_step (Kd.int .i64) _ 3 ?hg (N := 106) ?hd (xs := ([(rd_T67 l0_9 x88_3).f4] : List Int)) (inner := [.int .i64 ((rd_T67 l0_9 x88_3).f4)]) (ok := fun _ => True) (okp := fun _ => True) ?hr ?hp (fun _ hk => hk) trivial (Below.refl _ _) (Nat.le_refl _) (by simp) ?_; (case hd => rfl); (case hg => rfl); (case hr => first | (go_simp; done) | (go_simp; rfl)); (case hp => exact (Reps.one (show Kd.M (Kd.int .i64) _ _ _ ((rd_T67 l0_9 x88_3).f4) [.int .i64 ((rd_T67 l0_9 x88_3).f4)] from rfl) (Reps.none _ _)))
     intro v246 w92 ho93 hb hg_ hnew_
     clear hg_ hnew_
     (first | rw [← Ny245.out] at ho93 | (simp only [Int.reduceToNat] at ho93; rw [← Ny245.out] at ho93))
     replace HO_4 := Aside0.mk (Kd.V_elder' m26_ (Kd.R_base ho93) hb)
     have HO247 := Aside0.mk (Kd.R_lower (Kd.R_newM (M := fun k_ => (w.heap.size ≤ k_)) ho93 (below_size m0_) (fun k_ h_ => h_)) (below_size m0_))
     replace BK171 := Aside0.mk (blk_below (g := gb171) (o := .cells #[.int .i64 a0_0, .int .i64 a0_1, .int .i64 a0_2, .slice A0_3 l0_3.length c0_3, .string a0_4, .string a0_5, .slice A0_6 l0_6.length c0_6, .slice A0_7 l0_7.length c0_7, .string a0_8, .slice (some ad234) l0_9.length c0_9, .int .i64 a0_10, .int .i64 a0_11] 34 (0, 0)) m14_ hb)
     replace BK235 := Aside0.mk (blk_below (g := gb235) (o := .cells #[.int .i64 ((rd_T67 l0_9 x88_3).f0), .int .i64 ((rd_T67 l0_9 x88_3).f1), .int .i64 ((rd_T67 l0_9 x88_3).f2), .string ((rd_T67 l0_9 x88_3).f3), .int .i64 ((rd_T67 l0_9 x88_3).f4)] 67 (0, 0)) m16_ hb)
     replace HB := Aside0.mk (below_step m0_ hb)
     clear hb ho93
     refine hK.out _ _ ⟨(blk_cell BK235.out 0).trans rfl, (blk_cell BK235.out 1).trans rfl, (blk_cell BK235.out 2).trans rfl, (blk_cell BK235.out 3).trans rfl, (blk_cell BK235.out 4).trans rfl⟩ (fun hHeld => ?_)
     clear hK K
     refine norm_ (a' := ?_) ?_ ?_
     rotate_left
     ·show Act.put _ (some 106) _ = _
      simp only [Act.put, sA_, sB_, sC_, i64_w, i32_w]
      rfl
     refine one_ (i := 7) (N := some 99) (Ra_ [8, 1, 2, 1, 3, 2]) rfl rfl (one_of HT_.out (by kernel_rfl)) (by decide) (fun K hK => ?_)
     refine Kd.R_lit_step (Kd.int .i64) _ 3 ?hg (N := 99) ?hd (xs := ([(rd_T67 l0_9 x88_3).f0, (rd_T67 l0_9 x88_3).f1, (rd_T67 l0_9 x88_3).f2] : List Int)) (inner := [.int .i64 ((rd_T67 l0_9 x88_3).f0), .int .i64 ((rd_T67 l0_9 x88_3).f1), .int .i64 ((rd_T67 l0_9 x88_3).f2)]) (ok := fun _ => True) (okp := fun _ => True) ?hr ?hp (fun _ hk => hk) trivial (Below.refl _ _) (Nat.le_refl _) (by simp) ?_; (case hd => rfl); (case hg => rfl); (case hr => first | (go_simp; done) | (go_simp; rfl)); (case hp => exact (Reps.one (show Kd.M (Kd.int .i64) _ _ _ ((rd_T67 l0_9 x88_3).f0) [.int .i64 ((rd_T67 l0_9 x88_3).f0)] from rfl) (Reps.one (show Kd.M (Kd.int .i64) _ _ _ ((rd_T67 l0_9 x88_3).f1) [.int .i64 ((rd_T67 l0_9 x88_3).f1)] from rfl) (Reps.one (show Kd.M (Kd.int .i64) _ _ _ ((rd_T67 l0_9 x88_3).f2) [.int .i64 ((rd_T67 l0_9 x88_3).f2)] from rfl) (Reps.none _ _)))))
     intro v237 w94 ho95 hb hg_ hnew_
     clear hg_ hnew_
     (first | rw [← Ny236.out] at ho95 | (simp only [Int.reduceToNat] at ho95; rw [← Ny236.out] at ho95))
     have n0_ := Aside0.mk (Kd.V_elder' m26_ (Kd.R_base ho95) hb)
     have n1_ := Aside0.mk (Kd.R_elder' m21_ (Kd.R_base ho95) hb)
     have n2_ := Aside0.mk (Kd.R_lower (Kd.R_new' (Kd.R_newM (M := fun k_ => (w.heap.size ≤ k_)) ho95 (below_size m0_) (fun k_ h_ => h_)) (Kd.R_lt m21_)) (below_size m0_))
     have n3_ := Aside0.mk (blk_below (g := gb171) (o := .cells #[.int .i64 a0_0, .int .i64 a0_1, .int .i64 a0_2, .slice A0_3 l0_3.length c0_3, .string a0_4, .string a0_5, .slice A0_6 l0_6.length c0_6, .slice A0_7 l0_7.length c0_7, .string a0_8, .slice (some ad234) l0_9.length c0_9, .int .i64 a0_10, .int .i64 a0_11] 34 (0, 0)) m14_ hb)
     have n4_ := Aside0.mk (blk_below (g := gb235) (o := .cells #[.int .i64 ((rd_T67 l0_9 x88_3).f0), .int .i64 ((rd_T67 l0_9 x88_3).f1), .int .i64 ((rd_T67 l0_9 x88_3).f2), .string ((rd_T67 l0_9 x88_3).f3), .int .i64 ((rd_T67 l0_9 x88_3).f4)] 67 (0, 0)) m16_ hb)
     have n5_ := Aside0.mk (below_step m0_ hb)
     clear HO_4 HO247 BK171 BK235 HB
     have HO_4 := n0_
     have HO247 := n1_
     have HO238 := n2_
     have BK171 := n3_
     have BK235 := n4_
     have HB := n5_
     clear n0_ n1_ n2_ n3_ n4_ n5_ hb ho95
     obtain ⟨Ao96, co96, eo96⟩ := Kd.R_slice HO238.out
     (first | subst eo96 | (injection eo96 with f1_ f2_ f3_; have f4_ := f1_.symm; have f5_ := f3_.symm; clear f1_ f2_ f3_; subst f4_; subst f5_))
     refine hK.out _ _ ⟨(blk_cell BK235.out 0).trans rfl, (blk_cell BK235.out 1).trans rfl, (blk_cell BK235.out 2).trans rfl, (blk_cell BK235.out 3).trans rfl, (blk_cell BK235.out 4).trans rfl⟩ (fun hHeld => ?_)
     clear hK K
     refine norm_ (a' := ?_) ?_ ?_
     rotate_left
     ·show Act.put _ (some 99) _ = _
      simp only [Act.put, sA_, sB_, sC_, i64_w, i32_w]
      rfl
     refine one_ (i := 8) (N := some 100) (Ra_ [11, 1, 3, 2]) rfl rfl (one_of HT_.out (by kernel_rfl)) (by decide) (fun K hK => ?_)
     refine goes_ Tryd.func30 (by kernel_rfl) rfl #[.slice Ao89 x4_3.length co89, .slice Ao96 y236.length co96] (by rfl) rfl rfl m12_ ?_
     with_reducible refine (frame_put.calls k3 (fun k_ => ((((w.heap.size ≤ k_) ∧ (k_ ≠ gb171 ∧ k_ ≠ gb235)) ∧ some k_ ≠ (v246 : Value).ownBlock) ∧ some k_ ≠ (.slice Ao96 y236.length co96 : Value).ownBlock)) _ _ x4_3 _ _ y236 t239 _ ?side1 ?side2 ?side3 A83.out).mono ?_
     (case side1 => exact HO_4.out)
     (case side2 => exact m34_)
     (case side3 => exact (Kd.R_reads' HO238.out).2.1)
     rintro e w97 ⟨v240, rfl, ho0, hb⟩
     refine ⟨_, rfl, ?_⟩
     have n0_ := Aside0.mk (Kd.V_below m26_ hb)
     have n1_ := Aside0.mk (Kd.R_below m21_ hb)
     have n2_ := Aside0.mk (Kd.R_below m20_ hb)
     have n3_ := Aside0.mk (Kd.V_lower (Kd.V_mono (ok' := fun k_ => (w.heap.size ≤ k_) ∧ some k_ ≠ (v246 : Value).ownBlock ∧ some k_ ≠ (.slice Ao96 y236.length co96 : Value).ownBlock ∧ k_ ≠ gb171 ∧ k_ ≠ gb235) ho0 (fun k_ hk_ => ⟨Or.elim hk_ (fun hs_ => hs_.1.1.1) (fun hn_ => (Nat.le_trans (below_size m0_) hn_)), Or.elim hk_ (fun hs_ => hs_.1.2) (fun hn_ => (Kd.fresh' (Kd.R_lt m21_) k_ hn_)), Or.elim hk_ (fun hs_ => hs_.2) (fun hn_ => (Kd.fresh' (Kd.R_lt m20_) k_ hn_)), Or.elim hk_ (fun hs_ => hs_.1.1.2.1) (fun hn_ => (Kd.freshB (g := gb171) (o := .cells #[.int .i64 a0_0, .int .i64 a0_1, .int .i64 a0_2, .slice A0_3 l0_3.length c0_3, .string a0_4, .string a0_5, .slice A0_6 l0_6.length c0_6, .slice A0_7 l0_7.length c0_7, .string a0_8, .slice (some ad234) l0_9.length c0_9, .int .i64 a0_10, .int .i64 a0_11] 34 (0, 0)) m14_ k_ hn_)), Or.elim hk_ (fun hs_ => hs_.1.1.2.2) (fun hn_ => (Kd.freshB (g := gb235) (o := .cells #[.int .i64 ((rd_T67 l0_9 x88_3).f0), .int .i64 ((rd_T67 l0_9 x88_3).f1), .int .i64 ((rd_T67 l0_9 x88_3).f2), .string ((rd_T67 l0_9 x88_3).f3), .int .i64 ((rd_T67 l0_9 x88_3).f4)] 67 (0, 0)) m16_ k_ hn_))⟩)) (below_size m0_))
     have n4_ := Aside0.mk (blk_below (g := gb171) (o := .cells #[.int .i64 a0_0, .int .i64 a0_1, .int .i64 a0_2, .slice A0_3 l0_3.length c0_3, .string a0_4, .string a0_5, .slice A0_6 l0_6.length c0_6, .slice A0_7 l0_7.length c0_7, .string a0_8, .slice (some ad234) l0_9.length c0_9, .int .i64 a0_10, .int .i64 a0_11] 34 (0, 0)) m14_ hb)
     have n5_ := Aside0.mk (blk_below (g := gb235) (o := .cells #[.int .i64 ((rd_T67 l0_9 x88_3).f0), .int .i64 ((rd_T67 l0_9 x88_3).f1), .int .i64 ((rd_T67 l0_9 x88_3).f2), .string ((rd_T67 l0_9 x88_3).f3), .int .i64 ((rd_T67 l0_9 x88_3).f4)] 67 (0, 0)) m16_ hb)
     have n6_ := Aside0.mk (below_step m0_ hb)
     clear HO_4 HO247 HO238 BK171 BK235 HB
     have HO_4 := n0_
     have HO247 := n1_
     have HO238 := n2_
     have HO241 := n3_
     have BK171 := n4_
     have BK235 := n5_
     have HB := n6_
     clear n0_ n1_ n2_ n3_ n4_ n5_ n6_
     (try clear hb)
     (try clear hb2)
     (try clear hk)
     (try clear hi)
     (try clear ho0)
     obtain ⟨Ao98, co98, eo98⟩ := Kd.V_slice HO241.out
     (first | subst eo98 | (injection eo98 with f1_ f2_ f3_; have f4_ := f1_.symm; have f5_ := f3_.symm; clear f1_ f2_ f3_; subst f4_; subst f5_))
     refine hK.out _ _ ⟨(blk_cell BK235.out 0).trans rfl, (blk_cell BK235.out 1).trans rfl, (blk_cell BK235.out 2).trans rfl, (blk_cell BK235.out 3).trans rfl, (blk_cell BK235.out 4).trans rfl⟩ (fun hHeld => ?_)
     clear hK K
     refine norm_ (a' := ?_) ?_ ?_
     rotate_left
     ·show Act.put _ (some 100) _ = _
      simp only [Act.put, sA_, sB_, sC_, i64_w, i32_w]
      rfl
     refine one_ (i := 11) (N := some 103) (Ra_ [15, 2]) rfl rfl (one_of HT_.out (by kernel_rfl)) (by decide) (fun K hK => ?_)
     refine goes_ Tryd.func31 (by kernel_rfl) rfl #[.slice Ao98 t239.length co98, .string ((rd_T67 l0_9 x88_3).f3)] (by rfl) rfl rfl m12_ ?_
     with_reducible refine (num_PutText.calls k3 _ _ t239 ((rd_T67 l0_9 x88_3).f3) t242 _ ?side1 ?side2 A84.out).mono ?_
     (case side1 => exact m35_)
     (case side2 => exact (Kd.V_reads' HO241.out).2.1)
     rintro e w99 ⟨v243, rfl, ho0, hb⟩
     refine ⟨_, rfl, ?_⟩
     replace HO_4 := Aside0.mk (Kd.V_elder' m26_ (Kd.R_base ho0) hb)
     replace HO247 := Aside0.mk (Kd.R_below m21_ hb)
     replace HO238 := Aside0.mk (Kd.R_below m20_ hb)
     replace HO241 := Aside0.mk (Kd.V_elder' m24_ (Kd.R_base ho0) hb)
     have HO244 := Aside0.mk (Kd.R_lower (Kd.R_newM (M := fun k_ => (w.heap.size ≤ k_)) ho0 (below_size m0_) (fun k_ h_ => h_)) (below_size m0_))
     replace BK171 := Aside0.mk (blk_below (g := gb171) (o := .cells #[.int .i64 a0_0, .int .i64 a0_1, .int .i64 a0_2, .slice A0_3 l0_3.length c0_3, .string a0_4, .string a0_5, .slice A0_6 l0_6.length c0_6, .slice A0_7 l0_7.length c0_7, .string a0_8, .slice (some ad234) l0_9.length c0_9, .int .i64 a0_10, .int .i64 a0_11] 34 (0, 0)) m14_ hb)
     replace BK235 := Aside0.mk (blk_below (g := gb235) (o := .cells #[.int .i64 ((rd_T67 l0_9 x88_3).f0), .int .i64 ((rd_T67 l0_9 x88_3).f1), .int .i64 ((rd_T67 l0_9 x88_3).f2), .string ((rd_T67 l0_9 x88_3).f3), .int .i64 ((rd_T67 l0_9 x88_3).f4)] 67 (0, 0)) m16_ hb)
     replace HB := Aside0.mk (below_step m0_ hb)
     (try clear hb)
     (try clear hb2)
     (try clear hk)
     (try clear hi)
     (try clear ho0)
     refine hK.out _ _ ⟨(blk_cell BK235.out 0).trans rfl, (blk_cell BK235.out 1).trans rfl, (blk_cell BK235.out 2).trans rfl, (blk_cell BK235.out 3).trans rfl, (blk_cell BK235.out 4).trans rfl⟩ (fun hHeld => ?_)
     clear hK K
     refine norm_ (a' := ?_) ?_ ?_
     rotate_left
     ·show Act.put _ (some 103) _ = _
      simp only [Act.put, sA_, sB_, sC_, i64_w, i32_w]
      rfl
     exact norm_ (by simp only [putAll, Act.put, List.setIfInBounds_toArray, List.set_cons_zero, List.set_cons_succ]) (hCont (.slice Ao96 y236.length co96, .slice Ao98 t239.length co98, v243, v246) _ ⟨hHeld, (by (with_reducible repeat (first | apply Kd.R_alloc | apply Kd.R_drewN | apply Kd.R_drew)); exact Kd.R_mono HO238.out (fun _ hk => ⟨hk.1.1, hk.2⟩)), (by (with_reducible repeat (first | apply Kd.V_alloc | apply Kd.V_drewN | apply Kd.V_drew)); exact Kd.V_mono HO241.out (fun _ hk => ⟨hk.1.1, ⟨hk.1.2.2.1, ⟨hk.2, ⟨hk.1.2.1, ⟨hk.1.2.2.2.1, hk.1.2.2.2.2⟩⟩⟩⟩⟩)), (by (with_reducible repeat (first | apply Kd.R_alloc | apply Kd.R_drewN | apply Kd.R_drew)); exact Kd.R_mono HO244.out (fun _ hk => hk.1)), (by (with_reducible repeat (first | apply Kd.R_alloc | apply Kd.R_drewN | apply Kd.R_drew)); exact Kd.R_mono HO247.out (fun _ hk => ⟨hk.1.1, hk.2⟩)), (by (with_reducible repeat (first | apply Kd.V_alloc | apply Kd.V_drewN | apply Kd.V_drew)); exact Kd.V_mono HO_4.out (fun _ hk => ⟨hk.1.1.1.1, ⟨hk.1.2, ⟨hk.2, ⟨hk.1.1.2, ⟨hk.1.1.1.2.1, hk.1.1.1.2.2⟩⟩⟩⟩⟩)), m14_, m16_, m0_⟩)
    rintro ⟨v237, v240, v243, v246⟩ w100 ⟨hS_, h0_, h1_, h2_, h3_, h4_, h5_, h6_, h7_⟩
    have n0_ : Aside0 (Kd.R (Kd.int .i64) 3 w100 w.heap.size (fun k_ => (w.heap.size ≤ k_) ∧ some k_ ≠ (v246 : Value).ownBlock) v237 y236) := ⟨h0_⟩
    have n1_ : Aside0 (Kd.V (Kd.int .u8) 5 w100 w.heap.size (fun k_ => (w.heap.size ≤ k_) ∧ some k_ ≠ (v237 : Value).ownBlock ∧ some k_ ≠ (v243 : Value).ownBlock ∧ some k_ ≠ (v246 : Value).ownBlock ∧ k_ ≠ gb171 ∧ k_ ≠ gb235) v240 t239) := ⟨h1_⟩
    have n2_ : Aside0 (Kd.R (Kd.int .u8) 5 w100 w.heap.size (fun k_ => (w.heap.size ≤ k_)) v243 t242) := ⟨h2_⟩
    have n3_ : Aside0 (Kd.R (Kd.int .i64) 3 w100 w.heap.size (fun k_ => (w.heap.size ≤ k_) ∧ some k_ ≠ (v237 : Value).ownBlock) v246 y245) := ⟨h3_⟩
    have n4_ : Aside0 (Kd.V (Kd.int .u8) 5 w100 w.heap.size (fun k_ => (w.heap.size ≤ k_) ∧ some k_ ≠ (v237 : Value).ownBlock ∧ some k_ ≠ (v243 : Value).ownBlock ∧ some k_ ≠ (v246 : Value).ownBlock ∧ k_ ≠ gb171 ∧ k_ ≠ gb235) (.slice Ao89 x4_3.length co89) x4_3) := ⟨h4_⟩
    have n5_ : Aside0 (w100.heap[gb171]? = some (.cells #[.int .i64 a0_0, .int .i64 a0_1, .int .i64 a0_2, .slice A0_3 l0_3.length c0_3, .string a0_4, .string a0_5, .slice A0_6 l0_6.length c0_6, .slice A0_7 l0_7.length c0_7, .string a0_8, .slice (some ad234) l0_9.length c0_9, .int .i64 a0_10, .int .i64 a0_11] 34 (0, 0))) := ⟨h5_⟩
    have n6_ : Aside0 (w100.heap[gb235]? = some (.cells #[.int .i64 ((rd_T67 l0_9 x88_3).f0), .int .i64 ((rd_T67 l0_9 x88_3).f1), .int .i64 ((rd_T67 l0_9 x88_3).f2), .string ((rd_T67 l0_9 x88_3).f3), .int .i64 ((rd_T67 l0_9 x88_3).f4)] 67 (0, 0))) := ⟨h6_⟩
    have n7_ : Aside0 (Below w.heap.size w w100) := ⟨h7_⟩
    clear HO_4 BK171 BK235 HB h0_ h1_ h2_ h3_ h4_ h5_ h6_ h7_
    have HO238 := n0_
    have HO241 := n1_
    have HO244 := n2_
    have HO247 := n3_
    have HO_4 := n4_
    have BK171 := n5_
    have BK235 := n6_
    have HB := n7_
    clear n0_ n1_ n2_ n3_ n4_ n5_ n6_ n7_
    have hHeld : w100.cell? ⟨gb235, 0, none⟩ = some (.int .i64 ((rd_T67 l0_9 x88_3).f0)) ∧ w100.cell? ⟨gb235, 1, none⟩ = some (.int .i64 ((rd_T67 l0_9 x88_3).f1)) ∧ w100.cell? ⟨gb235, 2, none⟩ = some (.int .i64 ((rd_T67 l0_9 x88_3).f2)) ∧ w100.cell? ⟨gb235, 3, none⟩ = some (.string ((rd_T67 l0_9 x88_3).f3)) ∧ w100.cell? ⟨gb235, 4, none⟩ = some (.int .i64 ((rd_T67 l0_9 x88_3).f4)) := hS_
    obtain ⟨Ao101, co101, eo101⟩ := Kd.R_slice HO244.out
    (first | subst eo101 | (injection eo101 with f1_ f2_ f3_; have f4_ := f1_.symm; have f5_ := f3_.symm; clear f1_ f2_ f3_; subst f4_; subst f5_))
    obtain ⟨Ao102, co102, eo102⟩ := Kd.R_slice HO247.out
    (first | subst eo102 | (injection eo102 with f1_ f2_ f3_; have f4_ := f1_.symm; have f5_ := f3_.symm; clear f1_ f2_ f3_; subst f4_; subst f5_))
    refine norm_ (a' := ?_) ?_ ?_
    rotate_left
    ·simp only [putAll, Act.put, List.setIfInBounds_toArray, List.set_cons_zero, List.set_cons_succ]
     rfl
    refine one_ (i := 15) (N := some 107) (Ra_ [16, 1]) rfl rfl (one_of HT_.out (by kernel_rfl)) (by decide) (fun K hK => ?_)
    refine goes_ Tryd.func30 (by kernel_rfl) rfl #[.slice Ao101 t242.length co101, .slice Ao102 y245.length co102] (by rfl) rfl rfl m12_ ?_
    with_reducible refine (frame_put.calls k3 (fun k_ => some k_ = (.slice Ao101 t242.length co101 : Value).ownBlock) _ _ t242 _ _ y245 t248 _ ?side1 ?side2 ?side3 A85.out).mono ?_
    (case side1 => exact Kd.R_V (Kd.R_tight rfl (Kd.R_types (Kd.R_types (Kd.R_apart' (Kd.R_apart' (HO244.out) (Kd.R_typed HO238.out) (by decide)) (Kd.R_typed HO247.out) (by decide)) BK171.out (by decide)) BK235.out (by decide))))
    (case side2 => repeat (first | exact (Kd.R_reads' HO247.out).2.2 | (with_reducible refine Kd.C_alloc ?_ _) | (with_reducible refine Kd.C_drewN ?_ _) | (with_reducible refine Kd.C_drew ?_)))
    (case side3 => exact (Kd.R_reads' HO247.out).2.1)
    rintro e w103 ⟨v249, rfl, ho0, hb⟩
    refine ⟨_, rfl, ?_⟩
    have n0_ := Aside0.mk (Kd.V_below m26_ hb)
    have n1_ := Aside0.mk (Kd.R_below m20_ hb)
    have n2_ := Aside0.mk (Kd.V_below m24_ hb)
    have n3_ := Aside0.mk (Kd.R_below (by (with_reducible repeat (first | apply Kd.R_alloc | apply Kd.R_drewN | apply Kd.R_drew)); exact HO244.out) hb)
    have n4_ := Aside0.mk (Kd.R_below m21_ hb)
    have n5_ := Aside0.mk (Kd.V_lower (Kd.V_mono (ok' := fun k_ => (w.heap.size ≤ k_) ∧ some k_ ≠ (v237 : Value).ownBlock ∧ some k_ ≠ (.slice Ao102 y245.length co102 : Value).ownBlock ∧ k_ ≠ gb171 ∧ k_ ≠ gb235) ho0 (fun k_ hk_ => ⟨Or.elim hk_ (fun hs_ => ((Kd.R_types (Kd.R_types (Kd.R_apart' (Kd.R_apart' (HO244.out) (Kd.R_typed HO238.out) (by decide)) (Kd.R_typed HO247.out) (by decide)) BK171.out (by decide)) BK235.out (by decide)).1 k_ hs_.symm).1.1.1.1) (fun hn_ => (Nat.le_trans (below_size m0_) hn_)), Or.elim hk_ (fun hs_ => ((Kd.R_types (Kd.R_types (Kd.R_apart' (Kd.R_apart' (HO244.out) (Kd.R_typed HO238.out) (by decide)) (Kd.R_typed HO247.out) (by decide)) BK171.out (by decide)) BK235.out (by decide)).1 k_ hs_.symm).1.1.1.2) (fun hn_ => (Kd.fresh' (Kd.R_lt m20_) k_ hn_)), Or.elim hk_ (fun hs_ => ((Kd.R_types (Kd.R_types (Kd.R_apart' (Kd.R_apart' (HO244.out) (Kd.R_typed HO238.out) (by decide)) (Kd.R_typed HO247.out) (by decide)) BK171.out (by decide)) BK235.out (by decide)).1 k_ hs_.symm).1.1.2) (fun hn_ => (Kd.fresh' (Kd.R_lt m21_) k_ hn_)), Or.elim hk_ (fun hs_ => ((Kd.R_types (Kd.R_types (Kd.R_apart' (Kd.R_apart' (HO244.out) (Kd.R_typed HO238.out) (by decide)) (Kd.R_typed HO247.out) (by decide)) BK171.out (by decide)) BK235.out (by decide)).1 k_ hs_.symm).1.2) (fun hn_ => (Kd.freshB (g := gb171) (o := .cells #[.int .i64 a0_0, .int .i64 a0_1, .int .i64 a0_2, .slice A0_3 l0_3.length c0_3, .string a0_4, .string a0_5, .slice A0_6 l0_6.length c0_6, .slice A0_7 l0_7.length c0_7, .string a0_8, .slice (some ad234) l0_9.length c0_9, .int .i64 a0_10, .int .i64 a0_11] 34 (0, 0)) m14_ k_ hn_)), Or.elim hk_ (fun hs_ => ((Kd.R_types (Kd.R_types (Kd.R_apart' (Kd.R_apart' (HO244.out) (Kd.R_typed HO238.out) (by decide)) (Kd.R_typed HO247.out) (by decide)) BK171.out (by decide)) BK235.out (by decide)).1 k_ hs_.symm).2) (fun hn_ => (Kd.freshB (g := gb235) (o := .cells #[.int .i64 ((rd_T67 l0_9 x88_3).f0), .int .i64 ((rd_T67 l0_9 x88_3).f1), .int .i64 ((rd_T67 l0_9 x88_3).f2), .string ((rd_T67 l0_9 x88_3).f3), .int .i64 ((rd_T67 l0_9 x88_3).f4)] 67 (0, 0)) m16_ k_ hn_))⟩)) (below_size m0_))
    have n6_ := Aside0.mk (blk_below (g := gb171) (o := .cells #[.int .i64 a0_0, .int .i64 a0_1, .int .i64 a0_2, .slice A0_3 l0_3.length c0_3, .string a0_4, .string a0_5, .slice A0_6 l0_6.length c0_6, .slice A0_7 l0_7.length c0_7, .string a0_8, .slice (some ad234) l0_9.length c0_9, .int .i64 a0_10, .int .i64 a0_11] 34 (0, 0)) m14_ hb)
    have n7_ := Aside0.mk (blk_below (g := gb235) (o := .cells #[.int .i64 ((rd_T67 l0_9 x88_3).f0), .int .i64 ((rd_T67 l0_9 x88_3).f1), .int .i64 ((rd_T67 l0_9 x88_3).f2), .string ((rd_T67 l0_9 x88_3).f3), .int .i64 ((rd_T67 l0_9 x88_3).f4)] 67 (0, 0)) m16_ hb)
    have n8_ := Aside0.mk (below_step m0_ hb)
    clear HO_4 HO238 HO241 HO244 HO247 BK171 BK235 HB
    have HO_4 := n0_
    have HO238 := n1_
    have HO241 := n2_
    have HO244 := n3_
    have HO247 := n4_
    have HO250 := n5_
    have BK171 := n6_
    have BK235 := n7_
    have HB := n8_
    clear n0_ n1_ n2_ n3_ n4_ n5_ n6_ n7_ n8_
    (try clear hb)
    (try clear hb2)
    (try clear hk)
    (try clear hi)
    (try clear ho0)
    refine hK.out _ _ ⟨(blk_cell BK235.out 0).trans rfl, (blk_cell BK235.out 1).trans rfl, (blk_cell BK235.out 2).trans rfl, (blk_cell BK235.out 3).trans rfl, (blk_cell BK235.out 4).trans rfl⟩ (fun hHeld => ?_)
    clear hK K
    refine norm_ (a' := ?_) ?_ ?_
    rotate_left
    ·show Act.put _ (some 107) _ = _
     simp only [Act.put, sA_, sB_, sC_, i64_w, i32_w]
     rfl
    refine pI_ 16 (some 4) (Ra_ [17]) (h := ?_)
    refine done_ (done_of HT_.out (by kernel_rfl)) ?_
    try go_wp2
    go_roundg k3
    case measure => have := HK1.out; have := HK2.out; have := HK3.out; omega
    case rel => exact ⟨(t248), (wrap64 (x88_3 + 1)), m28_, H', ⟨by have := HK1.out; have := HK2.out; have := HK3.out; omega⟩, ⟨by (with_reducible repeat (first | apply Kd.V_alloc | apply Kd.V_drewN | apply Kd.V_drew)); exact Kd.V_mono HO250.out (fun _ hk => ⟨hk.1, hk.2.2.2.1⟩)⟩, ⟨by (with_reducible repeat (first | refine blk_drewN ?_ _ | refine blk_drew ?_ | refine blk_alloc ?_ _)); exact BK171.out⟩, ⟨by repeat (first | (with_reducible first | exact HB.out | apply below_alloc | apply pw_below_drewN | apply below_drew1 | refine below_set ?_ GE171.out | refine below_set ?_ GE235.out) | exact HB.out)⟩⟩

end Go.Proofs.YtoankokkdmbjmaaDoorH.HFrameCuts
