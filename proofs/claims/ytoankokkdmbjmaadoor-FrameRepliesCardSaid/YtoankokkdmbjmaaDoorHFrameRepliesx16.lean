-- PRINTED by print.py (a twelfth state) out of the translation. Not trusted: Lean checks it.
import Derived.Test.YtoankokkdmbjmaaDoorHFrameRepliesx0
import Derived.Test.YtoankokkdmbjmaaDoorHFrameRepliesx15
namespace Go.Proofs.YtoankokkdmbjmaaDoorH.HFrameReplies
open Go.RowKit Go.Proofs.YtoankokkdmbjmaaDoorW.PrintWords Go.Proofs.YtoankokkdmbjmaaDoorW.PrintLast Go.Proofs.YtoankokkdmbjmaaDoorW.PrintMore
attribute [local go_sem] max2_int min2_int max_two min_two max_three min_three max_four min_four   -- for this text's walks alone
set_option linter.unusedVariables false
set_option linter.unusedSimpArgs false

/-! ### strongroomref25_Reply: function 17 -/
mutual
def strongroomref25_Reply.l0 : Nat → ByteArray → Int → Int → Int → Int → List ByteArray → ByteArray → ByteArray → List (S65) → List (S74) → ByteArray → List (S67) → Int → Int → Option (ByteArray)
  | 0, _, _, _, _, _, _, _, _, _, _, _, _, _, _ => none
  | k + 1, x3, x4, x404000, x404001, x404002, x404003, x404004, x404005, x404006, x404007, x404008, x404009, x404010, x404011 => if x4 < (x404006.length : Int) then (if 0 ≤ x4 then ((strongroomref25_num.f k (wrap64 ((rd_T65 x404006 x4).f0))).bind fun t412 => (if x3.size + t412.size ≤ 9223372036854775807 then ((strongroomref01_Text.f k ((rd_T65 x404006 x4).f1)).bind fun t414 => (if (x3 ++ t412).size + t414.size ≤ 9223372036854775807 then (strongroomref25_Reply.l0 k ((x3 ++ t412) ++ t414) (wrap64 (x4 + 1)) x404000 x404001 x404002 x404003 x404004 x404005 x404006 x404007 x404008 x404009 x404010 x404011) else (none))) else (none))) else (none)) else ((strongroomref25_num.f k (x404007.length : Int)).bind fun t415 => (if x3.size + t415.size ≤ 9223372036854775807 then (strongroomref25_Reply.l1 k (x3 ++ t415) 0 x404000 x404001 x404002 x404003 x404004 x404005 x404006 x404007 x404008 x404009 x404010 x404011) else (none)))
def strongroomref25_Reply.l1 : Nat → ByteArray → Int → Int → Int → Int → List ByteArray → ByteArray → ByteArray → List (S65) → List (S74) → ByteArray → List (S67) → Int → Int → Option (ByteArray)
  | 0, _, _, _, _, _, _, _, _, _, _, _, _, _, _ => none
  | k + 1, x3, x5, x404000, x404001, x404002, x404003, x404004, x404005, x404006, x404007, x404008, x404009, x404010, x404011 => if x5 < (x404007.length : Int) then (if 0 ≤ x5 then ((strongroomref25_num.f k ((rd_T74 x404007 x5).f0)).bind fun t417 => (if x3.size + t417.size ≤ 9223372036854775807 then ((strongroomref25_num.f k ((rd_T74 x404007 x5).f1)).bind fun t419 => (if (x3 ++ t417).size + t419.size ≤ 9223372036854775807 then (strongroomref25_Reply.l1 k ((x3 ++ t417) ++ t419) (wrap64 (x5 + 1)) x404000 x404001 x404002 x404003 x404004 x404005 x404006 x404007 x404008 x404009 x404010 x404011) else (none))) else (none))) else (none)) else ((strongroomref01_Text.f k x404008).bind fun t420 => (if x3.size + t420.size ≤ 9223372036854775807 then ((strongroomref25_num.f k (x404009.length : Int)).bind fun t421 => (if (x3 ++ t420).size + t421.size ≤ 9223372036854775807 then (strongroomref25_Reply.l2 k ((x3 ++ t420) ++ t421) 0 x404000 x404001 x404002 x404003 x404004 x404005 x404006 x404007 x404008 x404009 x404010 x404011) else (none))) else (none)))
def strongroomref25_Reply.l2 : Nat → ByteArray → Int → Int → Int → Int → List ByteArray → ByteArray → ByteArray → List (S65) → List (S74) → ByteArray → List (S67) → Int → Int → Option (ByteArray)
  | 0, _, _, _, _, _, _, _, _, _, _, _, _, _, _ => none
  | k + 1, x3, x6, x404000, x404001, x404002, x404003, x404004, x404005, x404006, x404007, x404008, x404009, x404010, x404011 => if x6 < (x404009.length : Int) then (if 0 ≤ x6 then ((strongroomref13_Bytes.f k ((rd_T67 x404009 x6).f0) ((rd_T67 x404009 x6).f1) ((rd_T67 x404009 x6).f2) ((rd_T67 x404009 x6).f3) ((rd_T67 x404009 x6).f4)).bind fun t423 => (if x3.size + t423.size ≤ 9223372036854775807 then (strongroomref25_Reply.l2 k (x3 ++ t423) (wrap64 (x6 + 1)) x404000 x404001 x404002 x404003 x404004 x404005 x404006 x404007 x404008 x404009 x404010 x404011) else (none))) else (none)) else ((strongroomref25_num.f k x404010).bind fun t424 => (if x3.size + t424.size ≤ 9223372036854775807 then ((strongroomref25_num.f k x404011).bind fun t425 => (if (x3 ++ t424).size + t425.size ≤ 9223372036854775807 then (some ((x3 ++ t424) ++ t425)) else (none))) else (none)))
end
def strongroomref25_Reply.f (k : Nat) (a0_0 : Int) (a0_1 : Int) (a0_2 : Int) (l0_3 : List ByteArray) (a0_4 : ByteArray) (a0_5 : ByteArray) (l0_6 : List (S65)) (l0_7 : List (S74)) (a0_8 : ByteArray) (l0_9 : List (S67)) (a0_10 : Int) (a0_11 : Int) : Option (ByteArray) := (strongroomref25_num.f k a0_0).bind fun t404 => (if 1 + t404.size ≤ 9223372036854775807 then ((strongroomref25_num.f k a0_1).bind fun t405 => (if ((⟨#[2]⟩ : ByteArray) ++ t404).size + t405.size ≤ 9223372036854775807 then ((strongroomref25_num.f k a0_2).bind fun t406 => (if (((⟨#[2]⟩ : ByteArray) ++ t404) ++ t405).size + t406.size ≤ 9223372036854775807 then ((strongroomref01_List.f k l0_3).bind fun t407 => (if ((((⟨#[2]⟩ : ByteArray) ++ t404) ++ t405) ++ t406).size + t407.size ≤ 9223372036854775807 then ((strongroomref01_Text.f k a0_4).bind fun t408 => (if (((((⟨#[2]⟩ : ByteArray) ++ t404) ++ t405) ++ t406) ++ t407).size + t408.size ≤ 9223372036854775807 then ((strongroomref01_Text.f k a0_5).bind fun t409 => (if ((((((⟨#[2]⟩ : ByteArray) ++ t404) ++ t405) ++ t406) ++ t407) ++ t408).size + t409.size ≤ 9223372036854775807 then ((strongroomref25_num.f k (l0_6.length : Int)).bind fun t410 => (if (((((((⟨#[2]⟩ : ByteArray) ++ t404) ++ t405) ++ t406) ++ t407) ++ t408) ++ t409).size + t410.size ≤ 9223372036854775807 then (strongroomref25_Reply.l0 k ((((((((⟨#[2]⟩ : ByteArray) ++ t404) ++ t405) ++ t406) ++ t407) ++ t408) ++ t409) ++ t410) 0 a0_0 a0_1 a0_2 l0_3 a0_4 a0_5 l0_6 l0_7 a0_8 l0_9 a0_10 a0_11) else (none))) else (none))) else (none))) else (none))) else (none))) else (none))) else (none))
theorem strongroomref25_Reply.mono_l : ∀ k, (∀ y0 y1 y2 y3 y4 y5 y6 y7 y8 y9 y10 y11 y12 y13, LeO (strongroomref25_Reply.l0 k y0 y1 y2 y3 y4 y5 y6 y7 y8 y9 y10 y11 y12 y13) (strongroomref25_Reply.l0 (k + 1) y0 y1 y2 y3 y4 y5 y6 y7 y8 y9 y10 y11 y12 y13)) ∧ (∀ y0 y1 y2 y3 y4 y5 y6 y7 y8 y9 y10 y11 y12 y13, LeO (strongroomref25_Reply.l1 k y0 y1 y2 y3 y4 y5 y6 y7 y8 y9 y10 y11 y12 y13) (strongroomref25_Reply.l1 (k + 1) y0 y1 y2 y3 y4 y5 y6 y7 y8 y9 y10 y11 y12 y13)) ∧ (∀ y0 y1 y2 y3 y4 y5 y6 y7 y8 y9 y10 y11 y12 y13, LeO (strongroomref25_Reply.l2 k y0 y1 y2 y3 y4 y5 y6 y7 y8 y9 y10 y11 y12 y13) (strongroomref25_Reply.l2 (k + 1) y0 y1 y2 y3 y4 y5 y6 y7 y8 y9 y10 y11 y12 y13))
  | 0 => ⟨fun _ _ _ _ _ _ _ _ _ _ _ _ _ _ r h => by simp [strongroomref25_Reply.l0] at h, fun _ _ _ _ _ _ _ _ _ _ _ _ _ _ r h => by simp [strongroomref25_Reply.l1] at h, fun _ _ _ _ _ _ _ _ _ _ _ _ _ _ r h => by simp [strongroomref25_Reply.l2] at h⟩
  | k + 1 => by
    obtain ⟨ih0, ih1, ih2⟩ := strongroomref25_Reply.mono_l k
    refine ⟨?_, ?_, ?_⟩
    · intro y0 y1 y2 y3 y4 y5 y6 y7 y8 y9 y10 y11 y12 y13
      unfold strongroomref25_Reply.l0
      repeat' first
      | (with_reducible exact ih0 _ _ _ _ _ _ _ _ _ _ _ _ _ _)
      | (with_reducible exact ih1 _ _ _ _ _ _ _ _ _ _ _ _ _ _)
      | (with_reducible exact ih2 _ _ _ _ _ _ _ _ _ _ _ _ _ _)
      | (with_reducible exact strongroomref01_List.mono _ _)
      | (with_reducible exact strongroomref01_Text.mono _ _)
      | (with_reducible exact strongroomref13_Bytes.mono _ _ _ _ _ _)
      | (with_reducible exact strongroomref25_num.mono _ _)
      | (with_reducible exact LeO.refl _)
      | (with_reducible exact LeO.none _)
      | (with_reducible refine LeO.ite ?_ ?_)
      | (with_reducible refine LeO.bind ?_ (fun _ => ?_))
      | exact ih0 _ _ _ _ _ _ _ _ _ _ _ _ _ _
      | exact ih1 _ _ _ _ _ _ _ _ _ _ _ _ _ _
      | exact ih2 _ _ _ _ _ _ _ _ _ _ _ _ _ _
      | exact strongroomref01_List.mono _ _
      | exact strongroomref01_Text.mono _ _
      | exact strongroomref13_Bytes.mono _ _ _ _ _ _
      | exact strongroomref25_num.mono _ _
      | exact LeO.none _
      | refine LeO.ite ?_ ?_
      | refine LeO.bind ?_ (fun _ => ?_)
    · intro y0 y1 y2 y3 y4 y5 y6 y7 y8 y9 y10 y11 y12 y13
      unfold strongroomref25_Reply.l1
      repeat' first
      | (with_reducible exact ih0 _ _ _ _ _ _ _ _ _ _ _ _ _ _)
      | (with_reducible exact ih1 _ _ _ _ _ _ _ _ _ _ _ _ _ _)
      | (with_reducible exact ih2 _ _ _ _ _ _ _ _ _ _ _ _ _ _)
      | (with_reducible exact strongroomref01_List.mono _ _)
      | (with_reducible exact strongroomref01_Text.mono _ _)
      | (with_reducible exact strongroomref13_Bytes.mono _ _ _ _ _ _)
      | (with_reducible exact strongroomref25_num.mono _ _)
      | (with_reducible exact LeO.refl _)
      | (with_reducible exact LeO.none _)
      | (with_reducible refine LeO.ite ?_ ?_)
      | (with_reducible refine LeO.bind ?_ (fun _ => ?_))
      | exact ih0 _ _ _ _ _ _ _ _ _ _ _ _ _ _
      | exact ih1 _ _ _ _ _ _ _ _ _ _ _ _ _ _
      | exact ih2 _ _ _ _ _ _ _ _ _ _ _ _ _ _
      | exact strongroomref01_List.mono _ _
      | exact strongroomref01_Text.mono _ _
      | exact strongroomref13_Bytes.mono _ _ _ _ _ _
      | exact strongroomref25_num.mono _ _
      | exact LeO.none _
      | refine LeO.ite ?_ ?_
      | refine LeO.bind ?_ (fun _ => ?_)
    · intro y0 y1 y2 y3 y4 y5 y6 y7 y8 y9 y10 y11 y12 y13
      unfold strongroomref25_Reply.l2
      repeat' first
      | (with_reducible exact ih0 _ _ _ _ _ _ _ _ _ _ _ _ _ _)
      | (with_reducible exact ih1 _ _ _ _ _ _ _ _ _ _ _ _ _ _)
      | (with_reducible exact ih2 _ _ _ _ _ _ _ _ _ _ _ _ _ _)
      | (with_reducible exact strongroomref01_List.mono _ _)
      | (with_reducible exact strongroomref01_Text.mono _ _)
      | (with_reducible exact strongroomref13_Bytes.mono _ _ _ _ _ _)
      | (with_reducible exact strongroomref25_num.mono _ _)
      | (with_reducible exact LeO.refl _)
      | (with_reducible exact LeO.none _)
      | (with_reducible refine LeO.ite ?_ ?_)
      | (with_reducible refine LeO.bind ?_ (fun _ => ?_))
      | exact ih0 _ _ _ _ _ _ _ _ _ _ _ _ _ _
      | exact ih1 _ _ _ _ _ _ _ _ _ _ _ _ _ _
      | exact ih2 _ _ _ _ _ _ _ _ _ _ _ _ _ _
      | exact strongroomref01_List.mono _ _
      | exact strongroomref01_Text.mono _ _
      | exact strongroomref13_Bytes.mono _ _ _ _ _ _
      | exact strongroomref25_num.mono _ _
      | exact LeO.none _
      | refine LeO.ite ?_ ?_
      | refine LeO.bind ?_ (fun _ => ?_)
theorem strongroomref25_Reply.mono : ∀ a0 a1 a2 a3 a4 a5 a6 a7 a8 a9 a10 a11 k, LeO (strongroomref25_Reply.f k a0 a1 a2 a3 a4 a5 a6 a7 a8 a9 a10 a11) (strongroomref25_Reply.f (k + 1) a0 a1 a2 a3 a4 a5 a6 a7 a8 a9 a10 a11) := by
  intro a0 a1 a2 a3 a4 a5 a6 a7 a8 a9 a10 a11 k
  obtain ⟨ih0, ih1, ih2⟩ := strongroomref25_Reply.mono_l k
  unfold strongroomref25_Reply.f
  repeat' first
      | (with_reducible exact ih0 _ _ _ _ _ _ _ _ _ _ _ _ _ _)
      | (with_reducible exact ih1 _ _ _ _ _ _ _ _ _ _ _ _ _ _)
      | (with_reducible exact ih2 _ _ _ _ _ _ _ _ _ _ _ _ _ _)
      | (with_reducible exact strongroomref01_List.mono _ _)
      | (with_reducible exact strongroomref01_Text.mono _ _)
      | (with_reducible exact strongroomref13_Bytes.mono _ _ _ _ _ _)
      | (with_reducible exact strongroomref25_num.mono _ _)
      | (with_reducible exact LeO.refl _)
      | (with_reducible exact LeO.none _)
      | (with_reducible refine LeO.ite ?_ ?_)
      | (with_reducible refine LeO.bind ?_ (fun _ => ?_))
      | exact ih0 _ _ _ _ _ _ _ _ _ _ _ _ _ _
      | exact ih1 _ _ _ _ _ _ _ _ _ _ _ _ _ _
      | exact ih2 _ _ _ _ _ _ _ _ _ _ _ _ _ _
      | exact strongroomref01_List.mono _ _
      | exact strongroomref01_Text.mono _ _
      | exact strongroomref13_Bytes.mono _ _ _ _ _ _
      | exact strongroomref25_num.mono _ _
      | exact LeO.none _
      | refine LeO.ite ?_ ?_
      | refine LeO.bind ?_ (fun _ => ?_)
def strongroomref25_Reply.T1 : Bool × List (List Nat × List Nat) := (true, [([], []), ([0], [0]), ([1], [1]), ([2], [2]), ([], []), ([4], [4]), ([5, 2], [5]), ([3, 6], [3, 6]), ([], []), ([8], [8]), ([9, 6], [9]), ([7, 10], [7, 10]), ([], []), ([12], [12]), ([13, 10], [13]), ([11, 14], [11, 14]), ([], []), ([16], [16]), ([17, 14], [17]), ([15, 18], [15, 18]), ([], []), ([20], [20]), ([21, 18], [21]), ([19, 22], [19, 22]), ([], []), ([24], [24]), ([25], [25]), ([26, 22], [26]), ([23, 27], [23, 27]), ([28, 27, 0, 1, 2, 3, 4, 5, 6, 7, 8, 9, 10, 11, 12, 13, 14, 15, 16, 17, 18, 19, 20, 21, 22, 23, 24, 25, 26, 27, 28], [28])])
def strongroomref25_Reply.B1 : List Nat := [0, 1, 3, 7, 0, 16, 55, 127, 0, 256, 887, 2047, 0, 4096, 14199, 32767, 0, 65536, 227191, 524287, 0, 1048576, 3635063, 8388607, 0, 16777216, 50331648, 125269879, 268435455, 536870911]
theorem strongroomref25_Reply.tab1 : rtab .any (opsOf Tryd.f17 1) = strongroomref25_Reply.T1 := by kernel_rfl
theorem strongroomref25_Reply.bits1 : waitsOk strongroomref25_Reply.T1.2 strongroomref25_Reply.B1 = true := by kernel_rfl
def strongroomref25_Reply.T5 : Bool × List (List Nat × List Nat) := (true, [([], []), ([], []), ([1], [1]), ([], []), ([2, 3], [2, 3]), ([4], [4]), ([5], [5]), ([6], [6]), ([7], [7]), ([0, 8], [0, 8]), ([], []), ([10], [10]), ([], []), ([11, 12], [11, 12]), ([13], [13]), ([14], [14]), ([15, 8], [15]), ([9, 16], [9, 16]), ([17, 16, 0, 1, 2, 3, 4, 5, 6, 7, 8, 9, 10, 11, 12, 13, 14, 15, 16, 17], [0, 17])])
def strongroomref25_Reply.B5 : List Nat := [0, 0, 2, 0, 14, 30, 62, 126, 254, 511, 0, 1024, 0, 7168, 15360, 31744, 65022, 131071, 262143]
theorem strongroomref25_Reply.tab5 : rtab .any (opsOf Tryd.f17 5) = strongroomref25_Reply.T5 := by kernel_rfl
theorem strongroomref25_Reply.bits5 : waitsOk strongroomref25_Reply.T5.2 strongroomref25_Reply.B5 = true := by kernel_rfl
def strongroomref25_Reply.T10 : Bool × List (List Nat × List Nat) := (true, [([], []), ([], []), ([1], [1]), ([], []), ([2, 3], [2, 3]), ([4], [4]), ([5], [5]), ([6], [6]), ([0, 7], [0, 7]), ([], []), ([9], [9]), ([], []), ([10, 11], [10, 11]), ([12], [12]), ([13], [13]), ([14, 7], [14]), ([8, 15], [8, 15]), ([16, 15, 0, 1, 2, 3, 4, 5, 6, 7, 8, 9, 10, 11, 12, 13, 14, 15, 16], [0, 16])])
def strongroomref25_Reply.B10 : List Nat := [0, 0, 2, 0, 14, 30, 62, 126, 255, 0, 512, 0, 3584, 7680, 15872, 32510, 65535, 131071]
theorem strongroomref25_Reply.tab10 : rtab .any (opsOf Tryd.f17 10) = strongroomref25_Reply.T10 := by kernel_rfl
theorem strongroomref25_Reply.bits10 : waitsOk strongroomref25_Reply.T10.2 strongroomref25_Reply.B10 = true := by kernel_rfl
def strongroomref25_Reply.T11 : Bool × List (List Nat × List Nat) := (true, [([], []), ([], []), ([1], [1]), ([2], [2]), ([0, 3], [0, 3]), ([], []), ([5], [5]), ([6], [6]), ([7, 3], [7]), ([4, 8], [4, 8]), ([9, 8, 0, 1, 2, 3, 4, 5, 6, 7, 8, 9], [0, 9])])
def strongroomref25_Reply.B11 : List Nat := [0, 0, 2, 6, 15, 0, 32, 96, 238, 511, 1023]
theorem strongroomref25_Reply.tab11 : rtab .any (opsOf Tryd.f17 11) = strongroomref25_Reply.T11 := by kernel_rfl
theorem strongroomref25_Reply.bits11 : waitsOk strongroomref25_Reply.T11.2 strongroomref25_Reply.B11 = true := by kernel_rfl
def strongroomref25_Reply.T16 : Bool × List (List Nat × List Nat) := (true, [([], []), ([], []), ([1], [1]), ([2], [2]), ([0, 3], [0, 3]), ([], []), ([5], [5]), ([6, 3], [6]), ([4, 7], [4, 7]), ([8, 7, 0, 1, 2, 3, 4, 5, 6, 7, 8], [8])])
def strongroomref25_Reply.B16 : List Nat := [0, 0, 2, 6, 15, 0, 32, 110, 255, 511]
theorem strongroomref25_Reply.tab16 : rtab .any (opsOf Tryd.f17 16) = strongroomref25_Reply.T16 := by kernel_rfl
theorem strongroomref25_Reply.bits16 : waitsOk strongroomref25_Reply.T16.2 strongroomref25_Reply.B16 = true := by kernel_rfl
set_option maxHeartbeats 8000000 in
set_option maxRecDepth 100000 in
theorem strongroomref25_Reply.calls (k : Nat) (a0_0 : Int) (a0_1 : Int) (a0_2 : Int) (A0_3 : Option Addr) (c0_3 : Nat) (l0_3 : List ByteArray) (a0_4 : ByteArray) (a0_5 : ByteArray) (A0_6 : Option Addr) (c0_6 : Nat) (l0_6 : List (S65)) (A0_7 : Option Addr) (c0_7 : Nat) (l0_7 : List (S74)) (a0_8 : ByteArray) (A0_9 : Option Addr) (c0_9 : Nat) (l0_9 : List (S67)) (a0_10 : Int) (a0_11 : Int) (r : ByteArray) (w : World) (hr0_3 : Kd.C Kd.string w A0_3 l0_3.length l0_3) (hc0_3 : l0_3.length ≤ c0_3) (hr0_6 : Kd.C k65 w A0_6 l0_6.length l0_6) (hc0_6 : l0_6.length ≤ c0_6) (hr0_7 : Kd.C k74 w A0_7 l0_7.length l0_7) (hc0_7 : l0_7.length ≤ c0_7) (hr0_9 : Kd.C k67 w A0_9 l0_9.length l0_9) (hc0_9 : l0_9.length ≤ c0_9) (h : strongroomref25_Reply.f k a0_0 a0_1 a0_2 l0_3 a0_4 a0_5 l0_6 l0_7 a0_8 l0_9 a0_10 a0_11 = some r) :
    Calls Tryd.prog 17 #[.agg #[.int .i64 a0_0, .int .i64 a0_1, .int .i64 a0_2, .slice A0_3 l0_3.length c0_3, .string a0_4, .string a0_5, .slice A0_6 l0_6.length c0_6, .slice A0_7 l0_7.length c0_7, .string a0_8, .slice A0_9 l0_9.length c0_9, .int .i64 a0_10, .int .i64 a0_11]] w fun e w' => e = .returned (.string r) ∧ Below w.heap.size w w' := by
  have hu34 := Tryd.underlying34
  have hu67 := Tryd.underlying67
  have HR0_3 := Aside0.mk hr0_3
  have HC0_3 := Aside0.mk hc0_3
  clear hr0_3 hc0_3
  have HR0_6 := Aside0.mk hr0_6
  have HC0_6 := Aside0.mk hc0_6
  clear hr0_6 hc0_6
  have HR0_7 := Aside0.mk hr0_7
  have HC0_7 := Aside0.mk hc0_7
  clear hr0_7 hc0_7
  have HR0_9 := Aside0.mk hr0_9
  have HC0_9 := Aside0.mk hc0_9
  clear hr0_9 hc0_9
  have HB := Aside0.mk (Below.refl w.heap.size w)
  have H : ((strongroomref25_num.f k a0_0).bind fun t404 => (if 1 + t404.size ≤ 9223372036854775807 then ((strongroomref25_num.f k a0_1).bind fun t405 => (if ((⟨#[2]⟩ : ByteArray) ++ t404).size + t405.size ≤ 9223372036854775807 then ((strongroomref25_num.f k a0_2).bind fun t406 => (if (((⟨#[2]⟩ : ByteArray) ++ t404) ++ t405).size + t406.size ≤ 9223372036854775807 then ((strongroomref01_List.f k l0_3).bind fun t407 => (if ((((⟨#[2]⟩ : ByteArray) ++ t404) ++ t405) ++ t406).size + t407.size ≤ 9223372036854775807 then ((strongroomref01_Text.f k a0_4).bind fun t408 => (if (((((⟨#[2]⟩ : ByteArray) ++ t404) ++ t405) ++ t406) ++ t407).size + t408.size ≤ 9223372036854775807 then ((strongroomref01_Text.f k a0_5).bind fun t409 => (if ((((((⟨#[2]⟩ : ByteArray) ++ t404) ++ t405) ++ t406) ++ t407) ++ t408).size + t409.size ≤ 9223372036854775807 then ((strongroomref25_num.f k (l0_6.length : Int)).bind fun t410 => (if (((((((⟨#[2]⟩ : ByteArray) ++ t404) ++ t405) ++ t406) ++ t407) ++ t408) ++ t409).size + t410.size ≤ 9223372036854775807 then (strongroomref25_Reply.l0 k ((((((((⟨#[2]⟩ : ByteArray) ++ t404) ++ t405) ++ t406) ++ t407) ++ t408) ++ t409) ++ t410) 0 a0_0 a0_1 a0_2 l0_3 a0_4 a0_5 l0_6 l0_7 a0_8 l0_9 a0_10 a0_11) else (none))) else (none))) else (none))) else (none))) else (none))) else (none))) else (none))) = some r := h
  clear h
  replace H := Option.bind_eq_some_iff.mp H
  obtain ⟨t404, A20, H⟩ := H
  try dsimp only at H
  have A2 := Aside0.mk A20
  clear A20
  by_cases c3 : 1 + t404.size ≤ 9223372036854775807
  case neg =>
   rw [if_neg c3] at H
   exact absurd H (by simp)
  rw [if_pos c3] at H
  have c3b0 := eq_true c3
  have c3b1 : decide (1 + t404.size ≤ 9223372036854775807) = true := decide_eq_true c3
  try have c3b2 : (9223372036854775807 < 1 + t404.size) = False := eq_false (Nat.not_lt.2 c3)
  replace H := Option.bind_eq_some_iff.mp H
  obtain ⟨t405, A40, H⟩ := H
  try dsimp only at H
  have A4 := Aside0.mk A40
  clear A40
  by_cases c5 : ((⟨#[2]⟩ : ByteArray) ++ t404).size + t405.size ≤ 9223372036854775807
  case neg =>
   rw [if_neg c5] at H
   exact absurd H (by simp)
  rw [if_pos c5] at H
  have c5b0 := eq_true c5
  have c5b1 : decide (((⟨#[2]⟩ : ByteArray) ++ t404).size + t405.size ≤ 9223372036854775807) = true := decide_eq_true c5
  try have c5b2 : (9223372036854775807 < ((⟨#[2]⟩ : ByteArray) ++ t404).size + t405.size) = False := eq_false (Nat.not_lt.2 c5)
  try (have c5b3 := c5b2; simp only [ByteArray.size_append] at c5b3)
  try (have c5b4 := c5b3; simp only [show (⟨#[2]⟩ : ByteArray).size = 1 from rfl] at c5b4)
  replace H := Option.bind_eq_some_iff.mp H
  obtain ⟨t406, A60, H⟩ := H
  try dsimp only at H
  have A6 := Aside0.mk A60
  clear A60
  by_cases c7 : (((⟨#[2]⟩ : ByteArray) ++ t404) ++ t405).size + t406.size ≤ 9223372036854775807
  case neg =>
   rw [if_neg c7] at H
   exact absurd H (by simp)
  rw [if_pos c7] at H
  have c7b0 := eq_true c7
  have c7b1 : decide ((((⟨#[2]⟩ : ByteArray) ++ t404) ++ t405).size + t406.size ≤ 9223372036854775807) = true := decide_eq_true c7
  try have c7b2 : (9223372036854775807 < (((⟨#[2]⟩ : ByteArray) ++ t404) ++ t405).size + t406.size) = False := eq_false (Nat.not_lt.2 c7)
  try (have c7b3 := c7b2; simp only [ByteArray.size_append] at c7b3)
  try (have c7b4 := c7b3; simp only [show (⟨#[2]⟩ : ByteArray).size = 1 from rfl] at c7b4)
  replace H := Option.bind_eq_some_iff.mp H
  obtain ⟨t407, A80, H⟩ := H
  try dsimp only at H
  have A8 := Aside0.mk A80
  clear A80
  by_cases c9 : ((((⟨#[2]⟩ : ByteArray) ++ t404) ++ t405) ++ t406).size + t407.size ≤ 9223372036854775807
  case neg =>
   rw [if_neg c9] at H
   exact absurd H (by simp)
  rw [if_pos c9] at H
  have c9b0 := eq_true c9
  have c9b1 : decide (((((⟨#[2]⟩ : ByteArray) ++ t404) ++ t405) ++ t406).size + t407.size ≤ 9223372036854775807) = true := decide_eq_true c9
  try have c9b2 : (9223372036854775807 < ((((⟨#[2]⟩ : ByteArray) ++ t404) ++ t405) ++ t406).size + t407.size) = False := eq_false (Nat.not_lt.2 c9)
  try (have c9b3 := c9b2; simp only [ByteArray.size_append] at c9b3)
  try (have c9b4 := c9b3; simp only [show (⟨#[2]⟩ : ByteArray).size = 1 from rfl] at c9b4)
  replace H := Option.bind_eq_some_iff.mp H
  obtain ⟨t408, A100, H⟩ := H
  try dsimp only at H
  have A10 := Aside0.mk A100
  clear A100
  by_cases c11 : (((((⟨#[2]⟩ : ByteArray) ++ t404) ++ t405) ++ t406) ++ t407).size + t408.size ≤ 9223372036854775807
  case neg =>
   rw [if_neg c11] at H
   exact absurd H (by simp)
  rw [if_pos c11] at H
  have c11b0 := eq_true c11
  have c11b1 : decide ((((((⟨#[2]⟩ : ByteArray) ++ t404) ++ t405) ++ t406) ++ t407).size + t408.size ≤ 9223372036854775807) = true := decide_eq_true c11
  try have c11b2 : (9223372036854775807 < (((((⟨#[2]⟩ : ByteArray) ++ t404) ++ t405) ++ t406) ++ t407).size + t408.size) = False := eq_false (Nat.not_lt.2 c11)
  try (have c11b3 := c11b2; simp only [ByteArray.size_append] at c11b3)
  try (have c11b4 := c11b3; simp only [show (⟨#[2]⟩ : ByteArray).size = 1 from rfl] at c11b4)
  replace H := Option.bind_eq_some_iff.mp H
  obtain ⟨t409, A120, H⟩ := H
  try dsimp only at H
  have A12 := Aside0.mk A120
  clear A120
  by_cases c13 : ((((((⟨#[2]⟩ : ByteArray) ++ t404) ++ t405) ++ t406) ++ t407) ++ t408).size + t409.size ≤ 9223372036854775807
  case neg =>
   rw [if_neg c13] at H
   exact absurd H (by simp)
  rw [if_pos c13] at H
  have c13b0 := eq_true c13
  have c13b1 : decide (((((((⟨#[2]⟩ : ByteArray) ++ t404) ++ t405) ++ t406) ++ t407) ++ t408).size + t409.size ≤ 9223372036854775807) = true := decide_eq_true c13
  try have c13b2 : (9223372036854775807 < ((((((⟨#[2]⟩ : ByteArray) ++ t404) ++ t405) ++ t406) ++ t407) ++ t408).size + t409.size) = False := eq_false (Nat.not_lt.2 c13)
  try (have c13b3 := c13b2; simp only [ByteArray.size_append] at c13b3)
  try (have c13b4 := c13b3; simp only [show (⟨#[2]⟩ : ByteArray).size = 1 from rfl] at c13b4)
  replace H := Option.bind_eq_some_iff.mp H
  obtain ⟨t410, A140, H⟩ := H
  try dsimp only at H
  have A14 := Aside0.mk A140
  clear A140
  by_cases c15 : (((((((⟨#[2]⟩ : ByteArray) ++ t404) ++ t405) ++ t406) ++ t407) ++ t408) ++ t409).size + t410.size ≤ 9223372036854775807
  case neg =>
   rw [if_neg c15] at H
   exact absurd H (by simp)
  rw [if_pos c15] at H
  have c15b0 := eq_true c15
  have c15b1 : decide ((((((((⟨#[2]⟩ : ByteArray) ++ t404) ++ t405) ++ t406) ++ t407) ++ t408) ++ t409).size + t410.size ≤ 9223372036854775807) = true := decide_eq_true c15
  try have c15b2 : (9223372036854775807 < (((((((⟨#[2]⟩ : ByteArray) ++ t404) ++ t405) ++ t406) ++ t407) ++ t408) ++ t409).size + t410.size) = False := eq_false (Nat.not_lt.2 c15)
  try (have c15b3 := c15b2; simp only [ByteArray.size_append] at c15b3)
  try (have c15b4 := c15b3; simp only [show (⟨#[2]⟩ : ByteArray).size = 1 from rfl] at c15b4)
  have H' := Aside0.mk H
  clear H
  go_enter Tryd.func17, Tryd.ntmps17
  try go_wp2_with (first | ((with_reducible refine gate_dst (N := 1) rfl ?_); refine box_event ?hg (N := 1) ?hd (cs := #[.int .i64 a0_0, .int .i64 a0_1, .int .i64 a0_2, .slice A0_3 l0_3.length c0_3, .string a0_4, .string a0_5, .slice A0_6 l0_6.length c0_6, .slice A0_7 l0_7.length c0_7, .string a0_8, .slice A0_9 l0_9.length c0_9, .int .i64 a0_10, .int .i64 a0_11]) (t := 34) ?hr ?_; (case hd => rfl); (case hg => rfl); (case hr => first | (go_simp; done) | (go_simp; rfl)); intro gb403 hg w16 hbox hb; have BK403 := Aside0.mk (hbox); have GW403 := Aside0.mk ((by rw [hg]; exact (below_size m15_) : w.heap.size ≤ gb403)); have GE403 := Aside0.mk ((by rw [hg]; exact (below_size m15_) : w.heap.size ≤ gb403)); replace HB := Aside0.mk (below_step m15_ hb); clear hb hbox hg))
  replace BK403 := Aside0.mk (blk_drew BK403.out)
  replace HB := Aside0.mk (below_drew1 HB.out)
  refine start_ (n := 30) (S := fun w' => w'.cell? ⟨gb403, 0, none⟩ = some (.int .i64 a0_0) ∧ w'.cell? ⟨gb403, 1, none⟩ = some (.int .i64 a0_1) ∧ w'.cell? ⟨gb403, 2, none⟩ = some (.int .i64 a0_2) ∧ w'.cell? ⟨gb403, 3, none⟩ = some (.slice A0_3 l0_3.length c0_3) ∧ w'.cell? ⟨gb403, 4, none⟩ = some (.string a0_4) ∧ w'.cell? ⟨gb403, 5, none⟩ = some (.string a0_5) ∧ w'.cell? ⟨gb403, 6, none⟩ = some (.slice A0_6 l0_6.length c0_6) ∧ w'.cell? ⟨gb403, 7, none⟩ = some (.slice A0_7 l0_7.length c0_7) ∧ w'.cell? ⟨gb403, 8, none⟩ = some (.string a0_8) ∧ w'.cell? ⟨gb403, 9, none⟩ = some (.slice A0_9 l0_9.length c0_9) ∧ w'.cell? ⟨gb403, 10, none⟩ = some (.int .i64 a0_10) ∧ w'.cell? ⟨gb403, 11, none⟩ = some (.int .i64 a0_11)) (ds := []) (Ra_ [0, 30]) (by kernel_rfl) rfl rfl ⟨(blk_cell BK403.out 0).trans rfl, (blk_cell BK403.out 1).trans rfl, (blk_cell BK403.out 2).trans rfl, (blk_cell BK403.out 3).trans rfl, (blk_cell BK403.out 4).trans rfl, (blk_cell BK403.out 5).trans rfl, (blk_cell BK403.out 6).trans rfl, (blk_cell BK403.out 7).trans rfl, (blk_cell BK403.out 8).trans rfl, (blk_cell BK403.out 9).trans rfl, (blk_cell BK403.out 10).trans rfl, (blk_cell BK403.out 11).trans rfl⟩ (fun hHeld => ?_); refine with_tabW strongroomref25_Reply.tab1 strongroomref25_Reply.bits1 (fun HT_ HW_ => ?_)
  generalize w16.drew = w17 at BK403 HB hHeld ⊢
  refine pI_ 0 (some 7) (Ra_ [1, 29]) (h := ?_)
  refine pI_ 4 (some 11) (Ra_ [1, 3, 1, 25]) (h := ?_)
  refine pI_ 8 (some 15) (Ra_ [1, 3, 1, 3, 1, 21]) (h := ?_)
  refine pI_ 12 (some 19) (Ra_ [1, 3, 1, 3, 1, 3, 1, 17]) (h := ?_)
  refine pI_ 16 (some 23) (Ra_ [1, 3, 1, 3, 1, 3, 1, 3, 1, 13]) (h := ?_)
  refine pI_ 20 (some 27) (Ra_ [1, 3, 1, 3, 1, 3, 1, 3, 1, 3, 1, 9]) (h := ?_)
  refine pI_ 24 (some 31) (Ra_ [1, 3, 1, 3, 1, 3, 1, 3, 1, 3, 1, 3, 1, 5]) (h := ?_)
  refine tI12_ 1 (some 8) (Ra_ [2, 2, 1, 3, 1, 3, 1, 3, 1, 3, 1, 3, 1, 5]) (h := ?_)
  refine tI12_ 5 (some 12) (Ra_ [2, 2, 2, 2, 1, 3, 1, 3, 1, 3, 1, 3, 1, 5]) (h := ?_)
  refine tI12_ 9 (some 16) (Ra_ [2, 2, 2, 2, 2, 2, 1, 3, 1, 3, 1, 3, 1, 5]) (h := ?_)
  refine tI12_ 13 (some 20) (Ra_ [2, 2, 2, 2, 2, 2, 2, 2, 1, 3, 1, 3, 1, 5]) (h := ?_)
  refine tI12_ 17 (some 24) (Ra_ [2, 2, 2, 2, 2, 2, 2, 2, 2, 2, 1, 3, 1, 5]) (h := ?_)
  refine tI12_ 21 (some 28) (Ra_ [2, 2, 2, 2, 2, 2, 2, 2, 2, 2, 2, 2, 1, 5]) (h := ?_)
  refine tI12_ 25 (some 32) (Ra_ [2, 2, 2, 2, 2, 2, 2, 2, 2, 2, 2, 2, 2, 4]) (h := ?_)
  refine pI_ 26 (some 33) (Ra_ [2, 2, 2, 2, 2, 2, 2, 2, 2, 2, 2, 2, 3, 3]) (h := ?_)
  refine one_ (i := 2) (N := some 9) (Ra_ [3, 1, 2, 2, 2, 2, 2, 2, 2, 2, 2, 2, 3, 3]) rfl rfl (one_of HT_.out (by kernel_rfl)) (by decide) (fun K hK => ?_)
  refine goes_ Tryd.func43 (by kernel_rfl) rfl #[.int .i64 a0_0] (by rfl) rfl rfl m14_ ?_
  with_reducible refine (strongroomref25_num.calls k a0_0 t404 _ A2.out).mono ?_
  rintro e w18 ⟨rfl, hb⟩
  refine ⟨_, rfl, ?_⟩
  replace BK403 := Aside0.mk (blk_below m22_ hb)
  replace HB := Aside0.mk (below_step m9_ hb)
  (try clear hb)
  refine hK.out _ _ ⟨(blk_cell BK403.out 0).trans rfl, (blk_cell BK403.out 1).trans rfl, (blk_cell BK403.out 2).trans rfl, (blk_cell BK403.out 3).trans rfl, (blk_cell BK403.out 4).trans rfl, (blk_cell BK403.out 5).trans rfl, (blk_cell BK403.out 6).trans rfl, (blk_cell BK403.out 7).trans rfl, (blk_cell BK403.out 8).trans rfl, (blk_cell BK403.out 9).trans rfl, (blk_cell BK403.out 10).trans rfl, (blk_cell BK403.out 11).trans rfl⟩ (fun hHeld => ?_)
  clear hK K
  refine norm_ (a' := ?_) ?_ ?_
  rotate_left
  ·show Act.put _ (some 9) _ = _
   simp only [Act.put, sA_, sB_, sC_, i64_w, i32_w]
   rfl
  refine pI_ 3 (some 10) (Ra_ [6, 2, 2, 2, 2, 2, 2, 2, 2, 2, 3, 3]) (h := ?_)
  refine one_ (i := 6) (N := some 13) (Ra_ [7, 1, 2, 2, 2, 2, 2, 2, 2, 2, 3, 3]) rfl rfl (one_of HT_.out (by kernel_rfl)) (by decide) (fun K hK => ?_)
  refine goes_ Tryd.func43 (by kernel_rfl) rfl #[.int .i64 a0_1] (by rfl) rfl rfl m14_ ?_
  with_reducible refine (strongroomref25_num.calls k a0_1 t405 _ A4.out).mono ?_
  rintro e w19 ⟨rfl, hb⟩
  refine ⟨_, rfl, ?_⟩
  replace BK403 := Aside0.mk (blk_below m22_ hb)
  replace HB := Aside0.mk (below_step m9_ hb)
  (try clear hb)
  refine hK.out _ _ ⟨(blk_cell BK403.out 0).trans rfl, (blk_cell BK403.out 1).trans rfl, (blk_cell BK403.out 2).trans rfl, (blk_cell BK403.out 3).trans rfl, (blk_cell BK403.out 4).trans rfl, (blk_cell BK403.out 5).trans rfl, (blk_cell BK403.out 6).trans rfl, (blk_cell BK403.out 7).trans rfl, (blk_cell BK403.out 8).trans rfl, (blk_cell BK403.out 9).trans rfl, (blk_cell BK403.out 10).trans rfl, (blk_cell BK403.out 11).trans rfl⟩ (fun hHeld => ?_)
  clear hK K
  refine norm_ (a' := ?_) ?_ ?_
  rotate_left
  ·show Act.put _ (some 13) _ = _
   simp only [Act.put, sA_, sB_, sC_, i64_w, i32_w]
   rfl
  refine pI_ 7 (some 14) (Ra_ [10, 2, 2, 2, 2, 2, 2, 2, 3, 3]) (h := ?_)
  refine one_ (i := 10) (N := some 17) (Ra_ [11, 1, 2, 2, 2, 2, 2, 2, 3, 3]) rfl rfl (one_of HT_.out (by kernel_rfl)) (by decide) (fun K hK => ?_)
  refine goes_ Tryd.func43 (by kernel_rfl) rfl #[.int .i64 a0_2] (by rfl) rfl rfl m14_ ?_
  with_reducible refine (strongroomref25_num.calls k a0_2 t406 _ A6.out).mono ?_
  rintro e w20 ⟨rfl, hb⟩
  refine ⟨_, rfl, ?_⟩
  replace BK403 := Aside0.mk (blk_below m22_ hb)
  replace HB := Aside0.mk (below_step m9_ hb)
  (try clear hb)
  refine hK.out _ _ ⟨(blk_cell BK403.out 0).trans rfl, (blk_cell BK403.out 1).trans rfl, (blk_cell BK403.out 2).trans rfl, (blk_cell BK403.out 3).trans rfl, (blk_cell BK403.out 4).trans rfl, (blk_cell BK403.out 5).trans rfl, (blk_cell BK403.out 6).trans rfl, (blk_cell BK403.out 7).trans rfl, (blk_cell BK403.out 8).trans rfl, (blk_cell BK403.out 9).trans rfl, (blk_cell BK403.out 10).trans rfl, (blk_cell BK403.out 11).trans rfl⟩ (fun hHeld => ?_)
  clear hK K
  refine norm_ (a' := ?_) ?_ ?_
  rotate_left
  ·show Act.put _ (some 17) _ = _
   simp only [Act.put, sA_, sB_, sC_, i64_w, i32_w]
   rfl
  refine pI_ 11 (some 18) (Ra_ [14, 2, 2, 2, 2, 2, 3, 3]) (h := ?_)
  refine one_ (i := 14) (N := some 21) (Ra_ [15, 1, 2, 2, 2, 2, 3, 3]) rfl rfl (one_of HT_.out (by kernel_rfl)) (by decide) (fun K hK => ?_)
  refine goes_ Tryd.func44 (by kernel_rfl) rfl #[.slice A0_3 l0_3.length c0_3] (by rfl) rfl rfl m14_ ?_
  with_reducible refine (strongroomref01_List.calls k _ _ l0_3 t407 _ ?side1 ?side2 A8.out).mono ?_
  (case side1 => exact m46_)
  (case side2 => exact HC0_3.out)
  rintro e w21 ⟨rfl, hb⟩
  refine ⟨_, rfl, ?_⟩
  replace BK403 := Aside0.mk (blk_below m22_ hb)
  replace HB := Aside0.mk (below_step m9_ hb)
  (try clear hb)
  refine hK.out _ _ ⟨(blk_cell BK403.out 0).trans rfl, (blk_cell BK403.out 1).trans rfl, (blk_cell BK403.out 2).trans rfl, (blk_cell BK403.out 3).trans rfl, (blk_cell BK403.out 4).trans rfl, (blk_cell BK403.out 5).trans rfl, (blk_cell BK403.out 6).trans rfl, (blk_cell BK403.out 7).trans rfl, (blk_cell BK403.out 8).trans rfl, (blk_cell BK403.out 9).trans rfl, (blk_cell BK403.out 10).trans rfl, (blk_cell BK403.out 11).trans rfl⟩ (fun hHeld => ?_)
  clear hK K
  refine norm_ (a' := ?_) ?_ ?_
  rotate_left
  ·show Act.put _ (some 21) _ = _
   simp only [Act.put, sA_, sB_, sC_, i64_w, i32_w]
   rfl
  refine pI_ 15 (some 22) (Ra_ [18, 2, 2, 2, 3, 3]) (h := ?_)
  refine one_ (i := 18) (N := some 25) (Ra_ [19, 1, 2, 2, 3, 3]) rfl rfl (one_of HT_.out (by kernel_rfl)) (by decide) (fun K hK => ?_)
  refine goes_ Tryd.func45 (by kernel_rfl) rfl #[.string a0_4] (by rfl) rfl rfl m14_ ?_
  with_reducible refine (strongroomref01_Text.calls k a0_4 t408 _ A10.out).mono ?_
  rintro e w22 ⟨rfl, hb⟩
  refine ⟨_, rfl, ?_⟩
  replace BK403 := Aside0.mk (blk_below m22_ hb)
  replace HB := Aside0.mk (below_step m9_ hb)
  (try clear hb)
  refine hK.out _ _ ⟨(blk_cell BK403.out 0).trans rfl, (blk_cell BK403.out 1).trans rfl, (blk_cell BK403.out 2).trans rfl, (blk_cell BK403.out 3).trans rfl, (blk_cell BK403.out 4).trans rfl, (blk_cell BK403.out 5).trans rfl, (blk_cell BK403.out 6).trans rfl, (blk_cell BK403.out 7).trans rfl, (blk_cell BK403.out 8).trans rfl, (blk_cell BK403.out 9).trans rfl, (blk_cell BK403.out 10).trans rfl, (blk_cell BK403.out 11).trans rfl⟩ (fun hHeld => ?_)
  clear hK K
  refine norm_ (a' := ?_) ?_ ?_
  rotate_left
  ·show Act.put _ (some 25) _ = _
   simp only [Act.put, sA_, sB_, sC_, i64_w, i32_w]
   rfl
  refine pI_ 19 (some 26) (Ra_ [22, 2, 3, 3]) (h := ?_)
  refine one_ (i := 22) (N := some 29) (Ra_ [23, 1, 3, 3]) rfl rfl (one_of HT_.out (by kernel_rfl)) (by decide) (fun K hK => ?_)
  refine goes_ Tryd.func45 (by kernel_rfl) rfl #[.string a0_5] (by rfl) rfl rfl m14_ ?_
  with_reducible refine (strongroomref01_Text.calls k a0_5 t409 _ A12.out).mono ?_
  rintro e w23 ⟨rfl, hb⟩
  refine ⟨_, rfl, ?_⟩
  replace BK403 := Aside0.mk (blk_below m22_ hb)
  replace HB := Aside0.mk (below_step m9_ hb)
  (try clear hb)
  refine hK.out _ _ ⟨(blk_cell BK403.out 0).trans rfl, (blk_cell BK403.out 1).trans rfl, (blk_cell BK403.out 2).trans rfl, (blk_cell BK403.out 3).trans rfl, (blk_cell BK403.out 4).trans rfl, (blk_cell BK403.out 5).trans rfl, (blk_cell BK403.out 6).trans rfl, (blk_cell BK403.out 7).trans rfl, (blk_cell BK403.out 8).trans rfl, (blk_cell BK403.out 9).trans rfl, (blk_cell BK403.out 10).trans rfl, (blk_cell BK403.out 11).trans rfl⟩ (fun hHeld => ?_)
  clear hK K
  refine norm_ (a' := ?_) ?_ ?_
  rotate_left
  ·show Act.put _ (some 29) _ = _
   simp only [Act.put, sA_, sB_, sC_, i64_w, i32_w]
   rfl
  refine pI_ 23 (some 30) (Ra_ [27, 3]) (h := ?_)
  refine one_ (i := 27) (N := some 34) (Ra_ [28, 2]) rfl rfl (one_of HT_.out (by kernel_rfl)) (by decide) (fun K hK => ?_)
  refine goes_ Tryd.func43 (by kernel_rfl) rfl #[.int .i64 (l0_6.length : Int)] (by rfl) rfl rfl m14_ ?_
  with_reducible refine (strongroomref25_num.calls k (l0_6.length : Int) t410 _ A14.out).mono ?_
  rintro e w24 ⟨rfl, hb⟩
  refine ⟨_, rfl, ?_⟩
  replace BK403 := Aside0.mk (blk_below m22_ hb)
  replace HB := Aside0.mk (below_step m9_ hb)
  (try clear hb)
  refine hK.out _ _ ⟨(blk_cell BK403.out 0).trans rfl, (blk_cell BK403.out 1).trans rfl, (blk_cell BK403.out 2).trans rfl, (blk_cell BK403.out 3).trans rfl, (blk_cell BK403.out 4).trans rfl, (blk_cell BK403.out 5).trans rfl, (blk_cell BK403.out 6).trans rfl, (blk_cell BK403.out 7).trans rfl, (blk_cell BK403.out 8).trans rfl, (blk_cell BK403.out 9).trans rfl, (blk_cell BK403.out 10).trans rfl, (blk_cell BK403.out 11).trans rfl⟩ (fun hHeld => ?_)
  clear hK K
  refine norm_ (a' := ?_) ?_ ?_
  rotate_left
  ·show Act.put _ (some 34) _ = _
   simp only [Act.put, sA_, sB_, sC_, i64_w, i32_w]
   rfl
  refine pI_ 28 (some 35) (Ra_ [29, 1]) (h := ?_)
  refine pI_ 29 (some 3) (Ra_ [30]) (h := ?_)
  refine done_ (done_of HT_.out (by kernel_rfl)) ?_
  try go_wp2
  go_loopg [3, 4] k (fun kq v3 v4 w' => ∃ (x3_1 : ByteArray) (x4_1 : Int), v3 = .string x3_1 ∧ v4 = .int .i64 x4_1 ∧ Aside0 (strongroomref25_Reply.l0 kq x3_1 x4_1 a0_0 a0_1 a0_2 l0_3 a0_4 a0_5 l0_6 l0_7 a0_8 l0_9 a0_10 a0_11 = some r) ∧ Aside0 (kq ≤ k) ∧ Aside0 (w'.heap[gb403]? = some (.cells #[.int .i64 a0_0, .int .i64 a0_1, .int .i64 a0_2, (.slice A0_3 l0_3.length c0_3), .string a0_4, .string a0_5, (.slice A0_6 l0_6.length c0_6), (.slice A0_7 l0_7.length c0_7), .string a0_8, (.slice A0_9 l0_9.length c0_9), .int .i64 a0_10, .int .i64 a0_11] 34 (0, 0))) ∧ Aside0 (Below w.heap.size w w'))
  case atStart => exact ⟨((((((((⟨#[2]⟩ : ByteArray) ++ t404) ++ t405) ++ t406) ++ t407) ++ t408) ++ t409) ++ t410), (0), m39_, m39_, H', ⟨Nat.le_refl _⟩, ⟨by refine bD_ ?_; exact BK403.out⟩, ⟨m61_⟩⟩
  clear H'
  try clear c3; try clear c3b0; try clear c3b1; try clear c3b2; try clear c5; try clear c5b0; try clear c5b1; try clear c5b2; try clear c7; try clear c7b0; try clear c7b1; try clear c7b2; try clear c9; try clear c9b0; try clear c9b1; try clear c9b2; try clear c11; try clear c11b0; try clear c11b1; try clear c11b2; try clear c13; try clear c13b0; try clear c13b1; try clear c13b2; try clear c15; try clear c15b0; try clear c15b1; try clear c15b2
  obtain ⟨x3_1, x4_1, rfl, rfl, HA, HK1, BK403, HB⟩ := hrel
  cases gk with
  | zero => exact absurd HA.out (by simp [strongroomref25_Reply.l0])
  | succ k1 =>
   have H := HA.out
   clear HA
   simp only [strongroomref25_Reply.l0] at H
   by_cases c25 : x4_1 < (l0_6.length : Int)
   ·rw [if_pos c25] at H
    have c25b0 : decide (x4_1 < (l0_6.length : Int)) = true := decide_eq_true c25
    clear c25
    by_cases c26 : 0 ≤ x4_1
    case neg =>
     rw [if_neg c26] at H
     exact absurd H (by simp)
    rw [if_pos c26] at H
    have c26b0 : decide (0 ≤ x4_1) = true := decide_eq_true c26
    clear c26
    replace H := Option.bind_eq_some_iff.mp H
    obtain ⟨t412, A270, H⟩ := H
    try dsimp only at H
    have A27 := Aside0.mk A270
    clear A270
    by_cases c28 : x3_1.size + t412.size ≤ 9223372036854775807
    case neg =>
     rw [if_neg c28] at H
     exact absurd H (by simp)
    rw [if_pos c28] at H
    have c28b0 := eq_true c28
    have c28b1 : decide (x3_1.size + t412.size ≤ 9223372036854775807) = true := decide_eq_true c28
    try have c28b2 : (9223372036854775807 < x3_1.size + t412.size) = False := eq_false (Nat.not_lt.2 c28)
    replace H := Option.bind_eq_some_iff.mp H
    obtain ⟨t414, A290, H⟩ := H
    try dsimp only at H
    have A29 := Aside0.mk A290
    clear A290
    by_cases c30 : (x3_1 ++ t412).size + t414.size ≤ 9223372036854775807
    case neg =>
     rw [if_neg c30] at H
     exact absurd H (by simp)
    rw [if_pos c30] at H
    have c30b0 := eq_true c30
    have c30b1 : decide ((x3_1 ++ t412).size + t414.size ≤ 9223372036854775807) = true := decide_eq_true c30
    try have c30b2 : (9223372036854775807 < (x3_1 ++ t412).size + t414.size) = False := eq_false (Nat.not_lt.2 c30)
    try (have c30b3 := c30b2; simp only [ByteArray.size_append] at c30b3)
    have H' := Aside0.mk H
    clear H
    obtain ⟨hcz31_0, hcz31_1, hcz31_2, hcz31_3, hcz31_4, hcz31_5, hcz31_6, hcz31_7, hcz31_8, hcz31_9, hcz31_10, hcz31_11⟩ := bc12_ BK403.out
    obtain ⟨hfz31_0, hfz31_1, hfz31_2, hfz31_3, hfz31_4, hfz31_5, hfz31_6, hfz31_7, hfz31_8, hfz31_9, hfz31_10, hfz31_11⟩ := bf12_ BK403.out
    try go_wp2
    replace BK403 := Aside0.mk (blk_drew BK403.out)
    replace HB := Aside0.mk (below_drew1 HB.out)
    have p411 : 0 ≤ (x4_1 : Int) := of_decide_eq_true m38_
    have q411 : x4_1 < (l0_6.length : Int) := of_decide_eq_true m38_
    obtain ⟨ad411, e411, hx411_0, hx411_1⟩ := at_T65 HR0_6.out x4_1 p411 q411
    have hw411_1 := hx411_1
    have hw411_0 := hx411_0
    cases e411
    replace hx411_0 := (HB.out.cell (World.block_lt_of_cell? w _ hx411_0)).trans hx411_0
    replace hx411_1 := (HB.out.cell (World.block_lt_of_cell? w _ hx411_1)).trans hx411_1
    replace p411 := eq_true p411
    replace q411 := eq_true q411
    have p413 : 0 ≤ (x4_1 : Int) := of_decide_eq_true m38_
    have q413 : x4_1 < (l0_6.length : Int) := of_decide_eq_true m38_
    obtain ⟨ad413, e413, hx413_0, hx413_1⟩ := at_T65 HR0_6.out x4_1 p413 q413
    have hw413_1 := hx413_1
    have hw413_0 := hx413_0
    obtain rfl : ad411 = ad413 := (by injection e413)
    replace hx413_0 := (HB.out.cell (World.block_lt_of_cell? w _ hx413_0)).trans hx413_0
    replace hx413_1 := (HB.out.cell (World.block_lt_of_cell? w _ hx413_1)).trans hx413_1
    replace p413 := eq_true p413
    replace q413 := eq_true q413
    refine start_ (n := 19) (S := fun w' => w'.cell? ⟨gb403, 0, none⟩ = some (.int .i64 a0_0) ∧ w'.cell? ⟨gb403, 1, none⟩ = some (.int .i64 a0_1) ∧ w'.cell? ⟨gb403, 2, none⟩ = some (.int .i64 a0_2) ∧ w'.cell? ⟨gb403, 3, none⟩ = some (.slice A0_3 l0_3.length c0_3) ∧ w'.cell? ⟨gb403, 4, none⟩ = some (.string a0_4) ∧ w'.cell? ⟨gb403, 5, none⟩ = some (.string a0_5) ∧ w'.cell? ⟨gb403, 6, none⟩ = some (.slice (some ad411) l0_6.length c0_6) ∧ w'.cell? ⟨gb403, 7, none⟩ = some (.slice A0_7 l0_7.length c0_7) ∧ w'.cell? ⟨gb403, 8, none⟩ = some (.string a0_8) ∧ w'.cell? ⟨gb403, 9, none⟩ = some (.slice A0_9 l0_9.length c0_9) ∧ w'.cell? ⟨gb403, 10, none⟩ = some (.int .i64 a0_10) ∧ w'.cell? ⟨gb403, 11, none⟩ = some (.int .i64 a0_11) ∧ w'.cell? (ad411.add ((x4_1).toNat * 2)) = some (.int .u32 ((rd_T65 l0_6 x4_1).f0)) ∧ w'.cell? ⟨(ad411.add ((x4_1).toNat * 2)).block, (ad411.add ((x4_1).toNat * 2)).off + 1, none⟩ = some (.string ((rd_T65 l0_6 x4_1).f1)) ∧ w'.cell? (ad411.add ((x4_1).toNat * 2)) = some (.int .u32 ((rd_T65 l0_6 x4_1).f0)) ∧ w'.cell? ⟨(ad411.add ((x4_1).toNat * 2)).block, (ad411.add ((x4_1).toNat * 2)).off + 1, none⟩ = some (.string ((rd_T65 l0_6 x4_1).f1))) (ds := []) (Ra_ [0, 19]) (by kernel_rfl) rfl rfl ⟨(blk_cell BK403.out 0).trans rfl, (blk_cell BK403.out 1).trans rfl, (blk_cell BK403.out 2).trans rfl, (blk_cell BK403.out 3).trans rfl, (blk_cell BK403.out 4).trans rfl, (blk_cell BK403.out 5).trans rfl, (blk_cell BK403.out 6).trans rfl, (blk_cell BK403.out 7).trans rfl, (blk_cell BK403.out 8).trans rfl, (blk_cell BK403.out 9).trans rfl, (blk_cell BK403.out 10).trans rfl, (blk_cell BK403.out 11).trans rfl, ((HB.out.cell (World.block_lt_of_cell? w _ hw411_0)).trans hw411_0), ((HB.out.cell (World.block_lt_of_cell? w _ hw411_1)).trans hw411_1), ((HB.out.cell (World.block_lt_of_cell? w _ hw413_0)).trans hw413_0), ((HB.out.cell (World.block_lt_of_cell? w _ hw413_1)).trans hw413_1)⟩ (fun hHeld => ?_); refine with_tabW strongroomref25_Reply.tab5 strongroomref25_Reply.bits5 (fun HT_ HW_ => ?_)
    generalize wr.drew = w32 at BK403 HB hx411_0 hx411_1 hx413_0 hx413_1 hHeld ⊢
    refine pI_ 0 (some 43) (Ra_ [1, 18]) (h := ?_)
    refine pI_ 1 (some 44) (Ra_ [2, 17]) (h := ?_)
    refine pI_ 3 (some 46) (Ra_ [2, 1, 1, 15]) (h := ?_)
    refine pI_ 10 (some 53) (Ra_ [2, 1, 1, 6, 1, 8]) (h := ?_)
    refine pI_ 12 (some 55) (Ra_ [2, 1, 1, 6, 1, 1, 1, 6]) (h := ?_)
    refine tI16_ 2 (some 45) (Ra_ [4, 6, 1, 1, 1, 6]) (h := ?_)
    refine pI_ 4 (some 47) (Ra_ [5, 5, 1, 1, 1, 6]) (h := ?_)
    refine pI_ 5 (some 48) (Ra_ [6, 4, 1, 1, 1, 6]) (h := ?_)
    refine tI16_ 6 (some 49) (Ra_ [7, 3, 1, 1, 1, 6]) (h := ?_)
    refine pI_ 7 (some 50) (Ra_ [8, 2, 1, 1, 1, 6]) (h := ?_)
    refine tI16_ 11 (some 54) (Ra_ [8, 2, 3, 6]) (h := ?_)
    refine pI_ 13 (some 56) (Ra_ [8, 2, 4, 5]) (h := ?_)
    refine pI_ 14 (some 57) (Ra_ [8, 2, 5, 4]) (h := ?_)
    refine tI16_ 15 (some 58) (Ra_ [8, 2, 6, 3]) (h := ?_)
    refine one_ (i := 8) (N := some 51) (Ra_ [9, 1, 6, 3]) rfl rfl (one_of HT_.out (by kernel_rfl)) (by decide) (fun K hK => ?_)
    refine goes_ Tryd.func43 (by kernel_rfl) rfl #[.int .i64 (wrap64 ((rd_T65 l0_6 x4_1).f0))] (by rfl) rfl rfl m14_ ?_
    with_reducible refine (strongroomref25_num.calls k1 (wrap64 ((rd_T65 l0_6 x4_1).f0)) t412 _ A27.out).mono ?_
    rintro e w33 ⟨rfl, hb⟩
    refine ⟨_, rfl, ?_⟩
    replace BK403 := Aside0.mk (blk_below m22_ hb)
    replace HB := Aside0.mk (below_step m9_ hb)
    (try clear hb)
    refine hK.out _ _ ⟨(blk_cell BK403.out 0).trans rfl, (blk_cell BK403.out 1).trans rfl, (blk_cell BK403.out 2).trans rfl, (blk_cell BK403.out 3).trans rfl, (blk_cell BK403.out 4).trans rfl, (blk_cell BK403.out 5).trans rfl, (blk_cell BK403.out 6).trans rfl, (blk_cell BK403.out 7).trans rfl, (blk_cell BK403.out 8).trans rfl, (blk_cell BK403.out 9).trans rfl, (blk_cell BK403.out 10).trans rfl, (blk_cell BK403.out 11).trans rfl, ((HB.out.cell (World.block_lt_of_cell? w _ hw411_0)).trans hw411_0), ((HB.out.cell (World.block_lt_of_cell? w _ hw411_1)).trans hw411_1), ((HB.out.cell (World.block_lt_of_cell? w _ hw413_0)).trans hw413_0), ((HB.out.cell (World.block_lt_of_cell? w _ hw413_1)).trans hw413_1)⟩ (fun hHeld => ?_)
    clear hK K
    refine norm_ (a' := ?_) ?_ ?_
    rotate_left
    ·show Act.put _ (some 51) _ = _
     simp only [Act.put, sA_, sB_, sC_, i64_w, i32_w]
     rfl
    refine pI_ 9 (some 52) (Ra_ [16, 3]) (h := ?_)
    refine one_ (i := 16) (N := some 59) (Ra_ [17, 2]) rfl rfl (one_of HT_.out (by kernel_rfl)) (by decide) (fun K hK => ?_)
    refine goes_ Tryd.func45 (by kernel_rfl) rfl #[.string ((rd_T65 l0_6 x4_1).f1)] (by rfl) rfl rfl m14_ ?_
    with_reducible refine (strongroomref01_Text.calls k1 ((rd_T65 l0_6 x4_1).f1) t414 _ A29.out).mono ?_
    rintro e w34 ⟨rfl, hb⟩
    refine ⟨_, rfl, ?_⟩
    replace BK403 := Aside0.mk (blk_below m22_ hb)
    replace HB := Aside0.mk (below_step m9_ hb)
    (try clear hb)
    refine hK.out _ _ ⟨(blk_cell BK403.out 0).trans rfl, (blk_cell BK403.out 1).trans rfl, (blk_cell BK403.out 2).trans rfl, (blk_cell BK403.out 3).trans rfl, (blk_cell BK403.out 4).trans rfl, (blk_cell BK403.out 5).trans rfl, (blk_cell BK403.out 6).trans rfl, (blk_cell BK403.out 7).trans rfl, (blk_cell BK403.out 8).trans rfl, (blk_cell BK403.out 9).trans rfl, (blk_cell BK403.out 10).trans rfl, (blk_cell BK403.out 11).trans rfl, ((HB.out.cell (World.block_lt_of_cell? w _ hw411_0)).trans hw411_0), ((HB.out.cell (World.block_lt_of_cell? w _ hw411_1)).trans hw411_1), ((HB.out.cell (World.block_lt_of_cell? w _ hw413_0)).trans hw413_0), ((HB.out.cell (World.block_lt_of_cell? w _ hw413_1)).trans hw413_1)⟩ (fun hHeld => ?_)
    clear hK K
    refine norm_ (a' := ?_) ?_ ?_
    rotate_left
    ·show Act.put _ (some 59) _ = _
     simp only [Act.put, sA_, sB_, sC_, i64_w, i32_w]
     rfl
    refine pI_ 17 (some 60) (Ra_ [18, 1]) (h := ?_)
    refine pI_ 18 (some 3) (Ra_ [19]) (h := ?_)
    refine done_ (done_of HT_.out (by kernel_rfl)) ?_
    try go_wp2
    go_roundg k1
    case measure => have := HK1.out; omega
    case rel => exact ⟨((x3_1 ++ t412) ++ t414), (wrap64 (x4_1 + 1)), m39_, m39_, H', ⟨by have := HK1.out; omega⟩, ⟨by refine bD_ ?_; exact BK403.out⟩, ⟨m61_⟩⟩
   rw [if_neg c25] at H
   have c25b0 : decide (x4_1 < (l0_6.length : Int)) = false := decide_eq_false c25
   clear c25
   replace H := Option.bind_eq_some_iff.mp H
   obtain ⟨t415, A350, H⟩ := H
   try dsimp only at H
   have A35 := Aside0.mk A350
   clear A350
   by_cases c36 : x3_1.size + t415.size ≤ 9223372036854775807
   case neg =>
    rw [if_neg c36] at H
    exact absurd H (by simp)
   rw [if_pos c36] at H
   have c36b0 := eq_true c36
   have c36b1 : decide (x3_1.size + t415.size ≤ 9223372036854775807) = true := decide_eq_true c36
   try have c36b2 : (9223372036854775807 < x3_1.size + t415.size) = False := eq_false (Nat.not_lt.2 c36)
   have H' := Aside0.mk H
   clear H
   obtain ⟨hcz37_0, hcz37_1, hcz37_2, hcz37_3, hcz37_4, hcz37_5, hcz37_6, hcz37_7, hcz37_8, hcz37_9, hcz37_10, hcz37_11⟩ := bc12_ BK403.out
   obtain ⟨hfz37_0, hfz37_1, hfz37_2, hfz37_3, hfz37_4, hfz37_5, hfz37_6, hfz37_7, hfz37_8, hfz37_9, hfz37_10, hfz37_11⟩ := bf12_ BK403.out
   go_wp2_with (first | ((with_reducible refine gate_callee (f := 43) rfl ?_); refine goesL_ (some 65) rfl rfl Tryd.func43 (by kernel_rfl) rfl #[.int .i64 (l0_7.length : Int)] rfl m14_ ?_; (with_reducible refine (strongroomref25_num.calls k1 (l0_7.length : Int) t415 _ A35.out).mono ?_); rintro e w38 ⟨rfl, hb⟩; refine ⟨_, rfl, ?_⟩; replace BK403 := Aside0.mk (blk_below m22_ hb); replace HB := Aside0.mk (below_step m9_ hb); (try clear hb)))
   go_loopg [3, 5] k1 (fun kq v3 v5 w' => ∃ (x3_2 : ByteArray) (x5_2 : Int), v3 = .string x3_2 ∧ v5 = .int .i64 x5_2 ∧ Aside0 (strongroomref25_Reply.l1 kq x3_2 x5_2 a0_0 a0_1 a0_2 l0_3 a0_4 a0_5 l0_6 l0_7 a0_8 l0_9 a0_10 a0_11 = some r) ∧ Aside0 (kq ≤ k1) ∧ Aside0 (w'.heap[gb403]? = some (.cells #[.int .i64 a0_0, .int .i64 a0_1, .int .i64 a0_2, (.slice A0_3 l0_3.length c0_3), .string a0_4, .string a0_5, (.slice A0_6 l0_6.length c0_6), (.slice A0_7 l0_7.length c0_7), .string a0_8, (.slice A0_9 l0_9.length c0_9), .int .i64 a0_10, .int .i64 a0_11] 34 (0, 0))) ∧ Aside0 (Below w.heap.size w w'))
   case atStart => exact ⟨(x3_1 ++ t415), (0), m39_, m39_, H', ⟨Nat.le_refl _⟩, ⟨by refine bD_ ?_; exact BK403.out⟩, ⟨m61_⟩⟩
   clear H'
   try clear c25b0; try clear c36; try clear c36b0; try clear c36b1; try clear c36b2; try clear hcz37_0; try clear hcz37_1; try clear hcz37_10; try clear hcz37_11; try clear hcz37_2; try clear hcz37_3; try clear hcz37_4; try clear hcz37_5; try clear hcz37_6; try clear hcz37_7; try clear hcz37_8; try clear hcz37_9; try clear hfz37_0; try clear hfz37_1; try clear hfz37_10; try clear hfz37_11; try clear hfz37_2; try clear hfz37_3; try clear hfz37_4; try clear hfz37_5; try clear hfz37_6; try clear hfz37_7; try clear hfz37_8; try clear hfz37_9
   obtain ⟨x3_2, x5_2, rfl, rfl, HA, HK2, BK403, HB⟩ := hrel
   cases gk with
   | zero => exact absurd HA.out (by simp [strongroomref25_Reply.l1])
   | succ k2 =>
    have H := HA.out
    clear HA
    simp only [strongroomref25_Reply.l1] at H
    by_cases c39 : x5_2 < (l0_7.length : Int)
    ·rw [if_pos c39] at H
     have c39b0 : decide (x5_2 < (l0_7.length : Int)) = true := decide_eq_true c39
     clear c39
     by_cases c40 : 0 ≤ x5_2
     case neg =>
      rw [if_neg c40] at H
      exact absurd H (by simp)
     rw [if_pos c40] at H
     have c40b0 : decide (0 ≤ x5_2) = true := decide_eq_true c40
     clear c40
     replace H := Option.bind_eq_some_iff.mp H
     obtain ⟨t417, A410, H⟩ := H
     try dsimp only at H
     have A41 := Aside0.mk A410
     clear A410
     by_cases c42 : x3_2.size + t417.size ≤ 9223372036854775807
     case neg =>
      rw [if_neg c42] at H
      exact absurd H (by simp)
     rw [if_pos c42] at H
     have c42b0 := eq_true c42
     have c42b1 : decide (x3_2.size + t417.size ≤ 9223372036854775807) = true := decide_eq_true c42
     try have c42b2 : (9223372036854775807 < x3_2.size + t417.size) = False := eq_false (Nat.not_lt.2 c42)
     replace H := Option.bind_eq_some_iff.mp H
     obtain ⟨t419, A430, H⟩ := H
     try dsimp only at H
     have A43 := Aside0.mk A430
     clear A430
     by_cases c44 : (x3_2 ++ t417).size + t419.size ≤ 9223372036854775807
     case neg =>
      rw [if_neg c44] at H
      exact absurd H (by simp)
     rw [if_pos c44] at H
     have c44b0 := eq_true c44
     have c44b1 : decide ((x3_2 ++ t417).size + t419.size ≤ 9223372036854775807) = true := decide_eq_true c44
     try have c44b2 : (9223372036854775807 < (x3_2 ++ t417).size + t419.size) = False := eq_false (Nat.not_lt.2 c44)
     try (have c44b3 := c44b2; simp only [ByteArray.size_append] at c44b3)
     have H' := Aside0.mk H
     clear H
     obtain ⟨hcz45_0, hcz45_1, hcz45_2, hcz45_3, hcz45_4, hcz45_5, hcz45_6, hcz45_7, hcz45_8, hcz45_9, hcz45_10, hcz45_11⟩ := bc12_ BK403.out
     obtain ⟨hfz45_0, hfz45_1, hfz45_2, hfz45_3, hfz45_4, hfz45_5, hfz45_6, hfz45_7, hfz45_8, hfz45_9, hfz45_10, hfz45_11⟩ := bf12_ BK403.out
     try go_wp2
     replace BK403 := Aside0.mk (blk_drew BK403.out)
     replace HB := Aside0.mk (below_drew1 HB.out)
     have p416 : 0 ≤ (x5_2 : Int) := of_decide_eq_true m38_
     have q416 : x5_2 < (l0_7.length : Int) := of_decide_eq_true m38_
     obtain ⟨ad416, e416, hx416_0, hx416_1⟩ := at_T74 HR0_7.out x5_2 p416 q416
     have hw416_1 := hx416_1
     have hw416_0 := hx416_0
     cases e416
     replace hx416_0 := (HB.out.cell (World.block_lt_of_cell? w _ hx416_0)).trans hx416_0
     replace hx416_1 := (HB.out.cell (World.block_lt_of_cell? w _ hx416_1)).trans hx416_1
     replace p416 := eq_true p416
     replace q416 := eq_true q416
     have p418 : 0 ≤ (x5_2 : Int) := of_decide_eq_true m38_
     have q418 : x5_2 < (l0_7.length : Int) := of_decide_eq_true m38_
     obtain ⟨ad418, e418, hx418_0, hx418_1⟩ := at_T74 HR0_7.out x5_2 p418 q418
     have hw418_1 := hx418_1
     have hw418_0 := hx418_0
     obtain rfl : ad416 = ad418 := (by injection e418)
     replace hx418_0 := (HB.out.cell (World.block_lt_of_cell? w _ hx418_0)).trans hx418_0
     replace hx418_1 := (HB.out.cell (World.block_lt_of_cell? w _ hx418_1)).trans hx418_1
     replace p418 := eq_true p418
     replace q418 := eq_true q418
     refine start_ (n := 18) (S := fun w' => w'.cell? ⟨gb403, 0, none⟩ = some (.int .i64 a0_0) ∧ w'.cell? ⟨gb403, 1, none⟩ = some (.int .i64 a0_1) ∧ w'.cell? ⟨gb403, 2, none⟩ = some (.int .i64 a0_2) ∧ w'.cell? ⟨gb403, 3, none⟩ = some (.slice A0_3 l0_3.length c0_3) ∧ w'.cell? ⟨gb403, 4, none⟩ = some (.string a0_4) ∧ w'.cell? ⟨gb403, 5, none⟩ = some (.string a0_5) ∧ w'.cell? ⟨gb403, 6, none⟩ = some (.slice A0_6 l0_6.length c0_6) ∧ w'.cell? ⟨gb403, 7, none⟩ = some (.slice (some ad416) l0_7.length c0_7) ∧ w'.cell? ⟨gb403, 8, none⟩ = some (.string a0_8) ∧ w'.cell? ⟨gb403, 9, none⟩ = some (.slice A0_9 l0_9.length c0_9) ∧ w'.cell? ⟨gb403, 10, none⟩ = some (.int .i64 a0_10) ∧ w'.cell? ⟨gb403, 11, none⟩ = some (.int .i64 a0_11) ∧ w'.cell? (ad416.add ((x5_2).toNat * 2)) = some (.int .i64 ((rd_T74 l0_7 x5_2).f0)) ∧ w'.cell? ⟨(ad416.add ((x5_2).toNat * 2)).block, (ad416.add ((x5_2).toNat * 2)).off + 1, none⟩ = some (.int .i64 ((rd_T74 l0_7 x5_2).f1)) ∧ w'.cell? (ad416.add ((x5_2).toNat * 2)) = some (.int .i64 ((rd_T74 l0_7 x5_2).f0)) ∧ w'.cell? ⟨(ad416.add ((x5_2).toNat * 2)).block, (ad416.add ((x5_2).toNat * 2)).off + 1, none⟩ = some (.int .i64 ((rd_T74 l0_7 x5_2).f1))) (ds := []) (Ra_ [0, 18]) (by kernel_rfl) rfl rfl ⟨(blk_cell BK403.out 0).trans rfl, (blk_cell BK403.out 1).trans rfl, (blk_cell BK403.out 2).trans rfl, (blk_cell BK403.out 3).trans rfl, (blk_cell BK403.out 4).trans rfl, (blk_cell BK403.out 5).trans rfl, (blk_cell BK403.out 6).trans rfl, (blk_cell BK403.out 7).trans rfl, (blk_cell BK403.out 8).trans rfl, (blk_cell BK403.out 9).trans rfl, (blk_cell BK403.out 10).trans rfl, (blk_cell BK403.out 11).trans rfl, ((HB.out.cell (World.block_lt_of_cell? w _ hw416_0)).trans hw416_0), ((HB.out.cell (World.block_lt_of_cell? w _ hw416_1)).trans hw416_1), ((HB.out.cell (World.block_lt_of_cell? w _ hw418_0)).trans hw418_0), ((HB.out.cell (World.block_lt_of_cell? w _ hw418_1)).trans hw418_1)⟩ (fun hHeld => ?_); refine with_tabW strongroomref25_Reply.tab10 strongroomref25_Reply.bits10 (fun HT_ HW_ => ?_)
     generalize wr.drew = w46 at BK403 HB hx416_0 hx416_1 hx418_0 hx418_1 hHeld ⊢
     refine pI_ 0 (some 74) (Ra_ [1, 17]) (h := ?_)
     refine pI_ 1 (some 75) (Ra_ [2, 16]) (h := ?_)
     refine pI_ 3 (some 77) (Ra_ [2, 1, 1, 14]) (h := ?_)
     refine pI_ 9 (some 83) (Ra_ [2, 1, 1, 5, 1, 8]) (h := ?_)
     refine pI_ 11 (some 85) (Ra_ [2, 1, 1, 5, 1, 1, 1, 6]) (h := ?_)
     refine tI16_ 2 (some 76) (Ra_ [4, 5, 1, 1, 1, 6]) (h := ?_)
     refine pI_ 4 (some 78) (Ra_ [5, 4, 1, 1, 1, 6]) (h := ?_)
     refine pI_ 5 (some 79) (Ra_ [6, 3, 1, 1, 1, 6]) (h := ?_)
     refine tI16_ 6 (some 80) (Ra_ [7, 2, 1, 1, 1, 6]) (h := ?_)
     refine tI16_ 10 (some 84) (Ra_ [7, 2, 3, 6]) (h := ?_)
     refine pI_ 12 (some 86) (Ra_ [7, 2, 4, 5]) (h := ?_)
     refine pI_ 13 (some 87) (Ra_ [7, 2, 5, 4]) (h := ?_)
     refine tI16_ 14 (some 88) (Ra_ [7, 2, 6, 3]) (h := ?_)
     refine one_ (i := 7) (N := some 81) (Ra_ [8, 1, 6, 3]) rfl rfl (one_of HT_.out (by kernel_rfl)) (by decide) (fun K hK => ?_)
     refine goes_ Tryd.func43 (by kernel_rfl) rfl #[.int .i64 ((rd_T74 l0_7 x5_2).f0)] (by rfl) rfl rfl m14_ ?_
     with_reducible refine (strongroomref25_num.calls k2 ((rd_T74 l0_7 x5_2).f0) t417 _ A41.out).mono ?_
     rintro e w47 ⟨rfl, hb⟩
     refine ⟨_, rfl, ?_⟩
     replace BK403 := Aside0.mk (blk_below m22_ hb)
     replace HB := Aside0.mk (below_step m9_ hb)
     (try clear hb)
     refine hK.out _ _ ⟨(blk_cell BK403.out 0).trans rfl, (blk_cell BK403.out 1).trans rfl, (blk_cell BK403.out 2).trans rfl, (blk_cell BK403.out 3).trans rfl, (blk_cell BK403.out 4).trans rfl, (blk_cell BK403.out 5).trans rfl, (blk_cell BK403.out 6).trans rfl, (blk_cell BK403.out 7).trans rfl, (blk_cell BK403.out 8).trans rfl, (blk_cell BK403.out 9).trans rfl, (blk_cell BK403.out 10).trans rfl, (blk_cell BK403.out 11).trans rfl, ((HB.out.cell (World.block_lt_of_cell? w _ hw416_0)).trans hw416_0), ((HB.out.cell (World.block_lt_of_cell? w _ hw416_1)).trans hw416_1), ((HB.out.cell (World.block_lt_of_cell? w _ hw418_0)).trans hw418_0), ((HB.out.cell (World.block_lt_of_cell? w _ hw418_1)).trans hw418_1)⟩ (fun hHeld => ?_)
     clear hK K
     refine norm_ (a' := ?_) ?_ ?_
     rotate_left
     ·show Act.put _ (some 81) _ = _
      simp only [Act.put, sA_, sB_, sC_, i64_w, i32_w]
      rfl
     refine pI_ 8 (some 82) (Ra_ [15, 3]) (h := ?_)
     refine one_ (i := 15) (N := some 89) (Ra_ [16, 2]) rfl rfl (one_of HT_.out (by kernel_rfl)) (by decide) (fun K hK => ?_)
     refine goes_ Tryd.func43 (by kernel_rfl) rfl #[.int .i64 ((rd_T74 l0_7 x5_2).f1)] (by rfl) rfl rfl m14_ ?_
     with_reducible refine (strongroomref25_num.calls k2 ((rd_T74 l0_7 x5_2).f1) t419 _ A43.out).mono ?_
     rintro e w48 ⟨rfl, hb⟩
     refine ⟨_, rfl, ?_⟩
     replace BK403 := Aside0.mk (blk_below m22_ hb)
     replace HB := Aside0.mk (below_step m9_ hb)
     (try clear hb)
     refine hK.out _ _ ⟨(blk_cell BK403.out 0).trans rfl, (blk_cell BK403.out 1).trans rfl, (blk_cell BK403.out 2).trans rfl, (blk_cell BK403.out 3).trans rfl, (blk_cell BK403.out 4).trans rfl, (blk_cell BK403.out 5).trans rfl, (blk_cell BK403.out 6).trans rfl, (blk_cell BK403.out 7).trans rfl, (blk_cell BK403.out 8).trans rfl, (blk_cell BK403.out 9).trans rfl, (blk_cell BK403.out 10).trans rfl, (blk_cell BK403.out 11).trans rfl, ((HB.out.cell (World.block_lt_of_cell? w _ hw416_0)).trans hw416_0), ((HB.out.cell (World.block_lt_of_cell? w _ hw416_1)).trans hw416_1), ((HB.out.cell (World.block_lt_of_cell? w _ hw418_0)).trans hw418_0), ((HB.out.cell (World.block_lt_of_cell? w _ hw418_1)).trans hw418_1)⟩ (fun hHeld => ?_)
     clear hK K
     refine norm_ (a' := ?_) ?_ ?_
     rotate_left
     ·show Act.put _ (some 89) _ = _
      simp only [Act.put, sA_, sB_, sC_, i64_w, i32_w]
      rfl
     refine pI_ 16 (some 90) (Ra_ [17, 1]) (h := ?_)
     refine pI_ 17 (some 3) (Ra_ [18]) (h := ?_)
     refine done_ (done_of HT_.out (by kernel_rfl)) ?_
     try go_wp2
     go_roundg k2
     case measure => have := HK1.out; have := HK2.out; omega
     case rel => exact ⟨((x3_2 ++ t417) ++ t419), (wrap64 (x5_2 + 1)), m39_, m39_, H', ⟨by have := HK1.out; have := HK2.out; omega⟩, ⟨by refine bD_ ?_; exact BK403.out⟩, ⟨m61_⟩⟩
    rw [if_neg c39] at H
    have c39b0 : decide (x5_2 < (l0_7.length : Int)) = false := decide_eq_false c39
    clear c39
    replace H := Option.bind_eq_some_iff.mp H
    obtain ⟨t420, A490, H⟩ := H
    try dsimp only at H
    have A49 := Aside0.mk A490
    clear A490
    by_cases c50 : x3_2.size + t420.size ≤ 9223372036854775807
    case neg =>
     rw [if_neg c50] at H
     exact absurd H (by simp)
    rw [if_pos c50] at H
    have c50b0 := eq_true c50
    have c50b1 : decide (x3_2.size + t420.size ≤ 9223372036854775807) = true := decide_eq_true c50
    try have c50b2 : (9223372036854775807 < x3_2.size + t420.size) = False := eq_false (Nat.not_lt.2 c50)
    replace H := Option.bind_eq_some_iff.mp H
    obtain ⟨t421, A510, H⟩ := H
    try dsimp only at H
    have A51 := Aside0.mk A510
    clear A510
    by_cases c52 : (x3_2 ++ t420).size + t421.size ≤ 9223372036854775807
    case neg =>
     rw [if_neg c52] at H
     exact absurd H (by simp)
    rw [if_pos c52] at H
    have c52b0 := eq_true c52
    have c52b1 : decide ((x3_2 ++ t420).size + t421.size ≤ 9223372036854775807) = true := decide_eq_true c52
    try have c52b2 : (9223372036854775807 < (x3_2 ++ t420).size + t421.size) = False := eq_false (Nat.not_lt.2 c52)
    try (have c52b3 := c52b2; simp only [ByteArray.size_append] at c52b3)
    have H' := Aside0.mk H
    clear H
    obtain ⟨hcz53_0, hcz53_1, hcz53_2, hcz53_3, hcz53_4, hcz53_5, hcz53_6, hcz53_7, hcz53_8, hcz53_9, hcz53_10, hcz53_11⟩ := bc12_ BK403.out
    obtain ⟨hfz53_0, hfz53_1, hfz53_2, hfz53_3, hfz53_4, hfz53_5, hfz53_6, hfz53_7, hfz53_8, hfz53_9, hfz53_10, hfz53_11⟩ := bf12_ BK403.out
    try go_wp2
    replace BK403 := Aside0.mk (blk_drew BK403.out)
    replace HB := Aside0.mk (below_drew1 HB.out)
    refine start_ (n := 11) (S := fun w' => w'.cell? ⟨gb403, 0, none⟩ = some (.int .i64 a0_0) ∧ w'.cell? ⟨gb403, 1, none⟩ = some (.int .i64 a0_1) ∧ w'.cell? ⟨gb403, 2, none⟩ = some (.int .i64 a0_2) ∧ w'.cell? ⟨gb403, 3, none⟩ = some (.slice A0_3 l0_3.length c0_3) ∧ w'.cell? ⟨gb403, 4, none⟩ = some (.string a0_4) ∧ w'.cell? ⟨gb403, 5, none⟩ = some (.string a0_5) ∧ w'.cell? ⟨gb403, 6, none⟩ = some (.slice A0_6 l0_6.length c0_6) ∧ w'.cell? ⟨gb403, 7, none⟩ = some (.slice A0_7 l0_7.length c0_7) ∧ w'.cell? ⟨gb403, 8, none⟩ = some (.string a0_8) ∧ w'.cell? ⟨gb403, 9, none⟩ = some (.slice A0_9 l0_9.length c0_9) ∧ w'.cell? ⟨gb403, 10, none⟩ = some (.int .i64 a0_10) ∧ w'.cell? ⟨gb403, 11, none⟩ = some (.int .i64 a0_11)) (ds := []) (Ra_ [0, 11]) (by kernel_rfl) rfl rfl ⟨(blk_cell BK403.out 0).trans rfl, (blk_cell BK403.out 1).trans rfl, (blk_cell BK403.out 2).trans rfl, (blk_cell BK403.out 3).trans rfl, (blk_cell BK403.out 4).trans rfl, (blk_cell BK403.out 5).trans rfl, (blk_cell BK403.out 6).trans rfl, (blk_cell BK403.out 7).trans rfl, (blk_cell BK403.out 8).trans rfl, (blk_cell BK403.out 9).trans rfl, (blk_cell BK403.out 10).trans rfl, (blk_cell BK403.out 11).trans rfl⟩ (fun hHeld => ?_); refine with_tabW strongroomref25_Reply.tab11 strongroomref25_Reply.bits11 (fun HT_ HW_ => ?_)
    generalize wr.drew = w54 at BK403 HB hHeld ⊢
    refine pI_ 0 (some 91) (Ra_ [1, 10]) (h := ?_)
    refine pI_ 1 (some 92) (Ra_ [2, 9]) (h := ?_)
    refine pI_ 5 (some 96) (Ra_ [2, 3, 1, 5]) (h := ?_)
    refine tI12_ 2 (some 93) (Ra_ [3, 2, 1, 5]) (h := ?_)
    refine tI12_ 6 (some 97) (Ra_ [3, 2, 2, 4]) (h := ?_)
    refine pI_ 7 (some 98) (Ra_ [3, 2, 3, 3]) (h := ?_)
    refine one_ (i := 3) (N := some 94) (Ra_ [4, 1, 3, 3]) rfl rfl (one_of HT_.out (by kernel_rfl)) (by decide) (fun K hK => ?_)
    refine goes_ Tryd.func45 (by kernel_rfl) rfl #[.string a0_8] (by rfl) rfl rfl m14_ ?_
    with_reducible refine (strongroomref01_Text.calls k2 a0_8 t420 _ A49.out).mono ?_
    rintro e w55 ⟨rfl, hb⟩
    refine ⟨_, rfl, ?_⟩
    replace BK403 := Aside0.mk (blk_below m22_ hb)
    replace HB := Aside0.mk (below_step m9_ hb)
    (try clear hb)
    refine hK.out _ _ ⟨(blk_cell BK403.out 0).trans rfl, (blk_cell BK403.out 1).trans rfl, (blk_cell BK403.out 2).trans rfl, (blk_cell BK403.out 3).trans rfl, (blk_cell BK403.out 4).trans rfl, (blk_cell BK403.out 5).trans rfl, (blk_cell BK403.out 6).trans rfl, (blk_cell BK403.out 7).trans rfl, (blk_cell BK403.out 8).trans rfl, (blk_cell BK403.out 9).trans rfl, (blk_cell BK403.out 10).trans rfl, (blk_cell BK403.out 11).trans rfl⟩ (fun hHeld => ?_)
    clear hK K
    refine norm_ (a' := ?_) ?_ ?_
    rotate_left
    ·show Act.put _ (some 94) _ = _
     simp only [Act.put, sA_, sB_, sC_, i64_w, i32_w]
     rfl
    refine pI_ 4 (some 95) (Ra_ [8, 3]) (h := ?_)
    refine one_ (i := 8) (N := some 99) (Ra_ [9, 2]) rfl rfl (one_of HT_.out (by kernel_rfl)) (by decide) (fun K hK => ?_)
    refine goes_ Tryd.func43 (by kernel_rfl) rfl #[.int .i64 (l0_9.length : Int)] (by rfl) rfl rfl m14_ ?_
    with_reducible refine (strongroomref25_num.calls k2 (l0_9.length : Int) t421 _ A51.out).mono ?_
    rintro e w56 ⟨rfl, hb⟩
    refine ⟨_, rfl, ?_⟩
    replace BK403 := Aside0.mk (blk_below m22_ hb)
    replace HB := Aside0.mk (below_step m9_ hb)
    (try clear hb)
    refine hK.out _ _ ⟨(blk_cell BK403.out 0).trans rfl, (blk_cell BK403.out 1).trans rfl, (blk_cell BK403.out 2).trans rfl, (blk_cell BK403.out 3).trans rfl, (blk_cell BK403.out 4).trans rfl, (blk_cell BK403.out 5).trans rfl, (blk_cell BK403.out 6).trans rfl, (blk_cell BK403.out 7).trans rfl, (blk_cell BK403.out 8).trans rfl, (blk_cell BK403.out 9).trans rfl, (blk_cell BK403.out 10).trans rfl, (blk_cell BK403.out 11).trans rfl⟩ (fun hHeld => ?_)
    clear hK K
    refine norm_ (a' := ?_) ?_ ?_
    rotate_left
    ·show Act.put _ (some 99) _ = _
     simp only [Act.put, sA_, sB_, sC_, i64_w, i32_w]
     rfl
    refine pI_ 9 (some 100) (Ra_ [10, 1]) (h := ?_)
    refine pI_ 10 (some 3) (Ra_ [11]) (h := ?_)
    refine done_ (done_of HT_.out (by kernel_rfl)) ?_
    try go_wp2
    go_loopg [3, 6] k2 (fun kq v3 v6 w' => ∃ (x3_3 : ByteArray) (x6_3 : Int), v3 = .string x3_3 ∧ v6 = .int .i64 x6_3 ∧ Aside0 (strongroomref25_Reply.l2 kq x3_3 x6_3 a0_0 a0_1 a0_2 l0_3 a0_4 a0_5 l0_6 l0_7 a0_8 l0_9 a0_10 a0_11 = some r) ∧ Aside0 (kq ≤ k2) ∧ Aside0 (w'.heap[gb403]? = some (.cells #[.int .i64 a0_0, .int .i64 a0_1, .int .i64 a0_2, (.slice A0_3 l0_3.length c0_3), .string a0_4, .string a0_5, (.slice A0_6 l0_6.length c0_6), (.slice A0_7 l0_7.length c0_7), .string a0_8, (.slice A0_9 l0_9.length c0_9), .int .i64 a0_10, .int .i64 a0_11] 34 (0, 0))) ∧ Aside0 (Below w.heap.size w w'))
    case atStart => exact ⟨((x3_2 ++ t420) ++ t421), (0), m39_, m39_, H', ⟨Nat.le_refl _⟩, ⟨by refine bD_ ?_; exact BK403.out⟩, ⟨m61_⟩⟩
    clear H'
    try clear c39b0; try clear c50; try clear c50b0; try clear c50b1; try clear c50b2; try clear c52; try clear c52b0; try clear c52b1; try clear c52b2; try clear hcz53_0; try clear hcz53_1; try clear hcz53_10; try clear hcz53_11; try clear hcz53_2; try clear hcz53_3; try clear hcz53_4; try clear hcz53_5; try clear hcz53_6; try clear hcz53_7; try clear hcz53_8; try clear hcz53_9; try clear hfz53_0; try clear hfz53_1; try clear hfz53_10; try clear hfz53_11; try clear hfz53_2; try clear hfz53_3; try clear hfz53_4; try clear hfz53_5; try clear hfz53_6; try clear hfz53_7; try clear hfz53_8; try clear hfz53_9
    obtain ⟨x3_3, x6_3, rfl, rfl, HA, HK3, BK403, HB⟩ := hrel
    cases gk with
    | zero => exact absurd HA.out (by simp [strongroomref25_Reply.l2])
    | succ k3 =>
     have H := HA.out
     clear HA
     simp only [strongroomref25_Reply.l2] at H
     by_cases c57 : x6_3 < (l0_9.length : Int)
     ·rw [if_pos c57] at H
      have c57b0 : decide (x6_3 < (l0_9.length : Int)) = true := decide_eq_true c57
      clear c57
      by_cases c58 : 0 ≤ x6_3
      case neg =>
       rw [if_neg c58] at H
       exact absurd H (by simp)
      rw [if_pos c58] at H
      have c58b0 : decide (0 ≤ x6_3) = true := decide_eq_true c58
      clear c58
      replace H := Option.bind_eq_some_iff.mp H
      obtain ⟨t423, A590, H⟩ := H
      try dsimp only at H
      have A59 := Aside0.mk A590
      clear A590
      by_cases c60 : x3_3.size + t423.size ≤ 9223372036854775807
      case neg =>
       rw [if_neg c60] at H
       exact absurd H (by simp)
      rw [if_pos c60] at H
      have c60b0 := eq_true c60
      have c60b1 : decide (x3_3.size + t423.size ≤ 9223372036854775807) = true := decide_eq_true c60
      try have c60b2 : (9223372036854775807 < x3_3.size + t423.size) = False := eq_false (Nat.not_lt.2 c60)
      have H' := Aside0.mk H
      clear H
      obtain ⟨hcz61_0, hcz61_1, hcz61_2, hcz61_3, hcz61_4, hcz61_5, hcz61_6, hcz61_7, hcz61_8, hcz61_9, hcz61_10, hcz61_11⟩ := bc12_ BK403.out
      obtain ⟨hfz61_0, hfz61_1, hfz61_2, hfz61_3, hfz61_4, hfz61_5, hfz61_6, hfz61_7, hfz61_8, hfz61_9, hfz61_10, hfz61_11⟩ := bf12_ BK403.out
      have p422 : 0 ≤ (x6_3 : Int) := of_decide_eq_true m38_
      have q422 : x6_3 < (l0_9.length : Int) := of_decide_eq_true m38_
      obtain ⟨ad422, e422, hx422_0, hx422_1, hx422_2, hx422_3, hx422_4⟩ := at_T67 HR0_9.out x6_3 p422 q422
      cases e422
      replace hx422_0 := (HB.out.cell (World.block_lt_of_cell? w _ hx422_0)).trans hx422_0
      replace hx422_1 := (HB.out.cell (World.block_lt_of_cell? w _ hx422_1)).trans hx422_1
      replace hx422_2 := (HB.out.cell (World.block_lt_of_cell? w _ hx422_2)).trans hx422_2
      replace hx422_3 := (HB.out.cell (World.block_lt_of_cell? w _ hx422_3)).trans hx422_3
      replace hx422_4 := (HB.out.cell (World.block_lt_of_cell? w _ hx422_4)).trans hx422_4
      replace p422 := eq_true p422
      replace q422 := eq_true q422
      go_wp2_with (first | ((with_reducible refine gate_callee (f := 46) rfl ?_); refine goesL_ (some 114) rfl rfl Tryd.func46 (by kernel_rfl) rfl #[.agg #[.int .i64 ((rd_T67 l0_9 x6_3).f0), .int .i64 ((rd_T67 l0_9 x6_3).f1), .int .i64 ((rd_T67 l0_9 x6_3).f2), .string ((rd_T67 l0_9 x6_3).f3), .int .i64 ((rd_T67 l0_9 x6_3).f4)]] rfl m14_ ?_; (with_reducible refine (strongroomref13_Bytes.calls k3 ((rd_T67 l0_9 x6_3).f0) ((rd_T67 l0_9 x6_3).f1) ((rd_T67 l0_9 x6_3).f2) ((rd_T67 l0_9 x6_3).f3) ((rd_T67 l0_9 x6_3).f4) t423 _ A59.out).mono ?_); rintro e w62 ⟨rfl, hb⟩; refine ⟨_, rfl, ?_⟩; replace BK403 := Aside0.mk (blk_below m22_ hb); replace HB := Aside0.mk (below_step m9_ hb); (try clear hb)))
      go_roundg k3
      case measure => have := HK1.out; have := HK2.out; have := HK3.out; omega
      case rel => exact ⟨(x3_3 ++ t423), (wrap64 (x6_3 + 1)), m39_, m39_, H', ⟨by have := HK1.out; have := HK2.out; have := HK3.out; omega⟩, ⟨by refine bD_ ?_; exact BK403.out⟩, ⟨m61_⟩⟩
     rw [if_neg c57] at H
     have c57b0 : decide (x6_3 < (l0_9.length : Int)) = false := decide_eq_false c57
     clear c57
     replace H := Option.bind_eq_some_iff.mp H
     obtain ⟨t424, A630, H⟩ := H
     try dsimp only at H
     have A63 := Aside0.mk A630
     clear A630
     by_cases c64 : x3_3.size + t424.size ≤ 9223372036854775807
     case neg =>
      rw [if_neg c64] at H
      exact absurd H (by simp)
     rw [if_pos c64] at H
     have c64b0 := eq_true c64
     have c64b1 : decide (x3_3.size + t424.size ≤ 9223372036854775807) = true := decide_eq_true c64
     try have c64b2 : (9223372036854775807 < x3_3.size + t424.size) = False := eq_false (Nat.not_lt.2 c64)
     replace H := Option.bind_eq_some_iff.mp H
     obtain ⟨t425, A650, H⟩ := H
     try dsimp only at H
     have A65 := Aside0.mk A650
     clear A650
     by_cases c66 : (x3_3 ++ t424).size + t425.size ≤ 9223372036854775807
     case neg =>
      rw [if_neg c66] at H
      exact absurd H (by simp)
     rw [if_pos c66] at H
     have c66b0 := eq_true c66
     have c66b1 : decide ((x3_3 ++ t424).size + t425.size ≤ 9223372036854775807) = true := decide_eq_true c66
     try have c66b2 : (9223372036854775807 < (x3_3 ++ t424).size + t425.size) = False := eq_false (Nat.not_lt.2 c66)
     try (have c66b3 := c66b2; simp only [ByteArray.size_append] at c66b3)
     obtain rfl := Option.some.inj H
     obtain ⟨hcz67_0, hcz67_1, hcz67_2, hcz67_3, hcz67_4, hcz67_5, hcz67_6, hcz67_7, hcz67_8, hcz67_9, hcz67_10, hcz67_11⟩ := bc12_ BK403.out
     obtain ⟨hfz67_0, hfz67_1, hfz67_2, hfz67_3, hfz67_4, hfz67_5, hfz67_6, hfz67_7, hfz67_8, hfz67_9, hfz67_10, hfz67_11⟩ := bf12_ BK403.out
     try go_wp2
     replace BK403 := Aside0.mk (blk_drew BK403.out)
     replace HB := Aside0.mk (below_drew1 HB.out)
     refine start_ (n := 10) (S := fun w' => w'.cell? ⟨gb403, 0, none⟩ = some (.int .i64 a0_0) ∧ w'.cell? ⟨gb403, 1, none⟩ = some (.int .i64 a0_1) ∧ w'.cell? ⟨gb403, 2, none⟩ = some (.int .i64 a0_2) ∧ w'.cell? ⟨gb403, 3, none⟩ = some (.slice A0_3 l0_3.length c0_3) ∧ w'.cell? ⟨gb403, 4, none⟩ = some (.string a0_4) ∧ w'.cell? ⟨gb403, 5, none⟩ = some (.string a0_5) ∧ w'.cell? ⟨gb403, 6, none⟩ = some (.slice A0_6 l0_6.length c0_6) ∧ w'.cell? ⟨gb403, 7, none⟩ = some (.slice A0_7 l0_7.length c0_7) ∧ w'.cell? ⟨gb403, 8, none⟩ = some (.string a0_8) ∧ w'.cell? ⟨gb403, 9, none⟩ = some (.slice A0_9 l0_9.length c0_9) ∧ w'.cell? ⟨gb403, 10, none⟩ = some (.int .i64 a0_10) ∧ w'.cell? ⟨gb403, 11, none⟩ = some (.int .i64 a0_11)) (ds := []) (Ra_ [0, 10]) (by kernel_rfl) rfl rfl ⟨(blk_cell BK403.out 0).trans rfl, (blk_cell BK403.out 1).trans rfl, (blk_cell BK403.out 2).trans rfl, (blk_cell BK403.out 3).trans rfl, (blk_cell BK403.out 4).trans rfl, (blk_cell BK403.out 5).trans rfl, (blk_cell BK403.out 6).trans rfl, (blk_cell BK403.out 7).trans rfl, (blk_cell BK403.out 8).trans rfl, (blk_cell BK403.out 9).trans rfl, (blk_cell BK403.out 10).trans rfl, (blk_cell BK403.out 11).trans rfl⟩ (fun hHeld => ?_); refine with_tabW strongroomref25_Reply.tab16 strongroomref25_Reply.bits16 (fun HT_ HW_ => ?_)
     generalize wr.drew = w68 at BK403 HB hHeld ⊢
     refine pI_ 0 (some 116) (Ra_ [1, 9]) (h := ?_)
     refine pI_ 1 (some 117) (Ra_ [2, 8]) (h := ?_)
     refine pI_ 5 (some 121) (Ra_ [2, 3, 1, 4]) (h := ?_)
     refine tI12_ 2 (some 118) (Ra_ [3, 2, 1, 4]) (h := ?_)
     refine tI12_ 6 (some 122) (Ra_ [3, 2, 2, 3]) (h := ?_)
     refine one_ (i := 3) (N := some 119) (Ra_ [4, 1, 2, 3]) rfl rfl (one_of HT_.out (by kernel_rfl)) (by decide) (fun K hK => ?_)
     refine goes_ Tryd.func43 (by kernel_rfl) rfl #[.int .i64 a0_10] (by rfl) rfl rfl m14_ ?_
     with_reducible refine (strongroomref25_num.calls k3 a0_10 t424 _ A63.out).mono ?_
     rintro e w69 ⟨rfl, hb⟩
     refine ⟨_, rfl, ?_⟩
     replace BK403 := Aside0.mk (blk_below m22_ hb)
     replace HB := Aside0.mk (below_step m9_ hb)
     (try clear hb)
     refine hK.out _ _ ⟨(blk_cell BK403.out 0).trans rfl, (blk_cell BK403.out 1).trans rfl, (blk_cell BK403.out 2).trans rfl, (blk_cell BK403.out 3).trans rfl, (blk_cell BK403.out 4).trans rfl, (blk_cell BK403.out 5).trans rfl, (blk_cell BK403.out 6).trans rfl, (blk_cell BK403.out 7).trans rfl, (blk_cell BK403.out 8).trans rfl, (blk_cell BK403.out 9).trans rfl, (blk_cell BK403.out 10).trans rfl, (blk_cell BK403.out 11).trans rfl⟩ (fun hHeld => ?_)
     clear hK K
     refine norm_ (a' := ?_) ?_ ?_
     rotate_left
     ·show Act.put _ (some 119) _ = _
      simp only [Act.put, sA_, sB_, sC_, i64_w, i32_w]
      rfl
     refine pI_ 4 (some 120) (Ra_ [7, 3]) (h := ?_)
     refine one_ (i := 7) (N := some 123) (Ra_ [8, 2]) rfl rfl (one_of HT_.out (by kernel_rfl)) (by decide) (fun K hK => ?_)
     refine goes_ Tryd.func43 (by kernel_rfl) rfl #[.int .i64 a0_11] (by rfl) rfl rfl m14_ ?_
     with_reducible refine (strongroomref25_num.calls k3 a0_11 t425 _ A65.out).mono ?_
     rintro e w70 ⟨rfl, hb⟩
     refine ⟨_, rfl, ?_⟩
     replace BK403 := Aside0.mk (blk_below m22_ hb)
     replace HB := Aside0.mk (below_step m9_ hb)
     (try clear hb)
     refine hK.out _ _ ⟨(blk_cell BK403.out 0).trans rfl, (blk_cell BK403.out 1).trans rfl, (blk_cell BK403.out 2).trans rfl, (blk_cell BK403.out 3).trans rfl, (blk_cell BK403.out 4).trans rfl, (blk_cell BK403.out 5).trans rfl, (blk_cell BK403.out 6).trans rfl, (blk_cell BK403.out 7).trans rfl, (blk_cell BK403.out 8).trans rfl, (blk_cell BK403.out 9).trans rfl, (blk_cell BK403.out 10).trans rfl, (blk_cell BK403.out 11).trans rfl⟩ (fun hHeld => ?_)
     clear hK K
     refine norm_ (a' := ?_) ?_ ?_
     rotate_left
     ·show Act.put _ (some 123) _ = _
      simp only [Act.put, sA_, sB_, sC_, i64_w, i32_w]
      rfl
     refine pI_ 8 (some 124) (Ra_ [9, 1]) (h := ?_)
     refine pI_ 9 (some 2) (Ra_ [10]) (h := ?_)
     refine done_ (done_of HT_.out (by kernel_rfl)) ?_
     try go_wp2
     go_ret
     exact ⟨by first | rfl | (simp [errW_none, errW_some] <;> rfl) | (simp [*, errW_none, errW_some] <;> rfl), m61_⟩

end Go.Proofs.YtoankokkdmbjmaaDoorH.HFrameReplies
