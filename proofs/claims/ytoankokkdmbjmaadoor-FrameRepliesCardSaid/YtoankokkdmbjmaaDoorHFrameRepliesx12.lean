-- PRINTED by print.py (a twelfth state) out of the translation. Not trusted: Lean checks it.
import Derived.Test.YtoankokkdmbjmaaDoorHFrameRepliesx0
import Derived.Test.YtoankokkdmbjmaaDoorHFrameRepliesx10
import Derived.Test.YtoankokkdmbjmaaDoorHFrameRepliesx11
namespace Go.Proofs.YtoankokkdmbjmaaDoorH.HFrameReplies
open Go.RowKit Go.Proofs.YtoankokkdmbjmaaDoorW.PrintWords Go.Proofs.YtoankokkdmbjmaaDoorW.PrintLast Go.Proofs.YtoankokkdmbjmaaDoorW.PrintMore
attribute [local go_sem] max2_int min2_int max_two min_two max_three min_three max_four min_four   -- for this text's walks alone
set_option linter.unusedVariables false
set_option linter.unusedSimpArgs false

/-! ### strongroomref25_Fits: function 14 -/
mutual
def strongroomref25_Fits.j0 : Nat → Bool → Int → Int → Int → List ByteArray → ByteArray → ByteArray → List (S65) → List (S74) → ByteArray → List (S67) → Int → Int → Option (Bool)
 | 0, _, _, _, _, _, _, _, _, _, _, _, _, _ => none
 | k + 1, x35, x275000, x275001, x275002, x275003, x275004, x275005, x275006, x275007, x275008, x275009, x275010, x275011 => if x35 = true then (some false) else (if (x275003.length : Int) > 64 then (strongroomref25_Fits.j1 k true x275000 x275001 x275002 x275003 x275004 x275005 x275006 x275007 x275008 x275009 x275010 x275011) else (if (x275004.size : Int) > 1024 then (strongroomref25_Fits.j1 k true x275000 x275001 x275002 x275003 x275004 x275005 x275006 x275007 x275008 x275009 x275010 x275011) else (if x275005.toList = ([] : List UInt8) then (if (x275006.length : Int) > 1024 then (strongroomref25_Fits.j1 k true x275000 x275001 x275002 x275003 x275004 x275005 x275006 x275007 x275008 x275009 x275010 x275011) else (if (x275007.length : Int) > 4 then (strongroomref25_Fits.j1 k true x275000 x275001 x275002 x275003 x275004 x275005 x275006 x275007 x275008 x275009 x275010 x275011) else (if x275008.toList = ([] : List UInt8) then (strongroomref25_Fits.j1 k (decide ((x275009.length : Int) > 8)) x275000 x275001 x275002 x275003 x275004 x275005 x275006 x275007 x275008 x275009 x275010 x275011) else (if (x275008.size : Int) = 12 then (strongroomref25_Fits.j1 k (decide ((x275009.length : Int) > 8)) x275000 x275001 x275002 x275003 x275004 x275005 x275006 x275007 x275008 x275009 x275010 x275011) else (strongroomref25_Fits.j1 k true x275000 x275001 x275002 x275003 x275004 x275005 x275006 x275007 x275008 x275009 x275010 x275011))))) else (if (x275005.size : Int) = 32 then (if (x275006.length : Int) > 1024 then (strongroomref25_Fits.j1 k true x275000 x275001 x275002 x275003 x275004 x275005 x275006 x275007 x275008 x275009 x275010 x275011) else (if (x275007.length : Int) > 4 then (strongroomref25_Fits.j1 k true x275000 x275001 x275002 x275003 x275004 x275005 x275006 x275007 x275008 x275009 x275010 x275011) else (if x275008.toList = ([] : List UInt8) then (strongroomref25_Fits.j1 k (decide ((x275009.length : Int) > 8)) x275000 x275001 x275002 x275003 x275004 x275005 x275006 x275007 x275008 x275009 x275010 x275011) else (if (x275008.size : Int) = 12 then (strongroomref25_Fits.j1 k (decide ((x275009.length : Int) > 8)) x275000 x275001 x275002 x275003 x275004 x275005 x275006 x275007 x275008 x275009 x275010 x275011) else (strongroomref25_Fits.j1 k true x275000 x275001 x275002 x275003 x275004 x275005 x275006 x275007 x275008 x275009 x275010 x275011))))) else (strongroomref25_Fits.j1 k true x275000 x275001 x275002 x275003 x275004 x275005 x275006 x275007 x275008 x275009 x275010 x275011)))))
def strongroomref25_Fits.j1 : Nat → Bool → Int → Int → Int → List ByteArray → ByteArray → ByteArray → List (S65) → List (S74) → ByteArray → List (S67) → Int → Int → Option (Bool)
 | 0, _, _, _, _, _, _, _, _, _, _, _, _, _ => none
 | k + 1, x85, x275000, x275001, x275002, x275003, x275004, x275005, x275006, x275007, x275008, x275009, x275010, x275011 => if x85 = true then (some false) else (strongroomref25_Fits.l0 k 0 x275000 x275001 x275002 x275003 x275004 x275005 x275006 x275007 x275008 x275009 x275010 x275011)
def strongroomref25_Fits.l0 : Nat → Int → Int → Int → Int → List ByteArray → ByteArray → ByteArray → List (S65) → List (S74) → ByteArray → List (S67) → Int → Int → Option (Bool)
 | 0, _, _, _, _, _, _, _, _, _, _, _, _, _ => none
 | k + 1, x3, x275000, x275001, x275002, x275003, x275004, x275005, x275006, x275007, x275008, x275009, x275010, x275011 => if x3 < (x275003.length : Int) then (if 0 ≤ x3 then ((strongroomref05_Good.f k (rdOf ByteArray.empty x275003 x3)).bind fun t276 => (if t276 = true then (strongroomref25_Fits.l0 k (wrap64 (x3 + 1)) x275000 x275001 x275002 x275003 x275004 x275005 x275006 x275007 x275008 x275009 x275010 x275011) else (some false))) else (none)) else (strongroomref25_Fits.l1 k 0 x275000 x275001 x275002 x275003 x275004 x275005 x275006 x275007 x275008 x275009 x275010 x275011)
def strongroomref25_Fits.l1 : Nat → Int → Int → Int → Int → List ByteArray → ByteArray → ByteArray → List (S65) → List (S74) → ByteArray → List (S67) → Int → Int → Option (Bool)
 | 0, _, _, _, _, _, _, _, _, _, _, _, _, _ => none
 | k + 1, x4, x275000, x275001, x275002, x275003, x275004, x275005, x275006, x275007, x275008, x275009, x275010, x275011 => if x4 < (x275006.length : Int) then (if 0 ≤ x4 then (if (((rd_T65 x275006 x4).f1).size : Int) = 16 then (strongroomref25_Fits.l1 k (wrap64 (x4 + 1)) x275000 x275001 x275002 x275003 x275004 x275005 x275006 x275007 x275008 x275009 x275010 x275011) else (some false)) else (none)) else (strongroomref25_Fits.l2 k 0 x275000 x275001 x275002 x275003 x275004 x275005 x275006 x275007 x275008 x275009 x275010 x275011)
def strongroomref25_Fits.l2 : Nat → Int → Int → Int → Int → List ByteArray → ByteArray → ByteArray → List (S65) → List (S74) → ByteArray → List (S67) → Int → Int → Option (Bool)
 | 0, _, _, _, _, _, _, _, _, _, _, _, _, _ => none
 | k + 1, x5, x275000, x275001, x275002, x275003, x275004, x275005, x275006, x275007, x275008, x275009, x275010, x275011 => if x5 < (x275007.length : Int) then (if 0 ≤ x5 then (if ((rd_T74 x275007 x5).f0) < 0 then (strongroomref25_Fits.j5 k x5 true x275000 x275001 x275002 x275003 x275004 x275005 x275006 x275007 x275008 x275009 x275010 x275011) else (if ((rd_T74 x275007 x5).f0) > 128 then (strongroomref25_Fits.j5 k x5 true x275000 x275001 x275002 x275003 x275004 x275005 x275006 x275007 x275008 x275009 x275010 x275011) else (if ((rd_T74 x275007 x5).f1) < 0 then (strongroomref25_Fits.j5 k x5 true x275000 x275001 x275002 x275003 x275004 x275005 x275006 x275007 x275008 x275009 x275010 x275011) else (strongroomref25_Fits.j5 k x5 (decide (((rd_T74 x275007 x5).f1) > 128)) x275000 x275001 x275002 x275003 x275004 x275005 x275006 x275007 x275008 x275009 x275010 x275011)))) else (none)) else (strongroomref25_Fits.l3 k 0 x275000 x275001 x275002 x275003 x275004 x275005 x275006 x275007 x275008 x275009 x275010 x275011)
def strongroomref25_Fits.j5 : Nat → Int → Bool → Int → Int → Int → List ByteArray → ByteArray → ByteArray → List (S65) → List (S74) → ByteArray → List (S67) → Int → Int → Option (Bool)
 | 0, _, _, _, _, _, _, _, _, _, _, _, _, _, _ => none
 | k + 1, x5, x144, x275000, x275001, x275002, x275003, x275004, x275005, x275006, x275007, x275008, x275009, x275010, x275011 => if x144 = true then (some false) else (strongroomref25_Fits.l2 k (wrap64 (x5 + 1)) x275000 x275001 x275002 x275003 x275004 x275005 x275006 x275007 x275008 x275009 x275010 x275011)
def strongroomref25_Fits.l3 : Nat → Int → Int → Int → Int → List ByteArray → ByteArray → ByteArray → List (S65) → List (S74) → ByteArray → List (S67) → Int → Int → Option (Bool)
 | 0, _, _, _, _, _, _, _, _, _, _, _, _, _ => none
 | k + 1, x7, x275000, x275001, x275002, x275003, x275004, x275005, x275006, x275007, x275008, x275009, x275010, x275011 => if x7 < (x275009.length : Int) then (if 0 ≤ x7 then ((strongroomref13_Good.f k ((rd_T67 x275009 x7).f0) ((rd_T67 x275009 x7).f1) ((rd_T67 x275009 x7).f2) ((rd_T67 x275009 x7).f3) ((rd_T67 x275009 x7).f4)).bind fun t281 => (if t281 = true then (strongroomref25_Fits.l3 k (wrap64 (x7 + 1)) x275000 x275001 x275002 x275003 x275004 x275005 x275006 x275007 x275008 x275009 x275010 x275011) else (some false))) else (none)) else (if x275010 ≥ 0 then (if x275010 ≤ 2097152 then (if x275011 ≥ 0 then (some (decide (x275011 ≤ 2097152))) else (some false)) else (some false)) else (some false))
end
def strongroomref25_Fits.f (k : Nat) (a0_0 : Int) (a0_1 : Int) (a0_2 : Int) (l0_3 : List ByteArray) (a0_4 : ByteArray) (a0_5 : ByteArray) (l0_6 : List (S65)) (l0_7 : List (S74)) (a0_8 : ByteArray) (l0_9 : List (S67)) (a0_10 : Int) (a0_11 : Int) : Option (Bool) := if a0_0 < 0 then (strongroomref25_Fits.j0 k true a0_0 a0_1 a0_2 l0_3 a0_4 a0_5 l0_6 l0_7 a0_8 l0_9 a0_10 a0_11) else (if a0_0 > 3 then (strongroomref25_Fits.j0 k true a0_0 a0_1 a0_2 l0_3 a0_4 a0_5 l0_6 l0_7 a0_8 l0_9 a0_10 a0_11) else (if a0_1 < 0 then (strongroomref25_Fits.j0 k true a0_0 a0_1 a0_2 l0_3 a0_4 a0_5 l0_6 l0_7 a0_8 l0_9 a0_10 a0_11) else (if a0_1 > 2147483648 then (strongroomref25_Fits.j0 k true a0_0 a0_1 a0_2 l0_3 a0_4 a0_5 l0_6 l0_7 a0_8 l0_9 a0_10 a0_11) else (if a0_2 < 0 then (strongroomref25_Fits.j0 k true a0_0 a0_1 a0_2 l0_3 a0_4 a0_5 l0_6 l0_7 a0_8 l0_9 a0_10 a0_11) else (strongroomref25_Fits.j0 k (decide (a0_2 > 100)) a0_0 a0_1 a0_2 l0_3 a0_4 a0_5 l0_6 l0_7 a0_8 l0_9 a0_10 a0_11)))))
theorem strongroomref25_Fits.mono_l : ∀ k, (∀ y0 y1 y2 y3 y4 y5 y6 y7 y8 y9 y10 y11 y12, LeO (strongroomref25_Fits.j0 k y0 y1 y2 y3 y4 y5 y6 y7 y8 y9 y10 y11 y12) (strongroomref25_Fits.j0 (k + 1) y0 y1 y2 y3 y4 y5 y6 y7 y8 y9 y10 y11 y12)) ∧ (∀ y0 y1 y2 y3 y4 y5 y6 y7 y8 y9 y10 y11 y12, LeO (strongroomref25_Fits.j1 k y0 y1 y2 y3 y4 y5 y6 y7 y8 y9 y10 y11 y12) (strongroomref25_Fits.j1 (k + 1) y0 y1 y2 y3 y4 y5 y6 y7 y8 y9 y10 y11 y12)) ∧ (∀ y0 y1 y2 y3 y4 y5 y6 y7 y8 y9 y10 y11 y12, LeO (strongroomref25_Fits.l0 k y0 y1 y2 y3 y4 y5 y6 y7 y8 y9 y10 y11 y12) (strongroomref25_Fits.l0 (k + 1) y0 y1 y2 y3 y4 y5 y6 y7 y8 y9 y10 y11 y12)) ∧ (∀ y0 y1 y2 y3 y4 y5 y6 y7 y8 y9 y10 y11 y12, LeO (strongroomref25_Fits.l1 k y0 y1 y2 y3 y4 y5 y6 y7 y8 y9 y10 y11 y12) (strongroomref25_Fits.l1 (k + 1) y0 y1 y2 y3 y4 y5 y6 y7 y8 y9 y10 y11 y12)) ∧ (∀ y0 y1 y2 y3 y4 y5 y6 y7 y8 y9 y10 y11 y12, LeO (strongroomref25_Fits.l2 k y0 y1 y2 y3 y4 y5 y6 y7 y8 y9 y10 y11 y12) (strongroomref25_Fits.l2 (k + 1) y0 y1 y2 y3 y4 y5 y6 y7 y8 y9 y10 y11 y12)) ∧ (∀ y0 y1 y2 y3 y4 y5 y6 y7 y8 y9 y10 y11 y12 y13, LeO (strongroomref25_Fits.j5 k y0 y1 y2 y3 y4 y5 y6 y7 y8 y9 y10 y11 y12 y13) (strongroomref25_Fits.j5 (k + 1) y0 y1 y2 y3 y4 y5 y6 y7 y8 y9 y10 y11 y12 y13)) ∧ (∀ y0 y1 y2 y3 y4 y5 y6 y7 y8 y9 y10 y11 y12, LeO (strongroomref25_Fits.l3 k y0 y1 y2 y3 y4 y5 y6 y7 y8 y9 y10 y11 y12) (strongroomref25_Fits.l3 (k + 1) y0 y1 y2 y3 y4 y5 y6 y7 y8 y9 y10 y11 y12))
 | 0 => ⟨fun _ _ _ _ _ _ _ _ _ _ _ _ _ r h => by simp [strongroomref25_Fits.j0] at h, fun _ _ _ _ _ _ _ _ _ _ _ _ _ r h => by simp [strongroomref25_Fits.j1] at h, fun _ _ _ _ _ _ _ _ _ _ _ _ _ r h => by simp [strongroomref25_Fits.l0] at h, fun _ _ _ _ _ _ _ _ _ _ _ _ _ r h => by simp [strongroomref25_Fits.l1] at h, fun _ _ _ _ _ _ _ _ _ _ _ _ _ r h => by simp [strongroomref25_Fits.l2] at h, fun _ _ _ _ _ _ _ _ _ _ _ _ _ _ r h => by simp [strongroomref25_Fits.j5] at h, fun _ _ _ _ _ _ _ _ _ _ _ _ _ r h => by simp [strongroomref25_Fits.l3] at h⟩
 | k + 1 => by
  obtain ⟨ih0, ih1, ih2, ih3, ih4, ih5, ih6⟩ := strongroomref25_Fits.mono_l k
  refine ⟨?_, ?_, ?_, ?_, ?_, ?_, ?_⟩
  ·intro y0 y1 y2 y3 y4 y5 y6 y7 y8 y9 y10 y11 y12
   unfold strongroomref25_Fits.j0
   repeat' first
   | (with_reducible exact ih0 _ _ _ _ _ _ _ _ _ _ _ _ _)
   | (with_reducible exact ih1 _ _ _ _ _ _ _ _ _ _ _ _ _)
   | (with_reducible exact ih2 _ _ _ _ _ _ _ _ _ _ _ _ _)
   | (with_reducible exact ih3 _ _ _ _ _ _ _ _ _ _ _ _ _)
   | (with_reducible exact ih4 _ _ _ _ _ _ _ _ _ _ _ _ _)
   | (with_reducible exact ih5 _ _ _ _ _ _ _ _ _ _ _ _ _ _)
   | (with_reducible exact ih6 _ _ _ _ _ _ _ _ _ _ _ _ _)
   | (with_reducible exact strongroomref05_Good.mono _ _)
   | (with_reducible exact strongroomref13_Good.mono _ _ _ _ _ _)
   | (with_reducible exact LeO.refl _)
   | (with_reducible exact LeO.none _)
   | (with_reducible refine LeO.ite ?_ ?_)
   | (with_reducible refine LeO.bind ?_ (fun _ => ?_))
   | exact ih0 _ _ _ _ _ _ _ _ _ _ _ _ _
   | exact ih1 _ _ _ _ _ _ _ _ _ _ _ _ _
   | exact ih2 _ _ _ _ _ _ _ _ _ _ _ _ _
   | exact ih3 _ _ _ _ _ _ _ _ _ _ _ _ _
   | exact ih4 _ _ _ _ _ _ _ _ _ _ _ _ _
   | exact ih5 _ _ _ _ _ _ _ _ _ _ _ _ _ _
   | exact ih6 _ _ _ _ _ _ _ _ _ _ _ _ _
   | exact strongroomref05_Good.mono _ _
   | exact strongroomref13_Good.mono _ _ _ _ _ _
   | exact LeO.none _
   | refine LeO.ite ?_ ?_
   | refine LeO.bind ?_ (fun _ => ?_)
  ·intro y0 y1 y2 y3 y4 y5 y6 y7 y8 y9 y10 y11 y12
   unfold strongroomref25_Fits.j1
   repeat' first
   | (with_reducible exact ih0 _ _ _ _ _ _ _ _ _ _ _ _ _)
   | (with_reducible exact ih1 _ _ _ _ _ _ _ _ _ _ _ _ _)
   | (with_reducible exact ih2 _ _ _ _ _ _ _ _ _ _ _ _ _)
   | (with_reducible exact ih3 _ _ _ _ _ _ _ _ _ _ _ _ _)
   | (with_reducible exact ih4 _ _ _ _ _ _ _ _ _ _ _ _ _)
   | (with_reducible exact ih5 _ _ _ _ _ _ _ _ _ _ _ _ _ _)
   | (with_reducible exact ih6 _ _ _ _ _ _ _ _ _ _ _ _ _)
   | (with_reducible exact strongroomref05_Good.mono _ _)
   | (with_reducible exact strongroomref13_Good.mono _ _ _ _ _ _)
   | (with_reducible exact LeO.refl _)
   | (with_reducible exact LeO.none _)
   | (with_reducible refine LeO.ite ?_ ?_)
   | (with_reducible refine LeO.bind ?_ (fun _ => ?_))
   | exact ih0 _ _ _ _ _ _ _ _ _ _ _ _ _
   | exact ih1 _ _ _ _ _ _ _ _ _ _ _ _ _
   | exact ih2 _ _ _ _ _ _ _ _ _ _ _ _ _
   | exact ih3 _ _ _ _ _ _ _ _ _ _ _ _ _
   | exact ih4 _ _ _ _ _ _ _ _ _ _ _ _ _
   | exact ih5 _ _ _ _ _ _ _ _ _ _ _ _ _ _
   | exact ih6 _ _ _ _ _ _ _ _ _ _ _ _ _
   | exact strongroomref05_Good.mono _ _
   | exact strongroomref13_Good.mono _ _ _ _ _ _
   | exact LeO.none _
   | refine LeO.ite ?_ ?_
   | refine LeO.bind ?_ (fun _ => ?_)
  ·intro y0 y1 y2 y3 y4 y5 y6 y7 y8 y9 y10 y11 y12
   unfold strongroomref25_Fits.l0
   repeat' first
   | (with_reducible exact ih0 _ _ _ _ _ _ _ _ _ _ _ _ _)
   | (with_reducible exact ih1 _ _ _ _ _ _ _ _ _ _ _ _ _)
   | (with_reducible exact ih2 _ _ _ _ _ _ _ _ _ _ _ _ _)
   | (with_reducible exact ih3 _ _ _ _ _ _ _ _ _ _ _ _ _)
   | (with_reducible exact ih4 _ _ _ _ _ _ _ _ _ _ _ _ _)
   | (with_reducible exact ih5 _ _ _ _ _ _ _ _ _ _ _ _ _ _)
   | (with_reducible exact ih6 _ _ _ _ _ _ _ _ _ _ _ _ _)
   | (with_reducible exact strongroomref05_Good.mono _ _)
   | (with_reducible exact strongroomref13_Good.mono _ _ _ _ _ _)
   | (with_reducible exact LeO.refl _)
   | (with_reducible exact LeO.none _)
   | (with_reducible refine LeO.ite ?_ ?_)
   | (with_reducible refine LeO.bind ?_ (fun _ => ?_))
   | exact ih0 _ _ _ _ _ _ _ _ _ _ _ _ _
   | exact ih1 _ _ _ _ _ _ _ _ _ _ _ _ _
   | exact ih2 _ _ _ _ _ _ _ _ _ _ _ _ _
   | exact ih3 _ _ _ _ _ _ _ _ _ _ _ _ _
   | exact ih4 _ _ _ _ _ _ _ _ _ _ _ _ _
   | exact ih5 _ _ _ _ _ _ _ _ _ _ _ _ _ _
   | exact ih6 _ _ _ _ _ _ _ _ _ _ _ _ _
   | exact strongroomref05_Good.mono _ _
   | exact strongroomref13_Good.mono _ _ _ _ _ _
   | exact LeO.none _
   | refine LeO.ite ?_ ?_
   | refine LeO.bind ?_ (fun _ => ?_)
  ·intro y0 y1 y2 y3 y4 y5 y6 y7 y8 y9 y10 y11 y12
   unfold strongroomref25_Fits.l1
   repeat' first
   | (with_reducible exact ih0 _ _ _ _ _ _ _ _ _ _ _ _ _)
   | (with_reducible exact ih1 _ _ _ _ _ _ _ _ _ _ _ _ _)
   | (with_reducible exact ih2 _ _ _ _ _ _ _ _ _ _ _ _ _)
   | (with_reducible exact ih3 _ _ _ _ _ _ _ _ _ _ _ _ _)
   | (with_reducible exact ih4 _ _ _ _ _ _ _ _ _ _ _ _ _)
   | (with_reducible exact ih5 _ _ _ _ _ _ _ _ _ _ _ _ _ _)
   | (with_reducible exact ih6 _ _ _ _ _ _ _ _ _ _ _ _ _)
   | (with_reducible exact strongroomref05_Good.mono _ _)
   | (with_reducible exact strongroomref13_Good.mono _ _ _ _ _ _)
   | (with_reducible exact LeO.refl _)
   | (with_reducible exact LeO.none _)
   | (with_reducible refine LeO.ite ?_ ?_)
   | (with_reducible refine LeO.bind ?_ (fun _ => ?_))
   | exact ih0 _ _ _ _ _ _ _ _ _ _ _ _ _
   | exact ih1 _ _ _ _ _ _ _ _ _ _ _ _ _
   | exact ih2 _ _ _ _ _ _ _ _ _ _ _ _ _
   | exact ih3 _ _ _ _ _ _ _ _ _ _ _ _ _
   | exact ih4 _ _ _ _ _ _ _ _ _ _ _ _ _
   | exact ih5 _ _ _ _ _ _ _ _ _ _ _ _ _ _
   | exact ih6 _ _ _ _ _ _ _ _ _ _ _ _ _
   | exact strongroomref05_Good.mono _ _
   | exact strongroomref13_Good.mono _ _ _ _ _ _
   | exact LeO.none _
   | refine LeO.ite ?_ ?_
   | refine LeO.bind ?_ (fun _ => ?_)
  ·intro y0 y1 y2 y3 y4 y5 y6 y7 y8 y9 y10 y11 y12
   unfold strongroomref25_Fits.l2
   repeat' first
   | (with_reducible exact ih0 _ _ _ _ _ _ _ _ _ _ _ _ _)
   | (with_reducible exact ih1 _ _ _ _ _ _ _ _ _ _ _ _ _)
   | (with_reducible exact ih2 _ _ _ _ _ _ _ _ _ _ _ _ _)
   | (with_reducible exact ih3 _ _ _ _ _ _ _ _ _ _ _ _ _)
   | (with_reducible exact ih4 _ _ _ _ _ _ _ _ _ _ _ _ _)
   | (with_reducible exact ih5 _ _ _ _ _ _ _ _ _ _ _ _ _ _)
   | (with_reducible exact ih6 _ _ _ _ _ _ _ _ _ _ _ _ _)
   | (with_reducible exact strongroomref05_Good.mono _ _)
   | (with_reducible exact strongroomref13_Good.mono _ _ _ _ _ _)
   | (with_reducible exact LeO.refl _)
   | (with_reducible exact LeO.none _)
   | (with_reducible refine LeO.ite ?_ ?_)
   | (with_reducible refine LeO.bind ?_ (fun _ => ?_))
   | exact ih0 _ _ _ _ _ _ _ _ _ _ _ _ _
   | exact ih1 _ _ _ _ _ _ _ _ _ _ _ _ _
   | exact ih2 _ _ _ _ _ _ _ _ _ _ _ _ _
   | exact ih3 _ _ _ _ _ _ _ _ _ _ _ _ _
   | exact ih4 _ _ _ _ _ _ _ _ _ _ _ _ _
   | exact ih5 _ _ _ _ _ _ _ _ _ _ _ _ _ _
   | exact ih6 _ _ _ _ _ _ _ _ _ _ _ _ _
   | exact strongroomref05_Good.mono _ _
   | exact strongroomref13_Good.mono _ _ _ _ _ _
   | exact LeO.none _
   | refine LeO.ite ?_ ?_
   | refine LeO.bind ?_ (fun _ => ?_)
  ·intro y0 y1 y2 y3 y4 y5 y6 y7 y8 y9 y10 y11 y12 y13
   unfold strongroomref25_Fits.j5
   repeat' first
   | (with_reducible exact ih0 _ _ _ _ _ _ _ _ _ _ _ _ _)
   | (with_reducible exact ih1 _ _ _ _ _ _ _ _ _ _ _ _ _)
   | (with_reducible exact ih2 _ _ _ _ _ _ _ _ _ _ _ _ _)
   | (with_reducible exact ih3 _ _ _ _ _ _ _ _ _ _ _ _ _)
   | (with_reducible exact ih4 _ _ _ _ _ _ _ _ _ _ _ _ _)
   | (with_reducible exact ih5 _ _ _ _ _ _ _ _ _ _ _ _ _ _)
   | (with_reducible exact ih6 _ _ _ _ _ _ _ _ _ _ _ _ _)
   | (with_reducible exact strongroomref05_Good.mono _ _)
   | (with_reducible exact strongroomref13_Good.mono _ _ _ _ _ _)
   | (with_reducible exact LeO.refl _)
   | (with_reducible exact LeO.none _)
   | (with_reducible refine LeO.ite ?_ ?_)
   | (with_reducible refine LeO.bind ?_ (fun _ => ?_))
   | exact ih0 _ _ _ _ _ _ _ _ _ _ _ _ _
   | exact ih1 _ _ _ _ _ _ _ _ _ _ _ _ _
   | exact ih2 _ _ _ _ _ _ _ _ _ _ _ _ _
   | exact ih3 _ _ _ _ _ _ _ _ _ _ _ _ _
   | exact ih4 _ _ _ _ _ _ _ _ _ _ _ _ _
   | exact ih5 _ _ _ _ _ _ _ _ _ _ _ _ _ _
   | exact ih6 _ _ _ _ _ _ _ _ _ _ _ _ _
   | exact strongroomref05_Good.mono _ _
   | exact strongroomref13_Good.mono _ _ _ _ _ _
   | exact LeO.none _
   | refine LeO.ite ?_ ?_
   | refine LeO.bind ?_ (fun _ => ?_)
  ·intro y0 y1 y2 y3 y4 y5 y6 y7 y8 y9 y10 y11 y12
   unfold strongroomref25_Fits.l3
   repeat' first
   | (with_reducible exact ih0 _ _ _ _ _ _ _ _ _ _ _ _ _)
   | (with_reducible exact ih1 _ _ _ _ _ _ _ _ _ _ _ _ _)
   | (with_reducible exact ih2 _ _ _ _ _ _ _ _ _ _ _ _ _)
   | (with_reducible exact ih3 _ _ _ _ _ _ _ _ _ _ _ _ _)
   | (with_reducible exact ih4 _ _ _ _ _ _ _ _ _ _ _ _ _)
   | (with_reducible exact ih5 _ _ _ _ _ _ _ _ _ _ _ _ _ _)
   | (with_reducible exact ih6 _ _ _ _ _ _ _ _ _ _ _ _ _)
   | (with_reducible exact strongroomref05_Good.mono _ _)
   | (with_reducible exact strongroomref13_Good.mono _ _ _ _ _ _)
   | (with_reducible exact LeO.refl _)
   | (with_reducible exact LeO.none _)
   | (with_reducible refine LeO.ite ?_ ?_)
   | (with_reducible refine LeO.bind ?_ (fun _ => ?_))
   | exact ih0 _ _ _ _ _ _ _ _ _ _ _ _ _
   | exact ih1 _ _ _ _ _ _ _ _ _ _ _ _ _
   | exact ih2 _ _ _ _ _ _ _ _ _ _ _ _ _
   | exact ih3 _ _ _ _ _ _ _ _ _ _ _ _ _
   | exact ih4 _ _ _ _ _ _ _ _ _ _ _ _ _
   | exact ih5 _ _ _ _ _ _ _ _ _ _ _ _ _ _
   | exact ih6 _ _ _ _ _ _ _ _ _ _ _ _ _
   | exact strongroomref05_Good.mono _ _
   | exact strongroomref13_Good.mono _ _ _ _ _ _
   | exact LeO.none _
   | refine LeO.ite ?_ ?_
   | refine LeO.bind ?_ (fun _ => ?_)
theorem strongroomref25_Fits.mono : ∀ a0 a1 a2 a3 a4 a5 a6 a7 a8 a9 a10 a11 k, LeO (strongroomref25_Fits.f k a0 a1 a2 a3 a4 a5 a6 a7 a8 a9 a10 a11) (strongroomref25_Fits.f (k + 1) a0 a1 a2 a3 a4 a5 a6 a7 a8 a9 a10 a11) := by
 intro a0 a1 a2 a3 a4 a5 a6 a7 a8 a9 a10 a11 k
 obtain ⟨ih0, ih1, ih2, ih3, ih4, ih5, ih6⟩ := strongroomref25_Fits.mono_l k
 unfold strongroomref25_Fits.f
 repeat' first
   | (with_reducible exact ih0 _ _ _ _ _ _ _ _ _ _ _ _ _)
   | (with_reducible exact ih1 _ _ _ _ _ _ _ _ _ _ _ _ _)
   | (with_reducible exact ih2 _ _ _ _ _ _ _ _ _ _ _ _ _)
   | (with_reducible exact ih3 _ _ _ _ _ _ _ _ _ _ _ _ _)
   | (with_reducible exact ih4 _ _ _ _ _ _ _ _ _ _ _ _ _)
   | (with_reducible exact ih5 _ _ _ _ _ _ _ _ _ _ _ _ _ _)
   | (with_reducible exact ih6 _ _ _ _ _ _ _ _ _ _ _ _ _)
   | (with_reducible exact strongroomref05_Good.mono _ _)
   | (with_reducible exact strongroomref13_Good.mono _ _ _ _ _ _)
   | (with_reducible exact LeO.refl _)
   | (with_reducible exact LeO.none _)
   | (with_reducible refine LeO.ite ?_ ?_)
   | (with_reducible refine LeO.bind ?_ (fun _ => ?_))
   | exact ih0 _ _ _ _ _ _ _ _ _ _ _ _ _
   | exact ih1 _ _ _ _ _ _ _ _ _ _ _ _ _
   | exact ih2 _ _ _ _ _ _ _ _ _ _ _ _ _
   | exact ih3 _ _ _ _ _ _ _ _ _ _ _ _ _
   | exact ih4 _ _ _ _ _ _ _ _ _ _ _ _ _
   | exact ih5 _ _ _ _ _ _ _ _ _ _ _ _ _ _
   | exact ih6 _ _ _ _ _ _ _ _ _ _ _ _ _
   | exact strongroomref05_Good.mono _ _
   | exact strongroomref13_Good.mono _ _ _ _ _ _
   | exact LeO.none _
   | refine LeO.ite ?_ ?_
   | refine LeO.bind ?_ (fun _ => ?_)
set_option maxHeartbeats 8000000 in
set_option maxRecDepth 100000 in
theorem strongroomref25_Fits.calls (k : Nat) (a0_0 : Int) (a0_1 : Int) (a0_2 : Int) (A0_3 : Option Addr) (c0_3 : Nat) (l0_3 : List ByteArray) (a0_4 : ByteArray) (a0_5 : ByteArray) (A0_6 : Option Addr) (c0_6 : Nat) (l0_6 : List (S65)) (A0_7 : Option Addr) (c0_7 : Nat) (l0_7 : List (S74)) (a0_8 : ByteArray) (A0_9 : Option Addr) (c0_9 : Nat) (l0_9 : List (S67)) (a0_10 : Int) (a0_11 : Int) (r : Bool) (w : World) (hr0_3 : Kd.C Kd.string w A0_3 l0_3.length l0_3) (hc0_3 : l0_3.length ≤ c0_3) (hr0_6 : Kd.C k65 w A0_6 l0_6.length l0_6) (hc0_6 : l0_6.length ≤ c0_6) (hr0_7 : Kd.C k74 w A0_7 l0_7.length l0_7) (hc0_7 : l0_7.length ≤ c0_7) (hr0_9 : Kd.C k67 w A0_9 l0_9.length l0_9) (hc0_9 : l0_9.length ≤ c0_9) (h : strongroomref25_Fits.f k a0_0 a0_1 a0_2 l0_3 a0_4 a0_5 l0_6 l0_7 a0_8 l0_9 a0_10 a0_11 = some r) :
  Calls Tryd.prog 14 #[.agg #[.int .i64 a0_0, .int .i64 a0_1, .int .i64 a0_2, .slice A0_3 l0_3.length c0_3, .string a0_4, .string a0_5, .slice A0_6 l0_6.length c0_6, .slice A0_7 l0_7.length c0_7, .string a0_8, .slice A0_9 l0_9.length c0_9, .int .i64 a0_10, .int .i64 a0_11]] w fun e w' => e = .returned (.bool r) ∧ Below w.heap.size w w' := by
 have hu34 := Tryd.underlying34
 have hu74 := Tryd.underlying74
 have hu67 := Tryd.underlying67
 have HR0_3 := Aside0.mk hr0_3
 have HC0_3 := Aside0.mk hc0_3
 clear hr0_3 hc0_3
 have HR0_6 := Aside0.mk hr0_6
 have HC0_6 := Aside0.mk hc0_6
 clear hr0_6 hc0_6
 have HR0_7 := Aside0.mk hr0_7
 have HC0_7 := Aside0.mk hc0_7
 clear hr0_7 hc0_7
 have HR0_9 := Aside0.mk hr0_9
 have HC0_9 := Aside0.mk hc0_9
 clear hr0_9 hc0_9
 have HB := Aside0.mk (Below.refl w.heap.size w)
 have H : (if a0_0 < 0 then (strongroomref25_Fits.j0 k true a0_0 a0_1 a0_2 l0_3 a0_4 a0_5 l0_6 l0_7 a0_8 l0_9 a0_10 a0_11) else (if a0_0 > 3 then (strongroomref25_Fits.j0 k true a0_0 a0_1 a0_2 l0_3 a0_4 a0_5 l0_6 l0_7 a0_8 l0_9 a0_10 a0_11) else (if a0_1 < 0 then (strongroomref25_Fits.j0 k true a0_0 a0_1 a0_2 l0_3 a0_4 a0_5 l0_6 l0_7 a0_8 l0_9 a0_10 a0_11) else (if a0_1 > 2147483648 then (strongroomref25_Fits.j0 k true a0_0 a0_1 a0_2 l0_3 a0_4 a0_5 l0_6 l0_7 a0_8 l0_9 a0_10 a0_11) else (if a0_2 < 0 then (strongroomref25_Fits.j0 k true a0_0 a0_1 a0_2 l0_3 a0_4 a0_5 l0_6 l0_7 a0_8 l0_9 a0_10 a0_11) else (strongroomref25_Fits.j0 k (decide (a0_2 > 100)) a0_0 a0_1 a0_2 l0_3 a0_4 a0_5 l0_6 l0_7 a0_8 l0_9 a0_10 a0_11)))))) = some r := h
 clear h
 have HC2 := Aside0.mk H
 clear H
 go_enter Tryd.func14, Tryd.ntmps14
 go_upto_region 1 with (first | ((with_reducible refine gate_dst (N := 1) rfl ?_); (try (refine gate_guard (by rfl) ?_; dsimp only)); refine box_event ?hg (N := 1) ?hd (cs := #[.int .i64 a0_0, .int .i64 a0_1, .int .i64 a0_2, .slice A0_3 l0_3.length c0_3, .string a0_4, .string a0_5, .slice A0_6 l0_6.length c0_6, .slice A0_7 l0_7.length c0_7, .string a0_8, .slice A0_9 l0_9.length c0_9, .int .i64 a0_10, .int .i64 a0_11]) (t := 34) ?hr ?_; (case hd => rfl); (case hg => rfl); (case hr => first | (go_simp; done) | (go_simp; rfl)); intro gb274 hg w3 hbox hb; have BK274 := Aside0.mk (hbox); have GW274 := Aside0.mk ((by rw [hg]; exact (below_size m15_) : w.heap.size ≤ gb274)); have GE274 := Aside0.mk ((by rw [hg]; exact (below_size m15_) : w.heap.size ≤ gb274)); replace HB := Aside0.mk (below_step m15_ hb); clear hb hbox hg))
 (try simp only [Act.put, List.setIfInBounds_toArray, List.set_cons_zero, List.set_cons_succ])
 go_cut [35] (fun v35 wc => ∃ (kq : Nat) (x35_1 : Bool), v35 = .bool x35_1 ∧ Aside0 (strongroomref25_Fits.j0 kq x35_1 a0_0 a0_1 a0_2 l0_3 a0_4 a0_5 l0_6 l0_7 a0_8 l0_9 a0_10 a0_11 = some r) ∧ Aside0 (kq ≤ k) ∧ Aside0 (wc.heap[gb274]? = some (.cells #[.int .i64 a0_0, .int .i64 a0_1, .int .i64 a0_2, (.slice A0_3 l0_3.length c0_3), .string a0_4, .string a0_5, (.slice A0_6 l0_6.length c0_6), (.slice A0_7 l0_7.length c0_7), .string a0_8, (.slice A0_9 l0_9.length c0_9), .int .i64 a0_10, .int .i64 a0_11] 34 (0, 0))) ∧ Aside0 (Below w.heap.size w wc))
 case first =>
  have H := HC2.out
  clear HC2
  by_cases c4 : a0_0 < 0
  ·rw [if_pos c4] at H
   have c4b0 : decide (a0_0 < 0) = true := decide_eq_true c4
   clear c4
   (first | rw [c4b0] | (simp only [i64_w, i32_w]; rw [c4b0]) | skip)
   have H' := Aside0.mk H
   clear H
   obtain ⟨hcz5_0, hcz5_1, hcz5_2, hcz5_3, hcz5_4, hcz5_5, hcz5_6, hcz5_7, hcz5_8, hcz5_9, hcz5_10, hcz5_11⟩ := bc12_ BK274.out
   obtain ⟨hfz5_0, hfz5_1, hfz5_2, hfz5_3, hfz5_4, hfz5_5, hfz5_6, hfz5_7, hfz5_8, hfz5_9, hfz5_10, hfz5_11⟩ := bf12_ BK274.out
   as_aux_lemma =>
    go_wp2
    go_meet
    case rel => exact ⟨_, (true), m39_, H', ⟨by first | omega | exact Nat.le_refl _⟩, ⟨by refine bD_ ?_; exact BK274.out⟩, ⟨m60_⟩⟩
  rw [if_neg c4] at H
  have c4b0 : decide (a0_0 < 0) = false := decide_eq_false c4
  clear c4
  (first | rw [c4b0] | (simp only [i64_w, i32_w]; rw [c4b0]) | skip)
  by_cases c6 : a0_0 > 3
  ·rw [if_pos c6] at H
   have c6b0 : decide (3 < a0_0) = true := decide_eq_true c6
   clear c6
   have H' := Aside0.mk H
   clear H
   obtain ⟨hcz7_0, hcz7_1, hcz7_2, hcz7_3, hcz7_4, hcz7_5, hcz7_6, hcz7_7, hcz7_8, hcz7_9, hcz7_10, hcz7_11⟩ := bc12_ BK274.out
   obtain ⟨hfz7_0, hfz7_1, hfz7_2, hfz7_3, hfz7_4, hfz7_5, hfz7_6, hfz7_7, hfz7_8, hfz7_9, hfz7_10, hfz7_11⟩ := bf12_ BK274.out
   as_aux_lemma =>
    go_wp2
    go_meet
    case rel => exact ⟨_, (true), m39_, H', ⟨by first | omega | exact Nat.le_refl _⟩, ⟨by refine bD_ ?_; exact BK274.out⟩, ⟨m60_⟩⟩
  rw [if_neg c6] at H
  have c6b0 : decide (3 < a0_0) = false := decide_eq_false c6
  clear c6
  by_cases c8 : a0_1 < 0
  ·rw [if_pos c8] at H
   have c8b0 : decide (a0_1 < 0) = true := decide_eq_true c8
   clear c8
   have H' := Aside0.mk H
   clear H
   obtain ⟨hcz9_0, hcz9_1, hcz9_2, hcz9_3, hcz9_4, hcz9_5, hcz9_6, hcz9_7, hcz9_8, hcz9_9, hcz9_10, hcz9_11⟩ := bc12_ BK274.out
   obtain ⟨hfz9_0, hfz9_1, hfz9_2, hfz9_3, hfz9_4, hfz9_5, hfz9_6, hfz9_7, hfz9_8, hfz9_9, hfz9_10, hfz9_11⟩ := bf12_ BK274.out
   as_aux_lemma =>
    go_wp2
    go_meet
    case rel => exact ⟨_, (true), m39_, H', ⟨by first | omega | exact Nat.le_refl _⟩, ⟨by refine bD_ ?_; exact BK274.out⟩, ⟨m60_⟩⟩
  rw [if_neg c8] at H
  have c8b0 : decide (a0_1 < 0) = false := decide_eq_false c8
  clear c8
  by_cases c10 : a0_1 > 2147483648
  ·rw [if_pos c10] at H
   have c10b0 : decide (2147483648 < a0_1) = true := decide_eq_true c10
   clear c10
   have H' := Aside0.mk H
   clear H
   obtain ⟨hcz11_0, hcz11_1, hcz11_2, hcz11_3, hcz11_4, hcz11_5, hcz11_6, hcz11_7, hcz11_8, hcz11_9, hcz11_10, hcz11_11⟩ := bc12_ BK274.out
   obtain ⟨hfz11_0, hfz11_1, hfz11_2, hfz11_3, hfz11_4, hfz11_5, hfz11_6, hfz11_7, hfz11_8, hfz11_9, hfz11_10, hfz11_11⟩ := bf12_ BK274.out
   as_aux_lemma =>
    go_wp2
    go_meet
    case rel => exact ⟨_, (true), m39_, H', ⟨by first | omega | exact Nat.le_refl _⟩, ⟨by refine bD_ ?_; exact BK274.out⟩, ⟨m60_⟩⟩
  rw [if_neg c10] at H
  have c10b0 : decide (2147483648 < a0_1) = false := decide_eq_false c10
  clear c10
  by_cases c12 : a0_2 < 0
  ·rw [if_pos c12] at H
   have c12b0 : decide (a0_2 < 0) = true := decide_eq_true c12
   clear c12
   have H' := Aside0.mk H
   clear H
   obtain ⟨hcz13_0, hcz13_1, hcz13_2, hcz13_3, hcz13_4, hcz13_5, hcz13_6, hcz13_7, hcz13_8, hcz13_9, hcz13_10, hcz13_11⟩ := bc12_ BK274.out
   obtain ⟨hfz13_0, hfz13_1, hfz13_2, hfz13_3, hfz13_4, hfz13_5, hfz13_6, hfz13_7, hfz13_8, hfz13_9, hfz13_10, hfz13_11⟩ := bf12_ BK274.out
   as_aux_lemma =>
    go_wp2
    go_meet
    case rel => exact ⟨_, (true), m39_, H', ⟨by first | omega | exact Nat.le_refl _⟩, ⟨by refine bD_ ?_; exact BK274.out⟩, ⟨m60_⟩⟩
  rw [if_neg c12] at H
  have c12b0 : decide (a0_2 < 0) = false := decide_eq_false c12
  clear c12
  have H' := Aside0.mk H
  clear H
  obtain ⟨hcz14_0, hcz14_1, hcz14_2, hcz14_3, hcz14_4, hcz14_5, hcz14_6, hcz14_7, hcz14_8, hcz14_9, hcz14_10, hcz14_11⟩ := bc12_ BK274.out
  obtain ⟨hfz14_0, hfz14_1, hfz14_2, hfz14_3, hfz14_4, hfz14_5, hfz14_6, hfz14_7, hfz14_8, hfz14_9, hfz14_10, hfz14_11⟩ := bf12_ BK274.out
  as_aux_lemma =>
   go_wp2
   go_meet
   case rel => exact ⟨_, (decide (a0_2 > 100)), m39_, H', ⟨by first | omega | exact Nat.le_refl _⟩, ⟨by refine bD_ ?_; exact BK274.out⟩, ⟨m60_⟩⟩
 clear HC2
 obtain ⟨kq, x35_1, rfl, HA, HJ1, BK274, HB⟩ := hcut
 cases kq with
 | zero => exact absurd HA.out (by simp [strongroomref25_Fits.j0])
 | succ kj1 =>
  have H := HA.out
  clear HA
  simp only [strongroomref25_Fits.j0] at H
  by_cases c15 : x35_1 = true
  ·subst c15
   rw [if_pos rfl] at H
   obtain rfl := Option.some.inj H
   go_wp2
   go_ret
   exact ⟨by first | rfl | (simp [errW_none, errW_some] <;> rfl) | (simp [*, errW_none, errW_some] <;> rfl), m60_⟩
  replace c15 := Bool.eq_false_iff.mpr c15
  subst c15
  rw [if_neg Bool.false_ne_true] at H
  have HC16 := Aside0.mk H
  clear H
  go_upto_region 3 with (fail)
  go_cut [85] (fun v85 wc => ∃ (kq : Nat) (x85_15 : Bool), v85 = .bool x85_15 ∧ Aside0 (strongroomref25_Fits.j1 kq x85_15 a0_0 a0_1 a0_2 l0_3 a0_4 a0_5 l0_6 l0_7 a0_8 l0_9 a0_10 a0_11 = some r) ∧ Aside0 (kq ≤ kj1) ∧ Aside0 (wc.heap[gb274]? = some (.cells #[.int .i64 a0_0, .int .i64 a0_1, .int .i64 a0_2, (.slice A0_3 l0_3.length c0_3), .string a0_4, .string a0_5, (.slice A0_6 l0_6.length c0_6), (.slice A0_7 l0_7.length c0_7), .string a0_8, (.slice A0_9 l0_9.length c0_9), .int .i64 a0_10, .int .i64 a0_11] 34 (0, 0))) ∧ Aside0 (Below w.heap.size w wc))
  case first =>
   have H := HC16.out
   clear HC16
   by_cases c17 : (l0_3.length : Int) > 64
   ·rw [if_pos c17] at H
    have c17b0 : decide (64 < (l0_3.length : Int)) = true := decide_eq_true c17
    have c17b1 : decide (64 < l0_3.length) = true := decide_eq_true (by omega)
    clear c17
    (first | rw [c17b0] | (simp only [i64_w, i32_w]; rw [c17b0]) | skip)
    have H' := Aside0.mk H
    clear H
    obtain ⟨hcz18_0, hcz18_1, hcz18_2, hcz18_3, hcz18_4, hcz18_5, hcz18_6, hcz18_7, hcz18_8, hcz18_9, hcz18_10, hcz18_11⟩ := bc12_ BK274.out
    obtain ⟨hfz18_0, hfz18_1, hfz18_2, hfz18_3, hfz18_4, hfz18_5, hfz18_6, hfz18_7, hfz18_8, hfz18_9, hfz18_10, hfz18_11⟩ := bf12_ BK274.out
    as_aux_lemma =>
     go_wp2
     go_meet
     case rel => exact ⟨_, (true), m39_, H', ⟨by have := HJ1.out; first | omega | exact Nat.le_refl _⟩, ⟨by refine bD_ ?_; exact BK274.out⟩, ⟨m60_⟩⟩
   rw [if_neg c17] at H
   have c17b0 : decide (64 < (l0_3.length : Int)) = false := decide_eq_false c17
   have c17b1 : decide (64 < l0_3.length) = false := decide_eq_false (by omega)
   clear c17
   (first | rw [c17b0] | (simp only [i64_w, i32_w]; rw [c17b0]) | skip)
   by_cases c19 : (a0_4.size : Int) > 1024
   ·rw [if_pos c19] at H
    have c19b0 : decide (1024 < (a0_4.size : Int)) = true := decide_eq_true c19
    have c19b1 : decide (1024 < a0_4.size) = true := decide_eq_true (by omega)
    clear c19
    have H' := Aside0.mk H
    clear H
    obtain ⟨hcz20_0, hcz20_1, hcz20_2, hcz20_3, hcz20_4, hcz20_5, hcz20_6, hcz20_7, hcz20_8, hcz20_9, hcz20_10, hcz20_11⟩ := bc12_ BK274.out
    obtain ⟨hfz20_0, hfz20_1, hfz20_2, hfz20_3, hfz20_4, hfz20_5, hfz20_6, hfz20_7, hfz20_8, hfz20_9, hfz20_10, hfz20_11⟩ := bf12_ BK274.out
    as_aux_lemma =>
     go_wp2
     go_meet
     case rel => exact ⟨_, (true), m39_, H', ⟨by have := HJ1.out; first | omega | exact Nat.le_refl _⟩, ⟨by refine bD_ ?_; exact BK274.out⟩, ⟨m60_⟩⟩
   rw [if_neg c19] at H
   have c19b0 : decide (1024 < (a0_4.size : Int)) = false := decide_eq_false c19
   have c19b1 : decide (1024 < a0_4.size) = false := decide_eq_false (by omega)
   clear c19
   by_cases c21 : a0_5.toList = ([] : List UInt8)
   ·rw [if_pos c21] at H
    have c21b0 : (a0_5.toList == ([] : List UInt8)) = true := beq_iff_eq.mpr c21
    have c21b1 : (a0_5.toList != ([] : List UInt8)) = false := bne_eq_false_iff_eq.mpr c21
    clear c21
    by_cases c22 : (l0_6.length : Int) > 1024
    ·rw [if_pos c22] at H
     have c22b0 : decide (1024 < (l0_6.length : Int)) = true := decide_eq_true c22
     have c22b1 : decide (1024 < l0_6.length) = true := decide_eq_true (by omega)
     clear c22
     have H' := Aside0.mk H
     clear H
     obtain ⟨hcz23_0, hcz23_1, hcz23_2, hcz23_3, hcz23_4, hcz23_5, hcz23_6, hcz23_7, hcz23_8, hcz23_9, hcz23_10, hcz23_11⟩ := bc12_ BK274.out
     obtain ⟨hfz23_0, hfz23_1, hfz23_2, hfz23_3, hfz23_4, hfz23_5, hfz23_6, hfz23_7, hfz23_8, hfz23_9, hfz23_10, hfz23_11⟩ := bf12_ BK274.out
     as_aux_lemma =>
      go_wp2
      go_meet
      case rel => exact ⟨_, (true), m39_, H', ⟨by have := HJ1.out; first | omega | exact Nat.le_refl _⟩, ⟨by refine bD_ ?_; exact BK274.out⟩, ⟨m60_⟩⟩
    rw [if_neg c22] at H
    have c22b0 : decide (1024 < (l0_6.length : Int)) = false := decide_eq_false c22
    have c22b1 : decide (1024 < l0_6.length) = false := decide_eq_false (by omega)
    clear c22
    by_cases c24 : (l0_7.length : Int) > 4
    ·rw [if_pos c24] at H
     have c24b0 : decide (4 < (l0_7.length : Int)) = true := decide_eq_true c24
     have c24b1 : decide (4 < l0_7.length) = true := decide_eq_true (by omega)
     clear c24
     have H' := Aside0.mk H
     clear H
     obtain ⟨hcz25_0, hcz25_1, hcz25_2, hcz25_3, hcz25_4, hcz25_5, hcz25_6, hcz25_7, hcz25_8, hcz25_9, hcz25_10, hcz25_11⟩ := bc12_ BK274.out
     obtain ⟨hfz25_0, hfz25_1, hfz25_2, hfz25_3, hfz25_4, hfz25_5, hfz25_6, hfz25_7, hfz25_8, hfz25_9, hfz25_10, hfz25_11⟩ := bf12_ BK274.out
     as_aux_lemma =>
      go_wp2
      go_meet
      case rel => exact ⟨_, (true), m39_, H', ⟨by have := HJ1.out; first | omega | exact Nat.le_refl _⟩, ⟨by refine bD_ ?_; exact BK274.out⟩, ⟨m60_⟩⟩
    rw [if_neg c24] at H
    have c24b0 : decide (4 < (l0_7.length : Int)) = false := decide_eq_false c24
    have c24b1 : decide (4 < l0_7.length) = false := decide_eq_false (by omega)
    clear c24
    by_cases c26 : a0_8.toList = ([] : List UInt8)
    ·rw [if_pos c26] at H
     have c26b0 : (a0_8.toList == ([] : List UInt8)) = true := beq_iff_eq.mpr c26
     have c26b1 : (a0_8.toList != ([] : List UInt8)) = false := bne_eq_false_iff_eq.mpr c26
     clear c26
     have H' := Aside0.mk H
     clear H
     obtain ⟨hcz27_0, hcz27_1, hcz27_2, hcz27_3, hcz27_4, hcz27_5, hcz27_6, hcz27_7, hcz27_8, hcz27_9, hcz27_10, hcz27_11⟩ := bc12_ BK274.out
     obtain ⟨hfz27_0, hfz27_1, hfz27_2, hfz27_3, hfz27_4, hfz27_5, hfz27_6, hfz27_7, hfz27_8, hfz27_9, hfz27_10, hfz27_11⟩ := bf12_ BK274.out
     as_aux_lemma =>
      go_wp2
      go_meet
      case rel => exact ⟨_, (decide ((l0_9.length : Int) > 8)), m39_, H', ⟨by have := HJ1.out; first | omega | exact Nat.le_refl _⟩, ⟨by refine bD_ ?_; exact BK274.out⟩, ⟨m60_⟩⟩
    rw [if_neg c26] at H
    have c26b0 : (a0_8.toList == ([] : List UInt8)) = false := beq_eq_false_iff_ne.mpr c26
    have c26b1 : (a0_8.toList != ([] : List UInt8)) = true := bne_iff_ne.mpr c26
    by_cases c28 : (a0_8.size : Int) = 12
    case neg =>
     rw [if_neg c28] at H
     have c28b0 : ((a0_8.size : Int) == 12) = false := beq_eq_false_iff_ne.mpr c28
     have c28b1 : ((a0_8.size : Int) != 12) = true := bne_iff_ne.mpr c28
     have H' := Aside0.mk H
     clear H
     obtain ⟨hcz30_0, hcz30_1, hcz30_2, hcz30_3, hcz30_4, hcz30_5, hcz30_6, hcz30_7, hcz30_8, hcz30_9, hcz30_10, hcz30_11⟩ := bc12_ BK274.out
     obtain ⟨hfz30_0, hfz30_1, hfz30_2, hfz30_3, hfz30_4, hfz30_5, hfz30_6, hfz30_7, hfz30_8, hfz30_9, hfz30_10, hfz30_11⟩ := bf12_ BK274.out
     as_aux_lemma =>
      go_wp2
      go_meet
      case rel => exact ⟨_, (true), m39_, H', ⟨by have := HJ1.out; first | omega | exact Nat.le_refl _⟩, ⟨by refine bD_ ?_; exact BK274.out⟩, ⟨m60_⟩⟩
    rw [if_pos c28] at H
    have c28b0 : ((a0_8.size : Int) == 12) = true := beq_iff_eq.mpr c28
    have c28b1 : ((a0_8.size : Int) != 12) = false := bne_eq_false_iff_eq.mpr c28
    clear c28
    have H' := Aside0.mk H
    clear H
    obtain ⟨hcz29_0, hcz29_1, hcz29_2, hcz29_3, hcz29_4, hcz29_5, hcz29_6, hcz29_7, hcz29_8, hcz29_9, hcz29_10, hcz29_11⟩ := bc12_ BK274.out
    obtain ⟨hfz29_0, hfz29_1, hfz29_2, hfz29_3, hfz29_4, hfz29_5, hfz29_6, hfz29_7, hfz29_8, hfz29_9, hfz29_10, hfz29_11⟩ := bf12_ BK274.out
    as_aux_lemma =>
     go_wp2
     go_meet
     case rel => exact ⟨_, (decide ((l0_9.length : Int) > 8)), m39_, H', ⟨by have := HJ1.out; first | omega | exact Nat.le_refl _⟩, ⟨by refine bD_ ?_; exact BK274.out⟩, ⟨m60_⟩⟩
   rw [if_neg c21] at H
   have c21b0 : (a0_5.toList == ([] : List UInt8)) = false := beq_eq_false_iff_ne.mpr c21
   have c21b1 : (a0_5.toList != ([] : List UInt8)) = true := bne_iff_ne.mpr c21
   by_cases c31 : (a0_5.size : Int) = 32
   case neg =>
    rw [if_neg c31] at H
    have c31b0 : ((a0_5.size : Int) == 32) = false := beq_eq_false_iff_ne.mpr c31
    have c31b1 : ((a0_5.size : Int) != 32) = true := bne_iff_ne.mpr c31
    have H' := Aside0.mk H
    clear H
    obtain ⟨hcz41_0, hcz41_1, hcz41_2, hcz41_3, hcz41_4, hcz41_5, hcz41_6, hcz41_7, hcz41_8, hcz41_9, hcz41_10, hcz41_11⟩ := bc12_ BK274.out
    obtain ⟨hfz41_0, hfz41_1, hfz41_2, hfz41_3, hfz41_4, hfz41_5, hfz41_6, hfz41_7, hfz41_8, hfz41_9, hfz41_10, hfz41_11⟩ := bf12_ BK274.out
    as_aux_lemma =>
     go_wp2
     go_meet
     case rel => exact ⟨_, (true), m39_, H', ⟨by have := HJ1.out; first | omega | exact Nat.le_refl _⟩, ⟨by refine bD_ ?_; exact BK274.out⟩, ⟨m60_⟩⟩
   rw [if_pos c31] at H
   have c31b0 : ((a0_5.size : Int) == 32) = true := beq_iff_eq.mpr c31
   have c31b1 : ((a0_5.size : Int) != 32) = false := bne_eq_false_iff_eq.mpr c31
   clear c31
   by_cases c32 : (l0_6.length : Int) > 1024
   ·rw [if_pos c32] at H
    have c32b0 : decide (1024 < (l0_6.length : Int)) = true := decide_eq_true c32
    have c32b1 : decide (1024 < l0_6.length) = true := decide_eq_true (by omega)
    clear c32
    have H' := Aside0.mk H
    clear H
    obtain ⟨hcz33_0, hcz33_1, hcz33_2, hcz33_3, hcz33_4, hcz33_5, hcz33_6, hcz33_7, hcz33_8, hcz33_9, hcz33_10, hcz33_11⟩ := bc12_ BK274.out
    obtain ⟨hfz33_0, hfz33_1, hfz33_2, hfz33_3, hfz33_4, hfz33_5, hfz33_6, hfz33_7, hfz33_8, hfz33_9, hfz33_10, hfz33_11⟩ := bf12_ BK274.out
    as_aux_lemma =>
     go_wp2
     go_meet
     case rel => exact ⟨_, (true), m39_, H', ⟨by have := HJ1.out; first | omega | exact Nat.le_refl _⟩, ⟨by refine bD_ ?_; exact BK274.out⟩, ⟨m60_⟩⟩
   rw [if_neg c32] at H
   have c32b0 : decide (1024 < (l0_6.length : Int)) = false := decide_eq_false c32
   have c32b1 : decide (1024 < l0_6.length) = false := decide_eq_false (by omega)
   clear c32
   by_cases c34 : (l0_7.length : Int) > 4
   ·rw [if_pos c34] at H
    have c34b0 : decide (4 < (l0_7.length : Int)) = true := decide_eq_true c34
    have c34b1 : decide (4 < l0_7.length) = true := decide_eq_true (by omega)
    clear c34
    have H' := Aside0.mk H
    clear H
    obtain ⟨hcz35_0, hcz35_1, hcz35_2, hcz35_3, hcz35_4, hcz35_5, hcz35_6, hcz35_7, hcz35_8, hcz35_9, hcz35_10, hcz35_11⟩ := bc12_ BK274.out
    obtain ⟨hfz35_0, hfz35_1, hfz35_2, hfz35_3, hfz35_4, hfz35_5, hfz35_6, hfz35_7, hfz35_8, hfz35_9, hfz35_10, hfz35_11⟩ := bf12_ BK274.out
    as_aux_lemma =>
     go_wp2
     go_meet
     case rel => exact ⟨_, (true), m39_, H', ⟨by have := HJ1.out; first | omega | exact Nat.le_refl _⟩, ⟨by refine bD_ ?_; exact BK274.out⟩, ⟨m60_⟩⟩
   rw [if_neg c34] at H
   have c34b0 : decide (4 < (l0_7.length : Int)) = false := decide_eq_false c34
   have c34b1 : decide (4 < l0_7.length) = false := decide_eq_false (by omega)
   clear c34
   by_cases c36 : a0_8.toList = ([] : List UInt8)
   ·rw [if_pos c36] at H
    have c36b0 : (a0_8.toList == ([] : List UInt8)) = true := beq_iff_eq.mpr c36
    have c36b1 : (a0_8.toList != ([] : List UInt8)) = false := bne_eq_false_iff_eq.mpr c36
    clear c36
    have H' := Aside0.mk H
    clear H
    obtain ⟨hcz37_0, hcz37_1, hcz37_2, hcz37_3, hcz37_4, hcz37_5, hcz37_6, hcz37_7, hcz37_8, hcz37_9, hcz37_10, hcz37_11⟩ := bc12_ BK274.out
    obtain ⟨hfz37_0, hfz37_1, hfz37_2, hfz37_3, hfz37_4, hfz37_5, hfz37_6, hfz37_7, hfz37_8, hfz37_9, hfz37_10, hfz37_11⟩ := bf12_ BK274.out
    as_aux_lemma =>
     go_wp2
     go_meet
     case rel => exact ⟨_, (decide ((l0_9.length : Int) > 8)), m39_, H', ⟨by have := HJ1.out; first | omega | exact Nat.le_refl _⟩, ⟨by refine bD_ ?_; exact BK274.out⟩, ⟨m60_⟩⟩
   rw [if_neg c36] at H
   have c36b0 : (a0_8.toList == ([] : List UInt8)) = false := beq_eq_false_iff_ne.mpr c36
   have c36b1 : (a0_8.toList != ([] : List UInt8)) = true := bne_iff_ne.mpr c36
   by_cases c38 : (a0_8.size : Int) = 12
   case neg =>
    rw [if_neg c38] at H
    have c38b0 : ((a0_8.size : Int) == 12) = false := beq_eq_false_iff_ne.mpr c38
    have c38b1 : ((a0_8.size : Int) != 12) = true := bne_iff_ne.mpr c38
    have H' := Aside0.mk H
    clear H
    obtain ⟨hcz40_0, hcz40_1, hcz40_2, hcz40_3, hcz40_4, hcz40_5, hcz40_6, hcz40_7, hcz40_8, hcz40_9, hcz40_10, hcz40_11⟩ := bc12_ BK274.out
    obtain ⟨hfz40_0, hfz40_1, hfz40_2, hfz40_3, hfz40_4, hfz40_5, hfz40_6, hfz40_7, hfz40_8, hfz40_9, hfz40_10, hfz40_11⟩ := bf12_ BK274.out
    as_aux_lemma =>
     go_wp2
     go_meet
     case rel => exact ⟨_, (true), m39_, H', ⟨by have := HJ1.out; first | omega | exact Nat.le_refl _⟩, ⟨by refine bD_ ?_; exact BK274.out⟩, ⟨m60_⟩⟩
   rw [if_pos c38] at H
   have c38b0 : ((a0_8.size : Int) == 12) = true := beq_iff_eq.mpr c38
   have c38b1 : ((a0_8.size : Int) != 12) = false := bne_eq_false_iff_eq.mpr c38
   clear c38
   have H' := Aside0.mk H
   clear H
   obtain ⟨hcz39_0, hcz39_1, hcz39_2, hcz39_3, hcz39_4, hcz39_5, hcz39_6, hcz39_7, hcz39_8, hcz39_9, hcz39_10, hcz39_11⟩ := bc12_ BK274.out
   obtain ⟨hfz39_0, hfz39_1, hfz39_2, hfz39_3, hfz39_4, hfz39_5, hfz39_6, hfz39_7, hfz39_8, hfz39_9, hfz39_10, hfz39_11⟩ := bf12_ BK274.out
   as_aux_lemma =>
    go_wp2
    go_meet
    case rel => exact ⟨_, (decide ((l0_9.length : Int) > 8)), m39_, H', ⟨by have := HJ1.out; first | omega | exact Nat.le_refl _⟩, ⟨by refine bD_ ?_; exact BK274.out⟩, ⟨m60_⟩⟩
  clear HC16
  try clear c15
  obtain ⟨kq, x85_15, rfl, HA, HJ15, BK274, HB⟩ := hcut
  cases kq with
  | zero => exact absurd HA.out (by simp [strongroomref25_Fits.j1])
  | succ kj15 =>
   have H := HA.out
   clear HA
   simp only [strongroomref25_Fits.j1] at H
   by_cases c42 : x85_15 = true
   ·subst c42
    rw [if_pos rfl] at H
    obtain rfl := Option.some.inj H
    go_wp2
    go_ret
    exact ⟨by first | rfl | (simp [errW_none, errW_some] <;> rfl) | (simp [*, errW_none, errW_some] <;> rfl), m60_⟩
   replace c42 := Bool.eq_false_iff.mpr c42
   subst c42
   rw [if_neg Bool.false_ne_true] at H
   have H' := Aside0.mk H
   clear H
   go_wp2
   go_loopg [3] kj15 (fun kq v3 w' => ∃ (x3_3 : Int), v3 = .int .i64 x3_3 ∧ Aside0 (strongroomref25_Fits.l0 kq x3_3 a0_0 a0_1 a0_2 l0_3 a0_4 a0_5 l0_6 l0_7 a0_8 l0_9 a0_10 a0_11 = some r) ∧ Aside0 (kq ≤ kj15) ∧ Aside0 (w'.heap[gb274]? = some (.cells #[.int .i64 a0_0, .int .i64 a0_1, .int .i64 a0_2, (.slice A0_3 l0_3.length c0_3), .string a0_4, .string a0_5, (.slice A0_6 l0_6.length c0_6), (.slice A0_7 l0_7.length c0_7), .string a0_8, (.slice A0_9 l0_9.length c0_9), .int .i64 a0_10, .int .i64 a0_11] 34 (0, 0))) ∧ Aside0 (Below w.heap.size w w'))
   case atStart => exact ⟨(0), m39_, H', ⟨Nat.le_refl _⟩, ⟨by refine bD_ ?_; exact BK274.out⟩, ⟨m60_⟩⟩
   clear H'
   try clear c42
   obtain ⟨x3_3, rfl, HA, HK3, BK274, HB⟩ := hrel
   cases gk with
   | zero => exact absurd HA.out (by simp [strongroomref25_Fits.l0])
   | succ k3 =>
    have H := HA.out
    clear HA
    simp only [strongroomref25_Fits.l0] at H
    by_cases c43 : x3_3 < (l0_3.length : Int)
    ·rw [if_pos c43] at H
     have c43b0 : decide (x3_3 < (l0_3.length : Int)) = true := decide_eq_true c43
     clear c43
     by_cases c44 : 0 ≤ x3_3
     case neg =>
      rw [if_neg c44] at H
      exact absurd H (by simp)
     rw [if_pos c44] at H
     have c44b0 : decide (0 ≤ x3_3) = true := decide_eq_true c44
     clear c44
     replace H := Option.bind_eq_some_iff.mp H
     obtain ⟨t276, A450, H⟩ := H
     try dsimp only at H
     have A45 := Aside0.mk A450
     clear A450
     by_cases c46 : t276 = true
     case neg =>
      replace c46 := Bool.eq_false_iff.mpr c46
      subst c46
      rw [if_neg Bool.false_ne_true] at H
      obtain rfl := Option.some.inj H
      obtain ⟨hcz49_0, hcz49_1, hcz49_2, hcz49_3, hcz49_4, hcz49_5, hcz49_6, hcz49_7, hcz49_8, hcz49_9, hcz49_10, hcz49_11⟩ := bc12_ BK274.out
      obtain ⟨hfz49_0, hfz49_1, hfz49_2, hfz49_3, hfz49_4, hfz49_5, hfz49_6, hfz49_7, hfz49_8, hfz49_9, hfz49_10, hfz49_11⟩ := bf12_ BK274.out
      have p275 : 0 ≤ (x3_3 : Int) := of_decide_eq_true m38_
      have q275 : x3_3 < (l0_3.length : Int) := of_decide_eq_true m38_
      obtain ⟨ad275, e275, hx275_0⟩ := Kd.at_string HR0_3.out x3_3 p275 q275
      cases e275
      replace hx275_0 := (HB.out.cell (World.block_lt_of_cell? w _ hx275_0)).trans hx275_0
      replace p275 := eq_true p275
      replace q275 := eq_true q275
      go_wp2_with (first | ((with_reducible refine gate_callee (f := 34) rfl ?_); refine goesL_ (some 98) rfl rfl Tryd.func34 (by kernel_rfl) rfl #[.string (rdOf ByteArray.empty l0_3 x3_3)] rfl m14_ ?_; (with_reducible refine (strongroomref05_Good.calls k3 (rdOf ByteArray.empty l0_3 x3_3) false _ A45.out).mono ?_); rintro e w50 ⟨rfl, hb⟩; refine ⟨_, rfl, ?_⟩; replace BK274 := Aside0.mk (blk_below m24_ hb); replace HB := Aside0.mk (below_step m11_ hb); (try clear hb)))
      go_ret
      exact ⟨by first | rfl | (simp [errW_none, errW_some] <;> rfl) | (simp [*, errW_none, errW_some] <;> rfl), m60_⟩
     subst c46
     rw [if_pos rfl] at H
     have H' := Aside0.mk H
     clear H
     obtain ⟨hcz47_0, hcz47_1, hcz47_2, hcz47_3, hcz47_4, hcz47_5, hcz47_6, hcz47_7, hcz47_8, hcz47_9, hcz47_10, hcz47_11⟩ := bc12_ BK274.out
     obtain ⟨hfz47_0, hfz47_1, hfz47_2, hfz47_3, hfz47_4, hfz47_5, hfz47_6, hfz47_7, hfz47_8, hfz47_9, hfz47_10, hfz47_11⟩ := bf12_ BK274.out
     have p275 : 0 ≤ (x3_3 : Int) := of_decide_eq_true m38_
     have q275 : x3_3 < (l0_3.length : Int) := of_decide_eq_true m38_
     obtain ⟨ad275, e275, hx275_0⟩ := Kd.at_string HR0_3.out x3_3 p275 q275
     cases e275
     replace hx275_0 := (HB.out.cell (World.block_lt_of_cell? w _ hx275_0)).trans hx275_0
     replace p275 := eq_true p275
     replace q275 := eq_true q275
     go_wp2_with (first | ((with_reducible refine gate_callee (f := 34) rfl ?_); refine goesL_ (some 98) rfl rfl Tryd.func34 (by kernel_rfl) rfl #[.string (rdOf ByteArray.empty l0_3 x3_3)] rfl m14_ ?_; (with_reducible refine (strongroomref05_Good.calls k3 (rdOf ByteArray.empty l0_3 x3_3) true _ A45.out).mono ?_); rintro e w48 ⟨rfl, hb⟩; refine ⟨_, rfl, ?_⟩; replace BK274 := Aside0.mk (blk_below m24_ hb); replace HB := Aside0.mk (below_step m11_ hb); (try clear hb)))
     go_roundg k3
     case measure => have := HJ1.out; have := HJ15.out; have := HK3.out; omega
     case rel => exact ⟨(wrap64 (x3_3 + 1)), m39_, H', ⟨by have := HJ1.out; have := HJ15.out; have := HK3.out; omega⟩, ⟨by refine bD_ ?_; exact BK274.out⟩, ⟨m60_⟩⟩
    rw [if_neg c43] at H
    have c43b0 : decide (x3_3 < (l0_3.length : Int)) = false := decide_eq_false c43
    clear c43
    have H' := Aside0.mk H
    clear H
    obtain ⟨hcz51_0, hcz51_1, hcz51_2, hcz51_3, hcz51_4, hcz51_5, hcz51_6, hcz51_7, hcz51_8, hcz51_9, hcz51_10, hcz51_11⟩ := bc12_ BK274.out
    obtain ⟨hfz51_0, hfz51_1, hfz51_2, hfz51_3, hfz51_4, hfz51_5, hfz51_6, hfz51_7, hfz51_8, hfz51_9, hfz51_10, hfz51_11⟩ := bf12_ BK274.out
    go_wp2
    go_loopg [4] k3 (fun kq v4 w' => ∃ (x4_4 : Int), v4 = .int .i64 x4_4 ∧ Aside0 (strongroomref25_Fits.l1 kq x4_4 a0_0 a0_1 a0_2 l0_3 a0_4 a0_5 l0_6 l0_7 a0_8 l0_9 a0_10 a0_11 = some r) ∧ Aside0 (kq ≤ k3) ∧ Aside0 (w'.heap[gb274]? = some (.cells #[.int .i64 a0_0, .int .i64 a0_1, .int .i64 a0_2, (.slice A0_3 l0_3.length c0_3), .string a0_4, .string a0_5, (.slice A0_6 l0_6.length c0_6), (.slice A0_7 l0_7.length c0_7), .string a0_8, (.slice A0_9 l0_9.length c0_9), .int .i64 a0_10, .int .i64 a0_11] 34 (0, 0))) ∧ Aside0 (Below w.heap.size w w'))
    case atStart => exact ⟨(0), m39_, H', ⟨Nat.le_refl _⟩, ⟨by refine bD_ ?_; exact BK274.out⟩, ⟨m60_⟩⟩
    clear H'
    try clear c43b0; try clear hcz51_0; try clear hcz51_1; try clear hcz51_10; try clear hcz51_11; try clear hcz51_2; try clear hcz51_3; try clear hcz51_4; try clear hcz51_5; try clear hcz51_6; try clear hcz51_7; try clear hcz51_8; try clear hcz51_9; try clear hfz51_0; try clear hfz51_1; try clear hfz51_10; try clear hfz51_11; try clear hfz51_2; try clear hfz51_3; try clear hfz51_4; try clear hfz51_5; try clear hfz51_6; try clear hfz51_7; try clear hfz51_8; try clear hfz51_9
    obtain ⟨x4_4, rfl, HA, HK4, BK274, HB⟩ := hrel
    cases gk with
    | zero => exact absurd HA.out (by simp [strongroomref25_Fits.l1])
    | succ k4 =>
     have H := HA.out
     clear HA
     simp only [strongroomref25_Fits.l1] at H
     by_cases c52 : x4_4 < (l0_6.length : Int)
     ·rw [if_pos c52] at H
      have c52b0 : decide (x4_4 < (l0_6.length : Int)) = true := decide_eq_true c52
      clear c52
      by_cases c53 : 0 ≤ x4_4
      case neg =>
       rw [if_neg c53] at H
       exact absurd H (by simp)
      rw [if_pos c53] at H
      have c53b0 : decide (0 ≤ x4_4) = true := decide_eq_true c53
      clear c53
      by_cases c54 : (((rd_T65 l0_6 x4_4).f1).size : Int) = 16
      case neg =>
       rw [if_neg c54] at H
       have c54b0 : ((((rd_T65 l0_6 x4_4).f1).size : Int) == 16) = false := beq_eq_false_iff_ne.mpr c54
       have c54b1 : ((((rd_T65 l0_6 x4_4).f1).size : Int) != 16) = true := bne_iff_ne.mpr c54
       obtain rfl := Option.some.inj H
       obtain ⟨hcz56_0, hcz56_1, hcz56_2, hcz56_3, hcz56_4, hcz56_5, hcz56_6, hcz56_7, hcz56_8, hcz56_9, hcz56_10, hcz56_11⟩ := bc12_ BK274.out
       obtain ⟨hfz56_0, hfz56_1, hfz56_2, hfz56_3, hfz56_4, hfz56_5, hfz56_6, hfz56_7, hfz56_8, hfz56_9, hfz56_10, hfz56_11⟩ := bf12_ BK274.out
       have p277 : 0 ≤ (x4_4 : Int) := of_decide_eq_true m38_
       have q277 : x4_4 < (l0_6.length : Int) := of_decide_eq_true m38_
       obtain ⟨ad277, e277, hx277_0, hx277_1⟩ := at_T65 HR0_6.out x4_4 p277 q277
       cases e277
       replace hx277_0 := (HB.out.cell (World.block_lt_of_cell? w _ hx277_0)).trans hx277_0
       replace hx277_1 := (HB.out.cell (World.block_lt_of_cell? w _ hx277_1)).trans hx277_1
       replace p277 := eq_true p277
       replace q277 := eq_true q277
       go_wp2
       go_ret
       exact ⟨by first | rfl | (simp [errW_none, errW_some] <;> rfl) | (simp [*, errW_none, errW_some] <;> rfl), m60_⟩
      rw [if_pos c54] at H
      have c54b0 : ((((rd_T65 l0_6 x4_4).f1).size : Int) == 16) = true := beq_iff_eq.mpr c54
      have c54b1 : ((((rd_T65 l0_6 x4_4).f1).size : Int) != 16) = false := bne_eq_false_iff_eq.mpr c54
      clear c54
      have H' := Aside0.mk H
      clear H
      obtain ⟨hcz55_0, hcz55_1, hcz55_2, hcz55_3, hcz55_4, hcz55_5, hcz55_6, hcz55_7, hcz55_8, hcz55_9, hcz55_10, hcz55_11⟩ := bc12_ BK274.out
      obtain ⟨hfz55_0, hfz55_1, hfz55_2, hfz55_3, hfz55_4, hfz55_5, hfz55_6, hfz55_7, hfz55_8, hfz55_9, hfz55_10, hfz55_11⟩ := bf12_ BK274.out
      have p277 : 0 ≤ (x4_4 : Int) := of_decide_eq_true m38_
      have q277 : x4_4 < (l0_6.length : Int) := of_decide_eq_true m38_
      obtain ⟨ad277, e277, hx277_0, hx277_1⟩ := at_T65 HR0_6.out x4_4 p277 q277
      cases e277
      replace hx277_0 := (HB.out.cell (World.block_lt_of_cell? w _ hx277_0)).trans hx277_0
      replace hx277_1 := (HB.out.cell (World.block_lt_of_cell? w _ hx277_1)).trans hx277_1
      replace p277 := eq_true p277
      replace q277 := eq_true q277
      go_wp2
      go_roundg k4
      case measure => have := HJ1.out; have := HJ15.out; have := HK3.out; have := HK4.out; omega
      case rel => exact ⟨(wrap64 (x4_4 + 1)), m39_, H', ⟨by have := HJ1.out; have := HJ15.out; have := HK3.out; have := HK4.out; omega⟩, ⟨by refine bD_ ?_; exact BK274.out⟩, ⟨m60_⟩⟩
     rw [if_neg c52] at H
     have c52b0 : decide (x4_4 < (l0_6.length : Int)) = false := decide_eq_false c52
     clear c52
     have H' := Aside0.mk H
     clear H
     obtain ⟨hcz57_0, hcz57_1, hcz57_2, hcz57_3, hcz57_4, hcz57_5, hcz57_6, hcz57_7, hcz57_8, hcz57_9, hcz57_10, hcz57_11⟩ := bc12_ BK274.out
     obtain ⟨hfz57_0, hfz57_1, hfz57_2, hfz57_3, hfz57_4, hfz57_5, hfz57_6, hfz57_7, hfz57_8, hfz57_9, hfz57_10, hfz57_11⟩ := bf12_ BK274.out
     go_wp2
     go_loopg [5] k4 (fun kq v5 w' => ∃ (x5_5 : Int), v5 = .int .i64 x5_5 ∧ Aside0 (strongroomref25_Fits.l2 kq x5_5 a0_0 a0_1 a0_2 l0_3 a0_4 a0_5 l0_6 l0_7 a0_8 l0_9 a0_10 a0_11 = some r) ∧ Aside0 (kq ≤ k4) ∧ Aside0 (w'.heap[gb274]? = some (.cells #[.int .i64 a0_0, .int .i64 a0_1, .int .i64 a0_2, (.slice A0_3 l0_3.length c0_3), .string a0_4, .string a0_5, (.slice A0_6 l0_6.length c0_6), (.slice A0_7 l0_7.length c0_7), .string a0_8, (.slice A0_9 l0_9.length c0_9), .int .i64 a0_10, .int .i64 a0_11] 34 (0, 0))) ∧ Aside0 (Below w.heap.size w w'))
     case atStart => exact ⟨(0), m39_, H', ⟨Nat.le_refl _⟩, ⟨by refine bD_ ?_; exact BK274.out⟩, ⟨m60_⟩⟩
     clear H'
     try clear c52b0; try clear hcz57_0; try clear hcz57_1; try clear hcz57_10; try clear hcz57_11; try clear hcz57_2; try clear hcz57_3; try clear hcz57_4; try clear hcz57_5; try clear hcz57_6; try clear hcz57_7; try clear hcz57_8; try clear hcz57_9; try clear hfz57_0; try clear hfz57_1; try clear hfz57_10; try clear hfz57_11; try clear hfz57_2; try clear hfz57_3; try clear hfz57_4; try clear hfz57_5; try clear hfz57_6; try clear hfz57_7; try clear hfz57_8; try clear hfz57_9
     obtain ⟨x5_5, rfl, HA, HK5, BK274, HB⟩ := hrel
     cases gk with
     | zero => exact absurd HA.out (by simp [strongroomref25_Fits.l2])
     | succ k5 =>
      have H := HA.out
      clear HA
      simp only [strongroomref25_Fits.l2] at H
      by_cases c58 : x5_5 < (l0_7.length : Int)
      ·rw [if_pos c58] at H
       have c58b0 : decide (x5_5 < (l0_7.length : Int)) = true := decide_eq_true c58
       clear c58
       by_cases c59 : 0 ≤ x5_5
       case neg =>
        rw [if_neg c59] at H
        exact absurd H (by simp)
       rw [if_pos c59] at H
       have c59b0 : decide (0 ≤ x5_5) = true := decide_eq_true c59
       clear c59
       have HC60 := Aside0.mk H
       clear H
       obtain ⟨hcz61_0, hcz61_1, hcz61_2, hcz61_3, hcz61_4, hcz61_5, hcz61_6, hcz61_7, hcz61_8, hcz61_9, hcz61_10, hcz61_11⟩ := bc12_ BK274.out
       obtain ⟨hfz61_0, hfz61_1, hfz61_2, hfz61_3, hfz61_4, hfz61_5, hfz61_6, hfz61_7, hfz61_8, hfz61_9, hfz61_10, hfz61_11⟩ := bf12_ BK274.out
       have p278 : 0 ≤ (x5_5 : Int) := of_decide_eq_true m38_
       have q278 : x5_5 < (l0_7.length : Int) := of_decide_eq_true m38_
       obtain ⟨ad278, e278, hx278_0, hx278_1⟩ := at_T74 HR0_7.out x5_5 p278 q278
       cases e278
       replace hx278_0 := (HB.out.cell (World.block_lt_of_cell? w _ hx278_0)).trans hx278_0
       replace hx278_1 := (HB.out.cell (World.block_lt_of_cell? w _ hx278_1)).trans hx278_1
       replace p278 := eq_true p278
       replace q278 := eq_true q278
       go_upto_region 19 with (first | ((with_reducible refine gate_dst (N := 6) rfl ?_); (try (refine gate_guard (by rfl) ?_; dsimp only)); refine box_event ?hg (N := 6) ?hd (cs := #[.int .i64 0, .int .i64 0]) (t := 74) ?hr ?_; (case hd => rfl); (case hg => rfl); (case hr => first | (go_simp; done) | (go_simp; rfl)); intro gb279 hg w62 hbox hb; have BK279 := Aside0.mk (hbox); have GW279 := Aside0.mk ((by rw [hg]; exact (below_size m11_) : w.heap.size ≤ gb279)); have GE279 := Aside0.mk ((by rw [hg]; exact (below_size m11_) : w.heap.size ≤ gb279)); replace HB := Aside0.mk (below_step m11_ hb); have NB274_279 := Aside0.mk ((by rw [hg]; exact Nat.ne_of_lt (blk_lt (g := gb274) (o := .cells #[.int .i64 a0_0, .int .i64 a0_1, .int .i64 a0_2, .slice A0_3 l0_3.length c0_3, .string a0_4, .string a0_5, .slice A0_6 l0_6.length c0_6, .slice (some ad278) l0_7.length c0_7, .string a0_8, .slice A0_9 l0_9.length c0_9, .int .i64 a0_10, .int .i64 a0_11] 34 (0, 0)) m24_) : gb274 ≠ gb279)); have NB279_274 := Aside0.mk ((by rw [hg]; exact Nat.ne_of_gt (blk_lt (g := gb274) (o := .cells #[.int .i64 a0_0, .int .i64 a0_1, .int .i64 a0_2, .slice A0_3 l0_3.length c0_3, .string a0_4, .string a0_5, .slice A0_6 l0_6.length c0_6, .slice (some ad278) l0_7.length c0_7, .string a0_8, .slice A0_9 l0_9.length c0_9, .int .i64 a0_10, .int .i64 a0_11] 34 (0, 0)) m24_) : gb279 ≠ gb274)); replace BK274 := Aside0.mk (blk_below m24_ hb); clear hb hbox hg; have hnb63 := NB279_274.out; have hnc63 := NB274_279.out; obtain ⟨hcz64_0, hcz64_1⟩ := bc2_ BK279.out; obtain ⟨hfz64_0, hfz64_1⟩ := bf2_ BK279.out))
       (try simp only [Act.put, List.setIfInBounds_toArray, List.set_cons_zero, List.set_cons_succ])
       go_cut [144] (fun v144 wc => ∃ (kq : Nat) (x144_59 : Bool), v144 = .bool x144_59 ∧ Aside0 (strongroomref25_Fits.j5 kq x5_5 x144_59 a0_0 a0_1 a0_2 l0_3 a0_4 a0_5 l0_6 l0_7 a0_8 l0_9 a0_10 a0_11 = some r) ∧ Aside0 (kq ≤ k5) ∧ Aside0 (wc.heap[gb274]? = some (.cells #[.int .i64 a0_0, .int .i64 a0_1, .int .i64 a0_2, (.slice A0_3 l0_3.length c0_3), .string a0_4, .string a0_5, (.slice A0_6 l0_6.length c0_6), (.slice (some ad278) l0_7.length c0_7), .string a0_8, (.slice A0_9 l0_9.length c0_9), .int .i64 a0_10, .int .i64 a0_11] 34 (0, 0))) ∧ Aside0 (wc.heap[gb279]? = some (.cells #[.int .i64 ((rd_T74 l0_7 x5_5).f0), .int .i64 ((rd_T74 l0_7 x5_5).f1)] 74 (0, 0))) ∧ Aside0 (Below w.heap.size w wc))
       case first =>
        have H := HC60.out
        clear HC60
        by_cases c65 : ((rd_T74 l0_7 x5_5).f0) < 0
        ·rw [if_pos c65] at H
         have c65b0 : decide (((rd_T74 l0_7 x5_5).f0) < 0) = true := decide_eq_true c65
         clear c65
         (first | rw [c65b0] | (simp only [i64_w, i32_w]; rw [c65b0]) | skip)
         have H' := Aside0.mk H
         clear H
         have hnb66 := NB279_274.out
         have hnc66 := NB274_279.out
         obtain ⟨hcz67_0, hcz67_1⟩ := bc2_ BK279.out
         obtain ⟨hfz67_0, hfz67_1⟩ := bf2_ BK279.out
         as_aux_lemma =>
          go_wp2
          go_meet
          case rel => exact ⟨_, (true), m39_, H', ⟨by have := HJ1.out; have := HJ15.out; have := HK3.out; have := HK4.out; have := HK5.out; first | omega | exact Nat.le_refl _⟩, ⟨by refine bD_ ?_; refine blk_far ?_ NB274_279.out _; refine bD_ ?_; refine blk_far ?_ NB274_279.out _; refine bD_ ?_; exact BK274.out⟩, ⟨by refine bD_ ?_; refine blk_put (cs := #[.int .i64 ((rd_T74 l0_7 x5_5).f0), .int .i64 0]) ?_ 1 _ rfl; refine bD_ ?_; refine blk_put (cs := #[.int .i64 0, .int .i64 0]) ?_ 0 _ rfl; refine bD_ ?_; exact BK279.out⟩, ⟨m44_⟩⟩
        rw [if_neg c65] at H
        have c65b0 : decide (((rd_T74 l0_7 x5_5).f0) < 0) = false := decide_eq_false c65
        clear c65
        (first | rw [c65b0] | (simp only [i64_w, i32_w]; rw [c65b0]) | skip)
        by_cases c68 : ((rd_T74 l0_7 x5_5).f0) > 128
        ·rw [if_pos c68] at H
         have c68b0 : decide (128 < ((rd_T74 l0_7 x5_5).f0)) = true := decide_eq_true c68
         clear c68
         have H' := Aside0.mk H
         clear H
         have hnb69 := NB279_274.out
         have hnc69 := NB274_279.out
         obtain ⟨hcz70_0, hcz70_1⟩ := bc2_ BK279.out
         obtain ⟨hfz70_0, hfz70_1⟩ := bf2_ BK279.out
         as_aux_lemma =>
          go_wp2
          go_meet
          case rel => exact ⟨_, (true), m39_, H', ⟨by have := HJ1.out; have := HJ15.out; have := HK3.out; have := HK4.out; have := HK5.out; first | omega | exact Nat.le_refl _⟩, ⟨by refine bD_ ?_; refine blk_far ?_ NB274_279.out _; refine bD_ ?_; refine blk_far ?_ NB274_279.out _; refine bD_ ?_; exact BK274.out⟩, ⟨by refine bD_ ?_; refine blk_put (cs := #[.int .i64 ((rd_T74 l0_7 x5_5).f0), .int .i64 0]) ?_ 1 _ rfl; refine bD_ ?_; refine blk_put (cs := #[.int .i64 0, .int .i64 0]) ?_ 0 _ rfl; refine bD_ ?_; exact BK279.out⟩, ⟨m44_⟩⟩
        rw [if_neg c68] at H
        have c68b0 : decide (128 < ((rd_T74 l0_7 x5_5).f0)) = false := decide_eq_false c68
        clear c68
        by_cases c71 : ((rd_T74 l0_7 x5_5).f1) < 0
        ·rw [if_pos c71] at H
         have c71b0 : decide (((rd_T74 l0_7 x5_5).f1) < 0) = true := decide_eq_true c71
         clear c71
         have H' := Aside0.mk H
         clear H
         have hnb72 := NB279_274.out
         have hnc72 := NB274_279.out
         obtain ⟨hcz73_0, hcz73_1⟩ := bc2_ BK279.out
         obtain ⟨hfz73_0, hfz73_1⟩ := bf2_ BK279.out
         as_aux_lemma =>
          go_wp2
          go_meet
          case rel => exact ⟨_, (true), m39_, H', ⟨by have := HJ1.out; have := HJ15.out; have := HK3.out; have := HK4.out; have := HK5.out; first | omega | exact Nat.le_refl _⟩, ⟨by refine bD_ ?_; refine blk_far ?_ NB274_279.out _; refine bD_ ?_; refine blk_far ?_ NB274_279.out _; refine bD_ ?_; exact BK274.out⟩, ⟨by refine bD_ ?_; refine blk_put (cs := #[.int .i64 ((rd_T74 l0_7 x5_5).f0), .int .i64 0]) ?_ 1 _ rfl; refine bD_ ?_; refine blk_put (cs := #[.int .i64 0, .int .i64 0]) ?_ 0 _ rfl; refine bD_ ?_; exact BK279.out⟩, ⟨m44_⟩⟩
        rw [if_neg c71] at H
        have c71b0 : decide (((rd_T74 l0_7 x5_5).f1) < 0) = false := decide_eq_false c71
        clear c71
        have H' := Aside0.mk H
        clear H
        have hnb74 := NB279_274.out
        have hnc74 := NB274_279.out
        obtain ⟨hcz75_0, hcz75_1⟩ := bc2_ BK279.out
        obtain ⟨hfz75_0, hfz75_1⟩ := bf2_ BK279.out
        as_aux_lemma =>
         go_wp2
         go_meet
         case rel => exact ⟨_, (decide (((rd_T74 l0_7 x5_5).f1) > 128)), m39_, H', ⟨by have := HJ1.out; have := HJ15.out; have := HK3.out; have := HK4.out; have := HK5.out; first | omega | exact Nat.le_refl _⟩, ⟨by refine bD_ ?_; refine blk_far ?_ NB274_279.out _; refine bD_ ?_; refine blk_far ?_ NB274_279.out _; refine bD_ ?_; exact BK274.out⟩, ⟨by refine bD_ ?_; refine blk_put (cs := #[.int .i64 ((rd_T74 l0_7 x5_5).f0), .int .i64 0]) ?_ 1 _ rfl; refine bD_ ?_; refine blk_put (cs := #[.int .i64 0, .int .i64 0]) ?_ 0 _ rfl; refine bD_ ?_; exact BK279.out⟩, ⟨m44_⟩⟩
       clear HC60
       try clear c58b0; try clear c59b0; try clear hcz61_0; try clear hcz61_1; try clear hcz61_10; try clear hcz61_11; try clear hcz61_2; try clear hcz61_3; try clear hcz61_4; try clear hcz61_5; try clear hcz61_6; try clear hcz61_7; try clear hcz61_8; try clear hcz61_9; try clear hcz64_0; try clear hcz64_1; try clear hfz61_0; try clear hfz61_1; try clear hfz61_10; try clear hfz61_11; try clear hfz61_2; try clear hfz61_3; try clear hfz61_4; try clear hfz61_5; try clear hfz61_6; try clear hfz61_7; try clear hfz61_8; try clear hfz61_9; try clear hfz64_0; try clear hfz64_1; try clear hx278_0; try clear hx278_1; try clear p278; try clear q278
       obtain ⟨kq, x144_59, rfl, HA, HJ59, BK274, BK279, HB⟩ := hcut
       cases kq with
       | zero => exact absurd HA.out (by simp [strongroomref25_Fits.j5])
       | succ kj59 =>
        have H := HA.out
        clear HA
        simp only [strongroomref25_Fits.j5] at H
        by_cases c76 : x144_59 = true
        ·subst c76
         rw [if_pos rfl] at H
         obtain rfl := Option.some.inj H
         go_wp2
         go_ret
         exact ⟨by first | rfl | (simp [errW_none, errW_some] <;> rfl) | (simp [*, errW_none, errW_some] <;> rfl), m44_⟩
        replace c76 := Bool.eq_false_iff.mpr c76
        subst c76
        rw [if_neg Bool.false_ne_true] at H
        have H' := Aside0.mk H
        clear H
        go_wp2
        go_roundg kj59
        case measure => have := HJ1.out; have := HJ15.out; have := HK3.out; have := HK4.out; have := HK5.out; have := HJ59.out; omega
        case rel => exact ⟨(wrap64 (x5_5 + 1)), m39_, H', ⟨by have := HJ1.out; have := HJ15.out; have := HK3.out; have := HK4.out; have := HK5.out; have := HJ59.out; omega⟩, ⟨by refine bD_ ?_; exact BK274.out⟩, ⟨m44_⟩⟩
      rw [if_neg c58] at H
      have c58b0 : decide (x5_5 < (l0_7.length : Int)) = false := decide_eq_false c58
      clear c58
      have H' := Aside0.mk H
      clear H
      obtain ⟨hcz77_0, hcz77_1, hcz77_2, hcz77_3, hcz77_4, hcz77_5, hcz77_6, hcz77_7, hcz77_8, hcz77_9, hcz77_10, hcz77_11⟩ := bc12_ BK274.out
      obtain ⟨hfz77_0, hfz77_1, hfz77_2, hfz77_3, hfz77_4, hfz77_5, hfz77_6, hfz77_7, hfz77_8, hfz77_9, hfz77_10, hfz77_11⟩ := bf12_ BK274.out
      go_wp2
      go_loopg [7] k5 (fun kq v7 w' => ∃ (x7_6 : Int), v7 = .int .i64 x7_6 ∧ Aside0 (strongroomref25_Fits.l3 kq x7_6 a0_0 a0_1 a0_2 l0_3 a0_4 a0_5 l0_6 l0_7 a0_8 l0_9 a0_10 a0_11 = some r) ∧ Aside0 (kq ≤ k5) ∧ Aside0 (w'.heap[gb274]? = some (.cells #[.int .i64 a0_0, .int .i64 a0_1, .int .i64 a0_2, (.slice A0_3 l0_3.length c0_3), .string a0_4, .string a0_5, (.slice A0_6 l0_6.length c0_6), (.slice A0_7 l0_7.length c0_7), .string a0_8, (.slice A0_9 l0_9.length c0_9), .int .i64 a0_10, .int .i64 a0_11] 34 (0, 0))) ∧ Aside0 (Below w.heap.size w w'))
      case atStart => exact ⟨(0), m39_, H', ⟨Nat.le_refl _⟩, ⟨by refine bD_ ?_; exact BK274.out⟩, ⟨m60_⟩⟩
      clear H'
      try clear c58b0; try clear hcz77_0; try clear hcz77_1; try clear hcz77_10; try clear hcz77_11; try clear hcz77_2; try clear hcz77_3; try clear hcz77_4; try clear hcz77_5; try clear hcz77_6; try clear hcz77_7; try clear hcz77_8; try clear hcz77_9; try clear hfz77_0; try clear hfz77_1; try clear hfz77_10; try clear hfz77_11; try clear hfz77_2; try clear hfz77_3; try clear hfz77_4; try clear hfz77_5; try clear hfz77_6; try clear hfz77_7; try clear hfz77_8; try clear hfz77_9
      obtain ⟨x7_6, rfl, HA, HK6, BK274, HB⟩ := hrel
      cases gk with
      | zero => exact absurd HA.out (by simp [strongroomref25_Fits.l3])
      | succ k6 =>
       have H := HA.out
       clear HA
       simp only [strongroomref25_Fits.l3] at H
       by_cases c78 : x7_6 < (l0_9.length : Int)
       case neg =>
        rw [if_neg c78] at H
        have c78b0 : decide (x7_6 < (l0_9.length : Int)) = false := decide_eq_false c78
        clear c78
        by_cases c86 : a0_10 ≥ 0
        case neg =>
         rw [if_neg c86] at H
         have c86b0 : decide (0 ≤ a0_10) = false := decide_eq_false c86
         clear c86
         obtain rfl := Option.some.inj H
         obtain ⟨hcz92_0, hcz92_1, hcz92_2, hcz92_3, hcz92_4, hcz92_5, hcz92_6, hcz92_7, hcz92_8, hcz92_9, hcz92_10, hcz92_11⟩ := bc12_ BK274.out
         obtain ⟨hfz92_0, hfz92_1, hfz92_2, hfz92_3, hfz92_4, hfz92_5, hfz92_6, hfz92_7, hfz92_8, hfz92_9, hfz92_10, hfz92_11⟩ := bf12_ BK274.out
         go_wp2
         go_ret
         exact ⟨by first | rfl | (simp [errW_none, errW_some] <;> rfl) | (simp [*, errW_none, errW_some] <;> rfl), m60_⟩
        rw [if_pos c86] at H
        have c86b0 : decide (0 ≤ a0_10) = true := decide_eq_true c86
        clear c86
        by_cases c87 : a0_10 ≤ 2097152
        case neg =>
         rw [if_neg c87] at H
         have c87b0 : decide (a0_10 ≤ 2097152) = false := decide_eq_false c87
         clear c87
         obtain rfl := Option.some.inj H
         obtain ⟨hcz91_0, hcz91_1, hcz91_2, hcz91_3, hcz91_4, hcz91_5, hcz91_6, hcz91_7, hcz91_8, hcz91_9, hcz91_10, hcz91_11⟩ := bc12_ BK274.out
         obtain ⟨hfz91_0, hfz91_1, hfz91_2, hfz91_3, hfz91_4, hfz91_5, hfz91_6, hfz91_7, hfz91_8, hfz91_9, hfz91_10, hfz91_11⟩ := bf12_ BK274.out
         go_wp2
         go_ret
         exact ⟨by first | rfl | (simp [errW_none, errW_some] <;> rfl) | (simp [*, errW_none, errW_some] <;> rfl), m60_⟩
        rw [if_pos c87] at H
        have c87b0 : decide (a0_10 ≤ 2097152) = true := decide_eq_true c87
        clear c87
        by_cases c88 : a0_11 ≥ 0
        ·rw [if_pos c88] at H
         have c88b0 : decide (0 ≤ a0_11) = true := decide_eq_true c88
         clear c88
         obtain rfl := Option.some.inj H
         obtain ⟨hcz89_0, hcz89_1, hcz89_2, hcz89_3, hcz89_4, hcz89_5, hcz89_6, hcz89_7, hcz89_8, hcz89_9, hcz89_10, hcz89_11⟩ := bc12_ BK274.out
         obtain ⟨hfz89_0, hfz89_1, hfz89_2, hfz89_3, hfz89_4, hfz89_5, hfz89_6, hfz89_7, hfz89_8, hfz89_9, hfz89_10, hfz89_11⟩ := bf12_ BK274.out
         go_wp2
         go_ret
         exact ⟨by first | rfl | (simp [errW_none, errW_some] <;> rfl) | (simp [*, errW_none, errW_some] <;> rfl), m60_⟩
        rw [if_neg c88] at H
        have c88b0 : decide (0 ≤ a0_11) = false := decide_eq_false c88
        clear c88
        obtain rfl := Option.some.inj H
        obtain ⟨hcz90_0, hcz90_1, hcz90_2, hcz90_3, hcz90_4, hcz90_5, hcz90_6, hcz90_7, hcz90_8, hcz90_9, hcz90_10, hcz90_11⟩ := bc12_ BK274.out
        obtain ⟨hfz90_0, hfz90_1, hfz90_2, hfz90_3, hfz90_4, hfz90_5, hfz90_6, hfz90_7, hfz90_8, hfz90_9, hfz90_10, hfz90_11⟩ := bf12_ BK274.out
        go_wp2
        go_ret
        exact ⟨by first | rfl | (simp [errW_none, errW_some] <;> rfl) | (simp [*, errW_none, errW_some] <;> rfl), m60_⟩
       rw [if_pos c78] at H
       have c78b0 : decide (x7_6 < (l0_9.length : Int)) = true := decide_eq_true c78
       clear c78
       by_cases c79 : 0 ≤ x7_6
       case neg =>
        rw [if_neg c79] at H
        exact absurd H (by simp)
       rw [if_pos c79] at H
       have c79b0 : decide (0 ≤ x7_6) = true := decide_eq_true c79
       clear c79
       replace H := Option.bind_eq_some_iff.mp H
       obtain ⟨t281, A800, H⟩ := H
       try dsimp only at H
       have A80 := Aside0.mk A800
       clear A800
       by_cases c81 : t281 = true
       case neg =>
        replace c81 := Bool.eq_false_iff.mpr c81
        subst c81
        rw [if_neg Bool.false_ne_true] at H
        obtain rfl := Option.some.inj H
        obtain ⟨hcz84_0, hcz84_1, hcz84_2, hcz84_3, hcz84_4, hcz84_5, hcz84_6, hcz84_7, hcz84_8, hcz84_9, hcz84_10, hcz84_11⟩ := bc12_ BK274.out
        obtain ⟨hfz84_0, hfz84_1, hfz84_2, hfz84_3, hfz84_4, hfz84_5, hfz84_6, hfz84_7, hfz84_8, hfz84_9, hfz84_10, hfz84_11⟩ := bf12_ BK274.out
        have p280 : 0 ≤ (x7_6 : Int) := of_decide_eq_true m38_
        have q280 : x7_6 < (l0_9.length : Int) := of_decide_eq_true m38_
        obtain ⟨ad280, e280, hx280_0, hx280_1, hx280_2, hx280_3, hx280_4⟩ := at_T67 HR0_9.out x7_6 p280 q280
        cases e280
        replace hx280_0 := (HB.out.cell (World.block_lt_of_cell? w _ hx280_0)).trans hx280_0
        replace hx280_1 := (HB.out.cell (World.block_lt_of_cell? w _ hx280_1)).trans hx280_1
        replace hx280_2 := (HB.out.cell (World.block_lt_of_cell? w _ hx280_2)).trans hx280_2
        replace hx280_3 := (HB.out.cell (World.block_lt_of_cell? w _ hx280_3)).trans hx280_3
        replace hx280_4 := (HB.out.cell (World.block_lt_of_cell? w _ hx280_4)).trans hx280_4
        replace p280 := eq_true p280
        replace q280 := eq_true q280
        go_wp2_with (first | ((with_reducible refine gate_callee (f := 35) rfl ?_); refine goesL_ (some 157) rfl rfl Tryd.func35 (by kernel_rfl) rfl #[.agg #[.int .i64 ((rd_T67 l0_9 x7_6).f0), .int .i64 ((rd_T67 l0_9 x7_6).f1), .int .i64 ((rd_T67 l0_9 x7_6).f2), .string ((rd_T67 l0_9 x7_6).f3), .int .i64 ((rd_T67 l0_9 x7_6).f4)]] rfl m14_ ?_; (with_reducible refine (strongroomref13_Good.calls k6 ((rd_T67 l0_9 x7_6).f0) ((rd_T67 l0_9 x7_6).f1) ((rd_T67 l0_9 x7_6).f2) ((rd_T67 l0_9 x7_6).f3) ((rd_T67 l0_9 x7_6).f4) false _ A80.out).mono ?_); rintro e w85 ⟨rfl, hb⟩; refine ⟨_, rfl, ?_⟩; replace BK274 := Aside0.mk (blk_below m24_ hb); replace HB := Aside0.mk (below_step m11_ hb); (try clear hb)))
        go_ret
        exact ⟨by first | rfl | (simp [errW_none, errW_some] <;> rfl) | (simp [*, errW_none, errW_some] <;> rfl), m60_⟩
       subst c81
       rw [if_pos rfl] at H
       have H' := Aside0.mk H
       clear H
       obtain ⟨hcz82_0, hcz82_1, hcz82_2, hcz82_3, hcz82_4, hcz82_5, hcz82_6, hcz82_7, hcz82_8, hcz82_9, hcz82_10, hcz82_11⟩ := bc12_ BK274.out
       obtain ⟨hfz82_0, hfz82_1, hfz82_2, hfz82_3, hfz82_4, hfz82_5, hfz82_6, hfz82_7, hfz82_8, hfz82_9, hfz82_10, hfz82_11⟩ := bf12_ BK274.out
       have p280 : 0 ≤ (x7_6 : Int) := of_decide_eq_true m38_
       have q280 : x7_6 < (l0_9.length : Int) := of_decide_eq_true m38_
       obtain ⟨ad280, e280, hx280_0, hx280_1, hx280_2, hx280_3, hx280_4⟩ := at_T67 HR0_9.out x7_6 p280 q280
       cases e280
       replace hx280_0 := (HB.out.cell (World.block_lt_of_cell? w _ hx280_0)).trans hx280_0
       replace hx280_1 := (HB.out.cell (World.block_lt_of_cell? w _ hx280_1)).trans hx280_1
       replace hx280_2 := (HB.out.cell (World.block_lt_of_cell? w _ hx280_2)).trans hx280_2
       replace hx280_3 := (HB.out.cell (World.block_lt_of_cell? w _ hx280_3)).trans hx280_3
       replace hx280_4 := (HB.out.cell (World.block_lt_of_cell? w _ hx280_4)).trans hx280_4
       replace p280 := eq_true p280
       replace q280 := eq_true q280
       go_wp2_with (first | ((with_reducible refine gate_callee (f := 35) rfl ?_); refine goesL_ (some 157) rfl rfl Tryd.func35 (by kernel_rfl) rfl #[.agg #[.int .i64 ((rd_T67 l0_9 x7_6).f0), .int .i64 ((rd_T67 l0_9 x7_6).f1), .int .i64 ((rd_T67 l0_9 x7_6).f2), .string ((rd_T67 l0_9 x7_6).f3), .int .i64 ((rd_T67 l0_9 x7_6).f4)]] rfl m14_ ?_; (with_reducible refine (strongroomref13_Good.calls k6 ((rd_T67 l0_9 x7_6).f0) ((rd_T67 l0_9 x7_6).f1) ((rd_T67 l0_9 x7_6).f2) ((rd_T67 l0_9 x7_6).f3) ((rd_T67 l0_9 x7_6).f4) true _ A80.out).mono ?_); rintro e w83 ⟨rfl, hb⟩; refine ⟨_, rfl, ?_⟩; replace BK274 := Aside0.mk (blk_below m24_ hb); replace HB := Aside0.mk (below_step m11_ hb); (try clear hb)))
       go_roundg k6
       case measure => have := HJ1.out; have := HJ15.out; have := HK3.out; have := HK4.out; have := HK5.out; have := HK6.out; omega
       case rel => exact ⟨(wrap64 (x7_6 + 1)), m39_, H', ⟨by have := HJ1.out; have := HJ15.out; have := HK3.out; have := HK4.out; have := HK5.out; have := HK6.out; omega⟩, ⟨by refine bD_ ?_; exact BK274.out⟩, ⟨m60_⟩⟩

end Go.Proofs.YtoankokkdmbjmaaDoorH.HFrameReplies
