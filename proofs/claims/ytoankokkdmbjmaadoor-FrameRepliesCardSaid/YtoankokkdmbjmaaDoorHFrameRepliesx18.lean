-- PRINTED by print.py (a twelfth state) out of the translation. Not trusted: Lean checks it.
import Derived.Test.YtoankokkdmbjmaaDoorHFrameRepliesx0
import Derived.Test.YtoankokkdmbjmaaDoorHFrameRepliesx1
import Derived.Test.YtoankokkdmbjmaaDoorHFrameRepliesx2
import Derived.Test.YtoankokkdmbjmaaDoorHFrameRepliesx3
import Derived.Test.YtoankokkdmbjmaaDoorHFrameRepliesx17
namespace Go.Proofs.YtoankokkdmbjmaaDoorH.HFrameReplies
open Go.RowKit Go.Proofs.YtoankokkdmbjmaaDoorW.PrintWords Go.Proofs.YtoankokkdmbjmaaDoorW.PrintLast Go.Proofs.YtoankokkdmbjmaaDoorW.PrintMore
attribute [local go_sem] max2_int min2_int max_two min_two max_three min_three max_four min_four   -- for this text's walks alone
set_option linter.unusedVariables false
set_option linter.unusedSimpArgs false

attribute [local go_sem high] eqA65 eqA67 eqA74
/-! ### strongroomref25_SameReplies: function 18 -/
mutual
def strongroomref25_SameReplies.j0 : Nat → Bool → Int → Int → Int → List ByteArray → ByteArray → ByteArray → List (S65) → List (S74) → ByteArray → List (S67) → Int → Int → Int → Int → Int → List ByteArray → ByteArray → ByteArray → List (S65) → List (S74) → ByteArray → List (S67) → Int → Int → Option (Bool)
 | 0, _, _, _, _, _, _, _, _, _, _, _, _, _, _, _, _, _, _, _, _, _, _, _, _, _ => none
 | k + 1, x69, x429000, x429001, x429002, x429003, x429004, x429005, x429006, x429007, x429008, x429009, x429010, x429011, x430000, x430001, x430002, x430003, x430004, x430005, x430006, x430007, x430008, x430009, x430010, x430011 => if x69 = true then (some false) else (if (x429006.length : Int) = (x430006.length : Int) then (if (x429007.length : Int) = (x430007.length : Int) then (strongroomref25_SameReplies.j1 k ((x429009.length : Int) != (x430009.length : Int)) x429000 x429001 x429002 x429003 x429004 x429005 x429006 x429007 x429008 x429009 x429010 x429011 x430000 x430001 x430002 x430003 x430004 x430005 x430006 x430007 x430008 x430009 x430010 x430011) else (strongroomref25_SameReplies.j1 k true x429000 x429001 x429002 x429003 x429004 x429005 x429006 x429007 x429008 x429009 x429010 x429011 x430000 x430001 x430002 x430003 x430004 x430005 x430006 x430007 x430008 x430009 x430010 x430011)) else (strongroomref25_SameReplies.j1 k true x429000 x429001 x429002 x429003 x429004 x429005 x429006 x429007 x429008 x429009 x429010 x429011 x430000 x430001 x430002 x430003 x430004 x430005 x430006 x430007 x430008 x430009 x430010 x430011))
def strongroomref25_SameReplies.j1 : Nat → Bool → Int → Int → Int → List ByteArray → ByteArray → ByteArray → List (S65) → List (S74) → ByteArray → List (S67) → Int → Int → Int → Int → Int → List ByteArray → ByteArray → ByteArray → List (S65) → List (S74) → ByteArray → List (S67) → Int → Int → Option (Bool)
 | 0, _, _, _, _, _, _, _, _, _, _, _, _, _, _, _, _, _, _, _, _, _, _, _, _, _ => none
 | k + 1, x94, x429000, x429001, x429002, x429003, x429004, x429005, x429006, x429007, x429008, x429009, x429010, x429011, x430000, x430001, x430002, x430003, x430004, x430005, x430006, x430007, x430008, x430009, x430010, x430011 => if x94 = true then (some false) else (strongroomref25_SameReplies.l0 k 0 x429000 x429001 x429002 x429003 x429004 x429005 x429006 x429007 x429008 x429009 x429010 x429011 x430000 x430001 x430002 x430003 x430004 x430005 x430006 x430007 x430008 x430009 x430010 x430011)
def strongroomref25_SameReplies.l0 : Nat → Int → Int → Int → Int → List ByteArray → ByteArray → ByteArray → List (S65) → List (S74) → ByteArray → List (S67) → Int → Int → Int → Int → Int → List ByteArray → ByteArray → ByteArray → List (S65) → List (S74) → ByteArray → List (S67) → Int → Int → Option (Bool)
 | 0, _, _, _, _, _, _, _, _, _, _, _, _, _, _, _, _, _, _, _, _, _, _, _, _, _ => none
 | k + 1, x5, x429000, x429001, x429002, x429003, x429004, x429005, x429006, x429007, x429008, x429009, x429010, x429011, x430000, x430001, x430002, x430003, x430004, x430005, x430006, x430007, x430008, x430009, x430010, x430011 => if x5 < (x429006.length : Int) then (if 0 ≤ x5 then (if x5 < (x430006.length : Int) then (if (!(((rd_T65 x429006 x5).f0) == ((rd_T65 x430006 x5).f0)) || (!((((rd_T65 x429006 x5).f1).toList) == (((rd_T65 x430006 x5).f1).toList)))) = true then (some false) else (strongroomref25_SameReplies.l0 k (wrap64 (x5 + 1)) x429000 x429001 x429002 x429003 x429004 x429005 x429006 x429007 x429008 x429009 x429010 x429011 x430000 x430001 x430002 x430003 x430004 x430005 x430006 x430007 x430008 x430009 x430010 x430011)) else (none)) else (none)) else (strongroomref25_SameReplies.l1 k 0 x429000 x429001 x429002 x429003 x429004 x429005 x429006 x429007 x429008 x429009 x429010 x429011 x430000 x430001 x430002 x430003 x430004 x430005 x430006 x430007 x430008 x430009 x430010 x430011)
def strongroomref25_SameReplies.l1 : Nat → Int → Int → Int → Int → List ByteArray → ByteArray → ByteArray → List (S65) → List (S74) → ByteArray → List (S67) → Int → Int → Int → Int → Int → List ByteArray → ByteArray → ByteArray → List (S65) → List (S74) → ByteArray → List (S67) → Int → Int → Option (Bool)
 | 0, _, _, _, _, _, _, _, _, _, _, _, _, _, _, _, _, _, _, _, _, _, _, _, _, _ => none
 | k + 1, x6, x429000, x429001, x429002, x429003, x429004, x429005, x429006, x429007, x429008, x429009, x429010, x429011, x430000, x430001, x430002, x430003, x430004, x430005, x430006, x430007, x430008, x430009, x430010, x430011 => if x6 < (x429007.length : Int) then (if 0 ≤ x6 then (if x6 < (x430007.length : Int) then (if (!(((rd_T74 x429007 x6).f0) == ((rd_T74 x430007 x6).f0)) || (!(((rd_T74 x429007 x6).f1) == ((rd_T74 x430007 x6).f1)))) = true then (some false) else (strongroomref25_SameReplies.l1 k (wrap64 (x6 + 1)) x429000 x429001 x429002 x429003 x429004 x429005 x429006 x429007 x429008 x429009 x429010 x429011 x430000 x430001 x430002 x430003 x430004 x430005 x430006 x430007 x430008 x430009 x430010 x430011)) else (none)) else (none)) else (strongroomref25_SameReplies.l2 k 0 x429000 x429001 x429002 x429003 x429004 x429005 x429006 x429007 x429008 x429009 x429010 x429011 x430000 x430001 x430002 x430003 x430004 x430005 x430006 x430007 x430008 x430009 x430010 x430011)
def strongroomref25_SameReplies.l2 : Nat → Int → Int → Int → Int → List ByteArray → ByteArray → ByteArray → List (S65) → List (S74) → ByteArray → List (S67) → Int → Int → Int → Int → Int → List ByteArray → ByteArray → ByteArray → List (S65) → List (S74) → ByteArray → List (S67) → Int → Int → Option (Bool)
 | 0, _, _, _, _, _, _, _, _, _, _, _, _, _, _, _, _, _, _, _, _, _, _, _, _, _ => none
 | k + 1, x7, x429000, x429001, x429002, x429003, x429004, x429005, x429006, x429007, x429008, x429009, x429010, x429011, x430000, x430001, x430002, x430003, x430004, x430005, x430006, x430007, x430008, x430009, x430010, x430011 => if x7 < (x429009.length : Int) then (if 0 ≤ x7 then (if x7 < (x430009.length : Int) then (if (!(((rd_T67 x429009 x7).f0) == ((rd_T67 x430009 x7).f0)) || (!(((rd_T67 x429009 x7).f1) == ((rd_T67 x430009 x7).f1)) || (!(((rd_T67 x429009 x7).f2) == ((rd_T67 x430009 x7).f2)) || (!((((rd_T67 x429009 x7).f3).toList) == (((rd_T67 x430009 x7).f3).toList)) || (!(((rd_T67 x429009 x7).f4) == ((rd_T67 x430009 x7).f4))))))) = true then (some false) else (strongroomref25_SameReplies.l2 k (wrap64 (x7 + 1)) x429000 x429001 x429002 x429003 x429004 x429005 x429006 x429007 x429008 x429009 x429010 x429011 x430000 x430001 x430002 x430003 x430004 x430005 x430006 x430007 x430008 x430009 x430010 x430011)) else (none)) else (none)) else (some true)
end
def strongroomref25_SameReplies.f (k : Nat) (a0_0 : Int) (a0_1 : Int) (a0_2 : Int) (l0_3 : List ByteArray) (a0_4 : ByteArray) (a0_5 : ByteArray) (l0_6 : List (S65)) (l0_7 : List (S74)) (a0_8 : ByteArray) (l0_9 : List (S67)) (a0_10 : Int) (a0_11 : Int) (a1_0 : Int) (a1_1 : Int) (a1_2 : Int) (l1_3 : List ByteArray) (a1_4 : ByteArray) (a1_5 : ByteArray) (l1_6 : List (S65)) (l1_7 : List (S74)) (a1_8 : ByteArray) (l1_9 : List (S67)) (a1_10 : Int) (a1_11 : Int) : Option (Bool) := if a0_0 = a1_0 then (if a0_1 = a1_1 then (if a0_2 = a1_2 then (if a0_4.toList = a1_4.toList then (if a0_5.toList = a1_5.toList then (if a0_8.toList = a1_8.toList then (if a0_10 = a1_10 then (if a0_11 = a1_11 then ((strongroomref05_Same.f k l0_3 l1_3).bind fun t430 => (strongroomref25_SameReplies.j0 k (!t430) a0_0 a0_1 a0_2 l0_3 a0_4 a0_5 l0_6 l0_7 a0_8 l0_9 a0_10 a0_11 a1_0 a1_1 a1_2 l1_3 a1_4 a1_5 l1_6 l1_7 a1_8 l1_9 a1_10 a1_11)) else (strongroomref25_SameReplies.j0 k true a0_0 a0_1 a0_2 l0_3 a0_4 a0_5 l0_6 l0_7 a0_8 l0_9 a0_10 a0_11 a1_0 a1_1 a1_2 l1_3 a1_4 a1_5 l1_6 l1_7 a1_8 l1_9 a1_10 a1_11)) else (strongroomref25_SameReplies.j0 k true a0_0 a0_1 a0_2 l0_3 a0_4 a0_5 l0_6 l0_7 a0_8 l0_9 a0_10 a0_11 a1_0 a1_1 a1_2 l1_3 a1_4 a1_5 l1_6 l1_7 a1_8 l1_9 a1_10 a1_11)) else (strongroomref25_SameReplies.j0 k true a0_0 a0_1 a0_2 l0_3 a0_4 a0_5 l0_6 l0_7 a0_8 l0_9 a0_10 a0_11 a1_0 a1_1 a1_2 l1_3 a1_4 a1_5 l1_6 l1_7 a1_8 l1_9 a1_10 a1_11)) else (strongroomref25_SameReplies.j0 k true a0_0 a0_1 a0_2 l0_3 a0_4 a0_5 l0_6 l0_7 a0_8 l0_9 a0_10 a0_11 a1_0 a1_1 a1_2 l1_3 a1_4 a1_5 l1_6 l1_7 a1_8 l1_9 a1_10 a1_11)) else (strongroomref25_SameReplies.j0 k true a0_0 a0_1 a0_2 l0_3 a0_4 a0_5 l0_6 l0_7 a0_8 l0_9 a0_10 a0_11 a1_0 a1_1 a1_2 l1_3 a1_4 a1_5 l1_6 l1_7 a1_8 l1_9 a1_10 a1_11)) else (strongroomref25_SameReplies.j0 k true a0_0 a0_1 a0_2 l0_3 a0_4 a0_5 l0_6 l0_7 a0_8 l0_9 a0_10 a0_11 a1_0 a1_1 a1_2 l1_3 a1_4 a1_5 l1_6 l1_7 a1_8 l1_9 a1_10 a1_11)) else (strongroomref25_SameReplies.j0 k true a0_0 a0_1 a0_2 l0_3 a0_4 a0_5 l0_6 l0_7 a0_8 l0_9 a0_10 a0_11 a1_0 a1_1 a1_2 l1_3 a1_4 a1_5 l1_6 l1_7 a1_8 l1_9 a1_10 a1_11)) else (strongroomref25_SameReplies.j0 k true a0_0 a0_1 a0_2 l0_3 a0_4 a0_5 l0_6 l0_7 a0_8 l0_9 a0_10 a0_11 a1_0 a1_1 a1_2 l1_3 a1_4 a1_5 l1_6 l1_7 a1_8 l1_9 a1_10 a1_11)
theorem strongroomref25_SameReplies.mono_l : ∀ k, (∀ y0 y1 y2 y3 y4 y5 y6 y7 y8 y9 y10 y11 y12 y13 y14 y15 y16 y17 y18 y19 y20 y21 y22 y23 y24, LeO (strongroomref25_SameReplies.j0 k y0 y1 y2 y3 y4 y5 y6 y7 y8 y9 y10 y11 y12 y13 y14 y15 y16 y17 y18 y19 y20 y21 y22 y23 y24) (strongroomref25_SameReplies.j0 (k + 1) y0 y1 y2 y3 y4 y5 y6 y7 y8 y9 y10 y11 y12 y13 y14 y15 y16 y17 y18 y19 y20 y21 y22 y23 y24)) ∧ (∀ y0 y1 y2 y3 y4 y5 y6 y7 y8 y9 y10 y11 y12 y13 y14 y15 y16 y17 y18 y19 y20 y21 y22 y23 y24, LeO (strongroomref25_SameReplies.j1 k y0 y1 y2 y3 y4 y5 y6 y7 y8 y9 y10 y11 y12 y13 y14 y15 y16 y17 y18 y19 y20 y21 y22 y23 y24) (strongroomref25_SameReplies.j1 (k + 1) y0 y1 y2 y3 y4 y5 y6 y7 y8 y9 y10 y11 y12 y13 y14 y15 y16 y17 y18 y19 y20 y21 y22 y23 y24)) ∧ (∀ y0 y1 y2 y3 y4 y5 y6 y7 y8 y9 y10 y11 y12 y13 y14 y15 y16 y17 y18 y19 y20 y21 y22 y23 y24, LeO (strongroomref25_SameReplies.l0 k y0 y1 y2 y3 y4 y5 y6 y7 y8 y9 y10 y11 y12 y13 y14 y15 y16 y17 y18 y19 y20 y21 y22 y23 y24) (strongroomref25_SameReplies.l0 (k + 1) y0 y1 y2 y3 y4 y5 y6 y7 y8 y9 y10 y11 y12 y13 y14 y15 y16 y17 y18 y19 y20 y21 y22 y23 y24)) ∧ (∀ y0 y1 y2 y3 y4 y5 y6 y7 y8 y9 y10 y11 y12 y13 y14 y15 y16 y17 y18 y19 y20 y21 y22 y23 y24, LeO (strongroomref25_SameReplies.l1 k y0 y1 y2 y3 y4 y5 y6 y7 y8 y9 y10 y11 y12 y13 y14 y15 y16 y17 y18 y19 y20 y21 y22 y23 y24) (strongroomref25_SameReplies.l1 (k + 1) y0 y1 y2 y3 y4 y5 y6 y7 y8 y9 y10 y11 y12 y13 y14 y15 y16 y17 y18 y19 y20 y21 y22 y23 y24)) ∧ (∀ y0 y1 y2 y3 y4 y5 y6 y7 y8 y9 y10 y11 y12 y13 y14 y15 y16 y17 y18 y19 y20 y21 y22 y23 y24, LeO (strongroomref25_SameReplies.l2 k y0 y1 y2 y3 y4 y5 y6 y7 y8 y9 y10 y11 y12 y13 y14 y15 y16 y17 y18 y19 y20 y21 y22 y23 y24) (strongroomref25_SameReplies.l2 (k + 1) y0 y1 y2 y3 y4 y5 y6 y7 y8 y9 y10 y11 y12 y13 y14 y15 y16 y17 y18 y19 y20 y21 y22 y23 y24))
 | 0 => ⟨fun _ _ _ _ _ _ _ _ _ _ _ _ _ _ _ _ _ _ _ _ _ _ _ _ _ r h => by simp [strongroomref25_SameReplies.j0] at h, fun _ _ _ _ _ _ _ _ _ _ _ _ _ _ _ _ _ _ _ _ _ _ _ _ _ r h => by simp [strongroomref25_SameReplies.j1] at h, fun _ _ _ _ _ _ _ _ _ _ _ _ _ _ _ _ _ _ _ _ _ _ _ _ _ r h => by simp [strongroomref25_SameReplies.l0] at h, fun _ _ _ _ _ _ _ _ _ _ _ _ _ _ _ _ _ _ _ _ _ _ _ _ _ r h => by simp [strongroomref25_SameReplies.l1] at h, fun _ _ _ _ _ _ _ _ _ _ _ _ _ _ _ _ _ _ _ _ _ _ _ _ _ r h => by simp [strongroomref25_SameReplies.l2] at h⟩
 | k + 1 => by
  obtain ⟨ih0, ih1, ih2, ih3, ih4⟩ := strongroomref25_SameReplies.mono_l k
  refine ⟨?_, ?_, ?_, ?_, ?_⟩
  ·intro y0 y1 y2 y3 y4 y5 y6 y7 y8 y9 y10 y11 y12 y13 y14 y15 y16 y17 y18 y19 y20 y21 y22 y23 y24
   unfold strongroomref25_SameReplies.j0
   repeat' first
   | (with_reducible exact ih0 _ _ _ _ _ _ _ _ _ _ _ _ _ _ _ _ _ _ _ _ _ _ _ _ _)
   | (with_reducible exact ih1 _ _ _ _ _ _ _ _ _ _ _ _ _ _ _ _ _ _ _ _ _ _ _ _ _)
   | (with_reducible exact ih2 _ _ _ _ _ _ _ _ _ _ _ _ _ _ _ _ _ _ _ _ _ _ _ _ _)
   | (with_reducible exact ih3 _ _ _ _ _ _ _ _ _ _ _ _ _ _ _ _ _ _ _ _ _ _ _ _ _)
   | (with_reducible exact ih4 _ _ _ _ _ _ _ _ _ _ _ _ _ _ _ _ _ _ _ _ _ _ _ _ _)
   | (with_reducible exact strongroomref05_Same.mono _ _ _)
   | (with_reducible exact LeO.refl _)
   | (with_reducible exact LeO.none _)
   | (with_reducible refine LeO.ite ?_ ?_)
   | (with_reducible refine LeO.bind ?_ (fun _ => ?_))
   | exact ih0 _ _ _ _ _ _ _ _ _ _ _ _ _ _ _ _ _ _ _ _ _ _ _ _ _
   | exact ih1 _ _ _ _ _ _ _ _ _ _ _ _ _ _ _ _ _ _ _ _ _ _ _ _ _
   | exact ih2 _ _ _ _ _ _ _ _ _ _ _ _ _ _ _ _ _ _ _ _ _ _ _ _ _
   | exact ih3 _ _ _ _ _ _ _ _ _ _ _ _ _ _ _ _ _ _ _ _ _ _ _ _ _
   | exact ih4 _ _ _ _ _ _ _ _ _ _ _ _ _ _ _ _ _ _ _ _ _ _ _ _ _
   | exact strongroomref05_Same.mono _ _ _
   | exact LeO.none _
   | refine LeO.ite ?_ ?_
   | refine LeO.bind ?_ (fun _ => ?_)
  ·intro y0 y1 y2 y3 y4 y5 y6 y7 y8 y9 y10 y11 y12 y13 y14 y15 y16 y17 y18 y19 y20 y21 y22 y23 y24
   unfold strongroomref25_SameReplies.j1
   repeat' first
   | (with_reducible exact ih0 _ _ _ _ _ _ _ _ _ _ _ _ _ _ _ _ _ _ _ _ _ _ _ _ _)
   | (with_reducible exact ih1 _ _ _ _ _ _ _ _ _ _ _ _ _ _ _ _ _ _ _ _ _ _ _ _ _)
   | (with_reducible exact ih2 _ _ _ _ _ _ _ _ _ _ _ _ _ _ _ _ _ _ _ _ _ _ _ _ _)
   | (with_reducible exact ih3 _ _ _ _ _ _ _ _ _ _ _ _ _ _ _ _ _ _ _ _ _ _ _ _ _)
   | (with_reducible exact ih4 _ _ _ _ _ _ _ _ _ _ _ _ _ _ _ _ _ _ _ _ _ _ _ _ _)
   | (with_reducible exact strongroomref05_Same.mono _ _ _)
   | (with_reducible exact LeO.refl _)
   | (with_reducible exact LeO.none _)
   | (with_reducible refine LeO.ite ?_ ?_)
   | (with_reducible refine LeO.bind ?_ (fun _ => ?_))
   | exact ih0 _ _ _ _ _ _ _ _ _ _ _ _ _ _ _ _ _ _ _ _ _ _ _ _ _
   | exact ih1 _ _ _ _ _ _ _ _ _ _ _ _ _ _ _ _ _ _ _ _ _ _ _ _ _
   | exact ih2 _ _ _ _ _ _ _ _ _ _ _ _ _ _ _ _ _ _ _ _ _ _ _ _ _
   | exact ih3 _ _ _ _ _ _ _ _ _ _ _ _ _ _ _ _ _ _ _ _ _ _ _ _ _
   | exact ih4 _ _ _ _ _ _ _ _ _ _ _ _ _ _ _ _ _ _ _ _ _ _ _ _ _
   | exact strongroomref05_Same.mono _ _ _
   | exact LeO.none _
   | refine LeO.ite ?_ ?_
   | refine LeO.bind ?_ (fun _ => ?_)
  ·intro y0 y1 y2 y3 y4 y5 y6 y7 y8 y9 y10 y11 y12 y13 y14 y15 y16 y17 y18 y19 y20 y21 y22 y23 y24
   unfold strongroomref25_SameReplies.l0
   repeat' first
   | (with_reducible exact ih0 _ _ _ _ _ _ _ _ _ _ _ _ _ _ _ _ _ _ _ _ _ _ _ _ _)
   | (with_reducible exact ih1 _ _ _ _ _ _ _ _ _ _ _ _ _ _ _ _ _ _ _ _ _ _ _ _ _)
   | (with_reducible exact ih2 _ _ _ _ _ _ _ _ _ _ _ _ _ _ _ _ _ _ _ _ _ _ _ _ _)
   | (with_reducible exact ih3 _ _ _ _ _ _ _ _ _ _ _ _ _ _ _ _ _ _ _ _ _ _ _ _ _)
   | (with_reducible exact ih4 _ _ _ _ _ _ _ _ _ _ _ _ _ _ _ _ _ _ _ _ _ _ _ _ _)
   | (with_reducible exact strongroomref05_Same.mono _ _ _)
   | (with_reducible exact LeO.refl _)
   | (with_reducible exact LeO.none _)
   | (with_reducible refine LeO.ite ?_ ?_)
   | (with_reducible refine LeO.bind ?_ (fun _ => ?_))
   | exact ih0 _ _ _ _ _ _ _ _ _ _ _ _ _ _ _ _ _ _ _ _ _ _ _ _ _
   | exact ih1 _ _ _ _ _ _ _ _ _ _ _ _ _ _ _ _ _ _ _ _ _ _ _ _ _
   | exact ih2 _ _ _ _ _ _ _ _ _ _ _ _ _ _ _ _ _ _ _ _ _ _ _ _ _
   | exact ih3 _ _ _ _ _ _ _ _ _ _ _ _ _ _ _ _ _ _ _ _ _ _ _ _ _
   | exact ih4 _ _ _ _ _ _ _ _ _ _ _ _ _ _ _ _ _ _ _ _ _ _ _ _ _
   | exact strongroomref05_Same.mono _ _ _
   | exact LeO.none _
   | refine LeO.ite ?_ ?_
   | refine LeO.bind ?_ (fun _ => ?_)
  ·intro y0 y1 y2 y3 y4 y5 y6 y7 y8 y9 y10 y11 y12 y13 y14 y15 y16 y17 y18 y19 y20 y21 y22 y23 y24
   unfold strongroomref25_SameReplies.l1
   repeat' first
   | (with_reducible exact ih0 _ _ _ _ _ _ _ _ _ _ _ _ _ _ _ _ _ _ _ _ _ _ _ _ _)
   | (with_reducible exact ih1 _ _ _ _ _ _ _ _ _ _ _ _ _ _ _ _ _ _ _ _ _ _ _ _ _)
   | (with_reducible exact ih2 _ _ _ _ _ _ _ _ _ _ _ _ _ _ _ _ _ _ _ _ _ _ _ _ _)
   | (with_reducible exact ih3 _ _ _ _ _ _ _ _ _ _ _ _ _ _ _ _ _ _ _ _ _ _ _ _ _)
   | (with_reducible exact ih4 _ _ _ _ _ _ _ _ _ _ _ _ _ _ _ _ _ _ _ _ _ _ _ _ _)
   | (with_reducible exact strongroomref05_Same.mono _ _ _)
   | (with_reducible exact LeO.refl _)
   | (with_reducible exact LeO.none _)
   | (with_reducible refine LeO.ite ?_ ?_)
   | (with_reducible refine LeO.bind ?_ (fun _ => ?_))
   | exact ih0 _ _ _ _ _ _ _ _ _ _ _ _ _ _ _ _ _ _ _ _ _ _ _ _ _
   | exact ih1 _ _ _ _ _ _ _ _ _ _ _ _ _ _ _ _ _ _ _ _ _ _ _ _ _
   | exact ih2 _ _ _ _ _ _ _ _ _ _ _ _ _ _ _ _ _ _ _ _ _ _ _ _ _
   | exact ih3 _ _ _ _ _ _ _ _ _ _ _ _ _ _ _ _ _ _ _ _ _ _ _ _ _
   | exact ih4 _ _ _ _ _ _ _ _ _ _ _ _ _ _ _ _ _ _ _ _ _ _ _ _ _
   | exact strongroomref05_Same.mono _ _ _
   | exact LeO.none _
   | refine LeO.ite ?_ ?_
   | refine LeO.bind ?_ (fun _ => ?_)
  ·intro y0 y1 y2 y3 y4 y5 y6 y7 y8 y9 y10 y11 y12 y13 y14 y15 y16 y17 y18 y19 y20 y21 y22 y23 y24
   unfold strongroomref25_SameReplies.l2
   repeat' first
   | (with_reducible exact ih0 _ _ _ _ _ _ _ _ _ _ _ _ _ _ _ _ _ _ _ _ _ _ _ _ _)
   | (with_reducible exact ih1 _ _ _ _ _ _ _ _ _ _ _ _ _ _ _ _ _ _ _ _ _ _ _ _ _)
   | (with_reducible exact ih2 _ _ _ _ _ _ _ _ _ _ _ _ _ _ _ _ _ _ _ _ _ _ _ _ _)
   | (with_reducible exact ih3 _ _ _ _ _ _ _ _ _ _ _ _ _ _ _ _ _ _ _ _ _ _ _ _ _)
   | (with_reducible exact ih4 _ _ _ _ _ _ _ _ _ _ _ _ _ _ _ _ _ _ _ _ _ _ _ _ _)
   | (with_reducible exact strongroomref05_Same.mono _ _ _)
   | (with_reducible exact LeO.refl _)
   | (with_reducible exact LeO.none _)
   | (with_reducible refine LeO.ite ?_ ?_)
   | (with_reducible refine LeO.bind ?_ (fun _ => ?_))
   | exact ih0 _ _ _ _ _ _ _ _ _ _ _ _ _ _ _ _ _ _ _ _ _ _ _ _ _
   | exact ih1 _ _ _ _ _ _ _ _ _ _ _ _ _ _ _ _ _ _ _ _ _ _ _ _ _
   | exact ih2 _ _ _ _ _ _ _ _ _ _ _ _ _ _ _ _ _ _ _ _ _ _ _ _ _
   | exact ih3 _ _ _ _ _ _ _ _ _ _ _ _ _ _ _ _ _ _ _ _ _ _ _ _ _
   | exact ih4 _ _ _ _ _ _ _ _ _ _ _ _ _ _ _ _ _ _ _ _ _ _ _ _ _
   | exact strongroomref05_Same.mono _ _ _
   | exact LeO.none _
   | refine LeO.ite ?_ ?_
   | refine LeO.bind ?_ (fun _ => ?_)
theorem strongroomref25_SameReplies.mono : ∀ a0 a1 a2 a3 a4 a5 a6 a7 a8 a9 a10 a11 a12 a13 a14 a15 a16 a17 a18 a19 a20 a21 a22 a23 k, LeO (strongroomref25_SameReplies.f k a0 a1 a2 a3 a4 a5 a6 a7 a8 a9 a10 a11 a12 a13 a14 a15 a16 a17 a18 a19 a20 a21 a22 a23) (strongroomref25_SameReplies.f (k + 1) a0 a1 a2 a3 a4 a5 a6 a7 a8 a9 a10 a11 a12 a13 a14 a15 a16 a17 a18 a19 a20 a21 a22 a23) := by
 intro a0 a1 a2 a3 a4 a5 a6 a7 a8 a9 a10 a11 a12 a13 a14 a15 a16 a17 a18 a19 a20 a21 a22 a23 k
 obtain ⟨ih0, ih1, ih2, ih3, ih4⟩ := strongroomref25_SameReplies.mono_l k
 unfold strongroomref25_SameReplies.f
 repeat' first
   | (with_reducible exact ih0 _ _ _ _ _ _ _ _ _ _ _ _ _ _ _ _ _ _ _ _ _ _ _ _ _)
   | (with_reducible exact ih1 _ _ _ _ _ _ _ _ _ _ _ _ _ _ _ _ _ _ _ _ _ _ _ _ _)
   | (with_reducible exact ih2 _ _ _ _ _ _ _ _ _ _ _ _ _ _ _ _ _ _ _ _ _ _ _ _ _)
   | (with_reducible exact ih3 _ _ _ _ _ _ _ _ _ _ _ _ _ _ _ _ _ _ _ _ _ _ _ _ _)
   | (with_reducible exact ih4 _ _ _ _ _ _ _ _ _ _ _ _ _ _ _ _ _ _ _ _ _ _ _ _ _)
   | (with_reducible exact strongroomref05_Same.mono _ _ _)
   | (with_reducible exact LeO.refl _)
   | (with_reducible exact LeO.none _)
   | (with_reducible refine LeO.ite ?_ ?_)
   | (with_reducible refine LeO.bind ?_ (fun _ => ?_))
   | exact ih0 _ _ _ _ _ _ _ _ _ _ _ _ _ _ _ _ _ _ _ _ _ _ _ _ _
   | exact ih1 _ _ _ _ _ _ _ _ _ _ _ _ _ _ _ _ _ _ _ _ _ _ _ _ _
   | exact ih2 _ _ _ _ _ _ _ _ _ _ _ _ _ _ _ _ _ _ _ _ _ _ _ _ _
   | exact ih3 _ _ _ _ _ _ _ _ _ _ _ _ _ _ _ _ _ _ _ _ _ _ _ _ _
   | exact ih4 _ _ _ _ _ _ _ _ _ _ _ _ _ _ _ _ _ _ _ _ _ _ _ _ _
   | exact strongroomref05_Same.mono _ _ _
   | exact LeO.none _
   | refine LeO.ite ?_ ?_
   | refine LeO.bind ?_ (fun _ => ?_)
set_option maxHeartbeats 8000000 in
set_option maxRecDepth 100000 in
theorem strongroomref25_SameReplies.calls (k : Nat) (a0_0 : Int) (a0_1 : Int) (a0_2 : Int) (A0_3 : Option Addr) (c0_3 : Nat) (l0_3 : List ByteArray) (a0_4 : ByteArray) (a0_5 : ByteArray) (A0_6 : Option Addr) (c0_6 : Nat) (l0_6 : List (S65)) (A0_7 : Option Addr) (c0_7 : Nat) (l0_7 : List (S74)) (a0_8 : ByteArray) (A0_9 : Option Addr) (c0_9 : Nat) (l0_9 : List (S67)) (a0_10 : Int) (a0_11 : Int) (a1_0 : Int) (a1_1 : Int) (a1_2 : Int) (A1_3 : Option Addr) (c1_3 : Nat) (l1_3 : List ByteArray) (a1_4 : ByteArray) (a1_5 : ByteArray) (A1_6 : Option Addr) (c1_6 : Nat) (l1_6 : List (S65)) (A1_7 : Option Addr) (c1_7 : Nat) (l1_7 : List (S74)) (a1_8 : ByteArray) (A1_9 : Option Addr) (c1_9 : Nat) (l1_9 : List (S67)) (a1_10 : Int) (a1_11 : Int) (r : Bool) (w : World) (hr0_3 : Kd.C Kd.string w A0_3 l0_3.length l0_3) (hc0_3 : l0_3.length ≤ c0_3) (hr0_6 : Kd.C k65 w A0_6 l0_6.length l0_6) (hc0_6 : l0_6.length ≤ c0_6) (hr0_7 : Kd.C k74 w A0_7 l0_7.length l0_7) (hc0_7 : l0_7.length ≤ c0_7) (hr0_9 : Kd.C k67 w A0_9 l0_9.length l0_9) (hc0_9 : l0_9.length ≤ c0_9) (hr1_3 : Kd.C Kd.string w A1_3 l1_3.length l1_3) (hc1_3 : l1_3.length ≤ c1_3) (hr1_6 : Kd.C k65 w A1_6 l1_6.length l1_6) (hc1_6 : l1_6.length ≤ c1_6) (hr1_7 : Kd.C k74 w A1_7 l1_7.length l1_7) (hc1_7 : l1_7.length ≤ c1_7) (hr1_9 : Kd.C k67 w A1_9 l1_9.length l1_9) (hc1_9 : l1_9.length ≤ c1_9) (h : strongroomref25_SameReplies.f k a0_0 a0_1 a0_2 l0_3 a0_4 a0_5 l0_6 l0_7 a0_8 l0_9 a0_10 a0_11 a1_0 a1_1 a1_2 l1_3 a1_4 a1_5 l1_6 l1_7 a1_8 l1_9 a1_10 a1_11 = some r) :
  Calls Tryd.prog 18 #[.agg #[.int .i64 a0_0, .int .i64 a0_1, .int .i64 a0_2, .slice A0_3 l0_3.length c0_3, .string a0_4, .string a0_5, .slice A0_6 l0_6.length c0_6, .slice A0_7 l0_7.length c0_7, .string a0_8, .slice A0_9 l0_9.length c0_9, .int .i64 a0_10, .int .i64 a0_11], .agg #[.int .i64 a1_0, .int .i64 a1_1, .int .i64 a1_2, .slice A1_3 l1_3.length c1_3, .string a1_4, .string a1_5, .slice A1_6 l1_6.length c1_6, .slice A1_7 l1_7.length c1_7, .string a1_8, .slice A1_9 l1_9.length c1_9, .int .i64 a1_10, .int .i64 a1_11]] w fun e w' => e = .returned (.bool r) ∧ Below w.heap.size w w' := by
 have hu34 := Tryd.underlying34
 have hu65 := Tryd.underlying65
 have hu74 := Tryd.underlying74
 have hu67 := Tryd.underlying67
 have HR0_3 := Aside0.mk hr0_3
 have HC0_3 := Aside0.mk hc0_3
 clear hr0_3 hc0_3
 have HR0_6 := Aside0.mk hr0_6
 have HC0_6 := Aside0.mk hc0_6
 clear hr0_6 hc0_6
 have HR0_7 := Aside0.mk hr0_7
 have HC0_7 := Aside0.mk hc0_7
 clear hr0_7 hc0_7
 have HR0_9 := Aside0.mk hr0_9
 have HC0_9 := Aside0.mk hc0_9
 clear hr0_9 hc0_9
 have HR1_3 := Aside0.mk hr1_3
 have HC1_3 := Aside0.mk hc1_3
 clear hr1_3 hc1_3
 have HR1_6 := Aside0.mk hr1_6
 have HC1_6 := Aside0.mk hc1_6
 clear hr1_6 hc1_6
 have HR1_7 := Aside0.mk hr1_7
 have HC1_7 := Aside0.mk hc1_7
 clear hr1_7 hc1_7
 have HR1_9 := Aside0.mk hr1_9
 have HC1_9 := Aside0.mk hc1_9
 clear hr1_9 hc1_9
 have HB := Aside0.mk (Below.refl w.heap.size w)
 have H : (if a0_0 = a1_0 then (if a0_1 = a1_1 then (if a0_2 = a1_2 then (if a0_4.toList = a1_4.toList then (if a0_5.toList = a1_5.toList then (if a0_8.toList = a1_8.toList then (if a0_10 = a1_10 then (if a0_11 = a1_11 then ((strongroomref05_Same.f k l0_3 l1_3).bind fun t430 => (strongroomref25_SameReplies.j0 k (!t430) a0_0 a0_1 a0_2 l0_3 a0_4 a0_5 l0_6 l0_7 a0_8 l0_9 a0_10 a0_11 a1_0 a1_1 a1_2 l1_3 a1_4 a1_5 l1_6 l1_7 a1_8 l1_9 a1_10 a1_11)) else (strongroomref25_SameReplies.j0 k true a0_0 a0_1 a0_2 l0_3 a0_4 a0_5 l0_6 l0_7 a0_8 l0_9 a0_10 a0_11 a1_0 a1_1 a1_2 l1_3 a1_4 a1_5 l1_6 l1_7 a1_8 l1_9 a1_10 a1_11)) else (strongroomref25_SameReplies.j0 k true a0_0 a0_1 a0_2 l0_3 a0_4 a0_5 l0_6 l0_7 a0_8 l0_9 a0_10 a0_11 a1_0 a1_1 a1_2 l1_3 a1_4 a1_5 l1_6 l1_7 a1_8 l1_9 a1_10 a1_11)) else (strongroomref25_SameReplies.j0 k true a0_0 a0_1 a0_2 l0_3 a0_4 a0_5 l0_6 l0_7 a0_8 l0_9 a0_10 a0_11 a1_0 a1_1 a1_2 l1_3 a1_4 a1_5 l1_6 l1_7 a1_8 l1_9 a1_10 a1_11)) else (strongroomref25_SameReplies.j0 k true a0_0 a0_1 a0_2 l0_3 a0_4 a0_5 l0_6 l0_7 a0_8 l0_9 a0_10 a0_11 a1_0 a1_1 a1_2 l1_3 a1_4 a1_5 l1_6 l1_7 a1_8 l1_9 a1_10 a1_11)) else (strongroomref25_SameReplies.j0 k true a0_0 a0_1 a0_2 l0_3 a0_4 a0_5 l0_6 l0_7 a0_8 l0_9 a0_10 a0_11 a1_0 a1_1 a1_2 l1_3 a1_4 a1_5 l1_6 l1_7 a1_8 l1_9 a1_10 a1_11)) else (strongroomref25_SameReplies.j0 k true a0_0 a0_1 a0_2 l0_3 a0_4 a0_5 l0_6 l0_7 a0_8 l0_9 a0_10 a0_11 a1_0 a1_1 a1_2 l1_3 a1_4 a1_5 l1_6 l1_7 a1_8 l1_9 a1_10 a1_11)) else (strongroomref25_SameReplies.j0 k true a0_0 a0_1 a0_2 l0_3 a0_4 a0_5 l0_6 l0_7 a0_8 l0_9 a0_10 a0_11 a1_0 a1_1 a1_2 l1_3 a1_4 a1_5 l1_6 l1_7 a1_8 l1_9 a1_10 a1_11)) else (strongroomref25_SameReplies.j0 k true a0_0 a0_1 a0_2 l0_3 a0_4 a0_5 l0_6 l0_7 a0_8 l0_9 a0_10 a0_11 a1_0 a1_1 a1_2 l1_3 a1_4 a1_5 l1_6 l1_7 a1_8 l1_9 a1_10 a1_11)) = some r := h
 clear h
 have HC3 := Aside0.mk H
 clear H
 go_enter Tryd.func18, Tryd.ntmps18
 go_upto_region 1 with (first | ((with_reducible refine gate_dst (N := 2) rfl ?_); (try (refine gate_guard (by rfl) ?_; dsimp only)); refine box_event ?hg (N := 2) ?hd (cs := #[.int .i64 a0_0, .int .i64 a0_1, .int .i64 a0_2, .slice A0_3 l0_3.length c0_3, .string a0_4, .string a0_5, .slice A0_6 l0_6.length c0_6, .slice A0_7 l0_7.length c0_7, .string a0_8, .slice A0_9 l0_9.length c0_9, .int .i64 a0_10, .int .i64 a0_11]) (t := 34) ?hr ?_; (case hd => rfl); (case hg => rfl); (case hr => first | (go_simp; done) | (go_simp; rfl)); intro gb428 hg w4 hbox hb; have BK428 := Aside0.mk (hbox); have GW428 := Aside0.mk ((by rw [hg]; exact (below_size m15_) : w.heap.size ≤ gb428)); have GE428 := Aside0.mk ((by rw [hg]; exact (below_size m15_) : w.heap.size ≤ gb428)); replace HB := Aside0.mk (below_step m15_ hb); clear hb hbox hg) | ((with_reducible refine gate_dst (N := 3) rfl ?_); (try (refine gate_guard (by rfl) ?_; dsimp only)); refine box_event ?hg (N := 3) ?hd (cs := #[.int .i64 a1_0, .int .i64 a1_1, .int .i64 a1_2, .slice A1_3 l1_3.length c1_3, .string a1_4, .string a1_5, .slice A1_6 l1_6.length c1_6, .slice A1_7 l1_7.length c1_7, .string a1_8, .slice A1_9 l1_9.length c1_9, .int .i64 a1_10, .int .i64 a1_11]) (t := 34) ?hr ?_; (case hd => rfl); (case hg => rfl); (case hr => first | (go_simp; done) | (go_simp; rfl)); intro gb429 hg w5 hbox hb; have BK429 := Aside0.mk (hbox); have GW429 := Aside0.mk ((by rw [hg]; exact (below_size m10_) : w.heap.size ≤ gb429)); have GE429 := Aside0.mk ((by rw [hg]; exact (below_size m10_) : w.heap.size ≤ gb429)); replace HB := Aside0.mk (below_step m10_ hb); have NB428_429 := Aside0.mk ((by rw [hg]; exact Nat.ne_of_lt (blk_lt (g := gb428) (o := .cells #[.int .i64 a0_0, .int .i64 a0_1, .int .i64 a0_2, .slice A0_3 l0_3.length c0_3, .string a0_4, .string a0_5, .slice A0_6 l0_6.length c0_6, .slice A0_7 l0_7.length c0_7, .string a0_8, .slice A0_9 l0_9.length c0_9, .int .i64 a0_10, .int .i64 a0_11] 34 (0, 0)) m23_) : gb428 ≠ gb429)); have NB429_428 := Aside0.mk ((by rw [hg]; exact Nat.ne_of_gt (blk_lt (g := gb428) (o := .cells #[.int .i64 a0_0, .int .i64 a0_1, .int .i64 a0_2, .slice A0_3 l0_3.length c0_3, .string a0_4, .string a0_5, .slice A0_6 l0_6.length c0_6, .slice A0_7 l0_7.length c0_7, .string a0_8, .slice A0_9 l0_9.length c0_9, .int .i64 a0_10, .int .i64 a0_11] 34 (0, 0)) m23_) : gb429 ≠ gb428)); replace BK428 := Aside0.mk (blk_below m23_ hb); clear hb hbox hg))
 repeat (go_quiet (first | ((with_reducible refine gate_dst (N := 2) rfl ?_); (try (refine gate_guard (by rfl) ?_; dsimp only)); refine box_event ?hg (N := 2) ?hd (cs := #[.int .i64 a0_0, .int .i64 a0_1, .int .i64 a0_2, .slice A0_3 l0_3.length c0_3, .string a0_4, .string a0_5, .slice A0_6 l0_6.length c0_6, .slice A0_7 l0_7.length c0_7, .string a0_8, .slice A0_9 l0_9.length c0_9, .int .i64 a0_10, .int .i64 a0_11]) (t := 34) ?hr ?_; (case hd => rfl); (case hg => rfl); (case hr => first | (go_simp; done) | (go_simp; rfl)); intro gb428 hg w4 hbox hb; have BK428 := Aside0.mk (hbox); have GW428 := Aside0.mk ((by rw [hg]; exact (below_size m15_) : w.heap.size ≤ gb428)); have GE428 := Aside0.mk ((by rw [hg]; exact (below_size m15_) : w.heap.size ≤ gb428)); replace HB := Aside0.mk (below_step m15_ hb); clear hb hbox hg) | ((with_reducible refine gate_dst (N := 3) rfl ?_); (try (refine gate_guard (by rfl) ?_; dsimp only)); refine box_event ?hg (N := 3) ?hd (cs := #[.int .i64 a1_0, .int .i64 a1_1, .int .i64 a1_2, .slice A1_3 l1_3.length c1_3, .string a1_4, .string a1_5, .slice A1_6 l1_6.length c1_6, .slice A1_7 l1_7.length c1_7, .string a1_8, .slice A1_9 l1_9.length c1_9, .int .i64 a1_10, .int .i64 a1_11]) (t := 34) ?hr ?_; (case hd => rfl); (case hg => rfl); (case hr => first | (go_simp; done) | (go_simp; rfl)); intro gb429 hg w5 hbox hb; have n0_ := Aside0.mk (blk_below m23_ hb); have n1_ := Aside0.mk (below_step m10_ hb); have n2_ := Aside0.mk (hbox); have n3_ := Aside0.mk ((by rw [hg]; exact (below_size m10_) : w.heap.size ≤ gb429)); have n4_ := Aside0.mk ((by rw [hg]; exact (below_size m10_) : w.heap.size ≤ gb429)); have n5_ := Aside0.mk ((by rw [hg]; exact Nat.ne_of_lt (blk_lt (g := gb428) (o := .cells #[.int .i64 a0_0, .int .i64 a0_1, .int .i64 a0_2, .slice A0_3 l0_3.length c0_3, .string a0_4, .string a0_5, .slice A0_6 l0_6.length c0_6, .slice A0_7 l0_7.length c0_7, .string a0_8, .slice A0_9 l0_9.length c0_9, .int .i64 a0_10, .int .i64 a0_11] 34 (0, 0)) m23_) : gb428 ≠ gb429)); have n6_ := Aside0.mk ((by rw [hg]; exact Nat.ne_of_gt (blk_lt (g := gb428) (o := .cells #[.int .i64 a0_0, .int .i64 a0_1, .int .i64 a0_2, .slice A0_3 l0_3.length c0_3, .string a0_4, .string a0_5, .slice A0_6 l0_6.length c0_6, .slice A0_7 l0_7.length c0_7, .string a0_8, .slice A0_9 l0_9.length c0_9, .int .i64 a0_10, .int .i64 a0_11] 34 (0, 0)) m23_) : gb429 ≠ gb428)); clear BK428; clear HB; have BK428 := n0_; have HB := n1_; have BK429 := n2_; have GW429 := n3_; have GE429 := n4_; have NB428_429 := n5_; have NB429_428 := n6_; clear n0_ n1_ n2_ n3_ n4_ n5_ n6_; clear hb hbox hg)); go_upto_region 1 with (first | ((with_reducible refine gate_dst (N := 2) rfl ?_); (try (refine gate_guard (by rfl) ?_; dsimp only)); refine box_event ?hg (N := 2) ?hd (cs := #[.int .i64 a0_0, .int .i64 a0_1, .int .i64 a0_2, .slice A0_3 l0_3.length c0_3, .string a0_4, .string a0_5, .slice A0_6 l0_6.length c0_6, .slice A0_7 l0_7.length c0_7, .string a0_8, .slice A0_9 l0_9.length c0_9, .int .i64 a0_10, .int .i64 a0_11]) (t := 34) ?hr ?_; (case hd => rfl); (case hg => rfl); (case hr => first | (go_simp; done) | (go_simp; rfl)); intro gb428 hg w4 hbox hb; have BK428 := Aside0.mk (hbox); have GW428 := Aside0.mk ((by rw [hg]; exact (below_size m15_) : w.heap.size ≤ gb428)); have GE428 := Aside0.mk ((by rw [hg]; exact (below_size m15_) : w.heap.size ≤ gb428)); replace HB := Aside0.mk (below_step m15_ hb); clear hb hbox hg) | ((with_reducible refine gate_dst (N := 3) rfl ?_); (try (refine gate_guard (by rfl) ?_; dsimp only)); refine box_event ?hg (N := 3) ?hd (cs := #[.int .i64 a1_0, .int .i64 a1_1, .int .i64 a1_2, .slice A1_3 l1_3.length c1_3, .string a1_4, .string a1_5, .slice A1_6 l1_6.length c1_6, .slice A1_7 l1_7.length c1_7, .string a1_8, .slice A1_9 l1_9.length c1_9, .int .i64 a1_10, .int .i64 a1_11]) (t := 34) ?hr ?_; (case hd => rfl); (case hg => rfl); (case hr => first | (go_simp; done) | (go_simp; rfl)); intro gb429 hg w5 hbox hb; have BK429 := Aside0.mk (hbox); have GW429 := Aside0.mk ((by rw [hg]; exact (below_size m10_) : w.heap.size ≤ gb429)); have GE429 := Aside0.mk ((by rw [hg]; exact (below_size m10_) : w.heap.size ≤ gb429)); replace HB := Aside0.mk (below_step m10_ hb); have NB428_429 := Aside0.mk ((by rw [hg]; exact Nat.ne_of_lt (blk_lt (g := gb428) (o := .cells #[.int .i64 a0_0, .int .i64 a0_1, .int .i64 a0_2, .slice A0_3 l0_3.length c0_3, .string a0_4, .string a0_5, .slice A0_6 l0_6.length c0_6, .slice A0_7 l0_7.length c0_7, .string a0_8, .slice A0_9 l0_9.length c0_9, .int .i64 a0_10, .int .i64 a0_11] 34 (0, 0)) m23_) : gb428 ≠ gb429)); have NB429_428 := Aside0.mk ((by rw [hg]; exact Nat.ne_of_gt (blk_lt (g := gb428) (o := .cells #[.int .i64 a0_0, .int .i64 a0_1, .int .i64 a0_2, .slice A0_3 l0_3.length c0_3, .string a0_4, .string a0_5, .slice A0_6 l0_6.length c0_6, .slice A0_7 l0_7.length c0_7, .string a0_8, .slice A0_9 l0_9.length c0_9, .int .i64 a0_10, .int .i64 a0_11] 34 (0, 0)) m23_) : gb429 ≠ gb428)); replace BK428 := Aside0.mk (blk_below m23_ hb); clear hb hbox hg)))
 (try simp only [Act.put, List.setIfInBounds_toArray, List.set_cons_zero, List.set_cons_succ])
 go_cut [69] (fun v69 wc => ∃ (kq : Nat) (x69_2 : Bool), v69 = .bool x69_2 ∧ Aside0 (strongroomref25_SameReplies.j0 kq x69_2 a0_0 a0_1 a0_2 l0_3 a0_4 a0_5 l0_6 l0_7 a0_8 l0_9 a0_10 a0_11 a1_0 a1_1 a1_2 l1_3 a1_4 a1_5 l1_6 l1_7 a1_8 l1_9 a1_10 a1_11 = some r) ∧ Aside0 (kq ≤ k) ∧ Aside0 (wc.heap[gb428]? = some (.cells #[.int .i64 a0_0, .int .i64 a0_1, .int .i64 a0_2, (.slice A0_3 l0_3.length c0_3), .string a0_4, .string a0_5, (.slice A0_6 l0_6.length c0_6), (.slice A0_7 l0_7.length c0_7), .string a0_8, (.slice A0_9 l0_9.length c0_9), .int .i64 a0_10, .int .i64 a0_11] 34 (0, 0))) ∧ Aside0 (wc.heap[gb429]? = some (.cells #[.int .i64 a1_0, .int .i64 a1_1, .int .i64 a1_2, (.slice A1_3 l1_3.length c1_3), .string a1_4, .string a1_5, (.slice A1_6 l1_6.length c1_6), (.slice A1_7 l1_7.length c1_7), .string a1_8, (.slice A1_9 l1_9.length c1_9), .int .i64 a1_10, .int .i64 a1_11] 34 (0, 0))) ∧ Aside0 (Below w.heap.size w wc))
 case first =>
  have H := HC3.out
  clear HC3
  by_cases c6 : a0_0 = a1_0
  case neg =>
   rw [if_neg c6] at H
   have c6b0 : (a0_0 == a1_0) = false := beq_eq_false_iff_ne.mpr c6
   have c6b1 : (a0_0 != a1_0) = true := bne_iff_ne.mpr c6
   (first | rw [c6b0] | (simp only [i64_w, i32_w]; rw [c6b0]) | skip)
   have H' := Aside0.mk H
   clear H
   have hnb39 := NB428_429.out
   have hnc39 := NB429_428.out
   obtain ⟨hcz40_0, hcz40_1, hcz40_2, hcz40_3, hcz40_4, hcz40_5, hcz40_6, hcz40_7, hcz40_8, hcz40_9, hcz40_10, hcz40_11⟩ := bc12_ BK428.out
   obtain ⟨hfz40_0, hfz40_1, hfz40_2, hfz40_3, hfz40_4, hfz40_5, hfz40_6, hfz40_7, hfz40_8, hfz40_9, hfz40_10, hfz40_11⟩ := bf12_ BK428.out
   obtain ⟨hcz41_0, hcz41_1, hcz41_2, hcz41_3, hcz41_4, hcz41_5, hcz41_6, hcz41_7, hcz41_8, hcz41_9, hcz41_10, hcz41_11⟩ := bc12_ BK429.out
   obtain ⟨hfz41_0, hfz41_1, hfz41_2, hfz41_3, hfz41_4, hfz41_5, hfz41_6, hfz41_7, hfz41_8, hfz41_9, hfz41_10, hfz41_11⟩ := bf12_ BK429.out
   go_wp2
   repeat (go_quiet (fail); try go_wp2)
   go_meet
   case rel => exact ⟨_, (true), m39_, H', ⟨by first | omega | exact Nat.le_refl _⟩, ⟨by refine bD_ ?_; exact BK428.out⟩, ⟨by refine bD_ ?_; exact BK429.out⟩, ⟨m45_⟩⟩
  rw [if_pos c6] at H
  have c6b0 : (a0_0 == a1_0) = true := beq_iff_eq.mpr c6
  have c6b1 : (a0_0 != a1_0) = false := bne_eq_false_iff_eq.mpr c6
  clear c6
  (first | rw [c6b0] | (simp only [i64_w, i32_w]; rw [c6b0]) | skip)
  by_cases c7 : a0_1 = a1_1
  case neg =>
   rw [if_neg c7] at H
   have c7b0 : (a0_1 == a1_1) = false := beq_eq_false_iff_ne.mpr c7
   have c7b1 : (a0_1 != a1_1) = true := bne_iff_ne.mpr c7
   have H' := Aside0.mk H
   clear H
   have hnb36 := NB428_429.out
   have hnc36 := NB429_428.out
   obtain ⟨hcz37_0, hcz37_1, hcz37_2, hcz37_3, hcz37_4, hcz37_5, hcz37_6, hcz37_7, hcz37_8, hcz37_9, hcz37_10, hcz37_11⟩ := bc12_ BK428.out
   obtain ⟨hfz37_0, hfz37_1, hfz37_2, hfz37_3, hfz37_4, hfz37_5, hfz37_6, hfz37_7, hfz37_8, hfz37_9, hfz37_10, hfz37_11⟩ := bf12_ BK428.out
   obtain ⟨hcz38_0, hcz38_1, hcz38_2, hcz38_3, hcz38_4, hcz38_5, hcz38_6, hcz38_7, hcz38_8, hcz38_9, hcz38_10, hcz38_11⟩ := bc12_ BK429.out
   obtain ⟨hfz38_0, hfz38_1, hfz38_2, hfz38_3, hfz38_4, hfz38_5, hfz38_6, hfz38_7, hfz38_8, hfz38_9, hfz38_10, hfz38_11⟩ := bf12_ BK429.out
   go_wp2
   repeat (go_quiet (fail); try go_wp2)
   go_meet
   case rel => exact ⟨_, (true), m39_, H', ⟨by first | omega | exact Nat.le_refl _⟩, ⟨by refine bD_ ?_; exact BK428.out⟩, ⟨by refine bD_ ?_; exact BK429.out⟩, ⟨m45_⟩⟩
  rw [if_pos c7] at H
  have c7b0 : (a0_1 == a1_1) = true := beq_iff_eq.mpr c7
  have c7b1 : (a0_1 != a1_1) = false := bne_eq_false_iff_eq.mpr c7
  clear c7
  by_cases c8 : a0_2 = a1_2
  case neg =>
   rw [if_neg c8] at H
   have c8b0 : (a0_2 == a1_2) = false := beq_eq_false_iff_ne.mpr c8
   have c8b1 : (a0_2 != a1_2) = true := bne_iff_ne.mpr c8
   have H' := Aside0.mk H
   clear H
   have hnb33 := NB428_429.out
   have hnc33 := NB429_428.out
   obtain ⟨hcz34_0, hcz34_1, hcz34_2, hcz34_3, hcz34_4, hcz34_5, hcz34_6, hcz34_7, hcz34_8, hcz34_9, hcz34_10, hcz34_11⟩ := bc12_ BK428.out
   obtain ⟨hfz34_0, hfz34_1, hfz34_2, hfz34_3, hfz34_4, hfz34_5, hfz34_6, hfz34_7, hfz34_8, hfz34_9, hfz34_10, hfz34_11⟩ := bf12_ BK428.out
   obtain ⟨hcz35_0, hcz35_1, hcz35_2, hcz35_3, hcz35_4, hcz35_5, hcz35_6, hcz35_7, hcz35_8, hcz35_9, hcz35_10, hcz35_11⟩ := bc12_ BK429.out
   obtain ⟨hfz35_0, hfz35_1, hfz35_2, hfz35_3, hfz35_4, hfz35_5, hfz35_6, hfz35_7, hfz35_8, hfz35_9, hfz35_10, hfz35_11⟩ := bf12_ BK429.out
   go_wp2
   repeat (go_quiet (fail); try go_wp2)
   go_meet
   case rel => exact ⟨_, (true), m39_, H', ⟨by first | omega | exact Nat.le_refl _⟩, ⟨by refine bD_ ?_; exact BK428.out⟩, ⟨by refine bD_ ?_; exact BK429.out⟩, ⟨m45_⟩⟩
  rw [if_pos c8] at H
  have c8b0 : (a0_2 == a1_2) = true := beq_iff_eq.mpr c8
  have c8b1 : (a0_2 != a1_2) = false := bne_eq_false_iff_eq.mpr c8
  clear c8
  by_cases c9 : a0_4.toList = a1_4.toList
  case neg =>
   rw [if_neg c9] at H
   have c9b0 : (a0_4.toList == a1_4.toList) = false := beq_eq_false_iff_ne.mpr c9
   have c9b1 : (a0_4.toList != a1_4.toList) = true := bne_iff_ne.mpr c9
   have H' := Aside0.mk H
   clear H
   have hnb30 := NB428_429.out
   have hnc30 := NB429_428.out
   obtain ⟨hcz31_0, hcz31_1, hcz31_2, hcz31_3, hcz31_4, hcz31_5, hcz31_6, hcz31_7, hcz31_8, hcz31_9, hcz31_10, hcz31_11⟩ := bc12_ BK428.out
   obtain ⟨hfz31_0, hfz31_1, hfz31_2, hfz31_3, hfz31_4, hfz31_5, hfz31_6, hfz31_7, hfz31_8, hfz31_9, hfz31_10, hfz31_11⟩ := bf12_ BK428.out
   obtain ⟨hcz32_0, hcz32_1, hcz32_2, hcz32_3, hcz32_4, hcz32_5, hcz32_6, hcz32_7, hcz32_8, hcz32_9, hcz32_10, hcz32_11⟩ := bc12_ BK429.out
   obtain ⟨hfz32_0, hfz32_1, hfz32_2, hfz32_3, hfz32_4, hfz32_5, hfz32_6, hfz32_7, hfz32_8, hfz32_9, hfz32_10, hfz32_11⟩ := bf12_ BK429.out
   go_wp2
   repeat (go_quiet (fail); try go_wp2)
   go_meet
   case rel => exact ⟨_, (true), m39_, H', ⟨by first | omega | exact Nat.le_refl _⟩, ⟨by refine bD_ ?_; exact BK428.out⟩, ⟨by refine bD_ ?_; exact BK429.out⟩, ⟨m45_⟩⟩
  rw [if_pos c9] at H
  have c9b0 : (a0_4.toList == a1_4.toList) = true := beq_iff_eq.mpr c9
  have c9b1 : (a0_4.toList != a1_4.toList) = false := bne_eq_false_iff_eq.mpr c9
  clear c9
  by_cases c10 : a0_5.toList = a1_5.toList
  case neg =>
   rw [if_neg c10] at H
   have c10b0 : (a0_5.toList == a1_5.toList) = false := beq_eq_false_iff_ne.mpr c10
   have c10b1 : (a0_5.toList != a1_5.toList) = true := bne_iff_ne.mpr c10
   have H' := Aside0.mk H
   clear H
   have hnb27 := NB428_429.out
   have hnc27 := NB429_428.out
   obtain ⟨hcz28_0, hcz28_1, hcz28_2, hcz28_3, hcz28_4, hcz28_5, hcz28_6, hcz28_7, hcz28_8, hcz28_9, hcz28_10, hcz28_11⟩ := bc12_ BK428.out
   obtain ⟨hfz28_0, hfz28_1, hfz28_2, hfz28_3, hfz28_4, hfz28_5, hfz28_6, hfz28_7, hfz28_8, hfz28_9, hfz28_10, hfz28_11⟩ := bf12_ BK428.out
   obtain ⟨hcz29_0, hcz29_1, hcz29_2, hcz29_3, hcz29_4, hcz29_5, hcz29_6, hcz29_7, hcz29_8, hcz29_9, hcz29_10, hcz29_11⟩ := bc12_ BK429.out
   obtain ⟨hfz29_0, hfz29_1, hfz29_2, hfz29_3, hfz29_4, hfz29_5, hfz29_6, hfz29_7, hfz29_8, hfz29_9, hfz29_10, hfz29_11⟩ := bf12_ BK429.out
   go_wp2
   repeat (go_quiet (fail); try go_wp2)
   go_meet
   case rel => exact ⟨_, (true), m39_, H', ⟨by first | omega | exact Nat.le_refl _⟩, ⟨by refine bD_ ?_; exact BK428.out⟩, ⟨by refine bD_ ?_; exact BK429.out⟩, ⟨m45_⟩⟩
  rw [if_pos c10] at H
  have c10b0 : (a0_5.toList == a1_5.toList) = true := beq_iff_eq.mpr c10
  have c10b1 : (a0_5.toList != a1_5.toList) = false := bne_eq_false_iff_eq.mpr c10
  clear c10
  by_cases c11 : a0_8.toList = a1_8.toList
  case neg =>
   rw [if_neg c11] at H
   have c11b0 : (a0_8.toList == a1_8.toList) = false := beq_eq_false_iff_ne.mpr c11
   have c11b1 : (a0_8.toList != a1_8.toList) = true := bne_iff_ne.mpr c11
   have H' := Aside0.mk H
   clear H
   have hnb24 := NB428_429.out
   have hnc24 := NB429_428.out
   obtain ⟨hcz25_0, hcz25_1, hcz25_2, hcz25_3, hcz25_4, hcz25_5, hcz25_6, hcz25_7, hcz25_8, hcz25_9, hcz25_10, hcz25_11⟩ := bc12_ BK428.out
   obtain ⟨hfz25_0, hfz25_1, hfz25_2, hfz25_3, hfz25_4, hfz25_5, hfz25_6, hfz25_7, hfz25_8, hfz25_9, hfz25_10, hfz25_11⟩ := bf12_ BK428.out
   obtain ⟨hcz26_0, hcz26_1, hcz26_2, hcz26_3, hcz26_4, hcz26_5, hcz26_6, hcz26_7, hcz26_8, hcz26_9, hcz26_10, hcz26_11⟩ := bc12_ BK429.out
   obtain ⟨hfz26_0, hfz26_1, hfz26_2, hfz26_3, hfz26_4, hfz26_5, hfz26_6, hfz26_7, hfz26_8, hfz26_9, hfz26_10, hfz26_11⟩ := bf12_ BK429.out
   go_wp2
   repeat (go_quiet (fail); try go_wp2)
   go_meet
   case rel => exact ⟨_, (true), m39_, H', ⟨by first | omega | exact Nat.le_refl _⟩, ⟨by refine bD_ ?_; exact BK428.out⟩, ⟨by refine bD_ ?_; exact BK429.out⟩, ⟨m45_⟩⟩
  rw [if_pos c11] at H
  have c11b0 : (a0_8.toList == a1_8.toList) = true := beq_iff_eq.mpr c11
  have c11b1 : (a0_8.toList != a1_8.toList) = false := bne_eq_false_iff_eq.mpr c11
  clear c11
  by_cases c12 : a0_10 = a1_10
  case neg =>
   rw [if_neg c12] at H
   have c12b0 : (a0_10 == a1_10) = false := beq_eq_false_iff_ne.mpr c12
   have c12b1 : (a0_10 != a1_10) = true := bne_iff_ne.mpr c12
   have H' := Aside0.mk H
   clear H
   have hnb21 := NB428_429.out
   have hnc21 := NB429_428.out
   obtain ⟨hcz22_0, hcz22_1, hcz22_2, hcz22_3, hcz22_4, hcz22_5, hcz22_6, hcz22_7, hcz22_8, hcz22_9, hcz22_10, hcz22_11⟩ := bc12_ BK428.out
   obtain ⟨hfz22_0, hfz22_1, hfz22_2, hfz22_3, hfz22_4, hfz22_5, hfz22_6, hfz22_7, hfz22_8, hfz22_9, hfz22_10, hfz22_11⟩ := bf12_ BK428.out
   obtain ⟨hcz23_0, hcz23_1, hcz23_2, hcz23_3, hcz23_4, hcz23_5, hcz23_6, hcz23_7, hcz23_8, hcz23_9, hcz23_10, hcz23_11⟩ := bc12_ BK429.out
   obtain ⟨hfz23_0, hfz23_1, hfz23_2, hfz23_3, hfz23_4, hfz23_5, hfz23_6, hfz23_7, hfz23_8, hfz23_9, hfz23_10, hfz23_11⟩ := bf12_ BK429.out
   go_wp2
   repeat (go_quiet (fail); try go_wp2)
   go_meet
   case rel => exact ⟨_, (true), m39_, H', ⟨by first | omega | exact Nat.le_refl _⟩, ⟨by refine bD_ ?_; exact BK428.out⟩, ⟨by refine bD_ ?_; exact BK429.out⟩, ⟨m45_⟩⟩
  rw [if_pos c12] at H
  have c12b0 : (a0_10 == a1_10) = true := beq_iff_eq.mpr c12
  have c12b1 : (a0_10 != a1_10) = false := bne_eq_false_iff_eq.mpr c12
  clear c12
  by_cases c13 : a0_11 = a1_11
  case neg =>
   rw [if_neg c13] at H
   have c13b0 : (a0_11 == a1_11) = false := beq_eq_false_iff_ne.mpr c13
   have c13b1 : (a0_11 != a1_11) = true := bne_iff_ne.mpr c13
   have H' := Aside0.mk H
   clear H
   have hnb18 := NB428_429.out
   have hnc18 := NB429_428.out
   obtain ⟨hcz19_0, hcz19_1, hcz19_2, hcz19_3, hcz19_4, hcz19_5, hcz19_6, hcz19_7, hcz19_8, hcz19_9, hcz19_10, hcz19_11⟩ := bc12_ BK428.out
   obtain ⟨hfz19_0, hfz19_1, hfz19_2, hfz19_3, hfz19_4, hfz19_5, hfz19_6, hfz19_7, hfz19_8, hfz19_9, hfz19_10, hfz19_11⟩ := bf12_ BK428.out
   obtain ⟨hcz20_0, hcz20_1, hcz20_2, hcz20_3, hcz20_4, hcz20_5, hcz20_6, hcz20_7, hcz20_8, hcz20_9, hcz20_10, hcz20_11⟩ := bc12_ BK429.out
   obtain ⟨hfz20_0, hfz20_1, hfz20_2, hfz20_3, hfz20_4, hfz20_5, hfz20_6, hfz20_7, hfz20_8, hfz20_9, hfz20_10, hfz20_11⟩ := bf12_ BK429.out
   go_wp2
   repeat (go_quiet (fail); try go_wp2)
   go_meet
   case rel => exact ⟨_, (true), m39_, H', ⟨by first | omega | exact Nat.le_refl _⟩, ⟨by refine bD_ ?_; exact BK428.out⟩, ⟨by refine bD_ ?_; exact BK429.out⟩, ⟨m45_⟩⟩
  rw [if_pos c13] at H
  have c13b0 : (a0_11 == a1_11) = true := beq_iff_eq.mpr c13
  have c13b1 : (a0_11 != a1_11) = false := bne_eq_false_iff_eq.mpr c13
  clear c13
  replace H := Option.bind_eq_some_iff.mp H
  obtain ⟨t430, A140, H⟩ := H
  try dsimp only at H
  have A14 := Aside0.mk A140
  clear A140
  have H' := Aside0.mk H
  clear H
  have hnb15 := NB428_429.out
  have hnc15 := NB429_428.out
  obtain ⟨hcz16_0, hcz16_1, hcz16_2, hcz16_3, hcz16_4, hcz16_5, hcz16_6, hcz16_7, hcz16_8, hcz16_9, hcz16_10, hcz16_11⟩ := bc12_ BK428.out
  obtain ⟨hfz16_0, hfz16_1, hfz16_2, hfz16_3, hfz16_4, hfz16_5, hfz16_6, hfz16_7, hfz16_8, hfz16_9, hfz16_10, hfz16_11⟩ := bf12_ BK428.out
  obtain ⟨hcz17_0, hcz17_1, hcz17_2, hcz17_3, hcz17_4, hcz17_5, hcz17_6, hcz17_7, hcz17_8, hcz17_9, hcz17_10, hcz17_11⟩ := bc12_ BK429.out
  obtain ⟨hfz17_0, hfz17_1, hfz17_2, hfz17_3, hfz17_4, hfz17_5, hfz17_6, hfz17_7, hfz17_8, hfz17_9, hfz17_10, hfz17_11⟩ := bf12_ BK429.out
  go_wp2_with (first | (go_at_call 47; (with_reducible refine (strongroomref05_Same.calls k _ _ l0_3 _ _ l1_3 t430 _ ?side1 ?side2 ?side3 ?side4 A14.out).mono ?_); (case side1 => exact m46_); (case side2 => exact HC0_3.out); (case side3 => exact m50_); (case side4 => exact HC1_3.out); rintro e w' ⟨rfl, ⟨nd, rfl⟩⟩; (try first | exact ⟨rfl, _, World.drewN_drewN _ _ _⟩ | exact ⟨rfl, _, Eq.trans (World.drewN_drewN _ _ _) (congrArg (World.drewN _) (Nat.add_assoc _ _ _))⟩)))
  repeat (go_quiet (first | (go_at_call 47; (with_reducible refine (strongroomref05_Same.calls k _ _ l0_3 _ _ l1_3 t430 _ ?side1 ?side2 ?side3 ?side4 A14.out).mono ?_); (case side1 => exact m46_); (case side2 => exact HC0_3.out); (case side3 => exact m50_); (case side4 => exact HC1_3.out); rintro e w' ⟨rfl, ⟨nd, rfl⟩⟩; (try first | exact ⟨rfl, _, World.drewN_drewN _ _ _⟩ | exact ⟨rfl, _, Eq.trans (World.drewN_drewN _ _ _) (congrArg (World.drewN _) (Nat.add_assoc _ _ _))⟩))); try go_wp2_with (first | (go_at_call 47; (with_reducible refine (strongroomref05_Same.calls k _ _ l0_3 _ _ l1_3 t430 _ ?side1 ?side2 ?side3 ?side4 A14.out).mono ?_); (case side1 => exact m46_); (case side2 => exact HC0_3.out); (case side3 => exact m50_); (case side4 => exact HC1_3.out); rintro e w' ⟨rfl, ⟨nd, rfl⟩⟩; (try first | exact ⟨rfl, _, World.drewN_drewN _ _ _⟩ | exact ⟨rfl, _, Eq.trans (World.drewN_drewN _ _ _) (congrArg (World.drewN _) (Nat.add_assoc _ _ _))⟩))))
  go_meet
  case rel => exact ⟨_, (!t430), m39_, H', ⟨by first | omega | exact Nat.le_refl _⟩, ⟨by refine bD_ ?_; exact BK428.out⟩, ⟨by refine bD_ ?_; exact BK429.out⟩, ⟨m45_⟩⟩
 clear HC3
 obtain ⟨kq, x69_2, rfl, HA, HJ2, BK428, BK429, HB⟩ := hcut
 cases kq with
 | zero => exact absurd HA.out (by simp [strongroomref25_SameReplies.j0])
 | succ kj2 =>
  have H := HA.out
  clear HA
  simp only [strongroomref25_SameReplies.j0] at H
  by_cases c42 : x69_2 = true
  ·subst c42
   rw [if_pos rfl] at H
   obtain rfl := Option.some.inj H
   go_wp2
   repeat (go_quiet (fail); try go_wp2)
   go_ret
   exact ⟨by first | rfl | (simp [errW_none, errW_some] <;> rfl) | (simp [*, errW_none, errW_some] <;> rfl), m45_⟩
  replace c42 := Bool.eq_false_iff.mpr c42
  subst c42
  rw [if_neg Bool.false_ne_true] at H
  have HC43 := Aside0.mk H
  clear H
  go_upto_region 3 with (fail)
  repeat (go_quiet (fail); go_upto_region 3 with (fail))
  go_cut [94] (fun v94 wc => ∃ (kq : Nat) (x94_42 : Bool), v94 = .bool x94_42 ∧ Aside0 (strongroomref25_SameReplies.j1 kq x94_42 a0_0 a0_1 a0_2 l0_3 a0_4 a0_5 l0_6 l0_7 a0_8 l0_9 a0_10 a0_11 a1_0 a1_1 a1_2 l1_3 a1_4 a1_5 l1_6 l1_7 a1_8 l1_9 a1_10 a1_11 = some r) ∧ Aside0 (kq ≤ kj2) ∧ Aside0 (wc.heap[gb428]? = some (.cells #[.int .i64 a0_0, .int .i64 a0_1, .int .i64 a0_2, (.slice A0_3 l0_3.length c0_3), .string a0_4, .string a0_5, (.slice A0_6 l0_6.length c0_6), (.slice A0_7 l0_7.length c0_7), .string a0_8, (.slice A0_9 l0_9.length c0_9), .int .i64 a0_10, .int .i64 a0_11] 34 (0, 0))) ∧ Aside0 (wc.heap[gb429]? = some (.cells #[.int .i64 a1_0, .int .i64 a1_1, .int .i64 a1_2, (.slice A1_3 l1_3.length c1_3), .string a1_4, .string a1_5, (.slice A1_6 l1_6.length c1_6), (.slice A1_7 l1_7.length c1_7), .string a1_8, (.slice A1_9 l1_9.length c1_9), .int .i64 a1_10, .int .i64 a1_11] 34 (0, 0))) ∧ Aside0 (Below w.heap.size w wc))
  case first =>
   have H := HC43.out
   clear HC43
   by_cases c44 : (l0_6.length : Int) = (l1_6.length : Int)
   case neg =>
    rw [if_neg c44] at H
    have c44b0 : ((l0_6.length : Int) == (l1_6.length : Int)) = false := beq_eq_false_iff_ne.mpr c44
    have c44b1 : ((l0_6.length : Int) != (l1_6.length : Int)) = true := bne_iff_ne.mpr c44
    have c44b2 : (l0_6.length == l1_6.length) = false := by first | simpa using c44 | (simp at c44 ⊢; omega)
    (first | rw [c44b0] | (simp only [i64_w, i32_w]; rw [c44b0]) | skip)
    have H' := Aside0.mk H
    clear H
    have hnb52 := NB428_429.out
    have hnc52 := NB429_428.out
    obtain ⟨hcz53_0, hcz53_1, hcz53_2, hcz53_3, hcz53_4, hcz53_5, hcz53_6, hcz53_7, hcz53_8, hcz53_9, hcz53_10, hcz53_11⟩ := bc12_ BK428.out
    obtain ⟨hfz53_0, hfz53_1, hfz53_2, hfz53_3, hfz53_4, hfz53_5, hfz53_6, hfz53_7, hfz53_8, hfz53_9, hfz53_10, hfz53_11⟩ := bf12_ BK428.out
    obtain ⟨hcz54_0, hcz54_1, hcz54_2, hcz54_3, hcz54_4, hcz54_5, hcz54_6, hcz54_7, hcz54_8, hcz54_9, hcz54_10, hcz54_11⟩ := bc12_ BK429.out
    obtain ⟨hfz54_0, hfz54_1, hfz54_2, hfz54_3, hfz54_4, hfz54_5, hfz54_6, hfz54_7, hfz54_8, hfz54_9, hfz54_10, hfz54_11⟩ := bf12_ BK429.out
    go_wp2
    repeat (go_quiet (fail); try go_wp2)
    go_meet
    case rel => exact ⟨_, (true), m39_, H', ⟨by have := HJ2.out; first | omega | exact Nat.le_refl _⟩, ⟨by refine bD_ ?_; exact BK428.out⟩, ⟨by refine bD_ ?_; exact BK429.out⟩, ⟨m45_⟩⟩
   rw [if_pos c44] at H
   have c44b0 : ((l0_6.length : Int) == (l1_6.length : Int)) = true := beq_iff_eq.mpr c44
   have c44b1 : ((l0_6.length : Int) != (l1_6.length : Int)) = false := bne_eq_false_iff_eq.mpr c44
   have c44b2 : (l0_6.length == l1_6.length) = true := by first | simpa using c44 | (simp at c44 ⊢; omega)
   clear c44
   (first | rw [c44b0] | (simp only [i64_w, i32_w]; rw [c44b0]) | skip)
   by_cases c45 : (l0_7.length : Int) = (l1_7.length : Int)
   case neg =>
    rw [if_neg c45] at H
    have c45b0 : ((l0_7.length : Int) == (l1_7.length : Int)) = false := beq_eq_false_iff_ne.mpr c45
    have c45b1 : ((l0_7.length : Int) != (l1_7.length : Int)) = true := bne_iff_ne.mpr c45
    have c45b2 : (l0_7.length == l1_7.length) = false := by first | simpa using c45 | (simp at c45 ⊢; omega)
    have H' := Aside0.mk H
    clear H
    have hnb49 := NB428_429.out
    have hnc49 := NB429_428.out
    obtain ⟨hcz50_0, hcz50_1, hcz50_2, hcz50_3, hcz50_4, hcz50_5, hcz50_6, hcz50_7, hcz50_8, hcz50_9, hcz50_10, hcz50_11⟩ := bc12_ BK428.out
    obtain ⟨hfz50_0, hfz50_1, hfz50_2, hfz50_3, hfz50_4, hfz50_5, hfz50_6, hfz50_7, hfz50_8, hfz50_9, hfz50_10, hfz50_11⟩ := bf12_ BK428.out
    obtain ⟨hcz51_0, hcz51_1, hcz51_2, hcz51_3, hcz51_4, hcz51_5, hcz51_6, hcz51_7, hcz51_8, hcz51_9, hcz51_10, hcz51_11⟩ := bc12_ BK429.out
    obtain ⟨hfz51_0, hfz51_1, hfz51_2, hfz51_3, hfz51_4, hfz51_5, hfz51_6, hfz51_7, hfz51_8, hfz51_9, hfz51_10, hfz51_11⟩ := bf12_ BK429.out
    go_wp2
    repeat (go_quiet (fail); try go_wp2)
    go_meet
    case rel => exact ⟨_, (true), m39_, H', ⟨by have := HJ2.out; first | omega | exact Nat.le_refl _⟩, ⟨by refine bD_ ?_; exact BK428.out⟩, ⟨by refine bD_ ?_; exact BK429.out⟩, ⟨m45_⟩⟩
   rw [if_pos c45] at H
   have c45b0 : ((l0_7.length : Int) == (l1_7.length : Int)) = true := beq_iff_eq.mpr c45
   have c45b1 : ((l0_7.length : Int) != (l1_7.length : Int)) = false := bne_eq_false_iff_eq.mpr c45
   have c45b2 : (l0_7.length == l1_7.length) = true := by first | simpa using c45 | (simp at c45 ⊢; omega)
   clear c45
   have H' := Aside0.mk H
   clear H
   have hnb46 := NB428_429.out
   have hnc46 := NB429_428.out
   obtain ⟨hcz47_0, hcz47_1, hcz47_2, hcz47_3, hcz47_4, hcz47_5, hcz47_6, hcz47_7, hcz47_8, hcz47_9, hcz47_10, hcz47_11⟩ := bc12_ BK428.out
   obtain ⟨hfz47_0, hfz47_1, hfz47_2, hfz47_3, hfz47_4, hfz47_5, hfz47_6, hfz47_7, hfz47_8, hfz47_9, hfz47_10, hfz47_11⟩ := bf12_ BK428.out
   obtain ⟨hcz48_0, hcz48_1, hcz48_2, hcz48_3, hcz48_4, hcz48_5, hcz48_6, hcz48_7, hcz48_8, hcz48_9, hcz48_10, hcz48_11⟩ := bc12_ BK429.out
   obtain ⟨hfz48_0, hfz48_1, hfz48_2, hfz48_3, hfz48_4, hfz48_5, hfz48_6, hfz48_7, hfz48_8, hfz48_9, hfz48_10, hfz48_11⟩ := bf12_ BK429.out
   go_wp2
   repeat (go_quiet (fail); try go_wp2)
   go_meet
   case rel => exact ⟨_, (((l0_9.length : Int) != (l1_9.length : Int))), m39_, H', ⟨by have := HJ2.out; first | omega | exact Nat.le_refl _⟩, ⟨by refine bD_ ?_; exact BK428.out⟩, ⟨by refine bD_ ?_; exact BK429.out⟩, ⟨m45_⟩⟩
  clear HC43
  try clear c42
  obtain ⟨kq, x94_42, rfl, HA, HJ42, BK428, BK429, HB⟩ := hcut
  cases kq with
  | zero => exact absurd HA.out (by simp [strongroomref25_SameReplies.j1])
  | succ kj42 =>
   have H := HA.out
   clear HA
   simp only [strongroomref25_SameReplies.j1] at H
   by_cases c55 : x94_42 = true
   ·subst c55
    rw [if_pos rfl] at H
    obtain rfl := Option.some.inj H
    go_wp2
    repeat (go_quiet (fail); try go_wp2)
    go_ret
    exact ⟨by first | rfl | (simp [errW_none, errW_some] <;> rfl) | (simp [*, errW_none, errW_some] <;> rfl), m45_⟩
   replace c55 := Bool.eq_false_iff.mpr c55
   subst c55
   rw [if_neg Bool.false_ne_true] at H
   have H' := Aside0.mk H
   clear H
   go_wp2
   repeat (go_quiet (fail); try go_wp2)
   go_loopg [5] kj42 (fun kq v5 w' => ∃ (x5_3 : Int), v5 = .int .i64 x5_3 ∧ Aside0 (strongroomref25_SameReplies.l0 kq x5_3 a0_0 a0_1 a0_2 l0_3 a0_4 a0_5 l0_6 l0_7 a0_8 l0_9 a0_10 a0_11 a1_0 a1_1 a1_2 l1_3 a1_4 a1_5 l1_6 l1_7 a1_8 l1_9 a1_10 a1_11 = some r) ∧ Aside0 (kq ≤ kj42) ∧ Aside0 (w'.heap[gb428]? = some (.cells #[.int .i64 a0_0, .int .i64 a0_1, .int .i64 a0_2, (.slice A0_3 l0_3.length c0_3), .string a0_4, .string a0_5, (.slice A0_6 l0_6.length c0_6), (.slice A0_7 l0_7.length c0_7), .string a0_8, (.slice A0_9 l0_9.length c0_9), .int .i64 a0_10, .int .i64 a0_11] 34 (0, 0))) ∧ Aside0 (w'.heap[gb429]? = some (.cells #[.int .i64 a1_0, .int .i64 a1_1, .int .i64 a1_2, (.slice A1_3 l1_3.length c1_3), .string a1_4, .string a1_5, (.slice A1_6 l1_6.length c1_6), (.slice A1_7 l1_7.length c1_7), .string a1_8, (.slice A1_9 l1_9.length c1_9), .int .i64 a1_10, .int .i64 a1_11] 34 (0, 0))) ∧ Aside0 (Below w.heap.size w w'))
   case atStart => exact ⟨(0), m39_, H', ⟨Nat.le_refl _⟩, ⟨by refine bD_ ?_; exact BK428.out⟩, ⟨by refine bD_ ?_; exact BK429.out⟩, ⟨m45_⟩⟩
   clear H'
   try clear c55
   obtain ⟨x5_3, rfl, HA, HK3, BK428, BK429, HB⟩ := hrel
   cases gk with
   | zero => exact absurd HA.out (by simp [strongroomref25_SameReplies.l0])
   | succ k3 =>
    have H := HA.out
    clear HA
    simp only [strongroomref25_SameReplies.l0] at H
    by_cases c56 : x5_3 < (l0_6.length : Int)
    ·rw [if_pos c56] at H
     have c56b0 : decide (x5_3 < (l0_6.length : Int)) = true := decide_eq_true c56
     clear c56
     by_cases c57 : 0 ≤ x5_3
     case neg =>
      rw [if_neg c57] at H
      exact absurd H (by simp)
     rw [if_pos c57] at H
     have c57b0 : decide (0 ≤ x5_3) = true := decide_eq_true c57
     clear c57
     by_cases c58 : x5_3 < (l1_6.length : Int)
     case neg =>
      rw [if_neg c58] at H
      exact absurd H (by simp)
     rw [if_pos c58] at H
     have c58b0 : decide (x5_3 < (l1_6.length : Int)) = true := decide_eq_true c58
     clear c58
     by_cases c59 : (!(((rd_T65 l0_6 x5_3).f0) == ((rd_T65 l1_6 x5_3).f0)) || (!((((rd_T65 l0_6 x5_3).f1).toList) == (((rd_T65 l1_6 x5_3).f1).toList)))) = true
     ·rw [if_pos c59] at H
      have c59b0 : (!(((rd_T65 l0_6 x5_3).f0) == ((rd_T65 l1_6 x5_3).f0)) || (!((((rd_T65 l0_6 x5_3).f1).toList) == (((rd_T65 l1_6 x5_3).f1).toList)))) = true := c59
      clear c59
      obtain rfl := Option.some.inj H
      have hnb60 := NB428_429.out
      have hnc60 := NB429_428.out
      obtain ⟨hcz61_0, hcz61_1, hcz61_2, hcz61_3, hcz61_4, hcz61_5, hcz61_6, hcz61_7, hcz61_8, hcz61_9, hcz61_10, hcz61_11⟩ := bc12_ BK428.out
      obtain ⟨hfz61_0, hfz61_1, hfz61_2, hfz61_3, hfz61_4, hfz61_5, hfz61_6, hfz61_7, hfz61_8, hfz61_9, hfz61_10, hfz61_11⟩ := bf12_ BK428.out
      have p431 : 0 ≤ (x5_3 : Int) := of_decide_eq_true m38_
      have q431 : x5_3 < (l0_6.length : Int) := of_decide_eq_true m38_
      obtain ⟨ad431, e431, hx431_0, hx431_1⟩ := at_T65 HR0_6.out x5_3 p431 q431
      cases e431
      replace hx431_0 := (HB.out.cell (World.block_lt_of_cell? w _ hx431_0)).trans hx431_0
      replace hx431_1 := (HB.out.cell (World.block_lt_of_cell? w _ hx431_1)).trans hx431_1
      replace p431 := eq_true p431
      replace q431 := eq_true q431
      obtain ⟨hcz62_0, hcz62_1, hcz62_2, hcz62_3, hcz62_4, hcz62_5, hcz62_6, hcz62_7, hcz62_8, hcz62_9, hcz62_10, hcz62_11⟩ := bc12_ BK429.out
      obtain ⟨hfz62_0, hfz62_1, hfz62_2, hfz62_3, hfz62_4, hfz62_5, hfz62_6, hfz62_7, hfz62_8, hfz62_9, hfz62_10, hfz62_11⟩ := bf12_ BK429.out
      have p432 : 0 ≤ (x5_3 : Int) := of_decide_eq_true m38_
      have q432 : x5_3 < (l1_6.length : Int) := of_decide_eq_true m38_
      obtain ⟨ad432, e432, hx432_0, hx432_1⟩ := at_T65 HR1_6.out x5_3 p432 q432
      cases e432
      replace hx432_0 := (HB.out.cell (World.block_lt_of_cell? w _ hx432_0)).trans hx432_0
      replace hx432_1 := (HB.out.cell (World.block_lt_of_cell? w _ hx432_1)).trans hx432_1
      replace p432 := eq_true p432
      replace q432 := eq_true q432
      go_wp2
      repeat (go_quiet (fail); try go_wp2)
      go_ret
      exact ⟨by first | rfl | (simp [errW_none, errW_some] <;> rfl) | (simp [*, errW_none, errW_some] <;> rfl), m45_⟩
     rw [if_neg c59] at H
     have c59b0 : (!(((rd_T65 l0_6 x5_3).f0) == ((rd_T65 l1_6 x5_3).f0)) || (!((((rd_T65 l0_6 x5_3).f1).toList) == (((rd_T65 l1_6 x5_3).f1).toList)))) = false := by simpa using c59
     clear c59
     have H' := Aside0.mk H
     clear H
     have hnb63 := NB428_429.out
     have hnc63 := NB429_428.out
     obtain ⟨hcz64_0, hcz64_1, hcz64_2, hcz64_3, hcz64_4, hcz64_5, hcz64_6, hcz64_7, hcz64_8, hcz64_9, hcz64_10, hcz64_11⟩ := bc12_ BK428.out
     obtain ⟨hfz64_0, hfz64_1, hfz64_2, hfz64_3, hfz64_4, hfz64_5, hfz64_6, hfz64_7, hfz64_8, hfz64_9, hfz64_10, hfz64_11⟩ := bf12_ BK428.out
     have p431 : 0 ≤ (x5_3 : Int) := of_decide_eq_true m38_
     have q431 : x5_3 < (l0_6.length : Int) := of_decide_eq_true m38_
     obtain ⟨ad431, e431, hx431_0, hx431_1⟩ := at_T65 HR0_6.out x5_3 p431 q431
     cases e431
     replace hx431_0 := (HB.out.cell (World.block_lt_of_cell? w _ hx431_0)).trans hx431_0
     replace hx431_1 := (HB.out.cell (World.block_lt_of_cell? w _ hx431_1)).trans hx431_1
     replace p431 := eq_true p431
     replace q431 := eq_true q431
     obtain ⟨hcz65_0, hcz65_1, hcz65_2, hcz65_3, hcz65_4, hcz65_5, hcz65_6, hcz65_7, hcz65_8, hcz65_9, hcz65_10, hcz65_11⟩ := bc12_ BK429.out
     obtain ⟨hfz65_0, hfz65_1, hfz65_2, hfz65_3, hfz65_4, hfz65_5, hfz65_6, hfz65_7, hfz65_8, hfz65_9, hfz65_10, hfz65_11⟩ := bf12_ BK429.out
     have p432 : 0 ≤ (x5_3 : Int) := of_decide_eq_true m38_
     have q432 : x5_3 < (l1_6.length : Int) := of_decide_eq_true m38_
     obtain ⟨ad432, e432, hx432_0, hx432_1⟩ := at_T65 HR1_6.out x5_3 p432 q432
     cases e432
     replace hx432_0 := (HB.out.cell (World.block_lt_of_cell? w _ hx432_0)).trans hx432_0
     replace hx432_1 := (HB.out.cell (World.block_lt_of_cell? w _ hx432_1)).trans hx432_1
     replace p432 := eq_true p432
     replace q432 := eq_true q432
     go_wp2
     repeat (go_quiet (fail); try go_wp2)
     go_roundg k3
     case measure => have := HJ2.out; have := HJ42.out; have := HK3.out; omega
     case rel => exact ⟨(wrap64 (x5_3 + 1)), m39_, H', ⟨by have := HJ2.out; have := HJ42.out; have := HK3.out; omega⟩, ⟨by refine bD_ ?_; exact BK428.out⟩, ⟨by refine bD_ ?_; exact BK429.out⟩, ⟨m45_⟩⟩
    rw [if_neg c56] at H
    have c56b0 : decide (x5_3 < (l0_6.length : Int)) = false := decide_eq_false c56
    clear c56
    have H' := Aside0.mk H
    clear H
    have hnb66 := NB428_429.out
    have hnc66 := NB429_428.out
    obtain ⟨hcz67_0, hcz67_1, hcz67_2, hcz67_3, hcz67_4, hcz67_5, hcz67_6, hcz67_7, hcz67_8, hcz67_9, hcz67_10, hcz67_11⟩ := bc12_ BK428.out
    obtain ⟨hfz67_0, hfz67_1, hfz67_2, hfz67_3, hfz67_4, hfz67_5, hfz67_6, hfz67_7, hfz67_8, hfz67_9, hfz67_10, hfz67_11⟩ := bf12_ BK428.out
    go_wp2
    repeat (go_quiet (fail); try go_wp2)
    go_loopg [6] k3 (fun kq v6 w' => ∃ (x6_4 : Int), v6 = .int .i64 x6_4 ∧ Aside0 (strongroomref25_SameReplies.l1 kq x6_4 a0_0 a0_1 a0_2 l0_3 a0_4 a0_5 l0_6 l0_7 a0_8 l0_9 a0_10 a0_11 a1_0 a1_1 a1_2 l1_3 a1_4 a1_5 l1_6 l1_7 a1_8 l1_9 a1_10 a1_11 = some r) ∧ Aside0 (kq ≤ k3) ∧ Aside0 (w'.heap[gb428]? = some (.cells #[.int .i64 a0_0, .int .i64 a0_1, .int .i64 a0_2, (.slice A0_3 l0_3.length c0_3), .string a0_4, .string a0_5, (.slice A0_6 l0_6.length c0_6), (.slice A0_7 l0_7.length c0_7), .string a0_8, (.slice A0_9 l0_9.length c0_9), .int .i64 a0_10, .int .i64 a0_11] 34 (0, 0))) ∧ Aside0 (w'.heap[gb429]? = some (.cells #[.int .i64 a1_0, .int .i64 a1_1, .int .i64 a1_2, (.slice A1_3 l1_3.length c1_3), .string a1_4, .string a1_5, (.slice A1_6 l1_6.length c1_6), (.slice A1_7 l1_7.length c1_7), .string a1_8, (.slice A1_9 l1_9.length c1_9), .int .i64 a1_10, .int .i64 a1_11] 34 (0, 0))) ∧ Aside0 (Below w.heap.size w w'))
    case atStart => exact ⟨(0), m39_, H', ⟨Nat.le_refl _⟩, ⟨by refine bD_ ?_; exact BK428.out⟩, ⟨by refine bD_ ?_; exact BK429.out⟩, ⟨m45_⟩⟩
    clear H'
    try clear c56b0; try clear hcz67_0; try clear hcz67_1; try clear hcz67_10; try clear hcz67_11; try clear hcz67_2; try clear hcz67_3; try clear hcz67_4; try clear hcz67_5; try clear hcz67_6; try clear hcz67_7; try clear hcz67_8; try clear hcz67_9; try clear hfz67_0; try clear hfz67_1; try clear hfz67_10; try clear hfz67_11; try clear hfz67_2; try clear hfz67_3; try clear hfz67_4; try clear hfz67_5; try clear hfz67_6; try clear hfz67_7; try clear hfz67_8; try clear hfz67_9
    obtain ⟨x6_4, rfl, HA, HK4, BK428, BK429, HB⟩ := hrel
    cases gk with
    | zero => exact absurd HA.out (by simp [strongroomref25_SameReplies.l1])
    | succ k4 =>
     have H := HA.out
     clear HA
     simp only [strongroomref25_SameReplies.l1] at H
     by_cases c68 : x6_4 < (l0_7.length : Int)
     ·rw [if_pos c68] at H
      have c68b0 : decide (x6_4 < (l0_7.length : Int)) = true := decide_eq_true c68
      clear c68
      by_cases c69 : 0 ≤ x6_4
      case neg =>
       rw [if_neg c69] at H
       exact absurd H (by simp)
      rw [if_pos c69] at H
      have c69b0 : decide (0 ≤ x6_4) = true := decide_eq_true c69
      clear c69
      by_cases c70 : x6_4 < (l1_7.length : Int)
      case neg =>
       rw [if_neg c70] at H
       exact absurd H (by simp)
      rw [if_pos c70] at H
      have c70b0 : decide (x6_4 < (l1_7.length : Int)) = true := decide_eq_true c70
      clear c70
      by_cases c71 : (!(((rd_T74 l0_7 x6_4).f0) == ((rd_T74 l1_7 x6_4).f0)) || (!(((rd_T74 l0_7 x6_4).f1) == ((rd_T74 l1_7 x6_4).f1)))) = true
      ·rw [if_pos c71] at H
       have c71b0 : (!(((rd_T74 l0_7 x6_4).f0) == ((rd_T74 l1_7 x6_4).f0)) || (!(((rd_T74 l0_7 x6_4).f1) == ((rd_T74 l1_7 x6_4).f1)))) = true := c71
       clear c71
       obtain rfl := Option.some.inj H
       have hnb72 := NB428_429.out
       have hnc72 := NB429_428.out
       obtain ⟨hcz73_0, hcz73_1, hcz73_2, hcz73_3, hcz73_4, hcz73_5, hcz73_6, hcz73_7, hcz73_8, hcz73_9, hcz73_10, hcz73_11⟩ := bc12_ BK428.out
       obtain ⟨hfz73_0, hfz73_1, hfz73_2, hfz73_3, hfz73_4, hfz73_5, hfz73_6, hfz73_7, hfz73_8, hfz73_9, hfz73_10, hfz73_11⟩ := bf12_ BK428.out
       have p433 : 0 ≤ (x6_4 : Int) := of_decide_eq_true m38_
       have q433 : x6_4 < (l0_7.length : Int) := of_decide_eq_true m38_
       obtain ⟨ad433, e433, hx433_0, hx433_1⟩ := at_T74 HR0_7.out x6_4 p433 q433
       cases e433
       replace hx433_0 := (HB.out.cell (World.block_lt_of_cell? w _ hx433_0)).trans hx433_0
       replace hx433_1 := (HB.out.cell (World.block_lt_of_cell? w _ hx433_1)).trans hx433_1
       replace p433 := eq_true p433
       replace q433 := eq_true q433
       obtain ⟨hcz74_0, hcz74_1, hcz74_2, hcz74_3, hcz74_4, hcz74_5, hcz74_6, hcz74_7, hcz74_8, hcz74_9, hcz74_10, hcz74_11⟩ := bc12_ BK429.out
       obtain ⟨hfz74_0, hfz74_1, hfz74_2, hfz74_3, hfz74_4, hfz74_5, hfz74_6, hfz74_7, hfz74_8, hfz74_9, hfz74_10, hfz74_11⟩ := bf12_ BK429.out
       have p434 : 0 ≤ (x6_4 : Int) := of_decide_eq_true m38_
       have q434 : x6_4 < (l1_7.length : Int) := of_decide_eq_true m38_
       obtain ⟨ad434, e434, hx434_0, hx434_1⟩ := at_T74 HR1_7.out x6_4 p434 q434
       cases e434
       replace hx434_0 := (HB.out.cell (World.block_lt_of_cell? w _ hx434_0)).trans hx434_0
       replace hx434_1 := (HB.out.cell (World.block_lt_of_cell? w _ hx434_1)).trans hx434_1
       replace p434 := eq_true p434
       replace q434 := eq_true q434
       go_wp2
       repeat (go_quiet (fail); try go_wp2)
       go_ret
       exact ⟨by first | rfl | (simp [errW_none, errW_some] <;> rfl) | (simp [*, errW_none, errW_some] <;> rfl), m45_⟩
      rw [if_neg c71] at H
      have c71b0 : (!(((rd_T74 l0_7 x6_4).f0) == ((rd_T74 l1_7 x6_4).f0)) || (!(((rd_T74 l0_7 x6_4).f1) == ((rd_T74 l1_7 x6_4).f1)))) = false := by simpa using c71
      clear c71
      have H' := Aside0.mk H
      clear H
      have hnb75 := NB428_429.out
      have hnc75 := NB429_428.out
      obtain ⟨hcz76_0, hcz76_1, hcz76_2, hcz76_3, hcz76_4, hcz76_5, hcz76_6, hcz76_7, hcz76_8, hcz76_9, hcz76_10, hcz76_11⟩ := bc12_ BK428.out
      obtain ⟨hfz76_0, hfz76_1, hfz76_2, hfz76_3, hfz76_4, hfz76_5, hfz76_6, hfz76_7, hfz76_8, hfz76_9, hfz76_10, hfz76_11⟩ := bf12_ BK428.out
      have p433 : 0 ≤ (x6_4 : Int) := of_decide_eq_true m38_
      have q433 : x6_4 < (l0_7.length : Int) := of_decide_eq_true m38_
      obtain ⟨ad433, e433, hx433_0, hx433_1⟩ := at_T74 HR0_7.out x6_4 p433 q433
      cases e433
      replace hx433_0 := (HB.out.cell (World.block_lt_of_cell? w _ hx433_0)).trans hx433_0
      replace hx433_1 := (HB.out.cell (World.block_lt_of_cell? w _ hx433_1)).trans hx433_1
      replace p433 := eq_true p433
      replace q433 := eq_true q433
      obtain ⟨hcz77_0, hcz77_1, hcz77_2, hcz77_3, hcz77_4, hcz77_5, hcz77_6, hcz77_7, hcz77_8, hcz77_9, hcz77_10, hcz77_11⟩ := bc12_ BK429.out
      obtain ⟨hfz77_0, hfz77_1, hfz77_2, hfz77_3, hfz77_4, hfz77_5, hfz77_6, hfz77_7, hfz77_8, hfz77_9, hfz77_10, hfz77_11⟩ := bf12_ BK429.out
      have p434 : 0 ≤ (x6_4 : Int) := of_decide_eq_true m38_
      have q434 : x6_4 < (l1_7.length : Int) := of_decide_eq_true m38_
      obtain ⟨ad434, e434, hx434_0, hx434_1⟩ := at_T74 HR1_7.out x6_4 p434 q434
      cases e434
      replace hx434_0 := (HB.out.cell (World.block_lt_of_cell? w _ hx434_0)).trans hx434_0
      replace hx434_1 := (HB.out.cell (World.block_lt_of_cell? w _ hx434_1)).trans hx434_1
      replace p434 := eq_true p434
      replace q434 := eq_true q434
      go_wp2
      repeat (go_quiet (fail); try go_wp2)
      go_roundg k4
      case measure => have := HJ2.out; have := HJ42.out; have := HK3.out; have := HK4.out; omega
      case rel => exact ⟨(wrap64 (x6_4 + 1)), m39_, H', ⟨by have := HJ2.out; have := HJ42.out; have := HK3.out; have := HK4.out; omega⟩, ⟨by refine bD_ ?_; exact BK428.out⟩, ⟨by refine bD_ ?_; exact BK429.out⟩, ⟨m45_⟩⟩
     rw [if_neg c68] at H
     have c68b0 : decide (x6_4 < (l0_7.length : Int)) = false := decide_eq_false c68
     clear c68
     have H' := Aside0.mk H
     clear H
     have hnb78 := NB428_429.out
     have hnc78 := NB429_428.out
     obtain ⟨hcz79_0, hcz79_1, hcz79_2, hcz79_3, hcz79_4, hcz79_5, hcz79_6, hcz79_7, hcz79_8, hcz79_9, hcz79_10, hcz79_11⟩ := bc12_ BK428.out
     obtain ⟨hfz79_0, hfz79_1, hfz79_2, hfz79_3, hfz79_4, hfz79_5, hfz79_6, hfz79_7, hfz79_8, hfz79_9, hfz79_10, hfz79_11⟩ := bf12_ BK428.out
     go_wp2
     repeat (go_quiet (fail); try go_wp2)
     go_loopg [7] k4 (fun kq v7 w' => ∃ (x7_5 : Int), v7 = .int .i64 x7_5 ∧ Aside0 (strongroomref25_SameReplies.l2 kq x7_5 a0_0 a0_1 a0_2 l0_3 a0_4 a0_5 l0_6 l0_7 a0_8 l0_9 a0_10 a0_11 a1_0 a1_1 a1_2 l1_3 a1_4 a1_5 l1_6 l1_7 a1_8 l1_9 a1_10 a1_11 = some r) ∧ Aside0 (kq ≤ k4) ∧ Aside0 (w'.heap[gb428]? = some (.cells #[.int .i64 a0_0, .int .i64 a0_1, .int .i64 a0_2, (.slice A0_3 l0_3.length c0_3), .string a0_4, .string a0_5, (.slice A0_6 l0_6.length c0_6), (.slice A0_7 l0_7.length c0_7), .string a0_8, (.slice A0_9 l0_9.length c0_9), .int .i64 a0_10, .int .i64 a0_11] 34 (0, 0))) ∧ Aside0 (w'.heap[gb429]? = some (.cells #[.int .i64 a1_0, .int .i64 a1_1, .int .i64 a1_2, (.slice A1_3 l1_3.length c1_3), .string a1_4, .string a1_5, (.slice A1_6 l1_6.length c1_6), (.slice A1_7 l1_7.length c1_7), .string a1_8, (.slice A1_9 l1_9.length c1_9), .int .i64 a1_10, .int .i64 a1_11] 34 (0, 0))) ∧ Aside0 (Below w.heap.size w w'))
     case atStart => exact ⟨(0), m39_, H', ⟨Nat.le_refl _⟩, ⟨by refine bD_ ?_; exact BK428.out⟩, ⟨by refine bD_ ?_; exact BK429.out⟩, ⟨m45_⟩⟩
     clear H'
     try clear c68b0; try clear hcz79_0; try clear hcz79_1; try clear hcz79_10; try clear hcz79_11; try clear hcz79_2; try clear hcz79_3; try clear hcz79_4; try clear hcz79_5; try clear hcz79_6; try clear hcz79_7; try clear hcz79_8; try clear hcz79_9; try clear hfz79_0; try clear hfz79_1; try clear hfz79_10; try clear hfz79_11; try clear hfz79_2; try clear hfz79_3; try clear hfz79_4; try clear hfz79_5; try clear hfz79_6; try clear hfz79_7; try clear hfz79_8; try clear hfz79_9
     obtain ⟨x7_5, rfl, HA, HK5, BK428, BK429, HB⟩ := hrel
     cases gk with
     | zero => exact absurd HA.out (by simp [strongroomref25_SameReplies.l2])
     | succ k5 =>
      have H := HA.out
      clear HA
      simp only [strongroomref25_SameReplies.l2] at H
      by_cases c80 : x7_5 < (l0_9.length : Int)
      case neg =>
       rw [if_neg c80] at H
       have c80b0 : decide (x7_5 < (l0_9.length : Int)) = false := decide_eq_false c80
       clear c80
       obtain rfl := Option.some.inj H
       have hnb90 := NB428_429.out
       have hnc90 := NB429_428.out
       obtain ⟨hcz91_0, hcz91_1, hcz91_2, hcz91_3, hcz91_4, hcz91_5, hcz91_6, hcz91_7, hcz91_8, hcz91_9, hcz91_10, hcz91_11⟩ := bc12_ BK428.out
       obtain ⟨hfz91_0, hfz91_1, hfz91_2, hfz91_3, hfz91_4, hfz91_5, hfz91_6, hfz91_7, hfz91_8, hfz91_9, hfz91_10, hfz91_11⟩ := bf12_ BK428.out
       go_wp2
       repeat (go_quiet (fail); try go_wp2)
       go_ret
       exact ⟨by first | rfl | (simp [errW_none, errW_some] <;> rfl) | (simp [*, errW_none, errW_some] <;> rfl), m45_⟩
      rw [if_pos c80] at H
      have c80b0 : decide (x7_5 < (l0_9.length : Int)) = true := decide_eq_true c80
      clear c80
      by_cases c81 : 0 ≤ x7_5
      case neg =>
       rw [if_neg c81] at H
       exact absurd H (by simp)
      rw [if_pos c81] at H
      have c81b0 : decide (0 ≤ x7_5) = true := decide_eq_true c81
      clear c81
      by_cases c82 : x7_5 < (l1_9.length : Int)
      case neg =>
       rw [if_neg c82] at H
       exact absurd H (by simp)
      rw [if_pos c82] at H
      have c82b0 : decide (x7_5 < (l1_9.length : Int)) = true := decide_eq_true c82
      clear c82
      by_cases c83 : (!(((rd_T67 l0_9 x7_5).f0) == ((rd_T67 l1_9 x7_5).f0)) || (!(((rd_T67 l0_9 x7_5).f1) == ((rd_T67 l1_9 x7_5).f1)) || (!(((rd_T67 l0_9 x7_5).f2) == ((rd_T67 l1_9 x7_5).f2)) || (!((((rd_T67 l0_9 x7_5).f3).toList) == (((rd_T67 l1_9 x7_5).f3).toList)) || (!(((rd_T67 l0_9 x7_5).f4) == ((rd_T67 l1_9 x7_5).f4))))))) = true
      ·rw [if_pos c83] at H
       have c83b0 : (!(((rd_T67 l0_9 x7_5).f0) == ((rd_T67 l1_9 x7_5).f0)) || (!(((rd_T67 l0_9 x7_5).f1) == ((rd_T67 l1_9 x7_5).f1)) || (!(((rd_T67 l0_9 x7_5).f2) == ((rd_T67 l1_9 x7_5).f2)) || (!((((rd_T67 l0_9 x7_5).f3).toList) == (((rd_T67 l1_9 x7_5).f3).toList)) || (!(((rd_T67 l0_9 x7_5).f4) == ((rd_T67 l1_9 x7_5).f4))))))) = true := c83
       clear c83
       obtain rfl := Option.some.inj H
       have hnb84 := NB428_429.out
       have hnc84 := NB429_428.out
       obtain ⟨hcz85_0, hcz85_1, hcz85_2, hcz85_3, hcz85_4, hcz85_5, hcz85_6, hcz85_7, hcz85_8, hcz85_9, hcz85_10, hcz85_11⟩ := bc12_ BK428.out
       obtain ⟨hfz85_0, hfz85_1, hfz85_2, hfz85_3, hfz85_4, hfz85_5, hfz85_6, hfz85_7, hfz85_8, hfz85_9, hfz85_10, hfz85_11⟩ := bf12_ BK428.out
       have p435 : 0 ≤ (x7_5 : Int) := of_decide_eq_true m38_
       have q435 : x7_5 < (l0_9.length : Int) := of_decide_eq_true m38_
       obtain ⟨ad435, e435, hx435_0, hx435_1, hx435_2, hx435_3, hx435_4⟩ := at_T67 HR0_9.out x7_5 p435 q435
       cases e435
       replace hx435_0 := (HB.out.cell (World.block_lt_of_cell? w _ hx435_0)).trans hx435_0
       replace hx435_1 := (HB.out.cell (World.block_lt_of_cell? w _ hx435_1)).trans hx435_1
       replace hx435_2 := (HB.out.cell (World.block_lt_of_cell? w _ hx435_2)).trans hx435_2
       replace hx435_3 := (HB.out.cell (World.block_lt_of_cell? w _ hx435_3)).trans hx435_3
       replace hx435_4 := (HB.out.cell (World.block_lt_of_cell? w _ hx435_4)).trans hx435_4
       replace p435 := eq_true p435
       replace q435 := eq_true q435
       obtain ⟨hcz86_0, hcz86_1, hcz86_2, hcz86_3, hcz86_4, hcz86_5, hcz86_6, hcz86_7, hcz86_8, hcz86_9, hcz86_10, hcz86_11⟩ := bc12_ BK429.out
       obtain ⟨hfz86_0, hfz86_1, hfz86_2, hfz86_3, hfz86_4, hfz86_5, hfz86_6, hfz86_7, hfz86_8, hfz86_9, hfz86_10, hfz86_11⟩ := bf12_ BK429.out
       have p436 : 0 ≤ (x7_5 : Int) := of_decide_eq_true m38_
       have q436 : x7_5 < (l1_9.length : Int) := of_decide_eq_true m38_
       obtain ⟨ad436, e436, hx436_0, hx436_1, hx436_2, hx436_3, hx436_4⟩ := at_T67 HR1_9.out x7_5 p436 q436
       cases e436
       replace hx436_0 := (HB.out.cell (World.block_lt_of_cell? w _ hx436_0)).trans hx436_0
       replace hx436_1 := (HB.out.cell (World.block_lt_of_cell? w _ hx436_1)).trans hx436_1
       replace hx436_2 := (HB.out.cell (World.block_lt_of_cell? w _ hx436_2)).trans hx436_2
       replace hx436_3 := (HB.out.cell (World.block_lt_of_cell? w _ hx436_3)).trans hx436_3
       replace hx436_4 := (HB.out.cell (World.block_lt_of_cell? w _ hx436_4)).trans hx436_4
       replace p436 := eq_true p436
       replace q436 := eq_true q436
       go_wp2
       repeat (go_quiet (fail); try go_wp2)
       go_ret
       exact ⟨by first | rfl | (simp [errW_none, errW_some] <;> rfl) | (simp [*, errW_none, errW_some] <;> rfl), m45_⟩
      rw [if_neg c83] at H
      have c83b0 : (!(((rd_T67 l0_9 x7_5).f0) == ((rd_T67 l1_9 x7_5).f0)) || (!(((rd_T67 l0_9 x7_5).f1) == ((rd_T67 l1_9 x7_5).f1)) || (!(((rd_T67 l0_9 x7_5).f2) == ((rd_T67 l1_9 x7_5).f2)) || (!((((rd_T67 l0_9 x7_5).f3).toList) == (((rd_T67 l1_9 x7_5).f3).toList)) || (!(((rd_T67 l0_9 x7_5).f4) == ((rd_T67 l1_9 x7_5).f4))))))) = false := by simpa using c83
      clear c83
      have H' := Aside0.mk H
      clear H
      have hnb87 := NB428_429.out
      have hnc87 := NB429_428.out
      obtain ⟨hcz88_0, hcz88_1, hcz88_2, hcz88_3, hcz88_4, hcz88_5, hcz88_6, hcz88_7, hcz88_8, hcz88_9, hcz88_10, hcz88_11⟩ := bc12_ BK428.out
      obtain ⟨hfz88_0, hfz88_1, hfz88_2, hfz88_3, hfz88_4, hfz88_5, hfz88_6, hfz88_7, hfz88_8, hfz88_9, hfz88_10, hfz88_11⟩ := bf12_ BK428.out
      have p435 : 0 ≤ (x7_5 : Int) := of_decide_eq_true m38_
      have q435 : x7_5 < (l0_9.length : Int) := of_decide_eq_true m38_
      obtain ⟨ad435, e435, hx435_0, hx435_1, hx435_2, hx435_3, hx435_4⟩ := at_T67 HR0_9.out x7_5 p435 q435
      cases e435
      replace hx435_0 := (HB.out.cell (World.block_lt_of_cell? w _ hx435_0)).trans hx435_0
      replace hx435_1 := (HB.out.cell (World.block_lt_of_cell? w _ hx435_1)).trans hx435_1
      replace hx435_2 := (HB.out.cell (World.block_lt_of_cell? w _ hx435_2)).trans hx435_2
      replace hx435_3 := (HB.out.cell (World.block_lt_of_cell? w _ hx435_3)).trans hx435_3
      replace hx435_4 := (HB.out.cell (World.block_lt_of_cell? w _ hx435_4)).trans hx435_4
      replace p435 := eq_true p435
      replace q435 := eq_true q435
      obtain ⟨hcz89_0, hcz89_1, hcz89_2, hcz89_3, hcz89_4, hcz89_5, hcz89_6, hcz89_7, hcz89_8, hcz89_9, hcz89_10, hcz89_11⟩ := bc12_ BK429.out
      obtain ⟨hfz89_0, hfz89_1, hfz89_2, hfz89_3, hfz89_4, hfz89_5, hfz89_6, hfz89_7, hfz89_8, hfz89_9, hfz89_10, hfz89_11⟩ := bf12_ BK429.out
      have p436 : 0 ≤ (x7_5 : Int) := of_decide_eq_true m38_
      have q436 : x7_5 < (l1_9.length : Int) := of_decide_eq_true m38_
      obtain ⟨ad436, e436, hx436_0, hx436_1, hx436_2, hx436_3, hx436_4⟩ := at_T67 HR1_9.out x7_5 p436 q436
      cases e436
      replace hx436_0 := (HB.out.cell (World.block_lt_of_cell? w _ hx436_0)).trans hx436_0
      replace hx436_1 := (HB.out.cell (World.block_lt_of_cell? w _ hx436_1)).trans hx436_1
      replace hx436_2 := (HB.out.cell (World.block_lt_of_cell? w _ hx436_2)).trans hx436_2
      replace hx436_3 := (HB.out.cell (World.block_lt_of_cell? w _ hx436_3)).trans hx436_3
      replace hx436_4 := (HB.out.cell (World.block_lt_of_cell? w _ hx436_4)).trans hx436_4
      replace p436 := eq_true p436
      replace q436 := eq_true q436
      go_wp2
      repeat (go_quiet (fail); try go_wp2)
      go_roundg k5
      case measure => have := HJ2.out; have := HJ42.out; have := HK3.out; have := HK4.out; have := HK5.out; omega
      case rel => exact ⟨(wrap64 (x7_5 + 1)), m39_, H', ⟨by have := HJ2.out; have := HJ42.out; have := HK3.out; have := HK4.out; have := HK5.out; omega⟩, ⟨by refine bD_ ?_; exact BK428.out⟩, ⟨by refine bD_ ?_; exact BK429.out⟩, ⟨m45_⟩⟩

end Go.Proofs.YtoankokkdmbjmaaDoorH.HFrameReplies
