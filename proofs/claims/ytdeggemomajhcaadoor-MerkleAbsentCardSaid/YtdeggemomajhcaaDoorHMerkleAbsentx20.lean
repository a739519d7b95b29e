-- PRINTED by print.py (a twelfth state) out of the translation. Not trusted: Lean checks it.
import Derived.Test.YtdeggemomajhcaaDoorHMerkleAbsentx0
import Derived.Test.YtdeggemomajhcaaDoorHMerkleAbsentx4
import Derived.Test.YtdeggemomajhcaaDoorHMerkleAbsentx6
import Derived.Test.YtdeggemomajhcaaDoorHMerkleAbsentx9
import Derived.Test.YtdeggemomajhcaaDoorHMerkleAbsentx11
import Derived.Test.YtdeggemomajhcaaDoorHMerkleAbsentx12
import Derived.Test.YtdeggemomajhcaaDoorHMerkleAbsentx17
import Derived.Test.YtdeggemomajhcaaDoorHMerkleAbsentx18
import Derived.Test.YtdeggemomajhcaaDoorHMerkleAbsentx19
namespace Go.Proofs.YtdeggemomajhcaaDoorH.HMerkleAbsent
open Go.RowKit Go.Proofs.YtdeggemomajhcaaDoorW.PrintWords Go.Proofs.YtdeggemomajhcaaDoorW.PrintLast Go.Proofs.YtdeggemomajhcaaDoorW.PrintMore
attribute [local go_sem] max2_int min2_int max_two min_two max_three min_three max_four min_four   -- for this text's walks alone
set_option linter.unusedVariables false
set_option linter.unusedSimpArgs false

/-! ### strongroomlaw20_MerkleAbsent: function 10 -/
mutual
def strongroomlaw20_MerkleAbsent.j0 : Nat → List (S39) → ByteArray → Bool → Option (Bool)
 | 0, _, _, _ => none
 | k + 1, x0, x1, x21 => if x21 = true then ((strongroomlaw20_lives.f k).bind fun t333 => (some t333)) else ((strongroomlaw20_mine.f k x0).bind fun t334 => ((merkle_Find.f k t334 x1).bind fun bt337 => ((merkle_Absent.f k t334 x1).bind fun bt339 => ((strongroomlaw20_list.f k x0).bind fun t352 => (if t352 = true then ((strongroomref20_Find.f k x0 x1).bind fun bt355 => (if bt337.1 = bt355.1 then (strongroomlaw20_MerkleAbsent.j1 k x1 t334 bt337.1 bt339.2.2.2.2.2.2.2 bt355.2 (bt337.2 != bt355.2) bt339.1 bt339.2.1 bt339.2.2.1 bt339.2.2.2.1 bt339.2.2.2.2.1 bt339.2.2.2.2.2.1 bt339.2.2.2.2.2.2.1) else (strongroomlaw20_MerkleAbsent.j1 k x1 t334 bt337.1 bt339.2.2.2.2.2.2.2 bt355.2 true bt339.1 bt339.2.1 bt339.2.2.1 bt339.2.2.2.1 bt339.2.2.2.2.1 bt339.2.2.2.2.2.1 bt339.2.2.2.2.2.2.1))) else (if bt337.1 = 0 then (if bt337.2 = true then (some false) else ((strongroomref20_Why.f k x0).bind fun t353 => (if bt339.2.2.2.2.2.2.2 = t353 then ((strongroomlaw20_lives.f k).bind fun t354 => (some t354)) else (some false)))) else (some false)))))))
def strongroomlaw20_MerkleAbsent.j1 : Nat → ByteArray → List (S44) → Int → Int → Bool → Bool → Int → ByteArray → ByteArray → ByteArray → ByteArray → List ByteArray → List ByteArray → Option (Bool)
 | 0, _, _, _, _, _, _, _, _, _, _, _, _, _ => none
 | k + 1, x1, x5, x6, x9, x11, x68, x352000, x352001, x352002, x352003, x352004, x352005, x352006 => if x68 = true then (some false) else (if x9 = 0 then ((merkle_Digest.f k x5).bind fun t359 => (if x352000 = x6 then ((merkle_Missing.f k t359 (x5.length : Int) x1 x352000 x352001 x352002 x352003 x352004 x352005 x352006).bind fun t360 => (if t360 = true then ((strongroomlaw20_absence.f x352000 x352001 x352002 x352003 x352004 x352005 x352006).bind fun _ => ((strongroomref20_Missing.f k t359 (x5.length : Int) x1 x352000 x352001 x352002 x352003 x352004 x352005 x352006).bind fun t361 => (strongroomlaw20_MerkleAbsent.j2 k x1 x5 x6 t359 (!t361) x352000 x352001 x352002 x352003 x352004 x352005 x352006))) else (strongroomlaw20_MerkleAbsent.j2 k x1 x5 x6 t359 true x352000 x352001 x352002 x352003 x352004 x352005 x352006))) else (strongroomlaw20_MerkleAbsent.j2 k x1 x5 x6 t359 true x352000 x352001 x352002 x352003 x352004 x352005 x352006))) else (if ((x9 == 7) == x11) = true then (if x11 = true then ((strongroomlaw20_lives.f k).bind fun t357 => (some t357)) else (if x9 = 1 then ((strongroomlaw20_lives.f k).bind fun t358 => (some t358)) else (some false))) else (some false)))
def strongroomlaw20_MerkleAbsent.j2 : Nat → ByteArray → List (S44) → Int → ByteArray → Bool → Int → ByteArray → ByteArray → ByteArray → ByteArray → List ByteArray → List ByteArray → Option (Bool)
 | 0, _, _, _, _, _, _, _, _, _, _, _, _ => none
 | k + 1, x1, x5, x6, x12, x109, x352000, x352001, x352002, x352003, x352004, x352005, x352006 => if x109 = true then (some false) else (strongroomlaw20_MerkleAbsent.l0 k x1 x5 x6 x12 0 x352000 x352001 x352002 x352003 x352004 x352005 x352006)
def strongroomlaw20_MerkleAbsent.l0 : Nat → ByteArray → List (S44) → Int → ByteArray → Int → Int → ByteArray → ByteArray → ByteArray → ByteArray → List ByteArray → List ByteArray → Option (Bool)
 | 0, _, _, _, _, _, _, _, _, _, _, _, _ => none
 | k + 1, x1, x5, x6, x12, x13, x352000, x352001, x352002, x352003, x352004, x352005, x352006 => if x13 < (x5.length : Int) then (if 0 ≤ x13 then ((merkle_Missing.f k x12 (x5.length : Int) ((rd_T44 x5 x13).f0) x352000 x352001 x352002 x352003 x352004 x352005 x352006).bind fun t364 => (if t364 = true then (if x13 = (wrap64 (x6 - 1)) then (if (Op.bytesLess (((rd_T44 x5 x13).f0).toList) x1.toList) = true then (if x13 = x6 then (if (Op.bytesLess x1.toList (((rd_T44 x5 x13).f0).toList)) = true then (some false) else (strongroomlaw20_MerkleAbsent.l0 k x1 x5 x6 x12 (wrap64 (x13 + 1)) x352000 x352001 x352002 x352003 x352004 x352005 x352006)) else (some false)) else (strongroomlaw20_MerkleAbsent.l0 k x1 x5 x6 x12 (wrap64 (x13 + 1)) x352000 x352001 x352002 x352003 x352004 x352005 x352006)) else (if x13 = x6 then (if (Op.bytesLess x1.toList (((rd_T44 x5 x13).f0).toList)) = true then (some false) else (strongroomlaw20_MerkleAbsent.l0 k x1 x5 x6 x12 (wrap64 (x13 + 1)) x352000 x352001 x352002 x352003 x352004 x352005 x352006)) else (some false))) else (strongroomlaw20_MerkleAbsent.l0 k x1 x5 x6 x12 (wrap64 (x13 + 1)) x352000 x352001 x352002 x352003 x352004 x352005 x352006))) else (none)) else ((strongroomlaw20_lives.f k).bind fun t362 => (some t362))
end
def strongroomlaw20_MerkleAbsent.f (k : Nat) (l0 : List (S39)) (a1 : ByteArray) : Option (Bool) := (strongroomlaw20_small.f k l0).bind fun t332 => (if t332 = true then (strongroomlaw20_MerkleAbsent.j0 k l0 a1 (decide ((a1.size : Int) > 200))) else (strongroomlaw20_MerkleAbsent.j0 k l0 a1 true))
theorem strongroomlaw20_MerkleAbsent.mono_l : ∀ k, (∀ y0 y1 y2, LeO (strongroomlaw20_MerkleAbsent.j0 k y0 y1 y2) (strongroomlaw20_MerkleAbsent.j0 (k + 1) y0 y1 y2)) ∧ (∀ y0 y1 y2 y3 y4 y5 y6 y7 y8 y9 y10 y11 y12, LeO (strongroomlaw20_MerkleAbsent.j1 k y0 y1 y2 y3 y4 y5 y6 y7 y8 y9 y10 y11 y12) (strongroomlaw20_MerkleAbsent.j1 (k + 1) y0 y1 y2 y3 y4 y5 y6 y7 y8 y9 y10 y11 y12)) ∧ (∀ y0 y1 y2 y3 y4 y5 y6 y7 y8 y9 y10 y11, LeO (strongroomlaw20_MerkleAbsent.j2 k y0 y1 y2 y3 y4 y5 y6 y7 y8 y9 y10 y11) (strongroomlaw20_MerkleAbsent.j2 (k + 1) y0 y1 y2 y3 y4 y5 y6 y7 y8 y9 y10 y11)) ∧ (∀ y0 y1 y2 y3 y4 y5 y6 y7 y8 y9 y10 y11, LeO (strongroomlaw20_MerkleAbsent.l0 k y0 y1 y2 y3 y4 y5 y6 y7 y8 y9 y10 y11) (strongroomlaw20_MerkleAbsent.l0 (k + 1) y0 y1 y2 y3 y4 y5 y6 y7 y8 y9 y10 y11))
 | 0 => ⟨fun _ _ _ r h => by simp [strongroomlaw20_MerkleAbsent.j0] at h, fun _ _ _ _ _ _ _ _ _ _ _ _ _ r h => by simp [strongroomlaw20_MerkleAbsent.j1] at h, fun _ _ _ _ _ _ _ _ _ _ _ _ r h => by simp [strongroomlaw20_MerkleAbsent.j2] at h, fun _ _ _ _ _ _ _ _ _ _ _ _ r h => by simp [strongroomlaw20_MerkleAbsent.l0] at h⟩
 | k + 1 => by
  obtain ⟨ih0, ih1, ih2, ih3⟩ := strongroomlaw20_MerkleAbsent.mono_l k
  refine ⟨?_, ?_, ?_, ?_⟩
  ·intro y0 y1 y2
   unfold strongroomlaw20_MerkleAbsent.j0
   repeat' first
   | (with_reducible exact ih0 _ _ _)
   | (with_reducible exact ih1 _ _ _ _ _ _ _ _ _ _ _ _ _)
   | (with_reducible exact ih2 _ _ _ _ _ _ _ _ _ _ _ _)
   | (with_reducible exact ih3 _ _ _ _ _ _ _ _ _ _ _ _)
   | (with_reducible exact merkle_Absent.mono _ _ _)
   | (with_reducible exact merkle_Digest.mono _ _)
   | (with_reducible exact merkle_Find.mono _ _ _)
   | (with_reducible exact merkle_Missing.mono _ _ _ _ _ _ _ _ _ _ _)
   | (with_reducible exact strongroomlaw20_list.mono _ _)
   | (with_reducible exact strongroomlaw20_lives.mono _)
   | (with_reducible exact strongroomlaw20_mine.mono _ _)
   | (with_reducible exact strongroomlaw20_small.mono _ _)
   | (with_reducible exact strongroomref20_Find.mono _ _ _)
   | (with_reducible exact strongroomref20_Missing.mono _ _ _ _ _ _ _ _ _ _ _)
   | (with_reducible exact strongroomref20_Why.mono _ _)
   | (with_reducible exact LeO.refl _)
   | (with_reducible exact LeO.none _)
   | (with_reducible refine LeO.ite ?_ ?_)
   | (with_reducible refine LeO.bind ?_ (fun _ => ?_))
   | exact ih0 _ _ _
   | exact ih1 _ _ _ _ _ _ _ _ _ _ _ _ _
   | exact ih2 _ _ _ _ _ _ _ _ _ _ _ _
   | exact ih3 _ _ _ _ _ _ _ _ _ _ _ _
   | exact merkle_Absent.mono _ _ _
   | exact merkle_Digest.mono _ _
   | exact merkle_Find.mono _ _ _
   | exact merkle_Missing.mono _ _ _ _ _ _ _ _ _ _ _
   | exact strongroomlaw20_list.mono _ _
   | exact strongroomlaw20_lives.mono _
   | exact strongroomlaw20_mine.mono _ _
   | exact strongroomlaw20_small.mono _ _
   | exact strongroomref20_Find.mono _ _ _
   | exact strongroomref20_Missing.mono _ _ _ _ _ _ _ _ _ _ _
   | exact strongroomref20_Why.mono _ _
   | exact LeO.none _
   | refine LeO.ite ?_ ?_
   | refine LeO.bind ?_ (fun _ => ?_)
  ·intro y0 y1 y2 y3 y4 y5 y6 y7 y8 y9 y10 y11 y12
   unfold strongroomlaw20_MerkleAbsent.j1
   repeat' first
   | (with_reducible exact ih0 _ _ _)
   | (with_reducible exact ih1 _ _ _ _ _ _ _ _ _ _ _ _ _)
   | (with_reducible exact ih2 _ _ _ _ _ _ _ _ _ _ _ _)
   | (with_reducible exact ih3 _ _ _ _ _ _ _ _ _ _ _ _)
   | (with_reducible exact merkle_Absent.mono _ _ _)
   | (with_reducible exact merkle_Digest.mono _ _)
   | (with_reducible exact merkle_Find.mono _ _ _)
   | (with_reducible exact merkle_Missing.mono _ _ _ _ _ _ _ _ _ _ _)
   | (with_reducible exact strongroomlaw20_list.mono _ _)
   | (with_reducible exact strongroomlaw20_lives.mono _)
   | (with_reducible exact strongroomlaw20_mine.mono _ _)
   | (with_reducible exact strongroomlaw20_small.mono _ _)
   | (with_reducible exact strongroomref20_Find.mono _ _ _)
   | (with_reducible exact strongroomref20_Missing.mono _ _ _ _ _ _ _ _ _ _ _)
   | (with_reducible exact strongroomref20_Why.mono _ _)
   | (with_reducible exact LeO.refl _)
   | (with_reducible exact LeO.none _)
   | (with_reducible refine LeO.ite ?_ ?_)
   | (with_reducible refine LeO.bind ?_ (fun _ => ?_))
   | exact ih0 _ _ _
   | exact ih1 _ _ _ _ _ _ _ _ _ _ _ _ _
   | exact ih2 _ _ _ _ _ _ _ _ _ _ _ _
   | exact ih3 _ _ _ _ _ _ _ _ _ _ _ _
   | exact merkle_Absent.mono _ _ _
   | exact merkle_Digest.mono _ _
   | exact merkle_Find.mono _ _ _
   | exact merkle_Missing.mono _ _ _ _ _ _ _ _ _ _ _
   | exact strongroomlaw20_list.mono _ _
   | exact strongroomlaw20_lives.mono _
   | exact strongroomlaw20_mine.mono _ _
   | exact strongroomlaw20_small.mono _ _
   | exact strongroomref20_Find.mono _ _ _
   | exact strongroomref20_Missing.mono _ _ _ _ _ _ _ _ _ _ _
   | exact strongroomref20_Why.mono _ _
   | exact LeO.none _
   | refine LeO.ite ?_ ?_
   | refine LeO.bind ?_ (fun _ => ?_)
  ·intro y0 y1 y2 y3 y4 y5 y6 y7 y8 y9 y10 y11
   unfold strongroomlaw20_MerkleAbsent.j2
   repeat' first
   | (with_reducible exact ih0 _ _ _)
   | (with_reducible exact ih1 _ _ _ _ _ _ _ _ _ _ _ _ _)
   | (with_reducible exact ih2 _ _ _ _ _ _ _ _ _ _ _ _)
   | (with_reducible exact ih3 _ _ _ _ _ _ _ _ _ _ _ _)
   | (with_reducible exact merkle_Absent.mono _ _ _)
   | (with_reducible exact merkle_Digest.mono _ _)
   | (with_reducible exact merkle_Find.mono _ _ _)
   | (with_reducible exact merkle_Missing.mono _ _ _ _ _ _ _ _ _ _ _)
   | (with_reducible exact strongroomlaw20_list.mono _ _)
   | (with_reducible exact strongroomlaw20_lives.mono _)
   | (with_reducible exact strongroomlaw20_mine.mono _ _)
   | (with_reducible exact strongroomlaw20_small.mono _ _)
   | (with_reducible exact strongroomref20_Find.mono _ _ _)
   | (with_reducible exact strongroomref20_Missing.mono _ _ _ _ _ _ _ _ _ _ _)
   | (with_reducible exact strongroomref20_Why.mono _ _)
   | (with_reducible exact LeO.refl _)
   | (with_reducible exact LeO.none _)
   | (with_reducible refine LeO.ite ?_ ?_)
   | (with_reducible refine LeO.bind ?_ (fun _ => ?_))
   | exact ih0 _ _ _
   | exact ih1 _ _ _ _ _ _ _ _ _ _ _ _ _
   | exact ih2 _ _ _ _ _ _ _ _ _ _ _ _
   | exact ih3 _ _ _ _ _ _ _ _ _ _ _ _
   | exact merkle_Absent.mono _ _ _
   | exact merkle_Digest.mono _ _
   | exact merkle_Find.mono _ _ _
   | exact merkle_Missing.mono _ _ _ _ _ _ _ _ _ _ _
   | exact strongroomlaw20_list.mono _ _
   | exact strongroomlaw20_lives.mono _
   | exact strongroomlaw20_mine.mono _ _
   | exact strongroomlaw20_small.mono _ _
   | exact strongroomref20_Find.mono _ _ _
   | exact strongroomref20_Missing.mono _ _ _ _ _ _ _ _ _ _ _
   | exact strongroomref20_Why.mono _ _
   | exact LeO.none _
   | refine LeO.ite ?_ ?_
   | refine LeO.bind ?_ (fun _ => ?_)
  ·intro y0 y1 y2 y3 y4 y5 y6 y7 y8 y9 y10 y11
   unfold strongroomlaw20_MerkleAbsent.l0
   repeat' first
   | (with_reducible exact ih0 _ _ _)
   | (with_reducible exact ih1 _ _ _ _ _ _ _ _ _ _ _ _ _)
   | (with_reducible exact ih2 _ _ _ _ _ _ _ _ _ _ _ _)
   | (with_reducible exact ih3 _ _ _ _ _ _ _ _ _ _ _ _)
   | (with_reducible exact merkle_Absent.mono _ _ _)
   | (with_reducible exact merkle_Digest.mono _ _)
   | (with_reducible exact merkle_Find.mono _ _ _)
   | (with_reducible exact merkle_Missing.mono _ _ _ _ _ _ _ _ _ _ _)
   | (with_reducible exact strongroomlaw20_list.mono _ _)
   | (with_reducible exact strongroomlaw20_lives.mono _)
   | (with_reducible exact strongroomlaw20_mine.mono _ _)
   | (with_reducible exact strongroomlaw20_small.mono _ _)
   | (with_reducible exact strongroomref20_Find.mono _ _ _)
   | (with_reducible exact strongroomref20_Missing.mono _ _ _ _ _ _ _ _ _ _ _)
   | (with_reducible exact strongroomref20_Why.mono _ _)
   | (with_reducible exact LeO.refl _)
   | (with_reducible exact LeO.none _)
   | (with_reducible refine LeO.ite ?_ ?_)
   | (with_reducible refine LeO.bind ?_ (fun _ => ?_))
   | exact ih0 _ _ _
   | exact ih1 _ _ _ _ _ _ _ _ _ _ _ _ _
   | exact ih2 _ _ _ _ _ _ _ _ _ _ _ _
   | exact ih3 _ _ _ _ _ _ _ _ _ _ _ _
   | exact merkle_Absent.mono _ _ _
   | exact merkle_Digest.mono _ _
   | exact merkle_Find.mono _ _ _
   | exact merkle_Missing.mono _ _ _ _ _ _ _ _ _ _ _
   | exact strongroomlaw20_list.mono _ _
   | exact strongroomlaw20_lives.mono _
   | exact strongroomlaw20_mine.mono _ _
   | exact strongroomlaw20_small.mono _ _
   | exact strongroomref20_Find.mono _ _ _
   | exact strongroomref20_Missing.mono _ _ _ _ _ _ _ _ _ _ _
   | exact strongroomref20_Why.mono _ _
   | exact LeO.none _
   | refine LeO.ite ?_ ?_
   | refine LeO.bind ?_ (fun _ => ?_)
theorem strongroomlaw20_MerkleAbsent.mono : ∀ a0 a1 k, LeO (strongroomlaw20_MerkleAbsent.f k a0 a1) (strongroomlaw20_MerkleAbsent.f (k + 1) a0 a1) := by
 intro a0 a1 k
 obtain ⟨ih0, ih1, ih2, ih3⟩ := strongroomlaw20_MerkleAbsent.mono_l k
 unfold strongroomlaw20_MerkleAbsent.f
 repeat' first
   | (with_reducible exact ih0 _ _ _)
   | (with_reducible exact ih1 _ _ _ _ _ _ _ _ _ _ _ _ _)
   | (with_reducible exact ih2 _ _ _ _ _ _ _ _ _ _ _ _)
   | (with_reducible exact ih3 _ _ _ _ _ _ _ _ _ _ _ _)
   | (with_reducible exact merkle_Absent.mono _ _ _)
   | (with_reducible exact merkle_Digest.mono _ _)
   | (with_reducible exact merkle_Find.mono _ _ _)
   | (with_reducible exact merkle_Missing.mono _ _ _ _ _ _ _ _ _ _ _)
   | (with_reducible exact strongroomlaw20_list.mono _ _)
   | (with_reducible exact strongroomlaw20_lives.mono _)
   | (with_reducible exact strongroomlaw20_mine.mono _ _)
   | (with_reducible exact strongroomlaw20_small.mono _ _)
   | (with_reducible exact strongroomref20_Find.mono _ _ _)
   | (with_reducible exact strongroomref20_Missing.mono _ _ _ _ _ _ _ _ _ _ _)
   | (with_reducible exact strongroomref20_Why.mono _ _)
   | (with_reducible exact LeO.refl _)
   | (with_reducible exact LeO.none _)
   | (with_reducible refine LeO.ite ?_ ?_)
   | (with_reducible refine LeO.bind ?_ (fun _ => ?_))
   | exact ih0 _ _ _
   | exact ih1 _ _ _ _ _ _ _ _ _ _ _ _ _
   | exact ih2 _ _ _ _ _ _ _ _ _ _ _ _
   | exact ih3 _ _ _ _ _ _ _ _ _ _ _ _
   | exact merkle_Absent.mono _ _ _
   | exact merkle_Digest.mono _ _
   | exact merkle_Find.mono _ _ _
   | exact merkle_Missing.mono _ _ _ _ _ _ _ _ _ _ _
   | exact strongroomlaw20_list.mono _ _
   | exact strongroomlaw20_lives.mono _
   | exact strongroomlaw20_mine.mono _ _
   | exact strongroomlaw20_small.mono _ _
   | exact strongroomref20_Find.mono _ _ _
   | exact strongroomref20_Missing.mono _ _ _ _ _ _ _ _ _ _ _
   | exact strongroomref20_Why.mono _ _
   | exact LeO.none _
   | refine LeO.ite ?_ ?_
   | refine LeO.bind ?_ (fun _ => ?_)
def strongroomlaw20_MerkleAbsent.T19 : Bool × List (List Nat × List Nat) := (true, [([], []), ([], []), ([1], [1]), ([], []), ([], []), ([3, 4], [3, 4]), ([5], [5]), ([6], [6]), ([], []), ([0, 2, 7, 8], [0, 2, 7, 8]), ([9, 9], [9]), ([10], [10]), ([10], [10]), ([12, 10], [10, 12]), ([11, 13, 10], [10, 11, 13]), ([14, 10, 10], [10, 14]), ([15], [15]), ([15], [15]), ([16, 17, 15], [15, 16, 17]), ([18, 15], [15, 18]), ([19, 15], [15, 19]), ([15], [15]), ([20, 21, 15], [15, 20, 21]), ([15, 22, 10], [10, 15, 22]), ([10, 23], [10, 23]), ([24, 15], [24]), ([25], [25]), ([25], [25]), ([26, 27, 25], [25, 26, 27]), ([28, 25, 25], [25, 28]), ([29], [29]), ([29], [29]), ([29], [29]), ([31, 32, 29], [29, 31, 32]), ([33, 29], [29, 33]), ([34, 29], [29, 34]), ([30, 35, 29], [29, 30, 35]), ([29, 36, 25], [25, 29, 36]), ([25, 37], [25, 37])])
def strongroomlaw20_MerkleAbsent.B19 : List Nat := [0, 0, 2, 0, 0, 24, 56, 120, 0, 511, 1023, 2047, 2047, 6143, 16383, 32767, 65535, 65535, 262143, 524287, 1048575, 65535, 4194303, 8388607, 16777215, 33554431, 67108863, 67108863, 268435455, 536870911, 1073741823, 1073741823, 1073741823, 7516192767, 16106127359, 33285996543, 68719476735, 137438953471, 274877906943]
theorem strongroomlaw20_MerkleAbsent.tab19 : rtab .any (opsOf Tryd.f10 19) = strongroomlaw20_MerkleAbsent.T19 := by kernel_rfl
theorem strongroomlaw20_MerkleAbsent.bits19 : waitsOk strongroomlaw20_MerkleAbsent.T19.2 strongroomlaw20_MerkleAbsent.B19 = true := by kernel_rfl
set_option maxHeartbeats 8000000 in
set_option maxRecDepth 100000 in
theorem strongroomlaw20_MerkleAbsent.calls (k : Nat) (A0 : Option Addr) (c0 : Nat) (l0 : List (S39)) (a1 : ByteArray) (r : Bool) (w : World) (hr0 : Kd.C k39 w A0 l0.length l0) (hc0 : l0.length ≤ c0) (h : strongroomlaw20_MerkleAbsent.f k l0 a1 = some r) (hr_ : r = true) :
  Calls Tryd.prog 10 #[.slice A0 l0.length c0, .string a1] w fun e w' => e = .returned (.bool r) ∧ Below w.heap.size w w' := by
 have hu57 := Tryd.underlying57
 have HR0 := Aside0.mk hr0
 have HC0 := Aside0.mk hc0
 clear hr0 hc0
 have HB := Aside0.mk (Below.refl w.heap.size w)
 have H : ((strongroomlaw20_small.f k l0).bind fun t332 => (if t332 = true then (strongroomlaw20_MerkleAbsent.j0 k l0 a1 (decide ((a1.size : Int) > 200))) else (strongroomlaw20_MerkleAbsent.j0 k l0 a1 true))) = some r := h
 clear h
 have HC3 := Aside0.mk H
 clear H
 go_enter Tryd.func10, Tryd.ntmps10
 go_upto_region 1 with (fail)
 go_cut [21] (fun v21 wc => ∃ (kq : Nat) (x21_2 : Bool), v21 = .bool x21_2 ∧ Aside0 (strongroomlaw20_MerkleAbsent.j0 kq l0 a1 x21_2 = some r) ∧ Aside0 (kq ≤ k) ∧ Aside0 (Below w.heap.size w wc))
 case first =>
  have H := HC3.out
  clear HC3
  replace H := Option.bind_eq_some_iff.mp H
  obtain ⟨t332, A40, H⟩ := H
  replace H : (if t332 = true then (strongroomlaw20_MerkleAbsent.j0 k l0 a1 (decide ((a1.size : Int) > 200))) else (strongroomlaw20_MerkleAbsent.j0 k l0 a1 true)) = some r := H
  have A4 := Aside0.mk A40
  clear A40
  by_cases c5 : t332 = true
  ·subst c5
   have H1 : (strongroomlaw20_MerkleAbsent.j0 k l0 a1 (decide ((a1.size : Int) > 200))) = some r := by rw [if_pos rfl] at H; exact H
   clear H
   have H := H1
   clear H1
   have H' := Aside0.mk H
   clear H
   go_wp2_with (first | ((with_reducible refine gate_callee (f := 11) rfl ?_); refine goesL_ (some 15) rfl rfl Tryd.func11 (by kernel_rfl) rfl #[.slice A0 l0.length c0] rfl m10_ ?_; (with_reducible refine (strongroomlaw20_small.calls k _ _ l0 true _ ?side1 ?side2 A4.out).mono ?_); (case side1 => exact m30_); (case side2 => exact HC0.out); rintro e w' ⟨rfl, ⟨nd, rfl⟩⟩; refine ⟨_, rfl, ?_⟩))
   go_meet
   case rel => exact ⟨_, (decide ((a1.size : Int) > 200)), m23_, H', ⟨by first | omega | exact Nat.le_refl _⟩, ⟨m41_⟩⟩
  replace c5 := Bool.eq_false_iff.mpr c5
  subst c5
  have H1 : (strongroomlaw20_MerkleAbsent.j0 k l0 a1 true) = some r := by rw [if_neg (show ¬ (false = true) by decide)] at H; exact H
  clear H
  have H := H1
  clear H1
  have H' := Aside0.mk H
  clear H
  go_wp2_with (first | ((with_reducible refine gate_callee (f := 11) rfl ?_); refine goesL_ (some 15) rfl rfl Tryd.func11 (by kernel_rfl) rfl #[.slice A0 l0.length c0] rfl m10_ ?_; (with_reducible refine (strongroomlaw20_small.calls k _ _ l0 false _ ?side1 ?side2 A4.out).mono ?_); (case side1 => exact m30_); (case side2 => exact HC0.out); rintro e w' ⟨rfl, ⟨nd, rfl⟩⟩; refine ⟨_, rfl, ?_⟩))
  go_meet
  case rel => exact ⟨_, (true), m23_, H', ⟨by first | omega | exact Nat.le_refl _⟩, ⟨m41_⟩⟩
 clear HC3
 try clear c1; try clear p2; try clear c5
 obtain ⟨kq, x21_2, rfl, HA, HJ2, HB⟩ := hcut
 cases kq with
 | zero => exact absurd HA.out (by simp [strongroomlaw20_MerkleAbsent.j0])
 | succ kj2 =>
  have H := HA.out
  clear HA
  simp only [strongroomlaw20_MerkleAbsent.j0] at H
  by_cases c6 : x21_2 = true
  ·subst c6
   have H1 : ((strongroomlaw20_lives.f kj2).bind fun t333 => (some t333)) = some r := by rw [if_pos rfl] at H; exact H
   clear H
   have H := H1
   clear H1
   replace H := Option.bind_eq_some_iff.mp H
   obtain ⟨t333, A70, H⟩ := H
   replace H : (some t333) = some r := H
   have A7 := Aside0.mk A70
   clear A70
   obtain rfl := Option.some.inj H
   go_wp2_with (first | ((with_reducible refine gate_callee (f := 12) rfl ?_); refine goesL_ (some 22) rfl rfl Tryd.func12 (by kernel_rfl) rfl #[] rfl m10_ ?_; (with_reducible refine (strongroomlaw20_lives.calls kj2  t333 _ A7.out hr_).mono ?_); rintro e w8 ⟨rfl, hb⟩; refine ⟨_, rfl, ?_⟩; replace HB := Aside0.mk (below_step m11_ hb); (try clear hb); (try clear hb2); (try clear hk); (try clear hi)))
   go_ret
   exact ⟨by first | rfl | (simp [errW_none, errW_some] <;> rfl) | (simp [*, errW_none, errW_some] <;> rfl), m41_⟩
  replace c6 := Bool.eq_false_iff.mpr c6
  subst c6
  have H1 : ((strongroomlaw20_mine.f kj2 l0).bind fun t334 => ((merkle_Find.f kj2 t334 a1).bind fun bt337 => ((merkle_Absent.f kj2 t334 a1).bind fun bt339 => ((strongroomlaw20_list.f kj2 l0).bind fun t352 => (if t352 = true then ((strongroomref20_Find.f kj2 l0 a1).bind fun bt355 => (if bt337.1 = bt355.1 then (strongroomlaw20_MerkleAbsent.j1 kj2 a1 t334 bt337.1 bt339.2.2.2.2.2.2.2 bt355.2 (bt337.2 != bt355.2) bt339.1 bt339.2.1 bt339.2.2.1 bt339.2.2.2.1 bt339.2.2.2.2.1 bt339.2.2.2.2.2.1 bt339.2.2.2.2.2.2.1) else (strongroomlaw20_MerkleAbsent.j1 kj2 a1 t334 bt337.1 bt339.2.2.2.2.2.2.2 bt355.2 true bt339.1 bt339.2.1 bt339.2.2.1 bt339.2.2.2.1 bt339.2.2.2.2.1 bt339.2.2.2.2.2.1 bt339.2.2.2.2.2.2.1))) else (if bt337.1 = 0 then (if bt337.2 = true then (some false) else ((strongroomref20_Why.f kj2 l0).bind fun t353 => (if bt339.2.2.2.2.2.2.2 = t353 then ((strongroomlaw20_lives.f kj2).bind fun t354 => (some t354)) else (some false)))) else (some false))))))) = some r := by rw [if_neg (show ¬ (false = true) by decide)] at H; exact H
  clear H
  have H := H1
  clear H1
  replace H := Option.bind_eq_some_iff.mp H
  obtain ⟨t334, A90, H⟩ := H
  replace H : ((merkle_Find.f kj2 t334 a1).bind fun bt337 => ((merkle_Absent.f kj2 t334 a1).bind fun bt339 => ((strongroomlaw20_list.f kj2 l0).bind fun t352 => (if t352 = true then ((strongroomref20_Find.f kj2 l0 a1).bind fun bt355 => (if bt337.1 = bt355.1 then (strongroomlaw20_MerkleAbsent.j1 kj2 a1 t334 bt337.1 bt339.2.2.2.2.2.2.2 bt355.2 (bt337.2 != bt355.2) bt339.1 bt339.2.1 bt339.2.2.1 bt339.2.2.2.1 bt339.2.2.2.2.1 bt339.2.2.2.2.2.1 bt339.2.2.2.2.2.2.1) else (strongroomlaw20_MerkleAbsent.j1 kj2 a1 t334 bt337.1 bt339.2.2.2.2.2.2.2 bt355.2 true bt339.1 bt339.2.1 bt339.2.2.1 bt339.2.2.2.1 bt339.2.2.2.2.1 bt339.2.2.2.2.2.1 bt339.2.2.2.2.2.2.1))) else (if bt337.1 = 0 then (if bt337.2 = true then (some false) else ((strongroomref20_Why.f kj2 l0).bind fun t353 => (if bt339.2.2.2.2.2.2.2 = t353 then ((strongroomlaw20_lives.f kj2).bind fun t354 => (some t354)) else (some false)))) else (some false)))))) = some r := H
  have A9 := Aside0.mk A90
  clear A90
  replace H := Option.bind_eq_some_iff.mp H
  obtain ⟨⟨t337, t338⟩, A100, H⟩ := H
  replace H : ((merkle_Absent.f kj2 t334 a1).bind fun bt339 => ((strongroomlaw20_list.f kj2 l0).bind fun t352 => (if t352 = true then ((strongroomref20_Find.f kj2 l0 a1).bind fun bt355 => (if t337 = bt355.1 then (strongroomlaw20_MerkleAbsent.j1 kj2 a1 t334 t337 bt339.2.2.2.2.2.2.2 bt355.2 (t338 != bt355.2) bt339.1 bt339.2.1 bt339.2.2.1 bt339.2.2.2.1 bt339.2.2.2.2.1 bt339.2.2.2.2.2.1 bt339.2.2.2.2.2.2.1) else (strongroomlaw20_MerkleAbsent.j1 kj2 a1 t334 t337 bt339.2.2.2.2.2.2.2 bt355.2 true bt339.1 bt339.2.1 bt339.2.2.1 bt339.2.2.2.1 bt339.2.2.2.2.1 bt339.2.2.2.2.2.1 bt339.2.2.2.2.2.2.1))) else (if t337 = 0 then (if t338 = true then (some false) else ((strongroomref20_Why.f kj2 l0).bind fun t353 => (if bt339.2.2.2.2.2.2.2 = t353 then ((strongroomlaw20_lives.f kj2).bind fun t354 => (some t354)) else (some false)))) else (some false))))) = some r := H
  have A10 := Aside0.mk A100
  clear A100
  replace H := Option.bind_eq_some_iff.mp H
  obtain ⟨⟨t339, t340, t341, t342, t343, t344, t347, t350⟩, A110, H⟩ := H
  replace H : ((strongroomlaw20_list.f kj2 l0).bind fun t352 => (if t352 = true then ((strongroomref20_Find.f kj2 l0 a1).bind fun bt355 => (if t337 = bt355.1 then (strongroomlaw20_MerkleAbsent.j1 kj2 a1 t334 t337 t350 bt355.2 (t338 != bt355.2) t339 t340 t341 t342 t343 t344 t347) else (strongroomlaw20_MerkleAbsent.j1 kj2 a1 t334 t337 t350 bt355.2 true t339 t340 t341 t342 t343 t344 t347))) else (if t337 = 0 then (if t338 = true then (some false) else ((strongroomref20_Why.f kj2 l0).bind fun t353 => (if t350 = t353 then ((strongroomlaw20_lives.f kj2).bind fun t354 => (some t354)) else (some false)))) else (some false)))) = some r := H
  have A11 := Aside0.mk A110
  clear A110
  replace H := Option.bind_eq_some_iff.mp H
  obtain ⟨t352, A120, H⟩ := H
  replace H : (if t352 = true then ((strongroomref20_Find.f kj2 l0 a1).bind fun bt355 => (if t337 = bt355.1 then (strongroomlaw20_MerkleAbsent.j1 kj2 a1 t334 t337 t350 bt355.2 (t338 != bt355.2) t339 t340 t341 t342 t343 t344 t347) else (strongroomlaw20_MerkleAbsent.j1 kj2 a1 t334 t337 t350 bt355.2 true t339 t340 t341 t342 t343 t344 t347))) else (if t337 = 0 then (if t338 = true then (some false) else ((strongroomref20_Why.f kj2 l0).bind fun t353 => (if t350 = t353 then ((strongroomlaw20_lives.f kj2).bind fun t354 => (some t354)) else (some false)))) else (some false))) = some r := H
  have A12 := Aside0.mk A120
  clear A120
  by_cases c13 : t352 = true
  case neg =>
   replace c13 := Bool.eq_false_iff.mpr c13
   subst c13
   have H1 : (if t337 = 0 then (if t338 = true then (some false) else ((strongroomref20_Why.f kj2 l0).bind fun t353 => (if t350 = t353 then ((strongroomlaw20_lives.f kj2).bind fun t354 => (some t354)) else (some false)))) else (some false)) = some r := by rw [if_neg (show ¬ (false = true) by decide)] at H; exact H
   clear H
   have H := H1
   clear H1
   by_cases c80 : t337 = 0
   case neg =>
    rw [if_neg c80] at H
    have c80b0 : (t337 == 0) = false := beq_eq_false_iff_ne.mpr c80
    have c80b1 : (t337 != 0) = true := bne_iff_ne.mpr c80
    exact absurd ((Option.some.inj H).trans hr_) (by decide)
   rw [if_pos c80] at H
   have c80b0 : (t337 == 0) = true := beq_iff_eq.mpr c80
   have c80b1 : (t337 != 0) = false := bne_eq_false_iff_eq.mpr c80
   clear c80
   by_cases c81 : t338 = true
   ·subst c81
    have H1 : (some false) = some r := by rw [if_pos rfl] at H; exact H
    clear H
    have H := H1
    clear H1
    exact absurd ((Option.some.inj H).trans hr_) (by decide)
   replace c81 := Bool.eq_false_iff.mpr c81
   subst c81
   have H1 : ((strongroomref20_Why.f kj2 l0).bind fun t353 => (if t350 = t353 then ((strongroomlaw20_lives.f kj2).bind fun t354 => (some t354)) else (some false))) = some r := by rw [if_neg (show ¬ (false = true) by decide)] at H; exact H
   clear H
   have H := H1
   clear H1
   replace H := Option.bind_eq_some_iff.mp H
   obtain ⟨t353, A910, H⟩ := H
   replace H : (if t350 = t353 then ((strongroomlaw20_lives.f kj2).bind fun t354 => (some t354)) else (some false)) = some r := H
   have A91 := Aside0.mk A910
   clear A910
   by_cases c92 : t350 = t353
   case neg =>
    rw [if_neg c92] at H
    have c92b0 : (t350 == t353) = false := beq_eq_false_iff_ne.mpr c92
    have c92b1 : (t350 != t353) = true := bne_iff_ne.mpr c92
    exact absurd ((Option.some.inj H).trans hr_) (by decide)
   rw [if_pos c92] at H
   have c92b0 : (t350 == t353) = true := beq_iff_eq.mpr c92
   have c92b1 : (t350 != t353) = false := bne_eq_false_iff_eq.mpr c92
   clear c92
   replace H := Option.bind_eq_some_iff.mp H
   obtain ⟨t354, A930, H⟩ := H
   replace H : (some t354) = some r := H
   have A93 := Aside0.mk A930
   clear A930
   obtain rfl := Option.some.inj H
   go_wp2_with (first | ((with_reducible refine gate_callee (f := 14) rfl ?_); refine goesL_ (some 24) rfl rfl Tryd.func14 (by kernel_rfl) rfl #[.slice A0 l0.length c0] rfl m10_ ?_; (with_reducible refine (strongroomlaw20_mine.calls kj2 _ _ l0 t334 _ ?side1 ?side2 A9.out).mono ?_); (case side1 => exact m30_); (case side2 => exact HC0.out); rintro e w94 ⟨v335, rfl, ho0, hb⟩; refine ⟨_, rfl, ?_⟩; have HO336 := Aside0.mk (Kd.R_lower ho0 (below_size m11_)); replace HB := Aside0.mk (below_step m11_ hb); (try clear hb); (try clear hb2); (try clear hk); (try clear hi); (try clear ho0); obtain ⟨Ao95, co95, eo95⟩ := Kd.R_slice HO336.out; subst eo95) | ((with_reducible refine gate_callee (f := 38) rfl ?_); refine goesL_ (some 28) rfl rfl Tryd.func38 (by kernel_rfl) rfl #[.slice Ao95 t334.length co95, .string a1] rfl m10_ ?_; (with_reducible refine (merkle_Find.calls kj2 _ _ t334 a1 t337 false _ ?side1 ?side2 A10.out).mono ?_); (case side1 => exact m32_); (case side2 => exact (Kd.R_reads' HO336.out).2.1); rintro e w96 ⟨rfl, hb⟩; refine ⟨_, rfl, ?_⟩; replace HO336 := Aside0.mk (Kd.R_below m20_ hb); replace HB := Aside0.mk (below_step m11_ hb); (try clear hb); (try clear hb2); (try clear hk); (try clear hi)) | ((with_reducible refine gate_callee (f := 39) rfl ?_); refine goesL_ (some 34) rfl rfl Tryd.func39 (by kernel_rfl) rfl #[.slice Ao95 t334.length co95, .string a1] rfl m10_ ?_; (with_reducible refine (merkle_Absent.calls kj2 _ _ t334 a1 t339 t340 t341 t342 t343 t344 t347 t350 _ ?side1 ?side2 A11.out).mono ?_); (case side1 => exact m32_); (case side2 => exact (Kd.R_reads' HO336.out).2.1); rintro e w97 ⟨v345, v348, rfl, ho0, ho1, hb⟩; refine ⟨_, rfl, ?_⟩; replace HO336 := Aside0.mk (Kd.R_below m20_ hb); have HO346 := Aside0.mk (Kd.R_lower ho0 (below_size m11_)); have HO349 := Aside0.mk (Kd.R_lower ho1 (below_size m11_)); replace HB := Aside0.mk (below_step m11_ hb); (try clear hb); (try clear hb2); (try clear hk); (try clear hi); (try clear ho0); (try clear ho1)) | ((with_reducible refine gate_dst (N := 8) rfl ?_); (try (refine gate_guard (by rfl) ?_; dsimp only)); refine box_event ?hg (N := 8) ?hd (cs := #[.int .i64 0, .string (⟨#[]⟩ : ByteArray), .string (⟨#[]⟩ : ByteArray), .string (⟨#[]⟩ : ByteArray), .string (⟨#[]⟩ : ByteArray), .slice none 0 0, .slice none 0 0]) (t := 57) ?hr ?_; (case hd => rfl); (case hg => rfl); (case hr => first | (go_simp; done) | (go_simp; rfl)); intro gb351 hg w98 hbox hb; have n0_ := Aside0.mk (Kd.R_below m20_ hb); have n1_ := Aside0.mk (Kd.R_below (by (with_reducible repeat (first | apply Kd.R_alloc | apply Kd.R_drewN | apply Kd.R_drew)); exact HO346.out) hb); have n2_ := Aside0.mk (Kd.R_below (by (with_reducible repeat (first | apply Kd.R_alloc | apply Kd.R_drewN | apply Kd.R_drew)); exact HO349.out) hb); have n3_ := Aside0.mk (below_step m11_ hb); have n4_ := Aside0.mk (hbox); have n5_ := Aside0.mk ((by rw [hg]; exact (below_size m11_) : w.heap.size ≤ gb351)); have n6_ := Aside0.mk ((by rw [hg]; exact (below_size m11_) : w.heap.size ≤ gb351)); clear HO336; clear HO346; clear HO349; clear HB; have HO336 := n0_; have HO346 := n1_; have HO349 := n2_; have HB := n3_; have BK351 := n4_; have GW351 := n5_; have GE351 := n6_; clear n0_ n1_ n2_ n3_ n4_ n5_ n6_; clear hb hbox hg; obtain ⟨hcz99_0, hcz99_1, hcz99_2, hcz99_3, hcz99_4, hcz99_5, hcz99_6⟩ := bc7_ BK351.out; obtain ⟨hfz99_0, hfz99_1, hfz99_2, hfz99_3, hfz99_4, hfz99_5, hfz99_6⟩ := bf7_ BK351.out; obtain ⟨Ao100, co100, eo100⟩ := Kd.R_slice HO346.out; subst eo100; obtain ⟨Ao101, co101, eo101⟩ := Kd.R_slice HO349.out; subst eo101) | ((with_reducible refine gate_callee (f := 17) rfl ?_); refine goesL_ (some 38) rfl rfl Tryd.func17 (by kernel_rfl) rfl #[.slice A0 l0.length c0] rfl m10_ ?_; (with_reducible refine (strongroomlaw20_list.calls kj2 _ _ l0 false _ ?side1 ?side2 A12.out).mono ?_); (case side1 => exact Kd.C_below HR0.out m1_); (case side2 => exact HC0.out); rintro e w102 ⟨rfl, hb⟩; refine ⟨_, rfl, ?_⟩; have n0_ := Aside0.mk (Kd.R_below (by (with_reducible repeat (first | apply Kd.R_alloc | apply Kd.R_drewN | apply Kd.R_drew)); exact (Kd.R_mono (Kd.R_far (p := ⟨gb351, 6, none⟩) (Kd.R_far (p := ⟨gb351, 5, none⟩) (Kd.R_far (p := ⟨gb351, 4, none⟩) (Kd.R_far (p := ⟨gb351, 3, none⟩) (Kd.R_far (p := ⟨gb351, 2, none⟩) (Kd.R_far (p := ⟨gb351, 1, none⟩) (Kd.R_far (p := ⟨gb351, 0, none⟩) (Kd.R_types HO336.out BK351.out (by decide)) (fun _ hk => hk.2) (.int .i64 t339)) (fun _ hk => hk.2) (.string t340)) (fun _ hk => hk.2) (.string t341)) (fun _ hk => hk.2) (.string t342)) (fun _ hk => hk.2) (.string t343)) (fun _ hk => hk.2) (.slice Ao100 t344.length co100)) (fun _ hk => hk.2) (.slice Ao101 t347.length co101)) (fun _ h_ => h_.1))) hb); have n1_ := Aside0.mk (Kd.R_below (by (with_reducible repeat (first | apply Kd.R_alloc | apply Kd.R_drewN | apply Kd.R_drew)); exact (Kd.R_mono (Kd.R_far (p := ⟨gb351, 6, none⟩) (Kd.R_far (p := ⟨gb351, 5, none⟩) (Kd.R_far (p := ⟨gb351, 4, none⟩) (Kd.R_far (p := ⟨gb351, 3, none⟩) (Kd.R_far (p := ⟨gb351, 2, none⟩) (Kd.R_far (p := ⟨gb351, 1, none⟩) (Kd.R_far (p := ⟨gb351, 0, none⟩) (Kd.R_types HO346.out BK351.out (by decide)) (fun _ hk => hk.2) (.int .i64 t339)) (fun _ hk => hk.2) (.string t340)) (fun _ hk => hk.2) (.string t341)) (fun _ hk => hk.2) (.string t342)) (fun _ hk => hk.2) (.string t343)) (fun _ hk => hk.2) (.slice Ao100 t344.length co100)) (fun _ hk => hk.2) (.slice Ao101 t347.length co101)) (fun _ h_ => h_.1))) hb); have n2_ := Aside0.mk (Kd.R_below (by (with_reducible repeat (first | apply Kd.R_alloc | apply Kd.R_drewN | apply Kd.R_drew)); exact (Kd.R_mono (Kd.R_far (p := ⟨gb351, 6, none⟩) (Kd.R_far (p := ⟨gb351, 5, none⟩) (Kd.R_far (p := ⟨gb351, 4, none⟩) (Kd.R_far (p := ⟨gb351, 3, none⟩) (Kd.R_far (p := ⟨gb351, 2, none⟩) (Kd.R_far (p := ⟨gb351, 1, none⟩) (Kd.R_far (p := ⟨gb351, 0, none⟩) (Kd.R_types HO349.out BK351.out (by decide)) (fun _ hk => hk.2) (.int .i64 t339)) (fun _ hk => hk.2) (.string t340)) (fun _ hk => hk.2) (.string t341)) (fun _ hk => hk.2) (.string t342)) (fun _ hk => hk.2) (.string t343)) (fun _ hk => hk.2) (.slice Ao100 t344.length co100)) (fun _ hk => hk.2) (.slice Ao101 t347.length co101)) (fun _ h_ => h_.1))) hb); have n3_ := Aside0.mk (blk_below (g := gb351) (o := .cells #[.int .i64 t339, .string t340, .string t341, .string t342, .string t343, .slice Ao100 t344.length co100, .slice Ao101 t347.length co101] 57 (0, 0)) (by (with_reducible repeat (first | refine blk_drewN ?_ _ | refine blk_drew ?_ | refine blk_alloc ?_ _)); refine blk_put (cs := #[.int .i64 t339, .string t340, .string t341, .string t342, .string t343, .slice Ao100 t344.length co100, .slice none 0 0]) ?_ 6 _ rfl; (with_reducible repeat (first | refine blk_drewN ?_ _ | refine blk_drew ?_ | refine blk_alloc ?_ _)); refine blk_put (cs := #[.int .i64 t339, .string t340, .string t341, .string t342, .string t343, .slice none 0 0, .slice none 0 0]) ?_ 5 _ rfl; (with_reducible repeat (first | refine blk_drewN ?_ _ | refine blk_drew ?_ | refine blk_alloc ?_ _)); refine blk_put (cs := #[.int .i64 t339, .string t340, .string t341, .string t342, .string (⟨#[]⟩ : ByteArray), .slice none 0 0, .slice none 0 0]) ?_ 4 _ rfl; (with_reducible repeat (first | refine blk_drewN ?_ _ | refine blk_drew ?_ | refine blk_alloc ?_ _)); refine blk_put (cs := #[.int .i64 t339, .string t340, .string t341, .string (⟨#[]⟩ : ByteArray), .string (⟨#[]⟩ : ByteArray), .slice none 0 0, .slice none 0 0]) ?_ 3 _ rfl; (with_reducible repeat (first | refine blk_drewN ?_ _ | refine blk_drew ?_ | refine blk_alloc ?_ _)); refine blk_put (cs := #[.int .i64 t339, .string t340, .string (⟨#[]⟩ : ByteArray), .string (⟨#[]⟩ : ByteArray), .string (⟨#[]⟩ : ByteArray), .slice none 0 0, .slice none 0 0]) ?_ 2 _ rfl; (with_reducible repeat (first | refine blk_drewN ?_ _ | refine blk_drew ?_ | refine blk_alloc ?_ _)); refine blk_put (cs := #[.int .i64 t339, .string (⟨#[]⟩ : ByteArray), .string (⟨#[]⟩ : ByteArray), .string (⟨#[]⟩ : ByteArray), .string (⟨#[]⟩ : ByteArray), .slice none 0 0, .slice none 0 0]) ?_ 1 _ rfl; (with_reducible repeat (first | refine blk_drewN ?_ _ | refine blk_drew ?_ | refine blk_alloc ?_ _)); refine blk_put (cs := #[.int .i64 0, .string (⟨#[]⟩ : ByteArray), .string (⟨#[]⟩ : ByteArray), .string (⟨#[]⟩ : ByteArray), .string (⟨#[]⟩ : ByteArray), .slice none 0 0, .slice none 0 0]) ?_ 0 _ rfl; (with_reducible repeat (first | refine blk_drewN ?_ _ | refine blk_drew ?_ | refine blk_alloc ?_ _)); exact BK351.out) hb); have n4_ := Aside0.mk (below_step m1_ hb); clear HO336; clear HO346; clear HO349; clear BK351; clear HB; have HO336 := n0_; have HO346 := n1_; have HO349 := n2_; have BK351 := n3_; have HB := n4_; clear n0_ n1_ n2_ n3_ n4_; (try clear hb); (try clear hb2); (try clear hk); (try clear hi)) | (go_at_call 16; (with_reducible refine (strongroomref20_Why.calls kj2 _ _ l0 t353 _ ?side1 ?side2 A91.out).mono ?_); (case side1 => exact m30_); (case side2 => exact HC0.out); rintro e w103 ⟨rfl, hb⟩; have n0_ := Aside0.mk (Kd.R_below m20_ hb); have n1_ := Aside0.mk (Kd.R_below (by (with_reducible repeat (first | apply Kd.R_alloc | apply Kd.R_drewN | apply Kd.R_drew)); exact HO346.out) hb); have n2_ := Aside0.mk (Kd.R_below (by (with_reducible repeat (first | apply Kd.R_alloc | apply Kd.R_drewN | apply Kd.R_drew)); exact HO349.out) hb); have n3_ := Aside0.mk (blk_below (g := gb351) (o := .cells #[.int .i64 t339, .string t340, .string t341, .string t342, .string t343, .slice Ao100 t344.length co100, .slice Ao101 t347.length co101] 57 (0, 0)) m12_ hb); have n4_ := Aside0.mk (below_step m1_ hb); clear HO336; clear HO346; clear HO349; clear BK351; clear HB; have HO336 := n0_; have HO346 := n1_; have HO349 := n2_; have BK351 := n3_; have HB := n4_; clear n0_ n1_ n2_ n3_ n4_; (try clear hb); (try clear hb2); (try clear hk); (try clear hi)) | (go_at_call 12; (with_reducible refine (strongroomlaw20_lives.calls kj2  t354 _ A93.out hr_).mono ?_); rintro e w104 ⟨rfl, hb⟩; have n0_ := Aside0.mk (Kd.R_below m20_ hb); have n1_ := Aside0.mk (Kd.R_below (by (with_reducible repeat (first | apply Kd.R_alloc | apply Kd.R_drewN | apply Kd.R_drew)); exact HO346.out) hb); have n2_ := Aside0.mk (Kd.R_below (by (with_reducible repeat (first | apply Kd.R_alloc | apply Kd.R_drewN | apply Kd.R_drew)); exact HO349.out) hb); have n3_ := Aside0.mk (blk_below (g := gb351) (o := .cells #[.int .i64 t339, .string t340, .string t341, .string t342, .string t343, .slice Ao100 t344.length co100, .slice Ao101 t347.length co101] 57 (0, 0)) m12_ hb); have n4_ := Aside0.mk (below_step m1_ hb); clear HO336; clear HO346; clear HO349; clear BK351; clear HB; have HO336 := n0_; have HO346 := n1_; have HO349 := n2_; have BK351 := n3_; have HB := n4_; clear n0_ n1_ n2_ n3_ n4_; (try clear hb); (try clear hb2); (try clear hk); (try clear hi)))
   go_ret
   exact ⟨by first | rfl | (simp [errW_none, errW_some] <;> rfl) | (simp [*, errW_none, errW_some] <;> rfl), m40_⟩
  subst c13
  have H1 : ((strongroomref20_Find.f kj2 l0 a1).bind fun bt355 => (if t337 = bt355.1 then (strongroomlaw20_MerkleAbsent.j1 kj2 a1 t334 t337 t350 bt355.2 (t338 != bt355.2) t339 t340 t341 t342 t343 t344 t347) else (strongroomlaw20_MerkleAbsent.j1 kj2 a1 t334 t337 t350 bt355.2 true t339 t340 t341 t342 t343 t344 t347))) = some r := by rw [if_pos rfl] at H; exact H
  clear H
  have H := H1
  clear H1
  replace H := Option.bind_eq_some_iff.mp H
  obtain ⟨⟨t355, t356⟩, A140, H⟩ := H
  replace H : (if t337 = t355 then (strongroomlaw20_MerkleAbsent.j1 kj2 a1 t334 t337 t350 t356 (t338 != t356) t339 t340 t341 t342 t343 t344 t347) else (strongroomlaw20_MerkleAbsent.j1 kj2 a1 t334 t337 t350 t356 true t339 t340 t341 t342 t343 t344 t347)) = some r := H
  have A14 := Aside0.mk A140
  clear A140
  have HC15 := Aside0.mk H
  clear H
  go_upto_region 9 with (first | ((with_reducible refine gate_callee (f := 14) rfl ?_); refine goesL_ (some 24) rfl rfl Tryd.func14 (by kernel_rfl) rfl #[.slice A0 l0.length c0] rfl m10_ ?_; (with_reducible refine (strongroomlaw20_mine.calls kj2 _ _ l0 t334 _ ?side1 ?side2 A9.out).mono ?_); (case side1 => exact m30_); (case side2 => exact HC0.out); rintro e w16 ⟨v335, rfl, ho0, hb⟩; refine ⟨_, rfl, ?_⟩; have HO336 := Aside0.mk (Kd.R_lower ho0 (below_size m11_)); replace HB := Aside0.mk (below_step m11_ hb); (try clear hb); (try clear hb2); (try clear hk); (try clear hi); (try clear ho0); obtain ⟨Ao17, co17, eo17⟩ := Kd.R_slice HO336.out; subst eo17) | ((with_reducible refine gate_callee (f := 38) rfl ?_); refine goesL_ (some 28) rfl rfl Tryd.func38 (by kernel_rfl) rfl #[.slice Ao17 t334.length co17, .string a1] rfl m10_ ?_; (with_reducible refine (merkle_Find.calls kj2 _ _ t334 a1 t337 t338 _ ?side1 ?side2 A10.out).mono ?_); (case side1 => exact m32_); (case side2 => exact (Kd.R_reads' HO336.out).2.1); rintro e w18 ⟨rfl, hb⟩; refine ⟨_, rfl, ?_⟩; replace HO336 := Aside0.mk (Kd.R_below m20_ hb); replace HB := Aside0.mk (below_step m11_ hb); (try clear hb); (try clear hb2); (try clear hk); (try clear hi)) | ((with_reducible refine gate_callee (f := 39) rfl ?_); refine goesL_ (some 34) rfl rfl Tryd.func39 (by kernel_rfl) rfl #[.slice Ao17 t334.length co17, .string a1] rfl m10_ ?_; (with_reducible refine (merkle_Absent.calls kj2 _ _ t334 a1 t339 t340 t341 t342 t343 t344 t347 t350 _ ?side1 ?side2 A11.out).mono ?_); (case side1 => exact m32_); (case side2 => exact (Kd.R_reads' HO336.out).2.1); rintro e w19 ⟨v345, v348, rfl, ho0, ho1, hb⟩; refine ⟨_, rfl, ?_⟩; replace HO336 := Aside0.mk (Kd.R_below m20_ hb); have HO346 := Aside0.mk (Kd.R_lower ho0 (below_size m11_)); have HO349 := Aside0.mk (Kd.R_lower ho1 (below_size m11_)); replace HB := Aside0.mk (below_step m11_ hb); (try clear hb); (try clear hb2); (try clear hk); (try clear hi); (try clear ho0); (try clear ho1)) | ((with_reducible refine gate_dst (N := 8) rfl ?_); (try (refine gate_guard (by rfl) ?_; dsimp only)); refine box_event ?hg (N := 8) ?hd (cs := #[.int .i64 0, .string (⟨#[]⟩ : ByteArray), .string (⟨#[]⟩ : ByteArray), .string (⟨#[]⟩ : ByteArray), .string (⟨#[]⟩ : ByteArray), .slice none 0 0, .slice none 0 0]) (t := 57) ?hr ?_; (case hd => rfl); (case hg => rfl); (case hr => first | (go_simp; done) | (go_simp; rfl)); intro gb351 hg w20 hbox hb; have n0_ := Aside0.mk (Kd.R_below m20_ hb); have n1_ := Aside0.mk (Kd.R_below (by (with_reducible repeat (first | apply Kd.R_alloc | apply Kd.R_drewN | apply Kd.R_drew)); exact HO346.out) hb); have n2_ := Aside0.mk (Kd.R_below (by (with_reducible repeat (first | apply Kd.R_alloc | apply Kd.R_drewN | apply Kd.R_drew)); exact HO349.out) hb); have n3_ := Aside0.mk (below_step m11_ hb); have n4_ := Aside0.mk (hbox); have n5_ := Aside0.mk ((by rw [hg]; exact (below_size m11_) : w.heap.size ≤ gb351)); have n6_ := Aside0.mk ((by rw [hg]; exact (below_size m11_) : w.heap.size ≤ gb351)); clear HO336; clear HO346; clear HO349; clear HB; have HO336 := n0_; have HO346 := n1_; have HO349 := n2_; have HB := n3_; have BK351 := n4_; have GW351 := n5_; have GE351 := n6_; clear n0_ n1_ n2_ n3_ n4_ n5_ n6_; clear hb hbox hg; obtain ⟨hcz21_0, hcz21_1, hcz21_2, hcz21_3, hcz21_4, hcz21_5, hcz21_6⟩ := bc7_ BK351.out; obtain ⟨hfz21_0, hfz21_1, hfz21_2, hfz21_3, hfz21_4, hfz21_5, hfz21_6⟩ := bf7_ BK351.out; obtain ⟨Ao22, co22, eo22⟩ := Kd.R_slice HO346.out; subst eo22; obtain ⟨Ao23, co23, eo23⟩ := Kd.R_slice HO349.out; subst eo23) | ((with_reducible refine gate_callee (f := 17) rfl ?_); refine goesL_ (some 38) rfl rfl Tryd.func17 (by kernel_rfl) rfl #[.slice A0 l0.length c0] rfl m10_ ?_; (with_reducible refine (strongroomlaw20_list.calls kj2 _ _ l0 true _ ?side1 ?side2 A12.out).mono ?_); (case side1 => exact Kd.C_below HR0.out m1_); (case side2 => exact HC0.out); rintro e w24 ⟨rfl, hb⟩; refine ⟨_, rfl, ?_⟩; have n0_ := Aside0.mk (Kd.R_below (by (with_reducible repeat (first | apply Kd.R_alloc | apply Kd.R_drewN | apply Kd.R_drew)); exact (Kd.R_mono (Kd.R_far (p := ⟨gb351, 6, none⟩) (Kd.R_far (p := ⟨gb351, 5, none⟩) (Kd.R_far (p := ⟨gb351, 4, none⟩) (Kd.R_far (p := ⟨gb351, 3, none⟩) (Kd.R_far (p := ⟨gb351, 2, none⟩) (Kd.R_far (p := ⟨gb351, 1, none⟩) (Kd.R_far (p := ⟨gb351, 0, none⟩) (Kd.R_types HO336.out BK351.out (by decide)) (fun _ hk => hk.2) (.int .i64 t339)) (fun _ hk => hk.2) (.string t340)) (fun _ hk => hk.2) (.string t341)) (fun _ hk => hk.2) (.string t342)) (fun _ hk => hk.2) (.string t343)) (fun _ hk => hk.2) (.slice Ao22 t344.length co22)) (fun _ hk => hk.2) (.slice Ao23 t347.length co23)) (fun _ h_ => h_.1))) hb); have n1_ := Aside0.mk (Kd.R_below (by (with_reducible repeat (first | apply Kd.R_alloc | apply Kd.R_drewN | apply Kd.R_drew)); exact (Kd.R_mono (Kd.R_far (p := ⟨gb351, 6, none⟩) (Kd.R_far (p := ⟨gb351, 5, none⟩) (Kd.R_far (p := ⟨gb351, 4, none⟩) (Kd.R_far (p := ⟨gb351, 3, none⟩) (Kd.R_far (p := ⟨gb351, 2, none⟩) (Kd.R_far (p := ⟨gb351, 1, none⟩) (Kd.R_far (p := ⟨gb351, 0, none⟩) (Kd.R_types HO346.out BK351.out (by decide)) (fun _ hk => hk.2) (.int .i64 t339)) (fun _ hk => hk.2) (.string t340)) (fun _ hk => hk.2) (.string t341)) (fun _ hk => hk.2) (.string t342)) (fun _ hk => hk.2) (.string t343)) (fun _ hk => hk.2) (.slice Ao22 t344.length co22)) (fun _ hk => hk.2) (.slice Ao23 t347.length co23)) (fun _ h_ => h_.1))) hb); have n2_ := Aside0.mk (Kd.R_below (by (with_reducible repeat (first | apply Kd.R_alloc | apply Kd.R_drewN | apply Kd.R_drew)); exact (Kd.R_mono (Kd.R_far (p := ⟨gb351, 6, none⟩) (Kd.R_far (p := ⟨gb351, 5, none⟩) (Kd.R_far (p := ⟨gb351, 4, none⟩) (Kd.R_far (p := ⟨gb351, 3, none⟩) (Kd.R_far (p := ⟨gb351, 2, none⟩) (Kd.R_far (p := ⟨gb351, 1, none⟩) (Kd.R_far (p := ⟨gb351, 0, none⟩) (Kd.R_types HO349.out BK351.out (by decide)) (fun _ hk => hk.2) (.int .i64 t339)) (fun _ hk => hk.2) (.string t340)) (fun _ hk => hk.2) (.string t341)) (fun _ hk => hk.2) (.string t342)) (fun _ hk => hk.2) (.string t343)) (fun _ hk => hk.2) (.slice Ao22 t344.length co22)) (fun _ hk => hk.2) (.slice Ao23 t347.length co23)) (fun _ h_ => h_.1))) hb); have n3_ := Aside0.mk (blk_below (g := gb351) (o := .cells #[.int .i64 t339, .string t340, .string t341, .string t342, .string t343, .slice Ao22 t344.length co22, .slice Ao23 t347.length co23] 57 (0, 0)) (by (with_reducible repeat (first | refine blk_drewN ?_ _ | refine blk_drew ?_ | refine blk_alloc ?_ _)); refine blk_put (cs := #[.int .i64 t339, .string t340, .string t341, .string t342, .string t343, .slice Ao22 t344.length co22, .slice none 0 0]) ?_ 6 _ rfl; (with_reducible repeat (first | refine blk_drewN ?_ _ | refine blk_drew ?_ | refine blk_alloc ?_ _)); refine blk_put (cs := #[.int .i64 t339, .string t340, .string t341, .string t342, .string t343, .slice none 0 0, .slice none 0 0]) ?_ 5 _ rfl; (with_reducible repeat (first | refine blk_drewN ?_ _ | refine blk_drew ?_ | refine blk_alloc ?_ _)); refine blk_put (cs := #[.int .i64 t339, .string t340, .string t341, .string t342, .string (⟨#[]⟩ : ByteArray), .slice none 0 0, .slice none 0 0]) ?_ 4 _ rfl; (with_reducible repeat (first | refine blk_drewN ?_ _ | refine blk_drew ?_ | refine blk_alloc ?_ _)); refine blk_put (cs := #[.int .i64 t339, .string t340, .string t341, .string (⟨#[]⟩ : ByteArray), .string (⟨#[]⟩ : ByteArray), .slice none 0 0, .slice none 0 0]) ?_ 3 _ rfl; (with_reducible repeat (first | refine blk_drewN ?_ _ | refine blk_drew ?_ | refine blk_alloc ?_ _)); refine blk_put (cs := #[.int .i64 t339, .string t340, .string (⟨#[]⟩ : ByteArray), .string (⟨#[]⟩ : ByteArray), .string (⟨#[]⟩ : ByteArray), .slice none 0 0, .slice none 0 0]) ?_ 2 _ rfl; (with_reducible repeat (first | refine blk_drewN ?_ _ | refine blk_drew ?_ | refine blk_alloc ?_ _)); refine blk_put (cs := #[.int .i64 t339, .string (⟨#[]⟩ : ByteArray), .string (⟨#[]⟩ : ByteArray), .string (⟨#[]⟩ : ByteArray), .string (⟨#[]⟩ : ByteArray), .slice none 0 0, .slice none 0 0]) ?_ 1 _ rfl; (with_reducible repeat (first | refine blk_drewN ?_ _ | refine blk_drew ?_ | refine blk_alloc ?_ _)); refine blk_put (cs := #[.int .i64 0, .string (⟨#[]⟩ : ByteArray), .string (⟨#[]⟩ : ByteArray), .string (⟨#[]⟩ : ByteArray), .string (⟨#[]⟩ : ByteArray), .slice none 0 0, .slice none 0 0]) ?_ 0 _ rfl; (with_reducible repeat (first | refine blk_drewN ?_ _ | refine blk_drew ?_ | refine blk_alloc ?_ _)); exact BK351.out) hb); have n4_ := Aside0.mk (below_step m1_ hb); clear HO336; clear HO346; clear HO349; clear BK351; clear HB; have HO336 := n0_; have HO346 := n1_; have HO349 := n2_; have BK351 := n3_; have HB := n4_; clear n0_ n1_ n2_ n3_ n4_; (try clear hb); (try clear hb2); (try clear hk); (try clear hi)) | ((with_reducible refine gate_callee (f := 40) rfl ?_); refine goesL_ (some 58) rfl rfl Tryd.func40 (by kernel_rfl) rfl #[.slice A0 l0.length c0, .string a1] rfl m10_ ?_; (with_reducible refine (strongroomref20_Find.calls kj2 _ _ l0 a1 t355 t356 _ ?side1 ?side2 A14.out).mono ?_); (case side1 => exact m30_); (case side2 => exact HC0.out); rintro e w' ⟨rfl, ⟨nd, rfl⟩⟩; refine ⟨_, rfl, ?_⟩))
  (try simp only [Act.put, List.setIfInBounds_toArray, List.set_cons_zero, List.set_cons_succ])
  go_cut [68] (fun v68 wc => ∃ (kq : Nat) (x68_14 : Bool), v68 = .bool x68_14 ∧ Aside0 (strongroomlaw20_MerkleAbsent.j1 kq a1 t334 t337 t350 t356 x68_14 t339 t340 t341 t342 t343 t344 t347 = some r) ∧ Aside0 (kq ≤ kj2) ∧ Aside0 (Kd.R k44 44 wc w.heap.size (fun _ => True) (.slice Ao17 t334.length co17) t334) ∧ Aside0 (Kd.R Kd.string 9 wc w.heap.size (fun k_ => some k_ ≠ ((.slice Ao23 t347.length co23) : Value).ownBlock) (.slice Ao22 t344.length co22) t344) ∧ Aside0 (Kd.R Kd.string 9 wc w.heap.size (fun k_ => some k_ ≠ ((.slice Ao22 t344.length co22) : Value).ownBlock) (.slice Ao23 t347.length co23) t347) ∧ Aside0 (wc.heap[gb351]? = some (.cells #[.int .i64 t339, .string t340, .string t341, .string t342, .string t343, (.slice Ao22 t344.length co22), (.slice Ao23 t347.length co23)] 57 (0, 0))) ∧ Aside0 (Below w.heap.size w wc))
  case first =>
   have H := HC15.out
   clear HC15
   by_cases c25 : t337 = t355
   case neg =>
    rw [if_neg c25] at H
    have c25b0 : (t337 == t355) = false := beq_eq_false_iff_ne.mpr c25
    have c25b1 : (t337 != t355) = true := bne_iff_ne.mpr c25
    (first | rw [c25b0] | (simp only [i64_w, i32_w]; rw [c25b0]) | skip)
    have H' := Aside0.mk H
    clear H
    go_wp2
    go_meet
    case rel => exact ⟨_, (true), m23_, H', ⟨by have := HJ2.out; first | omega | exact Nat.le_refl _⟩, ⟨by (with_reducible repeat (first | apply Kd.R_alloc | apply Kd.R_drewN | apply Kd.R_drew)); exact HO336.out⟩, ⟨by (with_reducible repeat (first | apply Kd.R_alloc | apply Kd.R_drewN | apply Kd.R_drew)); exact HO346.out⟩, ⟨by (with_reducible repeat (first | apply Kd.R_alloc | apply Kd.R_drewN | apply Kd.R_drew)); exact HO349.out⟩, ⟨by (with_reducible repeat (first | refine blk_drewN ?_ _ | refine blk_drew ?_ | refine blk_alloc ?_ _)); exact BK351.out⟩, ⟨m40_⟩⟩
   rw [if_pos c25] at H
   have c25b0 : (t337 == t355) = true := beq_iff_eq.mpr c25
   have c25b1 : (t337 != t355) = false := bne_eq_false_iff_eq.mpr c25
   clear c25
   (first | rw [c25b0] | (simp only [i64_w, i32_w]; rw [c25b0]) | skip)
   have H' := Aside0.mk H
   clear H
   go_wp2
   go_meet
   case rel => exact ⟨_, ((t338 != t356)), m23_, H', ⟨by have := HJ2.out; first | omega | exact Nat.le_refl _⟩, ⟨by (with_reducible repeat (first | apply Kd.R_alloc | apply Kd.R_drewN | apply Kd.R_drew)); exact HO336.out⟩, ⟨by (with_reducible repeat (first | apply Kd.R_alloc | apply Kd.R_drewN | apply Kd.R_drew)); exact HO346.out⟩, ⟨by (with_reducible repeat (first | apply Kd.R_alloc | apply Kd.R_drewN | apply Kd.R_drew)); exact HO349.out⟩, ⟨by (with_reducible repeat (first | refine blk_drewN ?_ _ | refine blk_drew ?_ | refine blk_alloc ?_ _)); exact BK351.out⟩, ⟨m40_⟩⟩
  clear HC15
  try clear c1; try clear c2; try clear p2; try clear c3; try clear c4; try clear c5; try clear c6; try clear c10; try clear c11; try clear c12; try clear c13; try clear c14; try clear c17; try clear c25; try clear c25b0; try clear c25b1; try clear hcz21_0; try clear hcz21_1; try clear hcz21_2; try clear hcz21_3; try clear hcz21_4; try clear hcz21_5; try clear hcz21_6; try clear hfz21_0; try clear hfz21_1; try clear hfz21_2; try clear hfz21_3; try clear hfz21_4; try clear hfz21_5; try clear hfz21_6; try clear p2
  obtain ⟨kq, x68_14, rfl, HA, HJ14, HO_5, HO_352005, HO_352006, BK351, HB⟩ := hcut
  cases kq with
  | zero => exact absurd HA.out (by simp [strongroomlaw20_MerkleAbsent.j1])
  | succ kj14 =>
   have H := HA.out
   clear HA
   simp only [strongroomlaw20_MerkleAbsent.j1] at H
   by_cases c26 : x68_14 = true
   ·subst c26
    have H1 : (some false) = some r := by rw [if_pos rfl] at H; exact H
    clear H
    have H := H1
    clear H1
    exact absurd ((Option.some.inj H).trans hr_) (by decide)
   replace c26 := Bool.eq_false_iff.mpr c26
   subst c26
   have H1 : (if t350 = 0 then ((merkle_Digest.f kj14 t334).bind fun t359 => (if t339 = t337 then ((merkle_Missing.f kj14 t359 (t334.length : Int) a1 t339 t340 t341 t342 t343 t344 t347).bind fun t360 => (if t360 = true then ((strongroomlaw20_absence.f t339 t340 t341 t342 t343 t344 t347).bind fun _ => ((strongroomref20_Missing.f kj14 t359 (t334.length : Int) a1 t339 t340 t341 t342 t343 t344 t347).bind fun t361 => (strongroomlaw20_MerkleAbsent.j2 kj14 a1 t334 t337 t359 (!t361) t339 t340 t341 t342 t343 t344 t347))) else (strongroomlaw20_MerkleAbsent.j2 kj14 a1 t334 t337 t359 true t339 t340 t341 t342 t343 t344 t347))) else (strongroomlaw20_MerkleAbsent.j2 kj14 a1 t334 t337 t359 true t339 t340 t341 t342 t343 t344 t347))) else (if ((t350 == 7) == t356) = true then (if t356 = true then ((strongroomlaw20_lives.f kj14).bind fun t357 => (some t357)) else (if t350 = 1 then ((strongroomlaw20_lives.f kj14).bind fun t358 => (some t358)) else (some false))) else (some false))) = some r := by rw [if_neg (show ¬ (false = true) by decide)] at H; exact H
   clear H
   have H := H1
   clear H1
   by_cases c27 : t350 = 0
   case neg =>
    rw [if_neg c27] at H
    have c27b0 : (t350 == 0) = false := beq_eq_false_iff_ne.mpr c27
    have c27b1 : (t350 != 0) = true := bne_iff_ne.mpr c27
    by_cases c73 : ((t350 == 7) == t356) = true
    case neg =>
     rw [if_neg c73] at H
     have c73b0 : ((t350 == 7) == t356) = false := by simpa using c73
     (try (have c73b1 : decide ((t350 == 7) = t356) = false := by simpa using c73))
     (try (have c73b2 : ((t350 == 7) == t356) = false := by simpa using c73))
     (try (have c73b3 : ¬ ((t350 == 7) = t356) := by simpa using c73))
     clear c73
     exact absurd ((Option.some.inj H).trans hr_) (by decide)
    rw [if_pos c73] at H
    have c73b0 : ((t350 == 7) == t356) = true := c73
    (try (have c73b1 : decide ((t350 == 7) = t356) = true := by simpa using c73))
    (try (have c73b2 : ((t350 == 7) == t356) = true := by simpa using c73))
    clear c73
    by_cases c74 : t356 = true
    ·subst c74
     have H1 : ((strongroomlaw20_lives.f kj14).bind fun t357 => (some t357)) = some r := by rw [if_pos rfl] at H; exact H
     clear H
     have H := H1
     clear H1
     replace H := Option.bind_eq_some_iff.mp H
     obtain ⟨t357, A750, H⟩ := H
     replace H : (some t357) = some r := H
     have A75 := Aside0.mk A750
     clear A750
     obtain rfl := Option.some.inj H
     go_wp2_with (first | (go_at_call 12; (with_reducible refine (strongroomlaw20_lives.calls kj14  t357 _ A75.out hr_).mono ?_); rintro e w76 ⟨rfl, hb⟩; replace HO_5 := Aside0.mk (Kd.R_below m21_ hb); replace HO_352005 := Aside0.mk (Kd.R_below m19_ hb); replace HO_352006 := Aside0.mk (Kd.R_below m18_ hb); replace BK351 := Aside0.mk (blk_below (g := gb351) (o := .cells #[.int .i64 t339, .string t340, .string t341, .string t342, .string t343, .slice Ao22 t344.length co22, .slice Ao23 t347.length co23] 57 (0, 0)) m12_ hb); replace HB := Aside0.mk (below_step m1_ hb); (try clear hb); (try clear hb2); (try clear hk); (try clear hi)))
     go_ret
     exact ⟨by first | rfl | (simp [errW_none, errW_some] <;> rfl) | (simp [*, errW_none, errW_some] <;> rfl), m40_⟩
    replace c74 := Bool.eq_false_iff.mpr c74
    subst c74
    have H1 : (if t350 = 1 then ((strongroomlaw20_lives.f kj14).bind fun t358 => (some t358)) else (some false)) = some r := by rw [if_neg (show ¬ (false = true) by decide)] at H; exact H
    clear H
    have H := H1
    clear H1
    by_cases c77 : t350 = 1
    case neg =>
     rw [if_neg c77] at H
     have c77b0 : (t350 == 1) = false := beq_eq_false_iff_ne.mpr c77
     have c77b1 : (t350 != 1) = true := bne_iff_ne.mpr c77
     exact absurd ((Option.some.inj H).trans hr_) (by decide)
    rw [if_pos c77] at H
    have c77b0 : (t350 == 1) = true := beq_iff_eq.mpr c77
    have c77b1 : (t350 != 1) = false := bne_eq_false_iff_eq.mpr c77
    clear c77
    replace H := Option.bind_eq_some_iff.mp H
    obtain ⟨t358, A780, H⟩ := H
    replace H : (some t358) = some r := H
    have A78 := Aside0.mk A780
    clear A780
    obtain rfl := Option.some.inj H
    go_wp2_with (first | (go_at_call 12; (with_reducible refine (strongroomlaw20_lives.calls kj14  t358 _ A78.out hr_).mono ?_); rintro e w79 ⟨rfl, hb⟩; replace HO_5 := Aside0.mk (Kd.R_below m21_ hb); replace HO_352005 := Aside0.mk (Kd.R_below m19_ hb); replace HO_352006 := Aside0.mk (Kd.R_below m18_ hb); replace BK351 := Aside0.mk (blk_below (g := gb351) (o := .cells #[.int .i64 t339, .string t340, .string t341, .string t342, .string t343, .slice Ao22 t344.length co22, .slice Ao23 t347.length co23] 57 (0, 0)) m12_ hb); replace HB := Aside0.mk (below_step m1_ hb); (try clear hb); (try clear hb2); (try clear hk); (try clear hi)))
    go_ret
    exact ⟨by first | rfl | (simp [errW_none, errW_some] <;> rfl) | (simp [*, errW_none, errW_some] <;> rfl), m40_⟩
   rw [if_pos c27] at H
   have c27b0 : (t350 == 0) = true := beq_iff_eq.mpr c27
   have c27b1 : (t350 != 0) = false := bne_eq_false_iff_eq.mpr c27
   clear c27
   replace H := Option.bind_eq_some_iff.mp H
   obtain ⟨t359, A280, H⟩ := H
   replace H : (if t339 = t337 then ((merkle_Missing.f kj14 t359 (t334.length : Int) a1 t339 t340 t341 t342 t343 t344 t347).bind fun t360 => (if t360 = true then ((strongroomlaw20_absence.f t339 t340 t341 t342 t343 t344 t347).bind fun _ => ((strongroomref20_Missing.f kj14 t359 (t334.length : Int) a1 t339 t340 t341 t342 t343 t344 t347).bind fun t361 => (strongroomlaw20_MerkleAbsent.j2 kj14 a1 t334 t337 t359 (!t361) t339 t340 t341 t342 t343 t344 t347))) else (strongroomlaw20_MerkleAbsent.j2 kj14 a1 t334 t337 t359 true t339 t340 t341 t342 t343 t344 t347))) else (strongroomlaw20_MerkleAbsent.j2 kj14 a1 t334 t337 t359 true t339 t340 t341 t342 t343 t344 t347)) = some r := H
   have A28 := Aside0.mk A280
   clear A280
   have HC29 := Aside0.mk H
   clear H
   go_upto_region 14 with (first | ((with_reducible refine gate_callee (f := 13) rfl ?_); refine goesL_ (some 86) rfl rfl Tryd.func13 (by kernel_rfl) rfl #[.slice Ao17 t334.length co17] rfl m10_ ?_; (with_reducible refine (merkle_Digest.calls kj14 _ _ t334 t359 _ ?side1 ?side2 A28.out).mono ?_); (case side1 => repeat (first | exact (Kd.R_reads' HO_5.out).2.2 | (with_reducible refine Kd.C_alloc ?_ _) | (with_reducible refine Kd.C_drewN ?_ _) | (with_reducible refine Kd.C_drew ?_))); (case side2 => exact (Kd.R_reads' HO_5.out).2.1); rintro e w30 ⟨rfl, hb⟩; refine ⟨_, rfl, ?_⟩; replace HO_5 := Aside0.mk (Kd.R_below m21_ hb); replace HO_352005 := Aside0.mk (Kd.R_below m19_ hb); replace HO_352006 := Aside0.mk (Kd.R_below m18_ hb); replace BK351 := Aside0.mk (blk_below (g := gb351) (o := .cells #[.int .i64 t339, .string t340, .string t341, .string t342, .string t343, .slice Ao22 t344.length co22, .slice Ao23 t347.length co23] 57 (0, 0)) m12_ hb); replace HB := Aside0.mk (below_step m1_ hb); (try clear hb); (try clear hb2); (try clear hk); (try clear hi)))
   (try simp only [Act.put, List.setIfInBounds_toArray, List.set_cons_zero, List.set_cons_succ])
   go_cut [109] (fun v109 wc => ∃ (kq : Nat) (x109_28 : Bool), v109 = .bool x109_28 ∧ Aside0 (strongroomlaw20_MerkleAbsent.j2 kq a1 t334 t337 t359 x109_28 t339 t340 t341 t342 t343 t344 t347 = some r) ∧ Aside0 (kq ≤ kj14) ∧ Aside0 (Kd.R k44 44 wc w.heap.size (fun _ => True) (.slice Ao17 t334.length co17) t334) ∧ Aside0 (Kd.R Kd.string 9 wc w.heap.size (fun k_ => some k_ ≠ ((.slice Ao23 t347.length co23) : Value).ownBlock) (.slice Ao22 t344.length co22) t344) ∧ Aside0 (Kd.R Kd.string 9 wc w.heap.size (fun k_ => some k_ ≠ ((.slice Ao22 t344.length co22) : Value).ownBlock) (.slice Ao23 t347.length co23) t347) ∧ Aside0 (wc.heap[gb351]? = some (.cells #[.int .i64 t339, .string t340, .string t341, .string t342, .string t343, (.slice Ao22 t344.length co22), (.slice Ao23 t347.length co23)] 57 (0, 0))) ∧ Aside0 (Below w.heap.size w wc))
   case first =>
    have H := HC29.out
    clear HC29
    by_cases c31 : t339 = t337
    case neg =>
     rw [if_neg c31] at H
     have c31b0 : (t339 == t337) = false := beq_eq_false_iff_ne.mpr c31
     have c31b1 : (t339 != t337) = true := bne_iff_ne.mpr c31
     (first | rw [c31b0] | (simp only [i64_w, i32_w]; rw [c31b0]) | skip)
     have H' := Aside0.mk H
     clear H
     obtain ⟨hcz43_0, hcz43_1, hcz43_2, hcz43_3, hcz43_4, hcz43_5, hcz43_6⟩ := bc7_ BK351.out
     obtain ⟨hfz43_0, hfz43_1, hfz43_2, hfz43_3, hfz43_4, hfz43_5, hfz43_6⟩ := bf7_ BK351.out
     go_wp2
     go_meet
     case rel => exact ⟨_, (true), m23_, H', ⟨by have := HJ2.out; have := HJ14.out; first | omega | exact Nat.le_refl _⟩, ⟨by (with_reducible repeat (first | apply Kd.R_alloc | apply Kd.R_drewN | apply Kd.R_drew)); exact HO_5.out⟩, ⟨by (with_reducible repeat (first | apply Kd.R_alloc | apply Kd.R_drewN | apply Kd.R_drew)); exact HO_352005.out⟩, ⟨by (with_reducible repeat (first | apply Kd.R_alloc | apply Kd.R_drewN | apply Kd.R_drew)); exact HO_352006.out⟩, ⟨by (with_reducible repeat (first | refine blk_drewN ?_ _ | refine blk_drew ?_ | refine blk_alloc ?_ _)); exact BK351.out⟩, ⟨m40_⟩⟩
    rw [if_pos c31] at H
    have c31b0 : (t339 == t337) = true := beq_iff_eq.mpr c31
    have c31b1 : (t339 != t337) = false := bne_eq_false_iff_eq.mpr c31
    clear c31
    (first | rw [c31b0] | (simp only [i64_w, i32_w]; rw [c31b0]) | skip)
    replace H := Option.bind_eq_some_iff.mp H
    obtain ⟨t360, A320, H⟩ := H
    replace H : (if t360 = true then ((strongroomlaw20_absence.f t339 t340 t341 t342 t343 t344 t347).bind fun _ => ((strongroomref20_Missing.f kj14 t359 (t334.length : Int) a1 t339 t340 t341 t342 t343 t344 t347).bind fun t361 => (strongroomlaw20_MerkleAbsent.j2 kj14 a1 t334 t337 t359 (!t361) t339 t340 t341 t342 t343 t344 t347))) else (strongroomlaw20_MerkleAbsent.j2 kj14 a1 t334 t337 t359 true t339 t340 t341 t342 t343 t344 t347)) = some r := H
    have A32 := Aside0.mk A320
    clear A320
    by_cases c33 : t360 = true
    case neg =>
     replace c33 := Bool.eq_false_iff.mpr c33
     subst c33
     have H1 : (strongroomlaw20_MerkleAbsent.j2 kj14 a1 t334 t337 t359 true t339 t340 t341 t342 t343 t344 t347) = some r := by rw [if_neg (show ¬ (false = true) by decide)] at H; exact H
     clear H
     have H := H1
     clear H1
     have H' := Aside0.mk H
     clear H
     obtain ⟨hcz41_0, hcz41_1, hcz41_2, hcz41_3, hcz41_4, hcz41_5, hcz41_6⟩ := bc7_ BK351.out
     obtain ⟨hfz41_0, hfz41_1, hfz41_2, hfz41_3, hfz41_4, hfz41_5, hfz41_6⟩ := bf7_ BK351.out
     go_wp2_with (first | (go_at_call 28; (with_reducible refine (merkle_Missing.calls kj14 t359 (t334.length : Int) a1 t339 t340 t341 t342 t343 _ _ t344 _ _ t347 false _ ?side1 ?side2 ?side3 ?side4 A32.out).mono ?_); (case side1 => exact m26_); (case side2 => exact (Kd.R_reads' HO_352005.out).2.1); (case side3 => exact m27_); (case side4 => exact (Kd.R_reads' HO_352006.out).2.1); rintro e w42 ⟨rfl, hb⟩; replace HO_5 := Aside0.mk (Kd.R_below m21_ hb); replace HO_352005 := Aside0.mk (Kd.R_below m19_ hb); replace HO_352006 := Aside0.mk (Kd.R_below m18_ hb); replace BK351 := Aside0.mk (blk_below (g := gb351) (o := .cells #[.int .i64 t339, .string t340, .string t341, .string t342, .string t343, .slice Ao22 t344.length co22, .slice Ao23 t347.length co23] 57 (0, 0)) m12_ hb); replace HB := Aside0.mk (below_step m1_ hb); (try clear hb); (try clear hb2); (try clear hk); (try clear hi)))
     go_meet
     case rel => exact ⟨_, (true), m23_, H', ⟨by have := HJ2.out; have := HJ14.out; first | omega | exact Nat.le_refl _⟩, ⟨by (with_reducible repeat (first | apply Kd.R_alloc | apply Kd.R_drewN | apply Kd.R_drew)); exact HO_5.out⟩, ⟨by (with_reducible repeat (first | apply Kd.R_alloc | apply Kd.R_drewN | apply Kd.R_drew)); exact HO_352005.out⟩, ⟨by (with_reducible repeat (first | apply Kd.R_alloc | apply Kd.R_drewN | apply Kd.R_drew)); exact HO_352006.out⟩, ⟨by (with_reducible repeat (first | refine blk_drewN ?_ _ | refine blk_drew ?_ | refine blk_alloc ?_ _)); exact BK351.out⟩, ⟨m40_⟩⟩
    subst c33
    have H1 : ((strongroomlaw20_absence.f t339 t340 t341 t342 t343 t344 t347).bind fun _ => ((strongroomref20_Missing.f kj14 t359 (t334.length : Int) a1 t339 t340 t341 t342 t343 t344 t347).bind fun t361 => (strongroomlaw20_MerkleAbsent.j2 kj14 a1 t334 t337 t359 (!t361) t339 t340 t341 t342 t343 t344 t347))) = some r := by rw [if_pos rfl] at H; exact H
    clear H
    have H := H1
    clear H1
    replace H := Option.bind_eq_some_iff.mp H
    obtain ⟨_, A340, H⟩ := H
    replace H : ((strongroomref20_Missing.f kj14 t359 (t334.length : Int) a1 t339 t340 t341 t342 t343 t344 t347).bind fun t361 => (strongroomlaw20_MerkleAbsent.j2 kj14 a1 t334 t337 t359 (!t361) t339 t340 t341 t342 t343 t344 t347)) = some r := H
    have A34 := Aside0.mk A340
    clear A340
    replace H := Option.bind_eq_some_iff.mp H
    obtain ⟨t361, A350, H⟩ := H
    replace H : (strongroomlaw20_MerkleAbsent.j2 kj14 a1 t334 t337 t359 (!t361) t339 t340 t341 t342 t343 t344 t347) = some r := H
    have A35 := Aside0.mk A350
    clear A350
    have H' := Aside0.mk H
    clear H
    obtain ⟨hcz36_0, hcz36_1, hcz36_2, hcz36_3, hcz36_4, hcz36_5, hcz36_6⟩ := bc7_ BK351.out
    obtain ⟨hfz36_0, hfz36_1, hfz36_2, hfz36_3, hfz36_4, hfz36_5, hfz36_6⟩ := bf7_ BK351.out
    go_wp2_with (first | (go_at_call 28; (with_reducible refine (merkle_Missing.calls kj14 t359 (t334.length : Int) a1 t339 t340 t341 t342 t343 _ _ t344 _ _ t347 true _ ?side1 ?side2 ?side3 ?side4 A32.out).mono ?_); (case side1 => exact m26_); (case side2 => exact (Kd.R_reads' HO_352005.out).2.1); (case side3 => exact m27_); (case side4 => exact (Kd.R_reads' HO_352006.out).2.1); rintro e w37 ⟨rfl, hb⟩; replace HO_5 := Aside0.mk (Kd.R_below m21_ hb); replace HO_352005 := Aside0.mk (Kd.R_below m19_ hb); replace HO_352006 := Aside0.mk (Kd.R_below m18_ hb); replace BK351 := Aside0.mk (blk_below (g := gb351) (o := .cells #[.int .i64 t339, .string t340, .string t341, .string t342, .string t343, .slice Ao22 t344.length co22, .slice Ao23 t347.length co23] 57 (0, 0)) m12_ hb); replace HB := Aside0.mk (below_step m1_ hb); (try clear hb); (try clear hb2); (try clear hk); (try clear hi); obtain ⟨hcz38_0, hcz38_1, hcz38_2, hcz38_3, hcz38_4, hcz38_5, hcz38_6⟩ := bc7_ BK351.out; obtain ⟨hfz38_0, hfz38_1, hfz38_2, hfz38_3, hfz38_4, hfz38_5, hfz38_6⟩ := bf7_ BK351.out) | (go_at_call 41; (with_reducible refine (strongroomlaw20_absence.calls t339 t340 t341 t342 t343 _ _ t344 _ _ t347  _ ?side1 ?side2 ?side3 ?side4 A34.out).mono ?_); (case side1 => exact m26_); (case side2 => exact (Kd.R_reads' HO_352005.out).2.1); (case side3 => exact m27_); (case side4 => exact (Kd.R_reads' HO_352006.out).2.1); rintro e w39 ⟨rfl, hb⟩; replace HO_5 := Aside0.mk (Kd.R_below m21_ hb); replace HO_352005 := Aside0.mk (Kd.R_below m19_ hb); replace HO_352006 := Aside0.mk (Kd.R_below m18_ hb); replace BK351 := Aside0.mk (blk_below (g := gb351) (o := .cells #[.int .i64 t339, .string t340, .string t341, .string t342, .string t343, .slice Ao22 t344.length co22, .slice Ao23 t347.length co23] 57 (0, 0)) m12_ hb); replace HB := Aside0.mk (below_step m1_ hb); (try clear hb); (try clear hb2); (try clear hk); (try clear hi)) | (go_at_call 29; (with_reducible refine (strongroomref20_Missing.calls kj14 t359 (t334.length : Int) a1 t339 t340 t341 t342 t343 _ _ t344 _ _ t347 t361 _ ?side1 ?side2 ?side3 ?side4 A35.out).mono ?_); (case side1 => exact m26_); (case side2 => exact (Kd.R_reads' HO_352005.out).2.1); (case side3 => exact m27_); (case side4 => exact (Kd.R_reads' HO_352006.out).2.1); rintro e w40 ⟨rfl, hb⟩; replace HO_5 := Aside0.mk (Kd.R_below m21_ hb); replace HO_352005 := Aside0.mk (Kd.R_below m19_ hb); replace HO_352006 := Aside0.mk (Kd.R_below m18_ hb); replace BK351 := Aside0.mk (blk_below (g := gb351) (o := .cells #[.int .i64 t339, .string t340, .string t341, .string t342, .string t343, .slice Ao22 t344.length co22, .slice Ao23 t347.length co23] 57 (0, 0)) m12_ hb); replace HB := Aside0.mk (below_step m1_ hb); (try clear hb); (try clear hb2); (try clear hk); (try clear hi)))
    go_meet
    case rel => exact ⟨_, (!t361), m23_, H', ⟨by have := HJ2.out; have := HJ14.out; first | omega | exact Nat.le_refl _⟩, ⟨by (with_reducible repeat (first | apply Kd.R_alloc | apply Kd.R_drewN | apply Kd.R_drew)); exact HO_5.out⟩, ⟨by (with_reducible repeat (first | apply Kd.R_alloc | apply Kd.R_drewN | apply Kd.R_drew)); exact HO_352005.out⟩, ⟨by (with_reducible repeat (first | apply Kd.R_alloc | apply Kd.R_drewN | apply Kd.R_drew)); exact HO_352006.out⟩, ⟨by (with_reducible repeat (first | refine blk_drewN ?_ _ | refine blk_drew ?_ | refine blk_alloc ?_ _)); exact BK351.out⟩, ⟨m40_⟩⟩
   clear HC29
   try clear c1; try clear c2; try clear p2; try clear c3; try clear c4; try clear c5; try clear c6; try clear c10; try clear c11; try clear c12; try clear c13; try clear c14; try clear c17; try clear c25; try clear c25b0; try clear c25b1; try clear c26; try clear c27; try clear c27b0; try clear c27b1; try clear c31; try clear c31b0; try clear c31b1; try clear c33; try clear c38; try clear c39; try clear c40; try clear hcz21_0; try clear hcz21_1; try clear hcz21_2; try clear hcz21_3; try clear hcz21_4; try clear hcz21_5; try clear hcz21_6; try clear hcz36_0; try clear hcz36_1; try clear hcz36_2; try clear hcz36_3; try clear hcz36_4; try clear hcz36_5; try clear hcz36_6; try clear hcz38_0; try clear hcz38_1; try clear hcz38_2; try clear hcz38_3; try clear hcz38_4; try clear hcz38_5; try clear hcz38_6; try clear hcz41_0; try clear hcz41_1; try clear hcz41_2; try clear hcz41_3; try clear hcz41_4; try clear hcz41_5; try clear hcz41_6; try clear hcz43_0; try clear hcz43_1; try clear hcz43_2; try clear hcz43_3; try clear hcz43_4; try clear hcz43_5; try clear hcz43_6; try clear hfz21_0; try clear hfz21_1; try clear hfz21_2; try clear hfz21_3; try clear hfz21_4; try clear hfz21_5; try clear hfz21_6; try clear hfz36_0; try clear hfz36_1; try clear hfz36_2; try clear hfz36_3; try clear hfz36_4; try clear hfz36_5; try clear hfz36_6; try clear hfz38_0; try clear hfz38_1; try clear hfz38_2; try clear hfz38_3; try clear hfz38_4; try clear hfz38_5; try clear hfz38_6; try clear hfz41_0; try clear hfz41_1; try clear hfz41_2; try clear hfz41_3; try clear hfz41_4; try clear hfz41_5; try clear hfz41_6; try clear hfz43_0; try clear hfz43_1; try clear hfz43_2; try clear hfz43_3; try clear hfz43_4; try clear hfz43_5; try clear hfz43_6; try clear p2
   obtain ⟨kq, x109_28, rfl, HA, HJ28, HO_5, HO_352005, HO_352006, BK351, HB⟩ := hcut
   cases kq with
   | zero => exact absurd HA.out (by simp [strongroomlaw20_MerkleAbsent.j2])
   | succ kj28 =>
    have H := HA.out
    clear HA
    simp only [strongroomlaw20_MerkleAbsent.j2] at H
    by_cases c44 : x109_28 = true
    ·subst c44
     have H1 : (some false) = some r := by rw [if_pos rfl] at H; exact H
     clear H
     have H := H1
     clear H1
     exact absurd ((Option.some.inj H).trans hr_) (by decide)
    replace c44 := Bool.eq_false_iff.mpr c44
    subst c44
    have H1 : (strongroomlaw20_MerkleAbsent.l0 kj28 a1 t334 t337 t359 0 t339 t340 t341 t342 t343 t344 t347) = some r := by rw [if_neg (show ¬ (false = true) by decide)] at H; exact H
    clear H
    have H := H1
    clear H1
    have H' := Aside0.mk H
    clear H
    go_wp2
    go_loopg [13] kj28 (fun kq v13 w' => ∃ (x13_4 : Int), v13 = .int .i64 x13_4 ∧ Aside0 (strongroomlaw20_MerkleAbsent.l0 kq a1 t334 t337 t359 x13_4 t339 t340 t341 t342 t343 t344 t347 = some r) ∧ Aside0 (kq ≤ kj28) ∧ Aside0 (Kd.R k44 44 w' w.heap.size (fun _ => True) (.slice Ao17 t334.length co17) t334) ∧ Aside0 (Kd.R Kd.string 9 w' w.heap.size (fun k_ => some k_ ≠ ((.slice Ao23 t347.length co23) : Value).ownBlock) (.slice Ao22 t344.length co22) t344) ∧ Aside0 (Kd.R Kd.string 9 w' w.heap.size (fun k_ => some k_ ≠ ((.slice Ao22 t344.length co22) : Value).ownBlock) (.slice Ao23 t347.length co23) t347) ∧ Aside0 (w'.heap[gb351]? = some (.cells #[.int .i64 t339, .string t340, .string t341, .string t342, .string t343, (.slice Ao22 t344.length co22), (.slice Ao23 t347.length co23)] 57 (0, 0))) ∧ Aside0 (Below w.heap.size w w'))
    case atStart => exact ⟨(0), m23_, H', ⟨Nat.le_refl _⟩, ⟨by (with_reducible repeat (first | apply Kd.R_alloc | apply Kd.R_drewN | apply Kd.R_drew)); exact HO_5.out⟩, ⟨by (with_reducible repeat (first | apply Kd.R_alloc | apply Kd.R_drewN | apply Kd.R_drew)); exact HO_352005.out⟩, ⟨by (with_reducible repeat (first | apply Kd.R_alloc | apply Kd.R_drewN | apply Kd.R_drew)); exact HO_352006.out⟩, ⟨by (with_reducible repeat (first | refine blk_drewN ?_ _ | refine blk_drew ?_ | refine blk_alloc ?_ _)); exact BK351.out⟩, ⟨m40_⟩⟩
    clear H'
    try clear c1; try clear c2; try clear p2; try clear c3; try clear c4; try clear c5; try clear c6; try clear c10; try clear c11; try clear c12; try clear c13; try clear c14; try clear c17; try clear c25; try clear c25b0; try clear c25b1; try clear c26; try clear c27; try clear c27b0; try clear c27b1; try clear c31; try clear c31b0; try clear c31b1; try clear c33; try clear c38; try clear c39; try clear c40; try clear c44; try clear hcz21_0; try clear hcz21_1; try clear hcz21_2; try clear hcz21_3; try clear hcz21_4; try clear hcz21_5; try clear hcz21_6; try clear hcz36_0; try clear hcz36_1; try clear hcz36_2; try clear hcz36_3; try clear hcz36_4; try clear hcz36_5; try clear hcz36_6; try clear hcz38_0; try clear hcz38_1; try clear hcz38_2; try clear hcz38_3; try clear hcz38_4; try clear hcz38_5; try clear hcz38_6; try clear hcz41_0; try clear hcz41_1; try clear hcz41_2; try clear hcz41_3; try clear hcz41_4; try clear hcz41_5; try clear hcz41_6; try clear hcz43_0; try clear hcz43_1; try clear hcz43_2; try clear hcz43_3; try clear hcz43_4; try clear hcz43_5; try clear hcz43_6; try clear hfz21_0; try clear hfz21_1; try clear hfz21_2; try clear hfz21_3; try clear hfz21_4; try clear hfz21_5; try clear hfz21_6; try clear hfz36_0; try clear hfz36_1; try clear hfz36_2; try clear hfz36_3; try clear hfz36_4; try clear hfz36_5; try clear hfz36_6; try clear hfz38_0; try clear hfz38_1; try clear hfz38_2; try clear hfz38_3; try clear hfz38_4; try clear hfz38_5; try clear hfz38_6; try clear hfz41_0; try clear hfz41_1; try clear hfz41_2; try clear hfz41_3; try clear hfz41_4; try clear hfz41_5; try clear hfz41_6; try clear hfz43_0; try clear hfz43_1; try clear hfz43_2; try clear hfz43_3; try clear hfz43_4; try clear hfz43_5; try clear hfz43_6; try clear p2
    obtain ⟨x13_4, rfl, HA, HK4, HO_5, HO_352005, HO_352006, BK351, HB⟩ := hrel
    cases gk with
    | zero => exact absurd HA.out (by simp [strongroomlaw20_MerkleAbsent.l0])
    | succ k4 =>
     have H := HA.out
     clear HA
     simp only [strongroomlaw20_MerkleAbsent.l0] at H
     by_cases c45 : x13_4 < (t334.length : Int)
     case neg =>
      rw [if_neg c45] at H
      have c45b0 : decide (x13_4 < (t334.length : Int)) = false := decide_eq_false c45
      clear c45
      replace H := Option.bind_eq_some_iff.mp H
      obtain ⟨t362, A710, H⟩ := H
      replace H : (some t362) = some r := H
      have A71 := Aside0.mk A710
      clear A710
      obtain rfl := Option.some.inj H
      go_wp2_with (first | ((with_reducible refine gate_callee (f := 12) rfl ?_); refine goesL_ (some 155) rfl rfl Tryd.func12 (by kernel_rfl) rfl #[] rfl m10_ ?_; (with_reducible refine (strongroomlaw20_lives.calls k4  t362 _ A71.out hr_).mono ?_); rintro e w72 ⟨rfl, hb⟩; refine ⟨_, rfl, ?_⟩; replace HO_5 := Aside0.mk (Kd.R_below m21_ hb); replace HO_352005 := Aside0.mk (Kd.R_below m19_ hb); replace HO_352006 := Aside0.mk (Kd.R_below m18_ hb); replace BK351 := Aside0.mk (blk_below (g := gb351) (o := .cells #[.int .i64 t339, .string t340, .string t341, .string t342, .string t343, .slice Ao22 t344.length co22, .slice Ao23 t347.length co23] 57 (0, 0)) m12_ hb); replace HB := Aside0.mk (below_step m1_ hb); (try clear hb); (try clear hb2); (try clear hk); (try clear hi)))
      go_ret
      exact ⟨by first | rfl | (simp [errW_none, errW_some] <;> rfl) | (simp [*, errW_none, errW_some] <;> rfl), m40_⟩
     rw [if_pos c45] at H
     have c45b0 : decide (x13_4 < (t334.length : Int)) = true := decide_eq_true c45
     clear c45
     by_cases c46 : 0 ≤ x13_4
     case neg =>
      rw [if_neg c46] at H
      exact absurd H (by simp)
     rw [if_pos c46] at H
     have c46b0 : decide (0 ≤ x13_4) = true := decide_eq_true c46
     clear c46
     replace H := Option.bind_eq_some_iff.mp H
     obtain ⟨t364, A470, H⟩ := H
     replace H : (if t364 = true then (if x13_4 = (wrap64 (t337 - 1)) then (if (Op.bytesLess (((rd_T44 t334 x13_4).f0).toList) a1.toList) = true then (if x13_4 = t337 then (if (Op.bytesLess a1.toList (((rd_T44 t334 x13_4).f0).toList)) = true then (some false) else (strongroomlaw20_MerkleAbsent.l0 k4 a1 t334 t337 t359 (wrap64 (x13_4 + 1)) t339 t340 t341 t342 t343 t344 t347)) else (some false)) else (strongroomlaw20_MerkleAbsent.l0 k4 a1 t334 t337 t359 (wrap64 (x13_4 + 1)) t339 t340 t341 t342 t343 t344 t347)) else (if x13_4 = t337 then (if (Op.bytesLess a1.toList (((rd_T44 t334 x13_4).f0).toList)) = true then (some false) else (strongroomlaw20_MerkleAbsent.l0 k4 a1 t334 t337 t359 (wrap64 (x13_4 + 1)) t339 t340 t341 t342 t343 t344 t347)) else (some false))) else (strongroomlaw20_MerkleAbsent.l0 k4 a1 t334 t337 t359 (wrap64 (x13_4 + 1)) t339 t340 t341 t342 t343 t344 t347)) = some r := H
     have A47 := Aside0.mk A470
     clear A470
     by_cases c48 : t364 = true
     case neg =>
      replace c48 := Bool.eq_false_iff.mpr c48
      subst c48
      have H1 : (strongroomlaw20_MerkleAbsent.l0 k4 a1 t334 t337 t359 (wrap64 (x13_4 + 1)) t339 t340 t341 t342 t343 t344 t347) = some r := by rw [if_neg (show ¬ (false = true) by decide)] at H; exact H
      clear H
      have H := H1
      clear H1
      have H' := Aside0.mk H
      clear H
      try go_wp2
      replace HO_5 := Aside0.mk (Kd.R_drew HO_5.out)
      replace HO_352005 := Aside0.mk (Kd.R_drew HO_352005.out)
      replace HO_352006 := Aside0.mk (Kd.R_drew HO_352006.out)
      replace BK351 := Aside0.mk (blk_drew BK351.out)
      replace HB := Aside0.mk (below_drew1 HB.out)
      have p363 : 0 ≤ (x13_4 : Int) := of_decide_eq_true m22_
      have q363 : x13_4 < (t334.length : Int) := of_decide_eq_true m22_
      obtain ⟨ad363, e363, hx363_0, hx363_1⟩ := at_T44 (Kd.R_reads' HO_5.out).2.2 x13_4 p363 q363
      cases e363
      replace p363 := eq_true p363
      replace q363 := eq_true q363
      refine start_ (n := 39) (S := fun w' => w'.cell? ⟨gb351, 0, none⟩ = some (.int .i64 t339) ∧ w'.cell? ⟨gb351, 1, none⟩ = some (.string t340) ∧ w'.cell? ⟨gb351, 2, none⟩ = some (.string t341) ∧ w'.cell? ⟨gb351, 3, none⟩ = some (.string t342) ∧ w'.cell? ⟨gb351, 4, none⟩ = some (.string t343) ∧ w'.cell? ⟨gb351, 5, none⟩ = some (.slice Ao22 t344.length co22) ∧ w'.cell? ⟨gb351, 6, none⟩ = some (.slice Ao23 t347.length co23) ∧ w'.cell? (ad363.add ((x13_4).toNat * 2)) = some (.string ((rd_T44 t334 x13_4).f0)) ∧ w'.cell? ⟨(ad363.add ((x13_4).toNat * 2)).block, (ad363.add ((x13_4).toNat * 2)).off + 1, none⟩ = some (.string ((rd_T44 t334 x13_4).f1))) (ds := []) (Ra_ [0, 39]) (by kernel_rfl) rfl rfl ⟨(blk_cell BK351.out 0).trans rfl, (blk_cell BK351.out 1).trans rfl, (blk_cell BK351.out 2).trans rfl, (blk_cell BK351.out 3).trans rfl, (blk_cell BK351.out 4).trans rfl, (blk_cell BK351.out 5).trans rfl, (blk_cell BK351.out 6).trans rfl, hx363_0, hx363_1⟩ (fun hHeld => ?_); refine with_tabW strongroomlaw20_MerkleAbsent.tab19 strongroomlaw20_MerkleAbsent.bits19 (fun HT_ HW_ => ?_)
      generalize wr.drew = w69 at HO_5 HO_352005 HO_352006 BK351 HB hx363_0 hx363_1 hHeld ⊢
      refine pI_ 0 (some 116) (Ra_ [1, 38]) (h := ?_)
      refine pI_ 1 (some 117) (Ra_ [2, 37]) (h := ?_)
      refine pI_ 2 (some 118) (Ra_ [3, 36]) (h := ?_)
      refine pI_ 3 (some 119) (Ra_ [4, 35]) (h := ?_)
      refine pI_ 4 (some 120) (Ra_ [5, 34]) (h := ?_)
      refine pI_ 5 (some 121) (Ra_ [6, 33]) (h := ?_)
      refine pI_ 6 (some 122) (Ra_ [7, 32]) (h := ?_)
      refine take_ (i := 7) (N := some 123) (v := ?_) (a' := ?_) (Ra_ [8, 31]) rfl rfl (take_ofW HT_.out HW_.out (by kernel_rfl)) (fun _ _ _ h => h) (Or.inl ⟨by rfl, ?_⟩) hHeld ?_ ?_
      rotate_left
      ·rintro w' ⟨s0, s1, s2, s3, s4, s5, s6, s7, s8⟩
       go_simp
       with_reducible rfl
      rotate_left
      ·simp only [Act.put, sA_, sB_, sC_, i64_w, i32_w]
       rfl
      refine take_ (i := 8) (N := some 124) (v := ?_) (a' := ?_) (Ra_ [9, 30]) rfl rfl (take_ofW HT_.out HW_.out (by kernel_rfl)) (fun _ _ _ h => h) (Or.inl ⟨by rfl, ?_⟩) hHeld ?_ ?_
      rotate_left
      ·rintro w' ⟨s0, s1, s2, s3, s4, s5, s6, s7, s8⟩
       go_simp
       with_reducible rfl
      rotate_left
      ·simp only [Act.put, sA_, sB_, sC_, i64_w, i32_w]
       rfl
      refine one_ (i := 9) (N := some 125) (Ra_ [10, 29]) rfl rfl (one_of HT_.out (by kernel_rfl)) (by decide) (fun K hK => ?_)
      refine goes_ Tryd.func28 (by kernel_rfl) rfl #[.string t359, .int .i64 (t334.length : Int), .string ((rd_T44 t334 x13_4).f0), .agg #[.int .i64 t339, .string t340, .string t341, .string t342, .string t343, .slice Ao22 t344.length co22, .slice Ao23 t347.length co23]] (by rfl) rfl rfl m10_ ?_
      with_reducible refine (merkle_Missing.calls k4 t359 (t334.length : Int) ((rd_T44 t334 x13_4).f0) t339 t340 t341 t342 t343 _ _ t344 _ _ t347 false _ ?side1 ?side2 ?side3 ?side4 A47.out).mono ?_
      (case side1 => exact m26_)
      (case side2 => exact (Kd.R_reads' HO_352005.out).2.1)
      (case side3 => exact m27_)
      (case side4 => exact (Kd.R_reads' HO_352006.out).2.1)
      rintro e w70 ⟨rfl, hb⟩
      have HS7_ := (hb.cell (World.block_lt_of_cell? _ _ (hHeld.2.2.2.2.2.2.2.1))).trans (hHeld.2.2.2.2.2.2.2.1)
      have HS8_ := (hb.cell (World.block_lt_of_cell? _ _ (hHeld.2.2.2.2.2.2.2.2))).trans (hHeld.2.2.2.2.2.2.2.2)
      refine ⟨_, rfl, ?_⟩
      replace HO_5 := Aside0.mk (Kd.R_below m21_ hb)
      replace HO_352005 := Aside0.mk (Kd.R_below m19_ hb)
      replace HO_352006 := Aside0.mk (Kd.R_below m18_ hb)
      replace BK351 := Aside0.mk (blk_below (g := gb351) (o := .cells #[.int .i64 t339, .string t340, .string t341, .string t342, .string t343, .slice Ao22 t344.length co22, .slice Ao23 t347.length co23] 57 (0, 0)) m12_ hb)
      replace HB := Aside0.mk (below_step m1_ hb)
      (try clear hb)
      (try clear hb2)
      (try clear hk)
      (try clear hi)
      refine hK.out _ _ ⟨(blk_cell BK351.out 0).trans rfl, (blk_cell BK351.out 1).trans rfl, (blk_cell BK351.out 2).trans rfl, (blk_cell BK351.out 3).trans rfl, (blk_cell BK351.out 4).trans rfl, (blk_cell BK351.out 5).trans rfl, (blk_cell BK351.out 6).trans rfl, HS7_, HS8_⟩ (fun hHeld => ?_)
      clear hK K
      refine norm_ (a' := ?_) ?_ ?_
      rotate_left
      ·show Act.put _ (some 125) _ = _
       simp only [Act.put, sA_, sB_, sC_, i64_w, i32_w]
       rfl
      refine pI_ 10 (some 126) (Ra_ [11, 28]) (h := ?_)
      refine pure_ (i := 11) (N := some 127) (v := undef) (a' := ?_) (Ra_ [12, 27]) rfl rfl (any_of HT_.out (by kernel_rfl)) (fun _ _ _ h => h) (Or.inr ⟨by rfl, rfl⟩) ?_ ?_
      rotate_left
      ·simp only [Act.put, sA_, sB_, sC_, i64_w, i32_w]
       rfl
      refine pure_ (i := 12) (N := some 128) (v := undef) (a' := ?_) (Ra_ [13, 26]) rfl rfl (any_of HT_.out (by kernel_rfl)) (fun _ _ _ h => h) (Or.inr ⟨by rfl, rfl⟩) ?_ ?_
      rotate_left
      ·simp only [Act.put, sA_, sB_, sC_, i64_w, i32_w]
       rfl
      refine pure_ (i := 13) (N := some 129) (v := undef) (a' := ?_) (Ra_ [14, 25]) rfl rfl (any_of HT_.out (by kernel_rfl)) (fun _ _ _ h => h) (Or.inr ⟨by rfl, rfl⟩) ?_ ?_
      rotate_left
      ·simp only [Act.put, sA_, sB_, sC_, i64_w, i32_w]
       rfl
      refine pure_ (i := 14) (N := some 130) (v := undef) (a' := ?_) (Ra_ [15, 24]) rfl rfl (any_of HT_.out (by kernel_rfl)) (fun _ _ _ h => h) (Or.inr ⟨by rfl, rfl⟩) ?_ ?_
      rotate_left
      ·simp only [Act.put, sA_, sB_, sC_, i64_w, i32_w]
       rfl
      refine pure_ (i := 15) (N := some 131) (v := undef) (a' := ?_) (Ra_ [16, 23]) rfl rfl (any_of HT_.out (by kernel_rfl)) (fun _ _ _ h => h) (Or.inr ⟨by rfl, rfl⟩) ?_ ?_
      rotate_left
      ·simp only [Act.put, sA_, sB_, sC_, i64_w, i32_w]
       rfl
      refine pure_ (i := 16) (N := some 132) (v := undef) (a' := ?_) (Ra_ [17, 22]) rfl rfl (any_of HT_.out (by kernel_rfl)) (fun _ _ _ h => h) (Or.inr ⟨by rfl, rfl⟩) ?_ ?_
      rotate_left
      ·simp only [Act.put, sA_, sB_, sC_, i64_w, i32_w]
       rfl
      refine pure_ (i := 17) (N := some 133) (v := undef) (a' := ?_) (Ra_ [18, 21]) rfl rfl (any_of HT_.out (by kernel_rfl)) (fun _ _ _ h => h) (Or.inr ⟨by rfl, rfl⟩) ?_ ?_
      rotate_left
      ·simp only [Act.put, sA_, sB_, sC_, i64_w, i32_w]
       rfl
      refine pure_ (i := 18) (N := some 134) (v := undef) (a' := ?_) (Ra_ [19, 20]) rfl rfl (any_of HT_.out (by kernel_rfl)) (fun _ _ _ h => h) (Or.inr ⟨by rfl, rfl⟩) ?_ ?_
      rotate_left
      ·simp only [Act.put, sA_, sB_, sC_, i64_w, i32_w]
       rfl
      refine pure_ (i := 19) (N := some 135) (v := undef) (a' := ?_) (Ra_ [20, 19]) rfl rfl (any_of HT_.out (by kernel_rfl)) (fun _ _ _ h => h) (Or.inr ⟨by rfl, rfl⟩) ?_ ?_
      rotate_left
      ·simp only [Act.put, sA_, sB_, sC_, i64_w, i32_w]
       rfl
      refine pure_ (i := 20) (N := some 136) (v := undef) (a' := ?_) (Ra_ [21, 18]) rfl rfl (any_of HT_.out (by kernel_rfl)) (fun _ _ _ h => h) (Or.inr ⟨by rfl, rfl⟩) ?_ ?_
      rotate_left
      ·simp only [Act.put, sA_, sB_, sC_, i64_w, i32_w]
       rfl
      refine pure_ (i := 21) (N := some 137) (v := undef) (a' := ?_) (Ra_ [22, 17]) rfl rfl (any_of HT_.out (by kernel_rfl)) (fun _ _ _ h => h) (Or.inr ⟨by rfl, rfl⟩) ?_ ?_
      rotate_left
      ·simp only [Act.put, sA_, sB_, sC_, i64_w, i32_w]
       rfl
      refine pure_ (i := 22) (N := some 138) (v := undef) (a' := ?_) (Ra_ [23, 16]) rfl rfl (any_of HT_.out (by kernel_rfl)) (fun _ _ _ h => h) (Or.inr ⟨by rfl, rfl⟩) ?_ ?_
      rotate_left
      ·simp only [Act.put, sA_, sB_, sC_, i64_w, i32_w]
       rfl
      refine pure_ (i := 23) (N := some 139) (v := undef) (a' := ?_) (Ra_ [24, 15]) rfl rfl (any_of HT_.out (by kernel_rfl)) (fun _ _ _ h => h) (Or.inr ⟨by rfl, rfl⟩) ?_ ?_
      rotate_left
      ·simp only [Act.put, sA_, sB_, sC_, i64_w, i32_w]
       rfl
      refine pI_ 24 (some 140) (Ra_ [25, 14]) (h := ?_)
      refine pI_ 25 (some 141) (Ra_ [26, 13]) (h := ?_)
      refine pure_ (i := 26) (N := some 142) (v := undef) (a' := ?_) (Ra_ [27, 12]) rfl rfl (any_of HT_.out (by kernel_rfl)) (fun _ _ _ h => h) (Or.inr ⟨by rfl, rfl⟩) ?_ ?_
      rotate_left
      ·simp only [Act.put, sA_, sB_, sC_, i64_w, i32_w]
       rfl
      refine pure_ (i := 27) (N := some 143) (v := undef) (a' := ?_) (Ra_ [28, 11]) rfl rfl (any_of HT_.out (by kernel_rfl)) (fun _ _ _ h => h) (Or.inr ⟨by rfl, rfl⟩) ?_ ?_
      rotate_left
      ·simp only [Act.put, sA_, sB_, sC_, i64_w, i32_w]
       rfl
      refine pure_ (i := 28) (N := some 144) (v := undef) (a' := ?_) (Ra_ [29, 10]) rfl rfl (any_of HT_.out (by kernel_rfl)) (fun _ _ _ h => h) (Or.inr ⟨by rfl, rfl⟩) ?_ ?_
      rotate_left
      ·simp only [Act.put, sA_, sB_, sC_, i64_w, i32_w]
       rfl
      refine pure_ (i := 29) (N := some 145) (v := undef) (a' := ?_) (Ra_ [30, 9]) rfl rfl (any_of HT_.out (by kernel_rfl)) (fun _ _ _ h => h) (Or.inr ⟨by rfl, rfl⟩) ?_ ?_
      rotate_left
      ·simp only [Act.put, sA_, sB_, sC_, i64_w, i32_w]
       rfl
      refine pure_ (i := 30) (N := some 146) (v := undef) (a' := ?_) (Ra_ [31, 8]) rfl rfl (any_of HT_.out (by kernel_rfl)) (fun _ _ _ h => h) (Or.inr ⟨by rfl, rfl⟩) ?_ ?_
      rotate_left
      ·simp only [Act.put, sA_, sB_, sC_, i64_w, i32_w]
       rfl
      refine pure_ (i := 31) (N := some 147) (v := undef) (a' := ?_) (Ra_ [32, 7]) rfl rfl (any_of HT_.out (by kernel_rfl)) (fun _ _ _ h => h) (Or.inr ⟨by rfl, rfl⟩) ?_ ?_
      rotate_left
      ·simp only [Act.put, sA_, sB_, sC_, i64_w, i32_w]
       rfl
      refine pure_ (i := 32) (N := some 148) (v := undef) (a' := ?_) (Ra_ [33, 6]) rfl rfl (any_of HT_.out (by kernel_rfl)) (fun _ _ _ h => h) (Or.inr ⟨by rfl, rfl⟩) ?_ ?_
      rotate_left
      ·simp only [Act.put, sA_, sB_, sC_, i64_w, i32_w]
       rfl
      refine pure_ (i := 33) (N := some 149) (v := undef) (a' := ?_) (Ra_ [34, 5]) rfl rfl (any_of HT_.out (by kernel_rfl)) (fun _ _ _ h => h) (Or.inr ⟨by rfl, rfl⟩) ?_ ?_
      rotate_left
      ·simp only [Act.put, sA_, sB_, sC_, i64_w, i32_w]
       rfl
      refine pure_ (i := 34) (N := some 150) (v := undef) (a' := ?_) (Ra_ [35, 4]) rfl rfl (any_of HT_.out (by kernel_rfl)) (fun _ _ _ h => h) (Or.inr ⟨by rfl, rfl⟩) ?_ ?_
      rotate_left
      ·simp only [Act.put, sA_, sB_, sC_, i64_w, i32_w]
       rfl
      refine pure_ (i := 35) (N := some 151) (v := undef) (a' := ?_) (Ra_ [36, 3]) rfl rfl (any_of HT_.out (by kernel_rfl)) (fun _ _ _ h => h) (Or.inr ⟨by rfl, rfl⟩) ?_ ?_
      rotate_left
      ·simp only [Act.put, sA_, sB_, sC_, i64_w, i32_w]
       rfl
      refine pure_ (i := 36) (N := some 152) (v := undef) (a' := ?_) (Ra_ [37, 2]) rfl rfl (any_of HT_.out (by kernel_rfl)) (fun _ _ _ h => h) (Or.inr ⟨by rfl, rfl⟩) ?_ ?_
      rotate_left
      ·simp only [Act.put, sA_, sB_, sC_, i64_w, i32_w]
       rfl
      refine pure_ (i := 37) (N := some 153) (v := undef) (a' := ?_) (Ra_ [38, 1]) rfl rfl (any_of HT_.out (by kernel_rfl)) (fun _ _ _ h => h) (Or.inr ⟨by rfl, rfl⟩) ?_ ?_
      rotate_left
      ·simp only [Act.put, sA_, sB_, sC_, i64_w, i32_w]
       rfl
      refine pI_ 38 (some 154) (Ra_ [39]) (h := ?_)
      refine done_ (done_of HT_.out (by kernel_rfl)) ?_
      try go_wp2
      go_roundg k4
      case measure => have := HJ2.out; have := HJ14.out; have := HJ28.out; have := HK4.out; omega
      case rel => exact ⟨(wrap64 (x13_4 + 1)), m23_, H', ⟨by have := HJ2.out; have := HJ14.out; have := HJ28.out; have := HK4.out; omega⟩, ⟨by (with_reducible repeat (first | apply Kd.R_alloc | apply Kd.R_drewN | apply Kd.R_drew)); exact HO_5.out⟩, ⟨by (with_reducible repeat (first | apply Kd.R_alloc | apply Kd.R_drewN | apply Kd.R_drew)); exact HO_352005.out⟩, ⟨by (with_reducible repeat (first | apply Kd.R_alloc | apply Kd.R_drewN | apply Kd.R_drew)); exact HO_352006.out⟩, ⟨by (with_reducible repeat (first | refine blk_drewN ?_ _ | refine blk_drew ?_ | refine blk_alloc ?_ _)); exact BK351.out⟩, ⟨m40_⟩⟩
     subst c48
     have H1 : (if x13_4 = (wrap64 (t337 - 1)) then (if (Op.bytesLess (((rd_T44 t334 x13_4).f0).toList) a1.toList) = true then (if x13_4 = t337 then (if (Op.bytesLess a1.toList (((rd_T44 t334 x13_4).f0).toList)) = true then (some false) else (strongroomlaw20_MerkleAbsent.l0 k4 a1 t334 t337 t359 (wrap64 (x13_4 + 1)) t339 t340 t341 t342 t343 t344 t347)) else (some false)) else (strongroomlaw20_MerkleAbsent.l0 k4 a1 t334 t337 t359 (wrap64 (x13_4 + 1)) t339 t340 t341 t342 t343 t344 t347)) else (if x13_4 = t337 then (if (Op.bytesLess a1.toList (((rd_T44 t334 x13_4).f0).toList)) = true then (some false) else (strongroomlaw20_MerkleAbsent.l0 k4 a1 t334 t337 t359 (wrap64 (x13_4 + 1)) t339 t340 t341 t342 t343 t344 t347)) else (some false))) = some r := by rw [if_pos rfl] at H; exact H
     clear H
     have H := H1
     clear H1
     by_cases c49 : x13_4 = (wrap64 (t337 - 1))
     case neg =>
      rw [if_neg c49] at H
      have c49b0 : (x13_4 == (wrap64 (t337 - 1))) = false := beq_eq_false_iff_ne.mpr c49
      have c49b1 : (x13_4 != (wrap64 (t337 - 1))) = true := bne_iff_ne.mpr c49
      by_cases c61 : x13_4 = t337
      case neg =>
       rw [if_neg c61] at H
       have c61b0 : (x13_4 == t337) = false := beq_eq_false_iff_ne.mpr c61
       have c61b1 : (x13_4 != t337) = true := bne_iff_ne.mpr c61
       exact absurd ((Option.some.inj H).trans hr_) (by decide)
      rw [if_pos c61] at H
      have c61b0 : (x13_4 == t337) = true := beq_iff_eq.mpr c61
      have c61b1 : (x13_4 != t337) = false := bne_eq_false_iff_eq.mpr c61
      clear c61
      by_cases c62 : (Op.bytesLess a1.toList (((rd_T44 t334 x13_4).f0).toList)) = true
      ·rw [if_pos c62] at H
       have c62b0 : (Op.bytesLess a1.toList (((rd_T44 t334 x13_4).f0).toList)) = true := c62
       clear c62
       exact absurd ((Option.some.inj H).trans hr_) (by decide)
      rw [if_neg c62] at H
      have c62b0 : (Op.bytesLess a1.toList (((rd_T44 t334 x13_4).f0).toList)) = false := by simpa using c62
      clear c62
      have H' := Aside0.mk H
      clear H
      try go_wp2
      replace HO_5 := Aside0.mk (Kd.R_drew HO_5.out)
      replace HO_352005 := Aside0.mk (Kd.R_drew HO_352005.out)
      replace HO_352006 := Aside0.mk (Kd.R_drew HO_352006.out)
      replace BK351 := Aside0.mk (blk_drew BK351.out)
      replace HB := Aside0.mk (below_drew1 HB.out)
      have p363 : 0 ≤ (x13_4 : Int) := of_decide_eq_true m22_
      have q363 : x13_4 < (t334.length : Int) := of_decide_eq_true m22_
      obtain ⟨ad363, e363, hx363_0, hx363_1⟩ := at_T44 (Kd.R_reads' HO_5.out).2.2 x13_4 p363 q363
      cases e363
      replace p363 := eq_true p363
      replace q363 := eq_true q363
      have p367 : 0 ≤ (x13_4 : Int) := of_decide_eq_true m22_
      have q367 : x13_4 < (t334.length : Int) := of_decide_eq_true m22_
      obtain ⟨ad367, e367, hx367_0, hx367_1⟩ := at_T44 (Kd.R_reads' HO_5.out).2.2 x13_4 p367 q367
      obtain rfl : ad363 = ad367 := (by injection e367)
      replace p367 := eq_true p367
      replace q367 := eq_true q367
      refine start_ (n := 39) (S := fun w' => w'.cell? ⟨gb351, 0, none⟩ = some (.int .i64 t339) ∧ w'.cell? ⟨gb351, 1, none⟩ = some (.string t340) ∧ w'.cell? ⟨gb351, 2, none⟩ = some (.string t341) ∧ w'.cell? ⟨gb351, 3, none⟩ = some (.string t342) ∧ w'.cell? ⟨gb351, 4, none⟩ = some (.string t343) ∧ w'.cell? ⟨gb351, 5, none⟩ = some (.slice Ao22 t344.length co22) ∧ w'.cell? ⟨gb351, 6, none⟩ = some (.slice Ao23 t347.length co23) ∧ w'.cell? (ad363.add ((x13_4).toNat * 2)) = some (.string ((rd_T44 t334 x13_4).f0)) ∧ w'.cell? ⟨(ad363.add ((x13_4).toNat * 2)).block, (ad363.add ((x13_4).toNat * 2)).off + 1, none⟩ = some (.string ((rd_T44 t334 x13_4).f1)) ∧ w'.cell? (ad363.add ((x13_4).toNat * 2)) = some (.string ((rd_T44 t334 x13_4).f0)) ∧ w'.cell? ⟨(ad363.add ((x13_4).toNat * 2)).block, (ad363.add ((x13_4).toNat * 2)).off + 1, none⟩ = some (.string ((rd_T44 t334 x13_4).f1))) (ds := []) (Ra_ [0, 39]) (by kernel_rfl) rfl rfl ⟨(blk_cell BK351.out 0).trans rfl, (blk_cell BK351.out 1).trans rfl, (blk_cell BK351.out 2).trans rfl, (blk_cell BK351.out 3).trans rfl, (blk_cell BK351.out 4).trans rfl, (blk_cell BK351.out 5).trans rfl, (blk_cell BK351.out 6).trans rfl, hx363_0, hx363_1, hx367_0, hx367_1⟩ (fun hHeld => ?_); refine with_tabW strongroomlaw20_MerkleAbsent.tab19 strongroomlaw20_MerkleAbsent.bits19 (fun HT_ HW_ => ?_)
      generalize wr.drew = w65 at HO_5 HO_352005 HO_352006 BK351 HB hx363_0 hx363_1 hx367_0 hx367_1 hHeld ⊢
      refine pI_ 0 (some 116) (Ra_ [1, 38]) (h := ?_)
      refine pI_ 1 (some 117) (Ra_ [2, 37]) (h := ?_)
      refine pI_ 2 (some 118) (Ra_ [3, 36]) (h := ?_)
      refine pI_ 3 (some 119) (Ra_ [4, 35]) (h := ?_)
      refine pI_ 4 (some 120) (Ra_ [5, 34]) (h := ?_)
      refine pI_ 5 (some 121) (Ra_ [6, 33]) (h := ?_)
      refine pI_ 6 (some 122) (Ra_ [7, 32]) (h := ?_)
      refine take_ (i := 7) (N := some 123) (v := ?_) (a' := ?_) (Ra_ [8, 31]) rfl rfl (take_ofW HT_.out HW_.out (by kernel_rfl)) (fun _ _ _ h => h) (Or.inl ⟨by rfl, ?_⟩) hHeld ?_ ?_
      rotate_left
      ·rintro w' ⟨s0, s1, s2, s3, s4, s5, s6, s7, s8, s9, s10⟩
       go_simp
       with_reducible rfl
      rotate_left
      ·simp only [Act.put, sA_, sB_, sC_, i64_w, i32_w]
       rfl
      refine take_ (i := 8) (N := some 124) (v := ?_) (a' := ?_) (Ra_ [9, 30]) rfl rfl (take_ofW HT_.out HW_.out (by kernel_rfl)) (fun _ _ _ h => h) (Or.inl ⟨by rfl, ?_⟩) hHeld ?_ ?_
      rotate_left
      ·rintro w' ⟨s0, s1, s2, s3, s4, s5, s6, s7, s8, s9, s10⟩
       go_simp
       with_reducible rfl
      rotate_left
      ·simp only [Act.put, sA_, sB_, sC_, i64_w, i32_w]
       rfl
      refine one_ (i := 9) (N := some 125) (Ra_ [10, 29]) rfl rfl (one_of HT_.out (by kernel_rfl)) (by decide) (fun K hK => ?_)
      refine goes_ Tryd.func28 (by kernel_rfl) rfl #[.string t359, .int .i64 (t334.length : Int), .string ((rd_T44 t334 x13_4).f0), .agg #[.int .i64 t339, .string t340, .string t341, .string t342, .string t343, .slice Ao22 t344.length co22, .slice Ao23 t347.length co23]] (by rfl) rfl rfl m10_ ?_
      with_reducible refine (merkle_Missing.calls k4 t359 (t334.length : Int) ((rd_T44 t334 x13_4).f0) t339 t340 t341 t342 t343 _ _ t344 _ _ t347 true _ ?side1 ?side2 ?side3 ?side4 A47.out).mono ?_
      (case side1 => exact m26_)
      (case side2 => exact (Kd.R_reads' HO_352005.out).2.1)
      (case side3 => exact m27_)
      (case side4 => exact (Kd.R_reads' HO_352006.out).2.1)
      rintro e w66 ⟨rfl, hb⟩
      have HS7_ := (hb.cell (World.block_lt_of_cell? _ _ (hHeld.2.2.2.2.2.2.2.1))).trans (hHeld.2.2.2.2.2.2.2.1)
      have HS8_ := (hb.cell (World.block_lt_of_cell? _ _ (hHeld.2.2.2.2.2.2.2.2.1))).trans (hHeld.2.2.2.2.2.2.2.2.1)
      have HS9_ := (hb.cell (World.block_lt_of_cell? _ _ (hHeld.2.2.2.2.2.2.2.2.2.1))).trans (hHeld.2.2.2.2.2.2.2.2.2.1)
      have HS10_ := (hb.cell (World.block_lt_of_cell? _ _ (hHeld.2.2.2.2.2.2.2.2.2.2))).trans (hHeld.2.2.2.2.2.2.2.2.2.2)
      refine ⟨_, rfl, ?_⟩
      replace HO_5 := Aside0.mk (Kd.R_below m21_ hb)
      replace HO_352005 := Aside0.mk (Kd.R_below m19_ hb)
      replace HO_352006 := Aside0.mk (Kd.R_below m18_ hb)
      replace BK351 := Aside0.mk (blk_below (g := gb351) (o := .cells #[.int .i64 t339, .string t340, .string t341, .string t342, .string t343, .slice Ao22 t344.length co22, .slice Ao23 t347.length co23] 57 (0, 0)) m12_ hb)
      replace HB := Aside0.mk (below_step m1_ hb)
      (try clear hb)
      (try clear hb2)
      (try clear hk)
      (try clear hi)
      refine hK.out _ _ ⟨(blk_cell BK351.out 0).trans rfl, (blk_cell BK351.out 1).trans rfl, (blk_cell BK351.out 2).trans rfl, (blk_cell BK351.out 3).trans rfl, (blk_cell BK351.out 4).trans rfl, (blk_cell BK351.out 5).trans rfl, (blk_cell BK351.out 6).trans rfl, HS7_, HS8_, HS9_, HS10_⟩ (fun hHeld => ?_)
      clear hK K
      refine norm_ (a' := ?_) ?_ ?_
      rotate_left
      ·show Act.put _ (some 125) _ = _
       simp only [Act.put, sA_, sB_, sC_, i64_w, i32_w]
       rfl
      refine pI_ 10 (some 126) (Ra_ [11, 28]) (h := ?_)
      refine pI_ 11 (some 127) (Ra_ [12, 27]) (h := ?_)
      refine pI_ 12 (some 128) (Ra_ [13, 26]) (h := ?_)
      refine pI_ 13 (some 129) (Ra_ [14, 25]) (h := ?_)
      refine pI_ 14 (some 130) (Ra_ [15, 24]) (h := ?_)
      refine pI_ 15 (some 131) (Ra_ [16, 23]) (h := ?_)
      refine pure_ (i := 16) (N := some 132) (v := undef) (a' := ?_) (Ra_ [17, 22]) rfl rfl (any_of HT_.out (by kernel_rfl)) (fun _ _ _ h => h) (Or.inr ⟨by rfl, rfl⟩) ?_ ?_
      rotate_left
      ·simp only [Act.put, sA_, sB_, sC_, i64_w, i32_w]
       rfl
      refine pure_ (i := 17) (N := some 133) (v := undef) (a' := ?_) (Ra_ [18, 21]) rfl rfl (any_of HT_.out (by kernel_rfl)) (fun _ _ _ h => h) (Or.inr ⟨by rfl, rfl⟩) ?_ ?_
      rotate_left
      ·simp only [Act.put, sA_, sB_, sC_, i64_w, i32_w]
       rfl
      refine pure_ (i := 18) (N := some 134) (v := undef) (a' := ?_) (Ra_ [19, 20]) rfl rfl (any_of HT_.out (by kernel_rfl)) (fun _ _ _ h => h) (Or.inr ⟨by rfl, rfl⟩) ?_ ?_
      rotate_left
      ·simp only [Act.put, sA_, sB_, sC_, i64_w, i32_w]
       rfl
      refine pure_ (i := 19) (N := some 135) (v := undef) (a' := ?_) (Ra_ [20, 19]) rfl rfl (any_of HT_.out (by kernel_rfl)) (fun _ _ _ h => h) (Or.inr ⟨by rfl, rfl⟩) ?_ ?_
      rotate_left
      ·simp only [Act.put, sA_, sB_, sC_, i64_w, i32_w]
       rfl
      refine pure_ (i := 20) (N := some 136) (v := undef) (a' := ?_) (Ra_ [21, 18]) rfl rfl (any_of HT_.out (by kernel_rfl)) (fun _ _ _ h => h) (Or.inr ⟨by rfl, rfl⟩) ?_ ?_
      rotate_left
      ·simp only [Act.put, sA_, sB_, sC_, i64_w, i32_w]
       rfl
      refine pure_ (i := 21) (N := some 137) (v := undef) (a' := ?_) (Ra_ [22, 17]) rfl rfl (any_of HT_.out (by kernel_rfl)) (fun _ _ _ h => h) (Or.inr ⟨by rfl, rfl⟩) ?_ ?_
      rotate_left
      ·simp only [Act.put, sA_, sB_, sC_, i64_w, i32_w]
       rfl
      refine pure_ (i := 22) (N := some 138) (v := undef) (a' := ?_) (Ra_ [23, 16]) rfl rfl (any_of HT_.out (by kernel_rfl)) (fun _ _ _ h => h) (Or.inr ⟨by rfl, rfl⟩) ?_ ?_
      rotate_left
      ·simp only [Act.put, sA_, sB_, sC_, i64_w, i32_w]
       rfl
      refine pI_ 23 (some 139) (Ra_ [24, 15]) (h := ?_)
      refine pI_ 24 (some 140) (Ra_ [25, 14]) (h := ?_)
      refine pI_ 25 (some 141) (Ra_ [26, 13]) (h := ?_)
      refine pI_ 26 (some 142) (Ra_ [27, 12]) (h := ?_)
      refine pI_ 27 (some 143) (Ra_ [28, 11]) (h := ?_)
      refine pI_ 28 (some 144) (Ra_ [29, 10]) (h := ?_)
      refine pI_ 29 (some 145) (Ra_ [30, 9]) (h := ?_)
      refine pI_ 30 (some 146) (Ra_ [31, 8]) (h := ?_)
      refine pI_ 31 (some 147) (Ra_ [32, 7]) (h := ?_)
      refine pI_ 32 (some 148) (Ra_ [33, 6]) (h := ?_)
      refine pI_ 33 (some 149) (Ra_ [34, 5]) (h := ?_)
      refine pI_ 34 (some 150) (Ra_ [35, 4]) (h := ?_)
      refine take_ (i := 35) (N := some 151) (v := ?_) (a' := ?_) (Ra_ [36, 3]) rfl rfl (take_ofW HT_.out HW_.out (by kernel_rfl)) (fun _ _ _ h => h) (Or.inl ⟨by rfl, ?_⟩) hHeld ?_ ?_
      rotate_left
      ·rintro w' ⟨s0, s1, s2, s3, s4, s5, s6, s7, s8, s9, s10⟩
       go_simp
       with_reducible rfl
      rotate_left
      ·simp only [Act.put, sA_, sB_, sC_, i64_w, i32_w]
       rfl
      refine pI_ 36 (some 152) (Ra_ [37, 2]) (h := ?_)
      refine pI_ 37 (some 153) (Ra_ [38, 1]) (h := ?_)
      refine pI_ 38 (some 154) (Ra_ [39]) (h := ?_)
      refine done_ (done_of HT_.out (by kernel_rfl)) ?_
      try go_wp2
      go_roundg k4
      case measure => have := HJ2.out; have := HJ14.out; have := HJ28.out; have := HK4.out; omega
      case rel => exact ⟨(wrap64 (x13_4 + 1)), m23_, H', ⟨by have := HJ2.out; have := HJ14.out; have := HJ28.out; have := HK4.out; omega⟩, ⟨by (with_reducible repeat (first | apply Kd.R_alloc | apply Kd.R_drewN | apply Kd.R_drew)); exact HO_5.out⟩, ⟨by (with_reducible repeat (first | apply Kd.R_alloc | apply Kd.R_drewN | apply Kd.R_drew)); exact HO_352005.out⟩, ⟨by (with_reducible repeat (first | apply Kd.R_alloc | apply Kd.R_drewN | apply Kd.R_drew)); exact HO_352006.out⟩, ⟨by (with_reducible repeat (first | refine blk_drewN ?_ _ | refine blk_drew ?_ | refine blk_alloc ?_ _)); exact BK351.out⟩, ⟨m40_⟩⟩
     rw [if_pos c49] at H
     have c49b0 : (x13_4 == (wrap64 (t337 - 1))) = true := beq_iff_eq.mpr c49
     have c49b1 : (x13_4 != (wrap64 (t337 - 1))) = false := bne_eq_false_iff_eq.mpr c49
     clear c49
     by_cases c50 : (Op.bytesLess (((rd_T44 t334 x13_4).f0).toList) a1.toList) = true
     case neg =>
      rw [if_neg c50] at H
      have c50b0 : (Op.bytesLess (((rd_T44 t334 x13_4).f0).toList) a1.toList) = false := by simpa using c50
      clear c50
      have H' := Aside0.mk H
      clear H
      try go_wp2
      replace HO_5 := Aside0.mk (Kd.R_drew HO_5.out)
      replace HO_352005 := Aside0.mk (Kd.R_drew HO_352005.out)
      replace HO_352006 := Aside0.mk (Kd.R_drew HO_352006.out)
      replace BK351 := Aside0.mk (blk_drew BK351.out)
      replace HB := Aside0.mk (below_drew1 HB.out)
      have p363 : 0 ≤ (x13_4 : Int) := of_decide_eq_true m22_
      have q363 : x13_4 < (t334.length : Int) := of_decide_eq_true m22_
      obtain ⟨ad363, e363, hx363_0, hx363_1⟩ := at_T44 (Kd.R_reads' HO_5.out).2.2 x13_4 p363 q363
      cases e363
      replace p363 := eq_true p363
      replace q363 := eq_true q363
      have p365 : 0 ≤ (x13_4 : Int) := of_decide_eq_true m22_
      have q365 : x13_4 < (t334.length : Int) := of_decide_eq_true m22_
      obtain ⟨ad365, e365, hx365_0, hx365_1⟩ := at_T44 (Kd.R_reads' HO_5.out).2.2 x13_4 p365 q365
      obtain rfl : ad363 = ad365 := (by injection e365)
      replace p365 := eq_true p365
      replace q365 := eq_true q365
      refine start_ (n := 39) (S := fun w' => w'.cell? ⟨gb351, 0, none⟩ = some (.int .i64 t339) ∧ w'.cell? ⟨gb351, 1, none⟩ = some (.string t340) ∧ w'.cell? ⟨gb351, 2, none⟩ = some (.string t341) ∧ w'.cell? ⟨gb351, 3, none⟩ = some (.string t342) ∧ w'.cell? ⟨gb351, 4, none⟩ = some (.string t343) ∧ w'.cell? ⟨gb351, 5, none⟩ = some (.slice Ao22 t344.length co22) ∧ w'.cell? ⟨gb351, 6, none⟩ = some (.slice Ao23 t347.length co23) ∧ w'.cell? (ad363.add ((x13_4).toNat * 2)) = some (.string ((rd_T44 t334 x13_4).f0)) ∧ w'.cell? ⟨(ad363.add ((x13_4).toNat * 2)).block, (ad363.add ((x13_4).toNat * 2)).off + 1, none⟩ = some (.string ((rd_T44 t334 x13_4).f1)) ∧ w'.cell? (ad363.add ((x13_4).toNat * 2)) = some (.string ((rd_T44 t334 x13_4).f0)) ∧ w'.cell? ⟨(ad363.add ((x13_4).toNat * 2)).block, (ad363.add ((x13_4).toNat * 2)).off + 1, none⟩ = some (.string ((rd_T44 t334 x13_4).f1))) (ds := []) (Ra_ [0, 39]) (by kernel_rfl) rfl rfl ⟨(blk_cell BK351.out 0).trans rfl, (blk_cell BK351.out 1).trans rfl, (blk_cell BK351.out 2).trans rfl, (blk_cell BK351.out 3).trans rfl, (blk_cell BK351.out 4).trans rfl, (blk_cell BK351.out 5).trans rfl, (blk_cell BK351.out 6).trans rfl, hx363_0, hx363_1, hx365_0, hx365_1⟩ (fun hHeld => ?_); refine with_tabW strongroomlaw20_MerkleAbsent.tab19 strongroomlaw20_MerkleAbsent.bits19 (fun HT_ HW_ => ?_)
      generalize wr.drew = w59 at HO_5 HO_352005 HO_352006 BK351 HB hx363_0 hx363_1 hx365_0 hx365_1 hHeld ⊢
      refine pI_ 0 (some 116) (Ra_ [1, 38]) (h := ?_)
      refine pI_ 1 (some 117) (Ra_ [2, 37]) (h := ?_)
      refine pI_ 2 (some 118) (Ra_ [3, 36]) (h := ?_)
      refine pI_ 3 (some 119) (Ra_ [4, 35]) (h := ?_)
      refine pI_ 4 (some 120) (Ra_ [5, 34]) (h := ?_)
      refine pI_ 5 (some 121) (Ra_ [6, 33]) (h := ?_)
      refine pI_ 6 (some 122) (Ra_ [7, 32]) (h := ?_)
      refine take_ (i := 7) (N := some 123) (v := ?_) (a' := ?_) (Ra_ [8, 31]) rfl rfl (take_ofW HT_.out HW_.out (by kernel_rfl)) (fun _ _ _ h => h) (Or.inl ⟨by rfl, ?_⟩) hHeld ?_ ?_
      rotate_left
      ·rintro w' ⟨s0, s1, s2, s3, s4, s5, s6, s7, s8, s9, s10⟩
       go_simp
       with_reducible rfl
      rotate_left
      ·simp only [Act.put, sA_, sB_, sC_, i64_w, i32_w]
       rfl
      refine take_ (i := 8) (N := some 124) (v := ?_) (a' := ?_) (Ra_ [9, 30]) rfl rfl (take_ofW HT_.out HW_.out (by kernel_rfl)) (fun _ _ _ h => h) (Or.inl ⟨by rfl, ?_⟩) hHeld ?_ ?_
      rotate_left
      ·rintro w' ⟨s0, s1, s2, s3, s4, s5, s6, s7, s8, s9, s10⟩
       go_simp
       with_reducible rfl
      rotate_left
      ·simp only [Act.put, sA_, sB_, sC_, i64_w, i32_w]
       rfl
      refine one_ (i := 9) (N := some 125) (Ra_ [10, 29]) rfl rfl (one_of HT_.out (by kernel_rfl)) (by decide) (fun K hK => ?_)
      refine goes_ Tryd.func28 (by kernel_rfl) rfl #[.string t359, .int .i64 (t334.length : Int), .string ((rd_T44 t334 x13_4).f0), .agg #[.int .i64 t339, .string t340, .string t341, .string t342, .string t343, .slice Ao22 t344.length co22, .slice Ao23 t347.length co23]] (by rfl) rfl rfl m10_ ?_
      with_reducible refine (merkle_Missing.calls k4 t359 (t334.length : Int) ((rd_T44 t334 x13_4).f0) t339 t340 t341 t342 t343 _ _ t344 _ _ t347 true _ ?side1 ?side2 ?side3 ?side4 A47.out).mono ?_
      (case side1 => exact m26_)
      (case side2 => exact (Kd.R_reads' HO_352005.out).2.1)
      (case side3 => exact m27_)
      (case side4 => exact (Kd.R_reads' HO_352006.out).2.1)
      rintro e w60 ⟨rfl, hb⟩
      have HS7_ := (hb.cell (World.block_lt_of_cell? _ _ (hHeld.2.2.2.2.2.2.2.1))).trans (hHeld.2.2.2.2.2.2.2.1)
      have HS8_ := (hb.cell (World.block_lt_of_cell? _ _ (hHeld.2.2.2.2.2.2.2.2.1))).trans (hHeld.2.2.2.2.2.2.2.2.1)
      have HS9_ := (hb.cell (World.block_lt_of_cell? _ _ (hHeld.2.2.2.2.2.2.2.2.2.1))).trans (hHeld.2.2.2.2.2.2.2.2.2.1)
      have HS10_ := (hb.cell (World.block_lt_of_cell? _ _ (hHeld.2.2.2.2.2.2.2.2.2.2))).trans (hHeld.2.2.2.2.2.2.2.2.2.2)
      refine ⟨_, rfl, ?_⟩
      replace HO_5 := Aside0.mk (Kd.R_below m21_ hb)
      replace HO_352005 := Aside0.mk (Kd.R_below m19_ hb)
      replace HO_352006 := Aside0.mk (Kd.R_below m18_ hb)
      replace BK351 := Aside0.mk (blk_below (g := gb351) (o := .cells #[.int .i64 t339, .string t340, .string t341, .string t342, .string t343, .slice Ao22 t344.length co22, .slice Ao23 t347.length co23] 57 (0, 0)) m12_ hb)
      replace HB := Aside0.mk (below_step m1_ hb)
      (try clear hb)
      (try clear hb2)
      (try clear hk)
      (try clear hi)
      refine hK.out _ _ ⟨(blk_cell BK351.out 0).trans rfl, (blk_cell BK351.out 1).trans rfl, (blk_cell BK351.out 2).trans rfl, (blk_cell BK351.out 3).trans rfl, (blk_cell BK351.out 4).trans rfl, (blk_cell BK351.out 5).trans rfl, (blk_cell BK351.out 6).trans rfl, HS7_, HS8_, HS9_, HS10_⟩ (fun hHeld => ?_)
      clear hK K
      refine norm_ (a' := ?_) ?_ ?_
      rotate_left
      ·show Act.put _ (some 125) _ = _
       simp only [Act.put, sA_, sB_, sC_, i64_w, i32_w]
       rfl
      refine pI_ 10 (some 126) (Ra_ [11, 28]) (h := ?_)
      refine pI_ 11 (some 127) (Ra_ [12, 27]) (h := ?_)
      refine pI_ 12 (some 128) (Ra_ [13, 26]) (h := ?_)
      refine pI_ 13 (some 129) (Ra_ [14, 25]) (h := ?_)
      refine pI_ 14 (some 130) (Ra_ [15, 24]) (h := ?_)
      refine pI_ 15 (some 131) (Ra_ [16, 23]) (h := ?_)
      refine pI_ 16 (some 132) (Ra_ [17, 22]) (h := ?_)
      refine pI_ 17 (some 133) (Ra_ [18, 21]) (h := ?_)
      refine pI_ 18 (some 134) (Ra_ [19, 20]) (h := ?_)
      refine pI_ 19 (some 135) (Ra_ [20, 19]) (h := ?_)
      refine pI_ 21 (some 137) (Ra_ [20, 1, 1, 17]) (h := ?_)
      refine take_ (i := 20) (N := some 136) (v := ?_) (a' := ?_) (Ra_ [22, 17]) rfl rfl (take_ofW HT_.out HW_.out (by kernel_rfl)) (fun _ _ _ h => h) (Or.inl ⟨by rfl, ?_⟩) hHeld ?_ ?_
      rotate_left
      ·rintro w' ⟨s0, s1, s2, s3, s4, s5, s6, s7, s8, s9, s10⟩
       go_simp
       with_reducible rfl
      rotate_left
      ·simp only [Act.put, sA_, sB_, sC_, i64_w, i32_w]
       rfl
      refine pI_ 22 (some 138) (Ra_ [23, 16]) (h := ?_)
      refine pI_ 23 (some 139) (Ra_ [24, 15]) (h := ?_)
      refine pI_ 24 (some 140) (Ra_ [25, 14]) (h := ?_)
      refine pI_ 25 (some 141) (Ra_ [26, 13]) (h := ?_)
      refine pure_ (i := 26) (N := some 142) (v := undef) (a' := ?_) (Ra_ [27, 12]) rfl rfl (any_of HT_.out (by kernel_rfl)) (fun _ _ _ h => h) (Or.inr ⟨by rfl, rfl⟩) ?_ ?_
      rotate_left
      ·simp only [Act.put, sA_, sB_, sC_, i64_w, i32_w]
       rfl
      refine pure_ (i := 27) (N := some 143) (v := undef) (a' := ?_) (Ra_ [28, 11]) rfl rfl (any_of HT_.out (by kernel_rfl)) (fun _ _ _ h => h) (Or.inr ⟨by rfl, rfl⟩) ?_ ?_
      rotate_left
      ·simp only [Act.put, sA_, sB_, sC_, i64_w, i32_w]
       rfl
      refine pure_ (i := 28) (N := some 144) (v := undef) (a' := ?_) (Ra_ [29, 10]) rfl rfl (any_of HT_.out (by kernel_rfl)) (fun _ _ _ h => h) (Or.inr ⟨by rfl, rfl⟩) ?_ ?_
      rotate_left
      ·simp only [Act.put, sA_, sB_, sC_, i64_w, i32_w]
       rfl
      refine pure_ (i := 29) (N := some 145) (v := undef) (a' := ?_) (Ra_ [30, 9]) rfl rfl (any_of HT_.out (by kernel_rfl)) (fun _ _ _ h => h) (Or.inr ⟨by rfl, rfl⟩) ?_ ?_
      rotate_left
      ·simp only [Act.put, sA_, sB_, sC_, i64_w, i32_w]
       rfl
      refine pure_ (i := 30) (N := some 146) (v := undef) (a' := ?_) (Ra_ [31, 8]) rfl rfl (any_of HT_.out (by kernel_rfl)) (fun _ _ _ h => h) (Or.inr ⟨by rfl, rfl⟩) ?_ ?_
      rotate_left
      ·simp only [Act.put, sA_, sB_, sC_, i64_w, i32_w]
       rfl
      refine pure_ (i := 31) (N := some 147) (v := undef) (a' := ?_) (Ra_ [32, 7]) rfl rfl (any_of HT_.out (by kernel_rfl)) (fun _ _ _ h => h) (Or.inr ⟨by rfl, rfl⟩) ?_ ?_
      rotate_left
      ·simp only [Act.put, sA_, sB_, sC_, i64_w, i32_w]
       rfl
      refine pure_ (i := 32) (N := some 148) (v := undef) (a' := ?_) (Ra_ [33, 6]) rfl rfl (any_of HT_.out (by kernel_rfl)) (fun _ _ _ h => h) (Or.inr ⟨by rfl, rfl⟩) ?_ ?_
      rotate_left
      ·simp only [Act.put, sA_, sB_, sC_, i64_w, i32_w]
       rfl
      refine pure_ (i := 33) (N := some 149) (v := undef) (a' := ?_) (Ra_ [34, 5]) rfl rfl (any_of HT_.out (by kernel_rfl)) (fun _ _ _ h => h) (Or.inr ⟨by rfl, rfl⟩) ?_ ?_
      rotate_left
      ·simp only [Act.put, sA_, sB_, sC_, i64_w, i32_w]
       rfl
      refine pure_ (i := 34) (N := some 150) (v := undef) (a' := ?_) (Ra_ [35, 4]) rfl rfl (any_of HT_.out (by kernel_rfl)) (fun _ _ _ h => h) (Or.inr ⟨by rfl, rfl⟩) ?_ ?_
      rotate_left
      ·simp only [Act.put, sA_, sB_, sC_, i64_w, i32_w]
       rfl
      refine pure_ (i := 35) (N := some 151) (v := undef) (a' := ?_) (Ra_ [36, 3]) rfl rfl (any_of HT_.out (by kernel_rfl)) (fun _ _ _ h => h) (Or.inr ⟨by rfl, rfl⟩) ?_ ?_
      rotate_left
      ·simp only [Act.put, sA_, sB_, sC_, i64_w, i32_w]
       rfl
      refine pure_ (i := 36) (N := some 152) (v := undef) (a' := ?_) (Ra_ [37, 2]) rfl rfl (any_of HT_.out (by kernel_rfl)) (fun _ _ _ h => h) (Or.inr ⟨by rfl, rfl⟩) ?_ ?_
      rotate_left
      ·simp only [Act.put, sA_, sB_, sC_, i64_w, i32_w]
       rfl
      refine pure_ (i := 37) (N := some 153) (v := undef) (a' := ?_) (Ra_ [38, 1]) rfl rfl (any_of HT_.out (by kernel_rfl)) (fun _ _ _ h => h) (Or.inr ⟨by rfl, rfl⟩) ?_ ?_
      rotate_left
      ·simp only [Act.put, sA_, sB_, sC_, i64_w, i32_w]
       rfl
      refine pI_ 38 (some 154) (Ra_ [39]) (h := ?_)
      refine done_ (done_of HT_.out (by kernel_rfl)) ?_
      try go_wp2
      go_roundg k4
      case measure => have := HJ2.out; have := HJ14.out; have := HJ28.out; have := HK4.out; omega
      case rel => exact ⟨(wrap64 (x13_4 + 1)), m23_, H', ⟨by have := HJ2.out; have := HJ14.out; have := HJ28.out; have := HK4.out; omega⟩, ⟨by (with_reducible repeat (first | apply Kd.R_alloc | apply Kd.R_drewN | apply Kd.R_drew)); exact HO_5.out⟩, ⟨by (with_reducible repeat (first | apply Kd.R_alloc | apply Kd.R_drewN | apply Kd.R_drew)); exact HO_352005.out⟩, ⟨by (with_reducible repeat (first | apply Kd.R_alloc | apply Kd.R_drewN | apply Kd.R_drew)); exact HO_352006.out⟩, ⟨by (with_reducible repeat (first | refine blk_drewN ?_ _ | refine blk_drew ?_ | refine blk_alloc ?_ _)); exact BK351.out⟩, ⟨m40_⟩⟩
     rw [if_pos c50] at H
     have c50b0 : (Op.bytesLess (((rd_T44 t334 x13_4).f0).toList) a1.toList) = true := c50
     clear c50
     by_cases c51 : x13_4 = t337
     case neg =>
      rw [if_neg c51] at H
      have c51b0 : (x13_4 == t337) = false := beq_eq_false_iff_ne.mpr c51
      have c51b1 : (x13_4 != t337) = true := bne_iff_ne.mpr c51
      exact absurd ((Option.some.inj H).trans hr_) (by decide)
     rw [if_pos c51] at H
     have c51b0 : (x13_4 == t337) = true := beq_iff_eq.mpr c51
     have c51b1 : (x13_4 != t337) = false := bne_eq_false_iff_eq.mpr c51
     clear c51
     by_cases c52 : (Op.bytesLess a1.toList (((rd_T44 t334 x13_4).f0).toList)) = true
     ·rw [if_pos c52] at H
      have c52b0 : (Op.bytesLess a1.toList (((rd_T44 t334 x13_4).f0).toList)) = true := c52
      clear c52
      exact absurd ((Option.some.inj H).trans hr_) (by decide)
     rw [if_neg c52] at H
     have c52b0 : (Op.bytesLess a1.toList (((rd_T44 t334 x13_4).f0).toList)) = false := by simpa using c52
     clear c52
     have H' := Aside0.mk H
     clear H
     try go_wp2
     replace HO_5 := Aside0.mk (Kd.R_drew HO_5.out)
     replace HO_352005 := Aside0.mk (Kd.R_drew HO_352005.out)
     replace HO_352006 := Aside0.mk (Kd.R_drew HO_352006.out)
     replace BK351 := Aside0.mk (blk_drew BK351.out)
     replace HB := Aside0.mk (below_drew1 HB.out)
     have p363 : 0 ≤ (x13_4 : Int) := of_decide_eq_true m22_
     have q363 : x13_4 < (t334.length : Int) := of_decide_eq_true m22_
     obtain ⟨ad363, e363, hx363_0, hx363_1⟩ := at_T44 (Kd.R_reads' HO_5.out).2.2 x13_4 p363 q363
     cases e363
     replace p363 := eq_true p363
     replace q363 := eq_true q363
     have p365 : 0 ≤ (x13_4 : Int) := of_decide_eq_true m22_
     have q365 : x13_4 < (t334.length : Int) := of_decide_eq_true m22_
     obtain ⟨ad365, e365, hx365_0, hx365_1⟩ := at_T44 (Kd.R_reads' HO_5.out).2.2 x13_4 p365 q365
     obtain rfl : ad363 = ad365 := (by injection e365)
     replace p365 := eq_true p365
     replace q365 := eq_true q365
     have p366 : 0 ≤ (x13_4 : Int) := of_decide_eq_true m22_
     have q366 : x13_4 < (t334.length : Int) := of_decide_eq_true m22_
     obtain ⟨ad366, e366, hx366_0, hx366_1⟩ := at_T44 (Kd.R_reads' HO_5.out).2.2 x13_4 p366 q366
     obtain rfl : ad363 = ad366 := (by injection e366)
     replace p366 := eq_true p366
     replace q366 := eq_true q366
     refine start_ (n := 39) (S := fun w' => w'.cell? ⟨gb351, 0, none⟩ = some (.int .i64 t339) ∧ w'.cell? ⟨gb351, 1, none⟩ = some (.string t340) ∧ w'.cell? ⟨gb351, 2, none⟩ = some (.string t341) ∧ w'.cell? ⟨gb351, 3, none⟩ = some (.string t342) ∧ w'.cell? ⟨gb351, 4, none⟩ = some (.string t343) ∧ w'.cell? ⟨gb351, 5, none⟩ = some (.slice Ao22 t344.length co22) ∧ w'.cell? ⟨gb351, 6, none⟩ = some (.slice Ao23 t347.length co23) ∧ w'.cell? (ad363.add ((x13_4).toNat * 2)) = some (.string ((rd_T44 t334 x13_4).f0)) ∧ w'.cell? ⟨(ad363.add ((x13_4).toNat * 2)).block, (ad363.add ((x13_4).toNat * 2)).off + 1, none⟩ = some (.string ((rd_T44 t334 x13_4).f1)) ∧ w'.cell? (ad363.add ((x13_4).toNat * 2)) = some (.string ((rd_T44 t334 x13_4).f0)) ∧ w'.cell? ⟨(ad363.add ((x13_4).toNat * 2)).block, (ad363.add ((x13_4).toNat * 2)).off + 1, none⟩ = some (.string ((rd_T44 t334 x13_4).f1)) ∧ w'.cell? (ad363.add ((x13_4).toNat * 2)) = some (.string ((rd_T44 t334 x13_4).f0)) ∧ w'.cell? ⟨(ad363.add ((x13_4).toNat * 2)).block, (ad363.add ((x13_4).toNat * 2)).off + 1, none⟩ = some (.string ((rd_T44 t334 x13_4).f1))) (ds := []) (Ra_ [0, 39]) (by kernel_rfl) rfl rfl ⟨(blk_cell BK351.out 0).trans rfl, (blk_cell BK351.out 1).trans rfl, (blk_cell BK351.out 2).trans rfl, (blk_cell BK351.out 3).trans rfl, (blk_cell BK351.out 4).trans rfl, (blk_cell BK351.out 5).trans rfl, (blk_cell BK351.out 6).trans rfl, hx363_0, hx363_1, hx365_0, hx365_1, hx366_0, hx366_1⟩ (fun hHeld => ?_); refine with_tabW strongroomlaw20_MerkleAbsent.tab19 strongroomlaw20_MerkleAbsent.bits19 (fun HT_ HW_ => ?_)
     generalize wr.drew = w55 at HO_5 HO_352005 HO_352006 BK351 HB hx363_0 hx363_1 hx365_0 hx365_1 hx366_0 hx366_1 hHeld ⊢
     refine pI_ 0 (some 116) (Ra_ [1, 38]) (h := ?_)
     refine pI_ 1 (some 117) (Ra_ [2, 37]) (h := ?_)
     refine pI_ 2 (some 118) (Ra_ [3, 36]) (h := ?_)
     refine pI_ 3 (some 119) (Ra_ [4, 35]) (h := ?_)
     refine pI_ 4 (some 120) (Ra_ [5, 34]) (h := ?_)
     refine pI_ 5 (some 121) (Ra_ [6, 33]) (h := ?_)
     refine pI_ 6 (some 122) (Ra_ [7, 32]) (h := ?_)
     refine take_ (i := 7) (N := some 123) (v := ?_) (a' := ?_) (Ra_ [8, 31]) rfl rfl (take_ofW HT_.out HW_.out (by kernel_rfl)) (fun _ _ _ h => h) (Or.inl ⟨by rfl, ?_⟩) hHeld ?_ ?_
     rotate_left
     ·rintro w' ⟨s0, s1, s2, s3, s4, s5, s6, s7, s8, s9, s10, s11, s12⟩
      go_simp
      with_reducible rfl
     rotate_left
     ·simp only [Act.put, sA_, sB_, sC_, i64_w, i32_w]
      rfl
     refine take_ (i := 8) (N := some 124) (v := ?_) (a' := ?_) (Ra_ [9, 30]) rfl rfl (take_ofW HT_.out HW_.out (by kernel_rfl)) (fun _ _ _ h => h) (Or.inl ⟨by rfl, ?_⟩) hHeld ?_ ?_
     rotate_left
     ·rintro w' ⟨s0, s1, s2, s3, s4, s5, s6, s7, s8, s9, s10, s11, s12⟩
      go_simp
      with_reducible rfl
     rotate_left
     ·simp only [Act.put, sA_, sB_, sC_, i64_w, i32_w]
      rfl
     refine one_ (i := 9) (N := some 125) (Ra_ [10, 29]) rfl rfl (one_of HT_.out (by kernel_rfl)) (by decide) (fun K hK => ?_)
     refine goes_ Tryd.func28 (by kernel_rfl) rfl #[.string t359, .int .i64 (t334.length : Int), .string ((rd_T44 t334 x13_4).f0), .agg #[.int .i64 t339, .string t340, .string t341, .string t342, .string t343, .slice Ao22 t344.length co22, .slice Ao23 t347.length co23]] (by rfl) rfl rfl m10_ ?_
     with_reducible refine (merkle_Missing.calls k4 t359 (t334.length : Int) ((rd_T44 t334 x13_4).f0) t339 t340 t341 t342 t343 _ _ t344 _ _ t347 true _ ?side1 ?side2 ?side3 ?side4 A47.out).mono ?_
     (case side1 => exact m26_)
     (case side2 => exact (Kd.R_reads' HO_352005.out).2.1)
     (case side3 => exact m27_)
     (case side4 => exact (Kd.R_reads' HO_352006.out).2.1)
     rintro e w56 ⟨rfl, hb⟩
     have HS7_ := (hb.cell (World.block_lt_of_cell? _ _ (hHeld.2.2.2.2.2.2.2.1))).trans (hHeld.2.2.2.2.2.2.2.1)
     have HS8_ := (hb.cell (World.block_lt_of_cell? _ _ (hHeld.2.2.2.2.2.2.2.2.1))).trans (hHeld.2.2.2.2.2.2.2.2.1)
     have HS9_ := (hb.cell (World.block_lt_of_cell? _ _ (hHeld.2.2.2.2.2.2.2.2.2.1))).trans (hHeld.2.2.2.2.2.2.2.2.2.1)
     have HS10_ := (hb.cell (World.block_lt_of_cell? _ _ (hHeld.2.2.2.2.2.2.2.2.2.2.1))).trans (hHeld.2.2.2.2.2.2.2.2.2.2.1)
     have HS11_ := (hb.cell (World.block_lt_of_cell? _ _ (hHeld.2.2.2.2.2.2.2.2.2.2.2.1))).trans (hHeld.2.2.2.2.2.2.2.2.2.2.2.1)
     have HS12_ := (hb.cell (World.block_lt_of_cell? _ _ (hHeld.2.2.2.2.2.2.2.2.2.2.2.2))).trans (hHeld.2.2.2.2.2.2.2.2.2.2.2.2)
     refine ⟨_, rfl, ?_⟩
     replace HO_5 := Aside0.mk (Kd.R_below m21_ hb)
     replace HO_352005 := Aside0.mk (Kd.R_below m19_ hb)
     replace HO_352006 := Aside0.mk (Kd.R_below m18_ hb)
     replace BK351 := Aside0.mk (blk_below (g := gb351) (o := .cells #[.int .i64 t339, .string t340, .string t341, .string t342, .string t343, .slice Ao22 t344.length co22, .slice Ao23 t347.length co23] 57 (0, 0)) m12_ hb)
     replace HB := Aside0.mk (below_step m1_ hb)
     (try clear hb)
     (try clear hb2)
     (try clear hk)
     (try clear hi)
     refine hK.out _ _ ⟨(blk_cell BK351.out 0).trans rfl, (blk_cell BK351.out 1).trans rfl, (blk_cell BK351.out 2).trans rfl, (blk_cell BK351.out 3).trans rfl, (blk_cell BK351.out 4).trans rfl, (blk_cell BK351.out 5).trans rfl, (blk_cell BK351.out 6).trans rfl, HS7_, HS8_, HS9_, HS10_, HS11_, HS12_⟩ (fun hHeld => ?_)
     clear hK K
     refine norm_ (a' := ?_) ?_ ?_
     rotate_left
     ·show Act.put _ (some 125) _ = _
      simp only [Act.put, sA_, sB_, sC_, i64_w, i32_w]
      rfl
     refine pI_ 10 (some 126) (Ra_ [11, 28]) (h := ?_)
     refine pI_ 11 (some 127) (Ra_ [12, 27]) (h := ?_)
     refine pI_ 12 (some 128) (Ra_ [13, 26]) (h := ?_)
     refine pI_ 13 (some 129) (Ra_ [14, 25]) (h := ?_)
     refine pI_ 14 (some 130) (Ra_ [15, 24]) (h := ?_)
     refine pI_ 15 (some 131) (Ra_ [16, 23]) (h := ?_)
     refine pI_ 16 (some 132) (Ra_ [17, 22]) (h := ?_)
     refine pI_ 17 (some 133) (Ra_ [18, 21]) (h := ?_)
     refine pI_ 18 (some 134) (Ra_ [19, 20]) (h := ?_)
     refine pI_ 19 (some 135) (Ra_ [20, 19]) (h := ?_)
     refine pI_ 21 (some 137) (Ra_ [20, 1, 1, 17]) (h := ?_)
     refine take_ (i := 20) (N := some 136) (v := ?_) (a' := ?_) (Ra_ [22, 17]) rfl rfl (take_ofW HT_.out HW_.out (by kernel_rfl)) (fun _ _ _ h => h) (Or.inl ⟨by rfl, ?_⟩) hHeld ?_ ?_
     rotate_left
     ·rintro w' ⟨s0, s1, s2, s3, s4, s5, s6, s7, s8, s9, s10, s11, s12⟩
      go_simp
      with_reducible rfl
     rotate_left
     ·simp only [Act.put, sA_, sB_, sC_, i64_w, i32_w]
      rfl
     refine pI_ 22 (some 138) (Ra_ [23, 16]) (h := ?_)
     refine pI_ 23 (some 139) (Ra_ [24, 15]) (h := ?_)
     refine pI_ 24 (some 140) (Ra_ [25, 14]) (h := ?_)
     refine pI_ 25 (some 141) (Ra_ [26, 13]) (h := ?_)
     refine pI_ 26 (some 142) (Ra_ [27, 12]) (h := ?_)
     refine pI_ 27 (some 143) (Ra_ [28, 11]) (h := ?_)
     refine pI_ 28 (some 144) (Ra_ [29, 10]) (h := ?_)
     refine pI_ 29 (some 145) (Ra_ [30, 9]) (h := ?_)
     refine pI_ 30 (some 146) (Ra_ [31, 8]) (h := ?_)
     refine pI_ 31 (some 147) (Ra_ [32, 7]) (h := ?_)
     refine pI_ 32 (some 148) (Ra_ [33, 6]) (h := ?_)
     refine pI_ 33 (some 149) (Ra_ [34, 5]) (h := ?_)
     refine pI_ 34 (some 150) (Ra_ [35, 4]) (h := ?_)
     refine take_ (i := 35) (N := some 151) (v := ?_) (a' := ?_) (Ra_ [36, 3]) rfl rfl (take_ofW HT_.out HW_.out (by kernel_rfl)) (fun _ _ _ h => h) (Or.inl ⟨by rfl, ?_⟩) hHeld ?_ ?_
     rotate_left
     ·rintro w' ⟨s0, s1, s2, s3, s4, s5, s6, s7, s8, s9, s10, s11, s12⟩
      go_simp
      with_reducible rfl
     rotate_left
     ·simp only [Act.put, sA_, sB_, sC_, i64_w, i32_w]
      rfl
     refine pI_ 36 (some 152) (Ra_ [37, 2]) (h := ?_)
     refine pI_ 37 (some 153) (Ra_ [38, 1]) (h := ?_)
     refine pI_ 38 (some 154) (Ra_ [39]) (h := ?_)
     refine done_ (done_of HT_.out (by kernel_rfl)) ?_
     try go_wp2
     go_roundg k4
     case measure => have := HJ2.out; have := HJ14.out; have := HJ28.out; have := HK4.out; omega
     case rel => exact ⟨(wrap64 (x13_4 + 1)), m23_, H', ⟨by have := HJ2.out; have := HJ14.out; have := HJ28.out; have := HK4.out; omega⟩, ⟨by (with_reducible repeat (first | apply Kd.R_alloc | apply Kd.R_drewN | apply Kd.R_drew)); exact HO_5.out⟩, ⟨by (with_reducible repeat (first | apply Kd.R_alloc | apply Kd.R_drewN | apply Kd.R_drew)); exact HO_352005.out⟩, ⟨by (with_reducible repeat (first | apply Kd.R_alloc | apply Kd.R_drewN | apply Kd.R_drew)); exact HO_352006.out⟩, ⟨by (with_reducible repeat (first | refine blk_drewN ?_ _ | refine blk_drew ?_ | refine blk_alloc ?_ _)); exact BK351.out⟩, ⟨m40_⟩⟩

end Go.Proofs.YtdeggemomajhcaaDoorH.HMerkleAbsent
