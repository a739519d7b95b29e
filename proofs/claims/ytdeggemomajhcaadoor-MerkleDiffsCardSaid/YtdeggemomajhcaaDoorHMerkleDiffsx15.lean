-- PRINTED by print.py (a twelfth state) out of the translation. Not trusted: Lean checks it.
import Derived.Test.YtdeggemomajhcaaDoorHMerkleDiffsx0
import Derived.Test.YtdeggemomajhcaaDoorHMerkleDiffsx3
import Derived.Test.YtdeggemomajhcaaDoorHMerkleDiffsx4
import Derived.Test.YtdeggemomajhcaaDoorHMerkleDiffsx6
import Derived.Test.YtdeggemomajhcaaDoorHMerkleDiffsx7
import Derived.Test.YtdeggemomajhcaaDoorHMerkleDiffsx8
import Derived.Test.YtdeggemomajhcaaDoorHMerkleDiffsx11
import Derived.Test.YtdeggemomajhcaaDoorHMerkleDiffsx12
import Derived.Test.YtdeggemomajhcaaDoorHMerkleDiffsx13
import Derived.Test.YtdeggemomajhcaaDoorHMerkleDiffsx14
namespace Go.Proofs.YtdeggemomajhcaaDoorH.HMerkleDiffs
open Go.RowKit Go.Proofs.YtdeggemomajhcaaDoorW.PrintWords Go.Proofs.YtdeggemomajhcaaDoorW.PrintLast Go.Proofs.YtdeggemomajhcaaDoorW.PrintMore
attribute [local go_sem] max2_int min2_int max_two min_two max_three min_three max_four min_four   -- for this text's walks alone
set_option linter.unusedVariables false
set_option linter.unusedSimpArgs false

attribute [local go_sem high] eqA66
/-! ### strongroomlaw20_MerkleDiffs: function 8 -/
def Rn_ : List Nat → List Bool
  | [] => []
  | [a] => List.replicate a true
  | a :: b :: l => List.replicate a true ++ (List.replicate b false ++ Rn_ l)
abbrev Ra_ (l : List Nat) : Array Bool := (Rn_ l).toArray
theorem pI_ {P : Program} {md : Region.Mode} {ops : Array Oper} {Q : Exit → Act → World → Prop} {S : World → Prop} {ds : List Nat} {oi : Oper} {v : Value} {fuel : Nat} {l : Array Bool} {a a' : Act} {w : World} (i : Nat) (N : Option Tmp) (l' : Array Bool)
    (hi : ops[i]? = some oi := by rfl) (hN : oi.dst = N := by rfl) (hc : anyB md ops l l' i = true := by exact any_of HT_.out (by kernel_rfl)) (hQ : ∀ c a w, Q (.panic c) (a.put oi.dst v) w → Q (.panic c) a w := by exact fun _ _ _ h => h)
    (hy : Yields P ops oi v a := by exact Or.inl ⟨by rfl, by intro w'; go_simp; with_reducible rfl⟩) (ha : a.put N v = a' := by simp only [Act.put, sA_, sB_, sC_, i64_w, i32_w]; rfl)
    (h : wpAnyLast P md ops Q S ds fuel l' a' w) : wpAnyLast P md ops Q S ds (fuel + 1) l a w := pure_ l' hi hN hc hQ hy ha h
theorem tI9_ {P : Program} {md : Region.Mode} {ops : Array Oper} {Q : Exit → Act → World → Prop} {S : World → Prop} {ds : List Nat} {oi : Oper} {v : Value} {fuel : Nat} {l : Array Bool} {a a' : Act} {w : World} (i : Nat) (N : Option Tmp) (l' : Array Bool)
    (hi : ops[i]? = some oi := by rfl) (hN : oi.dst = N := by rfl) (hc : takeB md ops ds l l' i = true := by exact take_ofW HT_.out HW_.out (by kernel_rfl)) (hQ : ∀ c a w, Q (.panic c) (a.put oi.dst v) w → Q (.panic c) a w := by exact fun _ _ _ h => h)
    (hS : S w := by exact hHeld) (hy : YieldsIf P ops S oi v a := by exact Or.inl ⟨by rfl, by rintro w' ⟨s0, s1, s2, s3, s4, s5, s6, s7, s8⟩; go_simp; with_reducible rfl⟩) (ha : a.put N v = a' := by simp only [Act.put, sA_, sB_, sC_, i64_w, i32_w]; rfl)
    (h : wpAnyLast P md ops Q S ds fuel l' a' w) : wpAnyLast P md ops Q S ds (fuel + 1) l a w := take_ l' hi hN hc hQ hy hS ha h
theorem tI12_ {P : Program} {md : Region.Mode} {ops : Array Oper} {Q : Exit → Act → World → Prop} {S : World → Prop} {ds : List Nat} {oi : Oper} {v : Value} {fuel : Nat} {l : Array Bool} {a a' : Act} {w : World} (i : Nat) (N : Option Tmp) (l' : Array Bool)
    (hi : ops[i]? = some oi := by rfl) (hN : oi.dst = N := by rfl) (hc : takeB md ops ds l l' i = true := by exact take_ofW HT_.out HW_.out (by kernel_rfl)) (hQ : ∀ c a w, Q (.panic c) (a.put oi.dst v) w → Q (.panic c) a w := by exact fun _ _ _ h => h)
    (hS : S w := by exact hHeld) (hy : YieldsIf P ops S oi v a := by exact Or.inl ⟨by rfl, by rintro w' ⟨s0, s1, s2, s3, s4, s5, s6, s7, s8, s9, s10, s11⟩; go_simp; with_reducible rfl⟩) (ha : a.put N v = a' := by simp only [Act.put, sA_, sB_, sC_, i64_w, i32_w]; rfl)
    (h : wpAnyLast P md ops Q S ds fuel l' a' w) : wpAnyLast P md ops Q S ds (fuel + 1) l a w := take_ l' hi hN hc hQ hy hS ha h
theorem m0_ {P : Prop} (h : P := by (try simp only [List.map_toArray, List.map_cons, List.map_nil]); first | done | rfl | (simp only [List.length_drop, List.length_take]; rfl)) : P := h
theorem m1_ {P : Prop} (h : P := by repeat (first | (with_reducible first | exact HB.out | apply below_alloc | apply pw_below_drewN | apply below_drew1) | exact HB.out)) : P := h
theorem m2_ {P : Prop} (h : P := by (with_reducible repeat (first | apply Kd.R_alloc | apply Kd.R_drewN | apply Kd.R_drew)); exact HO339.out) : P := h
theorem m3_ {P : Prop} (h : P := by (with_reducible repeat (first | apply Kd.R_alloc | apply Kd.R_drewN | apply Kd.R_drew)); exact HO342.out) : P := h
theorem m4_ {P : Prop} (h : P := by (with_reducible repeat (first | apply Kd.R_alloc | apply Kd.R_drewN | apply Kd.R_drew)); exact HO346.out) : P := h
theorem m5_ {P : Prop} (h : P := by (with_reducible repeat (first | apply Kd.R_alloc | apply Kd.R_drewN | apply Kd.R_drew)); exact HO350.out) : P := h
theorem m6_ {P : Prop} (h : P := by (with_reducible repeat (first | apply Kd.R_alloc | apply Kd.R_drewN | apply Kd.R_drew)); exact HO358.out) : P := h
theorem m7_ {P : Prop} (h : P := by (with_reducible repeat (first | apply Kd.R_alloc | apply Kd.R_drewN | apply Kd.R_drew)); exact HO354.out) : P := h
theorem m8_ {P : Prop} (h : P := by (with_reducible repeat (first | apply Kd.R_alloc | apply Kd.R_drewN | apply Kd.R_drew)); exact HO314.out) : P := h
theorem m9_ {P : Prop} (h : P := by (with_reducible repeat (first | apply Kd.R_alloc | apply Kd.R_drewN | apply Kd.R_drew)); exact HO_5.out) : P := h
theorem m10_ {P : Prop} (h : P := by (with_reducible repeat (first | apply Kd.R_alloc | apply Kd.R_drewN | apply Kd.R_drew)); exact HO_7.out) : P := h
theorem m11_ {P : Prop} (h : P := by (with_reducible repeat (first | apply Kd.R_alloc | apply Kd.R_drewN | apply Kd.R_drew)); exact HO_6.out) : P := h
theorem m12_ {P : Prop} (h : P := by first | (with_reducible assumption) | assumption) : P := h
theorem m13_ {P : Prop} (h : P := by repeat (first | exact (Kd.C_below HR0.out HB.out) | (with_reducible refine Kd.C_alloc ?_ _) | (with_reducible refine Kd.C_drewN ?_ _) | (with_reducible refine Kd.C_drew ?_))) : P := h
theorem m14_ {P : Prop} (h : P := by repeat (first | exact (Kd.C_below HR1.out HB.out) | (with_reducible refine Kd.C_alloc ?_ _) | (with_reducible refine Kd.C_drewN ?_ _) | (with_reducible refine Kd.C_drew ?_))) : P := h
theorem m15_ {P : Prop} (h : P := by repeat (first | (with_reducible first | exact HB.out | apply below_alloc | apply pw_below_drewN | apply below_drew1) | exact HB.out)) : P := h
mutual
def strongroomlaw20_MerkleDiffs.j0 : Nat → List (S39) → List (S39) → Bool → Option (Bool)
 | 0, _, _, _ => none
 | k + 1, x0, x1, x20 => if x20 = true then ((strongroomlaw20_lives.f k).bind fun t311 => (some t311)) else ((strongroomlaw20_mine.f k x0).bind fun t312 => ((strongroomlaw20_mine.f k x1).bind fun t315 => ((merkle_Diff.f k t312 t315).bind fun t318 => ((strongroomlaw20_list.f k x0).bind fun t321 => (if t321 = true then ((strongroomlaw20_list.f k x1).bind fun t322 => (strongroomlaw20_MerkleDiffs.j1 k x0 x1 t318 (!t322))) else (strongroomlaw20_MerkleDiffs.j1 k x0 x1 t318 true))))))
def strongroomlaw20_MerkleDiffs.j1 : Nat → List (S39) → List (S39) → List (S66) → Bool → Option (Bool)
 | 0, _, _, _, _ => none
 | k + 1, x0, x1, x5, x34 => if x34 = true then (if (x5.length : Int) = 0 then ((strongroomlaw20_lives.f k).bind fun t323 => (some t323)) else (some false)) else ((strongroomref20_Diff.f k x0 x1).bind fun t324 => (if (x5.length : Int) = (t324.length : Int) then (strongroomlaw20_MerkleDiffs.l0 k x0 x1 x5 t324 ([] : List (S66)) 0) else (some false)))
def strongroomlaw20_MerkleDiffs.l0 : Nat → List (S39) → List (S39) → List (S66) → List (S67) → List (S66) → Int → Option (Bool)
 | 0, _, _, _, _, _, _ => none
 | k + 1, x0, x1, x5, x6, x7, x8 => if x8 < (x5.length : Int) then (if 0 ≤ x8 then (if x8 < (x6.length : Int) then (if (!((((rd_T66 x5 x8).f0).toList) == (((rd_T67 x6 x8).f0).toList)) || (!((((rd_T66 x5 x8).f1).toList) == (((rd_T67 x6 x8).f1).toList)) || (!((((rd_T66 x5 x8).f2).toList) == (((rd_T67 x6 x8).f2).toList))))) = true then (some false) else (if x7.length < 2932031007402 then (strongroomlaw20_MerkleDiffs.l0 k x0 x1 x5 x6 (x7 ++ [(⟨(rd_T66 x5 x8).f0, (rd_T66 x5 x8).f2, (rd_T66 x5 x8).f1⟩ : S66)]) (wrap64 (x8 + 1))) else (none))) else (none)) else (none)) else ((strongroomlaw20_mine.f k x0).bind fun t337 => ((merkle_Apply.f k t337 x5).bind fun bt340 => ((merkle_Apply.f k bt340.1 x7).bind fun bt344 => (if bt340.2 = 0 then (if bt344.2 = 0 then ((strongroomlaw20_theirs.f k bt340.1).bind fun t348 => ((strongroomref20_Same.f k t348 x1).bind fun t351 => (if t351 = true then ((strongroomlaw20_theirs.f k bt344.1).bind fun t352 => ((strongroomref20_Same.f k t352 x0).bind fun t355 => (if t355 = true then ((strongroomlaw20_mine.f k x0).bind fun t356 => ((merkle_Digest.f k t356).bind fun t359 => ((strongroomlaw20_mine.f k x1).bind fun t360 => ((merkle_Digest.f k t360).bind fun t363 => (if t359.toList = t363.toList then ((strongroomref20_Same.f k x0 x1).bind fun t364 => (if (((x5.length : Int) == 0) == t364) = true then ((strongroomlaw20_lives.f k).bind fun t365 => (some t365)) else (some false))) else (if (((x5.length : Int) == 0) == false) = true then ((strongroomlaw20_lives.f k).bind fun t366 => (some t366)) else (some false))))))) else (some false)))) else (some false)))) else (some false)) else (some false)))))
end
def strongroomlaw20_MerkleDiffs.f (k : Nat) (l0 : List (S39)) (l1 : List (S39)) : Option (Bool) := (strongroomlaw20_small.f k l0).bind fun t309 => (if t309 = true then ((strongroomlaw20_small.f k l1).bind fun t310 => (strongroomlaw20_MerkleDiffs.j0 k l0 l1 (!t310))) else (strongroomlaw20_MerkleDiffs.j0 k l0 l1 true))
theorem strongroomlaw20_MerkleDiffs.mono_l : ∀ k, (∀ y0 y1 y2, LeO (strongroomlaw20_MerkleDiffs.j0 k y0 y1 y2) (strongroomlaw20_MerkleDiffs.j0 (k + 1) y0 y1 y2)) ∧ (∀ y0 y1 y2 y3, LeO (strongroomlaw20_MerkleDiffs.j1 k y0 y1 y2 y3) (strongroomlaw20_MerkleDiffs.j1 (k + 1) y0 y1 y2 y3)) ∧ (∀ y0 y1 y2 y3 y4 y5, LeO (strongroomlaw20_MerkleDiffs.l0 k y0 y1 y2 y3 y4 y5) (strongroomlaw20_MerkleDiffs.l0 (k + 1) y0 y1 y2 y3 y4 y5))
 | 0 => ⟨fun _ _ _ r h => by simp [strongroomlaw20_MerkleDiffs.j0] at h, fun _ _ _ _ r h => by simp [strongroomlaw20_MerkleDiffs.j1] at h, fun _ _ _ _ _ _ r h => by simp [strongroomlaw20_MerkleDiffs.l0] at h⟩
 | k + 1 => by
  obtain ⟨ih0, ih1, ih2⟩ := strongroomlaw20_MerkleDiffs.mono_l k
  refine ⟨?_, ?_, ?_⟩
  ·intro y0 y1 y2
   unfold strongroomlaw20_MerkleDiffs.j0
   repeat' first
   | (with_reducible exact ih0 _ _ _)
   | (with_reducible exact ih1 _ _ _ _)
   | (with_reducible exact ih2 _ _ _ _ _ _)
   | (with_reducible exact merkle_Apply.mono _ _ _)
   | (with_reducible exact merkle_Diff.mono _ _ _)
   | (with_reducible exact merkle_Digest.mono _ _)
   | (with_reducible exact strongroomlaw20_list.mono _ _)
   | (with_reducible exact strongroomlaw20_lives.mono _)
   | (with_reducible exact strongroomlaw20_mine.mono _ _)
   | (with_reducible exact strongroomlaw20_small.mono _ _)
   | (with_reducible exact strongroomlaw20_theirs.mono _ _)
   | (with_reducible exact strongroomref20_Diff.mono _ _ _)
   | (with_reducible exact strongroomref20_Same.mono _ _ _)
   | (with_reducible exact LeO.refl _)
   | (with_reducible exact LeO.none _)
   | (with_reducible refine LeO.ite ?_ ?_)
   | (with_reducible refine LeO.bind ?_ (fun _ => ?_))
   | exact ih0 _ _ _
   | exact ih1 _ _ _ _
   | exact ih2 _ _ _ _ _ _
   | exact merkle_Apply.mono _ _ _
   | exact merkle_Diff.mono _ _ _
   | exact merkle_Digest.mono _ _
   | exact strongroomlaw20_list.mono _ _
   | exact strongroomlaw20_lives.mono _
   | exact strongroomlaw20_mine.mono _ _
   | exact strongroomlaw20_small.mono _ _
   | exact strongroomlaw20_theirs.mono _ _
   | exact strongroomref20_Diff.mono _ _ _
   | exact strongroomref20_Same.mono _ _ _
   | exact LeO.none _
   | refine LeO.ite ?_ ?_
   | refine LeO.bind ?_ (fun _ => ?_)
  ·intro y0 y1 y2 y3
   unfold strongroomlaw20_MerkleDiffs.j1
   repeat' first
   | (with_reducible exact ih0 _ _ _)
   | (with_reducible exact ih1 _ _ _ _)
   | (with_reducible exact ih2 _ _ _ _ _ _)
   | (with_reducible exact merkle_Apply.mono _ _ _)
   | (with_reducible exact merkle_Diff.mono _ _ _)
   | (with_reducible exact merkle_Digest.mono _ _)
   | (with_reducible exact strongroomlaw20_list.mono _ _)
   | (with_reducible exact strongroomlaw20_lives.mono _)
   | (with_reducible exact strongroomlaw20_mine.mono _ _)
   | (with_reducible exact strongroomlaw20_small.mono _ _)
   | (with_reducible exact strongroomlaw20_theirs.mono _ _)
   | (with_reducible exact strongroomref20_Diff.mono _ _ _)
   | (with_reducible exact strongroomref20_Same.mono _ _ _)
   | (with_reducible exact LeO.refl _)
   | (with_reducible exact LeO.none _)
   | (with_reducible refine LeO.ite ?_ ?_)
   | (with_reducible refine LeO.bind ?_ (fun _ => ?_))
   | exact ih0 _ _ _
   | exact ih1 _ _ _ _
   | exact ih2 _ _ _ _ _ _
   | exact merkle_Apply.mono _ _ _
   | exact merkle_Diff.mono _ _ _
   | exact merkle_Digest.mono _ _
   | exact strongroomlaw20_list.mono _ _
   | exact strongroomlaw20_lives.mono _
   | exact strongroomlaw20_mine.mono _ _
   | exact strongroomlaw20_small.mono _ _
   | exact strongroomlaw20_theirs.mono _ _
   | exact strongroomref20_Diff.mono _ _ _
   | exact strongroomref20_Same.mono _ _ _
   | exact LeO.none _
   | refine LeO.ite ?_ ?_
   | refine LeO.bind ?_ (fun _ => ?_)
  ·intro y0 y1 y2 y3 y4 y5
   unfold strongroomlaw20_MerkleDiffs.l0
   repeat' first
   | (with_reducible exact ih0 _ _ _)
   | (with_reducible exact ih1 _ _ _ _)
   | (with_reducible exact ih2 _ _ _ _ _ _)
   | (with_reducible exact merkle_Apply.mono _ _ _)
   | (with_reducible exact merkle_Diff.mono _ _ _)
   | (with_reducible exact merkle_Digest.mono _ _)
   | (with_reducible exact strongroomlaw20_list.mono _ _)
   | (with_reducible exact strongroomlaw20_lives.mono _)
   | (with_reducible exact strongroomlaw20_mine.mono _ _)
   | (with_reducible exact strongroomlaw20_small.mono _ _)
   | (with_reducible exact strongroomlaw20_theirs.mono _ _)
   | (with_reducible exact strongroomref20_Diff.mono _ _ _)
   | (with_reducible exact strongroomref20_Same.mono _ _ _)
   | (with_reducible exact LeO.refl _)
   | (with_reducible exact LeO.none _)
   | (with_reducible refine LeO.ite ?_ ?_)
   | (with_reducible refine LeO.bind ?_ (fun _ => ?_))
   | exact ih0 _ _ _
   | exact ih1 _ _ _ _
   | exact ih2 _ _ _ _ _ _
   | exact merkle_Apply.mono _ _ _
   | exact merkle_Diff.mono _ _ _
   | exact merkle_Digest.mono _ _
   | exact strongroomlaw20_list.mono _ _
   | exact strongroomlaw20_lives.mono _
   | exact strongroomlaw20_mine.mono _ _
   | exact strongroomlaw20_small.mono _ _
   | exact strongroomlaw20_theirs.mono _ _
   | exact strongroomref20_Diff.mono _ _ _
   | exact strongroomref20_Same.mono _ _ _
   | exact LeO.none _
   | refine LeO.ite ?_ ?_
   | refine LeO.bind ?_ (fun _ => ?_)
theorem strongroomlaw20_MerkleDiffs.mono : ∀ a0 a1 k, LeO (strongroomlaw20_MerkleDiffs.f k a0 a1) (strongroomlaw20_MerkleDiffs.f (k + 1) a0 a1) := by
 intro a0 a1 k
 obtain ⟨ih0, ih1, ih2⟩ := strongroomlaw20_MerkleDiffs.mono_l k
 unfold strongroomlaw20_MerkleDiffs.f
 repeat' first
   | (with_reducible exact ih0 _ _ _)
   | (with_reducible exact ih1 _ _ _ _)
   | (with_reducible exact ih2 _ _ _ _ _ _)
   | (with_reducible exact merkle_Apply.mono _ _ _)
   | (with_reducible exact merkle_Diff.mono _ _ _)
   | (with_reducible exact merkle_Digest.mono _ _)
   | (with_reducible exact strongroomlaw20_list.mono _ _)
   | (with_reducible exact strongroomlaw20_lives.mono _)
   | (with_reducible exact strongroomlaw20_mine.mono _ _)
   | (with_reducible exact strongroomlaw20_small.mono _ _)
   | (with_reducible exact strongroomlaw20_theirs.mono _ _)
   | (with_reducible exact strongroomref20_Diff.mono _ _ _)
   | (with_reducible exact strongroomref20_Same.mono _ _ _)
   | (with_reducible exact LeO.refl _)
   | (with_reducible exact LeO.none _)
   | (with_reducible refine LeO.ite ?_ ?_)
   | (with_reducible refine LeO.bind ?_ (fun _ => ?_))
   | exact ih0 _ _ _
   | exact ih1 _ _ _ _
   | exact ih2 _ _ _ _ _ _
   | exact merkle_Apply.mono _ _ _
   | exact merkle_Diff.mono _ _ _
   | exact merkle_Digest.mono _ _
   | exact strongroomlaw20_list.mono _ _
   | exact strongroomlaw20_lives.mono _
   | exact strongroomlaw20_mine.mono _ _
   | exact strongroomlaw20_small.mono _ _
   | exact strongroomlaw20_theirs.mono _ _
   | exact strongroomref20_Diff.mono _ _ _
   | exact strongroomref20_Same.mono _ _ _
   | exact LeO.none _
   | refine LeO.ite ?_ ?_
   | refine LeO.bind ?_ (fun _ => ?_)
def strongroomlaw20_MerkleDiffs.T13 : Bool × List (List Nat × List Nat) := (true, [([], []), ([], []), ([0, 1], [0, 1]), ([2], [2]), ([], []), ([], []), ([4, 5], [4, 5]), ([6], [6]), ([7], [7]), ([], []), ([], []), ([9, 10], [9, 10]), ([11], [11]), ([12], [12]), ([], []), ([], []), ([14, 15], [14, 15]), ([16], [16]), ([17], [17]), ([8, 13, 18], [8, 13, 18]), ([3, 19], [3, 19])])
def strongroomlaw20_MerkleDiffs.B13 : List Nat := [0, 0, 3, 7, 0, 0, 48, 112, 240, 0, 0, 1536, 3584, 7680, 0, 0, 49152, 114688, 245760, 524272, 1048575]
theorem strongroomlaw20_MerkleDiffs.tab13 : rtab .any (opsOf Tryd.f8 13) = strongroomlaw20_MerkleDiffs.T13 := by kernel_rfl
theorem strongroomlaw20_MerkleDiffs.bits13 : waitsOk strongroomlaw20_MerkleDiffs.T13.2 strongroomlaw20_MerkleDiffs.B13 = true := by kernel_rfl
def strongroomlaw20_MerkleDiffs.T15 : Bool × List (List Nat × List Nat) := (true, [([], []), ([], []), ([], []), ([1, 2], [1, 2]), ([3], [3]), ([4], [4]), ([], []), ([], []), ([6, 7], [6, 7]), ([8], [8]), ([9], [9]), ([], []), ([], []), ([11, 12], [11, 12]), ([13], [13]), ([14], [14]), ([5, 10, 15], [5, 10, 15]), ([16], [16]), ([0, 17], [0, 17]), ([18, 18, 0, 1, 2, 3, 4, 5, 6, 7, 8, 9, 10, 11, 12, 13, 14, 15, 16, 17, 18], [0, 18])])
def strongroomlaw20_MerkleDiffs.B15 : List Nat := [0, 0, 0, 6, 14, 30, 0, 0, 192, 448, 960, 0, 0, 6144, 14336, 30720, 65534, 131070, 262143, 524287]
theorem strongroomlaw20_MerkleDiffs.tab15 : rtab .any (opsOf Tryd.f8 15) = strongroomlaw20_MerkleDiffs.T15 := by kernel_rfl
theorem strongroomlaw20_MerkleDiffs.bits15 : waitsOk strongroomlaw20_MerkleDiffs.T15.2 strongroomlaw20_MerkleDiffs.B15 = true := by kernel_rfl
set_option maxHeartbeats 8000000 in
set_option maxRecDepth 100000 in
theorem strongroomlaw20_MerkleDiffs.calls (k : Nat) (A0 : Option Addr) (c0 : Nat) (l0 : List (S39)) (A1 : Option Addr) (c1 : Nat) (l1 : List (S39)) (r : Bool) (w : World) (hr0 : Kd.C k39 w A0 l0.length l0) (hc0 : l0.length ≤ c0) (hr1 : Kd.C k39 w A1 l1.length l1) (hc1 : l1.length ≤ c1) (h : strongroomlaw20_MerkleDiffs.f k l0 l1 = some r) (hr_ : r = true) :
  Calls Tryd.prog 8 #[.slice A0 l0.length c0, .slice A1 l1.length c1] w fun e w' => e = .returned (.bool r) ∧ Below w.heap.size w w' := by
 have hu66 := Tryd.underlying66
 have HR0 := Aside0.mk hr0
 have HC0 := Aside0.mk hc0
 clear hr0 hc0
 have HR1 := Aside0.mk hr1
 have HC1 := Aside0.mk hc1
 clear hr1 hc1
 have HB := Aside0.mk (Below.refl w.heap.size w)
 have H : ((strongroomlaw20_small.f k l0).bind fun t309 => (if t309 = true then ((strongroomlaw20_small.f k l1).bind fun t310 => (strongroomlaw20_MerkleDiffs.j0 k l0 l1 (!t310))) else (strongroomlaw20_MerkleDiffs.j0 k l0 l1 true))) = some r := h
 clear h
 have HC3 := Aside0.mk H
 clear H
 go_enter Tryd.func8, Tryd.ntmps8
 go_upto_region 1 with (fail)
 go_cut [20] (fun v20 wc => ∃ (kq : Nat) (x20_2 : Bool), v20 = .bool x20_2 ∧ Aside0 (strongroomlaw20_MerkleDiffs.j0 kq l0 l1 x20_2 = some r) ∧ Aside0 (kq ≤ k) ∧ Aside0 (Below w.heap.size w wc))
 case first =>
  have H := HC3.out
  clear HC3
  replace H := Option.bind_eq_some_iff.mp H
  obtain ⟨t309, A40, H⟩ := H
  replace H : (if t309 = true then ((strongroomlaw20_small.f k l1).bind fun t310 => (strongroomlaw20_MerkleDiffs.j0 k l0 l1 (!t310))) else (strongroomlaw20_MerkleDiffs.j0 k l0 l1 true)) = some r := H
  have A4 := Aside0.mk A40
  clear A40
  by_cases c5 : t309 = true
  case neg =>
   replace c5 := Bool.eq_false_iff.mpr c5
   subst c5
   have H1 : (strongroomlaw20_MerkleDiffs.j0 k l0 l1 true) = some r := by rw [if_neg (show ¬ (false = true) by decide)] at H; exact H
   clear H
   have H := H1
   clear H1
   have H' := Aside0.mk H
   clear H
   go_wp2_with (first | ((with_reducible refine gate_callee (f := 11) rfl ?_); refine goesL_ (some 14) rfl rfl Tryd.func11 (by kernel_rfl) rfl #[.slice A0 l0.length c0] rfl m0_ ?_; (with_reducible refine (strongroomlaw20_small.calls k _ _ l0 false _ ?side1 ?side2 A4.out).mono ?_); (case side1 => exact m13_); (case side2 => exact HC0.out); rintro e w' ⟨rfl, ⟨nd, rfl⟩⟩; refine ⟨_, rfl, ?_⟩))
   go_meet
   case rel => exact ⟨_, (true), (by first | rfl | (simp; done) | (simp [*]; done)), H', ⟨by first | omega | exact Nat.le_refl _⟩, ⟨m15_⟩⟩
  subst c5
  have H1 : ((strongroomlaw20_small.f k l1).bind fun t310 => (strongroomlaw20_MerkleDiffs.j0 k l0 l1 (!t310))) = some r := by rw [if_pos rfl] at H; exact H
  clear H
  have H := H1
  clear H1
  replace H := Option.bind_eq_some_iff.mp H
  obtain ⟨t310, A60, H⟩ := H
  replace H : (strongroomlaw20_MerkleDiffs.j0 k l0 l1 (!t310)) = some r := H
  have A6 := Aside0.mk A60
  clear A60
  have H' := Aside0.mk H
  clear H
  go_wp2_with (first | ((with_reducible refine gate_callee (f := 11) rfl ?_); refine goesL_ (some 14) rfl rfl Tryd.func11 (by kernel_rfl) rfl #[.slice A0 l0.length c0] rfl m0_ ?_; (with_reducible refine (strongroomlaw20_small.calls k _ _ l0 true _ ?side1 ?side2 A4.out).mono ?_); (case side1 => exact m13_); (case side2 => exact HC0.out); rintro e w' ⟨rfl, ⟨nd, rfl⟩⟩; refine ⟨_, rfl, ?_⟩) | (go_at_call 11; (with_reducible refine (strongroomlaw20_small.calls k _ _ l1 t310 _ ?side1 ?side2 A6.out).mono ?_); (case side1 => repeat (first | exact (Kd.C_below HR1.out m1_) | (with_reducible refine Kd.C_alloc ?_ _) | (with_reducible refine Kd.C_drewN ?_ _) | (with_reducible refine Kd.C_drew ?_))); (case side2 => exact HC1.out); rintro e w' ⟨rfl, ⟨nd, rfl⟩⟩))
  go_meet
  case rel => exact ⟨_, (!t310), (by first | rfl | (simp; done) | (simp [*]; done)), H', ⟨by first | omega | exact Nat.le_refl _⟩, ⟨m15_⟩⟩
 clear HC3
 try clear c1; try clear p2; try clear c5
 obtain ⟨kq, x20_2, rfl, HA, HJ2, HB⟩ := hcut
 cases kq with
 | zero => exact absurd HA.out (by simp [strongroomlaw20_MerkleDiffs.j0])
 | succ kj2 =>
  have H := HA.out
  clear HA
  simp only [strongroomlaw20_MerkleDiffs.j0] at H
  by_cases c7 : x20_2 = true
  ·subst c7
   have H1 : ((strongroomlaw20_lives.f kj2).bind fun t311 => (some t311)) = some r := by rw [if_pos rfl] at H; exact H
   clear H
   have H := H1
   clear H1
   replace H := Option.bind_eq_some_iff.mp H
   obtain ⟨t311, A80, H⟩ := H
   replace H : (some t311) = some r := H
   have A8 := Aside0.mk A80
   clear A80
   obtain rfl := Option.some.inj H
   go_wp2_with (first | ((with_reducible refine gate_callee (f := 12) rfl ?_); refine goesL_ (some 21) rfl rfl Tryd.func12 (by kernel_rfl) rfl #[] rfl m0_ ?_; (with_reducible refine (strongroomlaw20_lives.calls kj2  t311 _ A8.out hr_).mono ?_); rintro e w9 ⟨rfl, hb⟩; refine ⟨_, rfl, ?_⟩; replace HB := Aside0.mk (below_step m1_ hb); (try clear hb); (try clear hb2); (try clear hk); (try clear hi)))
   go_ret
   exact ⟨by first | rfl | (simp [errW_none, errW_some] <;> rfl) | (simp [*, errW_none, errW_some] <;> rfl), m15_⟩
  replace c7 := Bool.eq_false_iff.mpr c7
  subst c7
  have H1 : ((strongroomlaw20_mine.f kj2 l0).bind fun t312 => ((strongroomlaw20_mine.f kj2 l1).bind fun t315 => ((merkle_Diff.f kj2 t312 t315).bind fun t318 => ((strongroomlaw20_list.f kj2 l0).bind fun t321 => (if t321 = true then ((strongroomlaw20_list.f kj2 l1).bind fun t322 => (strongroomlaw20_MerkleDiffs.j1 kj2 l0 l1 t318 (!t322))) else (strongroomlaw20_MerkleDiffs.j1 kj2 l0 l1 t318 true)))))) = some r := by rw [if_neg (show ¬ (false = true) by decide)] at H; exact H
  clear H
  have H := H1
  clear H1
  replace H := Option.bind_eq_some_iff.mp H
  obtain ⟨t312, A100, H⟩ := H
  replace H : ((strongroomlaw20_mine.f kj2 l1).bind fun t315 => ((merkle_Diff.f kj2 t312 t315).bind fun t318 => ((strongroomlaw20_list.f kj2 l0).bind fun t321 => (if t321 = true then ((strongroomlaw20_list.f kj2 l1).bind fun t322 => (strongroomlaw20_MerkleDiffs.j1 kj2 l0 l1 t318 (!t322))) else (strongroomlaw20_MerkleDiffs.j1 kj2 l0 l1 t318 true))))) = some r := H
  have A10 := Aside0.mk A100
  clear A100
  replace H := Option.bind_eq_some_iff.mp H
  obtain ⟨t315, A110, H⟩ := H
  replace H : ((merkle_Diff.f kj2 t312 t315).bind fun t318 => ((strongroomlaw20_list.f kj2 l0).bind fun t321 => (if t321 = true then ((strongroomlaw20_list.f kj2 l1).bind fun t322 => (strongroomlaw20_MerkleDiffs.j1 kj2 l0 l1 t318 (!t322))) else (strongroomlaw20_MerkleDiffs.j1 kj2 l0 l1 t318 true)))) = some r := H
  have A11 := Aside0.mk A110
  clear A110
  replace H := Option.bind_eq_some_iff.mp H
  obtain ⟨t318, A120, H⟩ := H
  replace H : ((strongroomlaw20_list.f kj2 l0).bind fun t321 => (if t321 = true then ((strongroomlaw20_list.f kj2 l1).bind fun t322 => (strongroomlaw20_MerkleDiffs.j1 kj2 l0 l1 t318 (!t322))) else (strongroomlaw20_MerkleDiffs.j1 kj2 l0 l1 t318 true))) = some r := H
  have A12 := Aside0.mk A120
  clear A120
  have HC13 := Aside0.mk H
  clear H
  go_upto_region 4 with (first | ((with_reducible refine gate_callee (f := 14) rfl ?_); refine goesL_ (some 23) rfl rfl Tryd.func14 (by kernel_rfl) rfl #[.slice A0 l0.length c0] rfl m0_ ?_; (with_reducible refine (strongroomlaw20_mine.calls kj2 _ _ l0 t312 _ ?side1 ?side2 A10.out).mono ?_); (case side1 => exact m13_); (case side2 => exact HC0.out); rintro e w14 ⟨v313, rfl, ho0, hb⟩; refine ⟨_, rfl, ?_⟩; have HO314 := Aside0.mk (Kd.R_lower ho0 (below_size m1_)); replace HB := Aside0.mk (below_step m1_ hb); (try clear hb); (try clear hb2); (try clear hk); (try clear hi); (try clear ho0)) | ((with_reducible refine gate_callee (f := 14) rfl ?_); refine goesL_ (some 25) rfl rfl Tryd.func14 (by kernel_rfl) rfl #[.slice A1 l1.length c1] rfl m0_ ?_; (with_reducible refine (strongroomlaw20_mine.calls kj2 _ _ l1 t315 _ ?side1 ?side2 A11.out).mono ?_); (case side1 => exact m14_); (case side2 => exact HC1.out); rintro e w15 ⟨v316, rfl, ho0, hb⟩; refine ⟨_, rfl, ?_⟩; have n0_ := Aside0.mk (Kd.R_elder' m8_ (Kd.R_base ho0) hb); have n1_ := Aside0.mk (Kd.R_lower (Kd.R_new' ho0 (Kd.R_lt m8_)) (below_size m1_)); have n2_ := Aside0.mk (below_step m1_ hb); clear HO314; clear HB; have HO314 := n0_; have HO317 := n1_; have HB := n2_; clear n0_ n1_ n2_; (try clear hb); (try clear hb2); (try clear hk); (try clear hi); (try clear ho0); obtain ⟨Ao16, co16, eo16⟩ := Kd.R_slice HO314.out; subst eo16; obtain ⟨Ao17, co17, eo17⟩ := Kd.R_slice HO317.out; subst eo17) | ((with_reducible refine gate_callee (f := 30) rfl ?_); refine goesL_ (some 26) rfl rfl Tryd.func30 (by kernel_rfl) rfl #[.slice Ao16 t312.length co16, .slice Ao17 t315.length co17] rfl m0_ ?_; (with_reducible refine (merkle_Diff.calls kj2 (fun k_ => some k_ = (.slice Ao16 t312.length co16 : Value).ownBlock) _ _ t312 (fun k_ => some k_ = (.slice Ao17 t315.length co17 : Value).ownBlock) _ _ t315 t318 _ ?side1 ?side2 A12.out).mono ?_); (case side1 => exact Kd.R_V (Kd.R_tight rfl (HO314.out))); (case side2 => exact Kd.R_V (Kd.R_tight rfl (HO317.out))); rintro e w18 ⟨v319, rfl, ho0, hb⟩; refine ⟨_, rfl, ?_⟩; have n0_ := Aside0.mk (Kd.R_below m8_ hb); have n1_ := Aside0.mk (Kd.R_below (by (with_reducible repeat (first | apply Kd.R_alloc | apply Kd.R_drewN | apply Kd.R_drew)); exact HO317.out) hb); have n2_ := Aside0.mk (Kd.R_lower (Kd.R_mono (ok' := fun k_ => True) ho0 (fun _ hk_ => trivial)) (below_size m1_)); have n3_ := Aside0.mk (below_step m1_ hb); clear HO314; clear HO317; clear HB; have HO314 := n0_; have HO317 := n1_; have HO320 := n2_; have HB := n3_; clear n0_ n1_ n2_ n3_; (try clear hb); (try clear hb2); (try clear hk); (try clear hi); (try clear ho0)))
  (try simp only [Act.put, List.setIfInBounds_toArray, List.set_cons_zero, List.set_cons_succ])
  go_cut [34] (fun v34 wc => ∃ (kq : Nat) (x34_12 : Bool), v34 = .bool x34_12 ∧ Aside0 (strongroomlaw20_MerkleDiffs.j1 kq l0 l1 t318 x34_12 = some r) ∧ Aside0 (kq ≤ kj2) ∧ Aside0 (Kd.R k66 66 wc w.heap.size (fun _ => True) v319 t318) ∧ Aside0 (Below w.heap.size w wc))
  case first =>
   have H := HC13.out
   clear HC13
   replace H := Option.bind_eq_some_iff.mp H
   obtain ⟨t321, A190, H⟩ := H
   replace H : (if t321 = true then ((strongroomlaw20_list.f kj2 l1).bind fun t322 => (strongroomlaw20_MerkleDiffs.j1 kj2 l0 l1 t318 (!t322))) else (strongroomlaw20_MerkleDiffs.j1 kj2 l0 l1 t318 true)) = some r := H
   have A19 := Aside0.mk A190
   clear A190
   by_cases c20 : t321 = true
   case neg =>
    replace c20 := Bool.eq_false_iff.mpr c20
    subst c20
    have H1 : (strongroomlaw20_MerkleDiffs.j1 kj2 l0 l1 t318 true) = some r := by rw [if_neg (show ¬ (false = true) by decide)] at H; exact H
    clear H
    have H := H1
    clear H1
    have H' := Aside0.mk H
    clear H
    go_wp2_with (first | ((with_reducible refine gate_callee (f := 17) rfl ?_); refine goesL_ (some 28) rfl rfl Tryd.func17 (by kernel_rfl) rfl #[.slice A0 l0.length c0] rfl m0_ ?_; (with_reducible refine (strongroomlaw20_list.calls kj2 _ _ l0 false _ ?side1 ?side2 A19.out).mono ?_); (case side1 => exact m13_); (case side2 => exact HC0.out); rintro e w24 ⟨rfl, hb⟩; refine ⟨_, rfl, ?_⟩; have n0_ := Aside0.mk (Kd.R_below m8_ hb); have n1_ := Aside0.mk (Kd.R_below (by (with_reducible repeat (first | apply Kd.R_alloc | apply Kd.R_drewN | apply Kd.R_drew)); exact HO317.out) hb); have n2_ := Aside0.mk (Kd.R_below (by (with_reducible repeat (first | apply Kd.R_alloc | apply Kd.R_drewN | apply Kd.R_drew)); exact HO320.out) hb); have n3_ := Aside0.mk (below_step m1_ hb); clear HO314; clear HO317; clear HO320; clear HB; have HO314 := n0_; have HO317 := n1_; have HO320 := n2_; have HB := n3_; clear n0_ n1_ n2_ n3_; (try clear hb); (try clear hb2); (try clear hk); (try clear hi)))
    go_meet
    case rel => exact ⟨_, (true), (by first | rfl | (simp; done) | (simp [*]; done)), H', ⟨by have := HJ2.out; first | omega | exact Nat.le_refl _⟩, ⟨by (with_reducible repeat (first | apply Kd.R_alloc | apply Kd.R_drewN | apply Kd.R_drew)); exact HO320.out⟩, ⟨m15_⟩⟩
   subst c20
   have H1 : ((strongroomlaw20_list.f kj2 l1).bind fun t322 => (strongroomlaw20_MerkleDiffs.j1 kj2 l0 l1 t318 (!t322))) = some r := by rw [if_pos rfl] at H; exact H
   clear H
   have H := H1
   clear H1
   replace H := Option.bind_eq_some_iff.mp H
   obtain ⟨t322, A210, H⟩ := H
   replace H : (strongroomlaw20_MerkleDiffs.j1 kj2 l0 l1 t318 (!t322)) = some r := H
   have A21 := Aside0.mk A210
   clear A210
   have H' := Aside0.mk H
   clear H
   go_wp2_with (first | ((with_reducible refine gate_callee (f := 17) rfl ?_); refine goesL_ (some 28) rfl rfl Tryd.func17 (by kernel_rfl) rfl #[.slice A0 l0.length c0] rfl m0_ ?_; (with_reducible refine (strongroomlaw20_list.calls kj2 _ _ l0 true _ ?side1 ?side2 A19.out).mono ?_); (case side1 => exact m13_); (case side2 => exact HC0.out); rintro e w22 ⟨rfl, hb⟩; refine ⟨_, rfl, ?_⟩; have n0_ := Aside0.mk (Kd.R_below m8_ hb); have n1_ := Aside0.mk (Kd.R_below (by (with_reducible repeat (first | apply Kd.R_alloc | apply Kd.R_drewN | apply Kd.R_drew)); exact HO317.out) hb); have n2_ := Aside0.mk (Kd.R_below (by (with_reducible repeat (first | apply Kd.R_alloc | apply Kd.R_drewN | apply Kd.R_drew)); exact HO320.out) hb); have n3_ := Aside0.mk (below_step m1_ hb); clear HO314; clear HO317; clear HO320; clear HB; have HO314 := n0_; have HO317 := n1_; have HO320 := n2_; have HB := n3_; clear n0_ n1_ n2_ n3_; (try clear hb); (try clear hb2); (try clear hk); (try clear hi)) | (go_at_call 17; (with_reducible refine (strongroomlaw20_list.calls kj2 _ _ l1 t322 _ ?side1 ?side2 A21.out).mono ?_); (case side1 => exact m14_); (case side2 => exact HC1.out); rintro e w23 ⟨rfl, hb⟩; have n0_ := Aside0.mk (Kd.R_below m8_ hb); have n1_ := Aside0.mk (Kd.R_below (by (with_reducible repeat (first | apply Kd.R_alloc | apply Kd.R_drewN | apply Kd.R_drew)); exact HO317.out) hb); have n2_ := Aside0.mk (Kd.R_below (by (with_reducible repeat (first | apply Kd.R_alloc | apply Kd.R_drewN | apply Kd.R_drew)); exact HO320.out) hb); have n3_ := Aside0.mk (below_step m1_ hb); clear HO314; clear HO317; clear HO320; clear HB; have HO314 := n0_; have HO317 := n1_; have HO320 := n2_; have HB := n3_; clear n0_ n1_ n2_ n3_; (try clear hb); (try clear hb2); (try clear hk); (try clear hi)))
   go_meet
   case rel => exact ⟨_, (!t322), (by first | rfl | (simp; done) | (simp [*]; done)), H', ⟨by have := HJ2.out; first | omega | exact Nat.le_refl _⟩, ⟨by (with_reducible repeat (first | apply Kd.R_alloc | apply Kd.R_drewN | apply Kd.R_drew)); exact HO320.out⟩, ⟨m15_⟩⟩
  clear HC13
  try clear c1; try clear c2; try clear p2; try clear c3; try clear c5; try clear c7; try clear c8; try clear c11; try clear c12; try clear c14; try clear c17; try clear c20; try clear p2
  obtain ⟨kq, x34_12, rfl, HA, HJ12, HO_5, HB⟩ := hcut
  cases kq with
  | zero => exact absurd HA.out (by simp [strongroomlaw20_MerkleDiffs.j1])
  | succ kj12 =>
   have H := HA.out
   clear HA
   simp only [strongroomlaw20_MerkleDiffs.j1] at H
   by_cases c25 : x34_12 = true
   ·subst c25
    have H1 : (if (t318.length : Int) = 0 then ((strongroomlaw20_lives.f kj12).bind fun t323 => (some t323)) else (some false)) = some r := by rw [if_pos rfl] at H; exact H
    clear H
    have H := H1
    clear H1
    by_cases c26 : (t318.length : Int) = 0
    case neg =>
     rw [if_neg c26] at H
     have c26b0 : ((t318.length : Int) == 0) = false := beq_eq_false_iff_ne.mpr c26
     have c26b1 : ((t318.length : Int) != 0) = true := bne_iff_ne.mpr c26
     have c26b2 : ¬ (t318 = []) := fun h_ => c26 (by rw [h_]; rfl)
     exact absurd ((Option.some.inj H).trans hr_) (by decide)
    rw [if_pos c26] at H
    have c26b0 : ((t318.length : Int) == 0) = true := beq_iff_eq.mpr c26
    have c26b1 : ((t318.length : Int) != 0) = false := bne_eq_false_iff_eq.mpr c26
    clear c26
    replace H := Option.bind_eq_some_iff.mp H
    obtain ⟨t323, A270, H⟩ := H
    replace H : (some t323) = some r := H
    have A27 := Aside0.mk A270
    clear A270
    obtain rfl := Option.some.inj H
    obtain ⟨Ao28, co28, eo28⟩ := Kd.R_slice HO_5.out
    subst eo28
    go_wp2_with (first | (go_at_call 12; (with_reducible refine (strongroomlaw20_lives.calls kj12  t323 _ A27.out hr_).mono ?_); rintro e w29 ⟨rfl, hb⟩; replace HO_5 := Aside0.mk (Kd.R_below m9_ hb); replace HB := Aside0.mk (below_step m1_ hb); (try clear hb); (try clear hb2); (try clear hk); (try clear hi)))
    go_ret
    exact ⟨by first | rfl | (simp [errW_none, errW_some] <;> rfl) | (simp [*, errW_none, errW_some] <;> rfl), m15_⟩
   replace c25 := Bool.eq_false_iff.mpr c25
   subst c25
   have H1 : ((strongroomref20_Diff.f kj12 l0 l1).bind fun t324 => (if (t318.length : Int) = (t324.length : Int) then (strongroomlaw20_MerkleDiffs.l0 kj12 l0 l1 t318 t324 ([] : List (S66)) 0) else (some false))) = some r := by rw [if_neg (show ¬ (false = true) by decide)] at H; exact H
   clear H
   have H := H1
   clear H1
   replace H := Option.bind_eq_some_iff.mp H
   obtain ⟨t324, A310, H⟩ := H
   replace H : (if (t318.length : Int) = (t324.length : Int) then (strongroomlaw20_MerkleDiffs.l0 kj12 l0 l1 t318 t324 ([] : List (S66)) 0) else (some false)) = some r := H
   have A31 := Aside0.mk A310
   clear A310
   by_cases c32 : (t318.length : Int) = (t324.length : Int)
   case neg =>
    rw [if_neg c32] at H
    have c32b0 : ((t318.length : Int) == (t324.length : Int)) = false := beq_eq_false_iff_ne.mpr c32
    have c32b1 : ((t318.length : Int) != (t324.length : Int)) = true := bne_iff_ne.mpr c32
    have c32b2 : (t318.length == t324.length) = false := by first | simpa using c32 | (simp at c32 ⊢; omega)
    exact absurd ((Option.some.inj H).trans hr_) (by decide)
   rw [if_pos c32] at H
   have c32b0 : ((t318.length : Int) == (t324.length : Int)) = true := beq_iff_eq.mpr c32
   have c32b1 : ((t318.length : Int) != (t324.length : Int)) = false := bne_eq_false_iff_eq.mpr c32
   have c32b2 : (t318.length == t324.length) = true := by first | simpa using c32 | (simp at c32 ⊢; omega)
   clear c32
   have H' := Aside0.mk H
   clear H
   go_wp2_with (first | ((with_reducible refine gate_callee (f := 31) rfl ?_); refine goesL_ (some 43) rfl rfl Tryd.func31 (by kernel_rfl) rfl #[.slice A0 l0.length c0, .slice A1 l1.length c1] rfl m0_ ?_; (with_reducible refine (strongroomref20_Diff.calls kj12 _ _ l0 _ _ l1 t324 _ ?side1 ?side2 ?side3 ?side4 A31.out).mono ?_); (case side1 => exact m13_); (case side2 => exact HC0.out); (case side3 => exact m14_); (case side4 => exact HC1.out); rintro e w33 ⟨v325, rfl, ho0, hb⟩; refine ⟨_, rfl, ?_⟩; replace HO_5 := Aside0.mk (Kd.R_below m9_ hb); have HO326 := Aside0.mk (Kd.R_lower ho0 (below_size m1_)); replace HB := Aside0.mk (below_step m1_ hb); (try clear hb); (try clear hb2); (try clear hk); (try clear hi); (try clear ho0); obtain ⟨Ao34, co34, eo34⟩ := Kd.R_slice HO_5.out; subst eo34; obtain ⟨Ao35, co35, eo35⟩ := Kd.R_slice HO326.out; subst eo35))
   go_loopg [7, 8] kj12 (fun kq v7 v8 w' => ∃ (x7_3 : List (S66)) (x8_3 : Int), v8 = .int .i64 x8_3 ∧ Aside0 (strongroomlaw20_MerkleDiffs.l0 kq l0 l1 t318 t324 x7_3 x8_3 = some r) ∧ Aside0 (kq ≤ kj12) ∧ Aside0 (Kd.R k66 66 w' w.heap.size (fun k_ => some k_ ≠ (v7 : Value).ownBlock) (.slice Ao34 t318.length co34) t318) ∧ Aside0 (Kd.R k67 67 w' w.heap.size (fun _ => True) (.slice Ao35 t324.length co35) t324) ∧ Aside0 (Kd.R k66 66 w' w.heap.size (fun k_ => some k_ ≠ ((.slice Ao34 t318.length co34) : Value).ownBlock) v7 x7_3) ∧ Aside0 (Below w.heap.size w w'))
   case atStart => exact ⟨(([] : List (S66))), (0), (by first | rfl | (simp; done) | (simp [*]; done)), H', ⟨Nat.le_refl _⟩, ⟨by (with_reducible repeat (first | apply Kd.R_alloc | apply Kd.R_drewN | apply Kd.R_drew)); exact Kd.R_mono HO_5.out (fun _ hk => (by simp [Value.ownBlock]))⟩, ⟨by (with_reducible repeat (first | apply Kd.R_alloc | apply Kd.R_drewN | apply Kd.R_drew)); exact HO326.out⟩, ⟨by first | exact Kd.R_nil _ _ _ _ _ | exact Kd.N_nil _ _ _ _ _ | exact Kd.V_nil _ _ _ _ _ | exact Kd.Q_nil _ _ _ _ _ | exact Kd.S_nil _ _ _ _ _⟩, ⟨m15_⟩⟩
   clear H'
   try clear c1; try clear c2; try clear p2; try clear c3; try clear c5; try clear c7; try clear c8; try clear c11; try clear c12; try clear c14; try clear c17; try clear c20; try clear c25; try clear c26; try clear c26b0; try clear c26b1; try clear c26b2; try clear c30; try clear c31; try clear c32; try clear c32b0; try clear c32b1; try clear c32b2; try clear p2
   obtain ⟨x7_3, x8_3, rfl, HA, HK3, HO_5, HO_6, HO_7, HB⟩ := hrel
   cases gk with
   | zero => exact absurd HA.out (by simp [strongroomlaw20_MerkleDiffs.l0])
   | succ k3 =>
    have H := HA.out
    clear HA
    simp only [strongroomlaw20_MerkleDiffs.l0] at H
    by_cases c36 : x8_3 < (t318.length : Int)
    ·rw [if_pos c36] at H
     have c36b0 : decide (x8_3 < (t318.length : Int)) = true := decide_eq_true c36
     clear c36
     by_cases c37 : 0 ≤ x8_3
     case neg =>
      rw [if_neg c37] at H
      exact absurd H (by simp)
     rw [if_pos c37] at H
     have c37b0 : decide (0 ≤ x8_3) = true := decide_eq_true c37
     clear c37
     by_cases c38 : x8_3 < (t324.length : Int)
     case neg =>
      rw [if_neg c38] at H
      exact absurd H (by simp)
     rw [if_pos c38] at H
     have c38b0 : decide (x8_3 < (t324.length : Int)) = true := decide_eq_true c38
     clear c38
     by_cases c39 : (!((((rd_T66 t318 x8_3).f0).toList) == (((rd_T67 t324 x8_3).f0).toList)) || (!((((rd_T66 t318 x8_3).f1).toList) == (((rd_T67 t324 x8_3).f1).toList)) || (!((((rd_T66 t318 x8_3).f2).toList) == (((rd_T67 t324 x8_3).f2).toList))))) = true
     ·rw [if_pos c39] at H
      have c39b0 : (!((((rd_T66 t318 x8_3).f0).toList) == (((rd_T67 t324 x8_3).f0).toList)) || (!((((rd_T66 t318 x8_3).f1).toList) == (((rd_T67 t324 x8_3).f1).toList)) || (!((((rd_T66 t318 x8_3).f2).toList) == (((rd_T67 t324 x8_3).f2).toList))))) = true := c39
      clear c39
      exact absurd ((Option.some.inj H).trans hr_) (by decide)
     rw [if_neg c39] at H
     have c39b0 : (!((((rd_T66 t318 x8_3).f0).toList) == (((rd_T67 t324 x8_3).f0).toList)) || (!((((rd_T66 t318 x8_3).f1).toList) == (((rd_T67 t324 x8_3).f1).toList)) || (!((((rd_T66 t318 x8_3).f2).toList) == (((rd_T67 t324 x8_3).f2).toList))))) = false := by simpa using c39
     clear c39
     by_cases c41 : x7_3.length < 2932031007402
     case neg =>
      rw [if_neg c41] at H
      exact absurd H (by simp)
     rw [if_pos c41] at H
     have LMc41 := Aside0.mk c41
     clear c41
     obtain ⟨y334, hy334⟩ : ∃ y_ : List (S66), y_ = (x7_3 ++ [(⟨(rd_T66 t318 x8_3).f0, (rd_T66 t318 x8_3).f2, (rd_T66 t318 x8_3).f1⟩ : S66)]) := ⟨_, rfl⟩
     replace H : (strongroomlaw20_MerkleDiffs.l0 k3 l0 l1 t318 t324 y334 (wrap64 (x8_3 + 1))) = some r := by first | (rw [hy334]; with_reducible exact H) | (have H2_ := (Option.bind_some _ _).symm.trans H; rw [hy334]; with_reducible exact H2_) | (have H2_ := (Option.bind_some _ _).symm.trans H; with_reducible exact H2_) | with_reducible exact H | (rw [hy334]; exact H) | exact H
     have Ny334 := Aside0.mk hy334
     clear hy334
     have H' := Aside0.mk H
     clear H
     try go_wp2
     replace HO_5 := Aside0.mk (Kd.R_drew HO_5.out)
     replace HO_6 := Aside0.mk (Kd.R_drew HO_6.out)
     replace HO_7 := Aside0.mk (Kd.R_drew HO_7.out)
     replace HB := Aside0.mk (below_drew1 HB.out)
     have p327 : 0 ≤ (x8_3 : Int) := of_decide_eq_true m12_
     have q327 : x8_3 < (t318.length : Int) := of_decide_eq_true m12_
     obtain ⟨ad327, e327, hx327_0, hx327_1, hx327_2⟩ := at_T66 (Kd.R_reads' HO_5.out).2.2 x8_3 p327 q327
     cases e327
     replace p327 := eq_true p327
     replace q327 := eq_true q327
     have p328 : 0 ≤ (x8_3 : Int) := of_decide_eq_true m12_
     have q328 : x8_3 < (t324.length : Int) := of_decide_eq_true m12_
     obtain ⟨ad328, e328, hx328_0, hx328_1, hx328_2⟩ := at_T67 (Kd.R_reads' HO_6.out).2.2 x8_3 p328 q328
     cases e328
     replace p328 := eq_true p328
     replace q328 := eq_true q328
     have p329 : 0 ≤ (x8_3 : Int) := of_decide_eq_true m12_
     have q329 : x8_3 < (t324.length : Int) := of_decide_eq_true m12_
     obtain ⟨ad329, e329, hx329_0, hx329_1, hx329_2⟩ := at_T67 (Kd.R_reads' HO_6.out).2.2 x8_3 p329 q329
     obtain rfl : ad328 = ad329 := (by injection e329)
     replace p329 := eq_true p329
     replace q329 := eq_true q329
     have p330 : 0 ≤ (x8_3 : Int) := of_decide_eq_true m12_
     have q330 : x8_3 < (t324.length : Int) := of_decide_eq_true m12_
     obtain ⟨ad330, e330, hx330_0, hx330_1, hx330_2⟩ := at_T67 (Kd.R_reads' HO_6.out).2.2 x8_3 p330 q330
     obtain rfl : ad328 = ad330 := (by injection e330)
     replace p330 := eq_true p330
     replace q330 := eq_true q330
     refine start_ (n := 21) (S := fun w' => w'.cell? (ad327.add ((x8_3).toNat * 3)) = some (.string ((rd_T66 t318 x8_3).f0)) ∧ w'.cell? ⟨(ad327.add ((x8_3).toNat * 3)).block, (ad327.add ((x8_3).toNat * 3)).off + 1, none⟩ = some (.string ((rd_T66 t318 x8_3).f1)) ∧ w'.cell? ⟨(ad327.add ((x8_3).toNat * 3)).block, (ad327.add ((x8_3).toNat * 3)).off + 2, none⟩ = some (.string ((rd_T66 t318 x8_3).f2)) ∧ w'.cell? (ad328.add ((x8_3).toNat * 3)) = some (.string ((rd_T67 t324 x8_3).f0)) ∧ w'.cell? ⟨(ad328.add ((x8_3).toNat * 3)).block, (ad328.add ((x8_3).toNat * 3)).off + 1, none⟩ = some (.string ((rd_T67 t324 x8_3).f1)) ∧ w'.cell? ⟨(ad328.add ((x8_3).toNat * 3)).block, (ad328.add ((x8_3).toNat * 3)).off + 2, none⟩ = some (.string ((rd_T67 t324 x8_3).f2)) ∧ w'.cell? (ad328.add ((x8_3).toNat * 3)) = some (.string ((rd_T67 t324 x8_3).f0)) ∧ w'.cell? ⟨(ad328.add ((x8_3).toNat * 3)).block, (ad328.add ((x8_3).toNat * 3)).off + 1, none⟩ = some (.string ((rd_T67 t324 x8_3).f1)) ∧ w'.cell? ⟨(ad328.add ((x8_3).toNat * 3)).block, (ad328.add ((x8_3).toNat * 3)).off + 2, none⟩ = some (.string ((rd_T67 t324 x8_3).f2)) ∧ w'.cell? (ad328.add ((x8_3).toNat * 3)) = some (.string ((rd_T67 t324 x8_3).f0)) ∧ w'.cell? ⟨(ad328.add ((x8_3).toNat * 3)).block, (ad328.add ((x8_3).toNat * 3)).off + 1, none⟩ = some (.string ((rd_T67 t324 x8_3).f1)) ∧ w'.cell? ⟨(ad328.add ((x8_3).toNat * 3)).block, (ad328.add ((x8_3).toNat * 3)).off + 2, none⟩ = some (.string ((rd_T67 t324 x8_3).f2))) (ds := []) (Ra_ [0, 21]) (by kernel_rfl) rfl rfl ⟨hx327_0, hx327_1, hx327_2, hx328_0, hx328_1, hx328_2, hx329_0, hx329_1, hx329_2, hx330_0, hx330_1, hx330_2⟩ (fun hHeld => ?_); refine with_tabW strongroomlaw20_MerkleDiffs.tab13 strongroomlaw20_MerkleDiffs.bits13 (fun HT_ HW_ => ?_)
     generalize wr.drew = w42 at HO_5 HO_6 HO_7 HB hx327_0 hx327_1 hx327_2 hx328_0 hx328_1 hx328_2 hx329_0 hx329_1 hx329_2 hx330_0 hx330_1 hx330_2 hHeld ⊢
     refine pI_ 0 (some 55) (Ra_ [1, 20]) (h := ?_)
     refine pI_ 1 (some 56) (Ra_ [2, 19]) (h := ?_)
     refine pI_ 2 (some 57) (Ra_ [3, 18]) (h := ?_)
     refine pI_ 4 (some 59) (Ra_ [3, 1, 1, 16]) (h := ?_)
     refine pI_ 5 (some 60) (Ra_ [3, 1, 2, 15]) (h := ?_)
     refine pI_ 6 (some 61) (Ra_ [3, 1, 3, 14]) (h := ?_)
     refine pI_ 7 (some 62) (Ra_ [3, 1, 4, 13]) (h := ?_)
     refine pI_ 9 (some 64) (Ra_ [3, 1, 4, 1, 1, 11]) (h := ?_)
     refine pI_ 10 (some 65) (Ra_ [3, 1, 4, 1, 2, 10]) (h := ?_)
     refine pI_ 11 (some 66) (Ra_ [3, 1, 4, 1, 3, 9]) (h := ?_)
     refine pI_ 12 (some 67) (Ra_ [3, 1, 4, 1, 4, 8]) (h := ?_)
     refine pI_ 14 (some 69) (Ra_ [3, 1, 4, 1, 4, 1, 1, 6]) (h := ?_)
     refine pI_ 15 (some 70) (Ra_ [3, 1, 4, 1, 4, 1, 2, 5]) (h := ?_)
     refine pI_ 16 (some 71) (Ra_ [3, 1, 4, 1, 4, 1, 3, 4]) (h := ?_)
     refine pI_ 17 (some 72) (Ra_ [3, 1, 4, 1, 4, 1, 4, 3]) (h := ?_)
     refine tI12_ 3 (some 58) (Ra_ [8, 1, 4, 1, 4, 3]) (h := ?_)
     refine tI12_ 8 (some 63) (Ra_ [13, 1, 4, 3]) (h := ?_)
     refine tI12_ 13 (some 68) (Ra_ [18, 3]) (h := ?_)
     refine tI12_ 18 (some 73) (Ra_ [19, 2]) (h := ?_)
     refine pI_ 19 (some 74) (Ra_ [20, 1]) (h := ?_)
     refine pI_ 20 (some 75) (Ra_ [21]) (h := ?_)
     refine done_ (done_of HT_.out (by kernel_rfl)) ?_
     try go_wp2
     replace HO_5 := Aside0.mk (Kd.R_drew HO_5.out)
     replace HO_6 := Aside0.mk (Kd.R_drew HO_6.out)
     replace HO_7 := Aside0.mk (Kd.R_drew HO_7.out)
     replace HB := Aside0.mk (below_drew1 HB.out)
     have p331 : 0 ≤ (x8_3 : Int) := of_decide_eq_true m12_
     have q331 : x8_3 < (t318.length : Int) := of_decide_eq_true m12_
     obtain ⟨ad331, e331, hx331_0, hx331_1, hx331_2⟩ := at_T66 (Kd.R_reads' HO_5.out).2.2 x8_3 p331 q331
     obtain rfl : ad327 = ad331 := (by injection e331)
     replace p331 := eq_true p331
     replace q331 := eq_true q331
     have p332 : 0 ≤ (x8_3 : Int) := of_decide_eq_true m12_
     have q332 : x8_3 < (t318.length : Int) := of_decide_eq_true m12_
     obtain ⟨ad332, e332, hx332_0, hx332_1, hx332_2⟩ := at_T66 (Kd.R_reads' HO_5.out).2.2 x8_3 p332 q332
     obtain rfl : ad327 = ad332 := (by injection e332)
     replace p332 := eq_true p332
     replace q332 := eq_true q332
     have p333 : 0 ≤ (x8_3 : Int) := of_decide_eq_true m12_
     have q333 : x8_3 < (t318.length : Int) := of_decide_eq_true m12_
     obtain ⟨ad333, e333, hx333_0, hx333_1, hx333_2⟩ := at_T66 (Kd.R_reads' HO_5.out).2.2 x8_3 p333 q333
     obtain rfl : ad327 = ad333 := (by injection e333)
     replace p333 := eq_true p333
     replace q333 := eq_true q333
     refine start_ (n := 20) (S := fun w' => w'.cell? (ad327.add ((x8_3).toNat * 3)) = some (.string ((rd_T66 t318 x8_3).f0)) ∧ w'.cell? ⟨(ad327.add ((x8_3).toNat * 3)).block, (ad327.add ((x8_3).toNat * 3)).off + 1, none⟩ = some (.string ((rd_T66 t318 x8_3).f1)) ∧ w'.cell? ⟨(ad327.add ((x8_3).toNat * 3)).block, (ad327.add ((x8_3).toNat * 3)).off + 2, none⟩ = some (.string ((rd_T66 t318 x8_3).f2)) ∧ w'.cell? (ad327.add ((x8_3).toNat * 3)) = some (.string ((rd_T66 t318 x8_3).f0)) ∧ w'.cell? ⟨(ad327.add ((x8_3).toNat * 3)).block, (ad327.add ((x8_3).toNat * 3)).off + 1, none⟩ = some (.string ((rd_T66 t318 x8_3).f1)) ∧ w'.cell? ⟨(ad327.add ((x8_3).toNat * 3)).block, (ad327.add ((x8_3).toNat * 3)).off + 2, none⟩ = some (.string ((rd_T66 t318 x8_3).f2)) ∧ w'.cell? (ad327.add ((x8_3).toNat * 3)) = some (.string ((rd_T66 t318 x8_3).f0)) ∧ w'.cell? ⟨(ad327.add ((x8_3).toNat * 3)).block, (ad327.add ((x8_3).toNat * 3)).off + 1, none⟩ = some (.string ((rd_T66 t318 x8_3).f1)) ∧ w'.cell? ⟨(ad327.add ((x8_3).toNat * 3)).block, (ad327.add ((x8_3).toNat * 3)).off + 2, none⟩ = some (.string ((rd_T66 t318 x8_3).f2))) (ds := [17, 18]) (Ra_ [0, 20]) (by kernel_rfl) rfl rfl ⟨hx331_0, hx331_1, hx331_2, hx332_0, hx332_1, hx332_2, hx333_0, hx333_1, hx333_2⟩ (fun hHeld => ?_); refine with_tabW strongroomlaw20_MerkleDiffs.tab15 strongroomlaw20_MerkleDiffs.bits15 (fun HT_ HW_ => ?_)
     generalize w42.drew = w43 at HO_5 HO_6 HO_7 HB hx331_0 hx331_1 hx331_2 hx332_0 hx332_1 hx332_2 hx333_0 hx333_1 hx333_2 hHeld ⊢
     refine pI_ 0 (some 76) (Ra_ [1, 19]) (h := ?_)
     refine pI_ 1 (some 77) (Ra_ [2, 18]) (h := ?_)
     refine pI_ 2 (some 78) (Ra_ [3, 17]) (h := ?_)
     refine pI_ 3 (some 79) (Ra_ [4, 16]) (h := ?_)
     refine pI_ 4 (some 80) (Ra_ [5, 15]) (h := ?_)
     refine pI_ 6 (some 82) (Ra_ [5, 1, 1, 13]) (h := ?_)
     refine pI_ 7 (some 83) (Ra_ [5, 1, 2, 12]) (h := ?_)
     refine pI_ 8 (some 84) (Ra_ [5, 1, 3, 11]) (h := ?_)
     refine pI_ 9 (some 85) (Ra_ [5, 1, 4, 10]) (h := ?_)
     refine pI_ 11 (some 87) (Ra_ [5, 1, 4, 1, 1, 8]) (h := ?_)
     refine pI_ 12 (some 88) (Ra_ [5, 1, 4, 1, 2, 7]) (h := ?_)
     refine pI_ 13 (some 89) (Ra_ [5, 1, 4, 1, 3, 6]) (h := ?_)
     refine pI_ 14 (some 90) (Ra_ [5, 1, 4, 1, 4, 5]) (h := ?_)
     refine tI9_ 5 (some 81) (Ra_ [10, 1, 4, 5]) (h := ?_)
     refine tI9_ 10 (some 86) (Ra_ [15, 5]) (h := ?_)
     refine tI9_ 15 (some 91) (Ra_ [16, 4]) (h := ?_)
     refine pI_ 16 (some 92) (Ra_ [17, 3]) (h := ?_)
     refine last_ (i := 17) (N := some 93) (Ra_ [18, 2]) rfl rfl (one_of HT_.out (by kernel_rfl)) (by decide) (fun K hK => ?_)
     refine value_ (w1 := ?_) (v := ?_) (by rfl) rfl ?_ ?_
     rotate_left 2
     ·go_simp
      constructor
      ·rfl
      rfl
     refine hK.out _ _ ?_
     clear hK K
     refine norm_ (a' := ?_) ?_ ?_
     rotate_left
     ·show Act.put _ (some 93) _ = _
      simp only [Act.put, sA_, sB_, sC_, i64_w, i32_w]
      rfl
     refine last_ (i := 18) (N := some 94) (Ra_ [19, 1]) rfl rfl (one_of HT_.out (by kernel_rfl)) (by decide) (fun K hK => ?_)
     refine Kd.R_append_step k66 (w0 := w) w.heap.size (by rfl) (.tmp 76) (.tmp 93) 61 66 (.agg #[(.string ⟨#[]⟩), (.string ⟨#[]⟩), (.string ⟨#[]⟩)]) 48 rfl Tryd.underlying61 info66 rfl (by decide) (by omega) u7 x7_3 (⟨(rd_T66 t318 x8_3).f0, (rd_T66 t318 x8_3).f2, (rd_T66 t318 x8_3).f1⟩ : S66) [.string ((rd_T66 t318 x8_3).f0), .string ((rd_T66 t318 x8_3).f2), .string ((rd_T66 t318 x8_3).f1)] (fun k_ => some k_ ≠ (.slice (some ad327) t318.length co34 : Value).ownBlock) (fun _ => False) rfl rfl ?aP (fun _ hk => hk.elim) ?aF ?aO ?aB ?aS ?aL ?_
     (case aP => exact k66_mkM _ _ _ (⟨(rd_T66 t318 x8_3).f0, (rd_T66 t318 x8_3).f2, (rd_T66 t318 x8_3).f1⟩ : S66))
     (case aB => exact m1_)
     (case aF => exact (fun k_ hk => Kd.fresh' (Kd.R_lt m9_) k_ hk))
     (case aO => exact m10_)
     (case aS => exact (below_size m1_))
     (case aL => have := LMc41.out; omega)
     intro v335 w44 ho hb hg hat
     rw [← Ny334.out] at ho
     have n0_ := Aside0.mk (Kd.R_after (ok := (fun _ => True)) (by (with_reducible repeat (first | apply Kd.R_alloc | apply Kd.R_drewN | apply Kd.R_drew)); exact Kd.R_mono HO_5.out (fun _ hk => ⟨trivial, hk⟩)) hg hat)
     have n1_ := Aside0.mk (Kd.R_over' m11_ (Kd.R_typed m10_) (by decide) hg)
     have n2_ := Aside0.mk (hb)
     have n3_ := Aside0.mk (ho)
     clear HO_5 HO_6 HB HO_7
     have HO_5 := n0_
     have HO_6 := n1_
     have HB := n2_
     have HO336 := n3_
     clear n0_ n1_ n2_ n3_ ho hb hg hat
     refine hK.out _ _ ?_
     clear hK K
     refine norm_ (a' := ?_) ?_ ?_
     rotate_left
     ·show Act.put _ (some 94) _ = _
      simp only [Act.put, sA_, sB_, sC_, i64_w, i32_w]
      rfl
     refine pI_ 19 (some 7) (Ra_ [20]) (h := ?_)
     refine done_ (done_of HT_.out (by kernel_rfl)) ?_
     try go_wp2
     go_roundg k3
     case measure => have := HJ2.out; have := HJ12.out; have := HK3.out; omega
     case rel => exact ⟨(y334), (wrap64 (x8_3 + 1)), (by first | rfl | (simp; done) | (simp [*]; done)), H', ⟨by have := HJ2.out; have := HJ12.out; have := HK3.out; omega⟩, ⟨by (with_reducible repeat (first | apply Kd.R_alloc | apply Kd.R_drewN | apply Kd.R_drew)); exact Kd.R_mono HO_5.out (fun _ hk => hk.2)⟩, ⟨by (with_reducible repeat (first | apply Kd.R_alloc | apply Kd.R_drewN | apply Kd.R_drew)); exact HO_6.out⟩, ⟨by (with_reducible repeat (first | apply Kd.R_alloc | apply Kd.R_drewN | apply Kd.R_drew)); exact HO336.out⟩, ⟨m15_⟩⟩
    rw [if_neg c36] at H
    have c36b0 : decide (x8_3 < (t318.length : Int)) = false := decide_eq_false c36
    clear c36
    replace H := Option.bind_eq_some_iff.mp H
    obtain ⟨t337, A450, H⟩ := H
    replace H : ((merkle_Apply.f k3 t337 t318).bind fun bt340 => ((merkle_Apply.f k3 bt340.1 x7_3).bind fun bt344 => (if bt340.2 = 0 then (if bt344.2 = 0 then ((strongroomlaw20_theirs.f k3 bt340.1).bind fun t348 => ((strongroomref20_Same.f k3 t348 l1).bind fun t351 => (if t351 = true then ((strongroomlaw20_theirs.f k3 bt344.1).bind fun t352 => ((strongroomref20_Same.f k3 t352 l0).bind fun t355 => (if t355 = true then ((strongroomlaw20_mine.f k3 l0).bind fun t356 => ((merkle_Digest.f k3 t356).bind fun t359 => ((strongroomlaw20_mine.f k3 l1).bind fun t360 => ((merkle_Digest.f k3 t360).bind fun t363 => (if t359.toList = t363.toList then ((strongroomref20_Same.f k3 l0 l1).bind fun t364 => (if (((t318.length : Int) == 0) == t364) = true then ((strongroomlaw20_lives.f k3).bind fun t365 => (some t365)) else (some false))) else (if (((t318.length : Int) == 0) == false) = true then ((strongroomlaw20_lives.f k3).bind fun t366 => (some t366)) else (some false))))))) else (some false)))) else (some false)))) else (some false)) else (some false)))) = some r := H
    have A45 := Aside0.mk A450
    clear A450
    replace H := Option.bind_eq_some_iff.mp H
    obtain ⟨⟨t340, t343⟩, A460, H⟩ := H
    replace H : ((merkle_Apply.f k3 t340 x7_3).bind fun bt344 => (if t343 = 0 then (if bt344.2 = 0 then ((strongroomlaw20_theirs.f k3 t340).bind fun t348 => ((strongroomref20_Same.f k3 t348 l1).bind fun t351 => (if t351 = true then ((strongroomlaw20_theirs.f k3 bt344.1).bind fun t352 => ((strongroomref20_Same.f k3 t352 l0).bind fun t355 => (if t355 = true then ((strongroomlaw20_mine.f k3 l0).bind fun t356 => ((merkle_Digest.f k3 t356).bind fun t359 => ((strongroomlaw20_mine.f k3 l1).bind fun t360 => ((merkle_Digest.f k3 t360).bind fun t363 => (if t359.toList = t363.toList then ((strongroomref20_Same.f k3 l0 l1).bind fun t364 => (if (((t318.length : Int) == 0) == t364) = true then ((strongroomlaw20_lives.f k3).bind fun t365 => (some t365)) else (some false))) else (if (((t318.length : Int) == 0) == false) = true then ((strongroomlaw20_lives.f k3).bind fun t366 => (some t366)) else (some false))))))) else (some false)))) else (some false)))) else (some false)) else (some false))) = some r := H
    have A46 := Aside0.mk A460
    clear A460
    replace H := Option.bind_eq_some_iff.mp H
    obtain ⟨⟨t344, t347⟩, A470, H⟩ := H
    replace H : (if t343 = 0 then (if t347 = 0 then ((strongroomlaw20_theirs.f k3 t340).bind fun t348 => ((strongroomref20_Same.f k3 t348 l1).bind fun t351 => (if t351 = true then ((strongroomlaw20_theirs.f k3 t344).bind fun t352 => ((strongroomref20_Same.f k3 t352 l0).bind fun t355 => (if t355 = true then ((strongroomlaw20_mine.f k3 l0).bind fun t356 => ((merkle_Digest.f k3 t356).bind fun t359 => ((strongroomlaw20_mine.f k3 l1).bind fun t360 => ((merkle_Digest.f k3 t360).bind fun t363 => (if t359.toList = t363.toList then ((strongroomref20_Same.f k3 l0 l1).bind fun t364 => (if (((t318.length : Int) == 0) == t364) = true then ((strongroomlaw20_lives.f k3).bind fun t365 => (some t365)) else (some false))) else (if (((t318.length : Int) == 0) == false) = true then ((strongroomlaw20_lives.f k3).bind fun t366 => (some t366)) else (some false))))))) else (some false)))) else (some false)))) else (some false)) else (some false)) = some r := H
    have A47 := Aside0.mk A470
    clear A470
    by_cases c48 : t343 = 0
    case neg =>
     rw [if_neg c48] at H
     have c48b0 : (t343 == 0) = false := beq_eq_false_iff_ne.mpr c48
     have c48b1 : (t343 != 0) = true := bne_iff_ne.mpr c48
     exact absurd ((Option.some.inj H).trans hr_) (by decide)
    rw [if_pos c48] at H
    have c48b0 : (t343 == 0) = true := beq_iff_eq.mpr c48
    have c48b1 : (t343 != 0) = false := bne_eq_false_iff_eq.mpr c48
    clear c48
    by_cases c49 : t347 = 0
    case neg =>
     rw [if_neg c49] at H
     have c49b0 : (t347 == 0) = false := beq_eq_false_iff_ne.mpr c49
     have c49b1 : (t347 != 0) = true := bne_iff_ne.mpr c49
     exact absurd ((Option.some.inj H).trans hr_) (by decide)
    rw [if_pos c49] at H
    have c49b0 : (t347 == 0) = true := beq_iff_eq.mpr c49
    have c49b1 : (t347 != 0) = false := bne_eq_false_iff_eq.mpr c49
    clear c49
    replace H := Option.bind_eq_some_iff.mp H
    obtain ⟨t348, A500, H⟩ := H
    replace H : ((strongroomref20_Same.f k3 t348 l1).bind fun t351 => (if t351 = true then ((strongroomlaw20_theirs.f k3 t344).bind fun t352 => ((strongroomref20_Same.f k3 t352 l0).bind fun t355 => (if t355 = true then ((strongroomlaw20_mine.f k3 l0).bind fun t356 => ((merkle_Digest.f k3 t356).bind fun t359 => ((strongroomlaw20_mine.f k3 l1).bind fun t360 => ((merkle_Digest.f k3 t360).bind fun t363 => (if t359.toList = t363.toList then ((strongroomref20_Same.f k3 l0 l1).bind fun t364 => (if (((t318.length : Int) == 0) == t364) = true then ((strongroomlaw20_lives.f k3).bind fun t365 => (some t365)) else (some false))) else (if (((t318.length : Int) == 0) == false) = true then ((strongroomlaw20_lives.f k3).bind fun t366 => (some t366)) else (some false))))))) else (some false)))) else (some false))) = some r := H
    have A50 := Aside0.mk A500
    clear A500
    replace H := Option.bind_eq_some_iff.mp H
    obtain ⟨t351, A510, H⟩ := H
    replace H : (if t351 = true then ((strongroomlaw20_theirs.f k3 t344).bind fun t352 => ((strongroomref20_Same.f k3 t352 l0).bind fun t355 => (if t355 = true then ((strongroomlaw20_mine.f k3 l0).bind fun t356 => ((merkle_Digest.f k3 t356).bind fun t359 => ((strongroomlaw20_mine.f k3 l1).bind fun t360 => ((merkle_Digest.f k3 t360).bind fun t363 => (if t359.toList = t363.toList then ((strongroomref20_Same.f k3 l0 l1).bind fun t364 => (if (((t318.length : Int) == 0) == t364) = true then ((strongroomlaw20_lives.f k3).bind fun t365 => (some t365)) else (some false))) else (if (((t318.length : Int) == 0) == false) = true then ((strongroomlaw20_lives.f k3).bind fun t366 => (some t366)) else (some false))))))) else (some false)))) else (some false)) = some r := H
    have A51 := Aside0.mk A510
    clear A510
    by_cases c52 : t351 = true
    case neg =>
     replace c52 := Bool.eq_false_iff.mpr c52
     subst c52
     have H1 : (some false) = some r := by rw [if_neg (show ¬ (false = true) by decide)] at H; exact H
     clear H
     have H := H1
     clear H1
     exact absurd ((Option.some.inj H).trans hr_) (by decide)
    subst c52
    have H1 : ((strongroomlaw20_theirs.f k3 t344).bind fun t352 => ((strongroomref20_Same.f k3 t352 l0).bind fun t355 => (if t355 = true then ((strongroomlaw20_mine.f k3 l0).bind fun t356 => ((merkle_Digest.f k3 t356).bind fun t359 => ((strongroomlaw20_mine.f k3 l1).bind fun t360 => ((merkle_Digest.f k3 t360).bind fun t363 => (if t359.toList = t363.toList then ((strongroomref20_Same.f k3 l0 l1).bind fun t364 => (if (((t318.length : Int) == 0) == t364) = true then ((strongroomlaw20_lives.f k3).bind fun t365 => (some t365)) else (some false))) else (if (((t318.length : Int) == 0) == false) = true then ((strongroomlaw20_lives.f k3).bind fun t366 => (some t366)) else (some false))))))) else (some false)))) = some r := by rw [if_pos rfl] at H; exact H
    clear H
    have H := H1
    clear H1
    replace H := Option.bind_eq_some_iff.mp H
    obtain ⟨t352, A530, H⟩ := H
    replace H : ((strongroomref20_Same.f k3 t352 l0).bind fun t355 => (if t355 = true then ((strongroomlaw20_mine.f k3 l0).bind fun t356 => ((merkle_Digest.f k3 t356).bind fun t359 => ((strongroomlaw20_mine.f k3 l1).bind fun t360 => ((merkle_Digest.f k3 t360).bind fun t363 => (if t359.toList = t363.toList then ((strongroomref20_Same.f k3 l0 l1).bind fun t364 => (if (((t318.length : Int) == 0) == t364) = true then ((strongroomlaw20_lives.f k3).bind fun t365 => (some t365)) else (some false))) else (if (((t318.length : Int) == 0) == false) = true then ((strongroomlaw20_lives.f k3).bind fun t366 => (some t366)) else (some false))))))) else (some false))) = some r := H
    have A53 := Aside0.mk A530
    clear A530
    replace H := Option.bind_eq_some_iff.mp H
    obtain ⟨t355, A540, H⟩ := H
    replace H : (if t355 = true then ((strongroomlaw20_mine.f k3 l0).bind fun t356 => ((merkle_Digest.f k3 t356).bind fun t359 => ((strongroomlaw20_mine.f k3 l1).bind fun t360 => ((merkle_Digest.f k3 t360).bind fun t363 => (if t359.toList = t363.toList then ((strongroomref20_Same.f k3 l0 l1).bind fun t364 => (if (((t318.length : Int) == 0) == t364) = true then ((strongroomlaw20_lives.f k3).bind fun t365 => (some t365)) else (some false))) else (if (((t318.length : Int) == 0) == false) = true then ((strongroomlaw20_lives.f k3).bind fun t366 => (some t366)) else (some false))))))) else (some false)) = some r := H
    have A54 := Aside0.mk A540
    clear A540
    by_cases c55 : t355 = true
    case neg =>
     replace c55 := Bool.eq_false_iff.mpr c55
     subst c55
     have H1 : (some false) = some r := by rw [if_neg (show ¬ (false = true) by decide)] at H; exact H
     clear H
     have H := H1
     clear H1
     exact absurd ((Option.some.inj H).trans hr_) (by decide)
    subst c55
    have H1 : ((strongroomlaw20_mine.f k3 l0).bind fun t356 => ((merkle_Digest.f k3 t356).bind fun t359 => ((strongroomlaw20_mine.f k3 l1).bind fun t360 => ((merkle_Digest.f k3 t360).bind fun t363 => (if t359.toList = t363.toList then ((strongroomref20_Same.f k3 l0 l1).bind fun t364 => (if (((t318.length : Int) == 0) == t364) = true then ((strongroomlaw20_lives.f k3).bind fun t365 => (some t365)) else (some false))) else (if (((t318.length : Int) == 0) == false) = true then ((strongroomlaw20_lives.f k3).bind fun t366 => (some t366)) else (some false))))))) = some r := by rw [if_pos rfl] at H; exact H
    clear H
    have H := H1
    clear H1
    replace H := Option.bind_eq_some_iff.mp H
    obtain ⟨t356, A560, H⟩ := H
    replace H : ((merkle_Digest.f k3 t356).bind fun t359 => ((strongroomlaw20_mine.f k3 l1).bind fun t360 => ((merkle_Digest.f k3 t360).bind fun t363 => (if t359.toList = t363.toList then ((strongroomref20_Same.f k3 l0 l1).bind fun t364 => (if (((t318.length : Int) == 0) == t364) = true then ((strongroomlaw20_lives.f k3).bind fun t365 => (some t365)) else (some false))) else (if (((t318.length : Int) == 0) == false) = true then ((strongroomlaw20_lives.f k3).bind fun t366 => (some t366)) else (some false)))))) = some r := H
    have A56 := Aside0.mk A560
    clear A560
    replace H := Option.bind_eq_some_iff.mp H
    obtain ⟨t359, A570, H⟩ := H
    replace H : ((strongroomlaw20_mine.f k3 l1).bind fun t360 => ((merkle_Digest.f k3 t360).bind fun t363 => (if t359.toList = t363.toList then ((strongroomref20_Same.f k3 l0 l1).bind fun t364 => (if (((t318.length : Int) == 0) == t364) = true then ((strongroomlaw20_lives.f k3).bind fun t365 => (some t365)) else (some false))) else (if (((t318.length : Int) == 0) == false) = true then ((strongroomlaw20_lives.f k3).bind fun t366 => (some t366)) else (some false))))) = some r := H
    have A57 := Aside0.mk A570
    clear A570
    replace H := Option.bind_eq_some_iff.mp H
    obtain ⟨t360, A580, H⟩ := H
    replace H : ((merkle_Digest.f k3 t360).bind fun t363 => (if t359.toList = t363.toList then ((strongroomref20_Same.f k3 l0 l1).bind fun t364 => (if (((t318.length : Int) == 0) == t364) = true then ((strongroomlaw20_lives.f k3).bind fun t365 => (some t365)) else (some false))) else (if (((t318.length : Int) == 0) == false) = true then ((strongroomlaw20_lives.f k3).bind fun t366 => (some t366)) else (some false)))) = some r := H
    have A58 := Aside0.mk A580
    clear A580
    replace H := Option.bind_eq_some_iff.mp H
    obtain ⟨t363, A590, H⟩ := H
    replace H : (if t359.toList = t363.toList then ((strongroomref20_Same.f k3 l0 l1).bind fun t364 => (if (((t318.length : Int) == 0) == t364) = true then ((strongroomlaw20_lives.f k3).bind fun t365 => (some t365)) else (some false))) else (if (((t318.length : Int) == 0) == false) = true then ((strongroomlaw20_lives.f k3).bind fun t366 => (some t366)) else (some false))) = some r := H
    have A59 := Aside0.mk A590
    clear A590
    by_cases c60 : t359.toList = t363.toList
    case neg =>
     rw [if_neg c60] at H
     have c60b0 : (t359.toList == t363.toList) = false := beq_eq_false_iff_ne.mpr c60
     have c60b1 : (t359.toList != t363.toList) = true := bne_iff_ne.mpr c60
     by_cases c99 : (((t318.length : Int) == 0) == false) = true
     case neg =>
      rw [if_neg c99] at H
      have c99b0 : (((t318.length : Int) == 0) == false) = false := by simpa using c99
      (try (have c99b1 : decide (((t318.length : Int) == 0) = false) = false := by simpa using c99))
      (try (have c99b2 : (((t318.length : Int) == 0) == false) = false := by simpa using c99))
      (try (have c99b3 : ¬ (((t318.length : Int) == 0) = false) := by simpa using c99))
      clear c99
      exact absurd ((Option.some.inj H).trans hr_) (by decide)
     rw [if_pos c99] at H
     have c99b0 : (((t318.length : Int) == 0) == false) = true := c99
     (try (have c99b1 : decide (((t318.length : Int) == 0) = false) = true := by simpa using c99))
     (try (have c99b2 : (((t318.length : Int) == 0) == false) = true := by simpa using c99))
     clear c99
     replace H := Option.bind_eq_some_iff.mp H
     obtain ⟨t366, A1000, H⟩ := H
     replace H : (some t366) = some r := H
     have A100 := Aside0.mk A1000
     clear A1000
     obtain rfl := Option.some.inj H
     go_wp2_with (first | ((with_reducible refine gate_callee (f := 14) rfl ?_); refine goesL_ (some 97) rfl rfl Tryd.func14 (by kernel_rfl) rfl #[.slice A0 l0.length c0] rfl m0_ ?_; (with_reducible refine (strongroomlaw20_mine.calls k3 _ _ l0 t337 _ ?side1 ?side2 A45.out).mono ?_); (case side1 => exact m13_); (case side2 => exact HC0.out); rintro e w101 ⟨v338, rfl, ho0, hb⟩; refine ⟨_, rfl, ?_⟩; replace HO_5 := Aside0.mk (Kd.R_below m9_ hb); replace HO_6 := Aside0.mk (Kd.R_below m11_ hb); replace HO_7 := Aside0.mk (Kd.R_below m10_ hb); have HO339 := Aside0.mk (Kd.R_lower ho0 (below_size m1_)); replace HB := Aside0.mk (below_step m1_ hb); (try clear hb); (try clear hb2); (try clear hk); (try clear hi); (try clear ho0); obtain ⟨Ao102, co102, eo102⟩ := Kd.R_slice HO339.out; subst eo102) | ((with_reducible refine gate_callee (f := 32) rfl ?_); refine goesL_ (some 99) rfl rfl Tryd.func32 (by kernel_rfl) rfl #[.slice Ao102 t337.length co102, .slice Ao34 t318.length co34] rfl m0_ ?_; (with_reducible refine (merkle_Apply.calls k3 (fun k_ => some k_ = (.slice Ao102 t337.length co102 : Value).ownBlock) _ _ t337 _ _ t318 t340 t343 _ ?side1 ?side2 ?side3 A46.out).mono ?_); (case side1 => exact Kd.R_V (Kd.R_tight rfl (Kd.R_apart' (Kd.R_apart' (Kd.R_apart' (HO339.out) (Kd.R_typed HO_5.out) (by decide)) (Kd.R_typed HO_6.out) (by decide)) (Kd.R_typed HO_7.out) (by decide)))); (case side2 => repeat (first | exact (Kd.R_reads' HO_5.out).2.2 | (with_reducible refine Kd.C_alloc ?_ _) | (with_reducible refine Kd.C_drewN ?_ _) | (with_reducible refine Kd.C_drew ?_))); (case side3 => exact (Kd.R_reads' HO_5.out).2.1); rintro e w103 ⟨v341, rfl, ho0, hb⟩; refine ⟨_, rfl, ?_⟩; have n0_ := Aside0.mk (Kd.R_below m9_ hb); have n1_ := Aside0.mk (Kd.R_below m11_ hb); have n2_ := Aside0.mk (Kd.R_below m10_ hb); have n3_ := Aside0.mk (Kd.R_elder' m2_ (Kd.R_base ho0) hb); have n4_ := Aside0.mk (Kd.R_lower (Kd.R_new' (Kd.R_mono (ok' := fun k_ => True) ho0 (fun _ hk_ => trivial)) (Kd.R_lt m2_)) (below_size m1_)); have n5_ := Aside0.mk (below_step m1_ hb); clear HO_5; clear HO_6; clear HO_7; clear HO339; clear HB; have HO_5 := n0_; have HO_6 := n1_; have HO_7 := n2_; have HO339 := n3_; have HO342 := n4_; have HB := n5_; clear n0_ n1_ n2_ n3_ n4_ n5_; (try clear hb); (try clear hb2); (try clear hk); (try clear hi); (try clear ho0); obtain ⟨Ao104, co104, eo104⟩ := Kd.R_slice HO342.out; subst eo104; obtain ⟨Ao105, co105, eo105⟩ := Kd.R_slice HO_7.out; subst eo105) | ((with_reducible refine gate_callee (f := 32) rfl ?_); refine goesL_ (some 105) rfl rfl Tryd.func32 (by kernel_rfl) rfl #[.slice Ao104 t340.length co104, .slice Ao105 x7_3.length co105] rfl m0_ ?_; (with_reducible refine (merkle_Apply.calls k3 (fun k_ => some k_ = (.slice Ao104 t340.length co104 : Value).ownBlock) _ _ t340 _ _ x7_3 t344 t347 _ ?side1 ?side2 ?side3 A47.out).mono ?_); (case side1 => exact Kd.R_V (Kd.R_tight rfl (Kd.R_apart' (Kd.R_apart' (Kd.R_apart' (HO342.out) (Kd.R_typed HO_5.out) (by decide)) (Kd.R_typed HO_6.out) (by decide)) (Kd.R_typed HO_7.out) (by decide)))); (case side2 => repeat (first | exact (Kd.R_reads' HO_7.out).2.2 | (with_reducible refine Kd.C_alloc ?_ _) | (with_reducible refine Kd.C_drewN ?_ _) | (with_reducible refine Kd.C_drew ?_))); (case side3 => exact (Kd.R_reads' HO_7.out).2.1); rintro e w106 ⟨v345, rfl, ho0, hb⟩; refine ⟨_, rfl, ?_⟩; have n0_ := Aside0.mk (Kd.R_below m9_ hb); have n1_ := Aside0.mk (Kd.R_below m11_ hb); have n2_ := Aside0.mk (Kd.R_below m10_ hb); have n3_ := Aside0.mk (Kd.R_elder' m2_ (Kd.R_base ho0) hb); have n4_ := Aside0.mk (Kd.R_elder' m3_ (Kd.R_base ho0) hb); have n5_ := Aside0.mk (Kd.R_lower (Kd.R_new' (Kd.R_new' (Kd.R_mono (ok' := fun k_ => True) ho0 (fun _ hk_ => trivial)) (Kd.R_lt m2_)) (Kd.R_lt m3_)) (below_size m1_)); have n6_ := Aside0.mk (below_step m1_ hb); clear HO_5; clear HO_6; clear HO_7; clear HO339; clear HO342; clear HB; have HO_5 := n0_; have HO_6 := n1_; have HO_7 := n2_; have HO339 := n3_; have HO342 := n4_; have HO346 := n5_; have HB := n6_; clear n0_ n1_ n2_ n3_ n4_ n5_ n6_; (try clear hb); (try clear hb2); (try clear hk); (try clear hi); (try clear ho0)) | (go_at_call 34; (with_reducible refine (strongroomlaw20_theirs.calls k3 _ _ t340 t348 _ ?side1 ?side2 A50.out).mono ?_); (case side1 => repeat (first | exact (Kd.R_reads' HO342.out).2.2 | (with_reducible refine Kd.C_alloc ?_ _) | (with_reducible refine Kd.C_drewN ?_ _) | (with_reducible refine Kd.C_drew ?_))); (case side2 => exact (Kd.R_reads' HO342.out).2.1); rintro e w107 ⟨v349, rfl, ho0, hb⟩; replace HO_5 := Aside0.mk (Kd.R_below m9_ hb); replace HO_6 := Aside0.mk (Kd.R_below m11_ hb); replace HO_7 := Aside0.mk (Kd.R_below m10_ hb); replace HO339 := Aside0.mk (Kd.R_below m2_ hb); replace HO342 := Aside0.mk (Kd.R_below m3_ hb); replace HO346 := Aside0.mk (Kd.R_below m4_ hb); have HO350 := Aside0.mk (Kd.R_lower ho0 (below_size m1_)); replace HB := Aside0.mk (below_step m1_ hb); (try clear hb); (try clear hb2); (try clear hk); (try clear hi); (try clear ho0); obtain ⟨Ao108, co108, eo108⟩ := Kd.R_slice HO350.out; subst eo108) | (go_at_call 33; (with_reducible refine (strongroomref20_Same.calls k3 _ _ t348 _ _ l1 true _ ?side1 ?side2 ?side3 ?side4 A51.out).mono ?_); (case side1 => repeat (first | exact (Kd.R_reads' HO350.out).2.2 | (with_reducible refine Kd.C_alloc ?_ _) | (with_reducible refine Kd.C_drewN ?_ _) | (with_reducible refine Kd.C_drew ?_))); (case side2 => exact (Kd.R_reads' HO350.out).2.1); (case side3 => exact m14_); (case side4 => exact HC1.out); rintro e w' ⟨rfl, ⟨nd, rfl⟩⟩; obtain ⟨Ao109, co109, eo109⟩ := Kd.R_slice HO346.out; subst eo109) | (go_at_call 34; (with_reducible refine (strongroomlaw20_theirs.calls k3 _ _ t344 t352 _ ?side1 ?side2 A53.out).mono ?_); (case side1 => repeat (first | exact (Kd.R_reads' HO346.out).2.2 | (with_reducible refine Kd.C_alloc ?_ _) | (with_reducible refine Kd.C_drewN ?_ _) | (with_reducible refine Kd.C_drew ?_))); (case side2 => exact (Kd.R_reads' HO346.out).2.1); rintro e w110 ⟨v353, rfl, ho0, hb⟩; have n0_ := Aside0.mk (Kd.R_below m9_ hb); have n1_ := Aside0.mk (Kd.R_below m11_ hb); have n2_ := Aside0.mk (Kd.R_below m10_ hb); have n3_ := Aside0.mk (Kd.R_below m2_ hb); have n4_ := Aside0.mk (Kd.R_below m3_ hb); have n5_ := Aside0.mk (Kd.R_below m4_ hb); have n6_ := Aside0.mk (Kd.R_elder' m5_ (Kd.R_base ho0) hb); have n7_ := Aside0.mk (Kd.R_lower (Kd.R_new' ho0 (Kd.R_lt m5_)) (below_size m1_)); have n8_ := Aside0.mk (below_step m1_ hb); clear HO_5; clear HO_6; clear HO_7; clear HO339; clear HO342; clear HO346; clear HO350; clear HB; have HO_5 := n0_; have HO_6 := n1_; have HO_7 := n2_; have HO339 := n3_; have HO342 := n4_; have HO346 := n5_; have HO350 := n6_; have HO354 := n7_; have HB := n8_; clear n0_ n1_ n2_ n3_ n4_ n5_ n6_ n7_ n8_; (try clear hb); (try clear hb2); (try clear hk); (try clear hi); (try clear ho0); obtain ⟨Ao111, co111, eo111⟩ := Kd.R_slice HO354.out; subst eo111) | (go_at_call 33; (with_reducible refine (strongroomref20_Same.calls k3 _ _ t352 _ _ l0 true _ ?side1 ?side2 ?side3 ?side4 A54.out).mono ?_); (case side1 => repeat (first | exact (Kd.R_reads' HO354.out).2.2 | (with_reducible refine Kd.C_alloc ?_ _) | (with_reducible refine Kd.C_drewN ?_ _) | (with_reducible refine Kd.C_drew ?_))); (case side2 => exact (Kd.R_reads' HO354.out).2.1); (case side3 => exact m13_); (case side4 => exact HC0.out); rintro e w' ⟨rfl, ⟨nd, rfl⟩⟩) | (go_at_call 14; (with_reducible refine (strongroomlaw20_mine.calls k3 _ _ l0 t356 _ ?side1 ?side2 A56.out).mono ?_); (case side1 => repeat (first | exact (Kd.C_below HR0.out m1_) | (with_reducible refine Kd.C_alloc ?_ _) | (with_reducible refine Kd.C_drewN ?_ _) | (with_reducible refine Kd.C_drew ?_))); (case side2 => exact HC0.out); rintro e w112 ⟨v357, rfl, ho0, hb⟩; have n0_ := Aside0.mk (Kd.R_below m9_ hb); have n1_ := Aside0.mk (Kd.R_below m11_ hb); have n2_ := Aside0.mk (Kd.R_below m10_ hb); have n3_ := Aside0.mk (Kd.R_elder' m2_ (Kd.R_base ho0) hb); have n4_ := Aside0.mk (Kd.R_elder' m3_ (Kd.R_base ho0) hb); have n5_ := Aside0.mk (Kd.R_elder' m4_ (Kd.R_base ho0) hb); have n6_ := Aside0.mk (Kd.R_below m5_ hb); have n7_ := Aside0.mk (Kd.R_below m7_ hb); have n8_ := Aside0.mk (Kd.R_lower (Kd.R_new' (Kd.R_new' (Kd.R_new' ho0 (Kd.R_lt m2_)) (Kd.R_lt m3_)) (Kd.R_lt m4_)) (below_size m1_)); have n9_ := Aside0.mk (below_step m1_ hb); clear HO_5; clear HO_6; clear HO_7; clear HO339; clear HO342; clear HO346; clear HO350; clear HO354; clear HB; have HO_5 := n0_; have HO_6 := n1_; have HO_7 := n2_; have HO339 := n3_; have HO342 := n4_; have HO346 := n5_; have HO350 := n6_; have HO354 := n7_; have HO358 := n8_; have HB := n9_; clear n0_ n1_ n2_ n3_ n4_ n5_ n6_ n7_ n8_ n9_; (try clear hb); (try clear hb2); (try clear hk); (try clear hi); (try clear ho0); obtain ⟨Ao113, co113, eo113⟩ := Kd.R_slice HO358.out; subst eo113) | (go_at_call 13; (with_reducible refine (merkle_Digest.calls k3 _ _ t356 t359 _ ?side1 ?side2 A57.out).mono ?_); (case side1 => repeat (first | exact (Kd.R_reads' HO358.out).2.2 | (with_reducible refine Kd.C_alloc ?_ _) | (with_reducible refine Kd.C_drewN ?_ _) | (with_reducible refine Kd.C_drew ?_))); (case side2 => exact (Kd.R_reads' HO358.out).2.1); rintro e w114 ⟨rfl, hb⟩; replace HO_5 := Aside0.mk (Kd.R_below m9_ hb); replace HO_6 := Aside0.mk (Kd.R_below m11_ hb); replace HO_7 := Aside0.mk (Kd.R_below m10_ hb); replace HO339 := Aside0.mk (Kd.R_below m2_ hb); replace HO342 := Aside0.mk (Kd.R_below m3_ hb); replace HO346 := Aside0.mk (Kd.R_below m4_ hb); replace HO350 := Aside0.mk (Kd.R_below m5_ hb); replace HO354 := Aside0.mk (Kd.R_below m7_ hb); replace HO358 := Aside0.mk (Kd.R_below m6_ hb); replace HB := Aside0.mk (below_step m1_ hb); (try clear hb); (try clear hb2); (try clear hk); (try clear hi)) | (go_at_call 14; (with_reducible refine (strongroomlaw20_mine.calls k3 _ _ l1 t360 _ ?side1 ?side2 A58.out).mono ?_); (case side1 => exact m14_); (case side2 => exact HC1.out); rintro e w115 ⟨v361, rfl, ho0, hb⟩; have n0_ := Aside0.mk (Kd.R_below m9_ hb); have n1_ := Aside0.mk (Kd.R_below m11_ hb); have n2_ := Aside0.mk (Kd.R_below m10_ hb); have n3_ := Aside0.mk (Kd.R_elder' m2_ (Kd.R_base ho0) hb); have n4_ := Aside0.mk (Kd.R_elder' m3_ (Kd.R_base ho0) hb); have n5_ := Aside0.mk (Kd.R_elder' m4_ (Kd.R_base ho0) hb); have n6_ := Aside0.mk (Kd.R_below m5_ hb); have n7_ := Aside0.mk (Kd.R_below m7_ hb); have n8_ := Aside0.mk (Kd.R_elder' m6_ (Kd.R_base ho0) hb); have n9_ := Aside0.mk (Kd.R_lower (Kd.R_new' (Kd.R_new' (Kd.R_new' (Kd.R_new' ho0 (Kd.R_lt m2_)) (Kd.R_lt m3_)) (Kd.R_lt m4_)) (Kd.R_lt m6_)) (below_size m1_)); have n10_ := Aside0.mk (below_step m1_ hb); clear HO_5; clear HO_6; clear HO_7; clear HO339; clear HO342; clear HO346; clear HO350; clear HO354; clear HO358; clear HB; have HO_5 := n0_; have HO_6 := n1_; have HO_7 := n2_; have HO339 := n3_; have HO342 := n4_; have HO346 := n5_; have HO350 := n6_; have HO354 := n7_; have HO358 := n8_; have HO362 := n9_; have HB := n10_; clear n0_ n1_ n2_ n3_ n4_ n5_ n6_ n7_ n8_ n9_ n10_; (try clear hb); (try clear hb2); (try clear hk); (try clear hi); (try clear ho0); obtain ⟨Ao116, co116, eo116⟩ := Kd.R_slice HO362.out; subst eo116) | (go_at_call 13; (with_reducible refine (merkle_Digest.calls k3 _ _ t360 t363 _ ?side1 ?side2 A59.out).mono ?_); (case side1 => repeat (first | exact (Kd.R_reads' HO362.out).2.2 | (with_reducible refine Kd.C_alloc ?_ _) | (with_reducible refine Kd.C_drewN ?_ _) | (with_reducible refine Kd.C_drew ?_))); (case side2 => exact (Kd.R_reads' HO362.out).2.1); rintro e w117 ⟨rfl, hb⟩; have n0_ := Aside0.mk (Kd.R_below m9_ hb); have n1_ := Aside0.mk (Kd.R_below m11_ hb); have n2_ := Aside0.mk (Kd.R_below m10_ hb); have n3_ := Aside0.mk (Kd.R_below m2_ hb); have n4_ := Aside0.mk (Kd.R_below m3_ hb); have n5_ := Aside0.mk (Kd.R_below m4_ hb); have n6_ := Aside0.mk (Kd.R_below m5_ hb); have n7_ := Aside0.mk (Kd.R_below m7_ hb); have n8_ := Aside0.mk (Kd.R_below m6_ hb); have n9_ := Aside0.mk (Kd.R_below (by (with_reducible repeat (first | apply Kd.R_alloc | apply Kd.R_drewN | apply Kd.R_drew)); exact HO362.out) hb); have n10_ := Aside0.mk (below_step m1_ hb); clear HO_5; clear HO_6; clear HO_7; clear HO339; clear HO342; clear HO346; clear HO350; clear HO354; clear HO358; clear HO362; clear HB; have HO_5 := n0_; have HO_6 := n1_; have HO_7 := n2_; have HO339 := n3_; have HO342 := n4_; have HO346 := n5_; have HO350 := n6_; have HO354 := n7_; have HO358 := n8_; have HO362 := n9_; have HB := n10_; clear n0_ n1_ n2_ n3_ n4_ n5_ n6_ n7_ n8_ n9_ n10_; (try clear hb); (try clear hb2); (try clear hk); (try clear hi)) | (go_at_call 12; (with_reducible refine (strongroomlaw20_lives.calls k3  t366 _ A100.out hr_).mono ?_); rintro e w118 ⟨rfl, hb⟩; have n0_ := Aside0.mk (Kd.R_below m9_ hb); have n1_ := Aside0.mk (Kd.R_below m11_ hb); have n2_ := Aside0.mk (Kd.R_below m10_ hb); have n3_ := Aside0.mk (Kd.R_below m2_ hb); have n4_ := Aside0.mk (Kd.R_below m3_ hb); have n5_ := Aside0.mk (Kd.R_below m4_ hb); have n6_ := Aside0.mk (Kd.R_below m5_ hb); have n7_ := Aside0.mk (Kd.R_below m7_ hb); have n8_ := Aside0.mk (Kd.R_below m6_ hb); have n9_ := Aside0.mk (Kd.R_below (by (with_reducible repeat (first | apply Kd.R_alloc | apply Kd.R_drewN | apply Kd.R_drew)); exact HO362.out) hb); have n10_ := Aside0.mk (below_step m1_ hb); clear HO_5; clear HO_6; clear HO_7; clear HO339; clear HO342; clear HO346; clear HO350; clear HO354; clear HO358; clear HO362; clear HB; have HO_5 := n0_; have HO_6 := n1_; have HO_7 := n2_; have HO339 := n3_; have HO342 := n4_; have HO346 := n5_; have HO350 := n6_; have HO354 := n7_; have HO358 := n8_; have HO362 := n9_; have HB := n10_; clear n0_ n1_ n2_ n3_ n4_ n5_ n6_ n7_ n8_ n9_ n10_; (try clear hb); (try clear hb2); (try clear hk); (try clear hi)))
     go_ret
     exact ⟨by first | rfl | (simp [errW_none, errW_some] <;> rfl) | (simp [*, errW_none, errW_some] <;> rfl), m15_⟩
    rw [if_pos c60] at H
    have c60b0 : (t359.toList == t363.toList) = true := beq_iff_eq.mpr c60
    have c60b1 : (t359.toList != t363.toList) = false := bne_eq_false_iff_eq.mpr c60
    clear c60
    replace H := Option.bind_eq_some_iff.mp H
    obtain ⟨t364, A610, H⟩ := H
    replace H : (if (((t318.length : Int) == 0) == t364) = true then ((strongroomlaw20_lives.f k3).bind fun t365 => (some t365)) else (some false)) = some r := H
    have A61 := Aside0.mk A610
    clear A610
    by_cases c62 : (((t318.length : Int) == 0) == t364) = true
    case neg =>
     rw [if_neg c62] at H
     have c62b0 : (((t318.length : Int) == 0) == t364) = false := by simpa using c62
     (try (have c62b1 : decide (((t318.length : Int) == 0) = t364) = false := by simpa using c62))
     (try (have c62b2 : (((t318.length : Int) == 0) == t364) = false := by simpa using c62))
     (try (have c62b3 : ¬ (((t318.length : Int) == 0) = t364) := by simpa using c62))
     clear c62
     exact absurd ((Option.some.inj H).trans hr_) (by decide)
    rw [if_pos c62] at H
    have c62b0 : (((t318.length : Int) == 0) == t364) = true := c62
    (try (have c62b1 : decide (((t318.length : Int) == 0) = t364) = true := by simpa using c62))
    (try (have c62b2 : (((t318.length : Int) == 0) == t364) = true := by simpa using c62))
    clear c62
    replace H := Option.bind_eq_some_iff.mp H
    obtain ⟨t365, A630, H⟩ := H
    replace H : (some t365) = some r := H
    have A63 := Aside0.mk A630
    clear A630
    obtain rfl := Option.some.inj H
    go_wp2_with (first | ((with_reducible refine gate_callee (f := 14) rfl ?_); refine goesL_ (some 97) rfl rfl Tryd.func14 (by kernel_rfl) rfl #[.slice A0 l0.length c0] rfl m0_ ?_; (with_reducible refine (strongroomlaw20_mine.calls k3 _ _ l0 t337 _ ?side1 ?side2 A45.out).mono ?_); (case side1 => exact m13_); (case side2 => exact HC0.out); rintro e w64 ⟨v338, rfl, ho0, hb⟩; refine ⟨_, rfl, ?_⟩; replace HO_5 := Aside0.mk (Kd.R_below m9_ hb); replace HO_6 := Aside0.mk (Kd.R_below m11_ hb); replace HO_7 := Aside0.mk (Kd.R_below m10_ hb); have HO339 := Aside0.mk (Kd.R_lower ho0 (below_size m1_)); replace HB := Aside0.mk (below_step m1_ hb); (try clear hb); (try clear hb2); (try clear hk); (try clear hi); (try clear ho0); obtain ⟨Ao65, co65, eo65⟩ := Kd.R_slice HO339.out; subst eo65) | ((with_reducible refine gate_callee (f := 32) rfl ?_); refine goesL_ (some 99) rfl rfl Tryd.func32 (by kernel_rfl) rfl #[.slice Ao65 t337.length co65, .slice Ao34 t318.length co34] rfl m0_ ?_; (with_reducible refine (merkle_Apply.calls k3 (fun k_ => some k_ = (.slice Ao65 t337.length co65 : Value).ownBlock) _ _ t337 _ _ t318 t340 t343 _ ?side1 ?side2 ?side3 A46.out).mono ?_); (case side1 => exact Kd.R_V (Kd.R_tight rfl (Kd.R_apart' (Kd.R_apart' (Kd.R_apart' (HO339.out) (Kd.R_typed HO_5.out) (by decide)) (Kd.R_typed HO_6.out) (by decide)) (Kd.R_typed HO_7.out) (by decide)))); (case side2 => repeat (first | exact (Kd.R_reads' HO_5.out).2.2 | (with_reducible refine Kd.C_alloc ?_ _) | (with_reducible refine Kd.C_drewN ?_ _) | (with_reducible refine Kd.C_drew ?_))); (case side3 => exact (Kd.R_reads' HO_5.out).2.1); rintro e w66 ⟨v341, rfl, ho0, hb⟩; refine ⟨_, rfl, ?_⟩; have n0_ := Aside0.mk (Kd.R_below m9_ hb); have n1_ := Aside0.mk (Kd.R_below m11_ hb); have n2_ := Aside0.mk (Kd.R_below m10_ hb); have n3_ := Aside0.mk (Kd.R_elder' m2_ (Kd.R_base ho0) hb); have n4_ := Aside0.mk (Kd.R_lower (Kd.R_new' (Kd.R_mono (ok' := fun k_ => True) ho0 (fun _ hk_ => trivial)) (Kd.R_lt m2_)) (below_size m1_)); have n5_ := Aside0.mk (below_step m1_ hb); clear HO_5; clear HO_6; clear HO_7; clear HO339; clear HB; have HO_5 := n0_; have HO_6 := n1_; have HO_7 := n2_; have HO339 := n3_; have HO342 := n4_; have HB := n5_; clear n0_ n1_ n2_ n3_ n4_ n5_; (try clear hb); (try clear hb2); (try clear hk); (try clear hi); (try clear ho0); obtain ⟨Ao67, co67, eo67⟩ := Kd.R_slice HO342.out; subst eo67; obtain ⟨Ao68, co68, eo68⟩ := Kd.R_slice HO_7.out; subst eo68) | ((with_reducible refine gate_callee (f := 32) rfl ?_); refine goesL_ (some 105) rfl rfl Tryd.func32 (by kernel_rfl) rfl #[.slice Ao67 t340.length co67, .slice Ao68 x7_3.length co68] rfl m0_ ?_; (with_reducible refine (merkle_Apply.calls k3 (fun k_ => some k_ = (.slice Ao67 t340.length co67 : Value).ownBlock) _ _ t340 _ _ x7_3 t344 t347 _ ?side1 ?side2 ?side3 A47.out).mono ?_); (case side1 => exact Kd.R_V (Kd.R_tight rfl (Kd.R_apart' (Kd.R_apart' (Kd.R_apart' (HO342.out) (Kd.R_typed HO_5.out) (by decide)) (Kd.R_typed HO_6.out) (by decide)) (Kd.R_typed HO_7.out) (by decide)))); (case side2 => repeat (first | exact (Kd.R_reads' HO_7.out).2.2 | (with_reducible refine Kd.C_alloc ?_ _) | (with_reducible refine Kd.C_drewN ?_ _) | (with_reducible refine Kd.C_drew ?_))); (case side3 => exact (Kd.R_reads' HO_7.out).2.1); rintro e w69 ⟨v345, rfl, ho0, hb⟩; refine ⟨_, rfl, ?_⟩; have n0_ := Aside0.mk (Kd.R_below m9_ hb); have n1_ := Aside0.mk (Kd.R_below m11_ hb); have n2_ := Aside0.mk (Kd.R_below m10_ hb); have n3_ := Aside0.mk (Kd.R_elder' m2_ (Kd.R_base ho0) hb); have n4_ := Aside0.mk (Kd.R_elder' m3_ (Kd.R_base ho0) hb); have n5_ := Aside0.mk (Kd.R_lower (Kd.R_new' (Kd.R_new' (Kd.R_mono (ok' := fun k_ => True) ho0 (fun _ hk_ => trivial)) (Kd.R_lt m2_)) (Kd.R_lt m3_)) (below_size m1_)); have n6_ := Aside0.mk (below_step m1_ hb); clear HO_5; clear HO_6; clear HO_7; clear HO339; clear HO342; clear HB; have HO_5 := n0_; have HO_6 := n1_; have HO_7 := n2_; have HO339 := n3_; have HO342 := n4_; have HO346 := n5_; have HB := n6_; clear n0_ n1_ n2_ n3_ n4_ n5_ n6_; (try clear hb); (try clear hb2); (try clear hk); (try clear hi); (try clear ho0)) | (go_at_call 34; (with_reducible refine (strongroomlaw20_theirs.calls k3 _ _ t340 t348 _ ?side1 ?side2 A50.out).mono ?_); (case side1 => repeat (first | exact (Kd.R_reads' HO342.out).2.2 | (with_reducible refine Kd.C_alloc ?_ _) | (with_reducible refine Kd.C_drewN ?_ _) | (with_reducible refine Kd.C_drew ?_))); (case side2 => exact (Kd.R_reads' HO342.out).2.1); rintro e w70 ⟨v349, rfl, ho0, hb⟩; replace HO_5 := Aside0.mk (Kd.R_below m9_ hb); replace HO_6 := Aside0.mk (Kd.R_below m11_ hb); replace HO_7 := Aside0.mk (Kd.R_below m10_ hb); replace HO339 := Aside0.mk (Kd.R_below m2_ hb); replace HO342 := Aside0.mk (Kd.R_below m3_ hb); replace HO346 := Aside0.mk (Kd.R_below m4_ hb); have HO350 := Aside0.mk (Kd.R_lower ho0 (below_size m1_)); replace HB := Aside0.mk (below_step m1_ hb); (try clear hb); (try clear hb2); (try clear hk); (try clear hi); (try clear ho0); obtain ⟨Ao71, co71, eo71⟩ := Kd.R_slice HO350.out; subst eo71) | (go_at_call 33; (with_reducible refine (strongroomref20_Same.calls k3 _ _ t348 _ _ l1 true _ ?side1 ?side2 ?side3 ?side4 A51.out).mono ?_); (case side1 => repeat (first | exact (Kd.R_reads' HO350.out).2.2 | (with_reducible refine Kd.C_alloc ?_ _) | (with_reducible refine Kd.C_drewN ?_ _) | (with_reducible refine Kd.C_drew ?_))); (case side2 => exact (Kd.R_reads' HO350.out).2.1); (case side3 => exact m14_); (case side4 => exact HC1.out); rintro e w' ⟨rfl, ⟨nd, rfl⟩⟩; obtain ⟨Ao72, co72, eo72⟩ := Kd.R_slice HO346.out; subst eo72) | (go_at_call 34; (with_reducible refine (strongroomlaw20_theirs.calls k3 _ _ t344 t352 _ ?side1 ?side2 A53.out).mono ?_); (case side1 => repeat (first | exact (Kd.R_reads' HO346.out).2.2 | (with_reducible refine Kd.C_alloc ?_ _) | (with_reducible refine Kd.C_drewN ?_ _) | (with_reducible refine Kd.C_drew ?_))); (case side2 => exact (Kd.R_reads' HO346.out).2.1); rintro e w73 ⟨v353, rfl, ho0, hb⟩; have n0_ := Aside0.mk (Kd.R_below m9_ hb); have n1_ := Aside0.mk (Kd.R_below m11_ hb); have n2_ := Aside0.mk (Kd.R_below m10_ hb); have n3_ := Aside0.mk (Kd.R_below m2_ hb); have n4_ := Aside0.mk (Kd.R_below m3_ hb); have n5_ := Aside0.mk (Kd.R_below m4_ hb); have n6_ := Aside0.mk (Kd.R_elder' m5_ (Kd.R_base ho0) hb); have n7_ := Aside0.mk (Kd.R_lower (Kd.R_new' ho0 (Kd.R_lt m5_)) (below_size m1_)); have n8_ := Aside0.mk (below_step m1_ hb); clear HO_5; clear HO_6; clear HO_7; clear HO339; clear HO342; clear HO346; clear HO350; clear HB; have HO_5 := n0_; have HO_6 := n1_; have HO_7 := n2_; have HO339 := n3_; have HO342 := n4_; have HO346 := n5_; have HO350 := n6_; have HO354 := n7_; have HB := n8_; clear n0_ n1_ n2_ n3_ n4_ n5_ n6_ n7_ n8_; (try clear hb); (try clear hb2); (try clear hk); (try clear hi); (try clear ho0); obtain ⟨Ao74, co74, eo74⟩ := Kd.R_slice HO354.out; subst eo74) | (go_at_call 33; (with_reducible refine (strongroomref20_Same.calls k3 _ _ t352 _ _ l0 true _ ?side1 ?side2 ?side3 ?side4 A54.out).mono ?_); (case side1 => repeat (first | exact (Kd.R_reads' HO354.out).2.2 | (with_reducible refine Kd.C_alloc ?_ _) | (with_reducible refine Kd.C_drewN ?_ _) | (with_reducible refine Kd.C_drew ?_))); (case side2 => exact (Kd.R_reads' HO354.out).2.1); (case side3 => exact m13_); (case side4 => exact HC0.out); rintro e w' ⟨rfl, ⟨nd, rfl⟩⟩) | (go_at_call 14; (with_reducible refine (strongroomlaw20_mine.calls k3 _ _ l0 t356 _ ?side1 ?side2 A56.out).mono ?_); (case side1 => repeat (first | exact (Kd.C_below HR0.out m1_) | (with_reducible refine Kd.C_alloc ?_ _) | (with_reducible refine Kd.C_drewN ?_ _) | (with_reducible refine Kd.C_drew ?_))); (case side2 => exact HC0.out); rintro e w75 ⟨v357, rfl, ho0, hb⟩; have n0_ := Aside0.mk (Kd.R_below m9_ hb); have n1_ := Aside0.mk (Kd.R_below m11_ hb); have n2_ := Aside0.mk (Kd.R_below m10_ hb); have n3_ := Aside0.mk (Kd.R_elder' m2_ (Kd.R_base ho0) hb); have n4_ := Aside0.mk (Kd.R_elder' m3_ (Kd.R_base ho0) hb); have n5_ := Aside0.mk (Kd.R_elder' m4_ (Kd.R_base ho0) hb); have n6_ := Aside0.mk (Kd.R_below m5_ hb); have n7_ := Aside0.mk (Kd.R_below m7_ hb); have n8_ := Aside0.mk (Kd.R_lower (Kd.R_new' (Kd.R_new' (Kd.R_new' ho0 (Kd.R_lt m2_)) (Kd.R_lt m3_)) (Kd.R_lt m4_)) (below_size m1_)); have n9_ := Aside0.mk (below_step m1_ hb); clear HO_5; clear HO_6; clear HO_7; clear HO339; clear HO342; clear HO346; clear HO350; clear HO354; clear HB; have HO_5 := n0_; have HO_6 := n1_; have HO_7 := n2_; have HO339 := n3_; have HO342 := n4_; have HO346 := n5_; have HO350 := n6_; have HO354 := n7_; have HO358 := n8_; have HB := n9_; clear n0_ n1_ n2_ n3_ n4_ n5_ n6_ n7_ n8_ n9_; (try clear hb); (try clear hb2); (try clear hk); (try clear hi); (try clear ho0); obtain ⟨Ao76, co76, eo76⟩ := Kd.R_slice HO358.out; subst eo76) | (go_at_call 13; (with_reducible refine (merkle_Digest.calls k3 _ _ t356 t359 _ ?side1 ?side2 A57.out).mono ?_); (case side1 => repeat (first | exact (Kd.R_reads' HO358.out).2.2 | (with_reducible refine Kd.C_alloc ?_ _) | (with_reducible refine Kd.C_drewN ?_ _) | (with_reducible refine Kd.C_drew ?_))); (case side2 => exact (Kd.R_reads' HO358.out).2.1); rintro e w77 ⟨rfl, hb⟩; replace HO_5 := Aside0.mk (Kd.R_below m9_ hb); replace HO_6 := Aside0.mk (Kd.R_below m11_ hb); replace HO_7 := Aside0.mk (Kd.R_below m10_ hb); replace HO339 := Aside0.mk (Kd.R_below m2_ hb); replace HO342 := Aside0.mk (Kd.R_below m3_ hb); replace HO346 := Aside0.mk (Kd.R_below m4_ hb); replace HO350 := Aside0.mk (Kd.R_below m5_ hb); replace HO354 := Aside0.mk (Kd.R_below m7_ hb); replace HO358 := Aside0.mk (Kd.R_below m6_ hb); replace HB := Aside0.mk (below_step m1_ hb); (try clear hb); (try clear hb2); (try clear hk); (try clear hi)) | (go_at_call 14; (with_reducible refine (strongroomlaw20_mine.calls k3 _ _ l1 t360 _ ?side1 ?side2 A58.out).mono ?_); (case side1 => exact m14_); (case side2 => exact HC1.out); rintro e w78 ⟨v361, rfl, ho0, hb⟩; have n0_ := Aside0.mk (Kd.R_below m9_ hb); have n1_ := Aside0.mk (Kd.R_below m11_ hb); have n2_ := Aside0.mk (Kd.R_below m10_ hb); have n3_ := Aside0.mk (Kd.R_elder' m2_ (Kd.R_base ho0) hb); have n4_ := Aside0.mk (Kd.R_elder' m3_ (Kd.R_base ho0) hb); have n5_ := Aside0.mk (Kd.R_elder' m4_ (Kd.R_base ho0) hb); have n6_ := Aside0.mk (Kd.R_below m5_ hb); have n7_ := Aside0.mk (Kd.R_below m7_ hb); have n8_ := Aside0.mk (Kd.R_elder' m6_ (Kd.R_base ho0) hb); have n9_ := Aside0.mk (Kd.R_lower (Kd.R_new' (Kd.R_new' (Kd.R_new' (Kd.R_new' ho0 (Kd.R_lt m2_)) (Kd.R_lt m3_)) (Kd.R_lt m4_)) (Kd.R_lt m6_)) (below_size m1_)); have n10_ := Aside0.mk (below_step m1_ hb); clear HO_5; clear HO_6; clear HO_7; clear HO339; clear HO342; clear HO346; clear HO350; clear HO354; clear HO358; clear HB; have HO_5 := n0_; have HO_6 := n1_; have HO_7 := n2_; have HO339 := n3_; have HO342 := n4_; have HO346 := n5_; have HO350 := n6_; have HO354 := n7_; have HO358 := n8_; have HO362 := n9_; have HB := n10_; clear n0_ n1_ n2_ n3_ n4_ n5_ n6_ n7_ n8_ n9_ n10_; (try clear hb); (try clear hb2); (try clear hk); (try clear hi); (try clear ho0); obtain ⟨Ao79, co79, eo79⟩ := Kd.R_slice HO362.out; subst eo79) | (go_at_call 13; (with_reducible refine (merkle_Digest.calls k3 _ _ t360 t363 _ ?side1 ?side2 A59.out).mono ?_); (case side1 => repeat (first | exact (Kd.R_reads' HO362.out).2.2 | (with_reducible refine Kd.C_alloc ?_ _) | (with_reducible refine Kd.C_drewN ?_ _) | (with_reducible refine Kd.C_drew ?_))); (case side2 => exact (Kd.R_reads' HO362.out).2.1); rintro e w80 ⟨rfl, hb⟩; have n0_ := Aside0.mk (Kd.R_below m9_ hb); have n1_ := Aside0.mk (Kd.R_below m11_ hb); have n2_ := Aside0.mk (Kd.R_below m10_ hb); have n3_ := Aside0.mk (Kd.R_below m2_ hb); have n4_ := Aside0.mk (Kd.R_below m3_ hb); have n5_ := Aside0.mk (Kd.R_below m4_ hb); have n6_ := Aside0.mk (Kd.R_below m5_ hb); have n7_ := Aside0.mk (Kd.R_below m7_ hb); have n8_ := Aside0.mk (Kd.R_below m6_ hb); have n9_ := Aside0.mk (Kd.R_below (by (with_reducible repeat (first | apply Kd.R_alloc | apply Kd.R_drewN | apply Kd.R_drew)); exact HO362.out) hb); have n10_ := Aside0.mk (below_step m1_ hb); clear HO_5; clear HO_6; clear HO_7; clear HO339; clear HO342; clear HO346; clear HO350; clear HO354; clear HO358; clear HO362; clear HB; have HO_5 := n0_; have HO_6 := n1_; have HO_7 := n2_; have HO339 := n3_; have HO342 := n4_; have HO346 := n5_; have HO350 := n6_; have HO354 := n7_; have HO358 := n8_; have HO362 := n9_; have HB := n10_; clear n0_ n1_ n2_ n3_ n4_ n5_ n6_ n7_ n8_ n9_ n10_; (try clear hb); (try clear hb2); (try clear hk); (try clear hi)) | (go_at_call 33; (with_reducible refine (strongroomref20_Same.calls k3 _ _ l0 _ _ l1 t364 _ ?side1 ?side2 ?side3 ?side4 A61.out).mono ?_); (case side1 => exact m13_); (case side2 => exact HC0.out); (case side3 => exact m14_); (case side4 => exact HC1.out); rintro e w' ⟨rfl, ⟨nd, rfl⟩⟩) | (go_at_call 12; (with_reducible refine (strongroomlaw20_lives.calls k3  t365 _ A63.out hr_).mono ?_); rintro e w81 ⟨rfl, hb⟩; have n0_ := Aside0.mk (Kd.R_below m9_ hb); have n1_ := Aside0.mk (Kd.R_below m11_ hb); have n2_ := Aside0.mk (Kd.R_below m10_ hb); have n3_ := Aside0.mk (Kd.R_below m2_ hb); have n4_ := Aside0.mk (Kd.R_below m3_ hb); have n5_ := Aside0.mk (Kd.R_below m4_ hb); have n6_ := Aside0.mk (Kd.R_below m5_ hb); have n7_ := Aside0.mk (Kd.R_below m7_ hb); have n8_ := Aside0.mk (Kd.R_below m6_ hb); have n9_ := Aside0.mk (Kd.R_below (by (with_reducible repeat (first | apply Kd.R_alloc | apply Kd.R_drewN | apply Kd.R_drew)); exact HO362.out) hb); have n10_ := Aside0.mk (below_step m1_ hb); clear HO_5; clear HO_6; clear HO_7; clear HO339; clear HO342; clear HO346; clear HO350; clear HO354; clear HO358; clear HO362; clear HB; have HO_5 := n0_; have HO_6 := n1_; have HO_7 := n2_; have HO339 := n3_; have HO342 := n4_; have HO346 := n5_; have HO350 := n6_; have HO354 := n7_; have HO358 := n8_; have HO362 := n9_; have HB := n10_; clear n0_ n1_ n2_ n3_ n4_ n5_ n6_ n7_ n8_ n9_ n10_; (try clear hb); (try clear hb2); (try clear hk); (try clear hi)))
    go_ret
    exact ⟨by first | rfl | (simp [errW_none, errW_some] <;> rfl) | (simp [*, errW_none, errW_some] <;> rfl), m15_⟩

end Go.Proofs.YtdeggemomajhcaaDoorH.HMerkleDiffs
