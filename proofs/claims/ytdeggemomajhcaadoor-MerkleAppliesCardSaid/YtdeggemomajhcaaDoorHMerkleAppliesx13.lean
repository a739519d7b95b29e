-- PRINTED by print.py (a twelfth state) out of the translation. Not trusted: Lean checks it.
import Derived.Test.YtdeggemomajhcaaDoorHMerkleAppliesx0
import Derived.Test.YtdeggemomajhcaaDoorHMerkleAppliesx8
import Derived.Test.YtdeggemomajhcaaDoorHMerkleAppliesx9
import Derived.Test.YtdeggemomajhcaaDoorHMerkleAppliesx12
namespace Go.Proofs.YtdeggemomajhcaaDoorH.HMerkleApplies
open Go.RowKit Go.Proofs.YtdeggemomajhcaaDoorW.PrintWords Go.Proofs.YtdeggemomajhcaaDoorW.PrintLast Go.Proofs.YtdeggemomajhcaaDoorW.PrintMore
attribute [local go_sem] max2_int min2_int max_two min_two max_three min_three max_four min_four   -- for this text's walks alone
set_option linter.unusedVariables false
set_option linter.unusedSimpArgs false

/-! ### strongroomref20_Apply: function 35 -/
mutual
def strongroomref20_Apply.l0 : Nat → List (S39) → List (S67) → Int → Option ((List (S39)) × Int)
 | 0, _, _, _ => none
 | k + 1, x0, x1, x7 => if x7 < (x1.length : Int) then (if 0 ≤ x7 then ((strongroomref05_Good.f k ((rd_T67 x1 x7).f0)).bind fun t248 => (if t248 = true then (if x7 > 0 then (if 0 ≤ (wrap64 (x7 - 1)) then (if (wrap64 (x7 - 1)) < (x1.length : Int) then (if ((Op.bytesLess (((rd_T67 x1 (wrap64 (x7 - 1))).f0).toList) (((rd_T67 x1 x7).f0).toList)) = true) then (if ((rd_T67 x1 x7).f1).toList = ((rd_T67 x1 x7).f2).toList then (strongroomref20_Apply.j1 k x0 x1 x7 true) else (if ((rd_T67 x1 x7).f1).toList = ([] : List UInt8) then (if ((rd_T67 x1 x7).f2).toList = ([] : List UInt8) then (strongroomref20_Apply.j1 k x0 x1 x7 false) else (strongroomref20_Apply.j1 k x0 x1 x7 ((((rd_T67 x1 x7).f2).size : Int) != 32))) else (if (((rd_T67 x1 x7).f1).size : Int) = 32 then (if ((rd_T67 x1 x7).f2).toList = ([] : List UInt8) then (strongroomref20_Apply.j1 k x0 x1 x7 false) else (strongroomref20_Apply.j1 k x0 x1 x7 ((((rd_T67 x1 x7).f2).size : Int) != 32))) else (strongroomref20_Apply.j1 k x0 x1 x7 true)))) else (strongroomref20_Apply.j1 k x0 x1 x7 true)) else (none)) else (none)) else (if ((rd_T67 x1 x7).f1).toList = ((rd_T67 x1 x7).f2).toList then (strongroomref20_Apply.j1 k x0 x1 x7 true) else (if ((rd_T67 x1 x7).f1).toList = ([] : List UInt8) then (if ((rd_T67 x1 x7).f2).toList = ([] : List UInt8) then (strongroomref20_Apply.j1 k x0 x1 x7 false) else (strongroomref20_Apply.j1 k x0 x1 x7 ((((rd_T67 x1 x7).f2).size : Int) != 32))) else (if (((rd_T67 x1 x7).f1).size : Int) = 32 then (if ((rd_T67 x1 x7).f2).toList = ([] : List UInt8) then (strongroomref20_Apply.j1 k x0 x1 x7 false) else (strongroomref20_Apply.j1 k x0 x1 x7 ((((rd_T67 x1 x7).f2).size : Int) != 32))) else (strongroomref20_Apply.j1 k x0 x1 x7 true))))) else (strongroomref20_Apply.j1 k x0 x1 x7 true))) else (none)) else (strongroomref20_Apply.l1 k x0 x1 0)
def strongroomref20_Apply.j1 : Nat → List (S39) → List (S67) → Int → Bool → Option ((List (S39)) × Int)
 | 0, _, _, _, _ => none
 | k + 1, x0, x1, x7, x77 => if x77 = true then (some (([] : List (S39)), 1)) else (strongroomref20_Apply.l0 k x0 x1 (wrap64 (x7 + 1)))
def strongroomref20_Apply.l1 : Nat → List (S39) → List (S67) → Int → Option ((List (S39)) × Int)
 | 0, _, _, _ => none
 | k + 1, x0, x1, x9 => if x9 < (x1.length : Int) then (if 0 ≤ x9 then ((strongroomref20_sumOf.f k x0 ((rd_T67 x1 x9).f0)).bind fun t251 => (if t251.toList = ((rd_T67 x1 x9).f1).toList then (strongroomref20_Apply.l1 k x0 x1 (wrap64 (x9 + 1))) else (some (([] : List (S39)), 8)))) else (none)) else (strongroomref20_Apply.l2 k x0 x1 0)
def strongroomref20_Apply.l2 : Nat → List (S39) → List (S67) → Int → Option ((List (S39)) × Int)
 | 0, _, _, _ => none
 | k + 1, x0, x1, x10 => if x10 < (x1.length : Int) then (if 0 ≤ x10 then ((strongroomref20_Find.f k x0 ((rd_T67 x1 x10).f0)).bind fun bt254 => (if 0 ≤ bt254.1 then (if bt254.1 ≤ (x0.length : Int) then ((some (x0.take (bt254.1 : Int).toNat : List (S39))).bind fun y256 => (if ([] : List (S39)).length + y256.length < 4398046511104 then ((some (([] : List (S39)) ++ y256 : List (S39))).bind fun y261 => (if ((rd_T67 x1 x10).f2).toList = ([] : List UInt8) then (strongroomref20_Apply.j4 k x0 x1 x10 bt254.1 bt254.2 y261) else (if y261.length < 4398046511104 then (strongroomref20_Apply.j4 k x0 x1 x10 bt254.1 bt254.2 (y261 ++ [(⟨(rd_T67 x1 x10).f0, (rd_T67 x1 x10).f2⟩ : S39)])) else (none)))) else (none))) else (none)) else (none))) else (none)) else (if (x0.length : Int) > 1024 then (some (([] : List (S39)), 2)) else (some (x0, 0)))
def strongroomref20_Apply.j4 : Nat → List (S39) → List (S67) → Int → Int → Bool → List (S39) → Option ((List (S39)) × Int)
 | 0, _, _, _, _, _, _ => none
 | k + 1, x0, x1, x10, x11, x12, x13 => if x12 = true then (if 0 ≤ (wrap64 (x11 + 1)) then (if (wrap64 (x11 + 1)) ≤ (x0.length : Int) then ((some (x0.drop ((wrap64 (x11 + 1)) : Int).toNat : List (S39))).bind fun y270 => (if x13.length + y270.length < 4398046511104 then (strongroomref20_Apply.l2 k (x13 ++ y270) x1 (wrap64 (x10 + 1))) else (none))) else (none)) else (none)) else (if 0 ≤ x11 then (if x11 ≤ (x0.length : Int) then ((some (x0.drop (x11 : Int).toNat : List (S39))).bind fun y278 => (if x13.length + y278.length < 4398046511104 then (strongroomref20_Apply.l2 k (x13 ++ y278) x1 (wrap64 (x10 + 1))) else (none))) else (none)) else (none))
end
def strongroomref20_Apply.f (k : Nat) (l0 : List (S39)) (l1 : List (S67)) : Option ((List (S39)) × Int) := (strongroomref20_Why.f k l0).bind fun t245 => (if t245 = 0 then (strongroomref20_Apply.l0 k l0 l1 0) else (some (([] : List (S39)), t245)))
theorem strongroomref20_Apply.mono_l : ∀ k, (∀ y0 y1 y2, LeO (strongroomref20_Apply.l0 k y0 y1 y2) (strongroomref20_Apply.l0 (k + 1) y0 y1 y2)) ∧ (∀ y0 y1 y2 y3, LeO (strongroomref20_Apply.j1 k y0 y1 y2 y3) (strongroomref20_Apply.j1 (k + 1) y0 y1 y2 y3)) ∧ (∀ y0 y1 y2, LeO (strongroomref20_Apply.l1 k y0 y1 y2) (strongroomref20_Apply.l1 (k + 1) y0 y1 y2)) ∧ (∀ y0 y1 y2, LeO (strongroomref20_Apply.l2 k y0 y1 y2) (strongroomref20_Apply.l2 (k + 1) y0 y1 y2)) ∧ (∀ y0 y1 y2 y3 y4 y5, LeO (strongroomref20_Apply.j4 k y0 y1 y2 y3 y4 y5) (strongroomref20_Apply.j4 (k + 1) y0 y1 y2 y3 y4 y5))
 | 0 => ⟨fun _ _ _ r h => by simp [strongroomref20_Apply.l0] at h, fun _ _ _ _ r h => by simp [strongroomref20_Apply.j1] at h, fun _ _ _ r h => by simp [strongroomref20_Apply.l1] at h, fun _ _ _ r h => by simp [strongroomref20_Apply.l2] at h, fun _ _ _ _ _ _ r h => by simp [strongroomref20_Apply.j4] at h⟩
 | k + 1 => by
  obtain ⟨ih0, ih1, ih2, ih3, ih4⟩ := strongroomref20_Apply.mono_l k
  refine ⟨?_, ?_, ?_, ?_, ?_⟩
  ·intro y0 y1 y2
   unfold strongroomref20_Apply.l0
   repeat' first
   | (with_reducible exact ih0 _ _ _)
   | (with_reducible exact ih1 _ _ _ _)
   | (with_reducible exact ih2 _ _ _)
   | (with_reducible exact ih3 _ _ _)
   | (with_reducible exact ih4 _ _ _ _ _ _)
   | (with_reducible exact strongroomref05_Good.mono _ _)
   | (with_reducible exact strongroomref20_Find.mono _ _ _)
   | (with_reducible exact strongroomref20_Why.mono _ _)
   | (with_reducible exact strongroomref20_sumOf.mono _ _ _)
   | (with_reducible exact LeO.refl _)
   | (with_reducible exact LeO.none _)
   | (with_reducible refine LeO.ite ?_ ?_)
   | (with_reducible refine LeO.bind ?_ (fun _ => ?_))
   | exact ih0 _ _ _
   | exact ih1 _ _ _ _
   | exact ih2 _ _ _
   | exact ih3 _ _ _
   | exact ih4 _ _ _ _ _ _
   | exact strongroomref05_Good.mono _ _
   | exact strongroomref20_Find.mono _ _ _
   | exact strongroomref20_Why.mono _ _
   | exact strongroomref20_sumOf.mono _ _ _
   | exact LeO.none _
   | refine LeO.ite ?_ ?_
   | refine LeO.bind ?_ (fun _ => ?_)
  ·intro y0 y1 y2 y3
   unfold strongroomref20_Apply.j1
   repeat' first
   | (with_reducible exact ih0 _ _ _)
   | (with_reducible exact ih1 _ _ _ _)
   | (with_reducible exact ih2 _ _ _)
   | (with_reducible exact ih3 _ _ _)
   | (with_reducible exact ih4 _ _ _ _ _ _)
   | (with_reducible exact strongroomref05_Good.mono _ _)
   | (with_reducible exact strongroomref20_Find.mono _ _ _)
   | (with_reducible exact strongroomref20_Why.mono _ _)
   | (with_reducible exact strongroomref20_sumOf.mono _ _ _)
   | (with_reducible exact LeO.refl _)
   | (with_reducible exact LeO.none _)
   | (with_reducible refine LeO.ite ?_ ?_)
   | (with_reducible refine LeO.bind ?_ (fun _ => ?_))
   | exact ih0 _ _ _
   | exact ih1 _ _ _ _
   | exact ih2 _ _ _
   | exact ih3 _ _ _
   | exact ih4 _ _ _ _ _ _
   | exact strongroomref05_Good.mono _ _
   | exact strongroomref20_Find.mono _ _ _
   | exact strongroomref20_Why.mono _ _
   | exact strongroomref20_sumOf.mono _ _ _
   | exact LeO.none _
   | refine LeO.ite ?_ ?_
   | refine LeO.bind ?_ (fun _ => ?_)
  ·intro y0 y1 y2
   unfold strongroomref20_Apply.l1
   repeat' first
   | (with_reducible exact ih0 _ _ _)
   | (with_reducible exact ih1 _ _ _ _)
   | (with_reducible exact ih2 _ _ _)
   | (with_reducible exact ih3 _ _ _)
   | (with_reducible exact ih4 _ _ _ _ _ _)
   | (with_reducible exact strongroomref05_Good.mono _ _)
   | (with_reducible exact strongroomref20_Find.mono _ _ _)
   | (with_reducible exact strongroomref20_Why.mono _ _)
   | (with_reducible exact strongroomref20_sumOf.mono _ _ _)
   | (with_reducible exact LeO.refl _)
   | (with_reducible exact LeO.none _)
   | (with_reducible refine LeO.ite ?_ ?_)
   | (with_reducible refine LeO.bind ?_ (fun _ => ?_))
   | exact ih0 _ _ _
   | exact ih1 _ _ _ _
   | exact ih2 _ _ _
   | exact ih3 _ _ _
   | exact ih4 _ _ _ _ _ _
   | exact strongroomref05_Good.mono _ _
   | exact strongroomref20_Find.mono _ _ _
   | exact strongroomref20_Why.mono _ _
   | exact strongroomref20_sumOf.mono _ _ _
   | exact LeO.none _
   | refine LeO.ite ?_ ?_
   | refine LeO.bind ?_ (fun _ => ?_)
  ·intro y0 y1 y2
   unfold strongroomref20_Apply.l2
   repeat' first
   | (with_reducible exact ih0 _ _ _)
   | (with_reducible exact ih1 _ _ _ _)
   | (with_reducible exact ih2 _ _ _)
   | (with_reducible exact ih3 _ _ _)
   | (with_reducible exact ih4 _ _ _ _ _ _)
   | (with_reducible exact strongroomref05_Good.mono _ _)
   | (with_reducible exact strongroomref20_Find.mono _ _ _)
   | (with_reducible exact strongroomref20_Why.mono _ _)
   | (with_reducible exact strongroomref20_sumOf.mono _ _ _)
   | (with_reducible exact LeO.refl _)
   | (with_reducible exact LeO.none _)
   | (with_reducible refine LeO.ite ?_ ?_)
   | (with_reducible refine LeO.bind ?_ (fun _ => ?_))
   | exact ih0 _ _ _
   | exact ih1 _ _ _ _
   | exact ih2 _ _ _
   | exact ih3 _ _ _
   | exact ih4 _ _ _ _ _ _
   | exact strongroomref05_Good.mono _ _
   | exact strongroomref20_Find.mono _ _ _
   | exact strongroomref20_Why.mono _ _
   | exact strongroomref20_sumOf.mono _ _ _
   | exact LeO.none _
   | refine LeO.ite ?_ ?_
   | refine LeO.bind ?_ (fun _ => ?_)
  ·intro y0 y1 y2 y3 y4 y5
   unfold strongroomref20_Apply.j4
   repeat' first
   | (with_reducible exact ih0 _ _ _)
   | (with_reducible exact ih1 _ _ _ _)
   | (with_reducible exact ih2 _ _ _)
   | (with_reducible exact ih3 _ _ _)
   | (with_reducible exact ih4 _ _ _ _ _ _)
   | (with_reducible exact strongroomref05_Good.mono _ _)
   | (with_reducible exact strongroomref20_Find.mono _ _ _)
   | (with_reducible exact strongroomref20_Why.mono _ _)
   | (with_reducible exact strongroomref20_sumOf.mono _ _ _)
   | (with_reducible exact LeO.refl _)
   | (with_reducible exact LeO.none _)
   | (with_reducible refine LeO.ite ?_ ?_)
   | (with_reducible refine LeO.bind ?_ (fun _ => ?_))
   | exact ih0 _ _ _
   | exact ih1 _ _ _ _
   | exact ih2 _ _ _
   | exact ih3 _ _ _
   | exact ih4 _ _ _ _ _ _
   | exact strongroomref05_Good.mono _ _
   | exact strongroomref20_Find.mono _ _ _
   | exact strongroomref20_Why.mono _ _
   | exact strongroomref20_sumOf.mono _ _ _
   | exact LeO.none _
   | refine LeO.ite ?_ ?_
   | refine LeO.bind ?_ (fun _ => ?_)
theorem strongroomref20_Apply.mono : ∀ a0 a1 k, LeO (strongroomref20_Apply.f k a0 a1) (strongroomref20_Apply.f (k + 1) a0 a1) := by
 intro a0 a1 k
 obtain ⟨ih0, ih1, ih2, ih3, ih4⟩ := strongroomref20_Apply.mono_l k
 unfold strongroomref20_Apply.f
 repeat' first
   | (with_reducible exact ih0 _ _ _)
   | (with_reducible exact ih1 _ _ _ _)
   | (with_reducible exact ih2 _ _ _)
   | (with_reducible exact ih3 _ _ _)
   | (with_reducible exact ih4 _ _ _ _ _ _)
   | (with_reducible exact strongroomref05_Good.mono _ _)
   | (with_reducible exact strongroomref20_Find.mono _ _ _)
   | (with_reducible exact strongroomref20_Why.mono _ _)
   | (with_reducible exact strongroomref20_sumOf.mono _ _ _)
   | (with_reducible exact LeO.refl _)
   | (with_reducible exact LeO.none _)
   | (with_reducible refine LeO.ite ?_ ?_)
   | (with_reducible refine LeO.bind ?_ (fun _ => ?_))
   | exact ih0 _ _ _
   | exact ih1 _ _ _ _
   | exact ih2 _ _ _
   | exact ih3 _ _ _
   | exact ih4 _ _ _ _ _ _
   | exact strongroomref05_Good.mono _ _
   | exact strongroomref20_Find.mono _ _ _
   | exact strongroomref20_Why.mono _ _
   | exact strongroomref20_sumOf.mono _ _ _
   | exact LeO.none _
   | refine LeO.ite ?_ ?_
   | refine LeO.bind ?_ (fun _ => ?_)
def strongroomref20_Apply.T8 : Bool × List (List Nat × List Nat) := (true, [([], []), ([0], [0]), ([1], [1]), ([2], [2]), ([3, 2], [3]), ([4], [4]), ([5, 4], [4, 5]), ([6, 4, 4], [4, 6]), ([7], [7]), ([7], [7]), ([9, 7], [7, 9]), ([8, 10, 7], [7, 8, 10]), ([11, 7], [7, 11]), ([12, 7], [7, 12]), ([7], [7]), ([14, 7], [7, 14]), ([13, 15, 7], [7, 13, 15]), ([16, 7], [7, 16]), ([7, 17, 4], [4, 7, 17]), ([4, 18], [4, 18]), ([19, 7], [19]), ([20], [20]), ([21, 20], [20, 21]), ([20], [20]), ([23, 20], [20, 23]), ([22, 24, 20], [20, 22, 24]), ([20, 25], [20, 25]), ([26, 20], [26]), ([27], [27]), ([28, 27], [27, 28]), ([29, 27], [27, 29]), ([30, 27, 27], [27, 30]), ([31], [31]), ([32, 31], [31, 32]), ([33, 31], [31, 33]), ([34, 31], [31, 34]), ([31, 35, 27], [27, 31, 35]), ([27, 36], [27, 36]), ([37, 31], [37]), ([38], [38]), ([39, 38], [38, 39]), ([40, 38], [38, 40]), ([41, 38, 38], [38, 41]), ([42], [42]), ([43, 42], [42, 43]), ([44, 42], [42, 44]), ([45, 42], [42, 45]), ([42, 46, 38], [38, 42, 46]), ([38, 47], [38, 47])])
def strongroomref20_Apply.B8 : List Nat := [0, 1, 3, 7, 15, 31, 63, 127, 255, 255, 767, 2047, 4095, 8191, 255, 16639, 65535, 131071, 262143, 524287, 1048575, 2097151, 4194303, 2097151, 10485759, 33554431, 67108863, 134217727, 268435455, 536870911, 1073741823, 2147483647, 4294967295, 8589934591, 17179869183, 34359738367, 68719476735, 137438953471, 274877906943, 549755813887, 1099511627775, 2199023255551, 4398046511103, 8796093022207, 17592186044415, 35184372088831, 70368744177663, 140737488355327, 281474976710655]
theorem strongroomref20_Apply.tab8 : rtab .any (opsOf Tryd.f35 8) = strongroomref20_Apply.T8 := by kernel_rfl
theorem strongroomref20_Apply.bits8 : waitsOk strongroomref20_Apply.T8.2 strongroomref20_Apply.B8 = true := by kernel_rfl
def strongroomref20_Apply.T13 : Bool × List (List Nat × List Nat) := (true, [([], []), ([], []), ([], []), ([1, 2], [1, 2]), ([3], [3]), ([4], [4]), ([0, 5], [0, 5]), ([], []), ([], []), ([7, 8], [7, 8]), ([9], [9]), ([10], [10]), ([6, 11], [6, 11])])
def strongroomref20_Apply.B13 : List Nat := [0, 0, 0, 6, 14, 30, 63, 0, 0, 384, 896, 1920, 4095]
theorem strongroomref20_Apply.tab13 : rtab .any (opsOf Tryd.f35 13) = strongroomref20_Apply.T13 := by kernel_rfl
theorem strongroomref20_Apply.bits13 : waitsOk strongroomref20_Apply.T13.2 strongroomref20_Apply.B13 = true := by kernel_rfl
def strongroomref20_Apply.T22 : Bool × List (List Nat × List Nat) := (true, [([], []), ([], []), ([], []), ([1, 2], [1, 2]), ([3], [3]), ([4], [4]), ([], []), ([], []), ([6, 7], [6, 7]), ([8], [8]), ([9], [9]), ([5, 10], [5, 10]), ([11], [11]), ([0, 12], [0, 12]), ([13, 13, 0, 1, 2, 3, 4, 5, 6, 7, 8, 9, 10, 11, 12, 13], [0, 13])])
def strongroomref20_Apply.B22 : List Nat := [0, 0, 0, 6, 14, 30, 0, 0, 192, 448, 960, 2046, 4094, 8191, 16383]
theorem strongroomref20_Apply.tab22 : rtab .any (opsOf Tryd.f35 22) = strongroomref20_Apply.T22 := by kernel_rfl
theorem strongroomref20_Apply.bits22 : waitsOk strongroomref20_Apply.T22.2 strongroomref20_Apply.B22 = true := by kernel_rfl
set_option maxHeartbeats 8000000 in
set_option maxRecDepth 100000 in
theorem strongroomref20_Apply.calls (k : Nat) (P0_ : Nat → Prop) (A0 : Option Addr) (c0 : Nat) (l0 : List (S39)) (A1 : Option Addr) (c1 : Nat) (l1 : List (S67)) (r1 : List (S39)) (r2 : Int) (w : World) (hs0 : Kd.V k39 39 w w.heap.size (fun k_ => P0_ k_) (.slice A0 l0.length c0) l0) (hr1 : Kd.C k67 w A1 l1.length l1) (hc1 : l1.length ≤ c1) (h : strongroomref20_Apply.f k l0 l1 = some (r1, r2)) :
  Calls Tryd.prog 35 #[.slice A0 l0.length c0, .slice A1 l1.length c1] w fun e w' => ∃ v0_ : Value, e = .returned (.tuple #[v0_, .int .i64 r2]) ∧ Kd.V k39 39 w' w.heap.size (fun k_ => (P0_ k_ ∨ w.heap.size ≤ k_)) v0_ r1 ∧ Below w.heap.size w w' := by
 have hu67 := Tryd.underlying67
 have hu39 := Tryd.underlying39
 have HO0 := Aside0.mk (show Kd.V k39 39 w w.heap.size (fun k_ => (P0_ k_ ∨ w.heap.size ≤ k_)) (.slice A0 l0.length c0) l0 from Kd.V_mono hs0 (fun k_ hk => .inl hk))
 have HR1 := Aside0.mk hr1
 have HC1 := Aside0.mk hc1
 clear hr1 hc1
 have HB := Aside0.mk (Below.refl w.heap.size w)
 have H : ((strongroomref20_Why.f k l0).bind fun t245 => (if t245 = 0 then (strongroomref20_Apply.l0 k l0 l1 0) else (some (([] : List (S39)), t245)))) = some (r1, r2) := h
 clear h
 replace H := Option.bind_eq_some_iff.mp H
 obtain ⟨t245, A30, H⟩ := H
 replace H : (if t245 = 0 then (strongroomref20_Apply.l0 k l0 l1 0) else (some (([] : List (S39)), t245))) = some (r1, r2) := H
 have A3 := Aside0.mk A30
 clear A30
 by_cases c4 : t245 = 0
 case neg =>
  rw [if_neg c4] at H
  have c4b0 : (t245 == 0) = false := beq_eq_false_iff_ne.mpr c4
  have c4b1 : (t245 != 0) = true := bne_iff_ne.mpr c4
  simp only [Option.some.injEq, Prod.mk.injEq] at H
  obtain ⟨rfl, rfl⟩ := H
  go_enter Tryd.func35, Tryd.ntmps35
  go_wp2_with (first | ((with_reducible refine gate_callee (f := 16) rfl ?_); refine goesL_ (some 15) rfl rfl Tryd.func16 (by kernel_rfl) rfl #[.slice A0 l0.length c0] rfl m6_ ?_; (with_reducible refine (strongroomref20_Why.calls k _ _ l0 t245 _ ?side1 ?side2 A3.out).mono ?_); (case side1 => exact m22_); (case side2 => exact (Kd.V_reads' HO0.out).2.1); rintro e w106 ⟨rfl, hb⟩; refine ⟨_, rfl, ?_⟩; replace HO0 := Aside0.mk (Kd.V_below m17_ hb); replace HB := Aside0.mk (below_step m7_ hb); (try clear hb); (try clear hb2); (try clear hk); (try clear hi)))
  go_ret2
  exact ⟨_, by first | rfl | (simp [errW_none, errW_some] <;> rfl) | (simp [*, errW_none, errW_some] <;> rfl), Kd.V_mono (Kd.R_V (base := w.heap.size) (ok := fun k_ => w.heap.size ≤ k_) (by first | exact Kd.R_nil _ _ _ _ _ | exact Kd.N_nil _ _ _ _ _ | exact Kd.V_nil _ _ _ _ _ | exact Kd.Q_nil _ _ _ _ _ | exact Kd.S_nil _ _ _ _ _)) (fun k_ hk => by first | exact ⟨(.inr (hk.1)), hk.2⟩ | exact (.inr (hk))), m27_⟩
 rw [if_pos c4] at H
 have c4b0 : (t245 == 0) = true := beq_iff_eq.mpr c4
 have c4b1 : (t245 != 0) = false := bne_eq_false_iff_eq.mpr c4
 clear c4
 have H' := Aside0.mk H
 clear H
 go_enter Tryd.func35, Tryd.ntmps35
 go_wp2_with (first | ((with_reducible refine gate_callee (f := 16) rfl ?_); refine goesL_ (some 15) rfl rfl Tryd.func16 (by kernel_rfl) rfl #[.slice A0 l0.length c0] rfl m6_ ?_; (with_reducible refine (strongroomref20_Why.calls k _ _ l0 t245 _ ?side1 ?side2 A3.out).mono ?_); (case side1 => exact m22_); (case side2 => exact (Kd.V_reads' HO0.out).2.1); rintro e w5 ⟨rfl, hb⟩; refine ⟨_, rfl, ?_⟩; replace HO0 := Aside0.mk (Kd.V_below m17_ hb); replace HB := Aside0.mk (below_step m7_ hb); (try clear hb); (try clear hb2); (try clear hk); (try clear hi)))
 go_loopg [7] k (fun kq v7 w' => ∃ (x7_1 : Int), v7 = .int .i64 x7_1 ∧ Aside0 (strongroomref20_Apply.l0 kq l0 l1 x7_1 = some (r1, r2)) ∧ Aside0 (kq ≤ k) ∧ Aside0 (Kd.V k39 39 w' w.heap.size (fun k_ => (P0_ k_ ∨ w.heap.size ≤ k_)) (.slice A0 l0.length c0) l0) ∧ Aside0 (Below w.heap.size w w'))
 case atStart => exact ⟨(0), m19_, H', ⟨Nat.le_refl _⟩, ⟨by (with_reducible repeat (first | apply Kd.V_alloc | apply Kd.V_drewN | apply Kd.V_drew)); exact HO0.out⟩, ⟨m27_⟩⟩
 clear H'
 try clear c1; try clear p2; try clear c3; try clear c4; try clear c4b0; try clear c4b1
 obtain ⟨x7_1, rfl, HA, HK1, HO_0, HB⟩ := hrel
 cases gk with
 | zero => exact absurd HA.out (by simp [strongroomref20_Apply.l0])
 | succ k1 =>
  have H := HA.out
  clear HA
  simp only [strongroomref20_Apply.l0] at H
  by_cases c6 : x7_1 < (l1.length : Int)
  case neg =>
   rw [if_neg c6] at H
   have c6b0 : decide (x7_1 < (l1.length : Int)) = false := decide_eq_false c6
   clear c6
   have H' := Aside0.mk H
   clear H
   go_wp2
   go_loopg [9] k1 (fun kq v9 w' => ∃ (x9_2 : Int), v9 = .int .i64 x9_2 ∧ Aside0 (strongroomref20_Apply.l1 kq l0 l1 x9_2 = some (r1, r2)) ∧ Aside0 (kq ≤ k1) ∧ Aside0 (Kd.V k39 39 w' w.heap.size (fun k_ => (P0_ k_ ∨ w.heap.size ≤ k_)) (.slice A0 l0.length c0) l0) ∧ Aside0 (Below w.heap.size w w'))
   case atStart => exact ⟨(0), m19_, H', ⟨Nat.le_refl _⟩, ⟨by (with_reducible repeat (first | apply Kd.V_alloc | apply Kd.V_drewN | apply Kd.V_drew)); exact HO_0.out⟩, ⟨m27_⟩⟩
   clear H'
   try clear c1; try clear p2; try clear c5; try clear c6; try clear c6b0; try clear p6; try clear c7; try clear c12; try clear c51; try clear p64; try clear c70; try clear p2
   obtain ⟨x9_2, rfl, HA, HK2, HO_0, HB⟩ := hrel
   cases gk with
   | zero => exact absurd HA.out (by simp [strongroomref20_Apply.l1])
   | succ k2 =>
    have H := HA.out
    clear HA
    simp only [strongroomref20_Apply.l1] at H
    by_cases c71 : x9_2 < (l1.length : Int)
    ·rw [if_pos c71] at H
     have c71b0 : decide (x9_2 < (l1.length : Int)) = true := decide_eq_true c71
     clear c71
     by_cases c72 : 0 ≤ x9_2
     case neg =>
      rw [if_neg c72] at H
      exact absurd H (by simp)
     rw [if_pos c72] at H
     have c72b0 : decide (0 ≤ x9_2) = true := decide_eq_true c72
     clear c72
     replace H := Option.bind_eq_some_iff.mp H
     obtain ⟨t251, A730, H⟩ := H
     replace H : (if t251.toList = ((rd_T67 l1 x9_2).f1).toList then (strongroomref20_Apply.l1 k2 l0 l1 (wrap64 (x9_2 + 1))) else (some (([] : List (S39)), 8))) = some (r1, r2) := H
     have A73 := Aside0.mk A730
     clear A730
     by_cases c74 : t251.toList = ((rd_T67 l1 x9_2).f1).toList
     ·rw [if_pos c74] at H
      have c74b0 : (t251.toList == ((rd_T67 l1 x9_2).f1).toList) = true := beq_iff_eq.mpr c74
      have c74b1 : (t251.toList != ((rd_T67 l1 x9_2).f1).toList) = false := bne_eq_false_iff_eq.mpr c74
      clear c74
      have H' := Aside0.mk H
      clear H
      try go_wp2
      replace HO_0 := Aside0.mk (Kd.V_drew HO_0.out)
      replace HB := Aside0.mk (below_drew1 HB.out)
      have p250 : 0 ≤ (x9_2 : Int) := of_decide_eq_true m18_
      have q250 : x9_2 < (l1.length : Int) := of_decide_eq_true m18_
      obtain ⟨ad250, e250, hx250_0, hx250_1, hx250_2⟩ := at_T67 HR1.out x9_2 p250 q250
      have hw250_2 := hx250_2
      have hw250_1 := hx250_1
      have hw250_0 := hx250_0
      cases e250
      replace hx250_0 := (HB.out.cell (World.block_lt_of_cell? w _ hx250_0)).trans hx250_0
      replace hx250_1 := (HB.out.cell (World.block_lt_of_cell? w _ hx250_1)).trans hx250_1
      replace hx250_2 := (HB.out.cell (World.block_lt_of_cell? w _ hx250_2)).trans hx250_2
      replace p250 := eq_true p250
      replace q250 := eq_true q250
      have p252 : 0 ≤ (x9_2 : Int) := of_decide_eq_true m18_
      have q252 : x9_2 < (l1.length : Int) := of_decide_eq_true m18_
      obtain ⟨ad252, e252, hx252_0, hx252_1, hx252_2⟩ := at_T67 HR1.out x9_2 p252 q252
      have hw252_2 := hx252_2
      have hw252_1 := hx252_1
      have hw252_0 := hx252_0
      obtain rfl : ad250 = ad252 := (by injection e252)
      replace hx252_0 := (HB.out.cell (World.block_lt_of_cell? w _ hx252_0)).trans hx252_0
      replace hx252_1 := (HB.out.cell (World.block_lt_of_cell? w _ hx252_1)).trans hx252_1
      replace hx252_2 := (HB.out.cell (World.block_lt_of_cell? w _ hx252_2)).trans hx252_2
      replace p252 := eq_true p252
      replace q252 := eq_true q252
      refine start_ (n := 13) (S := fun w' => w'.cell? (ad250.add ((x9_2).toNat * 3)) = some (.string ((rd_T67 l1 x9_2).f0)) ∧ w'.cell? ⟨(ad250.add ((x9_2).toNat * 3)).block, (ad250.add ((x9_2).toNat * 3)).off + 1, none⟩ = some (.string ((rd_T67 l1 x9_2).f1)) ∧ w'.cell? ⟨(ad250.add ((x9_2).toNat * 3)).block, (ad250.add ((x9_2).toNat * 3)).off + 2, none⟩ = some (.string ((rd_T67 l1 x9_2).f2)) ∧ w'.cell? (ad250.add ((x9_2).toNat * 3)) = some (.string ((rd_T67 l1 x9_2).f0)) ∧ w'.cell? ⟨(ad250.add ((x9_2).toNat * 3)).block, (ad250.add ((x9_2).toNat * 3)).off + 1, none⟩ = some (.string ((rd_T67 l1 x9_2).f1)) ∧ w'.cell? ⟨(ad250.add ((x9_2).toNat * 3)).block, (ad250.add ((x9_2).toNat * 3)).off + 2, none⟩ = some (.string ((rd_T67 l1 x9_2).f2))) (ds := []) (Ra_ [0, 13]) (by kernel_rfl) rfl rfl ⟨((HB.out.cell (World.block_lt_of_cell? w _ hw250_0)).trans hw250_0), ((HB.out.cell (World.block_lt_of_cell? w _ hw250_1)).trans hw250_1), ((HB.out.cell (World.block_lt_of_cell? w _ hw250_2)).trans hw250_2), ((HB.out.cell (World.block_lt_of_cell? w _ hw252_0)).trans hw252_0), ((HB.out.cell (World.block_lt_of_cell? w _ hw252_1)).trans hw252_1), ((HB.out.cell (World.block_lt_of_cell? w _ hw252_2)).trans hw252_2)⟩ (fun hHeld => ?_); refine with_tabW strongroomref20_Apply.tab13 strongroomref20_Apply.bits13 (fun HT_ HW_ => ?_)
      generalize wr.drew = w75 at HO_0 HB hx250_0 hx250_1 hx250_2 hx252_0 hx252_1 hx252_2 hHeld ⊢
      refine pI_ 0 (some 84) (Ra_ [1, 12]) (h := ?_)
      refine pI_ 1 (some 85) (Ra_ [2, 11]) (h := ?_)
      refine pI_ 2 (some 86) (Ra_ [3, 10]) (h := ?_)
      refine pI_ 3 (some 87) (Ra_ [4, 9]) (h := ?_)
      refine pI_ 4 (some 88) (Ra_ [5, 8]) (h := ?_)
      refine pI_ 7 (some 91) (Ra_ [5, 2, 1, 5]) (h := ?_)
      refine pI_ 8 (some 92) (Ra_ [5, 2, 2, 4]) (h := ?_)
      refine pI_ 9 (some 93) (Ra_ [5, 2, 3, 3]) (h := ?_)
      refine pI_ 10 (some 94) (Ra_ [5, 2, 4, 2]) (h := ?_)
      refine tI6_ 5 (some 89) (Ra_ [6, 1, 4, 2]) (h := ?_)
      refine tI6_ 11 (some 95) (Ra_ [6, 1, 5, 1]) (h := ?_)
      refine one_ (i := 6) (N := some 90) (Ra_ [12, 1]) rfl rfl (one_of HT_.out (by kernel_rfl)) (by decide) (fun K hK => ?_)
      refine goes_ Tryd.func56 (by kernel_rfl) rfl #[.slice A0 l0.length c0, .string ((rd_T67 l1 x9_2).f0)] (by rfl) rfl rfl m6_ ?_
      with_reducible refine (strongroomref20_sumOf.calls k2 _ _ l0 ((rd_T67 l1 x9_2).f0) t251 _ ?side1 ?side2 A73.out).mono ?_
      (case side1 => exact m21_)
      (case side2 => exact (Kd.V_reads' HO_0.out).2.1)
      rintro e w' ⟨rfl, ⟨nd, rfl⟩⟩
      refine ⟨_, rfl, ?_⟩
      refine hK.out _ _ ⟨((HB.out.cell (World.block_lt_of_cell? w _ hw250_0)).trans hw250_0), ((HB.out.cell (World.block_lt_of_cell? w _ hw250_1)).trans hw250_1), ((HB.out.cell (World.block_lt_of_cell? w _ hw250_2)).trans hw250_2), ((HB.out.cell (World.block_lt_of_cell? w _ hw252_0)).trans hw252_0), ((HB.out.cell (World.block_lt_of_cell? w _ hw252_1)).trans hw252_1), ((HB.out.cell (World.block_lt_of_cell? w _ hw252_2)).trans hw252_2)⟩ (fun hHeld => ?_)
      clear hK K
      refine norm_ (a' := ?_) ?_ ?_
      rotate_left
      ·show Act.put _ (some 90) _ = _
       simp only [Act.put, sA_, sB_, sC_, i64_w, i32_w]
       rfl
      refine pI_ 12 (some 96) (Ra_ [13]) (h := ?_)
      refine done_ (done_of HT_.out (by kernel_rfl)) ?_
      try go_wp2
      go_roundg k2
      case measure => have := HK1.out; have := HK2.out; omega
      case rel => exact ⟨(wrap64 (x9_2 + 1)), m19_, H', ⟨by have := HK1.out; have := HK2.out; omega⟩, ⟨by (with_reducible repeat (first | apply Kd.V_alloc | apply Kd.V_drewN | apply Kd.V_drew)); exact HO_0.out⟩, ⟨m27_⟩⟩
     rw [if_neg c74] at H
     have c74b0 : (t251.toList == ((rd_T67 l1 x9_2).f1).toList) = false := beq_eq_false_iff_ne.mpr c74
     have c74b1 : (t251.toList != ((rd_T67 l1 x9_2).f1).toList) = true := bne_iff_ne.mpr c74
     simp only [Option.some.injEq, Prod.mk.injEq] at H
     obtain ⟨rfl, rfl⟩ := H
     try go_wp2
     replace HO_0 := Aside0.mk (Kd.V_drew HO_0.out)
     replace HB := Aside0.mk (below_drew1 HB.out)
     have p250 : 0 ≤ (x9_2 : Int) := of_decide_eq_true m18_
     have q250 : x9_2 < (l1.length : Int) := of_decide_eq_true m18_
     obtain ⟨ad250, e250, hx250_0, hx250_1, hx250_2⟩ := at_T67 HR1.out x9_2 p250 q250
     have hw250_2 := hx250_2
     have hw250_1 := hx250_1
     have hw250_0 := hx250_0
     cases e250
     replace hx250_0 := (HB.out.cell (World.block_lt_of_cell? w _ hx250_0)).trans hx250_0
     replace hx250_1 := (HB.out.cell (World.block_lt_of_cell? w _ hx250_1)).trans hx250_1
     replace hx250_2 := (HB.out.cell (World.block_lt_of_cell? w _ hx250_2)).trans hx250_2
     replace p250 := eq_true p250
     replace q250 := eq_true q250
     have p252 : 0 ≤ (x9_2 : Int) := of_decide_eq_true m18_
     have q252 : x9_2 < (l1.length : Int) := of_decide_eq_true m18_
     obtain ⟨ad252, e252, hx252_0, hx252_1, hx252_2⟩ := at_T67 HR1.out x9_2 p252 q252
     have hw252_2 := hx252_2
     have hw252_1 := hx252_1
     have hw252_0 := hx252_0
     obtain rfl : ad250 = ad252 := (by injection e252)
     replace hx252_0 := (HB.out.cell (World.block_lt_of_cell? w _ hx252_0)).trans hx252_0
     replace hx252_1 := (HB.out.cell (World.block_lt_of_cell? w _ hx252_1)).trans hx252_1
     replace hx252_2 := (HB.out.cell (World.block_lt_of_cell? w _ hx252_2)).trans hx252_2
     replace p252 := eq_true p252
     replace q252 := eq_true q252
     refine start_ (n := 13) (S := fun w' => w'.cell? (ad250.add ((x9_2).toNat * 3)) = some (.string ((rd_T67 l1 x9_2).f0)) ∧ w'.cell? ⟨(ad250.add ((x9_2).toNat * 3)).block, (ad250.add ((x9_2).toNat * 3)).off + 1, none⟩ = some (.string ((rd_T67 l1 x9_2).f1)) ∧ w'.cell? ⟨(ad250.add ((x9_2).toNat * 3)).block, (ad250.add ((x9_2).toNat * 3)).off + 2, none⟩ = some (.string ((rd_T67 l1 x9_2).f2)) ∧ w'.cell? (ad250.add ((x9_2).toNat * 3)) = some (.string ((rd_T67 l1 x9_2).f0)) ∧ w'.cell? ⟨(ad250.add ((x9_2).toNat * 3)).block, (ad250.add ((x9_2).toNat * 3)).off + 1, none⟩ = some (.string ((rd_T67 l1 x9_2).f1)) ∧ w'.cell? ⟨(ad250.add ((x9_2).toNat * 3)).block, (ad250.add ((x9_2).toNat * 3)).off + 2, none⟩ = some (.string ((rd_T67 l1 x9_2).f2))) (ds := []) (Ra_ [0, 13]) (by kernel_rfl) rfl rfl ⟨((HB.out.cell (World.block_lt_of_cell? w _ hw250_0)).trans hw250_0), ((HB.out.cell (World.block_lt_of_cell? w _ hw250_1)).trans hw250_1), ((HB.out.cell (World.block_lt_of_cell? w _ hw250_2)).trans hw250_2), ((HB.out.cell (World.block_lt_of_cell? w _ hw252_0)).trans hw252_0), ((HB.out.cell (World.block_lt_of_cell? w _ hw252_1)).trans hw252_1), ((HB.out.cell (World.block_lt_of_cell? w _ hw252_2)).trans hw252_2)⟩ (fun hHeld => ?_); refine with_tabW strongroomref20_Apply.tab13 strongroomref20_Apply.bits13 (fun HT_ HW_ => ?_)
     generalize wr.drew = w76 at HO_0 HB hx250_0 hx250_1 hx250_2 hx252_0 hx252_1 hx252_2 hHeld ⊢
     refine pI_ 0 (some 84) (Ra_ [1, 12]) (h := ?_)
     refine pI_ 1 (some 85) (Ra_ [2, 11]) (h := ?_)
     refine pI_ 2 (some 86) (Ra_ [3, 10]) (h := ?_)
     refine pI_ 3 (some 87) (Ra_ [4, 9]) (h := ?_)
     refine pI_ 4 (some 88) (Ra_ [5, 8]) (h := ?_)
     refine pI_ 7 (some 91) (Ra_ [5, 2, 1, 5]) (h := ?_)
     refine pI_ 8 (some 92) (Ra_ [5, 2, 2, 4]) (h := ?_)
     refine pI_ 9 (some 93) (Ra_ [5, 2, 3, 3]) (h := ?_)
     refine pI_ 10 (some 94) (Ra_ [5, 2, 4, 2]) (h := ?_)
     refine tI6_ 5 (some 89) (Ra_ [6, 1, 4, 2]) (h := ?_)
     refine tI6_ 11 (some 95) (Ra_ [6, 1, 5, 1]) (h := ?_)
     refine one_ (i := 6) (N := some 90) (Ra_ [12, 1]) rfl rfl (one_of HT_.out (by kernel_rfl)) (by decide) (fun K hK => ?_)
     refine goes_ Tryd.func56 (by kernel_rfl) rfl #[.slice A0 l0.length c0, .string ((rd_T67 l1 x9_2).f0)] (by rfl) rfl rfl m6_ ?_
     with_reducible refine (strongroomref20_sumOf.calls k2 _ _ l0 ((rd_T67 l1 x9_2).f0) t251 _ ?side1 ?side2 A73.out).mono ?_
     (case side1 => exact m21_)
     (case side2 => exact (Kd.V_reads' HO_0.out).2.1)
     rintro e w' ⟨rfl, ⟨nd, rfl⟩⟩
     refine ⟨_, rfl, ?_⟩
     refine hK.out _ _ ⟨((HB.out.cell (World.block_lt_of_cell? w _ hw250_0)).trans hw250_0), ((HB.out.cell (World.block_lt_of_cell? w _ hw250_1)).trans hw250_1), ((HB.out.cell (World.block_lt_of_cell? w _ hw250_2)).trans hw250_2), ((HB.out.cell (World.block_lt_of_cell? w _ hw252_0)).trans hw252_0), ((HB.out.cell (World.block_lt_of_cell? w _ hw252_1)).trans hw252_1), ((HB.out.cell (World.block_lt_of_cell? w _ hw252_2)).trans hw252_2)⟩ (fun hHeld => ?_)
     clear hK K
     refine norm_ (a' := ?_) ?_ ?_
     rotate_left
     ·show Act.put _ (some 90) _ = _
      simp only [Act.put, sA_, sB_, sC_, i64_w, i32_w]
      rfl
     refine pI_ 12 (some 96) (Ra_ [13]) (h := ?_)
     refine done_ (done_of HT_.out (by kernel_rfl)) ?_
     try go_wp2
     go_ret2
     exact ⟨_, by first | rfl | (simp [errW_none, errW_some] <;> rfl) | (simp [*, errW_none, errW_some] <;> rfl), Kd.V_mono (Kd.R_V (base := w.heap.size) (ok := fun k_ => w.heap.size ≤ k_) (by first | exact Kd.R_nil _ _ _ _ _ | exact Kd.N_nil _ _ _ _ _ | exact Kd.V_nil _ _ _ _ _ | exact Kd.Q_nil _ _ _ _ _ | exact Kd.S_nil _ _ _ _ _)) (fun k_ hk => by first | exact ⟨(.inr (hk.1)), hk.2⟩ | exact (.inr (hk))), m27_⟩
    rw [if_neg c71] at H
    have c71b0 : decide (x9_2 < (l1.length : Int)) = false := decide_eq_false c71
    clear c71
    have H' := Aside0.mk H
    clear H
    go_wp2
    go_loopg [0, 10] k2 (fun kq v0 v10 w' => ∃ (x0_3 : List (S39)) (x10_3 : Int), v10 = .int .i64 x10_3 ∧ Aside0 (strongroomref20_Apply.l2 kq x0_3 l1 x10_3 = some (r1, r2)) ∧ Aside0 (kq ≤ k2) ∧ Aside0 (Kd.V k39 39 w' w.heap.size (fun k_ => (P0_ k_ ∨ w.heap.size ≤ k_)) v0 x0_3) ∧ Aside0 (Below w.heap.size w w'))
    case atStart => exact ⟨(l0), (0), m19_, H', ⟨Nat.le_refl _⟩, ⟨by (with_reducible repeat (first | apply Kd.V_alloc | apply Kd.V_drewN | apply Kd.V_drew)); exact HO_0.out⟩, ⟨m27_⟩⟩
    clear H'
    try clear c1; try clear p2; try clear q2; try clear hx2; try clear c5; try clear c6; try clear c6b0; try clear p6; try clear c7; try clear c12; try clear p25; try clear q25; try clear hx25; try clear c51; try clear c56; try clear p64; try clear c70; try clear c71; try clear c71b0; try clear c72; try clear c72b0; try clear c74; try clear c74b0; try clear c74b1; try clear hx250_0; try clear hx250_1; try clear hx250_2; try clear hx252_0; try clear hx252_1; try clear hx252_2; try clear p2; try clear p250; try clear p252; try clear p6; try clear p64; try clear q250; try clear q252
    obtain ⟨x0_3, x10_3, rfl, HA, HK3, HO_0, HB⟩ := hrel
    cases gk with
    | zero => exact absurd HA.out (by simp [strongroomref20_Apply.l2])
    | succ k3 =>
     have H := HA.out
     clear HA
     simp only [strongroomref20_Apply.l2] at H
     by_cases c77 : x10_3 < (l1.length : Int)
     case neg =>
      rw [if_neg c77] at H
      have c77b0 : decide (x10_3 < (l1.length : Int)) = false := decide_eq_false c77
      clear c77
      by_cases c103 : (x0_3.length : Int) > 1024
      case neg =>
       rw [if_neg c103] at H
       have c103b0 : decide (1024 < (x0_3.length : Int)) = false := decide_eq_false c103
       have c103b1 : decide (1024 < x0_3.length) = false := decide_eq_false (by omega)
       clear c103
       simp only [Option.some.injEq, Prod.mk.injEq] at H
       obtain ⟨rfl, rfl⟩ := H
       obtain ⟨Ao105, co105, eo105⟩ := Kd.V_slice HO_0.out
       subst eo105
       go_wp2
       go_ret2
       exact ⟨_, by first | rfl | (simp [errW_none, errW_some] <;> rfl) | (simp [*, errW_none, errW_some] <;> rfl), by (with_reducible repeat (first | apply Kd.V_alloc | apply Kd.V_drewN | apply Kd.V_drew)); exact HO_0.out, m27_⟩
      rw [if_pos c103] at H
      have c103b0 : decide (1024 < (x0_3.length : Int)) = true := decide_eq_true c103
      have c103b1 : decide (1024 < x0_3.length) = true := decide_eq_true (by omega)
      clear c103
      simp only [Option.some.injEq, Prod.mk.injEq] at H
      obtain ⟨rfl, rfl⟩ := H
      obtain ⟨Ao104, co104, eo104⟩ := Kd.V_slice HO_0.out
      subst eo104
      go_wp2
      go_ret2
      exact ⟨_, by first | rfl | (simp [errW_none, errW_some] <;> rfl) | (simp [*, errW_none, errW_some] <;> rfl), Kd.V_mono (Kd.R_V (base := w.heap.size) (ok := fun k_ => w.heap.size ≤ k_) (by first | exact Kd.R_nil _ _ _ _ _ | exact Kd.N_nil _ _ _ _ _ | exact Kd.V_nil _ _ _ _ _ | exact Kd.Q_nil _ _ _ _ _ | exact Kd.S_nil _ _ _ _ _)) (fun k_ hk => by first | exact ⟨(.inr (hk.1)), hk.2⟩ | exact (.inr (hk))), m27_⟩
     rw [if_pos c77] at H
     have c77b0 : decide (x10_3 < (l1.length : Int)) = true := decide_eq_true c77
     clear c77
     by_cases c78 : 0 ≤ x10_3
     case neg =>
      rw [if_neg c78] at H
      exact absurd H (by simp)
     rw [if_pos c78] at H
     have c78b0 : decide (0 ≤ x10_3) = true := decide_eq_true c78
     clear c78
     replace H := Option.bind_eq_some_iff.mp H
     obtain ⟨⟨t254, t255⟩, A790, H⟩ := H
     replace H : (if 0 ≤ t254 then (if t254 ≤ (x0_3.length : Int) then ((some (x0_3.take (t254 : Int).toNat : List (S39))).bind fun y256 => (if ([] : List (S39)).length + y256.length < 4398046511104 then ((some (([] : List (S39)) ++ y256 : List (S39))).bind fun y261 => (if ((rd_T67 l1 x10_3).f2).toList = ([] : List UInt8) then (strongroomref20_Apply.j4 k3 x0_3 l1 x10_3 t254 t255 y261) else (if y261.length < 4398046511104 then (strongroomref20_Apply.j4 k3 x0_3 l1 x10_3 t254 t255 (y261 ++ [(⟨(rd_T67 l1 x10_3).f0, (rd_T67 l1 x10_3).f2⟩ : S39)])) else (none)))) else (none))) else (none)) else (none)) = some (r1, r2) := H
     have A79 := Aside0.mk A790
     clear A790
     by_cases c80 : 0 ≤ t254
     case neg =>
      rw [if_neg c80] at H
      exact absurd H (by simp)
     rw [if_pos c80] at H
     have c80b0 := eq_true c80
     have c80b1 : decide (0 ≤ t254) = true := decide_eq_true c80
     clear c80
     by_cases c81 : t254 ≤ (x0_3.length : Int)
     case neg =>
      rw [if_neg c81] at H
      exact absurd H (by simp)
     rw [if_pos c81] at H
     have c81b0 := eq_true c81
     have c81b1 : decide (t254 ≤ (x0_3.length : Int)) = true := decide_eq_true c81
     clear c81
     obtain ⟨y256, hy256⟩ : ∃ y_ : List (S39), y_ = (x0_3.take (t254 : Int).toNat) := ⟨_, rfl⟩
     replace H : (if ([] : List (S39)).length + y256.length < 4398046511104 then ((some (([] : List (S39)) ++ y256 : List (S39))).bind fun y261 => (if ((rd_T67 l1 x10_3).f2).toList = ([] : List UInt8) then (strongroomref20_Apply.j4 k3 x0_3 l1 x10_3 t254 t255 y261) else (if y261.length < 4398046511104 then (strongroomref20_Apply.j4 k3 x0_3 l1 x10_3 t254 t255 (y261 ++ [(⟨(rd_T67 l1 x10_3).f0, (rd_T67 l1 x10_3).f2⟩ : S39)])) else (none)))) else (none)) = some (r1, r2) := by first | (rw [hy256]; with_reducible exact H) | (have H2_ := (Option.bind_some _ _).symm.trans H; rw [hy256]; with_reducible exact H2_) | (have H2_ := (Option.bind_some _ _).symm.trans H; with_reducible exact H2_) | with_reducible exact H | (rw [hy256]; exact H) | exact H
     have Ny256 := Aside0.mk hy256
     clear hy256
     by_cases c82 : ([] : List (S39)).length + y256.length < 4398046511104
     case neg =>
      rw [if_neg c82] at H
      exact absurd H (by simp)
     rw [if_pos c82] at H
     have LMc82 := Aside0.mk c82
     clear c82
     obtain ⟨y261, hy261⟩ : ∃ y_ : List (S39), y_ = (([] : List (S39)) ++ y256) := ⟨_, rfl⟩
     replace H : (if ((rd_T67 l1 x10_3).f2).toList = ([] : List UInt8) then (strongroomref20_Apply.j4 k3 x0_3 l1 x10_3 t254 t255 y261) else (if y261.length < 4398046511104 then (strongroomref20_Apply.j4 k3 x0_3 l1 x10_3 t254 t255 (y261 ++ [(⟨(rd_T67 l1 x10_3).f0, (rd_T67 l1 x10_3).f2⟩ : S39)])) else (none))) = some (r1, r2) := by first | (rw [hy261]; with_reducible exact H) | (have H2_ := (Option.bind_some _ _).symm.trans H; rw [hy261]; with_reducible exact H2_) | (have H2_ := (Option.bind_some _ _).symm.trans H; with_reducible exact H2_) | with_reducible exact H | (rw [hy261]; exact H) | exact H
     have Ny261 := Aside0.mk hy261
     clear hy261
     have HC83 := Aside0.mk H
     clear H
     have p253 : 0 ≤ (x10_3 : Int) := of_decide_eq_true m18_
     have q253 : x10_3 < (l1.length : Int) := of_decide_eq_true m18_
     obtain ⟨ad253, e253, hx253_0, hx253_1, hx253_2⟩ := at_T67 HR1.out x10_3 p253 q253
     cases e253
     replace hx253_0 := (HB.out.cell (World.block_lt_of_cell? w _ hx253_0)).trans hx253_0
     replace hx253_1 := (HB.out.cell (World.block_lt_of_cell? w _ hx253_1)).trans hx253_1
     replace hx253_2 := (HB.out.cell (World.block_lt_of_cell? w _ hx253_2)).trans hx253_2
     replace p253 := eq_true p253
     replace q253 := eq_true q253
     obtain ⟨Ao84, co84, eo84⟩ := Kd.V_slice HO_0.out
     subst eo84
     go_upto_if 123 with (first | ((with_reducible refine gate_callee (f := 40) rfl ?_); refine goesL_ (some 110) rfl rfl Tryd.func40 (by kernel_rfl) rfl #[.slice Ao84 x0_3.length co84, .string ((rd_T67 l1 x10_3).f0)] rfl m6_ ?_; (with_reducible refine (strongroomref20_Find.calls k3 _ _ x0_3 ((rd_T67 l1 x10_3).f0) t254 t255 _ ?side1 ?side2 A79.out).mono ?_); (case side1 => exact m21_); (case side2 => exact (Kd.V_reads' HO_0.out).2.1); rintro e w' ⟨rfl, ⟨nd, rfl⟩⟩; refine ⟨_, rfl, ?_⟩; have q85 : (t254 : Int) ≤ ((x0_3.length : Int) : Int) := of_decide_eq_true m18_; obtain ⟨i085, hi085, _, hsz85, _⟩ := info_parts info39; have hroom85 : x0_3.length ≤ co84 := (Kd.V_reads' HO_0.out).2.1; have hC85 : Kd.F k39 _ _ Ao84 x0_3.length x0_3 := (Kd.V_at (base := w.heap.size) HO_0.out).2.2; have hcut85 := cut_to (P := Tryd.prog) 22 39 .i64 Tryd.underlying22 hi085 Ao84 x0_3.length co84 t254 (of_decide_eq_true m18_) q85 hroom85; have hr85 := Kd.F_take (m := (t254 : Int).toNat) hC85 (by omega); have hy85 : y256.length = (t254 : Int).toNat := (by rw [Ny256.out, List.length_take]; omega); rw [← Ny256.out] at hr85; rw [← hy85] at hcut85; have HO260 := Aside0.mk (show Kd.V k39 39 _ w.heap.size _ (.slice Ao84 y256.length co84) y256 from Kd.V_mk (by omega) hr85); have HC260 := Aside0.mk (show y256.length ≤ co84 from by omega); clear hr85 hC85 hroom85 hi085 hsz85; have KY85 := Aside0.mk hy85; clear hy85; replace q85 := eq_true q85) | ((with_reducible refine gate_builtin (b := .append) (xs := #[.tmp 113, .tmp 116]) rfl ?_); (try (refine gate_guard (by rfl) ?_; dsimp only)); at_builtin; refine Kd.R_append_rows k39 (w0 := w) w.heap.size rfl (.tmp 113) (.tmp 116) 22 39 (.agg #[(.string ⟨#[]⟩), (.string ⟨#[]⟩)]) 32 rfl Tryd.underlying22 info39 rfl (by decide) (by omega) (.slice none 0 0) ([] : List (S39)) y256 _ _ _ (fun k_ => (w.heap.size ≤ k_)) (fun _ => False) rfl rfl ?aO ?aR (fun _ _ h => h) (fun _ h => h.elim) ?aF ?aB ?aS ?aL ?_; (case aR => repeat (first | exact (Kd.V_reads' HO260.out).2.2 | (with_reducible refine Kd.C_alloc ?_ _) | (with_reducible refine Kd.C_drewN ?_ _) | (with_reducible refine Kd.C_drew ?_))); (case aB => exact m7_); (case aF => exact (fun k_ hk => (Nat.le_trans (below_size m7_) hk))); (case aO => exact ((Kd.R_nil _ _ _ _ (fun k_ => (w.heap.size ≤ k_))))); (case aS => exact (below_size m7_)); (case aL => have := LMc82.out; omega); intro v262 w86 ho hb hg hat; rw [← Ny261.out] at ho; have n0_ := Aside0.mk (Kd.V_afterv (Kd.V_apart_nil m14_) hg hat); have n1_ := Aside0.mk (Kd.V_afterv (Kd.V_apart_nil (by (with_reducible repeat (first | apply Kd.V_alloc | apply Kd.V_drewN | apply Kd.V_drew)); exact HO260.out)) hg hat); have n2_ := Aside0.mk (hb); have n3_ := Aside0.mk (ho); clear HO_0; clear HO260; clear HB; have HO_0 := n0_; have HO260 := n1_; have HB := n2_; have HO263 := n3_; clear n0_ n1_ n2_ n3_; clear ho hb hg hat; have p264 : 0 ≤ (x10_3 : Int) := of_decide_eq_true m18_; have q264 : x10_3 < (l1.length : Int) := of_decide_eq_true m18_; obtain ⟨ad264, e264, hx264_0, hx264_1, hx264_2⟩ := at_T67 HR1.out x10_3 p264 q264; obtain rfl : ad253 = ad264 := (by injection e264); replace hx264_0 := (HB.out.cell (World.block_lt_of_cell? w _ hx264_0)).trans hx264_0; replace hx264_1 := (HB.out.cell (World.block_lt_of_cell? w _ hx264_1)).trans hx264_1; replace hx264_2 := (HB.out.cell (World.block_lt_of_cell? w _ hx264_2)).trans hx264_2; replace p264 := eq_true p264; replace q264 := eq_true q264))
     (try simp only [Act.put, List.setIfInBounds_toArray, List.set_cons_zero, List.set_cons_succ])
     go_cut [13] (fun v13 wc => ∃ (kq : Nat) (x13_82 : List (S39)), Aside0 (strongroomref20_Apply.j4 kq x0_3 l1 x10_3 t254 t255 x13_82 = some (r1, r2)) ∧ Aside0 (kq ≤ k3) ∧ Aside0 (Kd.V k39 39 wc w.heap.size (fun k_ => (P0_ k_ ∨ w.heap.size ≤ k_) ∧ some k_ ≠ (v13 : Value).ownBlock) (.slice Ao84 x0_3.length co84) x0_3) ∧ Aside0 (Kd.R k39 39 wc w.heap.size (fun k_ => (w.heap.size ≤ k_)) v13 x13_82) ∧ Aside0 (Below w.heap.size w wc))
     case first =>
      have H := HC83.out
      clear HC83
      by_cases c87 : ((rd_T67 l1 x10_3).f2).toList = ([] : List UInt8)
      ·rw [if_pos c87] at H
       have c87b0 : (((rd_T67 l1 x10_3).f2).toList == ([] : List UInt8)) = true := beq_iff_eq.mpr c87
       have c87b1 : (((rd_T67 l1 x10_3).f2).toList != ([] : List UInt8)) = false := bne_eq_false_iff_eq.mpr c87
       have c87b2 : (!(((rd_T67 l1 x10_3).f2).toList.isEmpty)) = false := by simpa using c87b0
       clear c87
       (first | rw [c87b2] | rw [c87b0] | (simp only [i64_w, i32_w]; rw [c87b0]) | skip)
       have H' := Aside0.mk H
       clear H
       go_wp2
       go_meet
       case rel => exact ⟨_, (y261), H', ⟨by have := HK1.out; have := HK2.out; have := HK3.out; first | omega | exact Nat.le_refl _⟩, ⟨by (with_reducible repeat (first | apply Kd.V_alloc | apply Kd.V_drewN | apply Kd.V_drew)); exact HO_0.out⟩, ⟨by (with_reducible repeat (first | apply Kd.R_alloc | apply Kd.R_drewN | apply Kd.R_drew)); exact HO263.out⟩, ⟨m27_⟩⟩
      rw [if_neg c87] at H
      have c87b0 : (((rd_T67 l1 x10_3).f2).toList == ([] : List UInt8)) = false := beq_eq_false_iff_ne.mpr c87
      have c87b1 : (((rd_T67 l1 x10_3).f2).toList != ([] : List UInt8)) = true := bne_iff_ne.mpr c87
      have c87b2 : (!(((rd_T67 l1 x10_3).f2).toList.isEmpty)) = true := by simpa using c87b0
      (first | rw [c87b2] | rw [c87b0] | (simp only [i64_w, i32_w]; rw [c87b0]) | skip)
      by_cases c88 : y261.length < 4398046511104
      case neg =>
       rw [if_neg c88] at H
       exact absurd H (by simp)
      rw [if_pos c88] at H
      have LMc88 := Aside0.mk c88
      clear c88
      obtain ⟨y267, hy267⟩ : ∃ y_ : List (S39), y_ = (y261 ++ [(⟨(rd_T67 l1 x10_3).f0, (rd_T67 l1 x10_3).f2⟩ : S39)]) := ⟨_, rfl⟩
      replace H : (strongroomref20_Apply.j4 k3 x0_3 l1 x10_3 t254 t255 y267) = some (r1, r2) := by first | (rw [hy267]; with_reducible exact H) | (have H2_ := (Option.bind_some _ _).symm.trans H; rw [hy267]; with_reducible exact H2_) | (have H2_ := (Option.bind_some _ _).symm.trans H; with_reducible exact H2_) | with_reducible exact H | (rw [hy267]; exact H) | exact H
      have Ny267 := Aside0.mk hy267
      clear hy267
      have H' := Aside0.mk H
      clear H
      try go_wp2
      replace HO_0 := Aside0.mk (Kd.V_drew HO_0.out)
      replace HO260 := Aside0.mk (Kd.V_drew HO260.out)
      replace HO263 := Aside0.mk (Kd.R_drew HO263.out)
      replace HB := Aside0.mk (below_drew1 HB.out)
      have p265 : 0 ≤ (x10_3 : Int) := of_decide_eq_true m18_
      have q265 : x10_3 < (l1.length : Int) := of_decide_eq_true m18_
      obtain ⟨ad265, e265, hx265_0, hx265_1, hx265_2⟩ := at_T67 HR1.out x10_3 p265 q265
      have hw265_2 := hx265_2
      have hw265_1 := hx265_1
      have hw265_0 := hx265_0
      obtain rfl : ad253 = ad265 := (by injection e265)
      replace hx265_0 := (HB.out.cell (World.block_lt_of_cell? w _ hx265_0)).trans hx265_0
      replace hx265_1 := (HB.out.cell (World.block_lt_of_cell? w _ hx265_1)).trans hx265_1
      replace hx265_2 := (HB.out.cell (World.block_lt_of_cell? w _ hx265_2)).trans hx265_2
      replace p265 := eq_true p265
      replace q265 := eq_true q265
      have p266 : 0 ≤ (x10_3 : Int) := of_decide_eq_true m18_
      have q266 : x10_3 < (l1.length : Int) := of_decide_eq_true m18_
      obtain ⟨ad266, e266, hx266_0, hx266_1, hx266_2⟩ := at_T67 HR1.out x10_3 p266 q266
      have hw266_2 := hx266_2
      have hw266_1 := hx266_1
      have hw266_0 := hx266_0
      obtain rfl : ad253 = ad266 := (by injection e266)
      replace hx266_0 := (HB.out.cell (World.block_lt_of_cell? w _ hx266_0)).trans hx266_0
      replace hx266_1 := (HB.out.cell (World.block_lt_of_cell? w _ hx266_1)).trans hx266_1
      replace hx266_2 := (HB.out.cell (World.block_lt_of_cell? w _ hx266_2)).trans hx266_2
      replace p266 := eq_true p266
      replace q266 := eq_true q266
      refine start_ (n := 15) (S := fun w' => w'.cell? (ad253.add ((x10_3).toNat * 3)) = some (.string ((rd_T67 l1 x10_3).f0)) ∧ w'.cell? ⟨(ad253.add ((x10_3).toNat * 3)).block, (ad253.add ((x10_3).toNat * 3)).off + 1, none⟩ = some (.string ((rd_T67 l1 x10_3).f1)) ∧ w'.cell? ⟨(ad253.add ((x10_3).toNat * 3)).block, (ad253.add ((x10_3).toNat * 3)).off + 2, none⟩ = some (.string ((rd_T67 l1 x10_3).f2)) ∧ w'.cell? (ad253.add ((x10_3).toNat * 3)) = some (.string ((rd_T67 l1 x10_3).f0)) ∧ w'.cell? ⟨(ad253.add ((x10_3).toNat * 3)).block, (ad253.add ((x10_3).toNat * 3)).off + 1, none⟩ = some (.string ((rd_T67 l1 x10_3).f1)) ∧ w'.cell? ⟨(ad253.add ((x10_3).toNat * 3)).block, (ad253.add ((x10_3).toNat * 3)).off + 2, none⟩ = some (.string ((rd_T67 l1 x10_3).f2))) (ds := []) (Ra_ [0, 15]) (by kernel_rfl) rfl rfl ⟨((HB.out.cell (World.block_lt_of_cell? w _ hw265_0)).trans hw265_0), ((HB.out.cell (World.block_lt_of_cell? w _ hw265_1)).trans hw265_1), ((HB.out.cell (World.block_lt_of_cell? w _ hw265_2)).trans hw265_2), ((HB.out.cell (World.block_lt_of_cell? w _ hw266_0)).trans hw266_0), ((HB.out.cell (World.block_lt_of_cell? w _ hw266_1)).trans hw266_1), ((HB.out.cell (World.block_lt_of_cell? w _ hw266_2)).trans hw266_2)⟩ (fun hHeld => ?_); refine with_tabW strongroomref20_Apply.tab22 strongroomref20_Apply.bits22 (fun HT_ HW_ => ?_)
      generalize w86.drew = w89 at HO_0 HO260 HO263 HB hx265_0 hx265_1 hx265_2 hx266_0 hx266_1 hx266_2 hHeld ⊢
      refine pI_ 0 (some 124) (Ra_ [1, 14]) (h := ?_)
      refine pI_ 1 (some 125) (Ra_ [2, 13]) (h := ?_)
      refine pI_ 2 (some 126) (Ra_ [3, 12]) (h := ?_)
      refine pI_ 3 (some 127) (Ra_ [4, 11]) (h := ?_)
      refine pI_ 4 (some 128) (Ra_ [5, 10]) (h := ?_)
      refine pI_ 6 (some 130) (Ra_ [5, 1, 1, 8]) (h := ?_)
      refine pI_ 7 (some 131) (Ra_ [5, 1, 2, 7]) (h := ?_)
      refine pI_ 8 (some 132) (Ra_ [5, 1, 3, 6]) (h := ?_)
      refine pI_ 9 (some 133) (Ra_ [5, 1, 4, 5]) (h := ?_)
      refine tI6_ 5 (some 129) (Ra_ [10, 5]) (h := ?_)
      refine tI6_ 10 (some 134) (Ra_ [11, 4]) (h := ?_)
      refine pI_ 11 (some 135) (Ra_ [12, 3]) (h := ?_)
      refine one_ (i := 12) (N := some 136) (Ra_ [13, 2]) rfl rfl (one_of HT_.out (by kernel_rfl)) (by decide) (fun K hK => ?_)
      refine value_ (w1 := ?_) (v := ?_) (by rfl) rfl ?_ ?_
      rotate_left 2
      ·go_simp
       constructor
       ·rfl
       rfl
      refine hK.out _ _ ⟨(World.cell?_alloc_lt _ _ _ (World.block_lt_of_cell? _ _ (((HB.out.cell (World.block_lt_of_cell? w _ hw265_0)).trans hw265_0)))).trans (((HB.out.cell (World.block_lt_of_cell? w _ hw265_0)).trans hw265_0)), (World.cell?_alloc_lt _ _ _ (World.block_lt_of_cell? _ _ (((HB.out.cell (World.block_lt_of_cell? w _ hw265_1)).trans hw265_1)))).trans (((HB.out.cell (World.block_lt_of_cell? w _ hw265_1)).trans hw265_1)), (World.cell?_alloc_lt _ _ _ (World.block_lt_of_cell? _ _ (((HB.out.cell (World.block_lt_of_cell? w _ hw265_2)).trans hw265_2)))).trans (((HB.out.cell (World.block_lt_of_cell? w _ hw265_2)).trans hw265_2)), (World.cell?_alloc_lt _ _ _ (World.block_lt_of_cell? _ _ (((HB.out.cell (World.block_lt_of_cell? w _ hw266_0)).trans hw266_0)))).trans (((HB.out.cell (World.block_lt_of_cell? w _ hw266_0)).trans hw266_0)), (World.cell?_alloc_lt _ _ _ (World.block_lt_of_cell? _ _ (((HB.out.cell (World.block_lt_of_cell? w _ hw266_1)).trans hw266_1)))).trans (((HB.out.cell (World.block_lt_of_cell? w _ hw266_1)).trans hw266_1)), (World.cell?_alloc_lt _ _ _ (World.block_lt_of_cell? _ _ (((HB.out.cell (World.block_lt_of_cell? w _ hw266_2)).trans hw266_2)))).trans (((HB.out.cell (World.block_lt_of_cell? w _ hw266_2)).trans hw266_2))⟩ (fun hHeld => ?_)
      clear hK K
      refine norm_ (a' := ?_) ?_ ?_
      rotate_left
      ·show Act.put _ (some 136) _ = _
       simp only [Act.put, sA_, sB_, sC_, i64_w, i32_w]
       rfl
      refine one_ (i := 13) (N := some 137) (Ra_ [14, 1]) rfl rfl (one_of HT_.out (by kernel_rfl)) (by decide) (fun K hK => ?_)
      refine Kd.R_append_step k39 (w0 := w) w.heap.size (by rfl) (.tmp 124) (.tmp 136) 22 39 (.agg #[(.string ⟨#[]⟩), (.string ⟨#[]⟩)]) 32 rfl Tryd.underlying22 info39 rfl (by decide) (by omega) v262 y261 (⟨(rd_T67 l1 x10_3).f0, (rd_T67 l1 x10_3).f2⟩ : S39) [.string ((rd_T67 l1 x10_3).f0), .string ((rd_T67 l1 x10_3).f2)] (fun k_ => (w.heap.size ≤ k_)) (fun _ => False) rfl rfl ?aP (fun _ hk => hk.elim) ?aF ?aO ?aB ?aS ?aL ?_
      (case aP => exact k39_mkM _ _ _ (⟨(rd_T67 l1 x10_3).f0, (rd_T67 l1 x10_3).f2⟩ : S39))
      (case aB => exact m7_)
      (case aF => exact (fun k_ hk => (Nat.le_trans (below_size m7_) hk)))
      (case aO => exact (by (with_reducible repeat (first | apply Kd.R_alloc | apply Kd.R_drewN | apply Kd.R_drew)); exact HO263.out))
      (case aS => exact (below_size m7_))
      (case aL => have := LMc88.out; omega)
      intro v268 w90 ho hb hg hat
      rw [← Ny267.out] at ho
      have n0_ := Aside0.mk (Kd.V_afterv (ok := (fun k_ => (P0_ k_ ∨ w.heap.size ≤ k_))) m14_ hg hat)
      have n1_ := Aside0.mk (Kd.V_afterv (ok := (fun k_ => (P0_ k_ ∨ w.heap.size ≤ k_))) (by (with_reducible repeat (first | apply Kd.V_alloc | apply Kd.V_drewN | apply Kd.V_drew)); exact HO260.out) hg hat)
      have n2_ := Aside0.mk (hb)
      have n3_ := Aside0.mk (ho)
      clear HO_0 HO260 HB HO263
      have HO_0 := n0_
      have HO260 := n1_
      have HB := n2_
      have HO269 := n3_
      clear n0_ n1_ n2_ n3_ ho hb hg hat
      refine hK.out _ _ ⟨((HB.out.cell (World.block_lt_of_cell? w _ hw265_0)).trans hw265_0), ((HB.out.cell (World.block_lt_of_cell? w _ hw265_1)).trans hw265_1), ((HB.out.cell (World.block_lt_of_cell? w _ hw265_2)).trans hw265_2), ((HB.out.cell (World.block_lt_of_cell? w _ hw266_0)).trans hw266_0), ((HB.out.cell (World.block_lt_of_cell? w _ hw266_1)).trans hw266_1), ((HB.out.cell (World.block_lt_of_cell? w _ hw266_2)).trans hw266_2)⟩ (fun hHeld => ?_)
      clear hK K
      refine norm_ (a' := ?_) ?_ ?_
      rotate_left
      ·show Act.put _ (some 137) _ = _
       simp only [Act.put, sA_, sB_, sC_, i64_w, i32_w]
       rfl
      refine pI_ 14 (some 13) (Ra_ [15]) (h := ?_)
      refine done_ (done_of HT_.out (by kernel_rfl)) ?_
      try go_wp2
      go_meet
      case rel => exact ⟨_, (y267), H', ⟨by have := HK1.out; have := HK2.out; have := HK3.out; first | omega | exact Nat.le_refl _⟩, ⟨by (with_reducible repeat (first | apply Kd.V_alloc | apply Kd.V_drewN | apply Kd.V_drew)); exact HO_0.out⟩, ⟨by (with_reducible repeat (first | apply Kd.R_alloc | apply Kd.R_drewN | apply Kd.R_drew)); exact HO269.out⟩, ⟨m27_⟩⟩
     clear HC83
     try clear c1; try clear p2; try clear q2; try clear hx2; try clear c4; try clear c5; try clear c6; try clear c6b0; try clear p6; try clear c7; try clear c8; try clear q8; try clear c12; try clear p25; try clear q25; try clear hx25; try clear p26; try clear q26; try clear hx26; try clear c40; try clear c51; try clear c56; try clear p64; try clear c70; try clear c71; try clear c71b0; try clear c72; try clear c72b0; try clear c74; try clear c74b0; try clear c74b1; try clear c77; try clear c77b0; try clear c78; try clear c78b0; try clear c80; try clear c80b0; try clear c80b1; try clear c81; try clear c81b0; try clear c81b1; try clear c82; try clear q85; try clear c87; try clear c87b0; try clear c87b1; try clear c88; try clear hx250_0; try clear hx250_1; try clear hx250_2; try clear hx252_0; try clear hx252_1; try clear hx252_2; try clear hx253_0; try clear hx253_1; try clear hx253_2; try clear hx264_0; try clear hx264_1; try clear hx264_2; try clear hx265_0; try clear hx265_1; try clear hx265_2; try clear hx266_0; try clear hx266_1; try clear hx266_2; try clear p2; try clear p25; try clear p250; try clear p252; try clear p253; try clear p264; try clear p265; try clear p266; try clear p6; try clear p64; try clear q2; try clear q25; try clear q250; try clear q252; try clear q253; try clear q264; try clear q265; try clear q266; try clear q85
     obtain ⟨kq, x13_82, HA, HJ82, HO_0, HO_13, HB⟩ := hcut
     cases kq with
     | zero => exact absurd HA.out (by simp [strongroomref20_Apply.j4])
     | succ kj82 =>
      have H := HA.out
      clear HA
      simp only [strongroomref20_Apply.j4] at H
      by_cases c91 : t255 = true
      case neg =>
       replace c91 := Bool.eq_false_iff.mpr c91
       subst c91
       have H1 : (if 0 ≤ t254 then (if t254 ≤ (x0_3.length : Int) then ((some (x0_3.drop (t254 : Int).toNat : List (S39))).bind fun y278 => (if x13_82.length + y278.length < 4398046511104 then (strongroomref20_Apply.l2 kj82 (x13_82 ++ y278) l1 (wrap64 (x10_3 + 1))) else (none))) else (none)) else (none)) = some (r1, r2) := by rw [if_neg (show ¬ (false = true) by decide)] at H; exact H
       clear H
       have H := H1
       clear H1
       by_cases c98 : 0 ≤ t254
       case neg =>
        rw [if_neg c98] at H
        exact absurd H (by simp)
       rw [if_pos c98] at H
       have c98b0 := eq_true c98
       have c98b1 : decide (0 ≤ t254) = true := decide_eq_true c98
       clear c98
       by_cases c99 : t254 ≤ (x0_3.length : Int)
       case neg =>
        rw [if_neg c99] at H
        exact absurd H (by simp)
       rw [if_pos c99] at H
       have c99b0 := eq_true c99
       have c99b1 : decide (t254 ≤ (x0_3.length : Int)) = true := decide_eq_true c99
       clear c99
       obtain ⟨y278, hy278⟩ : ∃ y_ : List (S39), y_ = (x0_3.drop (t254 : Int).toNat) := ⟨_, rfl⟩
       replace H : (if x13_82.length + y278.length < 4398046511104 then (strongroomref20_Apply.l2 kj82 (x13_82 ++ y278) l1 (wrap64 (x10_3 + 1))) else (none)) = some (r1, r2) := by first | (rw [hy278]; with_reducible exact H) | (have H2_ := (Option.bind_some _ _).symm.trans H; rw [hy278]; with_reducible exact H2_) | (have H2_ := (Option.bind_some _ _).symm.trans H; with_reducible exact H2_) | with_reducible exact H | (rw [hy278]; exact H) | exact H
       have Ny278 := Aside0.mk hy278
       clear hy278
       by_cases c100 : x13_82.length + y278.length < 4398046511104
       case neg =>
        rw [if_neg c100] at H
        exact absurd H (by simp)
       rw [if_pos c100] at H
       have LMc100 := Aside0.mk c100
       clear c100
       obtain ⟨y283, hy283⟩ : ∃ y_ : List (S39), y_ = (x13_82 ++ y278) := ⟨_, rfl⟩
       replace H : (strongroomref20_Apply.l2 kj82 y283 l1 (wrap64 (x10_3 + 1))) = some (r1, r2) := by first | (rw [hy283]; with_reducible exact H) | (have H2_ := (Option.bind_some _ _).symm.trans H; rw [hy283]; with_reducible exact H2_) | (have H2_ := (Option.bind_some _ _).symm.trans H; with_reducible exact H2_) | with_reducible exact H | (rw [hy283]; exact H) | exact H
       have Ny283 := Aside0.mk hy283
       clear hy283
       have H' := Aside0.mk H
       clear H
       have q101 : (t254 : Int) ≤ ((x0_3.length : Int) : Int) := of_decide_eq_true m18_
       obtain ⟨i0101, hi0101, _, hsz101, _⟩ := info_parts info39
       have hroom101 : x0_3.length ≤ co84 := (Kd.V_reads' HO_0.out).2.1
       have hC101 : Kd.F k39 _ _ Ao84 x0_3.length x0_3 := (Kd.V_at (base := w.heap.size) HO_0.out).2.2
       have q0101 : (0 : Int) ≤ (t254 : Int) := of_decide_eq_true m18_
       have hcut101 := cut_from (P := Tryd.prog) 22 39 .i64 Tryd.underlying22 hi0101 2 hsz101 Ao84 x0_3.length co84 t254 q0101 q101
       have hr101 := Kd.F_cut (m := (t254 : Int).toNat) (c := co84) hC101 (by omega) hroom101
       obtain ⟨A101, hA101⟩ : ∃ A1, A1 = (if co84 = (t254 : Int).toNat then Ao84 else (Ao84 : Option Addr).map (·.add ((t254 : Int).toNat * 2))) := ⟨_, rfl⟩
       obtain ⟨c101, hc101⟩ : ∃ c1, c1 = co84 - (t254 : Int).toNat := ⟨_, rfl⟩
       have hy101 : y278.length = x0_3.length - (t254 : Int).toNat := (by rw [Ny278.out, List.length_drop] <;> omega)
       rw [show (x0_3).drop (t254 : Int).toNat = y278 from Ny278.out.symm] at hr101
       replace hr101 : Kd.F k39 _ _ A101 y278.length y278 := (by rw [hA101]; exact hr101)
       rw [← hy101, ← hA101, ← hc101] at hcut101
       have HO282 := Aside0.mk (show Kd.V k39 39 _ w.heap.size _ (.slice A101 y278.length c101) y278 from Kd.V_mk (by rw [hy101, hc101]; exact Nat.sub_le_sub_right hroom101 _) hr101)
       have HC282 := Aside0.mk (show y278.length ≤ c101 from by rw [hy101, hc101]; exact Nat.sub_le_sub_right hroom101 _)
       clear hr101 hC101 hroom101 hi0101 hsz101 hc101
       have KY101 := Aside0.mk hy101
       have KA101 := Aside0.mk hA101
       clear hy101 hA101
       replace q101 := eq_true q101
       go_wp2_with (first | ((with_reducible refine gate_builtin (b := .append) (xs := #[.tmp 141, .tmp 144]) rfl ?_); (try (refine gate_guard (by rfl) ?_; dsimp only)); at_builtin; refine Kd.R_append_rows k39 (w0 := w) w.heap.size rfl (.tmp 141) (.tmp 144) 22 39 (.agg #[(.string ⟨#[]⟩), (.string ⟨#[]⟩)]) 32 rfl Tryd.underlying22 info39 rfl (by decide) (by omega) u13 x13_82 y278 _ _ _ (fun k_ => (w.heap.size ≤ k_)) (fun _ => False) rfl rfl ?aO ?aR (fun _ _ h => h) (fun _ h => h.elim) ?aF ?aB ?aS ?aL ?_; (case aR => repeat (first | exact (Kd.V_reads' HO282.out).2.2 | (with_reducible refine Kd.C_alloc ?_ _) | (with_reducible refine Kd.C_drewN ?_ _) | (with_reducible refine Kd.C_drew ?_))); (case aB => exact m7_); (case aF => exact (fun k_ hk => (Nat.le_trans (below_size m7_) hk))); (case aO => exact (by (with_reducible repeat (first | apply Kd.R_alloc | apply Kd.R_drewN | apply Kd.R_drew)); exact HO_13.out)); (case aS => exact (below_size m7_)); (case aL => have := LMc100.out; omega); intro v284 w102 ho hb hg hat; rw [← Ny283.out] at ho; have n0_ := Aside0.mk (Kd.V_afterv (ok := (fun k_ => (P0_ k_ ∨ w.heap.size ≤ k_))) m14_ hg hat); have n1_ := Aside0.mk (Kd.V_afterv (ok := (fun k_ => (P0_ k_ ∨ w.heap.size ≤ k_))) (by (with_reducible repeat (first | apply Kd.V_alloc | apply Kd.V_drewN | apply Kd.V_drew)); exact HO282.out) hg hat); have n2_ := Aside0.mk (hb); have n3_ := Aside0.mk (ho); clear HO_0; clear HO282; clear HB; clear HO_13; have HO_0 := n0_; have HO282 := n1_; have HB := n2_; have HO285 := n3_; clear n0_ n1_ n2_ n3_; clear ho hb hg hat))
       go_roundg kj82
       case measure => have := HK1.out; have := HK2.out; have := HK3.out; have := HJ82.out; omega
       case rel => exact ⟨(y283), (wrap64 (x10_3 + 1)), m19_, H', ⟨by have := HK1.out; have := HK2.out; have := HK3.out; have := HJ82.out; omega⟩, ⟨Kd.V_mono (Kd.R_V (by (with_reducible repeat (first | apply Kd.R_alloc | apply Kd.R_drewN | apply Kd.R_drew)); exact HO285.out)) (fun k_ hk => by first | exact ⟨(.inr (hk.1)), hk.2⟩ | exact (.inr (hk)))⟩, ⟨m27_⟩⟩
      subst c91
      have H1 : (if 0 ≤ (wrap64 (t254 + 1)) then (if (wrap64 (t254 + 1)) ≤ (x0_3.length : Int) then ((some (x0_3.drop ((wrap64 (t254 + 1)) : Int).toNat : List (S39))).bind fun y270 => (if x13_82.length + y270.length < 4398046511104 then (strongroomref20_Apply.l2 kj82 (x13_82 ++ y270) l1 (wrap64 (x10_3 + 1))) else (none))) else (none)) else (none)) = some (r1, r2) := by rw [if_pos rfl] at H; exact H
      clear H
      have H := H1
      clear H1
      obtain ⟨ji92, hji92⟩ : ∃ j_ : Int, (wrap64 (t254 + 1)) = j_ := ⟨_, rfl⟩
      replace H : (if 0 ≤ (ji92) then (if (ji92) ≤ (x0_3.length : Int) then ((some (x0_3.drop ((ji92) : Int).toNat : List (S39))).bind fun y270 => (if x13_82.length + y270.length < 4398046511104 then (strongroomref20_Apply.l2 kj82 (x13_82 ++ y270) l1 (wrap64 (x10_3 + 1))) else (none))) else (none)) else (none)) = some (r1, r2) := by first | (rw [hji92] at H; exact H) | (simp only [hji92] at H ⊢; exact H)
      have hji92w : (IntKind.i64.wrap (t254 + 1)) = ji92 := (i64_w _).trans hji92
      by_cases c93 : 0 ≤ (ji92)
      case neg =>
       rw [if_neg c93] at H
       exact absurd H (by simp)
      rw [if_pos c93] at H
      have c93b0 := eq_true c93
      have c93b1 : decide (0 ≤ (ji92)) = true := decide_eq_true c93
      clear c93
      by_cases c94 : (ji92) ≤ (x0_3.length : Int)
      case neg =>
       rw [if_neg c94] at H
       exact absurd H (by simp)
      rw [if_pos c94] at H
      have c94b0 := eq_true c94
      have c94b1 : decide ((ji92) ≤ (x0_3.length : Int)) = true := decide_eq_true c94
      clear c94
      obtain ⟨y270, hy270⟩ : ∃ y_ : List (S39), y_ = (x0_3.drop ((ji92) : Int).toNat) := ⟨_, rfl⟩
      replace H : (if x13_82.length + y270.length < 4398046511104 then (strongroomref20_Apply.l2 kj82 (x13_82 ++ y270) l1 (wrap64 (x10_3 + 1))) else (none)) = some (r1, r2) := by first | (rw [hy270]; with_reducible exact H) | (have H2_ := (Option.bind_some _ _).symm.trans H; rw [hy270]; with_reducible exact H2_) | (have H2_ := (Option.bind_some _ _).symm.trans H; with_reducible exact H2_) | with_reducible exact H | (rw [hy270]; exact H) | exact H
      have Ny270 := Aside0.mk hy270
      clear hy270
      by_cases c95 : x13_82.length + y270.length < 4398046511104
      case neg =>
       rw [if_neg c95] at H
       exact absurd H (by simp)
      rw [if_pos c95] at H
      have LMc95 := Aside0.mk c95
      clear c95
      obtain ⟨y275, hy275⟩ : ∃ y_ : List (S39), y_ = (x13_82 ++ y270) := ⟨_, rfl⟩
      replace H : (strongroomref20_Apply.l2 kj82 y275 l1 (wrap64 (x10_3 + 1))) = some (r1, r2) := by first | (rw [hy275]; with_reducible exact H) | (have H2_ := (Option.bind_some _ _).symm.trans H; rw [hy275]; with_reducible exact H2_) | (have H2_ := (Option.bind_some _ _).symm.trans H; with_reducible exact H2_) | with_reducible exact H | (rw [hy275]; exact H) | exact H
      have Ny275 := Aside0.mk hy275
      clear hy275
      have H' := Aside0.mk H
      clear H
      have q96 : ((ji92) : Int) ≤ ((x0_3.length : Int) : Int) := of_decide_eq_true m18_
      obtain ⟨i096, hi096, _, hsz96, _⟩ := info_parts info39
      have hroom96 : x0_3.length ≤ co84 := (Kd.V_reads' HO_0.out).2.1
      have hC96 : Kd.F k39 _ _ Ao84 x0_3.length x0_3 := (Kd.V_at (base := w.heap.size) HO_0.out).2.2
      have q096 : (0 : Int) ≤ ((ji92) : Int) := of_decide_eq_true m18_
      have hcut96 := cut_from (P := Tryd.prog) 22 39 .i64 Tryd.underlying22 hi096 2 hsz96 Ao84 x0_3.length co84 (ji92) q096 q96
      have hr96 := Kd.F_cut (m := ((ji92) : Int).toNat) (c := co84) hC96 (by omega) hroom96
      obtain ⟨A96, hA96⟩ : ∃ A1, A1 = (if co84 = ((ji92) : Int).toNat then Ao84 else (Ao84 : Option Addr).map (·.add (((ji92) : Int).toNat * 2))) := ⟨_, rfl⟩
      obtain ⟨c96, hc96⟩ : ∃ c1, c1 = co84 - ((ji92) : Int).toNat := ⟨_, rfl⟩
      have hy96 : y270.length = x0_3.length - ((ji92) : Int).toNat := (by rw [Ny270.out, List.length_drop] <;> omega)
      rw [show (x0_3).drop ((ji92) : Int).toNat = y270 from Ny270.out.symm] at hr96
      replace hr96 : Kd.F k39 _ _ A96 y270.length y270 := (by rw [hA96]; exact hr96)
      rw [← hy96, ← hA96, ← hc96] at hcut96
      have HO274 := Aside0.mk (show Kd.V k39 39 _ w.heap.size _ (.slice A96 y270.length c96) y270 from Kd.V_mk (by rw [hy96, hc96]; exact Nat.sub_le_sub_right hroom96 _) hr96)
      have HC274 := Aside0.mk (show y270.length ≤ c96 from by rw [hy96, hc96]; exact Nat.sub_le_sub_right hroom96 _)
      clear hr96 hC96 hroom96 hi096 hsz96 hc96
      have KY96 := Aside0.mk hy96
      have KA96 := Aside0.mk hA96
      clear hy96 hA96
      replace q96 := eq_true q96
      go_wp2_with (first | ((with_reducible refine gate_builtin (b := .append) (xs := #[.tmp 141, .tmp 144]) rfl ?_); (try (refine gate_guard (by rfl) ?_; dsimp only)); at_builtin; refine Kd.R_append_rows k39 (w0 := w) w.heap.size rfl (.tmp 141) (.tmp 144) 22 39 (.agg #[(.string ⟨#[]⟩), (.string ⟨#[]⟩)]) 32 rfl Tryd.underlying22 info39 rfl (by decide) (by omega) u13 x13_82 y270 _ _ _ (fun k_ => (w.heap.size ≤ k_)) (fun _ => False) rfl rfl ?aO ?aR (fun _ _ h => h) (fun _ h => h.elim) ?aF ?aB ?aS ?aL ?_; (case aR => repeat (first | exact (Kd.V_reads' HO274.out).2.2 | (with_reducible refine Kd.C_alloc ?_ _) | (with_reducible refine Kd.C_drewN ?_ _) | (with_reducible refine Kd.C_drew ?_))); (case aB => exact m7_); (case aF => exact (fun k_ hk => (Nat.le_trans (below_size m7_) hk))); (case aO => exact (by (with_reducible repeat (first | apply Kd.R_alloc | apply Kd.R_drewN | apply Kd.R_drew)); exact HO_13.out)); (case aS => exact (below_size m7_)); (case aL => have := LMc95.out; omega); intro v276 w97 ho hb hg hat; rw [← Ny275.out] at ho; have n0_ := Aside0.mk (Kd.V_afterv (ok := (fun k_ => (P0_ k_ ∨ w.heap.size ≤ k_))) m14_ hg hat); have n1_ := Aside0.mk (Kd.V_afterv (ok := (fun k_ => (P0_ k_ ∨ w.heap.size ≤ k_))) (by (with_reducible repeat (first | apply Kd.V_alloc | apply Kd.V_drewN | apply Kd.V_drew)); exact HO274.out) hg hat); have n2_ := Aside0.mk (hb); have n3_ := Aside0.mk (ho); clear HO_0; clear HO274; clear HB; clear HO_13; have HO_0 := n0_; have HO274 := n1_; have HB := n2_; have HO277 := n3_; clear n0_ n1_ n2_ n3_; clear ho hb hg hat))
      go_roundg kj82
      case measure => have := HK1.out; have := HK2.out; have := HK3.out; have := HJ82.out; omega
      case rel => exact ⟨(y275), (wrap64 (x10_3 + 1)), m19_, H', ⟨by have := HK1.out; have := HK2.out; have := HK3.out; have := HJ82.out; omega⟩, ⟨Kd.V_mono (Kd.R_V (by (with_reducible repeat (first | apply Kd.R_alloc | apply Kd.R_drewN | apply Kd.R_drew)); exact HO277.out)) (fun k_ hk => by first | exact ⟨(.inr (hk.1)), hk.2⟩ | exact (.inr (hk)))⟩, ⟨m27_⟩⟩
  rw [if_pos c6] at H
  have c6b0 : decide (x7_1 < (l1.length : Int)) = true := decide_eq_true c6
  clear c6
  by_cases c7 : 0 ≤ x7_1
  case neg =>
   rw [if_neg c7] at H
   exact absurd H (by simp)
  rw [if_pos c7] at H
  have c7b0 : decide (0 ≤ x7_1) = true := decide_eq_true c7
  clear c7
  have HC8 := Aside0.mk H
  clear H
  have p246 : 0 ≤ (x7_1 : Int) := of_decide_eq_true m18_
  have q246 : x7_1 < (l1.length : Int) := of_decide_eq_true m18_
  obtain ⟨ad246, e246, hx246_0, hx246_1, hx246_2⟩ := at_T67 HR1.out x7_1 p246 q246
  cases e246
  replace hx246_0 := (HB.out.cell (World.block_lt_of_cell? w _ hx246_0)).trans hx246_0
  replace hx246_1 := (HB.out.cell (World.block_lt_of_cell? w _ hx246_1)).trans hx246_1
  replace hx246_2 := (HB.out.cell (World.block_lt_of_cell? w _ hx246_2)).trans hx246_2
  replace p246 := eq_true p246
  replace q246 := eq_true q246
  go_upto_region 8 with (first | ((with_reducible refine gate_dst (N := 8) rfl ?_); (try (refine gate_guard (by rfl) ?_; dsimp only)); refine box_event ?hg (N := 8) ?hd (cs := #[.string (⟨#[]⟩ : ByteArray), .string (⟨#[]⟩ : ByteArray), .string (⟨#[]⟩ : ByteArray)]) (t := 67) ?hr ?_; (case hd => rfl); (case hg => rfl); (case hr => first | (go_simp; done) | (go_simp; rfl)); intro gb247 hg w9 hbox hb; have n0_ := Aside0.mk (Kd.V_below (Kd.V_elderB m14_ gb247 (Nat.le_of_eq hg.symm)) hb); have n1_ := Aside0.mk (below_step m7_ hb); have n2_ := Aside0.mk (hbox); have n3_ := Aside0.mk ((by rw [hg]; exact (below_size m7_) : w.heap.size ≤ gb247)); have n4_ := Aside0.mk ((by rw [hg]; exact (below_size m7_) : w.heap.size ≤ gb247)); clear HO_0; clear HB; have HO_0 := n0_; have HB := n1_; have BK247 := n2_; have GW247 := n3_; have GE247 := n4_; clear n0_ n1_ n2_ n3_ n4_; clear hb hbox hg; obtain ⟨hcz10_0, hcz10_1, hcz10_2⟩ := bc3_ BK247.out; obtain ⟨hfz10_0, hfz10_1, hfz10_2⟩ := bf3_ BK247.out))
  (try simp only [Act.put, List.setIfInBounds_toArray, List.set_cons_zero, List.set_cons_succ])
  go_cut [77] (fun v77 wc => ∃ (kq : Nat) (x77_7 : Bool), v77 = .bool x77_7 ∧ Aside0 (strongroomref20_Apply.j1 kq l0 l1 x7_1 x77_7 = some (r1, r2)) ∧ Aside0 (kq ≤ k1) ∧ Aside0 (Kd.V k39 39 wc w.heap.size (fun k_ => (P0_ k_ ∨ w.heap.size ≤ k_) ∧ k_ ≠ gb247) (.slice A0 l0.length c0) l0) ∧ Aside0 (wc.heap[gb247]? = some (.cells #[.string ((rd_T67 l1 x7_1).f0), .string ((rd_T67 l1 x7_1).f1), .string ((rd_T67 l1 x7_1).f2)] 67 (0, 0))) ∧ Aside0 (Below w.heap.size w wc))
  case first =>
   have H := HC8.out
   clear HC8
   replace H := Option.bind_eq_some_iff.mp H
   obtain ⟨t248, A110, H⟩ := H
   replace H : (if t248 = true then (if x7_1 > 0 then (if 0 ≤ (wrap64 (x7_1 - 1)) then (if (wrap64 (x7_1 - 1)) < (l1.length : Int) then (if ((Op.bytesLess (((rd_T67 l1 (wrap64 (x7_1 - 1))).f0).toList) (((rd_T67 l1 x7_1).f0).toList)) = true) then (if ((rd_T67 l1 x7_1).f1).toList = ((rd_T67 l1 x7_1).f2).toList then (strongroomref20_Apply.j1 k1 l0 l1 x7_1 true) else (if ((rd_T67 l1 x7_1).f1).toList = ([] : List UInt8) then (if ((rd_T67 l1 x7_1).f2).toList = ([] : List UInt8) then (strongroomref20_Apply.j1 k1 l0 l1 x7_1 false) else (strongroomref20_Apply.j1 k1 l0 l1 x7_1 ((((rd_T67 l1 x7_1).f2).size : Int) != 32))) else (if (((rd_T67 l1 x7_1).f1).size : Int) = 32 then (if ((rd_T67 l1 x7_1).f2).toList = ([] : List UInt8) then (strongroomref20_Apply.j1 k1 l0 l1 x7_1 false) else (strongroomref20_Apply.j1 k1 l0 l1 x7_1 ((((rd_T67 l1 x7_1).f2).size : Int) != 32))) else (strongroomref20_Apply.j1 k1 l0 l1 x7_1 true)))) else (strongroomref20_Apply.j1 k1 l0 l1 x7_1 true)) else (none)) else (none)) else (if ((rd_T67 l1 x7_1).f1).toList = ((rd_T67 l1 x7_1).f2).toList then (strongroomref20_Apply.j1 k1 l0 l1 x7_1 true) else (if ((rd_T67 l1 x7_1).f1).toList = ([] : List UInt8) then (if ((rd_T67 l1 x7_1).f2).toList = ([] : List UInt8) then (strongroomref20_Apply.j1 k1 l0 l1 x7_1 false) else (strongroomref20_Apply.j1 k1 l0 l1 x7_1 ((((rd_T67 l1 x7_1).f2).size : Int) != 32))) else (if (((rd_T67 l1 x7_1).f1).size : Int) = 32 then (if ((rd_T67 l1 x7_1).f2).toList = ([] : List UInt8) then (strongroomref20_Apply.j1 k1 l0 l1 x7_1 false) else (strongroomref20_Apply.j1 k1 l0 l1 x7_1 ((((rd_T67 l1 x7_1).f2).size : Int) != 32))) else (strongroomref20_Apply.j1 k1 l0 l1 x7_1 true))))) else (strongroomref20_Apply.j1 k1 l0 l1 x7_1 true)) = some (r1, r2) := H
   have A11 := Aside0.mk A110
   clear A110
   by_cases c12 : t248 = true
   case neg =>
    replace c12 := Bool.eq_false_iff.mpr c12
    subst c12
    have H1 : (strongroomref20_Apply.j1 k1 l0 l1 x7_1 true) = some (r1, r2) := by rw [if_neg (show ¬ (false = true) by decide)] at H; exact H
    clear H
    have H := H1
    clear H1
    have H' := Aside0.mk H
    clear H
    try go_wp2
    have n0_ : Aside0 (Kd.V k39 39 (((w9.setCell ⟨gb247, 0, none⟩ (.string ((rd_T67 l1 x7_1).f0))).setCell ⟨gb247, 1, none⟩ (.string ((rd_T67 l1 x7_1).f1))).setCell ⟨gb247, 2, none⟩ (.string ((rd_T67 l1 x7_1).f2))) w.heap.size (fun k_ => (P0_ k_ ∨ w.heap.size ≤ k_) ∧ k_ ≠ gb247) (.slice A0 l0.length c0) l0) := ⟨by (with_reducible repeat (first | apply Kd.V_alloc | apply Kd.V_drewN | apply Kd.V_drew)); exact Kd.V_mono (Kd.V_far (p := ⟨gb247, 2, none⟩) (Kd.V_far (p := ⟨gb247, 1, none⟩) (Kd.V_far (p := ⟨gb247, 0, none⟩) (Kd.V_mono HO_0.out (fun k_ hk => (⟨hk, hk.2⟩ : _ ∧ k_ ≠ gb247))) (fun _ hk => hk.2) (.string ((rd_T67 l1 x7_1).f0))) (fun _ hk => hk.2) (.string ((rd_T67 l1 x7_1).f1))) (fun _ hk => hk.2) (.string ((rd_T67 l1 x7_1).f2))) (fun _ hk => ⟨hk.1.1, hk.1.2⟩)⟩
    have n1_ : Aside0 ((((w9.setCell ⟨gb247, 0, none⟩ (.string ((rd_T67 l1 x7_1).f0))).setCell ⟨gb247, 1, none⟩ (.string ((rd_T67 l1 x7_1).f1))).setCell ⟨gb247, 2, none⟩ (.string ((rd_T67 l1 x7_1).f2))).heap[gb247]? = some (.cells #[.string ((rd_T67 l1 x7_1).f0), .string ((rd_T67 l1 x7_1).f1), .string ((rd_T67 l1 x7_1).f2)] 67 (0, 0))) := ⟨by (with_reducible repeat (first | refine blk_drewN ?_ _ | refine blk_drew ?_ | refine blk_alloc ?_ _)); refine blk_put (cs := #[.string ((rd_T67 l1 x7_1).f0), .string ((rd_T67 l1 x7_1).f1), .string (⟨#[]⟩ : ByteArray)]) ?_ 2 _ rfl; (with_reducible repeat (first | refine blk_drewN ?_ _ | refine blk_drew ?_ | refine blk_alloc ?_ _)); refine blk_put (cs := #[.string ((rd_T67 l1 x7_1).f0), .string (⟨#[]⟩ : ByteArray), .string (⟨#[]⟩ : ByteArray)]) ?_ 1 _ rfl; (with_reducible repeat (first | refine blk_drewN ?_ _ | refine blk_drew ?_ | refine blk_alloc ?_ _)); refine blk_put (cs := #[.string (⟨#[]⟩ : ByteArray), .string (⟨#[]⟩ : ByteArray), .string (⟨#[]⟩ : ByteArray)]) ?_ 0 _ rfl; (with_reducible repeat (first | refine blk_drewN ?_ _ | refine blk_drew ?_ | refine blk_alloc ?_ _)); exact BK247.out⟩
    have n2_ : Aside0 (Below w.heap.size w (((w9.setCell ⟨gb247, 0, none⟩ (.string ((rd_T67 l1 x7_1).f0))).setCell ⟨gb247, 1, none⟩ (.string ((rd_T67 l1 x7_1).f1))).setCell ⟨gb247, 2, none⟩ (.string ((rd_T67 l1 x7_1).f2)))) := ⟨m26_⟩
    (try clear HO_0)
    (try clear BK247)
    (try clear HB)
    generalize (((w9.setCell ⟨gb247, 0, none⟩ (.string ((rd_T67 l1 x7_1).f0))).setCell ⟨gb247, 1, none⟩ (.string ((rd_T67 l1 x7_1).f1))).setCell ⟨gb247, 2, none⟩ (.string ((rd_T67 l1 x7_1).f2))) = w67 at n0_ n1_ n2_ ⊢
    have HO_0 := n0_
    have BK247 := n1_
    have HB := n2_
    clear n0_ n1_ n2_
    replace HO_0 := Aside0.mk (Kd.V_drew HO_0.out)
    replace BK247 := Aside0.mk (blk_drew BK247.out)
    replace HB := Aside0.mk (below_drew1 HB.out)
    refine start_ (n := 49) (S := fun w' => w'.cell? ⟨gb247, 0, none⟩ = some (.string ((rd_T67 l1 x7_1).f0)) ∧ w'.cell? ⟨gb247, 1, none⟩ = some (.string ((rd_T67 l1 x7_1).f1)) ∧ w'.cell? ⟨gb247, 2, none⟩ = some (.string ((rd_T67 l1 x7_1).f2))) (ds := []) (Ra_ [0, 49]) (by kernel_rfl) rfl rfl ⟨(blk_cell BK247.out 0).trans rfl, (blk_cell BK247.out 1).trans rfl, (blk_cell BK247.out 2).trans rfl⟩ (fun hHeld => ?_); refine with_tabW strongroomref20_Apply.tab8 strongroomref20_Apply.bits8 (fun HT_ HW_ => ?_)
    generalize w67.drew = w68 at HO_0 BK247 HB hHeld ⊢
    refine pI_ 0 (some 29) (Ra_ [1, 48]) (h := ?_)
    refine tI3_ 1 (some 30) (Ra_ [2, 47]) (h := ?_)
    refine one_ (i := 2) (N := some 31) (Ra_ [3, 46]) rfl rfl (one_of HT_.out (by kernel_rfl)) (by decide) (fun K hK => ?_)
    refine goes_ Tryd.func51 (by kernel_rfl) rfl #[.string ((rd_T67 l1 x7_1).f0)] (by rfl) rfl rfl m6_ ?_
    with_reducible refine (strongroomref05_Good.calls k1 ((rd_T67 l1 x7_1).f0) false _ A11.out).mono ?_
    rintro e w69 ⟨rfl, hb⟩
    refine ⟨_, rfl, ?_⟩
    replace HO_0 := Aside0.mk (Kd.V_below m14_ hb)
    replace BK247 := Aside0.mk (blk_below (g := gb247) (o := .cells #[.string ((rd_T67 l1 x7_1).f0), .string ((rd_T67 l1 x7_1).f1), .string ((rd_T67 l1 x7_1).f2)] 67 (0, 0)) m8_ hb)
    replace HB := Aside0.mk (below_step m0_ hb)
    (try clear hb)
    (try clear hb2)
    (try clear hk)
    (try clear hi)
    refine hK.out _ _ ⟨(blk_cell BK247.out 0).trans rfl, (blk_cell BK247.out 1).trans rfl, (blk_cell BK247.out 2).trans rfl⟩ (fun hHeld => ?_)
    clear hK K
    refine norm_ (a' := ?_) ?_ ?_
    rotate_left
    ·show Act.put _ (some 31) _ = _
     simp only [Act.put, sA_, sB_, sC_, i64_w, i32_w]
     rfl
    refine pI_ 3 (some 32) (Ra_ [4, 45]) (h := ?_)
    refine pI_ 4 (some 33) (Ra_ [5, 44]) (h := ?_)
    refine uI_ 5 (some 34) (Ra_ [6, 43]) (h := ?_)
    refine uI_ 6 (some 35) (Ra_ [7, 42]) (h := ?_)
    refine uI_ 7 (some 36) (Ra_ [8, 41]) (h := ?_)
    refine uI_ 8 (some 37) (Ra_ [9, 40]) (h := ?_)
    refine uI_ 9 (some 38) (Ra_ [10, 39]) (h := ?_)
    refine uI_ 10 (some 39) (Ra_ [11, 38]) (h := ?_)
    refine uI_ 11 (some 40) (Ra_ [12, 37]) (h := ?_)
    refine uI_ 12 (some 41) (Ra_ [13, 36]) (h := ?_)
    refine uI_ 13 (some 42) (Ra_ [14, 35]) (h := ?_)
    refine uI_ 14 (some 43) (Ra_ [15, 34]) (h := ?_)
    refine uI_ 15 (some 44) (Ra_ [16, 33]) (h := ?_)
    refine uI_ 16 (some 45) (Ra_ [17, 32]) (h := ?_)
    refine uI_ 17 (some 46) (Ra_ [18, 31]) (h := ?_)
    refine uI_ 18 (some 47) (Ra_ [19, 30]) (h := ?_)
    refine pI_ 19 (some 48) (Ra_ [20, 29]) (h := ?_)
    refine pI_ 20 (some 49) (Ra_ [21, 28]) (h := ?_)
    refine uI_ 21 (some 50) (Ra_ [22, 27]) (h := ?_)
    refine uI_ 22 (some 51) (Ra_ [23, 26]) (h := ?_)
    refine uI_ 23 (some 52) (Ra_ [24, 25]) (h := ?_)
    refine uI_ 24 (some 53) (Ra_ [25, 24]) (h := ?_)
    refine uI_ 25 (some 54) (Ra_ [26, 23]) (h := ?_)
    refine pI_ 26 (some 55) (Ra_ [27, 22]) (h := ?_)
    refine pI_ 27 (some 56) (Ra_ [28, 21]) (h := ?_)
    refine uI_ 28 (some 57) (Ra_ [29, 20]) (h := ?_)
    refine uI_ 29 (some 58) (Ra_ [30, 19]) (h := ?_)
    refine uI_ 30 (some 59) (Ra_ [31, 18]) (h := ?_)
    refine uI_ 31 (some 60) (Ra_ [32, 17]) (h := ?_)
    refine uI_ 32 (some 61) (Ra_ [33, 16]) (h := ?_)
    refine uI_ 33 (some 62) (Ra_ [34, 15]) (h := ?_)
    refine uI_ 34 (some 63) (Ra_ [35, 14]) (h := ?_)
    refine uI_ 35 (some 64) (Ra_ [36, 13]) (h := ?_)
    refine uI_ 36 (some 65) (Ra_ [37, 12]) (h := ?_)
    refine pI_ 37 (some 66) (Ra_ [38, 11]) (h := ?_)
    refine pI_ 38 (some 67) (Ra_ [39, 10]) (h := ?_)
    refine uI_ 39 (some 68) (Ra_ [40, 9]) (h := ?_)
    refine uI_ 40 (some 69) (Ra_ [41, 8]) (h := ?_)
    refine uI_ 41 (some 70) (Ra_ [42, 7]) (h := ?_)
    refine uI_ 42 (some 71) (Ra_ [43, 6]) (h := ?_)
    refine uI_ 43 (some 72) (Ra_ [44, 5]) (h := ?_)
    refine uI_ 44 (some 73) (Ra_ [45, 4]) (h := ?_)
    refine uI_ 45 (some 74) (Ra_ [46, 3]) (h := ?_)
    refine uI_ 46 (some 75) (Ra_ [47, 2]) (h := ?_)
    refine uI_ 47 (some 76) (Ra_ [48, 1]) (h := ?_)
    refine pI_ 48 (some 77) (Ra_ [49]) (h := ?_)
    refine done_ (done_of HT_.out (by kernel_rfl)) ?_
    try go_wp2
    go_meet
    case rel => exact ⟨_, (true), m19_, H', ⟨by have := HK1.out; first | omega | exact Nat.le_refl _⟩, ⟨by (with_reducible repeat (first | apply Kd.V_alloc | apply Kd.V_drewN | apply Kd.V_drew)); exact HO_0.out⟩, ⟨by (with_reducible repeat (first | refine blk_drewN ?_ _ | refine blk_drew ?_ | refine blk_alloc ?_ _)); exact BK247.out⟩, ⟨m26_⟩⟩
   subst c12
   have H1 : (if x7_1 > 0 then (if 0 ≤ (wrap64 (x7_1 - 1)) then (if (wrap64 (x7_1 - 1)) < (l1.length : Int) then (if ((Op.bytesLess (((rd_T67 l1 (wrap64 (x7_1 - 1))).f0).toList) (((rd_T67 l1 x7_1).f0).toList)) = true) then (if ((rd_T67 l1 x7_1).f1).toList = ((rd_T67 l1 x7_1).f2).toList then (strongroomref20_Apply.j1 k1 l0 l1 x7_1 true) else (if ((rd_T67 l1 x7_1).f1).toList = ([] : List UInt8) then (if ((rd_T67 l1 x7_1).f2).toList = ([] : List UInt8) then (strongroomref20_Apply.j1 k1 l0 l1 x7_1 false) else (strongroomref20_Apply.j1 k1 l0 l1 x7_1 ((((rd_T67 l1 x7_1).f2).size : Int) != 32))) else (if (((rd_T67 l1 x7_1).f1).size : Int) = 32 then (if ((rd_T67 l1 x7_1).f2).toList = ([] : List UInt8) then (strongroomref20_Apply.j1 k1 l0 l1 x7_1 false) else (strongroomref20_Apply.j1 k1 l0 l1 x7_1 ((((rd_T67 l1 x7_1).f2).size : Int) != 32))) else (strongroomref20_Apply.j1 k1 l0 l1 x7_1 true)))) else (strongroomref20_Apply.j1 k1 l0 l1 x7_1 true)) else (none)) else (none)) else (if ((rd_T67 l1 x7_1).f1).toList = ((rd_T67 l1 x7_1).f2).toList then (strongroomref20_Apply.j1 k1 l0 l1 x7_1 true) else (if ((rd_T67 l1 x7_1).f1).toList = ([] : List UInt8) then (if ((rd_T67 l1 x7_1).f2).toList = ([] : List UInt8) then (strongroomref20_Apply.j1 k1 l0 l1 x7_1 false) else (strongroomref20_Apply.j1 k1 l0 l1 x7_1 ((((rd_T67 l1 x7_1).f2).size : Int) != 32))) else (if (((rd_T67 l1 x7_1).f1).size : Int) = 32 then (if ((rd_T67 l1 x7_1).f2).toList = ([] : List UInt8) then (strongroomref20_Apply.j1 k1 l0 l1 x7_1 false) else (strongroomref20_Apply.j1 k1 l0 l1 x7_1 ((((rd_T67 l1 x7_1).f2).size : Int) != 32))) else (strongroomref20_Apply.j1 k1 l0 l1 x7_1 true))))) = some (r1, r2) := by rw [if_pos rfl] at H; exact H
   clear H
   have H := H1
   clear H1
   by_cases c13 : x7_1 > 0
   case neg =>
    rw [if_neg c13] at H
    have c13b0 : decide (0 < x7_1) = false := decide_eq_false c13
    clear c13
    (first | rw [c13b0] | (simp only [i64_w, i32_w]; rw [c13b0]) | skip)
    by_cases c44 : ((rd_T67 l1 x7_1).f1).toList = ((rd_T67 l1 x7_1).f2).toList
    ·rw [if_pos c44] at H
     have c44b0 : (((rd_T67 l1 x7_1).f1).toList == ((rd_T67 l1 x7_1).f2).toList) = true := beq_iff_eq.mpr c44
     have c44b1 : (((rd_T67 l1 x7_1).f1).toList != ((rd_T67 l1 x7_1).f2).toList) = false := bne_eq_false_iff_eq.mpr c44
     clear c44
     have H' := Aside0.mk H
     clear H
     try go_wp2
     have n0_ : Aside0 (Kd.V k39 39 (((w9.setCell ⟨gb247, 0, none⟩ (.string ((rd_T67 l1 x7_1).f0))).setCell ⟨gb247, 1, none⟩ (.string ((rd_T67 l1 x7_1).f1))).setCell ⟨gb247, 2, none⟩ (.string ((rd_T67 l1 x7_1).f2))) w.heap.size (fun k_ => (P0_ k_ ∨ w.heap.size ≤ k_) ∧ k_ ≠ gb247) (.slice A0 l0.length c0) l0) := ⟨by (with_reducible repeat (first | apply Kd.V_alloc | apply Kd.V_drewN | apply Kd.V_drew)); exact Kd.V_mono (Kd.V_far (p := ⟨gb247, 2, none⟩) (Kd.V_far (p := ⟨gb247, 1, none⟩) (Kd.V_far (p := ⟨gb247, 0, none⟩) (Kd.V_mono HO_0.out (fun k_ hk => (⟨hk, hk.2⟩ : _ ∧ k_ ≠ gb247))) (fun _ hk => hk.2) (.string ((rd_T67 l1 x7_1).f0))) (fun _ hk => hk.2) (.string ((rd_T67 l1 x7_1).f1))) (fun _ hk => hk.2) (.string ((rd_T67 l1 x7_1).f2))) (fun _ hk => ⟨hk.1.1, hk.1.2⟩)⟩
     have n1_ : Aside0 ((((w9.setCell ⟨gb247, 0, none⟩ (.string ((rd_T67 l1 x7_1).f0))).setCell ⟨gb247, 1, none⟩ (.string ((rd_T67 l1 x7_1).f1))).setCell ⟨gb247, 2, none⟩ (.string ((rd_T67 l1 x7_1).f2))).heap[gb247]? = some (.cells #[.string ((rd_T67 l1 x7_1).f0), .string ((rd_T67 l1 x7_1).f1), .string ((rd_T67 l1 x7_1).f2)] 67 (0, 0))) := ⟨by (with_reducible repeat (first | refine blk_drewN ?_ _ | refine blk_drew ?_ | refine blk_alloc ?_ _)); refine blk_put (cs := #[.string ((rd_T67 l1 x7_1).f0), .string ((rd_T67 l1 x7_1).f1), .string (⟨#[]⟩ : ByteArray)]) ?_ 2 _ rfl; (with_reducible repeat (first | refine blk_drewN ?_ _ | refine blk_drew ?_ | refine blk_alloc ?_ _)); refine blk_put (cs := #[.string ((rd_T67 l1 x7_1).f0), .string (⟨#[]⟩ : ByteArray), .string (⟨#[]⟩ : ByteArray)]) ?_ 1 _ rfl; (with_reducible repeat (first | refine blk_drewN ?_ _ | refine blk_drew ?_ | refine blk_alloc ?_ _)); refine blk_put (cs := #[.string (⟨#[]⟩ : ByteArray), .string (⟨#[]⟩ : ByteArray), .string (⟨#[]⟩ : ByteArray)]) ?_ 0 _ rfl; (with_reducible repeat (first | refine blk_drewN ?_ _ | refine blk_drew ?_ | refine blk_alloc ?_ _)); exact BK247.out⟩
     have n2_ : Aside0 (Below w.heap.size w (((w9.setCell ⟨gb247, 0, none⟩ (.string ((rd_T67 l1 x7_1).f0))).setCell ⟨gb247, 1, none⟩ (.string ((rd_T67 l1 x7_1).f1))).setCell ⟨gb247, 2, none⟩ (.string ((rd_T67 l1 x7_1).f2)))) := ⟨m26_⟩
     (try clear HO_0)
     (try clear BK247)
     (try clear HB)
     generalize (((w9.setCell ⟨gb247, 0, none⟩ (.string ((rd_T67 l1 x7_1).f0))).setCell ⟨gb247, 1, none⟩ (.string ((rd_T67 l1 x7_1).f1))).setCell ⟨gb247, 2, none⟩ (.string ((rd_T67 l1 x7_1).f2))) = w45 at n0_ n1_ n2_ ⊢
     have HO_0 := n0_
     have BK247 := n1_
     have HB := n2_
     clear n0_ n1_ n2_
     replace HO_0 := Aside0.mk (Kd.V_drew HO_0.out)
     replace BK247 := Aside0.mk (blk_drew BK247.out)
     replace HB := Aside0.mk (below_drew1 HB.out)
     refine start_ (n := 49) (S := fun w' => w'.cell? ⟨gb247, 0, none⟩ = some (.string ((rd_T67 l1 x7_1).f0)) ∧ w'.cell? ⟨gb247, 1, none⟩ = some (.string ((rd_T67 l1 x7_1).f1)) ∧ w'.cell? ⟨gb247, 2, none⟩ = some (.string ((rd_T67 l1 x7_1).f2))) (ds := []) (Ra_ [0, 49]) (by kernel_rfl) rfl rfl ⟨(blk_cell BK247.out 0).trans rfl, (blk_cell BK247.out 1).trans rfl, (blk_cell BK247.out 2).trans rfl⟩ (fun hHeld => ?_); refine with_tabW strongroomref20_Apply.tab8 strongroomref20_Apply.bits8 (fun HT_ HW_ => ?_)
     generalize w45.drew = w46 at HO_0 BK247 HB hHeld ⊢
     refine pI_ 0 (some 29) (Ra_ [1, 48]) (h := ?_)
     refine tI3_ 1 (some 30) (Ra_ [2, 47]) (h := ?_)
     refine one_ (i := 2) (N := some 31) (Ra_ [3, 46]) rfl rfl (one_of HT_.out (by kernel_rfl)) (by decide) (fun K hK => ?_)
     refine goes_ Tryd.func51 (by kernel_rfl) rfl #[.string ((rd_T67 l1 x7_1).f0)] (by rfl) rfl rfl m6_ ?_
     with_reducible refine (strongroomref05_Good.calls k1 ((rd_T67 l1 x7_1).f0) true _ A11.out).mono ?_
     rintro e w47 ⟨rfl, hb⟩
     refine ⟨_, rfl, ?_⟩
     replace HO_0 := Aside0.mk (Kd.V_below m14_ hb)
     replace BK247 := Aside0.mk (blk_below (g := gb247) (o := .cells #[.string ((rd_T67 l1 x7_1).f0), .string ((rd_T67 l1 x7_1).f1), .string ((rd_T67 l1 x7_1).f2)] 67 (0, 0)) m8_ hb)
     replace HB := Aside0.mk (below_step m0_ hb)
     (try clear hb)
     (try clear hb2)
     (try clear hk)
     (try clear hi)
     refine hK.out _ _ ⟨(blk_cell BK247.out 0).trans rfl, (blk_cell BK247.out 1).trans rfl, (blk_cell BK247.out 2).trans rfl⟩ (fun hHeld => ?_)
     clear hK K
     refine norm_ (a' := ?_) ?_ ?_
     rotate_left
     ·show Act.put _ (some 31) _ = _
      simp only [Act.put, sA_, sB_, sC_, i64_w, i32_w]
      rfl
     refine pI_ 3 (some 32) (Ra_ [4, 45]) (h := ?_)
     refine pI_ 4 (some 33) (Ra_ [5, 44]) (h := ?_)
     refine pI_ 5 (some 34) (Ra_ [6, 43]) (h := ?_)
     refine pI_ 6 (some 35) (Ra_ [7, 42]) (h := ?_)
     refine pI_ 7 (some 36) (Ra_ [8, 41]) (h := ?_)
     refine uI_ 8 (some 37) (Ra_ [9, 40]) (h := ?_)
     refine uI_ 9 (some 38) (Ra_ [10, 39]) (h := ?_)
     refine uI_ 10 (some 39) (Ra_ [11, 38]) (h := ?_)
     refine uI_ 11 (some 40) (Ra_ [12, 37]) (h := ?_)
     refine uI_ 12 (some 41) (Ra_ [13, 36]) (h := ?_)
     refine uI_ 13 (some 42) (Ra_ [14, 35]) (h := ?_)
     refine uI_ 14 (some 43) (Ra_ [15, 34]) (h := ?_)
     refine uI_ 15 (some 44) (Ra_ [16, 33]) (h := ?_)
     refine uI_ 16 (some 45) (Ra_ [17, 32]) (h := ?_)
     refine uI_ 17 (some 46) (Ra_ [18, 31]) (h := ?_)
     refine pI_ 18 (some 47) (Ra_ [19, 30]) (h := ?_)
     refine pI_ 19 (some 48) (Ra_ [20, 29]) (h := ?_)
     refine pI_ 20 (some 49) (Ra_ [21, 28]) (h := ?_)
     refine pI_ 21 (some 50) (Ra_ [22, 27]) (h := ?_)
     refine pI_ 23 (some 52) (Ra_ [22, 1, 1, 25]) (h := ?_)
     refine tI3_ 22 (some 51) (Ra_ [24, 25]) (h := ?_)
     refine tI3_ 24 (some 53) (Ra_ [25, 24]) (h := ?_)
     refine pI_ 25 (some 54) (Ra_ [26, 23]) (h := ?_)
     refine pI_ 26 (some 55) (Ra_ [27, 22]) (h := ?_)
     refine pI_ 27 (some 56) (Ra_ [28, 21]) (h := ?_)
     refine uI_ 28 (some 57) (Ra_ [29, 20]) (h := ?_)
     refine uI_ 29 (some 58) (Ra_ [30, 19]) (h := ?_)
     refine uI_ 30 (some 59) (Ra_ [31, 18]) (h := ?_)
     refine uI_ 31 (some 60) (Ra_ [32, 17]) (h := ?_)
     refine uI_ 32 (some 61) (Ra_ [33, 16]) (h := ?_)
     refine uI_ 33 (some 62) (Ra_ [34, 15]) (h := ?_)
     refine uI_ 34 (some 63) (Ra_ [35, 14]) (h := ?_)
     refine uI_ 35 (some 64) (Ra_ [36, 13]) (h := ?_)
     refine uI_ 36 (some 65) (Ra_ [37, 12]) (h := ?_)
     refine pI_ 37 (some 66) (Ra_ [38, 11]) (h := ?_)
     refine pI_ 38 (some 67) (Ra_ [39, 10]) (h := ?_)
     refine uI_ 39 (some 68) (Ra_ [40, 9]) (h := ?_)
     refine uI_ 40 (some 69) (Ra_ [41, 8]) (h := ?_)
     refine uI_ 41 (some 70) (Ra_ [42, 7]) (h := ?_)
     refine uI_ 42 (some 71) (Ra_ [43, 6]) (h := ?_)
     refine uI_ 43 (some 72) (Ra_ [44, 5]) (h := ?_)
     refine uI_ 44 (some 73) (Ra_ [45, 4]) (h := ?_)
     refine uI_ 45 (some 74) (Ra_ [46, 3]) (h := ?_)
     refine uI_ 46 (some 75) (Ra_ [47, 2]) (h := ?_)
     refine uI_ 47 (some 76) (Ra_ [48, 1]) (h := ?_)
     refine pI_ 48 (some 77) (Ra_ [49]) (h := ?_)
     refine done_ (done_of HT_.out (by kernel_rfl)) ?_
     try go_wp2
     go_meet
     case rel => exact ⟨_, (true), m19_, H', ⟨by have := HK1.out; first | omega | exact Nat.le_refl _⟩, ⟨by (with_reducible repeat (first | apply Kd.V_alloc | apply Kd.V_drewN | apply Kd.V_drew)); exact HO_0.out⟩, ⟨by (with_reducible repeat (first | refine blk_drewN ?_ _ | refine blk_drew ?_ | refine blk_alloc ?_ _)); exact BK247.out⟩, ⟨m26_⟩⟩
    rw [if_neg c44] at H
    have c44b0 : (((rd_T67 l1 x7_1).f1).toList == ((rd_T67 l1 x7_1).f2).toList) = false := beq_eq_false_iff_ne.mpr c44
    have c44b1 : (((rd_T67 l1 x7_1).f1).toList != ((rd_T67 l1 x7_1).f2).toList) = true := bne_iff_ne.mpr c44
    by_cases c48 : ((rd_T67 l1 x7_1).f1).toList = ([] : List UInt8)
    ·rw [if_pos c48] at H
     have c48b0 : (((rd_T67 l1 x7_1).f1).toList == ([] : List UInt8)) = true := beq_iff_eq.mpr c48
     have c48b1 : (((rd_T67 l1 x7_1).f1).toList != ([] : List UInt8)) = false := bne_eq_false_iff_eq.mpr c48
     clear c48
     by_cases c49 : ((rd_T67 l1 x7_1).f2).toList = ([] : List UInt8)
     ·rw [if_pos c49] at H
      have c49b0 : (((rd_T67 l1 x7_1).f2).toList == ([] : List UInt8)) = true := beq_iff_eq.mpr c49
      have c49b1 : (((rd_T67 l1 x7_1).f2).toList != ([] : List UInt8)) = false := bne_eq_false_iff_eq.mpr c49
      clear c49
      have H' := Aside0.mk H
      clear H
      try go_wp2
      have n0_ : Aside0 (Kd.V k39 39 (((w9.setCell ⟨gb247, 0, none⟩ (.string ((rd_T67 l1 x7_1).f0))).setCell ⟨gb247, 1, none⟩ (.string ((rd_T67 l1 x7_1).f1))).setCell ⟨gb247, 2, none⟩ (.string ((rd_T67 l1 x7_1).f2))) w.heap.size (fun k_ => (P0_ k_ ∨ w.heap.size ≤ k_) ∧ k_ ≠ gb247) (.slice A0 l0.length c0) l0) := ⟨by (with_reducible repeat (first | apply Kd.V_alloc | apply Kd.V_drewN | apply Kd.V_drew)); exact Kd.V_mono (Kd.V_far (p := ⟨gb247, 2, none⟩) (Kd.V_far (p := ⟨gb247, 1, none⟩) (Kd.V_far (p := ⟨gb247, 0, none⟩) (Kd.V_mono HO_0.out (fun k_ hk => (⟨hk, hk.2⟩ : _ ∧ k_ ≠ gb247))) (fun _ hk => hk.2) (.string ((rd_T67 l1 x7_1).f0))) (fun _ hk => hk.2) (.string ((rd_T67 l1 x7_1).f1))) (fun _ hk => hk.2) (.string ((rd_T67 l1 x7_1).f2))) (fun _ hk => ⟨hk.1.1, hk.1.2⟩)⟩
      have n1_ : Aside0 ((((w9.setCell ⟨gb247, 0, none⟩ (.string ((rd_T67 l1 x7_1).f0))).setCell ⟨gb247, 1, none⟩ (.string ((rd_T67 l1 x7_1).f1))).setCell ⟨gb247, 2, none⟩ (.string ((rd_T67 l1 x7_1).f2))).heap[gb247]? = some (.cells #[.string ((rd_T67 l1 x7_1).f0), .string ((rd_T67 l1 x7_1).f1), .string ((rd_T67 l1 x7_1).f2)] 67 (0, 0))) := ⟨by (with_reducible repeat (first | refine blk_drewN ?_ _ | refine blk_drew ?_ | refine blk_alloc ?_ _)); refine blk_put (cs := #[.string ((rd_T67 l1 x7_1).f0), .string ((rd_T67 l1 x7_1).f1), .string (⟨#[]⟩ : ByteArray)]) ?_ 2 _ rfl; (with_reducible repeat (first | refine blk_drewN ?_ _ | refine blk_drew ?_ | refine blk_alloc ?_ _)); refine blk_put (cs := #[.string ((rd_T67 l1 x7_1).f0), .string (⟨#[]⟩ : ByteArray), .string (⟨#[]⟩ : ByteArray)]) ?_ 1 _ rfl; (with_reducible repeat (first | refine blk_drewN ?_ _ | refine blk_drew ?_ | refine blk_alloc ?_ _)); refine blk_put (cs := #[.string (⟨#[]⟩ : ByteArray), .string (⟨#[]⟩ : ByteArray), .string (⟨#[]⟩ : ByteArray)]) ?_ 0 _ rfl; (with_reducible repeat (first | refine blk_drewN ?_ _ | refine blk_drew ?_ | refine blk_alloc ?_ _)); exact BK247.out⟩
      have n2_ : Aside0 (Below w.heap.size w (((w9.setCell ⟨gb247, 0, none⟩ (.string ((rd_T67 l1 x7_1).f0))).setCell ⟨gb247, 1, none⟩ (.string ((rd_T67 l1 x7_1).f1))).setCell ⟨gb247, 2, none⟩ (.string ((rd_T67 l1 x7_1).f2)))) := ⟨m26_⟩
      (try clear HO_0)
      (try clear BK247)
      (try clear HB)
      generalize (((w9.setCell ⟨gb247, 0, none⟩ (.string ((rd_T67 l1 x7_1).f0))).setCell ⟨gb247, 1, none⟩ (.string ((rd_T67 l1 x7_1).f1))).setCell ⟨gb247, 2, none⟩ (.string ((rd_T67 l1 x7_1).f2))) = w50 at n0_ n1_ n2_ ⊢
      have HO_0 := n0_
      have BK247 := n1_
      have HB := n2_
      clear n0_ n1_ n2_
      replace HO_0 := Aside0.mk (Kd.V_drew HO_0.out)
      replace BK247 := Aside0.mk (blk_drew BK247.out)
      replace HB := Aside0.mk (below_drew1 HB.out)
      refine start_ (n := 49) (S := fun w' => w'.cell? ⟨gb247, 0, none⟩ = some (.string ((rd_T67 l1 x7_1).f0)) ∧ w'.cell? ⟨gb247, 1, none⟩ = some (.string ((rd_T67 l1 x7_1).f1)) ∧ w'.cell? ⟨gb247, 2, none⟩ = some (.string ((rd_T67 l1 x7_1).f2))) (ds := []) (Ra_ [0, 49]) (by kernel_rfl) rfl rfl ⟨(blk_cell BK247.out 0).trans rfl, (blk_cell BK247.out 1).trans rfl, (blk_cell BK247.out 2).trans rfl⟩ (fun hHeld => ?_); refine with_tabW strongroomref20_Apply.tab8 strongroomref20_Apply.bits8 (fun HT_ HW_ => ?_)
      generalize w50.drew = w51 at HO_0 BK247 HB hHeld ⊢
      refine pI_ 0 (some 29) (Ra_ [1, 48]) (h := ?_)
      refine tI3_ 1 (some 30) (Ra_ [2, 47]) (h := ?_)
      refine one_ (i := 2) (N := some 31) (Ra_ [3, 46]) rfl rfl (one_of HT_.out (by kernel_rfl)) (by decide) (fun K hK => ?_)
      refine goes_ Tryd.func51 (by kernel_rfl) rfl #[.string ((rd_T67 l1 x7_1).f0)] (by rfl) rfl rfl m6_ ?_
      with_reducible refine (strongroomref05_Good.calls k1 ((rd_T67 l1 x7_1).f0) true _ A11.out).mono ?_
      rintro e w52 ⟨rfl, hb⟩
      refine ⟨_, rfl, ?_⟩
      replace HO_0 := Aside0.mk (Kd.V_below m14_ hb)
      replace BK247 := Aside0.mk (blk_below (g := gb247) (o := .cells #[.string ((rd_T67 l1 x7_1).f0), .string ((rd_T67 l1 x7_1).f1), .string ((rd_T67 l1 x7_1).f2)] 67 (0, 0)) m8_ hb)
      replace HB := Aside0.mk (below_step m0_ hb)
      (try clear hb)
      (try clear hb2)
      (try clear hk)
      (try clear hi)
      refine hK.out _ _ ⟨(blk_cell BK247.out 0).trans rfl, (blk_cell BK247.out 1).trans rfl, (blk_cell BK247.out 2).trans rfl⟩ (fun hHeld => ?_)
      clear hK K
      refine norm_ (a' := ?_) ?_ ?_
      rotate_left
      ·show Act.put _ (some 31) _ = _
       simp only [Act.put, sA_, sB_, sC_, i64_w, i32_w]
       rfl
      refine pI_ 3 (some 32) (Ra_ [4, 45]) (h := ?_)
      refine pI_ 4 (some 33) (Ra_ [5, 44]) (h := ?_)
      refine pI_ 5 (some 34) (Ra_ [6, 43]) (h := ?_)
      refine pI_ 6 (some 35) (Ra_ [7, 42]) (h := ?_)
      refine pI_ 7 (some 36) (Ra_ [8, 41]) (h := ?_)
      refine uI_ 8 (some 37) (Ra_ [9, 40]) (h := ?_)
      refine uI_ 9 (some 38) (Ra_ [10, 39]) (h := ?_)
      refine uI_ 10 (some 39) (Ra_ [11, 38]) (h := ?_)
      refine uI_ 11 (some 40) (Ra_ [12, 37]) (h := ?_)
      refine uI_ 12 (some 41) (Ra_ [13, 36]) (h := ?_)
      refine uI_ 13 (some 42) (Ra_ [14, 35]) (h := ?_)
      refine uI_ 14 (some 43) (Ra_ [15, 34]) (h := ?_)
      refine uI_ 15 (some 44) (Ra_ [16, 33]) (h := ?_)
      refine uI_ 16 (some 45) (Ra_ [17, 32]) (h := ?_)
      refine uI_ 17 (some 46) (Ra_ [18, 31]) (h := ?_)
      refine pI_ 18 (some 47) (Ra_ [19, 30]) (h := ?_)
      refine pI_ 19 (some 48) (Ra_ [20, 29]) (h := ?_)
      refine pI_ 20 (some 49) (Ra_ [21, 28]) (h := ?_)
      refine pI_ 21 (some 50) (Ra_ [22, 27]) (h := ?_)
      refine pI_ 23 (some 52) (Ra_ [22, 1, 1, 25]) (h := ?_)
      refine tI3_ 22 (some 51) (Ra_ [24, 25]) (h := ?_)
      refine tI3_ 24 (some 53) (Ra_ [25, 24]) (h := ?_)
      refine pI_ 25 (some 54) (Ra_ [26, 23]) (h := ?_)
      refine pI_ 26 (some 55) (Ra_ [27, 22]) (h := ?_)
      refine pI_ 27 (some 56) (Ra_ [28, 21]) (h := ?_)
      refine pI_ 28 (some 57) (Ra_ [29, 20]) (h := ?_)
      refine tI3_ 29 (some 58) (Ra_ [30, 19]) (h := ?_)
      refine pI_ 30 (some 59) (Ra_ [31, 18]) (h := ?_)
      refine pI_ 31 (some 60) (Ra_ [32, 17]) (h := ?_)
      refine uI_ 32 (some 61) (Ra_ [33, 16]) (h := ?_)
      refine uI_ 33 (some 62) (Ra_ [34, 15]) (h := ?_)
      refine uI_ 34 (some 63) (Ra_ [35, 14]) (h := ?_)
      refine uI_ 35 (some 64) (Ra_ [36, 13]) (h := ?_)
      refine pI_ 36 (some 65) (Ra_ [37, 12]) (h := ?_)
      refine pI_ 37 (some 66) (Ra_ [38, 11]) (h := ?_)
      refine pI_ 38 (some 67) (Ra_ [39, 10]) (h := ?_)
      refine pI_ 39 (some 68) (Ra_ [40, 9]) (h := ?_)
      refine tI3_ 40 (some 69) (Ra_ [41, 8]) (h := ?_)
      refine pI_ 41 (some 70) (Ra_ [42, 7]) (h := ?_)
      refine pI_ 42 (some 71) (Ra_ [43, 6]) (h := ?_)
      refine uI_ 43 (some 72) (Ra_ [44, 5]) (h := ?_)
      refine uI_ 44 (some 73) (Ra_ [45, 4]) (h := ?_)
      refine uI_ 45 (some 74) (Ra_ [46, 3]) (h := ?_)
      refine uI_ 46 (some 75) (Ra_ [47, 2]) (h := ?_)
      refine pI_ 47 (some 76) (Ra_ [48, 1]) (h := ?_)
      refine pI_ 48 (some 77) (Ra_ [49]) (h := ?_)
      refine done_ (done_of HT_.out (by kernel_rfl)) ?_
      try go_wp2
      go_meet
      case rel => exact ⟨_, (false), m19_, H', ⟨by have := HK1.out; first | omega | exact Nat.le_refl _⟩, ⟨by (with_reducible repeat (first | apply Kd.V_alloc | apply Kd.V_drewN | apply Kd.V_drew)); exact HO_0.out⟩, ⟨by (with_reducible repeat (first | refine blk_drewN ?_ _ | refine blk_drew ?_ | refine blk_alloc ?_ _)); exact BK247.out⟩, ⟨m26_⟩⟩
     rw [if_neg c49] at H
     have c49b0 : (((rd_T67 l1 x7_1).f2).toList == ([] : List UInt8)) = false := beq_eq_false_iff_ne.mpr c49
     have c49b1 : (((rd_T67 l1 x7_1).f2).toList != ([] : List UInt8)) = true := bne_iff_ne.mpr c49
     have H' := Aside0.mk H
     clear H
     try go_wp2
     have n0_ : Aside0 (Kd.V k39 39 (((w9.setCell ⟨gb247, 0, none⟩ (.string ((rd_T67 l1 x7_1).f0))).setCell ⟨gb247, 1, none⟩ (.string ((rd_T67 l1 x7_1).f1))).setCell ⟨gb247, 2, none⟩ (.string ((rd_T67 l1 x7_1).f2))) w.heap.size (fun k_ => (P0_ k_ ∨ w.heap.size ≤ k_) ∧ k_ ≠ gb247) (.slice A0 l0.length c0) l0) := ⟨by (with_reducible repeat (first | apply Kd.V_alloc | apply Kd.V_drewN | apply Kd.V_drew)); exact Kd.V_mono (Kd.V_far (p := ⟨gb247, 2, none⟩) (Kd.V_far (p := ⟨gb247, 1, none⟩) (Kd.V_far (p := ⟨gb247, 0, none⟩) (Kd.V_mono HO_0.out (fun k_ hk => (⟨hk, hk.2⟩ : _ ∧ k_ ≠ gb247))) (fun _ hk => hk.2) (.string ((rd_T67 l1 x7_1).f0))) (fun _ hk => hk.2) (.string ((rd_T67 l1 x7_1).f1))) (fun _ hk => hk.2) (.string ((rd_T67 l1 x7_1).f2))) (fun _ hk => ⟨hk.1.1, hk.1.2⟩)⟩
     have n1_ : Aside0 ((((w9.setCell ⟨gb247, 0, none⟩ (.string ((rd_T67 l1 x7_1).f0))).setCell ⟨gb247, 1, none⟩ (.string ((rd_T67 l1 x7_1).f1))).setCell ⟨gb247, 2, none⟩ (.string ((rd_T67 l1 x7_1).f2))).heap[gb247]? = some (.cells #[.string ((rd_T67 l1 x7_1).f0), .string ((rd_T67 l1 x7_1).f1), .string ((rd_T67 l1 x7_1).f2)] 67 (0, 0))) := ⟨by (with_reducible repeat (first | refine blk_drewN ?_ _ | refine blk_drew ?_ | refine blk_alloc ?_ _)); refine blk_put (cs := #[.string ((rd_T67 l1 x7_1).f0), .string ((rd_T67 l1 x7_1).f1), .string (⟨#[]⟩ : ByteArray)]) ?_ 2 _ rfl; (with_reducible repeat (first | refine blk_drewN ?_ _ | refine blk_drew ?_ | refine blk_alloc ?_ _)); refine blk_put (cs := #[.string ((rd_T67 l1 x7_1).f0), .string (⟨#[]⟩ : ByteArray), .string (⟨#[]⟩ : ByteArray)]) ?_ 1 _ rfl; (with_reducible repeat (first | refine blk_drewN ?_ _ | refine blk_drew ?_ | refine blk_alloc ?_ _)); refine blk_put (cs := #[.string (⟨#[]⟩ : ByteArray), .string (⟨#[]⟩ : ByteArray), .string (⟨#[]⟩ : ByteArray)]) ?_ 0 _ rfl; (with_reducible repeat (first | refine blk_drewN ?_ _ | refine blk_drew ?_ | refine blk_alloc ?_ _)); exact BK247.out⟩
     have n2_ : Aside0 (Below w.heap.size w (((w9.setCell ⟨gb247, 0, none⟩ (.string ((rd_T67 l1 x7_1).f0))).setCell ⟨gb247, 1, none⟩ (.string ((rd_T67 l1 x7_1).f1))).setCell ⟨gb247, 2, none⟩ (.string ((rd_T67 l1 x7_1).f2)))) := ⟨m26_⟩
     (try clear HO_0)
     (try clear BK247)
     (try clear HB)
     generalize (((w9.setCell ⟨gb247, 0, none⟩ (.string ((rd_T67 l1 x7_1).f0))).setCell ⟨gb247, 1, none⟩ (.string ((rd_T67 l1 x7_1).f1))).setCell ⟨gb247, 2, none⟩ (.string ((rd_T67 l1 x7_1).f2))) = w53 at n0_ n1_ n2_ ⊢
     have HO_0 := n0_
     have BK247 := n1_
     have HB := n2_
     clear n0_ n1_ n2_
     replace HO_0 := Aside0.mk (Kd.V_drew HO_0.out)
     replace BK247 := Aside0.mk (blk_drew BK247.out)
     replace HB := Aside0.mk (below_drew1 HB.out)
     refine start_ (n := 49) (S := fun w' => w'.cell? ⟨gb247, 0, none⟩ = some (.string ((rd_T67 l1 x7_1).f0)) ∧ w'.cell? ⟨gb247, 1, none⟩ = some (.string ((rd_T67 l1 x7_1).f1)) ∧ w'.cell? ⟨gb247, 2, none⟩ = some (.string ((rd_T67 l1 x7_1).f2))) (ds := []) (Ra_ [0, 49]) (by kernel_rfl) rfl rfl ⟨(blk_cell BK247.out 0).trans rfl, (blk_cell BK247.out 1).trans rfl, (blk_cell BK247.out 2).trans rfl⟩ (fun hHeld => ?_); refine with_tabW strongroomref20_Apply.tab8 strongroomref20_Apply.bits8 (fun HT_ HW_ => ?_)
     generalize w53.drew = w54 at HO_0 BK247 HB hHeld ⊢
     refine pI_ 0 (some 29) (Ra_ [1, 48]) (h := ?_)
     refine tI3_ 1 (some 30) (Ra_ [2, 47]) (h := ?_)
     refine one_ (i := 2) (N := some 31) (Ra_ [3, 46]) rfl rfl (one_of HT_.out (by kernel_rfl)) (by decide) (fun K hK => ?_)
     refine goes_ Tryd.func51 (by kernel_rfl) rfl #[.string ((rd_T67 l1 x7_1).f0)] (by rfl) rfl rfl m6_ ?_
     with_reducible refine (strongroomref05_Good.calls k1 ((rd_T67 l1 x7_1).f0) true _ A11.out).mono ?_
     rintro e w55 ⟨rfl, hb⟩
     refine ⟨_, rfl, ?_⟩
     replace HO_0 := Aside0.mk (Kd.V_below m14_ hb)
     replace BK247 := Aside0.mk (blk_below (g := gb247) (o := .cells #[.string ((rd_T67 l1 x7_1).f0), .string ((rd_T67 l1 x7_1).f1), .string ((rd_T67 l1 x7_1).f2)] 67 (0, 0)) m8_ hb)
     replace HB := Aside0.mk (below_step m0_ hb)
     (try clear hb)
     (try clear hb2)
     (try clear hk)
     (try clear hi)
     refine hK.out _ _ ⟨(blk_cell BK247.out 0).trans rfl, (blk_cell BK247.out 1).trans rfl, (blk_cell BK247.out 2).trans rfl⟩ (fun hHeld => ?_)
     clear hK K
     refine norm_ (a' := ?_) ?_ ?_
     rotate_left
     ·show Act.put _ (some 31) _ = _
      simp only [Act.put, sA_, sB_, sC_, i64_w, i32_w]
      rfl
     refine pI_ 3 (some 32) (Ra_ [4, 45]) (h := ?_)
     refine pI_ 4 (some 33) (Ra_ [5, 44]) (h := ?_)
     refine pI_ 5 (some 34) (Ra_ [6, 43]) (h := ?_)
     refine pI_ 6 (some 35) (Ra_ [7, 42]) (h := ?_)
     refine pI_ 7 (some 36) (Ra_ [8, 41]) (h := ?_)
     refine uI_ 8 (some 37) (Ra_ [9, 40]) (h := ?_)
     refine uI_ 9 (some 38) (Ra_ [10, 39]) (h := ?_)
     refine uI_ 10 (some 39) (Ra_ [11, 38]) (h := ?_)
     refine uI_ 11 (some 40) (Ra_ [12, 37]) (h := ?_)
     refine uI_ 12 (some 41) (Ra_ [13, 36]) (h := ?_)
     refine uI_ 13 (some 42) (Ra_ [14, 35]) (h := ?_)
     refine uI_ 14 (some 43) (Ra_ [15, 34]) (h := ?_)
     refine uI_ 15 (some 44) (Ra_ [16, 33]) (h := ?_)
     refine uI_ 16 (some 45) (Ra_ [17, 32]) (h := ?_)
     refine uI_ 17 (some 46) (Ra_ [18, 31]) (h := ?_)
     refine pI_ 18 (some 47) (Ra_ [19, 30]) (h := ?_)
     refine pI_ 19 (some 48) (Ra_ [20, 29]) (h := ?_)
     refine pI_ 20 (some 49) (Ra_ [21, 28]) (h := ?_)
     refine pI_ 21 (some 50) (Ra_ [22, 27]) (h := ?_)
     refine pI_ 23 (some 52) (Ra_ [22, 1, 1, 25]) (h := ?_)
     refine tI3_ 22 (some 51) (Ra_ [24, 25]) (h := ?_)
     refine tI3_ 24 (some 53) (Ra_ [25, 24]) (h := ?_)
     refine pI_ 25 (some 54) (Ra_ [26, 23]) (h := ?_)
     refine pI_ 26 (some 55) (Ra_ [27, 22]) (h := ?_)
     refine pI_ 27 (some 56) (Ra_ [28, 21]) (h := ?_)
     refine pI_ 28 (some 57) (Ra_ [29, 20]) (h := ?_)
     refine tI3_ 29 (some 58) (Ra_ [30, 19]) (h := ?_)
     refine pI_ 30 (some 59) (Ra_ [31, 18]) (h := ?_)
     refine pI_ 31 (some 60) (Ra_ [32, 17]) (h := ?_)
     refine uI_ 32 (some 61) (Ra_ [33, 16]) (h := ?_)
     refine uI_ 33 (some 62) (Ra_ [34, 15]) (h := ?_)
     refine uI_ 34 (some 63) (Ra_ [35, 14]) (h := ?_)
     refine uI_ 35 (some 64) (Ra_ [36, 13]) (h := ?_)
     refine pI_ 36 (some 65) (Ra_ [37, 12]) (h := ?_)
     refine pI_ 37 (some 66) (Ra_ [38, 11]) (h := ?_)
     refine pI_ 38 (some 67) (Ra_ [39, 10]) (h := ?_)
     refine pI_ 39 (some 68) (Ra_ [40, 9]) (h := ?_)
     refine tI3_ 40 (some 69) (Ra_ [41, 8]) (h := ?_)
     refine pI_ 41 (some 70) (Ra_ [42, 7]) (h := ?_)
     refine pI_ 42 (some 71) (Ra_ [43, 6]) (h := ?_)
     refine pI_ 43 (some 72) (Ra_ [44, 5]) (h := ?_)
     refine tI3_ 44 (some 73) (Ra_ [45, 4]) (h := ?_)
     refine pI_ 45 (some 74) (Ra_ [46, 3]) (h := ?_)
     refine pI_ 46 (some 75) (Ra_ [47, 2]) (h := ?_)
     refine pI_ 47 (some 76) (Ra_ [48, 1]) (h := ?_)
     refine pI_ 48 (some 77) (Ra_ [49]) (h := ?_)
     refine done_ (done_of HT_.out (by kernel_rfl)) ?_
     try go_wp2
     go_meet
     case rel => exact ⟨_, (((((rd_T67 l1 x7_1).f2).size : Int) != 32)), m19_, H', ⟨by have := HK1.out; first | omega | exact Nat.le_refl _⟩, ⟨by (with_reducible repeat (first | apply Kd.V_alloc | apply Kd.V_drewN | apply Kd.V_drew)); exact HO_0.out⟩, ⟨by (with_reducible repeat (first | refine blk_drewN ?_ _ | refine blk_drew ?_ | refine blk_alloc ?_ _)); exact BK247.out⟩, ⟨m26_⟩⟩
    rw [if_neg c48] at H
    have c48b0 : (((rd_T67 l1 x7_1).f1).toList == ([] : List UInt8)) = false := beq_eq_false_iff_ne.mpr c48
    have c48b1 : (((rd_T67 l1 x7_1).f1).toList != ([] : List UInt8)) = true := bne_iff_ne.mpr c48
    by_cases c56 : (((rd_T67 l1 x7_1).f1).size : Int) = 32
    case neg =>
     rw [if_neg c56] at H
     have c56b0 : ((((rd_T67 l1 x7_1).f1).size : Int) == 32) = false := beq_eq_false_iff_ne.mpr c56
     have c56b1 : ((((rd_T67 l1 x7_1).f1).size : Int) != 32) = true := bne_iff_ne.mpr c56
     have H' := Aside0.mk H
     clear H
     try go_wp2
     have n0_ : Aside0 (Kd.V k39 39 (((w9.setCell ⟨gb247, 0, none⟩ (.string ((rd_T67 l1 x7_1).f0))).setCell ⟨gb247, 1, none⟩ (.string ((rd_T67 l1 x7_1).f1))).setCell ⟨gb247, 2, none⟩ (.string ((rd_T67 l1 x7_1).f2))) w.heap.size (fun k_ => (P0_ k_ ∨ w.heap.size ≤ k_) ∧ k_ ≠ gb247) (.slice A0 l0.length c0) l0) := ⟨by (with_reducible repeat (first | apply Kd.V_alloc | apply Kd.V_drewN | apply Kd.V_drew)); exact Kd.V_mono (Kd.V_far (p := ⟨gb247, 2, none⟩) (Kd.V_far (p := ⟨gb247, 1, none⟩) (Kd.V_far (p := ⟨gb247, 0, none⟩) (Kd.V_mono HO_0.out (fun k_ hk => (⟨hk, hk.2⟩ : _ ∧ k_ ≠ gb247))) (fun _ hk => hk.2) (.string ((rd_T67 l1 x7_1).f0))) (fun _ hk => hk.2) (.string ((rd_T67 l1 x7_1).f1))) (fun _ hk => hk.2) (.string ((rd_T67 l1 x7_1).f2))) (fun _ hk => ⟨hk.1.1, hk.1.2⟩)⟩
     have n1_ : Aside0 ((((w9.setCell ⟨gb247, 0, none⟩ (.string ((rd_T67 l1 x7_1).f0))).setCell ⟨gb247, 1, none⟩ (.string ((rd_T67 l1 x7_1).f1))).setCell ⟨gb247, 2, none⟩ (.string ((rd_T67 l1 x7_1).f2))).heap[gb247]? = some (.cells #[.string ((rd_T67 l1 x7_1).f0), .string ((rd_T67 l1 x7_1).f1), .string ((rd_T67 l1 x7_1).f2)] 67 (0, 0))) := ⟨by (with_reducible repeat (first | refine blk_drewN ?_ _ | refine blk_drew ?_ | refine blk_alloc ?_ _)); refine blk_put (cs := #[.string ((rd_T67 l1 x7_1).f0), .string ((rd_T67 l1 x7_1).f1), .string (⟨#[]⟩ : ByteArray)]) ?_ 2 _ rfl; (with_reducible repeat (first | refine blk_drewN ?_ _ | refine blk_drew ?_ | refine blk_alloc ?_ _)); refine blk_put (cs := #[.string ((rd_T67 l1 x7_1).f0), .string (⟨#[]⟩ : ByteArray), .string (⟨#[]⟩ : ByteArray)]) ?_ 1 _ rfl; (with_reducible repeat (first | refine blk_drewN ?_ _ | refine blk_drew ?_ | refine blk_alloc ?_ _)); refine blk_put (cs := #[.string (⟨#[]⟩ : ByteArray), .string (⟨#[]⟩ : ByteArray), .string (⟨#[]⟩ : ByteArray)]) ?_ 0 _ rfl; (with_reducible repeat (first | refine blk_drewN ?_ _ | refine blk_drew ?_ | refine blk_alloc ?_ _)); exact BK247.out⟩
     have n2_ : Aside0 (Below w.heap.size w (((w9.setCell ⟨gb247, 0, none⟩ (.string ((rd_T67 l1 x7_1).f0))).setCell ⟨gb247, 1, none⟩ (.string ((rd_T67 l1 x7_1).f1))).setCell ⟨gb247, 2, none⟩ (.string ((rd_T67 l1 x7_1).f2)))) := ⟨m26_⟩
     (try clear HO_0)
     (try clear BK247)
     (try clear HB)
     generalize (((w9.setCell ⟨gb247, 0, none⟩ (.string ((rd_T67 l1 x7_1).f0))).setCell ⟨gb247, 1, none⟩ (.string ((rd_T67 l1 x7_1).f1))).setCell ⟨gb247, 2, none⟩ (.string ((rd_T67 l1 x7_1).f2))) = w64 at n0_ n1_ n2_ ⊢
     have HO_0 := n0_
     have BK247 := n1_
     have HB := n2_
     clear n0_ n1_ n2_
     replace HO_0 := Aside0.mk (Kd.V_drew HO_0.out)
     replace BK247 := Aside0.mk (blk_drew BK247.out)
     replace HB := Aside0.mk (below_drew1 HB.out)
     refine start_ (n := 49) (S := fun w' => w'.cell? ⟨gb247, 0, none⟩ = some (.string ((rd_T67 l1 x7_1).f0)) ∧ w'.cell? ⟨gb247, 1, none⟩ = some (.string ((rd_T67 l1 x7_1).f1)) ∧ w'.cell? ⟨gb247, 2, none⟩ = some (.string ((rd_T67 l1 x7_1).f2))) (ds := []) (Ra_ [0, 49]) (by kernel_rfl) rfl rfl ⟨(blk_cell BK247.out 0).trans rfl, (blk_cell BK247.out 1).trans rfl, (blk_cell BK247.out 2).trans rfl⟩ (fun hHeld => ?_); refine with_tabW strongroomref20_Apply.tab8 strongroomref20_Apply.bits8 (fun HT_ HW_ => ?_)
     generalize w64.drew = w65 at HO_0 BK247 HB hHeld ⊢
     refine pI_ 0 (some 29) (Ra_ [1, 48]) (h := ?_)
     refine tI3_ 1 (some 30) (Ra_ [2, 47]) (h := ?_)
     refine one_ (i := 2) (N := some 31) (Ra_ [3, 46]) rfl rfl (one_of HT_.out (by kernel_rfl)) (by decide) (fun K hK => ?_)
     refine goes_ Tryd.func51 (by kernel_rfl) rfl #[.string ((rd_T67 l1 x7_1).f0)] (by rfl) rfl rfl m6_ ?_
     with_reducible refine (strongroomref05_Good.calls k1 ((rd_T67 l1 x7_1).f0) true _ A11.out).mono ?_
     rintro e w66 ⟨rfl, hb⟩
     refine ⟨_, rfl, ?_⟩
     replace HO_0 := Aside0.mk (Kd.V_below m14_ hb)
     replace BK247 := Aside0.mk (blk_below (g := gb247) (o := .cells #[.string ((rd_T67 l1 x7_1).f0), .string ((rd_T67 l1 x7_1).f1), .string ((rd_T67 l1 x7_1).f2)] 67 (0, 0)) m8_ hb)
     replace HB := Aside0.mk (below_step m0_ hb)
     (try clear hb)
     (try clear hb2)
     (try clear hk)
     (try clear hi)
     refine hK.out _ _ ⟨(blk_cell BK247.out 0).trans rfl, (blk_cell BK247.out 1).trans rfl, (blk_cell BK247.out 2).trans rfl⟩ (fun hHeld => ?_)
     clear hK K
     refine norm_ (a' := ?_) ?_ ?_
     rotate_left
     ·show Act.put _ (some 31) _ = _
      simp only [Act.put, sA_, sB_, sC_, i64_w, i32_w]
      rfl
     refine pI_ 3 (some 32) (Ra_ [4, 45]) (h := ?_)
     refine pI_ 4 (some 33) (Ra_ [5, 44]) (h := ?_)
     refine pI_ 5 (some 34) (Ra_ [6, 43]) (h := ?_)
     refine pI_ 6 (some 35) (Ra_ [7, 42]) (h := ?_)
     refine pI_ 7 (some 36) (Ra_ [8, 41]) (h := ?_)
     refine uI_ 8 (some 37) (Ra_ [9, 40]) (h := ?_)
     refine uI_ 9 (some 38) (Ra_ [10, 39]) (h := ?_)
     refine uI_ 10 (some 39) (Ra_ [11, 38]) (h := ?_)
     refine uI_ 11 (some 40) (Ra_ [12, 37]) (h := ?_)
     refine uI_ 12 (some 41) (Ra_ [13, 36]) (h := ?_)
     refine uI_ 13 (some 42) (Ra_ [14, 35]) (h := ?_)
     refine uI_ 14 (some 43) (Ra_ [15, 34]) (h := ?_)
     refine uI_ 15 (some 44) (Ra_ [16, 33]) (h := ?_)
     refine uI_ 16 (some 45) (Ra_ [17, 32]) (h := ?_)
     refine uI_ 17 (some 46) (Ra_ [18, 31]) (h := ?_)
     refine pI_ 18 (some 47) (Ra_ [19, 30]) (h := ?_)
     refine pI_ 19 (some 48) (Ra_ [20, 29]) (h := ?_)
     refine pI_ 20 (some 49) (Ra_ [21, 28]) (h := ?_)
     refine pI_ 21 (some 50) (Ra_ [22, 27]) (h := ?_)
     refine pI_ 23 (some 52) (Ra_ [22, 1, 1, 25]) (h := ?_)
     refine tI3_ 22 (some 51) (Ra_ [24, 25]) (h := ?_)
     refine tI3_ 24 (some 53) (Ra_ [25, 24]) (h := ?_)
     refine pI_ 25 (some 54) (Ra_ [26, 23]) (h := ?_)
     refine pI_ 26 (some 55) (Ra_ [27, 22]) (h := ?_)
     refine pI_ 27 (some 56) (Ra_ [28, 21]) (h := ?_)
     refine pI_ 28 (some 57) (Ra_ [29, 20]) (h := ?_)
     refine tI3_ 29 (some 58) (Ra_ [30, 19]) (h := ?_)
     refine pI_ 30 (some 59) (Ra_ [31, 18]) (h := ?_)
     refine pI_ 31 (some 60) (Ra_ [32, 17]) (h := ?_)
     refine pI_ 32 (some 61) (Ra_ [33, 16]) (h := ?_)
     refine tI3_ 33 (some 62) (Ra_ [34, 15]) (h := ?_)
     refine pI_ 34 (some 63) (Ra_ [35, 14]) (h := ?_)
     refine pI_ 35 (some 64) (Ra_ [36, 13]) (h := ?_)
     refine pI_ 36 (some 65) (Ra_ [37, 12]) (h := ?_)
     refine pI_ 37 (some 66) (Ra_ [38, 11]) (h := ?_)
     refine pI_ 38 (some 67) (Ra_ [39, 10]) (h := ?_)
     refine uI_ 39 (some 68) (Ra_ [40, 9]) (h := ?_)
     refine uI_ 40 (some 69) (Ra_ [41, 8]) (h := ?_)
     refine uI_ 41 (some 70) (Ra_ [42, 7]) (h := ?_)
     refine uI_ 42 (some 71) (Ra_ [43, 6]) (h := ?_)
     refine uI_ 43 (some 72) (Ra_ [44, 5]) (h := ?_)
     refine uI_ 44 (some 73) (Ra_ [45, 4]) (h := ?_)
     refine uI_ 45 (some 74) (Ra_ [46, 3]) (h := ?_)
     refine uI_ 46 (some 75) (Ra_ [47, 2]) (h := ?_)
     refine uI_ 47 (some 76) (Ra_ [48, 1]) (h := ?_)
     refine pI_ 48 (some 77) (Ra_ [49]) (h := ?_)
     refine done_ (done_of HT_.out (by kernel_rfl)) ?_
     try go_wp2
     go_meet
     case rel => exact ⟨_, (true), m19_, H', ⟨by have := HK1.out; first | omega | exact Nat.le_refl _⟩, ⟨by (with_reducible repeat (first | apply Kd.V_alloc | apply Kd.V_drewN | apply Kd.V_drew)); exact HO_0.out⟩, ⟨by (with_reducible repeat (first | refine blk_drewN ?_ _ | refine blk_drew ?_ | refine blk_alloc ?_ _)); exact BK247.out⟩, ⟨m26_⟩⟩
    rw [if_pos c56] at H
    have c56b0 : ((((rd_T67 l1 x7_1).f1).size : Int) == 32) = true := beq_iff_eq.mpr c56
    have c56b1 : ((((rd_T67 l1 x7_1).f1).size : Int) != 32) = false := bne_eq_false_iff_eq.mpr c56
    clear c56
    by_cases c57 : ((rd_T67 l1 x7_1).f2).toList = ([] : List UInt8)
    ·rw [if_pos c57] at H
     have c57b0 : (((rd_T67 l1 x7_1).f2).toList == ([] : List UInt8)) = true := beq_iff_eq.mpr c57
     have c57b1 : (((rd_T67 l1 x7_1).f2).toList != ([] : List UInt8)) = false := bne_eq_false_iff_eq.mpr c57
     clear c57
     have H' := Aside0.mk H
     clear H
     try go_wp2
     have n0_ : Aside0 (Kd.V k39 39 (((w9.setCell ⟨gb247, 0, none⟩ (.string ((rd_T67 l1 x7_1).f0))).setCell ⟨gb247, 1, none⟩ (.string ((rd_T67 l1 x7_1).f1))).setCell ⟨gb247, 2, none⟩ (.string ((rd_T67 l1 x7_1).f2))) w.heap.size (fun k_ => (P0_ k_ ∨ w.heap.size ≤ k_) ∧ k_ ≠ gb247) (.slice A0 l0.length c0) l0) := ⟨by (with_reducible repeat (first | apply Kd.V_alloc | apply Kd.V_drewN | apply Kd.V_drew)); exact Kd.V_mono (Kd.V_far (p := ⟨gb247, 2, none⟩) (Kd.V_far (p := ⟨gb247, 1, none⟩) (Kd.V_far (p := ⟨gb247, 0, none⟩) (Kd.V_mono HO_0.out (fun k_ hk => (⟨hk, hk.2⟩ : _ ∧ k_ ≠ gb247))) (fun _ hk => hk.2) (.string ((rd_T67 l1 x7_1).f0))) (fun _ hk => hk.2) (.string ((rd_T67 l1 x7_1).f1))) (fun _ hk => hk.2) (.string ((rd_T67 l1 x7_1).f2))) (fun _ hk => ⟨hk.1.1, hk.1.2⟩)⟩
     have n1_ : Aside0 ((((w9.setCell ⟨gb247, 0, none⟩ (.string ((rd_T67 l1 x7_1).f0))).setCell ⟨gb247, 1, none⟩ (.string ((rd_T67 l1 x7_1).f1))).setCell ⟨gb247, 2, none⟩ (.string ((rd_T67 l1 x7_1).f2))).heap[gb247]? = some (.cells #[.string ((rd_T67 l1 x7_1).f0), .string ((rd_T67 l1 x7_1).f1), .string ((rd_T67 l1 x7_1).f2)] 67 (0, 0))) := ⟨by (with_reducible repeat (first | refine blk_drewN ?_ _ | refine blk_drew ?_ | refine blk_alloc ?_ _)); refine blk_put (cs := #[.string ((rd_T67 l1 x7_1).f0), .string ((rd_T67 l1 x7_1).f1), .string (⟨#[]⟩ : ByteArray)]) ?_ 2 _ rfl; (with_reducible repeat (first | refine blk_drewN ?_ _ | refine blk_drew ?_ | refine blk_alloc ?_ _)); refine blk_put (cs := #[.string ((rd_T67 l1 x7_1).f0), .string (⟨#[]⟩ : ByteArray), .string (⟨#[]⟩ : ByteArray)]) ?_ 1 _ rfl; (with_reducible repeat (first | refine blk_drewN ?_ _ | refine blk_drew ?_ | refine blk_alloc ?_ _)); refine blk_put (cs := #[.string (⟨#[]⟩ : ByteArray), .string (⟨#[]⟩ : ByteArray), .string (⟨#[]⟩ : ByteArray)]) ?_ 0 _ rfl; (with_reducible repeat (first | refine blk_drewN ?_ _ | refine blk_drew ?_ | refine blk_alloc ?_ _)); exact BK247.out⟩
     have n2_ : Aside0 (Below w.heap.size w (((w9.setCell ⟨gb247, 0, none⟩ (.string ((rd_T67 l1 x7_1).f0))).setCell ⟨gb247, 1, none⟩ (.string ((rd_T67 l1 x7_1).f1))).setCell ⟨gb247, 2, none⟩ (.string ((rd_T67 l1 x7_1).f2)))) := ⟨m26_⟩
     (try clear HO_0)
     (try clear BK247)
     (try clear HB)
     generalize (((w9.setCell ⟨gb247, 0, none⟩ (.string ((rd_T67 l1 x7_1).f0))).setCell ⟨gb247, 1, none⟩ (.string ((rd_T67 l1 x7_1).f1))).setCell ⟨gb247, 2, none⟩ (.string ((rd_T67 l1 x7_1).f2))) = w58 at n0_ n1_ n2_ ⊢
     have HO_0 := n0_
     have BK247 := n1_
     have HB := n2_
     clear n0_ n1_ n2_
     replace HO_0 := Aside0.mk (Kd.V_drew HO_0.out)
     replace BK247 := Aside0.mk (blk_drew BK247.out)
     replace HB := Aside0.mk (below_drew1 HB.out)
     refine start_ (n := 49) (S := fun w' => w'.cell? ⟨gb247, 0, none⟩ = some (.string ((rd_T67 l1 x7_1).f0)) ∧ w'.cell? ⟨gb247, 1, none⟩ = some (.string ((rd_T67 l1 x7_1).f1)) ∧ w'.cell? ⟨gb247, 2, none⟩ = some (.string ((rd_T67 l1 x7_1).f2))) (ds := []) (Ra_ [0, 49]) (by kernel_rfl) rfl rfl ⟨(blk_cell BK247.out 0).trans rfl, (blk_cell BK247.out 1).trans rfl, (blk_cell BK247.out 2).trans rfl⟩ (fun hHeld => ?_); refine with_tabW strongroomref20_Apply.tab8 strongroomref20_Apply.bits8 (fun HT_ HW_ => ?_)
     generalize w58.drew = w59 at HO_0 BK247 HB hHeld ⊢
     refine pI_ 0 (some 29) (Ra_ [1, 48]) (h := ?_)
     refine tI3_ 1 (some 30) (Ra_ [2, 47]) (h := ?_)
     refine one_ (i := 2) (N := some 31) (Ra_ [3, 46]) rfl rfl (one_of HT_.out (by kernel_rfl)) (by decide) (fun K hK => ?_)
     refine goes_ Tryd.func51 (by kernel_rfl) rfl #[.string ((rd_T67 l1 x7_1).f0)] (by rfl) rfl rfl m6_ ?_
     with_reducible refine (strongroomref05_Good.calls k1 ((rd_T67 l1 x7_1).f0) true _ A11.out).mono ?_
     rintro e w60 ⟨rfl, hb⟩
     refine ⟨_, rfl, ?_⟩
     replace HO_0 := Aside0.mk (Kd.V_below m14_ hb)
     replace BK247 := Aside0.mk (blk_below (g := gb247) (o := .cells #[.string ((rd_T67 l1 x7_1).f0), .string ((rd_T67 l1 x7_1).f1), .string ((rd_T67 l1 x7_1).f2)] 67 (0, 0)) m8_ hb)
     replace HB := Aside0.mk (below_step m0_ hb)
     (try clear hb)
     (try clear hb2)
     (try clear hk)
     (try clear hi)
     refine hK.out _ _ ⟨(blk_cell BK247.out 0).trans rfl, (blk_cell BK247.out 1).trans rfl, (blk_cell BK247.out 2).trans rfl⟩ (fun hHeld => ?_)
     clear hK K
     refine norm_ (a' := ?_) ?_ ?_
     rotate_left
     ·show Act.put _ (some 31) _ = _
      simp only [Act.put, sA_, sB_, sC_, i64_w, i32_w]
      rfl
     refine pI_ 3 (some 32) (Ra_ [4, 45]) (h := ?_)
     refine pI_ 4 (some 33) (Ra_ [5, 44]) (h := ?_)
     refine pI_ 5 (some 34) (Ra_ [6, 43]) (h := ?_)
     refine pI_ 6 (some 35) (Ra_ [7, 42]) (h := ?_)
     refine pI_ 7 (some 36) (Ra_ [8, 41]) (h := ?_)
     refine uI_ 8 (some 37) (Ra_ [9, 40]) (h := ?_)
     refine uI_ 9 (some 38) (Ra_ [10, 39]) (h := ?_)
     refine uI_ 10 (some 39) (Ra_ [11, 38]) (h := ?_)
     refine uI_ 11 (some 40) (Ra_ [12, 37]) (h := ?_)
     refine uI_ 12 (some 41) (Ra_ [13, 36]) (h := ?_)
     refine uI_ 13 (some 42) (Ra_ [14, 35]) (h := ?_)
     refine uI_ 14 (some 43) (Ra_ [15, 34]) (h := ?_)
     refine uI_ 15 (some 44) (Ra_ [16, 33]) (h := ?_)
     refine uI_ 16 (some 45) (Ra_ [17, 32]) (h := ?_)
     refine uI_ 17 (some 46) (Ra_ [18, 31]) (h := ?_)
     refine pI_ 18 (some 47) (Ra_ [19, 30]) (h := ?_)
     refine pI_ 19 (some 48) (Ra_ [20, 29]) (h := ?_)
     refine pI_ 20 (some 49) (Ra_ [21, 28]) (h := ?_)
     refine pI_ 21 (some 50) (Ra_ [22, 27]) (h := ?_)
     refine pI_ 23 (some 52) (Ra_ [22, 1, 1, 25]) (h := ?_)
     refine tI3_ 22 (some 51) (Ra_ [24, 25]) (h := ?_)
     refine tI3_ 24 (some 53) (Ra_ [25, 24]) (h := ?_)
     refine pI_ 25 (some 54) (Ra_ [26, 23]) (h := ?_)
     refine pI_ 26 (some 55) (Ra_ [27, 22]) (h := ?_)
     refine pI_ 27 (some 56) (Ra_ [28, 21]) (h := ?_)
     refine pI_ 28 (some 57) (Ra_ [29, 20]) (h := ?_)
     refine tI3_ 29 (some 58) (Ra_ [30, 19]) (h := ?_)
     refine pI_ 30 (some 59) (Ra_ [31, 18]) (h := ?_)
     refine pI_ 31 (some 60) (Ra_ [32, 17]) (h := ?_)
     refine pI_ 32 (some 61) (Ra_ [33, 16]) (h := ?_)
     refine tI3_ 33 (some 62) (Ra_ [34, 15]) (h := ?_)
     refine pI_ 34 (some 63) (Ra_ [35, 14]) (h := ?_)
     refine pI_ 35 (some 64) (Ra_ [36, 13]) (h := ?_)
     refine pI_ 36 (some 65) (Ra_ [37, 12]) (h := ?_)
     refine pI_ 37 (some 66) (Ra_ [38, 11]) (h := ?_)
     refine pI_ 38 (some 67) (Ra_ [39, 10]) (h := ?_)
     refine pI_ 39 (some 68) (Ra_ [40, 9]) (h := ?_)
     refine tI3_ 40 (some 69) (Ra_ [41, 8]) (h := ?_)
     refine pI_ 41 (some 70) (Ra_ [42, 7]) (h := ?_)
     refine pI_ 42 (some 71) (Ra_ [43, 6]) (h := ?_)
     refine uI_ 43 (some 72) (Ra_ [44, 5]) (h := ?_)
     refine uI_ 44 (some 73) (Ra_ [45, 4]) (h := ?_)
     refine uI_ 45 (some 74) (Ra_ [46, 3]) (h := ?_)
     refine uI_ 46 (some 75) (Ra_ [47, 2]) (h := ?_)
     refine pI_ 47 (some 76) (Ra_ [48, 1]) (h := ?_)
     refine pI_ 48 (some 77) (Ra_ [49]) (h := ?_)
     refine done_ (done_of HT_.out (by kernel_rfl)) ?_
     try go_wp2
     go_meet
     case rel => exact ⟨_, (false), m19_, H', ⟨by have := HK1.out; first | omega | exact Nat.le_refl _⟩, ⟨by (with_reducible repeat (first | apply Kd.V_alloc | apply Kd.V_drewN | apply Kd.V_drew)); exact HO_0.out⟩, ⟨by (with_reducible repeat (first | refine blk_drewN ?_ _ | refine blk_drew ?_ | refine blk_alloc ?_ _)); exact BK247.out⟩, ⟨m26_⟩⟩
    rw [if_neg c57] at H
    have c57b0 : (((rd_T67 l1 x7_1).f2).toList == ([] : List UInt8)) = false := beq_eq_false_iff_ne.mpr c57
    have c57b1 : (((rd_T67 l1 x7_1).f2).toList != ([] : List UInt8)) = true := bne_iff_ne.mpr c57
    have H' := Aside0.mk H
    clear H
    try go_wp2
    have n0_ : Aside0 (Kd.V k39 39 (((w9.setCell ⟨gb247, 0, none⟩ (.string ((rd_T67 l1 x7_1).f0))).setCell ⟨gb247, 1, none⟩ (.string ((rd_T67 l1 x7_1).f1))).setCell ⟨gb247, 2, none⟩ (.string ((rd_T67 l1 x7_1).f2))) w.heap.size (fun k_ => (P0_ k_ ∨ w.heap.size ≤ k_) ∧ k_ ≠ gb247) (.slice A0 l0.length c0) l0) := ⟨by (with_reducible repeat (first | apply Kd.V_alloc | apply Kd.V_drewN | apply Kd.V_drew)); exact Kd.V_mono (Kd.V_far (p := ⟨gb247, 2, none⟩) (Kd.V_far (p := ⟨gb247, 1, none⟩) (Kd.V_far (p := ⟨gb247, 0, none⟩) (Kd.V_mono HO_0.out (fun k_ hk => (⟨hk, hk.2⟩ : _ ∧ k_ ≠ gb247))) (fun _ hk => hk.2) (.string ((rd_T67 l1 x7_1).f0))) (fun _ hk => hk.2) (.string ((rd_T67 l1 x7_1).f1))) (fun _ hk => hk.2) (.string ((rd_T67 l1 x7_1).f2))) (fun _ hk => ⟨hk.1.1, hk.1.2⟩)⟩
    have n1_ : Aside0 ((((w9.setCell ⟨gb247, 0, none⟩ (.string ((rd_T67 l1 x7_1).f0))).setCell ⟨gb247, 1, none⟩ (.string ((rd_T67 l1 x7_1).f1))).setCell ⟨gb247, 2, none⟩ (.string ((rd_T67 l1 x7_1).f2))).heap[gb247]? = some (.cells #[.string ((rd_T67 l1 x7_1).f0), .string ((rd_T67 l1 x7_1).f1), .string ((rd_T67 l1 x7_1).f2)] 67 (0, 0))) := ⟨by (with_reducible repeat (first | refine blk_drewN ?_ _ | refine blk_drew ?_ | refine blk_alloc ?_ _)); refine blk_put (cs := #[.string ((rd_T67 l1 x7_1).f0), .string ((rd_T67 l1 x7_1).f1), .string (⟨#[]⟩ : ByteArray)]) ?_ 2 _ rfl; (with_reducible repeat (first | refine blk_drewN ?_ _ | refine blk_drew ?_ | refine blk_alloc ?_ _)); refine blk_put (cs := #[.string ((rd_T67 l1 x7_1).f0), .string (⟨#[]⟩ : ByteArray), .string (⟨#[]⟩ : ByteArray)]) ?_ 1 _ rfl; (with_reducible repeat (first | refine blk_drewN ?_ _ | refine blk_drew ?_ | refine blk_alloc ?_ _)); refine blk_put (cs := #[.string (⟨#[]⟩ : ByteArray), .string (⟨#[]⟩ : ByteArray), .string (⟨#[]⟩ : ByteArray)]) ?_ 0 _ rfl; (with_reducible repeat (first | refine blk_drewN ?_ _ | refine blk_drew ?_ | refine blk_alloc ?_ _)); exact BK247.out⟩
    have n2_ : Aside0 (Below w.heap.size w (((w9.setCell ⟨gb247, 0, none⟩ (.string ((rd_T67 l1 x7_1).f0))).setCell ⟨gb247, 1, none⟩ (.string ((rd_T67 l1 x7_1).f1))).setCell ⟨gb247, 2, none⟩ (.string ((rd_T67 l1 x7_1).f2)))) := ⟨m26_⟩
    (try clear HO_0)
    (try clear BK247)
    (try clear HB)
    generalize (((w9.setCell ⟨gb247, 0, none⟩ (.string ((rd_T67 l1 x7_1).f0))).setCell ⟨gb247, 1, none⟩ (.string ((rd_T67 l1 x7_1).f1))).setCell ⟨gb247, 2, none⟩ (.string ((rd_T67 l1 x7_1).f2))) = w61 at n0_ n1_ n2_ ⊢
    have HO_0 := n0_
    have BK247 := n1_
    have HB := n2_
    clear n0_ n1_ n2_
    replace HO_0 := Aside0.mk (Kd.V_drew HO_0.out)
    replace BK247 := Aside0.mk (blk_drew BK247.out)
    replace HB := Aside0.mk (below_drew1 HB.out)
    refine start_ (n := 49) (S := fun w' => w'.cell? ⟨gb247, 0, none⟩ = some (.string ((rd_T67 l1 x7_1).f0)) ∧ w'.cell? ⟨gb247, 1, none⟩ = some (.string ((rd_T67 l1 x7_1).f1)) ∧ w'.cell? ⟨gb247, 2, none⟩ = some (.string ((rd_T67 l1 x7_1).f2))) (ds := []) (Ra_ [0, 49]) (by kernel_rfl) rfl rfl ⟨(blk_cell BK247.out 0).trans rfl, (blk_cell BK247.out 1).trans rfl, (blk_cell BK247.out 2).trans rfl⟩ (fun hHeld => ?_); refine with_tabW strongroomref20_Apply.tab8 strongroomref20_Apply.bits8 (fun HT_ HW_ => ?_)
    generalize w61.drew = w62 at HO_0 BK247 HB hHeld ⊢
    refine pI_ 0 (some 29) (Ra_ [1, 48]) (h := ?_)
    refine tI3_ 1 (some 30) (Ra_ [2, 47]) (h := ?_)
    refine one_ (i := 2) (N := some 31) (Ra_ [3, 46]) rfl rfl (one_of HT_.out (by kernel_rfl)) (by decide) (fun K hK => ?_)
    refine goes_ Tryd.func51 (by kernel_rfl) rfl #[.string ((rd_T67 l1 x7_1).f0)] (by rfl) rfl rfl m6_ ?_
    with_reducible refine (strongroomref05_Good.calls k1 ((rd_T67 l1 x7_1).f0) true _ A11.out).mono ?_
    rintro e w63 ⟨rfl, hb⟩
    refine ⟨_, rfl, ?_⟩
    replace HO_0 := Aside0.mk (Kd.V_below m14_ hb)
    replace BK247 := Aside0.mk (blk_below (g := gb247) (o := .cells #[.string ((rd_T67 l1 x7_1).f0), .string ((rd_T67 l1 x7_1).f1), .string ((rd_T67 l1 x7_1).f2)] 67 (0, 0)) m8_ hb)
    replace HB := Aside0.mk (below_step m0_ hb)
    (try clear hb)
    (try clear hb2)
    (try clear hk)
    (try clear hi)
    refine hK.out _ _ ⟨(blk_cell BK247.out 0).trans rfl, (blk_cell BK247.out 1).trans rfl, (blk_cell BK247.out 2).trans rfl⟩ (fun hHeld => ?_)
    clear hK K
    refine norm_ (a' := ?_) ?_ ?_
    rotate_left
    ·show Act.put _ (some 31) _ = _
     simp only [Act.put, sA_, sB_, sC_, i64_w, i32_w]
     rfl
    refine pI_ 3 (some 32) (Ra_ [4, 45]) (h := ?_)
    refine pI_ 4 (some 33) (Ra_ [5, 44]) (h := ?_)
    refine pI_ 5 (some 34) (Ra_ [6, 43]) (h := ?_)
    refine pI_ 6 (some 35) (Ra_ [7, 42]) (h := ?_)
    refine pI_ 7 (some 36) (Ra_ [8, 41]) (h := ?_)
    refine uI_ 8 (some 37) (Ra_ [9, 40]) (h := ?_)
    refine uI_ 9 (some 38) (Ra_ [10, 39]) (h := ?_)
    refine uI_ 10 (some 39) (Ra_ [11, 38]) (h := ?_)
    refine uI_ 11 (some 40) (Ra_ [12, 37]) (h := ?_)
    refine uI_ 12 (some 41) (Ra_ [13, 36]) (h := ?_)
    refine uI_ 13 (some 42) (Ra_ [14, 35]) (h := ?_)
    refine uI_ 14 (some 43) (Ra_ [15, 34]) (h := ?_)
    refine uI_ 15 (some 44) (Ra_ [16, 33]) (h := ?_)
    refine uI_ 16 (some 45) (Ra_ [17, 32]) (h := ?_)
    refine uI_ 17 (some 46) (Ra_ [18, 31]) (h := ?_)
    refine pI_ 18 (some 47) (Ra_ [19, 30]) (h := ?_)
    refine pI_ 19 (some 48) (Ra_ [20, 29]) (h := ?_)
    refine pI_ 20 (some 49) (Ra_ [21, 28]) (h := ?_)
    refine pI_ 21 (some 50) (Ra_ [22, 27]) (h := ?_)
    refine pI_ 23 (some 52) (Ra_ [22, 1, 1, 25]) (h := ?_)
    refine tI3_ 22 (some 51) (Ra_ [24, 25]) (h := ?_)
    refine tI3_ 24 (some 53) (Ra_ [25, 24]) (h := ?_)
    refine pI_ 25 (some 54) (Ra_ [26, 23]) (h := ?_)
    refine pI_ 26 (some 55) (Ra_ [27, 22]) (h := ?_)
    refine pI_ 27 (some 56) (Ra_ [28, 21]) (h := ?_)
    refine pI_ 28 (some 57) (Ra_ [29, 20]) (h := ?_)
    refine tI3_ 29 (some 58) (Ra_ [30, 19]) (h := ?_)
    refine pI_ 30 (some 59) (Ra_ [31, 18]) (h := ?_)
    refine pI_ 31 (some 60) (Ra_ [32, 17]) (h := ?_)
    refine pI_ 32 (some 61) (Ra_ [33, 16]) (h := ?_)
    refine tI3_ 33 (some 62) (Ra_ [34, 15]) (h := ?_)
    refine pI_ 34 (some 63) (Ra_ [35, 14]) (h := ?_)
    refine pI_ 35 (some 64) (Ra_ [36, 13]) (h := ?_)
    refine pI_ 36 (some 65) (Ra_ [37, 12]) (h := ?_)
    refine pI_ 37 (some 66) (Ra_ [38, 11]) (h := ?_)
    refine pI_ 38 (some 67) (Ra_ [39, 10]) (h := ?_)
    refine pI_ 39 (some 68) (Ra_ [40, 9]) (h := ?_)
    refine tI3_ 40 (some 69) (Ra_ [41, 8]) (h := ?_)
    refine pI_ 41 (some 70) (Ra_ [42, 7]) (h := ?_)
    refine pI_ 42 (some 71) (Ra_ [43, 6]) (h := ?_)
    refine pI_ 43 (some 72) (Ra_ [44, 5]) (h := ?_)
    refine tI3_ 44 (some 73) (Ra_ [45, 4]) (h := ?_)
    refine pI_ 45 (some 74) (Ra_ [46, 3]) (h := ?_)
    refine pI_ 46 (some 75) (Ra_ [47, 2]) (h := ?_)
    refine pI_ 47 (some 76) (Ra_ [48, 1]) (h := ?_)
    refine pI_ 48 (some 77) (Ra_ [49]) (h := ?_)
    refine done_ (done_of HT_.out (by kernel_rfl)) ?_
    try go_wp2
    go_meet
    case rel => exact ⟨_, (((((rd_T67 l1 x7_1).f2).size : Int) != 32)), m19_, H', ⟨by have := HK1.out; first | omega | exact Nat.le_refl _⟩, ⟨by (with_reducible repeat (first | apply Kd.V_alloc | apply Kd.V_drewN | apply Kd.V_drew)); exact HO_0.out⟩, ⟨by (with_reducible repeat (first | refine blk_drewN ?_ _ | refine blk_drew ?_ | refine blk_alloc ?_ _)); exact BK247.out⟩, ⟨m26_⟩⟩
   rw [if_pos c13] at H
   have c13b0 : decide (0 < x7_1) = true := decide_eq_true c13
   clear c13
   (first | rw [c13b0] | (simp only [i64_w, i32_w]; rw [c13b0]) | skip)
   obtain ⟨ji14, hji14⟩ : ∃ j_ : Int, (wrap64 (x7_1 - 1)) = j_ := ⟨_, rfl⟩
   replace H : (if 0 ≤ (ji14) then (if (ji14) < (l1.length : Int) then (if ((Op.bytesLess (((rd_T67 l1 (ji14)).f0).toList) (((rd_T67 l1 x7_1).f0).toList)) = true) then (if ((rd_T67 l1 x7_1).f1).toList = ((rd_T67 l1 x7_1).f2).toList then (strongroomref20_Apply.j1 k1 l0 l1 x7_1 true) else (if ((rd_T67 l1 x7_1).f1).toList = ([] : List UInt8) then (if ((rd_T67 l1 x7_1).f2).toList = ([] : List UInt8) then (strongroomref20_Apply.j1 k1 l0 l1 x7_1 false) else (strongroomref20_Apply.j1 k1 l0 l1 x7_1 ((((rd_T67 l1 x7_1).f2).size : Int) != 32))) else (if (((rd_T67 l1 x7_1).f1).size : Int) = 32 then (if ((rd_T67 l1 x7_1).f2).toList = ([] : List UInt8) then (strongroomref20_Apply.j1 k1 l0 l1 x7_1 false) else (strongroomref20_Apply.j1 k1 l0 l1 x7_1 ((((rd_T67 l1 x7_1).f2).size : Int) != 32))) else (strongroomref20_Apply.j1 k1 l0 l1 x7_1 true)))) else (strongroomref20_Apply.j1 k1 l0 l1 x7_1 true)) else (none)) else (none)) = some (r1, r2) := by first | (rw [hji14] at H; exact H) | (simp only [hji14] at H ⊢; exact H)
   (try rw [hji14] at A11)
   have hji14w : (IntKind.i64.wrap (x7_1 - 1)) = ji14 := (i64_w _).trans hji14
   by_cases c15 : 0 ≤ (ji14)
   case neg =>
    rw [if_neg c15] at H
    exact absurd H (by simp)
   rw [if_pos c15] at H
   have c15b0 : decide (0 ≤ (ji14)) = true := decide_eq_true c15
   clear c15
   by_cases c16 : (ji14) < (l1.length : Int)
   case neg =>
    rw [if_neg c16] at H
    exact absurd H (by simp)
   rw [if_pos c16] at H
   have c16b0 : decide ((ji14) < (l1.length : Int)) = true := decide_eq_true c16
   clear c16
   by_cases c17 : ((Op.bytesLess (((rd_T67 l1 (ji14)).f0).toList) (((rd_T67 l1 x7_1).f0).toList)) = true)
   case neg =>
    rw [if_neg c17] at H
    have c17b0 : (Op.bytesLess (((rd_T67 l1 (ji14)).f0).toList) (((rd_T67 l1 x7_1).f0).toList)) = false := by simpa using c17
    clear c17
    have H' := Aside0.mk H
    clear H
    try go_wp2
    have n0_ : Aside0 (Kd.V k39 39 (((w9.setCell ⟨gb247, 0, none⟩ (.string ((rd_T67 l1 x7_1).f0))).setCell ⟨gb247, 1, none⟩ (.string ((rd_T67 l1 x7_1).f1))).setCell ⟨gb247, 2, none⟩ (.string ((rd_T67 l1 x7_1).f2))) w.heap.size (fun k_ => (P0_ k_ ∨ w.heap.size ≤ k_) ∧ k_ ≠ gb247) (.slice A0 l0.length c0) l0) := ⟨by (with_reducible repeat (first | apply Kd.V_alloc | apply Kd.V_drewN | apply Kd.V_drew)); exact Kd.V_mono (Kd.V_far (p := ⟨gb247, 2, none⟩) (Kd.V_far (p := ⟨gb247, 1, none⟩) (Kd.V_far (p := ⟨gb247, 0, none⟩) (Kd.V_mono HO_0.out (fun k_ hk => (⟨hk, hk.2⟩ : _ ∧ k_ ≠ gb247))) (fun _ hk => hk.2) (.string ((rd_T67 l1 x7_1).f0))) (fun _ hk => hk.2) (.string ((rd_T67 l1 x7_1).f1))) (fun _ hk => hk.2) (.string ((rd_T67 l1 x7_1).f2))) (fun _ hk => ⟨hk.1.1, hk.1.2⟩)⟩
    have n1_ : Aside0 ((((w9.setCell ⟨gb247, 0, none⟩ (.string ((rd_T67 l1 x7_1).f0))).setCell ⟨gb247, 1, none⟩ (.string ((rd_T67 l1 x7_1).f1))).setCell ⟨gb247, 2, none⟩ (.string ((rd_T67 l1 x7_1).f2))).heap[gb247]? = some (.cells #[.string ((rd_T67 l1 x7_1).f0), .string ((rd_T67 l1 x7_1).f1), .string ((rd_T67 l1 x7_1).f2)] 67 (0, 0))) := ⟨by (with_reducible repeat (first | refine blk_drewN ?_ _ | refine blk_drew ?_ | refine blk_alloc ?_ _)); refine blk_put (cs := #[.string ((rd_T67 l1 x7_1).f0), .string ((rd_T67 l1 x7_1).f1), .string (⟨#[]⟩ : ByteArray)]) ?_ 2 _ rfl; (with_reducible repeat (first | refine blk_drewN ?_ _ | refine blk_drew ?_ | refine blk_alloc ?_ _)); refine blk_put (cs := #[.string ((rd_T67 l1 x7_1).f0), .string (⟨#[]⟩ : ByteArray), .string (⟨#[]⟩ : ByteArray)]) ?_ 1 _ rfl; (with_reducible repeat (first | refine blk_drewN ?_ _ | refine blk_drew ?_ | refine blk_alloc ?_ _)); refine blk_put (cs := #[.string (⟨#[]⟩ : ByteArray), .string (⟨#[]⟩ : ByteArray), .string (⟨#[]⟩ : ByteArray)]) ?_ 0 _ rfl; (with_reducible repeat (first | refine blk_drewN ?_ _ | refine blk_drew ?_ | refine blk_alloc ?_ _)); exact BK247.out⟩
    have n2_ : Aside0 (Below w.heap.size w (((w9.setCell ⟨gb247, 0, none⟩ (.string ((rd_T67 l1 x7_1).f0))).setCell ⟨gb247, 1, none⟩ (.string ((rd_T67 l1 x7_1).f1))).setCell ⟨gb247, 2, none⟩ (.string ((rd_T67 l1 x7_1).f2)))) := ⟨m26_⟩
    (try clear HO_0)
    (try clear BK247)
    (try clear HB)
    generalize (((w9.setCell ⟨gb247, 0, none⟩ (.string ((rd_T67 l1 x7_1).f0))).setCell ⟨gb247, 1, none⟩ (.string ((rd_T67 l1 x7_1).f1))).setCell ⟨gb247, 2, none⟩ (.string ((rd_T67 l1 x7_1).f2))) = w41 at n0_ n1_ n2_ ⊢
    have HO_0 := n0_
    have BK247 := n1_
    have HB := n2_
    clear n0_ n1_ n2_
    replace HO_0 := Aside0.mk (Kd.V_drew HO_0.out)
    replace BK247 := Aside0.mk (blk_drew BK247.out)
    replace HB := Aside0.mk (below_drew1 HB.out)
    have p249 : 0 ≤ ((ji14) : Int) := of_decide_eq_true m18_
    have q249 : (ji14) < (l1.length : Int) := of_decide_eq_true m18_
    obtain ⟨ad249, e249, hx249_0, hx249_1, hx249_2⟩ := at_T67 HR1.out (ji14) p249 q249
    have hw249_2 := hx249_2
    have hw249_1 := hx249_1
    have hw249_0 := hx249_0
    obtain rfl : ad246 = ad249 := (by injection e249)
    replace hx249_0 := (HB.out.cell (World.block_lt_of_cell? w _ hx249_0)).trans hx249_0
    replace hx249_1 := (HB.out.cell (World.block_lt_of_cell? w _ hx249_1)).trans hx249_1
    replace hx249_2 := (HB.out.cell (World.block_lt_of_cell? w _ hx249_2)).trans hx249_2
    replace p249 := eq_true p249
    replace q249 := eq_true q249
    refine start_ (n := 49) (S := fun w' => w'.cell? ⟨gb247, 0, none⟩ = some (.string ((rd_T67 l1 x7_1).f0)) ∧ w'.cell? ⟨gb247, 1, none⟩ = some (.string ((rd_T67 l1 x7_1).f1)) ∧ w'.cell? ⟨gb247, 2, none⟩ = some (.string ((rd_T67 l1 x7_1).f2)) ∧ w'.cell? (ad246.add (((ji14)).toNat * 3)) = some (.string ((rd_T67 l1 (ji14)).f0)) ∧ w'.cell? ⟨(ad246.add (((ji14)).toNat * 3)).block, (ad246.add (((ji14)).toNat * 3)).off + 1, none⟩ = some (.string ((rd_T67 l1 (ji14)).f1)) ∧ w'.cell? ⟨(ad246.add (((ji14)).toNat * 3)).block, (ad246.add (((ji14)).toNat * 3)).off + 2, none⟩ = some (.string ((rd_T67 l1 (ji14)).f2))) (ds := []) (Ra_ [0, 49]) (by kernel_rfl) rfl rfl ⟨(blk_cell BK247.out 0).trans rfl, (blk_cell BK247.out 1).trans rfl, (blk_cell BK247.out 2).trans rfl, ((HB.out.cell (World.block_lt_of_cell? w _ hw249_0)).trans hw249_0), ((HB.out.cell (World.block_lt_of_cell? w _ hw249_1)).trans hw249_1), ((HB.out.cell (World.block_lt_of_cell? w _ hw249_2)).trans hw249_2)⟩ (fun hHeld => ?_); refine with_tabW strongroomref20_Apply.tab8 strongroomref20_Apply.bits8 (fun HT_ HW_ => ?_)
    generalize w41.drew = w42 at HO_0 BK247 HB hx249_0 hx249_1 hx249_2 hHeld ⊢
    refine pI_ 0 (some 29) (Ra_ [1, 48]) (h := ?_)
    refine tI6_ 1 (some 30) (Ra_ [2, 47]) (h := ?_)
    refine one_ (i := 2) (N := some 31) (Ra_ [3, 46]) rfl rfl (one_of HT_.out (by kernel_rfl)) (by decide) (fun K hK => ?_)
    refine goes_ Tryd.func51 (by kernel_rfl) rfl #[.string ((rd_T67 l1 x7_1).f0)] (by rfl) rfl rfl m6_ ?_
    with_reducible refine (strongroomref05_Good.calls k1 ((rd_T67 l1 x7_1).f0) true _ A11.out).mono ?_
    rintro e w43 ⟨rfl, hb⟩
    refine ⟨_, rfl, ?_⟩
    replace HO_0 := Aside0.mk (Kd.V_below m14_ hb)
    replace BK247 := Aside0.mk (blk_below (g := gb247) (o := .cells #[.string ((rd_T67 l1 x7_1).f0), .string ((rd_T67 l1 x7_1).f1), .string ((rd_T67 l1 x7_1).f2)] 67 (0, 0)) m8_ hb)
    replace HB := Aside0.mk (below_step m0_ hb)
    (try clear hb)
    (try clear hb2)
    (try clear hk)
    (try clear hi)
    refine hK.out _ _ ⟨(blk_cell BK247.out 0).trans rfl, (blk_cell BK247.out 1).trans rfl, (blk_cell BK247.out 2).trans rfl, ((HB.out.cell (World.block_lt_of_cell? w _ hw249_0)).trans hw249_0), ((HB.out.cell (World.block_lt_of_cell? w _ hw249_1)).trans hw249_1), ((HB.out.cell (World.block_lt_of_cell? w _ hw249_2)).trans hw249_2)⟩ (fun hHeld => ?_)
    clear hK K
    refine norm_ (a' := ?_) ?_ ?_
    rotate_left
    ·show Act.put _ (some 31) _ = _
     simp only [Act.put, sA_, sB_, sC_, i64_w, i32_w]
     rfl
    refine pI_ 3 (some 32) (Ra_ [4, 45]) (h := ?_)
    refine pI_ 4 (some 33) (Ra_ [5, 44]) (h := ?_)
    refine pI_ 5 (some 34) (Ra_ [6, 43]) (h := ?_)
    refine pI_ 6 (some 35) (Ra_ [7, 42]) (h := ?_)
    refine pI_ 7 (some 36) (Ra_ [8, 41]) (h := ?_)
    refine pI_ 8 (some 37) (Ra_ [9, 40]) (h := ?_)
    refine pI_ 9 (some 38) (Ra_ [10, 39]) (h := ?_)
    refine pI_ 10 (some 39) (Ra_ [11, 38]) (h := ?_)
    refine pI_ 11 (some 40) (Ra_ [12, 37]) (h := ?_)
    refine pI_ 12 (some 41) (Ra_ [13, 36]) (h := ?_)
    refine pI_ 14 (some 43) (Ra_ [13, 1, 1, 34]) (h := ?_)
    refine tI6_ 13 (some 42) (Ra_ [15, 34]) (h := ?_)
    refine tI6_ 15 (some 44) (Ra_ [16, 33]) (h := ?_)
    refine pI_ 16 (some 45) (Ra_ [17, 32]) (h := ?_)
    refine pI_ 17 (some 46) (Ra_ [18, 31]) (h := ?_)
    refine pI_ 18 (some 47) (Ra_ [19, 30]) (h := ?_)
    refine pI_ 19 (some 48) (Ra_ [20, 29]) (h := ?_)
    refine pI_ 20 (some 49) (Ra_ [21, 28]) (h := ?_)
    refine uI_ 21 (some 50) (Ra_ [22, 27]) (h := ?_)
    refine uI_ 22 (some 51) (Ra_ [23, 26]) (h := ?_)
    refine uI_ 23 (some 52) (Ra_ [24, 25]) (h := ?_)
    refine uI_ 24 (some 53) (Ra_ [25, 24]) (h := ?_)
    refine uI_ 25 (some 54) (Ra_ [26, 23]) (h := ?_)
    refine pI_ 26 (some 55) (Ra_ [27, 22]) (h := ?_)
    refine pI_ 27 (some 56) (Ra_ [28, 21]) (h := ?_)
    refine uI_ 28 (some 57) (Ra_ [29, 20]) (h := ?_)
    refine uI_ 29 (some 58) (Ra_ [30, 19]) (h := ?_)
    refine uI_ 30 (some 59) (Ra_ [31, 18]) (h := ?_)
    refine uI_ 31 (some 60) (Ra_ [32, 17]) (h := ?_)
    refine uI_ 32 (some 61) (Ra_ [33, 16]) (h := ?_)
    refine uI_ 33 (some 62) (Ra_ [34, 15]) (h := ?_)
    refine uI_ 34 (some 63) (Ra_ [35, 14]) (h := ?_)
    refine uI_ 35 (some 64) (Ra_ [36, 13]) (h := ?_)
    refine uI_ 36 (some 65) (Ra_ [37, 12]) (h := ?_)
    refine pI_ 37 (some 66) (Ra_ [38, 11]) (h := ?_)
    refine pI_ 38 (some 67) (Ra_ [39, 10]) (h := ?_)
    refine uI_ 39 (some 68) (Ra_ [40, 9]) (h := ?_)
    refine uI_ 40 (some 69) (Ra_ [41, 8]) (h := ?_)
    refine uI_ 41 (some 70) (Ra_ [42, 7]) (h := ?_)
    refine uI_ 42 (some 71) (Ra_ [43, 6]) (h := ?_)
    refine uI_ 43 (some 72) (Ra_ [44, 5]) (h := ?_)
    refine uI_ 44 (some 73) (Ra_ [45, 4]) (h := ?_)
    refine uI_ 45 (some 74) (Ra_ [46, 3]) (h := ?_)
    refine uI_ 46 (some 75) (Ra_ [47, 2]) (h := ?_)
    refine uI_ 47 (some 76) (Ra_ [48, 1]) (h := ?_)
    refine pI_ 48 (some 77) (Ra_ [49]) (h := ?_)
    refine done_ (done_of HT_.out (by kernel_rfl)) ?_
    try go_wp2
    go_meet
    case rel => exact ⟨_, (true), m19_, H', ⟨by have := HK1.out; first | omega | exact Nat.le_refl _⟩, ⟨by (with_reducible repeat (first | apply Kd.V_alloc | apply Kd.V_drewN | apply Kd.V_drew)); exact HO_0.out⟩, ⟨by (with_reducible repeat (first | refine blk_drewN ?_ _ | refine blk_drew ?_ | refine blk_alloc ?_ _)); exact BK247.out⟩, ⟨m26_⟩⟩
   rw [if_pos c17] at H
   have c17b0 : (Op.bytesLess (((rd_T67 l1 (ji14)).f0).toList) (((rd_T67 l1 x7_1).f0).toList)) = true := c17
   clear c17
   by_cases c18 : ((rd_T67 l1 x7_1).f1).toList = ((rd_T67 l1 x7_1).f2).toList
   ·rw [if_pos c18] at H
    have c18b0 : (((rd_T67 l1 x7_1).f1).toList == ((rd_T67 l1 x7_1).f2).toList) = true := beq_iff_eq.mpr c18
    have c18b1 : (((rd_T67 l1 x7_1).f1).toList != ((rd_T67 l1 x7_1).f2).toList) = false := bne_eq_false_iff_eq.mpr c18
    clear c18
    have H' := Aside0.mk H
    clear H
    try go_wp2
    have n0_ : Aside0 (Kd.V k39 39 (((w9.setCell ⟨gb247, 0, none⟩ (.string ((rd_T67 l1 x7_1).f0))).setCell ⟨gb247, 1, none⟩ (.string ((rd_T67 l1 x7_1).f1))).setCell ⟨gb247, 2, none⟩ (.string ((rd_T67 l1 x7_1).f2))) w.heap.size (fun k_ => (P0_ k_ ∨ w.heap.size ≤ k_) ∧ k_ ≠ gb247) (.slice A0 l0.length c0) l0) := ⟨by (with_reducible repeat (first | apply Kd.V_alloc | apply Kd.V_drewN | apply Kd.V_drew)); exact Kd.V_mono (Kd.V_far (p := ⟨gb247, 2, none⟩) (Kd.V_far (p := ⟨gb247, 1, none⟩) (Kd.V_far (p := ⟨gb247, 0, none⟩) (Kd.V_mono HO_0.out (fun k_ hk => (⟨hk, hk.2⟩ : _ ∧ k_ ≠ gb247))) (fun _ hk => hk.2) (.string ((rd_T67 l1 x7_1).f0))) (fun _ hk => hk.2) (.string ((rd_T67 l1 x7_1).f1))) (fun _ hk => hk.2) (.string ((rd_T67 l1 x7_1).f2))) (fun _ hk => ⟨hk.1.1, hk.1.2⟩)⟩
    have n1_ : Aside0 ((((w9.setCell ⟨gb247, 0, none⟩ (.string ((rd_T67 l1 x7_1).f0))).setCell ⟨gb247, 1, none⟩ (.string ((rd_T67 l1 x7_1).f1))).setCell ⟨gb247, 2, none⟩ (.string ((rd_T67 l1 x7_1).f2))).heap[gb247]? = some (.cells #[.string ((rd_T67 l1 x7_1).f0), .string ((rd_T67 l1 x7_1).f1), .string ((rd_T67 l1 x7_1).f2)] 67 (0, 0))) := ⟨by (with_reducible repeat (first | refine blk_drewN ?_ _ | refine blk_drew ?_ | refine blk_alloc ?_ _)); refine blk_put (cs := #[.string ((rd_T67 l1 x7_1).f0), .string ((rd_T67 l1 x7_1).f1), .string (⟨#[]⟩ : ByteArray)]) ?_ 2 _ rfl; (with_reducible repeat (first | refine blk_drewN ?_ _ | refine blk_drew ?_ | refine blk_alloc ?_ _)); refine blk_put (cs := #[.string ((rd_T67 l1 x7_1).f0), .string (⟨#[]⟩ : ByteArray), .string (⟨#[]⟩ : ByteArray)]) ?_ 1 _ rfl; (with_reducible repeat (first | refine blk_drewN ?_ _ | refine blk_drew ?_ | refine blk_alloc ?_ _)); refine blk_put (cs := #[.string (⟨#[]⟩ : ByteArray), .string (⟨#[]⟩ : ByteArray), .string (⟨#[]⟩ : ByteArray)]) ?_ 0 _ rfl; (with_reducible repeat (first | refine blk_drewN ?_ _ | refine blk_drew ?_ | refine blk_alloc ?_ _)); exact BK247.out⟩
    have n2_ : Aside0 (Below w.heap.size w (((w9.setCell ⟨gb247, 0, none⟩ (.string ((rd_T67 l1 x7_1).f0))).setCell ⟨gb247, 1, none⟩ (.string ((rd_T67 l1 x7_1).f1))).setCell ⟨gb247, 2, none⟩ (.string ((rd_T67 l1 x7_1).f2)))) := ⟨m26_⟩
    (try clear HO_0)
    (try clear BK247)
    (try clear HB)
    generalize (((w9.setCell ⟨gb247, 0, none⟩ (.string ((rd_T67 l1 x7_1).f0))).setCell ⟨gb247, 1, none⟩ (.string ((rd_T67 l1 x7_1).f1))).setCell ⟨gb247, 2, none⟩ (.string ((rd_T67 l1 x7_1).f2))) = w19 at n0_ n1_ n2_ ⊢
    have HO_0 := n0_
    have BK247 := n1_
    have HB := n2_
    clear n0_ n1_ n2_
    replace HO_0 := Aside0.mk (Kd.V_drew HO_0.out)
    replace BK247 := Aside0.mk (blk_drew BK247.out)
    replace HB := Aside0.mk (below_drew1 HB.out)
    have p249 : 0 ≤ ((ji14) : Int) := of_decide_eq_true m18_
    have q249 : (ji14) < (l1.length : Int) := of_decide_eq_true m18_
    obtain ⟨ad249, e249, hx249_0, hx249_1, hx249_2⟩ := at_T67 HR1.out (ji14) p249 q249
    have hw249_2 := hx249_2
    have hw249_1 := hx249_1
    have hw249_0 := hx249_0
    obtain rfl : ad246 = ad249 := (by injection e249)
    replace hx249_0 := (HB.out.cell (World.block_lt_of_cell? w _ hx249_0)).trans hx249_0
    replace hx249_1 := (HB.out.cell (World.block_lt_of_cell? w _ hx249_1)).trans hx249_1
    replace hx249_2 := (HB.out.cell (World.block_lt_of_cell? w _ hx249_2)).trans hx249_2
    replace p249 := eq_true p249
    replace q249 := eq_true q249
    refine start_ (n := 49) (S := fun w' => w'.cell? ⟨gb247, 0, none⟩ = some (.string ((rd_T67 l1 x7_1).f0)) ∧ w'.cell? ⟨gb247, 1, none⟩ = some (.string ((rd_T67 l1 x7_1).f1)) ∧ w'.cell? ⟨gb247, 2, none⟩ = some (.string ((rd_T67 l1 x7_1).f2)) ∧ w'.cell? (ad246.add (((ji14)).toNat * 3)) = some (.string ((rd_T67 l1 (ji14)).f0)) ∧ w'.cell? ⟨(ad246.add (((ji14)).toNat * 3)).block, (ad246.add (((ji14)).toNat * 3)).off + 1, none⟩ = some (.string ((rd_T67 l1 (ji14)).f1)) ∧ w'.cell? ⟨(ad246.add (((ji14)).toNat * 3)).block, (ad246.add (((ji14)).toNat * 3)).off + 2, none⟩ = some (.string ((rd_T67 l1 (ji14)).f2))) (ds := []) (Ra_ [0, 49]) (by kernel_rfl) rfl rfl ⟨(blk_cell BK247.out 0).trans rfl, (blk_cell BK247.out 1).trans rfl, (blk_cell BK247.out 2).trans rfl, ((HB.out.cell (World.block_lt_of_cell? w _ hw249_0)).trans hw249_0), ((HB.out.cell (World.block_lt_of_cell? w _ hw249_1)).trans hw249_1), ((HB.out.cell (World.block_lt_of_cell? w _ hw249_2)).trans hw249_2)⟩ (fun hHeld => ?_); refine with_tabW strongroomref20_Apply.tab8 strongroomref20_Apply.bits8 (fun HT_ HW_ => ?_)
    generalize w19.drew = w20 at HO_0 BK247 HB hx249_0 hx249_1 hx249_2 hHeld ⊢
    refine pI_ 0 (some 29) (Ra_ [1, 48]) (h := ?_)
    refine tI6_ 1 (some 30) (Ra_ [2, 47]) (h := ?_)
    refine one_ (i := 2) (N := some 31) (Ra_ [3, 46]) rfl rfl (one_of HT_.out (by kernel_rfl)) (by decide) (fun K hK => ?_)
    refine goes_ Tryd.func51 (by kernel_rfl) rfl #[.string ((rd_T67 l1 x7_1).f0)] (by rfl) rfl rfl m6_ ?_
    with_reducible refine (strongroomref05_Good.calls k1 ((rd_T67 l1 x7_1).f0) true _ A11.out).mono ?_
    rintro e w21 ⟨rfl, hb⟩
    refine ⟨_, rfl, ?_⟩
    replace HO_0 := Aside0.mk (Kd.V_below m14_ hb)
    replace BK247 := Aside0.mk (blk_below (g := gb247) (o := .cells #[.string ((rd_T67 l1 x7_1).f0), .string ((rd_T67 l1 x7_1).f1), .string ((rd_T67 l1 x7_1).f2)] 67 (0, 0)) m8_ hb)
    replace HB := Aside0.mk (below_step m0_ hb)
    (try clear hb)
    (try clear hb2)
    (try clear hk)
    (try clear hi)
    refine hK.out _ _ ⟨(blk_cell BK247.out 0).trans rfl, (blk_cell BK247.out 1).trans rfl, (blk_cell BK247.out 2).trans rfl, ((HB.out.cell (World.block_lt_of_cell? w _ hw249_0)).trans hw249_0), ((HB.out.cell (World.block_lt_of_cell? w _ hw249_1)).trans hw249_1), ((HB.out.cell (World.block_lt_of_cell? w _ hw249_2)).trans hw249_2)⟩ (fun hHeld => ?_)
    clear hK K
    refine norm_ (a' := ?_) ?_ ?_
    rotate_left
    ·show Act.put _ (some 31) _ = _
     simp only [Act.put, sA_, sB_, sC_, i64_w, i32_w]
     rfl
    refine pI_ 3 (some 32) (Ra_ [4, 45]) (h := ?_)
    refine pI_ 4 (some 33) (Ra_ [5, 44]) (h := ?_)
    refine pI_ 5 (some 34) (Ra_ [6, 43]) (h := ?_)
    refine pI_ 6 (some 35) (Ra_ [7, 42]) (h := ?_)
    refine pI_ 7 (some 36) (Ra_ [8, 41]) (h := ?_)
    refine pI_ 8 (some 37) (Ra_ [9, 40]) (h := ?_)
    refine pI_ 9 (some 38) (Ra_ [10, 39]) (h := ?_)
    refine pI_ 10 (some 39) (Ra_ [11, 38]) (h := ?_)
    refine pI_ 11 (some 40) (Ra_ [12, 37]) (h := ?_)
    refine pI_ 12 (some 41) (Ra_ [13, 36]) (h := ?_)
    refine pI_ 14 (some 43) (Ra_ [13, 1, 1, 34]) (h := ?_)
    refine tI6_ 13 (some 42) (Ra_ [15, 34]) (h := ?_)
    refine tI6_ 15 (some 44) (Ra_ [16, 33]) (h := ?_)
    refine pI_ 16 (some 45) (Ra_ [17, 32]) (h := ?_)
    refine pI_ 17 (some 46) (Ra_ [18, 31]) (h := ?_)
    refine pI_ 18 (some 47) (Ra_ [19, 30]) (h := ?_)
    refine pI_ 19 (some 48) (Ra_ [20, 29]) (h := ?_)
    refine pI_ 20 (some 49) (Ra_ [21, 28]) (h := ?_)
    refine pI_ 21 (some 50) (Ra_ [22, 27]) (h := ?_)
    refine pI_ 23 (some 52) (Ra_ [22, 1, 1, 25]) (h := ?_)
    refine tI6_ 22 (some 51) (Ra_ [24, 25]) (h := ?_)
    refine tI6_ 24 (some 53) (Ra_ [25, 24]) (h := ?_)
    refine pI_ 25 (some 54) (Ra_ [26, 23]) (h := ?_)
    refine pI_ 26 (some 55) (Ra_ [27, 22]) (h := ?_)
    refine pI_ 27 (some 56) (Ra_ [28, 21]) (h := ?_)
    refine uI_ 28 (some 57) (Ra_ [29, 20]) (h := ?_)
    refine uI_ 29 (some 58) (Ra_ [30, 19]) (h := ?_)
    refine uI_ 30 (some 59) (Ra_ [31, 18]) (h := ?_)
    refine uI_ 31 (some 60) (Ra_ [32, 17]) (h := ?_)
    refine uI_ 32 (some 61) (Ra_ [33, 16]) (h := ?_)
    refine uI_ 33 (some 62) (Ra_ [34, 15]) (h := ?_)
    refine uI_ 34 (some 63) (Ra_ [35, 14]) (h := ?_)
    refine uI_ 35 (some 64) (Ra_ [36, 13]) (h := ?_)
    refine uI_ 36 (some 65) (Ra_ [37, 12]) (h := ?_)
    refine pI_ 37 (some 66) (Ra_ [38, 11]) (h := ?_)
    refine pI_ 38 (some 67) (Ra_ [39, 10]) (h := ?_)
    refine uI_ 39 (some 68) (Ra_ [40, 9]) (h := ?_)
    refine uI_ 40 (some 69) (Ra_ [41, 8]) (h := ?_)
    refine uI_ 41 (some 70) (Ra_ [42, 7]) (h := ?_)
    refine uI_ 42 (some 71) (Ra_ [43, 6]) (h := ?_)
    refine uI_ 43 (some 72) (Ra_ [44, 5]) (h := ?_)
    refine uI_ 44 (some 73) (Ra_ [45, 4]) (h := ?_)
    refine uI_ 45 (some 74) (Ra_ [46, 3]) (h := ?_)
    refine uI_ 46 (some 75) (Ra_ [47, 2]) (h := ?_)
    refine uI_ 47 (some 76) (Ra_ [48, 1]) (h := ?_)
    refine pI_ 48 (some 77) (Ra_ [49]) (h := ?_)
    refine done_ (done_of HT_.out (by kernel_rfl)) ?_
    try go_wp2
    go_meet
    case rel => exact ⟨_, (true), m19_, H', ⟨by have := HK1.out; first | omega | exact Nat.le_refl _⟩, ⟨by (with_reducible repeat (first | apply Kd.V_alloc | apply Kd.V_drewN | apply Kd.V_drew)); exact HO_0.out⟩, ⟨by (with_reducible repeat (first | refine blk_drewN ?_ _ | refine blk_drew ?_ | refine blk_alloc ?_ _)); exact BK247.out⟩, ⟨m26_⟩⟩
   rw [if_neg c18] at H
   have c18b0 : (((rd_T67 l1 x7_1).f1).toList == ((rd_T67 l1 x7_1).f2).toList) = false := beq_eq_false_iff_ne.mpr c18
   have c18b1 : (((rd_T67 l1 x7_1).f1).toList != ((rd_T67 l1 x7_1).f2).toList) = true := bne_iff_ne.mpr c18
   by_cases c22 : ((rd_T67 l1 x7_1).f1).toList = ([] : List UInt8)
   ·rw [if_pos c22] at H
    have c22b0 : (((rd_T67 l1 x7_1).f1).toList == ([] : List UInt8)) = true := beq_iff_eq.mpr c22
    have c22b1 : (((rd_T67 l1 x7_1).f1).toList != ([] : List UInt8)) = false := bne_eq_false_iff_eq.mpr c22
    clear c22
    by_cases c23 : ((rd_T67 l1 x7_1).f2).toList = ([] : List UInt8)
    ·rw [if_pos c23] at H
     have c23b0 : (((rd_T67 l1 x7_1).f2).toList == ([] : List UInt8)) = true := beq_iff_eq.mpr c23
     have c23b1 : (((rd_T67 l1 x7_1).f2).toList != ([] : List UInt8)) = false := bne_eq_false_iff_eq.mpr c23
     clear c23
     have H' := Aside0.mk H
     clear H
     try go_wp2
     have n0_ : Aside0 (Kd.V k39 39 (((w9.setCell ⟨gb247, 0, none⟩ (.string ((rd_T67 l1 x7_1).f0))).setCell ⟨gb247, 1, none⟩ (.string ((rd_T67 l1 x7_1).f1))).setCell ⟨gb247, 2, none⟩ (.string ((rd_T67 l1 x7_1).f2))) w.heap.size (fun k_ => (P0_ k_ ∨ w.heap.size ≤ k_) ∧ k_ ≠ gb247) (.slice A0 l0.length c0) l0) := ⟨by (with_reducible repeat (first | apply Kd.V_alloc | apply Kd.V_drewN | apply Kd.V_drew)); exact Kd.V_mono (Kd.V_far (p := ⟨gb247, 2, none⟩) (Kd.V_far (p := ⟨gb247, 1, none⟩) (Kd.V_far (p := ⟨gb247, 0, none⟩) (Kd.V_mono HO_0.out (fun k_ hk => (⟨hk, hk.2⟩ : _ ∧ k_ ≠ gb247))) (fun _ hk => hk.2) (.string ((rd_T67 l1 x7_1).f0))) (fun _ hk => hk.2) (.string ((rd_T67 l1 x7_1).f1))) (fun _ hk => hk.2) (.string ((rd_T67 l1 x7_1).f2))) (fun _ hk => ⟨hk.1.1, hk.1.2⟩)⟩
     have n1_ : Aside0 ((((w9.setCell ⟨gb247, 0, none⟩ (.string ((rd_T67 l1 x7_1).f0))).setCell ⟨gb247, 1, none⟩ (.string ((rd_T67 l1 x7_1).f1))).setCell ⟨gb247, 2, none⟩ (.string ((rd_T67 l1 x7_1).f2))).heap[gb247]? = some (.cells #[.string ((rd_T67 l1 x7_1).f0), .string ((rd_T67 l1 x7_1).f1), .string ((rd_T67 l1 x7_1).f2)] 67 (0, 0))) := ⟨by (with_reducible repeat (first | refine blk_drewN ?_ _ | refine blk_drew ?_ | refine blk_alloc ?_ _)); refine blk_put (cs := #[.string ((rd_T67 l1 x7_1).f0), .string ((rd_T67 l1 x7_1).f1), .string (⟨#[]⟩ : ByteArray)]) ?_ 2 _ rfl; (with_reducible repeat (first | refine blk_drewN ?_ _ | refine blk_drew ?_ | refine blk_alloc ?_ _)); refine blk_put (cs := #[.string ((rd_T67 l1 x7_1).f0), .string (⟨#[]⟩ : ByteArray), .string (⟨#[]⟩ : ByteArray)]) ?_ 1 _ rfl; (with_reducible repeat (first | refine blk_drewN ?_ _ | refine blk_drew ?_ | refine blk_alloc ?_ _)); refine blk_put (cs := #[.string (⟨#[]⟩ : ByteArray), .string (⟨#[]⟩ : ByteArray), .string (⟨#[]⟩ : ByteArray)]) ?_ 0 _ rfl; (with_reducible repeat (first | refine blk_drewN ?_ _ | refine blk_drew ?_ | refine blk_alloc ?_ _)); exact BK247.out⟩
     have n2_ : Aside0 (Below w.heap.size w (((w9.setCell ⟨gb247, 0, none⟩ (.string ((rd_T67 l1 x7_1).f0))).setCell ⟨gb247, 1, none⟩ (.string ((rd_T67 l1 x7_1).f1))).setCell ⟨gb247, 2, none⟩ (.string ((rd_T67 l1 x7_1).f2)))) := ⟨m26_⟩
     (try clear HO_0)
     (try clear BK247)
     (try clear HB)
     generalize (((w9.setCell ⟨gb247, 0, none⟩ (.string ((rd_T67 l1 x7_1).f0))).setCell ⟨gb247, 1, none⟩ (.string ((rd_T67 l1 x7_1).f1))).setCell ⟨gb247, 2, none⟩ (.string ((rd_T67 l1 x7_1).f2))) = w24 at n0_ n1_ n2_ ⊢
     have HO_0 := n0_
     have BK247 := n1_
     have HB := n2_
     clear n0_ n1_ n2_
     replace HO_0 := Aside0.mk (Kd.V_drew HO_0.out)
     replace BK247 := Aside0.mk (blk_drew BK247.out)
     replace HB := Aside0.mk (below_drew1 HB.out)
     have p249 : 0 ≤ ((ji14) : Int) := of_decide_eq_true m18_
     have q249 : (ji14) < (l1.length : Int) := of_decide_eq_true m18_
     obtain ⟨ad249, e249, hx249_0, hx249_1, hx249_2⟩ := at_T67 HR1.out (ji14) p249 q249
     have hw249_2 := hx249_2
     have hw249_1 := hx249_1
     have hw249_0 := hx249_0
     obtain rfl : ad246 = ad249 := (by injection e249)
     replace hx249_0 := (HB.out.cell (World.block_lt_of_cell? w _ hx249_0)).trans hx249_0
     replace hx249_1 := (HB.out.cell (World.block_lt_of_cell? w _ hx249_1)).trans hx249_1
     replace hx249_2 := (HB.out.cell (World.block_lt_of_cell? w _ hx249_2)).trans hx249_2
     replace p249 := eq_true p249
     replace q249 := eq_true q249
     refine start_ (n := 49) (S := fun w' => w'.cell? ⟨gb247, 0, none⟩ = some (.string ((rd_T67 l1 x7_1).f0)) ∧ w'.cell? ⟨gb247, 1, none⟩ = some (.string ((rd_T67 l1 x7_1).f1)) ∧ w'.cell? ⟨gb247, 2, none⟩ = some (.string ((rd_T67 l1 x7_1).f2)) ∧ w'.cell? (ad246.add (((ji14)).toNat * 3)) = some (.string ((rd_T67 l1 (ji14)).f0)) ∧ w'.cell? ⟨(ad246.add (((ji14)).toNat * 3)).block, (ad246.add (((ji14)).toNat * 3)).off + 1, none⟩ = some (.string ((rd_T67 l1 (ji14)).f1)) ∧ w'.cell? ⟨(ad246.add (((ji14)).toNat * 3)).block, (ad246.add (((ji14)).toNat * 3)).off + 2, none⟩ = some (.string ((rd_T67 l1 (ji14)).f2))) (ds := []) (Ra_ [0, 49]) (by kernel_rfl) rfl rfl ⟨(blk_cell BK247.out 0).trans rfl, (blk_cell BK247.out 1).trans rfl, (blk_cell BK247.out 2).trans rfl, ((HB.out.cell (World.block_lt_of_cell? w _ hw249_0)).trans hw249_0), ((HB.out.cell (World.block_lt_of_cell? w _ hw249_1)).trans hw249_1), ((HB.out.cell (World.block_lt_of_cell? w _ hw249_2)).trans hw249_2)⟩ (fun hHeld => ?_); refine with_tabW strongroomref20_Apply.tab8 strongroomref20_Apply.bits8 (fun HT_ HW_ => ?_)
     generalize w24.drew = w25 at HO_0 BK247 HB hx249_0 hx249_1 hx249_2 hHeld ⊢
     refine pI_ 0 (some 29) (Ra_ [1, 48]) (h := ?_)
     refine tI6_ 1 (some 30) (Ra_ [2, 47]) (h := ?_)
     refine one_ (i := 2) (N := some 31) (Ra_ [3, 46]) rfl rfl (one_of HT_.out (by kernel_rfl)) (by decide) (fun K hK => ?_)
     refine goes_ Tryd.func51 (by kernel_rfl) rfl #[.string ((rd_T67 l1 x7_1).f0)] (by rfl) rfl rfl m6_ ?_
     with_reducible refine (strongroomref05_Good.calls k1 ((rd_T67 l1 x7_1).f0) true _ A11.out).mono ?_
     rintro e w26 ⟨rfl, hb⟩
     refine ⟨_, rfl, ?_⟩
     replace HO_0 := Aside0.mk (Kd.V_below m14_ hb)
     replace BK247 := Aside0.mk (blk_below (g := gb247) (o := .cells #[.string ((rd_T67 l1 x7_1).f0), .string ((rd_T67 l1 x7_1).f1), .string ((rd_T67 l1 x7_1).f2)] 67 (0, 0)) m8_ hb)
     replace HB := Aside0.mk (below_step m0_ hb)
     (try clear hb)
     (try clear hb2)
     (try clear hk)
     (try clear hi)
     refine hK.out _ _ ⟨(blk_cell BK247.out 0).trans rfl, (blk_cell BK247.out 1).trans rfl, (blk_cell BK247.out 2).trans rfl, ((HB.out.cell (World.block_lt_of_cell? w _ hw249_0)).trans hw249_0), ((HB.out.cell (World.block_lt_of_cell? w _ hw249_1)).trans hw249_1), ((HB.out.cell (World.block_lt_of_cell? w _ hw249_2)).trans hw249_2)⟩ (fun hHeld => ?_)
     clear hK K
     refine norm_ (a' := ?_) ?_ ?_
     rotate_left
     ·show Act.put _ (some 31) _ = _
      simp only [Act.put, sA_, sB_, sC_, i64_w, i32_w]
      rfl
     refine pI_ 3 (some 32) (Ra_ [4, 45]) (h := ?_)
     refine pI_ 4 (some 33) (Ra_ [5, 44]) (h := ?_)
     refine pI_ 5 (some 34) (Ra_ [6, 43]) (h := ?_)
     refine pI_ 6 (some 35) (Ra_ [7, 42]) (h := ?_)
     refine pI_ 7 (some 36) (Ra_ [8, 41]) (h := ?_)
     refine pI_ 8 (some 37) (Ra_ [9, 40]) (h := ?_)
     refine pI_ 9 (some 38) (Ra_ [10, 39]) (h := ?_)
     refine pI_ 10 (some 39) (Ra_ [11, 38]) (h := ?_)
     refine pI_ 11 (some 40) (Ra_ [12, 37]) (h := ?_)
     refine pI_ 12 (some 41) (Ra_ [13, 36]) (h := ?_)
     refine pI_ 14 (some 43) (Ra_ [13, 1, 1, 34]) (h := ?_)
     refine tI6_ 13 (some 42) (Ra_ [15, 34]) (h := ?_)
     refine tI6_ 15 (some 44) (Ra_ [16, 33]) (h := ?_)
     refine pI_ 16 (some 45) (Ra_ [17, 32]) (h := ?_)
     refine pI_ 17 (some 46) (Ra_ [18, 31]) (h := ?_)
     refine pI_ 18 (some 47) (Ra_ [19, 30]) (h := ?_)
     refine pI_ 19 (some 48) (Ra_ [20, 29]) (h := ?_)
     refine pI_ 20 (some 49) (Ra_ [21, 28]) (h := ?_)
     refine pI_ 21 (some 50) (Ra_ [22, 27]) (h := ?_)
     refine pI_ 23 (some 52) (Ra_ [22, 1, 1, 25]) (h := ?_)
     refine tI6_ 22 (some 51) (Ra_ [24, 25]) (h := ?_)
     refine tI6_ 24 (some 53) (Ra_ [25, 24]) (h := ?_)
     refine pI_ 25 (some 54) (Ra_ [26, 23]) (h := ?_)
     refine pI_ 26 (some 55) (Ra_ [27, 22]) (h := ?_)
     refine pI_ 27 (some 56) (Ra_ [28, 21]) (h := ?_)
     refine pI_ 28 (some 57) (Ra_ [29, 20]) (h := ?_)
     refine tI6_ 29 (some 58) (Ra_ [30, 19]) (h := ?_)
     refine pI_ 30 (some 59) (Ra_ [31, 18]) (h := ?_)
     refine pI_ 31 (some 60) (Ra_ [32, 17]) (h := ?_)
     refine uI_ 32 (some 61) (Ra_ [33, 16]) (h := ?_)
     refine uI_ 33 (some 62) (Ra_ [34, 15]) (h := ?_)
     refine uI_ 34 (some 63) (Ra_ [35, 14]) (h := ?_)
     refine uI_ 35 (some 64) (Ra_ [36, 13]) (h := ?_)
     refine pI_ 36 (some 65) (Ra_ [37, 12]) (h := ?_)
     refine pI_ 37 (some 66) (Ra_ [38, 11]) (h := ?_)
     refine pI_ 38 (some 67) (Ra_ [39, 10]) (h := ?_)
     refine pI_ 39 (some 68) (Ra_ [40, 9]) (h := ?_)
     refine tI6_ 40 (some 69) (Ra_ [41, 8]) (h := ?_)
     refine pI_ 41 (some 70) (Ra_ [42, 7]) (h := ?_)
     refine pI_ 42 (some 71) (Ra_ [43, 6]) (h := ?_)
     refine uI_ 43 (some 72) (Ra_ [44, 5]) (h := ?_)
     refine uI_ 44 (some 73) (Ra_ [45, 4]) (h := ?_)
     refine uI_ 45 (some 74) (Ra_ [46, 3]) (h := ?_)
     refine uI_ 46 (some 75) (Ra_ [47, 2]) (h := ?_)
     refine pI_ 47 (some 76) (Ra_ [48, 1]) (h := ?_)
     refine pI_ 48 (some 77) (Ra_ [49]) (h := ?_)
     refine done_ (done_of HT_.out (by kernel_rfl)) ?_
     try go_wp2
     go_meet
     case rel => exact ⟨_, (false), m19_, H', ⟨by have := HK1.out; first | omega | exact Nat.le_refl _⟩, ⟨by (with_reducible repeat (first | apply Kd.V_alloc | apply Kd.V_drewN | apply Kd.V_drew)); exact HO_0.out⟩, ⟨by (with_reducible repeat (first | refine blk_drewN ?_ _ | refine blk_drew ?_ | refine blk_alloc ?_ _)); exact BK247.out⟩, ⟨m26_⟩⟩
    rw [if_neg c23] at H
    have c23b0 : (((rd_T67 l1 x7_1).f2).toList == ([] : List UInt8)) = false := beq_eq_false_iff_ne.mpr c23
    have c23b1 : (((rd_T67 l1 x7_1).f2).toList != ([] : List UInt8)) = true := bne_iff_ne.mpr c23
    have H' := Aside0.mk H
    clear H
    try go_wp2
    have n0_ : Aside0 (Kd.V k39 39 (((w9.setCell ⟨gb247, 0, none⟩ (.string ((rd_T67 l1 x7_1).f0))).setCell ⟨gb247, 1, none⟩ (.string ((rd_T67 l1 x7_1).f1))).setCell ⟨gb247, 2, none⟩ (.string ((rd_T67 l1 x7_1).f2))) w.heap.size (fun k_ => (P0_ k_ ∨ w.heap.size ≤ k_) ∧ k_ ≠ gb247) (.slice A0 l0.length c0) l0) := ⟨by (with_reducible repeat (first | apply Kd.V_alloc | apply Kd.V_drewN | apply Kd.V_drew)); exact Kd.V_mono (Kd.V_far (p := ⟨gb247, 2, none⟩) (Kd.V_far (p := ⟨gb247, 1, none⟩) (Kd.V_far (p := ⟨gb247, 0, none⟩) (Kd.V_mono HO_0.out (fun k_ hk => (⟨hk, hk.2⟩ : _ ∧ k_ ≠ gb247))) (fun _ hk => hk.2) (.string ((rd_T67 l1 x7_1).f0))) (fun _ hk => hk.2) (.string ((rd_T67 l1 x7_1).f1))) (fun _ hk => hk.2) (.string ((rd_T67 l1 x7_1).f2))) (fun _ hk => ⟨hk.1.1, hk.1.2⟩)⟩
    have n1_ : Aside0 ((((w9.setCell ⟨gb247, 0, none⟩ (.string ((rd_T67 l1 x7_1).f0))).setCell ⟨gb247, 1, none⟩ (.string ((rd_T67 l1 x7_1).f1))).setCell ⟨gb247, 2, none⟩ (.string ((rd_T67 l1 x7_1).f2))).heap[gb247]? = some (.cells #[.string ((rd_T67 l1 x7_1).f0), .string ((rd_T67 l1 x7_1).f1), .string ((rd_T67 l1 x7_1).f2)] 67 (0, 0))) := ⟨by (with_reducible repeat (first | refine blk_drewN ?_ _ | refine blk_drew ?_ | refine blk_alloc ?_ _)); refine blk_put (cs := #[.string ((rd_T67 l1 x7_1).f0), .string ((rd_T67 l1 x7_1).f1), .string (⟨#[]⟩ : ByteArray)]) ?_ 2 _ rfl; (with_reducible repeat (first | refine blk_drewN ?_ _ | refine blk_drew ?_ | refine blk_alloc ?_ _)); refine blk_put (cs := #[.string ((rd_T67 l1 x7_1).f0), .string (⟨#[]⟩ : ByteArray), .string (⟨#[]⟩ : ByteArray)]) ?_ 1 _ rfl; (with_reducible repeat (first | refine blk_drewN ?_ _ | refine blk_drew ?_ | refine blk_alloc ?_ _)); refine blk_put (cs := #[.string (⟨#[]⟩ : ByteArray), .string (⟨#[]⟩ : ByteArray), .string (⟨#[]⟩ : ByteArray)]) ?_ 0 _ rfl; (with_reducible repeat (first | refine blk_drewN ?_ _ | refine blk_drew ?_ | refine blk_alloc ?_ _)); exact BK247.out⟩
    have n2_ : Aside0 (Below w.heap.size w (((w9.setCell ⟨gb247, 0, none⟩ (.string ((rd_T67 l1 x7_1).f0))).setCell ⟨gb247, 1, none⟩ (.string ((rd_T67 l1 x7_1).f1))).setCell ⟨gb247, 2, none⟩ (.string ((rd_T67 l1 x7_1).f2)))) := ⟨m26_⟩
    (try clear HO_0)
    (try clear BK247)
    (try clear HB)
    generalize (((w9.setCell ⟨gb247, 0, none⟩ (.string ((rd_T67 l1 x7_1).f0))).setCell ⟨gb247, 1, none⟩ (.string ((rd_T67 l1 x7_1).f1))).setCell ⟨gb247, 2, none⟩ (.string ((rd_T67 l1 x7_1).f2))) = w27 at n0_ n1_ n2_ ⊢
    have HO_0 := n0_
    have BK247 := n1_
    have HB := n2_
    clear n0_ n1_ n2_
    replace HO_0 := Aside0.mk (Kd.V_drew HO_0.out)
    replace BK247 := Aside0.mk (blk_drew BK247.out)
    replace HB := Aside0.mk (below_drew1 HB.out)
    have p249 : 0 ≤ ((ji14) : Int) := of_decide_eq_true m18_
    have q249 : (ji14) < (l1.length : Int) := of_decide_eq_true m18_
    obtain ⟨ad249, e249, hx249_0, hx249_1, hx249_2⟩ := at_T67 HR1.out (ji14) p249 q249
    have hw249_2 := hx249_2
    have hw249_1 := hx249_1
    have hw249_0 := hx249_0
    obtain rfl : ad246 = ad249 := (by injection e249)
    replace hx249_0 := (HB.out.cell (World.block_lt_of_cell? w _ hx249_0)).trans hx249_0
    replace hx249_1 := (HB.out.cell (World.block_lt_of_cell? w _ hx249_1)).trans hx249_1
    replace hx249_2 := (HB.out.cell (World.block_lt_of_cell? w _ hx249_2)).trans hx249_2
    replace p249 := eq_true p249
    replace q249 := eq_true q249
    refine start_ (n := 49) (S := fun w' => w'.cell? ⟨gb247, 0, none⟩ = some (.string ((rd_T67 l1 x7_1).f0)) ∧ w'.cell? ⟨gb247, 1, none⟩ = some (.string ((rd_T67 l1 x7_1).f1)) ∧ w'.cell? ⟨gb247, 2, none⟩ = some (.string ((rd_T67 l1 x7_1).f2)) ∧ w'.cell? (ad246.add (((ji14)).toNat * 3)) = some (.string ((rd_T67 l1 (ji14)).f0)) ∧ w'.cell? ⟨(ad246.add (((ji14)).toNat * 3)).block, (ad246.add (((ji14)).toNat * 3)).off + 1, none⟩ = some (.string ((rd_T67 l1 (ji14)).f1)) ∧ w'.cell? ⟨(ad246.add (((ji14)).toNat * 3)).block, (ad246.add (((ji14)).toNat * 3)).off + 2, none⟩ = some (.string ((rd_T67 l1 (ji14)).f2))) (ds := []) (Ra_ [0, 49]) (by kernel_rfl) rfl rfl ⟨(blk_cell BK247.out 0).trans rfl, (blk_cell BK247.out 1).trans rfl, (blk_cell BK247.out 2).trans rfl, ((HB.out.cell (World.block_lt_of_cell? w _ hw249_0)).trans hw249_0), ((HB.out.cell (World.block_lt_of_cell? w _ hw249_1)).trans hw249_1), ((HB.out.cell (World.block_lt_of_cell? w _ hw249_2)).trans hw249_2)⟩ (fun hHeld => ?_); refine with_tabW strongroomref20_Apply.tab8 strongroomref20_Apply.bits8 (fun HT_ HW_ => ?_)
    generalize w27.drew = w28 at HO_0 BK247 HB hx249_0 hx249_1 hx249_2 hHeld ⊢
    refine pI_ 0 (some 29) (Ra_ [1, 48]) (h := ?_)
    refine tI6_ 1 (some 30) (Ra_ [2, 47]) (h := ?_)
    refine one_ (i := 2) (N := some 31) (Ra_ [3, 46]) rfl rfl (one_of HT_.out (by kernel_rfl)) (by decide) (fun K hK => ?_)
    refine goes_ Tryd.func51 (by kernel_rfl) rfl #[.string ((rd_T67 l1 x7_1).f0)] (by rfl) rfl rfl m6_ ?_
    with_reducible refine (strongroomref05_Good.calls k1 ((rd_T67 l1 x7_1).f0) true _ A11.out).mono ?_
    rintro e w29 ⟨rfl, hb⟩
    refine ⟨_, rfl, ?_⟩
    replace HO_0 := Aside0.mk (Kd.V_below m14_ hb)
    replace BK247 := Aside0.mk (blk_below (g := gb247) (o := .cells #[.string ((rd_T67 l1 x7_1).f0), .string ((rd_T67 l1 x7_1).f1), .string ((rd_T67 l1 x7_1).f2)] 67 (0, 0)) m8_ hb)
    replace HB := Aside0.mk (below_step m0_ hb)
    (try clear hb)
    (try clear hb2)
    (try clear hk)
    (try clear hi)
    refine hK.out _ _ ⟨(blk_cell BK247.out 0).trans rfl, (blk_cell BK247.out 1).trans rfl, (blk_cell BK247.out 2).trans rfl, ((HB.out.cell (World.block_lt_of_cell? w _ hw249_0)).trans hw249_0), ((HB.out.cell (World.block_lt_of_cell? w _ hw249_1)).trans hw249_1), ((HB.out.cell (World.block_lt_of_cell? w _ hw249_2)).trans hw249_2)⟩ (fun hHeld => ?_)
    clear hK K
    refine norm_ (a' := ?_) ?_ ?_
    rotate_left
    ·show Act.put _ (some 31) _ = _
     simp only [Act.put, sA_, sB_, sC_, i64_w, i32_w]
     rfl
    refine pI_ 3 (some 32) (Ra_ [4, 45]) (h := ?_)
    refine pI_ 4 (some 33) (Ra_ [5, 44]) (h := ?_)
    refine pI_ 5 (some 34) (Ra_ [6, 43]) (h := ?_)
    refine pI_ 6 (some 35) (Ra_ [7, 42]) (h := ?_)
    refine pI_ 7 (some 36) (Ra_ [8, 41]) (h := ?_)
    refine pI_ 8 (some 37) (Ra_ [9, 40]) (h := ?_)
    refine pI_ 9 (some 38) (Ra_ [10, 39]) (h := ?_)
    refine pI_ 10 (some 39) (Ra_ [11, 38]) (h := ?_)
    refine pI_ 11 (some 40) (Ra_ [12, 37]) (h := ?_)
    refine pI_ 12 (some 41) (Ra_ [13, 36]) (h := ?_)
    refine pI_ 14 (some 43) (Ra_ [13, 1, 1, 34]) (h := ?_)
    refine tI6_ 13 (some 42) (Ra_ [15, 34]) (h := ?_)
    refine tI6_ 15 (some 44) (Ra_ [16, 33]) (h := ?_)
    refine pI_ 16 (some 45) (Ra_ [17, 32]) (h := ?_)
    refine pI_ 17 (some 46) (Ra_ [18, 31]) (h := ?_)
    refine pI_ 18 (some 47) (Ra_ [19, 30]) (h := ?_)
    refine pI_ 19 (some 48) (Ra_ [20, 29]) (h := ?_)
    refine pI_ 20 (some 49) (Ra_ [21, 28]) (h := ?_)
    refine pI_ 21 (some 50) (Ra_ [22, 27]) (h := ?_)
    refine pI_ 23 (some 52) (Ra_ [22, 1, 1, 25]) (h := ?_)
    refine tI6_ 22 (some 51) (Ra_ [24, 25]) (h := ?_)
    refine tI6_ 24 (some 53) (Ra_ [25, 24]) (h := ?_)
    refine pI_ 25 (some 54) (Ra_ [26, 23]) (h := ?_)
    refine pI_ 26 (some 55) (Ra_ [27, 22]) (h := ?_)
    refine pI_ 27 (some 56) (Ra_ [28, 21]) (h := ?_)
    refine pI_ 28 (some 57) (Ra_ [29, 20]) (h := ?_)
    refine tI6_ 29 (some 58) (Ra_ [30, 19]) (h := ?_)
    refine pI_ 30 (some 59) (Ra_ [31, 18]) (h := ?_)
    refine pI_ 31 (some 60) (Ra_ [32, 17]) (h := ?_)
    refine uI_ 32 (some 61) (Ra_ [33, 16]) (h := ?_)
    refine uI_ 33 (some 62) (Ra_ [34, 15]) (h := ?_)
    refine uI_ 34 (some 63) (Ra_ [35, 14]) (h := ?_)
    refine uI_ 35 (some 64) (Ra_ [36, 13]) (h := ?_)
    refine pI_ 36 (some 65) (Ra_ [37, 12]) (h := ?_)
    refine pI_ 37 (some 66) (Ra_ [38, 11]) (h := ?_)
    refine pI_ 38 (some 67) (Ra_ [39, 10]) (h := ?_)
    refine pI_ 39 (some 68) (Ra_ [40, 9]) (h := ?_)
    refine tI6_ 40 (some 69) (Ra_ [41, 8]) (h := ?_)
    refine pI_ 41 (some 70) (Ra_ [42, 7]) (h := ?_)
    refine pI_ 42 (some 71) (Ra_ [43, 6]) (h := ?_)
    refine pI_ 43 (some 72) (Ra_ [44, 5]) (h := ?_)
    refine tI6_ 44 (some 73) (Ra_ [45, 4]) (h := ?_)
    refine pI_ 45 (some 74) (Ra_ [46, 3]) (h := ?_)
    refine pI_ 46 (some 75) (Ra_ [47, 2]) (h := ?_)
    refine pI_ 47 (some 76) (Ra_ [48, 1]) (h := ?_)
    refine pI_ 48 (some 77) (Ra_ [49]) (h := ?_)
    refine done_ (done_of HT_.out (by kernel_rfl)) ?_
    try go_wp2
    go_meet
    case rel => exact ⟨_, (((((rd_T67 l1 x7_1).f2).size : Int) != 32)), m19_, H', ⟨by have := HK1.out; first | omega | exact Nat.le_refl _⟩, ⟨by (with_reducible repeat (first | apply Kd.V_alloc | apply Kd.V_drewN | apply Kd.V_drew)); exact HO_0.out⟩, ⟨by (with_reducible repeat (first | refine blk_drewN ?_ _ | refine blk_drew ?_ | refine blk_alloc ?_ _)); exact BK247.out⟩, ⟨m26_⟩⟩
   rw [if_neg c22] at H
   have c22b0 : (((rd_T67 l1 x7_1).f1).toList == ([] : List UInt8)) = false := beq_eq_false_iff_ne.mpr c22
   have c22b1 : (((rd_T67 l1 x7_1).f1).toList != ([] : List UInt8)) = true := bne_iff_ne.mpr c22
   by_cases c30 : (((rd_T67 l1 x7_1).f1).size : Int) = 32
   case neg =>
    rw [if_neg c30] at H
    have c30b0 : ((((rd_T67 l1 x7_1).f1).size : Int) == 32) = false := beq_eq_false_iff_ne.mpr c30
    have c30b1 : ((((rd_T67 l1 x7_1).f1).size : Int) != 32) = true := bne_iff_ne.mpr c30
    have H' := Aside0.mk H
    clear H
    try go_wp2
    have n0_ : Aside0 (Kd.V k39 39 (((w9.setCell ⟨gb247, 0, none⟩ (.string ((rd_T67 l1 x7_1).f0))).setCell ⟨gb247, 1, none⟩ (.string ((rd_T67 l1 x7_1).f1))).setCell ⟨gb247, 2, none⟩ (.string ((rd_T67 l1 x7_1).f2))) w.heap.size (fun k_ => (P0_ k_ ∨ w.heap.size ≤ k_) ∧ k_ ≠ gb247) (.slice A0 l0.length c0) l0) := ⟨by (with_reducible repeat (first | apply Kd.V_alloc | apply Kd.V_drewN | apply Kd.V_drew)); exact Kd.V_mono (Kd.V_far (p := ⟨gb247, 2, none⟩) (Kd.V_far (p := ⟨gb247, 1, none⟩) (Kd.V_far (p := ⟨gb247, 0, none⟩) (Kd.V_mono HO_0.out (fun k_ hk => (⟨hk, hk.2⟩ : _ ∧ k_ ≠ gb247))) (fun _ hk => hk.2) (.string ((rd_T67 l1 x7_1).f0))) (fun _ hk => hk.2) (.string ((rd_T67 l1 x7_1).f1))) (fun _ hk => hk.2) (.string ((rd_T67 l1 x7_1).f2))) (fun _ hk => ⟨hk.1.1, hk.1.2⟩)⟩
    have n1_ : Aside0 ((((w9.setCell ⟨gb247, 0, none⟩ (.string ((rd_T67 l1 x7_1).f0))).setCell ⟨gb247, 1, none⟩ (.string ((rd_T67 l1 x7_1).f1))).setCell ⟨gb247, 2, none⟩ (.string ((rd_T67 l1 x7_1).f2))).heap[gb247]? = some (.cells #[.string ((rd_T67 l1 x7_1).f0), .string ((rd_T67 l1 x7_1).f1), .string ((rd_T67 l1 x7_1).f2)] 67 (0, 0))) := ⟨by (with_reducible repeat (first | refine blk_drewN ?_ _ | refine blk_drew ?_ | refine blk_alloc ?_ _)); refine blk_put (cs := #[.string ((rd_T67 l1 x7_1).f0), .string ((rd_T67 l1 x7_1).f1), .string (⟨#[]⟩ : ByteArray)]) ?_ 2 _ rfl; (with_reducible repeat (first | refine blk_drewN ?_ _ | refine blk_drew ?_ | refine blk_alloc ?_ _)); refine blk_put (cs := #[.string ((rd_T67 l1 x7_1).f0), .string (⟨#[]⟩ : ByteArray), .string (⟨#[]⟩ : ByteArray)]) ?_ 1 _ rfl; (with_reducible repeat (first | refine blk_drewN ?_ _ | refine blk_drew ?_ | refine blk_alloc ?_ _)); refine blk_put (cs := #[.string (⟨#[]⟩ : ByteArray), .string (⟨#[]⟩ : ByteArray), .string (⟨#[]⟩ : ByteArray)]) ?_ 0 _ rfl; (with_reducible repeat (first | refine blk_drewN ?_ _ | refine blk_drew ?_ | refine blk_alloc ?_ _)); exact BK247.out⟩
    have n2_ : Aside0 (Below w.heap.size w (((w9.setCell ⟨gb247, 0, none⟩ (.string ((rd_T67 l1 x7_1).f0))).setCell ⟨gb247, 1, none⟩ (.string ((rd_T67 l1 x7_1).f1))).setCell ⟨gb247, 2, none⟩ (.string ((rd_T67 l1 x7_1).f2)))) := ⟨m26_⟩
    (try clear HO_0)
    (try clear BK247)
    (try clear HB)
    generalize (((w9.setCell ⟨gb247, 0, none⟩ (.string ((rd_T67 l1 x7_1).f0))).setCell ⟨gb247, 1, none⟩ (.string ((rd_T67 l1 x7_1).f1))).setCell ⟨gb247, 2, none⟩ (.string ((rd_T67 l1 x7_1).f2))) = w38 at n0_ n1_ n2_ ⊢
    have HO_0 := n0_
    have BK247 := n1_
    have HB := n2_
    clear n0_ n1_ n2_
    replace HO_0 := Aside0.mk (Kd.V_drew HO_0.out)
    replace BK247 := Aside0.mk (blk_drew BK247.out)
    replace HB := Aside0.mk (below_drew1 HB.out)
    have p249 : 0 ≤ ((ji14) : Int) := of_decide_eq_true m18_
    have q249 : (ji14) < (l1.length : Int) := of_decide_eq_true m18_
    obtain ⟨ad249, e249, hx249_0, hx249_1, hx249_2⟩ := at_T67 HR1.out (ji14) p249 q249
    have hw249_2 := hx249_2
    have hw249_1 := hx249_1
    have hw249_0 := hx249_0
    obtain rfl : ad246 = ad249 := (by injection e249)
    replace hx249_0 := (HB.out.cell (World.block_lt_of_cell? w _ hx249_0)).trans hx249_0
    replace hx249_1 := (HB.out.cell (World.block_lt_of_cell? w _ hx249_1)).trans hx249_1
    replace hx249_2 := (HB.out.cell (World.block_lt_of_cell? w _ hx249_2)).trans hx249_2
    replace p249 := eq_true p249
    replace q249 := eq_true q249
    refine start_ (n := 49) (S := fun w' => w'.cell? ⟨gb247, 0, none⟩ = some (.string ((rd_T67 l1 x7_1).f0)) ∧ w'.cell? ⟨gb247, 1, none⟩ = some (.string ((rd_T67 l1 x7_1).f1)) ∧ w'.cell? ⟨gb247, 2, none⟩ = some (.string ((rd_T67 l1 x7_1).f2)) ∧ w'.cell? (ad246.add (((ji14)).toNat * 3)) = some (.string ((rd_T67 l1 (ji14)).f0)) ∧ w'.cell? ⟨(ad246.add (((ji14)).toNat * 3)).block, (ad246.add (((ji14)).toNat * 3)).off + 1, none⟩ = some (.string ((rd_T67 l1 (ji14)).f1)) ∧ w'.cell? ⟨(ad246.add (((ji14)).toNat * 3)).block, (ad246.add (((ji14)).toNat * 3)).off + 2, none⟩ = some (.string ((rd_T67 l1 (ji14)).f2))) (ds := []) (Ra_ [0, 49]) (by kernel_rfl) rfl rfl ⟨(blk_cell BK247.out 0).trans rfl, (blk_cell BK247.out 1).trans rfl, (blk_cell BK247.out 2).trans rfl, ((HB.out.cell (World.block_lt_of_cell? w _ hw249_0)).trans hw249_0), ((HB.out.cell (World.block_lt_of_cell? w _ hw249_1)).trans hw249_1), ((HB.out.cell (World.block_lt_of_cell? w _ hw249_2)).trans hw249_2)⟩ (fun hHeld => ?_); refine with_tabW strongroomref20_Apply.tab8 strongroomref20_Apply.bits8 (fun HT_ HW_ => ?_)
    generalize w38.drew = w39 at HO_0 BK247 HB hx249_0 hx249_1 hx249_2 hHeld ⊢
    refine pI_ 0 (some 29) (Ra_ [1, 48]) (h := ?_)
    refine tI6_ 1 (some 30) (Ra_ [2, 47]) (h := ?_)
    refine one_ (i := 2) (N := some 31) (Ra_ [3, 46]) rfl rfl (one_of HT_.out (by kernel_rfl)) (by decide) (fun K hK => ?_)
    refine goes_ Tryd.func51 (by kernel_rfl) rfl #[.string ((rd_T67 l1 x7_1).f0)] (by rfl) rfl rfl m6_ ?_
    with_reducible refine (strongroomref05_Good.calls k1 ((rd_T67 l1 x7_1).f0) true _ A11.out).mono ?_
    rintro e w40 ⟨rfl, hb⟩
    refine ⟨_, rfl, ?_⟩
    replace HO_0 := Aside0.mk (Kd.V_below m14_ hb)
    replace BK247 := Aside0.mk (blk_below (g := gb247) (o := .cells #[.string ((rd_T67 l1 x7_1).f0), .string ((rd_T67 l1 x7_1).f1), .string ((rd_T67 l1 x7_1).f2)] 67 (0, 0)) m8_ hb)
    replace HB := Aside0.mk (below_step m0_ hb)
    (try clear hb)
    (try clear hb2)
    (try clear hk)
    (try clear hi)
    refine hK.out _ _ ⟨(blk_cell BK247.out 0).trans rfl, (blk_cell BK247.out 1).trans rfl, (blk_cell BK247.out 2).trans rfl, ((HB.out.cell (World.block_lt_of_cell? w _ hw249_0)).trans hw249_0), ((HB.out.cell (World.block_lt_of_cell? w _ hw249_1)).trans hw249_1), ((HB.out.cell (World.block_lt_of_cell? w _ hw249_2)).trans hw249_2)⟩ (fun hHeld => ?_)
    clear hK K
    refine norm_ (a' := ?_) ?_ ?_
    rotate_left
    ·show Act.put _ (some 31) _ = _
     simp only [Act.put, sA_, sB_, sC_, i64_w, i32_w]
     rfl
    refine pI_ 3 (some 32) (Ra_ [4, 45]) (h := ?_)
    refine pI_ 4 (some 33) (Ra_ [5, 44]) (h := ?_)
    refine pI_ 5 (some 34) (Ra_ [6, 43]) (h := ?_)
    refine pI_ 6 (some 35) (Ra_ [7, 42]) (h := ?_)
    refine pI_ 7 (some 36) (Ra_ [8, 41]) (h := ?_)
    refine pI_ 8 (some 37) (Ra_ [9, 40]) (h := ?_)
    refine pI_ 9 (some 38) (Ra_ [10, 39]) (h := ?_)
    refine pI_ 10 (some 39) (Ra_ [11, 38]) (h := ?_)
    refine pI_ 11 (some 40) (Ra_ [12, 37]) (h := ?_)
    refine pI_ 12 (some 41) (Ra_ [13, 36]) (h := ?_)
    refine pI_ 14 (some 43) (Ra_ [13, 1, 1, 34]) (h := ?_)
    refine tI6_ 13 (some 42) (Ra_ [15, 34]) (h := ?_)
    refine tI6_ 15 (some 44) (Ra_ [16, 33]) (h := ?_)
    refine pI_ 16 (some 45) (Ra_ [17, 32]) (h := ?_)
    refine pI_ 17 (some 46) (Ra_ [18, 31]) (h := ?_)
    refine pI_ 18 (some 47) (Ra_ [19, 30]) (h := ?_)
    refine pI_ 19 (some 48) (Ra_ [20, 29]) (h := ?_)
    refine pI_ 20 (some 49) (Ra_ [21, 28]) (h := ?_)
    refine pI_ 21 (some 50) (Ra_ [22, 27]) (h := ?_)
    refine pI_ 23 (some 52) (Ra_ [22, 1, 1, 25]) (h := ?_)
    refine tI6_ 22 (some 51) (Ra_ [24, 25]) (h := ?_)
    refine tI6_ 24 (some 53) (Ra_ [25, 24]) (h := ?_)
    refine pI_ 25 (some 54) (Ra_ [26, 23]) (h := ?_)
    refine pI_ 26 (some 55) (Ra_ [27, 22]) (h := ?_)
    refine pI_ 27 (some 56) (Ra_ [28, 21]) (h := ?_)
    refine pI_ 28 (some 57) (Ra_ [29, 20]) (h := ?_)
    refine tI6_ 29 (some 58) (Ra_ [30, 19]) (h := ?_)
    refine pI_ 30 (some 59) (Ra_ [31, 18]) (h := ?_)
    refine pI_ 31 (some 60) (Ra_ [32, 17]) (h := ?_)
    refine pI_ 32 (some 61) (Ra_ [33, 16]) (h := ?_)
    refine tI6_ 33 (some 62) (Ra_ [34, 15]) (h := ?_)
    refine pI_ 34 (some 63) (Ra_ [35, 14]) (h := ?_)
    refine pI_ 35 (some 64) (Ra_ [36, 13]) (h := ?_)
    refine pI_ 36 (some 65) (Ra_ [37, 12]) (h := ?_)
    refine pI_ 37 (some 66) (Ra_ [38, 11]) (h := ?_)
    refine pI_ 38 (some 67) (Ra_ [39, 10]) (h := ?_)
    refine uI_ 39 (some 68) (Ra_ [40, 9]) (h := ?_)
    refine uI_ 40 (some 69) (Ra_ [41, 8]) (h := ?_)
    refine uI_ 41 (some 70) (Ra_ [42, 7]) (h := ?_)
    refine uI_ 42 (some 71) (Ra_ [43, 6]) (h := ?_)
    refine uI_ 43 (some 72) (Ra_ [44, 5]) (h := ?_)
    refine uI_ 44 (some 73) (Ra_ [45, 4]) (h := ?_)
    refine uI_ 45 (some 74) (Ra_ [46, 3]) (h := ?_)
    refine uI_ 46 (some 75) (Ra_ [47, 2]) (h := ?_)
    refine uI_ 47 (some 76) (Ra_ [48, 1]) (h := ?_)
    refine pI_ 48 (some 77) (Ra_ [49]) (h := ?_)
    refine done_ (done_of HT_.out (by kernel_rfl)) ?_
    try go_wp2
    go_meet
    case rel => exact ⟨_, (true), m19_, H', ⟨by have := HK1.out; first | omega | exact Nat.le_refl _⟩, ⟨by (with_reducible repeat (first | apply Kd.V_alloc | apply Kd.V_drewN | apply Kd.V_drew)); exact HO_0.out⟩, ⟨by (with_reducible repeat (first | refine blk_drewN ?_ _ | refine blk_drew ?_ | refine blk_alloc ?_ _)); exact BK247.out⟩, ⟨m26_⟩⟩
   rw [if_pos c30] at H
   have c30b0 : ((((rd_T67 l1 x7_1).f1).size : Int) == 32) = true := beq_iff_eq.mpr c30
   have c30b1 : ((((rd_T67 l1 x7_1).f1).size : Int) != 32) = false := bne_eq_false_iff_eq.mpr c30
   clear c30
   by_cases c31 : ((rd_T67 l1 x7_1).f2).toList = ([] : List UInt8)
   ·rw [if_pos c31] at H
    have c31b0 : (((rd_T67 l1 x7_1).f2).toList == ([] : List UInt8)) = true := beq_iff_eq.mpr c31
    have c31b1 : (((rd_T67 l1 x7_1).f2).toList != ([] : List UInt8)) = false := bne_eq_false_iff_eq.mpr c31
    clear c31
    have H' := Aside0.mk H
    clear H
    try go_wp2
    have n0_ : Aside0 (Kd.V k39 39 (((w9.setCell ⟨gb247, 0, none⟩ (.string ((rd_T67 l1 x7_1).f0))).setCell ⟨gb247, 1, none⟩ (.string ((rd_T67 l1 x7_1).f1))).setCell ⟨gb247, 2, none⟩ (.string ((rd_T67 l1 x7_1).f2))) w.heap.size (fun k_ => (P0_ k_ ∨ w.heap.size ≤ k_) ∧ k_ ≠ gb247) (.slice A0 l0.length c0) l0) := ⟨by (with_reducible repeat (first | apply Kd.V_alloc | apply Kd.V_drewN | apply Kd.V_drew)); exact Kd.V_mono (Kd.V_far (p := ⟨gb247, 2, none⟩) (Kd.V_far (p := ⟨gb247, 1, none⟩) (Kd.V_far (p := ⟨gb247, 0, none⟩) (Kd.V_mono HO_0.out (fun k_ hk => (⟨hk, hk.2⟩ : _ ∧ k_ ≠ gb247))) (fun _ hk => hk.2) (.string ((rd_T67 l1 x7_1).f0))) (fun _ hk => hk.2) (.string ((rd_T67 l1 x7_1).f1))) (fun _ hk => hk.2) (.string ((rd_T67 l1 x7_1).f2))) (fun _ hk => ⟨hk.1.1, hk.1.2⟩)⟩
    have n1_ : Aside0 ((((w9.setCell ⟨gb247, 0, none⟩ (.string ((rd_T67 l1 x7_1).f0))).setCell ⟨gb247, 1, none⟩ (.string ((rd_T67 l1 x7_1).f1))).setCell ⟨gb247, 2, none⟩ (.string ((rd_T67 l1 x7_1).f2))).heap[gb247]? = some (.cells #[.string ((rd_T67 l1 x7_1).f0), .string ((rd_T67 l1 x7_1).f1), .string ((rd_T67 l1 x7_1).f2)] 67 (0, 0))) := ⟨by (with_reducible repeat (first | refine blk_drewN ?_ _ | refine blk_drew ?_ | refine blk_alloc ?_ _)); refine blk_put (cs := #[.string ((rd_T67 l1 x7_1).f0), .string ((rd_T67 l1 x7_1).f1), .string (⟨#[]⟩ : ByteArray)]) ?_ 2 _ rfl; (with_reducible repeat (first | refine blk_drewN ?_ _ | refine blk_drew ?_ | refine blk_alloc ?_ _)); refine blk_put (cs := #[.string ((rd_T67 l1 x7_1).f0), .string (⟨#[]⟩ : ByteArray), .string (⟨#[]⟩ : ByteArray)]) ?_ 1 _ rfl; (with_reducible repeat (first | refine blk_drewN ?_ _ | refine blk_drew ?_ | refine blk_alloc ?_ _)); refine blk_put (cs := #[.string (⟨#[]⟩ : ByteArray), .string (⟨#[]⟩ : ByteArray), .string (⟨#[]⟩ : ByteArray)]) ?_ 0 _ rfl; (with_reducible repeat (first | refine blk_drewN ?_ _ | refine blk_drew ?_ | refine blk_alloc ?_ _)); exact BK247.out⟩
    have n2_ : Aside0 (Below w.heap.size w (((w9.setCell ⟨gb247, 0, none⟩ (.string ((rd_T67 l1 x7_1).f0))).setCell ⟨gb247, 1, none⟩ (.string ((rd_T67 l1 x7_1).f1))).setCell ⟨gb247, 2, none⟩ (.string ((rd_T67 l1 x7_1).f2)))) := ⟨m26_⟩
    (try clear HO_0)
    (try clear BK247)
    (try clear HB)
    generalize (((w9.setCell ⟨gb247, 0, none⟩ (.string ((rd_T67 l1 x7_1).f0))).setCell ⟨gb247, 1, none⟩ (.string ((rd_T67 l1 x7_1).f1))).setCell ⟨gb247, 2, none⟩ (.string ((rd_T67 l1 x7_1).f2))) = w32 at n0_ n1_ n2_ ⊢
    have HO_0 := n0_
    have BK247 := n1_
    have HB := n2_
    clear n0_ n1_ n2_
    replace HO_0 := Aside0.mk (Kd.V_drew HO_0.out)
    replace BK247 := Aside0.mk (blk_drew BK247.out)
    replace HB := Aside0.mk (below_drew1 HB.out)
    have p249 : 0 ≤ ((ji14) : Int) := of_decide_eq_true m18_
    have q249 : (ji14) < (l1.length : Int) := of_decide_eq_true m18_
    obtain ⟨ad249, e249, hx249_0, hx249_1, hx249_2⟩ := at_T67 HR1.out (ji14) p249 q249
    have hw249_2 := hx249_2
    have hw249_1 := hx249_1
    have hw249_0 := hx249_0
    obtain rfl : ad246 = ad249 := (by injection e249)
    replace hx249_0 := (HB.out.cell (World.block_lt_of_cell? w _ hx249_0)).trans hx249_0
    replace hx249_1 := (HB.out.cell (World.block_lt_of_cell? w _ hx249_1)).trans hx249_1
    replace hx249_2 := (HB.out.cell (World.block_lt_of_cell? w _ hx249_2)).trans hx249_2
    replace p249 := eq_true p249
    replace q249 := eq_true q249
    refine start_ (n := 49) (S := fun w' => w'.cell? ⟨gb247, 0, none⟩ = some (.string ((rd_T67 l1 x7_1).f0)) ∧ w'.cell? ⟨gb247, 1, none⟩ = some (.string ((rd_T67 l1 x7_1).f1)) ∧ w'.cell? ⟨gb247, 2, none⟩ = some (.string ((rd_T67 l1 x7_1).f2)) ∧ w'.cell? (ad246.add (((ji14)).toNat * 3)) = some (.string ((rd_T67 l1 (ji14)).f0)) ∧ w'.cell? ⟨(ad246.add (((ji14)).toNat * 3)).block, (ad246.add (((ji14)).toNat * 3)).off + 1, none⟩ = some (.string ((rd_T67 l1 (ji14)).f1)) ∧ w'.cell? ⟨(ad246.add (((ji14)).toNat * 3)).block, (ad246.add (((ji14)).toNat * 3)).off + 2, none⟩ = some (.string ((rd_T67 l1 (ji14)).f2))) (ds := []) (Ra_ [0, 49]) (by kernel_rfl) rfl rfl ⟨(blk_cell BK247.out 0).trans rfl, (blk_cell BK247.out 1).trans rfl, (blk_cell BK247.out 2).trans rfl, ((HB.out.cell (World.block_lt_of_cell? w _ hw249_0)).trans hw249_0), ((HB.out.cell (World.block_lt_of_cell? w _ hw249_1)).trans hw249_1), ((HB.out.cell (World.block_lt_of_cell? w _ hw249_2)).trans hw249_2)⟩ (fun hHeld => ?_); refine with_tabW strongroomref20_Apply.tab8 strongroomref20_Apply.bits8 (fun HT_ HW_ => ?_)
    generalize w32.drew = w33 at HO_0 BK247 HB hx249_0 hx249_1 hx249_2 hHeld ⊢
    refine pI_ 0 (some 29) (Ra_ [1, 48]) (h := ?_)
    refine tI6_ 1 (some 30) (Ra_ [2, 47]) (h := ?_)
    refine one_ (i := 2) (N := some 31) (Ra_ [3, 46]) rfl rfl (one_of HT_.out (by kernel_rfl)) (by decide) (fun K hK => ?_)
    refine goes_ Tryd.func51 (by kernel_rfl) rfl #[.string ((rd_T67 l1 x7_1).f0)] (by rfl) rfl rfl m6_ ?_
    with_reducible refine (strongroomref05_Good.calls k1 ((rd_T67 l1 x7_1).f0) true _ A11.out).mono ?_
    rintro e w34 ⟨rfl, hb⟩
    refine ⟨_, rfl, ?_⟩
    replace HO_0 := Aside0.mk (Kd.V_below m14_ hb)
    replace BK247 := Aside0.mk (blk_below (g := gb247) (o := .cells #[.string ((rd_T67 l1 x7_1).f0), .string ((rd_T67 l1 x7_1).f1), .string ((rd_T67 l1 x7_1).f2)] 67 (0, 0)) m8_ hb)
    replace HB := Aside0.mk (below_step m0_ hb)
    (try clear hb)
    (try clear hb2)
    (try clear hk)
    (try clear hi)
    refine hK.out _ _ ⟨(blk_cell BK247.out 0).trans rfl, (blk_cell BK247.out 1).trans rfl, (blk_cell BK247.out 2).trans rfl, ((HB.out.cell (World.block_lt_of_cell? w _ hw249_0)).trans hw249_0), ((HB.out.cell (World.block_lt_of_cell? w _ hw249_1)).trans hw249_1), ((HB.out.cell (World.block_lt_of_cell? w _ hw249_2)).trans hw249_2)⟩ (fun hHeld => ?_)
    clear hK K
    refine norm_ (a' := ?_) ?_ ?_
    rotate_left
    ·show Act.put _ (some 31) _ = _
     simp only [Act.put, sA_, sB_, sC_, i64_w, i32_w]
     rfl
    refine pI_ 3 (some 32) (Ra_ [4, 45]) (h := ?_)
    refine pI_ 4 (some 33) (Ra_ [5, 44]) (h := ?_)
    refine pI_ 5 (some 34) (Ra_ [6, 43]) (h := ?_)
    refine pI_ 6 (some 35) (Ra_ [7, 42]) (h := ?_)
    refine pI_ 7 (some 36) (Ra_ [8, 41]) (h := ?_)
    refine pI_ 8 (some 37) (Ra_ [9, 40]) (h := ?_)
    refine pI_ 9 (some 38) (Ra_ [10, 39]) (h := ?_)
    refine pI_ 10 (some 39) (Ra_ [11, 38]) (h := ?_)
    refine pI_ 11 (some 40) (Ra_ [12, 37]) (h := ?_)
    refine pI_ 12 (some 41) (Ra_ [13, 36]) (h := ?_)
    refine pI_ 14 (some 43) (Ra_ [13, 1, 1, 34]) (h := ?_)
    refine tI6_ 13 (some 42) (Ra_ [15, 34]) (h := ?_)
    refine tI6_ 15 (some 44) (Ra_ [16, 33]) (h := ?_)
    refine pI_ 16 (some 45) (Ra_ [17, 32]) (h := ?_)
    refine pI_ 17 (some 46) (Ra_ [18, 31]) (h := ?_)
    refine pI_ 18 (some 47) (Ra_ [19, 30]) (h := ?_)
    refine pI_ 19 (some 48) (Ra_ [20, 29]) (h := ?_)
    refine pI_ 20 (some 49) (Ra_ [21, 28]) (h := ?_)
    refine pI_ 21 (some 50) (Ra_ [22, 27]) (h := ?_)
    refine pI_ 23 (some 52) (Ra_ [22, 1, 1, 25]) (h := ?_)
    refine tI6_ 22 (some 51) (Ra_ [24, 25]) (h := ?_)
    refine tI6_ 24 (some 53) (Ra_ [25, 24]) (h := ?_)
    refine pI_ 25 (some 54) (Ra_ [26, 23]) (h := ?_)
    refine pI_ 26 (some 55) (Ra_ [27, 22]) (h := ?_)
    refine pI_ 27 (some 56) (Ra_ [28, 21]) (h := ?_)
    refine pI_ 28 (some 57) (Ra_ [29, 20]) (h := ?_)
    refine tI6_ 29 (some 58) (Ra_ [30, 19]) (h := ?_)
    refine pI_ 30 (some 59) (Ra_ [31, 18]) (h := ?_)
    refine pI_ 31 (some 60) (Ra_ [32, 17]) (h := ?_)
    refine pI_ 32 (some 61) (Ra_ [33, 16]) (h := ?_)
    refine tI6_ 33 (some 62) (Ra_ [34, 15]) (h := ?_)
    refine pI_ 34 (some 63) (Ra_ [35, 14]) (h := ?_)
    refine pI_ 35 (some 64) (Ra_ [36, 13]) (h := ?_)
    refine pI_ 36 (some 65) (Ra_ [37, 12]) (h := ?_)
    refine pI_ 37 (some 66) (Ra_ [38, 11]) (h := ?_)
    refine pI_ 38 (some 67) (Ra_ [39, 10]) (h := ?_)
    refine pI_ 39 (some 68) (Ra_ [40, 9]) (h := ?_)
    refine tI6_ 40 (some 69) (Ra_ [41, 8]) (h := ?_)
    refine pI_ 41 (some 70) (Ra_ [42, 7]) (h := ?_)
    refine pI_ 42 (some 71) (Ra_ [43, 6]) (h := ?_)
    refine uI_ 43 (some 72) (Ra_ [44, 5]) (h := ?_)
    refine uI_ 44 (some 73) (Ra_ [45, 4]) (h := ?_)
    refine uI_ 45 (some 74) (Ra_ [46, 3]) (h := ?_)
    refine uI_ 46 (some 75) (Ra_ [47, 2]) (h := ?_)
    refine pI_ 47 (some 76) (Ra_ [48, 1]) (h := ?_)
    refine pI_ 48 (some 77) (Ra_ [49]) (h := ?_)
    refine done_ (done_of HT_.out (by kernel_rfl)) ?_
    try go_wp2
    go_meet
    case rel => exact ⟨_, (false), m19_, H', ⟨by have := HK1.out; first | omega | exact Nat.le_refl _⟩, ⟨by (with_reducible repeat (first | apply Kd.V_alloc | apply Kd.V_drewN | apply Kd.V_drew)); exact HO_0.out⟩, ⟨by (with_reducible repeat (first | refine blk_drewN ?_ _ | refine blk_drew ?_ | refine blk_alloc ?_ _)); exact BK247.out⟩, ⟨m26_⟩⟩
   rw [if_neg c31] at H
   have c31b0 : (((rd_T67 l1 x7_1).f2).toList == ([] : List UInt8)) = false := beq_eq_false_iff_ne.mpr c31
   have c31b1 : (((rd_T67 l1 x7_1).f2).toList != ([] : List UInt8)) = true := bne_iff_ne.mpr c31
   have H' := Aside0.mk H
   clear H
   try go_wp2
   have n0_ : Aside0 (Kd.V k39 39 (((w9.setCell ⟨gb247, 0, none⟩ (.string ((rd_T67 l1 x7_1).f0))).setCell ⟨gb247, 1, none⟩ (.string ((rd_T67 l1 x7_1).f1))).setCell ⟨gb247, 2, none⟩ (.string ((rd_T67 l1 x7_1).f2))) w.heap.size (fun k_ => (P0_ k_ ∨ w.heap.size ≤ k_) ∧ k_ ≠ gb247) (.slice A0 l0.length c0) l0) := ⟨by (with_reducible repeat (first | apply Kd.V_alloc | apply Kd.V_drewN | apply Kd.V_drew)); exact Kd.V_mono (Kd.V_far (p := ⟨gb247, 2, none⟩) (Kd.V_far (p := ⟨gb247, 1, none⟩) (Kd.V_far (p := ⟨gb247, 0, none⟩) (Kd.V_mono HO_0.out (fun k_ hk => (⟨hk, hk.2⟩ : _ ∧ k_ ≠ gb247))) (fun _ hk => hk.2) (.string ((rd_T67 l1 x7_1).f0))) (fun _ hk => hk.2) (.string ((rd_T67 l1 x7_1).f1))) (fun _ hk => hk.2) (.string ((rd_T67 l1 x7_1).f2))) (fun _ hk => ⟨hk.1.1, hk.1.2⟩)⟩
   have n1_ : Aside0 ((((w9.setCell ⟨gb247, 0, none⟩ (.string ((rd_T67 l1 x7_1).f0))).setCell ⟨gb247, 1, none⟩ (.string ((rd_T67 l1 x7_1).f1))).setCell ⟨gb247, 2, none⟩ (.string ((rd_T67 l1 x7_1).f2))).heap[gb247]? = some (.cells #[.string ((rd_T67 l1 x7_1).f0), .string ((rd_T67 l1 x7_1).f1), .string ((rd_T67 l1 x7_1).f2)] 67 (0, 0))) := ⟨by (with_reducible repeat (first | refine blk_drewN ?_ _ | refine blk_drew ?_ | refine blk_alloc ?_ _)); refine blk_put (cs := #[.string ((rd_T67 l1 x7_1).f0), .string ((rd_T67 l1 x7_1).f1), .string (⟨#[]⟩ : ByteArray)]) ?_ 2 _ rfl; (with_reducible repeat (first | refine blk_drewN ?_ _ | refine blk_drew ?_ | refine blk_alloc ?_ _)); refine blk_put (cs := #[.string ((rd_T67 l1 x7_1).f0), .string (⟨#[]⟩ : ByteArray), .string (⟨#[]⟩ : ByteArray)]) ?_ 1 _ rfl; (with_reducible repeat (first | refine blk_drewN ?_ _ | refine blk_drew ?_ | refine blk_alloc ?_ _)); refine blk_put (cs := #[.string (⟨#[]⟩ : ByteArray), .string (⟨#[]⟩ : ByteArray), .string (⟨#[]⟩ : ByteArray)]) ?_ 0 _ rfl; (with_reducible repeat (first | refine blk_drewN ?_ _ | refine blk_drew ?_ | refine blk_alloc ?_ _)); exact BK247.out⟩
   have n2_ : Aside0 (Below w.heap.size w (((w9.setCell ⟨gb247, 0, none⟩ (.string ((rd_T67 l1 x7_1).f0))).setCell ⟨gb247, 1, none⟩ (.string ((rd_T67 l1 x7_1).f1))).setCell ⟨gb247, 2, none⟩ (.string ((rd_T67 l1 x7_1).f2)))) := ⟨m26_⟩
   (try clear HO_0)
   (try clear BK247)
   (try clear HB)
   generalize (((w9.setCell ⟨gb247, 0, none⟩ (.string ((rd_T67 l1 x7_1).f0))).setCell ⟨gb247, 1, none⟩ (.string ((rd_T67 l1 x7_1).f1))).setCell ⟨gb247, 2, none⟩ (.string ((rd_T67 l1 x7_1).f2))) = w35 at n0_ n1_ n2_ ⊢
   have HO_0 := n0_
   have BK247 := n1_
   have HB := n2_
   clear n0_ n1_ n2_
   replace HO_0 := Aside0.mk (Kd.V_drew HO_0.out)
   replace BK247 := Aside0.mk (blk_drew BK247.out)
   replace HB := Aside0.mk (below_drew1 HB.out)
   have p249 : 0 ≤ ((ji14) : Int) := of_decide_eq_true m18_
   have q249 : (ji14) < (l1.length : Int) := of_decide_eq_true m18_
   obtain ⟨ad249, e249, hx249_0, hx249_1, hx249_2⟩ := at_T67 HR1.out (ji14) p249 q249
   have hw249_2 := hx249_2
   have hw249_1 := hx249_1
   have hw249_0 := hx249_0
   obtain rfl : ad246 = ad249 := (by injection e249)
   replace hx249_0 := (HB.out.cell (World.block_lt_of_cell? w _ hx249_0)).trans hx249_0
   replace hx249_1 := (HB.out.cell (World.block_lt_of_cell? w _ hx249_1)).trans hx249_1
   replace hx249_2 := (HB.out.cell (World.block_lt_of_cell? w _ hx249_2)).trans hx249_2
   replace p249 := eq_true p249
   replace q249 := eq_true q249
   refine start_ (n := 49) (S := fun w' => w'.cell? ⟨gb247, 0, none⟩ = some (.string ((rd_T67 l1 x7_1).f0)) ∧ w'.cell? ⟨gb247, 1, none⟩ = some (.string ((rd_T67 l1 x7_1).f1)) ∧ w'.cell? ⟨gb247, 2, none⟩ = some (.string ((rd_T67 l1 x7_1).f2)) ∧ w'.cell? (ad246.add (((ji14)).toNat * 3)) = some (.string ((rd_T67 l1 (ji14)).f0)) ∧ w'.cell? ⟨(ad246.add (((ji14)).toNat * 3)).block, (ad246.add (((ji14)).toNat * 3)).off + 1, none⟩ = some (.string ((rd_T67 l1 (ji14)).f1)) ∧ w'.cell? ⟨(ad246.add (((ji14)).toNat * 3)).block, (ad246.add (((ji14)).toNat * 3)).off + 2, none⟩ = some (.string ((rd_T67 l1 (ji14)).f2))) (ds := []) (Ra_ [0, 49]) (by kernel_rfl) rfl rfl ⟨(blk_cell BK247.out 0).trans rfl, (blk_cell BK247.out 1).trans rfl, (blk_cell BK247.out 2).trans rfl, ((HB.out.cell (World.block_lt_of_cell? w _ hw249_0)).trans hw249_0), ((HB.out.cell (World.block_lt_of_cell? w _ hw249_1)).trans hw249_1), ((HB.out.cell (World.block_lt_of_cell? w _ hw249_2)).trans hw249_2)⟩ (fun hHeld => ?_); refine with_tabW strongroomref20_Apply.tab8 strongroomref20_Apply.bits8 (fun HT_ HW_ => ?_)
   generalize w35.drew = w36 at HO_0 BK247 HB hx249_0 hx249_1 hx249_2 hHeld ⊢
   refine pI_ 0 (some 29) (Ra_ [1, 48]) (h := ?_)
   refine tI6_ 1 (some 30) (Ra_ [2, 47]) (h := ?_)
   refine one_ (i := 2) (N := some 31) (Ra_ [3, 46]) rfl rfl (one_of HT_.out (by kernel_rfl)) (by decide) (fun K hK => ?_)
   refine goes_ Tryd.func51 (by kernel_rfl) rfl #[.string ((rd_T67 l1 x7_1).f0)] (by rfl) rfl rfl m6_ ?_
   with_reducible refine (strongroomref05_Good.calls k1 ((rd_T67 l1 x7_1).f0) true _ A11.out).mono ?_
   rintro e w37 ⟨rfl, hb⟩
   refine ⟨_, rfl, ?_⟩
   replace HO_0 := Aside0.mk (Kd.V_below m14_ hb)
   replace BK247 := Aside0.mk (blk_below (g := gb247) (o := .cells #[.string ((rd_T67 l1 x7_1).f0), .string ((rd_T67 l1 x7_1).f1), .string ((rd_T67 l1 x7_1).f2)] 67 (0, 0)) m8_ hb)
   replace HB := Aside0.mk (below_step m0_ hb)
   (try clear hb)
   (try clear hb2)
   (try clear hk)
   (try clear hi)
   refine hK.out _ _ ⟨(blk_cell BK247.out 0).trans rfl, (blk_cell BK247.out 1).trans rfl, (blk_cell BK247.out 2).trans rfl, ((HB.out.cell (World.block_lt_of_cell? w _ hw249_0)).trans hw249_0), ((HB.out.cell (World.block_lt_of_cell? w _ hw249_1)).trans hw249_1), ((HB.out.cell (World.block_lt_of_cell? w _ hw249_2)).trans hw249_2)⟩ (fun hHeld => ?_)
   clear hK K
   refine norm_ (a' := ?_) ?_ ?_
   rotate_left
   ·show Act.put _ (some 31) _ = _
    simp only [Act.put, sA_, sB_, sC_, i64_w, i32_w]
    rfl
   refine pI_ 3 (some 32) (Ra_ [4, 45]) (h := ?_)
   refine pI_ 4 (some 33) (Ra_ [5, 44]) (h := ?_)
   refine pI_ 5 (some 34) (Ra_ [6, 43]) (h := ?_)
   refine pI_ 6 (some 35) (Ra_ [7, 42]) (h := ?_)
   refine pI_ 7 (some 36) (Ra_ [8, 41]) (h := ?_)
   refine pI_ 8 (some 37) (Ra_ [9, 40]) (h := ?_)
   refine pI_ 9 (some 38) (Ra_ [10, 39]) (h := ?_)
   refine pI_ 10 (some 39) (Ra_ [11, 38]) (h := ?_)
   refine pI_ 11 (some 40) (Ra_ [12, 37]) (h := ?_)
   refine pI_ 12 (some 41) (Ra_ [13, 36]) (h := ?_)
   refine pI_ 14 (some 43) (Ra_ [13, 1, 1, 34]) (h := ?_)
   refine tI6_ 13 (some 42) (Ra_ [15, 34]) (h := ?_)
   refine tI6_ 15 (some 44) (Ra_ [16, 33]) (h := ?_)
   refine pI_ 16 (some 45) (Ra_ [17, 32]) (h := ?_)
   refine pI_ 17 (some 46) (Ra_ [18, 31]) (h := ?_)
   refine pI_ 18 (some 47) (Ra_ [19, 30]) (h := ?_)
   refine pI_ 19 (some 48) (Ra_ [20, 29]) (h := ?_)
   refine pI_ 20 (some 49) (Ra_ [21, 28]) (h := ?_)
   refine pI_ 21 (some 50) (Ra_ [22, 27]) (h := ?_)
   refine pI_ 23 (some 52) (Ra_ [22, 1, 1, 25]) (h := ?_)
   refine tI6_ 22 (some 51) (Ra_ [24, 25]) (h := ?_)
   refine tI6_ 24 (some 53) (Ra_ [25, 24]) (h := ?_)
   refine pI_ 25 (some 54) (Ra_ [26, 23]) (h := ?_)
   refine pI_ 26 (some 55) (Ra_ [27, 22]) (h := ?_)
   refine pI_ 27 (some 56) (Ra_ [28, 21]) (h := ?_)
   refine pI_ 28 (some 57) (Ra_ [29, 20]) (h := ?_)
   refine tI6_ 29 (some 58) (Ra_ [30, 19]) (h := ?_)
   refine pI_ 30 (some 59) (Ra_ [31, 18]) (h := ?_)
   refine pI_ 31 (some 60) (Ra_ [32, 17]) (h := ?_)
   refine pI_ 32 (some 61) (Ra_ [33, 16]) (h := ?_)
   refine tI6_ 33 (some 62) (Ra_ [34, 15]) (h := ?_)
   refine pI_ 34 (some 63) (Ra_ [35, 14]) (h := ?_)
   refine pI_ 35 (some 64) (Ra_ [36, 13]) (h := ?_)
   refine pI_ 36 (some 65) (Ra_ [37, 12]) (h := ?_)
   refine pI_ 37 (some 66) (Ra_ [38, 11]) (h := ?_)
   refine pI_ 38 (some 67) (Ra_ [39, 10]) (h := ?_)
   refine pI_ 39 (some 68) (Ra_ [40, 9]) (h := ?_)
   refine tI6_ 40 (some 69) (Ra_ [41, 8]) (h := ?_)
   refine pI_ 41 (some 70) (Ra_ [42, 7]) (h := ?_)
   refine pI_ 42 (some 71) (Ra_ [43, 6]) (h := ?_)
   refine pI_ 43 (some 72) (Ra_ [44, 5]) (h := ?_)
   refine tI6_ 44 (some 73) (Ra_ [45, 4]) (h := ?_)
   refine pI_ 45 (some 74) (Ra_ [46, 3]) (h := ?_)
   refine pI_ 46 (some 75) (Ra_ [47, 2]) (h := ?_)
   refine pI_ 47 (some 76) (Ra_ [48, 1]) (h := ?_)
   refine pI_ 48 (some 77) (Ra_ [49]) (h := ?_)
   refine done_ (done_of HT_.out (by kernel_rfl)) ?_
   try go_wp2
   go_meet
   case rel => exact ⟨_, (((((rd_T67 l1 x7_1).f2).size : Int) != 32)), m19_, H', ⟨by have := HK1.out; first | omega | exact Nat.le_refl _⟩, ⟨by (with_reducible repeat (first | apply Kd.V_alloc | apply Kd.V_drewN | apply Kd.V_drew)); exact HO_0.out⟩, ⟨by (with_reducible repeat (first | refine blk_drewN ?_ _ | refine blk_drew ?_ | refine blk_alloc ?_ _)); exact BK247.out⟩, ⟨m26_⟩⟩
  clear HC8
  try clear c1; try clear p2; try clear c5; try clear c12; try clear c51
  obtain ⟨kq, x77_7, rfl, HA, HJ7, HO_0, BK247, HB⟩ := hcut
  cases kq with
  | zero => exact absurd HA.out (by simp [strongroomref20_Apply.j1])
  | succ kj7 =>
   have H := HA.out
   clear HA
   simp only [strongroomref20_Apply.j1] at H
   by_cases c70 : x77_7 = true
   ·subst c70
    have H1 : (some (([] : List (S39)), 1)) = some (r1, r2) := by rw [if_pos rfl] at H; exact H
    clear H
    have H := H1
    clear H1
    simp only [Option.some.injEq, Prod.mk.injEq] at H
    obtain ⟨rfl, rfl⟩ := H
    go_wp2
    go_ret2
    exact ⟨_, by first | rfl | (simp [errW_none, errW_some] <;> rfl) | (simp [*, errW_none, errW_some] <;> rfl), Kd.V_mono (Kd.R_V (base := w.heap.size) (ok := fun k_ => w.heap.size ≤ k_) (by first | exact Kd.R_nil _ _ _ _ _ | exact Kd.N_nil _ _ _ _ _ | exact Kd.V_nil _ _ _ _ _ | exact Kd.Q_nil _ _ _ _ _ | exact Kd.S_nil _ _ _ _ _)) (fun k_ hk => by first | exact ⟨(.inr (hk.1)), hk.2⟩ | exact (.inr (hk))), m26_⟩
   replace c70 := Bool.eq_false_iff.mpr c70
   subst c70
   have H1 : (strongroomref20_Apply.l0 kj7 l0 l1 (wrap64 (x7_1 + 1))) = some (r1, r2) := by rw [if_neg (show ¬ (false = true) by decide)] at H; exact H
   clear H
   have H := H1
   clear H1
   have H' := Aside0.mk H
   clear H
   go_wp2
   go_roundg kj7
   case measure => have := HK1.out; have := HJ7.out; omega
   case rel => exact ⟨(wrap64 (x7_1 + 1)), m19_, H', ⟨by have := HK1.out; have := HJ7.out; omega⟩, ⟨by (with_reducible repeat (first | apply Kd.V_alloc | apply Kd.V_drewN | apply Kd.V_drew)); exact Kd.V_mono HO_0.out (fun _ hk => hk.1)⟩, ⟨m26_⟩⟩

end Go.Proofs.YtdeggemomajhcaaDoorH.HMerkleApplies
