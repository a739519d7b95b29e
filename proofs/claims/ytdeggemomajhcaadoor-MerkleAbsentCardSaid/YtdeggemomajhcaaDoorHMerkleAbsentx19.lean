-- PRINTED by print.py (a twelfth state) out of the translation. Not trusted: Lean checks it.
import Derived.Test.YtdeggemomajhcaaDoorHMerkleAbsentx0
namespace Go.Proofs.YtdeggemomajhcaaDoorH.HMerkleAbsent
open Go.RowKit Go.Proofs.YtdeggemomajhcaaDoorW.PrintWords Go.Proofs.YtdeggemomajhcaaDoorW.PrintLast Go.Proofs.YtdeggemomajhcaaDoorW.PrintMore
attribute [local go_sem] max2_int min2_int max_two min_two max_three min_three max_four min_four   -- for this text's walks alone
set_option linter.unusedVariables false
set_option linter.unusedSimpArgs false

/-! ### strongroomref20_Find: function 40 -/
def strongroomref20_Find.l0 : Nat → List (S39) → ByteArray → Int → Int → Option (Int × Bool)
 | 0, _, _, _, _ => none
 | k + 1, x0, x1, x6, x7 => if x7 < (x0.length : Int) then (if 0 ≤ x7 then (if ((rd_T39 x0 x7).f0).toList = x1.toList then (some (x7, true)) else (if (Op.bytesLess (((rd_T39 x0 x7).f0).toList) x1.toList) = true then (strongroomref20_Find.l0 k x0 x1 (wrap64 (x6 + 1)) (wrap64 (x7 + 1))) else (strongroomref20_Find.l0 k x0 x1 x6 (wrap64 (x7 + 1))))) else (none)) else (some (x6, false))
def strongroomref20_Find.f (k : Nat) (l0 : List (S39)) (a1 : ByteArray) : Option (Int × Bool) := strongroomref20_Find.l0 k l0 a1 0 0
theorem strongroomref20_Find.mono_l : ∀ k, (∀ y0 y1 y2 y3, LeO (strongroomref20_Find.l0 k y0 y1 y2 y3) (strongroomref20_Find.l0 (k + 1) y0 y1 y2 y3))
 | 0 => fun _ _ _ _ r h => by simp [strongroomref20_Find.l0] at h
 | k + 1 => by
  have ih0 := strongroomref20_Find.mono_l k
  ·intro y0 y1 y2 y3
   unfold strongroomref20_Find.l0
   repeat' first
   | (with_reducible exact ih0 _ _ _ _)
   | (with_reducible exact LeO.refl _)
   | (with_reducible exact LeO.none _)
   | (with_reducible refine LeO.ite ?_ ?_)
   | (with_reducible refine LeO.bind ?_ (fun _ => ?_))
   | exact ih0 _ _ _ _
   | exact LeO.none _
   | refine LeO.ite ?_ ?_
   | refine LeO.bind ?_ (fun _ => ?_)
theorem strongroomref20_Find.mono : ∀ a0 a1 k, LeO (strongroomref20_Find.f k a0 a1) (strongroomref20_Find.f (k + 1) a0 a1) := by
 intro a0 a1 k
 have ih0 := strongroomref20_Find.mono_l k
 unfold strongroomref20_Find.f
 repeat' first
   | (with_reducible exact ih0 _ _ _ _)
   | (with_reducible exact LeO.refl _)
   | (with_reducible exact LeO.none _)
   | (with_reducible refine LeO.ite ?_ ?_)
   | (with_reducible refine LeO.bind ?_ (fun _ => ?_))
   | exact ih0 _ _ _ _
   | exact LeO.none _
   | refine LeO.ite ?_ ?_
   | refine LeO.bind ?_ (fun _ => ?_)
set_option maxHeartbeats 8000000 in
set_option maxRecDepth 100000 in
theorem strongroomref20_Find.calls (k : Nat) (A0 : Option Addr) (c0 : Nat) (l0 : List (S39)) (a1 : ByteArray) (r1 : Int) (r2 : Bool) (w : World) (hr0 : Kd.C k39 w A0 l0.length l0) (hc0 : l0.length ≤ c0) (h : strongroomref20_Find.f k l0 a1 = some (r1, r2)) :
  Calls Tryd.prog 40 #[.slice A0 l0.length c0, .string a1] w fun e w' => e = .returned (.tuple #[.int .i64 r1, .bool r2]) ∧ Drawn0 w w' := by
 have HR0 := Aside0.mk hr0
 have HC0 := Aside0.mk hc0
 clear hr0 hc0
 have H : (strongroomref20_Find.l0 k l0 a1 0 0) = some (r1, r2) := h
 clear h
 have H' := Aside0.mk H
 clear H
 go_enter Tryd.func40, Tryd.ntmps40
 go_wp2
 go_loopg [6, 7] k (fun kq v6 v7 w' => ∃ (x6_1 : Int) (x7_1 : Int), v6 = .int .i64 x6_1 ∧ v7 = .int .i64 x7_1 ∧ Aside0 (strongroomref20_Find.l0 kq l0 a1 x6_1 x7_1 = some (r1, r2)) ∧ Aside0 (kq ≤ k) ∧ Drawn0 w w')
 case atStart => exact ⟨(0), (0), m23_, m23_, H', ⟨Nat.le_refl _⟩, m43_⟩
 clear H'
 try clear p2
 obtain ⟨x6_1, x7_1, rfl, rfl, HA, HK1, ⟨m1, rfl⟩⟩ := hrel
 cases gk with
 | zero => exact absurd HA.out (by simp [strongroomref20_Find.l0])
 | succ k1 =>
  have H := HA.out
  clear HA
  simp only [strongroomref20_Find.l0] at H
  by_cases c3 : x7_1 < (l0.length : Int)
  case neg =>
   rw [if_neg c3] at H
   have c3b0 : decide (x7_1 < (l0.length : Int)) = false := decide_eq_false c3
   clear c3
   simp only [Option.some.injEq, Prod.mk.injEq] at H
   obtain ⟨rfl, rfl⟩ := H
   go_wp2
   go_ret2
   exact ⟨by first | rfl | (simp; done) | (simp [*]; done), m43_⟩
  rw [if_pos c3] at H
  have c3b0 : decide (x7_1 < (l0.length : Int)) = true := decide_eq_true c3
  clear c3
  by_cases c4 : 0 ≤ x7_1
  case neg =>
   rw [if_neg c4] at H
   exact absurd H (by simp)
  rw [if_pos c4] at H
  have c4b0 : decide (0 ≤ x7_1) = true := decide_eq_true c4
  clear c4
  by_cases c5 : ((rd_T39 l0 x7_1).f0).toList = a1.toList
  ·rw [if_pos c5] at H
   have c5b0 : (((rd_T39 l0 x7_1).f0).toList == a1.toList) = true := beq_iff_eq.mpr c5
   have c5b1 : (((rd_T39 l0 x7_1).f0).toList != a1.toList) = false := bne_eq_false_iff_eq.mpr c5
   clear c5
   simp only [Option.some.injEq, Prod.mk.injEq] at H
   obtain ⟨rfl, rfl⟩ := H
   have p330 : 0 ≤ (x7_1 : Int) := of_decide_eq_true m22_
   have q330 : x7_1 < (l0.length : Int) := of_decide_eq_true m22_
   obtain ⟨ad330, e330, hx330_0, hx330_1⟩ := at_T39 HR0.out x7_1 p330 q330
   cases e330
   replace p330 := eq_true p330
   replace q330 := eq_true q330
   go_wp2
   go_ret2
   exact ⟨by first | rfl | (simp; done) | (simp [*]; done), m43_⟩
  rw [if_neg c5] at H
  have c5b0 : (((rd_T39 l0 x7_1).f0).toList == a1.toList) = false := beq_eq_false_iff_ne.mpr c5
  have c5b1 : (((rd_T39 l0 x7_1).f0).toList != a1.toList) = true := bne_iff_ne.mpr c5
  by_cases c6 : (Op.bytesLess (((rd_T39 l0 x7_1).f0).toList) a1.toList) = true
  ·rw [if_pos c6] at H
   have c6b0 : (Op.bytesLess (((rd_T39 l0 x7_1).f0).toList) a1.toList) = true := c6
   clear c6
   have H' := Aside0.mk H
   clear H
   have p330 : 0 ≤ (x7_1 : Int) := of_decide_eq_true m22_
   have q330 : x7_1 < (l0.length : Int) := of_decide_eq_true m22_
   obtain ⟨ad330, e330, hx330_0, hx330_1⟩ := at_T39 HR0.out x7_1 p330 q330
   cases e330
   replace p330 := eq_true p330
   replace q330 := eq_true q330
   have p331 : 0 ≤ (x7_1 : Int) := of_decide_eq_true m22_
   have q331 : x7_1 < (l0.length : Int) := of_decide_eq_true m22_
   obtain ⟨ad331, e331, hx331_0, hx331_1⟩ := at_T39 HR0.out x7_1 p331 q331
   obtain rfl : ad330 = ad331 := (by injection e331)
   replace p331 := eq_true p331
   replace q331 := eq_true q331
   go_wp2
   go_roundg k1
   case measure => have := HK1.out; omega
   case rel => exact ⟨(wrap64 (x6_1 + 1)), (wrap64 (x7_1 + 1)), m23_, m23_, H', ⟨by have := HK1.out; omega⟩, m43_⟩
  rw [if_neg c6] at H
  have c6b0 : (Op.bytesLess (((rd_T39 l0 x7_1).f0).toList) a1.toList) = false := by simpa using c6
  clear c6
  have H' := Aside0.mk H
  clear H
  have p330 : 0 ≤ (x7_1 : Int) := of_decide_eq_true m22_
  have q330 : x7_1 < (l0.length : Int) := of_decide_eq_true m22_
  obtain ⟨ad330, e330, hx330_0, hx330_1⟩ := at_T39 HR0.out x7_1 p330 q330
  cases e330
  replace p330 := eq_true p330
  replace q330 := eq_true q330
  have p331 : 0 ≤ (x7_1 : Int) := of_decide_eq_true m22_
  have q331 : x7_1 < (l0.length : Int) := of_decide_eq_true m22_
  obtain ⟨ad331, e331, hx331_0, hx331_1⟩ := at_T39 HR0.out x7_1 p331 q331
  obtain rfl : ad330 = ad331 := (by injection e331)
  replace p331 := eq_true p331
  replace q331 := eq_true q331
  go_wp2
  go_roundg k1
  case measure => have := HK1.out; omega
  case rel => exact ⟨(x6_1), (wrap64 (x7_1 + 1)), m23_, m23_, H', ⟨by have := HK1.out; omega⟩, m43_⟩

/-! ### strongroomlaw20_absence: function 41 -/
def strongroomlaw20_absence.f (a0_0 : Int) (a0_1 : ByteArray) (a0_2 : ByteArray) (a0_3 : ByteArray) (a0_4 : ByteArray) (l0_5 : List ByteArray) (l0_6 : List ByteArray) : Option Unit := some ()
theorem strongroomlaw20_absence.calls (a0_0 : Int) (a0_1 : ByteArray) (a0_2 : ByteArray) (a0_3 : ByteArray) (a0_4 : ByteArray) (A5 : Option Addr) (c5 : Nat) (l0_5 : List ByteArray) (A6 : Option Addr) (c6 : Nat) (l0_6 : List ByteArray) (w : World) (_hk5 : Kd.C Kd.string w A5 l0_5.length l0_5) (_hc5 : l0_5.length ≤ c5) (_hk6 : Kd.C Kd.string w A6 l0_6.length l0_6) (_hc6 : l0_6.length ≤ c6) (_h : strongroomlaw20_absence.f a0_0 a0_1 a0_2 a0_3 a0_4 l0_5 l0_6 = some ()) :
    Calls Tryd.prog 41 #[.agg #[.int .i64 a0_0, .string a0_1, .string a0_2, .string a0_3, .string a0_4, .slice A5 l0_5.length c5, .slice A6 l0_6.length c6]] w fun e w' => e = .returned (.agg #[.int .i64 a0_0, .string a0_1, .string a0_2, .string a0_3, .string a0_4, .slice A5 l0_5.length c5, .slice A6 l0_6.length c6]) ∧ Below w.heap.size w w' :=
  Go.Proofs.YtdeggemomajhcaaDoor.absence_any a0_0 a0_1 a0_2 a0_3 a0_4 A5 l0_5.length c5 A6 l0_6.length c6 w

end Go.Proofs.YtdeggemomajhcaaDoorH.HMerkleAbsent
