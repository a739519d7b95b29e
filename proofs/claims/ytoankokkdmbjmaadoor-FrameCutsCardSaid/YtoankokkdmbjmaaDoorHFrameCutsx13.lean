-- PRINTED by print.py (a twelfth state) out of the translation. Not trusted: Lean checks it.
import Derived.Test.YtoankokkdmbjmaaDoorHFrameCutsx0
import Derived.Test.YtoankokkdmbjmaaDoorHFrameCutsx3
import Derived.Test.YtoankokkdmbjmaaDoorHFrameCutsx7
import Derived.Test.YtoankokkdmbjmaaDoorHFrameCutsx10
import Derived.Test.YtoankokkdmbjmaaDoorHFrameCutsx12
namespace Go.Proofs.YtoankokkdmbjmaaDoorH.HFrameCuts
open Go.RowKit Go.Proofs.YtoankokkdmbjmaaDoorW.PrintWords Go.Proofs.YtoankokkdmbjmaaDoorW.PrintLast Go.Proofs.YtoankokkdmbjmaaDoorW.PrintMore
attribute [local go_sem] max2_int min2_int max_two min_two max_three min_three max_four min_four   -- for this text's walks alone
set_option linter.unusedVariables false
set_option linter.unusedSimpArgs false

/-! ### cap_Encode: function 48 -/
def cap_Encode.l0 : Nat → List Int → List (S91) → Int → Int → Int → Int → List (S91) → ByteArray → Option (List Int × Int)
  | 0, _, _, _, _, _, _, _, _ => none
  | k + 1, x4, x22, x23, x24, x323000, x323001, x323002, x323003 => if x24 < x23 then (if 0 ≤ x24 then (if x24 < (x22.length : Int) then ((cap_bytes.f k ((rd_T91 x22 x24).f0) ((rd_T91 x22 x24).f1) ((rd_T91 x22 x24).f2)).bind fun t333 => (if x4.length + t333.length < 140737488355328 then (cap_Encode.l0 k (x4 ++ t333) x22 x23 (wrap64 (x24 + 1)) x323000 x323001 x323002 x323003) else (none))) else (none)) else (none)) else ((num_PutText.f k x4 x323003).bind fun t339 => (some (t339, 0)))
def cap_Encode.f (k : Nat) (a0_0 : Int) (a0_1 : Int) (l0_2 : List (S91)) (a0_3 : ByteArray) : Option (List Int × Int) := (cap_May.f k a0_0 a0_1 l0_2 a0_3).bind fun t323 => (if t323 = true then ((cap_first.f k a0_0 a0_1).bind fun t324 => (if t324.size ≤ 9223372036854775807 then ((num_Put.f k ((t324.data.toList.map fun b_ => (b_.toNat : Int))) (IntKind.u64.wrap ((l0_2.length : Int)))).bind fun t328 => (cap_Encode.l0 k t328 l0_2 (l0_2.length : Int) 0 a0_0 a0_1 l0_2 a0_3)) else (none))) else (some (([] : List Int), 1)))
theorem cap_Encode.mono_l : ∀ k, (∀ y0 y1 y2 y3 y4 y5 y6 y7, LeO (cap_Encode.l0 k y0 y1 y2 y3 y4 y5 y6 y7) (cap_Encode.l0 (k + 1) y0 y1 y2 y3 y4 y5 y6 y7))
  | 0 => fun _ _ _ _ _ _ _ _ r h => by simp [cap_Encode.l0] at h
  | k + 1 => by
    have ih0 := cap_Encode.mono_l k
    · intro y0 y1 y2 y3 y4 y5 y6 y7
      unfold cap_Encode.l0
      repeat' first
      | (with_reducible exact ih0 _ _ _ _ _ _ _ _)
      | (with_reducible exact cap_May.mono _ _ _ _ _)
      | (with_reducible exact cap_bytes.mono _ _ _ _)
      | (with_reducible exact cap_first.mono _ _ _)
      | (with_reducible exact num_Put.mono _ _ _)
      | (with_reducible exact num_PutText.mono _ _ _)
      | (with_reducible exact LeO.refl _)
      | (with_reducible exact LeO.none _)
      | (with_reducible refine LeO.ite ?_ ?_)
      | (with_reducible refine LeO.bind ?_ (fun _ => ?_))
      | exact ih0 _ _ _ _ _ _ _ _
      | exact cap_May.mono _ _ _ _ _
      | exact cap_bytes.mono _ _ _ _
      | exact cap_first.mono _ _ _
      | exact num_Put.mono _ _ _
      | exact num_PutText.mono _ _ _
      | exact LeO.none _
      | refine LeO.ite ?_ ?_
      | refine LeO.bind ?_ (fun _ => ?_)
theorem cap_Encode.mono : ∀ a0 a1 a2 a3 k, LeO (cap_Encode.f k a0 a1 a2 a3) (cap_Encode.f (k + 1) a0 a1 a2 a3) := by
  intro a0 a1 a2 a3 k
  have ih0 := cap_Encode.mono_l k
  unfold cap_Encode.f
  repeat' first
      | (with_reducible exact ih0 _ _ _ _ _ _ _ _)
      | (with_reducible exact cap_May.mono _ _ _ _ _)
      | (with_reducible exact cap_bytes.mono _ _ _ _)
      | (with_reducible exact cap_first.mono _ _ _)
      | (with_reducible exact num_Put.mono _ _ _)
      | (with_reducible exact num_PutText.mono _ _ _)
      | (with_reducible exact LeO.refl _)
      | (with_reducible exact LeO.none _)
      | (with_reducible refine LeO.ite ?_ ?_)
      | (with_reducible refine LeO.bind ?_ (fun _ => ?_))
      | exact ih0 _ _ _ _ _ _ _ _
      | exact cap_May.mono _ _ _ _ _
      | exact cap_bytes.mono _ _ _ _
      | exact cap_first.mono _ _ _
      | exact num_Put.mono _ _ _
      | exact num_PutText.mono _ _ _
      | exact LeO.none _
      | refine LeO.ite ?_ ?_
      | refine LeO.bind ?_ (fun _ => ?_)
def cap_Encode.T3 : Bool × List (List Nat × List Nat) := (true, [([], []), ([0], [0]), ([], []), ([2], [2]), ([1, 3], [1, 3]), ([4], [4]), ([], []), ([6], [6]), ([7], [7]), ([8], [8]), ([5, 9, 4], [5, 9]), ([10, 10, 0, 1, 2, 3, 4, 5, 6, 7, 8, 9, 10], [10])])
def cap_Encode.B3 : List Nat := [0, 1, 0, 4, 15, 31, 0, 64, 192, 448, 1023, 2047]
theorem cap_Encode.tab3 : rtab .any (opsOf Tryd.f48 3) = cap_Encode.T3 := by kernel_rfl
theorem cap_Encode.bits3 : waitsOk cap_Encode.T3.2 cap_Encode.B3 = true := by kernel_rfl
set_option maxHeartbeats 8000000 in
set_option maxRecDepth 100000 in
theorem cap_Encode.calls (k : Nat) (a0_0 : Int) (a0_1 : Int) (A0_2 : Option Addr) (c0_2 : Nat) (l0_2 : List (S91)) (a0_3 : ByteArray) (r1 : List Int) (r2 : Int) (w : World) (hr0_2 : Kd.C k91 w A0_2 l0_2.length l0_2) (hc0_2 : l0_2.length ≤ c0_2) (h : cap_Encode.f k a0_0 a0_1 l0_2 a0_3 = some (r1, r2)) :
    Calls Tryd.prog 48 #[.agg #[.int .i64 a0_0, .int .i64 a0_1, .slice A0_2 l0_2.length c0_2, .string a0_3]] w fun e w' => ∃ v0_ : Value, e = .returned (.tuple #[v0_, .int .i64 r2]) ∧ Kd.R (Kd.int .u8) 5 w' w.heap.size (fun _ => True) v0_ r1 ∧ Below w.heap.size w w' := by
  have hu45 := Tryd.underlying45
  have hu91 := Tryd.underlying91
  have HR0_2 := Aside0.mk hr0_2
  have HC0_2 := Aside0.mk hc0_2
  clear hr0_2 hc0_2
  have HB := Aside0.mk (Below.refl w.heap.size w)
  have H : ((cap_May.f k a0_0 a0_1 l0_2 a0_3).bind fun t323 => (if t323 = true then ((cap_first.f k a0_0 a0_1).bind fun t324 => (if t324.size ≤ 9223372036854775807 then ((num_Put.f k ((t324.data.toList.map fun b_ => (b_.toNat : Int))) (IntKind.u64.wrap ((l0_2.length : Int)))).bind fun t328 => (cap_Encode.l0 k t328 l0_2 (l0_2.length : Int) 0 a0_0 a0_1 l0_2 a0_3)) else (none))) else (some (([] : List Int), 1)))) = some (r1, r2) := h
  clear h
  replace H := Option.bind_eq_some_iff.mp H
  obtain ⟨t323, A20, H⟩ := H
  replace H : (if t323 = true then ((cap_first.f k a0_0 a0_1).bind fun t324 => (if t324.size ≤ 9223372036854775807 then ((num_Put.f k ((t324.data.toList.map fun b_ => (b_.toNat : Int))) (IntKind.u64.wrap ((l0_2.length : Int)))).bind fun t328 => (cap_Encode.l0 k t328 l0_2 (l0_2.length : Int) 0 a0_0 a0_1 l0_2 a0_3)) else (none))) else (some (([] : List Int), 1))) = some (r1, r2) := H
  have A2 := Aside0.mk A20
  clear A20
  by_cases c3 : t323 = true
  case neg =>
   replace c3 := Bool.eq_false_iff.mpr c3
   subst c3
   have H1 : (some (([] : List Int), 1)) = some (r1, r2) := by rw [if_neg (show ¬ (false = true) by decide)] at H; exact H
   clear H
   have H := H1
   clear H1
   simp only [Option.some.injEq, Prod.mk.injEq] at H
   obtain ⟨rfl, rfl⟩ := H
   go_enter Tryd.func48, Tryd.ntmps48
   go_wp2_with (first | ((with_reducible refine gate_dst (N := 1) rfl ?_); refine box_event ?hg (N := 1) ?hd (cs := #[.int .i64 a0_0, .int .i64 a0_1, .slice A0_2 l0_2.length c0_2, .string a0_3]) (t := 45) ?hr ?_; (case hd => rfl); (case hg => rfl); (case hr => first | (go_simp; done) | (go_simp; rfl)); intro gb322 hg w32 hbox hb; have n0_ := Aside0.mk (below_step m13_ hb); have n1_ := Aside0.mk (hbox); have n2_ := Aside0.mk ((by rw [hg]; exact (below_size m13_) : w.heap.size ≤ gb322)); have n3_ := Aside0.mk ((by rw [hg]; exact (below_size m13_) : w.heap.size ≤ gb322)); clear HB; have HB := n0_; have BK322 := n1_; have GW322 := n2_; have GE322 := n3_; clear n0_ n1_ n2_ n3_; clear hb hbox hg; obtain ⟨hcz33_0, hcz33_1, hcz33_2, hcz33_3⟩ := bc4_ BK322.out; obtain ⟨hfz33_0, hfz33_1, hfz33_2, hfz33_3⟩ := bf4_ BK322.out) | ((with_reducible refine gate_callee (f := 53) rfl ?_); refine goesL_ (some 8) rfl rfl Tryd.func53 (by kernel_rfl) rfl #[.agg #[.int .i64 a0_0, .int .i64 a0_1, .slice A0_2 l0_2.length c0_2, .string a0_3]] rfl m12_ ?_; (with_reducible refine (cap_May.calls k a0_0 a0_1 _ _ l0_2 a0_3 false _ ?side1 ?side2 A2.out).mono ?_); (case side1 => repeat (first | exact (Kd.C_below HR0_2.out HB.out) | (with_reducible refine Kd.C_alloc ?_ _) | (with_reducible refine Kd.C_drewN ?_ _) | (with_reducible refine Kd.C_drew ?_))); (case side2 => exact HC0_2.out); rintro e w34 ⟨rfl, hb⟩; refine ⟨_, rfl, ?_⟩; replace BK322 := Aside0.mk (blk_below (g := gb322) (o := .cells #[.int .i64 a0_0, .int .i64 a0_1, .slice A0_2 l0_2.length c0_2, .string a0_3] 45 (0, 0)) m17_ hb); replace HB := Aside0.mk (below_step m6_ hb); (try clear hb); (try clear hb2); (try clear hk); (try clear hi)))
   go_ret2
   exact ⟨_, by first | rfl | (simp [errW_none, errW_some] <;> rfl) | (simp [*, errW_none, errW_some] <;> rfl), by first | exact Kd.R_nil _ _ _ _ _ | exact Kd.N_nil _ _ _ _ _ | exact Kd.V_nil _ _ _ _ _ | exact Kd.Q_nil _ _ _ _ _ | exact Kd.S_nil _ _ _ _ _, m47_⟩
  subst c3
  have H1 : ((cap_first.f k a0_0 a0_1).bind fun t324 => (if t324.size ≤ 9223372036854775807 then ((num_Put.f k ((t324.data.toList.map fun b_ => (b_.toNat : Int))) (IntKind.u64.wrap ((l0_2.length : Int)))).bind fun t328 => (cap_Encode.l0 k t328 l0_2 (l0_2.length : Int) 0 a0_0 a0_1 l0_2 a0_3)) else (none))) = some (r1, r2) := by rw [if_pos rfl] at H; exact H
  clear H
  have H := H1
  clear H1
  replace H := Option.bind_eq_some_iff.mp H
  obtain ⟨t324, A40, H⟩ := H
  replace H : (if t324.size ≤ 9223372036854775807 then ((num_Put.f k ((t324.data.toList.map fun b_ => (b_.toNat : Int))) (IntKind.u64.wrap ((l0_2.length : Int)))).bind fun t328 => (cap_Encode.l0 k t328 l0_2 (l0_2.length : Int) 0 a0_0 a0_1 l0_2 a0_3)) else (none)) = some (r1, r2) := H
  have A4 := Aside0.mk A40
  clear A40
  by_cases c5 : t324.size ≤ 9223372036854775807
  case neg =>
   rw [if_neg c5] at H
   exact absurd H (by simp)
  rw [if_pos c5] at H
  have c5b0 := eq_true c5
  have c5b1 : decide (t324.size ≤ 9223372036854775807) = true := decide_eq_true c5
  try have c5b2 : (9223372036854775807 < t324.size) = False := eq_false (Nat.not_lt.2 c5)
  clear c5
  obtain ⟨y325, hy325⟩ : ∃ y_ : List Int, y_ = ((t324.data.toList.map fun b_ => (b_.toNat : Int))) := ⟨_, rfl⟩
  replace H : ((num_Put.f k y325 (IntKind.u64.wrap ((l0_2.length : Int)))).bind fun t328 => (cap_Encode.l0 k t328 l0_2 (l0_2.length : Int) 0 a0_0 a0_1 l0_2 a0_3)) = some (r1, r2) := by first | (rw [hy325]; with_reducible exact H) | (have H2_ := (Option.bind_some _ _).symm.trans H; rw [hy325]; with_reducible exact H2_) | (have H2_ := (Option.bind_some _ _).symm.trans H; with_reducible exact H2_) | with_reducible exact H | (rw [hy325]; exact H) | exact H
  have Ny325 := Aside0.mk hy325
  clear hy325
  replace H := Option.bind_eq_some_iff.mp H
  obtain ⟨t328, A60, H⟩ := H
  replace H : (cap_Encode.l0 k t328 l0_2 (l0_2.length : Int) 0 a0_0 a0_1 l0_2 a0_3) = some (r1, r2) := H
  have A6 := Aside0.mk A60
  clear A60
  have H' := Aside0.mk H
  clear H
  go_enter Tryd.func48, Tryd.ntmps48
  try go_wp2_with (first | ((with_reducible refine gate_dst (N := 1) rfl ?_); refine box_event ?hg (N := 1) ?hd (cs := #[.int .i64 a0_0, .int .i64 a0_1, .slice A0_2 l0_2.length c0_2, .string a0_3]) (t := 45) ?hr ?_; (case hd => rfl); (case hg => rfl); (case hr => first | (go_simp; done) | (go_simp; rfl)); intro gb322 hg w7 hbox hb; have n0_ := Aside0.mk (below_step m13_ hb); have n1_ := Aside0.mk (hbox); have n2_ := Aside0.mk ((by rw [hg]; exact (below_size m13_) : w.heap.size ≤ gb322)); have n3_ := Aside0.mk ((by rw [hg]; exact (below_size m13_) : w.heap.size ≤ gb322)); clear HB; have HB := n0_; have BK322 := n1_; have GW322 := n2_; have GE322 := n3_; clear n0_ n1_ n2_ n3_; clear hb hbox hg; obtain ⟨hcz8_0, hcz8_1, hcz8_2, hcz8_3⟩ := bc4_ BK322.out; obtain ⟨hfz8_0, hfz8_1, hfz8_2, hfz8_3⟩ := bf4_ BK322.out) | ((with_reducible refine gate_callee (f := 53) rfl ?_); refine goesL_ (some 8) rfl rfl Tryd.func53 (by kernel_rfl) rfl #[.agg #[.int .i64 a0_0, .int .i64 a0_1, .slice A0_2 l0_2.length c0_2, .string a0_3]] rfl m12_ ?_; (with_reducible refine (cap_May.calls k a0_0 a0_1 _ _ l0_2 a0_3 true _ ?side1 ?side2 A2.out).mono ?_); (case side1 => repeat (first | exact (Kd.C_below HR0_2.out HB.out) | (with_reducible refine Kd.C_alloc ?_ _) | (with_reducible refine Kd.C_drewN ?_ _) | (with_reducible refine Kd.C_drew ?_))); (case side2 => exact HC0_2.out); rintro e w9 ⟨rfl, hb⟩; refine ⟨_, rfl, ?_⟩; replace BK322 := Aside0.mk (blk_below (g := gb322) (o := .cells #[.int .i64 a0_0, .int .i64 a0_1, .slice A0_2 l0_2.length c0_2, .string a0_3] 45 (0, 0)) m17_ hb); replace HB := Aside0.mk (below_step m6_ hb); (try clear hb); (try clear hb2); (try clear hk); (try clear hi)))
  replace BK322 := Aside0.mk (blk_drew BK322.out)
  replace HB := Aside0.mk (below_drew1 HB.out)
  refine start_ (n := 12) (S := fun w' => w'.cell? ⟨gb322, 0, none⟩ = some (.int .i64 a0_0) ∧ w'.cell? ⟨gb322, 1, none⟩ = some (.int .i64 a0_1) ∧ w'.cell? ⟨gb322, 2, none⟩ = some (.slice A0_2 l0_2.length c0_2) ∧ w'.cell? ⟨gb322, 3, none⟩ = some (.string a0_3)) (ds := []) (Ra_ [0, 12]) (by kernel_rfl) rfl rfl ⟨(blk_cell BK322.out 0).trans rfl, (blk_cell BK322.out 1).trans rfl, (blk_cell BK322.out 2).trans rfl, (blk_cell BK322.out 3).trans rfl⟩ (fun hHeld => ?_); refine with_tabW cap_Encode.tab3 cap_Encode.bits3 (fun HT_ HW_ => ?_)
  generalize w9.drew = w10 at BK322 HB hHeld ⊢
  refine pI_ 0 (some 10) (Ra_ [1, 11]) (h := ?_)
  refine pI_ 2 (some 12) (Ra_ [1, 1, 1, 9]) (h := ?_)
  refine pI_ 6 (some 16) (Ra_ [1, 1, 1, 3, 1, 5]) (h := ?_)
  refine tI4_ 1 (some 11) (Ra_ [3, 3, 1, 5]) (h := ?_)
  refine tI4_ 3 (some 13) (Ra_ [4, 2, 1, 5]) (h := ?_)
  refine tI4_ 7 (some 17) (Ra_ [4, 2, 2, 4]) (h := ?_)
  refine pI_ 8 (some 18) (Ra_ [4, 2, 3, 3]) (h := ?_)
  refine pI_ 9 (some 19) (Ra_ [4, 2, 4, 2]) (h := ?_)
  refine one_ (i := 4) (N := some 14) (Ra_ [5, 1, 4, 2]) rfl rfl (one_of HT_.out (by kernel_rfl)) (by decide) (fun K hK => ?_)
  refine goes_ Tryd.func75 (by kernel_rfl) rfl #[.int .i64 a0_0, .int .i64 a0_1] (by rfl) rfl rfl m12_ ?_
  with_reducible refine (cap_first.calls k a0_0 a0_1 t324 _ A4.out).mono ?_
  rintro e w11 ⟨rfl, hb⟩
  refine ⟨_, rfl, ?_⟩
  replace BK322 := Aside0.mk (blk_below (g := gb322) (o := .cells #[.int .i64 a0_0, .int .i64 a0_1, .slice A0_2 l0_2.length c0_2, .string a0_3] 45 (0, 0)) m17_ hb)
  replace HB := Aside0.mk (below_step m6_ hb)
  (try clear hb)
  (try clear hb2)
  (try clear hk)
  (try clear hi)
  refine hK.out _ _ ⟨(blk_cell BK322.out 0).trans rfl, (blk_cell BK322.out 1).trans rfl, (blk_cell BK322.out 2).trans rfl, (blk_cell BK322.out 3).trans rfl⟩ (fun hHeld => ?_)
  clear hK K
  refine norm_ (a' := ?_) ?_ ?_
  rotate_left
  ·show Act.put _ (some 14) _ = _
   simp only [Act.put, sA_, sB_, sC_, i64_w, i32_w]
   rfl
  refine one_ (i := 5) (N := some 15) (Ra_ [10, 2]) rfl rfl (one_of HT_.out (by kernel_rfl)) (by decide) (fun K hK => ?_)
  refine Go.Proofs.YtoankokkdmbjmaaDoor.V_conv_step _ 5 (by rfl) (N := 15) rfl 9 36 _ rfl t324 rfl Tryd.underlying9 Tryd.underlying36 Tryd.underlying5 (ok := fun k_ => w11.heap.size ≤ k_) (Nat.le_refl _) (Below.refl _ _) (Nat.le_refl _) (of_decide_eq_true m27_) ?_
  intro v326 w12 ho13 hb hg_ hnew_
  clear hg_ hnew_
  (first | rw [← Ny325.out] at ho13 | (simp only [Int.reduceToNat] at ho13; rw [← Ny325.out] at ho13))
  have HO327 := Aside0.mk (Kd.V_lower (Kd.V_mono (ok' := fun k_ => k_ ≠ gb322) ho13 (fun k_ hk_ => (Kd.freshB (g := gb322) (o := .cells #[.int .i64 a0_0, .int .i64 a0_1, .slice A0_2 l0_2.length c0_2, .string a0_3] 45 (0, 0)) m17_ k_ hk_))) (below_size m6_))
  replace BK322 := Aside0.mk (blk_below (g := gb322) (o := .cells #[.int .i64 a0_0, .int .i64 a0_1, .slice A0_2 l0_2.length c0_2, .string a0_3] 45 (0, 0)) m17_ hb)
  replace HB := Aside0.mk (below_step m6_ hb)
  clear hb ho13
  obtain ⟨Ao14, co14, eo14⟩ := Kd.V_slice HO327.out
  (first | subst eo14 | (injection eo14 with f1_ f2_ f3_; have f4_ := f1_.symm; have f5_ := f3_.symm; clear f1_ f2_ f3_; subst f4_; subst f5_))
  refine hK.out _ _ ⟨(blk_cell BK322.out 0).trans rfl, (blk_cell BK322.out 1).trans rfl, (blk_cell BK322.out 2).trans rfl, (blk_cell BK322.out 3).trans rfl⟩ (fun hHeld => ?_)
  clear hK K
  refine norm_ (a' := ?_) ?_ ?_
  rotate_left
  ·show Act.put _ (some 15) _ = _
   simp only [Act.put, sA_, sB_, sC_, i64_w, i32_w]
   rfl
  refine one_ (i := 10) (N := some 20) (Ra_ [11, 1]) rfl rfl (one_of HT_.out (by kernel_rfl)) (by decide) (fun K hK => ?_)
  refine goes_ Tryd.func33 (by kernel_rfl) rfl #[.slice Ao14 y325.length co14, .int .u64 (IntKind.u64.wrap ((l0_2.length : Int)))] (by rfl) rfl rfl m12_ ?_
  with_reducible refine (num_Put.calls k _ _ y325 (IntKind.u64.wrap ((l0_2.length : Int))) t328 _ ?side1 ?side2 A6.out).mono ?_
  (case side1 => repeat (first | exact (Kd.V_reads' HO327.out).2.2 | (with_reducible refine Kd.C_alloc ?_ _) | (with_reducible refine Kd.C_drewN ?_ _) | (with_reducible refine Kd.C_drew ?_)))
  (case side2 => exact (Kd.V_reads' HO327.out).2.1)
  rintro e w15 ⟨v329, rfl, ho0, hb⟩
  refine ⟨_, rfl, ?_⟩
  have n0_ := Aside0.mk (Kd.V_elder' (by (with_reducible repeat (first | apply Kd.V_alloc | apply Kd.V_drewN | apply Kd.V_drew)); exact HO327.out) (Kd.R_base ho0) hb)
  have n1_ := Aside0.mk (Kd.R_lower ho0 (below_size m6_))
  have n2_ := Aside0.mk (blk_below (g := gb322) (o := .cells #[.int .i64 a0_0, .int .i64 a0_1, .slice A0_2 l0_2.length c0_2, .string a0_3] 45 (0, 0)) m17_ hb)
  have n3_ := Aside0.mk (below_step m6_ hb)
  clear HO327 BK322 HB
  have HO327 := n0_
  have HO330 := n1_
  have BK322 := n2_
  have HB := n3_
  clear n0_ n1_ n2_ n3_
  (try clear hb)
  (try clear hb2)
  (try clear hk)
  (try clear hi)
  (try clear ho0)
  refine hK.out _ _ ⟨(blk_cell BK322.out 0).trans rfl, (blk_cell BK322.out 1).trans rfl, (blk_cell BK322.out 2).trans rfl, (blk_cell BK322.out 3).trans rfl⟩ (fun hHeld => ?_)
  clear hK K
  refine norm_ (a' := ?_) ?_ ?_
  rotate_left
  ·show Act.put _ (some 20) _ = _
   simp only [Act.put, sA_, sB_, sC_, i64_w, i32_w]
   rfl
  refine pI_ 11 (some 4) (Ra_ [12]) (h := ?_)
  refine done_ (done_of HT_.out (by kernel_rfl)) ?_
  obtain ⟨hcz16_0, hcz16_1, hcz16_2, hcz16_3⟩ := bc4_ BK322.out
  obtain ⟨hfz16_0, hfz16_1, hfz16_2, hfz16_3⟩ := bf4_ BK322.out
  try go_wp2
  go_loopg [4, 24] k (fun kq v4 v24 w' => ∃ (x4_1 : List Int) (x24_1 : Int), v24 = .int .i64 x24_1 ∧ Aside0 (cap_Encode.l0 kq x4_1 l0_2 (l0_2.length : Int) x24_1 a0_0 a0_1 l0_2 a0_3 = some (r1, r2)) ∧ Aside0 (kq ≤ k) ∧ Aside0 (Kd.R (Kd.int .u8) 5 w' w.heap.size (fun _ => True) v4 x4_1) ∧ Aside0 (w'.heap[gb322]? = some (.cells #[.int .i64 a0_0, .int .i64 a0_1, (.slice A0_2 l0_2.length c0_2), .string a0_3] 45 (0, 0))) ∧ Aside0 (Below w.heap.size w w'))
  case atStart => exact ⟨(t328), (0), m28_, H', ⟨Nat.le_refl _⟩, ⟨by (with_reducible repeat (first | apply Kd.R_alloc | apply Kd.R_drewN | apply Kd.R_drew)); exact HO330.out⟩, ⟨by (with_reducible repeat (first | refine blk_drewN ?_ _ | refine blk_drew ?_ | refine blk_alloc ?_ _)); exact BK322.out⟩, ⟨m47_⟩⟩
  clear H'
  try clear p2; try clear c3; try clear c4; try clear c5; try clear c5b0; try clear c5b1; try clear c5b2; try clear c7; try clear hcz16_0; try clear hcz16_1; try clear hcz16_2; try clear hcz16_3; try clear hcz8_0; try clear hcz8_1; try clear hcz8_2; try clear hcz8_3; try clear hfz16_0; try clear hfz16_1; try clear hfz16_2; try clear hfz16_3; try clear hfz8_0; try clear hfz8_1; try clear hfz8_2; try clear hfz8_3
  obtain ⟨x4_1, x24_1, rfl, HA, HK1, HO_4, BK322, HB⟩ := hrel
  cases gk with
  | zero => exact absurd HA.out (by simp [cap_Encode.l0])
  | succ k1 =>
   have H := HA.out
   clear HA
   simp only [cap_Encode.l0] at H
   by_cases c17 : x24_1 < (l0_2.length : Int)
   case neg =>
    rw [if_neg c17] at H
    have c17b0 : decide (x24_1 < (l0_2.length : Int)) = false := decide_eq_false c17
    clear c17
    replace H := Option.bind_eq_some_iff.mp H
    obtain ⟨t339, A280, H⟩ := H
    replace H : (some (t339, 0)) = some (r1, r2) := H
    have A28 := Aside0.mk A280
    clear A280
    simp only [Option.some.injEq, Prod.mk.injEq] at H
    obtain ⟨rfl, rfl⟩ := H
    obtain ⟨hcz29_0, hcz29_1, hcz29_2, hcz29_3⟩ := bc4_ BK322.out
    obtain ⟨hfz29_0, hfz29_1, hfz29_2, hfz29_3⟩ := bf4_ BK322.out
    obtain ⟨Ao30, co30, eo30⟩ := Kd.R_slice HO_4.out
    subst eo30
    go_wp2_with (first | ((with_reducible refine gate_callee (f := 31) rfl ?_); refine goesL_ (some 36) rfl rfl Tryd.func31 (by kernel_rfl) rfl #[.slice Ao30 x4_1.length co30, .string a0_3] rfl m12_ ?_; (with_reducible refine (num_PutText.calls k1 _ _ x4_1 a0_3 t339 _ ?side1 ?side2 A28.out).mono ?_); (case side1 => repeat (first | exact (Kd.R_reads' HO_4.out).2.2 | (with_reducible refine Kd.C_alloc ?_ _) | (with_reducible refine Kd.C_drewN ?_ _) | (with_reducible refine Kd.C_drew ?_))); (case side2 => exact (Kd.R_reads' HO_4.out).2.1); rintro e w31 ⟨v340, rfl, ho0, hb⟩; refine ⟨_, rfl, ?_⟩; have n0_ := Aside0.mk (Kd.R_elder' (by (with_reducible repeat (first | apply Kd.R_alloc | apply Kd.R_drewN | apply Kd.R_drew)); exact HO_4.out) (Kd.R_base ho0) hb); have n1_ := Aside0.mk (Kd.R_lower (Kd.R_new' ho0 (Kd.R_lt (by (with_reducible repeat (first | apply Kd.R_alloc | apply Kd.R_drewN | apply Kd.R_drew)); exact HO_4.out))) (below_size m6_)); have n2_ := Aside0.mk (blk_below (g := gb322) (o := .cells #[.int .i64 a0_0, .int .i64 a0_1, .slice A0_2 l0_2.length c0_2, .string a0_3] 45 (0, 0)) m17_ hb); have n3_ := Aside0.mk (below_step m6_ hb); clear HO_4; clear BK322; clear HB; have HO_4 := n0_; have HO341 := n1_; have BK322 := n2_; have HB := n3_; clear n0_ n1_ n2_ n3_; (try clear hb); (try clear hb2); (try clear hk); (try clear hi); (try clear ho0)))
    go_ret2
    exact ⟨_, by first | rfl | (simp [errW_none, errW_some] <;> rfl) | (simp [*, errW_none, errW_some] <;> rfl), by (with_reducible repeat (first | apply Kd.R_alloc | apply Kd.R_drewN | apply Kd.R_drew)); exact Kd.R_mono HO341.out (fun _ hk => trivial), m47_⟩
   rw [if_pos c17] at H
   have c17b0 : decide (x24_1 < (l0_2.length : Int)) = true := decide_eq_true c17
   clear c17
   by_cases c18 : 0 ≤ x24_1
   case neg =>
    rw [if_neg c18] at H
    exact absurd H (by simp)
   rw [if_pos c18] at H
   have c18b0 : decide (0 ≤ x24_1) = true := decide_eq_true c18
   clear c18
   by_cases c19 : x24_1 < (l0_2.length : Int)
   case neg =>
    rw [if_neg c19] at H
    exact absurd H (by simp)
   rw [if_pos c19] at H
   have c19b0 : decide (x24_1 < (l0_2.length : Int)) = true := decide_eq_true c19
   clear c19
   replace H := Option.bind_eq_some_iff.mp H
   obtain ⟨t333, A200, H⟩ := H
   replace H : (if x4_1.length + t333.length < 140737488355328 then (cap_Encode.l0 k1 (x4_1 ++ t333) l0_2 (l0_2.length : Int) (wrap64 (x24_1 + 1)) a0_0 a0_1 l0_2 a0_3) else (none)) = some (r1, r2) := H
   have A20 := Aside0.mk A200
   clear A200
   by_cases c21 : x4_1.length + t333.length < 140737488355328
   case neg =>
    rw [if_neg c21] at H
    exact absurd H (by simp)
   rw [if_pos c21] at H
   have LMc21 := Aside0.mk c21
   clear c21
   obtain ⟨y336, hy336⟩ : ∃ y_ : List Int, y_ = (x4_1 ++ t333) := ⟨_, rfl⟩
   replace H : (cap_Encode.l0 k1 y336 l0_2 (l0_2.length : Int) (wrap64 (x24_1 + 1)) a0_0 a0_1 l0_2 a0_3) = some (r1, r2) := by first | (rw [hy336]; with_reducible exact H) | (have H2_ := (Option.bind_some _ _).symm.trans H; rw [hy336]; with_reducible exact H2_) | (have H2_ := (Option.bind_some _ _).symm.trans H; with_reducible exact H2_) | with_reducible exact H | (rw [hy336]; exact H) | exact H
   have Ny336 := Aside0.mk hy336
   clear hy336
   have H' := Aside0.mk H
   clear H
   have p331 : 0 ≤ (x24_1 : Int) := of_decide_eq_true m27_
   have q331 : x24_1 < (l0_2.length : Int) := of_decide_eq_true m27_
   obtain ⟨ad331, e331, hx331_0, hx331_1, hx331_2⟩ := at_T91 HR0_2.out x24_1 p331 q331
   cases e331
   replace hx331_0 := (HB.out.cell (World.block_lt_of_cell? w _ hx331_0)).trans hx331_0
   replace hx331_1 := (HB.out.cell (World.block_lt_of_cell? w _ hx331_1)).trans hx331_1
   replace hx331_2 := (HB.out.cell (World.block_lt_of_cell? w _ hx331_2)).trans hx331_2
   replace p331 := eq_true p331
   replace q331 := eq_true q331
   go_wp2_with (first | ((with_reducible refine gate_dst (N := 6) rfl ?_); refine box_event ?hg (N := 6) ?hd (cs := #[.string (⟨#[]⟩ : ByteArray), .int .i64 0, .int .i64 0]) (t := 91) ?hr ?_; (case hd => rfl); (case hg => rfl); (case hr => first | (go_simp; done) | (go_simp; rfl)); intro gb332 hg w22 hbox hb; have n0_ := Aside0.mk (Kd.R_below (by (with_reducible repeat (first | apply Kd.R_alloc | apply Kd.R_drewN | apply Kd.R_drew)); exact HO_4.out) hb); have n1_ := Aside0.mk (blk_below (g := gb322) (o := .cells #[.int .i64 a0_0, .int .i64 a0_1, .slice (some ad331) l0_2.length c0_2, .string a0_3] 45 (0, 0)) m17_ hb); have n2_ := Aside0.mk (below_step m6_ hb); have n3_ := Aside0.mk (hbox); have n4_ := Aside0.mk ((by rw [hg]; exact (below_size m6_) : w.heap.size ≤ gb332)); have n5_ := Aside0.mk ((by rw [hg]; exact (below_size m6_) : w.heap.size ≤ gb332)); have n6_ := Aside0.mk ((by rw [hg]; exact Nat.ne_of_lt (blk_lt (g := gb322) (o := .cells #[.int .i64 a0_0, .int .i64 a0_1, .slice (some ad331) l0_2.length c0_2, .string a0_3] 45 (0, 0)) m17_) : gb322 ≠ gb332)); have n7_ := Aside0.mk ((by rw [hg]; exact Nat.ne_of_gt (blk_lt (g := gb322) (o := .cells #[.int .i64 a0_0, .int .i64 a0_1, .slice (some ad331) l0_2.length c0_2, .string a0_3] 45 (0, 0)) m17_) : gb332 ≠ gb322)); clear HO_4; clear BK322; clear HB; have HO_4 := n0_; have BK322 := n1_; have HB := n2_; have BK332 := n3_; have GW332 := n4_; have GE332 := n5_; have NB322_332 := n6_; have NB332_322 := n7_; clear n0_ n1_ n2_ n3_ n4_ n5_ n6_ n7_; clear hb hbox hg; have hnb23 := NB332_322.out; have hnc23 := NB322_332.out; obtain ⟨hcz24_0, hcz24_1, hcz24_2⟩ := bc3_ BK332.out; obtain ⟨hfz24_0, hfz24_1, hfz24_2⟩ := bf3_ BK332.out) | ((with_reducible refine gate_callee (f := 76) rfl ?_); refine goesL_ (some 30) rfl rfl Tryd.func76 (by kernel_rfl) rfl #[.agg #[.string ((rd_T91 l0_2 x24_1).f0), .int .i64 ((rd_T91 l0_2 x24_1).f1), .int .i64 ((rd_T91 l0_2 x24_1).f2)]] rfl m12_ ?_; (with_reducible refine (cap_bytes.calls k1 ((rd_T91 l0_2 x24_1).f0) ((rd_T91 l0_2 x24_1).f1) ((rd_T91 l0_2 x24_1).f2) t333 _ A20.out).mono ?_); rintro e w25 ⟨v334, rfl, ho0, hb⟩; refine ⟨_, rfl, ?_⟩; have n0_ := Aside0.mk (Kd.R_elder' (by (with_reducible repeat (first | apply Kd.R_alloc | apply Kd.R_drewN | apply Kd.R_drew)); exact (Kd.R_mono (Kd.R_far (p := ⟨gb332, 2, none⟩) (Kd.R_far (p := ⟨gb332, 1, none⟩) (Kd.R_far (p := ⟨gb332, 0, none⟩) (Kd.R_types HO_4.out BK332.out (by decide)) (fun _ hk => hk.2) (.string ((rd_T91 l0_2 x24_1).f0))) (fun _ hk => hk.2) (.int .i64 ((rd_T91 l0_2 x24_1).f1))) (fun _ hk => hk.2) (.int .i64 ((rd_T91 l0_2 x24_1).f2))) (fun _ h_ => h_.1))) (Kd.R_base ho0) hb); have n1_ := Aside0.mk (Kd.R_lower (Kd.R_new' ho0 (Kd.R_lt (by (with_reducible repeat (first | apply Kd.R_alloc | apply Kd.R_drewN | apply Kd.R_drew)); exact (Kd.R_mono (Kd.R_far (p := ⟨gb332, 2, none⟩) (Kd.R_far (p := ⟨gb332, 1, none⟩) (Kd.R_far (p := ⟨gb332, 0, none⟩) (Kd.R_types HO_4.out BK332.out (by decide)) (fun _ hk => hk.2) (.string ((rd_T91 l0_2 x24_1).f0))) (fun _ hk => hk.2) (.int .i64 ((rd_T91 l0_2 x24_1).f1))) (fun _ hk => hk.2) (.int .i64 ((rd_T91 l0_2 x24_1).f2))) (fun _ h_ => h_.1))))) (below_size m3_)); have n2_ := Aside0.mk (blk_below (g := gb322) (o := .cells #[.int .i64 a0_0, .int .i64 a0_1, .slice (some ad331) l0_2.length c0_2, .string a0_3] 45 (0, 0)) (by (with_reducible repeat (first | refine blk_drewN ?_ _ | refine blk_drew ?_ | refine blk_alloc ?_ _)); refine blk_far ?_ NB322_332.out _; (with_reducible repeat (first | refine blk_drewN ?_ _ | refine blk_drew ?_ | refine blk_alloc ?_ _)); refine blk_far ?_ NB322_332.out _; (with_reducible repeat (first | refine blk_drewN ?_ _ | refine blk_drew ?_ | refine blk_alloc ?_ _)); refine blk_far ?_ NB322_332.out _; (with_reducible repeat (first | refine blk_drewN ?_ _ | refine blk_drew ?_ | refine blk_alloc ?_ _)); exact BK322.out) hb); have n3_ := Aside0.mk (blk_below (g := gb332) (o := .cells #[.string ((rd_T91 l0_2 x24_1).f0), .int .i64 ((rd_T91 l0_2 x24_1).f1), .int .i64 ((rd_T91 l0_2 x24_1).f2)] 91 (0, 0)) (by (with_reducible repeat (first | refine blk_drewN ?_ _ | refine blk_drew ?_ | refine blk_alloc ?_ _)); refine blk_put (cs := #[.string ((rd_T91 l0_2 x24_1).f0), .int .i64 ((rd_T91 l0_2 x24_1).f1), .int .i64 0]) ?_ 2 _ rfl; (with_reducible repeat (first | refine blk_drewN ?_ _ | refine blk_drew ?_ | refine blk_alloc ?_ _)); refine blk_put (cs := #[.string ((rd_T91 l0_2 x24_1).f0), .int .i64 0, .int .i64 0]) ?_ 1 _ rfl; (with_reducible repeat (first | refine blk_drewN ?_ _ | refine blk_drew ?_ | refine blk_alloc ?_ _)); refine blk_put (cs := #[.string (⟨#[]⟩ : ByteArray), .int .i64 0, .int .i64 0]) ?_ 0 _ rfl; (with_reducible repeat (first | refine blk_drewN ?_ _ | refine blk_drew ?_ | refine blk_alloc ?_ _)); exact BK332.out) hb); have n4_ := Aside0.mk (below_step m3_ hb); clear HO_4; clear BK322; clear BK332; clear HB; have HO_4 := n0_; have HO335 := n1_; have BK322 := n2_; have BK332 := n3_; have HB := n4_; clear n0_ n1_ n2_ n3_ n4_; (try clear hb); (try clear hb2); (try clear hk); (try clear hi); (try clear ho0); obtain ⟨Ao27, co27, eo27⟩ := Kd.R_slice HO335.out; subst eo27) | ((with_reducible refine gate_builtin (b := .append) (xs := #[.tmp 28, .tmp 30]) rfl ?_); at_builtin; refine Kd.R_append_rows (Kd.int .u8) (w0 := w) w.heap.size rfl (.tmp 28) (.tmp 30) 36 5 (.int .u8 0) 1 rfl Tryd.underlying36 info5 rfl (by decide) (by omega) u4 x4_1 t333 _ _ _ (fun k_ => some k_ ≠ (.slice Ao27 t333.length co27 : Value).ownBlock) (fun _ => False) rfl rfl ?aO ?aR (fun _ _ h => h) (fun _ h => h.elim) ?aF ?aB ?aS ?aL ?_; (case aR => repeat (first | exact (Kd.R_reads' HO335.out).2.2 | (with_reducible refine Kd.C_alloc ?_ _) | (with_reducible refine Kd.C_drewN ?_ _) | (with_reducible refine Kd.C_drew ?_))); (case aB => exact m3_); (case aF => exact (fun k_ hk => Kd.fresh' (Kd.R_lt (by (with_reducible repeat (first | apply Kd.R_alloc | apply Kd.R_drewN | apply Kd.R_drew)); exact HO335.out)) k_ hk)); (case aO => exact (by (with_reducible repeat (first | apply Kd.R_alloc | apply Kd.R_drewN | apply Kd.R_drew)); exact Kd.R_mono HO_4.out (fun _ hk => hk.2))); (case aS => exact (below_size m3_)); (case aL => have := LMc21.out; omega); intro v337 w26 ho hb hg hat; rw [← Ny336.out] at ho; have n0_ := Aside0.mk (blk_grown (g := gb322) (o := .cells #[.int .i64 a0_0, .int .i64 a0_1, .slice (some ad331) l0_2.length c0_2, .string a0_3] 45 (0, 0)) m17_ hg (Kd.R_ne HO_4.out BK322.out (by decide))); have n1_ := Aside0.mk (blk_grown (g := gb332) (o := .cells #[.string ((rd_T91 l0_2 x24_1).f0), .int .i64 ((rd_T91 l0_2 x24_1).f1), .int .i64 ((rd_T91 l0_2 x24_1).f2)] 91 (0, 0)) (by (with_reducible repeat (first | refine blk_drewN ?_ _ | refine blk_drew ?_ | refine blk_alloc ?_ _)); exact BK332.out) hg (Kd.R_ne HO_4.out BK332.out (by decide))); have n2_ := Aside0.mk (Kd.R_after (ok := (fun _ => True)) (by (with_reducible repeat (first | apply Kd.R_alloc | apply Kd.R_drewN | apply Kd.R_drew)); exact HO335.out) hg hat); have n3_ := Aside0.mk (hb); have n4_ := Aside0.mk (ho); clear BK322; clear BK332; clear HO335; clear HB; clear HO_4; have BK322 := n0_; have BK332 := n1_; have HO335 := n2_; have HB := n3_; have HO338 := n4_; clear n0_ n1_ n2_ n3_ n4_; clear ho hb hg hat))
   go_roundg k1
   case measure => have := HK1.out; omega
   case rel => exact ⟨(y336), (wrap64 (x24_1 + 1)), m28_, H', ⟨by have := HK1.out; omega⟩, ⟨by (with_reducible repeat (first | apply Kd.R_alloc | apply Kd.R_drewN | apply Kd.R_drew)); exact Kd.R_mono HO338.out (fun _ hk => trivial)⟩, ⟨by (with_reducible repeat (first | refine blk_drewN ?_ _ | refine blk_drew ?_ | refine blk_alloc ?_ _)); exact BK322.out⟩, ⟨by repeat (first | (with_reducible first | exact HB.out | apply below_alloc | apply pw_below_drewN | apply below_drew1 | refine below_set ?_ GE322.out | refine below_set ?_ GE332.out) | exact HB.out)⟩⟩

/-! ### frame_Request: function 20 -/
theorem C_litI (W : World) (e : TypeId) (k : IntKind) (xs : List Int) (hm : xs.length ≤ 9223372036854775807) : Kd.C (Kd.int k) (W.alloc (.cells (nums k xs).toArray e)) (some ⟨W.heap.size, 0, none⟩) xs.length xs :=
  Kd.C_of_reads (d := (0 : Int)) (h1 := fun _ => rfl) (own_reads_of' (own_lit_of W W.heap.size e xs (Nat.le_refl _) hm))
theorem C_litG {W : World} {g : Nat} (hg : g = W.heap.size) (e : TypeId) (k : IntKind) (xs : List Int) (hm : xs.length ≤ 9223372036854775807) : Kd.C (Kd.int k) (W.alloc (.cells (nums k xs).toArray e)) (some ⟨g, 0, none⟩) xs.length xs := by
  subst hg; exact C_litI W e k xs hm
def rqPut.l0 : Nat → List Int → List Int → Int → Option (List Int)
  | 0, _, _, _ => none
  | k + 1, b, l, i => if i < (l.length : Int) then (num_Put.f k b (IntKind.u64.wrap (rd l i))).bind fun t => rqPut.l0 k t l (wrap64 (i + 1)) else some b
def rqPut.f (k : Nat) (l0 : List Int) (l1 : List Int) : Option (List Int) := if l1.length = 0 then none else rqPut.l0 k l0 l1 0
theorem rqPut.mono_l : ∀ k b l i, LeO (rqPut.l0 k b l i) (rqPut.l0 (k + 1) b l i)
  | 0, _, _, _ => LeO.none _
  | k + 1, b, l, i => by
    unfold rqPut.l0
    exact LeO.ite (LeO.bind (num_Put.mono _ _ _) (fun _ => rqPut.mono_l k _ _ _)) (LeO.refl _)
theorem rqPut.mono : ∀ a0 a1 k, LeO (rqPut.f k a0 a1) (rqPut.f (k + 1) a0 a1) := fun a0 a1 k => by
  unfold rqPut.f
  exact LeO.ite (LeO.none _) (rqPut.mono_l k _ _ _)
/-- what holds at a round's head -/
def ptI (w : World) (l1 r : List Int) (b i : Value) (wr : World) : Prop := ∃ (m k' : Nat) (A : Option Addr) (c : Nat) (xs : List Int), i = .int .i64 m ∧ m ≤ l1.length ∧ b = .slice A xs.length c ∧ xs.length ≤ c ∧ Kd.C (Kd.int .u8) wr A xs.length xs ∧ (0 < m → Kd.R (Kd.int .u8) 5 wr w.heap.size (fun _ => True) b xs) ∧ rqPut.l0 k' xs l1 m = some r ∧ Below w.heap.size w wr
set_option maxHeartbeats 4000000 in
theorem rqPut.calls (k : Nat) (A0 : Option Addr) (c0 : Nat) (l0 : List Int) (A1 : Option Addr) (c1 : Nat) (l1 : List Int) (r : List Int) (w : World) (hr0 : Kd.C (Kd.int .u8) w A0 l0.length l0) (hc0 : l0.length ≤ c0) (hr1 : Kd.C (Kd.int .i64) w A1 l1.length l1) (hc1 : l1.length ≤ c1) (h : rqPut.f k l0 l1 = some r) :
    Calls Tryd.prog 30 #[.slice A0 l0.length c0, .slice A1 l1.length c1] w fun e w' => ∃ v0_ : Value, e = .returned (v0_) ∧ Kd.R (Kd.int .u8) 5 w' w.heap.size (fun _ => True) v0_ r ∧ Below w.heap.size w w' := by
  unfold rqPut.f at h
  by_cases hl : l1.length = 0
  case pos => rw [if_pos hl] at h; cases h
  rw [if_neg hl] at h
  have HI := Aside0.mk (show ptI w l1 r (.slice A0 l0.length c0) (.int .i64 0) w from ⟨0, k, A0, c0, l0, rfl, by omega, rfl, hc0, hr0, fun h => absurd h (by omega), h, Below.refl _ _⟩)
  have HR1 := Aside0.mk hr1
  have hm1 := Kd.C_max hr1
  have hl' : 0 < l1.length := by omega
  clear hr0 hc0 hr1 hc1 h hl
  go_enter Tryd.func30, Tryd.ntmps30
  go_wp2
  go_loopw [0, 9] (fun b i wr => ptI w l1 r b i wr) (fun _ i _ => l1.length - (intOf i).toNat)
  case atStart => exact HI.out
  obtain ⟨m, k', A, c, xs, rfl, hm, rfl, hc, hC, hO, hk, hb⟩ := hrel
  have HO := Aside0.mk hO
  have HC := Aside0.mk hC
  have HB := Aside0.mk hb
  cases k' with
  | zero => cases hk
  | succ k' =>
  simp only [rqPut.l0] at hk
  by_cases hlt : m < l1.length
  case neg =>
   rw [if_neg (by omega)] at hk
   obtain rfl := Option.some.inj hk
   have hlt' : ¬ (m : Int) < l1.length := by omega
   clear hO hC hb hlt hk
   go_wp2
   go_ret
   exact ⟨_, rfl, HO.out (by omega), HB.out⟩
  rw [if_pos (by omega)] at hk
  obtain ⟨t, ht, hk⟩ := Option.bind_eq_some_iff.mp hk
  obtain ⟨ad, rfl, k0⟩ := Kd.at_int (Kd.C_below HR1.out HB.out) (m : Int) (by omega) (by omega)
  rw [Int.toNat_natCast] at k0
  have hlt' : (m : Int) < l1.length := by omega
  have HT := Aside0.mk ht
  have HK := Aside0.mk hk
  have HCC := Aside0.mk hc
  clear hO hC hb hlt hk ht hc
  go_wp2_with (go_at_call 33; (with_reducible refine (num_Put.calls k' A c xs _ t _ ?hr ?hc HT.out).mono ?_); (case hr => exact HC.out); (case hc => exact HCC.out); rintro e w' ⟨v, rfl, hr, hb⟩; have HR' := Aside0.mk hr; have HB' := Aside0.mk hb; clear hr hb)
  have hw : wrap64 ((m : Int) + 1) = ((m + 1 : Nat) : Int) := by unfold wrap64; omega
  obtain ⟨A', c', rfl⟩ := Kd.R_slice HR'.out
  go_roundw
  case rel => exact ⟨m + 1, k', A', c', t, by go_num, by omega, rfl, (Kd.R_reads' HR'.out).2.1, (Kd.R_reads' HR'.out).2.2, fun _ => Kd.R_lower HR'.out HB.out.size, by have := HK.out; rw [hw] at this; exact this, below_step HB.out HB'.out⟩
  case measure => simp [intOf]; omega
/-- the same, the lengths told apart -/
theorem rqPut.at (k : Nat) (A0 : Option Addr) (c0 n0 : Nat) (l0 : List Int) (A1 : Option Addr) (c1 n1 : Nat) (l1 : List Int) (r : List Int) (w : World) (h0 : l0.length = n0) (h1 : l1.length = n1) (hr0 : Kd.C (Kd.int .u8) w A0 l0.length l0) (hc0 : n0 ≤ c0) (hr1 : Kd.C (Kd.int .i64) w A1 l1.length l1) (hc1 : n1 ≤ c1) (h : rqPut.f k l0 l1 = some r) :
    Calls Tryd.prog 30 #[.slice A0 n0 c0, .slice A1 n1 c1] w fun e w' => ∃ (A : Option Addr) (c : Nat), e = .returned (.slice A r.length c) ∧ r.length ≤ c ∧ Kd.C (Kd.int .u8) w' A r.length r ∧ Kd.R (Kd.int .u8) 5 w' w.heap.size (fun _ => True) (.slice A r.length c) r ∧ Below w.heap.size w w' := by
  subst h0 h1
  refine (rqPut.calls k A0 c0 l0 A1 c1 l1 r w hr0 hc0 hr1 hc1 h).mono ?_
  rintro e w' ⟨v, rfl, hr, hb⟩
  obtain ⟨A, c, rfl⟩ := Kd.R_slice hr
  exact ⟨A, c, rfl, (Kd.R_reads' hr).2.1, (Kd.R_reads' hr).2.2, hr, hb⟩
theorem C_litS (W : World) (e : TypeId) (xs : List ByteArray) (hm : xs.length ≤ 9223372036854775807) : Kd.C Kd.string (W.alloc (.cells (pw_strs xs).toArray e)) (some ⟨W.heap.size, 0, none⟩) xs.length xs :=
  Kd.C_of_reads (d := ByteArray.empty) (h1 := fun _ => rfl) (own_reads_of' (own_lit_of W W.heap.size e xs (Nat.le_refl _) hm))
theorem rq_cells {w : World} {g : Nat} {c0 c1 c2 c3 c4 c5 c6 c7 c8 c9 c10 c11 : Value} (h : w.heap[g]? = some (.cells #[c0, c1, c2, c3, c4, c5, c6, c7, c8, c9, c10, c11] 47 (0, 0))) : w.cell? ⟨g, 0, none⟩ = some c0 ∧ w.cell? ⟨g, 1, none⟩ = some c1 ∧ w.cell? ⟨g, 2, none⟩ = some c2 ∧ w.cell? ⟨g, 3, none⟩ = some c3 ∧ w.cell? ⟨g, 4, none⟩ = some c4 ∧ w.cell? ⟨g, 5, none⟩ = some c5 ∧ w.cell? ⟨g, 6, none⟩ = some c6 ∧ w.cell? ⟨g, 7, none⟩ = some c7 ∧ w.cell? ⟨g, 8, none⟩ = some c8 ∧ w.cell? ⟨g, 9, none⟩ = some c9 ∧ w.cell? ⟨g, 10, none⟩ = some c10 ∧ w.cell? ⟨g, 11, none⟩ = some c11 :=
  ⟨blk_cell h 0, blk_cell h 1, blk_cell h 2, blk_cell h 3, blk_cell h 4, blk_cell h 5, blk_cell h 6, blk_cell h 7, blk_cell h 8, blk_cell h 9, blk_cell h 10, blk_cell h 11⟩
def putTexts (k : Nat) : List ByteArray → List Int → Option (List Int)
  | [], b => some b
  | s :: l, b => (num_PutText.f k b s).bind fun t => putTexts k l t
theorem putTexts.mono : ∀ l b k, LeO (putTexts k l b) (putTexts (k + 1) l b)
  | [], _, _ => LeO.refl _
  | s :: l, b, k => by
    unfold putTexts
    exact LeO.bind (num_PutText.mono _ _ _) (fun _ => putTexts.mono l _ _)
def frame_Request.f (k : Nat) (a0_0 : Int) (a0_1 : Int) (a0_2 : Int) (a0_3 : Int) (a0_4 : Int) (l0_5 : List (S91)) (a0_6 : ByteArray) (a0_7 : ByteArray) (a0_8 : ByteArray) (a0_9 : ByteArray) (a0_10 : ByteArray) (a0_11 : ByteArray) : Option (List Int × Int) :=
  (frame_Right.f k a0_0 a0_1 a0_2 a0_3 a0_4 l0_5 a0_6 a0_7 a0_8 a0_9 a0_10 a0_11).bind fun r => if r = true then (rqPut.f k [1] [a0_0, a0_1, a0_2]).bind fun b0 => (cap_Encode.f k a0_3 a0_4 l0_5 a0_6).bind fun t => if t.2 = 0 then if b0.length + t.1.length < 140737488355328 then (putTexts k [a0_7, a0_8, a0_9, a0_10, a0_11] (b0 ++ t.1)).bind fun b => some (b, 0) else none else some ([], t.2) else some ([], 1)
theorem frame_Request.mono : ∀ a0 a1 a2 a3 a4 a5 a6 a7 a8 a9 a10 a11 k, LeO (frame_Request.f k a0 a1 a2 a3 a4 a5 a6 a7 a8 a9 a10 a11) (frame_Request.f (k + 1) a0 a1 a2 a3 a4 a5 a6 a7 a8 a9 a10 a11) := by
  intro a0 a1 a2 a3 a4 a5 a6 a7 a8 a9 a10 a11 k
  unfold frame_Request.f
  repeat' first | exact LeO.refl _ | exact LeO.none _ | refine LeO.ite ?_ ?_ | refine LeO.bind (frame_Right.mono _ _ _ _ _ _ _ _ _ _ _ _ _) (fun _ => ?_) | refine LeO.bind (rqPut.mono _ _ _) (fun _ => ?_) | refine LeO.bind (cap_Encode.mono _ _ _ _ _) (fun _ => ?_) | refine LeO.bind (putTexts.mono _ _ _) (fun _ => ?_)
/-- what holds at a round's head -/
def rqI (w w5 : World) (k : Nat) (T : List ByteArray) (r : List Int) (b i : Value) (wr : World) : Prop := ∃ (m : Nat) (A : Option Addr) (c : Nat) (xs : List Int), i = .int .i64 m ∧ m ≤ 5 ∧ b = .slice A xs.length c ∧ Kd.R (Kd.int .u8) 5 wr w.heap.size (fun _ => True) (.slice A xs.length c) xs ∧ putTexts k (T.drop m) xs = some r ∧ Below w.heap.size w wr ∧ Below w5.heap.size w5 wr
set_option maxHeartbeats 8000000 in
set_option maxRecDepth 100000 in
theorem frame_Request.calls (k : Nat) (a0_0 : Int) (a0_1 : Int) (a0_2 : Int) (a0_3 : Int) (a0_4 : Int) (A0_5 : Option Addr) (c0_5 : Nat) (l0_5 : List (S91)) (a0_6 : ByteArray) (a0_7 : ByteArray) (a0_8 : ByteArray) (a0_9 : ByteArray) (a0_10 : ByteArray) (a0_11 : ByteArray) (r1 : List Int) (r2 : Int) (w : World) (hr0_5 : Kd.C k91 w A0_5 l0_5.length l0_5) (hc0_5 : l0_5.length ≤ c0_5) (h : frame_Request.f k a0_0 a0_1 a0_2 a0_3 a0_4 l0_5 a0_6 a0_7 a0_8 a0_9 a0_10 a0_11 = some (r1, r2)) :
    Calls Tryd.prog 20 #[.agg #[.int .i64 a0_0, .int .i64 a0_1, .int .i64 a0_2, .int .i64 a0_3, .int .i64 a0_4, .slice A0_5 l0_5.length c0_5, .string a0_6, .string a0_7, .string a0_8, .string a0_9, .string a0_10, .string a0_11]] w fun e w' => ∃ v0_ : Value, e = .returned (.tuple #[v0_, .int .i64 r2]) ∧ Kd.R (Kd.int .u8) 5 w' w.heap.size (fun _ => True) v0_ r1 ∧ Below w.heap.size w w' := by
  have HR5 := Aside0.mk hr0_5
  have HC5 := Aside0.mk hc0_5
  clear hr0_5 hc0_5
  simp only [frame_Request.f] at h
  obtain ⟨r, hr, h'⟩ := Option.bind_eq_some_iff.mp h
  have HRt := Aside0.mk hr
  clear hr h
  cases r
  ·simp only [Bool.false_eq_true, if_false, Option.some.injEq, Prod.mk.injEq] at h'
   obtain ⟨rfl, rfl⟩ := h'
   go_enter Tryd.func20, Tryd.ntmps20
   go_wp2_with (go_at_call 22; (with_reducible refine (frame_Right.calls k _ _ _ _ _ _ _ l0_5 _ _ _ _ _ _ false _ ?hr ?hc HRt.out).mono ?_); (case hr => exact Kd.C_alloc HR5.out _); (case hc => exact HC5.out); rintro e w' ⟨rfl, hb⟩; have HB := Aside0.mk hb; clear hb)
   go_ret2
   exact ⟨_, rfl, Kd.R_nil _ _ _ _ _, below_step (below_alloc (Below.refl _ _) _) HB.out⟩
  simp only [if_true] at h'
  obtain ⟨b0, hb0, h⟩ := Option.bind_eq_some_iff.mp h'
  clear h'
  obtain ⟨⟨t1, t2⟩, ht, h'⟩ := Option.bind_eq_some_iff.mp h
  have HP := Aside0.mk hb0
  have HT := Aside0.mk ht
  clear hb0 ht h
  simp only at h'
  have C1 : Aside0 (∀ w1 : World, w1.heap[w.heap.size]? = some (.cells #[.int .i64 a0_0, .int .i64 a0_1, .int .i64 a0_2, .int .i64 a0_3, .int .i64 a0_4, .slice A0_5 l0_5.length c0_5, .string a0_6, .string a0_7, .string a0_8, .string a0_9, .string a0_10, .string a0_11] 47 (0, 0)) → True) := ⟨fun _ _ => trivial⟩
  generalize hX : (Obj.cells #[.int .i64 a0_0, .int .i64 a0_1, .int .i64 a0_2, .int .i64 a0_3, .int .i64 a0_4, .slice A0_5 l0_5.length c0_5, .string a0_6, .string a0_7, .string a0_8, .string a0_9, .string a0_10, .string a0_11] 47 (0, 0)) = X at C1
  have HX := Aside0.mk hX.symm
  clear C1 hX
  have HE : Aside0 (t2 = 0 → b0.length + t1.length < 140737488355328 ∧ r2 = 0 ∧ putTexts k [a0_7, a0_8, a0_9, a0_10, a0_11] (b0 ++ t1) = some r1) := ⟨fun he => by
    rw [if_pos he] at h'
    by_cases hl : b0.length + t1.length < 140737488355328
    · rw [if_pos hl] at h'
      obtain ⟨b, hb, h⟩ := Option.bind_eq_some_iff.mp h'
      simp only [Option.some.injEq, Prod.mk.injEq] at h
      obtain ⟨rfl, rfl⟩ := h
      exact ⟨hl, rfl, hb⟩
    · rw [if_neg hl] at h'; cases h'⟩
  have HN : Aside0 (¬ t2 = 0 → r1 = [] ∧ r2 = t2) := ⟨fun he => by
    rw [if_neg he] at h'
    simp only [Option.some.injEq, Prod.mk.injEq] at h'
    exact ⟨h'.1.symm, h'.2.symm⟩⟩
  clear h'
  go_enter Tryd.func20, Tryd.ntmps20
  go_wp2_with (first
    | (go_at_call 22; (with_reducible refine (frame_Right.calls k _ _ _ _ _ _ _ l0_5 _ _ _ _ _ _ true _ ?hr ?hc HRt.out).mono ?_); (case hr => exact Kd.C_alloc HR5.out _); (case hc => exact HC5.out); rintro e w1 ⟨rfl, hb⟩; have HX1 := Aside0.mk (blk_below (g := w.heap.size) (o := X) (by rw [HX.out]; exact heap_alloc_new _ _) hb); have HB1 := Aside0.mk (below_step (below_alloc (Below.refl _ _) _) hb); obtain ⟨k0, k1, k2, k3, k4, k5, k6, k7, k8, k9, k10, k11⟩ := rq_cells (HX1.out.trans (congrArg some HX.out)); have lt1 := blk_lt HX1.out; clear hb)
    | (go_at_call 30; (with_reducible refine (rqPut.at k _ _ _ [1] _ _ _ [a0_0, a0_1, a0_2] b0 _ ?he ?hf ?hp ?hq ?hr ?hs HP.out).mono ?_); (case he => rfl); (case hf => rfl); (case hp => exact Kd.C_alloc (C_litI w1 5 .u8 [1] (by simp)) _); (case hq => exact Nat.le_refl _); (case hr => exact C_litG (by simp) 3 .i64 [a0_0, a0_1, a0_2] (by simp)); (case hs => exact Nat.le_refl _); rintro e w2 ⟨A2, c2, rfl, hc2, hC2, hr2, hb2⟩; have HX2 := Aside0.mk (blk_below (blk_alloc (blk_alloc HX1.out _) _) hb2); have HB2 := Aside0.mk (below_step (below_alloc (below_alloc HB1.out _) _) hb2); clear k0 k1 k2 k3 k4 k5 k6 k7 k8 k9 k10 k11; obtain ⟨k0, k1, k2, k3, k4, k5, k6, k7, k8, k9, k10, k11⟩ := rq_cells (HX2.out.trans (congrArg some HX.out)); have lt2 := blk_lt HX2.out; have HO2 : Aside0 (Kd.R (Kd.int .u8) 5 w2 w.heap.size (fun k => k ≠ w.heap.size) (.slice A2 b0.length c2) b0) := Aside0.mk (Kd.R_lower (Kd.R_mono (Kd.R_bound hr2) (fun k hk => by have h_ := hk.2.1; simp at h_; omega)) (by simp; omega)); clear hb2 hr2 hC2)
    | (go_at_call 48; (with_reducible refine (cap_Encode.calls k a0_3 a0_4 _ _ l0_5 a0_6 t1 t2 _ ?hr ?hc HT.out).mono ?_); (case hr => exact Kd.C_below HR5.out HB2.out); (case hc => exact HC5.out); rintro e w3 ⟨v3, rfl, hr3, hb3⟩; obtain ⟨A3, c3, rfl⟩ := Kd.R_slice hr3; have HB3 := Aside0.mk (below_step HB2.out hb3); have HX3 := Aside0.mk (blk_below HX2.out hb3); have HO3 := Aside0.mk (Kd.R_below HO2.out hb3); have HR3 := Aside0.mk (Kd.R_reads' hr3).2.2; have HZ3 := Aside0.mk hb3.size; clear k0 k1 k2 k3 k4 k5 k6 k7 k8 k9 k10 k11; clear hr3 hb3)
    | ((with_reducible refine gate_builtin (b := .append) (xs := #[.tmp 30, .tmp 31]) rfl ?_); at_builtin; have he : t2 = 0 := (by have h_ := ‹(t2 != 0) = false›; simpa using h_); have hl := (HE.out he).1; refine Kd.R_append_rows (Kd.int .u8) (w0 := w) w.heap.size rfl (.tmp 30) (.tmp 31) 36 5 (.int .u8 0) 1 rfl Tryd.underlying36 info5 rfl (by decide) (by omega) (.slice A2 b0.length c2) b0 t1 A3 t1.length c3 (fun k => k ≠ w.heap.size) (fun _ => False) rfl rfl ?aO ?aR (fun _ _ h => h) (fun _ h => h.elim) ?aF ?aB ?aS ?aL ?_; (case aO => exact HO3.out); (case aR => exact HR3.out); (case aF => exact (fun k hk => by have := blk_lt HX3.out; omega)); (case aB => exact HB3.out); (case aS => exact HB3.out.size); (case aL => omega); intro v4 w4 ho hb hg hat; obtain ⟨A4, c4, rfl⟩ := Kd.R_slice ho; have HX4 := Aside0.mk (blk_grown HX3.out hg (Kd.R_away HO3.out (fun k hk => hk))); have HO4 := Aside0.mk ho; have HB4 := Aside0.mk hb; obtain ⟨k0, k1, k2, k3, k4, k5, k6, k7, k8, k9, k10, k11⟩ := rq_cells (HX4.out.trans (congrArg some HX.out)); have lt4 := blk_lt HX4.out; clear ho hb hg hat))
  ·have hn : ¬ t2 = 0 := by have h_ := ‹(t2 != 0) = true›; simpa using h_
   obtain ⟨rfl, rfl⟩ := HN.out hn
   go_ret2
   exact ⟨_, rfl, Kd.R_nil _ _ _ _ _, HB3.out⟩
  have hb5 := below_alloc (Below.refl w4.heap.size w4) (.cells #[.string a0_7, .string a0_8, .string a0_9, .string a0_10, .string a0_11] 9)
  have hS := C_litS w4 9 [a0_7, a0_8, a0_9, a0_10, a0_11] (by simp)
  have hI : rqI w (w4.alloc (.cells #[.string a0_7, .string a0_8, .string a0_9, .string a0_10, .string a0_11] 9)) k [a0_7, a0_8, a0_9, a0_10, a0_11] r1 (.slice A4 (b0 ++ t1).length c4) (.int .i64 0) (w4.alloc (.cells #[.string a0_7, .string a0_8, .string a0_9, .string a0_10, .string a0_11] 9)) := ⟨0, A4, c4, b0 ++ t1, rfl, by omega, rfl, Kd.R_mono (Kd.R_alloc HO4.out _) (fun _ _ => trivial), (HE.out he).2.2, below_alloc HB4.out _, Below.refl _ _⟩
  obtain rfl := (HE.out he).2.1
  have HS := Aside0.mk hS
  have HI := Aside0.mk hI
  clear hb5 hS hI HX HX1 HX2 HX3 HX4 HO2 HO3 HO4 HR3 HE HN k0 k1 k2 k3 k4 k5 k6 k7 k8 k9 k10 k11 HB1 HB2 HB3 HC5 HR5 HRt HP HT
  go_loopw [4, 45] (fun b i wr => rqI w (w4.alloc (.cells #[.string a0_7, .string a0_8, .string a0_9, .string a0_10, .string a0_11] 9)) k [a0_7, a0_8, a0_9, a0_10, a0_11] r1 b i wr) (fun _ i _ => 5 - (intOf i).toNat)
  case atStart => rw [← List.length_append]; exact HI.out
  obtain ⟨m, A, c, xs, rfl, hm, rfl, hR, hp, hb, hb5⟩ := hrel
  have HRR := Aside0.mk hR
  have HB := Aside0.mk hb
  have HB5 := Aside0.mk hb5
  by_cases hlt : m < 5
  case neg =>
   obtain rfl : m = 5 := by omega
   obtain rfl := Option.some.inj hp
   clear hR hb hb5 hlt hp
   go_wp2
   go_ret2
   exact ⟨_, rfl, HRR.out, HB.out⟩
  have hd : ∃ s l, [a0_7, a0_8, a0_9, a0_10, a0_11].drop m = s :: l ∧ [a0_7, a0_8, a0_9, a0_10, a0_11].drop (m + 1) = l ∧ rdOf ByteArray.empty [a0_7, a0_8, a0_9, a0_10, a0_11] (m : Int) = s := by
    have hc : m = 0 ∨ m = 1 ∨ m = 2 ∨ m = 3 ∨ m = 4 := by omega
    rcases hc with rfl | rfl | rfl | rfl | rfl <;> exact ⟨_, _, rfl, rfl, rfl⟩
  obtain ⟨s, l, e1, e2, e3⟩ := hd
  rw [e1, putTexts] at hp
  obtain ⟨t, ht, hp⟩ := Option.bind_eq_some_iff.mp hp
  obtain ⟨ad, hae, k0⟩ := Kd.at_string (Kd.C_below HS.out HB5.out) (m : Int) (by omega) (by simp; omega)
  rw [Int.toNat_natCast, e3] at k0
  cases hae
  rw [add_plain] at k0
  have hlt' : (m : Int) < 5 := by omega
  have HT := Aside0.mk ht
  have HP := Aside0.mk (show putTexts k ([a0_7, a0_8, a0_9, a0_10, a0_11].drop (m + 1)) t = some r1 by rw [e2]; exact hp)
  have HC := Aside0.mk (Kd.R_reads' hR)
  clear hR hb hb5 hlt ht hp e1 e2 e3
  go_wp2_with (go_at_call 31; (with_reducible refine (num_PutText.calls k A c xs s t _ ?hr ?hc HT.out).mono ?_); (case hr => exact HC.out.2.2); (case hc => exact HC.out.2.1); rintro e w' ⟨v, rfl, hr, hb⟩; have HR' := Aside0.mk hr; have HB' := Aside0.mk hb; clear hr hb)
  obtain ⟨A', c', rfl⟩ := Kd.R_slice HR'.out
  go_roundw
  case rel => exact ⟨m + 1, A', c', t, by go_num, by omega, rfl, Kd.R_lower HR'.out HB.out.size, HP.out, below_step HB.out HB'.out, below_step HB5.out HB'.out⟩
  case measure => simp [intOf]; omega

/-- A state of type 124 at block g of W; what its slices lead to came in by w0. -/
def IsS124 (w0 W : World) (g : Nat) (f0 : List Int) (f1 : Int) (f2 : Int) : Prop := ∃ A0 c0, W.heap[g]? = some (.cells #[.slice A0 f0.length c0, .int .i64 f1, .int .i64 f2] 124 (0, 0)) ∧ (w0.heap.size ≤ g ∧ f0.length ≤ c0) ∧ Kd.C (Kd.int .u8) w0 A0 f0.length f0
theorem IsS124.grown {w0 W : World} {g : Nat} {f0 : List Int} {f1 : Int} {f2 : Int} {W1 : World} {row : Option Nat} (h : IsS124 w0 W g f0 f1 f2) (hw : W.grownBy W1 row) (hne : some g ≠ row) : IsS124 w0 W1 g f0 f1 f2 := by
  obtain ⟨A0, c0, hb, hg, hr0⟩ := h
  exact ⟨A0, c0, blk_grown hb hw hne, hg, hr0⟩
theorem IsS124.own_neN {w0 W : World} {g : Nat} {f0 : List Int} {f1 : Int} {f2 : Int} {α : Type} {d : Kd α} {e : Nat} {base : Nat} {ok : Nat → Prop} {v : Value} {xs : List α} (h : IsS124 w0 W g f0 f1 f2) (ho : Kd.N d e W base ok v xs) (ht : e ≠ 124) : some g ≠ v.ownBlock := by
  obtain ⟨A0, c0, hb, hg, hr0⟩ := h
  exact Kd.N_ne ho hb ht
theorem IsS124.fresh {w0 W : World} {g : Nat} {f0 : List Int} {f1 : Int} {f2 : Int} (h : IsS124 w0 W g f0 f1 f2) : ∀ k, W.heap.size ≤ k → k ≠ g := by
  obtain ⟨A0, c0, hb, hg, hr0⟩ := h
  exact Kd.freshB hb
theorem IsS124.kept {w0 W : World} {g : Nat} {f0 : List Int} {f1 : Int} {f2 : Int} {W1 : World} {S : Nat → Prop} (h : IsS124 w0 W g f0 f1 f2) (hk : Kept W W1 S) (hne : ¬ S g) : IsS124 w0 W1 g f0 f1 f2 := by
  obtain ⟨A0, c0, hb, hg, hr0⟩ := h
  exact ⟨A0, c0, blk_kept hb hk hne, hg, hr0⟩
theorem IsS124.below {w0 W : World} {g : Nat} {f0 : List Int} {f1 : Int} {f2 : Int} {W1 : World} (h : IsS124 w0 W g f0 f1 f2) (hw : Below W.heap.size W W1) : IsS124 w0 W1 g f0 f1 f2 := h.grown (grown_of_below hw none) (by simp)
theorem IsS124.alloc {w0 W : World} {g : Nat} {f0 : List Int} {f1 : Int} {f2 : Int} (h : IsS124 w0 W g f0 f1 f2) (o : Obj) : IsS124 w0 (W.alloc o) g f0 f1 f2 := h.below (below_alloc (Below.refl _ _) o)
theorem IsS124.drewN {w0 W : World} {g : Nat} {f0 : List Int} {f1 : Int} {f2 : Int} (h : IsS124 w0 W g f0 f1 f2) (m : Nat) : IsS124 w0 (W.drewN m) g f0 f1 f2 := h
theorem IsS124.drew {w0 W : World} {g : Nat} {f0 : List Int} {f1 : Int} {f2 : Int} (h : IsS124 w0 W g f0 f1 f2) : IsS124 w0 W.drew g f0 f1 f2 := h
theorem IsS124.at_ {w0 W : World} {g : Nat} {f0 : List Int} {f1 : Int} {f2 : Int} {w' : World} {m : Nat} (hq : W.drewN m = w') (h : IsS124 w0 W g f0 f1 f2) : IsS124 w0 w' g f0 f1 f2 := by subst hq; exact IsS124.drewN h m
theorem IsS124.apart {w0 W : World} {g : Nat} {f0 : List Int} {f1 : Int} {f2 : Int} {α : Type} {d : Kd α} {e : Nat} {base : Nat} {ok : Nat → Prop} {v : Value} {xs : List α} (h : IsS124 w0 W g f0 f1 f2) (ho : d.R e W base ok v xs) (ht : ∀ q, q ∈ e :: d.E → q ≠ 124) : d.R e W base (fun k => ok k ∧ k ≠ g) v xs := by
  obtain ⟨A0, c0, hb, hg, hr0⟩ := h
  exact Kd.R_types ho hb ht
theorem IsS124.own_ne {w0 W : World} {g : Nat} {f0 : List Int} {f1 : Int} {f2 : Int} {α : Type} {d : Kd α} {e : Nat} {base : Nat} {ok : Nat → Prop} {v : Value} {xs : List α} (h : IsS124 w0 W g f0 f1 f2) (ho : d.R e W base ok v xs) (ht : e ≠ 124) : some g ≠ v.ownBlock := by
  obtain ⟨A0, c0, hb, hg, hr0⟩ := h
  exact Kd.R_ne ho hb ht
theorem IsS124.apartQ {w0 W : World} {g : Nat} {f0 : List Int} {f1 : Int} {f2 : Int} {α : Type} {d : Kd α} {e : Nat} {base : Nat} {ok : Nat → Prop} {v : Value} {xs : List α} (h : IsS124 w0 W g f0 f1 f2) (ho : d.Q e W base ok v xs) (ht : ∀ q, q ∈ e :: d.E → q ≠ 124) : d.Q e W base (fun k => ok k ∧ k ≠ g) v xs := by
  obtain ⟨A0, c0, hb, hg, hr0⟩ := h
  exact Kd.Q_types ho hb ht
theorem IsS124.own_neQ {w0 W : World} {g : Nat} {f0 : List Int} {f1 : Int} {f2 : Int} {α : Type} {d : Kd α} {e : Nat} {base : Nat} {ok : Nat → Prop} {v : Value} {xs : List α} (h : IsS124 w0 W g f0 f1 f2) (ho : d.Q e W base ok v xs) (ht : e ≠ 124) : some g ≠ v.ownBlock := by
  obtain ⟨A0, c0, hb, hg, hr0⟩ := h
  exact Kd.Q_ne ho hb ht
theorem IsS124.apartS {w0 W : World} {g : Nat} {f0 : List Int} {f1 : Int} {f2 : Int} {α : Type} {d : Kd α} {e : Nat} {base : Nat} {ok : Nat → Prop} {v : Value} {xs : List α} (h : IsS124 w0 W g f0 f1 f2) (ho : d.S e W base ok v xs) (ht : ∀ q, q ∈ e :: d.E → q ≠ 124) : d.S e W base (fun k => ok k ∧ k ≠ g) v xs := by
  obtain ⟨A0, c0, hb, hg, hr0⟩ := h
  exact Kd.S_types ho hb ht
theorem IsS124.own_neS {w0 W : World} {g : Nat} {f0 : List Int} {f1 : Int} {f2 : Int} {α : Type} {d : Kd α} {e : Nat} {base : Nat} {ok : Nat → Prop} {v : Value} {xs : List α} (h : IsS124 w0 W g f0 f1 f2) (ho : d.S e W base ok v xs) (ht : e ≠ 124) : some g ≠ v.ownBlock := by
  obtain ⟨A0, c0, hb, hg, hr0⟩ := h
  exact Kd.S_ne ho hb ht
theorem IsS124.lt {w0 W : World} {g : Nat} {f0 : List Int} {f1 : Int} {f2 : Int} (h : IsS124 w0 W g f0 f1 f2) : g < W.heap.size := by
  obtain ⟨A0, c0, hb, hg, hr0⟩ := h
  exact blk_lt hb
theorem IsS124.ge {w0 W : World} {g : Nat} {f0 : List Int} {f1 : Int} {f2 : Int} (h : IsS124 w0 W g f0 f1 f2) : w0.heap.size ≤ g := by
  obtain ⟨A0, c0, hb, hg, hr0⟩ := h
  exact hg.1
theorem IsS124.ne_blk {w0 W : World} {g : Nat} {f0 : List Int} {f1 : Int} {f2 : Int} {a : Nat} {cs : Array Value} {t : TypeId} {fr : Nat × Nat} (h : IsS124 w0 W g f0 f1 f2) (hb2 : W.heap[a]? = some (.cells cs t fr)) (ht : t ≠ 124) : g ≠ a := by
  obtain ⟨A0, c0, hb, hg, hr0⟩ := h
  rintro rfl
  rw [hb] at hb2
  injection hb2 with hb2
  injection hb2 with _ ht2
  exact ht ht2.symm
theorem IsS124.far {w0 W : World} {g : Nat} {f0 : List Int} {f1 : Int} {f2 : Int} {p : Addr} (h : IsS124 w0 W g f0 f1 f2) (hne : g ≠ p.block) (u : Value) : IsS124 w0 (W.setCell p u) g f0 f1 f2 := by
  obtain ⟨A0, c0, hb, hg, hr0⟩ := h
  exact ⟨A0, c0, blk_far hb hne u, hg, hr0⟩
theorem cellS124_0 {W : World} {g : Nat} {A0 : Option Addr} {c0 : Nat} {f0 : List Int} {f1 : Int} {f2 : Int} (h : W.heap[g]? = some (.cells #[.slice A0 f0.length c0, .int .i64 f1, .int .i64 f2] 124 (0, 0))) : W.cell? ⟨g, 0, none⟩ = some (.slice A0 f0.length c0) := (blk_cell h 0).trans rfl
theorem cellS124_1 {W : World} {g : Nat} {A0 : Option Addr} {c0 : Nat} {f0 : List Int} {f1 : Int} {f2 : Int} (h : W.heap[g]? = some (.cells #[.slice A0 f0.length c0, .int .i64 f1, .int .i64 f2] 124 (0, 0))) : W.cell? ⟨g, 1, none⟩ = some (.int .i64 f1) := (blk_cell h 1).trans rfl
theorem IsS124.cell_1 {w0 W : World} {g : Nat} {f0 : List Int} {f1 : Int} {f2 : Int} (h : IsS124 w0 W g f0 f1 f2) : W.cell? ⟨g, 1, none⟩ = some (.int .i64 f1) := by
  obtain ⟨A0, c0, hb, hg, hr0⟩ := h
  exact cellS124_1 hb
theorem IsS124.set_1 {w0 W : World} {g : Nat} {f0 : List Int} {f1 : Int} {f2 : Int} (h : IsS124 w0 W g f0 f1 f2) (x : Int) : IsS124 w0 (W.setCell ⟨g, 1, none⟩ (.int .i64 x)) g f0 x f2 := by
  obtain ⟨A0, c0, hb, hg, hr0⟩ := h
  exact ⟨A0, c0, by simpa using blk_set hb 1 (.int .i64 x), hg, hr0⟩
theorem cellS124_2 {W : World} {g : Nat} {A0 : Option Addr} {c0 : Nat} {f0 : List Int} {f1 : Int} {f2 : Int} (h : W.heap[g]? = some (.cells #[.slice A0 f0.length c0, .int .i64 f1, .int .i64 f2] 124 (0, 0))) : W.cell? ⟨g, 2, none⟩ = some (.int .i64 f2) := (blk_cell h 2).trans rfl
theorem IsS124.cell_2 {w0 W : World} {g : Nat} {f0 : List Int} {f1 : Int} {f2 : Int} (h : IsS124 w0 W g f0 f1 f2) : W.cell? ⟨g, 2, none⟩ = some (.int .i64 f2) := by
  obtain ⟨A0, c0, hb, hg, hr0⟩ := h
  exact cellS124_2 hb
theorem IsS124.set_2 {w0 W : World} {g : Nat} {f0 : List Int} {f1 : Int} {f2 : Int} (h : IsS124 w0 W g f0 f1 f2) (x : Int) : IsS124 w0 (W.setCell ⟨g, 2, none⟩ (.int .i64 x)) g f0 f1 x := by
  obtain ⟨A0, c0, hb, hg, hr0⟩ := h
  exact ⟨A0, c0, by simpa using blk_set hb 2 (.int .i64 x), hg, hr0⟩

/-! ### cap_reader_number: function 86 -/
def cap_reader_number.f (k : Nat) (s0_0 : List Int) (s0_1 : Int) (s0_2 : Int) : Option (Int × Int × Int) := if s0_2 = 0 then ((num_Get.f k s0_0 s0_1).bind fun b => some (wrap64 (mn b.1 4611686018427387904), b.2.1, b.2.2)) else some (0, s0_1, s0_2)
theorem cap_reader_number.mono : ∀ a0 a1 a2 k, LeO (cap_reader_number.f k a0 a1 a2) (cap_reader_number.f (k + 1) a0 a1 a2) := by
  intro a0 a1 a2 k
  unfold cap_reader_number.f
  exact LeO.ite (LeO.bind (num_Get.mono _ _ _) (fun _ => LeO.refl _)) (LeO.refl _)
set_option maxHeartbeats 8000000 in
set_option maxRecDepth 100000 in
theorem cap_reader_number.calls (k : Nat) (g : Nat) (s0_0 : List Int) (s0_1 : Int) (s0_2 : Int) (r1 : Int) (r2 : Int) (r3 : Int) (w0 w : World) (hI : IsS124 w0 w g s0_0 s0_1 s0_2) (hB : Below w0.heap.size w0 w) (h : cap_reader_number.f k s0_0 s0_1 s0_2 = some (r1, r2, r3)) :
    Calls Tryd.prog 86 #[.pointer (some ⟨g, 0, none⟩)] w fun e w' => e = .returned (.int .i64 r1) ∧ IsS124 w0 w' g s0_0 r2 r3 ∧ Below w0.heap.size w0 w' ∧ KeepBut w w' g none := by
  have HI := Aside0.mk hI
  have HB := Aside0.mk hB
  have HK := Aside0.mk (KeepBut.refl w g none)
  obtain ⟨A0, c0, hb, hg, hr⟩ := hI
  have HC := Aside0.mk hg.2
  have HR := Aside0.mk (Kd.C_below hr hB)
  have k0 := cellS124_0 hb
  have k1 := cellS124_1 hb
  have k2 := cellS124_2 hb
  have f1 := blk_frozen hb 1
  have f2 := blk_frozen hb 2
  clear hb hg hr hB
  simp only [cap_reader_number.f] at h
  by_cases c0_ : s0_2 = 0
  case neg =>
   rw [if_neg c0_] at h
   simp only [Option.some.injEq, Prod.mk.injEq] at h
   obtain ⟨rfl, rfl, rfl⟩ := h
   go_enter Tryd.func86, Tryd.ntmps86
   go_wp2
   all_goals go_ret
   all_goals exact ⟨by first | rfl | (rw [show wrap64 (mn t1 4611686018427387904) = 4611686018427387904 from by (rw [mn, if_pos (by omega)]; unfold wrap64; omega)]; rfl) | (rw [show mn t1 4611686018427387904 = t1 from by rw [mn, if_neg (by omega)]]; rfl) | (simp [mn]; done) | simp [mn, *], m48_, m49_, m53_⟩
  rw [if_pos c0_] at h
  subst c0_
  replace h := Option.bind_eq_some_iff.mp h
  obtain ⟨⟨t1, t2, t3⟩, hG, h⟩ := h
  have HG := Aside0.mk hG
  clear hG
  simp only [Option.some.injEq, Prod.mk.injEq] at h
  obtain ⟨rfl, rfl, rfl⟩ := h
  by_cases c4 : 4611686018427387904 < t1
  all_goals
    go_enter Tryd.func86, Tryd.ntmps86
    go_wp2_with fail
    go_quiet ((go_at_call 72; (with_reducible refine (num_Get.calls k A0 c0 s0_0 s0_1 t1 t2 _ _ ?sa HC.out HG.out).mono ?_); (case sa => repeat (first | exact HR.out | (with_reducible refine Kd.C_alloc ?_ _) | (with_reducible refine Kd.C_drewN ?_ _) | (with_reducible refine Kd.C_drew ?_))); rintro e w' ⟨rfl, ⟨nd, rfl⟩⟩; exact ⟨rfl, _, World.drewN_drewN _ _ _⟩))
    go_wp2
    all_goals go_ret
    all_goals exact ⟨by first | rfl | (rw [show wrap64 (mn t1 4611686018427387904) = 4611686018427387904 from by (rw [mn, if_pos (by omega)]; unfold wrap64; omega)]; rfl) | (rw [show mn t1 4611686018427387904 = t1 from by rw [mn, if_neg (by omega)]]; rfl) | (simp [mn]; done) | simp [mn, *], m48_, m49_, m53_⟩

/-! ### cap_reader_text: function 87 -/
def cap_reader_text.f (k : Nat) (s0_0 : List Int) (s0_1 : Int) (s0_2 : Int) (a1 : Int) : Option (ByteArray × Int × Int) := if s0_2 = 0 then ((num_GetText.f k s0_0 s0_1 a1).bind fun b => some (b.1, b.2.1, b.2.2)) else some ((⟨#[]⟩ : ByteArray), s0_1, s0_2)
theorem cap_reader_text.mono : ∀ a0 a1 a2 a3 k, LeO (cap_reader_text.f k a0 a1 a2 a3) (cap_reader_text.f (k + 1) a0 a1 a2 a3) := by
  intro a0 a1 a2 a3 k
  unfold cap_reader_text.f
  exact LeO.ite (LeO.bind (num_GetText.mono _ _ _ _) (fun _ => LeO.refl _)) (LeO.refl _)
set_option maxHeartbeats 8000000 in
set_option maxRecDepth 100000 in
theorem cap_reader_text.calls (k : Nat) (g : Nat) (s0_0 : List Int) (s0_1 : Int) (s0_2 : Int) (a1 : Int) (r1 : ByteArray) (r2 : Int) (r3 : Int) (w0 w : World) (hI : IsS124 w0 w g s0_0 s0_1 s0_2) (hB : Below w0.heap.size w0 w) (h : cap_reader_text.f k s0_0 s0_1 s0_2 a1 = some (r1, r2, r3)) :
    Calls Tryd.prog 87 #[.pointer (some ⟨g, 0, none⟩), .int .i64 a1] w fun e w' => e = .returned (.string r1) ∧ IsS124 w0 w' g s0_0 r2 r3 ∧ Below w0.heap.size w0 w' ∧ KeepBut w w' g none := by
  have HI := Aside0.mk hI
  have HB := Aside0.mk hB
  have HK := Aside0.mk (KeepBut.refl w g none)
  obtain ⟨A0, c0, hb, hg, hr⟩ := hI
  have HC := Aside0.mk hg.2
  have HR := Aside0.mk (Kd.C_below hr hB)
  have k0 := cellS124_0 hb
  have k1 := cellS124_1 hb
  have k2 := cellS124_2 hb
  have f1 := blk_frozen hb 1
  have f2 := blk_frozen hb 2
  clear hb hg hr hB
  simp only [cap_reader_text.f] at h
  by_cases c0_ : s0_2 = 0
  case neg =>
   rw [if_neg c0_] at h
   simp only [Option.some.injEq, Prod.mk.injEq] at h
   obtain ⟨rfl, rfl, rfl⟩ := h
   go_enter Tryd.func87, Tryd.ntmps87
   go_wp2
   all_goals go_ret
   all_goals exact ⟨by first | rfl | (rw [show wrap64 (mn t1 4611686018427387904) = 4611686018427387904 from by (rw [mn, if_pos (by omega)]; unfold wrap64; omega)]; rfl) | (rw [show mn t1 4611686018427387904 = t1 from by rw [mn, if_neg (by omega)]]; rfl) | (simp [mn]; done) | simp [mn, *], m48_, m49_, m53_⟩
  rw [if_pos c0_] at h
  subst c0_
  replace h := Option.bind_eq_some_iff.mp h
  obtain ⟨⟨t1, t2, t3⟩, hG, h⟩ := h
  have HG := Aside0.mk hG
  clear hG
  simp only [Option.some.injEq, Prod.mk.injEq] at h
  obtain ⟨rfl, rfl, rfl⟩ := h
  go_enter Tryd.func87, Tryd.ntmps87
  go_wp2_with fail
  go_quiet ((go_at_call 73; (with_reducible refine (num_GetText.calls k A0 c0 s0_0 s0_1 a1 t1 t2 _ _ ?sa HC.out HG.out).mono ?_); (case sa => repeat (first | exact HR.out | (with_reducible refine Kd.C_alloc ?_ _) | (with_reducible refine Kd.C_drewN ?_ _) | (with_reducible refine Kd.C_drew ?_))); rintro e w' ⟨rfl, ⟨nd, rfl⟩⟩; exact ⟨rfl, _, World.drewN_drewN _ _ _⟩))
  go_wp2
  all_goals go_ret
  all_goals exact ⟨by first | rfl | (rw [show wrap64 (mn t1 4611686018427387904) = 4611686018427387904 from by (rw [mn, if_pos (by omega)]; unfold wrap64; omega)]; rfl) | (rw [show mn t1 4611686018427387904 = t1 from by rw [mn, if_neg (by omega)]]; rfl) | (simp [mn]; done) | simp [mn, *], m48_, m49_, m53_⟩

end Go.Proofs.YtoankokkdmbjmaaDoorH.HFrameCuts
