-- PRINTED by print.py (a twelfth state) out of the translation. Not trusted: Lean checks it.
import Derived.Test.YtdeggemomajhcaaDoorHMerkleAppliesx0
import Derived.Test.YtdeggemomajhcaaDoorHMerkleAppliesx4
namespace Go.Proofs.YtdeggemomajhcaaDoorH.HMerkleApplies
open Go.RowKit Go.Proofs.YtdeggemomajhcaaDoorW.PrintWords Go.Proofs.YtdeggemomajhcaaDoorW.PrintLast Go.Proofs.YtdeggemomajhcaaDoorW.PrintMore
attribute [local go_sem] max2_int min2_int max_two min_two max_three min_three max_four min_four   -- for this text's walks alone
set_option linter.unusedVariables false
set_option linter.unusedSimpArgs false

/-! ### merkle_Diff: function 30 -/
mutual
def merkle_Diff.j0 : Nat → List (S44) → List (S44) → List (S66) → Bool → Option ((List (S66)))
 | 0, _, _, _, _ => none
 | k + 1, x0, x1, x5, x13 => if x13 = true then (none) else (merkle_Diff.l0 k x0 x1 x5)
def merkle_Diff.l0 : Nat → List (S44) → List (S44) → List (S66) → Option ((List (S66)))
 | 0, _, _, _ => none
 | k + 1, x0, x1, x5 => if (x0.length : Int) > 0 then (none) else (if (x1.length : Int) > 0 then (if (x1.length : Int) = 0 then (none) else (if (x0.length : Int) = 0 then (if 0 < (x1.length : Int) then (if x5.length < 2932031007402 then (if 1 ≤ (x1.length : Int) then (merkle_Diff.l0 k x0 (x1.drop 1) (x5 ++ [(⟨(rd_T44 x1 0).f0, (⟨#[]⟩ : ByteArray), (rd_T44 x1 0).f1⟩ : S66)])) else (none)) else (none)) else (none)) else (none))) else (some x5))
end
def merkle_Diff.f (k : Nat) (l0 : List (S44)) (l1 : List (S44)) : Option ((List (S66))) := (merkle_Check.f k l0).bind fun t141 => (if t141 = 0 then ((merkle_Check.f k l1).bind fun t142 => (merkle_Diff.j0 k l0 l1 ([] : List (S66)) (t142 != 0))) else (merkle_Diff.j0 k l0 l1 ([] : List (S66)) true))
theorem merkle_Diff.mono_l : ∀ k, (∀ y0 y1 y2 y3, LeO (merkle_Diff.j0 k y0 y1 y2 y3) (merkle_Diff.j0 (k + 1) y0 y1 y2 y3)) ∧ (∀ y0 y1 y2, LeO (merkle_Diff.l0 k y0 y1 y2) (merkle_Diff.l0 (k + 1) y0 y1 y2))
 | 0 => ⟨fun _ _ _ _ r h => by simp [merkle_Diff.j0] at h, fun _ _ _ r h => by simp [merkle_Diff.l0] at h⟩
 | k + 1 => by
  obtain ⟨ih0, ih1⟩ := merkle_Diff.mono_l k
  refine ⟨?_, ?_⟩
  ·intro y0 y1 y2 y3
   unfold merkle_Diff.j0
   repeat' first
   | (with_reducible exact ih0 _ _ _ _)
   | (with_reducible exact ih1 _ _ _)
   | (with_reducible exact merkle_Check.mono _ _)
   | (with_reducible exact LeO.refl _)
   | (with_reducible exact LeO.none _)
   | (with_reducible refine LeO.ite ?_ ?_)
   | (with_reducible refine LeO.bind ?_ (fun _ => ?_))
   | exact ih0 _ _ _ _
   | exact ih1 _ _ _
   | exact merkle_Check.mono _ _
   | exact LeO.none _
   | refine LeO.ite ?_ ?_
   | refine LeO.bind ?_ (fun _ => ?_)
  ·intro y0 y1 y2
   unfold merkle_Diff.l0
   repeat' first
   | (with_reducible exact ih0 _ _ _ _)
   | (with_reducible exact ih1 _ _ _)
   | (with_reducible exact merkle_Check.mono _ _)
   | (with_reducible exact LeO.refl _)
   | (with_reducible exact LeO.none _)
   | (with_reducible refine LeO.ite ?_ ?_)
   | (with_reducible refine LeO.bind ?_ (fun _ => ?_))
   | exact ih0 _ _ _ _
   | exact ih1 _ _ _
   | exact merkle_Check.mono _ _
   | exact LeO.none _
   | refine LeO.ite ?_ ?_
   | refine LeO.bind ?_ (fun _ => ?_)
theorem merkle_Diff.mono : ∀ a0 a1 k, LeO (merkle_Diff.f k a0 a1) (merkle_Diff.f (k + 1) a0 a1) := by
 intro a0 a1 k
 obtain ⟨ih0, ih1⟩ := merkle_Diff.mono_l k
 unfold merkle_Diff.f
 repeat' first
   | (with_reducible exact ih0 _ _ _ _)
   | (with_reducible exact ih1 _ _ _)
   | (with_reducible exact merkle_Check.mono _ _)
   | (with_reducible exact LeO.refl _)
   | (with_reducible exact LeO.none _)
   | (with_reducible refine LeO.ite ?_ ?_)
   | (with_reducible refine LeO.bind ?_ (fun _ => ?_))
   | exact ih0 _ _ _ _
   | exact ih1 _ _ _
   | exact merkle_Check.mono _ _
   | exact LeO.none _
   | refine LeO.ite ?_ ?_
   | refine LeO.bind ?_ (fun _ => ?_)
def merkle_Diff.T8 : Bool × List (List Nat × List Nat) := (true, [([], []), ([0], [0]), ([1], [1]), ([2], [2]), ([3], [3]), ([4, 3], [3, 4]), ([5, 3], [3, 5]), ([6, 3, 3], [3, 6]), ([7], [7]), ([8, 7], [7, 8]), ([9, 7], [7, 9]), ([10, 7], [7, 10]), ([7], [7]), ([12, 7], [7, 12]), ([13, 7], [7, 13]), ([14, 7], [7, 14]), ([11, 15, 7], [7, 11, 15]), ([7, 16, 3], [3, 7, 16]), ([3, 17], [3, 17]), ([18, 7], [18])])
def merkle_Diff.B8 : List Nat := [0, 1, 3, 7, 15, 31, 63, 127, 255, 511, 1023, 2047, 255, 4351, 12543, 28927, 65535, 131071, 262143, 524287]
theorem merkle_Diff.tab8 : rtab .any (opsOf Tryd.f30 8) = merkle_Diff.T8 := by kernel_rfl
theorem merkle_Diff.bits8 : waitsOk merkle_Diff.T8.2 merkle_Diff.B8 = true := by kernel_rfl
def merkle_Diff.T11 : Bool × List (List Nat × List Nat) := (true, [([], []), ([0], [0]), ([1], [1]), ([2], [2]), ([3], [3]), ([4, 3], [3, 4]), ([5, 3], [3, 5]), ([6, 3], [3, 6]), ([3], [3]), ([8, 3], [3, 8]), ([9, 3], [3, 9]), ([10, 3], [3, 10]), ([7, 11, 3], [3, 7, 11]), ([3, 12], [3, 12]), ([13, 3], [13])])
def merkle_Diff.B11 : List Nat := [0, 1, 3, 7, 15, 31, 63, 127, 15, 271, 783, 1807, 4095, 8191, 16383]
theorem merkle_Diff.tab11 : rtab .any (opsOf Tryd.f30 11) = merkle_Diff.T11 := by kernel_rfl
theorem merkle_Diff.bits11 : waitsOk merkle_Diff.T11.2 merkle_Diff.B11 = true := by kernel_rfl
def merkle_Diff.T12 : Bool × List (List Nat × List Nat) := (true, [([], []), ([], []), ([1], [1]), ([2], [2]), ([3], [3]), ([], []), ([5], [5]), ([6], [6]), ([7], [7]), ([4, 8], [4, 8]), ([9], [9]), ([0, 10], [0, 10]), ([11, 11, 0, 1, 2, 3, 4, 5, 6, 7, 8, 9, 10, 11], [0, 11])])
def merkle_Diff.B12 : List Nat := [0, 0, 2, 6, 14, 0, 32, 96, 224, 510, 1022, 2047, 4095]
theorem merkle_Diff.tab12 : rtab .any (opsOf Tryd.f30 12) = merkle_Diff.T12 := by kernel_rfl
theorem merkle_Diff.bits12 : waitsOk merkle_Diff.T12.2 merkle_Diff.B12 = true := by kernel_rfl
set_option maxHeartbeats 8000000 in
set_option maxRecDepth 100000 in
theorem merkle_Diff.calls (k : Nat) (P0_ : Nat → Prop) (A0 : Option Addr) (c0 : Nat) (l0 : List (S44)) (P1_ : Nat → Prop) (A1 : Option Addr) (c1 : Nat) (l1 : List (S44)) (r : List (S66)) (w : World) (hs0 : Kd.V k44 44 w w.heap.size (fun k_ => P0_ k_) (.slice A0 l0.length c0) l0) (hs1 : Kd.V k44 44 w w.heap.size (fun k_ => P1_ k_) (.slice A1 l1.length c1) l1) (h : merkle_Diff.f k l0 l1 = some r) :
  Calls Tryd.prog 30 #[.slice A0 l0.length c0, .slice A1 l1.length c1] w fun e w' => ∃ v0_ : Value, e = .returned (v0_) ∧ Kd.R k66 66 w' w.heap.size (fun k_ => (w.heap.size ≤ k_)) v0_ r ∧ Below w.heap.size w w' := by
 have hu66 := Tryd.underlying66
 have hu44 := Tryd.underlying44
 have HO0 := Aside0.mk (show Kd.V k44 44 w w.heap.size (fun k_ => ((P0_ k_ ∨ P1_ k_) ∨ w.heap.size ≤ k_)) (.slice A0 l0.length c0) l0 from Kd.V_mono hs0 (fun k_ hk => .inl (.inl hk)))
 have HO1 := Aside0.mk (show Kd.V k44 44 w w.heap.size (fun k_ => ((P0_ k_ ∨ P1_ k_) ∨ w.heap.size ≤ k_)) (.slice A1 l1.length c1) l1 from Kd.V_mono hs1 (fun k_ hk => .inl (.inr hk)))
 have HB := Aside0.mk (Below.refl w.heap.size w)
 have H : ((merkle_Check.f k l0).bind fun t141 => (if t141 = 0 then ((merkle_Check.f k l1).bind fun t142 => (merkle_Diff.j0 k l0 l1 ([] : List (S66)) (t142 != 0))) else (merkle_Diff.j0 k l0 l1 ([] : List (S66)) true))) = some r := h
 clear h
 have HC3 := Aside0.mk H
 clear H
 go_enter Tryd.func30, Tryd.ntmps30
 go_upto_region 2 with (fail)
 go_cut [13] (fun v13 wc => ∃ (kq : Nat) (x13_2 : Bool), v13 = .bool x13_2 ∧ Aside0 (merkle_Diff.j0 kq l0 l1 ([] : List (S66)) x13_2 = some r) ∧ Aside0 (kq ≤ k) ∧ Aside0 (Kd.V k44 44 wc w.heap.size (fun k_ => ((P0_ k_ ∨ P1_ k_) ∨ w.heap.size ≤ k_) ∧ some k_ ≠ ((.slice none 0 0) : Value).ownBlock) (.slice A0 l0.length c0) l0) ∧ Aside0 (Kd.V k44 44 wc w.heap.size (fun k_ => ((P0_ k_ ∨ P1_ k_) ∨ w.heap.size ≤ k_) ∧ some k_ ≠ ((.slice none 0 0) : Value).ownBlock) (.slice A1 l1.length c1) l1) ∧ Aside0 (Kd.R k66 66 wc w.heap.size (fun k_ => (w.heap.size ≤ k_)) (.slice none 0 0) ([] : List (S66))) ∧ Aside0 (Below w.heap.size w wc))
 case first =>
  have H := HC3.out
  clear HC3
  replace H := Option.bind_eq_some_iff.mp H
  obtain ⟨t141, A40, H⟩ := H
  replace H : (if t141 = 0 then ((merkle_Check.f k l1).bind fun t142 => (merkle_Diff.j0 k l0 l1 ([] : List (S66)) (t142 != 0))) else (merkle_Diff.j0 k l0 l1 ([] : List (S66)) true)) = some r := H
  have A4 := Aside0.mk A40
  clear A40
  by_cases c5 : t141 = 0
  case neg =>
   rw [if_neg c5] at H
   have c5b0 : (t141 == 0) = false := beq_eq_false_iff_ne.mpr c5
   have c5b1 : (t141 != 0) = true := bne_iff_ne.mpr c5
   (first | rw [c5b0] | (simp only [i64_w, i32_w]; rw [c5b0]) | skip)
   have H' := Aside0.mk H
   clear H
   go_wp2_with (first | ((with_reducible refine gate_callee (f := 15) rfl ?_); refine goesL_ (some 7) rfl rfl Tryd.func15 (by kernel_rfl) rfl #[.slice A0 l0.length c0] rfl m6_ ?_; (with_reducible refine (merkle_Check.calls k _ _ l0 t141 _ ?side1 ?side2 A4.out).mono ?_); (case side1 => exact m22_); (case side2 => exact (Kd.V_reads' HO0.out).2.1); rintro e w9 ⟨rfl, hb⟩; refine ⟨_, rfl, ?_⟩; have n0_ := Aside0.mk (Kd.V_below m17_ hb); have n1_ := Aside0.mk (Kd.V_below (by (with_reducible repeat (first | apply Kd.V_alloc | apply Kd.V_drewN | apply Kd.V_drew)); exact HO1.out) hb); have n2_ := Aside0.mk (below_step m7_ hb); clear HO0; clear HO1; clear HB; have HO0 := n0_; have HO1 := n1_; have HB := n2_; clear n0_ n1_ n2_; (try clear hb); (try clear hb2); (try clear hk); (try clear hi)))
   go_meet
   case rel => exact ⟨_, (true), m19_, H', ⟨by first | omega | exact Nat.le_refl _⟩, ⟨by (with_reducible repeat (first | apply Kd.V_alloc | apply Kd.V_drewN | apply Kd.V_drew)); exact Kd.V_mono HO0.out (fun _ hk => ⟨hk, (by simp [Value.ownBlock])⟩)⟩, ⟨by (with_reducible repeat (first | apply Kd.V_alloc | apply Kd.V_drewN | apply Kd.V_drew)); exact Kd.V_mono HO1.out (fun _ hk => ⟨hk, (by simp [Value.ownBlock])⟩)⟩, ⟨by first | exact Kd.R_nil _ _ _ _ _ | exact Kd.N_nil _ _ _ _ _ | exact Kd.V_nil _ _ _ _ _ | exact Kd.Q_nil _ _ _ _ _ | exact Kd.S_nil _ _ _ _ _⟩, ⟨m27_⟩⟩
  rw [if_pos c5] at H
  have c5b0 : (t141 == 0) = true := beq_iff_eq.mpr c5
  have c5b1 : (t141 != 0) = false := bne_eq_false_iff_eq.mpr c5
  clear c5
  (first | rw [c5b0] | (simp only [i64_w, i32_w]; rw [c5b0]) | skip)
  replace H := Option.bind_eq_some_iff.mp H
  obtain ⟨t142, A60, H⟩ := H
  replace H : (merkle_Diff.j0 k l0 l1 ([] : List (S66)) (t142 != 0)) = some r := H
  have A6 := Aside0.mk A60
  clear A60
  have H' := Aside0.mk H
  clear H
  go_wp2_with (first | ((with_reducible refine gate_callee (f := 15) rfl ?_); refine goesL_ (some 7) rfl rfl Tryd.func15 (by kernel_rfl) rfl #[.slice A0 l0.length c0] rfl m6_ ?_; (with_reducible refine (merkle_Check.calls k _ _ l0 t141 _ ?side1 ?side2 A4.out).mono ?_); (case side1 => exact m22_); (case side2 => exact (Kd.V_reads' HO0.out).2.1); rintro e w7 ⟨rfl, hb⟩; refine ⟨_, rfl, ?_⟩; have n0_ := Aside0.mk (Kd.V_below m17_ hb); have n1_ := Aside0.mk (Kd.V_below (by (with_reducible repeat (first | apply Kd.V_alloc | apply Kd.V_drewN | apply Kd.V_drew)); exact HO1.out) hb); have n2_ := Aside0.mk (below_step m7_ hb); clear HO0; clear HO1; clear HB; have HO0 := n0_; have HO1 := n1_; have HB := n2_; clear n0_ n1_ n2_; (try clear hb); (try clear hb2); (try clear hk); (try clear hi)) | (go_at_call 15; (with_reducible refine (merkle_Check.calls k _ _ l1 t142 _ ?side1 ?side2 A6.out).mono ?_); (case side1 => repeat (first | exact (Kd.V_reads' HO1.out).2.2 | (with_reducible refine Kd.C_alloc ?_ _) | (with_reducible refine Kd.C_drewN ?_ _) | (with_reducible refine Kd.C_drew ?_))); (case side2 => exact (Kd.V_reads' HO1.out).2.1); rintro e w8 ⟨rfl, hb⟩; have n0_ := Aside0.mk (Kd.V_below m17_ hb); have n1_ := Aside0.mk (Kd.V_below (by (with_reducible repeat (first | apply Kd.V_alloc | apply Kd.V_drewN | apply Kd.V_drew)); exact HO1.out) hb); have n2_ := Aside0.mk (below_step m7_ hb); clear HO0; clear HO1; clear HB; have HO0 := n0_; have HO1 := n1_; have HB := n2_; clear n0_ n1_ n2_; (try clear hb); (try clear hb2); (try clear hk); (try clear hi)))
  go_meet
  case rel => exact ⟨_, ((t142 != 0)), m19_, H', ⟨by first | omega | exact Nat.le_refl _⟩, ⟨by (with_reducible repeat (first | apply Kd.V_alloc | apply Kd.V_drewN | apply Kd.V_drew)); exact Kd.V_mono HO0.out (fun _ hk => ⟨hk, (by simp [Value.ownBlock])⟩)⟩, ⟨by (with_reducible repeat (first | apply Kd.V_alloc | apply Kd.V_drewN | apply Kd.V_drew)); exact Kd.V_mono HO1.out (fun _ hk => ⟨hk, (by simp [Value.ownBlock])⟩)⟩, ⟨by first | exact Kd.R_nil _ _ _ _ _ | exact Kd.N_nil _ _ _ _ _ | exact Kd.V_nil _ _ _ _ _ | exact Kd.Q_nil _ _ _ _ _ | exact Kd.S_nil _ _ _ _ _⟩, ⟨m27_⟩⟩
 clear HC3
 try clear c1; try clear p2; try clear c3; try clear c5; try clear c5b0; try clear c5b1
 obtain ⟨kq, x13_2, rfl, HA, HJ2, HO_0, HO_1, HO_5, HB⟩ := hcut
 cases kq with
 | zero => exact absurd HA.out (by simp [merkle_Diff.j0])
 | succ kj2 =>
  have H := HA.out
  clear HA
  simp only [merkle_Diff.j0] at H
  by_cases c10 : x13_2 = true
  ·subst c10
   have H1 : (none) = some r := by rw [if_pos rfl] at H; exact H
   clear H
   have H := H1
   clear H1
   exact absurd H (by simp)
  replace c10 := Bool.eq_false_iff.mpr c10
  subst c10
  have H1 : (merkle_Diff.l0 kj2 l0 l1 ([] : List (S66))) = some r := by rw [if_neg (show ¬ (false = true) by decide)] at H; exact H
  clear H
  have H := H1
  clear H1
  have H' := Aside0.mk H
  clear H
  go_wp2
  go_loopg [0, 1, 5] kj2 (fun kq v0 v1 v5 w' => ∃ (x0_2 : List (S44)) (x1_2 : List (S44)) (x5_2 : List (S66)), Aside0 (merkle_Diff.l0 kq x0_2 x1_2 x5_2 = some r) ∧ Aside0 (kq ≤ kj2) ∧ Aside0 (Kd.V k44 44 w' w.heap.size (fun k_ => ((P0_ k_ ∨ P1_ k_) ∨ w.heap.size ≤ k_) ∧ some k_ ≠ (v5 : Value).ownBlock) v0 x0_2) ∧ Aside0 (Kd.V k44 44 w' w.heap.size (fun k_ => ((P0_ k_ ∨ P1_ k_) ∨ w.heap.size ≤ k_) ∧ some k_ ≠ (v5 : Value).ownBlock) v1 x1_2) ∧ Aside0 (Kd.R k66 66 w' w.heap.size (fun k_ => (w.heap.size ≤ k_)) v5 x5_2) ∧ Aside0 (Below w.heap.size w w'))
  case atStart => exact ⟨(l0), (l1), (([] : List (S66))), H', ⟨Nat.le_refl _⟩, ⟨by (with_reducible repeat (first | apply Kd.V_alloc | apply Kd.V_drewN | apply Kd.V_drew)); exact HO_0.out⟩, ⟨by (with_reducible repeat (first | apply Kd.V_alloc | apply Kd.V_drewN | apply Kd.V_drew)); exact HO_1.out⟩, ⟨by (with_reducible repeat (first | apply Kd.R_alloc | apply Kd.R_drewN | apply Kd.R_drew)); exact HO_5.out⟩, ⟨m27_⟩⟩
  clear H'
  try clear c1; try clear p2; try clear c3; try clear c5; try clear c5b0; try clear c5b1; try clear c10; try clear p2
  obtain ⟨x0_2, x1_2, x5_2, HA, HK2, HO_0, HO_1, HO_5, HB⟩ := hrel
  cases gk with
  | zero => exact absurd HA.out (by simp [merkle_Diff.l0])
  | succ k2 =>
   have H := HA.out
   clear HA
   simp only [merkle_Diff.l0] at H
   by_cases c11 : (x0_2.length : Int) > 0
   ·rw [if_pos c11] at H
    exact absurd H (by simp)
   rw [if_neg c11] at H
   have c11b0 : decide (0 < (x0_2.length : Int)) = false := decide_eq_false c11
   have c11b1 : decide (0 < x0_2.length) = false := decide_eq_false (by omega)
   clear c11
   by_cases c12 : (x1_2.length : Int) > 0
   case neg =>
    rw [if_neg c12] at H
    have c12b0 : decide (0 < (x1_2.length : Int)) = false := decide_eq_false c12
    have c12b1 : decide (0 < x1_2.length) = false := decide_eq_false (by omega)
    clear c12
    obtain rfl := Option.some.inj H
    obtain ⟨Ao25, co25, eo25⟩ := Kd.V_slice HO_0.out
    subst eo25
    obtain ⟨Ao26, co26, eo26⟩ := Kd.V_slice HO_1.out
    subst eo26
    go_wp2
    go_ret
    exact ⟨_, by first | rfl | (simp [errW_none, errW_some] <;> rfl) | (simp [*, errW_none, errW_some] <;> rfl), by (with_reducible repeat (first | apply Kd.R_alloc | apply Kd.R_drewN | apply Kd.R_drew)); exact HO_5.out, m27_⟩
   rw [if_pos c12] at H
   have c12b0 : decide (0 < (x1_2.length : Int)) = true := decide_eq_true c12
   have c12b1 : decide (0 < x1_2.length) = true := decide_eq_true (by omega)
   clear c12
   by_cases c13 : (x1_2.length : Int) = 0
   ·rw [if_pos c13] at H
    exact absurd H (by simp)
   rw [if_neg c13] at H
   have c13b0 : ((x1_2.length : Int) == 0) = false := beq_eq_false_iff_ne.mpr c13
   have c13b1 : ((x1_2.length : Int) != 0) = true := bne_iff_ne.mpr c13
   have c13b2 : ¬ (x1_2 = []) := fun h_ => c13 (by rw [h_]; rfl)
   by_cases c14 : (x0_2.length : Int) = 0
   case neg =>
    rw [if_neg c14] at H
    exact absurd H (by simp)
   rw [if_pos c14] at H
   have c14b0 : ((x0_2.length : Int) == 0) = true := beq_iff_eq.mpr c14
   have c14b1 : ((x0_2.length : Int) != 0) = false := bne_eq_false_iff_eq.mpr c14
   clear c14
   by_cases c15 : 0 < (x1_2.length : Int)
   case neg =>
    rw [if_neg c15] at H
    exact absurd H (by simp)
   rw [if_pos c15] at H
   have c15b0 : decide (0 < (x1_2.length : Int)) = true := decide_eq_true c15
   have c15b1 : decide (0 < x1_2.length) = true := decide_eq_true (by omega)
   clear c15
   by_cases c16 : x5_2.length < 2932031007402
   case neg =>
    rw [if_neg c16] at H
    exact absurd H (by simp)
   rw [if_pos c16] at H
   have LMc16 := Aside0.mk c16
   clear c16
   obtain ⟨y145, hy145⟩ : ∃ y_ : List (S66), y_ = (x5_2 ++ [(⟨(rd_T44 x1_2 0).f0, (⟨#[]⟩ : ByteArray), (rd_T44 x1_2 0).f1⟩ : S66)]) := ⟨_, rfl⟩
   replace H : (if 1 ≤ (x1_2.length : Int) then (merkle_Diff.l0 k2 x0_2 (x1_2.drop 1) y145) else (none)) = some r := by first | (rw [hy145]; with_reducible exact H) | (have H2_ := (Option.bind_some _ _).symm.trans H; rw [hy145]; with_reducible exact H2_) | (have H2_ := (Option.bind_some _ _).symm.trans H; with_reducible exact H2_) | with_reducible exact H | (rw [hy145]; exact H) | exact H
   have Ny145 := Aside0.mk hy145
   clear hy145
   by_cases c17 : 1 ≤ (x1_2.length : Int)
   case neg =>
    rw [if_neg c17] at H
    exact absurd H (by simp)
   rw [if_pos c17] at H
   have c17b0 := eq_true c17
   have c17b1 : decide (1 ≤ (x1_2.length : Int)) = true := decide_eq_true c17
   clear c17
   obtain ⟨y148, hy148⟩ : ∃ y_ : List (S44), y_ = (x1_2.drop 1) := ⟨_, rfl⟩
   replace H : (merkle_Diff.l0 k2 x0_2 y148 y145) = some r := by first | (rw [hy148]; with_reducible exact H) | (have H2_ := (Option.bind_some _ _).symm.trans H; rw [hy148]; with_reducible exact H2_) | (have H2_ := (Option.bind_some _ _).symm.trans H; with_reducible exact H2_) | with_reducible exact H | (rw [hy148]; exact H) | exact H
   have Ny148 := Aside0.mk hy148
   clear hy148
   have H' := Aside0.mk H
   clear H
   obtain ⟨Ao18, co18, eo18⟩ := Kd.V_slice HO_0.out
   subst eo18
   obtain ⟨Ao19, co19, eo19⟩ := Kd.V_slice HO_1.out
   subst eo19
   try go_wp2
   replace HO_0 := Aside0.mk (Kd.V_drew HO_0.out)
   replace HO_1 := Aside0.mk (Kd.V_drew HO_1.out)
   replace HO_5 := Aside0.mk (Kd.R_drew HO_5.out)
   replace HB := Aside0.mk (below_drew1 HB.out)
   refine start_ (n := 20) (S := fun w' => True) (ds := []) (Ra_ [0, 20]) (by kernel_rfl) rfl rfl trivial (fun hHeld => ?_); refine with_tabW merkle_Diff.tab8 merkle_Diff.bits8 (fun HT_ HW_ => ?_)
   generalize wr.drew = w20 at HO_0 HO_1 HO_5 HB hHeld ⊢
   refine pI_ 0 (some 51) (Ra_ [1, 19]) (h := ?_)
   refine pI_ 1 (some 52) (Ra_ [2, 18]) (h := ?_)
   refine pI_ 2 (some 53) (Ra_ [3, 17]) (h := ?_)
   refine pI_ 3 (some 54) (Ra_ [4, 16]) (h := ?_)
   refine pI_ 4 (some 55) (Ra_ [5, 15]) (h := ?_)
   refine pI_ 5 (some 56) (Ra_ [6, 14]) (h := ?_)
   refine pI_ 6 (some 57) (Ra_ [7, 13]) (h := ?_)
   refine pI_ 7 (some 58) (Ra_ [8, 12]) (h := ?_)
   refine uI_ 8 (some 59) (Ra_ [9, 11]) (h := ?_)
   refine uI_ 9 (some 60) (Ra_ [10, 10]) (h := ?_)
   refine uI_ 10 (some 61) (Ra_ [11, 9]) (h := ?_)
   refine uI_ 11 (some 62) (Ra_ [12, 8]) (h := ?_)
   refine uI_ 12 (some 63) (Ra_ [13, 7]) (h := ?_)
   refine uI_ 13 (some 64) (Ra_ [14, 6]) (h := ?_)
   refine uI_ 14 (some 65) (Ra_ [15, 5]) (h := ?_)
   refine uI_ 15 (some 66) (Ra_ [16, 4]) (h := ?_)
   refine uI_ 16 (some 67) (Ra_ [17, 3]) (h := ?_)
   refine pI_ 17 (some 68) (Ra_ [18, 2]) (h := ?_)
   refine pI_ 18 (some 69) (Ra_ [19, 1]) (h := ?_)
   refine pI_ 19 (some 50) (Ra_ [20]) (h := ?_)
   refine done_ (done_of HT_.out (by kernel_rfl)) ?_
   try go_wp2
   replace HO_0 := Aside0.mk (Kd.V_drew HO_0.out)
   replace HO_1 := Aside0.mk (Kd.V_drew HO_1.out)
   replace HO_5 := Aside0.mk (Kd.R_drew HO_5.out)
   replace HB := Aside0.mk (below_drew1 HB.out)
   refine start_ (n := 15) (S := fun w' => True) (ds := []) (Ra_ [0, 15]) (by kernel_rfl) rfl rfl trivial (fun hHeld => ?_); refine with_tabW merkle_Diff.tab11 merkle_Diff.bits11 (fun HT_ HW_ => ?_)
   generalize w20.drew = w21 at HO_0 HO_1 HO_5 HB hHeld ⊢
   refine pI_ 0 (some 85) (Ra_ [1, 14]) (h := ?_)
   refine pI_ 1 (some 86) (Ra_ [2, 13]) (h := ?_)
   refine pI_ 2 (some 87) (Ra_ [3, 12]) (h := ?_)
   refine pI_ 3 (some 88) (Ra_ [4, 11]) (h := ?_)
   refine uI_ 4 (some 89) (Ra_ [5, 10]) (h := ?_)
   refine uI_ 5 (some 90) (Ra_ [6, 9]) (h := ?_)
   refine uI_ 6 (some 91) (Ra_ [7, 8]) (h := ?_)
   refine uI_ 7 (some 92) (Ra_ [8, 7]) (h := ?_)
   refine uI_ 8 (some 93) (Ra_ [9, 6]) (h := ?_)
   refine uI_ 9 (some 94) (Ra_ [10, 5]) (h := ?_)
   refine uI_ 10 (some 95) (Ra_ [11, 4]) (h := ?_)
   refine uI_ 11 (some 96) (Ra_ [12, 3]) (h := ?_)
   refine uI_ 12 (some 97) (Ra_ [13, 2]) (h := ?_)
   refine pI_ 13 (some 98) (Ra_ [14, 1]) (h := ?_)
   refine pI_ 14 (some 84) (Ra_ [15]) (h := ?_)
   refine done_ (done_of HT_.out (by kernel_rfl)) ?_
   try go_wp2
   replace HO_0 := Aside0.mk (Kd.V_drew HO_0.out)
   replace HO_1 := Aside0.mk (Kd.V_drew HO_1.out)
   replace HO_5 := Aside0.mk (Kd.R_drew HO_5.out)
   replace HB := Aside0.mk (below_drew1 HB.out)
   have p143 : 0 ≤ (0 : Int) := (by omega)
   have q143 : 0 < (x1_2.length : Int) := of_decide_eq_true m18_
   obtain ⟨ad143, e143, hx143_0, hx143_1⟩ := at_T44 (Kd.V_reads' HO_1.out).2.2 0 p143 q143
   cases e143
   have qi143 : (0 < x1_2.length) = True := eq_true (by omega)
   (try rw [show ((0 : Int)).toNat = 0 from rfl] at hx143_0)
   (try rw [show 0 * 2 = 0 from rfl] at hx143_0)
   (try rw [Addr.add_zero'] at hx143_0)
   (try rw [show ((0 : Int)).toNat = 0 from rfl] at hx143_1)
   (try rw [show 0 * 2 = 0 from rfl] at hx143_1)
   (try rw [Addr.add_zero'] at hx143_1)
   replace p143 := eq_true p143
   replace q143 := eq_true q143
   have p144 : 0 ≤ (0 : Int) := (by omega)
   have q144 : 0 < (x1_2.length : Int) := of_decide_eq_true m18_
   obtain ⟨ad144, e144, hx144_0, hx144_1⟩ := at_T44 (Kd.V_reads' HO_1.out).2.2 0 p144 q144
   obtain rfl : ad143 = ad144 := (by injection e144)
   have qi144 : (0 < x1_2.length) = True := eq_true (by omega)
   (try rw [show ((0 : Int)).toNat = 0 from rfl] at hx144_0)
   (try rw [show 0 * 2 = 0 from rfl] at hx144_0)
   (try rw [Addr.add_zero'] at hx144_0)
   (try rw [show ((0 : Int)).toNat = 0 from rfl] at hx144_1)
   (try rw [show 0 * 2 = 0 from rfl] at hx144_1)
   (try rw [Addr.add_zero'] at hx144_1)
   replace p144 := eq_true p144
   replace q144 := eq_true q144
   refine start_ (n := 13) (S := fun w' => w'.cell? ad143 = some (.string ((rd_T44 x1_2 0).f0)) ∧ w'.cell? ⟨ad143.block, ad143.off + 1, none⟩ = some (.string ((rd_T44 x1_2 0).f1)) ∧ w'.cell? ad143 = some (.string ((rd_T44 x1_2 0).f0)) ∧ w'.cell? ⟨ad143.block, ad143.off + 1, none⟩ = some (.string ((rd_T44 x1_2 0).f1))) (ds := [10, 11]) (Ra_ [0, 13]) (by kernel_rfl) rfl rfl ⟨hx143_0, hx143_1, hx144_0, hx144_1⟩ (fun hHeld => ?_); refine with_tabW merkle_Diff.tab12 merkle_Diff.bits12 (fun HT_ HW_ => ?_)
   generalize w21.drew = w22 at HO_0 HO_1 HO_5 HB hx143_0 hx143_1 hx144_0 hx144_1 hHeld ⊢
   refine pI_ 0 (some 99) (Ra_ [1, 12]) (h := ?_)
   refine pI_ 1 (some 100) (Ra_ [2, 11]) (h := ?_)
   refine pI_ 2 (some 101) (Ra_ [3, 10]) (h := ?_)
   refine pI_ 3 (some 102) (Ra_ [4, 9]) (h := ?_)
   refine pI_ 5 (some 104) (Ra_ [4, 1, 1, 7]) (h := ?_)
   refine pI_ 6 (some 105) (Ra_ [4, 1, 2, 6]) (h := ?_)
   refine pI_ 7 (some 106) (Ra_ [4, 1, 3, 5]) (h := ?_)
   refine tI4_ 4 (some 103) (Ra_ [8, 5]) (h := ?_)
   refine tI4_ 8 (some 107) (Ra_ [9, 4]) (h := ?_)
   refine pI_ 9 (some 108) (Ra_ [10, 3]) (h := ?_)
   refine last_ (i := 10) (N := some 109) (Ra_ [11, 2]) rfl rfl (one_of HT_.out (by kernel_rfl)) (by decide) (fun K hK => ?_)
   refine value_ (w1 := ?_) (v := ?_) (by rfl) rfl ?_ ?_
   rotate_left 2
   ·go_simp
    constructor
    ·rfl
    rfl
   refine hK.out _ _ ?_
   clear hK K
   refine norm_ (a' := ?_) ?_ ?_
   rotate_left
   ·show Act.put _ (some 109) _ = _
    simp only [Act.put, sA_, sB_, sC_, i64_w, i32_w]
    rfl
   refine last_ (i := 11) (N := some 110) (Ra_ [12, 1]) rfl rfl (one_of HT_.out (by kernel_rfl)) (by decide) (fun K hK => ?_)
   refine Kd.R_append_step k66 (w0 := w) w.heap.size (by rfl) (.tmp 99) (.tmp 109) 61 66 (.agg #[(.string ⟨#[]⟩), (.string ⟨#[]⟩), (.string ⟨#[]⟩)]) 48 rfl Tryd.underlying61 info66 rfl (by decide) (by omega) u5 x5_2 (⟨(rd_T44 x1_2 0).f0, (⟨#[]⟩ : ByteArray), (rd_T44 x1_2 0).f1⟩ : S66) [.string ((rd_T44 x1_2 0).f0), .string (⟨#[]⟩ : ByteArray), .string ((rd_T44 x1_2 0).f1)] (fun k_ => (w.heap.size ≤ k_)) (fun _ => False) rfl rfl ?aP (fun _ hk => hk.elim) ?aF ?aO ?aB ?aS ?aL ?_
   (case aP => exact k66_mkM _ _ _ (⟨(rd_T44 x1_2 0).f0, (⟨#[]⟩ : ByteArray), (rd_T44 x1_2 0).f1⟩ : S66))
   (case aB => exact m7_)
   (case aF => exact (fun k_ hk => (Nat.le_trans (below_size m7_) hk)))
   (case aO => exact m16_)
   (case aS => exact (below_size m7_))
   (case aL => have := LMc16.out; omega)
   intro v146 w23 ho hb hg hat
   rw [← Ny145.out] at ho
   have n0_ := Aside0.mk (Kd.V_afterv (ok := (fun k_ => ((P0_ k_ ∨ P1_ k_) ∨ w.heap.size ≤ k_))) m14_ hg hat)
   have n1_ := Aside0.mk (Kd.V_afterv (ok := (fun k_ => ((P0_ k_ ∨ P1_ k_) ∨ w.heap.size ≤ k_))) (by (with_reducible repeat (first | apply Kd.V_alloc | apply Kd.V_drewN | apply Kd.V_drew)); exact HO_1.out) hg hat)
   have n2_ := Aside0.mk (hb)
   have n3_ := Aside0.mk (ho)
   clear HO_0 HO_1 HB HO_5
   have HO_0 := n0_
   have HO_1 := n1_
   have HB := n2_
   have HO147 := n3_
   clear n0_ n1_ n2_ n3_ ho hb hg hat
   refine hK.out _ _ ?_
   clear hK K
   refine norm_ (a' := ?_) ?_ ?_
   rotate_left
   ·show Act.put _ (some 110) _ = _
    simp only [Act.put, sA_, sB_, sC_, i64_w, i32_w]
    rfl
   refine pI_ 12 (some 5) (Ra_ [13]) (h := ?_)
   refine done_ (done_of HT_.out (by kernel_rfl)) ?_
   have q24 : (1 : Int) ≤ ((x1_2.length : Int) : Int) := of_decide_eq_true m18_
   obtain ⟨i024, hi024, _, hsz24, _⟩ := info_parts info44
   have hroom24 : x1_2.length ≤ co19 := (Kd.V_reads' HO_1.out).2.1
   have hC24 : Kd.F k44 _ _ (some ad143) x1_2.length x1_2 := (Kd.V_at (base := w.heap.size) HO_1.out).2.2
   have hcut24 := cut_from (P := Tryd.prog) 26 44 .i64 Tryd.underlying26 hi024 2 hsz24 (some ad143) x1_2.length co19 1 (by omega) q24
   have hr24 := Kd.F_cut (m := (1 : Int).toNat) (c := co19) hC24 (by omega) hroom24
   obtain ⟨A24, hA24⟩ : ∃ A1, A1 = (if co19 = (1 : Int).toNat then (some ad143) else ((some ad143) : Option Addr).map (·.add ((1 : Int).toNat * 2))) := ⟨_, rfl⟩
   obtain ⟨c24, hc24⟩ : ∃ c1, c1 = co19 - (1 : Int).toNat := ⟨_, rfl⟩
   have hy24 : y148.length = x1_2.length - (1 : Int).toNat := (by rw [Ny148.out, List.length_drop] <;> omega)
   rw [show (x1_2).drop (1 : Int).toNat = y148 from Ny148.out.symm] at hr24
   replace hr24 : Kd.F k44 _ _ A24 y148.length y148 := (by rw [hA24]; exact hr24)
   rw [← hy24, ← hA24, ← hc24] at hcut24
   have HO152 := Aside0.mk (show Kd.V k44 44 _ w.heap.size _ (.slice A24 y148.length c24) y148 from Kd.V_mk (by rw [hy24, hc24]; exact Nat.sub_le_sub_right hroom24 _) hr24)
   have HC152 := Aside0.mk (show y148.length ≤ c24 from by rw [hy24, hc24]; exact Nat.sub_le_sub_right hroom24 _)
   clear hr24 hC24 hroom24 hi024 hsz24 hc24
   have KY24 := Aside0.mk hy24
   have KA24 := Aside0.mk hA24
   clear hy24 hA24
   replace q24 := eq_true q24
   try go_wp2
   go_roundg k2
   case measure => have := HJ2.out; have := HK2.out; omega
   case rel => exact ⟨(x0_2), (y148), (y145), H', ⟨by have := HJ2.out; have := HK2.out; omega⟩, ⟨by (with_reducible repeat (first | apply Kd.V_alloc | apply Kd.V_drewN | apply Kd.V_drew)); exact HO_0.out⟩, ⟨by (with_reducible repeat (first | apply Kd.V_alloc | apply Kd.V_drewN | apply Kd.V_drew)); exact HO152.out⟩, ⟨by (with_reducible repeat (first | apply Kd.R_alloc | apply Kd.R_drewN | apply Kd.R_drew)); exact HO147.out⟩, ⟨m27_⟩⟩

end Go.Proofs.YtdeggemomajhcaaDoorH.HMerkleApplies
