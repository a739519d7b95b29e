-- PRINTED by print.py (a twelfth state) out of the translation. Not trusted: Lean checks it.
import Derived.Test.YtdeggemomajhcaaDoorHMerkleAppliesx0
import Derived.Test.YtdeggemomajhcaaDoorHMerkleAppliesx1
namespace Go.Proofs.YtdeggemomajhcaaDoorH.HMerkleApplies
open Go.RowKit Go.Proofs.YtdeggemomajhcaaDoorW.PrintWords Go.Proofs.YtdeggemomajhcaaDoorW.PrintLast Go.Proofs.YtdeggemomajhcaaDoorW.PrintMore
attribute [local go_sem] max2_int min2_int max_two min_two max_three min_three max_four min_four   -- for this text's walks alone
set_option linter.unusedVariables false
set_option linter.unusedSimpArgs false

attribute [local go_sem high] eqA39
/-! ### strongroomref20_Same: function 33 -/
def strongroomref20_Same.l0 : Nat → List (S39) → List (S39) → Int → Option (Bool)
 | 0, _, _, _ => none
 | k + 1, x0, x1, x5 => if x5 < (x0.length : Int) then (if 0 ≤ x5 then (if x5 < (x1.length : Int) then (if (!((((rd_T39 x0 x5).f0).toList) == (((rd_T39 x1 x5).f0).toList)) || (!((((rd_T39 x0 x5).f1).toList) == (((rd_T39 x1 x5).f1).toList)))) = true then (some false) else (strongroomref20_Same.l0 k x0 x1 (wrap64 (x5 + 1)))) else (none)) else (none)) else (some true)
def strongroomref20_Same.f (k : Nat) (l0 : List (S39)) (l1 : List (S39)) : Option (Bool) := if (l0.length : Int) = (l1.length : Int) then (strongroomref20_Same.l0 k l0 l1 0) else (some false)
theorem strongroomref20_Same.mono_l : ∀ k, (∀ y0 y1 y2, LeO (strongroomref20_Same.l0 k y0 y1 y2) (strongroomref20_Same.l0 (k + 1) y0 y1 y2))
 | 0 => fun _ _ _ r h => by simp [strongroomref20_Same.l0] at h
 | k + 1 => by
  have ih0 := strongroomref20_Same.mono_l k
  ·intro y0 y1 y2
   unfold strongroomref20_Same.l0
   repeat' first
   | (with_reducible exact ih0 _ _ _)
   | (with_reducible exact LeO.refl _)
   | (with_reducible exact LeO.none _)
   | (with_reducible refine LeO.ite ?_ ?_)
   | (with_reducible refine LeO.bind ?_ (fun _ => ?_))
   | exact ih0 _ _ _
   | exact LeO.none _
   | refine LeO.ite ?_ ?_
   | refine LeO.bind ?_ (fun _ => ?_)
theorem strongroomref20_Same.mono : ∀ a0 a1 k, LeO (strongroomref20_Same.f k a0 a1) (strongroomref20_Same.f (k + 1) a0 a1) := by
 intro a0 a1 k
 have ih0 := strongroomref20_Same.mono_l k
 unfold strongroomref20_Same.f
 repeat' first
   | (with_reducible exact ih0 _ _ _)
   | (with_reducible exact LeO.refl _)
   | (with_reducible exact LeO.none _)
   | (with_reducible refine LeO.ite ?_ ?_)
   | (with_reducible refine LeO.bind ?_ (fun _ => ?_))
   | exact ih0 _ _ _
   | exact LeO.none _
   | refine LeO.ite ?_ ?_
   | refine LeO.bind ?_ (fun _ => ?_)
set_option maxHeartbeats 8000000 in
set_option maxRecDepth 100000 in
theorem strongroomref20_Same.calls (k : Nat) (A0 : Option Addr) (c0 : Nat) (l0 : List (S39)) (A1 : Option Addr) (c1 : Nat) (l1 : List (S39)) (r : Bool) (w : World) (hr0 : Kd.C k39 w A0 l0.length l0) (hc0 : l0.length ≤ c0) (hr1 : Kd.C k39 w A1 l1.length l1) (hc1 : l1.length ≤ c1) (h : strongroomref20_Same.f k l0 l1 = some r) :
  Calls Tryd.prog 33 #[.slice A0 l0.length c0, .slice A1 l1.length c1] w fun e w' => e = .returned (.bool r) ∧ Drawn0 w w' := by
 have hu39 := Tryd.underlying39
 have HR0 := Aside0.mk hr0
 have HC0 := Aside0.mk hc0
 clear hr0 hc0
 have HR1 := Aside0.mk hr1
 have HC1 := Aside0.mk hc1
 clear hr1 hc1
 have H : (if (l0.length : Int) = (l1.length : Int) then (strongroomref20_Same.l0 k l0 l1 0) else (some false)) = some r := h
 clear h
 by_cases c3 : (l0.length : Int) = (l1.length : Int)
 case neg =>
  rw [if_neg c3] at H
  have c3b0 : ((l0.length : Int) == (l1.length : Int)) = false := beq_eq_false_iff_ne.mpr c3
  have c3b1 : ((l0.length : Int) != (l1.length : Int)) = true := bne_iff_ne.mpr c3
  have c3b2 : (l0.length == l1.length) = false := by first | simpa using c3 | (simp at c3 ⊢; omega)
  obtain rfl := Option.some.inj H
  go_enter Tryd.func33, Tryd.ntmps33
  go_wp2
  repeat (go_quiet (fail); try go_wp2)
  go_ret
  exact ⟨by first | rfl | (simp; done) | (simp [*]; done), m29_⟩
 rw [if_pos c3] at H
 have c3b0 : ((l0.length : Int) == (l1.length : Int)) = true := beq_iff_eq.mpr c3
 have c3b1 : ((l0.length : Int) != (l1.length : Int)) = false := bne_eq_false_iff_eq.mpr c3
 have c3b2 : (l0.length == l1.length) = true := by first | simpa using c3 | (simp at c3 ⊢; omega)
 clear c3
 have H' := Aside0.mk H
 clear H
 go_enter Tryd.func33, Tryd.ntmps33
 go_wp2
 repeat (go_quiet (fail); try go_wp2)
 go_loopg [5] k (fun kq v5 w' => ∃ (x5_1 : Int), v5 = .int .i64 x5_1 ∧ Aside0 (strongroomref20_Same.l0 kq l0 l1 x5_1 = some r) ∧ Aside0 (kq ≤ k) ∧ Drawn0 w w')
 case atStart => exact ⟨(0), m19_, H', ⟨Nat.le_refl _⟩, m29_⟩
 clear H'
 try clear c1; try clear p2; try clear c3; try clear c3b0; try clear c3b1; try clear c3b2
 obtain ⟨x5_1, rfl, HA, HK1, ⟨m1, rfl⟩⟩ := hrel
 cases gk with
 | zero => exact absurd HA.out (by simp [strongroomref20_Same.l0])
 | succ k1 =>
  have H := HA.out
  clear HA
  simp only [strongroomref20_Same.l0] at H
  by_cases c4 : x5_1 < (l0.length : Int)
  case neg =>
   rw [if_neg c4] at H
   have c4b0 : decide (x5_1 < (l0.length : Int)) = false := decide_eq_false c4
   clear c4
   obtain rfl := Option.some.inj H
   go_wp2
   repeat (go_quiet (fail); try go_wp2)
   go_ret
   exact ⟨by first | rfl | (simp; done) | (simp [*]; done), m29_⟩
  rw [if_pos c4] at H
  have c4b0 : decide (x5_1 < (l0.length : Int)) = true := decide_eq_true c4
  clear c4
  by_cases c5 : 0 ≤ x5_1
  case neg =>
   rw [if_neg c5] at H
   exact absurd H (by simp)
  rw [if_pos c5] at H
  have c5b0 : decide (0 ≤ x5_1) = true := decide_eq_true c5
  clear c5
  by_cases c6 : x5_1 < (l1.length : Int)
  case neg =>
   rw [if_neg c6] at H
   exact absurd H (by simp)
  rw [if_pos c6] at H
  have c6b0 : decide (x5_1 < (l1.length : Int)) = true := decide_eq_true c6
  clear c6
  by_cases c7 : (!((((rd_T39 l0 x5_1).f0).toList) == (((rd_T39 l1 x5_1).f0).toList)) || (!((((rd_T39 l0 x5_1).f1).toList) == (((rd_T39 l1 x5_1).f1).toList)))) = true
  ·rw [if_pos c7] at H
   have c7b0 : (!((((rd_T39 l0 x5_1).f0).toList) == (((rd_T39 l1 x5_1).f0).toList)) || (!((((rd_T39 l0 x5_1).f1).toList) == (((rd_T39 l1 x5_1).f1).toList)))) = true := c7
   clear c7
   obtain rfl := Option.some.inj H
   have p233 : 0 ≤ (x5_1 : Int) := of_decide_eq_true m18_
   have q233 : x5_1 < (l0.length : Int) := of_decide_eq_true m18_
   obtain ⟨ad233, e233, hx233_0, hx233_1⟩ := at_T39 HR0.out x5_1 p233 q233
   cases e233
   replace p233 := eq_true p233
   replace q233 := eq_true q233
   have p234 : 0 ≤ (x5_1 : Int) := of_decide_eq_true m18_
   have q234 : x5_1 < (l1.length : Int) := of_decide_eq_true m18_
   obtain ⟨ad234, e234, hx234_0, hx234_1⟩ := at_T39 HR1.out x5_1 p234 q234
   cases e234
   replace p234 := eq_true p234
   replace q234 := eq_true q234
   go_wp2
   repeat (go_quiet (fail); try go_wp2)
   go_ret
   exact ⟨by first | rfl | (simp; done) | (simp [*]; done), m29_⟩
  rw [if_neg c7] at H
  have c7b0 : (!((((rd_T39 l0 x5_1).f0).toList) == (((rd_T39 l1 x5_1).f0).toList)) || (!((((rd_T39 l0 x5_1).f1).toList) == (((rd_T39 l1 x5_1).f1).toList)))) = false := by simpa using c7
  clear c7
  have H' := Aside0.mk H
  clear H
  have p233 : 0 ≤ (x5_1 : Int) := of_decide_eq_true m18_
  have q233 : x5_1 < (l0.length : Int) := of_decide_eq_true m18_
  obtain ⟨ad233, e233, hx233_0, hx233_1⟩ := at_T39 HR0.out x5_1 p233 q233
  cases e233
  replace p233 := eq_true p233
  replace q233 := eq_true q233
  have p234 : 0 ≤ (x5_1 : Int) := of_decide_eq_true m18_
  have q234 : x5_1 < (l1.length : Int) := of_decide_eq_true m18_
  obtain ⟨ad234, e234, hx234_0, hx234_1⟩ := at_T39 HR1.out x5_1 p234 q234
  cases e234
  replace p234 := eq_true p234
  replace q234 := eq_true q234
  go_wp2
  repeat (go_quiet (fail); try go_wp2)
  go_roundg k1
  case measure => have := HK1.out; omega
  case rel => exact ⟨(wrap64 (x5_1 + 1)), m19_, H', ⟨by have := HK1.out; omega⟩, m29_⟩

/-! ### strongroomlaw20_theirs: function 34 -/
def strongroomlaw20_theirs.l0 : Nat → List (S44) → List (S39) → Int → Option ((List (S39)))
 | 0, _, _, _ => none
 | k + 1, x0, x3, x4 => if x4 < (x0.length : Int) then (if 0 ≤ x4 then (if x3.length < 4398046511104 then (strongroomlaw20_theirs.l0 k x0 (x3 ++ [(⟨(rd_T44 x0 x4).f0, (rd_T44 x0 x4).f1⟩ : S39)]) (wrap64 (x4 + 1))) else (none)) else (none)) else (some x3)
def strongroomlaw20_theirs.f (k : Nat) (l0 : List (S44)) : Option ((List (S39))) := strongroomlaw20_theirs.l0 k l0 ([] : List (S39)) 0
theorem strongroomlaw20_theirs.mono_l : ∀ k, (∀ y0 y1 y2, LeO (strongroomlaw20_theirs.l0 k y0 y1 y2) (strongroomlaw20_theirs.l0 (k + 1) y0 y1 y2))
 | 0 => fun _ _ _ r h => by simp [strongroomlaw20_theirs.l0] at h
 | k + 1 => by
  have ih0 := strongroomlaw20_theirs.mono_l k
  ·intro y0 y1 y2
   unfold strongroomlaw20_theirs.l0
   repeat' first
   | (with_reducible exact ih0 _ _ _)
   | (with_reducible exact LeO.refl _)
   | (with_reducible exact LeO.none _)
   | (with_reducible refine LeO.ite ?_ ?_)
   | (with_reducible refine LeO.bind ?_ (fun _ => ?_))
   | exact ih0 _ _ _
   | exact LeO.none _
   | refine LeO.ite ?_ ?_
   | refine LeO.bind ?_ (fun _ => ?_)
theorem strongroomlaw20_theirs.mono : ∀ a0 k, LeO (strongroomlaw20_theirs.f k a0) (strongroomlaw20_theirs.f (k + 1) a0) := by
 intro a0 k
 have ih0 := strongroomlaw20_theirs.mono_l k
 unfold strongroomlaw20_theirs.f
 repeat' first
   | (with_reducible exact ih0 _ _ _)
   | (with_reducible exact LeO.refl _)
   | (with_reducible exact LeO.none _)
   | (with_reducible refine LeO.ite ?_ ?_)
   | (with_reducible refine LeO.bind ?_ (fun _ => ?_))
   | exact ih0 _ _ _
   | exact LeO.none _
   | refine LeO.ite ?_ ?_
   | refine LeO.bind ?_ (fun _ => ?_)
def strongroomlaw20_theirs.T5 : Bool × List (List Nat × List Nat) := (true, [([], []), ([], []), ([], []), ([1, 2], [1, 2]), ([3], [3]), ([4], [4]), ([], []), ([], []), ([6, 7], [6, 7]), ([8], [8]), ([9], [9]), ([5, 10], [5, 10]), ([11], [11]), ([0, 12], [0, 12]), ([13, 13, 0, 1, 2, 3, 4, 5, 6, 7, 8, 9, 10, 11, 12, 13], [0, 13])])
def strongroomlaw20_theirs.B5 : List Nat := [0, 0, 0, 6, 14, 30, 0, 0, 192, 448, 960, 2046, 4094, 8191, 16383]
theorem strongroomlaw20_theirs.tab5 : rtab .any (opsOf Tryd.f34 5) = strongroomlaw20_theirs.T5 := by kernel_rfl
theorem strongroomlaw20_theirs.bits5 : waitsOk strongroomlaw20_theirs.T5.2 strongroomlaw20_theirs.B5 = true := by kernel_rfl
set_option maxHeartbeats 8000000 in
set_option maxRecDepth 100000 in
theorem strongroomlaw20_theirs.calls (k : Nat) (A0 : Option Addr) (c0 : Nat) (l0 : List (S44)) (r : List (S39)) (w : World) (hr0 : Kd.C k44 w A0 l0.length l0) (hc0 : l0.length ≤ c0) (h : strongroomlaw20_theirs.f k l0 = some r) :
  Calls Tryd.prog 34 #[.slice A0 l0.length c0] w fun e w' => ∃ v0_ : Value, e = .returned (v0_) ∧ Kd.R k39 39 w' w.heap.size (fun _ => True) v0_ r ∧ Below w.heap.size w w' := by
 have hu39 := Tryd.underlying39
 have HR0 := Aside0.mk hr0
 have HC0 := Aside0.mk hc0
 clear hr0 hc0
 have HB := Aside0.mk (Below.refl w.heap.size w)
 have H : (strongroomlaw20_theirs.l0 k l0 ([] : List (S39)) 0) = some r := h
 clear h
 have H' := Aside0.mk H
 clear H
 go_enter Tryd.func34, Tryd.ntmps34
 go_wp2
 go_loopg [3, 4] k (fun kq v3 v4 w' => ∃ (x3_1 : List (S39)) (x4_1 : Int), v4 = .int .i64 x4_1 ∧ Aside0 (strongroomlaw20_theirs.l0 kq l0 x3_1 x4_1 = some r) ∧ Aside0 (kq ≤ k) ∧ Aside0 (Kd.R k39 39 w' w.heap.size (fun _ => True) v3 x3_1) ∧ Aside0 (Below w.heap.size w w'))
 case atStart => exact ⟨(([] : List (S39))), (0), m19_, H', ⟨Nat.le_refl _⟩, ⟨by first | exact Kd.R_nil _ _ _ _ _ | exact Kd.N_nil _ _ _ _ _ | exact Kd.V_nil _ _ _ _ _ | exact Kd.Q_nil _ _ _ _ _ | exact Kd.S_nil _ _ _ _ _⟩, ⟨m27_⟩⟩
 clear H'
 obtain ⟨x3_1, x4_1, rfl, HA, HK1, HO_3, HB⟩ := hrel
 cases gk with
 | zero => exact absurd HA.out (by simp [strongroomlaw20_theirs.l0])
 | succ k1 =>
  have H := HA.out
  clear HA
  simp only [strongroomlaw20_theirs.l0] at H
  by_cases c2 : x4_1 < (l0.length : Int)
  case neg =>
   rw [if_neg c2] at H
   have c2b0 : decide (x4_1 < (l0.length : Int)) = false := decide_eq_false c2
   clear c2
   obtain rfl := Option.some.inj H
   go_wp2
   go_ret
   exact ⟨_, by first | rfl | (simp [errW_none, errW_some] <;> rfl) | (simp [*, errW_none, errW_some] <;> rfl), by (with_reducible repeat (first | apply Kd.R_alloc | apply Kd.R_drewN | apply Kd.R_drew)); exact HO_3.out, m27_⟩
  rw [if_pos c2] at H
  have c2b0 : decide (x4_1 < (l0.length : Int)) = true := decide_eq_true c2
  clear c2
  by_cases c3 : 0 ≤ x4_1
  case neg =>
   rw [if_neg c3] at H
   exact absurd H (by simp)
  rw [if_pos c3] at H
  have c3b0 : decide (0 ≤ x4_1) = true := decide_eq_true c3
  clear c3
  by_cases c4 : x3_1.length < 4398046511104
  case neg =>
   rw [if_neg c4] at H
   exact absurd H (by simp)
  rw [if_pos c4] at H
  have LMc4 := Aside0.mk c4
  clear c4
  obtain ⟨y237, hy237⟩ : ∃ y_ : List (S39), y_ = (x3_1 ++ [(⟨(rd_T44 l0 x4_1).f0, (rd_T44 l0 x4_1).f1⟩ : S39)]) := ⟨_, rfl⟩
  replace H : (strongroomlaw20_theirs.l0 k1 l0 y237 (wrap64 (x4_1 + 1))) = some r := by first | (rw [hy237]; with_reducible exact H) | (have H2_ := (Option.bind_some _ _).symm.trans H; rw [hy237]; with_reducible exact H2_) | (have H2_ := (Option.bind_some _ _).symm.trans H; with_reducible exact H2_) | with_reducible exact H | (rw [hy237]; exact H) | exact H
  have Ny237 := Aside0.mk hy237
  clear hy237
  have H' := Aside0.mk H
  clear H
  try go_wp2
  replace HO_3 := Aside0.mk (Kd.R_drew HO_3.out)
  replace HB := Aside0.mk (below_drew1 HB.out)
  have p235 : 0 ≤ (x4_1 : Int) := of_decide_eq_true m18_
  have q235 : x4_1 < (l0.length : Int) := of_decide_eq_true m18_
  obtain ⟨ad235, e235, hx235_0, hx235_1⟩ := at_T44 HR0.out x4_1 p235 q235
  have hw235_1 := hx235_1
  have hw235_0 := hx235_0
  cases e235
  replace hx235_0 := (HB.out.cell (World.block_lt_of_cell? w _ hx235_0)).trans hx235_0
  replace hx235_1 := (HB.out.cell (World.block_lt_of_cell? w _ hx235_1)).trans hx235_1
  replace p235 := eq_true p235
  replace q235 := eq_true q235
  have p236 : 0 ≤ (x4_1 : Int) := of_decide_eq_true m18_
  have q236 : x4_1 < (l0.length : Int) := of_decide_eq_true m18_
  obtain ⟨ad236, e236, hx236_0, hx236_1⟩ := at_T44 HR0.out x4_1 p236 q236
  have hw236_1 := hx236_1
  have hw236_0 := hx236_0
  obtain rfl : ad235 = ad236 := (by injection e236)
  replace hx236_0 := (HB.out.cell (World.block_lt_of_cell? w _ hx236_0)).trans hx236_0
  replace hx236_1 := (HB.out.cell (World.block_lt_of_cell? w _ hx236_1)).trans hx236_1
  replace p236 := eq_true p236
  replace q236 := eq_true q236
  refine start_ (n := 15) (S := fun w' => w'.cell? (ad235.add ((x4_1).toNat * 2)) = some (.string ((rd_T44 l0 x4_1).f0)) ∧ w'.cell? ⟨(ad235.add ((x4_1).toNat * 2)).block, (ad235.add ((x4_1).toNat * 2)).off + 1, none⟩ = some (.string ((rd_T44 l0 x4_1).f1)) ∧ w'.cell? (ad235.add ((x4_1).toNat * 2)) = some (.string ((rd_T44 l0 x4_1).f0)) ∧ w'.cell? ⟨(ad235.add ((x4_1).toNat * 2)).block, (ad235.add ((x4_1).toNat * 2)).off + 1, none⟩ = some (.string ((rd_T44 l0 x4_1).f1))) (ds := []) (Ra_ [0, 15]) (by kernel_rfl) rfl rfl ⟨((HB.out.cell (World.block_lt_of_cell? w _ hw235_0)).trans hw235_0), ((HB.out.cell (World.block_lt_of_cell? w _ hw235_1)).trans hw235_1), ((HB.out.cell (World.block_lt_of_cell? w _ hw236_0)).trans hw236_0), ((HB.out.cell (World.block_lt_of_cell? w _ hw236_1)).trans hw236_1)⟩ (fun hHeld => ?_); refine with_tabW strongroomlaw20_theirs.tab5 strongroomlaw20_theirs.bits5 (fun HT_ HW_ => ?_)
  generalize wr.drew = w5 at HO_3 HB hx235_0 hx235_1 hx236_0 hx236_1 hHeld ⊢
  refine pI_ 0 (some 11) (Ra_ [1, 14]) (h := ?_)
  refine pI_ 1 (some 12) (Ra_ [2, 13]) (h := ?_)
  refine pI_ 2 (some 13) (Ra_ [3, 12]) (h := ?_)
  refine pI_ 3 (some 14) (Ra_ [4, 11]) (h := ?_)
  refine pI_ 4 (some 15) (Ra_ [5, 10]) (h := ?_)
  refine pI_ 6 (some 17) (Ra_ [5, 1, 1, 8]) (h := ?_)
  refine pI_ 7 (some 18) (Ra_ [5, 1, 2, 7]) (h := ?_)
  refine pI_ 8 (some 19) (Ra_ [5, 1, 3, 6]) (h := ?_)
  refine pI_ 9 (some 20) (Ra_ [5, 1, 4, 5]) (h := ?_)
  refine tI4_ 5 (some 16) (Ra_ [10, 5]) (h := ?_)
  refine tI4_ 10 (some 21) (Ra_ [11, 4]) (h := ?_)
  refine pI_ 11 (some 22) (Ra_ [12, 3]) (h := ?_)
  refine one_ (i := 12) (N := some 23) (Ra_ [13, 2]) rfl rfl (one_of HT_.out (by kernel_rfl)) (by decide) (fun K hK => ?_)
  refine value_ (w1 := ?_) (v := ?_) (by rfl) rfl ?_ ?_
  rotate_left 2
  ·go_simp
   constructor
   ·rfl
   rfl
  refine hK.out _ _ ⟨(World.cell?_alloc_lt _ _ _ (World.block_lt_of_cell? _ _ (((HB.out.cell (World.block_lt_of_cell? w _ hw235_0)).trans hw235_0)))).trans (((HB.out.cell (World.block_lt_of_cell? w _ hw235_0)).trans hw235_0)), (World.cell?_alloc_lt _ _ _ (World.block_lt_of_cell? _ _ (((HB.out.cell (World.block_lt_of_cell? w _ hw235_1)).trans hw235_1)))).trans (((HB.out.cell (World.block_lt_of_cell? w _ hw235_1)).trans hw235_1)), (World.cell?_alloc_lt _ _ _ (World.block_lt_of_cell? _ _ (((HB.out.cell (World.block_lt_of_cell? w _ hw236_0)).trans hw236_0)))).trans (((HB.out.cell (World.block_lt_of_cell? w _ hw236_0)).trans hw236_0)), (World.cell?_alloc_lt _ _ _ (World.block_lt_of_cell? _ _ (((HB.out.cell (World.block_lt_of_cell? w _ hw236_1)).trans hw236_1)))).trans (((HB.out.cell (World.block_lt_of_cell? w _ hw236_1)).trans hw236_1))⟩ (fun hHeld => ?_)
  clear hK K
  refine norm_ (a' := ?_) ?_ ?_
  rotate_left
  ·show Act.put _ (some 23) _ = _
   simp only [Act.put, sA_, sB_, sC_, i64_w, i32_w]
   rfl
  refine one_ (i := 13) (N := some 24) (Ra_ [14, 1]) rfl rfl (one_of HT_.out (by kernel_rfl)) (by decide) (fun K hK => ?_)
  refine Kd.R_append_step k39 (w0 := w) w.heap.size (by rfl) (.tmp 11) (.tmp 23) 22 39 (.agg #[(.string ⟨#[]⟩), (.string ⟨#[]⟩)]) 32 rfl Tryd.underlying22 info39 rfl (by decide) (by omega) u3 x3_1 (⟨(rd_T44 l0 x4_1).f0, (rd_T44 l0 x4_1).f1⟩ : S39) [.string ((rd_T44 l0 x4_1).f0), .string ((rd_T44 l0 x4_1).f1)] (fun _ => True) (fun _ => False) rfl rfl ?aP (fun _ hk => hk.elim) ?aF ?aO ?aB ?aS ?aL ?_
  (case aP => exact k39_mkM _ _ _ (⟨(rd_T44 l0 x4_1).f0, (rd_T44 l0 x4_1).f1⟩ : S39))
  (case aB => exact m7_)
  (case aF => exact (fun _ _ => trivial))
  (case aO => exact (by (with_reducible repeat (first | apply Kd.R_alloc | apply Kd.R_drewN | apply Kd.R_drew)); exact HO_3.out))
  (case aS => exact (below_size m7_))
  (case aL => have := LMc4.out; omega)
  intro v238 w6 ho hb hg hat
  rw [← Ny237.out] at ho
  have n0_ := Aside0.mk (hb)
  have n1_ := Aside0.mk (ho)
  clear HB HO_3
  have HB := n0_
  have HO239 := n1_
  clear n0_ n1_ ho hb hg hat
  refine hK.out _ _ ⟨((HB.out.cell (World.block_lt_of_cell? w _ hw235_0)).trans hw235_0), ((HB.out.cell (World.block_lt_of_cell? w _ hw235_1)).trans hw235_1), ((HB.out.cell (World.block_lt_of_cell? w _ hw236_0)).trans hw236_0), ((HB.out.cell (World.block_lt_of_cell? w _ hw236_1)).trans hw236_1)⟩ (fun hHeld => ?_)
  clear hK K
  refine norm_ (a' := ?_) ?_ ?_
  rotate_left
  ·show Act.put _ (some 24) _ = _
   simp only [Act.put, sA_, sB_, sC_, i64_w, i32_w]
   rfl
  refine pI_ 14 (some 3) (Ra_ [15]) (h := ?_)
  refine done_ (done_of HT_.out (by kernel_rfl)) ?_
  try go_wp2
  go_roundg k1
  case measure => have := HK1.out; omega
  case rel => exact ⟨(y237), (wrap64 (x4_1 + 1)), m19_, H', ⟨by have := HK1.out; omega⟩, ⟨by (with_reducible repeat (first | apply Kd.R_alloc | apply Kd.R_drewN | apply Kd.R_drew)); exact HO239.out⟩, ⟨m27_⟩⟩

/-! ### strongroomref20_Find: function 40 -/
def strongroomref20_Find.l0 : Nat → List (S39) → ByteArray → Int → Int → Option (Int × Bool)
 | 0, _, _, _, _ => none
 | k + 1, x0, x1, x6, x7 => if x7 < (x0.length : Int) then (if 0 ≤ x7 then (if ((rd_T39 x0 x7).f0).toList = x1.toList then (some (x7, true)) else (if (Op.bytesLess (((rd_T39 x0 x7).f0).toList) x1.toList) = true then (strongroomref20_Find.l0 k x0 x1 (wrap64 (x6 + 1)) (wrap64 (x7 + 1))) else (strongroomref20_Find.l0 k x0 x1 x6 (wrap64 (x7 + 1))))) else (none)) else (some (x6, false))
def strongroomref20_Find.f (k : Nat) (l0 : List (S39)) (a1 : ByteArray) : Option (Int × Bool) := strongroomref20_Find.l0 k l0 a1 0 0
theorem strongroomref20_Find.mono_l : ∀ k, (∀ y0 y1 y2 y3, LeO (strongroomref20_Find.l0 k y0 y1 y2 y3) (strongroomref20_Find.l0 (k + 1) y0 y1 y2 y3))
 | 0 => fun _ _ _ _ r h => by simp [strongroomref20_Find.l0] at h
 | k + 1 => by
  have ih0 := strongroomref20_Find.mono_l k
  ·intro y0 y1 y2 y3
   unfold strongroomref20_Find.l0
   repeat' first
   | (with_reducible exact ih0 _ _ _ _)
   | (with_reducible exact LeO.refl _)
   | (with_reducible exact LeO.none _)
   | (with_reducible refine LeO.ite ?_ ?_)
   | (with_reducible refine LeO.bind ?_ (fun _ => ?_))
   | exact ih0 _ _ _ _
   | exact LeO.none _
   | refine LeO.ite ?_ ?_
   | refine LeO.bind ?_ (fun _ => ?_)
theorem strongroomref20_Find.mono : ∀ a0 a1 k, LeO (strongroomref20_Find.f k a0 a1) (strongroomref20_Find.f (k + 1) a0 a1) := by
 intro a0 a1 k
 have ih0 := strongroomref20_Find.mono_l k
 unfold strongroomref20_Find.f
 repeat' first
   | (with_reducible exact ih0 _ _ _ _)
   | (with_reducible exact LeO.refl _)
   | (with_reducible exact LeO.none _)
   | (with_reducible refine LeO.ite ?_ ?_)
   | (with_reducible refine LeO.bind ?_ (fun _ => ?_))
   | exact ih0 _ _ _ _
   | exact LeO.none _
   | refine LeO.ite ?_ ?_
   | refine LeO.bind ?_ (fun _ => ?_)
set_option maxHeartbeats 8000000 in
set_option maxRecDepth 100000 in
theorem strongroomref20_Find.calls (k : Nat) (A0 : Option Addr) (c0 : Nat) (l0 : List (S39)) (a1 : ByteArray) (r1 : Int) (r2 : Bool) (w : World) (hr0 : Kd.C k39 w A0 l0.length l0) (hc0 : l0.length ≤ c0) (h : strongroomref20_Find.f k l0 a1 = some (r1, r2)) :
  Calls Tryd.prog 40 #[.slice A0 l0.length c0, .string a1] w fun e w' => e = .returned (.tuple #[.int .i64 r1, .bool r2]) ∧ Drawn0 w w' := by
 have HR0 := Aside0.mk hr0
 have HC0 := Aside0.mk hc0
 clear hr0 hc0
 have H : (strongroomref20_Find.l0 k l0 a1 0 0) = some (r1, r2) := h
 clear h
 have H' := Aside0.mk H
 clear H
 go_enter Tryd.func40, Tryd.ntmps40
 go_wp2
 go_loopg [6, 7] k (fun kq v6 v7 w' => ∃ (x6_1 : Int) (x7_1 : Int), v6 = .int .i64 x6_1 ∧ v7 = .int .i64 x7_1 ∧ Aside0 (strongroomref20_Find.l0 kq l0 a1 x6_1 x7_1 = some (r1, r2)) ∧ Aside0 (kq ≤ k) ∧ Drawn0 w w')
 case atStart => exact ⟨(0), (0), m19_, m19_, H', ⟨Nat.le_refl _⟩, m29_⟩
 clear H'
 try clear p2
 obtain ⟨x6_1, x7_1, rfl, rfl, HA, HK1, ⟨m1, rfl⟩⟩ := hrel
 cases gk with
 | zero => exact absurd HA.out (by simp [strongroomref20_Find.l0])
 | succ k1 =>
  have H := HA.out
  clear HA
  simp only [strongroomref20_Find.l0] at H
  by_cases c3 : x7_1 < (l0.length : Int)
  case neg =>
   rw [if_neg c3] at H
   have c3b0 : decide (x7_1 < (l0.length : Int)) = false := decide_eq_false c3
   clear c3
   simp only [Option.some.injEq, Prod.mk.injEq] at H
   obtain ⟨rfl, rfl⟩ := H
   go_wp2
   go_ret2
   exact ⟨by first | rfl | (simp; done) | (simp [*]; done), m29_⟩
  rw [if_pos c3] at H
  have c3b0 : decide (x7_1 < (l0.length : Int)) = true := decide_eq_true c3
  clear c3
  by_cases c4 : 0 ≤ x7_1
  case neg =>
   rw [if_neg c4] at H
   exact absurd H (by simp)
  rw [if_pos c4] at H
  have c4b0 : decide (0 ≤ x7_1) = true := decide_eq_true c4
  clear c4
  by_cases c5 : ((rd_T39 l0 x7_1).f0).toList = a1.toList
  ·rw [if_pos c5] at H
   have c5b0 : (((rd_T39 l0 x7_1).f0).toList == a1.toList) = true := beq_iff_eq.mpr c5
   have c5b1 : (((rd_T39 l0 x7_1).f0).toList != a1.toList) = false := bne_eq_false_iff_eq.mpr c5
   clear c5
   simp only [Option.some.injEq, Prod.mk.injEq] at H
   obtain ⟨rfl, rfl⟩ := H
   have p240 : 0 ≤ (x7_1 : Int) := of_decide_eq_true m18_
   have q240 : x7_1 < (l0.length : Int) := of_decide_eq_true m18_
   obtain ⟨ad240, e240, hx240_0, hx240_1⟩ := at_T39 HR0.out x7_1 p240 q240
   cases e240
   replace p240 := eq_true p240
   replace q240 := eq_true q240
   go_wp2
   go_ret2
   exact ⟨by first | rfl | (simp; done) | (simp [*]; done), m29_⟩
  rw [if_neg c5] at H
  have c5b0 : (((rd_T39 l0 x7_1).f0).toList == a1.toList) = false := beq_eq_false_iff_ne.mpr c5
  have c5b1 : (((rd_T39 l0 x7_1).f0).toList != a1.toList) = true := bne_iff_ne.mpr c5
  by_cases c6 : (Op.bytesLess (((rd_T39 l0 x7_1).f0).toList) a1.toList) = true
  ·rw [if_pos c6] at H
   have c6b0 : (Op.bytesLess (((rd_T39 l0 x7_1).f0).toList) a1.toList) = true := c6
   clear c6
   have H' := Aside0.mk H
   clear H
   have p240 : 0 ≤ (x7_1 : Int) := of_decide_eq_true m18_
   have q240 : x7_1 < (l0.length : Int) := of_decide_eq_true m18_
   obtain ⟨ad240, e240, hx240_0, hx240_1⟩ := at_T39 HR0.out x7_1 p240 q240
   cases e240
   replace p240 := eq_true p240
   replace q240 := eq_true q240
   have p241 : 0 ≤ (x7_1 : Int) := of_decide_eq_true m18_
   have q241 : x7_1 < (l0.length : Int) := of_decide_eq_true m18_
   obtain ⟨ad241, e241, hx241_0, hx241_1⟩ := at_T39 HR0.out x7_1 p241 q241
   obtain rfl : ad240 = ad241 := (by injection e241)
   replace p241 := eq_true p241
   replace q241 := eq_true q241
   go_wp2
   go_roundg k1
   case measure => have := HK1.out; omega
   case rel => exact ⟨(wrap64 (x6_1 + 1)), (wrap64 (x7_1 + 1)), m19_, m19_, H', ⟨by have := HK1.out; omega⟩, m29_⟩
  rw [if_neg c6] at H
  have c6b0 : (Op.bytesLess (((rd_T39 l0 x7_1).f0).toList) a1.toList) = false := by simpa using c6
  clear c6
  have H' := Aside0.mk H
  clear H
  have p240 : 0 ≤ (x7_1 : Int) := of_decide_eq_true m18_
  have q240 : x7_1 < (l0.length : Int) := of_decide_eq_true m18_
  obtain ⟨ad240, e240, hx240_0, hx240_1⟩ := at_T39 HR0.out x7_1 p240 q240
  cases e240
  replace p240 := eq_true p240
  replace q240 := eq_true q240
  have p241 : 0 ≤ (x7_1 : Int) := of_decide_eq_true m18_
  have q241 : x7_1 < (l0.length : Int) := of_decide_eq_true m18_
  obtain ⟨ad241, e241, hx241_0, hx241_1⟩ := at_T39 HR0.out x7_1 p241 q241
  obtain rfl : ad240 = ad241 := (by injection e241)
  replace p241 := eq_true p241
  replace q241 := eq_true q241
  go_wp2
  go_roundg k1
  case measure => have := HK1.out; omega
  case rel => exact ⟨(x6_1), (wrap64 (x7_1 + 1)), m19_, m19_, H', ⟨by have := HK1.out; omega⟩, m29_⟩

/-! ### strongroomref20_sumOf: function 56 -/
def strongroomref20_sumOf.f (k : Nat) (l0 : List (S39)) (a1 : ByteArray) : Option (ByteArray) := (strongroomref20_Find.f k l0 a1).bind fun bt242 => (if bt242.2 = true then (if 0 ≤ bt242.1 then (if bt242.1 < (l0.length : Int) then (some ((rd_T39 l0 bt242.1).f1)) else (none)) else (none)) else (some (⟨#[]⟩ : ByteArray)))
theorem strongroomref20_sumOf.mono : ∀ a0 a1 k, LeO (strongroomref20_sumOf.f k a0 a1) (strongroomref20_sumOf.f (k + 1) a0 a1) := by
 intro a0 a1 k
 unfold strongroomref20_sumOf.f
 repeat' first
   | (with_reducible exact strongroomref20_Find.mono _ _ _)
   | (with_reducible exact LeO.refl _)
   | (with_reducible exact LeO.none _)
   | (with_reducible refine LeO.ite ?_ ?_)
   | (with_reducible refine LeO.bind ?_ (fun _ => ?_))
   | exact strongroomref20_Find.mono _ _ _
   | exact LeO.none _
   | refine LeO.ite ?_ ?_
   | refine LeO.bind ?_ (fun _ => ?_)
set_option maxHeartbeats 8000000 in
set_option maxRecDepth 100000 in
theorem strongroomref20_sumOf.calls (k : Nat) (A0 : Option Addr) (c0 : Nat) (l0 : List (S39)) (a1 : ByteArray) (r : ByteArray) (w : World) (hr0 : Kd.C k39 w A0 l0.length l0) (hc0 : l0.length ≤ c0) (h : strongroomref20_sumOf.f k l0 a1 = some r) :
  Calls Tryd.prog 56 #[.slice A0 l0.length c0, .string a1] w fun e w' => e = .returned (.string r) ∧ Drawn0 w w' := by
 have HR0 := Aside0.mk hr0
 have HC0 := Aside0.mk hc0
 clear hr0 hc0
 have H : ((strongroomref20_Find.f k l0 a1).bind fun bt242 => (if bt242.2 = true then (if 0 ≤ bt242.1 then (if bt242.1 < (l0.length : Int) then (some ((rd_T39 l0 bt242.1).f1)) else (none)) else (none)) else (some (⟨#[]⟩ : ByteArray)))) = some r := h
 clear h
 replace H := Option.bind_eq_some_iff.mp H
 obtain ⟨⟨t242, t243⟩, A30, H⟩ := H
 replace H : (if t243 = true then (if 0 ≤ t242 then (if t242 < (l0.length : Int) then (some ((rd_T39 l0 t242).f1)) else (none)) else (none)) else (some (⟨#[]⟩ : ByteArray))) = some r := H
 have A3 := Aside0.mk A30
 clear A30
 by_cases c4 : t243 = true
 case neg =>
  replace c4 := Bool.eq_false_iff.mpr c4
  subst c4
  have H1 : (some (⟨#[]⟩ : ByteArray)) = some r := by rw [if_neg (show ¬ (false = true) by decide)] at H; exact H
  clear H
  have H := H1
  clear H1
  obtain rfl := Option.some.inj H
  go_enter Tryd.func56, Tryd.ntmps56
  go_wp2_with (first | ((with_reducible refine gate_callee (f := 40) rfl ?_); refine goesL_ (some 10) rfl rfl Tryd.func40 (by kernel_rfl) rfl #[.slice A0 l0.length c0, .string a1] rfl m6_ ?_; (with_reducible refine (strongroomref20_Find.calls k _ _ l0 a1 t242 false _ ?side1 ?side2 A3.out).mono ?_); (case side1 => repeat (first | exact HR0.out | (with_reducible refine Kd.C_alloc ?_ _) | (with_reducible refine Kd.C_drewN ?_ _) | (with_reducible refine Kd.C_drew ?_))); (case side2 => exact HC0.out); rintro e w' ⟨rfl, ⟨nd, rfl⟩⟩; refine ⟨_, rfl, ?_⟩))
  go_ret
  exact ⟨by first | rfl | (simp; done) | (simp [*]; done), m29_⟩
 subst c4
 have H1 : (if 0 ≤ t242 then (if t242 < (l0.length : Int) then (some ((rd_T39 l0 t242).f1)) else (none)) else (none)) = some r := by rw [if_pos rfl] at H; exact H
 clear H
 have H := H1
 clear H1
 by_cases c5 : 0 ≤ t242
 case neg =>
  rw [if_neg c5] at H
  exact absurd H (by simp)
 rw [if_pos c5] at H
 have c5b0 : decide (0 ≤ t242) = true := decide_eq_true c5
 clear c5
 by_cases c6 : t242 < (l0.length : Int)
 case neg =>
  rw [if_neg c6] at H
  exact absurd H (by simp)
 rw [if_pos c6] at H
 have c6b0 : decide (t242 < (l0.length : Int)) = true := decide_eq_true c6
 clear c6
 obtain rfl := Option.some.inj H
 go_enter Tryd.func56, Tryd.ntmps56
 go_wp2_with (first | ((with_reducible refine gate_callee (f := 40) rfl ?_); refine goesL_ (some 10) rfl rfl Tryd.func40 (by kernel_rfl) rfl #[.slice A0 l0.length c0, .string a1] rfl m6_ ?_; (with_reducible refine (strongroomref20_Find.calls k _ _ l0 a1 t242 true _ ?side1 ?side2 A3.out).mono ?_); (case side1 => repeat (first | exact HR0.out | (with_reducible refine Kd.C_alloc ?_ _) | (with_reducible refine Kd.C_drewN ?_ _) | (with_reducible refine Kd.C_drew ?_))); (case side2 => exact HC0.out); rintro e w' ⟨rfl, ⟨nd, rfl⟩⟩; refine ⟨_, rfl, ?_⟩; have p244 : 0 ≤ (t242 : Int) := of_decide_eq_true m18_; have q244 : t242 < (l0.length : Int) := of_decide_eq_true m18_; obtain ⟨ad244, e244, hx244_0, hx244_1⟩ := at_T39 HR0.out t242 p244 q244; cases e244; replace p244 := eq_true p244; replace q244 := eq_true q244))
 go_ret
 exact ⟨by first | rfl | (simp; done) | (simp [*]; done), m29_⟩

end Go.Proofs.YtdeggemomajhcaaDoorH.HMerkleApplies
