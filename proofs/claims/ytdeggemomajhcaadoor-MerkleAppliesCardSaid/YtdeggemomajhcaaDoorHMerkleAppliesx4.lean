-- PRINTED by print.py (a twelfth state) out of the translation. Not trusted: Lean checks it.
import Derived.Test.YtdeggemomajhcaaDoorHMerkleAppliesx0
import Derived.Test.YtdeggemomajhcaaDoorHMerkleAppliesx3
namespace Go.Proofs.YtdeggemomajhcaaDoorH.HMerkleApplies
open Go.RowKit Go.Proofs.YtdeggemomajhcaaDoorW.PrintWords Go.Proofs.YtdeggemomajhcaaDoorW.PrintLast Go.Proofs.YtdeggemomajhcaaDoorW.PrintMore
attribute [local go_sem] max2_int min2_int max_two min_two max_three min_three max_four min_four   -- for this text's walks alone
set_option linter.unusedVariables false
set_option linter.unusedSimpArgs false

/-! ### merkle_Check: function 15 -/
def merkle_Check.l0 : Nat → List (S44) → List (S44) → Int → Int → Option (Int)
 | 0, _, _, _, _ => none
 | k + 1, x0, x8, x9, x10 => if x10 < x9 then (if 0 ≤ x10 then (if x10 < (x8.length : Int) then ((merkle_good.f ((rd_T44 x8 x10).f0) ((rd_T44 x8 x10).f1)).bind fun t107 => (if t107 = true then (if x10 > 0 then (if 0 ≤ (wrap64 (x10 - 1)) then (if (wrap64 (x10 - 1)) < (x0.length : Int) then (if ((Op.bytesLess (((rd_T44 x0 (wrap64 (x10 - 1))).f0).toList) (((rd_T44 x8 x10).f0).toList)) = true) then (merkle_Check.l0 k x0 x8 x9 (wrap64 (x10 + 1))) else (some 1)) else (none)) else (none)) else (merkle_Check.l0 k x0 x8 x9 (wrap64 (x10 + 1)))) else (some 1))) else (none)) else (none)) else (some 0)
def merkle_Check.f (k : Nat) (l0 : List (S44)) : Option (Int) := if (l0.length : Int) > 1024 then (some 2) else (merkle_Check.l0 k l0 l0 (l0.length : Int) 0)
theorem merkle_Check.mono_l : ∀ k, (∀ y0 y1 y2 y3, LeO (merkle_Check.l0 k y0 y1 y2 y3) (merkle_Check.l0 (k + 1) y0 y1 y2 y3))
 | 0 => fun _ _ _ _ r h => by simp [merkle_Check.l0] at h
 | k + 1 => by
  have ih0 := merkle_Check.mono_l k
  ·intro y0 y1 y2 y3
   unfold merkle_Check.l0
   repeat' first
   | (with_reducible exact ih0 _ _ _ _)
   | (with_reducible exact LeO.refl _)
   | (with_reducible exact LeO.none _)
   | (with_reducible refine LeO.ite ?_ ?_)
   | (with_reducible refine LeO.bind ?_ (fun _ => ?_))
   | exact ih0 _ _ _ _
   | exact LeO.none _
   | refine LeO.ite ?_ ?_
   | refine LeO.bind ?_ (fun _ => ?_)
theorem merkle_Check.mono : ∀ a0 k, LeO (merkle_Check.f k a0) (merkle_Check.f (k + 1) a0) := by
 intro a0 k
 have ih0 := merkle_Check.mono_l k
 unfold merkle_Check.f
 repeat' first
   | (with_reducible exact ih0 _ _ _ _)
   | (with_reducible exact LeO.refl _)
   | (with_reducible exact LeO.none _)
   | (with_reducible refine LeO.ite ?_ ?_)
   | (with_reducible refine LeO.bind ?_ (fun _ => ?_))
   | exact ih0 _ _ _ _
   | exact LeO.none _
   | refine LeO.ite ?_ ?_
   | refine LeO.bind ?_ (fun _ => ?_)
def merkle_Check.T6 : Bool × List (List Nat × List Nat) := (true, [([], []), ([0], [0]), ([1], [1]), ([2, 1], [2]), ([3], [3]), ([4, 3], [3, 4]), ([5, 3, 3], [3, 5]), ([6], [6]), ([6], [6]), ([8, 6], [6, 8]), ([7, 9, 6], [6, 7, 9]), ([10, 6], [6, 10]), ([11, 6], [6, 11]), ([6], [6]), ([13, 6], [6, 13]), ([12, 14, 6], [6, 12, 14]), ([6, 15, 3], [3, 6, 15]), ([3, 16], [3, 16])])
def merkle_Check.B6 : List Nat := [0, 1, 3, 7, 15, 31, 63, 127, 127, 383, 1023, 2047, 4095, 127, 8319, 32767, 65535, 131071]
theorem merkle_Check.tab6 : rtab .any (opsOf Tryd.f15 6) = merkle_Check.T6 := by kernel_rfl
theorem merkle_Check.bits6 : waitsOk merkle_Check.T6.2 merkle_Check.B6 = true := by kernel_rfl
set_option maxHeartbeats 8000000 in
set_option maxRecDepth 100000 in
theorem merkle_Check.calls (k : Nat) (A0 : Option Addr) (c0 : Nat) (l0 : List (S44)) (r : Int) (w : World) (hr0 : Kd.C k44 w A0 l0.length l0) (hc0 : l0.length ≤ c0) (h : merkle_Check.f k l0 = some r) :
  Calls Tryd.prog 15 #[.slice A0 l0.length c0] w fun e w' => e = .returned (.int .i64 r) ∧ Below w.heap.size w w' := by
 have hu44 := Tryd.underlying44
 have HR0 := Aside0.mk hr0
 have HC0 := Aside0.mk hc0
 clear hr0 hc0
 have HB := Aside0.mk (Below.refl w.heap.size w)
 have H : (if (l0.length : Int) > 1024 then (some 2) else (merkle_Check.l0 k l0 l0 (l0.length : Int) 0)) = some r := h
 clear h
 by_cases c2 : (l0.length : Int) > 1024
 ·rw [if_pos c2] at H
  have c2b0 : decide (1024 < (l0.length : Int)) = true := decide_eq_true c2
  have c2b1 : decide (1024 < l0.length) = true := decide_eq_true (by omega)
  clear c2
  obtain rfl := Option.some.inj H
  go_enter Tryd.func15, Tryd.ntmps15
  go_wp2
  go_ret
  exact ⟨by first | rfl | (simp [errW_none, errW_some] <;> rfl) | (simp [*, errW_none, errW_some] <;> rfl), m27_⟩
 rw [if_neg c2] at H
 have c2b0 : decide (1024 < (l0.length : Int)) = false := decide_eq_false c2
 have c2b1 : decide (1024 < l0.length) = false := decide_eq_false (by omega)
 clear c2
 have H' := Aside0.mk H
 clear H
 go_enter Tryd.func15, Tryd.ntmps15
 go_wp2
 go_loopg [10] k (fun kq v10 w' => ∃ (x10_1 : Int), v10 = .int .i64 x10_1 ∧ Aside0 (merkle_Check.l0 kq l0 l0 (l0.length : Int) x10_1 = some r) ∧ Aside0 (kq ≤ k) ∧ Aside0 (Below w.heap.size w w'))
 case atStart => exact ⟨(0), m19_, H', ⟨Nat.le_refl _⟩, ⟨m27_⟩⟩
 clear H'
 try clear c1; try clear c2; try clear c2b0; try clear c2b1; try clear p2
 obtain ⟨x10_1, rfl, HA, HK1, HB⟩ := hrel
 cases gk with
 | zero => exact absurd HA.out (by simp [merkle_Check.l0])
 | succ k1 =>
  have H := HA.out
  clear HA
  simp only [merkle_Check.l0] at H
  by_cases c3 : x10_1 < (l0.length : Int)
  case neg =>
   rw [if_neg c3] at H
   have c3b0 : decide (x10_1 < (l0.length : Int)) = false := decide_eq_false c3
   clear c3
   obtain rfl := Option.some.inj H
   go_wp2
   go_ret
   exact ⟨by first | rfl | (simp [errW_none, errW_some] <;> rfl) | (simp [*, errW_none, errW_some] <;> rfl), m27_⟩
  rw [if_pos c3] at H
  have c3b0 : decide (x10_1 < (l0.length : Int)) = true := decide_eq_true c3
  clear c3
  by_cases c4 : 0 ≤ x10_1
  case neg =>
   rw [if_neg c4] at H
   exact absurd H (by simp)
  rw [if_pos c4] at H
  have c4b0 : decide (0 ≤ x10_1) = true := decide_eq_true c4
  clear c4
  by_cases c5 : x10_1 < (l0.length : Int)
  case neg =>
   rw [if_neg c5] at H
   exact absurd H (by simp)
  rw [if_pos c5] at H
  have c5b0 : decide (x10_1 < (l0.length : Int)) = true := decide_eq_true c5
  clear c5
  replace H := Option.bind_eq_some_iff.mp H
  obtain ⟨t107, A60, H⟩ := H
  replace H : (if t107 = true then (if x10_1 > 0 then (if 0 ≤ (wrap64 (x10_1 - 1)) then (if (wrap64 (x10_1 - 1)) < (l0.length : Int) then (if ((Op.bytesLess (((rd_T44 l0 (wrap64 (x10_1 - 1))).f0).toList) (((rd_T44 l0 x10_1).f0).toList)) = true) then (merkle_Check.l0 k1 l0 l0 (l0.length : Int) (wrap64 (x10_1 + 1))) else (some 1)) else (none)) else (none)) else (merkle_Check.l0 k1 l0 l0 (l0.length : Int) (wrap64 (x10_1 + 1)))) else (some 1)) = some r := H
  have A6 := Aside0.mk A60
  clear A60
  by_cases c7 : t107 = true
  case neg =>
   replace c7 := Bool.eq_false_iff.mpr c7
   subst c7
   have H1 : (some 1) = some r := by rw [if_neg (show ¬ (false = true) by decide)] at H; exact H
   clear H
   have H := H1
   clear H1
   obtain rfl := Option.some.inj H
   have p105 : 0 ≤ (x10_1 : Int) := of_decide_eq_true m18_
   have q105 : x10_1 < (l0.length : Int) := of_decide_eq_true m18_
   obtain ⟨ad105, e105, hx105_0, hx105_1⟩ := at_T44 HR0.out x10_1 p105 q105
   cases e105
   replace hx105_0 := (HB.out.cell (World.block_lt_of_cell? w _ hx105_0)).trans hx105_0
   replace hx105_1 := (HB.out.cell (World.block_lt_of_cell? w _ hx105_1)).trans hx105_1
   replace p105 := eq_true p105
   replace q105 := eq_true q105
   try go_wp2_with (first | ((with_reducible refine gate_dst (N := 4) rfl ?_); refine box_event ?hg (N := 4) ?hd (cs := #[.string (⟨#[]⟩ : ByteArray), .string (⟨#[]⟩ : ByteArray)]) (t := 44) ?hr ?_; (case hd => rfl); (case hg => rfl); (case hr => first | (go_simp; done) | (go_simp; rfl)); intro gb106 hg w28 hbox hb; have n0_ := Aside0.mk (below_step m7_ hb); have n1_ := Aside0.mk (hbox); have n2_ := Aside0.mk ((by rw [hg]; exact (below_size m7_) : w.heap.size ≤ gb106)); have n3_ := Aside0.mk ((by rw [hg]; exact (below_size m7_) : w.heap.size ≤ gb106)); clear HB; have HB := n0_; have BK106 := n1_; have GW106 := n2_; have GE106 := n3_; clear n0_ n1_ n2_ n3_; clear hb hbox hg; obtain ⟨hcz29_0, hcz29_1⟩ := bc2_ BK106.out; obtain ⟨hfz29_0, hfz29_1⟩ := bf2_ BK106.out))
   have n0_ : Aside0 (((w28.setCell ⟨gb106, 0, none⟩ (.string ((rd_T44 l0 x10_1).f0))).setCell ⟨gb106, 1, none⟩ (.string ((rd_T44 l0 x10_1).f1))).heap[gb106]? = some (.cells #[.string ((rd_T44 l0 x10_1).f0), .string ((rd_T44 l0 x10_1).f1)] 44 (0, 0))) := ⟨by (with_reducible repeat (first | refine blk_drewN ?_ _ | refine blk_drew ?_ | refine blk_alloc ?_ _)); refine blk_put (cs := #[.string ((rd_T44 l0 x10_1).f0), .string (⟨#[]⟩ : ByteArray)]) ?_ 1 _ rfl; (with_reducible repeat (first | refine blk_drewN ?_ _ | refine blk_drew ?_ | refine blk_alloc ?_ _)); refine blk_put (cs := #[.string (⟨#[]⟩ : ByteArray), .string (⟨#[]⟩ : ByteArray)]) ?_ 0 _ rfl; (with_reducible repeat (first | refine blk_drewN ?_ _ | refine blk_drew ?_ | refine blk_alloc ?_ _)); exact BK106.out⟩
   have n1_ : Aside0 (Below w.heap.size w ((w28.setCell ⟨gb106, 0, none⟩ (.string ((rd_T44 l0 x10_1).f0))).setCell ⟨gb106, 1, none⟩ (.string ((rd_T44 l0 x10_1).f1)))) := ⟨m23_⟩
   (try clear BK106)
   (try clear HB)
   generalize ((w28.setCell ⟨gb106, 0, none⟩ (.string ((rd_T44 l0 x10_1).f0))).setCell ⟨gb106, 1, none⟩ (.string ((rd_T44 l0 x10_1).f1))) = w30 at n0_ n1_ ⊢
   have BK106 := n0_
   have HB := n1_
   clear n0_ n1_
   replace BK106 := Aside0.mk (blk_drew BK106.out)
   replace HB := Aside0.mk (below_drew1 HB.out)
   refine start_ (n := 18) (S := fun w' => w'.cell? ⟨gb106, 0, none⟩ = some (.string ((rd_T44 l0 x10_1).f0)) ∧ w'.cell? ⟨gb106, 1, none⟩ = some (.string ((rd_T44 l0 x10_1).f1))) (ds := []) (Ra_ [0, 18]) (by kernel_rfl) rfl rfl ⟨(blk_cell BK106.out 0).trans rfl, (blk_cell BK106.out 1).trans rfl⟩ (fun hHeld => ?_); refine with_tabW merkle_Check.tab6 merkle_Check.bits6 (fun HT_ HW_ => ?_)
   generalize w30.drew = w31 at BK106 HB hHeld ⊢
   refine tI2_ 0 (some 15) (Ra_ [1, 17]) (h := ?_)
   refine one_ (i := 1) (N := some 16) (Ra_ [2, 16]) rfl rfl (one_of HT_.out (by kernel_rfl)) (by decide) (fun K hK => ?_)
   refine goes_ Tryd.func43 (by kernel_rfl) rfl #[.agg #[.string ((rd_T44 l0 x10_1).f0), .string ((rd_T44 l0 x10_1).f1)]] (by rfl) rfl rfl m6_ ?_
   with_reducible refine (merkle_good.calls ((rd_T44 l0 x10_1).f0) ((rd_T44 l0 x10_1).f1) false _ A6.out).mono ?_
   rintro e w32 ⟨rfl, hb⟩
   refine ⟨_, rfl, ?_⟩
   have n0_ := Aside0.mk (blk_below (g := gb106) (o := .cells #[.string ((rd_T44 l0 x10_1).f0), .string ((rd_T44 l0 x10_1).f1)] 44 (0, 0)) (by (with_reducible repeat (first | refine blk_drewN ?_ _ | refine blk_drew ?_ | refine blk_alloc ?_ _)); exact BK106.out) hb)
   have n1_ := Aside0.mk (below_step m5_ hb)
   clear BK106 HB
   have BK106 := n0_
   have HB := n1_
   clear n0_ n1_
   (try clear hb)
   (try clear hb2)
   (try clear hk)
   (try clear hi)
   refine hK.out _ _ ⟨(blk_cell BK106.out 0).trans rfl, (blk_cell BK106.out 1).trans rfl⟩ (fun hHeld => ?_)
   clear hK K
   refine norm_ (a' := ?_) ?_ ?_
   rotate_left
   ·show Act.put _ (some 16) _ = _
    simp only [Act.put, sA_, sB_, sC_, i64_w, i32_w]
    rfl
   refine pI_ 2 (some 17) (Ra_ [3, 15]) (h := ?_)
   refine pI_ 3 (some 18) (Ra_ [4, 14]) (h := ?_)
   refine uI_ 4 (some 19) (Ra_ [5, 13]) (h := ?_)
   refine uI_ 5 (some 20) (Ra_ [6, 12]) (h := ?_)
   refine uI_ 6 (some 21) (Ra_ [7, 11]) (h := ?_)
   refine uI_ 7 (some 22) (Ra_ [8, 10]) (h := ?_)
   refine uI_ 8 (some 23) (Ra_ [9, 9]) (h := ?_)
   refine uI_ 9 (some 24) (Ra_ [10, 8]) (h := ?_)
   refine uI_ 10 (some 25) (Ra_ [11, 7]) (h := ?_)
   refine uI_ 11 (some 26) (Ra_ [12, 6]) (h := ?_)
   refine uI_ 12 (some 27) (Ra_ [13, 5]) (h := ?_)
   refine uI_ 13 (some 28) (Ra_ [14, 4]) (h := ?_)
   refine uI_ 14 (some 29) (Ra_ [15, 3]) (h := ?_)
   refine uI_ 15 (some 30) (Ra_ [16, 2]) (h := ?_)
   refine uI_ 16 (some 31) (Ra_ [17, 1]) (h := ?_)
   refine pI_ 17 (some 32) (Ra_ [18]) (h := ?_)
   refine done_ (done_of HT_.out (by kernel_rfl)) ?_
   try go_wp2
   go_ret
   exact ⟨by first | rfl | (simp [errW_none, errW_some] <;> rfl) | (simp [*, errW_none, errW_some] <;> rfl), m23_⟩
  subst c7
  have H1 : (if x10_1 > 0 then (if 0 ≤ (wrap64 (x10_1 - 1)) then (if (wrap64 (x10_1 - 1)) < (l0.length : Int) then (if ((Op.bytesLess (((rd_T44 l0 (wrap64 (x10_1 - 1))).f0).toList) (((rd_T44 l0 x10_1).f0).toList)) = true) then (merkle_Check.l0 k1 l0 l0 (l0.length : Int) (wrap64 (x10_1 + 1))) else (some 1)) else (none)) else (none)) else (merkle_Check.l0 k1 l0 l0 (l0.length : Int) (wrap64 (x10_1 + 1)))) = some r := by rw [if_pos rfl] at H; exact H
  clear H
  have H := H1
  clear H1
  by_cases c8 : x10_1 > 0
  case neg =>
   rw [if_neg c8] at H
   have c8b0 : decide (0 < x10_1) = false := decide_eq_false c8
   clear c8
   have H' := Aside0.mk H
   clear H
   have p105 : 0 ≤ (x10_1 : Int) := of_decide_eq_true m18_
   have q105 : x10_1 < (l0.length : Int) := of_decide_eq_true m18_
   obtain ⟨ad105, e105, hx105_0, hx105_1⟩ := at_T44 HR0.out x10_1 p105 q105
   cases e105
   replace hx105_0 := (HB.out.cell (World.block_lt_of_cell? w _ hx105_0)).trans hx105_0
   replace hx105_1 := (HB.out.cell (World.block_lt_of_cell? w _ hx105_1)).trans hx105_1
   replace p105 := eq_true p105
   replace q105 := eq_true q105
   try go_wp2_with (first | ((with_reducible refine gate_dst (N := 4) rfl ?_); refine box_event ?hg (N := 4) ?hd (cs := #[.string (⟨#[]⟩ : ByteArray), .string (⟨#[]⟩ : ByteArray)]) (t := 44) ?hr ?_; (case hd => rfl); (case hg => rfl); (case hr => first | (go_simp; done) | (go_simp; rfl)); intro gb106 hg w23 hbox hb; have n0_ := Aside0.mk (below_step m7_ hb); have n1_ := Aside0.mk (hbox); have n2_ := Aside0.mk ((by rw [hg]; exact (below_size m7_) : w.heap.size ≤ gb106)); have n3_ := Aside0.mk ((by rw [hg]; exact (below_size m7_) : w.heap.size ≤ gb106)); clear HB; have HB := n0_; have BK106 := n1_; have GW106 := n2_; have GE106 := n3_; clear n0_ n1_ n2_ n3_; clear hb hbox hg; obtain ⟨hcz24_0, hcz24_1⟩ := bc2_ BK106.out; obtain ⟨hfz24_0, hfz24_1⟩ := bf2_ BK106.out))
   have n0_ : Aside0 (((w23.setCell ⟨gb106, 0, none⟩ (.string ((rd_T44 l0 x10_1).f0))).setCell ⟨gb106, 1, none⟩ (.string ((rd_T44 l0 x10_1).f1))).heap[gb106]? = some (.cells #[.string ((rd_T44 l0 x10_1).f0), .string ((rd_T44 l0 x10_1).f1)] 44 (0, 0))) := ⟨by (with_reducible repeat (first | refine blk_drewN ?_ _ | refine blk_drew ?_ | refine blk_alloc ?_ _)); refine blk_put (cs := #[.string ((rd_T44 l0 x10_1).f0), .string (⟨#[]⟩ : ByteArray)]) ?_ 1 _ rfl; (with_reducible repeat (first | refine blk_drewN ?_ _ | refine blk_drew ?_ | refine blk_alloc ?_ _)); refine blk_put (cs := #[.string (⟨#[]⟩ : ByteArray), .string (⟨#[]⟩ : ByteArray)]) ?_ 0 _ rfl; (with_reducible repeat (first | refine blk_drewN ?_ _ | refine blk_drew ?_ | refine blk_alloc ?_ _)); exact BK106.out⟩
   have n1_ : Aside0 (Below w.heap.size w ((w23.setCell ⟨gb106, 0, none⟩ (.string ((rd_T44 l0 x10_1).f0))).setCell ⟨gb106, 1, none⟩ (.string ((rd_T44 l0 x10_1).f1)))) := ⟨m23_⟩
   (try clear BK106)
   (try clear HB)
   generalize ((w23.setCell ⟨gb106, 0, none⟩ (.string ((rd_T44 l0 x10_1).f0))).setCell ⟨gb106, 1, none⟩ (.string ((rd_T44 l0 x10_1).f1))) = w25 at n0_ n1_ ⊢
   have BK106 := n0_
   have HB := n1_
   clear n0_ n1_
   replace BK106 := Aside0.mk (blk_drew BK106.out)
   replace HB := Aside0.mk (below_drew1 HB.out)
   refine start_ (n := 18) (S := fun w' => w'.cell? ⟨gb106, 0, none⟩ = some (.string ((rd_T44 l0 x10_1).f0)) ∧ w'.cell? ⟨gb106, 1, none⟩ = some (.string ((rd_T44 l0 x10_1).f1))) (ds := []) (Ra_ [0, 18]) (by kernel_rfl) rfl rfl ⟨(blk_cell BK106.out 0).trans rfl, (blk_cell BK106.out 1).trans rfl⟩ (fun hHeld => ?_); refine with_tabW merkle_Check.tab6 merkle_Check.bits6 (fun HT_ HW_ => ?_)
   generalize w25.drew = w26 at BK106 HB hHeld ⊢
   refine tI2_ 0 (some 15) (Ra_ [1, 17]) (h := ?_)
   refine one_ (i := 1) (N := some 16) (Ra_ [2, 16]) rfl rfl (one_of HT_.out (by kernel_rfl)) (by decide) (fun K hK => ?_)
   refine goes_ Tryd.func43 (by kernel_rfl) rfl #[.agg #[.string ((rd_T44 l0 x10_1).f0), .string ((rd_T44 l0 x10_1).f1)]] (by rfl) rfl rfl m6_ ?_
   with_reducible refine (merkle_good.calls ((rd_T44 l0 x10_1).f0) ((rd_T44 l0 x10_1).f1) true _ A6.out).mono ?_
   rintro e w27 ⟨rfl, hb⟩
   refine ⟨_, rfl, ?_⟩
   have n0_ := Aside0.mk (blk_below (g := gb106) (o := .cells #[.string ((rd_T44 l0 x10_1).f0), .string ((rd_T44 l0 x10_1).f1)] 44 (0, 0)) (by (with_reducible repeat (first | refine blk_drewN ?_ _ | refine blk_drew ?_ | refine blk_alloc ?_ _)); exact BK106.out) hb)
   have n1_ := Aside0.mk (below_step m5_ hb)
   clear BK106 HB
   have BK106 := n0_
   have HB := n1_
   clear n0_ n1_
   (try clear hb)
   (try clear hb2)
   (try clear hk)
   (try clear hi)
   refine hK.out _ _ ⟨(blk_cell BK106.out 0).trans rfl, (blk_cell BK106.out 1).trans rfl⟩ (fun hHeld => ?_)
   clear hK K
   refine norm_ (a' := ?_) ?_ ?_
   rotate_left
   ·show Act.put _ (some 16) _ = _
    simp only [Act.put, sA_, sB_, sC_, i64_w, i32_w]
    rfl
   refine pI_ 2 (some 17) (Ra_ [3, 15]) (h := ?_)
   refine pI_ 3 (some 18) (Ra_ [4, 14]) (h := ?_)
   refine pI_ 4 (some 19) (Ra_ [5, 13]) (h := ?_)
   refine pI_ 5 (some 20) (Ra_ [6, 12]) (h := ?_)
   refine pI_ 6 (some 21) (Ra_ [7, 11]) (h := ?_)
   refine uI_ 7 (some 22) (Ra_ [8, 10]) (h := ?_)
   refine uI_ 8 (some 23) (Ra_ [9, 9]) (h := ?_)
   refine uI_ 9 (some 24) (Ra_ [10, 8]) (h := ?_)
   refine uI_ 10 (some 25) (Ra_ [11, 7]) (h := ?_)
   refine uI_ 11 (some 26) (Ra_ [12, 6]) (h := ?_)
   refine uI_ 12 (some 27) (Ra_ [13, 5]) (h := ?_)
   refine uI_ 13 (some 28) (Ra_ [14, 4]) (h := ?_)
   refine uI_ 14 (some 29) (Ra_ [15, 3]) (h := ?_)
   refine uI_ 15 (some 30) (Ra_ [16, 2]) (h := ?_)
   refine pI_ 16 (some 31) (Ra_ [17, 1]) (h := ?_)
   refine pI_ 17 (some 32) (Ra_ [18]) (h := ?_)
   refine done_ (done_of HT_.out (by kernel_rfl)) ?_
   try go_wp2
   go_roundg k1
   case measure => have := HK1.out; omega
   case rel => exact ⟨(wrap64 (x10_1 + 1)), m19_, H', ⟨by have := HK1.out; omega⟩, ⟨m23_⟩⟩
  rw [if_pos c8] at H
  have c8b0 : decide (0 < x10_1) = true := decide_eq_true c8
  clear c8
  obtain ⟨ji9, hji9⟩ : ∃ j_ : Int, (wrap64 (x10_1 - 1)) = j_ := ⟨_, rfl⟩
  replace H : (if 0 ≤ (ji9) then (if (ji9) < (l0.length : Int) then (if ((Op.bytesLess (((rd_T44 l0 (ji9)).f0).toList) (((rd_T44 l0 x10_1).f0).toList)) = true) then (merkle_Check.l0 k1 l0 l0 (l0.length : Int) (wrap64 (x10_1 + 1))) else (some 1)) else (none)) else (none)) = some r := by first | (rw [hji9] at H; exact H) | (simp only [hji9] at H ⊢; exact H)
  (try rw [hji9] at A6)
  have hji9w : (IntKind.i64.wrap (x10_1 - 1)) = ji9 := (i64_w _).trans hji9
  by_cases c10 : 0 ≤ (ji9)
  case neg =>
   rw [if_neg c10] at H
   exact absurd H (by simp)
  rw [if_pos c10] at H
  have c10b0 : decide (0 ≤ (ji9)) = true := decide_eq_true c10
  clear c10
  by_cases c11 : (ji9) < (l0.length : Int)
  case neg =>
   rw [if_neg c11] at H
   exact absurd H (by simp)
  rw [if_pos c11] at H
  have c11b0 : decide ((ji9) < (l0.length : Int)) = true := decide_eq_true c11
  clear c11
  by_cases c12 : ((Op.bytesLess (((rd_T44 l0 (ji9)).f0).toList) (((rd_T44 l0 x10_1).f0).toList)) = true)
  ·rw [if_pos c12] at H
   have c12b0 : (Op.bytesLess (((rd_T44 l0 (ji9)).f0).toList) (((rd_T44 l0 x10_1).f0).toList)) = true := c12
   clear c12
   have H' := Aside0.mk H
   clear H
   have p105 : 0 ≤ (x10_1 : Int) := of_decide_eq_true m18_
   have q105 : x10_1 < (l0.length : Int) := of_decide_eq_true m18_
   obtain ⟨ad105, e105, hx105_0, hx105_1⟩ := at_T44 HR0.out x10_1 p105 q105
   cases e105
   replace hx105_0 := (HB.out.cell (World.block_lt_of_cell? w _ hx105_0)).trans hx105_0
   replace hx105_1 := (HB.out.cell (World.block_lt_of_cell? w _ hx105_1)).trans hx105_1
   replace p105 := eq_true p105
   replace q105 := eq_true q105
   try go_wp2_with (first | ((with_reducible refine gate_dst (N := 4) rfl ?_); refine box_event ?hg (N := 4) ?hd (cs := #[.string (⟨#[]⟩ : ByteArray), .string (⟨#[]⟩ : ByteArray)]) (t := 44) ?hr ?_; (case hd => rfl); (case hg => rfl); (case hr => first | (go_simp; done) | (go_simp; rfl)); intro gb106 hg w13 hbox hb; have n0_ := Aside0.mk (below_step m7_ hb); have n1_ := Aside0.mk (hbox); have n2_ := Aside0.mk ((by rw [hg]; exact (below_size m7_) : w.heap.size ≤ gb106)); have n3_ := Aside0.mk ((by rw [hg]; exact (below_size m7_) : w.heap.size ≤ gb106)); clear HB; have HB := n0_; have BK106 := n1_; have GW106 := n2_; have GE106 := n3_; clear n0_ n1_ n2_ n3_; clear hb hbox hg; obtain ⟨hcz14_0, hcz14_1⟩ := bc2_ BK106.out; obtain ⟨hfz14_0, hfz14_1⟩ := bf2_ BK106.out))
   have n0_ : Aside0 (((w13.setCell ⟨gb106, 0, none⟩ (.string ((rd_T44 l0 x10_1).f0))).setCell ⟨gb106, 1, none⟩ (.string ((rd_T44 l0 x10_1).f1))).heap[gb106]? = some (.cells #[.string ((rd_T44 l0 x10_1).f0), .string ((rd_T44 l0 x10_1).f1)] 44 (0, 0))) := ⟨by (with_reducible repeat (first | refine blk_drewN ?_ _ | refine blk_drew ?_ | refine blk_alloc ?_ _)); refine blk_put (cs := #[.string ((rd_T44 l0 x10_1).f0), .string (⟨#[]⟩ : ByteArray)]) ?_ 1 _ rfl; (with_reducible repeat (first | refine blk_drewN ?_ _ | refine blk_drew ?_ | refine blk_alloc ?_ _)); refine blk_put (cs := #[.string (⟨#[]⟩ : ByteArray), .string (⟨#[]⟩ : ByteArray)]) ?_ 0 _ rfl; (with_reducible repeat (first | refine blk_drewN ?_ _ | refine blk_drew ?_ | refine blk_alloc ?_ _)); exact BK106.out⟩
   have n1_ : Aside0 (Below w.heap.size w ((w13.setCell ⟨gb106, 0, none⟩ (.string ((rd_T44 l0 x10_1).f0))).setCell ⟨gb106, 1, none⟩ (.string ((rd_T44 l0 x10_1).f1)))) := ⟨m23_⟩
   (try clear BK106)
   (try clear HB)
   generalize ((w13.setCell ⟨gb106, 0, none⟩ (.string ((rd_T44 l0 x10_1).f0))).setCell ⟨gb106, 1, none⟩ (.string ((rd_T44 l0 x10_1).f1))) = w15 at n0_ n1_ ⊢
   have BK106 := n0_
   have HB := n1_
   clear n0_ n1_
   replace BK106 := Aside0.mk (blk_drew BK106.out)
   replace HB := Aside0.mk (below_drew1 HB.out)
   have p108 : 0 ≤ ((ji9) : Int) := of_decide_eq_true m18_
   have q108 : (ji9) < (l0.length : Int) := of_decide_eq_true m18_
   obtain ⟨ad108, e108, hx108_0, hx108_1⟩ := at_T44 HR0.out (ji9) p108 q108
   have hw108_1 := hx108_1
   have hw108_0 := hx108_0
   obtain rfl : ad105 = ad108 := (by injection e108)
   replace hx108_0 := (HB.out.cell (World.block_lt_of_cell? w _ hx108_0)).trans hx108_0
   replace hx108_1 := (HB.out.cell (World.block_lt_of_cell? w _ hx108_1)).trans hx108_1
   replace p108 := eq_true p108
   replace q108 := eq_true q108
   refine start_ (n := 18) (S := fun w' => w'.cell? ⟨gb106, 0, none⟩ = some (.string ((rd_T44 l0 x10_1).f0)) ∧ w'.cell? ⟨gb106, 1, none⟩ = some (.string ((rd_T44 l0 x10_1).f1)) ∧ w'.cell? (ad105.add (((ji9)).toNat * 2)) = some (.string ((rd_T44 l0 (ji9)).f0)) ∧ w'.cell? ⟨(ad105.add (((ji9)).toNat * 2)).block, (ad105.add (((ji9)).toNat * 2)).off + 1, none⟩ = some (.string ((rd_T44 l0 (ji9)).f1))) (ds := []) (Ra_ [0, 18]) (by kernel_rfl) rfl rfl ⟨(blk_cell BK106.out 0).trans rfl, (blk_cell BK106.out 1).trans rfl, ((HB.out.cell (World.block_lt_of_cell? w _ hw108_0)).trans hw108_0), ((HB.out.cell (World.block_lt_of_cell? w _ hw108_1)).trans hw108_1)⟩ (fun hHeld => ?_); refine with_tabW merkle_Check.tab6 merkle_Check.bits6 (fun HT_ HW_ => ?_)
   generalize w15.drew = w16 at BK106 HB hx108_0 hx108_1 hHeld ⊢
   refine tI4_ 0 (some 15) (Ra_ [1, 17]) (h := ?_)
   refine one_ (i := 1) (N := some 16) (Ra_ [2, 16]) rfl rfl (one_of HT_.out (by kernel_rfl)) (by decide) (fun K hK => ?_)
   refine goes_ Tryd.func43 (by kernel_rfl) rfl #[.agg #[.string ((rd_T44 l0 x10_1).f0), .string ((rd_T44 l0 x10_1).f1)]] (by rfl) rfl rfl m6_ ?_
   with_reducible refine (merkle_good.calls ((rd_T44 l0 x10_1).f0) ((rd_T44 l0 x10_1).f1) true _ A6.out).mono ?_
   rintro e w17 ⟨rfl, hb⟩
   refine ⟨_, rfl, ?_⟩
   have n0_ := Aside0.mk (blk_below (g := gb106) (o := .cells #[.string ((rd_T44 l0 x10_1).f0), .string ((rd_T44 l0 x10_1).f1)] 44 (0, 0)) (by (with_reducible repeat (first | refine blk_drewN ?_ _ | refine blk_drew ?_ | refine blk_alloc ?_ _)); exact BK106.out) hb)
   have n1_ := Aside0.mk (below_step m5_ hb)
   clear BK106 HB
   have BK106 := n0_
   have HB := n1_
   clear n0_ n1_
   (try clear hb)
   (try clear hb2)
   (try clear hk)
   (try clear hi)
   refine hK.out _ _ ⟨(blk_cell BK106.out 0).trans rfl, (blk_cell BK106.out 1).trans rfl, ((HB.out.cell (World.block_lt_of_cell? w _ hw108_0)).trans hw108_0), ((HB.out.cell (World.block_lt_of_cell? w _ hw108_1)).trans hw108_1)⟩ (fun hHeld => ?_)
   clear hK K
   refine norm_ (a' := ?_) ?_ ?_
   rotate_left
   ·show Act.put _ (some 16) _ = _
    simp only [Act.put, sA_, sB_, sC_, i64_w, i32_w]
    rfl
   refine pI_ 2 (some 17) (Ra_ [3, 15]) (h := ?_)
   refine pI_ 3 (some 18) (Ra_ [4, 14]) (h := ?_)
   refine pI_ 4 (some 19) (Ra_ [5, 13]) (h := ?_)
   refine pI_ 5 (some 20) (Ra_ [6, 12]) (h := ?_)
   refine pI_ 6 (some 21) (Ra_ [7, 11]) (h := ?_)
   refine pI_ 7 (some 22) (Ra_ [8, 10]) (h := ?_)
   refine pI_ 8 (some 23) (Ra_ [9, 9]) (h := ?_)
   refine pI_ 9 (some 24) (Ra_ [10, 8]) (h := ?_)
   refine pI_ 10 (some 25) (Ra_ [11, 7]) (h := ?_)
   refine pI_ 11 (some 26) (Ra_ [12, 6]) (h := ?_)
   refine pI_ 13 (some 28) (Ra_ [12, 1, 1, 4]) (h := ?_)
   refine tI4_ 12 (some 27) (Ra_ [14, 4]) (h := ?_)
   refine tI4_ 14 (some 29) (Ra_ [15, 3]) (h := ?_)
   refine pI_ 15 (some 30) (Ra_ [16, 2]) (h := ?_)
   refine pI_ 16 (some 31) (Ra_ [17, 1]) (h := ?_)
   refine pI_ 17 (some 32) (Ra_ [18]) (h := ?_)
   refine done_ (done_of HT_.out (by kernel_rfl)) ?_
   try go_wp2
   go_roundg k1
   case measure => have := HK1.out; omega
   case rel => exact ⟨(wrap64 (x10_1 + 1)), m19_, H', ⟨by have := HK1.out; omega⟩, ⟨m23_⟩⟩
  rw [if_neg c12] at H
  have c12b0 : (Op.bytesLess (((rd_T44 l0 (ji9)).f0).toList) (((rd_T44 l0 x10_1).f0).toList)) = false := by simpa using c12
  clear c12
  obtain rfl := Option.some.inj H
  have p105 : 0 ≤ (x10_1 : Int) := of_decide_eq_true m18_
  have q105 : x10_1 < (l0.length : Int) := of_decide_eq_true m18_
  obtain ⟨ad105, e105, hx105_0, hx105_1⟩ := at_T44 HR0.out x10_1 p105 q105
  cases e105
  replace hx105_0 := (HB.out.cell (World.block_lt_of_cell? w _ hx105_0)).trans hx105_0
  replace hx105_1 := (HB.out.cell (World.block_lt_of_cell? w _ hx105_1)).trans hx105_1
  replace p105 := eq_true p105
  replace q105 := eq_true q105
  try go_wp2_with (first | ((with_reducible refine gate_dst (N := 4) rfl ?_); refine box_event ?hg (N := 4) ?hd (cs := #[.string (⟨#[]⟩ : ByteArray), .string (⟨#[]⟩ : ByteArray)]) (t := 44) ?hr ?_; (case hd => rfl); (case hg => rfl); (case hr => first | (go_simp; done) | (go_simp; rfl)); intro gb106 hg w18 hbox hb; have n0_ := Aside0.mk (below_step m7_ hb); have n1_ := Aside0.mk (hbox); have n2_ := Aside0.mk ((by rw [hg]; exact (below_size m7_) : w.heap.size ≤ gb106)); have n3_ := Aside0.mk ((by rw [hg]; exact (below_size m7_) : w.heap.size ≤ gb106)); clear HB; have HB := n0_; have BK106 := n1_; have GW106 := n2_; have GE106 := n3_; clear n0_ n1_ n2_ n3_; clear hb hbox hg; obtain ⟨hcz19_0, hcz19_1⟩ := bc2_ BK106.out; obtain ⟨hfz19_0, hfz19_1⟩ := bf2_ BK106.out))
  have n0_ : Aside0 (((w18.setCell ⟨gb106, 0, none⟩ (.string ((rd_T44 l0 x10_1).f0))).setCell ⟨gb106, 1, none⟩ (.string ((rd_T44 l0 x10_1).f1))).heap[gb106]? = some (.cells #[.string ((rd_T44 l0 x10_1).f0), .string ((rd_T44 l0 x10_1).f1)] 44 (0, 0))) := ⟨by (with_reducible repeat (first | refine blk_drewN ?_ _ | refine blk_drew ?_ | refine blk_alloc ?_ _)); refine blk_put (cs := #[.string ((rd_T44 l0 x10_1).f0), .string (⟨#[]⟩ : ByteArray)]) ?_ 1 _ rfl; (with_reducible repeat (first | refine blk_drewN ?_ _ | refine blk_drew ?_ | refine blk_alloc ?_ _)); refine blk_put (cs := #[.string (⟨#[]⟩ : ByteArray), .string (⟨#[]⟩ : ByteArray)]) ?_ 0 _ rfl; (with_reducible repeat (first | refine blk_drewN ?_ _ | refine blk_drew ?_ | refine blk_alloc ?_ _)); exact BK106.out⟩
  have n1_ : Aside0 (Below w.heap.size w ((w18.setCell ⟨gb106, 0, none⟩ (.string ((rd_T44 l0 x10_1).f0))).setCell ⟨gb106, 1, none⟩ (.string ((rd_T44 l0 x10_1).f1)))) := ⟨m23_⟩
  (try clear BK106)
  (try clear HB)
  generalize ((w18.setCell ⟨gb106, 0, none⟩ (.string ((rd_T44 l0 x10_1).f0))).setCell ⟨gb106, 1, none⟩ (.string ((rd_T44 l0 x10_1).f1))) = w20 at n0_ n1_ ⊢
  have BK106 := n0_
  have HB := n1_
  clear n0_ n1_
  replace BK106 := Aside0.mk (blk_drew BK106.out)
  replace HB := Aside0.mk (below_drew1 HB.out)
  have p108 : 0 ≤ ((ji9) : Int) := of_decide_eq_true m18_
  have q108 : (ji9) < (l0.length : Int) := of_decide_eq_true m18_
  obtain ⟨ad108, e108, hx108_0, hx108_1⟩ := at_T44 HR0.out (ji9) p108 q108
  have hw108_1 := hx108_1
  have hw108_0 := hx108_0
  obtain rfl : ad105 = ad108 := (by injection e108)
  replace hx108_0 := (HB.out.cell (World.block_lt_of_cell? w _ hx108_0)).trans hx108_0
  replace hx108_1 := (HB.out.cell (World.block_lt_of_cell? w _ hx108_1)).trans hx108_1
  replace p108 := eq_true p108
  replace q108 := eq_true q108
  refine start_ (n := 18) (S := fun w' => w'.cell? ⟨gb106, 0, none⟩ = some (.string ((rd_T44 l0 x10_1).f0)) ∧ w'.cell? ⟨gb106, 1, none⟩ = some (.string ((rd_T44 l0 x10_1).f1)) ∧ w'.cell? (ad105.add (((ji9)).toNat * 2)) = some (.string ((rd_T44 l0 (ji9)).f0)) ∧ w'.cell? ⟨(ad105.add (((ji9)).toNat * 2)).block, (ad105.add (((ji9)).toNat * 2)).off + 1, none⟩ = some (.string ((rd_T44 l0 (ji9)).f1))) (ds := []) (Ra_ [0, 18]) (by kernel_rfl) rfl rfl ⟨(blk_cell BK106.out 0).trans rfl, (blk_cell BK106.out 1).trans rfl, ((HB.out.cell (World.block_lt_of_cell? w _ hw108_0)).trans hw108_0), ((HB.out.cell (World.block_lt_of_cell? w _ hw108_1)).trans hw108_1)⟩ (fun hHeld => ?_); refine with_tabW merkle_Check.tab6 merkle_Check.bits6 (fun HT_ HW_ => ?_)
  generalize w20.drew = w21 at BK106 HB hx108_0 hx108_1 hHeld ⊢
  refine tI4_ 0 (some 15) (Ra_ [1, 17]) (h := ?_)
  refine one_ (i := 1) (N := some 16) (Ra_ [2, 16]) rfl rfl (one_of HT_.out (by kernel_rfl)) (by decide) (fun K hK => ?_)
  refine goes_ Tryd.func43 (by kernel_rfl) rfl #[.agg #[.string ((rd_T44 l0 x10_1).f0), .string ((rd_T44 l0 x10_1).f1)]] (by rfl) rfl rfl m6_ ?_
  with_reducible refine (merkle_good.calls ((rd_T44 l0 x10_1).f0) ((rd_T44 l0 x10_1).f1) true _ A6.out).mono ?_
  rintro e w22 ⟨rfl, hb⟩
  refine ⟨_, rfl, ?_⟩
  have n0_ := Aside0.mk (blk_below (g := gb106) (o := .cells #[.string ((rd_T44 l0 x10_1).f0), .string ((rd_T44 l0 x10_1).f1)] 44 (0, 0)) (by (with_reducible repeat (first | refine blk_drewN ?_ _ | refine blk_drew ?_ | refine blk_alloc ?_ _)); exact BK106.out) hb)
  have n1_ := Aside0.mk (below_step m5_ hb)
  clear BK106 HB
  have BK106 := n0_
  have HB := n1_
  clear n0_ n1_
  (try clear hb)
  (try clear hb2)
  (try clear hk)
  (try clear hi)
  refine hK.out _ _ ⟨(blk_cell BK106.out 0).trans rfl, (blk_cell BK106.out 1).trans rfl, ((HB.out.cell (World.block_lt_of_cell? w _ hw108_0)).trans hw108_0), ((HB.out.cell (World.block_lt_of_cell? w _ hw108_1)).trans hw108_1)⟩ (fun hHeld => ?_)
  clear hK K
  refine norm_ (a' := ?_) ?_ ?_
  rotate_left
  ·show Act.put _ (some 16) _ = _
   simp only [Act.put, sA_, sB_, sC_, i64_w, i32_w]
   rfl
  refine pI_ 2 (some 17) (Ra_ [3, 15]) (h := ?_)
  refine pI_ 3 (some 18) (Ra_ [4, 14]) (h := ?_)
  refine pI_ 4 (some 19) (Ra_ [5, 13]) (h := ?_)
  refine pI_ 5 (some 20) (Ra_ [6, 12]) (h := ?_)
  refine pI_ 6 (some 21) (Ra_ [7, 11]) (h := ?_)
  refine pI_ 7 (some 22) (Ra_ [8, 10]) (h := ?_)
  refine pI_ 8 (some 23) (Ra_ [9, 9]) (h := ?_)
  refine pI_ 9 (some 24) (Ra_ [10, 8]) (h := ?_)
  refine pI_ 10 (some 25) (Ra_ [11, 7]) (h := ?_)
  refine pI_ 11 (some 26) (Ra_ [12, 6]) (h := ?_)
  refine pI_ 13 (some 28) (Ra_ [12, 1, 1, 4]) (h := ?_)
  refine tI4_ 12 (some 27) (Ra_ [14, 4]) (h := ?_)
  refine tI4_ 14 (some 29) (Ra_ [15, 3]) (h := ?_)
  refine pI_ 15 (some 30) (Ra_ [16, 2]) (h := ?_)
  refine pI_ 16 (some 31) (Ra_ [17, 1]) (h := ?_)
  refine pI_ 17 (some 32) (Ra_ [18]) (h := ?_)
  refine done_ (done_of HT_.out (by kernel_rfl)) ?_
  try go_wp2
  go_ret
  exact ⟨by first | rfl | (simp [errW_none, errW_some] <;> rfl) | (simp only [← hji9]; first | rfl | (simp [errW_none, errW_some] <;> rfl)) | (simp [*, errW_none, errW_some] <;> rfl), m23_⟩

/-! ### sha_Sum: function 69 -/
def sha_Sum.f (l0 : List Int) : Option (ByteArray) := Go.Proofs.YtdeggemomajhcaaDoor.shaSumF l0
theorem sha_Sum.calls (A0 : Option Addr) (c0 : Nat) (l0 : List Int) (r : ByteArray) (w : World) (hr0 : Kd.C (Kd.int .u8) w A0 l0.length l0) (hc0 : l0.length ≤ c0) (h : sha_Sum.f l0 = some r) :
    Calls Tryd.prog 69 #[.slice A0 l0.length c0] w fun e w' => e = .returned (.string r) ∧ Below w.heap.size w w' := Go.Proofs.YtdeggemomajhcaaDoor.shaSum_calls A0 c0 l0 r w hr0 hc0 h

end Go.Proofs.YtdeggemomajhcaaDoorH.HMerkleApplies
