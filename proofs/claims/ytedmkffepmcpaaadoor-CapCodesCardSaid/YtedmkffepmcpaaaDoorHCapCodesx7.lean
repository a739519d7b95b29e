-- PRINTED by print.py (a twelfth state) out of the translation. Not trusted: Lean checks it.
import Derived.Test.YtedmkffepmcpaaaDoorHCapCodesx0
import Derived.Test.YtedmkffepmcpaaaDoorHCapCodesx1
namespace Go.Proofs.YtedmkffepmcpaaaDoorH.HCapCodes
open Go.RowKit Go.Proofs.YtedmkffepmcpaaaDoorW.PrintWords Go.Proofs.YtedmkffepmcpaaaDoorW.PrintLast Go.Proofs.YtedmkffepmcpaaaDoorW.PrintMore
attribute [local go_sem] max2_int min2_int max_two min_two max_three min_three max_four min_four   -- for this text's walks alone
set_option linter.unusedVariables false
set_option linter.unusedSimpArgs false

attribute [local go_sem high] eqA35
/-! ### strongroomref12_Same: function 13 -/
mutual
def strongroomref12_Same.j0 : Nat → Bool → Int → Int → List (S35) → ByteArray → Int → Int → List (S35) → ByteArray → Option (Bool)
 | 0, _, _, _, _, _, _, _, _, _ => none
 | k + 1, x33, x223000, x223001, x223002, x223003, x224000, x224001, x224002, x224003 => if x33 = true then (some false) else (strongroomref12_Same.l0 k 0 x223000 x223001 x223002 x223003 x224000 x224001 x224002 x224003)
def strongroomref12_Same.l0 : Nat → Int → Int → Int → List (S35) → ByteArray → Int → Int → List (S35) → ByteArray → Option (Bool)
 | 0, _, _, _, _, _, _, _, _, _ => none
 | k + 1, x5, x223000, x223001, x223002, x223003, x224000, x224001, x224002, x224003 => if x5 < (x223002.length : Int) then (if 0 ≤ x5 then (if x5 < (x224002.length : Int) then (if (!((((rd_T35 x223002 x5).f0).toList) == (((rd_T35 x224002 x5).f0).toList)) || (!(((rd_T35 x223002 x5).f1) == ((rd_T35 x224002 x5).f1)) || (!(((rd_T35 x223002 x5).f2) == ((rd_T35 x224002 x5).f2))))) = true then (some false) else (strongroomref12_Same.l0 k (wrap64 (x5 + 1)) x223000 x223001 x223002 x223003 x224000 x224001 x224002 x224003)) else (none)) else (none)) else (some true)
end
def strongroomref12_Same.f (k : Nat) (a0_0 : Int) (a0_1 : Int) (l0_2 : List (S35)) (a0_3 : ByteArray) (a1_0 : Int) (a1_1 : Int) (l1_2 : List (S35)) (a1_3 : ByteArray) : Option (Bool) := if a0_0 = a1_0 then (if a0_1 = a1_1 then (if a0_3.toList = a1_3.toList then (strongroomref12_Same.j0 k ((l0_2.length : Int) != (l1_2.length : Int)) a0_0 a0_1 l0_2 a0_3 a1_0 a1_1 l1_2 a1_3) else (strongroomref12_Same.j0 k true a0_0 a0_1 l0_2 a0_3 a1_0 a1_1 l1_2 a1_3)) else (strongroomref12_Same.j0 k true a0_0 a0_1 l0_2 a0_3 a1_0 a1_1 l1_2 a1_3)) else (strongroomref12_Same.j0 k true a0_0 a0_1 l0_2 a0_3 a1_0 a1_1 l1_2 a1_3)
theorem strongroomref12_Same.mono_l : ∀ k, (∀ y0 y1 y2 y3 y4 y5 y6 y7 y8, LeO (strongroomref12_Same.j0 k y0 y1 y2 y3 y4 y5 y6 y7 y8) (strongroomref12_Same.j0 (k + 1) y0 y1 y2 y3 y4 y5 y6 y7 y8)) ∧ (∀ y0 y1 y2 y3 y4 y5 y6 y7 y8, LeO (strongroomref12_Same.l0 k y0 y1 y2 y3 y4 y5 y6 y7 y8) (strongroomref12_Same.l0 (k + 1) y0 y1 y2 y3 y4 y5 y6 y7 y8))
 | 0 => ⟨fun _ _ _ _ _ _ _ _ _ r h => by simp [strongroomref12_Same.j0] at h, fun _ _ _ _ _ _ _ _ _ r h => by simp [strongroomref12_Same.l0] at h⟩
 | k + 1 => by
  obtain ⟨ih0, ih1⟩ := strongroomref12_Same.mono_l k
  refine ⟨?_, ?_⟩
  ·intro y0 y1 y2 y3 y4 y5 y6 y7 y8
   unfold strongroomref12_Same.j0
   repeat' first
   | (with_reducible exact ih0 _ _ _ _ _ _ _ _ _)
   | (with_reducible exact ih1 _ _ _ _ _ _ _ _ _)
   | (with_reducible exact LeO.refl _)
   | (with_reducible exact LeO.none _)
   | (with_reducible refine LeO.ite ?_ ?_)
   | (with_reducible refine LeO.bind ?_ (fun _ => ?_))
   | exact ih0 _ _ _ _ _ _ _ _ _
   | exact ih1 _ _ _ _ _ _ _ _ _
   | exact LeO.none _
   | refine LeO.ite ?_ ?_
   | refine LeO.bind ?_ (fun _ => ?_)
  ·intro y0 y1 y2 y3 y4 y5 y6 y7 y8
   unfold strongroomref12_Same.l0
   repeat' first
   | (with_reducible exact ih0 _ _ _ _ _ _ _ _ _)
   | (with_reducible exact ih1 _ _ _ _ _ _ _ _ _)
   | (with_reducible exact LeO.refl _)
   | (with_reducible exact LeO.none _)
   | (with_reducible refine LeO.ite ?_ ?_)
   | (with_reducible refine LeO.bind ?_ (fun _ => ?_))
   | exact ih0 _ _ _ _ _ _ _ _ _
   | exact ih1 _ _ _ _ _ _ _ _ _
   | exact LeO.none _
   | refine LeO.ite ?_ ?_
   | refine LeO.bind ?_ (fun _ => ?_)
theorem strongroomref12_Same.mono : ∀ a0 a1 a2 a3 a4 a5 a6 a7 k, LeO (strongroomref12_Same.f k a0 a1 a2 a3 a4 a5 a6 a7) (strongroomref12_Same.f (k + 1) a0 a1 a2 a3 a4 a5 a6 a7) := by
 intro a0 a1 a2 a3 a4 a5 a6 a7 k
 obtain ⟨ih0, ih1⟩ := strongroomref12_Same.mono_l k
 unfold strongroomref12_Same.f
 repeat' first
   | (with_reducible exact ih0 _ _ _ _ _ _ _ _ _)
   | (with_reducible exact ih1 _ _ _ _ _ _ _ _ _)
   | (with_reducible exact LeO.refl _)
   | (with_reducible exact LeO.none _)
   | (with_reducible refine LeO.ite ?_ ?_)
   | (with_reducible refine LeO.bind ?_ (fun _ => ?_))
   | exact ih0 _ _ _ _ _ _ _ _ _
   | exact ih1 _ _ _ _ _ _ _ _ _
   | exact LeO.none _
   | refine LeO.ite ?_ ?_
   | refine LeO.bind ?_ (fun _ => ?_)
set_option maxHeartbeats 8000000 in
set_option maxRecDepth 100000 in
theorem strongroomref12_Same.calls (k : Nat) (a0_0 : Int) (a0_1 : Int) (A0_2 : Option Addr) (c0_2 : Nat) (l0_2 : List (S35)) (a0_3 : ByteArray) (a1_0 : Int) (a1_1 : Int) (A1_2 : Option Addr) (c1_2 : Nat) (l1_2 : List (S35)) (a1_3 : ByteArray) (r : Bool) (w : World) (hr0_2 : Kd.C k35 w A0_2 l0_2.length l0_2) (hc0_2 : l0_2.length ≤ c0_2) (hr1_2 : Kd.C k35 w A1_2 l1_2.length l1_2) (hc1_2 : l1_2.length ≤ c1_2) (h : strongroomref12_Same.f k a0_0 a0_1 l0_2 a0_3 a1_0 a1_1 l1_2 a1_3 = some r) :
  Calls Tryd.prog 13 #[.agg #[.int .i64 a0_0, .int .i64 a0_1, .slice A0_2 l0_2.length c0_2, .string a0_3], .agg #[.int .i64 a1_0, .int .i64 a1_1, .slice A1_2 l1_2.length c1_2, .string a1_3]] w fun e w' => e = .returned (.bool r) ∧ Below w.heap.size w w' := by
 have hu25 := Tryd.underlying25
 have hu35 := Tryd.underlying35
 have HR0_2 := Aside0.mk hr0_2
 have HC0_2 := Aside0.mk hc0_2
 clear hr0_2 hc0_2
 have HR1_2 := Aside0.mk hr1_2
 have HC1_2 := Aside0.mk hc1_2
 clear hr1_2 hc1_2
 have HB := Aside0.mk (Below.refl w.heap.size w)
 have H : (if a0_0 = a1_0 then (if a0_1 = a1_1 then (if a0_3.toList = a1_3.toList then (strongroomref12_Same.j0 k ((l0_2.length : Int) != (l1_2.length : Int)) a0_0 a0_1 l0_2 a0_3 a1_0 a1_1 l1_2 a1_3) else (strongroomref12_Same.j0 k true a0_0 a0_1 l0_2 a0_3 a1_0 a1_1 l1_2 a1_3)) else (strongroomref12_Same.j0 k true a0_0 a0_1 l0_2 a0_3 a1_0 a1_1 l1_2 a1_3)) else (strongroomref12_Same.j0 k true a0_0 a0_1 l0_2 a0_3 a1_0 a1_1 l1_2 a1_3)) = some r := h
 clear h
 have HC3 := Aside0.mk H
 clear H
 go_enter Tryd.func13, Tryd.ntmps13
 go_upto_region 1 with (first | ((with_reducible refine gate_dst (N := 2) rfl ?_); (try (refine gate_guard (by rfl) ?_; dsimp only)); refine box_event ?hg (N := 2) ?hd (cs := #[.int .i64 a0_0, .int .i64 a0_1, .slice A0_2 l0_2.length c0_2, .string a0_3]) (t := 25) ?hr ?_; (case hd => rfl); (case hg => rfl); (case hr => first | (go_simp; done) | (go_simp; rfl)); intro gb222 hg w4 hbox hb; have n0_ := Aside0.mk (below_step m31_ hb); have n1_ := Aside0.mk (hbox); have n2_ := Aside0.mk ((by rw [hg]; exact (below_size m31_) : w.heap.size ≤ gb222)); have n3_ := Aside0.mk ((by rw [hg]; exact (below_size m31_) : w.heap.size ≤ gb222)); clear HB; have HB := n0_; have BK222 := n1_; have GW222 := n2_; have GE222 := n3_; clear n0_ n1_ n2_ n3_; clear hb hbox hg) | ((with_reducible refine gate_dst (N := 3) rfl ?_); (try (refine gate_guard (by rfl) ?_; dsimp only)); refine box_event ?hg (N := 3) ?hd (cs := #[.int .i64 a1_0, .int .i64 a1_1, .slice A1_2 l1_2.length c1_2, .string a1_3]) (t := 25) ?hr ?_; (case hd => rfl); (case hg => rfl); (case hr => first | (go_simp; done) | (go_simp; rfl)); intro gb223 hg w5 hbox hb; have n0_ := Aside0.mk (blk_below (g := gb222) (o := .cells #[.int .i64 a0_0, .int .i64 a0_1, .slice A0_2 l0_2.length c0_2, .string a0_3] 25 (0, 0)) m45_ hb); have n1_ := Aside0.mk (below_step m21_ hb); have n2_ := Aside0.mk (hbox); have n3_ := Aside0.mk ((by rw [hg]; exact (below_size m21_) : w.heap.size ≤ gb223)); have n4_ := Aside0.mk ((by rw [hg]; exact (below_size m21_) : w.heap.size ≤ gb223)); have n5_ := Aside0.mk ((by rw [hg]; exact Nat.ne_of_lt (blk_lt (g := gb222) (o := .cells #[.int .i64 a0_0, .int .i64 a0_1, .slice A0_2 l0_2.length c0_2, .string a0_3] 25 (0, 0)) m45_) : gb222 ≠ gb223)); have n6_ := Aside0.mk ((by rw [hg]; exact Nat.ne_of_gt (blk_lt (g := gb222) (o := .cells #[.int .i64 a0_0, .int .i64 a0_1, .slice A0_2 l0_2.length c0_2, .string a0_3] 25 (0, 0)) m45_) : gb223 ≠ gb222)); clear BK222; clear HB; have BK222 := n0_; have HB := n1_; have BK223 := n2_; have GW223 := n3_; have GE223 := n4_; have NB222_223 := n5_; have NB223_222 := n6_; clear n0_ n1_ n2_ n3_ n4_ n5_ n6_; clear hb hbox hg))
 repeat (go_quiet (first | ((with_reducible refine gate_dst (N := 2) rfl ?_); (try (refine gate_guard (by rfl) ?_; dsimp only)); refine box_event ?hg (N := 2) ?hd (cs := #[.int .i64 a0_0, .int .i64 a0_1, .slice A0_2 l0_2.length c0_2, .string a0_3]) (t := 25) ?hr ?_; (case hd => rfl); (case hg => rfl); (case hr => first | (go_simp; done) | (go_simp; rfl)); intro gb222 hg w4 hbox hb; have n0_ := Aside0.mk (below_step m31_ hb); have n1_ := Aside0.mk (hbox); have n2_ := Aside0.mk ((by rw [hg]; exact (below_size m31_) : w.heap.size ≤ gb222)); have n3_ := Aside0.mk ((by rw [hg]; exact (below_size m31_) : w.heap.size ≤ gb222)); clear HB; have HB := n0_; have BK222 := n1_; have GW222 := n2_; have GE222 := n3_; clear n0_ n1_ n2_ n3_; clear hb hbox hg) | ((with_reducible refine gate_dst (N := 3) rfl ?_); (try (refine gate_guard (by rfl) ?_; dsimp only)); refine box_event ?hg (N := 3) ?hd (cs := #[.int .i64 a1_0, .int .i64 a1_1, .slice A1_2 l1_2.length c1_2, .string a1_3]) (t := 25) ?hr ?_; (case hd => rfl); (case hg => rfl); (case hr => first | (go_simp; done) | (go_simp; rfl)); intro gb223 hg w5 hbox hb; have n0_ := Aside0.mk (blk_below (g := gb222) (o := .cells #[.int .i64 a0_0, .int .i64 a0_1, .slice A0_2 l0_2.length c0_2, .string a0_3] 25 (0, 0)) m45_ hb); have n1_ := Aside0.mk (below_step m21_ hb); have n2_ := Aside0.mk (hbox); have n3_ := Aside0.mk ((by rw [hg]; exact (below_size m21_) : w.heap.size ≤ gb223)); have n4_ := Aside0.mk ((by rw [hg]; exact (below_size m21_) : w.heap.size ≤ gb223)); have n5_ := Aside0.mk ((by rw [hg]; exact Nat.ne_of_lt (blk_lt (g := gb222) (o := .cells #[.int .i64 a0_0, .int .i64 a0_1, .slice A0_2 l0_2.length c0_2, .string a0_3] 25 (0, 0)) m45_) : gb222 ≠ gb223)); have n6_ := Aside0.mk ((by rw [hg]; exact Nat.ne_of_gt (blk_lt (g := gb222) (o := .cells #[.int .i64 a0_0, .int .i64 a0_1, .slice A0_2 l0_2.length c0_2, .string a0_3] 25 (0, 0)) m45_) : gb223 ≠ gb222)); clear BK222; clear HB; have BK222 := n0_; have HB := n1_; have BK223 := n2_; have GW223 := n3_; have GE223 := n4_; have NB222_223 := n5_; have NB223_222 := n6_; clear n0_ n1_ n2_ n3_ n4_ n5_ n6_; clear hb hbox hg)); go_upto_region 1 with (first | ((with_reducible refine gate_dst (N := 2) rfl ?_); (try (refine gate_guard (by rfl) ?_; dsimp only)); refine box_event ?hg (N := 2) ?hd (cs := #[.int .i64 a0_0, .int .i64 a0_1, .slice A0_2 l0_2.length c0_2, .string a0_3]) (t := 25) ?hr ?_; (case hd => rfl); (case hg => rfl); (case hr => first | (go_simp; done) | (go_simp; rfl)); intro gb222 hg w4 hbox hb; have n0_ := Aside0.mk (below_step m31_ hb); have n1_ := Aside0.mk (hbox); have n2_ := Aside0.mk ((by rw [hg]; exact (below_size m31_) : w.heap.size ≤ gb222)); have n3_ := Aside0.mk ((by rw [hg]; exact (below_size m31_) : w.heap.size ≤ gb222)); clear HB; have HB := n0_; have BK222 := n1_; have GW222 := n2_; have GE222 := n3_; clear n0_ n1_ n2_ n3_; clear hb hbox hg) | ((with_reducible refine gate_dst (N := 3) rfl ?_); (try (refine gate_guard (by rfl) ?_; dsimp only)); refine box_event ?hg (N := 3) ?hd (cs := #[.int .i64 a1_0, .int .i64 a1_1, .slice A1_2 l1_2.length c1_2, .string a1_3]) (t := 25) ?hr ?_; (case hd => rfl); (case hg => rfl); (case hr => first | (go_simp; done) | (go_simp; rfl)); intro gb223 hg w5 hbox hb; have n0_ := Aside0.mk (blk_below (g := gb222) (o := .cells #[.int .i64 a0_0, .int .i64 a0_1, .slice A0_2 l0_2.length c0_2, .string a0_3] 25 (0, 0)) m45_ hb); have n1_ := Aside0.mk (below_step m21_ hb); have n2_ := Aside0.mk (hbox); have n3_ := Aside0.mk ((by rw [hg]; exact (below_size m21_) : w.heap.size ≤ gb223)); have n4_ := Aside0.mk ((by rw [hg]; exact (below_size m21_) : w.heap.size ≤ gb223)); have n5_ := Aside0.mk ((by rw [hg]; exact Nat.ne_of_lt (blk_lt (g := gb222) (o := .cells #[.int .i64 a0_0, .int .i64 a0_1, .slice A0_2 l0_2.length c0_2, .string a0_3] 25 (0, 0)) m45_) : gb222 ≠ gb223)); have n6_ := Aside0.mk ((by rw [hg]; exact Nat.ne_of_gt (blk_lt (g := gb222) (o := .cells #[.int .i64 a0_0, .int .i64 a0_1, .slice A0_2 l0_2.length c0_2, .string a0_3] 25 (0, 0)) m45_) : gb223 ≠ gb222)); clear BK222; clear HB; have BK222 := n0_; have HB := n1_; have BK223 := n2_; have GW223 := n3_; have GE223 := n4_; have NB222_223 := n5_; have NB223_222 := n6_; clear n0_ n1_ n2_ n3_ n4_ n5_ n6_; clear hb hbox hg)))
 (try simp only [Act.put, List.setIfInBounds_toArray, List.set_cons_zero, List.set_cons_succ])
 go_cut [33] (fun v33 wc => ∃ (kq : Nat) (x33_2 : Bool), v33 = .bool x33_2 ∧ Aside0 (strongroomref12_Same.j0 kq x33_2 a0_0 a0_1 l0_2 a0_3 a1_0 a1_1 l1_2 a1_3 = some r) ∧ Aside0 (kq ≤ k) ∧ Aside0 (wc.heap[gb222]? = some (.cells #[.int .i64 a0_0, .int .i64 a0_1, (.slice A0_2 l0_2.length c0_2), .string a0_3] 25 (0, 0))) ∧ Aside0 (wc.heap[gb223]? = some (.cells #[.int .i64 a1_0, .int .i64 a1_1, (.slice A1_2 l1_2.length c1_2), .string a1_3] 25 (0, 0))) ∧ Aside0 (Below w.heap.size w wc))
 case first =>
  have H := HC3.out
  clear HC3
  by_cases c6 : a0_0 = a1_0
  case neg =>
   rw [if_neg c6] at H
   have c6b0 : (a0_0 == a1_0) = false := beq_eq_false_iff_ne.mpr c6
   have c6b1 : (a0_0 != a1_0) = true := bne_iff_ne.mpr c6
   (first | rw [c6b0] | (simp only [i64_w, i32_w]; rw [c6b0]) | skip)
   have H' := Aside0.mk H
   clear H
   have hnb18 := NB222_223.out
   have hnc18 := NB223_222.out
   obtain ⟨hcz19_0, hcz19_1, hcz19_2, hcz19_3⟩ := bc4_ BK222.out
   obtain ⟨hfz19_0, hfz19_1, hfz19_2, hfz19_3⟩ := bf4_ BK222.out
   obtain ⟨hcz20_0, hcz20_1, hcz20_2, hcz20_3⟩ := bc4_ BK223.out
   obtain ⟨hfz20_0, hfz20_1, hfz20_2, hfz20_3⟩ := bf4_ BK223.out
   go_wp2
   repeat (go_quiet (fail); try go_wp2)
   go_meet
   case rel => exact ⟨_, (true), m55_, H', ⟨by first | omega | exact Nat.le_refl _⟩, ⟨by refine bD_ ?_; exact BK222.out⟩, ⟨by refine bD_ ?_; exact BK223.out⟩, ⟨m63_⟩⟩
  rw [if_pos c6] at H
  have c6b0 : (a0_0 == a1_0) = true := beq_iff_eq.mpr c6
  have c6b1 : (a0_0 != a1_0) = false := bne_eq_false_iff_eq.mpr c6
  clear c6
  (first | rw [c6b0] | (simp only [i64_w, i32_w]; rw [c6b0]) | skip)
  by_cases c7 : a0_1 = a1_1
  case neg =>
   rw [if_neg c7] at H
   have c7b0 : (a0_1 == a1_1) = false := beq_eq_false_iff_ne.mpr c7
   have c7b1 : (a0_1 != a1_1) = true := bne_iff_ne.mpr c7
   have H' := Aside0.mk H
   clear H
   have hnb15 := NB222_223.out
   have hnc15 := NB223_222.out
   obtain ⟨hcz16_0, hcz16_1, hcz16_2, hcz16_3⟩ := bc4_ BK222.out
   obtain ⟨hfz16_0, hfz16_1, hfz16_2, hfz16_3⟩ := bf4_ BK222.out
   obtain ⟨hcz17_0, hcz17_1, hcz17_2, hcz17_3⟩ := bc4_ BK223.out
   obtain ⟨hfz17_0, hfz17_1, hfz17_2, hfz17_3⟩ := bf4_ BK223.out
   go_wp2
   repeat (go_quiet (fail); try go_wp2)
   go_meet
   case rel => exact ⟨_, (true), m55_, H', ⟨by first | omega | exact Nat.le_refl _⟩, ⟨by refine bD_ ?_; exact BK222.out⟩, ⟨by refine bD_ ?_; exact BK223.out⟩, ⟨m63_⟩⟩
  rw [if_pos c7] at H
  have c7b0 : (a0_1 == a1_1) = true := beq_iff_eq.mpr c7
  have c7b1 : (a0_1 != a1_1) = false := bne_eq_false_iff_eq.mpr c7
  clear c7
  by_cases c8 : a0_3.toList = a1_3.toList
  case neg =>
   rw [if_neg c8] at H
   have c8b0 : (a0_3.toList == a1_3.toList) = false := beq_eq_false_iff_ne.mpr c8
   have c8b1 : (a0_3.toList != a1_3.toList) = true := bne_iff_ne.mpr c8
   have H' := Aside0.mk H
   clear H
   have hnb12 := NB222_223.out
   have hnc12 := NB223_222.out
   obtain ⟨hcz13_0, hcz13_1, hcz13_2, hcz13_3⟩ := bc4_ BK222.out
   obtain ⟨hfz13_0, hfz13_1, hfz13_2, hfz13_3⟩ := bf4_ BK222.out
   obtain ⟨hcz14_0, hcz14_1, hcz14_2, hcz14_3⟩ := bc4_ BK223.out
   obtain ⟨hfz14_0, hfz14_1, hfz14_2, hfz14_3⟩ := bf4_ BK223.out
   go_wp2
   repeat (go_quiet (fail); try go_wp2)
   go_meet
   case rel => exact ⟨_, (true), m55_, H', ⟨by first | omega | exact Nat.le_refl _⟩, ⟨by refine bD_ ?_; exact BK222.out⟩, ⟨by refine bD_ ?_; exact BK223.out⟩, ⟨m63_⟩⟩
  rw [if_pos c8] at H
  have c8b0 : (a0_3.toList == a1_3.toList) = true := beq_iff_eq.mpr c8
  have c8b1 : (a0_3.toList != a1_3.toList) = false := bne_eq_false_iff_eq.mpr c8
  clear c8
  have H' := Aside0.mk H
  clear H
  have hnb9 := NB222_223.out
  have hnc9 := NB223_222.out
  obtain ⟨hcz10_0, hcz10_1, hcz10_2, hcz10_3⟩ := bc4_ BK222.out
  obtain ⟨hfz10_0, hfz10_1, hfz10_2, hfz10_3⟩ := bf4_ BK222.out
  obtain ⟨hcz11_0, hcz11_1, hcz11_2, hcz11_3⟩ := bc4_ BK223.out
  obtain ⟨hfz11_0, hfz11_1, hfz11_2, hfz11_3⟩ := bf4_ BK223.out
  go_wp2
  repeat (go_quiet (fail); try go_wp2)
  go_meet
  case rel => exact ⟨_, (((l0_2.length : Int) != (l1_2.length : Int))), m55_, H', ⟨by first | omega | exact Nat.le_refl _⟩, ⟨by refine bD_ ?_; exact BK222.out⟩, ⟨by refine bD_ ?_; exact BK223.out⟩, ⟨m63_⟩⟩
 clear HC3
 obtain ⟨kq, x33_2, rfl, HA, HJ2, BK222, BK223, HB⟩ := hcut
 cases kq with
 | zero => exact absurd HA.out (by simp [strongroomref12_Same.j0])
 | succ kj2 =>
  have H := HA.out
  clear HA
  simp only [strongroomref12_Same.j0] at H
  by_cases c21 : x33_2 = true
  ·subst c21
   have H1 : (some false) = some r := by rw [if_pos rfl] at H; exact H
   clear H
   have H := H1
   clear H1
   obtain rfl := Option.some.inj H
   go_wp2
   repeat (go_quiet (fail); try go_wp2)
   go_ret
   exact ⟨by first | rfl | (simp [errW_none, errW_some] <;> rfl) | (simp [*, errW_none, errW_some] <;> rfl), m63_⟩
  replace c21 := Bool.eq_false_iff.mpr c21
  subst c21
  have H1 : (strongroomref12_Same.l0 kj2 0 a0_0 a0_1 l0_2 a0_3 a1_0 a1_1 l1_2 a1_3) = some r := by rw [if_neg (show ¬ (false = true) by decide)] at H; exact H
  clear H
  have H := H1
  clear H1
  have H' := Aside0.mk H
  clear H
  go_wp2
  repeat (go_quiet (fail); try go_wp2)
  go_loopg [5] kj2 (fun kq v5 w' => ∃ (x5_2 : Int), v5 = .int .i64 x5_2 ∧ Aside0 (strongroomref12_Same.l0 kq x5_2 a0_0 a0_1 l0_2 a0_3 a1_0 a1_1 l1_2 a1_3 = some r) ∧ Aside0 (kq ≤ kj2) ∧ Aside0 (w'.heap[gb222]? = some (.cells #[.int .i64 a0_0, .int .i64 a0_1, (.slice A0_2 l0_2.length c0_2), .string a0_3] 25 (0, 0))) ∧ Aside0 (w'.heap[gb223]? = some (.cells #[.int .i64 a1_0, .int .i64 a1_1, (.slice A1_2 l1_2.length c1_2), .string a1_3] 25 (0, 0))) ∧ Aside0 (Below w.heap.size w w'))
  case atStart => exact ⟨(0), m55_, H', ⟨Nat.le_refl _⟩, ⟨by refine bD_ ?_; exact BK222.out⟩, ⟨by refine bD_ ?_; exact BK223.out⟩, ⟨m63_⟩⟩
  clear H'
  try clear c21
  obtain ⟨x5_2, rfl, HA, HK2, BK222, BK223, HB⟩ := hrel
  cases gk with
  | zero => exact absurd HA.out (by simp [strongroomref12_Same.l0])
  | succ k2 =>
   have H := HA.out
   clear HA
   simp only [strongroomref12_Same.l0] at H
   by_cases c22 : x5_2 < (l0_2.length : Int)
   case neg =>
    rw [if_neg c22] at H
    have c22b0 : decide (x5_2 < (l0_2.length : Int)) = false := decide_eq_false c22
    clear c22
    obtain rfl := Option.some.inj H
    have hnb32 := NB222_223.out
    have hnc32 := NB223_222.out
    obtain ⟨hcz33_0, hcz33_1, hcz33_2, hcz33_3⟩ := bc4_ BK222.out
    obtain ⟨hfz33_0, hfz33_1, hfz33_2, hfz33_3⟩ := bf4_ BK222.out
    go_wp2
    repeat (go_quiet (fail); try go_wp2)
    go_ret
    exact ⟨by first | rfl | (simp [errW_none, errW_some] <;> rfl) | (simp [*, errW_none, errW_some] <;> rfl), m63_⟩
   rw [if_pos c22] at H
   have c22b0 : decide (x5_2 < (l0_2.length : Int)) = true := decide_eq_true c22
   clear c22
   by_cases c23 : 0 ≤ x5_2
   case neg =>
    rw [if_neg c23] at H
    exact absurd H (by simp)
   rw [if_pos c23] at H
   have c23b0 : decide (0 ≤ x5_2) = true := decide_eq_true c23
   clear c23
   by_cases c24 : x5_2 < (l1_2.length : Int)
   case neg =>
    rw [if_neg c24] at H
    exact absurd H (by simp)
   rw [if_pos c24] at H
   have c24b0 : decide (x5_2 < (l1_2.length : Int)) = true := decide_eq_true c24
   clear c24
   by_cases c25 : (!((((rd_T35 l0_2 x5_2).f0).toList) == (((rd_T35 l1_2 x5_2).f0).toList)) || (!(((rd_T35 l0_2 x5_2).f1) == ((rd_T35 l1_2 x5_2).f1)) || (!(((rd_T35 l0_2 x5_2).f2) == ((rd_T35 l1_2 x5_2).f2))))) = true
   ·rw [if_pos c25] at H
    have c25b0 : (!((((rd_T35 l0_2 x5_2).f0).toList) == (((rd_T35 l1_2 x5_2).f0).toList)) || (!(((rd_T35 l0_2 x5_2).f1) == ((rd_T35 l1_2 x5_2).f1)) || (!(((rd_T35 l0_2 x5_2).f2) == ((rd_T35 l1_2 x5_2).f2))))) = true := c25
    clear c25
    obtain rfl := Option.some.inj H
    have hnb26 := NB222_223.out
    have hnc26 := NB223_222.out
    obtain ⟨hcz27_0, hcz27_1, hcz27_2, hcz27_3⟩ := bc4_ BK222.out
    obtain ⟨hfz27_0, hfz27_1, hfz27_2, hfz27_3⟩ := bf4_ BK222.out
    have p224 : 0 ≤ (x5_2 : Int) := of_decide_eq_true m54_
    have q224 : x5_2 < (l0_2.length : Int) := of_decide_eq_true m54_
    obtain ⟨ad224, e224, hx224_0, hx224_1, hx224_2⟩ := at_T35 HR0_2.out x5_2 p224 q224
    cases e224
    replace hx224_0 := (HB.out.cell (World.block_lt_of_cell? w _ hx224_0)).trans hx224_0
    replace hx224_1 := (HB.out.cell (World.block_lt_of_cell? w _ hx224_1)).trans hx224_1
    replace hx224_2 := (HB.out.cell (World.block_lt_of_cell? w _ hx224_2)).trans hx224_2
    replace p224 := eq_true p224
    replace q224 := eq_true q224
    obtain ⟨hcz28_0, hcz28_1, hcz28_2, hcz28_3⟩ := bc4_ BK223.out
    obtain ⟨hfz28_0, hfz28_1, hfz28_2, hfz28_3⟩ := bf4_ BK223.out
    have p225 : 0 ≤ (x5_2 : Int) := of_decide_eq_true m54_
    have q225 : x5_2 < (l1_2.length : Int) := of_decide_eq_true m54_
    obtain ⟨ad225, e225, hx225_0, hx225_1, hx225_2⟩ := at_T35 HR1_2.out x5_2 p225 q225
    cases e225
    replace hx225_0 := (HB.out.cell (World.block_lt_of_cell? w _ hx225_0)).trans hx225_0
    replace hx225_1 := (HB.out.cell (World.block_lt_of_cell? w _ hx225_1)).trans hx225_1
    replace hx225_2 := (HB.out.cell (World.block_lt_of_cell? w _ hx225_2)).trans hx225_2
    replace p225 := eq_true p225
    replace q225 := eq_true q225
    go_wp2
    repeat (go_quiet (fail); try go_wp2)
    go_ret
    exact ⟨by first | rfl | (simp [errW_none, errW_some] <;> rfl) | (simp [*, errW_none, errW_some] <;> rfl), m63_⟩
   rw [if_neg c25] at H
   have c25b0 : (!((((rd_T35 l0_2 x5_2).f0).toList) == (((rd_T35 l1_2 x5_2).f0).toList)) || (!(((rd_T35 l0_2 x5_2).f1) == ((rd_T35 l1_2 x5_2).f1)) || (!(((rd_T35 l0_2 x5_2).f2) == ((rd_T35 l1_2 x5_2).f2))))) = false := by simpa using c25
   clear c25
   have H' := Aside0.mk H
   clear H
   have hnb29 := NB222_223.out
   have hnc29 := NB223_222.out
   obtain ⟨hcz30_0, hcz30_1, hcz30_2, hcz30_3⟩ := bc4_ BK222.out
   obtain ⟨hfz30_0, hfz30_1, hfz30_2, hfz30_3⟩ := bf4_ BK222.out
   have p224 : 0 ≤ (x5_2 : Int) := of_decide_eq_true m54_
   have q224 : x5_2 < (l0_2.length : Int) := of_decide_eq_true m54_
   obtain ⟨ad224, e224, hx224_0, hx224_1, hx224_2⟩ := at_T35 HR0_2.out x5_2 p224 q224
   cases e224
   replace hx224_0 := (HB.out.cell (World.block_lt_of_cell? w _ hx224_0)).trans hx224_0
   replace hx224_1 := (HB.out.cell (World.block_lt_of_cell? w _ hx224_1)).trans hx224_1
   replace hx224_2 := (HB.out.cell (World.block_lt_of_cell? w _ hx224_2)).trans hx224_2
   replace p224 := eq_true p224
   replace q224 := eq_true q224
   obtain ⟨hcz31_0, hcz31_1, hcz31_2, hcz31_3⟩ := bc4_ BK223.out
   obtain ⟨hfz31_0, hfz31_1, hfz31_2, hfz31_3⟩ := bf4_ BK223.out
   have p225 : 0 ≤ (x5_2 : Int) := of_decide_eq_true m54_
   have q225 : x5_2 < (l1_2.length : Int) := of_decide_eq_true m54_
   obtain ⟨ad225, e225, hx225_0, hx225_1, hx225_2⟩ := at_T35 HR1_2.out x5_2 p225 q225
   cases e225
   replace hx225_0 := (HB.out.cell (World.block_lt_of_cell? w _ hx225_0)).trans hx225_0
   replace hx225_1 := (HB.out.cell (World.block_lt_of_cell? w _ hx225_1)).trans hx225_1
   replace hx225_2 := (HB.out.cell (World.block_lt_of_cell? w _ hx225_2)).trans hx225_2
   replace p225 := eq_true p225
   replace q225 := eq_true q225
   go_wp2
   repeat (go_quiet (fail); try go_wp2)
   go_roundg k2
   case measure => have := HJ2.out; have := HK2.out; omega
   case rel => exact ⟨(wrap64 (x5_2 + 1)), m55_, H', ⟨by have := HJ2.out; have := HK2.out; omega⟩, ⟨by refine bD_ ?_; exact BK222.out⟩, ⟨by refine bD_ ?_; exact BK223.out⟩, ⟨m63_⟩⟩

/-! ### strongroomlaw12_small: function 15 -/
mutual
def strongroomlaw12_small.j0 : Nat → Bool → Int → Int → List (S35) → ByteArray → Option (Bool)
 | 0, _, _, _, _, _ => none
 | k + 1, x13, x227000, x227001, x227002, x227003 => if x13 = true then (some false) else (strongroomlaw12_small.l0 k 0 x227000 x227001 x227002 x227003)
def strongroomlaw12_small.l0 : Nat → Int → Int → Int → List (S35) → ByteArray → Option (Bool)
 | 0, _, _, _, _, _ => none
 | k + 1, x3, x227000, x227001, x227002, x227003 => if x3 < (x227002.length : Int) then (if 0 ≤ x3 then (if (((rd_T35 x227002 x3).f0).size : Int) > 1000 then (some false) else (strongroomlaw12_small.l0 k (wrap64 (x3 + 1)) x227000 x227001 x227002 x227003)) else (none)) else (some true)
end
def strongroomlaw12_small.f (k : Nat) (a0_0 : Int) (a0_1 : Int) (l0_2 : List (S35)) (a0_3 : ByteArray) : Option (Bool) := if (l0_2.length : Int) > 40 then (strongroomlaw12_small.j0 k true a0_0 a0_1 l0_2 a0_3) else (strongroomlaw12_small.j0 k (decide ((a0_3.size : Int) > 1000)) a0_0 a0_1 l0_2 a0_3)
theorem strongroomlaw12_small.mono_l : ∀ k, (∀ y0 y1 y2 y3 y4, LeO (strongroomlaw12_small.j0 k y0 y1 y2 y3 y4) (strongroomlaw12_small.j0 (k + 1) y0 y1 y2 y3 y4)) ∧ (∀ y0 y1 y2 y3 y4, LeO (strongroomlaw12_small.l0 k y0 y1 y2 y3 y4) (strongroomlaw12_small.l0 (k + 1) y0 y1 y2 y3 y4))
 | 0 => ⟨fun _ _ _ _ _ r h => by simp [strongroomlaw12_small.j0] at h, fun _ _ _ _ _ r h => by simp [strongroomlaw12_small.l0] at h⟩
 | k + 1 => by
  obtain ⟨ih0, ih1⟩ := strongroomlaw12_small.mono_l k
  refine ⟨?_, ?_⟩
  ·intro y0 y1 y2 y3 y4
   unfold strongroomlaw12_small.j0
   repeat' first
   | (with_reducible exact ih0 _ _ _ _ _)
   | (with_reducible exact ih1 _ _ _ _ _)
   | (with_reducible exact LeO.refl _)
   | (with_reducible exact LeO.none _)
   | (with_reducible refine LeO.ite ?_ ?_)
   | (with_reducible refine LeO.bind ?_ (fun _ => ?_))
   | exact ih0 _ _ _ _ _
   | exact ih1 _ _ _ _ _
   | exact LeO.none _
   | refine LeO.ite ?_ ?_
   | refine LeO.bind ?_ (fun _ => ?_)
  ·intro y0 y1 y2 y3 y4
   unfold strongroomlaw12_small.l0
   repeat' first
   | (with_reducible exact ih0 _ _ _ _ _)
   | (with_reducible exact ih1 _ _ _ _ _)
   | (with_reducible exact LeO.refl _)
   | (with_reducible exact LeO.none _)
   | (with_reducible refine LeO.ite ?_ ?_)
   | (with_reducible refine LeO.bind ?_ (fun _ => ?_))
   | exact ih0 _ _ _ _ _
   | exact ih1 _ _ _ _ _
   | exact LeO.none _
   | refine LeO.ite ?_ ?_
   | refine LeO.bind ?_ (fun _ => ?_)
theorem strongroomlaw12_small.mono : ∀ a0 a1 a2 a3 k, LeO (strongroomlaw12_small.f k a0 a1 a2 a3) (strongroomlaw12_small.f (k + 1) a0 a1 a2 a3) := by
 intro a0 a1 a2 a3 k
 obtain ⟨ih0, ih1⟩ := strongroomlaw12_small.mono_l k
 unfold strongroomlaw12_small.f
 repeat' first
   | (with_reducible exact ih0 _ _ _ _ _)
   | (with_reducible exact ih1 _ _ _ _ _)
   | (with_reducible exact LeO.refl _)
   | (with_reducible exact LeO.none _)
   | (with_reducible refine LeO.ite ?_ ?_)
   | (with_reducible refine LeO.bind ?_ (fun _ => ?_))
   | exact ih0 _ _ _ _ _
   | exact ih1 _ _ _ _ _
   | exact LeO.none _
   | refine LeO.ite ?_ ?_
   | refine LeO.bind ?_ (fun _ => ?_)
set_option maxHeartbeats 8000000 in
set_option maxRecDepth 100000 in
theorem strongroomlaw12_small.calls (k : Nat) (a0_0 : Int) (a0_1 : Int) (A0_2 : Option Addr) (c0_2 : Nat) (l0_2 : List (S35)) (a0_3 : ByteArray) (r : Bool) (w : World) (hr0_2 : Kd.C k35 w A0_2 l0_2.length l0_2) (hc0_2 : l0_2.length ≤ c0_2) (h : strongroomlaw12_small.f k a0_0 a0_1 l0_2 a0_3 = some r) :
  Calls Tryd.prog 15 #[.agg #[.int .i64 a0_0, .int .i64 a0_1, .slice A0_2 l0_2.length c0_2, .string a0_3]] w fun e w' => e = .returned (.bool r) ∧ Below w.heap.size w w' := by
 have hu25 := Tryd.underlying25
 have HR0_2 := Aside0.mk hr0_2
 have HC0_2 := Aside0.mk hc0_2
 clear hr0_2 hc0_2
 have HB := Aside0.mk (Below.refl w.heap.size w)
 have H : (if (l0_2.length : Int) > 40 then (strongroomlaw12_small.j0 k true a0_0 a0_1 l0_2 a0_3) else (strongroomlaw12_small.j0 k (decide ((a0_3.size : Int) > 1000)) a0_0 a0_1 l0_2 a0_3)) = some r := h
 clear h
 have HC2 := Aside0.mk H
 clear H
 go_enter Tryd.func15, Tryd.ntmps15
 go_upto_region 1 with (first | ((with_reducible refine gate_dst (N := 1) rfl ?_); (try (refine gate_guard (by rfl) ?_; dsimp only)); refine box_event ?hg (N := 1) ?hd (cs := #[.int .i64 a0_0, .int .i64 a0_1, .slice A0_2 l0_2.length c0_2, .string a0_3]) (t := 25) ?hr ?_; (case hd => rfl); (case hg => rfl); (case hr => first | (go_simp; done) | (go_simp; rfl)); intro gb226 hg w3 hbox hb; have n0_ := Aside0.mk (below_step m31_ hb); have n1_ := Aside0.mk (hbox); have n2_ := Aside0.mk ((by rw [hg]; exact (below_size m31_) : w.heap.size ≤ gb226)); have n3_ := Aside0.mk ((by rw [hg]; exact (below_size m31_) : w.heap.size ≤ gb226)); clear HB; have HB := n0_; have BK226 := n1_; have GW226 := n2_; have GE226 := n3_; clear n0_ n1_ n2_ n3_; clear hb hbox hg))
 (try simp only [Act.put, List.setIfInBounds_toArray, List.set_cons_zero, List.set_cons_succ])
 go_cut [13] (fun v13 wc => ∃ (kq : Nat) (x13_1 : Bool), v13 = .bool x13_1 ∧ Aside0 (strongroomlaw12_small.j0 kq x13_1 a0_0 a0_1 l0_2 a0_3 = some r) ∧ Aside0 (kq ≤ k) ∧ Aside0 (wc.heap[gb226]? = some (.cells #[.int .i64 a0_0, .int .i64 a0_1, (.slice A0_2 l0_2.length c0_2), .string a0_3] 25 (0, 0))) ∧ Aside0 (Below w.heap.size w wc))
 case first =>
  have H := HC2.out
  clear HC2
  by_cases c4 : (l0_2.length : Int) > 40
  ·rw [if_pos c4] at H
   have c4b0 : decide (40 < (l0_2.length : Int)) = true := decide_eq_true c4
   have c4b1 : decide (40 < l0_2.length) = true := decide_eq_true (by omega)
   clear c4
   (first | rw [c4b0] | (simp only [i64_w, i32_w]; rw [c4b0]) | skip)
   have H' := Aside0.mk H
   clear H
   obtain ⟨hcz5_0, hcz5_1, hcz5_2, hcz5_3⟩ := bc4_ BK226.out
   obtain ⟨hfz5_0, hfz5_1, hfz5_2, hfz5_3⟩ := bf4_ BK226.out
   go_wp2
   go_meet
   case rel => exact ⟨_, (true), m55_, H', ⟨by first | omega | exact Nat.le_refl _⟩, ⟨by refine bD_ ?_; exact BK226.out⟩, ⟨m73_⟩⟩
  rw [if_neg c4] at H
  have c4b0 : decide (40 < (l0_2.length : Int)) = false := decide_eq_false c4
  have c4b1 : decide (40 < l0_2.length) = false := decide_eq_false (by omega)
  clear c4
  (first | rw [c4b0] | (simp only [i64_w, i32_w]; rw [c4b0]) | skip)
  have H' := Aside0.mk H
  clear H
  obtain ⟨hcz6_0, hcz6_1, hcz6_2, hcz6_3⟩ := bc4_ BK226.out
  obtain ⟨hfz6_0, hfz6_1, hfz6_2, hfz6_3⟩ := bf4_ BK226.out
  go_wp2
  go_meet
  case rel => exact ⟨_, (decide ((a0_3.size : Int) > 1000)), m55_, H', ⟨by first | omega | exact Nat.le_refl _⟩, ⟨by refine bD_ ?_; exact BK226.out⟩, ⟨m73_⟩⟩
 clear HC2
 obtain ⟨kq, x13_1, rfl, HA, HJ1, BK226, HB⟩ := hcut
 cases kq with
 | zero => exact absurd HA.out (by simp [strongroomlaw12_small.j0])
 | succ kj1 =>
  have H := HA.out
  clear HA
  simp only [strongroomlaw12_small.j0] at H
  by_cases c7 : x13_1 = true
  ·subst c7
   have H1 : (some false) = some r := by rw [if_pos rfl] at H; exact H
   clear H
   have H := H1
   clear H1
   obtain rfl := Option.some.inj H
   go_wp2
   go_ret
   exact ⟨by first | rfl | (simp [errW_none, errW_some] <;> rfl) | (simp [*, errW_none, errW_some] <;> rfl), m73_⟩
  replace c7 := Bool.eq_false_iff.mpr c7
  subst c7
  have H1 : (strongroomlaw12_small.l0 kj1 0 a0_0 a0_1 l0_2 a0_3) = some r := by rw [if_neg (show ¬ (false = true) by decide)] at H; exact H
  clear H
  have H := H1
  clear H1
  have H' := Aside0.mk H
  clear H
  go_wp2
  go_loopg [3] kj1 (fun kq v3 w' => ∃ (x3_2 : Int), v3 = .int .i64 x3_2 ∧ Aside0 (strongroomlaw12_small.l0 kq x3_2 a0_0 a0_1 l0_2 a0_3 = some r) ∧ Aside0 (kq ≤ kj1) ∧ Aside0 (w'.heap[gb226]? = some (.cells #[.int .i64 a0_0, .int .i64 a0_1, (.slice A0_2 l0_2.length c0_2), .string a0_3] 25 (0, 0))) ∧ Aside0 (Below w.heap.size w w'))
  case atStart => exact ⟨(0), m55_, H', ⟨Nat.le_refl _⟩, ⟨by refine bD_ ?_; exact BK226.out⟩, ⟨m73_⟩⟩
  clear H'
  try clear c7
  obtain ⟨x3_2, rfl, HA, HK2, BK226, HB⟩ := hrel
  cases gk with
  | zero => exact absurd HA.out (by simp [strongroomlaw12_small.l0])
  | succ k2 =>
   have H := HA.out
   clear HA
   simp only [strongroomlaw12_small.l0] at H
   by_cases c8 : x3_2 < (l0_2.length : Int)
   case neg =>
    rw [if_neg c8] at H
    have c8b0 : decide (x3_2 < (l0_2.length : Int)) = false := decide_eq_false c8
    clear c8
    obtain rfl := Option.some.inj H
    obtain ⟨hcz13_0, hcz13_1, hcz13_2, hcz13_3⟩ := bc4_ BK226.out
    obtain ⟨hfz13_0, hfz13_1, hfz13_2, hfz13_3⟩ := bf4_ BK226.out
    go_wp2
    go_ret
    exact ⟨by first | rfl | (simp [errW_none, errW_some] <;> rfl) | (simp [*, errW_none, errW_some] <;> rfl), m73_⟩
   rw [if_pos c8] at H
   have c8b0 : decide (x3_2 < (l0_2.length : Int)) = true := decide_eq_true c8
   clear c8
   by_cases c9 : 0 ≤ x3_2
   case neg =>
    rw [if_neg c9] at H
    exact absurd H (by simp)
   rw [if_pos c9] at H
   have c9b0 : decide (0 ≤ x3_2) = true := decide_eq_true c9
   clear c9
   by_cases c10 : (((rd_T35 l0_2 x3_2).f0).size : Int) > 1000
   ·rw [if_pos c10] at H
    have c10b0 : decide (1000 < (((rd_T35 l0_2 x3_2).f0).size : Int)) = true := decide_eq_true c10
    have c10b1 : decide (1000 < ((rd_T35 l0_2 x3_2).f0).size) = true := decide_eq_true (by omega)
    clear c10
    obtain rfl := Option.some.inj H
    obtain ⟨hcz11_0, hcz11_1, hcz11_2, hcz11_3⟩ := bc4_ BK226.out
    obtain ⟨hfz11_0, hfz11_1, hfz11_2, hfz11_3⟩ := bf4_ BK226.out
    have p227 : 0 ≤ (x3_2 : Int) := of_decide_eq_true m54_
    have q227 : x3_2 < (l0_2.length : Int) := of_decide_eq_true m54_
    obtain ⟨ad227, e227, hx227_0, hx227_1, hx227_2⟩ := at_T35 HR0_2.out x3_2 p227 q227
    cases e227
    replace hx227_0 := (HB.out.cell (World.block_lt_of_cell? w _ hx227_0)).trans hx227_0
    replace hx227_1 := (HB.out.cell (World.block_lt_of_cell? w _ hx227_1)).trans hx227_1
    replace hx227_2 := (HB.out.cell (World.block_lt_of_cell? w _ hx227_2)).trans hx227_2
    replace p227 := eq_true p227
    replace q227 := eq_true q227
    go_wp2
    go_ret
    exact ⟨by first | rfl | (simp [errW_none, errW_some] <;> rfl) | (simp [*, errW_none, errW_some] <;> rfl), m73_⟩
   rw [if_neg c10] at H
   have c10b0 : decide (1000 < (((rd_T35 l0_2 x3_2).f0).size : Int)) = false := decide_eq_false c10
   have c10b1 : decide (1000 < ((rd_T35 l0_2 x3_2).f0).size) = false := decide_eq_false (by omega)
   clear c10
   have H' := Aside0.mk H
   clear H
   obtain ⟨hcz12_0, hcz12_1, hcz12_2, hcz12_3⟩ := bc4_ BK226.out
   obtain ⟨hfz12_0, hfz12_1, hfz12_2, hfz12_3⟩ := bf4_ BK226.out
   have p227 : 0 ≤ (x3_2 : Int) := of_decide_eq_true m54_
   have q227 : x3_2 < (l0_2.length : Int) := of_decide_eq_true m54_
   obtain ⟨ad227, e227, hx227_0, hx227_1, hx227_2⟩ := at_T35 HR0_2.out x3_2 p227 q227
   cases e227
   replace hx227_0 := (HB.out.cell (World.block_lt_of_cell? w _ hx227_0)).trans hx227_0
   replace hx227_1 := (HB.out.cell (World.block_lt_of_cell? w _ hx227_1)).trans hx227_1
   replace hx227_2 := (HB.out.cell (World.block_lt_of_cell? w _ hx227_2)).trans hx227_2
   replace p227 := eq_true p227
   replace q227 := eq_true q227
   go_wp2
   go_roundg k2
   case measure => have := HJ1.out; have := HK2.out; omega
   case rel => exact ⟨(wrap64 (x3_2 + 1)), m55_, H', ⟨by have := HJ1.out; have := HK2.out; omega⟩, ⟨by refine bD_ ?_; exact BK226.out⟩, ⟨m73_⟩⟩

/-! ### strongroomref12_Known: function 12 -/
def strongroomref12_Known.f (a0 : Int) (a1 : Int) : Option (Bool) := if a0 ≥ 1 then (if a0 ≤ 8 then (if a1 ≥ 0 then (some (decide (a1 ≤ 1073741824))) else (some false)) else (some false)) else (some false)
set_option maxHeartbeats 8000000 in
set_option maxRecDepth 100000 in
theorem strongroomref12_Known.calls (a0 : Int) (a1 : Int) (r : Bool) (w : World) (h : strongroomref12_Known.f a0 a1 = some r) :
  Calls Tryd.prog 12 #[.int .i64 a0, .int .i64 a1] w fun e w' => e = .returned (.bool r) ∧ Drawn0 w w' := by
 have H : (if a0 ≥ 1 then (if a0 ≤ 8 then (if a1 ≥ 0 then (some (decide (a1 ≤ 1073741824))) else (some false)) else (some false)) else (some false)) = some r := h
 clear h
 by_cases c3 : a0 ≥ 1
 case neg =>
  rw [if_neg c3] at H
  have c3b0 : decide (1 ≤ a0) = false := decide_eq_false c3
  clear c3
  obtain rfl := Option.some.inj H
  go_enter Tryd.func12, Tryd.ntmps12
  go_wp2
  go_ret
  exact ⟨by first | rfl | (simp; done) | (simp [*]; done), m84_⟩
 rw [if_pos c3] at H
 have c3b0 : decide (1 ≤ a0) = true := decide_eq_true c3
 clear c3
 by_cases c4 : a0 ≤ 8
 case neg =>
  rw [if_neg c4] at H
  have c4b0 : decide (a0 ≤ 8) = false := decide_eq_false c4
  clear c4
  obtain rfl := Option.some.inj H
  go_enter Tryd.func12, Tryd.ntmps12
  go_wp2
  go_ret
  exact ⟨by first | rfl | (simp; done) | (simp [*]; done), m84_⟩
 rw [if_pos c4] at H
 have c4b0 : decide (a0 ≤ 8) = true := decide_eq_true c4
 clear c4
 by_cases c5 : a1 ≥ 0
 ·rw [if_pos c5] at H
  have c5b0 : decide (0 ≤ a1) = true := decide_eq_true c5
  clear c5
  obtain rfl := Option.some.inj H
  go_enter Tryd.func12, Tryd.ntmps12
  go_wp2
  go_ret
  exact ⟨by first | rfl | (simp; done) | (simp [*]; done), m84_⟩
 rw [if_neg c5] at H
 have c5b0 : decide (0 ≤ a1) = false := decide_eq_false c5
 clear c5
 obtain rfl := Option.some.inj H
 go_enter Tryd.func12, Tryd.ntmps12
 go_wp2
 go_ret
 exact ⟨by first | rfl | (simp; done) | (simp [*]; done), m84_⟩

end Go.Proofs.YtedmkffepmcpaaaDoorH.HCapCodes
