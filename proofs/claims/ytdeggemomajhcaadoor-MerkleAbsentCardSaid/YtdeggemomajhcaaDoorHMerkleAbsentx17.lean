-- texts out of print.py, joined
import Derived.Test.YtdeggemomajhcaaDoorHMerkleAbsentx0
import Derived.Test.YtdeggemomajhcaaDoorHMerkleAbsentx4
import Derived.Test.YtdeggemomajhcaaDoorHMerkleAbsentx6
import Derived.Test.YtdeggemomajhcaaDoorHMerkleAbsentx12
import Derived.Test.YtdeggemomajhcaaDoorHMerkleAbsentx10
import Derived.Test.YtdeggemomajhcaaDoorHMerkleAbsentx1
namespace Go.Proofs.YtdeggemomajhcaaDoorH.HMerkleAbsent
open Go.RowKit Go.Proofs.YtdeggemomajhcaaDoorW.PrintWords Go.Proofs.YtdeggemomajhcaaDoorW.PrintLast Go.Proofs.YtdeggemomajhcaaDoorW.PrintMore
attribute [local go_sem] max2_int min2_int max_two min_two max_three min_three max_four min_four   -- for this text's walks alone
set_option linter.unusedVariables false
set_option linter.unusedSimpArgs false

/-! ### merkle_Missing: function 28 -/
mutual
def merkle_Missing.j0 : Nat → ByteArray → Int → ByteArray → Bool → Int → ByteArray → ByteArray → ByteArray → ByteArray → List ByteArray → List ByteArray → Option (Bool)
 | 0, _, _, _, _, _, _, _, _, _, _, _ => none
 | k + 1, x0, x1, x2, x30, x258000, x258001, x258002, x258003, x258004, x258005, x258006 => if x30 = true then (some false) else (if x1 = 0 then ((merkle_none.f).bind fun t259 => (merkle_Missing.j1 k x0 x1 x2 (x0.toList != t259.toList) x258000 x258001 x258002 x258003 x258004 x258005 x258006)) else (merkle_Missing.j1 k x0 x1 x2 false x258000 x258001 x258002 x258003 x258004 x258005 x258006))
def merkle_Missing.j1 : Nat → ByteArray → Int → ByteArray → Bool → Int → ByteArray → ByteArray → ByteArray → ByteArray → List ByteArray → List ByteArray → Option (Bool)
 | 0, _, _, _, _, _, _, _, _, _, _, _ => none
 | k + 1, x0, x1, x2, x37, x258000, x258001, x258002, x258003, x258004, x258005, x258006 => if x37 = true then (some false) else ((merkle_beside.f k (decide (x258000 > 0)) (Op.bytesLess x258001.toList x2.toList) x0 x1 (wrap64 (x258000 - 1)) x258001 x258002 x258005).bind fun t260 => (if t260 = true then ((merkle_beside.f k (decide (x258000 < x1)) (Op.bytesLess x2.toList x258003.toList) x0 x1 x258000 x258003 x258004 x258006).bind fun t261 => (some t261)) else (some false)))
end
def merkle_Missing.f (k : Nat) (a0 : ByteArray) (a1 : Int) (a2 : ByteArray) (a3_0 : Int) (a3_1 : ByteArray) (a3_2 : ByteArray) (a3_3 : ByteArray) (a3_4 : ByteArray) (l3_5 : List ByteArray) (l3_6 : List ByteArray) : Option (Bool) := (path_Good.f a2).bind fun t258 => (if t258 = true then (if a1 < 0 then (merkle_Missing.j0 k a0 a1 a2 true a3_0 a3_1 a3_2 a3_3 a3_4 l3_5 l3_6) else (if a1 > 1024 then (merkle_Missing.j0 k a0 a1 a2 true a3_0 a3_1 a3_2 a3_3 a3_4 l3_5 l3_6) else (if a3_0 < 0 then (merkle_Missing.j0 k a0 a1 a2 true a3_0 a3_1 a3_2 a3_3 a3_4 l3_5 l3_6) else (merkle_Missing.j0 k a0 a1 a2 (decide (a3_0 > a1)) a3_0 a3_1 a3_2 a3_3 a3_4 l3_5 l3_6)))) else (merkle_Missing.j0 k a0 a1 a2 true a3_0 a3_1 a3_2 a3_3 a3_4 l3_5 l3_6))
theorem merkle_Missing.mono_l : ∀ k, (∀ y0 y1 y2 y3 y4 y5 y6 y7 y8 y9 y10, LeO (merkle_Missing.j0 k y0 y1 y2 y3 y4 y5 y6 y7 y8 y9 y10) (merkle_Missing.j0 (k + 1) y0 y1 y2 y3 y4 y5 y6 y7 y8 y9 y10)) ∧ (∀ y0 y1 y2 y3 y4 y5 y6 y7 y8 y9 y10, LeO (merkle_Missing.j1 k y0 y1 y2 y3 y4 y5 y6 y7 y8 y9 y10) (merkle_Missing.j1 (k + 1) y0 y1 y2 y3 y4 y5 y6 y7 y8 y9 y10))
 | 0 => ⟨fun _ _ _ _ _ _ _ _ _ _ _ r h => by simp [merkle_Missing.j0] at h, fun _ _ _ _ _ _ _ _ _ _ _ r h => by simp [merkle_Missing.j1] at h⟩
 | k + 1 => by
  obtain ⟨ih0, ih1⟩ := merkle_Missing.mono_l k
  refine ⟨?_, ?_⟩
  ·intro y0 y1 y2 y3 y4 y5 y6 y7 y8 y9 y10
   unfold merkle_Missing.j0
   repeat' first
   | (with_reducible exact ih0 _ _ _ _ _ _ _ _ _ _ _)
   | (with_reducible exact ih1 _ _ _ _ _ _ _ _ _ _ _)
   | (with_reducible exact merkle_beside.mono _ _ _ _ _ _ _ _ _)
   | (with_reducible exact LeO.refl _)
   | (with_reducible exact LeO.none _)
   | (with_reducible refine LeO.ite ?_ ?_)
   | (with_reducible refine LeO.bind ?_ (fun _ => ?_))
   | exact ih0 _ _ _ _ _ _ _ _ _ _ _
   | exact ih1 _ _ _ _ _ _ _ _ _ _ _
   | exact merkle_beside.mono _ _ _ _ _ _ _ _ _
   | exact LeO.none _
   | refine LeO.ite ?_ ?_
   | refine LeO.bind ?_ (fun _ => ?_)
  ·intro y0 y1 y2 y3 y4 y5 y6 y7 y8 y9 y10
   unfold merkle_Missing.j1
   repeat' first
   | (with_reducible exact ih0 _ _ _ _ _ _ _ _ _ _ _)
   | (with_reducible exact ih1 _ _ _ _ _ _ _ _ _ _ _)
   | (with_reducible exact merkle_beside.mono _ _ _ _ _ _ _ _ _)
   | (with_reducible exact LeO.refl _)
   | (with_reducible exact LeO.none _)
   | (with_reducible refine LeO.ite ?_ ?_)
   | (with_reducible refine LeO.bind ?_ (fun _ => ?_))
   | exact ih0 _ _ _ _ _ _ _ _ _ _ _
   | exact ih1 _ _ _ _ _ _ _ _ _ _ _
   | exact merkle_beside.mono _ _ _ _ _ _ _ _ _
   | exact LeO.none _
   | refine LeO.ite ?_ ?_
   | refine LeO.bind ?_ (fun _ => ?_)
theorem merkle_Missing.mono : ∀ a0 a1 a2 a3 a4 a5 a6 a7 a8 a9 k, LeO (merkle_Missing.f k a0 a1 a2 a3 a4 a5 a6 a7 a8 a9) (merkle_Missing.f (k + 1) a0 a1 a2 a3 a4 a5 a6 a7 a8 a9) := by
 intro a0 a1 a2 a3 a4 a5 a6 a7 a8 a9 k
 obtain ⟨ih0, ih1⟩ := merkle_Missing.mono_l k
 unfold merkle_Missing.f
 repeat' first
   | (with_reducible exact ih0 _ _ _ _ _ _ _ _ _ _ _)
   | (with_reducible exact ih1 _ _ _ _ _ _ _ _ _ _ _)
   | (with_reducible exact merkle_beside.mono _ _ _ _ _ _ _ _ _)
   | (with_reducible exact LeO.refl _)
   | (with_reducible exact LeO.none _)
   | (with_reducible refine LeO.ite ?_ ?_)
   | (with_reducible refine LeO.bind ?_ (fun _ => ?_))
   | exact ih0 _ _ _ _ _ _ _ _ _ _ _
   | exact ih1 _ _ _ _ _ _ _ _ _ _ _
   | exact merkle_beside.mono _ _ _ _ _ _ _ _ _
   | exact LeO.none _
   | refine LeO.ite ?_ ?_
   | refine LeO.bind ?_ (fun _ => ?_)
set_option maxHeartbeats 8000000 in
set_option maxRecDepth 100000 in
theorem merkle_Missing.calls (k : Nat) (a0 : ByteArray) (a1 : Int) (a2 : ByteArray) (a3_0 : Int) (a3_1 : ByteArray) (a3_2 : ByteArray) (a3_3 : ByteArray) (a3_4 : ByteArray) (A3_5 : Option Addr) (c3_5 : Nat) (l3_5 : List ByteArray) (A3_6 : Option Addr) (c3_6 : Nat) (l3_6 : List ByteArray) (r : Bool) (w : World) (hr3_5 : Kd.C Kd.string w A3_5 l3_5.length l3_5) (hc3_5 : l3_5.length ≤ c3_5) (hr3_6 : Kd.C Kd.string w A3_6 l3_6.length l3_6) (hc3_6 : l3_6.length ≤ c3_6) (h : merkle_Missing.f k a0 a1 a2 a3_0 a3_1 a3_2 a3_3 a3_4 l3_5 l3_6 = some r) :
  Calls Tryd.prog 28 #[.string a0, .int .i64 a1, .string a2, .agg #[.int .i64 a3_0, .string a3_1, .string a3_2, .string a3_3, .string a3_4, .slice A3_5 l3_5.length c3_5, .slice A3_6 l3_6.length c3_6]] w fun e w' => e = .returned (.bool r) ∧ Below w.heap.size w w' := by
 have hu57 := Tryd.underlying57
 have hu44 := Tryd.underlying44
 have HR3_5 := Aside0.mk hr3_5
 have HC3_5 := Aside0.mk hc3_5
 clear hr3_5 hc3_5
 have HR3_6 := Aside0.mk hr3_6
 have HC3_6 := Aside0.mk hc3_6
 clear hr3_6 hc3_6
 have HB := Aside0.mk (Below.refl w.heap.size w)
 have H : ((path_Good.f a2).bind fun t258 => (if t258 = true then (if a1 < 0 then (merkle_Missing.j0 k a0 a1 a2 true a3_0 a3_1 a3_2 a3_3 a3_4 l3_5 l3_6) else (if a1 > 1024 then (merkle_Missing.j0 k a0 a1 a2 true a3_0 a3_1 a3_2 a3_3 a3_4 l3_5 l3_6) else (if a3_0 < 0 then (merkle_Missing.j0 k a0 a1 a2 true a3_0 a3_1 a3_2 a3_3 a3_4 l3_5 l3_6) else (merkle_Missing.j0 k a0 a1 a2 (decide (a3_0 > a1)) a3_0 a3_1 a3_2 a3_3 a3_4 l3_5 l3_6)))) else (merkle_Missing.j0 k a0 a1 a2 true a3_0 a3_1 a3_2 a3_3 a3_4 l3_5 l3_6))) = some r := h
 clear h
 have HC5 := Aside0.mk H
 clear H
 go_enter Tryd.func28, Tryd.ntmps28
 go_upto_region 1 with (first | ((with_reducible refine gate_dst (N := 7) rfl ?_); refine box_event ?hg (N := 7) ?hd (cs := #[.int .i64 a3_0, .string a3_1, .string a3_2, .string a3_3, .string a3_4, .slice A3_5 l3_5.length c3_5, .slice A3_6 l3_6.length c3_6]) (t := 57) ?hr ?_; (case hd => rfl); (case hg => rfl); (case hr => first | (go_simp; done) | (go_simp; rfl)); intro gb257 hg w6 hbox hb; have n0_ := Aside0.mk (below_step m11_ hb); have n1_ := Aside0.mk (hbox); have n2_ := Aside0.mk ((by rw [hg]; exact (below_size m11_) : w.heap.size ≤ gb257)); have n3_ := Aside0.mk ((by rw [hg]; exact (below_size m11_) : w.heap.size ≤ gb257)); clear HB; have HB := n0_; have BK257 := n1_; have GW257 := n2_; have GE257 := n3_; clear n0_ n1_ n2_ n3_; clear hb hbox hg))
 (try simp only [Act.put, List.setIfInBounds_toArray, List.set_cons_zero, List.set_cons_succ])
 go_cut [30] (fun v30 wc => ∃ (kq : Nat) (x30_4 : Bool), v30 = .bool x30_4 ∧ Aside0 (merkle_Missing.j0 kq a0 a1 a2 x30_4 a3_0 a3_1 a3_2 a3_3 a3_4 l3_5 l3_6 = some r) ∧ Aside0 (kq ≤ k) ∧ Aside0 (wc.heap[gb257]? = some (.cells #[.int .i64 a3_0, .string a3_1, .string a3_2, .string a3_3, .string a3_4, (.slice A3_5 l3_5.length c3_5), (.slice A3_6 l3_6.length c3_6)] 57 (0, 0))) ∧ Aside0 (Below w.heap.size w wc))
 case first =>
  have H := HC5.out
  clear HC5
  replace H := Option.bind_eq_some_iff.mp H
  obtain ⟨t258, A70, H⟩ := H
  replace H : (if t258 = true then (if a1 < 0 then (merkle_Missing.j0 k a0 a1 a2 true a3_0 a3_1 a3_2 a3_3 a3_4 l3_5 l3_6) else (if a1 > 1024 then (merkle_Missing.j0 k a0 a1 a2 true a3_0 a3_1 a3_2 a3_3 a3_4 l3_5 l3_6) else (if a3_0 < 0 then (merkle_Missing.j0 k a0 a1 a2 true a3_0 a3_1 a3_2 a3_3 a3_4 l3_5 l3_6) else (merkle_Missing.j0 k a0 a1 a2 (decide (a3_0 > a1)) a3_0 a3_1 a3_2 a3_3 a3_4 l3_5 l3_6)))) else (merkle_Missing.j0 k a0 a1 a2 true a3_0 a3_1 a3_2 a3_3 a3_4 l3_5 l3_6)) = some r := H
  have A7 := Aside0.mk A70
  clear A70
  by_cases c8 : t258 = true
  case neg =>
   replace c8 := Bool.eq_false_iff.mpr c8
   subst c8
   have H1 : (merkle_Missing.j0 k a0 a1 a2 true a3_0 a3_1 a3_2 a3_3 a3_4 l3_5 l3_6) = some r := by rw [if_neg (show ¬ (false = true) by decide)] at H; exact H
   clear H
   have H := H1
   clear H1
   have H' := Aside0.mk H
   clear H
   go_wp2_with (first | ((with_reducible refine gate_callee (f := 53) rfl ?_); refine goesL_ (some 10) rfl rfl Tryd.func53 (by kernel_rfl) rfl #[.string a2] rfl m10_ ?_; (with_reducible refine (path_Good.calls a2 false _ A7.out).mono ?_); rintro e w18 ⟨rfl, hb⟩; refine ⟨_, rfl, ?_⟩; replace BK257 := Aside0.mk (blk_below (g := gb257) (o := .cells #[.int .i64 a3_0, .string a3_1, .string a3_2, .string a3_3, .string a3_4, .slice A3_5 l3_5.length c3_5, .slice A3_6 l3_6.length c3_6] 57 (0, 0)) m15_ hb); replace HB := Aside0.mk (below_step m4_ hb); (try clear hb); (try clear hb2); (try clear hk); (try clear hi)))
   go_meet
   case rel => exact ⟨_, (true), m23_, H', ⟨by first | omega | exact Nat.le_refl _⟩, ⟨by (with_reducible repeat (first | refine blk_drewN ?_ _ | refine blk_drew ?_ | refine blk_alloc ?_ _)); exact BK257.out⟩, ⟨m36_⟩⟩
  subst c8
  have H1 : (if a1 < 0 then (merkle_Missing.j0 k a0 a1 a2 true a3_0 a3_1 a3_2 a3_3 a3_4 l3_5 l3_6) else (if a1 > 1024 then (merkle_Missing.j0 k a0 a1 a2 true a3_0 a3_1 a3_2 a3_3 a3_4 l3_5 l3_6) else (if a3_0 < 0 then (merkle_Missing.j0 k a0 a1 a2 true a3_0 a3_1 a3_2 a3_3 a3_4 l3_5 l3_6) else (merkle_Missing.j0 k a0 a1 a2 (decide (a3_0 > a1)) a3_0 a3_1 a3_2 a3_3 a3_4 l3_5 l3_6)))) = some r := by rw [if_pos rfl] at H; exact H
  clear H
  have H := H1
  clear H1
  by_cases c9 : a1 < 0
  ·rw [if_pos c9] at H
   have c9b0 : decide (a1 < 0) = true := decide_eq_true c9
   clear c9
   (first | rw [c9b0] | (simp only [i64_w, i32_w]; rw [c9b0]) | skip)
   have H' := Aside0.mk H
   clear H
   go_wp2_with (first | ((with_reducible refine gate_callee (f := 53) rfl ?_); refine goesL_ (some 10) rfl rfl Tryd.func53 (by kernel_rfl) rfl #[.string a2] rfl m10_ ?_; (with_reducible refine (path_Good.calls a2 true _ A7.out).mono ?_); rintro e w10 ⟨rfl, hb⟩; refine ⟨_, rfl, ?_⟩; replace BK257 := Aside0.mk (blk_below (g := gb257) (o := .cells #[.int .i64 a3_0, .string a3_1, .string a3_2, .string a3_3, .string a3_4, .slice A3_5 l3_5.length c3_5, .slice A3_6 l3_6.length c3_6] 57 (0, 0)) m15_ hb); replace HB := Aside0.mk (below_step m4_ hb); (try clear hb); (try clear hb2); (try clear hk); (try clear hi)))
   go_meet
   case rel => exact ⟨_, (true), m23_, H', ⟨by first | omega | exact Nat.le_refl _⟩, ⟨by (with_reducible repeat (first | refine blk_drewN ?_ _ | refine blk_drew ?_ | refine blk_alloc ?_ _)); exact BK257.out⟩, ⟨m36_⟩⟩
  rw [if_neg c9] at H
  have c9b0 : decide (a1 < 0) = false := decide_eq_false c9
  clear c9
  (first | rw [c9b0] | (simp only [i64_w, i32_w]; rw [c9b0]) | skip)
  by_cases c11 : a1 > 1024
  ·rw [if_pos c11] at H
   have c11b0 : decide (1024 < a1) = true := decide_eq_true c11
   clear c11
   have H' := Aside0.mk H
   clear H
   go_wp2_with (first | ((with_reducible refine gate_callee (f := 53) rfl ?_); refine goesL_ (some 10) rfl rfl Tryd.func53 (by kernel_rfl) rfl #[.string a2] rfl m10_ ?_; (with_reducible refine (path_Good.calls a2 true _ A7.out).mono ?_); rintro e w12 ⟨rfl, hb⟩; refine ⟨_, rfl, ?_⟩; replace BK257 := Aside0.mk (blk_below (g := gb257) (o := .cells #[.int .i64 a3_0, .string a3_1, .string a3_2, .string a3_3, .string a3_4, .slice A3_5 l3_5.length c3_5, .slice A3_6 l3_6.length c3_6] 57 (0, 0)) m15_ hb); replace HB := Aside0.mk (below_step m4_ hb); (try clear hb); (try clear hb2); (try clear hk); (try clear hi)))
   go_meet
   case rel => exact ⟨_, (true), m23_, H', ⟨by first | omega | exact Nat.le_refl _⟩, ⟨by (with_reducible repeat (first | refine blk_drewN ?_ _ | refine blk_drew ?_ | refine blk_alloc ?_ _)); exact BK257.out⟩, ⟨m36_⟩⟩
  rw [if_neg c11] at H
  have c11b0 : decide (1024 < a1) = false := decide_eq_false c11
  clear c11
  by_cases c13 : a3_0 < 0
  ·rw [if_pos c13] at H
   have c13b0 : decide (a3_0 < 0) = true := decide_eq_true c13
   clear c13
   have H' := Aside0.mk H
   clear H
   go_wp2_with (first | ((with_reducible refine gate_callee (f := 53) rfl ?_); refine goesL_ (some 10) rfl rfl Tryd.func53 (by kernel_rfl) rfl #[.string a2] rfl m10_ ?_; (with_reducible refine (path_Good.calls a2 true _ A7.out).mono ?_); rintro e w14 ⟨rfl, hb⟩; refine ⟨_, rfl, ?_⟩; replace BK257 := Aside0.mk (blk_below (g := gb257) (o := .cells #[.int .i64 a3_0, .string a3_1, .string a3_2, .string a3_3, .string a3_4, .slice A3_5 l3_5.length c3_5, .slice A3_6 l3_6.length c3_6] 57 (0, 0)) m15_ hb); replace HB := Aside0.mk (below_step m4_ hb); (try clear hb); (try clear hb2); (try clear hk); (try clear hi); obtain ⟨hcz15_0, hcz15_1, hcz15_2, hcz15_3, hcz15_4, hcz15_5, hcz15_6⟩ := bc7_ BK257.out; obtain ⟨hfz15_0, hfz15_1, hfz15_2, hfz15_3, hfz15_4, hfz15_5, hfz15_6⟩ := bf7_ BK257.out))
   go_meet
   case rel => exact ⟨_, (true), m23_, H', ⟨by first | omega | exact Nat.le_refl _⟩, ⟨by (with_reducible repeat (first | refine blk_drewN ?_ _ | refine blk_drew ?_ | refine blk_alloc ?_ _)); exact BK257.out⟩, ⟨m36_⟩⟩
  rw [if_neg c13] at H
  have c13b0 : decide (a3_0 < 0) = false := decide_eq_false c13
  clear c13
  have H' := Aside0.mk H
  clear H
  go_wp2_with (first | ((with_reducible refine gate_callee (f := 53) rfl ?_); refine goesL_ (some 10) rfl rfl Tryd.func53 (by kernel_rfl) rfl #[.string a2] rfl m10_ ?_; (with_reducible refine (path_Good.calls a2 true _ A7.out).mono ?_); rintro e w16 ⟨rfl, hb⟩; refine ⟨_, rfl, ?_⟩; replace BK257 := Aside0.mk (blk_below (g := gb257) (o := .cells #[.int .i64 a3_0, .string a3_1, .string a3_2, .string a3_3, .string a3_4, .slice A3_5 l3_5.length c3_5, .slice A3_6 l3_6.length c3_6] 57 (0, 0)) m15_ hb); replace HB := Aside0.mk (below_step m4_ hb); (try clear hb); (try clear hb2); (try clear hk); (try clear hi); obtain ⟨hcz17_0, hcz17_1, hcz17_2, hcz17_3, hcz17_4, hcz17_5, hcz17_6⟩ := bc7_ BK257.out; obtain ⟨hfz17_0, hfz17_1, hfz17_2, hfz17_3, hfz17_4, hfz17_5, hfz17_6⟩ := bf7_ BK257.out))
  go_meet
  case rel => exact ⟨_, (decide (a3_0 > a1)), m23_, H', ⟨by first | omega | exact Nat.le_refl _⟩, ⟨by (with_reducible repeat (first | refine blk_drewN ?_ _ | refine blk_drew ?_ | refine blk_alloc ?_ _)); exact BK257.out⟩, ⟨m36_⟩⟩
 clear HC5
 try clear c1; try clear c2; try clear p2; try clear c3; try clear c5; try clear c8; try clear c9; try clear c9b0; try clear c11; try clear c11b0; try clear c13; try clear c13b0; try clear hcz15_0; try clear hcz15_1; try clear hcz15_2; try clear hcz15_3; try clear hcz15_4; try clear hcz15_5; try clear hcz15_6; try clear hcz17_0; try clear hcz17_1; try clear hcz17_2; try clear hcz17_3; try clear hcz17_4; try clear hcz17_5; try clear hcz17_6; try clear hfz15_0; try clear hfz15_1; try clear hfz15_2; try clear hfz15_3; try clear hfz15_4; try clear hfz15_5; try clear hfz15_6; try clear hfz17_0; try clear hfz17_1; try clear hfz17_2; try clear hfz17_3; try clear hfz17_4; try clear hfz17_5; try clear hfz17_6
 obtain ⟨kq, x30_4, rfl, HA, HJ4, BK257, HB⟩ := hcut
 cases kq with
 | zero => exact absurd HA.out (by simp [merkle_Missing.j0])
 | succ kj4 =>
  have H := HA.out
  clear HA
  simp only [merkle_Missing.j0] at H
  by_cases c19 : x30_4 = true
  ·subst c19
   have H1 : (some false) = some r := by rw [if_pos rfl] at H; exact H
   clear H
   have H := H1
   clear H1
   obtain rfl := Option.some.inj H
   go_wp2
   go_ret
   exact ⟨by first | rfl | (simp [errW_none, errW_some] <;> rfl) | (simp [*, errW_none, errW_some] <;> rfl), m36_⟩
  replace c19 := Bool.eq_false_iff.mpr c19
  subst c19
  have H1 : (if a1 = 0 then ((merkle_none.f).bind fun t259 => (merkle_Missing.j1 kj4 a0 a1 a2 (a0.toList != t259.toList) a3_0 a3_1 a3_2 a3_3 a3_4 l3_5 l3_6)) else (merkle_Missing.j1 kj4 a0 a1 a2 false a3_0 a3_1 a3_2 a3_3 a3_4 l3_5 l3_6)) = some r := by rw [if_neg (show ¬ (false = true) by decide)] at H; exact H
  clear H
  have H := H1
  clear H1
  have HC20 := Aside0.mk H
  clear H
  go_upto_region 3 with (fail)
  go_cut [37] (fun v37 wc => ∃ (kq : Nat) (x37_19 : Bool), v37 = .bool x37_19 ∧ Aside0 (merkle_Missing.j1 kq a0 a1 a2 x37_19 a3_0 a3_1 a3_2 a3_3 a3_4 l3_5 l3_6 = some r) ∧ Aside0 (kq ≤ kj4) ∧ Aside0 (wc.heap[gb257]? = some (.cells #[.int .i64 a3_0, .string a3_1, .string a3_2, .string a3_3, .string a3_4, (.slice A3_5 l3_5.length c3_5), (.slice A3_6 l3_6.length c3_6)] 57 (0, 0))) ∧ Aside0 (Below w.heap.size w wc))
  case first =>
   have H := HC20.out
   clear HC20
   by_cases c21 : a1 = 0
   case neg =>
    rw [if_neg c21] at H
    have c21b0 : (a1 == 0) = false := beq_eq_false_iff_ne.mpr c21
    have c21b1 : (a1 != 0) = true := bne_iff_ne.mpr c21
    (first | rw [c21b0] | (simp only [i64_w, i32_w]; rw [c21b0]) | skip)
    have H' := Aside0.mk H
    clear H
    go_wp2
    go_meet
    case rel => exact ⟨_, (false), m23_, H', ⟨by have := HJ4.out; first | omega | exact Nat.le_refl _⟩, ⟨by (with_reducible repeat (first | refine blk_drewN ?_ _ | refine blk_drew ?_ | refine blk_alloc ?_ _)); exact BK257.out⟩, ⟨m36_⟩⟩
   rw [if_pos c21] at H
   have c21b0 : (a1 == 0) = true := beq_iff_eq.mpr c21
   have c21b1 : (a1 != 0) = false := bne_eq_false_iff_eq.mpr c21
   clear c21
   (first | rw [c21b0] | (simp only [i64_w, i32_w]; rw [c21b0]) | skip)
   replace H := Option.bind_eq_some_iff.mp H
   obtain ⟨t259, A220, H⟩ := H
   replace H : (merkle_Missing.j1 kj4 a0 a1 a2 (a0.toList != t259.toList) a3_0 a3_1 a3_2 a3_3 a3_4 l3_5 l3_6) = some r := H
   have A22 := Aside0.mk A220
   clear A220
   have H' := Aside0.mk H
   clear H
   go_wp2_with (first | (go_at_call 54; (with_reducible refine (merkle_none.calls  t259 _ A22.out).mono ?_); rintro e w23 ⟨rfl, hb⟩; replace BK257 := Aside0.mk (blk_below (g := gb257) (o := .cells #[.int .i64 a3_0, .string a3_1, .string a3_2, .string a3_3, .string a3_4, .slice A3_5 l3_5.length c3_5, .slice A3_6 l3_6.length c3_6] 57 (0, 0)) m15_ hb); replace HB := Aside0.mk (below_step m4_ hb); (try clear hb); (try clear hb2); (try clear hk); (try clear hi)))
   go_meet
   case rel => exact ⟨_, ((a0.toList != t259.toList)), m23_, H', ⟨by have := HJ4.out; first | omega | exact Nat.le_refl _⟩, ⟨by (with_reducible repeat (first | refine blk_drewN ?_ _ | refine blk_drew ?_ | refine blk_alloc ?_ _)); exact BK257.out⟩, ⟨m36_⟩⟩
  clear HC20
  try clear c1; try clear c2; try clear p2; try clear c3; try clear c5; try clear c8; try clear c9; try clear c9b0; try clear c11; try clear c11b0; try clear c13; try clear c13b0; try clear c19; try clear c21; try clear c21b0; try clear c21b1; try clear hcz15_0; try clear hcz15_1; try clear hcz15_2; try clear hcz15_3; try clear hcz15_4; try clear hcz15_5; try clear hcz15_6; try clear hcz17_0; try clear hcz17_1; try clear hcz17_2; try clear hcz17_3; try clear hcz17_4; try clear hcz17_5; try clear hcz17_6; try clear hfz15_0; try clear hfz15_1; try clear hfz15_2; try clear hfz15_3; try clear hfz15_4; try clear hfz15_5; try clear hfz15_6; try clear hfz17_0; try clear hfz17_1; try clear hfz17_2; try clear hfz17_3; try clear hfz17_4; try clear hfz17_5; try clear hfz17_6; try clear p2
  obtain ⟨kq, x37_19, rfl, HA, HJ19, BK257, HB⟩ := hcut
  cases kq with
  | zero => exact absurd HA.out (by simp [merkle_Missing.j1])
  | succ kj19 =>
   have H := HA.out
   clear HA
   simp only [merkle_Missing.j1] at H
   by_cases c24 : x37_19 = true
   ·subst c24
    have H1 : (some false) = some r := by rw [if_pos rfl] at H; exact H
    clear H
    have H := H1
    clear H1
    obtain rfl := Option.some.inj H
    go_wp2
    go_ret
    exact ⟨by first | rfl | (simp [errW_none, errW_some] <;> rfl) | (simp [*, errW_none, errW_some] <;> rfl), m36_⟩
   replace c24 := Bool.eq_false_iff.mpr c24
   subst c24
   have H1 : ((merkle_beside.f kj19 (decide (a3_0 > 0)) (Op.bytesLess a3_1.toList a2.toList) a0 a1 (wrap64 (a3_0 - 1)) a3_1 a3_2 l3_5).bind fun t260 => (if t260 = true then ((merkle_beside.f kj19 (decide (a3_0 < a1)) (Op.bytesLess a2.toList a3_3.toList) a0 a1 a3_0 a3_3 a3_4 l3_6).bind fun t261 => (some t261)) else (some false))) = some r := by rw [if_neg (show ¬ (false = true) by decide)] at H; exact H
   clear H
   have H := H1
   clear H1
   replace H := Option.bind_eq_some_iff.mp H
   obtain ⟨t260, A250, H⟩ := H
   replace H : (if t260 = true then ((merkle_beside.f kj19 (decide (a3_0 < a1)) (Op.bytesLess a2.toList a3_3.toList) a0 a1 a3_0 a3_3 a3_4 l3_6).bind fun t261 => (some t261)) else (some false)) = some r := H
   have A25 := Aside0.mk A250
   clear A250
   by_cases c26 : t260 = true
   case neg =>
    replace c26 := Bool.eq_false_iff.mpr c26
    subst c26
    have H1 : (some false) = some r := by rw [if_neg (show ¬ (false = true) by decide)] at H; exact H
    clear H
    have H := H1
    clear H1
    obtain rfl := Option.some.inj H
    obtain ⟨hcz32_0, hcz32_1, hcz32_2, hcz32_3, hcz32_4, hcz32_5, hcz32_6⟩ := bc7_ BK257.out
    obtain ⟨hfz32_0, hfz32_1, hfz32_2, hfz32_3, hfz32_4, hfz32_5, hfz32_6⟩ := bf7_ BK257.out
    go_wp2_with (first | ((with_reducible refine gate_callee (f := 55) rfl ?_); refine goesL_ (some 55) rfl rfl Tryd.func55 (by kernel_rfl) rfl #[.bool (decide (a3_0 > 0)), .bool (Op.bytesLess a3_1.toList a2.toList), .string a0, .int .i64 a1, .int .i64 (wrap64 (a3_0 - 1)), .agg #[.string a3_1, .string a3_2], .slice A3_5 l3_5.length c3_5] rfl m10_ ?_; (with_reducible refine (merkle_beside.calls kj19 (decide (a3_0 > 0)) (Op.bytesLess a3_1.toList a2.toList) a0 a1 (wrap64 (a3_0 - 1)) a3_1 a3_2 _ _ l3_5 false _ ?side1 ?side2 A25.out).mono ?_); (case side1 => exact m28_); (case side2 => exact HC3_5.out); rintro e w33 ⟨rfl, hb⟩; refine ⟨_, rfl, ?_⟩; replace BK257 := Aside0.mk (blk_below (g := gb257) (o := .cells #[.int .i64 a3_0, .string a3_1, .string a3_2, .string a3_3, .string a3_4, .slice A3_5 l3_5.length c3_5, .slice A3_6 l3_6.length c3_6] 57 (0, 0)) m15_ hb); replace HB := Aside0.mk (below_step m4_ hb); (try clear hb); (try clear hb2); (try clear hk); (try clear hi)))
    go_ret
    exact ⟨by first | rfl | (simp [errW_none, errW_some] <;> rfl) | (simp [*, errW_none, errW_some] <;> rfl), m36_⟩
   subst c26
   have H1 : ((merkle_beside.f kj19 (decide (a3_0 < a1)) (Op.bytesLess a2.toList a3_3.toList) a0 a1 a3_0 a3_3 a3_4 l3_6).bind fun t261 => (some t261)) = some r := by rw [if_pos rfl] at H; exact H
   clear H
   have H := H1
   clear H1
   replace H := Option.bind_eq_some_iff.mp H
   obtain ⟨t261, A270, H⟩ := H
   replace H : (some t261) = some r := H
   have A27 := Aside0.mk A270
   clear A270
   obtain rfl := Option.some.inj H
   obtain ⟨hcz28_0, hcz28_1, hcz28_2, hcz28_3, hcz28_4, hcz28_5, hcz28_6⟩ := bc7_ BK257.out
   obtain ⟨hfz28_0, hfz28_1, hfz28_2, hfz28_3, hfz28_4, hfz28_5, hfz28_6⟩ := bf7_ BK257.out
   go_wp2_with (first | ((with_reducible refine gate_callee (f := 55) rfl ?_); refine goesL_ (some 55) rfl rfl Tryd.func55 (by kernel_rfl) rfl #[.bool (decide (a3_0 > 0)), .bool (Op.bytesLess a3_1.toList a2.toList), .string a0, .int .i64 a1, .int .i64 (wrap64 (a3_0 - 1)), .agg #[.string a3_1, .string a3_2], .slice A3_5 l3_5.length c3_5] rfl m10_ ?_; (with_reducible refine (merkle_beside.calls kj19 (decide (a3_0 > 0)) (Op.bytesLess a3_1.toList a2.toList) a0 a1 (wrap64 (a3_0 - 1)) a3_1 a3_2 _ _ l3_5 true _ ?side1 ?side2 A25.out).mono ?_); (case side1 => exact m28_); (case side2 => exact HC3_5.out); rintro e w29 ⟨rfl, hb⟩; refine ⟨_, rfl, ?_⟩; replace BK257 := Aside0.mk (blk_below (g := gb257) (o := .cells #[.int .i64 a3_0, .string a3_1, .string a3_2, .string a3_3, .string a3_4, .slice A3_5 l3_5.length c3_5, .slice A3_6 l3_6.length c3_6] 57 (0, 0)) m15_ hb); replace HB := Aside0.mk (below_step m4_ hb); (try clear hb); (try clear hb2); (try clear hk); (try clear hi); obtain ⟨hcz30_0, hcz30_1, hcz30_2, hcz30_3, hcz30_4, hcz30_5, hcz30_6⟩ := bc7_ BK257.out; obtain ⟨hfz30_0, hfz30_1, hfz30_2, hfz30_3, hfz30_4, hfz30_5, hfz30_6⟩ := bf7_ BK257.out) | (go_at_call 55; (with_reducible refine (merkle_beside.calls kj19 (decide (a3_0 < a1)) (Op.bytesLess a2.toList a3_3.toList) a0 a1 a3_0 a3_3 a3_4 _ _ l3_6 t261 _ ?side1 ?side2 A27.out).mono ?_); (case side1 => exact m29_); (case side2 => exact HC3_6.out); rintro e w31 ⟨rfl, hb⟩; replace BK257 := Aside0.mk (blk_below (g := gb257) (o := .cells #[.int .i64 a3_0, .string a3_1, .string a3_2, .string a3_3, .string a3_4, .slice A3_5 l3_5.length c3_5, .slice A3_6 l3_6.length c3_6] 57 (0, 0)) m15_ hb); replace HB := Aside0.mk (below_step m4_ hb); (try clear hb); (try clear hb2); (try clear hk); (try clear hi)))
   go_ret
   exact ⟨by first | rfl | (simp [errW_none, errW_some] <;> rfl) | (simp [*, errW_none, errW_some] <;> rfl), m36_⟩

/-! ### strongroomref02_Sum: function 44 -/
def strongroomref02_Sum.f (a0 : ByteArray) : Option (ByteArray) := Go.Proofs.YtdeggemomajhcaaDoor.refSumF a0
theorem strongroomref02_Sum.calls (a0 : ByteArray) (r : ByteArray) (w : World) (h : strongroomref02_Sum.f a0 = some r) :
    Calls Tryd.prog 44 #[.string a0] w fun e w' => e = .returned (.string r) ∧ Below w.heap.size w w' := Go.Proofs.YtdeggemomajhcaaDoor.refSum_calls a0 r w h

/-! ### strongroomref01_Put: function 85 -/
def strongroomref01_Put.f : Nat → Int → Option (ByteArray)
 | 0, _ => none
 | k + 1, a0 => if a0 < 128 then (some (strOfNums (([(a0) % 256] : List Int)))) else ((some (([(IntKind.u64.wrap ((Int.tmod a0 128) + 128)) % 256] : List Int) : List Int)).bind fun y265 => ((strongroomref01_Put.f k (IntKind.u64.wrap (Int.tdiv a0 128))).bind fun t268 => (if (strOfNums y265).size + t268.size ≤ 9223372036854775807 then (some ((strOfNums y265) ++ t268)) else (none))))
theorem strongroomref01_Put.mono_l : ∀ k, (∀ y0, LeO (strongroomref01_Put.f k y0) (strongroomref01_Put.f (k + 1) y0))
 | 0 => fun _ r h => by simp [strongroomref01_Put.f] at h
 | k + 1 => by
  have ih0 := strongroomref01_Put.mono_l k
  ·intro y0
   unfold strongroomref01_Put.f
   repeat' first
   | (with_reducible exact ih0 _)
   | (with_reducible exact LeO.refl _)
   | (with_reducible exact LeO.none _)
   | (with_reducible refine LeO.ite ?_ ?_)
   | (with_reducible refine LeO.bind ?_ (fun _ => ?_))
   | exact ih0 _
   | exact LeO.none _
   | refine LeO.ite ?_ ?_
   | refine LeO.bind ?_ (fun _ => ?_)
theorem strongroomref01_Put.mono : ∀ a0 k, LeO (strongroomref01_Put.f k a0) (strongroomref01_Put.f (k + 1) a0) := by
 intro a0 k
 have ih0 := strongroomref01_Put.mono_l k
 exact ih0 a0
def strongroomref01_Put.T3 : Bool × List (List Nat × List Nat) := (true, [([], []), ([0], [0]), ([1], [1]), ([2], [2]), ([3], [3]), ([4], [4]), ([], []), ([6], [6]), ([7], [7]), ([5, 8], [5, 8]), ([9, 8, 0, 1, 2, 3, 4, 5, 6, 7, 8, 9], [9])])
def strongroomref01_Put.B3 : List Nat := [0, 1, 3, 7, 15, 31, 0, 64, 192, 511, 1023]
theorem strongroomref01_Put.tab3 : rtab .any (opsOf Tryd.f85 3) = strongroomref01_Put.T3 := by kernel_rfl
theorem strongroomref01_Put.bits3 : waitsOk strongroomref01_Put.T3.2 strongroomref01_Put.B3 = true := by kernel_rfl
set_option maxHeartbeats 8000000 in
set_option maxRecDepth 100000 in
theorem strongroomref01_Put.calls (k : Nat) : ∀ (a0 : Int) (r : ByteArray) (w : World) (h : strongroomref01_Put.f k a0 = some r),
  Calls Tryd.prog 85 #[.int .u64 a0] w fun e w' => e = .returned (.string r) ∧ Below w.heap.size w w' := by
 induction k using Nat.strongRecOn with
 | _ k ih =>
 intro a0 r w h
 cases k with
 | zero => exact absurd h (by simp [strongroomref01_Put.f])
 | succ k =>
 simp only [strongroomref01_Put.f] at h
 have HB := Aside0.mk (Below.refl w.heap.size w)
 have H : (if a0 < 128 then (some (strOfNums (([(a0) % 256] : List Int)))) else ((some (([(IntKind.u64.wrap ((Int.tmod a0 128) + 128)) % 256] : List Int) : List Int)).bind fun y265 => ((strongroomref01_Put.f k (IntKind.u64.wrap (Int.tdiv a0 128))).bind fun t268 => (if (strOfNums y265).size + t268.size ≤ 9223372036854775807 then (some ((strOfNums y265) ++ t268)) else (none))))) = some r := h
 clear h
 by_cases c2 : a0 < 128
 ·rw [if_pos c2] at H
  have c2b0 : decide (a0 < 128) = true := decide_eq_true c2
  clear c2
  obtain ⟨y262, hy262⟩ : ∃ y_ : List Int, y_ = (([(a0) % 256] : List Int)) := ⟨_, rfl⟩
  replace H : (some (strOfNums y262)) = some r := by first | (rw [hy262]; with_reducible exact H) | (have H2_ := (Option.bind_some _ _).symm.trans H; rw [hy262]; with_reducible exact H2_) | (have H2_ := (Option.bind_some _ _).symm.trans H; with_reducible exact H2_) | with_reducible exact H | (rw [hy262]; exact H) | exact H
  have Ny262 := Aside0.mk hy262
  clear hy262
  obtain rfl := Option.some.inj H
  go_enter Tryd.func85, Tryd.ntmps85
  go_wp2_with (first | ((with_reducible refine gate_dst (N := 7) rfl ?_); refine Kd.R_lit (Kd.int .u8) _ 5 ?hg (N := 7) ?hd (xs := ([(a0) % 256] : List Int)) (inner := [.int .u8 ((a0) % 256)]) (ok := fun _ => True) (okp := fun _ => True) ?hr ?hp (fun _ hk => hk) trivial (Below.refl _ _) (Nat.le_refl _) (by simp) ?_; (case hd => rfl); (case hg => rfl); (case hr => first | (go_simp; done) | (go_simp; rfl)); (case hp => exact (Reps.one (show Kd.M (Kd.int .u8) _ _ _ ((a0) % 256) [.int .u8 ((a0) % 256)] from rfl) (Reps.none _ _))); intro v263 w3 ho4 hb hg_ hnew_; clear hg_ hnew_; (first | rw [← Ny262.out] at ho4 | (simp only [Int.reduceToNat] at ho4; rw [← Ny262.out] at ho4)); have HO264 := Aside0.mk (Kd.R_lower ho4 (below_size m11_)); replace HB := Aside0.mk (below_step m11_ hb); clear hb ho4; have hcv5 := own_string (P := Tryd.prog) Tryd.underlying84 Tryd.underlying5 Tryd.underlying9 (Kd.own_of_R HO264.out)))
  go_ret
  exact ⟨by first | rfl | (simp [errW_none, errW_some] <;> rfl) | (simp [*, errW_none, errW_some] <;> rfl), m41_⟩
 rw [if_neg c2] at H
 have c2b0 : decide (a0 < 128) = false := decide_eq_false c2
 clear c2
 obtain ⟨y265, hy265⟩ : ∃ y_ : List Int, y_ = (([(IntKind.u64.wrap ((Int.tmod a0 128) + 128)) % 256] : List Int)) := ⟨_, rfl⟩
 replace H : ((strongroomref01_Put.f k (IntKind.u64.wrap (Int.tdiv a0 128))).bind fun t268 => (if (strOfNums y265).size + t268.size ≤ 9223372036854775807 then (some ((strOfNums y265) ++ t268)) else (none))) = some r := by first | (rw [hy265]; with_reducible exact H) | (have H2_ := (Option.bind_some _ _).symm.trans H; rw [hy265]; with_reducible exact H2_) | (have H2_ := (Option.bind_some _ _).symm.trans H; with_reducible exact H2_) | with_reducible exact H | (rw [hy265]; exact H) | exact H
 have Ny265 := Aside0.mk hy265
 clear hy265
 replace H := Option.bind_eq_some_iff.mp H
 obtain ⟨t268, A60, H⟩ := H
 replace H : (if (strOfNums y265).size + t268.size ≤ 9223372036854775807 then (some ((strOfNums y265) ++ t268)) else (none)) = some r := H
 have A6 := Aside0.mk A60
 clear A60
 by_cases c7 : (strOfNums y265).size + t268.size ≤ 9223372036854775807
 case neg =>
  rw [if_neg c7] at H
  exact absurd H (by simp)
 rw [if_pos c7] at H
 have c7b0 := eq_true c7
 have c7b1 : decide ((strOfNums y265).size + t268.size ≤ 9223372036854775807) = true := decide_eq_true c7
 try have c7b2 : (9223372036854775807 < (strOfNums y265).size + t268.size) = False := eq_false (Nat.not_lt.2 c7)
 obtain rfl := Option.some.inj H
 go_enter Tryd.func85, Tryd.ntmps85
 try go_wp2
 replace HB := Aside0.mk (below_drew1 HB.out)
 refine start_ (n := 11) (S := fun w' => True) (ds := []) (Ra_ [0, 11]) (by kernel_rfl) rfl rfl trivial (fun hHeld => ?_); refine with_tabW strongroomref01_Put.tab3 strongroomref01_Put.bits3 (fun HT_ HW_ => ?_)
 generalize w.drew = w8 at HB hHeld ⊢
 refine pI_ 0 (some 9) (Ra_ [1, 10]) (h := ?_)
 refine pI_ 1 (some 10) (Ra_ [2, 9]) (h := ?_)
 refine pI_ 2 (some 11) (Ra_ [3, 8]) (h := ?_)
 refine pI_ 3 (some 12) (Ra_ [4, 7]) (h := ?_)
 refine pI_ 6 (some 15) (Ra_ [4, 2, 1, 4]) (h := ?_)
 refine pI_ 7 (some 16) (Ra_ [4, 2, 2, 3]) (h := ?_)
 refine join_ (σ := Value) 2 (Ra_ [9, 2]) (fun s_ => [(13, s_), (14, .string (strOfNums y265)), (17, .string t268)]) (fun s_ w' => (Kd.R (Kd.int .u8) 5 w' w.heap.size (fun _ => True) s_ y265) ∧ (Below w.heap.size w w')) ?_ ?_
 rotate_left
 ·intro hCont
  refine two_ (i := 4) (j := 8) (Ni := some 13) (Nj := some 17) (Ra_ [5, 1, 2, 3]) (Ra_ [4, 2, 3, 2]) rfl rfl rfl rfl (two_of HT_.out (by kernel_rfl)) (by decide) (by decide) (fun K hK => ?_) (fun K hK => ?_)
  ·skip
   refine Kd.R_lit_step (Kd.int .u8) _ 5 ?hg (N := 13) ?hd (xs := ([(IntKind.u64.wrap ((Int.tmod a0 128) + 128)) % 256] : List Int)) (inner := [.int .u8 ((IntKind.u64.wrap ((Int.tmod a0 128) + 128)) % 256)]) (ok := fun _ => True) (okp := fun _ => True) ?hr ?hp (fun _ hk => hk) trivial (Below.refl _ _) (Nat.le_refl _) (by simp) ?_; (case hd => rfl); (case hg => rfl); (case hr => first | (go_simp; done) | (go_simp; rfl)); (case hp => exact (Reps.one (show Kd.M (Kd.int .u8) _ _ _ ((IntKind.u64.wrap ((Int.tmod a0 128) + 128)) % 256) [.int .u8 ((IntKind.u64.wrap ((Int.tmod a0 128) + 128)) % 256)] from rfl) (Reps.none _ _)))
   intro v266 w9 ho10 hb hg_ hnew_
   clear hg_ hnew_
   (first | rw [← Ny265.out] at ho10 | (simp only [Int.reduceToNat] at ho10; rw [← Ny265.out] at ho10))
   have HO267 := Aside0.mk (Kd.R_lower ho10 (below_size m11_))
   replace HB := Aside0.mk (below_step m11_ hb)
   clear hb ho10
   refine hK.out _ _ trivial (fun hHeld => ?_)
   clear hK K
   refine norm_ (a' := ?_) ?_ ?_
   rotate_left
   ·show Act.put _ (some 13) _ = _
    simp only [Act.put, sA_, sB_, sC_, i64_w, i32_w]
    rfl
   refine two_ (i := 5) (j := 8) (Ni := some 14) (Nj := some 17) (Ra_ [8, 3]) (Ra_ [5, 1, 3, 2]) rfl rfl rfl rfl (two_of HT_.out (by kernel_rfl)) (by decide) (by decide) (fun K hK => ?_) (fun K hK => ?_)
   ·skip
    have hcv11 := own_string (P := Tryd.prog) Tryd.underlying84 Tryd.underlying5 Tryd.underlying9 (Kd.own_of_R HO267.out)
    refine value_ (w1 := ?_) (v := ?_) (by rfl) rfl ?_ ?_
    rotate_left 2
    ·go_simp
     constructor
     ·rfl
     rfl
    clear hcv11
    refine hK.out _ _ trivial (fun hHeld => ?_)
    clear hK K
    refine norm_ (a' := ?_) ?_ ?_
    rotate_left
    ·show Act.put _ (some 14) _ = _
     simp only [Act.put, sA_, sB_, sC_, i64_w, i32_w]
     rfl
    refine one_ (i := 8) (N := some 17) (Ra_ [9, 2]) rfl rfl (one_of HT_.out (by kernel_rfl)) (by decide) (fun K hK => ?_)
    refine goes_ Tryd.func85 (by kernel_rfl) rfl #[.int .u64 (IntKind.u64.wrap (Int.tdiv a0 128))] (by rfl) rfl rfl m10_ ?_
    with_reducible refine (ih k (by omega) (IntKind.u64.wrap (Int.tdiv a0 128)) t268 _ A6.out).mono ?_
    rintro e w12 ⟨rfl, hb⟩
    refine ⟨_, rfl, ?_⟩
    have n0_ := Aside0.mk (Kd.R_below (by (with_reducible repeat (first | apply Kd.R_alloc | apply Kd.R_drewN | apply Kd.R_drew)); exact HO267.out) hb)
    have n1_ := Aside0.mk (below_step m11_ hb)
    clear HO267 HB
    have HO267 := n0_
    have HB := n1_
    clear n0_ n1_
    (try clear hb)
    (try clear hb2)
    (try clear hk)
    (try clear hi)
    refine hK.out _ _ trivial (fun hHeld => ?_)
    clear hK K
    refine norm_ (a' := ?_) ?_ ?_
    rotate_left
    ·show Act.put _ (some 17) _ = _
     simp only [Act.put, sA_, sB_, sC_, i64_w, i32_w]
     rfl
    exact norm_ (by simp only [putAll, Act.put, List.setIfInBounds_toArray, List.set_cons_zero, List.set_cons_succ]) (hCont (v266) _ ⟨(by (with_reducible repeat (first | apply Kd.R_alloc | apply Kd.R_drewN | apply Kd.R_drew)); exact HO267.out), m11_⟩)
   skip
   refine goes_ Tryd.func85 (by kernel_rfl) rfl #[.int .u64 (IntKind.u64.wrap (Int.tdiv a0 128))] (by rfl) rfl rfl m10_ ?_
   with_reducible refine (ih k (by omega) (IntKind.u64.wrap (Int.tdiv a0 128)) t268 _ A6.out).mono ?_
   rintro e w11 ⟨rfl, hb⟩
   refine ⟨_, rfl, ?_⟩
   have n0_ := Aside0.mk (Kd.R_below (by (with_reducible repeat (first | apply Kd.R_alloc | apply Kd.R_drewN | apply Kd.R_drew)); exact HO267.out) hb)
   have n1_ := Aside0.mk (below_step m11_ hb)
   clear HO267 HB
   have HO267 := n0_
   have HB := n1_
   clear n0_ n1_
   (try clear hb)
   (try clear hb2)
   (try clear hk)
   (try clear hi)
   refine hK.out _ _ trivial (fun hHeld => ?_)
   clear hK K
   refine norm_ (a' := ?_) ?_ ?_
   rotate_left
   ·show Act.put _ (some 17) _ = _
    simp only [Act.put, sA_, sB_, sC_, i64_w, i32_w]
    rfl
   refine one_ (i := 5) (N := some 14) (Ra_ [9, 2]) rfl rfl (one_of HT_.out (by kernel_rfl)) (by decide) (fun K hK => ?_)
   have hcv12 := own_string (P := Tryd.prog) Tryd.underlying84 Tryd.underlying5 Tryd.underlying9 (Kd.own_of_R HO267.out)
   refine value_ (w1 := ?_) (v := ?_) (by rfl) rfl ?_ ?_
   rotate_left 2
   ·go_simp
    constructor
    ·rfl
    rfl
   clear hcv12
   refine hK.out _ _ trivial (fun hHeld => ?_)
   clear hK K
   refine norm_ (a' := ?_) ?_ ?_
   rotate_left
   ·show Act.put _ (some 14) _ = _
    simp only [Act.put, sA_, sB_, sC_, i64_w, i32_w]
    rfl
   exact norm_ (by simp only [putAll, Act.put, List.setIfInBounds_toArray, List.set_cons_zero, List.set_cons_succ]) (hCont (v266) _ ⟨(by (with_reducible repeat (first | apply Kd.R_alloc | apply Kd.R_drewN | apply Kd.R_drew)); exact HO267.out), m11_⟩)
  skip
  refine goes_ Tryd.func85 (by kernel_rfl) rfl #[.int .u64 (IntKind.u64.wrap (Int.tdiv a0 128))] (by rfl) rfl rfl m10_ ?_
  with_reducible refine (ih k (by omega) (IntKind.u64.wrap (Int.tdiv a0 128)) t268 _ A6.out).mono ?_
  rintro e w9 ⟨rfl, hb⟩
  refine ⟨_, rfl, ?_⟩
  replace HB := Aside0.mk (below_step m11_ hb)
  (try clear hb)
  (try clear hb2)
  (try clear hk)
  (try clear hi)
  refine hK.out _ _ trivial (fun hHeld => ?_)
  clear hK K
  refine norm_ (a' := ?_) ?_ ?_
  rotate_left
  ·show Act.put _ (some 17) _ = _
   simp only [Act.put, sA_, sB_, sC_, i64_w, i32_w]
   rfl
  refine one_ (i := 4) (N := some 13) (Ra_ [5, 1, 3, 2]) rfl rfl (one_of HT_.out (by kernel_rfl)) (by decide) (fun K hK => ?_)
  refine Kd.R_lit_step (Kd.int .u8) _ 5 ?hg (N := 13) ?hd (xs := ([(IntKind.u64.wrap ((Int.tmod a0 128) + 128)) % 256] : List Int)) (inner := [.int .u8 ((IntKind.u64.wrap ((Int.tmod a0 128) + 128)) % 256)]) (ok := fun _ => True) (okp := fun _ => True) ?hr ?hp (fun _ hk => hk) trivial (Below.refl _ _) (Nat.le_refl _) (by simp) ?_; (case hd => rfl); (case hg => rfl); (case hr => first | (go_simp; done) | (go_simp; rfl)); (case hp => exact (Reps.one (show Kd.M (Kd.int .u8) _ _ _ ((IntKind.u64.wrap ((Int.tmod a0 128) + 128)) % 256) [.int .u8 ((IntKind.u64.wrap ((Int.tmod a0 128) + 128)) % 256)] from rfl) (Reps.none _ _)))
  intro v266 w10 ho11 hb hg_ hnew_
  clear hg_ hnew_
  (first | rw [← Ny265.out] at ho11 | (simp only [Int.reduceToNat] at ho11; rw [← Ny265.out] at ho11))
  have HO267 := Aside0.mk (Kd.R_lower ho11 (below_size m11_))
  replace HB := Aside0.mk (below_step m11_ hb)
  clear hb ho11
  refine hK.out _ _ trivial (fun hHeld => ?_)
  clear hK K
  refine norm_ (a' := ?_) ?_ ?_
  rotate_left
  ·show Act.put _ (some 13) _ = _
   simp only [Act.put, sA_, sB_, sC_, i64_w, i32_w]
   rfl
  refine one_ (i := 5) (N := some 14) (Ra_ [9, 2]) rfl rfl (one_of HT_.out (by kernel_rfl)) (by decide) (fun K hK => ?_)
  have hcv12 := own_string (P := Tryd.prog) Tryd.underlying84 Tryd.underlying5 Tryd.underlying9 (Kd.own_of_R HO267.out)
  refine value_ (w1 := ?_) (v := ?_) (by rfl) rfl ?_ ?_
  rotate_left 2
  ·go_simp
   constructor
   ·rfl
   rfl
  clear hcv12
  refine hK.out _ _ trivial (fun hHeld => ?_)
  clear hK K
  refine norm_ (a' := ?_) ?_ ?_
  rotate_left
  ·show Act.put _ (some 14) _ = _
   simp only [Act.put, sA_, sB_, sC_, i64_w, i32_w]
   rfl
  exact norm_ (by simp only [putAll, Act.put, List.setIfInBounds_toArray, List.set_cons_zero, List.set_cons_succ]) (hCont (v266) _ ⟨(by (with_reducible repeat (first | apply Kd.R_alloc | apply Kd.R_drewN | apply Kd.R_drew)); exact HO267.out), m11_⟩)
 rintro v266 w13 ⟨h0_, h1_⟩
 have n0_ : Aside0 (Kd.R (Kd.int .u8) 5 w13 w.heap.size (fun _ => True) v266 y265) := ⟨h0_⟩
 have n1_ : Aside0 (Below w.heap.size w w13) := ⟨h1_⟩
 clear HB h0_ h1_
 have HO267 := n0_
 have HB := n1_
 clear n0_ n1_
 have hHeld := trivial
 refine norm_ (a' := ?_) ?_ ?_
 rotate_left
 ·simp only [putAll, Act.put, List.setIfInBounds_toArray, List.set_cons_zero, List.set_cons_succ]
  rfl
 refine pI_ 9 (some 18) (Ra_ [10, 1]) (h := ?_)
 refine pI_ 10 (some 2) (Ra_ [11]) (h := ?_)
 refine done_ (done_of HT_.out (by kernel_rfl)) ?_
 try go_wp2
 go_ret
 exact ⟨by first | rfl | (simp [errW_none, errW_some] <;> rfl) | (simp [*, errW_none, errW_some] <;> rfl), m41_⟩

/-! ### strongroomref01_Text: function 68 -/
def strongroomref01_Text.f (k : Nat) (a0 : ByteArray) : Option (ByteArray) := (strongroomref01_Put.f k (IntKind.u64.wrap ((a0.size : Int)))).bind fun t269 => (if t269.size + a0.size ≤ 9223372036854775807 then (some (t269 ++ a0)) else (none))
theorem strongroomref01_Text.mono : ∀ a0 k, LeO (strongroomref01_Text.f k a0) (strongroomref01_Text.f (k + 1) a0) := by
 intro a0 k
 unfold strongroomref01_Text.f
 repeat' first
   | (with_reducible exact strongroomref01_Put.mono _ _)
   | (with_reducible exact LeO.refl _)
   | (with_reducible exact LeO.none _)
   | (with_reducible refine LeO.ite ?_ ?_)
   | (with_reducible refine LeO.bind ?_ (fun _ => ?_))
   | exact strongroomref01_Put.mono _ _
   | exact LeO.none _
   | refine LeO.ite ?_ ?_
   | refine LeO.bind ?_ (fun _ => ?_)
set_option maxHeartbeats 8000000 in
set_option maxRecDepth 100000 in
theorem strongroomref01_Text.calls (k : Nat) (a0 : ByteArray) (r : ByteArray) (w : World) (h : strongroomref01_Text.f k a0 = some r) :
  Calls Tryd.prog 68 #[.string a0] w fun e w' => e = .returned (.string r) ∧ Below w.heap.size w w' := by
 have HB := Aside0.mk (Below.refl w.heap.size w)
 have H : ((strongroomref01_Put.f k (IntKind.u64.wrap ((a0.size : Int)))).bind fun t269 => (if t269.size + a0.size ≤ 9223372036854775807 then (some (t269 ++ a0)) else (none))) = some r := h
 clear h
 replace H := Option.bind_eq_some_iff.mp H
 obtain ⟨t269, A20, H⟩ := H
 replace H : (if t269.size + a0.size ≤ 9223372036854775807 then (some (t269 ++ a0)) else (none)) = some r := H
 have A2 := Aside0.mk A20
 clear A20
 by_cases c3 : t269.size + a0.size ≤ 9223372036854775807
 case neg =>
  rw [if_neg c3] at H
  exact absurd H (by simp)
 rw [if_pos c3] at H
 have c3b0 := eq_true c3
 have c3b1 : decide (t269.size + a0.size ≤ 9223372036854775807) = true := decide_eq_true c3
 try have c3b2 : (9223372036854775807 < t269.size + a0.size) = False := eq_false (Nat.not_lt.2 c3)
 obtain rfl := Option.some.inj H
 go_enter Tryd.func68, Tryd.ntmps68
 go_wp2_with (first | ((with_reducible refine gate_callee (f := 85) rfl ?_); refine goesL_ (some 6) rfl rfl Tryd.func85 (by kernel_rfl) rfl #[.int .u64 ((a0.size : Int))] rfl m10_ ?_; (with_reducible refine (strongroomref01_Put.calls k ((a0.size : Int)) t269 _ (by have h_ := A2.out; rw [Go.Proofs.YtdeggemomajhcaaDoor.u64_in0 (by omega)] at h_; exact h_)).mono ?_); rintro e w4 ⟨rfl, hb⟩; refine ⟨_, rfl, ?_⟩; replace HB := Aside0.mk (below_step m11_ hb); (try clear hb); (try clear hb2); (try clear hk); (try clear hi)))
 go_ret
 exact ⟨by first | rfl | (simp [errW_none, errW_some] <;> rfl) | (simp [*, errW_none, errW_some] <;> rfl), m41_⟩

end Go.Proofs.YtdeggemomajhcaaDoorH.HMerkleAbsent
namespace Go.Proofs.YtdeggemomajhcaaDoorH.HMerkleAbsent
open Go.RowKit Go.Proofs.YtdeggemomajhcaaDoorW.PrintWords Go.Proofs.YtdeggemomajhcaaDoorW.PrintLast Go.Proofs.YtdeggemomajhcaaDoorW.PrintMore
attribute [local go_sem] max2_int min2_int max_two min_two max_three min_three max_four min_four   -- for this text's walks alone
set_option linter.unusedVariables false
set_option linter.unusedSimpArgs false

/-! ### strongroomref20_one: function 45 -/
def strongroomref20_one.f (k : Nat) (a0_0 : ByteArray) (a0_1 : ByteArray) : Option (ByteArray) := (strongroomref01_Text.f k a0_0).bind fun t271 => (if 1 + t271.size ≤ 9223372036854775807 then (if ((⟨#[0]⟩ : ByteArray) ++ t271).size + a0_1.size ≤ 9223372036854775807 then ((strongroomref02_Sum.f (((⟨#[0]⟩ : ByteArray) ++ t271) ++ a0_1)).bind fun t272 => (some t272)) else (none)) else (none))
theorem strongroomref20_one.mono : ∀ a0 a1 k, LeO (strongroomref20_one.f k a0 a1) (strongroomref20_one.f (k + 1) a0 a1) := by
 intro a0 a1 k
 unfold strongroomref20_one.f
 repeat' first
   | (with_reducible exact strongroomref01_Text.mono _ _)
   | (with_reducible exact LeO.refl _)
   | (with_reducible exact LeO.none _)
   | (with_reducible refine LeO.ite ?_ ?_)
   | (with_reducible refine LeO.bind ?_ (fun _ => ?_))
   | exact strongroomref01_Text.mono _ _
   | exact LeO.none _
   | refine LeO.ite ?_ ?_
   | refine LeO.bind ?_ (fun _ => ?_)
def strongroomref20_one.T1 : Bool × List (List Nat × List Nat) := (true, [([], []), ([0], [0]), ([1], [1]), ([2], [2]), ([], []), ([4], [4]), ([3, 5], [3, 5]), ([6, 2], [6]), ([7, 7, 0, 1, 2, 3, 4, 5, 6, 7], [7])])
def strongroomref20_one.B1 : List Nat := [0, 1, 3, 7, 0, 16, 63, 127, 255]
theorem strongroomref20_one.tab1 : rtab .any (opsOf Tryd.f45 1) = strongroomref20_one.T1 := by kernel_rfl
theorem strongroomref20_one.bits1 : waitsOk strongroomref20_one.T1.2 strongroomref20_one.B1 = true := by kernel_rfl
set_option maxHeartbeats 8000000 in
set_option maxRecDepth 100000 in
theorem strongroomref20_one.calls (k : Nat) (a0_0 : ByteArray) (a0_1 : ByteArray) (r : ByteArray) (w : World) (h : strongroomref20_one.f k a0_0 a0_1 = some r) :
  Calls Tryd.prog 45 #[.agg #[.string a0_0, .string a0_1]] w fun e w' => e = .returned (.string r) ∧ Below w.heap.size w w' := by
 have hu39 := Tryd.underlying39
 have HB := Aside0.mk (Below.refl w.heap.size w)
 have H : ((strongroomref01_Text.f k a0_0).bind fun t271 => (if 1 + t271.size ≤ 9223372036854775807 then (if ((⟨#[0]⟩ : ByteArray) ++ t271).size + a0_1.size ≤ 9223372036854775807 then ((strongroomref02_Sum.f (((⟨#[0]⟩ : ByteArray) ++ t271) ++ a0_1)).bind fun t272 => (some t272)) else (none)) else (none))) = some r := h
 clear h
 replace H := Option.bind_eq_some_iff.mp H
 obtain ⟨t271, A20, H⟩ := H
 replace H : (if 1 + t271.size ≤ 9223372036854775807 then (if ((⟨#[0]⟩ : ByteArray) ++ t271).size + a0_1.size ≤ 9223372036854775807 then ((strongroomref02_Sum.f (((⟨#[0]⟩ : ByteArray) ++ t271) ++ a0_1)).bind fun t272 => (some t272)) else (none)) else (none)) = some r := H
 have A2 := Aside0.mk A20
 clear A20
 by_cases c3 : 1 + t271.size ≤ 9223372036854775807
 case neg =>
  rw [if_neg c3] at H
  exact absurd H (by simp)
 rw [if_pos c3] at H
 have c3b0 := eq_true c3
 have c3b1 : decide (1 + t271.size ≤ 9223372036854775807) = true := decide_eq_true c3
 try have c3b2 : (9223372036854775807 < 1 + t271.size) = False := eq_false (Nat.not_lt.2 c3)
 by_cases c4 : ((⟨#[0]⟩ : ByteArray) ++ t271).size + a0_1.size ≤ 9223372036854775807
 case neg =>
  rw [if_neg c4] at H
  exact absurd H (by simp)
 rw [if_pos c4] at H
 have c4b0 := eq_true c4
 have c4b1 : decide (((⟨#[0]⟩ : ByteArray) ++ t271).size + a0_1.size ≤ 9223372036854775807) = true := decide_eq_true c4
 try have c4b2 : (9223372036854775807 < ((⟨#[0]⟩ : ByteArray) ++ t271).size + a0_1.size) = False := eq_false (Nat.not_lt.2 c4)
 try (have c4b3 := c4b2; simp only [ByteArray.size_append, show ((⟨#[0]⟩ : ByteArray)).size = 1 from rfl, show ((⟨#[1]⟩ : ByteArray)).size = 1 from rfl, show ((⟨#[2]⟩ : ByteArray)).size = 1 from rfl] at c4b3)
 replace H := Option.bind_eq_some_iff.mp H
 obtain ⟨t272, A50, H⟩ := H
 replace H : (some t272) = some r := H
 have A5 := Aside0.mk A50
 clear A50
 obtain rfl := Option.some.inj H
 go_enter Tryd.func45, Tryd.ntmps45
 try go_wp2_with (first | ((with_reducible refine gate_dst (N := 1) rfl ?_); refine box_event ?hg (N := 1) ?hd (cs := #[.string a0_0, .string a0_1]) (t := 39) ?hr ?_; (case hd => rfl); (case hg => rfl); (case hr => first | (go_simp; done) | (go_simp; rfl)); intro gb270 hg w6 hbox hb; have n0_ := Aside0.mk (below_step m11_ hb); have n1_ := Aside0.mk (hbox); have n2_ := Aside0.mk ((by rw [hg]; exact (below_size m11_) : w.heap.size ≤ gb270)); have n3_ := Aside0.mk ((by rw [hg]; exact (below_size m11_) : w.heap.size ≤ gb270)); clear HB; have HB := n0_; have BK270 := n1_; have GW270 := n2_; have GE270 := n3_; clear n0_ n1_ n2_ n3_; clear hb hbox hg))
 replace BK270 := Aside0.mk (blk_drew BK270.out)
 replace HB := Aside0.mk (below_drew1 HB.out)
 refine start_ (n := 9) (S := fun w' => w'.cell? ⟨gb270, 0, none⟩ = some (.string a0_0) ∧ w'.cell? ⟨gb270, 1, none⟩ = some (.string a0_1)) (ds := []) (Ra_ [0, 9]) (by kernel_rfl) rfl rfl ⟨(blk_cell BK270.out 0).trans rfl, (blk_cell BK270.out 1).trans rfl⟩ (fun hHeld => ?_); refine with_tabW strongroomref20_one.tab1 strongroomref20_one.bits1 (fun HT_ HW_ => ?_)
 generalize w6.drew = w7 at BK270 HB hHeld ⊢
 refine pI_ 0 (some 3) (Ra_ [1, 8]) (h := ?_)
 refine pI_ 4 (some 7) (Ra_ [1, 3, 1, 4]) (h := ?_)
 refine take_ (i := 1) (N := some 4) (v := ?_) (a' := ?_) (Ra_ [2, 2, 1, 4]) rfl rfl (take_ofW HT_.out HW_.out (by kernel_rfl)) (fun _ _ _ h => h) (Or.inl ⟨by rfl, ?_⟩) hHeld ?_ ?_
 rotate_left
 ·rintro w' ⟨s0, s1⟩
  go_simp
  with_reducible rfl
 rotate_left
 ·simp only [Act.put, sA_, sB_, sC_, i64_w, i32_w]
  rfl
 refine take_ (i := 5) (N := some 8) (v := ?_) (a' := ?_) (Ra_ [2, 2, 2, 3]) rfl rfl (take_ofW HT_.out HW_.out (by kernel_rfl)) (fun _ _ _ h => h) (Or.inl ⟨by rfl, ?_⟩) hHeld ?_ ?_
 rotate_left
 ·rintro w' ⟨s0, s1⟩
  go_simp
  with_reducible rfl
 rotate_left
 ·simp only [Act.put, sA_, sB_, sC_, i64_w, i32_w]
  rfl
 refine one_ (i := 2) (N := some 5) (Ra_ [3, 1, 2, 3]) rfl rfl (one_of HT_.out (by kernel_rfl)) (by decide) (fun K hK => ?_)
 refine goes_ Tryd.func68 (by kernel_rfl) rfl #[.string a0_0] (by rfl) rfl rfl m10_ ?_
 with_reducible refine (strongroomref01_Text.calls k a0_0 t271 _ A2.out).mono ?_
 rintro e w8 ⟨rfl, hb⟩
 refine ⟨_, rfl, ?_⟩
 have n0_ := Aside0.mk (blk_below (g := gb270) (o := .cells #[.string a0_0, .string a0_1] 39 (0, 0)) (by (with_reducible repeat (first | refine blk_drewN ?_ _ | refine blk_drew ?_ | refine blk_alloc ?_ _)); exact BK270.out) hb)
 have n1_ := Aside0.mk (below_step (by repeat (first | (with_reducible first | exact HB.out | apply below_alloc | apply pw_below_drewN | apply below_drew1 | refine below_set ?_ GE270.out) | exact HB.out)) hb)
 clear BK270 HB
 have BK270 := n0_
 have HB := n1_
 clear n0_ n1_
 (try clear hb)
 (try clear hb2)
 (try clear hk)
 (try clear hi)
 refine hK.out _ _ ⟨(blk_cell BK270.out 0).trans rfl, (blk_cell BK270.out 1).trans rfl⟩ (fun hHeld => ?_)
 clear hK K
 refine norm_ (a' := ?_) ?_ ?_
 rotate_left
 ·show Act.put _ (some 5) _ = _
  simp only [Act.put, sA_, sB_, sC_, i64_w, i32_w]
  rfl
 refine pI_ 3 (some 6) (Ra_ [6, 3]) (h := ?_)
 refine pI_ 6 (some 9) (Ra_ [7, 2]) (h := ?_)
 refine one_ (i := 7) (N := some 10) (Ra_ [8, 1]) rfl rfl (one_of HT_.out (by kernel_rfl)) (by decide) (fun K hK => ?_)
 refine goes_ Tryd.func44 (by kernel_rfl) rfl #[.string (((⟨#[0]⟩ : ByteArray) ++ t271) ++ a0_1)] (by rfl) rfl rfl m10_ ?_
 with_reducible refine (strongroomref02_Sum.calls (((⟨#[0]⟩ : ByteArray) ++ t271) ++ a0_1) t272 _ A5.out).mono ?_
 rintro e w9 ⟨rfl, hb⟩
 refine ⟨_, rfl, ?_⟩
 have n0_ := Aside0.mk (blk_below (g := gb270) (o := .cells #[.string a0_0, .string a0_1] 39 (0, 0)) (by (with_reducible repeat (first | refine blk_drewN ?_ _ | refine blk_drew ?_ | refine blk_alloc ?_ _)); exact BK270.out) hb)
 have n1_ := Aside0.mk (below_step (by repeat (first | (with_reducible first | exact HB.out | apply below_alloc | apply pw_below_drewN | apply below_drew1 | refine below_set ?_ GE270.out) | exact HB.out)) hb)
 clear BK270 HB
 have BK270 := n0_
 have HB := n1_
 clear n0_ n1_
 (try clear hb)
 (try clear hb2)
 (try clear hk)
 (try clear hi)
 refine hK.out _ _ ⟨(blk_cell BK270.out 0).trans rfl, (blk_cell BK270.out 1).trans rfl⟩ (fun hHeld => ?_)
 clear hK K
 refine norm_ (a' := ?_) ?_ ?_
 rotate_left
 ·show Act.put _ (some 10) _ = _
  simp only [Act.put, sA_, sB_, sC_, i64_w, i32_w]
  rfl
 refine pI_ 8 (some 2) (Ra_ [9]) (h := ?_)
 refine done_ (done_of HT_.out (by kernel_rfl)) ?_
 try go_wp2
 go_ret
 exact ⟨by first | rfl | (simp [errW_none, errW_some] <;> rfl) | (simp [*, errW_none, errW_some] <;> rfl), by repeat (first | (with_reducible first | exact HB.out | apply below_alloc | apply pw_below_drewN | apply below_drew1 | refine below_set ?_ GE270.out) | exact HB.out)⟩

/-! ### strongroomref20_cut: function 46 -/
def strongroomref20_cut.f : Nat → Int → Option (Int)
 | 0, _ => none
 | k + 1, a0 => if a0 ≤ 2 then (some 1) else ((strongroomref20_cut.f k (wrap64 (Int.tdiv (wrap64 (a0 + 1)) 2))).bind fun t273 => (some (wrap64 (2 * t273))))
theorem strongroomref20_cut.mono_l : ∀ k, (∀ y0, LeO (strongroomref20_cut.f k y0) (strongroomref20_cut.f (k + 1) y0))
 | 0 => fun _ r h => by simp [strongroomref20_cut.f] at h
 | k + 1 => by
  have ih0 := strongroomref20_cut.mono_l k
  ·intro y0
   unfold strongroomref20_cut.f
   repeat' first
   | (with_reducible exact ih0 _)
   | (with_reducible exact LeO.refl _)
   | (with_reducible exact LeO.none _)
   | (with_reducible refine LeO.ite ?_ ?_)
   | (with_reducible refine LeO.bind ?_ (fun _ => ?_))
   | exact ih0 _
   | exact LeO.none _
   | refine LeO.ite ?_ ?_
   | refine LeO.bind ?_ (fun _ => ?_)
theorem strongroomref20_cut.mono : ∀ a0 k, LeO (strongroomref20_cut.f k a0) (strongroomref20_cut.f (k + 1) a0) := by
 intro a0 k
 have ih0 := strongroomref20_cut.mono_l k
 exact ih0 a0
set_option maxHeartbeats 8000000 in
set_option maxRecDepth 100000 in
theorem strongroomref20_cut.calls (k : Nat) : ∀ (a0 : Int) (r : Int) (w : World) (h : strongroomref20_cut.f k a0 = some r),
  Calls Tryd.prog 46 #[.int .i64 a0] w fun e w' => e = .returned (.int .i64 r) ∧ Drawn0 w w' := by
 induction k using Nat.strongRecOn with
 | _ k ih =>
 intro a0 r w h
 cases k with
 | zero => exact absurd h (by simp [strongroomref20_cut.f])
 | succ k =>
 simp only [strongroomref20_cut.f] at h
 have H : (if a0 ≤ 2 then (some 1) else ((strongroomref20_cut.f k (wrap64 (Int.tdiv (wrap64 (a0 + 1)) 2))).bind fun t273 => (some (wrap64 (2 * t273))))) = some r := h
 clear h
 by_cases c2 : a0 ≤ 2
 ·rw [if_pos c2] at H
  have c2b0 : decide (a0 ≤ 2) = true := decide_eq_true c2
  clear c2
  obtain rfl := Option.some.inj H
  go_enter Tryd.func46, Tryd.ntmps46
  go_wp2
  go_ret
  exact ⟨by first | rfl | (simp; done) | (simp [*]; done), m43_⟩
 rw [if_neg c2] at H
 have c2b0 : decide (a0 ≤ 2) = false := decide_eq_false c2
 clear c2
 replace H := Option.bind_eq_some_iff.mp H
 obtain ⟨t273, A30, H⟩ := H
 replace H : (some (wrap64 (2 * t273))) = some r := H
 have A3 := Aside0.mk A30
 clear A30
 obtain rfl := Option.some.inj H
 go_enter Tryd.func46, Tryd.ntmps46
 go_wp2_with (first | ((with_reducible refine gate_callee (f := 46) rfl ?_); refine goesL_ (some 8) rfl rfl Tryd.func46 (by kernel_rfl) rfl #[.int .i64 (wrap64 (Int.tdiv (wrap64 (a0 + 1)) 2))] rfl m10_ ?_; (with_reducible refine (ih k (by omega) (wrap64 (Int.tdiv (wrap64 (a0 + 1)) 2)) t273 _ A3.out).mono ?_); rintro e w' ⟨rfl, ⟨nd, rfl⟩⟩; refine ⟨_, rfl, ?_⟩))
 go_ret
 exact ⟨by first | rfl | (simp; done) | (simp [*]; done), m43_⟩

/-! ### strongroomref20_Digest: function 18 -/
def strongroomref20_Digest.f : Nat → List (S39) → Option (ByteArray)
 | 0, _ => none
 | k + 1, l0 => if (l0.length : Int) = 0 then ((strongroomref02_Sum.f (⟨#[2]⟩ : ByteArray)).bind fun t274 => (some t274)) else (if (l0.length : Int) = 1 then (if 0 < (l0.length : Int) then ((strongroomref20_one.f k ((rd_T39 l0 0).f0) ((rd_T39 l0 0).f1)).bind fun t276 => (some t276)) else (none)) else ((strongroomref20_cut.f k (l0.length : Int)).bind fun t277 => (if 0 ≤ t277 then (if t277 ≤ (l0.length : Int) then ((strongroomref20_Digest.f k (l0.take (t277 : Int).toNat)).bind fun t282 => (if 1 + t282.size ≤ 9223372036854775807 then ((strongroomref20_Digest.f k (l0.drop (t277 : Int).toNat)).bind fun t287 => (if ((⟨#[1]⟩ : ByteArray) ++ t282).size + t287.size ≤ 9223372036854775807 then ((strongroomref02_Sum.f (((⟨#[1]⟩ : ByteArray) ++ t282) ++ t287)).bind fun t288 => (some t288)) else (none))) else (none))) else (none)) else (none))))
theorem strongroomref20_Digest.mono_l : ∀ k, (∀ y0, LeO (strongroomref20_Digest.f k y0) (strongroomref20_Digest.f (k + 1) y0))
 | 0 => fun _ r h => by simp [strongroomref20_Digest.f] at h
 | k + 1 => by
  have ih0 := strongroomref20_Digest.mono_l k
  ·intro y0
   unfold strongroomref20_Digest.f
   repeat' first
   | (with_reducible exact ih0 _)
   | (with_reducible exact strongroomref20_cut.mono _ _)
   | (with_reducible exact strongroomref20_one.mono _ _ _)
   | (with_reducible exact LeO.refl _)
   | (with_reducible exact LeO.none _)
   | (with_reducible refine LeO.ite ?_ ?_)
   | (with_reducible refine LeO.bind ?_ (fun _ => ?_))
   | exact ih0 _
   | exact strongroomref20_cut.mono _ _
   | exact strongroomref20_one.mono _ _ _
   | exact LeO.none _
   | refine LeO.ite ?_ ?_
   | refine LeO.bind ?_ (fun _ => ?_)
theorem strongroomref20_Digest.mono : ∀ a0 k, LeO (strongroomref20_Digest.f k a0) (strongroomref20_Digest.f (k + 1) a0) := by
 intro a0 k
 have ih0 := strongroomref20_Digest.mono_l k
 exact ih0 a0
def strongroomref20_Digest.T6 : Bool × List (List Nat × List Nat) := (true, [([], []), ([], []), ([0, 1], [0, 1]), ([2], [2]), ([3], [3]), ([], []), ([], []), ([5, 6], [5, 6]), ([7, 3], [7]), ([4, 8], [4, 8]), ([9, 8], [9]), ([10, 10, 0, 1, 2, 3, 4, 5, 6, 7, 8, 9, 10], [10])])
def strongroomref20_Digest.B6 : List Nat := [0, 0, 3, 7, 15, 0, 0, 96, 239, 511, 1023, 2047]
theorem strongroomref20_Digest.tab6 : rtab .any (opsOf Tryd.f18 6) = strongroomref20_Digest.T6 := by kernel_rfl
theorem strongroomref20_Digest.bits6 : waitsOk strongroomref20_Digest.T6.2 strongroomref20_Digest.B6 = true := by kernel_rfl
set_option maxHeartbeats 8000000 in
set_option maxRecDepth 100000 in
theorem strongroomref20_Digest.calls (k : Nat) : ∀ (A0 : Option Addr) (c0 : Nat) (l0 : List (S39)) (r : ByteArray) (w : World) (hr0 : Kd.C k39 w A0 l0.length l0) (hc0 : l0.length ≤ c0) (h : strongroomref20_Digest.f k l0 = some r),
  Calls Tryd.prog 18 #[.slice A0 l0.length c0] w fun e w' => e = .returned (.string r) ∧ Below w.heap.size w w' := by
 induction k using Nat.strongRecOn with
 | _ k ih =>
 intro A0 c0 l0 r w hr0 hc0 h
 cases k with
 | zero => exact absurd h (by simp [strongroomref20_Digest.f])
 | succ k =>
 simp only [strongroomref20_Digest.f] at h
 have hu39 := Tryd.underlying39
 have HR0 := Aside0.mk hr0
 have HC0 := Aside0.mk hc0
 clear hr0 hc0
 have HB := Aside0.mk (Below.refl w.heap.size w)
 have H : (if (l0.length : Int) = 0 then ((strongroomref02_Sum.f (⟨#[2]⟩ : ByteArray)).bind fun t274 => (some t274)) else (if (l0.length : Int) = 1 then (if 0 < (l0.length : Int) then ((strongroomref20_one.f k ((rd_T39 l0 0).f0) ((rd_T39 l0 0).f1)).bind fun t276 => (some t276)) else (none)) else ((strongroomref20_cut.f k (l0.length : Int)).bind fun t277 => (if 0 ≤ t277 then (if t277 ≤ (l0.length : Int) then ((strongroomref20_Digest.f k (l0.take (t277 : Int).toNat)).bind fun t282 => (if 1 + t282.size ≤ 9223372036854775807 then ((strongroomref20_Digest.f k (l0.drop (t277 : Int).toNat)).bind fun t287 => (if ((⟨#[1]⟩ : ByteArray) ++ t282).size + t287.size ≤ 9223372036854775807 then ((strongroomref02_Sum.f (((⟨#[1]⟩ : ByteArray) ++ t282) ++ t287)).bind fun t288 => (some t288)) else (none))) else (none))) else (none)) else (none))))) = some r := h
 clear h
 by_cases c2 : (l0.length : Int) = 0
 ·rw [if_pos c2] at H
  have c2b0 : ((l0.length : Int) == 0) = true := beq_iff_eq.mpr c2
  have c2b1 : ((l0.length : Int) != 0) = false := bne_eq_false_iff_eq.mpr c2
  clear c2
  replace H := Option.bind_eq_some_iff.mp H
  obtain ⟨t274, A30, H⟩ := H
  replace H : (some t274) = some r := H
  have A3 := Aside0.mk A30
  clear A30
  obtain rfl := Option.some.inj H
  go_enter Tryd.func18, Tryd.ntmps18
  go_wp2_with (first | ((with_reducible refine gate_callee (f := 44) rfl ?_); refine goesL_ (some 7) rfl rfl Tryd.func44 (by kernel_rfl) rfl #[.string (⟨#[2]⟩ : ByteArray)] rfl m10_ ?_; (with_reducible refine (strongroomref02_Sum.calls (⟨#[2]⟩ : ByteArray) t274 _ A3.out).mono ?_); rintro e w4 ⟨rfl, hb⟩; refine ⟨_, rfl, ?_⟩; replace HB := Aside0.mk (below_step m9_ hb); (try clear hb); (try clear hb2); (try clear hk); (try clear hi)))
  go_ret
  exact ⟨by first | rfl | (simp [errW_none, errW_some] <;> rfl) | (simp [*, errW_none, errW_some] <;> rfl), m41_⟩
 rw [if_neg c2] at H
 have c2b0 : ((l0.length : Int) == 0) = false := beq_eq_false_iff_ne.mpr c2
 have c2b1 : ((l0.length : Int) != 0) = true := bne_iff_ne.mpr c2
 have c2b2 : ¬ (l0 = []) := fun h_ => c2 (by rw [h_]; rfl)
 by_cases c5 : (l0.length : Int) = 1
 ·rw [if_pos c5] at H
  have c5b0 : ((l0.length : Int) == 1) = true := beq_iff_eq.mpr c5
  have c5b1 : ((l0.length : Int) != 1) = false := bne_eq_false_iff_eq.mpr c5
  clear c5
  by_cases c6 : 0 < (l0.length : Int)
  case neg =>
   rw [if_neg c6] at H
   exact absurd H (by simp)
  rw [if_pos c6] at H
  have c6b0 : decide (0 < (l0.length : Int)) = true := decide_eq_true c6
  have c6b1 : decide (0 < l0.length) = true := decide_eq_true (by omega)
  clear c6
  replace H := Option.bind_eq_some_iff.mp H
  obtain ⟨t276, A70, H⟩ := H
  replace H : (some t276) = some r := H
  have A7 := Aside0.mk A70
  clear A70
  obtain rfl := Option.some.inj H
  have p275 : 0 ≤ (0 : Int) := (by omega)
  have q275 : 0 < (l0.length : Int) := of_decide_eq_true m22_
  obtain ⟨ad275, e275, hx275_0, hx275_1⟩ := at_T39 HR0.out 0 p275 q275
  cases e275
  have qi275 : (0 < l0.length) = True := eq_true (by omega)
  (try rw [show ((0 : Int)).toNat = 0 from rfl] at hx275_0)
  (try rw [show 0 * 2 = 0 from rfl] at hx275_0)
  (try rw [Addr.add_zero'] at hx275_0)
  (try rw [show ((0 : Int)).toNat = 0 from rfl] at hx275_1)
  (try rw [show 0 * 2 = 0 from rfl] at hx275_1)
  (try rw [Addr.add_zero'] at hx275_1)
  replace p275 := eq_true p275
  replace q275 := eq_true q275
  go_enter Tryd.func18, Tryd.ntmps18
  go_wp2_with (first | ((with_reducible refine gate_callee (f := 45) rfl ?_); refine goesL_ (some 14) rfl rfl Tryd.func45 (by kernel_rfl) rfl #[.agg #[.string ((rd_T39 l0 0).f0), .string ((rd_T39 l0 0).f1)]] rfl m10_ ?_; (with_reducible refine (strongroomref20_one.calls k ((rd_T39 l0 0).f0) ((rd_T39 l0 0).f1) t276 _ A7.out).mono ?_); rintro e w8 ⟨rfl, hb⟩; refine ⟨_, rfl, ?_⟩; replace HB := Aside0.mk (below_step m9_ hb); (try clear hb); (try clear hb2); (try clear hk); (try clear hi)))
  go_ret
  exact ⟨by first | rfl | (simp [errW_none, errW_some] <;> rfl) | (simp [*, errW_none, errW_some] <;> rfl), m41_⟩
 rw [if_neg c5] at H
 have c5b0 : ((l0.length : Int) == 1) = false := beq_eq_false_iff_ne.mpr c5
 have c5b1 : ((l0.length : Int) != 1) = true := bne_iff_ne.mpr c5
 replace H := Option.bind_eq_some_iff.mp H
 obtain ⟨t277, A90, H⟩ := H
 replace H : (if 0 ≤ t277 then (if t277 ≤ (l0.length : Int) then ((strongroomref20_Digest.f k (l0.take (t277 : Int).toNat)).bind fun t282 => (if 1 + t282.size ≤ 9223372036854775807 then ((strongroomref20_Digest.f k (l0.drop (t277 : Int).toNat)).bind fun t287 => (if ((⟨#[1]⟩ : ByteArray) ++ t282).size + t287.size ≤ 9223372036854775807 then ((strongroomref02_Sum.f (((⟨#[1]⟩ : ByteArray) ++ t282) ++ t287)).bind fun t288 => (some t288)) else (none))) else (none))) else (none)) else (none)) = some r := H
 have A9 := Aside0.mk A90
 clear A90
 by_cases c10 : 0 ≤ t277
 case neg =>
  rw [if_neg c10] at H
  exact absurd H (by simp)
 rw [if_pos c10] at H
 have c10b0 := eq_true c10
 have c10b1 : decide (0 ≤ t277) = true := decide_eq_true c10
 clear c10
 by_cases c11 : t277 ≤ (l0.length : Int)
 case neg =>
  rw [if_neg c11] at H
  exact absurd H (by simp)
 rw [if_pos c11] at H
 have c11b0 := eq_true c11
 have c11b1 : decide (t277 ≤ (l0.length : Int)) = true := decide_eq_true c11
 clear c11
 obtain ⟨y278, hy278⟩ : ∃ y_ : List (S39), y_ = (l0.take (t277 : Int).toNat) := ⟨_, rfl⟩
 replace H : ((strongroomref20_Digest.f k y278).bind fun t282 => (if 1 + t282.size ≤ 9223372036854775807 then ((strongroomref20_Digest.f k (l0.drop (t277 : Int).toNat)).bind fun t287 => (if ((⟨#[1]⟩ : ByteArray) ++ t282).size + t287.size ≤ 9223372036854775807 then ((strongroomref02_Sum.f (((⟨#[1]⟩ : ByteArray) ++ t282) ++ t287)).bind fun t288 => (some t288)) else (none))) else (none))) = some r := by first | (rw [hy278]; with_reducible exact H) | (have H2_ := (Option.bind_some _ _).symm.trans H; rw [hy278]; with_reducible exact H2_) | (have H2_ := (Option.bind_some _ _).symm.trans H; with_reducible exact H2_) | with_reducible exact H | (rw [hy278]; exact H) | exact H
 have Ny278 := Aside0.mk hy278
 clear hy278
 replace H := Option.bind_eq_some_iff.mp H
 obtain ⟨t282, A120, H⟩ := H
 replace H : (if 1 + t282.size ≤ 9223372036854775807 then ((strongroomref20_Digest.f k (l0.drop (t277 : Int).toNat)).bind fun t287 => (if ((⟨#[1]⟩ : ByteArray) ++ t282).size + t287.size ≤ 9223372036854775807 then ((strongroomref02_Sum.f (((⟨#[1]⟩ : ByteArray) ++ t282) ++ t287)).bind fun t288 => (some t288)) else (none))) else (none)) = some r := H
 have A12 := Aside0.mk A120
 clear A120
 by_cases c13 : 1 + t282.size ≤ 9223372036854775807
 case neg =>
  rw [if_neg c13] at H
  exact absurd H (by simp)
 rw [if_pos c13] at H
 have c13b0 := eq_true c13
 have c13b1 : decide (1 + t282.size ≤ 9223372036854775807) = true := decide_eq_true c13
 try have c13b2 : (9223372036854775807 < 1 + t282.size) = False := eq_false (Nat.not_lt.2 c13)
 have c14b0 := eq_true (of_decide_eq_true m22_ : 0 ≤ t277)
 have c15b0 := eq_true (of_decide_eq_true m22_ : t277 ≤ (l0.length : Int))
 obtain ⟨y283, hy283⟩ : ∃ y_ : List (S39), y_ = (l0.drop (t277 : Int).toNat) := ⟨_, rfl⟩
 replace H : ((strongroomref20_Digest.f k y283).bind fun t287 => (if ((⟨#[1]⟩ : ByteArray) ++ t282).size + t287.size ≤ 9223372036854775807 then ((strongroomref02_Sum.f (((⟨#[1]⟩ : ByteArray) ++ t282) ++ t287)).bind fun t288 => (some t288)) else (none))) = some r := by first | (rw [hy283]; with_reducible exact H) | (have H2_ := (Option.bind_some _ _).symm.trans H; rw [hy283]; with_reducible exact H2_) | (have H2_ := (Option.bind_some _ _).symm.trans H; with_reducible exact H2_) | with_reducible exact H | (rw [hy283]; exact H) | exact H
 have Ny283 := Aside0.mk hy283
 clear hy283
 replace H := Option.bind_eq_some_iff.mp H
 obtain ⟨t287, A160, H⟩ := H
 replace H : (if ((⟨#[1]⟩ : ByteArray) ++ t282).size + t287.size ≤ 9223372036854775807 then ((strongroomref02_Sum.f (((⟨#[1]⟩ : ByteArray) ++ t282) ++ t287)).bind fun t288 => (some t288)) else (none)) = some r := H
 have A16 := Aside0.mk A160
 clear A160
 by_cases c17 : ((⟨#[1]⟩ : ByteArray) ++ t282).size + t287.size ≤ 9223372036854775807
 case neg =>
  rw [if_neg c17] at H
  exact absurd H (by simp)
 rw [if_pos c17] at H
 have c17b0 := eq_true c17
 have c17b1 : decide (((⟨#[1]⟩ : ByteArray) ++ t282).size + t287.size ≤ 9223372036854775807) = true := decide_eq_true c17
 try have c17b2 : (9223372036854775807 < ((⟨#[1]⟩ : ByteArray) ++ t282).size + t287.size) = False := eq_false (Nat.not_lt.2 c17)
 try (have c17b3 := c17b2; simp only [ByteArray.size_append, show ((⟨#[0]⟩ : ByteArray)).size = 1 from rfl, show ((⟨#[1]⟩ : ByteArray)).size = 1 from rfl, show ((⟨#[2]⟩ : ByteArray)).size = 1 from rfl] at c17b3)
 replace H := Option.bind_eq_some_iff.mp H
 obtain ⟨t288, A180, H⟩ := H
 replace H : (some t288) = some r := H
 have A18 := Aside0.mk A180
 clear A180
 obtain rfl := Option.some.inj H
 go_enter Tryd.func18, Tryd.ntmps18
 try go_wp2_with (first | ((with_reducible refine gate_callee (f := 46) rfl ?_); refine goesL_ (some 17) rfl rfl Tryd.func46 (by kernel_rfl) rfl #[.int .i64 (l0.length : Int)] rfl m10_ ?_; (with_reducible refine (strongroomref20_cut.calls k (l0.length : Int) t277 _ A9.out).mono ?_); rintro e w' ⟨rfl, ⟨nd, rfl⟩⟩; refine ⟨_, rfl, ?_⟩))
 replace HB := Aside0.mk (below_drew1 HB.out)
 have q20 : (t277 : Int) ≤ ((l0.length : Int) : Int) := of_decide_eq_true m22_
 obtain ⟨i020, hi020, _, hsz20, _⟩ := info_parts info39
 have hroom20 : l0.length ≤ c0 := HC0.out
 have hC20 : Kd.C k39 _ A0 l0.length l0 := HR0.out
 have hcut20 := cut_to (P := Tryd.prog) 22 39 .i64 Tryd.underlying22 hi020 A0 l0.length c0 t277 (of_decide_eq_true m22_) q20 hroom20
 have hr20 := Kd.C_take (m := (t277 : Int).toNat) hC20 (by omega)
 have hy20 : y278.length = (t277 : Int).toNat := (by rw [Ny278.out, List.length_take]; omega)
 rw [← Ny278.out] at hr20
 rw [← hy20] at hcut20
 have HR281 := Aside0.mk hr20
 have HC281 := Aside0.mk (show y278.length ≤ c0 from by omega)
 clear hr20 hC20 hroom20 hi020 hsz20
 have KY20 := Aside0.mk hy20
 clear hy20
 replace q20 := eq_true q20
 have q21 : (t277 : Int) ≤ ((l0.length : Int) : Int) := of_decide_eq_true m22_
 obtain ⟨i021, hi021, _, hsz21, _⟩ := info_parts info39
 have hroom21 : l0.length ≤ c0 := HC0.out
 have hC21 : Kd.C k39 _ A0 l0.length l0 := HR0.out
 have q021 : (0 : Int) ≤ (t277 : Int) := of_decide_eq_true m22_
 have hcut21 := cut_from (P := Tryd.prog) 22 39 .i64 Tryd.underlying22 hi021 2 hsz21 A0 l0.length c0 t277 q021 q21
 have hr21 := Kd.C_drop (m := (t277 : Int).toNat) (c := c0) hC21 (by omega) hroom21
 obtain ⟨A21, hA21⟩ : ∃ A1, A1 = (if c0 = (t277 : Int).toNat then A0 else (A0 : Option Addr).map (·.add ((t277 : Int).toNat * 2))) := ⟨_, rfl⟩
 obtain ⟨c21, hc21⟩ : ∃ c1, c1 = c0 - (t277 : Int).toNat := ⟨_, rfl⟩
 have hy21 : y283.length = l0.length - (t277 : Int).toNat := (by rw [Ny283.out, List.length_drop] <;> omega)
 rw [show (l0).drop (t277 : Int).toNat = y283 from Ny283.out.symm] at hr21
 replace hr21 : Kd.C k39 _ A21 y283.length y283 := (by rw [hA21]; exact hr21)
 rw [← hy21, ← hA21, ← hc21] at hcut21
 have HR286 := Aside0.mk hr21
 have HC286 := Aside0.mk (show y283.length ≤ c21 from by rw [hy21, hc21]; exact Nat.sub_le_sub_right hroom21 _)
 clear hr21 hC21 hroom21 hi021 hsz21 hc21
 have KY21 := Aside0.mk hy21
 have KA21 := Aside0.mk hA21
 clear hy21 hA21
 replace q21 := eq_true q21
 refine start_ (n := 12) (S := fun w' => True) (ds := []) (Ra_ [0, 12]) (by kernel_rfl) rfl rfl trivial (fun hHeld => ?_); refine with_tabW strongroomref20_Digest.tab6 strongroomref20_Digest.bits6 (fun HT_ HW_ => ?_)
 generalize w.drew = w19 at HB HR281 HR286 hHeld ⊢
 refine pI_ 0 (some 18) (Ra_ [1, 11]) (h := ?_)
 refine pI_ 1 (some 19) (Ra_ [2, 10]) (h := ?_)
 refine pI_ 2 (some 20) (Ra_ [3, 9]) (h := ?_)
 refine pI_ 5 (some 23) (Ra_ [3, 2, 1, 6]) (h := ?_)
 refine pI_ 6 (some 24) (Ra_ [3, 2, 2, 5]) (h := ?_)
 refine pI_ 7 (some 25) (Ra_ [3, 2, 3, 4]) (h := ?_)
 refine one_ (i := 3) (N := some 21) (Ra_ [4, 1, 3, 4]) rfl rfl (one_of HT_.out (by kernel_rfl)) (by decide) (fun K hK => ?_)
 refine goes_ Tryd.func18 (by kernel_rfl) rfl #[.slice A0 y278.length c0] (by rfl) rfl rfl m10_ ?_
 with_reducible refine (ih k (by omega) _ _ y278 t282 _ ?side1 ?side2 A12.out).mono ?_
 (case side1 => repeat (first | exact (Kd.C_below HR281.out HB.out) | exact HR281.out | (with_reducible refine Kd.C_alloc ?_ _) | (with_reducible refine Kd.C_drewN ?_ _) | (with_reducible refine Kd.C_drew ?_)))
 (case side2 => exact HC281.out)
 rintro e w22 ⟨rfl, hb⟩
 refine ⟨_, rfl, ?_⟩
 replace HB := Aside0.mk (below_step m9_ hb)
 (try clear hb)
 (try clear hb2)
 (try clear hk)
 (try clear hi)
 refine hK.out _ _ trivial (fun hHeld => ?_)
 clear hK K
 refine norm_ (a' := ?_) ?_ ?_
 rotate_left
 ·show Act.put _ (some 21) _ = _
  simp only [Act.put, sA_, sB_, sC_, i64_w, i32_w]
  rfl
 refine pI_ 4 (some 22) (Ra_ [8, 4]) (h := ?_)
 refine one_ (i := 8) (N := some 26) (Ra_ [9, 3]) rfl rfl (one_of HT_.out (by kernel_rfl)) (by decide) (fun K hK => ?_)
 refine goes_ Tryd.func18 (by kernel_rfl) rfl #[.slice A21 y283.length c21] (by rfl) rfl rfl m10_ ?_
 with_reducible refine (ih k (by omega) _ _ y283 t287 _ ?side1 ?side2 A16.out).mono ?_
 (case side1 => repeat (first | exact (Kd.C_below HR286.out HB.out) | exact HR286.out | (with_reducible refine Kd.C_alloc ?_ _) | (with_reducible refine Kd.C_drewN ?_ _) | (with_reducible refine Kd.C_drew ?_)))
 (case side2 => exact HC286.out)
 rintro e w23 ⟨rfl, hb⟩
 refine ⟨_, rfl, ?_⟩
 replace HB := Aside0.mk (below_step m9_ hb)
 (try clear hb)
 (try clear hb2)
 (try clear hk)
 (try clear hi)
 refine hK.out _ _ trivial (fun hHeld => ?_)
 clear hK K
 refine norm_ (a' := ?_) ?_ ?_
 rotate_left
 ·show Act.put _ (some 26) _ = _
  simp only [Act.put, sA_, sB_, sC_, i64_w, i32_w]
  rfl
 refine pI_ 9 (some 27) (Ra_ [10, 2]) (h := ?_)
 refine one_ (i := 10) (N := some 28) (Ra_ [11, 1]) rfl rfl (one_of HT_.out (by kernel_rfl)) (by decide) (fun K hK => ?_)
 refine goes_ Tryd.func44 (by kernel_rfl) rfl #[.string (((⟨#[1]⟩ : ByteArray) ++ t282) ++ t287)] (by rfl) rfl rfl m10_ ?_
 with_reducible refine (strongroomref02_Sum.calls (((⟨#[1]⟩ : ByteArray) ++ t282) ++ t287) t288 _ A18.out).mono ?_
 rintro e w24 ⟨rfl, hb⟩
 refine ⟨_, rfl, ?_⟩
 replace HB := Aside0.mk (below_step m9_ hb)
 (try clear hb)
 (try clear hb2)
 (try clear hk)
 (try clear hi)
 refine hK.out _ _ trivial (fun hHeld => ?_)
 clear hK K
 refine norm_ (a' := ?_) ?_ ?_
 rotate_left
 ·show Act.put _ (some 28) _ = _
  simp only [Act.put, sA_, sB_, sC_, i64_w, i32_w]
  rfl
 refine pI_ 11 (some 2) (Ra_ [12]) (h := ?_)
 refine done_ (done_of HT_.out (by kernel_rfl)) ?_
 try go_wp2
 go_ret
 exact ⟨by first | rfl | (simp [errW_none, errW_some] <;> rfl) | (simp [*, errW_none, errW_some] <;> rfl), m41_⟩

/-! ### strongroomref20_Length: function 25 -/
def strongroomref20_Length.f : Nat → Int → Int → Option (Int)
 | 0, _, _ => none
 | k + 1, a0, a1 => if a0 = 1 then (some 0) else ((strongroomref20_cut.f k a0).bind fun t289 => (if a1 < t289 then ((strongroomref20_Length.f k t289 a1).bind fun t290 => (some (wrap64 (1 + t290)))) else ((strongroomref20_Length.f k (wrap64 (a0 - t289)) (wrap64 (a1 - t289))).bind fun t291 => (some (wrap64 (1 + t291))))))
theorem strongroomref20_Length.mono_l : ∀ k, (∀ y0 y1, LeO (strongroomref20_Length.f k y0 y1) (strongroomref20_Length.f (k + 1) y0 y1))
 | 0 => fun _ _ r h => by simp [strongroomref20_Length.f] at h
 | k + 1 => by
  have ih0 := strongroomref20_Length.mono_l k
  ·intro y0 y1
   unfold strongroomref20_Length.f
   repeat' first
   | (with_reducible exact ih0 _ _)
   | (with_reducible exact strongroomref20_cut.mono _ _)
   | (with_reducible exact LeO.refl _)
   | (with_reducible exact LeO.none _)
   | (with_reducible refine LeO.ite ?_ ?_)
   | (with_reducible refine LeO.bind ?_ (fun _ => ?_))
   | exact ih0 _ _
   | exact strongroomref20_cut.mono _ _
   | exact LeO.none _
   | refine LeO.ite ?_ ?_
   | refine LeO.bind ?_ (fun _ => ?_)
theorem strongroomref20_Length.mono : ∀ a0 a1 k, LeO (strongroomref20_Length.f k a0 a1) (strongroomref20_Length.f (k + 1) a0 a1) := by
 intro a0 a1 k
 have ih0 := strongroomref20_Length.mono_l k
 exact ih0 a0 a1
set_option maxHeartbeats 8000000 in
set_option maxRecDepth 100000 in
theorem strongroomref20_Length.calls (k : Nat) : ∀ (a0 : Int) (a1 : Int) (r : Int) (w : World) (h : strongroomref20_Length.f k a0 a1 = some r),
  Calls Tryd.prog 25 #[.int .i64 a0, .int .i64 a1] w fun e w' => e = .returned (.int .i64 r) ∧ Drawn0 w w' := by
 induction k using Nat.strongRecOn with
 | _ k ih =>
 intro a0 a1 r w h
 cases k with
 | zero => exact absurd h (by simp [strongroomref20_Length.f])
 | succ k =>
 simp only [strongroomref20_Length.f] at h
 have H : (if a0 = 1 then (some 0) else ((strongroomref20_cut.f k a0).bind fun t289 => (if a1 < t289 then ((strongroomref20_Length.f k t289 a1).bind fun t290 => (some (wrap64 (1 + t290)))) else ((strongroomref20_Length.f k (wrap64 (a0 - t289)) (wrap64 (a1 - t289))).bind fun t291 => (some (wrap64 (1 + t291))))))) = some r := h
 clear h
 by_cases c3 : a0 = 1
 ·rw [if_pos c3] at H
  have c3b0 : (a0 == 1) = true := beq_iff_eq.mpr c3
  have c3b1 : (a0 != 1) = false := bne_eq_false_iff_eq.mpr c3
  clear c3
  obtain rfl := Option.some.inj H
  go_enter Tryd.func25, Tryd.ntmps25
  go_wp2
  go_ret
  exact ⟨by first | rfl | (simp; done) | (simp [*]; done), m43_⟩
 rw [if_neg c3] at H
 have c3b0 : (a0 == 1) = false := beq_eq_false_iff_ne.mpr c3
 have c3b1 : (a0 != 1) = true := bne_iff_ne.mpr c3
 replace H := Option.bind_eq_some_iff.mp H
 obtain ⟨t289, A40, H⟩ := H
 replace H : (if a1 < t289 then ((strongroomref20_Length.f k t289 a1).bind fun t290 => (some (wrap64 (1 + t290)))) else ((strongroomref20_Length.f k (wrap64 (a0 - t289)) (wrap64 (a1 - t289))).bind fun t291 => (some (wrap64 (1 + t291))))) = some r := H
 have A4 := Aside0.mk A40
 clear A40
 by_cases c5 : a1 < t289
 ·rw [if_pos c5] at H
  have c5b0 : decide (a1 < t289) = true := decide_eq_true c5
  clear c5
  replace H := Option.bind_eq_some_iff.mp H
  obtain ⟨t290, A60, H⟩ := H
  replace H : (some (wrap64 (1 + t290))) = some r := H
  have A6 := Aside0.mk A60
  clear A60
  obtain rfl := Option.some.inj H
  go_enter Tryd.func25, Tryd.ntmps25
  go_wp2_with (first | ((with_reducible refine gate_callee (f := 46) rfl ?_); refine goesL_ (some 9) rfl rfl Tryd.func46 (by kernel_rfl) rfl #[.int .i64 a0] rfl m10_ ?_; (with_reducible refine (strongroomref20_cut.calls k a0 t289 _ A4.out).mono ?_); rintro e w' ⟨rfl, ⟨nd, rfl⟩⟩; refine ⟨_, rfl, ?_⟩) | ((with_reducible refine gate_callee (f := 25) rfl ?_); refine goesL_ (some 15) rfl rfl Tryd.func25 (by kernel_rfl) rfl #[.int .i64 t289, .int .i64 a1] rfl m10_ ?_; (with_reducible refine (ih k (by omega) t289 a1 t290 _ A6.out).mono ?_); rintro e w' ⟨rfl, ⟨nd, rfl⟩⟩; refine ⟨_, rfl, ?_⟩))
  go_ret
  exact ⟨by first | rfl | (simp; done) | (simp [*]; done), m43_⟩
 rw [if_neg c5] at H
 have c5b0 : decide (a1 < t289) = false := decide_eq_false c5
 clear c5
 replace H := Option.bind_eq_some_iff.mp H
 obtain ⟨t291, A70, H⟩ := H
 replace H : (some (wrap64 (1 + t291))) = some r := H
 have A7 := Aside0.mk A70
 clear A70
 obtain rfl := Option.some.inj H
 go_enter Tryd.func25, Tryd.ntmps25
 go_wp2_with (first | ((with_reducible refine gate_callee (f := 46) rfl ?_); refine goesL_ (some 9) rfl rfl Tryd.func46 (by kernel_rfl) rfl #[.int .i64 a0] rfl m10_ ?_; (with_reducible refine (strongroomref20_cut.calls k a0 t289 _ A4.out).mono ?_); rintro e w' ⟨rfl, ⟨nd, rfl⟩⟩; refine ⟨_, rfl, ?_⟩) | ((with_reducible refine gate_callee (f := 25) rfl ?_); refine goesL_ (some 23) rfl rfl Tryd.func25 (by kernel_rfl) rfl #[.int .i64 (wrap64 (a0 - t289)), .int .i64 (wrap64 (a1 - t289))] rfl m10_ ?_; (with_reducible refine (ih k (by omega) (wrap64 (a0 - t289)) (wrap64 (a1 - t289)) t291 _ A7.out).mono ?_); rintro e w' ⟨rfl, ⟨nd, rfl⟩⟩; refine ⟨_, rfl, ?_⟩))
 go_ret
 exact ⟨by first | rfl | (simp; done) | (simp [*]; done), m43_⟩

end Go.Proofs.YtdeggemomajhcaaDoorH.HMerkleAbsent
namespace Go.Proofs.YtdeggemomajhcaaDoorH.HMerkleAbsent
open Go.RowKit Go.Proofs.YtdeggemomajhcaaDoorW.PrintWords Go.Proofs.YtdeggemomajhcaaDoorW.PrintLast Go.Proofs.YtdeggemomajhcaaDoorW.PrintMore
attribute [local go_sem] max2_int min2_int max_two min_two max_three min_three max_four min_four   -- for this text's walks alone
set_option linter.unusedVariables false
set_option linter.unusedSimpArgs false

/-! ### strongroomref20_up: function 50 -/
def strongroomref20_up.f : Nat → ByteArray → Int → Int → List ByteArray → Option (ByteArray)
 | 0, _, _, _, _ => none
 | k + 1, a0, a1, a2, l3 => if a1 = 1 then (some a0) else ((strongroomref20_cut.f k a1).bind fun t292 => (if a2 < t292 then (if 0 ≤ (wrap64 ((l3.length : Int) - 1)) then (if (wrap64 ((l3.length : Int) - 1)) ≤ (l3.length : Int) then ((strongroomref20_up.f k a0 t292 a2 (l3.take ((wrap64 ((l3.length : Int) - 1)) : Int).toNat)).bind fun t294 => (if 1 + t294.size ≤ 9223372036854775807 then (if (wrap64 ((l3.length : Int) - 1)) < (l3.length : Int) then (if ((⟨#[1]⟩ : ByteArray) ++ t294).size + (rdOf ByteArray.empty l3 (wrap64 ((l3.length : Int) - 1))).size ≤ 9223372036854775807 then ((strongroomref02_Sum.f (((⟨#[1]⟩ : ByteArray) ++ t294) ++ (rdOf ByteArray.empty l3 (wrap64 ((l3.length : Int) - 1))))).bind fun t296 => (some t296)) else (none)) else (none)) else (none))) else (none)) else (none)) else (if 0 ≤ (wrap64 ((l3.length : Int) - 1)) then (if (wrap64 ((l3.length : Int) - 1)) < (l3.length : Int) then (if 1 + (rdOf ByteArray.empty l3 (wrap64 ((l3.length : Int) - 1))).size ≤ 9223372036854775807 then (if (wrap64 ((l3.length : Int) - 1)) ≤ (l3.length : Int) then ((strongroomref20_up.f k a0 (wrap64 (a1 - t292)) (wrap64 (a2 - t292)) (l3.take ((wrap64 ((l3.length : Int) - 1)) : Int).toNat)).bind fun t299 => (if ((⟨#[1]⟩ : ByteArray) ++ (rdOf ByteArray.empty l3 (wrap64 ((l3.length : Int) - 1)))).size + t299.size ≤ 9223372036854775807 then ((strongroomref02_Sum.f (((⟨#[1]⟩ : ByteArray) ++ (rdOf ByteArray.empty l3 (wrap64 ((l3.length : Int) - 1)))) ++ t299)).bind fun t300 => (some t300)) else (none))) else (none)) else (none)) else (none)) else (none))))
theorem strongroomref20_up.mono_l : ∀ k, (∀ y0 y1 y2 y3, LeO (strongroomref20_up.f k y0 y1 y2 y3) (strongroomref20_up.f (k + 1) y0 y1 y2 y3))
 | 0 => fun _ _ _ _ r h => by simp [strongroomref20_up.f] at h
 | k + 1 => by
  have ih0 := strongroomref20_up.mono_l k
  ·intro y0 y1 y2 y3
   unfold strongroomref20_up.f
   repeat' first
   | (with_reducible exact ih0 _ _ _ _)
   | (with_reducible exact strongroomref20_cut.mono _ _)
   | (with_reducible exact LeO.refl _)
   | (with_reducible exact LeO.none _)
   | (with_reducible refine LeO.ite ?_ ?_)
   | (with_reducible refine LeO.bind ?_ (fun _ => ?_))
   | exact ih0 _ _ _ _
   | exact strongroomref20_cut.mono _ _
   | exact LeO.none _
   | refine LeO.ite ?_ ?_
   | refine LeO.bind ?_ (fun _ => ?_)
theorem strongroomref20_up.mono : ∀ a0 a1 a2 a3 k, LeO (strongroomref20_up.f k a0 a1 a2 a3) (strongroomref20_up.f (k + 1) a0 a1 a2 a3) := by
 intro a0 a1 a2 a3 k
 have ih0 := strongroomref20_up.mono_l k
 exact ih0 a0 a1 a2 a3
def strongroomref20_up.T5 : Bool × List (List Nat × List Nat) := (true, [([], []), ([], []), ([], []), ([], []), ([], []), ([3, 4], [3, 4]), ([0, 1, 2, 5], [0, 1, 2, 5]), ([6], [6]), ([], []), ([], []), ([8, 9], [8, 9]), ([10], [10]), ([7, 11], [7, 11]), ([12, 6], [12]), ([13, 13, 0, 1, 2, 3, 4, 5, 6, 7, 8, 9, 10, 11, 12, 13], [13])])
def strongroomref20_up.B5 : List Nat := [0, 0, 0, 0, 0, 24, 63, 127, 0, 0, 768, 1792, 4095, 8191, 16383]
theorem strongroomref20_up.tab5 : rtab .any (opsOf Tryd.f50 5) = strongroomref20_up.T5 := by kernel_rfl
theorem strongroomref20_up.bits5 : waitsOk strongroomref20_up.T5.2 strongroomref20_up.B5 = true := by kernel_rfl
def strongroomref20_up.T6 : Bool × List (List Nat × List Nat) := (true, [([], []), ([], []), ([0, 1], [0, 1]), ([2], [2]), ([3], [3]), ([], []), ([], []), ([], []), ([6, 7], [6, 7]), ([], []), ([], []), ([9, 10], [9, 10]), ([], []), ([], []), ([12, 13], [12, 13]), ([5, 8, 11, 14], [5, 8, 11, 14]), ([4, 15], [4, 15]), ([16, 15], [16]), ([17, 17, 0, 1, 2, 3, 4, 5, 6, 7, 8, 9, 10, 11, 12, 13, 14, 15, 16, 17], [17])])
def strongroomref20_up.B6 : List Nat := [0, 0, 3, 7, 15, 0, 0, 0, 192, 0, 0, 1536, 0, 0, 12288, 32736, 65535, 131071, 262143]
theorem strongroomref20_up.tab6 : rtab .any (opsOf Tryd.f50 6) = strongroomref20_up.T6 := by kernel_rfl
theorem strongroomref20_up.bits6 : waitsOk strongroomref20_up.T6.2 strongroomref20_up.B6 = true := by kernel_rfl
set_option maxHeartbeats 8000000 in
set_option maxRecDepth 100000 in
theorem strongroomref20_up.calls (k : Nat) : ∀ (a0 : ByteArray) (a1 : Int) (a2 : Int) (A3 : Option Addr) (c3 : Nat) (l3 : List ByteArray) (r : ByteArray) (w : World) (hr3 : Kd.C Kd.string w A3 l3.length l3) (hc3 : l3.length ≤ c3) (h : strongroomref20_up.f k a0 a1 a2 l3 = some r),
  Calls Tryd.prog 50 #[.string a0, .int .i64 a1, .int .i64 a2, .slice A3 l3.length c3] w fun e w' => e = .returned (.string r) ∧ Below w.heap.size w w' := by
 induction k using Nat.strongRecOn with
 | _ k ih =>
 intro a0 a1 a2 A3 c3 l3 r w hr3 hc3 h
 cases k with
 | zero => exact absurd h (by simp [strongroomref20_up.f])
 | succ k =>
 simp only [strongroomref20_up.f] at h
 have HR3 := Aside0.mk hr3
 have HC3 := Aside0.mk hc3
 clear hr3 hc3
 have HB := Aside0.mk (Below.refl w.heap.size w)
 have H : (if a1 = 1 then (some a0) else ((strongroomref20_cut.f k a1).bind fun t292 => (if a2 < t292 then (if 0 ≤ (wrap64 ((l3.length : Int) - 1)) then (if (wrap64 ((l3.length : Int) - 1)) ≤ (l3.length : Int) then ((strongroomref20_up.f k a0 t292 a2 (l3.take ((wrap64 ((l3.length : Int) - 1)) : Int).toNat)).bind fun t294 => (if 1 + t294.size ≤ 9223372036854775807 then (if (wrap64 ((l3.length : Int) - 1)) < (l3.length : Int) then (if ((⟨#[1]⟩ : ByteArray) ++ t294).size + (rdOf ByteArray.empty l3 (wrap64 ((l3.length : Int) - 1))).size ≤ 9223372036854775807 then ((strongroomref02_Sum.f (((⟨#[1]⟩ : ByteArray) ++ t294) ++ (rdOf ByteArray.empty l3 (wrap64 ((l3.length : Int) - 1))))).bind fun t296 => (some t296)) else (none)) else (none)) else (none))) else (none)) else (none)) else (if 0 ≤ (wrap64 ((l3.length : Int) - 1)) then (if (wrap64 ((l3.length : Int) - 1)) < (l3.length : Int) then (if 1 + (rdOf ByteArray.empty l3 (wrap64 ((l3.length : Int) - 1))).size ≤ 9223372036854775807 then (if (wrap64 ((l3.length : Int) - 1)) ≤ (l3.length : Int) then ((strongroomref20_up.f k a0 (wrap64 (a1 - t292)) (wrap64 (a2 - t292)) (l3.take ((wrap64 ((l3.length : Int) - 1)) : Int).toNat)).bind fun t299 => (if ((⟨#[1]⟩ : ByteArray) ++ (rdOf ByteArray.empty l3 (wrap64 ((l3.length : Int) - 1)))).size + t299.size ≤ 9223372036854775807 then ((strongroomref02_Sum.f (((⟨#[1]⟩ : ByteArray) ++ (rdOf ByteArray.empty l3 (wrap64 ((l3.length : Int) - 1)))) ++ t299)).bind fun t300 => (some t300)) else (none))) else (none)) else (none)) else (none)) else (none))))) = some r := h
 clear h
 by_cases c5 : a1 = 1
 ·rw [if_pos c5] at H
  have c5b0 : (a1 == 1) = true := beq_iff_eq.mpr c5
  have c5b1 : (a1 != 1) = false := bne_eq_false_iff_eq.mpr c5
  clear c5
  obtain rfl := Option.some.inj H
  go_enter Tryd.func50, Tryd.ntmps50
  go_wp2
  go_ret
  exact ⟨by first | rfl | (simp [errW_none, errW_some] <;> rfl) | (simp [*, errW_none, errW_some] <;> rfl), m41_⟩
 rw [if_neg c5] at H
 have c5b0 : (a1 == 1) = false := beq_eq_false_iff_ne.mpr c5
 have c5b1 : (a1 != 1) = true := bne_iff_ne.mpr c5
 replace H := Option.bind_eq_some_iff.mp H
 obtain ⟨t292, A60, H⟩ := H
 replace H : (if a2 < t292 then (if 0 ≤ (wrap64 ((l3.length : Int) - 1)) then (if (wrap64 ((l3.length : Int) - 1)) ≤ (l3.length : Int) then ((strongroomref20_up.f k a0 t292 a2 (l3.take ((wrap64 ((l3.length : Int) - 1)) : Int).toNat)).bind fun t294 => (if 1 + t294.size ≤ 9223372036854775807 then (if (wrap64 ((l3.length : Int) - 1)) < (l3.length : Int) then (if ((⟨#[1]⟩ : ByteArray) ++ t294).size + (rdOf ByteArray.empty l3 (wrap64 ((l3.length : Int) - 1))).size ≤ 9223372036854775807 then ((strongroomref02_Sum.f (((⟨#[1]⟩ : ByteArray) ++ t294) ++ (rdOf ByteArray.empty l3 (wrap64 ((l3.length : Int) - 1))))).bind fun t296 => (some t296)) else (none)) else (none)) else (none))) else (none)) else (none)) else (if 0 ≤ (wrap64 ((l3.length : Int) - 1)) then (if (wrap64 ((l3.length : Int) - 1)) < (l3.length : Int) then (if 1 + (rdOf ByteArray.empty l3 (wrap64 ((l3.length : Int) - 1))).size ≤ 9223372036854775807 then (if (wrap64 ((l3.length : Int) - 1)) ≤ (l3.length : Int) then ((strongroomref20_up.f k a0 (wrap64 (a1 - t292)) (wrap64 (a2 - t292)) (l3.take ((wrap64 ((l3.length : Int) - 1)) : Int).toNat)).bind fun t299 => (if ((⟨#[1]⟩ : ByteArray) ++ (rdOf ByteArray.empty l3 (wrap64 ((l3.length : Int) - 1)))).size + t299.size ≤ 9223372036854775807 then ((strongroomref02_Sum.f (((⟨#[1]⟩ : ByteArray) ++ (rdOf ByteArray.empty l3 (wrap64 ((l3.length : Int) - 1)))) ++ t299)).bind fun t300 => (some t300)) else (none))) else (none)) else (none)) else (none)) else (none))) = some r := H
 have A6 := Aside0.mk A60
 clear A60
 by_cases c7 : a2 < t292
 ·rw [if_pos c7] at H
  have c7b0 : decide (a2 < t292) = true := decide_eq_true c7
  clear c7
  obtain ⟨ji8, hji8⟩ : ∃ j_ : Int, (wrap64 ((l3.length : Int) - 1)) = j_ := ⟨_, rfl⟩
  replace H : (if 0 ≤ (ji8) then (if (ji8) ≤ (l3.length : Int) then ((strongroomref20_up.f k a0 t292 a2 (l3.take ((ji8) : Int).toNat)).bind fun t294 => (if 1 + t294.size ≤ 9223372036854775807 then (if (ji8) < (l3.length : Int) then (if ((⟨#[1]⟩ : ByteArray) ++ t294).size + (rdOf ByteArray.empty l3 (ji8)).size ≤ 9223372036854775807 then ((strongroomref02_Sum.f (((⟨#[1]⟩ : ByteArray) ++ t294) ++ (rdOf ByteArray.empty l3 (ji8)))).bind fun t296 => (some t296)) else (none)) else (none)) else (none))) else (none)) else (none)) = some r := by first | (rw [hji8] at H; exact H) | (simp only [hji8] at H ⊢; exact H)
  (try rw [hji8] at A6)
  have hji8w : (IntKind.i64.wrap ((l3.length : Int) - 1)) = ji8 := (i64_w _).trans hji8
  by_cases c9 : 0 ≤ (ji8)
  case neg =>
   rw [if_neg c9] at H
   exact absurd H (by simp)
  rw [if_pos c9] at H
  have c9b0 := eq_true c9
  have c9b1 : decide (0 ≤ (ji8)) = true := decide_eq_true c9
  clear c9
  by_cases c10 : (ji8) ≤ (l3.length : Int)
  case neg =>
   rw [if_neg c10] at H
   exact absurd H (by simp)
  rw [if_pos c10] at H
  have c10b0 := eq_true c10
  have c10b1 : decide ((ji8) ≤ (l3.length : Int)) = true := decide_eq_true c10
  clear c10
  replace H := Option.bind_eq_some_iff.mp H
  obtain ⟨t294, A110, H⟩ := H
  replace H : (if 1 + t294.size ≤ 9223372036854775807 then (if (ji8) < (l3.length : Int) then (if ((⟨#[1]⟩ : ByteArray) ++ t294).size + (rdOf ByteArray.empty l3 (ji8)).size ≤ 9223372036854775807 then ((strongroomref02_Sum.f (((⟨#[1]⟩ : ByteArray) ++ t294) ++ (rdOf ByteArray.empty l3 (ji8)))).bind fun t296 => (some t296)) else (none)) else (none)) else (none)) = some r := H
  have A11 := Aside0.mk A110
  clear A110
  by_cases c12 : 1 + t294.size ≤ 9223372036854775807
  case neg =>
   rw [if_neg c12] at H
   exact absurd H (by simp)
  rw [if_pos c12] at H
  have c12b0 := eq_true c12
  have c12b1 : decide (1 + t294.size ≤ 9223372036854775807) = true := decide_eq_true c12
  try have c12b2 : (9223372036854775807 < 1 + t294.size) = False := eq_false (Nat.not_lt.2 c12)
  by_cases c13 : (ji8) < (l3.length : Int)
  case neg =>
   rw [if_neg c13] at H
   exact absurd H (by simp)
  rw [if_pos c13] at H
  have c13b0 : decide ((ji8) < (l3.length : Int)) = true := decide_eq_true c13
  clear c13
  by_cases c14 : ((⟨#[1]⟩ : ByteArray) ++ t294).size + (rdOf ByteArray.empty l3 (ji8)).size ≤ 9223372036854775807
  case neg =>
   rw [if_neg c14] at H
   exact absurd H (by simp)
  rw [if_pos c14] at H
  have c14b0 := eq_true c14
  have c14b1 : decide (((⟨#[1]⟩ : ByteArray) ++ t294).size + (rdOf ByteArray.empty l3 (ji8)).size ≤ 9223372036854775807) = true := decide_eq_true c14
  try have c14b2 : (9223372036854775807 < ((⟨#[1]⟩ : ByteArray) ++ t294).size + (rdOf ByteArray.empty l3 (ji8)).size) = False := eq_false (Nat.not_lt.2 c14)
  try (have c14b3 := c14b2; simp only [ByteArray.size_append, show ((⟨#[0]⟩ : ByteArray)).size = 1 from rfl, show ((⟨#[1]⟩ : ByteArray)).size = 1 from rfl, show ((⟨#[2]⟩ : ByteArray)).size = 1 from rfl] at c14b3)
  replace H := Option.bind_eq_some_iff.mp H
  obtain ⟨t296, A150, H⟩ := H
  replace H : (some t296) = some r := H
  have A15 := Aside0.mk A150
  clear A150
  obtain rfl := Option.some.inj H
  go_enter Tryd.func50, Tryd.ntmps50
  try go_wp2_with (first | ((with_reducible refine gate_callee (f := 46) rfl ?_); refine goesL_ (some 15) rfl rfl Tryd.func46 (by kernel_rfl) rfl #[.int .i64 a1] rfl m10_ ?_; (with_reducible refine (strongroomref20_cut.calls k a1 t292 _ A6.out).mono ?_); rintro e w' ⟨rfl, ⟨nd, rfl⟩⟩; refine ⟨_, rfl, ?_⟩))
  replace HB := Aside0.mk (below_drew1 HB.out)
  obtain ⟨i017, hi017, _, hsz17, _⟩ := info_parts info9
  obtain ⟨hcut17, hA17, hC17⟩ := print_take_of (P := Tryd.prog) Value.string (⟨#[]⟩ : ByteArray) 32 9 .i64 Tryd.underlying32 hi017 hsz17 A3 c3 l3 (ji8) (of_decide_eq_true m22_) (of_decide_eq_true m22_) HC3.out
  have HR293 := Aside0.mk (Kd.C_of_reads (h1 := fun _ => rfl) (hA17 _ (Kd.reads_of_C HR3.out)))
  have HC293 := Aside0.mk hC17
  clear hA17 hC17 hi017 hsz17
  have p295 : 0 ≤ ((ji8) : Int) := of_decide_eq_true m22_
  have q295 : (ji8) < (l3.length : Int) := of_decide_eq_true m22_
  obtain ⟨ad295, e295, hx295_0⟩ := Kd.at_string HR3.out (ji8) p295 q295
  have hw295_0 := hx295_0
  cases e295
  replace hx295_0 := (HB.out.cell (World.block_lt_of_cell? w _ hx295_0)).trans hx295_0
  replace p295 := eq_true p295
  replace q295 := eq_true q295
  refine start_ (n := 15) (S := fun w' => w'.cell? (ad295.add ((ji8)).toNat) = some (.string (rdOf ByteArray.empty l3 (ji8)))) (ds := []) (Ra_ [0, 15]) (by kernel_rfl) rfl rfl (((HB.out.cell (World.block_lt_of_cell? w _ hw295_0)).trans hw295_0)) (fun hHeld => ?_); refine with_tabW strongroomref20_up.tab5 strongroomref20_up.bits5 (fun HT_ HW_ => ?_)
  generalize w.drew = w16 at HB HR293 hx295_0 hHeld ⊢
  refine pI_ 0 (some 22) (Ra_ [1, 14]) (h := ?_)
  refine pI_ 1 (some 23) (Ra_ [2, 13]) (h := ?_)
  refine pI_ 2 (some 24) (Ra_ [3, 12]) (h := ?_)
  refine pI_ 3 (some 25) (Ra_ [4, 11]) (h := ?_)
  refine pI_ 4 (some 26) (Ra_ [5, 10]) (h := ?_)
  refine pI_ 5 (some 27) (Ra_ [6, 9]) (h := ?_)
  refine pI_ 8 (some 30) (Ra_ [6, 2, 1, 6]) (h := ?_)
  refine pI_ 9 (some 31) (Ra_ [6, 2, 2, 5]) (h := ?_)
  refine pI_ 10 (some 32) (Ra_ [6, 2, 3, 4]) (h := ?_)
  refine take_ (i := 11) (N := some 33) (v := ?_) (a' := ?_) (Ra_ [6, 2, 4, 3]) rfl rfl (take_ofW HT_.out HW_.out (by kernel_rfl)) (fun _ _ _ h => h) (Or.inl ⟨by rfl, ?_⟩) hHeld ?_ ?_
  rotate_left
  ·intro w' s0
   go_simp
   with_reducible rfl
  rotate_left
  ·simp only [Act.put, sA_, sB_, sC_, i64_w, i32_w]
   rfl
  refine one_ (i := 6) (N := some 28) (Ra_ [7, 1, 4, 3]) rfl rfl (one_of HT_.out (by kernel_rfl)) (by decide) (fun K hK => ?_)
  refine goes_ Tryd.func50 (by kernel_rfl) rfl #[.string a0, .int .i64 t292, .int .i64 a2, .slice (some ad295) (l3.take ((ji8) : Int).toNat).length c3] (by rfl) rfl rfl (by (try simp only [List.map_toArray, List.map_cons, List.map_nil]); first | done | (rw [show (l3.take ((ji8) : Int).toNat).length = (ji8).toNat from (by rw [List.length_take]; have h_ : ((ji8) : Int) ≤ (l3.length : Int) := of_decide_eq_true m22_; omega)] <;> rfl) | (simp only [hji8]; rfl) | rfl | (simp only [List.length_drop, List.length_take]; rfl)) ?_
  with_reducible refine (ih k (by omega) a0 t292 a2 _ _ (l3.take ((ji8) : Int).toNat) t294 _ ?side1 ?side2 A11.out).mono ?_
  (case side1 => repeat (first | exact (Kd.C_below HR293.out HB.out) | exact HR293.out | (with_reducible refine Kd.C_alloc ?_ _) | (with_reducible refine Kd.C_drewN ?_ _) | (with_reducible refine Kd.C_drew ?_)))
  (case side2 => exact HC293.out)
  rintro e w18 ⟨rfl, hb⟩
  refine ⟨_, rfl, ?_⟩
  replace HB := Aside0.mk (below_step m9_ hb)
  (try clear hb)
  (try clear hb2)
  (try clear hk)
  (try clear hi)
  refine hK.out _ _ (((HB.out.cell (World.block_lt_of_cell? w _ hw295_0)).trans hw295_0)) (fun hHeld => ?_)
  clear hK K
  refine norm_ (a' := ?_) ?_ ?_
  rotate_left
  ·show Act.put _ (some 28) _ = _
   simp only [Act.put, sA_, sB_, sC_, i64_w, i32_w]
   rfl
  refine pI_ 7 (some 29) (Ra_ [12, 3]) (h := ?_)
  refine pI_ 12 (some 34) (Ra_ [13, 2]) (h := ?_)
  refine one_ (i := 13) (N := some 35) (Ra_ [14, 1]) rfl rfl (one_of HT_.out (by kernel_rfl)) (by decide) (fun K hK => ?_)
  refine goes_ Tryd.func44 (by kernel_rfl) rfl #[.string (((⟨#[1]⟩ : ByteArray) ++ t294) ++ (rdOf ByteArray.empty l3 (ji8)))] (by rfl) rfl rfl (by (try simp only [List.map_toArray, List.map_cons, List.map_nil]); first | done | (simp only [hji8]; rfl) | rfl | (simp only [List.length_drop, List.length_take]; rfl)) ?_
  with_reducible refine (strongroomref02_Sum.calls (((⟨#[1]⟩ : ByteArray) ++ t294) ++ (rdOf ByteArray.empty l3 (ji8))) t296 _ A15.out).mono ?_
  rintro e w19 ⟨rfl, hb⟩
  refine ⟨_, rfl, ?_⟩
  replace HB := Aside0.mk (below_step m9_ hb)
  (try clear hb)
  (try clear hb2)
  (try clear hk)
  (try clear hi)
  refine hK.out _ _ (((HB.out.cell (World.block_lt_of_cell? w _ hw295_0)).trans hw295_0)) (fun hHeld => ?_)
  clear hK K
  refine norm_ (a' := ?_) ?_ ?_
  rotate_left
  ·show Act.put _ (some 35) _ = _
   simp only [Act.put, sA_, sB_, sC_, i64_w, i32_w]
   rfl
  refine pI_ 14 (some 8) (Ra_ [15]) (h := ?_)
  refine done_ (done_of HT_.out (by kernel_rfl)) ?_
  try go_wp2
  go_ret
  exact ⟨by first | rfl | (simp [errW_none, errW_some] <;> rfl) | (simp only [← hji8]; first | rfl | (simp [errW_none, errW_some] <;> rfl)) | (simp [*, errW_none, errW_some] <;> rfl), m41_⟩
 rw [if_neg c7] at H
 have c7b0 : decide (a2 < t292) = false := decide_eq_false c7
 clear c7
 obtain ⟨ji20, hji20⟩ : ∃ j_ : Int, (wrap64 ((l3.length : Int) - 1)) = j_ := ⟨_, rfl⟩
 replace H : (if 0 ≤ (ji20) then (if (ji20) < (l3.length : Int) then (if 1 + (rdOf ByteArray.empty l3 (ji20)).size ≤ 9223372036854775807 then (if (ji20) ≤ (l3.length : Int) then ((strongroomref20_up.f k a0 (wrap64 (a1 - t292)) (wrap64 (a2 - t292)) (l3.take ((ji20) : Int).toNat)).bind fun t299 => (if ((⟨#[1]⟩ : ByteArray) ++ (rdOf ByteArray.empty l3 (ji20))).size + t299.size ≤ 9223372036854775807 then ((strongroomref02_Sum.f (((⟨#[1]⟩ : ByteArray) ++ (rdOf ByteArray.empty l3 (ji20))) ++ t299)).bind fun t300 => (some t300)) else (none))) else (none)) else (none)) else (none)) else (none)) = some r := by first | (rw [hji20] at H; exact H) | (simp only [hji20] at H ⊢; exact H)
 (try rw [hji20] at A6)
 have hji20w : (IntKind.i64.wrap ((l3.length : Int) - 1)) = ji20 := (i64_w _).trans hji20
 by_cases c21 : 0 ≤ (ji20)
 case neg =>
  rw [if_neg c21] at H
  exact absurd H (by simp)
 rw [if_pos c21] at H
 have c21b0 : decide (0 ≤ (ji20)) = true := decide_eq_true c21
 clear c21
 by_cases c22 : (ji20) < (l3.length : Int)
 case neg =>
  rw [if_neg c22] at H
  exact absurd H (by simp)
 rw [if_pos c22] at H
 have c22b0 : decide ((ji20) < (l3.length : Int)) = true := decide_eq_true c22
 clear c22
 by_cases c23 : 1 + (rdOf ByteArray.empty l3 (ji20)).size ≤ 9223372036854775807
 case neg =>
  rw [if_neg c23] at H
  exact absurd H (by simp)
 rw [if_pos c23] at H
 have c23b0 := eq_true c23
 have c23b1 : decide (1 + (rdOf ByteArray.empty l3 (ji20)).size ≤ 9223372036854775807) = true := decide_eq_true c23
 try have c23b2 : (9223372036854775807 < 1 + (rdOf ByteArray.empty l3 (ji20)).size) = False := eq_false (Nat.not_lt.2 c23)
 have c24b0 := eq_true (of_decide_eq_true m22_ : 0 ≤ (ji20))
 by_cases c25 : (ji20) ≤ (l3.length : Int)
 case neg =>
  rw [if_neg c25] at H
  exact absurd H (by simp)
 rw [if_pos c25] at H
 have c25b0 := eq_true c25
 have c25b1 : decide ((ji20) ≤ (l3.length : Int)) = true := decide_eq_true c25
 clear c25
 replace H := Option.bind_eq_some_iff.mp H
 obtain ⟨t299, A260, H⟩ := H
 replace H : (if ((⟨#[1]⟩ : ByteArray) ++ (rdOf ByteArray.empty l3 (ji20))).size + t299.size ≤ 9223372036854775807 then ((strongroomref02_Sum.f (((⟨#[1]⟩ : ByteArray) ++ (rdOf ByteArray.empty l3 (ji20))) ++ t299)).bind fun t300 => (some t300)) else (none)) = some r := H
 have A26 := Aside0.mk A260
 clear A260
 by_cases c27 : ((⟨#[1]⟩ : ByteArray) ++ (rdOf ByteArray.empty l3 (ji20))).size + t299.size ≤ 9223372036854775807
 case neg =>
  rw [if_neg c27] at H
  exact absurd H (by simp)
 rw [if_pos c27] at H
 have c27b0 := eq_true c27
 have c27b1 : decide (((⟨#[1]⟩ : ByteArray) ++ (rdOf ByteArray.empty l3 (ji20))).size + t299.size ≤ 9223372036854775807) = true := decide_eq_true c27
 try have c27b2 : (9223372036854775807 < ((⟨#[1]⟩ : ByteArray) ++ (rdOf ByteArray.empty l3 (ji20))).size + t299.size) = False := eq_false (Nat.not_lt.2 c27)
 try (have c27b3 := c27b2; simp only [ByteArray.size_append, show ((⟨#[0]⟩ : ByteArray)).size = 1 from rfl, show ((⟨#[1]⟩ : ByteArray)).size = 1 from rfl, show ((⟨#[2]⟩ : ByteArray)).size = 1 from rfl] at c27b3)
 replace H := Option.bind_eq_some_iff.mp H
 obtain ⟨t300, A280, H⟩ := H
 replace H : (some t300) = some r := H
 have A28 := Aside0.mk A280
 clear A280
 obtain rfl := Option.some.inj H
 go_enter Tryd.func50, Tryd.ntmps50
 try go_wp2_with (first | ((with_reducible refine gate_callee (f := 46) rfl ?_); refine goesL_ (some 15) rfl rfl Tryd.func46 (by kernel_rfl) rfl #[.int .i64 a1] rfl m10_ ?_; (with_reducible refine (strongroomref20_cut.calls k a1 t292 _ A6.out).mono ?_); rintro e w' ⟨rfl, ⟨nd, rfl⟩⟩; refine ⟨_, rfl, ?_⟩))
 replace HB := Aside0.mk (below_drew1 HB.out)
 have p297 : 0 ≤ ((ji20) : Int) := of_decide_eq_true m22_
 have q297 : (ji20) < (l3.length : Int) := of_decide_eq_true m22_
 obtain ⟨ad297, e297, hx297_0⟩ := Kd.at_string HR3.out (ji20) p297 q297
 have hw297_0 := hx297_0
 cases e297
 replace hx297_0 := (HB.out.cell (World.block_lt_of_cell? w _ hx297_0)).trans hx297_0
 replace p297 := eq_true p297
 replace q297 := eq_true q297
 obtain ⟨i030, hi030, _, hsz30, _⟩ := info_parts info9
 obtain ⟨hcut30, hA30, hC30⟩ := print_take_of (P := Tryd.prog) Value.string (⟨#[]⟩ : ByteArray) 32 9 .i64 Tryd.underlying32 hi030 hsz30 (some ad297) c3 l3 (ji20) (of_decide_eq_true m22_) (of_decide_eq_true m22_) HC3.out
 have HR298 := Aside0.mk (Kd.C_of_reads (h1 := fun _ => rfl) (hA30 _ (Kd.reads_of_C HR3.out)))
 have HC298 := Aside0.mk hC30
 clear hA30 hC30 hi030 hsz30
 refine start_ (n := 19) (S := fun w' => w'.cell? (ad297.add ((ji20)).toNat) = some (.string (rdOf ByteArray.empty l3 (ji20)))) (ds := []) (Ra_ [0, 19]) (by kernel_rfl) rfl rfl (((HB.out.cell (World.block_lt_of_cell? w _ hw297_0)).trans hw297_0)) (fun hHeld => ?_); refine with_tabW strongroomref20_up.tab6 strongroomref20_up.bits6 (fun HT_ HW_ => ?_)
 generalize w.drew = w29 at HB HR298 hx297_0 hHeld ⊢
 refine pI_ 0 (some 36) (Ra_ [1, 18]) (h := ?_)
 refine pI_ 1 (some 37) (Ra_ [2, 17]) (h := ?_)
 refine pI_ 2 (some 38) (Ra_ [3, 16]) (h := ?_)
 refine pI_ 5 (some 41) (Ra_ [3, 2, 1, 13]) (h := ?_)
 refine pI_ 6 (some 42) (Ra_ [3, 2, 2, 12]) (h := ?_)
 refine pI_ 7 (some 43) (Ra_ [3, 2, 3, 11]) (h := ?_)
 refine pI_ 8 (some 44) (Ra_ [3, 2, 4, 10]) (h := ?_)
 refine pI_ 9 (some 45) (Ra_ [3, 2, 5, 9]) (h := ?_)
 refine pI_ 10 (some 46) (Ra_ [3, 2, 6, 8]) (h := ?_)
 refine pI_ 11 (some 47) (Ra_ [3, 2, 7, 7]) (h := ?_)
 refine pI_ 12 (some 48) (Ra_ [3, 2, 8, 6]) (h := ?_)
 refine pI_ 13 (some 49) (Ra_ [3, 2, 9, 5]) (h := ?_)
 refine pI_ 14 (some 50) (Ra_ [3, 2, 10, 4]) (h := ?_)
 refine take_ (i := 3) (N := some 39) (v := ?_) (a' := ?_) (Ra_ [4, 1, 10, 4]) rfl rfl (take_ofW HT_.out HW_.out (by kernel_rfl)) (fun _ _ _ h => h) (Or.inl ⟨by rfl, ?_⟩) hHeld ?_ ?_
 rotate_left
 ·intro w' s0
  go_simp
  with_reducible rfl
 rotate_left
 ·simp only [Act.put, sA_, sB_, sC_, i64_w, i32_w]
  rfl
 refine pI_ 4 (some 40) (Ra_ [15, 4]) (h := ?_)
 refine one_ (i := 15) (N := some 51) (Ra_ [16, 3]) rfl rfl (one_of HT_.out (by kernel_rfl)) (by decide) (fun K hK => ?_)
 refine goes_ Tryd.func50 (by kernel_rfl) rfl #[.string a0, .int .i64 (wrap64 (a1 - t292)), .int .i64 (wrap64 (a2 - t292)), .slice (some ad297) (l3.take ((ji20) : Int).toNat).length c3] (by rfl) rfl rfl (by (try simp only [List.map_toArray, List.map_cons, List.map_nil]); first | done | (rw [show (l3.take ((ji20) : Int).toNat).length = (ji20).toNat from (by rw [List.length_take]; have h_ : ((ji20) : Int) ≤ (l3.length : Int) := of_decide_eq_true m22_; omega)] <;> rfl) | (simp only [hji20]; rfl) | rfl | (simp only [List.length_drop, List.length_take]; rfl)) ?_
 with_reducible refine (ih k (by omega) a0 (wrap64 (a1 - t292)) (wrap64 (a2 - t292)) _ _ (l3.take ((ji20) : Int).toNat) t299 _ ?side1 ?side2 A26.out).mono ?_
 (case side1 => repeat (first | exact (Kd.C_below HR298.out HB.out) | exact HR298.out | (with_reducible refine Kd.C_alloc ?_ _) | (with_reducible refine Kd.C_drewN ?_ _) | (with_reducible refine Kd.C_drew ?_)))
 (case side2 => exact HC298.out)
 rintro e w31 ⟨rfl, hb⟩
 refine ⟨_, rfl, ?_⟩
 replace HB := Aside0.mk (below_step m9_ hb)
 (try clear hb)
 (try clear hb2)
 (try clear hk)
 (try clear hi)
 refine hK.out _ _ (((HB.out.cell (World.block_lt_of_cell? w _ hw297_0)).trans hw297_0)) (fun hHeld => ?_)
 clear hK K
 refine norm_ (a' := ?_) ?_ ?_
 rotate_left
 ·show Act.put _ (some 51) _ = _
  simp only [Act.put, sA_, sB_, sC_, i64_w, i32_w]
  rfl
 refine pI_ 16 (some 52) (Ra_ [17, 2]) (h := ?_)
 refine one_ (i := 17) (N := some 53) (Ra_ [18, 1]) rfl rfl (one_of HT_.out (by kernel_rfl)) (by decide) (fun K hK => ?_)
 refine goes_ Tryd.func44 (by kernel_rfl) rfl #[.string (((⟨#[1]⟩ : ByteArray) ++ (rdOf ByteArray.empty l3 (ji20))) ++ t299)] (by rfl) rfl rfl (by (try simp only [List.map_toArray, List.map_cons, List.map_nil]); first | done | (simp only [hji20]; rfl) | rfl | (simp only [List.length_drop, List.length_take]; rfl)) ?_
 with_reducible refine (strongroomref02_Sum.calls (((⟨#[1]⟩ : ByteArray) ++ (rdOf ByteArray.empty l3 (ji20))) ++ t299) t300 _ A28.out).mono ?_
 rintro e w32 ⟨rfl, hb⟩
 refine ⟨_, rfl, ?_⟩
 replace HB := Aside0.mk (below_step m9_ hb)
 (try clear hb)
 (try clear hb2)
 (try clear hk)
 (try clear hi)
 refine hK.out _ _ (((HB.out.cell (World.block_lt_of_cell? w _ hw297_0)).trans hw297_0)) (fun hHeld => ?_)
 clear hK K
 refine norm_ (a' := ?_) ?_ ?_
 rotate_left
 ·show Act.put _ (some 53) _ = _
  simp only [Act.put, sA_, sB_, sC_, i64_w, i32_w]
  rfl
 refine pI_ 18 (some 8) (Ra_ [19]) (h := ?_)
 refine done_ (done_of HT_.out (by kernel_rfl)) ?_
 try go_wp2
 go_ret
 exact ⟨by first | rfl | (simp [errW_none, errW_some] <;> rfl) | (simp only [← hji20]; first | rfl | (simp [errW_none, errW_some] <;> rfl)) | (simp [*, errW_none, errW_some] <;> rfl), m41_⟩

end Go.Proofs.YtdeggemomajhcaaDoorH.HMerkleAbsent
namespace Go.Proofs.YtdeggemomajhcaaDoorH.HMerkleAbsent
open Go.RowKit Go.Proofs.YtdeggemomajhcaaDoorW.PrintWords Go.Proofs.YtdeggemomajhcaaDoorW.PrintLast Go.Proofs.YtdeggemomajhcaaDoorW.PrintMore
attribute [local go_sem] max2_int min2_int max_two min_two max_three min_three max_four min_four   -- for this text's walks alone
set_option linter.unusedVariables false
set_option linter.unusedSimpArgs false

/-! ### strongroomref20_Verify: function 24 -/
mutual
def strongroomref20_Verify.j0 : Nat → ByteArray → Int → Int → List ByteArray → Bool → ByteArray → ByteArray → Option (Bool)
 | 0, _, _, _, _, _, _, _ => none
 | k + 1, x0, x1, x2, x4, x39, x302000, x302001 => if x39 = true then (some false) else (strongroomref20_Verify.l0 k x0 x1 x2 x4 0 x302000 x302001)
def strongroomref20_Verify.l0 : Nat → ByteArray → Int → Int → List ByteArray → Int → ByteArray → ByteArray → Option (Bool)
 | 0, _, _, _, _, _, _, _ => none
 | k + 1, x0, x1, x2, x4, x11, x302000, x302001 => if x11 < (x4.length : Int) then (if 0 ≤ x11 then (if ((rdOf ByteArray.empty x4 x11).size : Int) = 32 then (strongroomref20_Verify.l0 k x0 x1 x2 x4 (wrap64 (x11 + 1)) x302000 x302001) else (some false)) else (none)) else ((strongroomref20_one.f k x302000 x302001).bind fun t305 => ((strongroomref20_up.f k t305 x1 x2 x4).bind fun t306 => (some (t306.toList == x0.toList))))
end
def strongroomref20_Verify.f (k : Nat) (a0 : ByteArray) (a1 : Int) (a2 : Int) (a3_0 : ByteArray) (a3_1 : ByteArray) (l4 : List ByteArray) : Option (Bool) := (strongroomref20_Good.f k a3_0 a3_1).bind fun t302 => (if t302 = true then (if a1 < 1 then (strongroomref20_Verify.j0 k a0 a1 a2 l4 true a3_0 a3_1) else (if a1 > 1024 then (strongroomref20_Verify.j0 k a0 a1 a2 l4 true a3_0 a3_1) else (if a2 < 0 then (strongroomref20_Verify.j0 k a0 a1 a2 l4 true a3_0 a3_1) else (if a2 ≥ a1 then (strongroomref20_Verify.j0 k a0 a1 a2 l4 true a3_0 a3_1) else ((strongroomref20_Length.f k a1 a2).bind fun t303 => (strongroomref20_Verify.j0 k a0 a1 a2 l4 ((l4.length : Int) != t303) a3_0 a3_1)))))) else (strongroomref20_Verify.j0 k a0 a1 a2 l4 true a3_0 a3_1))
theorem strongroomref20_Verify.mono_l : ∀ k, (∀ y0 y1 y2 y3 y4 y5 y6, LeO (strongroomref20_Verify.j0 k y0 y1 y2 y3 y4 y5 y6) (strongroomref20_Verify.j0 (k + 1) y0 y1 y2 y3 y4 y5 y6)) ∧ (∀ y0 y1 y2 y3 y4 y5 y6, LeO (strongroomref20_Verify.l0 k y0 y1 y2 y3 y4 y5 y6) (strongroomref20_Verify.l0 (k + 1) y0 y1 y2 y3 y4 y5 y6))
 | 0 => ⟨fun _ _ _ _ _ _ _ r h => by simp [strongroomref20_Verify.j0] at h, fun _ _ _ _ _ _ _ r h => by simp [strongroomref20_Verify.l0] at h⟩
 | k + 1 => by
  obtain ⟨ih0, ih1⟩ := strongroomref20_Verify.mono_l k
  refine ⟨?_, ?_⟩
  ·intro y0 y1 y2 y3 y4 y5 y6
   unfold strongroomref20_Verify.j0
   repeat' first
   | (with_reducible exact ih0 _ _ _ _ _ _ _)
   | (with_reducible exact ih1 _ _ _ _ _ _ _)
   | (with_reducible exact strongroomref20_Good.mono _ _ _)
   | (with_reducible exact strongroomref20_Length.mono _ _ _)
   | (with_reducible exact strongroomref20_one.mono _ _ _)
   | (with_reducible exact strongroomref20_up.mono _ _ _ _ _)
   | (with_reducible exact LeO.refl _)
   | (with_reducible exact LeO.none _)
   | (with_reducible refine LeO.ite ?_ ?_)
   | (with_reducible refine LeO.bind ?_ (fun _ => ?_))
   | exact ih0 _ _ _ _ _ _ _
   | exact ih1 _ _ _ _ _ _ _
   | exact strongroomref20_Good.mono _ _ _
   | exact strongroomref20_Length.mono _ _ _
   | exact strongroomref20_one.mono _ _ _
   | exact strongroomref20_up.mono _ _ _ _ _
   | exact LeO.none _
   | refine LeO.ite ?_ ?_
   | refine LeO.bind ?_ (fun _ => ?_)
  ·intro y0 y1 y2 y3 y4 y5 y6
   unfold strongroomref20_Verify.l0
   repeat' first
   | (with_reducible exact ih0 _ _ _ _ _ _ _)
   | (with_reducible exact ih1 _ _ _ _ _ _ _)
   | (with_reducible exact strongroomref20_Good.mono _ _ _)
   | (with_reducible exact strongroomref20_Length.mono _ _ _)
   | (with_reducible exact strongroomref20_one.mono _ _ _)
   | (with_reducible exact strongroomref20_up.mono _ _ _ _ _)
   | (with_reducible exact LeO.refl _)
   | (with_reducible exact LeO.none _)
   | (with_reducible refine LeO.ite ?_ ?_)
   | (with_reducible refine LeO.bind ?_ (fun _ => ?_))
   | exact ih0 _ _ _ _ _ _ _
   | exact ih1 _ _ _ _ _ _ _
   | exact strongroomref20_Good.mono _ _ _
   | exact strongroomref20_Length.mono _ _ _
   | exact strongroomref20_one.mono _ _ _
   | exact strongroomref20_up.mono _ _ _ _ _
   | exact LeO.none _
   | refine LeO.ite ?_ ?_
   | refine LeO.bind ?_ (fun _ => ?_)
theorem strongroomref20_Verify.mono : ∀ a0 a1 a2 a3 a4 a5 k, LeO (strongroomref20_Verify.f k a0 a1 a2 a3 a4 a5) (strongroomref20_Verify.f (k + 1) a0 a1 a2 a3 a4 a5) := by
 intro a0 a1 a2 a3 a4 a5 k
 obtain ⟨ih0, ih1⟩ := strongroomref20_Verify.mono_l k
 unfold strongroomref20_Verify.f
 repeat' first
   | (with_reducible exact ih0 _ _ _ _ _ _ _)
   | (with_reducible exact ih1 _ _ _ _ _ _ _)
   | (with_reducible exact strongroomref20_Good.mono _ _ _)
   | (with_reducible exact strongroomref20_Length.mono _ _ _)
   | (with_reducible exact strongroomref20_one.mono _ _ _)
   | (with_reducible exact strongroomref20_up.mono _ _ _ _ _)
   | (with_reducible exact LeO.refl _)
   | (with_reducible exact LeO.none _)
   | (with_reducible refine LeO.ite ?_ ?_)
   | (with_reducible refine LeO.bind ?_ (fun _ => ?_))
   | exact ih0 _ _ _ _ _ _ _
   | exact ih1 _ _ _ _ _ _ _
   | exact strongroomref20_Good.mono _ _ _
   | exact strongroomref20_Length.mono _ _ _
   | exact strongroomref20_one.mono _ _ _
   | exact strongroomref20_up.mono _ _ _ _ _
   | exact LeO.none _
   | refine LeO.ite ?_ ?_
   | refine LeO.bind ?_ (fun _ => ?_)
set_option maxHeartbeats 8000000 in
set_option maxRecDepth 100000 in
theorem strongroomref20_Verify.calls (k : Nat) (a0 : ByteArray) (a1 : Int) (a2 : Int) (a3_0 : ByteArray) (a3_1 : ByteArray) (A4 : Option Addr) (c4 : Nat) (l4 : List ByteArray) (r : Bool) (w : World) (hr4 : Kd.C Kd.string w A4 l4.length l4) (hc4 : l4.length ≤ c4) (h : strongroomref20_Verify.f k a0 a1 a2 a3_0 a3_1 l4 = some r) :
  Calls Tryd.prog 24 #[.string a0, .int .i64 a1, .int .i64 a2, .agg #[.string a3_0, .string a3_1], .slice A4 l4.length c4] w fun e w' => e = .returned (.bool r) ∧ Below w.heap.size w w' := by
 have hu39 := Tryd.underlying39
 have HR4 := Aside0.mk hr4
 have HC4 := Aside0.mk hc4
 clear hr4 hc4
 have HB := Aside0.mk (Below.refl w.heap.size w)
 have H : ((strongroomref20_Good.f k a3_0 a3_1).bind fun t302 => (if t302 = true then (if a1 < 1 then (strongroomref20_Verify.j0 k a0 a1 a2 l4 true a3_0 a3_1) else (if a1 > 1024 then (strongroomref20_Verify.j0 k a0 a1 a2 l4 true a3_0 a3_1) else (if a2 < 0 then (strongroomref20_Verify.j0 k a0 a1 a2 l4 true a3_0 a3_1) else (if a2 ≥ a1 then (strongroomref20_Verify.j0 k a0 a1 a2 l4 true a3_0 a3_1) else ((strongroomref20_Length.f k a1 a2).bind fun t303 => (strongroomref20_Verify.j0 k a0 a1 a2 l4 ((l4.length : Int) != t303) a3_0 a3_1)))))) else (strongroomref20_Verify.j0 k a0 a1 a2 l4 true a3_0 a3_1))) = some r := h
 clear h
 have HC6 := Aside0.mk H
 clear H
 go_enter Tryd.func24, Tryd.ntmps24
 go_upto_region 1 with (first | ((with_reducible refine gate_dst (N := 8) rfl ?_); (try (refine gate_guard (by rfl) ?_; dsimp only)); refine box_event ?hg (N := 8) ?hd (cs := #[.string a3_0, .string a3_1]) (t := 39) ?hr ?_; (case hd => rfl); (case hg => rfl); (case hr => first | (go_simp; done) | (go_simp; rfl)); intro gb301 hg w7 hbox hb; have n0_ := Aside0.mk (below_step m11_ hb); have n1_ := Aside0.mk (hbox); have n2_ := Aside0.mk ((by rw [hg]; exact (below_size m11_) : w.heap.size ≤ gb301)); have n3_ := Aside0.mk ((by rw [hg]; exact (below_size m11_) : w.heap.size ≤ gb301)); clear HB; have HB := n0_; have BK301 := n1_; have GW301 := n2_; have GE301 := n3_; clear n0_ n1_ n2_ n3_; clear hb hbox hg))
 (try simp only [Act.put, List.setIfInBounds_toArray, List.set_cons_zero, List.set_cons_succ])
 go_cut [39] (fun v39 wc => ∃ (kq : Nat) (x39_5 : Bool), v39 = .bool x39_5 ∧ Aside0 (strongroomref20_Verify.j0 kq a0 a1 a2 l4 x39_5 a3_0 a3_1 = some r) ∧ Aside0 (kq ≤ k) ∧ Aside0 (wc.heap[gb301]? = some (.cells #[.string a3_0, .string a3_1] 39 (0, 0))) ∧ Aside0 (Below w.heap.size w wc))
 case first =>
  have H := HC6.out
  clear HC6
  replace H := Option.bind_eq_some_iff.mp H
  obtain ⟨t302, A80, H⟩ := H
  replace H : (if t302 = true then (if a1 < 1 then (strongroomref20_Verify.j0 k a0 a1 a2 l4 true a3_0 a3_1) else (if a1 > 1024 then (strongroomref20_Verify.j0 k a0 a1 a2 l4 true a3_0 a3_1) else (if a2 < 0 then (strongroomref20_Verify.j0 k a0 a1 a2 l4 true a3_0 a3_1) else (if a2 ≥ a1 then (strongroomref20_Verify.j0 k a0 a1 a2 l4 true a3_0 a3_1) else ((strongroomref20_Length.f k a1 a2).bind fun t303 => (strongroomref20_Verify.j0 k a0 a1 a2 l4 ((l4.length : Int) != t303) a3_0 a3_1)))))) else (strongroomref20_Verify.j0 k a0 a1 a2 l4 true a3_0 a3_1)) = some r := H
  have A8 := Aside0.mk A80
  clear A80
  by_cases c9 : t302 = true
  case neg =>
   replace c9 := Bool.eq_false_iff.mpr c9
   subst c9
   have H1 : (strongroomref20_Verify.j0 k a0 a1 a2 l4 true a3_0 a3_1) = some r := by rw [if_neg (show ¬ (false = true) by decide)] at H; exact H
   clear H
   have H := H1
   clear H1
   have H' := Aside0.mk H
   clear H
   obtain ⟨hcz25_0, hcz25_1⟩ := bc2_ BK301.out
   obtain ⟨hfz25_0, hfz25_1⟩ := bf2_ BK301.out
   go_wp2_with (first | ((with_reducible refine gate_callee (f := 26) rfl ?_); refine goesL_ (some 13) rfl rfl Tryd.func26 (by kernel_rfl) rfl #[.agg #[.string a3_0, .string a3_1]] rfl m10_ ?_; (with_reducible refine (strongroomref20_Good.calls k a3_0 a3_1 false _ A8.out).mono ?_); rintro e w26 ⟨rfl, hb⟩; refine ⟨_, rfl, ?_⟩; replace BK301 := Aside0.mk (blk_below (g := gb301) (o := .cells #[.string a3_0, .string a3_1] 39 (0, 0)) m17_ hb); replace HB := Aside0.mk (below_step m7_ hb); (try clear hb); (try clear hb2); (try clear hk); (try clear hi)))
   go_meet
   case rel => exact ⟨_, (true), m23_, H', ⟨by first | omega | exact Nat.le_refl _⟩, ⟨by (with_reducible repeat (first | refine blk_drewN ?_ _ | refine blk_drew ?_ | refine blk_alloc ?_ _)); exact BK301.out⟩, ⟨m37_⟩⟩
  subst c9
  have H1 : (if a1 < 1 then (strongroomref20_Verify.j0 k a0 a1 a2 l4 true a3_0 a3_1) else (if a1 > 1024 then (strongroomref20_Verify.j0 k a0 a1 a2 l4 true a3_0 a3_1) else (if a2 < 0 then (strongroomref20_Verify.j0 k a0 a1 a2 l4 true a3_0 a3_1) else (if a2 ≥ a1 then (strongroomref20_Verify.j0 k a0 a1 a2 l4 true a3_0 a3_1) else ((strongroomref20_Length.f k a1 a2).bind fun t303 => (strongroomref20_Verify.j0 k a0 a1 a2 l4 ((l4.length : Int) != t303) a3_0 a3_1)))))) = some r := by rw [if_pos rfl] at H; exact H
  clear H
  have H := H1
  clear H1
  by_cases c10 : a1 < 1
  ·rw [if_pos c10] at H
   have c10b0 : decide (a1 < 1) = true := decide_eq_true c10
   clear c10
   (first | rw [c10b0] | (simp only [i64_w, i32_w]; rw [c10b0]) | skip)
   have H' := Aside0.mk H
   clear H
   obtain ⟨hcz11_0, hcz11_1⟩ := bc2_ BK301.out
   obtain ⟨hfz11_0, hfz11_1⟩ := bf2_ BK301.out
   go_wp2_with (first | ((with_reducible refine gate_callee (f := 26) rfl ?_); refine goesL_ (some 13) rfl rfl Tryd.func26 (by kernel_rfl) rfl #[.agg #[.string a3_0, .string a3_1]] rfl m10_ ?_; (with_reducible refine (strongroomref20_Good.calls k a3_0 a3_1 true _ A8.out).mono ?_); rintro e w12 ⟨rfl, hb⟩; refine ⟨_, rfl, ?_⟩; replace BK301 := Aside0.mk (blk_below (g := gb301) (o := .cells #[.string a3_0, .string a3_1] 39 (0, 0)) m17_ hb); replace HB := Aside0.mk (below_step m7_ hb); (try clear hb); (try clear hb2); (try clear hk); (try clear hi)))
   go_meet
   case rel => exact ⟨_, (true), m23_, H', ⟨by first | omega | exact Nat.le_refl _⟩, ⟨by (with_reducible repeat (first | refine blk_drewN ?_ _ | refine blk_drew ?_ | refine blk_alloc ?_ _)); exact BK301.out⟩, ⟨m37_⟩⟩
  rw [if_neg c10] at H
  have c10b0 : decide (a1 < 1) = false := decide_eq_false c10
  clear c10
  (first | rw [c10b0] | (simp only [i64_w, i32_w]; rw [c10b0]) | skip)
  by_cases c13 : a1 > 1024
  ·rw [if_pos c13] at H
   have c13b0 : decide (1024 < a1) = true := decide_eq_true c13
   clear c13
   have H' := Aside0.mk H
   clear H
   obtain ⟨hcz14_0, hcz14_1⟩ := bc2_ BK301.out
   obtain ⟨hfz14_0, hfz14_1⟩ := bf2_ BK301.out
   go_wp2_with (first | ((with_reducible refine gate_callee (f := 26) rfl ?_); refine goesL_ (some 13) rfl rfl Tryd.func26 (by kernel_rfl) rfl #[.agg #[.string a3_0, .string a3_1]] rfl m10_ ?_; (with_reducible refine (strongroomref20_Good.calls k a3_0 a3_1 true _ A8.out).mono ?_); rintro e w15 ⟨rfl, hb⟩; refine ⟨_, rfl, ?_⟩; replace BK301 := Aside0.mk (blk_below (g := gb301) (o := .cells #[.string a3_0, .string a3_1] 39 (0, 0)) m17_ hb); replace HB := Aside0.mk (below_step m7_ hb); (try clear hb); (try clear hb2); (try clear hk); (try clear hi)))
   go_meet
   case rel => exact ⟨_, (true), m23_, H', ⟨by first | omega | exact Nat.le_refl _⟩, ⟨by (with_reducible repeat (first | refine blk_drewN ?_ _ | refine blk_drew ?_ | refine blk_alloc ?_ _)); exact BK301.out⟩, ⟨m37_⟩⟩
  rw [if_neg c13] at H
  have c13b0 : decide (1024 < a1) = false := decide_eq_false c13
  clear c13
  by_cases c16 : a2 < 0
  ·rw [if_pos c16] at H
   have c16b0 : decide (a2 < 0) = true := decide_eq_true c16
   clear c16
   have H' := Aside0.mk H
   clear H
   obtain ⟨hcz17_0, hcz17_1⟩ := bc2_ BK301.out
   obtain ⟨hfz17_0, hfz17_1⟩ := bf2_ BK301.out
   go_wp2_with (first | ((with_reducible refine gate_callee (f := 26) rfl ?_); refine goesL_ (some 13) rfl rfl Tryd.func26 (by kernel_rfl) rfl #[.agg #[.string a3_0, .string a3_1]] rfl m10_ ?_; (with_reducible refine (strongroomref20_Good.calls k a3_0 a3_1 true _ A8.out).mono ?_); rintro e w18 ⟨rfl, hb⟩; refine ⟨_, rfl, ?_⟩; replace BK301 := Aside0.mk (blk_below (g := gb301) (o := .cells #[.string a3_0, .string a3_1] 39 (0, 0)) m17_ hb); replace HB := Aside0.mk (below_step m7_ hb); (try clear hb); (try clear hb2); (try clear hk); (try clear hi)))
   go_meet
   case rel => exact ⟨_, (true), m23_, H', ⟨by first | omega | exact Nat.le_refl _⟩, ⟨by (with_reducible repeat (first | refine blk_drewN ?_ _ | refine blk_drew ?_ | refine blk_alloc ?_ _)); exact BK301.out⟩, ⟨m37_⟩⟩
  rw [if_neg c16] at H
  have c16b0 : decide (a2 < 0) = false := decide_eq_false c16
  clear c16
  by_cases c19 : a2 ≥ a1
  ·rw [if_pos c19] at H
   have c19b0 : decide (a1 ≤ a2) = true := decide_eq_true c19
   clear c19
   have H' := Aside0.mk H
   clear H
   obtain ⟨hcz20_0, hcz20_1⟩ := bc2_ BK301.out
   obtain ⟨hfz20_0, hfz20_1⟩ := bf2_ BK301.out
   go_wp2_with (first | ((with_reducible refine gate_callee (f := 26) rfl ?_); refine goesL_ (some 13) rfl rfl Tryd.func26 (by kernel_rfl) rfl #[.agg #[.string a3_0, .string a3_1]] rfl m10_ ?_; (with_reducible refine (strongroomref20_Good.calls k a3_0 a3_1 true _ A8.out).mono ?_); rintro e w21 ⟨rfl, hb⟩; refine ⟨_, rfl, ?_⟩; replace BK301 := Aside0.mk (blk_below (g := gb301) (o := .cells #[.string a3_0, .string a3_1] 39 (0, 0)) m17_ hb); replace HB := Aside0.mk (below_step m7_ hb); (try clear hb); (try clear hb2); (try clear hk); (try clear hi)))
   go_meet
   case rel => exact ⟨_, (true), m23_, H', ⟨by first | omega | exact Nat.le_refl _⟩, ⟨by (with_reducible repeat (first | refine blk_drewN ?_ _ | refine blk_drew ?_ | refine blk_alloc ?_ _)); exact BK301.out⟩, ⟨m37_⟩⟩
  rw [if_neg c19] at H
  have c19b0 : decide (a1 ≤ a2) = false := decide_eq_false c19
  clear c19
  replace H := Option.bind_eq_some_iff.mp H
  obtain ⟨t303, A220, H⟩ := H
  replace H : (strongroomref20_Verify.j0 k a0 a1 a2 l4 ((l4.length : Int) != t303) a3_0 a3_1) = some r := H
  have A22 := Aside0.mk A220
  clear A220
  have H' := Aside0.mk H
  clear H
  obtain ⟨hcz23_0, hcz23_1⟩ := bc2_ BK301.out
  obtain ⟨hfz23_0, hfz23_1⟩ := bf2_ BK301.out
  go_wp2_with (first | ((with_reducible refine gate_callee (f := 26) rfl ?_); refine goesL_ (some 13) rfl rfl Tryd.func26 (by kernel_rfl) rfl #[.agg #[.string a3_0, .string a3_1]] rfl m10_ ?_; (with_reducible refine (strongroomref20_Good.calls k a3_0 a3_1 true _ A8.out).mono ?_); rintro e w24 ⟨rfl, hb⟩; refine ⟨_, rfl, ?_⟩; replace BK301 := Aside0.mk (blk_below (g := gb301) (o := .cells #[.string a3_0, .string a3_1] 39 (0, 0)) m17_ hb); replace HB := Aside0.mk (below_step m7_ hb); (try clear hb); (try clear hb2); (try clear hk); (try clear hi)) | (go_at_call 25; (with_reducible refine (strongroomref20_Length.calls k a1 a2 t303 _ A22.out).mono ?_); rintro e w' ⟨rfl, ⟨nd, rfl⟩⟩))
  go_meet
  case rel => exact ⟨_, (((l4.length : Int) != t303)), m23_, H', ⟨by first | omega | exact Nat.le_refl _⟩, ⟨by (with_reducible repeat (first | refine blk_drewN ?_ _ | refine blk_drew ?_ | refine blk_alloc ?_ _)); exact BK301.out⟩, ⟨m37_⟩⟩
 clear HC6
 try clear c1; try clear c2; try clear p2; try clear c4; try clear c9; try clear c10; try clear c10b0; try clear c13; try clear c13b0; try clear c16; try clear c16b0; try clear c19; try clear c19b0; try clear c24; try clear c26; try clear hcz11_0; try clear hcz11_1; try clear hcz14_0; try clear hcz14_1; try clear hcz17_0; try clear hcz17_1; try clear hcz20_0; try clear hcz20_1; try clear hcz23_0; try clear hcz23_1; try clear hcz25_0; try clear hcz25_1; try clear hfz11_0; try clear hfz11_1; try clear hfz14_0; try clear hfz14_1; try clear hfz17_0; try clear hfz17_1; try clear hfz20_0; try clear hfz20_1; try clear hfz23_0; try clear hfz23_1; try clear hfz25_0; try clear hfz25_1
 obtain ⟨kq, x39_5, rfl, HA, HJ5, BK301, HB⟩ := hcut
 cases kq with
 | zero => exact absurd HA.out (by simp [strongroomref20_Verify.j0])
 | succ kj5 =>
  have H := HA.out
  clear HA
  simp only [strongroomref20_Verify.j0] at H
  by_cases c27 : x39_5 = true
  ·subst c27
   have H1 : (some false) = some r := by rw [if_pos rfl] at H; exact H
   clear H
   have H := H1
   clear H1
   obtain rfl := Option.some.inj H
   go_wp2
   go_ret
   exact ⟨by first | rfl | (simp [errW_none, errW_some] <;> rfl) | (simp [*, errW_none, errW_some] <;> rfl), m37_⟩
  replace c27 := Bool.eq_false_iff.mpr c27
  subst c27
  have H1 : (strongroomref20_Verify.l0 kj5 a0 a1 a2 l4 0 a3_0 a3_1) = some r := by rw [if_neg (show ¬ (false = true) by decide)] at H; exact H
  clear H
  have H := H1
  clear H1
  have H' := Aside0.mk H
  clear H
  go_wp2
  go_loopg [11] kj5 (fun kq v11 w' => ∃ (x11_2 : Int), v11 = .int .i64 x11_2 ∧ Aside0 (strongroomref20_Verify.l0 kq a0 a1 a2 l4 x11_2 a3_0 a3_1 = some r) ∧ Aside0 (kq ≤ kj5) ∧ Aside0 (w'.heap[gb301]? = some (.cells #[.string a3_0, .string a3_1] 39 (0, 0))) ∧ Aside0 (Below w.heap.size w w'))
  case atStart => exact ⟨(0), m23_, H', ⟨Nat.le_refl _⟩, ⟨by (with_reducible repeat (first | refine blk_drewN ?_ _ | refine blk_drew ?_ | refine blk_alloc ?_ _)); exact BK301.out⟩, ⟨m37_⟩⟩
  clear H'
  try clear c1; try clear c2; try clear p2; try clear c4; try clear c9; try clear c10; try clear c10b0; try clear c13; try clear c13b0; try clear c16; try clear c16b0; try clear c19; try clear c19b0; try clear c24; try clear c26; try clear c27; try clear hcz11_0; try clear hcz11_1; try clear hcz14_0; try clear hcz14_1; try clear hcz17_0; try clear hcz17_1; try clear hcz20_0; try clear hcz20_1; try clear hcz23_0; try clear hcz23_1; try clear hcz25_0; try clear hcz25_1; try clear hfz11_0; try clear hfz11_1; try clear hfz14_0; try clear hfz14_1; try clear hfz17_0; try clear hfz17_1; try clear hfz20_0; try clear hfz20_1; try clear hfz23_0; try clear hfz23_1; try clear hfz25_0; try clear hfz25_1; try clear p2
  obtain ⟨x11_2, rfl, HA, HK2, BK301, HB⟩ := hrel
  cases gk with
  | zero => exact absurd HA.out (by simp [strongroomref20_Verify.l0])
  | succ k2 =>
   have H := HA.out
   clear HA
   simp only [strongroomref20_Verify.l0] at H
   by_cases c28 : x11_2 < (l4.length : Int)
   ·rw [if_pos c28] at H
    have c28b0 : decide (x11_2 < (l4.length : Int)) = true := decide_eq_true c28
    clear c28
    by_cases c29 : 0 ≤ x11_2
    case neg =>
     rw [if_neg c29] at H
     exact absurd H (by simp)
    rw [if_pos c29] at H
    have c29b0 : decide (0 ≤ x11_2) = true := decide_eq_true c29
    clear c29
    by_cases c30 : ((rdOf ByteArray.empty l4 x11_2).size : Int) = 32
    case neg =>
     rw [if_neg c30] at H
     have c30b0 : (((rdOf ByteArray.empty l4 x11_2).size : Int) == 32) = false := beq_eq_false_iff_ne.mpr c30
     have c30b1 : (((rdOf ByteArray.empty l4 x11_2).size : Int) != 32) = true := bne_iff_ne.mpr c30
     obtain rfl := Option.some.inj H
     have p304 : 0 ≤ (x11_2 : Int) := of_decide_eq_true m22_
     have q304 : x11_2 < (l4.length : Int) := of_decide_eq_true m22_
     obtain ⟨ad304, e304, hx304_0⟩ := Kd.at_string HR4.out x11_2 p304 q304
     cases e304
     replace hx304_0 := (HB.out.cell (World.block_lt_of_cell? w _ hx304_0)).trans hx304_0
     replace p304 := eq_true p304
     replace q304 := eq_true q304
     go_wp2
     go_ret
     exact ⟨by first | rfl | (simp [errW_none, errW_some] <;> rfl) | (simp [*, errW_none, errW_some] <;> rfl), m37_⟩
    rw [if_pos c30] at H
    have c30b0 : (((rdOf ByteArray.empty l4 x11_2).size : Int) == 32) = true := beq_iff_eq.mpr c30
    have c30b1 : (((rdOf ByteArray.empty l4 x11_2).size : Int) != 32) = false := bne_eq_false_iff_eq.mpr c30
    clear c30
    have H' := Aside0.mk H
    clear H
    have p304 : 0 ≤ (x11_2 : Int) := of_decide_eq_true m22_
    have q304 : x11_2 < (l4.length : Int) := of_decide_eq_true m22_
    obtain ⟨ad304, e304, hx304_0⟩ := Kd.at_string HR4.out x11_2 p304 q304
    cases e304
    replace hx304_0 := (HB.out.cell (World.block_lt_of_cell? w _ hx304_0)).trans hx304_0
    replace p304 := eq_true p304
    replace q304 := eq_true q304
    go_wp2
    go_roundg k2
    case measure => have := HJ5.out; have := HK2.out; omega
    case rel => exact ⟨(wrap64 (x11_2 + 1)), m23_, H', ⟨by have := HJ5.out; have := HK2.out; omega⟩, ⟨by (with_reducible repeat (first | refine blk_drewN ?_ _ | refine blk_drew ?_ | refine blk_alloc ?_ _)); exact BK301.out⟩, ⟨m37_⟩⟩
   rw [if_neg c28] at H
   have c28b0 : decide (x11_2 < (l4.length : Int)) = false := decide_eq_false c28
   clear c28
   replace H := Option.bind_eq_some_iff.mp H
   obtain ⟨t305, A310, H⟩ := H
   replace H : ((strongroomref20_up.f k2 t305 a1 a2 l4).bind fun t306 => (some (t306.toList == a0.toList))) = some r := H
   have A31 := Aside0.mk A310
   clear A310
   replace H := Option.bind_eq_some_iff.mp H
   obtain ⟨t306, A320, H⟩ := H
   replace H : (some (t306.toList == a0.toList)) = some r := H
   have A32 := Aside0.mk A320
   clear A320
   obtain rfl := Option.some.inj H
   obtain ⟨hcz33_0, hcz33_1⟩ := bc2_ BK301.out
   obtain ⟨hfz33_0, hfz33_1⟩ := bf2_ BK301.out
   go_wp2_with (first | ((with_reducible refine gate_callee (f := 45) rfl ?_); refine goesL_ (some 53) rfl rfl Tryd.func45 (by kernel_rfl) rfl #[.agg #[.string a3_0, .string a3_1]] rfl m10_ ?_; (with_reducible refine (strongroomref20_one.calls k2 a3_0 a3_1 t305 _ A31.out).mono ?_); rintro e w34 ⟨rfl, hb⟩; refine ⟨_, rfl, ?_⟩; replace BK301 := Aside0.mk (blk_below (g := gb301) (o := .cells #[.string a3_0, .string a3_1] 39 (0, 0)) m17_ hb); replace HB := Aside0.mk (below_step m7_ hb); (try clear hb); (try clear hb2); (try clear hk); (try clear hi)) | ((with_reducible refine gate_callee (f := 50) rfl ?_); refine goesL_ (some 57) rfl rfl Tryd.func50 (by kernel_rfl) rfl #[.string t305, .int .i64 a1, .int .i64 a2, .slice A4 l4.length c4] rfl m10_ ?_; (with_reducible refine (strongroomref20_up.calls k2 t305 a1 a2 _ _ l4 t306 _ ?side1 ?side2 A32.out).mono ?_); (case side1 => exact m31_); (case side2 => exact HC4.out); rintro e w35 ⟨rfl, hb⟩; refine ⟨_, rfl, ?_⟩; replace BK301 := Aside0.mk (blk_below (g := gb301) (o := .cells #[.string a3_0, .string a3_1] 39 (0, 0)) m17_ hb); replace HB := Aside0.mk (below_step m7_ hb); (try clear hb); (try clear hb2); (try clear hk); (try clear hi)))
   go_ret
   exact ⟨by first | rfl | (simp [errW_none, errW_some] <;> rfl) | (simp [*, errW_none, errW_some] <;> rfl), m37_⟩

end Go.Proofs.YtdeggemomajhcaaDoorH.HMerkleAbsent
namespace Go.Proofs.YtdeggemomajhcaaDoorH.HMerkleAbsent
open Go.RowKit Go.Proofs.YtdeggemomajhcaaDoorW.PrintWords Go.Proofs.YtdeggemomajhcaaDoorW.PrintLast Go.Proofs.YtdeggemomajhcaaDoorW.PrintMore
attribute [local go_sem] max2_int min2_int max_two min_two max_three min_three max_four min_four   -- for this text's walks alone
set_option linter.unusedVariables false
set_option linter.unusedSimpArgs false

attribute [local go_sem high] eqA39
/-! ### strongroomref20_Missing: function 29 -/
mutual
def strongroomref20_Missing.j0 : Nat → ByteArray → Int → ByteArray → Bool → Int → ByteArray → ByteArray → ByteArray → ByteArray → List ByteArray → List ByteArray → Option (Bool)
 | 0, _, _, _, _, _, _, _, _, _, _, _ => none
 | k + 1, x0, x1, x2, x32, x308000, x308001, x308002, x308003, x308004, x308005, x308006 => if x32 = true then (some false) else (if x1 = 0 then ((strongroomref20_Digest.f k ([] : List (S39))).bind fun t309 => (strongroomref20_Missing.j1 k x0 x1 x2 (x0.toList != t309.toList) x308000 x308001 x308002 x308003 x308004 x308005 x308006)) else (strongroomref20_Missing.j1 k x0 x1 x2 false x308000 x308001 x308002 x308003 x308004 x308005 x308006))
def strongroomref20_Missing.j1 : Nat → ByteArray → Int → ByteArray → Bool → Int → ByteArray → ByteArray → ByteArray → ByteArray → List ByteArray → List ByteArray → Option (Bool)
 | 0, _, _, _, _, _, _, _, _, _, _, _ => none
 | k + 1, x0, x1, x2, x39, x308000, x308001, x308002, x308003, x308004, x308005, x308006 => if x39 = true then (some false) else (if (x308001.toList == ([] : List UInt8) && (x308002.toList == ([] : List UInt8))) = true then (strongroomref20_Missing.j2 k x0 x1 x2 ((x308005.length : Int) == 0) x308000 x308001 x308002 x308003 x308004 x308005 x308006) else (strongroomref20_Missing.j2 k x0 x1 x2 false x308000 x308001 x308002 x308003 x308004 x308005 x308006))
def strongroomref20_Missing.j2 : Nat → ByteArray → Int → ByteArray → Bool → Int → ByteArray → ByteArray → ByteArray → ByteArray → List ByteArray → List ByteArray → Option (Bool)
 | 0, _, _, _, _, _, _, _, _, _, _, _ => none
 | k + 1, x0, x1, x2, x9, x308000, x308001, x308002, x308003, x308004, x308005, x308006 => if x308000 > 0 then (if (Op.bytesLess x308001.toList x2.toList) = true then ((strongroomref20_Verify.f k x0 x1 (wrap64 (x308000 - 1)) x308001 x308002 x308005).bind fun t310 => (strongroomref20_Missing.j3 k x0 x1 x2 t310 x308000 x308001 x308002 x308003 x308004 x308005 x308006)) else (strongroomref20_Missing.j3 k x0 x1 x2 false x308000 x308001 x308002 x308003 x308004 x308005 x308006)) else (strongroomref20_Missing.j3 k x0 x1 x2 x9 x308000 x308001 x308002 x308003 x308004 x308005 x308006)
def strongroomref20_Missing.j3 : Nat → ByteArray → Int → ByteArray → Bool → Int → ByteArray → ByteArray → ByteArray → ByteArray → List ByteArray → List ByteArray → Option (Bool)
 | 0, _, _, _, _, _, _, _, _, _, _, _ => none
 | k + 1, x0, x1, x2, x9, x308000, x308001, x308002, x308003, x308004, x308005, x308006 => if (x308003.toList == ([] : List UInt8) && (x308004.toList == ([] : List UInt8))) = true then (if x308000 < x1 then (if (Op.bytesLess x2.toList x308003.toList) = true then ((strongroomref20_Verify.f k x0 x1 x308000 x308003 x308004 x308006).bind fun t311 => (if x9 = true then (some t311) else (some false))) else (if x9 = true then (some false) else (some false))) else (if x9 = true then (some ((x308006.length : Int) == 0)) else (some false))) else (if x308000 < x1 then (if (Op.bytesLess x2.toList x308003.toList) = true then ((strongroomref20_Verify.f k x0 x1 x308000 x308003 x308004 x308006).bind fun t312 => (if x9 = true then (some t312) else (some false))) else (if x9 = true then (some false) else (some false))) else (if x9 = true then (some false) else (some false)))
end
def strongroomref20_Missing.f (k : Nat) (a0 : ByteArray) (a1 : Int) (a2 : ByteArray) (a3_0 : Int) (a3_1 : ByteArray) (a3_2 : ByteArray) (a3_3 : ByteArray) (a3_4 : ByteArray) (l3_5 : List ByteArray) (l3_6 : List ByteArray) : Option (Bool) := (strongroomref05_Good.f k a2).bind fun t308 => (if t308 = true then (if a1 < 0 then (strongroomref20_Missing.j0 k a0 a1 a2 true a3_0 a3_1 a3_2 a3_3 a3_4 l3_5 l3_6) else (if a1 > 1024 then (strongroomref20_Missing.j0 k a0 a1 a2 true a3_0 a3_1 a3_2 a3_3 a3_4 l3_5 l3_6) else (if a3_0 < 0 then (strongroomref20_Missing.j0 k a0 a1 a2 true a3_0 a3_1 a3_2 a3_3 a3_4 l3_5 l3_6) else (strongroomref20_Missing.j0 k a0 a1 a2 (decide (a3_0 > a1)) a3_0 a3_1 a3_2 a3_3 a3_4 l3_5 l3_6)))) else (strongroomref20_Missing.j0 k a0 a1 a2 true a3_0 a3_1 a3_2 a3_3 a3_4 l3_5 l3_6))
theorem strongroomref20_Missing.mono_l : ∀ k, (∀ y0 y1 y2 y3 y4 y5 y6 y7 y8 y9 y10, LeO (strongroomref20_Missing.j0 k y0 y1 y2 y3 y4 y5 y6 y7 y8 y9 y10) (strongroomref20_Missing.j0 (k + 1) y0 y1 y2 y3 y4 y5 y6 y7 y8 y9 y10)) ∧ (∀ y0 y1 y2 y3 y4 y5 y6 y7 y8 y9 y10, LeO (strongroomref20_Missing.j1 k y0 y1 y2 y3 y4 y5 y6 y7 y8 y9 y10) (strongroomref20_Missing.j1 (k + 1) y0 y1 y2 y3 y4 y5 y6 y7 y8 y9 y10)) ∧ (∀ y0 y1 y2 y3 y4 y5 y6 y7 y8 y9 y10, LeO (strongroomref20_Missing.j2 k y0 y1 y2 y3 y4 y5 y6 y7 y8 y9 y10) (strongroomref20_Missing.j2 (k + 1) y0 y1 y2 y3 y4 y5 y6 y7 y8 y9 y10)) ∧ (∀ y0 y1 y2 y3 y4 y5 y6 y7 y8 y9 y10, LeO (strongroomref20_Missing.j3 k y0 y1 y2 y3 y4 y5 y6 y7 y8 y9 y10) (strongroomref20_Missing.j3 (k + 1) y0 y1 y2 y3 y4 y5 y6 y7 y8 y9 y10))
 | 0 => ⟨fun _ _ _ _ _ _ _ _ _ _ _ r h => by simp [strongroomref20_Missing.j0] at h, fun _ _ _ _ _ _ _ _ _ _ _ r h => by simp [strongroomref20_Missing.j1] at h, fun _ _ _ _ _ _ _ _ _ _ _ r h => by simp [strongroomref20_Missing.j2] at h, fun _ _ _ _ _ _ _ _ _ _ _ r h => by simp [strongroomref20_Missing.j3] at h⟩
 | k + 1 => by
  obtain ⟨ih0, ih1, ih2, ih3⟩ := strongroomref20_Missing.mono_l k
  refine ⟨?_, ?_, ?_, ?_⟩
  ·intro y0 y1 y2 y3 y4 y5 y6 y7 y8 y9 y10
   unfold strongroomref20_Missing.j0
   repeat' first
   | (with_reducible exact ih0 _ _ _ _ _ _ _ _ _ _ _)
   | (with_reducible exact ih1 _ _ _ _ _ _ _ _ _ _ _)
   | (with_reducible exact ih2 _ _ _ _ _ _ _ _ _ _ _)
   | (with_reducible exact ih3 _ _ _ _ _ _ _ _ _ _ _)
   | (with_reducible exact strongroomref05_Good.mono _ _)
   | (with_reducible exact strongroomref20_Digest.mono _ _)
   | (with_reducible exact strongroomref20_Verify.mono _ _ _ _ _ _ _)
   | (with_reducible exact LeO.refl _)
   | (with_reducible exact LeO.none _)
   | (with_reducible refine LeO.ite ?_ ?_)
   | (with_reducible refine LeO.bind ?_ (fun _ => ?_))
   | exact ih0 _ _ _ _ _ _ _ _ _ _ _
   | exact ih1 _ _ _ _ _ _ _ _ _ _ _
   | exact ih2 _ _ _ _ _ _ _ _ _ _ _
   | exact ih3 _ _ _ _ _ _ _ _ _ _ _
   | exact strongroomref05_Good.mono _ _
   | exact strongroomref20_Digest.mono _ _
   | exact strongroomref20_Verify.mono _ _ _ _ _ _ _
   | exact LeO.none _
   | refine LeO.ite ?_ ?_
   | refine LeO.bind ?_ (fun _ => ?_)
  ·intro y0 y1 y2 y3 y4 y5 y6 y7 y8 y9 y10
   unfold strongroomref20_Missing.j1
   repeat' first
   | (with_reducible exact ih0 _ _ _ _ _ _ _ _ _ _ _)
   | (with_reducible exact ih1 _ _ _ _ _ _ _ _ _ _ _)
   | (with_reducible exact ih2 _ _ _ _ _ _ _ _ _ _ _)
   | (with_reducible exact ih3 _ _ _ _ _ _ _ _ _ _ _)
   | (with_reducible exact strongroomref05_Good.mono _ _)
   | (with_reducible exact strongroomref20_Digest.mono _ _)
   | (with_reducible exact strongroomref20_Verify.mono _ _ _ _ _ _ _)
   | (with_reducible exact LeO.refl _)
   | (with_reducible exact LeO.none _)
   | (with_reducible refine LeO.ite ?_ ?_)
   | (with_reducible refine LeO.bind ?_ (fun _ => ?_))
   | exact ih0 _ _ _ _ _ _ _ _ _ _ _
   | exact ih1 _ _ _ _ _ _ _ _ _ _ _
   | exact ih2 _ _ _ _ _ _ _ _ _ _ _
   | exact ih3 _ _ _ _ _ _ _ _ _ _ _
   | exact strongroomref05_Good.mono _ _
   | exact strongroomref20_Digest.mono _ _
   | exact strongroomref20_Verify.mono _ _ _ _ _ _ _
   | exact LeO.none _
   | refine LeO.ite ?_ ?_
   | refine LeO.bind ?_ (fun _ => ?_)
  ·intro y0 y1 y2 y3 y4 y5 y6 y7 y8 y9 y10
   unfold strongroomref20_Missing.j2
   repeat' first
   | (with_reducible exact ih0 _ _ _ _ _ _ _ _ _ _ _)
   | (with_reducible exact ih1 _ _ _ _ _ _ _ _ _ _ _)
   | (with_reducible exact ih2 _ _ _ _ _ _ _ _ _ _ _)
   | (with_reducible exact ih3 _ _ _ _ _ _ _ _ _ _ _)
   | (with_reducible exact strongroomref05_Good.mono _ _)
   | (with_reducible exact strongroomref20_Digest.mono _ _)
   | (with_reducible exact strongroomref20_Verify.mono _ _ _ _ _ _ _)
   | (with_reducible exact LeO.refl _)
   | (with_reducible exact LeO.none _)
   | (with_reducible refine LeO.ite ?_ ?_)
   | (with_reducible refine LeO.bind ?_ (fun _ => ?_))
   | exact ih0 _ _ _ _ _ _ _ _ _ _ _
   | exact ih1 _ _ _ _ _ _ _ _ _ _ _
   | exact ih2 _ _ _ _ _ _ _ _ _ _ _
   | exact ih3 _ _ _ _ _ _ _ _ _ _ _
   | exact strongroomref05_Good.mono _ _
   | exact strongroomref20_Digest.mono _ _
   | exact strongroomref20_Verify.mono _ _ _ _ _ _ _
   | exact LeO.none _
   | refine LeO.ite ?_ ?_
   | refine LeO.bind ?_ (fun _ => ?_)
  ·intro y0 y1 y2 y3 y4 y5 y6 y7 y8 y9 y10
   unfold strongroomref20_Missing.j3
   repeat' first
   | (with_reducible exact ih0 _ _ _ _ _ _ _ _ _ _ _)
   | (with_reducible exact ih1 _ _ _ _ _ _ _ _ _ _ _)
   | (with_reducible exact ih2 _ _ _ _ _ _ _ _ _ _ _)
   | (with_reducible exact ih3 _ _ _ _ _ _ _ _ _ _ _)
   | (with_reducible exact strongroomref05_Good.mono _ _)
   | (with_reducible exact strongroomref20_Digest.mono _ _)
   | (with_reducible exact strongroomref20_Verify.mono _ _ _ _ _ _ _)
   | (with_reducible exact LeO.refl _)
   | (with_reducible exact LeO.none _)
   | (with_reducible refine LeO.ite ?_ ?_)
   | (with_reducible refine LeO.bind ?_ (fun _ => ?_))
   | exact ih0 _ _ _ _ _ _ _ _ _ _ _
   | exact ih1 _ _ _ _ _ _ _ _ _ _ _
   | exact ih2 _ _ _ _ _ _ _ _ _ _ _
   | exact ih3 _ _ _ _ _ _ _ _ _ _ _
   | exact strongroomref05_Good.mono _ _
   | exact strongroomref20_Digest.mono _ _
   | exact strongroomref20_Verify.mono _ _ _ _ _ _ _
   | exact LeO.none _
   | refine LeO.ite ?_ ?_
   | refine LeO.bind ?_ (fun _ => ?_)
theorem strongroomref20_Missing.mono : ∀ a0 a1 a2 a3 a4 a5 a6 a7 a8 a9 k, LeO (strongroomref20_Missing.f k a0 a1 a2 a3 a4 a5 a6 a7 a8 a9) (strongroomref20_Missing.f (k + 1) a0 a1 a2 a3 a4 a5 a6 a7 a8 a9) := by
 intro a0 a1 a2 a3 a4 a5 a6 a7 a8 a9 k
 obtain ⟨ih0, ih1, ih2, ih3⟩ := strongroomref20_Missing.mono_l k
 unfold strongroomref20_Missing.f
 repeat' first
   | (with_reducible exact ih0 _ _ _ _ _ _ _ _ _ _ _)
   | (with_reducible exact ih1 _ _ _ _ _ _ _ _ _ _ _)
   | (with_reducible exact ih2 _ _ _ _ _ _ _ _ _ _ _)
   | (with_reducible exact ih3 _ _ _ _ _ _ _ _ _ _ _)
   | (with_reducible exact strongroomref05_Good.mono _ _)
   | (with_reducible exact strongroomref20_Digest.mono _ _)
   | (with_reducible exact strongroomref20_Verify.mono _ _ _ _ _ _ _)
   | (with_reducible exact LeO.refl _)
   | (with_reducible exact LeO.none _)
   | (with_reducible refine LeO.ite ?_ ?_)
   | (with_reducible refine LeO.bind ?_ (fun _ => ?_))
   | exact ih0 _ _ _ _ _ _ _ _ _ _ _
   | exact ih1 _ _ _ _ _ _ _ _ _ _ _
   | exact ih2 _ _ _ _ _ _ _ _ _ _ _
   | exact ih3 _ _ _ _ _ _ _ _ _ _ _
   | exact strongroomref05_Good.mono _ _
   | exact strongroomref20_Digest.mono _ _
   | exact strongroomref20_Verify.mono _ _ _ _ _ _ _
   | exact LeO.none _
   | refine LeO.ite ?_ ?_
   | refine LeO.bind ?_ (fun _ => ?_)
set_option maxHeartbeats 8000000 in
set_option maxRecDepth 100000 in
theorem strongroomref20_Missing.calls (k : Nat) (a0 : ByteArray) (a1 : Int) (a2 : ByteArray) (a3_0 : Int) (a3_1 : ByteArray) (a3_2 : ByteArray) (a3_3 : ByteArray) (a3_4 : ByteArray) (A3_5 : Option Addr) (c3_5 : Nat) (l3_5 : List ByteArray) (A3_6 : Option Addr) (c3_6 : Nat) (l3_6 : List ByteArray) (r : Bool) (w : World) (hr3_5 : Kd.C Kd.string w A3_5 l3_5.length l3_5) (hc3_5 : l3_5.length ≤ c3_5) (hr3_6 : Kd.C Kd.string w A3_6 l3_6.length l3_6) (hc3_6 : l3_6.length ≤ c3_6) (h : strongroomref20_Missing.f k a0 a1 a2 a3_0 a3_1 a3_2 a3_3 a3_4 l3_5 l3_6 = some r) :
  Calls Tryd.prog 29 #[.string a0, .int .i64 a1, .string a2, .agg #[.int .i64 a3_0, .string a3_1, .string a3_2, .string a3_3, .string a3_4, .slice A3_5 l3_5.length c3_5, .slice A3_6 l3_6.length c3_6]] w fun e w' => e = .returned (.bool r) ∧ Below w.heap.size w w' := by
 have hu53 := Tryd.underlying53
 have hu39 := Tryd.underlying39
 have HR3_5 := Aside0.mk hr3_5
 have HC3_5 := Aside0.mk hc3_5
 clear hr3_5 hc3_5
 have HR3_6 := Aside0.mk hr3_6
 have HC3_6 := Aside0.mk hc3_6
 clear hr3_6 hc3_6
 have HB := Aside0.mk (Below.refl w.heap.size w)
 have H : ((strongroomref05_Good.f k a2).bind fun t308 => (if t308 = true then (if a1 < 0 then (strongroomref20_Missing.j0 k a0 a1 a2 true a3_0 a3_1 a3_2 a3_3 a3_4 l3_5 l3_6) else (if a1 > 1024 then (strongroomref20_Missing.j0 k a0 a1 a2 true a3_0 a3_1 a3_2 a3_3 a3_4 l3_5 l3_6) else (if a3_0 < 0 then (strongroomref20_Missing.j0 k a0 a1 a2 true a3_0 a3_1 a3_2 a3_3 a3_4 l3_5 l3_6) else (strongroomref20_Missing.j0 k a0 a1 a2 (decide (a3_0 > a1)) a3_0 a3_1 a3_2 a3_3 a3_4 l3_5 l3_6)))) else (strongroomref20_Missing.j0 k a0 a1 a2 true a3_0 a3_1 a3_2 a3_3 a3_4 l3_5 l3_6))) = some r := h
 clear h
 have HC5 := Aside0.mk H
 clear H
 go_enter Tryd.func29, Tryd.ntmps29
 go_upto_region 1 with (first | ((with_reducible refine gate_dst (N := 7) rfl ?_); (try (refine gate_guard (by rfl) ?_; dsimp only)); refine box_event ?hg (N := 7) ?hd (cs := #[.int .i64 a3_0, .string a3_1, .string a3_2, .string a3_3, .string a3_4, .slice A3_5 l3_5.length c3_5, .slice A3_6 l3_6.length c3_6]) (t := 53) ?hr ?_; (case hd => rfl); (case hg => rfl); (case hr => first | (go_simp; done) | (go_simp; rfl)); intro gb307 hg w6 hbox hb; have n0_ := Aside0.mk (below_step m11_ hb); have n1_ := Aside0.mk (hbox); have n2_ := Aside0.mk ((by rw [hg]; exact (below_size m11_) : w.heap.size ≤ gb307)); have n3_ := Aside0.mk ((by rw [hg]; exact (below_size m11_) : w.heap.size ≤ gb307)); clear HB; have HB := n0_; have BK307 := n1_; have GW307 := n2_; have GE307 := n3_; clear n0_ n1_ n2_ n3_; clear hb hbox hg))
 (try simp only [Act.put, List.setIfInBounds_toArray, List.set_cons_zero, List.set_cons_succ])
 go_cut [32] (fun v32 wc => ∃ (kq : Nat) (x32_4 : Bool), v32 = .bool x32_4 ∧ Aside0 (strongroomref20_Missing.j0 kq a0 a1 a2 x32_4 a3_0 a3_1 a3_2 a3_3 a3_4 l3_5 l3_6 = some r) ∧ Aside0 (kq ≤ k) ∧ Aside0 (wc.heap[gb307]? = some (.cells #[.int .i64 a3_0, .string a3_1, .string a3_2, .string a3_3, .string a3_4, (.slice A3_5 l3_5.length c3_5), (.slice A3_6 l3_6.length c3_6)] 53 (0, 0))) ∧ Aside0 (Below w.heap.size w wc))
 case first =>
  have H := HC5.out
  clear HC5
  replace H := Option.bind_eq_some_iff.mp H
  obtain ⟨t308, A70, H⟩ := H
  replace H : (if t308 = true then (if a1 < 0 then (strongroomref20_Missing.j0 k a0 a1 a2 true a3_0 a3_1 a3_2 a3_3 a3_4 l3_5 l3_6) else (if a1 > 1024 then (strongroomref20_Missing.j0 k a0 a1 a2 true a3_0 a3_1 a3_2 a3_3 a3_4 l3_5 l3_6) else (if a3_0 < 0 then (strongroomref20_Missing.j0 k a0 a1 a2 true a3_0 a3_1 a3_2 a3_3 a3_4 l3_5 l3_6) else (strongroomref20_Missing.j0 k a0 a1 a2 (decide (a3_0 > a1)) a3_0 a3_1 a3_2 a3_3 a3_4 l3_5 l3_6)))) else (strongroomref20_Missing.j0 k a0 a1 a2 true a3_0 a3_1 a3_2 a3_3 a3_4 l3_5 l3_6)) = some r := H
  have A7 := Aside0.mk A70
  clear A70
  by_cases c8 : t308 = true
  case neg =>
   replace c8 := Bool.eq_false_iff.mpr c8
   subst c8
   have H1 : (strongroomref20_Missing.j0 k a0 a1 a2 true a3_0 a3_1 a3_2 a3_3 a3_4 l3_5 l3_6) = some r := by rw [if_neg (show ¬ (false = true) by decide)] at H; exact H
   clear H
   have H := H1
   clear H1
   have H' := Aside0.mk H
   clear H
   go_wp2_with (first | ((with_reducible refine gate_callee (f := 51) rfl ?_); refine goesL_ (some 12) rfl rfl Tryd.func51 (by kernel_rfl) rfl #[.string a2] rfl m10_ ?_; (with_reducible refine (strongroomref05_Good.calls k a2 false _ A7.out).mono ?_); rintro e w18 ⟨rfl, hb⟩; refine ⟨_, rfl, ?_⟩; replace BK307 := Aside0.mk (blk_below (g := gb307) (o := .cells #[.int .i64 a3_0, .string a3_1, .string a3_2, .string a3_3, .string a3_4, .slice A3_5 l3_5.length c3_5, .slice A3_6 l3_6.length c3_6] 53 (0, 0)) m14_ hb); replace HB := Aside0.mk (below_step m3_ hb); (try clear hb); (try clear hb2); (try clear hk); (try clear hi)))
   go_meet
   case rel => exact ⟨_, (true), m23_, H', ⟨by first | omega | exact Nat.le_refl _⟩, ⟨by (with_reducible repeat (first | refine blk_drewN ?_ _ | refine blk_drew ?_ | refine blk_alloc ?_ _)); exact BK307.out⟩, ⟨m38_⟩⟩
  subst c8
  have H1 : (if a1 < 0 then (strongroomref20_Missing.j0 k a0 a1 a2 true a3_0 a3_1 a3_2 a3_3 a3_4 l3_5 l3_6) else (if a1 > 1024 then (strongroomref20_Missing.j0 k a0 a1 a2 true a3_0 a3_1 a3_2 a3_3 a3_4 l3_5 l3_6) else (if a3_0 < 0 then (strongroomref20_Missing.j0 k a0 a1 a2 true a3_0 a3_1 a3_2 a3_3 a3_4 l3_5 l3_6) else (strongroomref20_Missing.j0 k a0 a1 a2 (decide (a3_0 > a1)) a3_0 a3_1 a3_2 a3_3 a3_4 l3_5 l3_6)))) = some r := by rw [if_pos rfl] at H; exact H
  clear H
  have H := H1
  clear H1
  by_cases c9 : a1 < 0
  ·rw [if_pos c9] at H
   have c9b0 : decide (a1 < 0) = true := decide_eq_true c9
   clear c9
   (first | rw [c9b0] | (simp only [i64_w, i32_w]; rw [c9b0]) | skip)
   have H' := Aside0.mk H
   clear H
   go_wp2_with (first | ((with_reducible refine gate_callee (f := 51) rfl ?_); refine goesL_ (some 12) rfl rfl Tryd.func51 (by kernel_rfl) rfl #[.string a2] rfl m10_ ?_; (with_reducible refine (strongroomref05_Good.calls k a2 true _ A7.out).mono ?_); rintro e w10 ⟨rfl, hb⟩; refine ⟨_, rfl, ?_⟩; replace BK307 := Aside0.mk (blk_below (g := gb307) (o := .cells #[.int .i64 a3_0, .string a3_1, .string a3_2, .string a3_3, .string a3_4, .slice A3_5 l3_5.length c3_5, .slice A3_6 l3_6.length c3_6] 53 (0, 0)) m14_ hb); replace HB := Aside0.mk (below_step m3_ hb); (try clear hb); (try clear hb2); (try clear hk); (try clear hi)))
   go_meet
   case rel => exact ⟨_, (true), m23_, H', ⟨by first | omega | exact Nat.le_refl _⟩, ⟨by (with_reducible repeat (first | refine blk_drewN ?_ _ | refine blk_drew ?_ | refine blk_alloc ?_ _)); exact BK307.out⟩, ⟨m38_⟩⟩
  rw [if_neg c9] at H
  have c9b0 : decide (a1 < 0) = false := decide_eq_false c9
  clear c9
  (first | rw [c9b0] | (simp only [i64_w, i32_w]; rw [c9b0]) | skip)
  by_cases c11 : a1 > 1024
  ·rw [if_pos c11] at H
   have c11b0 : decide (1024 < a1) = true := decide_eq_true c11
   clear c11
   have H' := Aside0.mk H
   clear H
   go_wp2_with (first | ((with_reducible refine gate_callee (f := 51) rfl ?_); refine goesL_ (some 12) rfl rfl Tryd.func51 (by kernel_rfl) rfl #[.string a2] rfl m10_ ?_; (with_reducible refine (strongroomref05_Good.calls k a2 true _ A7.out).mono ?_); rintro e w12 ⟨rfl, hb⟩; refine ⟨_, rfl, ?_⟩; replace BK307 := Aside0.mk (blk_below (g := gb307) (o := .cells #[.int .i64 a3_0, .string a3_1, .string a3_2, .string a3_3, .string a3_4, .slice A3_5 l3_5.length c3_5, .slice A3_6 l3_6.length c3_6] 53 (0, 0)) m14_ hb); replace HB := Aside0.mk (below_step m3_ hb); (try clear hb); (try clear hb2); (try clear hk); (try clear hi)))
   go_meet
   case rel => exact ⟨_, (true), m23_, H', ⟨by first | omega | exact Nat.le_refl _⟩, ⟨by (with_reducible repeat (first | refine blk_drewN ?_ _ | refine blk_drew ?_ | refine blk_alloc ?_ _)); exact BK307.out⟩, ⟨m38_⟩⟩
  rw [if_neg c11] at H
  have c11b0 : decide (1024 < a1) = false := decide_eq_false c11
  clear c11
  by_cases c13 : a3_0 < 0
  ·rw [if_pos c13] at H
   have c13b0 : decide (a3_0 < 0) = true := decide_eq_true c13
   clear c13
   have H' := Aside0.mk H
   clear H
   go_wp2_with (first | ((with_reducible refine gate_callee (f := 51) rfl ?_); refine goesL_ (some 12) rfl rfl Tryd.func51 (by kernel_rfl) rfl #[.string a2] rfl m10_ ?_; (with_reducible refine (strongroomref05_Good.calls k a2 true _ A7.out).mono ?_); rintro e w14 ⟨rfl, hb⟩; refine ⟨_, rfl, ?_⟩; replace BK307 := Aside0.mk (blk_below (g := gb307) (o := .cells #[.int .i64 a3_0, .string a3_1, .string a3_2, .string a3_3, .string a3_4, .slice A3_5 l3_5.length c3_5, .slice A3_6 l3_6.length c3_6] 53 (0, 0)) m14_ hb); replace HB := Aside0.mk (below_step m3_ hb); (try clear hb); (try clear hb2); (try clear hk); (try clear hi); obtain ⟨hcz15_0, hcz15_1, hcz15_2, hcz15_3, hcz15_4, hcz15_5, hcz15_6⟩ := bc7_ BK307.out; obtain ⟨hfz15_0, hfz15_1, hfz15_2, hfz15_3, hfz15_4, hfz15_5, hfz15_6⟩ := bf7_ BK307.out))
   go_meet
   case rel => exact ⟨_, (true), m23_, H', ⟨by first | omega | exact Nat.le_refl _⟩, ⟨by (with_reducible repeat (first | refine blk_drewN ?_ _ | refine blk_drew ?_ | refine blk_alloc ?_ _)); exact BK307.out⟩, ⟨m38_⟩⟩
  rw [if_neg c13] at H
  have c13b0 : decide (a3_0 < 0) = false := decide_eq_false c13
  clear c13
  have H' := Aside0.mk H
  clear H
  go_wp2_with (first | ((with_reducible refine gate_callee (f := 51) rfl ?_); refine goesL_ (some 12) rfl rfl Tryd.func51 (by kernel_rfl) rfl #[.string a2] rfl m10_ ?_; (with_reducible refine (strongroomref05_Good.calls k a2 true _ A7.out).mono ?_); rintro e w16 ⟨rfl, hb⟩; refine ⟨_, rfl, ?_⟩; replace BK307 := Aside0.mk (blk_below (g := gb307) (o := .cells #[.int .i64 a3_0, .string a3_1, .string a3_2, .string a3_3, .string a3_4, .slice A3_5 l3_5.length c3_5, .slice A3_6 l3_6.length c3_6] 53 (0, 0)) m14_ hb); replace HB := Aside0.mk (below_step m3_ hb); (try clear hb); (try clear hb2); (try clear hk); (try clear hi); obtain ⟨hcz17_0, hcz17_1, hcz17_2, hcz17_3, hcz17_4, hcz17_5, hcz17_6⟩ := bc7_ BK307.out; obtain ⟨hfz17_0, hfz17_1, hfz17_2, hfz17_3, hfz17_4, hfz17_5, hfz17_6⟩ := bf7_ BK307.out))
  go_meet
  case rel => exact ⟨_, (decide (a3_0 > a1)), m23_, H', ⟨by first | omega | exact Nat.le_refl _⟩, ⟨by (with_reducible repeat (first | refine blk_drewN ?_ _ | refine blk_drew ?_ | refine blk_alloc ?_ _)); exact BK307.out⟩, ⟨m38_⟩⟩
 clear HC5
 try clear c1; try clear c2; try clear p2; try clear c3; try clear c5; try clear c8; try clear c9; try clear c9b0; try clear c11; try clear c11b0; try clear c13; try clear c13b0; try clear hcz15_0; try clear hcz15_1; try clear hcz15_2; try clear hcz15_3; try clear hcz15_4; try clear hcz15_5; try clear hcz15_6; try clear hcz17_0; try clear hcz17_1; try clear hcz17_2; try clear hcz17_3; try clear hcz17_4; try clear hcz17_5; try clear hcz17_6; try clear hfz15_0; try clear hfz15_1; try clear hfz15_2; try clear hfz15_3; try clear hfz15_4; try clear hfz15_5; try clear hfz15_6; try clear hfz17_0; try clear hfz17_1; try clear hfz17_2; try clear hfz17_3; try clear hfz17_4; try clear hfz17_5; try clear hfz17_6
 obtain ⟨kq, x32_4, rfl, HA, HJ4, BK307, HB⟩ := hcut
 cases kq with
 | zero => exact absurd HA.out (by simp [strongroomref20_Missing.j0])
 | succ kj4 =>
  have H := HA.out
  clear HA
  simp only [strongroomref20_Missing.j0] at H
  by_cases c19 : x32_4 = true
  ·subst c19
   have H1 : (some false) = some r := by rw [if_pos rfl] at H; exact H
   clear H
   have H := H1
   clear H1
   obtain rfl := Option.some.inj H
   go_wp2
   go_ret
   exact ⟨by first | rfl | (simp [errW_none, errW_some] <;> rfl) | (simp [*, errW_none, errW_some] <;> rfl), m38_⟩
  replace c19 := Bool.eq_false_iff.mpr c19
  subst c19
  have H1 : (if a1 = 0 then ((strongroomref20_Digest.f kj4 ([] : List (S39))).bind fun t309 => (strongroomref20_Missing.j1 kj4 a0 a1 a2 (a0.toList != t309.toList) a3_0 a3_1 a3_2 a3_3 a3_4 l3_5 l3_6)) else (strongroomref20_Missing.j1 kj4 a0 a1 a2 false a3_0 a3_1 a3_2 a3_3 a3_4 l3_5 l3_6)) = some r := by rw [if_neg (show ¬ (false = true) by decide)] at H; exact H
  clear H
  have H := H1
  clear H1
  have HC20 := Aside0.mk H
  clear H
  go_upto_region 3 with (fail)
  go_cut [39] (fun v39 wc => ∃ (kq : Nat) (x39_19 : Bool), v39 = .bool x39_19 ∧ Aside0 (strongroomref20_Missing.j1 kq a0 a1 a2 x39_19 a3_0 a3_1 a3_2 a3_3 a3_4 l3_5 l3_6 = some r) ∧ Aside0 (kq ≤ kj4) ∧ Aside0 (wc.heap[gb307]? = some (.cells #[.int .i64 a3_0, .string a3_1, .string a3_2, .string a3_3, .string a3_4, (.slice A3_5 l3_5.length c3_5), (.slice A3_6 l3_6.length c3_6)] 53 (0, 0))) ∧ Aside0 (Below w.heap.size w wc))
  case first =>
   have H := HC20.out
   clear HC20
   by_cases c21 : a1 = 0
   case neg =>
    rw [if_neg c21] at H
    have c21b0 : (a1 == 0) = false := beq_eq_false_iff_ne.mpr c21
    have c21b1 : (a1 != 0) = true := bne_iff_ne.mpr c21
    (first | rw [c21b0] | (simp only [i64_w, i32_w]; rw [c21b0]) | skip)
    have H' := Aside0.mk H
    clear H
    go_wp2
    go_meet
    case rel => exact ⟨_, (false), m23_, H', ⟨by have := HJ4.out; first | omega | exact Nat.le_refl _⟩, ⟨by (with_reducible repeat (first | refine blk_drewN ?_ _ | refine blk_drew ?_ | refine blk_alloc ?_ _)); exact BK307.out⟩, ⟨m38_⟩⟩
   rw [if_pos c21] at H
   have c21b0 : (a1 == 0) = true := beq_iff_eq.mpr c21
   have c21b1 : (a1 != 0) = false := bne_eq_false_iff_eq.mpr c21
   clear c21
   (first | rw [c21b0] | (simp only [i64_w, i32_w]; rw [c21b0]) | skip)
   replace H := Option.bind_eq_some_iff.mp H
   obtain ⟨t309, A220, H⟩ := H
   replace H : (strongroomref20_Missing.j1 kj4 a0 a1 a2 (a0.toList != t309.toList) a3_0 a3_1 a3_2 a3_3 a3_4 l3_5 l3_6) = some r := H
   have A22 := Aside0.mk A220
   clear A220
   have H' := Aside0.mk H
   clear H
   go_wp2_with (first | (go_at_call 18; (refine (strongroomref20_Digest.calls kj4 _ _ ([] : List (S39)) t309 _ ?side1 ?side2 A22.out).mono ?_); (case side1 => exact Kd.C_nil _ _); (case side2 => exact Nat.le_refl _); rintro e w23 ⟨rfl, hb⟩; replace BK307 := Aside0.mk (blk_below (g := gb307) (o := .cells #[.int .i64 a3_0, .string a3_1, .string a3_2, .string a3_3, .string a3_4, .slice A3_5 l3_5.length c3_5, .slice A3_6 l3_6.length c3_6] 53 (0, 0)) m14_ hb); replace HB := Aside0.mk (below_step m3_ hb); (try clear hb); (try clear hb2); (try clear hk); (try clear hi)))
   go_meet
   case rel => exact ⟨_, ((a0.toList != t309.toList)), m23_, H', ⟨by have := HJ4.out; first | omega | exact Nat.le_refl _⟩, ⟨by (with_reducible repeat (first | refine blk_drewN ?_ _ | refine blk_drew ?_ | refine blk_alloc ?_ _)); exact BK307.out⟩, ⟨m38_⟩⟩
  clear HC20
  try clear c1; try clear c2; try clear p2; try clear c3; try clear c5; try clear c8; try clear c9; try clear c9b0; try clear c11; try clear c11b0; try clear c13; try clear c13b0; try clear c19; try clear c21; try clear c21b0; try clear c21b1; try clear hcz15_0; try clear hcz15_1; try clear hcz15_2; try clear hcz15_3; try clear hcz15_4; try clear hcz15_5; try clear hcz15_6; try clear hcz17_0; try clear hcz17_1; try clear hcz17_2; try clear hcz17_3; try clear hcz17_4; try clear hcz17_5; try clear hcz17_6; try clear hfz15_0; try clear hfz15_1; try clear hfz15_2; try clear hfz15_3; try clear hfz15_4; try clear hfz15_5; try clear hfz15_6; try clear hfz17_0; try clear hfz17_1; try clear hfz17_2; try clear hfz17_3; try clear hfz17_4; try clear hfz17_5; try clear hfz17_6; try clear p2
  obtain ⟨kq, x39_19, rfl, HA, HJ19, BK307, HB⟩ := hcut
  cases kq with
  | zero => exact absurd HA.out (by simp [strongroomref20_Missing.j1])
  | succ kj19 =>
   have H := HA.out
   clear HA
   simp only [strongroomref20_Missing.j1] at H
   by_cases c24 : x39_19 = true
   ·subst c24
    have H1 : (some false) = some r := by rw [if_pos rfl] at H; exact H
    clear H
    have H := H1
    clear H1
    obtain rfl := Option.some.inj H
    go_wp2
    go_ret
    exact ⟨by first | rfl | (simp [errW_none, errW_some] <;> rfl) | (simp [*, errW_none, errW_some] <;> rfl), m38_⟩
   replace c24 := Bool.eq_false_iff.mpr c24
   subst c24
   have H1 : (if (a3_1.toList == ([] : List UInt8) && (a3_2.toList == ([] : List UInt8))) = true then (strongroomref20_Missing.j2 kj19 a0 a1 a2 ((l3_5.length : Int) == 0) a3_0 a3_1 a3_2 a3_3 a3_4 l3_5 l3_6) else (strongroomref20_Missing.j2 kj19 a0 a1 a2 false a3_0 a3_1 a3_2 a3_3 a3_4 l3_5 l3_6)) = some r := by rw [if_neg (show ¬ (false = true) by decide)] at H; exact H
   clear H
   have H := H1
   clear H1
   have HC25 := Aside0.mk H
   clear H
   go_upto_region 5 with (fail)
   go_cut [9] (fun v9 wc => ∃ (kq : Nat) (x9_24 : Bool), v9 = .bool x9_24 ∧ Aside0 (strongroomref20_Missing.j2 kq a0 a1 a2 x9_24 a3_0 a3_1 a3_2 a3_3 a3_4 l3_5 l3_6 = some r) ∧ Aside0 (kq ≤ kj19) ∧ Aside0 (wc.heap[gb307]? = some (.cells #[.int .i64 a3_0, .string a3_1, .string a3_2, .string a3_3, .string a3_4, (.slice A3_5 l3_5.length c3_5), (.slice A3_6 l3_6.length c3_6)] 53 (0, 0))) ∧ Aside0 (Below w.heap.size w wc))
   case first =>
    have H := HC25.out
    clear HC25
    by_cases c26 : (a3_1.toList == ([] : List UInt8) && (a3_2.toList == ([] : List UInt8))) = true
    ·rw [if_pos c26] at H
     have c26b0 : (a3_1.toList == ([] : List UInt8) && (a3_2.toList == ([] : List UInt8))) = true := c26
     (try (have c26b1 : decide (a3_1.toList = ([] : List UInt8) && (a3_2.toList == ([] : List UInt8))) = true := by simpa using c26))
     (try (have c26b2 : (a3_1.toList == ([] : List UInt8) && (a3_2.toList == ([] : List UInt8))) = true := by simpa using c26))
     have c26b4 : (a3_1.toList.isEmpty && a3_2.toList.isEmpty) = true := (fun {x_ y_ : List UInt8} {v_ : Bool} (h_ : (x_ == ([] : List UInt8) && (y_ == ([] : List UInt8))) = v_) => (show (x_.isEmpty && y_.isEmpty) = v_ by cases x_ <;> cases y_ <;> first | exact h_ | simpa using h_)) c26b2
     clear c26
     (first | rw [c26b0] | (simp only [i64_w, i32_w]; rw [c26b0]) | skip)
     have H' := Aside0.mk H
     clear H
     obtain ⟨hcz27_0, hcz27_1, hcz27_2, hcz27_3, hcz27_4, hcz27_5, hcz27_6⟩ := bc7_ BK307.out
     obtain ⟨hfz27_0, hfz27_1, hfz27_2, hfz27_3, hfz27_4, hfz27_5, hfz27_6⟩ := bf7_ BK307.out
     go_wp2
     go_meet
     case rel => exact ⟨_, (((l3_5.length : Int) == 0)), m23_, H', ⟨by have := HJ4.out; have := HJ19.out; first | omega | exact Nat.le_refl _⟩, ⟨by (with_reducible repeat (first | refine blk_drewN ?_ _ | refine blk_drew ?_ | refine blk_alloc ?_ _)); exact BK307.out⟩, ⟨m38_⟩⟩
    rw [if_neg c26] at H
    have c26b0 : (a3_1.toList == ([] : List UInt8) && (a3_2.toList == ([] : List UInt8))) = false := by simpa using c26
    (try (have c26b1 : decide (a3_1.toList = ([] : List UInt8) && (a3_2.toList == ([] : List UInt8))) = false := by simpa using c26))
    (try (have c26b2 : (a3_1.toList == ([] : List UInt8) && (a3_2.toList == ([] : List UInt8))) = false := by simpa using c26))
    have c26b4 : (a3_1.toList.isEmpty && a3_2.toList.isEmpty) = false := (fun {x_ y_ : List UInt8} {v_ : Bool} (h_ : (x_ == ([] : List UInt8) && (y_ == ([] : List UInt8))) = v_) => (show (x_.isEmpty && y_.isEmpty) = v_ by cases x_ <;> cases y_ <;> first | exact h_ | simpa using h_)) c26b2
    (try (have c26b3 : ¬ (a3_1.toList = ([] : List UInt8) && (a3_2.toList == ([] : List UInt8))) := by simpa using c26))
    clear c26
    (first | rw [c26b0] | (simp only [i64_w, i32_w]; rw [c26b0]) | skip)
    have H' := Aside0.mk H
    clear H
    obtain ⟨hcz28_0, hcz28_1, hcz28_2, hcz28_3, hcz28_4, hcz28_5, hcz28_6⟩ := bc7_ BK307.out
    obtain ⟨hfz28_0, hfz28_1, hfz28_2, hfz28_3, hfz28_4, hfz28_5, hfz28_6⟩ := bf7_ BK307.out
    go_wp2
    go_meet
    case rel => exact ⟨_, (false), m23_, H', ⟨by have := HJ4.out; have := HJ19.out; first | omega | exact Nat.le_refl _⟩, ⟨by (with_reducible repeat (first | refine blk_drewN ?_ _ | refine blk_drew ?_ | refine blk_alloc ?_ _)); exact BK307.out⟩, ⟨m38_⟩⟩
   clear HC25
   try clear c1; try clear c2; try clear p2; try clear c3; try clear c5; try clear c8; try clear c9; try clear c9b0; try clear c11; try clear c11b0; try clear c13; try clear c13b0; try clear c19; try clear c21; try clear c21b0; try clear c21b1; try clear c24; try clear c26; try clear c26b0; try clear c26b1; try clear c26b2; try clear hcz15_0; try clear hcz15_1; try clear hcz15_2; try clear hcz15_3; try clear hcz15_4; try clear hcz15_5; try clear hcz15_6; try clear hcz17_0; try clear hcz17_1; try clear hcz17_2; try clear hcz17_3; try clear hcz17_4; try clear hcz17_5; try clear hcz17_6; try clear hcz27_0; try clear hcz27_1; try clear hcz27_2; try clear hcz27_3; try clear hcz27_4; try clear hcz27_5; try clear hcz27_6; try clear hcz28_0; try clear hcz28_1; try clear hcz28_2; try clear hcz28_3; try clear hcz28_4; try clear hcz28_5; try clear hcz28_6; try clear hfz15_0; try clear hfz15_1; try clear hfz15_2; try clear hfz15_3; try clear hfz15_4; try clear hfz15_5; try clear hfz15_6; try clear hfz17_0; try clear hfz17_1; try clear hfz17_2; try clear hfz17_3; try clear hfz17_4; try clear hfz17_5; try clear hfz17_6; try clear hfz27_0; try clear hfz27_1; try clear hfz27_2; try clear hfz27_3; try clear hfz27_4; try clear hfz27_5; try clear hfz27_6; try clear hfz28_0; try clear hfz28_1; try clear hfz28_2; try clear hfz28_3; try clear hfz28_4; try clear hfz28_5; try clear hfz28_6; try clear p2
   obtain ⟨kq, x9_24, rfl, HA, HJ24, BK307, HB⟩ := hcut
   cases kq with
   | zero => exact absurd HA.out (by simp [strongroomref20_Missing.j2])
   | succ kj24 =>
    have H := HA.out
    clear HA
    simp only [strongroomref20_Missing.j2] at H
    have HC29 := Aside0.mk H
    clear H
    obtain ⟨hcz30_0, hcz30_1, hcz30_2, hcz30_3, hcz30_4, hcz30_5, hcz30_6⟩ := bc7_ BK307.out
    obtain ⟨hfz30_0, hfz30_1, hfz30_2, hfz30_3, hfz30_4, hfz30_5, hfz30_6⟩ := bf7_ BK307.out
    go_upto_if 52 with (fail)
    go_cut [9] (fun v9 wc => ∃ (kq : Nat) (x9_28 : Bool), v9 = .bool x9_28 ∧ Aside0 (strongroomref20_Missing.j3 kq a0 a1 a2 x9_28 a3_0 a3_1 a3_2 a3_3 a3_4 l3_5 l3_6 = some r) ∧ Aside0 (kq ≤ kj24) ∧ Aside0 (wc.heap[gb307]? = some (.cells #[.int .i64 a3_0, .string a3_1, .string a3_2, .string a3_3, .string a3_4, (.slice A3_5 l3_5.length c3_5), (.slice A3_6 l3_6.length c3_6)] 53 (0, 0))) ∧ Aside0 (Below w.heap.size w wc))
    case first =>
     have H := HC29.out
     clear HC29
     by_cases c31 : a3_0 > 0
     case neg =>
      rw [if_neg c31] at H
      have c31b0 : decide (0 < a3_0) = false := decide_eq_false c31
      clear c31
      (first | rw [c31b0] | (simp only [i64_w, i32_w]; rw [c31b0]) | skip)
      have H' := Aside0.mk H
      clear H
      go_wp2
      go_meet
      case rel => exact ⟨_, (x9_24), m23_, H', ⟨by have := HJ4.out; have := HJ19.out; have := HJ24.out; first | omega | exact Nat.le_refl _⟩, ⟨by (with_reducible repeat (first | refine blk_drewN ?_ _ | refine blk_drew ?_ | refine blk_alloc ?_ _)); exact BK307.out⟩, ⟨m38_⟩⟩
     rw [if_pos c31] at H
     have c31b0 : decide (0 < a3_0) = true := decide_eq_true c31
     clear c31
     (first | rw [c31b0] | (simp only [i64_w, i32_w]; rw [c31b0]) | skip)
     by_cases c32 : (Op.bytesLess a3_1.toList a2.toList) = true
     case neg =>
      rw [if_neg c32] at H
      have c32b0 : (Op.bytesLess a3_1.toList a2.toList) = false := by simpa using c32
      clear c32
      have H' := Aside0.mk H
      clear H
      obtain ⟨hcz36_0, hcz36_1, hcz36_2, hcz36_3, hcz36_4, hcz36_5, hcz36_6⟩ := bc7_ BK307.out
      obtain ⟨hfz36_0, hfz36_1, hfz36_2, hfz36_3, hfz36_4, hfz36_5, hfz36_6⟩ := bf7_ BK307.out
      go_wp2
      go_meet
      case rel => exact ⟨_, (false), m23_, H', ⟨by have := HJ4.out; have := HJ19.out; have := HJ24.out; first | omega | exact Nat.le_refl _⟩, ⟨by (with_reducible repeat (first | refine blk_drewN ?_ _ | refine blk_drew ?_ | refine blk_alloc ?_ _)); exact BK307.out⟩, ⟨m38_⟩⟩
     rw [if_pos c32] at H
     have c32b0 : (Op.bytesLess a3_1.toList a2.toList) = true := c32
     clear c32
     replace H := Option.bind_eq_some_iff.mp H
     obtain ⟨t310, A330, H⟩ := H
     replace H : (strongroomref20_Missing.j3 kj24 a0 a1 a2 t310 a3_0 a3_1 a3_2 a3_3 a3_4 l3_5 l3_6) = some r := H
     have A33 := Aside0.mk A330
     clear A330
     have H' := Aside0.mk H
     clear H
     obtain ⟨hcz34_0, hcz34_1, hcz34_2, hcz34_3, hcz34_4, hcz34_5, hcz34_6⟩ := bc7_ BK307.out
     obtain ⟨hfz34_0, hfz34_1, hfz34_2, hfz34_3, hfz34_4, hfz34_5, hfz34_6⟩ := bf7_ BK307.out
     go_wp2_with (first | (go_at_call 24; (with_reducible refine (strongroomref20_Verify.calls kj24 a0 a1 (wrap64 (a3_0 - 1)) a3_1 a3_2 _ _ l3_5 t310 _ ?side1 ?side2 A33.out).mono ?_); (case side1 => exact m28_); (case side2 => exact HC3_5.out); rintro e w35 ⟨rfl, hb⟩; replace BK307 := Aside0.mk (blk_below (g := gb307) (o := .cells #[.int .i64 a3_0, .string a3_1, .string a3_2, .string a3_3, .string a3_4, .slice A3_5 l3_5.length c3_5, .slice A3_6 l3_6.length c3_6] 53 (0, 0)) m14_ hb); replace HB := Aside0.mk (below_step m3_ hb); (try clear hb); (try clear hb2); (try clear hk); (try clear hi)))
     go_meet
     case rel => exact ⟨_, (t310), m23_, H', ⟨by have := HJ4.out; have := HJ19.out; have := HJ24.out; first | omega | exact Nat.le_refl _⟩, ⟨by (with_reducible repeat (first | refine blk_drewN ?_ _ | refine blk_drew ?_ | refine blk_alloc ?_ _)); exact BK307.out⟩, ⟨m38_⟩⟩
    clear HC29
    try clear c1; try clear c2; try clear p2; try clear c3; try clear c5; try clear p6; try clear c8; try clear c9; try clear c9b0; try clear c11; try clear c11b0; try clear c13; try clear c13b0; try clear c19; try clear c21; try clear c21b0; try clear c21b1; try clear c24; try clear c26; try clear c26b0; try clear c26b1; try clear c26b2; try clear c29; try clear c31; try clear c31b0; try clear c32; try clear c32b0; try clear hcz15_0; try clear hcz15_1; try clear hcz15_2; try clear hcz15_3; try clear hcz15_4; try clear hcz15_5; try clear hcz15_6; try clear hcz17_0; try clear hcz17_1; try clear hcz17_2; try clear hcz17_3; try clear hcz17_4; try clear hcz17_5; try clear hcz17_6; try clear hcz27_0; try clear hcz27_1; try clear hcz27_2; try clear hcz27_3; try clear hcz27_4; try clear hcz27_5; try clear hcz27_6; try clear hcz28_0; try clear hcz28_1; try clear hcz28_2; try clear hcz28_3; try clear hcz28_4; try clear hcz28_5; try clear hcz28_6; try clear hcz30_0; try clear hcz30_1; try clear hcz30_2; try clear hcz30_3; try clear hcz30_4; try clear hcz30_5; try clear hcz30_6; try clear hcz34_0; try clear hcz34_1; try clear hcz34_2; try clear hcz34_3; try clear hcz34_4; try clear hcz34_5; try clear hcz34_6; try clear hcz36_0; try clear hcz36_1; try clear hcz36_2; try clear hcz36_3; try clear hcz36_4; try clear hcz36_5; try clear hcz36_6; try clear hfz15_0; try clear hfz15_1; try clear hfz15_2; try clear hfz15_3; try clear hfz15_4; try clear hfz15_5; try clear hfz15_6; try clear hfz17_0; try clear hfz17_1; try clear hfz17_2; try clear hfz17_3; try clear hfz17_4; try clear hfz17_5; try clear hfz17_6; try clear hfz27_0; try clear hfz27_1; try clear hfz27_2; try clear hfz27_3; try clear hfz27_4; try clear hfz27_5; try clear hfz27_6; try clear hfz28_0; try clear hfz28_1; try clear hfz28_2; try clear hfz28_3; try clear hfz28_4; try clear hfz28_5; try clear hfz28_6; try clear hfz30_0; try clear hfz30_1; try clear hfz30_2; try clear hfz30_3; try clear hfz30_4; try clear hfz30_5; try clear hfz30_6; try clear hfz34_0; try clear hfz34_1; try clear hfz34_2; try clear hfz34_3; try clear hfz34_4; try clear hfz34_5; try clear hfz34_6; try clear hfz36_0; try clear hfz36_1; try clear hfz36_2; try clear hfz36_3; try clear hfz36_4; try clear hfz36_5; try clear hfz36_6; try clear p2
    obtain ⟨kq, x9_28, rfl, HA, HJ28, BK307, HB⟩ := hcut
    cases kq with
    | zero => exact absurd HA.out (by simp [strongroomref20_Missing.j3])
    | succ kj28 =>
     have H := HA.out
     clear HA
     simp only [strongroomref20_Missing.j3] at H
     by_cases c37 : (a3_3.toList == ([] : List UInt8) && (a3_4.toList == ([] : List UInt8))) = true
     ·rw [if_pos c37] at H
      have c37b0 : (a3_3.toList == ([] : List UInt8) && (a3_4.toList == ([] : List UInt8))) = true := c37
      (try (have c37b1 : decide (a3_3.toList = ([] : List UInt8) && (a3_4.toList == ([] : List UInt8))) = true := by simpa using c37))
      (try (have c37b2 : (a3_3.toList == ([] : List UInt8) && (a3_4.toList == ([] : List UInt8))) = true := by simpa using c37))
      have c37b4 : (a3_3.toList.isEmpty && a3_4.toList.isEmpty) = true := (fun {x_ y_ : List UInt8} {v_ : Bool} (h_ : (x_ == ([] : List UInt8) && (y_ == ([] : List UInt8))) = v_) => (show (x_.isEmpty && y_.isEmpty) = v_ by cases x_ <;> cases y_ <;> first | exact h_ | simpa using h_)) c37b2
      clear c37
      by_cases c38 : a3_0 < a1
      case neg =>
       rw [if_neg c38] at H
       have c38b0 : decide (a3_0 < a1) = false := decide_eq_false c38
       clear c38
       by_cases c49 : x9_28 = true
       ·subst c49
        have H1 : (some ((l3_6.length : Int) == 0)) = some r := by rw [if_pos rfl] at H; exact H
        clear H
        have H := H1
        clear H1
        obtain rfl := Option.some.inj H
        obtain ⟨hcz50_0, hcz50_1, hcz50_2, hcz50_3, hcz50_4, hcz50_5, hcz50_6⟩ := bc7_ BK307.out
        obtain ⟨hfz50_0, hfz50_1, hfz50_2, hfz50_3, hfz50_4, hfz50_5, hfz50_6⟩ := bf7_ BK307.out
        go_wp2
        go_ret
        exact ⟨by first | rfl | (simp [errW_none, errW_some] <;> rfl) | (simp [*, errW_none, errW_some] <;> rfl), m38_⟩
       replace c49 := Bool.eq_false_iff.mpr c49
       subst c49
       have H1 : (some false) = some r := by rw [if_neg (show ¬ (false = true) by decide)] at H; exact H
       clear H
       have H := H1
       clear H1
       obtain rfl := Option.some.inj H
       obtain ⟨hcz51_0, hcz51_1, hcz51_2, hcz51_3, hcz51_4, hcz51_5, hcz51_6⟩ := bc7_ BK307.out
       obtain ⟨hfz51_0, hfz51_1, hfz51_2, hfz51_3, hfz51_4, hfz51_5, hfz51_6⟩ := bf7_ BK307.out
       go_wp2
       go_ret
       exact ⟨by first | rfl | (simp [errW_none, errW_some] <;> rfl) | (simp [*, errW_none, errW_some] <;> rfl), m38_⟩
      rw [if_pos c38] at H
      have c38b0 : decide (a3_0 < a1) = true := decide_eq_true c38
      clear c38
      by_cases c39 : (Op.bytesLess a2.toList a3_3.toList) = true
      case neg =>
       rw [if_neg c39] at H
       have c39b0 : (Op.bytesLess a2.toList a3_3.toList) = false := by simpa using c39
       clear c39
       by_cases c46 : x9_28 = true
       ·subst c46
        have H1 : (some false) = some r := by rw [if_pos rfl] at H; exact H
        clear H
        have H := H1
        clear H1
        obtain rfl := Option.some.inj H
        obtain ⟨hcz47_0, hcz47_1, hcz47_2, hcz47_3, hcz47_4, hcz47_5, hcz47_6⟩ := bc7_ BK307.out
        obtain ⟨hfz47_0, hfz47_1, hfz47_2, hfz47_3, hfz47_4, hfz47_5, hfz47_6⟩ := bf7_ BK307.out
        go_wp2
        go_ret
        exact ⟨by first | rfl | (simp [errW_none, errW_some] <;> rfl) | (simp [*, errW_none, errW_some] <;> rfl), m38_⟩
       replace c46 := Bool.eq_false_iff.mpr c46
       subst c46
       have H1 : (some false) = some r := by rw [if_neg (show ¬ (false = true) by decide)] at H; exact H
       clear H
       have H := H1
       clear H1
       obtain rfl := Option.some.inj H
       obtain ⟨hcz48_0, hcz48_1, hcz48_2, hcz48_3, hcz48_4, hcz48_5, hcz48_6⟩ := bc7_ BK307.out
       obtain ⟨hfz48_0, hfz48_1, hfz48_2, hfz48_3, hfz48_4, hfz48_5, hfz48_6⟩ := bf7_ BK307.out
       go_wp2
       go_ret
       exact ⟨by first | rfl | (simp [errW_none, errW_some] <;> rfl) | (simp [*, errW_none, errW_some] <;> rfl), m38_⟩
      rw [if_pos c39] at H
      have c39b0 : (Op.bytesLess a2.toList a3_3.toList) = true := c39
      clear c39
      replace H := Option.bind_eq_some_iff.mp H
      obtain ⟨t311, A400, H⟩ := H
      replace H : (if x9_28 = true then (some t311) else (some false)) = some r := H
      have A40 := Aside0.mk A400
      clear A400
      by_cases c41 : x9_28 = true
      ·subst c41
       have H1 : (some t311) = some r := by rw [if_pos rfl] at H; exact H
       clear H
       have H := H1
       clear H1
       obtain rfl := Option.some.inj H
       obtain ⟨hcz42_0, hcz42_1, hcz42_2, hcz42_3, hcz42_4, hcz42_5, hcz42_6⟩ := bc7_ BK307.out
       obtain ⟨hfz42_0, hfz42_1, hfz42_2, hfz42_3, hfz42_4, hfz42_5, hfz42_6⟩ := bf7_ BK307.out
       go_wp2_with (first | (go_at_call 24; (with_reducible refine (strongroomref20_Verify.calls kj28 a0 a1 a3_0 a3_3 a3_4 _ _ l3_6 t311 _ ?side1 ?side2 A40.out).mono ?_); (case side1 => exact m29_); (case side2 => exact HC3_6.out); rintro e w43 ⟨rfl, hb⟩; replace BK307 := Aside0.mk (blk_below (g := gb307) (o := .cells #[.int .i64 a3_0, .string a3_1, .string a3_2, .string a3_3, .string a3_4, .slice A3_5 l3_5.length c3_5, .slice A3_6 l3_6.length c3_6] 53 (0, 0)) m14_ hb); replace HB := Aside0.mk (below_step m3_ hb); (try clear hb); (try clear hb2); (try clear hk); (try clear hi)))
       go_ret
       exact ⟨by first | rfl | (simp [errW_none, errW_some] <;> rfl) | (simp [*, errW_none, errW_some] <;> rfl), m38_⟩
      replace c41 := Bool.eq_false_iff.mpr c41
      subst c41
      have H1 : (some false) = some r := by rw [if_neg (show ¬ (false = true) by decide)] at H; exact H
      clear H
      have H := H1
      clear H1
      obtain rfl := Option.some.inj H
      obtain ⟨hcz44_0, hcz44_1, hcz44_2, hcz44_3, hcz44_4, hcz44_5, hcz44_6⟩ := bc7_ BK307.out
      obtain ⟨hfz44_0, hfz44_1, hfz44_2, hfz44_3, hfz44_4, hfz44_5, hfz44_6⟩ := bf7_ BK307.out
      go_wp2_with (first | (go_at_call 24; (with_reducible refine (strongroomref20_Verify.calls kj28 a0 a1 a3_0 a3_3 a3_4 _ _ l3_6 t311 _ ?side1 ?side2 A40.out).mono ?_); (case side1 => exact m29_); (case side2 => exact HC3_6.out); rintro e w45 ⟨rfl, hb⟩; replace BK307 := Aside0.mk (blk_below (g := gb307) (o := .cells #[.int .i64 a3_0, .string a3_1, .string a3_2, .string a3_3, .string a3_4, .slice A3_5 l3_5.length c3_5, .slice A3_6 l3_6.length c3_6] 53 (0, 0)) m14_ hb); replace HB := Aside0.mk (below_step m3_ hb); (try clear hb); (try clear hb2); (try clear hk); (try clear hi)))
      go_ret
      exact ⟨by first | rfl | (simp [errW_none, errW_some] <;> rfl) | (simp [*, errW_none, errW_some] <;> rfl), m38_⟩
     rw [if_neg c37] at H
     have c37b0 : (a3_3.toList == ([] : List UInt8) && (a3_4.toList == ([] : List UInt8))) = false := by simpa using c37
     (try (have c37b1 : decide (a3_3.toList = ([] : List UInt8) && (a3_4.toList == ([] : List UInt8))) = false := by simpa using c37))
     (try (have c37b2 : (a3_3.toList == ([] : List UInt8) && (a3_4.toList == ([] : List UInt8))) = false := by simpa using c37))
     have c37b4 : (a3_3.toList.isEmpty && a3_4.toList.isEmpty) = false := (fun {x_ y_ : List UInt8} {v_ : Bool} (h_ : (x_ == ([] : List UInt8) && (y_ == ([] : List UInt8))) = v_) => (show (x_.isEmpty && y_.isEmpty) = v_ by cases x_ <;> cases y_ <;> first | exact h_ | simpa using h_)) c37b2
     (try (have c37b3 : ¬ (a3_3.toList = ([] : List UInt8) && (a3_4.toList == ([] : List UInt8))) := by simpa using c37))
     clear c37
     by_cases c52 : a3_0 < a1
     case neg =>
      rw [if_neg c52] at H
      have c52b0 : decide (a3_0 < a1) = false := decide_eq_false c52
      clear c52
      by_cases c63 : x9_28 = true
      ·subst c63
       have H1 : (some false) = some r := by rw [if_pos rfl] at H; exact H
       clear H
       have H := H1
       clear H1
       obtain rfl := Option.some.inj H
       obtain ⟨hcz64_0, hcz64_1, hcz64_2, hcz64_3, hcz64_4, hcz64_5, hcz64_6⟩ := bc7_ BK307.out
       obtain ⟨hfz64_0, hfz64_1, hfz64_2, hfz64_3, hfz64_4, hfz64_5, hfz64_6⟩ := bf7_ BK307.out
       go_wp2
       go_ret
       exact ⟨by first | rfl | (simp [errW_none, errW_some] <;> rfl) | (simp [*, errW_none, errW_some] <;> rfl), m38_⟩
      replace c63 := Bool.eq_false_iff.mpr c63
      subst c63
      have H1 : (some false) = some r := by rw [if_neg (show ¬ (false = true) by decide)] at H; exact H
      clear H
      have H := H1
      clear H1
      obtain rfl := Option.some.inj H
      obtain ⟨hcz65_0, hcz65_1, hcz65_2, hcz65_3, hcz65_4, hcz65_5, hcz65_6⟩ := bc7_ BK307.out
      obtain ⟨hfz65_0, hfz65_1, hfz65_2, hfz65_3, hfz65_4, hfz65_5, hfz65_6⟩ := bf7_ BK307.out
      go_wp2
      go_ret
      exact ⟨by first | rfl | (simp [errW_none, errW_some] <;> rfl) | (simp [*, errW_none, errW_some] <;> rfl), m38_⟩
     rw [if_pos c52] at H
     have c52b0 : decide (a3_0 < a1) = true := decide_eq_true c52
     clear c52
     by_cases c53 : (Op.bytesLess a2.toList a3_3.toList) = true
     case neg =>
      rw [if_neg c53] at H
      have c53b0 : (Op.bytesLess a2.toList a3_3.toList) = false := by simpa using c53
      clear c53
      by_cases c60 : x9_28 = true
      ·subst c60
       have H1 : (some false) = some r := by rw [if_pos rfl] at H; exact H
       clear H
       have H := H1
       clear H1
       obtain rfl := Option.some.inj H
       obtain ⟨hcz61_0, hcz61_1, hcz61_2, hcz61_3, hcz61_4, hcz61_5, hcz61_6⟩ := bc7_ BK307.out
       obtain ⟨hfz61_0, hfz61_1, hfz61_2, hfz61_3, hfz61_4, hfz61_5, hfz61_6⟩ := bf7_ BK307.out
       go_wp2
       go_ret
       exact ⟨by first | rfl | (simp [errW_none, errW_some] <;> rfl) | (simp [*, errW_none, errW_some] <;> rfl), m38_⟩
      replace c60 := Bool.eq_false_iff.mpr c60
      subst c60
      have H1 : (some false) = some r := by rw [if_neg (show ¬ (false = true) by decide)] at H; exact H
      clear H
      have H := H1
      clear H1
      obtain rfl := Option.some.inj H
      obtain ⟨hcz62_0, hcz62_1, hcz62_2, hcz62_3, hcz62_4, hcz62_5, hcz62_6⟩ := bc7_ BK307.out
      obtain ⟨hfz62_0, hfz62_1, hfz62_2, hfz62_3, hfz62_4, hfz62_5, hfz62_6⟩ := bf7_ BK307.out
      go_wp2
      go_ret
      exact ⟨by first | rfl | (simp [errW_none, errW_some] <;> rfl) | (simp [*, errW_none, errW_some] <;> rfl), m38_⟩
     rw [if_pos c53] at H
     have c53b0 : (Op.bytesLess a2.toList a3_3.toList) = true := c53
     clear c53
     replace H := Option.bind_eq_some_iff.mp H
     obtain ⟨t312, A540, H⟩ := H
     replace H : (if x9_28 = true then (some t312) else (some false)) = some r := H
     have A54 := Aside0.mk A540
     clear A540
     by_cases c55 : x9_28 = true
     ·subst c55
      have H1 : (some t312) = some r := by rw [if_pos rfl] at H; exact H
      clear H
      have H := H1
      clear H1
      obtain rfl := Option.some.inj H
      obtain ⟨hcz56_0, hcz56_1, hcz56_2, hcz56_3, hcz56_4, hcz56_5, hcz56_6⟩ := bc7_ BK307.out
      obtain ⟨hfz56_0, hfz56_1, hfz56_2, hfz56_3, hfz56_4, hfz56_5, hfz56_6⟩ := bf7_ BK307.out
      go_wp2_with (first | (go_at_call 24; (with_reducible refine (strongroomref20_Verify.calls kj28 a0 a1 a3_0 a3_3 a3_4 _ _ l3_6 t312 _ ?side1 ?side2 A54.out).mono ?_); (case side1 => exact m29_); (case side2 => exact HC3_6.out); rintro e w57 ⟨rfl, hb⟩; replace BK307 := Aside0.mk (blk_below (g := gb307) (o := .cells #[.int .i64 a3_0, .string a3_1, .string a3_2, .string a3_3, .string a3_4, .slice A3_5 l3_5.length c3_5, .slice A3_6 l3_6.length c3_6] 53 (0, 0)) m14_ hb); replace HB := Aside0.mk (below_step m3_ hb); (try clear hb); (try clear hb2); (try clear hk); (try clear hi)))
      go_ret
      exact ⟨by first | rfl | (simp [errW_none, errW_some] <;> rfl) | (simp [*, errW_none, errW_some] <;> rfl), m38_⟩
     replace c55 := Bool.eq_false_iff.mpr c55
     subst c55
     have H1 : (some false) = some r := by rw [if_neg (show ¬ (false = true) by decide)] at H; exact H
     clear H
     have H := H1
     clear H1
     obtain rfl := Option.some.inj H
     obtain ⟨hcz58_0, hcz58_1, hcz58_2, hcz58_3, hcz58_4, hcz58_5, hcz58_6⟩ := bc7_ BK307.out
     obtain ⟨hfz58_0, hfz58_1, hfz58_2, hfz58_3, hfz58_4, hfz58_5, hfz58_6⟩ := bf7_ BK307.out
     go_wp2_with (first | (go_at_call 24; (with_reducible refine (strongroomref20_Verify.calls kj28 a0 a1 a3_0 a3_3 a3_4 _ _ l3_6 t312 _ ?side1 ?side2 A54.out).mono ?_); (case side1 => exact m29_); (case side2 => exact HC3_6.out); rintro e w59 ⟨rfl, hb⟩; replace BK307 := Aside0.mk (blk_below (g := gb307) (o := .cells #[.int .i64 a3_0, .string a3_1, .string a3_2, .string a3_3, .string a3_4, .slice A3_5 l3_5.length c3_5, .slice A3_6 l3_6.length c3_6] 53 (0, 0)) m14_ hb); replace HB := Aside0.mk (below_step m3_ hb); (try clear hb); (try clear hb2); (try clear hk); (try clear hi)))
     go_ret
     exact ⟨by first | rfl | (simp [errW_none, errW_some] <;> rfl) | (simp [*, errW_none, errW_some] <;> rfl), m38_⟩

end Go.Proofs.YtdeggemomajhcaaDoorH.HMerkleAbsent
