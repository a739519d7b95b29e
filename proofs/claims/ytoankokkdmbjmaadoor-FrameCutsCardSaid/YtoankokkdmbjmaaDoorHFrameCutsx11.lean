-- PRINTED by print.py (a twelfth state) out of the translation. Not trusted: Lean checks it.
import Derived.Test.YtoankokkdmbjmaaDoorHFrameCutsx0
import Derived.Test.YtoankokkdmbjmaaDoorHFrameCutsx1
import Derived.Test.YtoankokkdmbjmaaDoorHFrameCutsx7
import Derived.Test.YtoankokkdmbjmaaDoorHFrameCutsx10
namespace Go.Proofs.YtoankokkdmbjmaaDoorH.HFrameCuts
open Go.RowKit Go.Proofs.YtoankokkdmbjmaaDoorW.PrintWords Go.Proofs.YtoankokkdmbjmaaDoorW.PrintLast Go.Proofs.YtoankokkdmbjmaaDoorW.PrintMore
attribute [local go_sem] max2_int min2_int max_two min_two max_three min_three max_four min_four   -- for this text's walks alone
set_option linter.unusedVariables false
set_option linter.unusedSimpArgs false

/-! ### frame_pathRight: function 54 -/
mutual
def frame_pathRight.j0 : Nat → Int → Bool → Int → Int → Int → Int → Int → List (S91) → ByteArray → ByteArray → ByteArray → ByteArray → ByteArray → ByteArray → Option (Bool)
  | 0, _, _, _, _, _, _, _, _, _, _, _, _, _, _ => none
  | k + 1, x4, x5, x284000, x284001, x284002, x284003, x284004, x284005, x284006, x284007, x284008, x284009, x284010, x284011 => if x5 = true then ((path_Place.f x284007).bind fun t284 => (some t284)) else (if x4 = 10 then (frame_pathRight.j1 k (x4 == 10) x284000 x284001 x284002 x284003 x284004 x284005 x284006 x284007 x284008 x284009 x284010 x284011) else (if x4 = 11 then (frame_pathRight.j1 k (x4 == 11) x284000 x284001 x284002 x284003 x284004 x284005 x284006 x284007 x284008 x284009 x284010 x284011) else (if x4 = 5 then (frame_pathRight.j1 k (x4 == 5) x284000 x284001 x284002 x284003 x284004 x284005 x284006 x284007 x284008 x284009 x284010 x284011) else (if x4 = 6 then (frame_pathRight.j1 k (x4 == 6) x284000 x284001 x284002 x284003 x284004 x284005 x284006 x284007 x284008 x284009 x284010 x284011) else (frame_pathRight.j1 k (x4 == 14) x284000 x284001 x284002 x284003 x284004 x284005 x284006 x284007 x284008 x284009 x284010 x284011)))))
def frame_pathRight.j1 : Nat → Bool → Int → Int → Int → Int → Int → List (S91) → ByteArray → ByteArray → ByteArray → ByteArray → ByteArray → ByteArray → Option (Bool)
  | 0, _, _, _, _, _, _, _, _, _, _, _, _, _ => none
  | k + 1, x12, x284000, x284001, x284002, x284003, x284004, x284005, x284006, x284007, x284008, x284009, x284010, x284011 => if x12 = true then (some (x284007.toList == ([] : List UInt8))) else ((path_Good.f x284007).bind fun t285 => (some t285))
end
def frame_pathRight.f (k : Nat) (a0_0 : Int) (a0_1 : Int) (a0_2 : Int) (a0_3 : Int) (a0_4 : Int) (l0_5 : List (S91)) (a0_6 : ByteArray) (a0_7 : ByteArray) (a0_8 : ByteArray) (a0_9 : ByteArray) (a0_10 : ByteArray) (a0_11 : ByteArray) : Option (Bool) := if a0_0 = 1 then (frame_pathRight.j0 k a0_0 (a0_0 == 1) a0_0 a0_1 a0_2 a0_3 a0_4 l0_5 a0_6 a0_7 a0_8 a0_9 a0_10 a0_11) else (if a0_0 = 3 then (frame_pathRight.j0 k a0_0 (a0_0 == 3) a0_0 a0_1 a0_2 a0_3 a0_4 l0_5 a0_6 a0_7 a0_8 a0_9 a0_10 a0_11) else (frame_pathRight.j0 k a0_0 (a0_0 == 13) a0_0 a0_1 a0_2 a0_3 a0_4 l0_5 a0_6 a0_7 a0_8 a0_9 a0_10 a0_11))
theorem frame_pathRight.mono_l : ∀ k, (∀ y0 y1 y2 y3 y4 y5 y6 y7 y8 y9 y10 y11 y12 y13, LeO (frame_pathRight.j0 k y0 y1 y2 y3 y4 y5 y6 y7 y8 y9 y10 y11 y12 y13) (frame_pathRight.j0 (k + 1) y0 y1 y2 y3 y4 y5 y6 y7 y8 y9 y10 y11 y12 y13)) ∧ (∀ y0 y1 y2 y3 y4 y5 y6 y7 y8 y9 y10 y11 y12, LeO (frame_pathRight.j1 k y0 y1 y2 y3 y4 y5 y6 y7 y8 y9 y10 y11 y12) (frame_pathRight.j1 (k + 1) y0 y1 y2 y3 y4 y5 y6 y7 y8 y9 y10 y11 y12))
  | 0 => ⟨fun _ _ _ _ _ _ _ _ _ _ _ _ _ _ r h => by simp [frame_pathRight.j0] at h, fun _ _ _ _ _ _ _ _ _ _ _ _ _ r h => by simp [frame_pathRight.j1] at h⟩
  | k + 1 => by
    obtain ⟨ih0, ih1⟩ := frame_pathRight.mono_l k
    refine ⟨?_, ?_⟩
    · intro y0 y1 y2 y3 y4 y5 y6 y7 y8 y9 y10 y11 y12 y13
      unfold frame_pathRight.j0
      repeat' first
      | (with_reducible exact ih0 _ _ _ _ _ _ _ _ _ _ _ _ _ _)
      | (with_reducible exact ih1 _ _ _ _ _ _ _ _ _ _ _ _ _)
      | (with_reducible exact LeO.refl _)
      | (with_reducible exact LeO.none _)
      | (with_reducible refine LeO.ite ?_ ?_)
      | (with_reducible refine LeO.bind ?_ (fun _ => ?_))
      | exact ih0 _ _ _ _ _ _ _ _ _ _ _ _ _ _
      | exact ih1 _ _ _ _ _ _ _ _ _ _ _ _ _
      | exact LeO.none _
      | refine LeO.ite ?_ ?_
      | refine LeO.bind ?_ (fun _ => ?_)
    · intro y0 y1 y2 y3 y4 y5 y6 y7 y8 y9 y10 y11 y12
      unfold frame_pathRight.j1
      repeat' first
      | (with_reducible exact ih0 _ _ _ _ _ _ _ _ _ _ _ _ _ _)
      | (with_reducible exact ih1 _ _ _ _ _ _ _ _ _ _ _ _ _)
      | (with_reducible exact LeO.refl _)
      | (with_reducible exact LeO.none _)
      | (with_reducible refine LeO.ite ?_ ?_)
      | (with_reducible refine LeO.bind ?_ (fun _ => ?_))
      | exact ih0 _ _ _ _ _ _ _ _ _ _ _ _ _ _
      | exact ih1 _ _ _ _ _ _ _ _ _ _ _ _ _
      | exact LeO.none _
      | refine LeO.ite ?_ ?_
      | refine LeO.bind ?_ (fun _ => ?_)
theorem frame_pathRight.mono : ∀ a0 a1 a2 a3 a4 a5 a6 a7 a8 a9 a10 a11 k, LeO (frame_pathRight.f k a0 a1 a2 a3 a4 a5 a6 a7 a8 a9 a10 a11) (frame_pathRight.f (k + 1) a0 a1 a2 a3 a4 a5 a6 a7 a8 a9 a10 a11) := by
  intro a0 a1 a2 a3 a4 a5 a6 a7 a8 a9 a10 a11 k
  obtain ⟨ih0, ih1⟩ := frame_pathRight.mono_l k
  unfold frame_pathRight.f
  repeat' first
      | (with_reducible exact ih0 _ _ _ _ _ _ _ _ _ _ _ _ _ _)
      | (with_reducible exact ih1 _ _ _ _ _ _ _ _ _ _ _ _ _)
      | (with_reducible exact LeO.refl _)
      | (with_reducible exact LeO.none _)
      | (with_reducible refine LeO.ite ?_ ?_)
      | (with_reducible refine LeO.bind ?_ (fun _ => ?_))
      | exact ih0 _ _ _ _ _ _ _ _ _ _ _ _ _ _
      | exact ih1 _ _ _ _ _ _ _ _ _ _ _ _ _
      | exact LeO.none _
      | refine LeO.ite ?_ ?_
      | refine LeO.bind ?_ (fun _ => ?_)
set_option maxHeartbeats 8000000 in
set_option maxRecDepth 100000 in
theorem frame_pathRight.calls (k : Nat) (a0_0 : Int) (a0_1 : Int) (a0_2 : Int) (a0_3 : Int) (a0_4 : Int) (A0_5 : Option Addr) (c0_5 : Nat) (l0_5 : List (S91)) (a0_6 : ByteArray) (a0_7 : ByteArray) (a0_8 : ByteArray) (a0_9 : ByteArray) (a0_10 : ByteArray) (a0_11 : ByteArray) (r : Bool) (w : World) (hr0_5 : Kd.C k91 w A0_5 l0_5.length l0_5) (hc0_5 : l0_5.length ≤ c0_5) (h : frame_pathRight.f k a0_0 a0_1 a0_2 a0_3 a0_4 l0_5 a0_6 a0_7 a0_8 a0_9 a0_10 a0_11 = some r) :
    Calls Tryd.prog 54 #[.agg #[.int .i64 a0_0, .int .i64 a0_1, .int .i64 a0_2, .int .i64 a0_3, .int .i64 a0_4, .slice A0_5 l0_5.length c0_5, .string a0_6, .string a0_7, .string a0_8, .string a0_9, .string a0_10, .string a0_11]] w fun e w' => e = .returned (.bool r) ∧ Below w.heap.size w w' := by
  have hu47 := Tryd.underlying47
  have HR0_5 := Aside0.mk hr0_5
  have HC0_5 := Aside0.mk hc0_5
  clear hr0_5 hc0_5
  have HB := Aside0.mk (Below.refl w.heap.size w)
  have H : (if a0_0 = 1 then (frame_pathRight.j0 k a0_0 (a0_0 == 1) a0_0 a0_1 a0_2 a0_3 a0_4 l0_5 a0_6 a0_7 a0_8 a0_9 a0_10 a0_11) else (if a0_0 = 3 then (frame_pathRight.j0 k a0_0 (a0_0 == 3) a0_0 a0_1 a0_2 a0_3 a0_4 l0_5 a0_6 a0_7 a0_8 a0_9 a0_10 a0_11) else (frame_pathRight.j0 k a0_0 (a0_0 == 13) a0_0 a0_1 a0_2 a0_3 a0_4 l0_5 a0_6 a0_7 a0_8 a0_9 a0_10 a0_11))) = some r := h
  clear h
  have HC2 := Aside0.mk H
  clear H
  go_enter Tryd.func54, Tryd.ntmps54
  go_upto_if 5 with (first | ((with_reducible refine gate_dst (N := 1) rfl ?_); refine box_event ?hg (N := 1) ?hd (cs := #[.int .i64 a0_0, .int .i64 a0_1, .int .i64 a0_2, .int .i64 a0_3, .int .i64 a0_4, .slice A0_5 l0_5.length c0_5, .string a0_6, .string a0_7, .string a0_8, .string a0_9, .string a0_10, .string a0_11]) (t := 47) ?hr ?_; (case hd => rfl); (case hg => rfl); (case hr => first | (go_simp; done) | (go_simp; rfl)); intro gb283 hg w3 hbox hb; have n0_ := Aside0.mk (below_step m13_ hb); have n1_ := Aside0.mk (hbox); have n2_ := Aside0.mk ((by rw [hg]; exact (below_size m13_) : w.heap.size ≤ gb283)); have n3_ := Aside0.mk ((by rw [hg]; exact (below_size m13_) : w.heap.size ≤ gb283)); clear HB; have HB := n0_; have BK283 := n1_; have GW283 := n2_; have GE283 := n3_; clear n0_ n1_ n2_ n3_; clear hb hbox hg; obtain ⟨hcz4_0, hcz4_1, hcz4_2, hcz4_3, hcz4_4, hcz4_5, hcz4_6, hcz4_7, hcz4_8, hcz4_9, hcz4_10, hcz4_11⟩ := bc12_ BK283.out; obtain ⟨hfz4_0, hfz4_1, hfz4_2, hfz4_3, hfz4_4, hfz4_5, hfz4_6, hfz4_7, hfz4_8, hfz4_9, hfz4_10, hfz4_11⟩ := bf12_ BK283.out))
  (try simp only [Act.put, List.setIfInBounds_toArray, List.set_cons_zero, List.set_cons_succ])
  go_cut [5] (fun v5 wc => ∃ (kq : Nat) (x5_1 : Bool), v5 = .bool x5_1 ∧ Aside0 (frame_pathRight.j0 kq a0_0 x5_1 a0_0 a0_1 a0_2 a0_3 a0_4 l0_5 a0_6 a0_7 a0_8 a0_9 a0_10 a0_11 = some r) ∧ Aside0 (kq ≤ k) ∧ Aside0 (wc.heap[gb283]? = some (.cells #[.int .i64 a0_0, .int .i64 a0_1, .int .i64 a0_2, .int .i64 a0_3, .int .i64 a0_4, (.slice A0_5 l0_5.length c0_5), .string a0_6, .string a0_7, .string a0_8, .string a0_9, .string a0_10, .string a0_11] 47 (0, 0))) ∧ Aside0 (Below w.heap.size w wc))
  case first =>
   have H := HC2.out
   clear HC2
   by_cases c5 : a0_0 = 1
   ·rw [if_pos c5] at H
    have c5b0 : (a0_0 == 1) = true := beq_iff_eq.mpr c5
    have c5b1 : (a0_0 != 1) = false := bne_eq_false_iff_eq.mpr c5
    clear c5
    (first | rw [c5b0] | (simp only [i64_w, i32_w]; rw [c5b0]) | skip)
    have H' := Aside0.mk H
    clear H
    go_wp2
    go_meet
    case rel => exact ⟨_, ((a0_0 == 1)), m28_, H', ⟨by first | omega | exact Nat.le_refl _⟩, ⟨by (with_reducible repeat (first | refine blk_drewN ?_ _ | refine blk_drew ?_ | refine blk_alloc ?_ _)); exact BK283.out⟩, ⟨m45_⟩⟩
   rw [if_neg c5] at H
   have c5b0 : (a0_0 == 1) = false := beq_eq_false_iff_ne.mpr c5
   have c5b1 : (a0_0 != 1) = true := bne_iff_ne.mpr c5
   (first | rw [c5b0] | (simp only [i64_w, i32_w]; rw [c5b0]) | skip)
   by_cases c6 : a0_0 = 3
   case neg =>
    rw [if_neg c6] at H
    have c6b0 : (a0_0 == 3) = false := beq_eq_false_iff_ne.mpr c6
    have c6b1 : (a0_0 != 3) = true := bne_iff_ne.mpr c6
    have H' := Aside0.mk H
    clear H
    go_wp2
    go_meet
    case rel => exact ⟨_, ((a0_0 == 13)), m28_, H', ⟨by first | omega | exact Nat.le_refl _⟩, ⟨by (with_reducible repeat (first | refine blk_drewN ?_ _ | refine blk_drew ?_ | refine blk_alloc ?_ _)); exact BK283.out⟩, ⟨m45_⟩⟩
   rw [if_pos c6] at H
   have c6b0 : (a0_0 == 3) = true := beq_iff_eq.mpr c6
   have c6b1 : (a0_0 != 3) = false := bne_eq_false_iff_eq.mpr c6
   clear c6
   have H' := Aside0.mk H
   clear H
   go_wp2
   go_meet
   case rel => exact ⟨_, ((a0_0 == 3)), m28_, H', ⟨by first | omega | exact Nat.le_refl _⟩, ⟨by (with_reducible repeat (first | refine blk_drewN ?_ _ | refine blk_drew ?_ | refine blk_alloc ?_ _)); exact BK283.out⟩, ⟨m45_⟩⟩
  clear HC2
  try clear p2; try clear c5; try clear c5b0; try clear c5b1; try clear c6; try clear c6b0; try clear c6b1; try clear hcz4_0; try clear hcz4_1; try clear hcz4_10; try clear hcz4_11; try clear hcz4_2; try clear hcz4_3; try clear hcz4_4; try clear hcz4_5; try clear hcz4_6; try clear hcz4_7; try clear hcz4_8; try clear hcz4_9; try clear hfz4_0; try clear hfz4_1; try clear hfz4_10; try clear hfz4_11; try clear hfz4_2; try clear hfz4_3; try clear hfz4_4; try clear hfz4_5; try clear hfz4_6; try clear hfz4_7; try clear hfz4_8; try clear hfz4_9
  obtain ⟨kq, x5_1, rfl, HA, HJ1, BK283, HB⟩ := hcut
  cases kq with
  | zero => exact absurd HA.out (by simp [frame_pathRight.j0])
  | succ kj1 =>
   have H := HA.out
   clear HA
   simp only [frame_pathRight.j0] at H
   by_cases c7 : x5_1 = true
   ·subst c7
    have H1 : ((path_Place.f a0_7).bind fun t284 => (some t284)) = some r := by rw [if_pos rfl] at H; exact H
    clear H
    have H := H1
    clear H1
    replace H := Option.bind_eq_some_iff.mp H
    obtain ⟨t284, A80, H⟩ := H
    replace H : (some t284) = some r := H
    have A8 := Aside0.mk A80
    clear A80
    obtain rfl := Option.some.inj H
    obtain ⟨hcz9_0, hcz9_1, hcz9_2, hcz9_3, hcz9_4, hcz9_5, hcz9_6, hcz9_7, hcz9_8, hcz9_9, hcz9_10, hcz9_11⟩ := bc12_ BK283.out
    obtain ⟨hfz9_0, hfz9_1, hfz9_2, hfz9_3, hfz9_4, hfz9_5, hfz9_6, hfz9_7, hfz9_8, hfz9_9, hfz9_10, hfz9_11⟩ := bf12_ BK283.out
    go_wp2_with (first | ((with_reducible refine gate_callee (f := 83) rfl ?_); refine goesL_ (some 11) rfl rfl Tryd.func83 (by kernel_rfl) rfl #[.string a0_7] rfl m12_ ?_; (with_reducible refine (path_Place.calls a0_7 t284 _ A8.out).mono ?_); rintro e w10 ⟨rfl, hb⟩; refine ⟨_, rfl, ?_⟩; have n0_ := Aside0.mk (blk_below (g := gb283) (o := .cells #[.int .i64 a0_0, .int .i64 a0_1, .int .i64 a0_2, .int .i64 a0_3, .int .i64 a0_4, .slice A0_5 l0_5.length c0_5, .string a0_6, .string a0_7, .string a0_8, .string a0_9, .string a0_10, .string a0_11] 47 (0, 0)) (by (with_reducible repeat (first | refine blk_drewN ?_ _ | refine blk_drew ?_ | refine blk_alloc ?_ _)); exact BK283.out) hb); have n1_ := Aside0.mk (below_step (by repeat (first | (with_reducible first | exact HB.out | apply below_alloc | apply pw_below_drewN | apply below_drew1 | refine below_set ?_ GE283.out) | exact HB.out)) hb); clear BK283; clear HB; have BK283 := n0_; have HB := n1_; clear n0_ n1_; (try clear hb); (try clear hb2); (try clear hk); (try clear hi)))
    go_ret
    exact ⟨by first | rfl | (simp [errW_none, errW_some] <;> rfl) | (simp [*, errW_none, errW_some] <;> rfl), m45_⟩
   replace c7 := Bool.eq_false_iff.mpr c7
   subst c7
   have H1 : (if a0_0 = 10 then (frame_pathRight.j1 kj1 (a0_0 == 10) a0_0 a0_1 a0_2 a0_3 a0_4 l0_5 a0_6 a0_7 a0_8 a0_9 a0_10 a0_11) else (if a0_0 = 11 then (frame_pathRight.j1 kj1 (a0_0 == 11) a0_0 a0_1 a0_2 a0_3 a0_4 l0_5 a0_6 a0_7 a0_8 a0_9 a0_10 a0_11) else (if a0_0 = 5 then (frame_pathRight.j1 kj1 (a0_0 == 5) a0_0 a0_1 a0_2 a0_3 a0_4 l0_5 a0_6 a0_7 a0_8 a0_9 a0_10 a0_11) else (if a0_0 = 6 then (frame_pathRight.j1 kj1 (a0_0 == 6) a0_0 a0_1 a0_2 a0_3 a0_4 l0_5 a0_6 a0_7 a0_8 a0_9 a0_10 a0_11) else (frame_pathRight.j1 kj1 (a0_0 == 14) a0_0 a0_1 a0_2 a0_3 a0_4 l0_5 a0_6 a0_7 a0_8 a0_9 a0_10 a0_11))))) = some r := by rw [if_neg (show ¬ (false = true) by decide)] at H; exact H
   clear H
   have H := H1
   clear H1
   have HC11 := Aside0.mk H
   clear H
   go_upto_if 12 with (fail)
   go_cut [12] (fun v12 wc => ∃ (kq : Nat) (x12_10 : Bool), v12 = .bool x12_10 ∧ Aside0 (frame_pathRight.j1 kq x12_10 a0_0 a0_1 a0_2 a0_3 a0_4 l0_5 a0_6 a0_7 a0_8 a0_9 a0_10 a0_11 = some r) ∧ Aside0 (kq ≤ kj1) ∧ Aside0 (wc.heap[gb283]? = some (.cells #[.int .i64 a0_0, .int .i64 a0_1, .int .i64 a0_2, .int .i64 a0_3, .int .i64 a0_4, (.slice A0_5 l0_5.length c0_5), .string a0_6, .string a0_7, .string a0_8, .string a0_9, .string a0_10, .string a0_11] 47 (0, 0))) ∧ Aside0 (Below w.heap.size w wc))
   case first =>
    have H := HC11.out
    clear HC11
    by_cases c12 : a0_0 = 10
    ·rw [if_pos c12] at H
     have c12b0 : (a0_0 == 10) = true := beq_iff_eq.mpr c12
     have c12b1 : (a0_0 != 10) = false := bne_eq_false_iff_eq.mpr c12
     clear c12
     (first | rw [c12b0] | (simp only [i64_w, i32_w]; rw [c12b0]) | skip)
     have H' := Aside0.mk H
     clear H
     go_wp2
     go_meet
     case rel => exact ⟨_, ((a0_0 == 10)), m28_, H', ⟨by have := HJ1.out; first | omega | exact Nat.le_refl _⟩, ⟨by (with_reducible repeat (first | refine blk_drewN ?_ _ | refine blk_drew ?_ | refine blk_alloc ?_ _)); exact BK283.out⟩, ⟨m45_⟩⟩
    rw [if_neg c12] at H
    have c12b0 : (a0_0 == 10) = false := beq_eq_false_iff_ne.mpr c12
    have c12b1 : (a0_0 != 10) = true := bne_iff_ne.mpr c12
    (first | rw [c12b0] | (simp only [i64_w, i32_w]; rw [c12b0]) | skip)
    by_cases c13 : a0_0 = 11
    ·rw [if_pos c13] at H
     have c13b0 : (a0_0 == 11) = true := beq_iff_eq.mpr c13
     have c13b1 : (a0_0 != 11) = false := bne_eq_false_iff_eq.mpr c13
     clear c13
     have H' := Aside0.mk H
     clear H
     go_wp2
     go_meet
     case rel => exact ⟨_, ((a0_0 == 11)), m28_, H', ⟨by have := HJ1.out; first | omega | exact Nat.le_refl _⟩, ⟨by (with_reducible repeat (first | refine blk_drewN ?_ _ | refine blk_drew ?_ | refine blk_alloc ?_ _)); exact BK283.out⟩, ⟨m45_⟩⟩
    rw [if_neg c13] at H
    have c13b0 : (a0_0 == 11) = false := beq_eq_false_iff_ne.mpr c13
    have c13b1 : (a0_0 != 11) = true := bne_iff_ne.mpr c13
    by_cases c14 : a0_0 = 5
    ·rw [if_pos c14] at H
     have c14b0 : (a0_0 == 5) = true := beq_iff_eq.mpr c14
     have c14b1 : (a0_0 != 5) = false := bne_eq_false_iff_eq.mpr c14
     clear c14
     have H' := Aside0.mk H
     clear H
     go_wp2
     go_meet
     case rel => exact ⟨_, ((a0_0 == 5)), m28_, H', ⟨by have := HJ1.out; first | omega | exact Nat.le_refl _⟩, ⟨by (with_reducible repeat (first | refine blk_drewN ?_ _ | refine blk_drew ?_ | refine blk_alloc ?_ _)); exact BK283.out⟩, ⟨m45_⟩⟩
    rw [if_neg c14] at H
    have c14b0 : (a0_0 == 5) = false := beq_eq_false_iff_ne.mpr c14
    have c14b1 : (a0_0 != 5) = true := bne_iff_ne.mpr c14
    by_cases c15 : a0_0 = 6
    case neg =>
     rw [if_neg c15] at H
     have c15b0 : (a0_0 == 6) = false := beq_eq_false_iff_ne.mpr c15
     have c15b1 : (a0_0 != 6) = true := bne_iff_ne.mpr c15
     have H' := Aside0.mk H
     clear H
     go_wp2
     go_meet
     case rel => exact ⟨_, ((a0_0 == 14)), m28_, H', ⟨by have := HJ1.out; first | omega | exact Nat.le_refl _⟩, ⟨by (with_reducible repeat (first | refine blk_drewN ?_ _ | refine blk_drew ?_ | refine blk_alloc ?_ _)); exact BK283.out⟩, ⟨m45_⟩⟩
    rw [if_pos c15] at H
    have c15b0 : (a0_0 == 6) = true := beq_iff_eq.mpr c15
    have c15b1 : (a0_0 != 6) = false := bne_eq_false_iff_eq.mpr c15
    clear c15
    have H' := Aside0.mk H
    clear H
    go_wp2
    go_meet
    case rel => exact ⟨_, ((a0_0 == 6)), m28_, H', ⟨by have := HJ1.out; first | omega | exact Nat.le_refl _⟩, ⟨by (with_reducible repeat (first | refine blk_drewN ?_ _ | refine blk_drew ?_ | refine blk_alloc ?_ _)); exact BK283.out⟩, ⟨m45_⟩⟩
   clear HC11
   try clear c1; try clear p2; try clear c5; try clear c5b0; try clear c5b1; try clear c6; try clear c6b0; try clear c6b1; try clear c7; try clear c8; try clear c12; try clear c12b0; try clear c12b1; try clear c13; try clear c13b0; try clear c13b1; try clear c14; try clear c14b0; try clear c14b1; try clear c15; try clear c15b0; try clear c15b1; try clear hcz4_0; try clear hcz4_1; try clear hcz4_10; try clear hcz4_11; try clear hcz4_2; try clear hcz4_3; try clear hcz4_4; try clear hcz4_5; try clear hcz4_6; try clear hcz4_7; try clear hcz4_8; try clear hcz4_9; try clear hcz9_0; try clear hcz9_1; try clear hcz9_10; try clear hcz9_11; try clear hcz9_2; try clear hcz9_3; try clear hcz9_4; try clear hcz9_5; try clear hcz9_6; try clear hcz9_7; try clear hcz9_8; try clear hcz9_9; try clear hfz4_0; try clear hfz4_1; try clear hfz4_10; try clear hfz4_11; try clear hfz4_2; try clear hfz4_3; try clear hfz4_4; try clear hfz4_5; try clear hfz4_6; try clear hfz4_7; try clear hfz4_8; try clear hfz4_9; try clear hfz9_0; try clear hfz9_1; try clear hfz9_10; try clear hfz9_11; try clear hfz9_2; try clear hfz9_3; try clear hfz9_4; try clear hfz9_5; try clear hfz9_6; try clear hfz9_7; try clear hfz9_8; try clear hfz9_9; try clear p2
   obtain ⟨kq, x12_10, rfl, HA, HJ10, BK283, HB⟩ := hcut
   cases kq with
   | zero => exact absurd HA.out (by simp [frame_pathRight.j1])
   | succ kj10 =>
    have H := HA.out
    clear HA
    simp only [frame_pathRight.j1] at H
    by_cases c16 : x12_10 = true
    ·subst c16
     have H1 : (some (a0_7.toList == ([] : List UInt8))) = some r := by rw [if_pos rfl] at H; exact H
     clear H
     have H := H1
     clear H1
     obtain rfl := Option.some.inj H
     obtain ⟨hcz17_0, hcz17_1, hcz17_2, hcz17_3, hcz17_4, hcz17_5, hcz17_6, hcz17_7, hcz17_8, hcz17_9, hcz17_10, hcz17_11⟩ := bc12_ BK283.out
     obtain ⟨hfz17_0, hfz17_1, hfz17_2, hfz17_3, hfz17_4, hfz17_5, hfz17_6, hfz17_7, hfz17_8, hfz17_9, hfz17_10, hfz17_11⟩ := bf12_ BK283.out
     go_wp2
     go_ret
     exact ⟨by first | rfl | (simp [errW_none, errW_some] <;> rfl) | (simp [*, errW_none, errW_some] <;> rfl), m45_⟩
    replace c16 := Bool.eq_false_iff.mpr c16
    subst c16
    have H1 : ((path_Good.f a0_7).bind fun t285 => (some t285)) = some r := by rw [if_neg (show ¬ (false = true) by decide)] at H; exact H
    clear H
    have H := H1
    clear H1
    replace H := Option.bind_eq_some_iff.mp H
    obtain ⟨t285, A180, H⟩ := H
    replace H : (some t285) = some r := H
    have A18 := Aside0.mk A180
    clear A180
    obtain rfl := Option.some.inj H
    obtain ⟨hcz19_0, hcz19_1, hcz19_2, hcz19_3, hcz19_4, hcz19_5, hcz19_6, hcz19_7, hcz19_8, hcz19_9, hcz19_10, hcz19_11⟩ := bc12_ BK283.out
    obtain ⟨hfz19_0, hfz19_1, hfz19_2, hfz19_3, hfz19_4, hfz19_5, hfz19_6, hfz19_7, hfz19_8, hfz19_9, hfz19_10, hfz19_11⟩ := bf12_ BK283.out
    go_wp2_with (first | ((with_reducible refine gate_callee (f := 70) rfl ?_); refine goesL_ (some 23) rfl rfl Tryd.func70 (by kernel_rfl) rfl #[.string a0_7] rfl m12_ ?_; (with_reducible refine (path_Good.calls a0_7 t285 _ A18.out).mono ?_); rintro e w20 ⟨rfl, hb⟩; refine ⟨_, rfl, ?_⟩; have n0_ := Aside0.mk (blk_below (g := gb283) (o := .cells #[.int .i64 a0_0, .int .i64 a0_1, .int .i64 a0_2, .int .i64 a0_3, .int .i64 a0_4, .slice A0_5 l0_5.length c0_5, .string a0_6, .string a0_7, .string a0_8, .string a0_9, .string a0_10, .string a0_11] 47 (0, 0)) (by (with_reducible repeat (first | refine blk_drewN ?_ _ | refine blk_drew ?_ | refine blk_alloc ?_ _)); exact BK283.out) hb); have n1_ := Aside0.mk (below_step (by repeat (first | (with_reducible first | exact HB.out | apply below_alloc | apply pw_below_drewN | apply below_drew1 | refine below_set ?_ GE283.out) | exact HB.out)) hb); clear BK283; clear HB; have BK283 := n0_; have HB := n1_; clear n0_ n1_; (try clear hb); (try clear hb2); (try clear hk); (try clear hi)))
    go_ret
    exact ⟨by first | rfl | (simp [errW_none, errW_some] <;> rfl) | (simp [*, errW_none, errW_some] <;> rfl), m45_⟩

/-! ### path_Name: function 84 -/
def path_Name.f (a0 : ByteArray) : Option (Bool) := some (Go.Proofs.YtoankokkdmbjmaaDoor.nameB a0.data.toList)
theorem path_Name.calls (a0 : ByteArray) (r : Bool) (w : World) (h : path_Name.f a0 = some r) :
    Calls Tryd.prog 84 #[.string a0] w fun e w' => e = .returned (.bool r) ∧ Below w.heap.size w w' := by
  obtain rfl := Option.some.inj h
  exact Go.Proofs.YtoankokkdmbjmaaDoor.name_any a0 w

/-! ### delta_Check: function 97 -/
/-- may a piece be -/
def pcOk (p : S119) : Bool := if p.f0 = true then decide (0 ≤ p.f1) && (p.f2.toList == []) else (p.f1 == 0) && (p.f2.toList != [])
/-- may pieces be behind one that tells bytes (or not) -/
def pcsOk : Bool → List S119 → Bool
  | _, [] => true
  | b, p :: l => pcOk p && (!(b && !p.f0) && pcsOk (!p.f0) l)
def pcBef (l : List S119) (m : Nat) : Bool := if m = 0 then false else !(rd_T119 l ((m : Int) - 1)).f0
theorem pcs_step (l : List S119) (m : Nat) (h : m < l.length) : pcsOk (pcBef l m) (l.drop m) = (pcOk (rd_T119 l m) && (!(pcBef l m && !(rd_T119 l m).f0) && pcsOk (pcBef l (m + 1)) (l.drop (m + 1)))) := by
  have hd : l.drop m = rd_T119 l m :: l.drop (m + 1) := by
    rw [List.drop_eq_getElem_cons h]; congr 1
    simp [rd_T119, List.getD_eq_getElem?_getD, h]
  have hb : pcBef l (m + 1) = !(rd_T119 l m).f0 := by
    unfold pcBef; rw [if_neg (by omega), show (((m + 1 : Nat) : Int) - 1) = (m : Int) by omega]
  rw [hd, pcsOk, hb]
def delta_Check.f (l0 : List S119) : Option Int := some (if l0.length ≤ 1024 ∧ pcsOk false l0 = true then 0 else 1)
/-- what holds at a round's head -/
def ckI (w : World) (l0 : List S119) (i : Value) (wr : World) : Prop := ∃ m : Nat, i = .int .i64 m ∧ m ≤ l0.length ∧ pcsOk false l0 = pcsOk (pcBef l0 m) (l0.drop m) ∧ Below w.heap.size w wr
set_option maxHeartbeats 4000000 in
theorem delta_Check.calls (A0 : Option Addr) (c0 : Nat) (l0 : List (S119)) (r : Int) (w : World) (hr0 : Kd.C k119 w A0 l0.length l0) (hc0 : l0.length ≤ c0) (h : delta_Check.f l0 = some r) :
    Calls Tryd.prog 97 #[.slice A0 l0.length c0] w fun e w' => e = .returned (.int .i64 r) ∧ Below w.heap.size w w' := by
  obtain rfl := Option.some.inj h
  clear h
  have HR := Aside0.mk hr0
  clear hr0 hc0
  by_cases hl : l0.length ≤ 1024
  case neg =>
   have e1 := Aside0.mk (show (if l0.length ≤ 1024 ∧ pcsOk false l0 = true then (0 : Int) else 1) = 1 by rw [if_neg (fun h => hl h.1)])
   have hl1 : (1024 : Int) < l0.length := by omega
   clear hl
   rw [e1.out]
   go_enter Tryd.func97, Tryd.ntmps97
   go_wp2
   go_ret
   exact ⟨rfl, Below.refl _ _⟩
  have hl1 : (l0.length : Int) ≤ 1024 := by omega
  generalize hr : (if l0.length ≤ 1024 ∧ pcsOk false l0 = true then (0 : Int) else 1) = r
  have HRR := Aside0.mk (show r = if pcsOk false l0 = true then (0 : Int) else 1 by rw [← hr]; simp [hl])
  clear hr
  go_enter Tryd.func97, Tryd.ntmps97
  go_wp2
  go_loopw [11] (fun i wr => ckI w l0 i wr) (fun i _ => l0.length - (intOf i).toNat)
  case atStart => exact ⟨0, rfl, by omega, rfl, Below.refl _ _⟩
  obtain ⟨m, rfl, hm, hs, hb⟩ := hrel
  have HS := Aside0.mk hs
  have HB := Aside0.mk hb
  by_cases hlt : m < l0.length
  case neg =>
   have hm1 : ¬ (m : Int) < l0.length := by omega
   have e1 := Aside0.mk (show r = 0 by rw [HRR.out, HS.out, List.drop_eq_nil_of_le (by omega)]; rfl)
   clear hs hb hlt
   go_wp2
   go_ret
   exact ⟨by rw [e1.out]; rfl, HB.out⟩
  have hst := pcs_step l0 m hlt
  rw [← HS.out] at hst
  obtain ⟨ad, rfl, k0, k1, k2⟩ := at_T119 (Kd.C_below HR.out HB.out) (m : Int) (by omega) (by omega)
  simp only [Int.toNat_natCast] at k0 k1 k2
  have hlt1 : (m : Int) < l0.length := by omega
  have hp : ∃ q : Bool, pcBef l0 m = q ∧ (0 < m → wr.cell? (ad.add ((m - 1) * 3)) = some (.bool (!q))) := by
    refine ⟨_, rfl, fun h0 => ?_⟩
    obtain ⟨ad', e, j0, _, _⟩ := at_T119 (Kd.C_below HR.out HB.out) ((m : Int) - 1) (by omega) (by omega)
    cases e
    rw [show ((m : Int) - 1).toNat = m - 1 by omega] at j0
    rw [j0, pcBef, if_neg (by omega), Bool.not_not]
  obtain ⟨q, hq, k3⟩ := hp
  rw [hq] at hst
  generalize hx : rd_T119 l0 (m : Int) = p at k0 k1 k2 hst
  obtain ⟨c, n, s⟩ := p
  simp only at k0 k1 k2 hst
  have HST := Aside0.mk hst
  have HSZ := Aside0.mk hb.size
  have hq0 : m = 0 → q = false := fun h0 => by rw [← hq, pcBef, if_pos h0]
  clear hs hb hst hq hlt
  cases c
  ·by_cases hn : n = 0
   case neg =>
    have d1 : (n == 0) = false := beq_eq_false_iff_ne.mpr hn
    have E1 := Aside0.mk (show r = 1 by rw [HRR.out, HST.out, pcOk]; simp [d1])
    clear hn k3 hq0
    go_wp2
    go_ret
    exact ⟨by rw [E1.out]; rfl, below_alloc HB.out _⟩
   have d1 : (n == 0) = true := beq_iff_eq.mpr hn
   by_cases hs : s.toList = []
   ·have f1 : (s.toList == ([] : List UInt8)) = true := beq_iff_eq.mpr hs
    have f2 : (s.toList != ([] : List UInt8)) = false := bne_eq_false_iff_eq.mpr hs
    have E1 := Aside0.mk (show r = 1 by rw [HRR.out, HST.out, pcOk]; simp [f2])
    clear hn hs k3 hq0
    go_wp2
    go_ret
    exact ⟨by rw [E1.out]; rfl, below_alloc HB.out _⟩
   have f1 : (s.toList == ([] : List UInt8)) = false := beq_eq_false_iff_ne.mpr hs
   have f2 : (s.toList != ([] : List UInt8)) = true := bne_iff_ne.mpr hs
   have E0 := Aside0.mk (show pcOk ⟨false, n, s⟩ = true by rw [pcOk]; simp [d1, f2])
   clear hn hs
   by_cases hm0 : m = 0
   ·have hq1 := hq0 hm0
    subst hq1
    have hm1 : ¬ (0 : Int) < m := by omega
    have E1 := Aside0.mk (show pcsOk false l0 = pcsOk (pcBef l0 (m + 1)) (l0.drop (m + 1)) by rw [HST.out, E0.out]; rfl)
    clear hm0 hq0 k3
    go_wp2
    go_roundw
    case rel => exact ⟨m + 1, by go_num, by omega, E1.out, below_alloc HB.out _⟩
    case measure => simp [intOf]; omega
   have hm1 : (0 : Int) < m := by omega
   have hm2 : 0 < m := by omega
   have k4 := pw_cell_below (below_alloc (Below.refl _ _) (.cells #[.bool false, .int .i64 n, .string s] 119)) (k3 (by omega))
   have hw := Aside0.mk (show ((m : Int) - 1).toNat = m - 1 by omega)
   clear hm0 hq0 k3
   cases q
   ·have E1 := Aside0.mk (show pcsOk false l0 = pcsOk (pcBef l0 (m + 1)) (l0.drop (m + 1)) by rw [HST.out, E0.out]; rfl)
    go_wp2
    go_roundw
    case rel => exact ⟨m + 1, by go_num, by omega, E1.out, below_alloc HB.out _⟩
    case measure => simp [intOf]; omega
   have E1 := Aside0.mk (show r = 1 by rw [HRR.out, HST.out]; simp)
   go_wp2
   go_ret
   exact ⟨by rw [E1.out]; rfl, below_alloc HB.out _⟩
  by_cases hn : 0 ≤ n
  case neg =>
   have d1 : decide (0 ≤ n) = false := decide_eq_false hn
   have E1 := Aside0.mk (show r = 1 by rw [HRR.out, HST.out, pcOk]; simp [d1])
   clear hn k3 hq0
   go_wp2
   go_ret
   exact ⟨by rw [E1.out]; rfl, below_alloc HB.out _⟩
  have d1 : decide (0 ≤ n) = true := decide_eq_true hn
  by_cases hs : s.toList = []
  case neg =>
   have f1 : (s.toList == ([] : List UInt8)) = false := beq_eq_false_iff_ne.mpr hs
   have E1 := Aside0.mk (show r = 1 by rw [HRR.out, HST.out, pcOk]; simp [f1])
   clear hs k3 hq0
   go_wp2
   go_ret
   exact ⟨by rw [E1.out]; rfl, below_alloc HB.out _⟩
  have f1 : (s.toList == ([] : List UInt8)) = true := beq_iff_eq.mpr hs
  have E0 := Aside0.mk (show pcsOk false l0 = pcsOk (pcBef l0 (m + 1)) (l0.drop (m + 1)) by rw [HST.out, pcOk]; simp [d1, f1])
  clear hs k3 hq0
  go_wp2
  all_goals
    go_roundw
    case rel => exact ⟨m + 1, by go_num, by omega, E0.out, below_alloc HB.out _⟩
    case measure => simp [intOf]; omega

/-! ### delta_Decode: function 85 -/
mutual
def delta_Decode.j0 : Nat → List Int → Int → Int → Bool → Option ((List (S119)) × Int)
  | 0, _, _, _, _ => none
  | k + 1, x0, x4, x5, x26 => if x26 = true then (some (([] : List (S119)), 4)) else (delta_Decode.l0 k x0 x5 ([] : List (S119)) x4 0)
def delta_Decode.l0 : Nat → List Int → Int → List (S119) → Int → Int → Option ((List (S119)) × Int)
  | 0, _, _, _, _, _ => none
  | k + 1, x0, x5, x7, x27, x28 => if x28 < x27 then ((num_Get.f k x0 x5).bind fun bt289 => (if bt289.2.2 = 0 then (if (Go.bits .and .u64 bt289.1 1) = 1 then (if x7.length < 4398046511104 then (delta_Decode.l0 k x0 bt289.2.1 (x7 ++ [(⟨true, wrap64 (bt289.1 / 2), (⟨#[]⟩ : ByteArray)⟩ : S119)]) x27 (IntKind.u64.wrap (x28 + 1))) else (none)) else (if (bt289.1 / 2) > (IntKind.u64.wrap (wrap64 ((x0.length : Int) - bt289.2.1))) then (some (([] : List (S119)), 4)) else (if 0 ≤ bt289.2.1 then (if bt289.2.1 ≤ (wrap64 (bt289.2.1 + (wrap64 (bt289.1 / 2)))) then (if (wrap64 (bt289.2.1 + (wrap64 (bt289.1 / 2)))) ≤ (x0.length : Int) then (if x7.length < 4398046511104 then (delta_Decode.l0 k x0 (wrap64 (bt289.2.1 + (wrap64 (bt289.1 / 2)))) (x7 ++ [(⟨false, 0, strOfNums ((x0.take ((wrap64 (bt289.2.1 + (wrap64 (bt289.1 / 2)))) : Int).toNat).drop (bt289.2.1 : Int).toNat)⟩ : S119)]) x27 (IntKind.u64.wrap (x28 + 1))) else (none)) else (none)) else (none)) else (none)))) else (some (([] : List (S119)), 4)))) else (if x5 = (x0.length : Int) then ((delta_Check.f x7).bind fun t299 => (if t299 = 0 then (some (x7, 0)) else (some (([] : List (S119)), 4)))) else (some (([] : List (S119)), 4)))
end
def delta_Decode.f (k : Nat) (l0 : List Int) : Option ((List (S119)) × Int) := if (l0.length : Int) > 65536 then (some (([] : List (S119)), 2)) else ((num_Get.f k l0 0).bind fun bt286 => (if bt286.2.2 = 0 then (delta_Decode.j0 k l0 bt286.1 bt286.2.1 (decide (bt286.1 > 1024))) else (delta_Decode.j0 k l0 bt286.1 bt286.2.1 true)))
theorem delta_Decode.mono_l : ∀ k, (∀ y0 y1 y2 y3, LeO (delta_Decode.j0 k y0 y1 y2 y3) (delta_Decode.j0 (k + 1) y0 y1 y2 y3)) ∧ (∀ y0 y1 y2 y3 y4, LeO (delta_Decode.l0 k y0 y1 y2 y3 y4) (delta_Decode.l0 (k + 1) y0 y1 y2 y3 y4))
  | 0 => ⟨fun _ _ _ _ r h => by simp [delta_Decode.j0] at h, fun _ _ _ _ _ r h => by simp [delta_Decode.l0] at h⟩
  | k + 1 => by
    obtain ⟨ih0, ih1⟩ := delta_Decode.mono_l k
    refine ⟨?_, ?_⟩
    · intro y0 y1 y2 y3
      unfold delta_Decode.j0
      repeat' first
      | (with_reducible exact ih0 _ _ _ _)
      | (with_reducible exact ih1 _ _ _ _ _)
      | (with_reducible exact num_Get.mono _ _ _)
      | (with_reducible exact LeO.refl _)
      | (with_reducible exact LeO.none _)
      | (with_reducible refine LeO.ite ?_ ?_)
      | (with_reducible refine LeO.bind ?_ (fun _ => ?_))
      | exact ih0 _ _ _ _
      | exact ih1 _ _ _ _ _
      | exact num_Get.mono _ _ _
      | exact LeO.none _
      | refine LeO.ite ?_ ?_
      | refine LeO.bind ?_ (fun _ => ?_)
    · intro y0 y1 y2 y3 y4
      unfold delta_Decode.l0
      repeat' first
      | (with_reducible exact ih0 _ _ _ _)
      | (with_reducible exact ih1 _ _ _ _ _)
      | (with_reducible exact num_Get.mono _ _ _)
      | (with_reducible exact LeO.refl _)
      | (with_reducible exact LeO.none _)
      | (with_reducible refine LeO.ite ?_ ?_)
      | (with_reducible refine LeO.bind ?_ (fun _ => ?_))
      | exact ih0 _ _ _ _
      | exact ih1 _ _ _ _ _
      | exact num_Get.mono _ _ _
      | exact LeO.none _
      | refine LeO.ite ?_ ?_
      | refine LeO.bind ?_ (fun _ => ?_)
theorem delta_Decode.mono : ∀ a0 k, LeO (delta_Decode.f k a0) (delta_Decode.f (k + 1) a0) := by
  intro a0 k
  obtain ⟨ih0, ih1⟩ := delta_Decode.mono_l k
  unfold delta_Decode.f
  repeat' first
      | (with_reducible exact ih0 _ _ _ _)
      | (with_reducible exact ih1 _ _ _ _ _)
      | (with_reducible exact num_Get.mono _ _ _)
      | (with_reducible exact LeO.refl _)
      | (with_reducible exact LeO.none _)
      | (with_reducible refine LeO.ite ?_ ?_)
      | (with_reducible refine LeO.bind ?_ (fun _ => ?_))
      | exact ih0 _ _ _ _
      | exact ih1 _ _ _ _ _
      | exact num_Get.mono _ _ _
      | exact LeO.none _
      | refine LeO.ite ?_ ?_
      | refine LeO.bind ?_ (fun _ => ?_)
set_option maxHeartbeats 8000000 in
set_option maxRecDepth 100000 in
theorem delta_Decode.calls (k : Nat) (A0 : Option Addr) (c0 : Nat) (l0 : List Int) (r1 : List (S119)) (r2 : Int) (w : World) (hr0 : Kd.C (Kd.int .u8) w A0 l0.length l0) (hc0 : l0.length ≤ c0) (h : delta_Decode.f k l0 = some (r1, r2)) :
    Calls Tryd.prog 85 #[.slice A0 l0.length c0] w fun e w' => ∃ v0_ : Value, e = .returned (.tuple #[v0_, .int .i64 r2]) ∧ Kd.R k119 119 w' w.heap.size (fun _ => True) v0_ r1 ∧ Below w.heap.size w w' := by
  have hu119 := Tryd.underlying119
  have HR0 := Aside0.mk hr0
  have HC0 := Aside0.mk hc0
  clear hr0 hc0
  have HB := Aside0.mk (Below.refl w.heap.size w)
  have H : (if (l0.length : Int) > 65536 then (some (([] : List (S119)), 2)) else ((num_Get.f k l0 0).bind fun bt286 => (if bt286.2.2 = 0 then (delta_Decode.j0 k l0 bt286.1 bt286.2.1 (decide (bt286.1 > 1024))) else (delta_Decode.j0 k l0 bt286.1 bt286.2.1 true)))) = some (r1, r2) := h
  clear h
  by_cases c2 : (l0.length : Int) > 65536
  ·rw [if_pos c2] at H
   have c2b0 : decide (65536 < (l0.length : Int)) = true := decide_eq_true c2
   have c2b1 : decide (65536 < l0.length) = true := decide_eq_true (by omega)
   clear c2
   simp only [Option.some.injEq, Prod.mk.injEq] at H
   obtain ⟨rfl, rfl⟩ := H
   go_enter Tryd.func85, Tryd.ntmps85
   go_wp2
   go_ret2
   exact ⟨_, by first | rfl | (simp [errW_none, errW_some] <;> rfl) | (simp [*, errW_none, errW_some] <;> rfl), by first | exact Kd.R_nil _ _ _ _ _ | exact Kd.N_nil _ _ _ _ _ | exact Kd.V_nil _ _ _ _ _ | exact Kd.Q_nil _ _ _ _ _ | exact Kd.S_nil _ _ _ _ _, m52_⟩
  rw [if_neg c2] at H
  have c2b0 : decide (65536 < (l0.length : Int)) = false := decide_eq_false c2
  have c2b1 : decide (65536 < l0.length) = false := decide_eq_false (by omega)
  clear c2
  replace H := Option.bind_eq_some_iff.mp H
  obtain ⟨⟨t286, t287, t288⟩, A30, H⟩ := H
  replace H : (if t288 = 0 then (delta_Decode.j0 k l0 t286 t287 (decide (t286 > 1024))) else (delta_Decode.j0 k l0 t286 t287 true)) = some (r1, r2) := H
  have A3 := Aside0.mk A30
  clear A30
  have HC4 := Aside0.mk H
  clear H
  go_enter Tryd.func85, Tryd.ntmps85
  go_upto_region 4 with (first | ((with_reducible refine gate_callee (f := 72) rfl ?_); refine goesL_ (some 17) rfl rfl Tryd.func72 (by kernel_rfl) rfl #[.slice A0 l0.length c0, .int .i64 0] rfl m12_ ?_; (with_reducible refine (num_Get.calls k _ _ l0 0 t286 t287 t288 _ ?side1 ?side2 A3.out).mono ?_); (case side1 => repeat (first | exact HR0.out | (with_reducible refine Kd.C_alloc ?_ _) | (with_reducible refine Kd.C_drewN ?_ _) | (with_reducible refine Kd.C_drew ?_))); (case side2 => exact HC0.out); rintro e w' ⟨rfl, ⟨nd, rfl⟩⟩; refine ⟨_, rfl, ?_⟩))
  (try simp only [Act.put, List.setIfInBounds_toArray, List.set_cons_zero, List.set_cons_succ])
  go_cut [26] (fun v26 wc => ∃ (kq : Nat) (x26_3 : Bool), v26 = .bool x26_3 ∧ Aside0 (delta_Decode.j0 kq l0 t286 t287 x26_3 = some (r1, r2)) ∧ Aside0 (kq ≤ k) ∧ Aside0 (Below w.heap.size w wc))
  case first =>
   have H := HC4.out
   clear HC4
   by_cases c5 : t288 = 0
   case neg =>
    rw [if_neg c5] at H
    have c5b0 : (t288 == 0) = false := beq_eq_false_iff_ne.mpr c5
    have c5b1 : (t288 != 0) = true := bne_iff_ne.mpr c5
    (first | rw [c5b0] | (simp only [i64_w, i32_w]; rw [c5b0]) | skip)
    have H' := Aside0.mk H
    clear H
    go_wp2
    go_meet
    case rel => exact ⟨_, (true), m28_, H', ⟨by first | omega | exact Nat.le_refl _⟩, ⟨m52_⟩⟩
   rw [if_pos c5] at H
   have c5b0 : (t288 == 0) = true := beq_iff_eq.mpr c5
   have c5b1 : (t288 != 0) = false := bne_eq_false_iff_eq.mpr c5
   clear c5
   (first | rw [c5b0] | (simp only [i64_w, i32_w]; rw [c5b0]) | skip)
   have H' := Aside0.mk H
   clear H
   go_wp2
   go_meet
   case rel => exact ⟨_, (decide (t286 > 1024)), m28_, H', ⟨by first | omega | exact Nat.le_refl _⟩, ⟨m52_⟩⟩
  clear HC4
  try clear c2; try clear c2b0; try clear c2b1; try clear p2; try clear c5; try clear c5b0; try clear c5b1
  obtain ⟨kq, x26_3, rfl, HA, HJ3, HB⟩ := hcut
  cases kq with
  | zero => exact absurd HA.out (by simp [delta_Decode.j0])
  | succ kj3 =>
   have H := HA.out
   clear HA
   simp only [delta_Decode.j0] at H
   by_cases c6 : x26_3 = true
   ·subst c6
    have H1 : (some (([] : List (S119)), 4)) = some (r1, r2) := by rw [if_pos rfl] at H; exact H
    clear H
    have H := H1
    clear H1
    simp only [Option.some.injEq, Prod.mk.injEq] at H
    obtain ⟨rfl, rfl⟩ := H
    go_wp2
    go_ret2
    exact ⟨_, by first | rfl | (simp [errW_none, errW_some] <;> rfl) | (simp [*, errW_none, errW_some] <;> rfl), by first | exact Kd.R_nil _ _ _ _ _ | exact Kd.N_nil _ _ _ _ _ | exact Kd.V_nil _ _ _ _ _ | exact Kd.Q_nil _ _ _ _ _ | exact Kd.S_nil _ _ _ _ _, m52_⟩
   replace c6 := Bool.eq_false_iff.mpr c6
   subst c6
   have H1 : (delta_Decode.l0 kj3 l0 t287 ([] : List (S119)) t286 0) = some (r1, r2) := by rw [if_neg (show ¬ (false = true) by decide)] at H; exact H
   clear H
   have H := H1
   clear H1
   have H' := Aside0.mk H
   clear H
   go_wp2
   go_loopg [5, 7, 28] kj3 (fun kq v5 v7 v28 w' => ∃ (x5_2 : Int) (x7_2 : List (S119)) (x28_2 : Int), v5 = .int .i64 x5_2 ∧ v28 = .int .u64 x28_2 ∧ Aside0 (delta_Decode.l0 kq l0 x5_2 x7_2 t286 x28_2 = some (r1, r2)) ∧ Aside0 (kq ≤ kj3) ∧ Aside0 (Kd.R k119 119 w' w.heap.size (fun _ => True) v7 x7_2) ∧ Aside0 (Below w.heap.size w w'))
   case atStart => exact ⟨(t287), (([] : List (S119))), (0), m28_, m28_, H', ⟨Nat.le_refl _⟩, ⟨by first | exact Kd.R_nil _ _ _ _ _ | exact Kd.N_nil _ _ _ _ _ | exact Kd.V_nil _ _ _ _ _ | exact Kd.Q_nil _ _ _ _ _ | exact Kd.S_nil _ _ _ _ _⟩, ⟨m52_⟩⟩
   clear H'
   try clear c2; try clear c2b0; try clear c2b1; try clear p2; try clear c5; try clear c5b0; try clear c5b1; try clear c6; try clear p2
   obtain ⟨x5_2, x7_2, x28_2, rfl, rfl, HA, HK2, HO_7, HB⟩ := hrel
   cases gk with
   | zero => exact absurd HA.out (by simp [delta_Decode.l0])
   | succ k2 =>
    have H := HA.out
    clear HA
    simp only [delta_Decode.l0] at H
    by_cases c7 : x28_2 < t286
    case neg =>
     rw [if_neg c7] at H
     have c7b0 : decide (x28_2 < t286) = false := decide_eq_false c7
     clear c7
     by_cases c21 : x5_2 = (l0.length : Int)
     case neg =>
      rw [if_neg c21] at H
      have c21b0 : (x5_2 == (l0.length : Int)) = false := beq_eq_false_iff_ne.mpr c21
      have c21b1 : (x5_2 != (l0.length : Int)) = true := bne_iff_ne.mpr c21
      simp only [Option.some.injEq, Prod.mk.injEq] at H
      obtain ⟨rfl, rfl⟩ := H
      go_wp2
      go_ret2
      exact ⟨_, by first | rfl | (simp [errW_none, errW_some] <;> rfl) | (simp [*, errW_none, errW_some] <;> rfl), by first | exact Kd.R_nil _ _ _ _ _ | exact Kd.N_nil _ _ _ _ _ | exact Kd.V_nil _ _ _ _ _ | exact Kd.Q_nil _ _ _ _ _ | exact Kd.S_nil _ _ _ _ _, m52_⟩
     rw [if_pos c21] at H
     have c21b0 : (x5_2 == (l0.length : Int)) = true := beq_iff_eq.mpr c21
     have c21b1 : (x5_2 != (l0.length : Int)) = false := bne_eq_false_iff_eq.mpr c21
     clear c21
     replace H := Option.bind_eq_some_iff.mp H
     obtain ⟨t299, A220, H⟩ := H
     replace H : (if t299 = 0 then (some (x7_2, 0)) else (some (([] : List (S119)), 4))) = some (r1, r2) := H
     have A22 := Aside0.mk A220
     clear A220
     by_cases c23 : t299 = 0
     ·rw [if_pos c23] at H
      have c23b0 : (t299 == 0) = true := beq_iff_eq.mpr c23
      have c23b1 : (t299 != 0) = false := bne_eq_false_iff_eq.mpr c23
      clear c23
      simp only [Option.some.injEq, Prod.mk.injEq] at H
      obtain ⟨rfl, rfl⟩ := H
      obtain ⟨Ao24, co24, eo24⟩ := Kd.R_slice HO_7.out
      subst eo24
      go_wp2_with (first | (go_at_call 97; (with_reducible refine (delta_Check.calls _ _ x7_2 t299 _ ?side1 ?side2 A22.out).mono ?_); (case side1 => repeat (first | exact (Kd.R_reads' HO_7.out).2.2 | (with_reducible refine Kd.C_alloc ?_ _) | (with_reducible refine Kd.C_drewN ?_ _) | (with_reducible refine Kd.C_drew ?_))); (case side2 => exact (Kd.R_reads' HO_7.out).2.1); rintro e w25 ⟨rfl, hb⟩; have n0_ := Aside0.mk (Kd.R_below (by (with_reducible repeat (first | apply Kd.R_alloc | apply Kd.R_drewN | apply Kd.R_drew)); exact HO_7.out) hb); have n1_ := Aside0.mk (below_step m13_ hb); clear HO_7; clear HB; have HO_7 := n0_; have HB := n1_; clear n0_ n1_; (try clear hb); (try clear hb2); (try clear hk); (try clear hi)))
      go_ret2
      exact ⟨_, by first | rfl | (simp [errW_none, errW_some] <;> rfl) | (simp [*, errW_none, errW_some] <;> rfl), by (with_reducible repeat (first | apply Kd.R_alloc | apply Kd.R_drewN | apply Kd.R_drew)); exact HO_7.out, m52_⟩
     rw [if_neg c23] at H
     have c23b0 : (t299 == 0) = false := beq_eq_false_iff_ne.mpr c23
     have c23b1 : (t299 != 0) = true := bne_iff_ne.mpr c23
     simp only [Option.some.injEq, Prod.mk.injEq] at H
     obtain ⟨rfl, rfl⟩ := H
     obtain ⟨Ao26, co26, eo26⟩ := Kd.R_slice HO_7.out
     subst eo26
     go_wp2_with (first | (go_at_call 97; (with_reducible refine (delta_Check.calls _ _ x7_2 t299 _ ?side1 ?side2 A22.out).mono ?_); (case side1 => repeat (first | exact (Kd.R_reads' HO_7.out).2.2 | (with_reducible refine Kd.C_alloc ?_ _) | (with_reducible refine Kd.C_drewN ?_ _) | (with_reducible refine Kd.C_drew ?_))); (case side2 => exact (Kd.R_reads' HO_7.out).2.1); rintro e w27 ⟨rfl, hb⟩; have n0_ := Aside0.mk (Kd.R_below (by (with_reducible repeat (first | apply Kd.R_alloc | apply Kd.R_drewN | apply Kd.R_drew)); exact HO_7.out) hb); have n1_ := Aside0.mk (below_step m13_ hb); clear HO_7; clear HB; have HO_7 := n0_; have HB := n1_; clear n0_ n1_; (try clear hb); (try clear hb2); (try clear hk); (try clear hi)))
     go_ret2
     exact ⟨_, by first | rfl | (simp [errW_none, errW_some] <;> rfl) | (simp [*, errW_none, errW_some] <;> rfl), by first | exact Kd.R_nil _ _ _ _ _ | exact Kd.N_nil _ _ _ _ _ | exact Kd.V_nil _ _ _ _ _ | exact Kd.Q_nil _ _ _ _ _ | exact Kd.S_nil _ _ _ _ _, m52_⟩
    rw [if_pos c7] at H
    have c7b0 : decide (x28_2 < t286) = true := decide_eq_true c7
    clear c7
    replace H := Option.bind_eq_some_iff.mp H
    obtain ⟨⟨t289, t290, t291⟩, A80, H⟩ := H
    replace H : (if t291 = 0 then (if (Go.bits .and .u64 t289 1) = 1 then (if x7_2.length < 4398046511104 then (delta_Decode.l0 k2 l0 t290 (x7_2 ++ [(⟨true, wrap64 (t289 / 2), (⟨#[]⟩ : ByteArray)⟩ : S119)]) t286 (IntKind.u64.wrap (x28_2 + 1))) else (none)) else (if (t289 / 2) > (IntKind.u64.wrap (wrap64 ((l0.length : Int) - t290))) then (some (([] : List (S119)), 4)) else (if 0 ≤ t290 then (if t290 ≤ (wrap64 (t290 + (wrap64 (t289 / 2)))) then (if (wrap64 (t290 + (wrap64 (t289 / 2)))) ≤ (l0.length : Int) then (if x7_2.length < 4398046511104 then (delta_Decode.l0 k2 l0 (wrap64 (t290 + (wrap64 (t289 / 2)))) (x7_2 ++ [(⟨false, 0, strOfNums ((l0.take ((wrap64 (t290 + (wrap64 (t289 / 2)))) : Int).toNat).drop (t290 : Int).toNat)⟩ : S119)]) t286 (IntKind.u64.wrap (x28_2 + 1))) else (none)) else (none)) else (none)) else (none)))) else (some (([] : List (S119)), 4))) = some (r1, r2) := H
    have A8 := Aside0.mk A80
    clear A80
    by_cases c9 : t291 = 0
    case neg =>
     rw [if_neg c9] at H
     have c9b0 : (t291 == 0) = false := beq_eq_false_iff_ne.mpr c9
     have c9b1 : (t291 != 0) = true := bne_iff_ne.mpr c9
     simp only [Option.some.injEq, Prod.mk.injEq] at H
     obtain ⟨rfl, rfl⟩ := H
     go_wp2_with (first | ((with_reducible refine gate_callee (f := 72) rfl ?_); refine goesL_ (some 33) rfl rfl Tryd.func72 (by kernel_rfl) rfl #[.slice A0 l0.length c0, .int .i64 x5_2] rfl m12_ ?_; (with_reducible refine (num_Get.calls k2 _ _ l0 x5_2 t289 t290 t291 _ ?side1 ?side2 A8.out).mono ?_); (case side1 => exact m33_); (case side2 => exact HC0.out); rintro e w' ⟨rfl, ⟨nd, rfl⟩⟩; refine ⟨_, rfl, ?_⟩))
     go_ret2
     exact ⟨_, by first | rfl | (simp [errW_none, errW_some] <;> rfl) | (simp [*, errW_none, errW_some] <;> rfl), by first | exact Kd.R_nil _ _ _ _ _ | exact Kd.N_nil _ _ _ _ _ | exact Kd.V_nil _ _ _ _ _ | exact Kd.Q_nil _ _ _ _ _ | exact Kd.S_nil _ _ _ _ _, m52_⟩
    rw [if_pos c9] at H
    have c9b0 : (t291 == 0) = true := beq_iff_eq.mpr c9
    have c9b1 : (t291 != 0) = false := bne_eq_false_iff_eq.mpr c9
    clear c9
    by_cases c10 : (Go.bits .and .u64 t289 1) = 1
    ·rw [if_pos c10] at H
     have c10b0 : ((Go.bits .and .u64 t289 1) == 1) = true := beq_iff_eq.mpr c10
     have c10b1 : ((Go.bits .and .u64 t289 1) != 1) = false := bne_eq_false_iff_eq.mpr c10
     clear c10
     by_cases c11 : x7_2.length < 4398046511104
     case neg =>
      rw [if_neg c11] at H
      exact absurd H (by simp)
     rw [if_pos c11] at H
     have LMc11 := Aside0.mk c11
     clear c11
     obtain ⟨y292, hy292⟩ : ∃ y_ : List (S119), y_ = (x7_2 ++ [(⟨true, wrap64 (t289 / 2), (⟨#[]⟩ : ByteArray)⟩ : S119)]) := ⟨_, rfl⟩
     replace H : (delta_Decode.l0 k2 l0 t290 y292 t286 (IntKind.u64.wrap (x28_2 + 1))) = some (r1, r2) := by first | (rw [hy292]; with_reducible exact H) | (have H2_ := (Option.bind_some _ _).symm.trans H; rw [hy292]; with_reducible exact H2_) | (have H2_ := (Option.bind_some _ _).symm.trans H; with_reducible exact H2_) | with_reducible exact H | (rw [hy292]; exact H) | exact H
     have Ny292 := Aside0.mk hy292
     clear hy292
     have H' := Aside0.mk H
     clear H
     go_wp2_with (first | ((with_reducible refine gate_callee (f := 72) rfl ?_); refine goesL_ (some 33) rfl rfl Tryd.func72 (by kernel_rfl) rfl #[.slice A0 l0.length c0, .int .i64 x5_2] rfl m12_ ?_; (with_reducible refine (num_Get.calls k2 _ _ l0 x5_2 t289 t290 t291 _ ?side1 ?side2 A8.out).mono ?_); (case side1 => exact m33_); (case side2 => exact HC0.out); rintro e w' ⟨rfl, ⟨nd, rfl⟩⟩; refine ⟨_, rfl, ?_⟩) | ((with_reducible refine gate_builtin (b := .append) (xs := #[.tmp 43, .tmp 48]) rfl ?_); at_builtin; refine Kd.R_append k119 (w0 := w) w.heap.size rfl (.tmp 43) (.tmp 48) 94 119 (.agg #[(.bool false), (.int .i64 0), (.string ⟨#[]⟩)]) 32 rfl Tryd.underlying94 info119 rfl (by decide) (by omega) u7 x7_2 (⟨true, wrap64 (t289 / 2), (⟨#[]⟩ : ByteArray)⟩ : S119) [.bool true, .int .i64 (wrap64 (t289 / 2)), .string (⟨#[]⟩ : ByteArray)] (fun _ => True) (fun _ => False) rfl rfl ?aP (fun _ hk => hk.elim) ?aF ?aO ?aB ?aS ?aL ?_; (case aP => exact k119_mkM _ _ _ (⟨true, wrap64 (t289 / 2), (⟨#[]⟩ : ByteArray)⟩ : S119)); (case aB => exact m13_); (case aF => exact (fun _ _ => trivial)); (case aO => exact (by (with_reducible repeat (first | apply Kd.R_alloc | apply Kd.R_drewN | apply Kd.R_drew)); exact HO_7.out)); (case aS => exact (below_size m13_)); (case aL => have := LMc11.out; omega); intro v293 w12 ho hb hg hat; rw [← Ny292.out] at ho; have n0_ := Aside0.mk (hb); have n1_ := Aside0.mk (ho); clear HB; clear HO_7; have HB := n0_; have HO294 := n1_; clear n0_ n1_; clear ho hb hg hat))
     go_roundg k2
     case measure => have := HJ3.out; have := HK2.out; omega
     case rel => exact ⟨(t290), (y292), (IntKind.u64.wrap (x28_2 + 1)), m28_, m28_, H', ⟨by have := HJ3.out; have := HK2.out; omega⟩, ⟨by (with_reducible repeat (first | apply Kd.R_alloc | apply Kd.R_drewN | apply Kd.R_drew)); exact HO294.out⟩, ⟨m52_⟩⟩
    rw [if_neg c10] at H
    have c10b0 : ((Go.bits .and .u64 t289 1) == 1) = false := beq_eq_false_iff_ne.mpr c10
    have c10b1 : ((Go.bits .and .u64 t289 1) != 1) = true := bne_iff_ne.mpr c10
    by_cases c13 : (t289 / 2) > (IntKind.u64.wrap (wrap64 ((l0.length : Int) - t290)))
    ·rw [if_pos c13] at H
     have c13b0 : decide ((IntKind.u64.wrap (wrap64 ((l0.length : Int) - t290))) < (t289 / 2)) = true := decide_eq_true c13
     clear c13
     simp only [Option.some.injEq, Prod.mk.injEq] at H
     obtain ⟨rfl, rfl⟩ := H
     go_wp2_with (first | ((with_reducible refine gate_callee (f := 72) rfl ?_); refine goesL_ (some 33) rfl rfl Tryd.func72 (by kernel_rfl) rfl #[.slice A0 l0.length c0, .int .i64 x5_2] rfl m12_ ?_; (with_reducible refine (num_Get.calls k2 _ _ l0 x5_2 t289 t290 t291 _ ?side1 ?side2 A8.out).mono ?_); (case side1 => exact m33_); (case side2 => exact HC0.out); rintro e w' ⟨rfl, ⟨nd, rfl⟩⟩; refine ⟨_, rfl, ?_⟩))
     go_ret2
     exact ⟨_, by first | rfl | (simp [errW_none, errW_some] <;> rfl) | (simp [*, errW_none, errW_some] <;> rfl), by first | exact Kd.R_nil _ _ _ _ _ | exact Kd.N_nil _ _ _ _ _ | exact Kd.V_nil _ _ _ _ _ | exact Kd.Q_nil _ _ _ _ _ | exact Kd.S_nil _ _ _ _ _, m52_⟩
    rw [if_neg c13] at H
    have c13b0 : decide ((IntKind.u64.wrap (wrap64 ((l0.length : Int) - t290))) < (t289 / 2)) = false := decide_eq_false c13
    clear c13
    by_cases c14 : 0 ≤ t290
    case neg =>
     rw [if_neg c14] at H
     exact absurd H (by simp)
    rw [if_pos c14] at H
    have c14b0 := eq_true c14
    have c14b1 : decide (0 ≤ t290) = true := decide_eq_true c14
    clear c14
    by_cases c15 : t290 ≤ (wrap64 (t290 + (wrap64 (t289 / 2))))
    case neg =>
     rw [if_neg c15] at H
     exact absurd H (by simp)
    rw [if_pos c15] at H
    have c15b0 := eq_true c15
    have c15b1 : decide (t290 ≤ (wrap64 (t290 + (wrap64 (t289 / 2))))) = true := decide_eq_true c15
    by_cases c16 : (wrap64 (t290 + (wrap64 (t289 / 2)))) ≤ (l0.length : Int)
    case neg =>
     rw [if_neg c16] at H
     exact absurd H (by simp)
    rw [if_pos c16] at H
    have c16b0 := eq_true c16
    have c16b1 : decide ((wrap64 (t290 + (wrap64 (t289 / 2)))) ≤ (l0.length : Int)) = true := decide_eq_true c16
    by_cases c17 : x7_2.length < 4398046511104
    case neg =>
     rw [if_neg c17] at H
     exact absurd H (by simp)
    rw [if_pos c17] at H
    have LMc17 := Aside0.mk c17
    clear c17
    obtain ⟨y296, hy296⟩ : ∃ y_ : List (S119), y_ = (x7_2 ++ [(⟨false, 0, strOfNums ((l0.take ((wrap64 (t290 + (wrap64 (t289 / 2)))) : Int).toNat).drop (t290 : Int).toNat)⟩ : S119)]) := ⟨_, rfl⟩
    replace H : (delta_Decode.l0 k2 l0 (wrap64 (t290 + (wrap64 (t289 / 2)))) y296 t286 (IntKind.u64.wrap (x28_2 + 1))) = some (r1, r2) := by first | (rw [hy296]; with_reducible exact H) | (have H2_ := (Option.bind_some _ _).symm.trans H; rw [hy296]; with_reducible exact H2_) | (have H2_ := (Option.bind_some _ _).symm.trans H; with_reducible exact H2_) | with_reducible exact H | (rw [hy296]; exact H) | exact H
    have Ny296 := Aside0.mk hy296
    clear hy296
    have H' := Aside0.mk H
    clear H
    go_wp2_with ((with_reducible refine gate_callee (f := 72) rfl ?_); refine goesL_ (some 33) rfl rfl Tryd.func72 (by kernel_rfl) rfl #[.slice A0 l0.length c0, .int .i64 x5_2] rfl m12_ ?_; (with_reducible refine (num_Get.calls k2 _ _ l0 x5_2 t289 t290 t291 _ ?side1 ?side2 A8.out).mono ?_); (case side1 => exact m33_); (case side2 => exact HC0.out); rintro e w' ⟨rfl, ⟨nd, rfl⟩⟩; refine ⟨_, rfl, ?_⟩; obtain ⟨i018, hi018, _, hsz18, _⟩ := info_parts info5; obtain ⟨A18, hcut18, hA18, hC18⟩ := print_mid_of (P := Tryd.prog) (Value.int .u8) 0 36 5 .i64 .i64 Tryd.underlying36 hi018 hsz18 A0 c0 l0 t290 (wrap64 (t290 + (wrap64 (t289 / 2)))) (of_decide_eq_true m27_) (by first | omega | exact of_decide_eq_true m27_) (of_decide_eq_true m27_) HC0.out; have HR295 := Aside0.mk (Kd.C_of_reads (h1 := fun _ => rfl) (hA18 _ (Kd.reads_of_C HR0.out))); have HC295 := Aside0.mk hC18; clear hA18 hC18 hi018 hsz18)
    have hl12_ : ((l0.take (wrap64 (t290 + (wrap64 (t289 / 2)))).toNat).drop t290.toNat).length = (wrap64 (t290 + (wrap64 (t289 / 2)))).toNat - t290.toNat := by (rw [List.length_drop, List.length_take]; omega)
    have hcv14_ := Kd.C_string (P := Tryd.prog) (A := A18) (c := (c0 - t290.toNat)) Tryd.underlying36 Tryd.underlying5 Tryd.underlying9 (Kd.C_drewN (Kd.C_below HR295.out HB.out) nd)
    rw [hl12_] at hcv14_
    rw [hcv14_]
    clear hcv14_ hl12_
    go_wp2_with (first | ((with_reducible refine gate_builtin (b := .append) (xs := #[.tmp 63, .tmp 70]) rfl ?_); at_builtin; refine Kd.R_append k119 (w0 := w) w.heap.size rfl (.tmp 63) (.tmp 70) 94 119 (.agg #[(.bool false), (.int .i64 0), (.string ⟨#[]⟩)]) 32 rfl Tryd.underlying94 info119 rfl (by decide) (by omega) u7 x7_2 (⟨false, 0, strOfNums ((l0.take ((wrap64 (t290 + (wrap64 (t289 / 2)))) : Int).toNat).drop (t290 : Int).toNat)⟩ : S119) [.bool false, .int .i64 0, .string (strOfNums ((l0.take ((wrap64 (t290 + (wrap64 (t289 / 2)))) : Int).toNat).drop (t290 : Int).toNat))] (fun _ => True) (fun _ => False) rfl rfl ?aP (fun _ hk => hk.elim) ?aF ?aO ?aB ?aS ?aL ?_; (case aP => exact k119_mkM _ _ _ (⟨false, 0, strOfNums ((l0.take ((wrap64 (t290 + (wrap64 (t289 / 2)))) : Int).toNat).drop (t290 : Int).toNat)⟩ : S119)); (case aB => exact m13_); (case aF => exact (fun _ _ => trivial)); (case aO => exact (by (with_reducible repeat (first | apply Kd.R_alloc | apply Kd.R_drewN | apply Kd.R_drew)); exact HO_7.out)); (case aS => exact (below_size m13_)); (case aL => have := LMc17.out; omega); intro v297 w20 ho hb hg hat; rw [← Ny296.out] at ho; have n0_ := Aside0.mk (hb); have n1_ := Aside0.mk (ho); clear HB; clear HO_7; have HB := n0_; have HO298 := n1_; clear n0_ n1_; clear ho hb hg hat))
    go_roundg k2
    case measure => have := HJ3.out; have := HK2.out; omega
    case rel => exact ⟨(wrap64 (t290 + (wrap64 (t289 / 2)))), (y296), (IntKind.u64.wrap (x28_2 + 1)), m28_, m28_, H', ⟨by have := HJ3.out; have := HK2.out; omega⟩, ⟨by (with_reducible repeat (first | apply Kd.R_alloc | apply Kd.R_drewN | apply Kd.R_drew)); exact HO298.out⟩, ⟨m52_⟩⟩

end Go.Proofs.YtoankokkdmbjmaaDoorH.HFrameCuts
