-- PRINTED by print.py (a twelfth state) out of the translation. Not trusted: Lean checks it.
import Derived.Test.YtedmkffepmcpaaaDoorHCapCodesx0
import Derived.Test.YtedmkffepmcpaaaDoorHCapCodesx2
import Derived.Test.YtedmkffepmcpaaaDoorHCapCodesx3
namespace Go.Proofs.YtedmkffepmcpaaaDoorH.HCapCodes
open Go.RowKit Go.Proofs.YtedmkffepmcpaaaDoorW.PrintWords Go.Proofs.YtedmkffepmcpaaaDoorW.PrintLast Go.Proofs.YtedmkffepmcpaaaDoorW.PrintMore
attribute [local go_sem] max2_int min2_int max_two min_two max_three min_three max_four min_four   -- for this text's walks alone
set_option linter.unusedVariables false
set_option linter.unusedSimpArgs false

/-! ### cap_Narrow: function 16 -/
def cap_Narrow.j0 : Nat → Bool → Int → Int → List (S35) → ByteArray → ByteArray → Int → Int → Option (Int × Int × (List (S35)) × ByteArray × Int)
 | 0, _, _, _, _, _, _, _, _ => none
 | k + 1, x13, x157000, x157001, x157002, x157003, x158000, x158001, x158002 => if x13 = true then (some (0, 0, ([] : List (S35)), (⟨#[]⟩ : ByteArray), 1)) else (if (x157002.length : Int) = 8 then (some (0, 0, ([] : List (S35)), (⟨#[]⟩ : ByteArray), 5)) else ((some (([] : List (S35)) : List (S35))).bind fun y161 => (if y161.length + x157002.length < 4398046511104 then ((some (y161 ++ x157002 : List (S35))).bind fun y164 => ((some (([(⟨x158000, x158001, x158002⟩ : S35)] : List (S35)) : List (S35))).bind fun y167 => (if y164.length + y167.length < 4398046511104 then ((cap_bytes.f k x158000 x158001 x158002).bind fun t173 => ((mac_Seal.f x157003 (strOfNums t173)).bind fun t176 => (some (x157000, x157001, (y164 ++ y167), t176, 0)))) else (none)))) else (none))))
def cap_Narrow.f (k : Nat) (a0_0 : Int) (a0_1 : Int) (l0_2 : List (S35)) (a0_3 : ByteArray) (a1_0 : ByteArray) (a1_1 : Int) (a1_2 : Int) : Option (Int × Int × (List (S35)) × ByteArray × Int) := (cap_May.f k a0_0 a0_1 l0_2 a0_3).bind fun t159 => (if t159 = true then ((cap_good.f a1_0 a1_1 a1_2).bind fun t160 => (cap_Narrow.j0 k (!t160) a0_0 a0_1 l0_2 a0_3 a1_0 a1_1 a1_2)) else (cap_Narrow.j0 k true a0_0 a0_1 l0_2 a0_3 a1_0 a1_1 a1_2))
theorem cap_Narrow.mono_l : ∀ k, (∀ y0 y1 y2 y3 y4 y5 y6 y7, LeO (cap_Narrow.j0 k y0 y1 y2 y3 y4 y5 y6 y7) (cap_Narrow.j0 (k + 1) y0 y1 y2 y3 y4 y5 y6 y7))
 | 0 => fun _ _ _ _ _ _ _ _ r h => by simp [cap_Narrow.j0] at h
 | k + 1 => by
  have ih0 := cap_Narrow.mono_l k
  ·intro y0 y1 y2 y3 y4 y5 y6 y7
   unfold cap_Narrow.j0
   repeat' first
   | (with_reducible exact ih0 _ _ _ _ _ _ _ _)
   | (with_reducible exact cap_May.mono _ _ _ _ _)
   | (with_reducible exact cap_bytes.mono _ _ _ _)
   | (with_reducible exact LeO.refl _)
   | (with_reducible exact LeO.none _)
   | (with_reducible refine LeO.ite ?_ ?_)
   | (with_reducible refine LeO.bind ?_ (fun _ => ?_))
   | exact ih0 _ _ _ _ _ _ _ _
   | exact cap_May.mono _ _ _ _ _
   | exact cap_bytes.mono _ _ _ _
   | exact LeO.none _
   | refine LeO.ite ?_ ?_
   | refine LeO.bind ?_ (fun _ => ?_)
theorem cap_Narrow.mono : ∀ a0 a1 a2 a3 a4 a5 a6 k, LeO (cap_Narrow.f k a0 a1 a2 a3 a4 a5 a6) (cap_Narrow.f (k + 1) a0 a1 a2 a3 a4 a5 a6) := by
 intro a0 a1 a2 a3 a4 a5 a6 k
 have ih0 := cap_Narrow.mono_l k
 unfold cap_Narrow.f
 repeat' first
   | (with_reducible exact ih0 _ _ _ _ _ _ _ _)
   | (with_reducible exact cap_May.mono _ _ _ _ _)
   | (with_reducible exact cap_bytes.mono _ _ _ _)
   | (with_reducible exact LeO.refl _)
   | (with_reducible exact LeO.none _)
   | (with_reducible refine LeO.ite ?_ ?_)
   | (with_reducible refine LeO.bind ?_ (fun _ => ?_))
   | exact ih0 _ _ _ _ _ _ _ _
   | exact cap_May.mono _ _ _ _ _
   | exact cap_bytes.mono _ _ _ _
   | exact LeO.none _
   | refine LeO.ite ?_ ?_
   | refine LeO.bind ?_ (fun _ => ?_)
def cap_Narrow.T5 : Bool × List (List Nat × List Nat) := (true, [([], []), ([], []), ([1], [1]), ([0, 2], [0, 2]), ([], []), ([4], [4]), ([3, 5, 3], [3, 5]), ([0, 1, 2, 3, 4, 5, 6], []), ([7, 6, 6, 0, 1, 2, 3, 4, 5, 6], [6, 7])])
def cap_Narrow.B5 : List Nat := [0, 0, 2, 7, 0, 16, 63, 127, 255]
theorem cap_Narrow.tab5 : rtab .any (opsOf Tryd.f16 5) = cap_Narrow.T5 := by kernel_rfl
theorem cap_Narrow.bits5 : waitsOk cap_Narrow.T5.2 cap_Narrow.B5 = true := by kernel_rfl
def cap_Narrow.T6 : Bool × List (List Nat × List Nat) := (true, [([], []), ([0], [0]), ([], []), ([2], [2]), ([3], [3]), ([1, 4, 3], [1, 4]), ([0, 1, 2, 3, 4, 5], []), ([6, 5, 5, 0, 1, 2, 3, 4, 5], [5, 6])])
def cap_Narrow.B6 : List Nat := [0, 1, 0, 4, 12, 31, 63, 127]
theorem cap_Narrow.tab6 : rtab .any (opsOf Tryd.f16 6) = cap_Narrow.T6 := by kernel_rfl
theorem cap_Narrow.bits6 : waitsOk cap_Narrow.T6.2 cap_Narrow.B6 = true := by kernel_rfl
set_option maxHeartbeats 8000000 in
set_option maxRecDepth 100000 in
theorem cap_Narrow.calls (k : Nat) (a0_0 : Int) (a0_1 : Int) (A0_2 : Option Addr) (c0_2 : Nat) (l0_2 : List (S35)) (a0_3 : ByteArray) (a1_0 : ByteArray) (a1_1 : Int) (a1_2 : Int) (r1 : Int) (r2 : Int) (r3 : List (S35)) (r4 : ByteArray) (r5 : Int) (w : World) (hr0_2 : Kd.C k35 w A0_2 l0_2.length l0_2) (hc0_2 : l0_2.length ≤ c0_2) (h : cap_Narrow.f k a0_0 a0_1 l0_2 a0_3 a1_0 a1_1 a1_2 = some (r1, r2, r3, r4, r5)) :
  Calls Tryd.prog 16 #[.agg #[.int .i64 a0_0, .int .i64 a0_1, .slice A0_2 l0_2.length c0_2, .string a0_3], .agg #[.string a1_0, .int .i64 a1_1, .int .i64 a1_2]] w fun e w' => ∃ v2_ : Value, e = .returned (.tuple #[.agg #[.int .i64 r1, .int .i64 r2, v2_, .string r4], .int .i64 r5]) ∧ Kd.R k35 35 w' w.heap.size (fun _ => True) v2_ r3 ∧ Below w.heap.size w w' := by
 have hu25 := Tryd.underlying25
 have hu35 := Tryd.underlying35
 have HR0_2 := Aside0.mk hr0_2
 have HC0_2 := Aside0.mk hc0_2
 clear hr0_2 hc0_2
 have HB := Aside0.mk (Below.refl w.heap.size w)
 have H : ((cap_May.f k a0_0 a0_1 l0_2 a0_3).bind fun t159 => (if t159 = true then ((cap_good.f a1_0 a1_1 a1_2).bind fun t160 => (cap_Narrow.j0 k (!t160) a0_0 a0_1 l0_2 a0_3 a1_0 a1_1 a1_2)) else (cap_Narrow.j0 k true a0_0 a0_1 l0_2 a0_3 a1_0 a1_1 a1_2))) = some (r1, r2, r3, r4, r5) := h
 clear h
 have HC3 := Aside0.mk H
 clear H
 go_enter Tryd.func16, Tryd.ntmps16
 go_upto_region 1 with (first | ((with_reducible refine gate_dst (N := 2) rfl ?_); refine box_event ?hg (N := 2) ?hd (cs := #[.int .i64 a0_0, .int .i64 a0_1, .slice A0_2 l0_2.length c0_2, .string a0_3]) (t := 25) ?hr ?_; (case hd => rfl); (case hg => rfl); (case hr => first | (go_simp; done) | (go_simp; rfl)); intro gb156 hg w4 hbox hb; have n0_ := Aside0.mk (below_step m31_ hb); have n1_ := Aside0.mk (hbox); have n2_ := Aside0.mk ((by rw [hg]; exact (below_size m31_) : w.heap.size ≤ gb156)); have n3_ := Aside0.mk ((by rw [hg]; exact (below_size m31_) : w.heap.size ≤ gb156)); clear HB; have HB := n0_; have BK156 := n1_; have GW156 := n2_; have GE156 := n3_; clear n0_ n1_ n2_ n3_; clear hb hbox hg) | ((with_reducible refine gate_dst (N := 3) rfl ?_); refine box_event ?hg (N := 3) ?hd (cs := #[.string a1_0, .int .i64 a1_1, .int .i64 a1_2]) (t := 35) ?hr ?_; (case hd => rfl); (case hg => rfl); (case hr => first | (go_simp; done) | (go_simp; rfl)); intro gb157 hg w5 hbox hb; have n0_ := Aside0.mk (blk_below (g := gb156) (o := .cells #[.int .i64 a0_0, .int .i64 a0_1, .slice A0_2 l0_2.length c0_2, .string a0_3] 25 (0, 0)) m36_ hb); have n1_ := Aside0.mk (below_step (by repeat (first | (with_reducible first | exact HB.out | apply below_alloc | apply pw_below_drewN | apply below_drew1 | refine below_set ?_ GE156.out) | exact HB.out)) hb); have n2_ := Aside0.mk (hbox); have n3_ := Aside0.mk ((by rw [hg]; exact (below_size (by repeat (first | (with_reducible first | exact HB.out | apply below_alloc | apply pw_below_drewN | apply below_drew1 | refine below_set ?_ GE156.out) | exact HB.out))) : w.heap.size ≤ gb157)); have n4_ := Aside0.mk ((by rw [hg]; exact (below_size (by repeat (first | (with_reducible first | exact HB.out | apply below_alloc | apply pw_below_drewN | apply below_drew1 | refine below_set ?_ GE156.out) | exact HB.out))) : w.heap.size ≤ gb157)); have n5_ := Aside0.mk ((by rw [hg]; exact Nat.ne_of_lt (blk_lt (g := gb156) (o := .cells #[.int .i64 a0_0, .int .i64 a0_1, .slice A0_2 l0_2.length c0_2, .string a0_3] 25 (0, 0)) m36_) : gb156 ≠ gb157)); have n6_ := Aside0.mk ((by rw [hg]; exact Nat.ne_of_gt (blk_lt (g := gb156) (o := .cells #[.int .i64 a0_0, .int .i64 a0_1, .slice A0_2 l0_2.length c0_2, .string a0_3] 25 (0, 0)) m36_) : gb157 ≠ gb156)); clear BK156; clear HB; have BK156 := n0_; have HB := n1_; have BK157 := n2_; have GW157 := n3_; have GE157 := n4_; have NB156_157 := n5_; have NB157_156 := n6_; clear n0_ n1_ n2_ n3_ n4_ n5_ n6_; clear hb hbox hg) | ((with_reducible refine gate_dst (N := 4) rfl ?_); refine box_event ?hg (N := 4) ?hd (cs := #[.int .i64 0, .int .i64 0, .slice none 0 0, .string (⟨#[]⟩ : ByteArray)]) (t := 25) ?hr ?_; (case hd => rfl); (case hg => rfl); (case hr => first | (go_simp; done) | (go_simp; rfl)); intro gb158 hg w6 hbox hb; have n0_ := Aside0.mk (blk_below (g := gb156) (o := .cells #[.int .i64 a0_0, .int .i64 a0_1, .slice A0_2 l0_2.length c0_2, .string a0_3] 25 (0, 0)) m36_ hb); have n1_ := Aside0.mk (blk_below (g := gb157) (o := .cells #[.string a1_0, .int .i64 a1_1, .int .i64 a1_2] 35 (0, 0)) m32_ hb); have n2_ := Aside0.mk (below_step (by repeat (first | (with_reducible first | exact HB.out | apply below_alloc | apply pw_below_drewN | apply below_drew1 | refine below_set ?_ GE156.out | refine below_set ?_ GE157.out) | exact HB.out)) hb); have n3_ := Aside0.mk (hbox); have n4_ := Aside0.mk ((by rw [hg]; exact (below_size (by repeat (first | (with_reducible first | exact HB.out | apply below_alloc | apply pw_below_drewN | apply below_drew1 | refine below_set ?_ GE156.out | refine below_set ?_ GE157.out) | exact HB.out))) : w.heap.size ≤ gb158)); have n5_ := Aside0.mk ((by rw [hg]; exact (below_size (by repeat (first | (with_reducible first | exact HB.out | apply below_alloc | apply pw_below_drewN | apply below_drew1 | refine below_set ?_ GE156.out | refine below_set ?_ GE157.out) | exact HB.out))) : w.heap.size ≤ gb158)); have n6_ := Aside0.mk ((by rw [hg]; exact Nat.ne_of_lt (blk_lt (g := gb156) (o := .cells #[.int .i64 a0_0, .int .i64 a0_1, .slice A0_2 l0_2.length c0_2, .string a0_3] 25 (0, 0)) m36_) : gb156 ≠ gb158)); have n7_ := Aside0.mk ((by rw [hg]; exact Nat.ne_of_gt (blk_lt (g := gb156) (o := .cells #[.int .i64 a0_0, .int .i64 a0_1, .slice A0_2 l0_2.length c0_2, .string a0_3] 25 (0, 0)) m36_) : gb158 ≠ gb156)); have n8_ := Aside0.mk ((by rw [hg]; exact Nat.ne_of_lt (blk_lt (g := gb157) (o := .cells #[.string a1_0, .int .i64 a1_1, .int .i64 a1_2] 35 (0, 0)) m32_) : gb157 ≠ gb158)); have n9_ := Aside0.mk ((by rw [hg]; exact Nat.ne_of_gt (blk_lt (g := gb157) (o := .cells #[.string a1_0, .int .i64 a1_1, .int .i64 a1_2] 35 (0, 0)) m32_) : gb158 ≠ gb157)); clear BK156; clear BK157; clear HB; have BK156 := n0_; have BK157 := n1_; have HB := n2_; have BK158 := n3_; have GW158 := n4_; have GE158 := n5_; have NB156_158 := n6_; have NB158_156 := n7_; have NB157_158 := n8_; have NB158_157 := n9_; clear n0_ n1_ n2_ n3_ n4_ n5_ n6_ n7_ n8_ n9_; clear hb hbox hg))
 (try simp only [Act.put, List.setIfInBounds_toArray, List.set_cons_zero, List.set_cons_succ])
 go_cut [13] (fun v13 wc => ∃ (kq : Nat) (x13_2 : Bool), v13 = .bool x13_2 ∧ Aside0 (cap_Narrow.j0 kq x13_2 a0_0 a0_1 l0_2 a0_3 a1_0 a1_1 a1_2 = some (r1, r2, r3, r4, r5)) ∧ Aside0 (kq ≤ k) ∧ Aside0 (wc.heap[gb156]? = some (.cells #[.int .i64 a0_0, .int .i64 a0_1, (.slice A0_2 l0_2.length c0_2), .string a0_3] 25 (0, 0))) ∧ Aside0 (wc.heap[gb157]? = some (.cells #[.string a1_0, .int .i64 a1_1, .int .i64 a1_2] 35 (0, 0))) ∧ Aside0 (wc.heap[gb158]? = some (.cells #[.int .i64 0, .int .i64 0, (.slice none 0 0), .string (⟨#[]⟩ : ByteArray)] 25 (0, 0))) ∧ Aside0 (Below w.heap.size w wc))
 case first =>
  have H := HC3.out
  clear HC3
  replace H := Option.bind_eq_some_iff.mp H
  obtain ⟨t159, A70, H⟩ := H
  replace H : (if t159 = true then ((cap_good.f a1_0 a1_1 a1_2).bind fun t160 => (cap_Narrow.j0 k (!t160) a0_0 a0_1 l0_2 a0_3 a1_0 a1_1 a1_2)) else (cap_Narrow.j0 k true a0_0 a0_1 l0_2 a0_3 a1_0 a1_1 a1_2)) = some (r1, r2, r3, r4, r5) := H
  have A7 := Aside0.mk A70
  clear A70
  by_cases c8 : t159 = true
  case neg =>
   replace c8 := Bool.eq_false_iff.mpr c8
   subst c8
   have H1 : (cap_Narrow.j0 k true a0_0 a0_1 l0_2 a0_3 a1_0 a1_1 a1_2) = some (r1, r2, r3, r4, r5) := by rw [if_neg (show ¬ (false = true) by decide)] at H; exact H
   clear H
   have H := H1
   clear H1
   have H' := Aside0.mk H
   clear H
   have hnb17 := NB156_157.out
   have hnc17 := NB157_156.out
   have hnb18 := NB156_158.out
   have hnc18 := NB158_156.out
   obtain ⟨hcz19_0, hcz19_1, hcz19_2, hcz19_3⟩ := bc4_ BK156.out
   obtain ⟨hfz19_0, hfz19_1, hfz19_2, hfz19_3⟩ := bf4_ BK156.out
   go_wp2_with (first | ((with_reducible refine gate_callee (f := 18) rfl ?_); refine goesL_ (some 7) rfl rfl Tryd.func18 (by kernel_rfl) rfl #[.agg #[.int .i64 a0_0, .int .i64 a0_1, .slice A0_2 l0_2.length c0_2, .string a0_3]] rfl m30_ ?_; (with_reducible refine (cap_May.calls k a0_0 a0_1 _ _ l0_2 a0_3 false _ ?side1 ?side2 A7.out).mono ?_); (case side1 => exact m65_); (case side2 => exact HC0_2.out); rintro e w20 ⟨rfl, hb⟩; refine ⟨_, rfl, ?_⟩; replace BK156 := Aside0.mk (blk_below (g := gb156) (o := .cells #[.int .i64 a0_0, .int .i64 a0_1, .slice A0_2 l0_2.length c0_2, .string a0_3] 25 (0, 0)) m36_ hb); replace BK157 := Aside0.mk (blk_below (g := gb157) (o := .cells #[.string a1_0, .int .i64 a1_1, .int .i64 a1_2] 35 (0, 0)) m32_ hb); replace BK158 := Aside0.mk (blk_below (g := gb158) (o := .cells #[.int .i64 0, .int .i64 0, .slice none 0 0, .string (⟨#[]⟩ : ByteArray)] 25 (0, 0)) m39_ hb); replace HB := Aside0.mk (below_step m8_ hb); (try clear hb); (try clear hb2); (try clear hk); (try clear hi)))
   go_meet
   case rel => exact ⟨_, (true), m55_, H', ⟨by first | omega | exact Nat.le_refl _⟩, ⟨by refine bD_ ?_; exact BK156.out⟩, ⟨by refine bD_ ?_; exact BK157.out⟩, ⟨by refine bD_ ?_; exact BK158.out⟩, ⟨m59_⟩⟩
  subst c8
  have H1 : ((cap_good.f a1_0 a1_1 a1_2).bind fun t160 => (cap_Narrow.j0 k (!t160) a0_0 a0_1 l0_2 a0_3 a1_0 a1_1 a1_2)) = some (r1, r2, r3, r4, r5) := by rw [if_pos rfl] at H; exact H
  clear H
  have H := H1
  clear H1
  replace H := Option.bind_eq_some_iff.mp H
  obtain ⟨t160, A90, H⟩ := H
  replace H : (cap_Narrow.j0 k (!t160) a0_0 a0_1 l0_2 a0_3 a1_0 a1_1 a1_2) = some (r1, r2, r3, r4, r5) := H
  have A9 := Aside0.mk A90
  clear A90
  have H' := Aside0.mk H
  clear H
  have hnb10 := NB156_157.out
  have hnc10 := NB157_156.out
  have hnb11 := NB156_158.out
  have hnc11 := NB158_156.out
  obtain ⟨hcz12_0, hcz12_1, hcz12_2, hcz12_3⟩ := bc4_ BK156.out
  obtain ⟨hfz12_0, hfz12_1, hfz12_2, hfz12_3⟩ := bf4_ BK156.out
  go_wp2_with (first | ((with_reducible refine gate_callee (f := 18) rfl ?_); refine goesL_ (some 7) rfl rfl Tryd.func18 (by kernel_rfl) rfl #[.agg #[.int .i64 a0_0, .int .i64 a0_1, .slice A0_2 l0_2.length c0_2, .string a0_3]] rfl m30_ ?_; (with_reducible refine (cap_May.calls k a0_0 a0_1 _ _ l0_2 a0_3 true _ ?side1 ?side2 A7.out).mono ?_); (case side1 => exact m65_); (case side2 => exact HC0_2.out); rintro e w13 ⟨rfl, hb⟩; refine ⟨_, rfl, ?_⟩; replace BK156 := Aside0.mk (blk_below (g := gb156) (o := .cells #[.int .i64 a0_0, .int .i64 a0_1, .slice A0_2 l0_2.length c0_2, .string a0_3] 25 (0, 0)) m36_ hb); replace BK157 := Aside0.mk (blk_below (g := gb157) (o := .cells #[.string a1_0, .int .i64 a1_1, .int .i64 a1_2] 35 (0, 0)) m32_ hb); replace BK158 := Aside0.mk (blk_below (g := gb158) (o := .cells #[.int .i64 0, .int .i64 0, .slice none 0 0, .string (⟨#[]⟩ : ByteArray)] 25 (0, 0)) m39_ hb); replace HB := Aside0.mk (below_step m8_ hb); (try clear hb); (try clear hb2); (try clear hk); (try clear hi); have hnb14 := NB157_158.out; have hnc14 := NB158_157.out; obtain ⟨hcz15_0, hcz15_1, hcz15_2⟩ := bc3_ BK157.out; obtain ⟨hfz15_0, hfz15_1, hfz15_2⟩ := bf3_ BK157.out) | (go_at_call 36; (with_reducible refine (cap_good.calls a1_0 a1_1 a1_2 t160 _ A9.out).mono ?_); rintro e w16 ⟨rfl, hb⟩; replace BK156 := Aside0.mk (blk_below (g := gb156) (o := .cells #[.int .i64 a0_0, .int .i64 a0_1, .slice A0_2 l0_2.length c0_2, .string a0_3] 25 (0, 0)) m36_ hb); replace BK157 := Aside0.mk (blk_below (g := gb157) (o := .cells #[.string a1_0, .int .i64 a1_1, .int .i64 a1_2] 35 (0, 0)) m32_ hb); replace BK158 := Aside0.mk (blk_below (g := gb158) (o := .cells #[.int .i64 0, .int .i64 0, .slice none 0 0, .string (⟨#[]⟩ : ByteArray)] 25 (0, 0)) m39_ hb); replace HB := Aside0.mk (below_step m8_ hb); (try clear hb); (try clear hb2); (try clear hk); (try clear hi)))
  go_meet
  case rel => exact ⟨_, (!t160), m55_, H', ⟨by first | omega | exact Nat.le_refl _⟩, ⟨by refine bD_ ?_; exact BK156.out⟩, ⟨by refine bD_ ?_; exact BK157.out⟩, ⟨by refine bD_ ?_; exact BK158.out⟩, ⟨m59_⟩⟩
 clear HC3
 obtain ⟨kq, x13_2, rfl, HA, HJ2, BK156, BK157, BK158, HB⟩ := hcut
 cases kq with
 | zero => exact absurd HA.out (by simp [cap_Narrow.j0])
 | succ kj2 =>
  have H := HA.out
  clear HA
  simp only [cap_Narrow.j0] at H
  by_cases c21 : x13_2 = true
  ·subst c21
   have H1 : (some (0, 0, ([] : List (S35)), (⟨#[]⟩ : ByteArray), 1)) = some (r1, r2, r3, r4, r5) := by rw [if_pos rfl] at H; exact H
   clear H
   have H := H1
   clear H1
   simp only [Option.some.injEq, Prod.mk.injEq] at H
   obtain ⟨rfl, rfl, rfl, rfl, rfl⟩ := H
   have hnb22 := NB158_156.out
   have hnc22 := NB156_158.out
   have hnb23 := NB158_157.out
   have hnc23 := NB157_158.out
   obtain ⟨hcz24_0, hcz24_1, hcz24_2, hcz24_3⟩ := bc4_ BK158.out
   obtain ⟨hfz24_0, hfz24_1, hfz24_2, hfz24_3⟩ := bf4_ BK158.out
   go_wp2
   refine bodyPost_ret (results_ct rfl _ _ gb158 25 #[.int .i64 0, .int .i64 0, .slice none 0 0, .string (⟨#[]⟩ : ByteArray)] (0, 0) _ rfl (by refine bD_ ?_; refine blk_put (cs := #[.int .i64 0, .int .i64 0, .slice none 0 0, .string (⟨#[]⟩ : ByteArray)]) ?_ 3 _ rfl; refine bD_ ?_; refine blk_put (cs := #[.int .i64 0, .int .i64 0, .slice none 0 0, .string (⟨#[]⟩ : ByteArray)]) ?_ 2 _ rfl; refine bD_ ?_; refine blk_put (cs := #[.int .i64 0, .int .i64 0, .slice none 0 0, .string (⟨#[]⟩ : ByteArray)]) ?_ 1 _ rfl; refine bD_ ?_; refine blk_put (cs := #[.int .i64 0, .int .i64 0, .slice none 0 0, .string (⟨#[]⟩ : ByteArray)]) ?_ 0 _ rfl; refine bD_ ?_; exact BK158.out) Tryd.underlying25 rfl (by kernel_rfl)) rfl ?_
   exact ⟨_, by first | rfl | (simp [errW_none, errW_some] <;> rfl) | (simp [*, errW_none, errW_some] <;> rfl), by first | exact Kd.R_nil _ _ _ _ _ | exact Kd.N_nil _ _ _ _ _ | exact Kd.V_nil _ _ _ _ _ | exact Kd.Q_nil _ _ _ _ _ | exact Kd.S_nil _ _ _ _ _, m59_⟩
  replace c21 := Bool.eq_false_iff.mpr c21
  subst c21
  have H1 : (if (l0_2.length : Int) = 8 then (some (0, 0, ([] : List (S35)), (⟨#[]⟩ : ByteArray), 5)) else ((some (([] : List (S35)) : List (S35))).bind fun y161 => (if y161.length + l0_2.length < 4398046511104 then ((some (y161 ++ l0_2 : List (S35))).bind fun y164 => ((some (([(⟨a1_0, a1_1, a1_2⟩ : S35)] : List (S35)) : List (S35))).bind fun y167 => (if y164.length + y167.length < 4398046511104 then ((cap_bytes.f kj2 a1_0 a1_1 a1_2).bind fun t173 => ((mac_Seal.f a0_3 (strOfNums t173)).bind fun t176 => (some (a0_0, a0_1, (y164 ++ y167), t176, 0)))) else (none)))) else (none)))) = some (r1, r2, r3, r4, r5) := by rw [if_neg (show ¬ (false = true) by decide)] at H; exact H
  clear H
  have H := H1
  clear H1
  by_cases c25 : (l0_2.length : Int) = 8
  ·rw [if_pos c25] at H
   have c25b0 : ((l0_2.length : Int) == 8) = true := beq_iff_eq.mpr c25
   have c25b1 : ((l0_2.length : Int) != 8) = false := bne_eq_false_iff_eq.mpr c25
   clear c25
   simp only [Option.some.injEq, Prod.mk.injEq] at H
   obtain ⟨rfl, rfl, rfl, rfl, rfl⟩ := H
   have hnb26 := NB156_157.out
   have hnc26 := NB157_156.out
   have hnb27 := NB156_158.out
   have hnc27 := NB158_156.out
   obtain ⟨hcz28_0, hcz28_1, hcz28_2, hcz28_3⟩ := bc4_ BK156.out
   obtain ⟨hfz28_0, hfz28_1, hfz28_2, hfz28_3⟩ := bf4_ BK156.out
   have hnb29 := NB158_157.out
   have hnc29 := NB157_158.out
   obtain ⟨hcz30_0, hcz30_1, hcz30_2, hcz30_3⟩ := bc4_ BK158.out
   obtain ⟨hfz30_0, hfz30_1, hfz30_2, hfz30_3⟩ := bf4_ BK158.out
   go_wp2
   refine bodyPost_ret (results_ct rfl _ _ gb158 25 #[.int .i64 0, .int .i64 0, .slice none 0 0, .string (⟨#[]⟩ : ByteArray)] (0, 0) _ rfl (by refine bD_ ?_; refine blk_put (cs := #[.int .i64 0, .int .i64 0, .slice none 0 0, .string (⟨#[]⟩ : ByteArray)]) ?_ 3 _ rfl; refine bD_ ?_; refine blk_put (cs := #[.int .i64 0, .int .i64 0, .slice none 0 0, .string (⟨#[]⟩ : ByteArray)]) ?_ 2 _ rfl; refine bD_ ?_; refine blk_put (cs := #[.int .i64 0, .int .i64 0, .slice none 0 0, .string (⟨#[]⟩ : ByteArray)]) ?_ 1 _ rfl; refine bD_ ?_; refine blk_put (cs := #[.int .i64 0, .int .i64 0, .slice none 0 0, .string (⟨#[]⟩ : ByteArray)]) ?_ 0 _ rfl; refine bD_ ?_; exact BK158.out) Tryd.underlying25 rfl (by kernel_rfl)) rfl ?_
   exact ⟨_, by first | rfl | (simp [errW_none, errW_some] <;> rfl) | (simp [*, errW_none, errW_some] <;> rfl), by first | exact Kd.R_nil _ _ _ _ _ | exact Kd.N_nil _ _ _ _ _ | exact Kd.V_nil _ _ _ _ _ | exact Kd.Q_nil _ _ _ _ _ | exact Kd.S_nil _ _ _ _ _, m59_⟩
  rw [if_neg c25] at H
  have c25b0 : ((l0_2.length : Int) == 8) = false := beq_eq_false_iff_ne.mpr c25
  have c25b1 : ((l0_2.length : Int) != 8) = true := bne_iff_ne.mpr c25
  obtain ⟨y161, hy161⟩ : ∃ y_ : List (S35), y_ = (([] : List (S35))) := ⟨_, rfl⟩
  replace H : (if y161.length + l0_2.length < 4398046511104 then ((some (y161 ++ l0_2 : List (S35))).bind fun y164 => ((some (([(⟨a1_0, a1_1, a1_2⟩ : S35)] : List (S35)) : List (S35))).bind fun y167 => (if y164.length + y167.length < 4398046511104 then ((cap_bytes.f kj2 a1_0 a1_1 a1_2).bind fun t173 => ((mac_Seal.f a0_3 (strOfNums t173)).bind fun t176 => (some (a0_0, a0_1, (y164 ++ y167), t176, 0)))) else (none)))) else (none)) = some (r1, r2, r3, r4, r5) := by first | (rw [hy161]; with_reducible exact H) | (have H2_ := (Option.bind_some _ _).symm.trans H; rw [hy161]; with_reducible exact H2_) | (have H2_ := (Option.bind_some _ _).symm.trans H; with_reducible exact H2_) | with_reducible exact H | (rw [hy161]; exact H) | exact H
  have Ny161 := Aside0.mk hy161
  clear hy161
  by_cases c31 : y161.length + l0_2.length < 4398046511104
  case neg =>
   rw [if_neg c31] at H
   exact absurd H (by simp)
  rw [if_pos c31] at H
  have LMc31 := Aside0.mk c31
  clear c31
  obtain ⟨y164, hy164⟩ : ∃ y_ : List (S35), y_ = (y161 ++ l0_2) := ⟨_, rfl⟩
  replace H : ((some (([(⟨a1_0, a1_1, a1_2⟩ : S35)] : List (S35)) : List (S35))).bind fun y167 => (if y164.length + y167.length < 4398046511104 then ((cap_bytes.f kj2 a1_0 a1_1 a1_2).bind fun t173 => ((mac_Seal.f a0_3 (strOfNums t173)).bind fun t176 => (some (a0_0, a0_1, (y164 ++ y167), t176, 0)))) else (none))) = some (r1, r2, r3, r4, r5) := by first | (rw [hy164]; with_reducible exact H) | (have H2_ := (Option.bind_some _ _).symm.trans H; rw [hy164]; with_reducible exact H2_) | (have H2_ := (Option.bind_some _ _).symm.trans H; with_reducible exact H2_) | with_reducible exact H | (rw [hy164]; exact H) | exact H
  have Ny164 := Aside0.mk hy164
  clear hy164
  obtain ⟨y167, hy167⟩ : ∃ y_ : List (S35), y_ = (([(⟨a1_0, a1_1, a1_2⟩ : S35)] : List (S35))) := ⟨_, rfl⟩
  replace H : (if y164.length + y167.length < 4398046511104 then ((cap_bytes.f kj2 a1_0 a1_1 a1_2).bind fun t173 => ((mac_Seal.f a0_3 (strOfNums t173)).bind fun t176 => (some (a0_0, a0_1, (y164 ++ y167), t176, 0)))) else (none)) = some (r1, r2, r3, r4, r5) := by first | (rw [hy167]; with_reducible exact H) | (have H2_ := (Option.bind_some _ _).symm.trans H; rw [hy167]; with_reducible exact H2_) | (have H2_ := (Option.bind_some _ _).symm.trans H; with_reducible exact H2_) | with_reducible exact H | (rw [hy167]; exact H) | exact H
  have Ny167 := Aside0.mk hy167
  clear hy167
  by_cases c32 : y164.length + y167.length < 4398046511104
  case neg =>
   rw [if_neg c32] at H
   exact absurd H (by simp)
  rw [if_pos c32] at H
  have LMc32 := Aside0.mk c32
  clear c32
  obtain ⟨y170, hy170⟩ : ∃ y_ : List (S35), y_ = (y164 ++ y167) := ⟨_, rfl⟩
  replace H : ((cap_bytes.f kj2 a1_0 a1_1 a1_2).bind fun t173 => ((mac_Seal.f a0_3 (strOfNums t173)).bind fun t176 => (some (a0_0, a0_1, y170, t176, 0)))) = some (r1, r2, r3, r4, r5) := by first | (rw [hy170]; with_reducible exact H) | (have H2_ := (Option.bind_some _ _).symm.trans H; rw [hy170]; with_reducible exact H2_) | (have H2_ := (Option.bind_some _ _).symm.trans H; with_reducible exact H2_) | with_reducible exact H | (rw [hy170]; exact H) | exact H
  have Ny170 := Aside0.mk hy170
  clear hy170
  replace H := Option.bind_eq_some_iff.mp H
  obtain ⟨t173, A330, H⟩ := H
  replace H : ((mac_Seal.f a0_3 (strOfNums t173)).bind fun t176 => (some (a0_0, a0_1, y170, t176, 0))) = some (r1, r2, r3, r4, r5) := H
  have A33 := Aside0.mk A330
  clear A330
  replace H := Option.bind_eq_some_iff.mp H
  obtain ⟨t176, A340, H⟩ := H
  replace H : (some (a0_0, a0_1, y170, t176, 0)) = some (r1, r2, r3, r4, r5) := H
  have A34 := Aside0.mk A340
  clear A340
  simp only [Option.some.injEq, Prod.mk.injEq] at H
  obtain ⟨rfl, rfl, rfl, rfl, rfl⟩ := H
  have hnb35 := NB156_157.out
  have hnc35 := NB157_156.out
  have hnb36 := NB156_158.out
  have hnc36 := NB158_156.out
  obtain ⟨hcz37_0, hcz37_1, hcz37_2, hcz37_3⟩ := bc4_ BK156.out
  obtain ⟨hfz37_0, hfz37_1, hfz37_2, hfz37_3⟩ := bf4_ BK156.out
  try go_wp2
  replace BK156 := Aside0.mk (blk_drew BK156.out)
  replace BK157 := Aside0.mk (blk_drew BK157.out)
  replace BK158 := Aside0.mk (blk_drew BK158.out)
  replace HB := Aside0.mk (below_drew1 HB.out)
  refine start_ (n := 9) (S := fun w' => w'.cell? ⟨gb156, 0, none⟩ = some (.int .i64 a0_0) ∧ w'.cell? ⟨gb156, 1, none⟩ = some (.int .i64 a0_1) ∧ w'.cell? ⟨gb156, 2, none⟩ = some (.slice A0_2 l0_2.length c0_2) ∧ w'.cell? ⟨gb156, 3, none⟩ = some (.string a0_3) ∧ w'.cell? ⟨gb157, 0, none⟩ = some (.string a1_0) ∧ w'.cell? ⟨gb157, 1, none⟩ = some (.int .i64 a1_1) ∧ w'.cell? ⟨gb157, 2, none⟩ = some (.int .i64 a1_2)) (ds := [8]) (Ra_ [0, 9]) (by kernel_rfl) rfl rfl ⟨(blk_cell BK156.out 0).trans rfl, (blk_cell BK156.out 1).trans rfl, (blk_cell BK156.out 2).trans rfl, (blk_cell BK156.out 3).trans rfl, (blk_cell BK157.out 0).trans rfl, (blk_cell BK157.out 1).trans rfl, (blk_cell BK157.out 2).trans rfl⟩ (fun hHeld => ?_); refine with_tabW cap_Narrow.tab5 cap_Narrow.bits5 (fun HT_ HW_ => ?_)
  generalize wc.drew = w38 at BK156 BK157 BK158 HB hHeld ⊢
  refine pI_ 1 (some 21) (Ra_ [0, 1, 1, 7]) (h := ?_)
  refine tI7_ 2 (some 22) (Ra_ [0, 1, 2, 6]) (h := ?_)
  refine tI7_ 4 (some 24) (Ra_ [0, 1, 2, 1, 1, 4]) (h := ?_)
  refine join_ (σ := Value × Value × Value) 3 (Ra_ [6, 3]) (fun s_ => [(20, s_.1), (23, s_.2.1), (25, s_.2.2)]) (fun s_ w' => (w'.cell? ⟨gb156, 0, none⟩ = some (.int .i64 a0_0) ∧ w'.cell? ⟨gb156, 1, none⟩ = some (.int .i64 a0_1) ∧ w'.cell? ⟨gb156, 2, none⟩ = some (.slice A0_2 l0_2.length c0_2) ∧ w'.cell? ⟨gb156, 3, none⟩ = some (.string a0_3) ∧ w'.cell? ⟨gb157, 0, none⟩ = some (.string a1_0) ∧ w'.cell? ⟨gb157, 1, none⟩ = some (.int .i64 a1_1) ∧ w'.cell? ⟨gb157, 2, none⟩ = some (.int .i64 a1_2)) ∧ (Kd.R k35 35 w' w.heap.size (fun k_ => some k_ ≠ (s_.2.2 : Value).ownBlock ∧ k_ ≠ gb157) s_.2.1 y164) ∧ (Kd.R k35 35 w' w.heap.size (fun k_ => some k_ ≠ (s_.2.1 : Value).ownBlock ∧ k_ ≠ gb157) s_.2.2 y167) ∧ (w'.heap[gb156]? = some (.cells #[.int .i64 a0_0, .int .i64 a0_1, .slice A0_2 l0_2.length c0_2, .string a0_3] 25 (0, 0))) ∧ (w'.heap[gb157]? = some (.cells #[.string a1_0, .int .i64 a1_1, .int .i64 a1_2] 35 (0, 0))) ∧ (w'.heap[gb158]? = some (.cells #[.int .i64 0, .int .i64 0, .slice none 0 0, .string (⟨#[]⟩ : ByteArray)] 25 (0, 0))) ∧ (Below w.heap.size w w')) ?_ ?_
  rotate_left
  ·intro hCont
   refine two_ (i := 0) (j := 5) (Ni := some 20) (Nj := some 25) (Ra_ [3, 1, 1, 4]) (Ra_ [0, 1, 2, 1, 2, 3]) rfl rfl rfl rfl (two_of HT_.out (by kernel_rfl)) (by decide) (by decide) (fun K hK => ?_) (fun K hK => ?_)
   ·skip
    refine Kd.R_lit_step k35 _ 35 ?hg (N := 20) ?hd (xs := ([] : List (S35))) (inner := []) (ok := fun _ => True) (okp := fun _ => True) ?hr ?hp (fun _ hk => hk) trivial (Below.refl _ _) (Nat.le_refl _) (by simp) ?_; (case hd => rfl); (case hg => rfl); (case hr => first | (go_simp; done) | (go_simp; rfl)); (case hp => exact (Reps.none _ _))
    intro v162 w39 ho40 hb hg_ hnew_
    clear hg_ hnew_
    (first | rw [← Ny161.out] at ho40 | (simp only [Int.reduceToNat] at ho40; rw [← Ny161.out] at ho40))
    have HO163 := Aside0.mk (Kd.R_lower (Kd.R_newB ho40 (g := gb157) (o := .cells #[.string a1_0, .int .i64 a1_1, .int .i64 a1_2] 35 (0, 0)) m32_) (below_size m8_))
    replace BK156 := Aside0.mk (blk_below (g := gb156) (o := .cells #[.int .i64 a0_0, .int .i64 a0_1, .slice A0_2 l0_2.length c0_2, .string a0_3] 25 (0, 0)) m36_ hb)
    replace BK157 := Aside0.mk (blk_below (g := gb157) (o := .cells #[.string a1_0, .int .i64 a1_1, .int .i64 a1_2] 35 (0, 0)) m32_ hb)
    replace BK158 := Aside0.mk (blk_below (g := gb158) (o := .cells #[.int .i64 0, .int .i64 0, .slice none 0 0, .string (⟨#[]⟩ : ByteArray)] 25 (0, 0)) m39_ hb)
    replace HB := Aside0.mk (below_step m8_ hb)
    clear hb ho40
    refine hK.out _ _ ⟨(blk_cell BK156.out 0).trans rfl, (blk_cell BK156.out 1).trans rfl, (blk_cell BK156.out 2).trans rfl, (blk_cell BK156.out 3).trans rfl, (blk_cell BK157.out 0).trans rfl, (blk_cell BK157.out 1).trans rfl, (blk_cell BK157.out 2).trans rfl⟩ (fun hHeld => ?_)
    clear hK K
    refine norm_ (a' := ?_) ?_ ?_
    rotate_left
    ·show Act.put _ (some 20) _ = _
     simp only [Act.put, sA_, sB_, sC_, i64_w, i32_w]
     rfl
    refine two_ (i := 3) (j := 5) (Ni := some 23) (Nj := some 25) (Ra_ [5, 4]) (Ra_ [3, 1, 2, 3]) rfl rfl rfl rfl (two_of HT_.out (by kernel_rfl)) (by decide) (by decide) (fun K hK => ?_) (fun K hK => ?_)
    ·skip
     refine Kd.R_append_rows_step k35 (w0 := w) w.heap.size (by rfl) (.tmp 20) (.tmp 22) 23 35 (.agg #[(.string ⟨#[]⟩), (.int .i64 0), (.int .i64 0)]) 32 rfl Tryd.underlying23 info35 rfl (by decide) (by omega) v162 y161 l0_2 _ _ _ (fun k_ => k_ ≠ gb157) (fun _ => False) rfl rfl ?aO ?aR (fun _ _ h => h) (fun _ h => h.elim) ?aF ?aB ?aS ?aL ?_
     (case aR => exact m65_)
     (case aB => exact m8_)
     (case aF => exact (fun k_ hk => Kd.freshB (g := gb157) (o := .cells #[.string a1_0, .int .i64 a1_1, .int .i64 a1_2] 35 (0, 0)) m32_ k_ hk))
     (case aO => exact (by refine rD_ ?_; exact Kd.R_mono HO163.out (fun _ hk => hk.2)))
     (case aS => exact (below_size m8_))
     (case aL => have := LMc31.out; omega)
     intro v165 w41 ho hb hg hat
     rw [← Ny164.out] at ho
     have n0_ := Aside0.mk (blk_grown (g := gb156) (o := .cells #[.int .i64 a0_0, .int .i64 a0_1, .slice A0_2 l0_2.length c0_2, .string a0_3] 25 (0, 0)) m36_ hg (Kd.R_ne HO163.out BK156.out (by decide)))
     have n1_ := Aside0.mk (blk_grown (g := gb157) (o := .cells #[.string a1_0, .int .i64 a1_1, .int .i64 a1_2] 35 (0, 0)) m32_ hg (Kd.R_away HO163.out (fun _ hk => hk.2)))
     have n2_ := Aside0.mk (blk_grown (g := gb158) (o := .cells #[.int .i64 0, .int .i64 0, .slice none 0 0, .string (⟨#[]⟩ : ByteArray)] 25 (0, 0)) m39_ hg (Kd.R_ne HO163.out BK158.out (by decide)))
     have n3_ := Aside0.mk (hb)
     have n4_ := Aside0.mk (ho)
     clear BK156 BK157 BK158 HB HO163
     have BK156 := n0_
     have BK157 := n1_
     have BK158 := n2_
     have HB := n3_
     have HO166 := n4_
     clear n0_ n1_ n2_ n3_ n4_ ho hb hg hat
     refine hK.out _ _ ⟨(blk_cell BK156.out 0).trans rfl, (blk_cell BK156.out 1).trans rfl, (blk_cell BK156.out 2).trans rfl, (blk_cell BK156.out 3).trans rfl, (blk_cell BK157.out 0).trans rfl, (blk_cell BK157.out 1).trans rfl, (blk_cell BK157.out 2).trans rfl⟩ (fun hHeld => ?_)
     clear hK K
     refine norm_ (a' := ?_) ?_ ?_
     rotate_left
     ·show Act.put _ (some 23) _ = _
      simp only [Act.put, sA_, sB_, sC_, i64_w, i32_w]
      rfl
     refine one_ (i := 5) (N := some 25) (Ra_ [6, 3]) rfl rfl (one_of HT_.out (by kernel_rfl)) (by decide) (fun K hK => ?_)
     refine Kd.R_lit_step k35 _ 35 ?hg (N := 25) ?hd (xs := ([(⟨a1_0, a1_1, a1_2⟩ : S35)] : List (S35))) (inner := [.string a1_0, .int .i64 a1_1, .int .i64 a1_2]) (ok := fun _ => True) (okp := fun _ => True) ?hr ?hp (fun _ hk => hk) trivial (Below.refl _ _) (Nat.le_refl _) (by simp) ?_; (case hd => rfl); (case hg => rfl); (case hr => first | (go_simp; done) | (go_simp; rfl)); (case hp => exact (Reps.c3 (show Kd.M k35 _ _ _ (⟨a1_0, a1_1, a1_2⟩ : S35) [.string a1_0, .int .i64 a1_1, .int .i64 a1_2] from (k35_mkM _ _ _ (⟨a1_0, a1_1, a1_2⟩ : S35) )) (Reps.none _ _)))
     intro v168 w42 ho43 hb hg_ hnew_
     clear hg_ hnew_
     (first | rw [← Ny167.out] at ho43 | (simp only [Int.reduceToNat] at ho43; rw [← Ny167.out] at ho43))
     have n0_ := Aside0.mk (Kd.R_elder' (rD_ HO166.out) (Kd.R_base ho43) hb)
     have n1_ := Aside0.mk (Kd.R_lower (Kd.R_newB (Kd.R_new' ho43 (Kd.R_lt (rD_ HO166.out))) (g := gb157) (o := .cells #[.string a1_0, .int .i64 a1_1, .int .i64 a1_2] 35 (0, 0)) m32_) (below_size m8_))
     have n2_ := Aside0.mk (blk_below (g := gb156) (o := .cells #[.int .i64 a0_0, .int .i64 a0_1, .slice A0_2 l0_2.length c0_2, .string a0_3] 25 (0, 0)) m36_ hb)
     have n3_ := Aside0.mk (blk_below (g := gb157) (o := .cells #[.string a1_0, .int .i64 a1_1, .int .i64 a1_2] 35 (0, 0)) m32_ hb)
     have n4_ := Aside0.mk (blk_below (g := gb158) (o := .cells #[.int .i64 0, .int .i64 0, .slice none 0 0, .string (⟨#[]⟩ : ByteArray)] 25 (0, 0)) m39_ hb)
     have n5_ := Aside0.mk (below_step m8_ hb)
     clear HO166 BK156 BK157 BK158 HB
     have HO166 := n0_
     have HO169 := n1_
     have BK156 := n2_
     have BK157 := n3_
     have BK158 := n4_
     have HB := n5_
     clear n0_ n1_ n2_ n3_ n4_ n5_ hb ho43
     refine hK.out _ _ ⟨(blk_cell BK156.out 0).trans rfl, (blk_cell BK156.out 1).trans rfl, (blk_cell BK156.out 2).trans rfl, (blk_cell BK156.out 3).trans rfl, (blk_cell BK157.out 0).trans rfl, (blk_cell BK157.out 1).trans rfl, (blk_cell BK157.out 2).trans rfl⟩ (fun hHeld => ?_)
     clear hK K
     refine norm_ (a' := ?_) ?_ ?_
     rotate_left
     ·show Act.put _ (some 25) _ = _
      simp only [Act.put, sA_, sB_, sC_, i64_w, i32_w]
      rfl
     exact norm_ (by simp only [putAll, Act.put, List.setIfInBounds_toArray, List.set_cons_zero, List.set_cons_succ]) (hCont (v162, v165, v168) _ ⟨hHeld, (by refine rD_ ?_; exact Kd.R_mono HO166.out (fun _ hk => ⟨hk.2, hk.1⟩)), (by refine rD_ ?_; exact Kd.R_mono HO169.out (fun _ hk => ⟨hk.1.2, hk.2⟩)), m36_, m32_, m39_, m8_⟩)
    skip
    refine Kd.R_lit_step k35 _ 35 ?hg (N := 25) ?hd (xs := ([(⟨a1_0, a1_1, a1_2⟩ : S35)] : List (S35))) (inner := [.string a1_0, .int .i64 a1_1, .int .i64 a1_2]) (ok := fun _ => True) (okp := fun _ => True) ?hr ?hp (fun _ hk => hk) trivial (Below.refl _ _) (Nat.le_refl _) (by simp) ?_; (case hd => rfl); (case hg => rfl); (case hr => first | (go_simp; done) | (go_simp; rfl)); (case hp => exact (Reps.c3 (show Kd.M k35 _ _ _ (⟨a1_0, a1_1, a1_2⟩ : S35) [.string a1_0, .int .i64 a1_1, .int .i64 a1_2] from (k35_mkM _ _ _ (⟨a1_0, a1_1, a1_2⟩ : S35) )) (Reps.none _ _)))
    intro v168 w41 ho42 hb hg_ hnew_
    clear hg_ hnew_
    (first | rw [← Ny167.out] at ho42 | (simp only [Int.reduceToNat] at ho42; rw [← Ny167.out] at ho42))
    have n0_ := Aside0.mk (Kd.R_elder' (rD_ HO163.out) (Kd.R_base ho42) hb)
    have n1_ := Aside0.mk (Kd.R_lower (Kd.R_newB (Kd.R_new' ho42 (Kd.R_lt (rD_ HO163.out))) (g := gb157) (o := .cells #[.string a1_0, .int .i64 a1_1, .int .i64 a1_2] 35 (0, 0)) m32_) (below_size m8_))
    have n2_ := Aside0.mk (blk_below (g := gb156) (o := .cells #[.int .i64 a0_0, .int .i64 a0_1, .slice A0_2 l0_2.length c0_2, .string a0_3] 25 (0, 0)) m36_ hb)
    have n3_ := Aside0.mk (blk_below (g := gb157) (o := .cells #[.string a1_0, .int .i64 a1_1, .int .i64 a1_2] 35 (0, 0)) m32_ hb)
    have n4_ := Aside0.mk (blk_below (g := gb158) (o := .cells #[.int .i64 0, .int .i64 0, .slice none 0 0, .string (⟨#[]⟩ : ByteArray)] 25 (0, 0)) m39_ hb)
    have n5_ := Aside0.mk (below_step m8_ hb)
    clear HO163 BK156 BK157 BK158 HB
    have HO163 := n0_
    have HO169 := n1_
    have BK156 := n2_
    have BK157 := n3_
    have BK158 := n4_
    have HB := n5_
    clear n0_ n1_ n2_ n3_ n4_ n5_ hb ho42
    refine hK.out _ _ ⟨(blk_cell BK156.out 0).trans rfl, (blk_cell BK156.out 1).trans rfl, (blk_cell BK156.out 2).trans rfl, (blk_cell BK156.out 3).trans rfl, (blk_cell BK157.out 0).trans rfl, (blk_cell BK157.out 1).trans rfl, (blk_cell BK157.out 2).trans rfl⟩ (fun hHeld => ?_)
    clear hK K
    refine norm_ (a' := ?_) ?_ ?_
    rotate_left
    ·show Act.put _ (some 25) _ = _
     simp only [Act.put, sA_, sB_, sC_, i64_w, i32_w]
     rfl
    refine one_ (i := 3) (N := some 23) (Ra_ [6, 3]) rfl rfl (one_of HT_.out (by kernel_rfl)) (by decide) (fun K hK => ?_)
    refine Kd.R_append_rows_step k35 (w0 := w) w.heap.size (by rfl) (.tmp 20) (.tmp 22) 23 35 (.agg #[(.string ⟨#[]⟩), (.int .i64 0), (.int .i64 0)]) 32 rfl Tryd.underlying23 info35 rfl (by decide) (by omega) v162 y161 l0_2 _ _ _ (fun k_ => some k_ ≠ (v168 : Value).ownBlock ∧ k_ ≠ gb157) (fun _ => False) rfl rfl ?aO ?aR (fun _ _ h => h) (fun _ h => h.elim) ?aF ?aB ?aS ?aL ?_
    (case aR => exact m65_)
    (case aB => exact m8_)
    (case aF => exact (fun k_ hk => ⟨Kd.fresh' (Kd.R_lt m52_) k_ hk, Kd.freshB (g := gb157) (o := .cells #[.string a1_0, .int .i64 a1_1, .int .i64 a1_2] 35 (0, 0)) m32_ k_ hk⟩))
    (case aO => exact (by refine rD_ ?_; exact Kd.R_mono HO163.out (fun _ hk => ⟨hk.2, hk.1.2⟩)))
    (case aS => exact (below_size m8_))
    (case aL => have := LMc31.out; omega)
    intro v165 w43 ho hb hg hat
    rw [← Ny164.out] at ho
    have n0_ := Aside0.mk (blk_grown (g := gb156) (o := .cells #[.int .i64 a0_0, .int .i64 a0_1, .slice A0_2 l0_2.length c0_2, .string a0_3] 25 (0, 0)) m36_ hg (Kd.R_ne HO163.out BK156.out (by decide)))
    have n1_ := Aside0.mk (blk_grown (g := gb157) (o := .cells #[.string a1_0, .int .i64 a1_1, .int .i64 a1_2] 35 (0, 0)) m32_ hg (Kd.R_away HO163.out (fun _ hk => hk.1.2)))
    have n2_ := Aside0.mk (blk_grown (g := gb158) (o := .cells #[.int .i64 0, .int .i64 0, .slice none 0 0, .string (⟨#[]⟩ : ByteArray)] 25 (0, 0)) m39_ hg (Kd.R_ne HO163.out BK158.out (by decide)))
    have n3_ := Aside0.mk (Kd.R_after (ok := (fun k_ => k_ ≠ gb157)) (by refine rD_ ?_; exact Kd.R_mono HO169.out (fun _ hk => ⟨hk.2, hk.1.2⟩)) hg hat)
    have n4_ := Aside0.mk (hb)
    have n5_ := Aside0.mk (ho)
    clear BK156 BK157 BK158 HO169 HB HO163
    have BK156 := n0_
    have BK157 := n1_
    have BK158 := n2_
    have HO169 := n3_
    have HB := n4_
    have HO166 := n5_
    clear n0_ n1_ n2_ n3_ n4_ n5_ ho hb hg hat
    refine hK.out _ _ ⟨(blk_cell BK156.out 0).trans rfl, (blk_cell BK156.out 1).trans rfl, (blk_cell BK156.out 2).trans rfl, (blk_cell BK156.out 3).trans rfl, (blk_cell BK157.out 0).trans rfl, (blk_cell BK157.out 1).trans rfl, (blk_cell BK157.out 2).trans rfl⟩ (fun hHeld => ?_)
    clear hK K
    refine norm_ (a' := ?_) ?_ ?_
    rotate_left
    ·show Act.put _ (some 23) _ = _
     simp only [Act.put, sA_, sB_, sC_, i64_w, i32_w]
     rfl
    exact norm_ (by simp only [putAll, Act.put, List.setIfInBounds_toArray, List.set_cons_zero, List.set_cons_succ]) (hCont (v162, v165, v168) _ ⟨hHeld, (rD_ HO166.out), (by refine rD_ ?_; exact Kd.R_mono HO169.out (fun _ hk => ⟨hk.2, hk.1⟩)), m36_, m32_, m39_, m8_⟩)
   skip
   refine Kd.R_lit_step k35 _ 35 ?hg (N := 25) ?hd (xs := ([(⟨a1_0, a1_1, a1_2⟩ : S35)] : List (S35))) (inner := [.string a1_0, .int .i64 a1_1, .int .i64 a1_2]) (ok := fun _ => True) (okp := fun _ => True) ?hr ?hp (fun _ hk => hk) trivial (Below.refl _ _) (Nat.le_refl _) (by simp) ?_; (case hd => rfl); (case hg => rfl); (case hr => first | (go_simp; done) | (go_simp; rfl)); (case hp => exact (Reps.c3 (show Kd.M k35 _ _ _ (⟨a1_0, a1_1, a1_2⟩ : S35) [.string a1_0, .int .i64 a1_1, .int .i64 a1_2] from (k35_mkM _ _ _ (⟨a1_0, a1_1, a1_2⟩ : S35) )) (Reps.none _ _)))
   intro v168 w39 ho40 hb hg_ hnew_
   clear hg_ hnew_
   (first | rw [← Ny167.out] at ho40 | (simp only [Int.reduceToNat] at ho40; rw [← Ny167.out] at ho40))
   have HO169 := Aside0.mk (Kd.R_lower (Kd.R_newB ho40 (g := gb157) (o := .cells #[.string a1_0, .int .i64 a1_1, .int .i64 a1_2] 35 (0, 0)) m32_) (below_size m8_))
   replace BK156 := Aside0.mk (blk_below (g := gb156) (o := .cells #[.int .i64 a0_0, .int .i64 a0_1, .slice A0_2 l0_2.length c0_2, .string a0_3] 25 (0, 0)) m36_ hb)
   replace BK157 := Aside0.mk (blk_below (g := gb157) (o := .cells #[.string a1_0, .int .i64 a1_1, .int .i64 a1_2] 35 (0, 0)) m32_ hb)
   replace BK158 := Aside0.mk (blk_below (g := gb158) (o := .cells #[.int .i64 0, .int .i64 0, .slice none 0 0, .string (⟨#[]⟩ : ByteArray)] 25 (0, 0)) m39_ hb)
   replace HB := Aside0.mk (below_step m8_ hb)
   clear hb ho40
   refine hK.out _ _ ⟨(blk_cell BK156.out 0).trans rfl, (blk_cell BK156.out 1).trans rfl, (blk_cell BK156.out 2).trans rfl, (blk_cell BK156.out 3).trans rfl, (blk_cell BK157.out 0).trans rfl, (blk_cell BK157.out 1).trans rfl, (blk_cell BK157.out 2).trans rfl⟩ (fun hHeld => ?_)
   clear hK K
   refine norm_ (a' := ?_) ?_ ?_
   rotate_left
   ·show Act.put _ (some 25) _ = _
    simp only [Act.put, sA_, sB_, sC_, i64_w, i32_w]
    rfl
   refine one_ (i := 0) (N := some 20) (Ra_ [3, 1, 2, 3]) rfl rfl (one_of HT_.out (by kernel_rfl)) (by decide) (fun K hK => ?_)
   refine Kd.R_lit_step k35 _ 35 ?hg (N := 20) ?hd (xs := ([] : List (S35))) (inner := []) (ok := fun _ => True) (okp := fun _ => True) ?hr ?hp (fun _ hk => hk) trivial (Below.refl _ _) (Nat.le_refl _) (by simp) ?_; (case hd => rfl); (case hg => rfl); (case hr => first | (go_simp; done) | (go_simp; rfl)); (case hp => exact (Reps.none _ _))
   intro v162 w41 ho42 hb hg_ hnew_
   clear hg_ hnew_
   (first | rw [← Ny161.out] at ho42 | (simp only [Int.reduceToNat] at ho42; rw [← Ny161.out] at ho42))
   have n0_ := Aside0.mk (Kd.R_elder' m52_ (Kd.R_base ho42) hb)
   have n1_ := Aside0.mk (Kd.R_lower (Kd.R_newB (Kd.R_new' ho42 (Kd.R_lt m52_)) (g := gb157) (o := .cells #[.string a1_0, .int .i64 a1_1, .int .i64 a1_2] 35 (0, 0)) m32_) (below_size m8_))
   have n2_ := Aside0.mk (blk_below (g := gb156) (o := .cells #[.int .i64 a0_0, .int .i64 a0_1, .slice A0_2 l0_2.length c0_2, .string a0_3] 25 (0, 0)) m36_ hb)
   have n3_ := Aside0.mk (blk_below (g := gb157) (o := .cells #[.string a1_0, .int .i64 a1_1, .int .i64 a1_2] 35 (0, 0)) m32_ hb)
   have n4_ := Aside0.mk (blk_below (g := gb158) (o := .cells #[.int .i64 0, .int .i64 0, .slice none 0 0, .string (⟨#[]⟩ : ByteArray)] 25 (0, 0)) m39_ hb)
   have n5_ := Aside0.mk (below_step m8_ hb)
   clear HO169 BK156 BK157 BK158 HB
   have HO169 := n0_
   have HO163 := n1_
   have BK156 := n2_
   have BK157 := n3_
   have BK158 := n4_
   have HB := n5_
   clear n0_ n1_ n2_ n3_ n4_ n5_ hb ho42
   refine hK.out _ _ ⟨(blk_cell BK156.out 0).trans rfl, (blk_cell BK156.out 1).trans rfl, (blk_cell BK156.out 2).trans rfl, (blk_cell BK156.out 3).trans rfl, (blk_cell BK157.out 0).trans rfl, (blk_cell BK157.out 1).trans rfl, (blk_cell BK157.out 2).trans rfl⟩ (fun hHeld => ?_)
   clear hK K
   refine norm_ (a' := ?_) ?_ ?_
   rotate_left
   ·show Act.put _ (some 20) _ = _
    simp only [Act.put, sA_, sB_, sC_, i64_w, i32_w]
    rfl
   refine one_ (i := 3) (N := some 23) (Ra_ [6, 3]) rfl rfl (one_of HT_.out (by kernel_rfl)) (by decide) (fun K hK => ?_)
   refine Kd.R_append_rows_step k35 (w0 := w) w.heap.size (by rfl) (.tmp 20) (.tmp 22) 23 35 (.agg #[(.string ⟨#[]⟩), (.int .i64 0), (.int .i64 0)]) 32 rfl Tryd.underlying23 info35 rfl (by decide) (by omega) v162 y161 l0_2 _ _ _ (fun k_ => some k_ ≠ (v168 : Value).ownBlock ∧ k_ ≠ gb157) (fun _ => False) rfl rfl ?aO ?aR (fun _ _ h => h) (fun _ h => h.elim) ?aF ?aB ?aS ?aL ?_
   (case aR => exact m65_)
   (case aB => exact m8_)
   (case aF => exact (fun k_ hk => ⟨Kd.fresh' (Kd.R_lt m52_) k_ hk, Kd.freshB (g := gb157) (o := .cells #[.string a1_0, .int .i64 a1_1, .int .i64 a1_2] 35 (0, 0)) m32_ k_ hk⟩))
   (case aO => exact (by refine rD_ ?_; exact Kd.R_mono HO163.out (fun _ hk => ⟨hk.1.2, hk.2⟩)))
   (case aS => exact (below_size m8_))
   (case aL => have := LMc31.out; omega)
   intro v165 w43 ho hb hg hat
   rw [← Ny164.out] at ho
   have n0_ := Aside0.mk (blk_grown (g := gb156) (o := .cells #[.int .i64 a0_0, .int .i64 a0_1, .slice A0_2 l0_2.length c0_2, .string a0_3] 25 (0, 0)) m36_ hg (Kd.R_ne HO163.out BK156.out (by decide)))
   have n1_ := Aside0.mk (blk_grown (g := gb157) (o := .cells #[.string a1_0, .int .i64 a1_1, .int .i64 a1_2] 35 (0, 0)) m32_ hg (Kd.R_away HO163.out (fun _ hk => hk.2)))
   have n2_ := Aside0.mk (blk_grown (g := gb158) (o := .cells #[.int .i64 0, .int .i64 0, .slice none 0 0, .string (⟨#[]⟩ : ByteArray)] 25 (0, 0)) m39_ hg (Kd.R_ne HO163.out BK158.out (by decide)))
   have n3_ := Aside0.mk (Kd.R_after (ok := (fun k_ => k_ ≠ gb157)) (by refine rD_ ?_; exact Kd.R_mono HO169.out (fun _ hk => ⟨hk.1.2, hk.2⟩)) hg hat)
   have n4_ := Aside0.mk (hb)
   have n5_ := Aside0.mk (ho)
   clear BK156 BK157 BK158 HO169 HB HO163
   have BK156 := n0_
   have BK157 := n1_
   have BK158 := n2_
   have HO169 := n3_
   have HB := n4_
   have HO166 := n5_
   clear n0_ n1_ n2_ n3_ n4_ n5_ ho hb hg hat
   refine hK.out _ _ ⟨(blk_cell BK156.out 0).trans rfl, (blk_cell BK156.out 1).trans rfl, (blk_cell BK156.out 2).trans rfl, (blk_cell BK156.out 3).trans rfl, (blk_cell BK157.out 0).trans rfl, (blk_cell BK157.out 1).trans rfl, (blk_cell BK157.out 2).trans rfl⟩ (fun hHeld => ?_)
   clear hK K
   refine norm_ (a' := ?_) ?_ ?_
   rotate_left
   ·show Act.put _ (some 23) _ = _
    simp only [Act.put, sA_, sB_, sC_, i64_w, i32_w]
    rfl
   exact norm_ (by simp only [putAll, Act.put, List.setIfInBounds_toArray, List.set_cons_zero, List.set_cons_succ]) (hCont (v162, v165, v168) _ ⟨hHeld, (rD_ HO166.out), (by refine rD_ ?_; exact Kd.R_mono HO169.out (fun _ hk => ⟨hk.2, hk.1⟩)), m36_, m32_, m39_, m8_⟩)
  rintro ⟨v162, v165, v168⟩ w44 ⟨hS_, h0_, h1_, h2_, h3_, h4_, h5_⟩
  have n0_ : Aside0 (Kd.R k35 35 w44 w.heap.size (fun k_ => some k_ ≠ (v168 : Value).ownBlock ∧ k_ ≠ gb157) v165 y164) := ⟨h0_⟩
  have n1_ : Aside0 (Kd.R k35 35 w44 w.heap.size (fun k_ => some k_ ≠ (v165 : Value).ownBlock ∧ k_ ≠ gb157) v168 y167) := ⟨h1_⟩
  have n2_ : Aside0 (w44.heap[gb156]? = some (.cells #[.int .i64 a0_0, .int .i64 a0_1, .slice A0_2 l0_2.length c0_2, .string a0_3] 25 (0, 0))) := ⟨h2_⟩
  have n3_ : Aside0 (w44.heap[gb157]? = some (.cells #[.string a1_0, .int .i64 a1_1, .int .i64 a1_2] 35 (0, 0))) := ⟨h3_⟩
  have n4_ : Aside0 (w44.heap[gb158]? = some (.cells #[.int .i64 0, .int .i64 0, .slice none 0 0, .string (⟨#[]⟩ : ByteArray)] 25 (0, 0))) := ⟨h4_⟩
  have n5_ : Aside0 (Below w.heap.size w w44) := ⟨h5_⟩
  clear BK156 BK157 BK158 HB h0_ h1_ h2_ h3_ h4_ h5_
  have HO166 := n0_
  have HO169 := n1_
  have BK156 := n2_
  have BK157 := n3_
  have BK158 := n4_
  have HB := n5_
  clear n0_ n1_ n2_ n3_ n4_ n5_
  have hHeld : w44.cell? ⟨gb156, 0, none⟩ = some (.int .i64 a0_0) ∧ w44.cell? ⟨gb156, 1, none⟩ = some (.int .i64 a0_1) ∧ w44.cell? ⟨gb156, 2, none⟩ = some (.slice A0_2 l0_2.length c0_2) ∧ w44.cell? ⟨gb156, 3, none⟩ = some (.string a0_3) ∧ w44.cell? ⟨gb157, 0, none⟩ = some (.string a1_0) ∧ w44.cell? ⟨gb157, 1, none⟩ = some (.int .i64 a1_1) ∧ w44.cell? ⟨gb157, 2, none⟩ = some (.int .i64 a1_2) := hS_
  obtain ⟨Ao46, co46, eo46⟩ := Kd.R_slice HO169.out
  (first | subst eo46 | (injection eo46 with f1_ f2_ f3_; have f4_ := f1_.symm; have f5_ := f3_.symm; clear f1_ f2_ f3_; subst f4_; subst f5_))
  refine norm_ (a' := ?_) ?_ ?_
  rotate_left
  ·simp only [putAll, Act.put, List.setIfInBounds_toArray, List.set_cons_zero, List.set_cons_succ]
   rfl
  refine one_ (i := 6) (N := some 26) (Ra_ [7, 2]) rfl rfl (one_of HT_.out (by kernel_rfl)) (by decide) (fun K hK => ?_)
  refine Kd.R_append_rows_step k35 (w0 := w) w.heap.size (by rfl) (.tmp 23) (.tmp 25) 23 35 (.agg #[(.string ⟨#[]⟩), (.int .i64 0), (.int .i64 0)]) 32 rfl Tryd.underlying23 info35 rfl (by decide) (by omega) v165 y164 y167 _ _ _ (fun k_ => some k_ ≠ (.slice Ao46 y167.length co46 : Value).ownBlock ∧ k_ ≠ gb157) (fun _ => False) rfl rfl ?aO ?aR (fun _ _ h => h) (fun _ h => h.elim) ?aF ?aB ?aS ?aL ?_
  (case aR => repeat (first | exact (Kd.R_reads' HO169.out).2.2 | (with_reducible refine Kd.C_alloc ?_ _) | (with_reducible refine Kd.C_drewN ?_ _) | (with_reducible refine Kd.C_drew ?_)))
  (case aB => exact m8_)
  (case aF => exact (fun k_ hk => ⟨Kd.fresh' (Kd.R_lt m52_) k_ hk, Kd.freshB (g := gb157) (o := .cells #[.string a1_0, .int .i64 a1_1, .int .i64 a1_2] 35 (0, 0)) m32_ k_ hk⟩))
  (case aO => exact (rD_ HO166.out))
  (case aS => exact (below_size m8_))
  (case aL => have := LMc32.out; omega)
  intro v171 w45 ho hb hg hat
  rw [← Ny170.out] at ho
  have n0_ := Aside0.mk (blk_grown (g := gb156) (o := .cells #[.int .i64 a0_0, .int .i64 a0_1, .slice A0_2 l0_2.length c0_2, .string a0_3] 25 (0, 0)) m36_ hg (Kd.R_ne HO166.out BK156.out (by decide)))
  have n1_ := Aside0.mk (blk_grown (g := gb157) (o := .cells #[.string a1_0, .int .i64 a1_1, .int .i64 a1_2] 35 (0, 0)) m32_ hg (Kd.R_away HO166.out (fun _ hk => hk.2)))
  have n2_ := Aside0.mk (blk_grown (g := gb158) (o := .cells #[.int .i64 0, .int .i64 0, .slice none 0 0, .string (⟨#[]⟩ : ByteArray)] 25 (0, 0)) m39_ hg (Kd.R_ne HO166.out BK158.out (by decide)))
  have n3_ := Aside0.mk (Kd.R_after (ok := (fun k_ => k_ ≠ gb157)) (by refine rD_ ?_; exact Kd.R_mono HO169.out (fun _ hk => ⟨hk.2, hk.1⟩)) hg hat)
  have n4_ := Aside0.mk (hb)
  have n5_ := Aside0.mk (ho)
  clear BK156 BK157 BK158 HO169 HB HO166
  have BK156 := n0_
  have BK157 := n1_
  have BK158 := n2_
  have HO169 := n3_
  have HB := n4_
  have HO172 := n5_
  clear n0_ n1_ n2_ n3_ n4_ n5_ ho hb hg hat
  obtain ⟨Ao47, co47, eo47⟩ := Kd.R_slice HO172.out
  (first | subst eo47 | (injection eo47 with f1_ f2_ f3_; have f4_ := f1_.symm; have f5_ := f3_.symm; clear f1_ f2_ f3_; subst f4_; subst f5_))
  refine hK.out _ _ ⟨(blk_cell BK156.out 0).trans rfl, (blk_cell BK156.out 1).trans rfl, (blk_cell BK156.out 2).trans rfl, (blk_cell BK156.out 3).trans rfl, (blk_cell BK157.out 0).trans rfl, (blk_cell BK157.out 1).trans rfl, (blk_cell BK157.out 2).trans rfl⟩ (fun hHeld => ?_)
  clear hK K
  refine norm_ (a' := ?_) ?_ ?_
  rotate_left
  ·show Act.put _ (some 26) _ = _
   simp only [Act.put, sA_, sB_, sC_, i64_w, i32_w]
   rfl
  refine pI_ 7 (some 27) (Ra_ [8, 1]) (h := ?_)
  refine last_ (i := 8) (N := none) (Ra_ [9]) rfl rfl (one_of HT_.out (by kernel_rfl)) (by decide) (fun K hK => ?_)
  have hs48 : w45.cell? ⟨gb156, 2, none⟩ = some (.slice A0_2 l0_2.length c0_2) := (blk_cell BK156.out 2).trans rfl
  have hfs48 := blk_frozen BK156.out 2
  have hns48_1 := NB157_156.out
  have hns48_2 := NB158_156.out
  have hms48_1 := NB156_157.out
  have hms48_2 := NB156_158.out
  refine skip_ (w1 := ?_) (by rfl) rfl ?_ ?_
  rotate_left
  ·go_simp
   rfl
  refine hK.out _ _ ?_
  clear hK K
  refine done_ (done_of HT_.out (by kernel_rfl)) ?_
  try go_wp2
  have n0_ : Aside0 (Kd.R k35 35 (w45.setCell ⟨gb156, 2, none⟩ (.slice Ao47 y170.length co47)) w.heap.size (fun k_ => some k_ ≠ (.slice Ao47 y170.length co47 : Value).ownBlock ∧ k_ ≠ gb157) (.slice Ao46 y167.length co46) y167) := ⟨by refine rD_ ?_; exact Kd.R_mono (Kd.R_far (p := ⟨gb156, 2, none⟩) (Kd.R_types HO169.out BK156.out (by decide)) (fun _ hk => hk.2) (.slice Ao47 y170.length co47)) (fun _ hk => ⟨hk.1.2, hk.1.1⟩)⟩
  have n1_ : Aside0 (Kd.R k35 35 (w45.setCell ⟨gb156, 2, none⟩ (.slice Ao47 y170.length co47)) w.heap.size (fun k_ => some k_ ≠ (.slice Ao46 y167.length co46 : Value).ownBlock ∧ k_ ≠ gb157) (.slice Ao47 y170.length co47) y170) := ⟨by refine rD_ ?_; exact Kd.R_mono (Kd.R_far (p := ⟨gb156, 2, none⟩) (Kd.R_types HO172.out BK156.out (by decide)) (fun _ hk => hk.2) (.slice Ao47 y170.length co47)) (fun _ hk => ⟨hk.1.1, hk.1.2⟩)⟩
  have n2_ : Aside0 ((w45.setCell ⟨gb156, 2, none⟩ (.slice Ao47 y170.length co47)).heap[gb156]? = some (.cells #[.int .i64 a0_0, .int .i64 a0_1, .slice Ao47 y170.length co47, .string a0_3] 25 (0, 0))) := ⟨by refine bD_ ?_; refine blk_put (cs := #[.int .i64 a0_0, .int .i64 a0_1, .slice A0_2 l0_2.length c0_2, .string a0_3]) ?_ 2 _ rfl; refine bD_ ?_; exact BK156.out⟩
  have n3_ : Aside0 ((w45.setCell ⟨gb156, 2, none⟩ (.slice Ao47 y170.length co47)).heap[gb157]? = some (.cells #[.string a1_0, .int .i64 a1_1, .int .i64 a1_2] 35 (0, 0))) := ⟨by refine bD_ ?_; refine blk_far ?_ NB157_156.out _; refine bD_ ?_; exact BK157.out⟩
  have n4_ : Aside0 ((w45.setCell ⟨gb156, 2, none⟩ (.slice Ao47 y170.length co47)).heap[gb158]? = some (.cells #[.int .i64 0, .int .i64 0, .slice none 0 0, .string (⟨#[]⟩ : ByteArray)] 25 (0, 0))) := ⟨by refine bD_ ?_; refine blk_far ?_ NB158_156.out _; refine bD_ ?_; exact BK158.out⟩
  have n5_ : Aside0 (Below w.heap.size w (w45.setCell ⟨gb156, 2, none⟩ (.slice Ao47 y170.length co47))) := ⟨m59_⟩
  (try clear HO169)
  (try clear HO172)
  (try clear BK156)
  (try clear BK157)
  (try clear BK158)
  (try clear HB)
  generalize (w45.setCell ⟨gb156, 2, none⟩ (.slice Ao47 y170.length co47)) = w49 at n0_ n1_ n2_ n3_ n4_ n5_ ⊢
  have HO169 := n0_
  have HO172 := n1_
  have BK156 := n2_
  have BK157 := n3_
  have BK158 := n4_
  have HB := n5_
  clear n0_ n1_ n2_ n3_ n4_ n5_
  replace HO169 := Aside0.mk (Kd.R_drew HO169.out)
  replace HO172 := Aside0.mk (Kd.R_drew HO172.out)
  replace BK156 := Aside0.mk (blk_drew BK156.out)
  replace BK157 := Aside0.mk (blk_drew BK157.out)
  replace BK158 := Aside0.mk (blk_drew BK158.out)
  replace HB := Aside0.mk (below_drew1 HB.out)
  refine start_ (n := 8) (S := fun w' => w'.cell? ⟨gb156, 0, none⟩ = some (.int .i64 a0_0) ∧ w'.cell? ⟨gb156, 1, none⟩ = some (.int .i64 a0_1) ∧ w'.cell? ⟨gb156, 2, none⟩ = some (.slice Ao47 y170.length co47) ∧ w'.cell? ⟨gb156, 3, none⟩ = some (.string a0_3) ∧ w'.cell? ⟨gb157, 0, none⟩ = some (.string a1_0) ∧ w'.cell? ⟨gb157, 1, none⟩ = some (.int .i64 a1_1) ∧ w'.cell? ⟨gb157, 2, none⟩ = some (.int .i64 a1_2)) (ds := [7]) (Ra_ [0, 8]) (by kernel_rfl) rfl rfl ⟨(blk_cell BK156.out 0).trans rfl, (blk_cell BK156.out 1).trans rfl, (blk_cell BK156.out 2).trans rfl, (blk_cell BK156.out 3).trans rfl, (blk_cell BK157.out 0).trans rfl, (blk_cell BK157.out 1).trans rfl, (blk_cell BK157.out 2).trans rfl⟩ (fun hHeld => ?_); refine with_tabW cap_Narrow.tab6 cap_Narrow.bits6 (fun HT_ HW_ => ?_)
  generalize w49.drew = w50 at HO169 HO172 BK156 BK157 BK158 HB hHeld ⊢
  refine pI_ 0 (some 28) (Ra_ [1, 7]) (h := ?_)
  refine tI7_ 1 (some 29) (Ra_ [2, 6]) (h := ?_)
  refine tI7_ 2 (some 30) (Ra_ [3, 5]) (h := ?_)
  refine one_ (i := 3) (N := some 31) (Ra_ [4, 4]) rfl rfl (one_of HT_.out (by kernel_rfl)) (by decide) (fun K hK => ?_)
  refine goes_ Tryd.func37 (by kernel_rfl) rfl #[.agg #[.string a1_0, .int .i64 a1_1, .int .i64 a1_2]] (by rfl) rfl rfl m30_ ?_
  with_reducible refine (cap_bytes.calls kj2 a1_0 a1_1 a1_2 t173 _ A33.out).mono ?_
  rintro e w51 ⟨v174, rfl, ho0, hb⟩
  refine ⟨_, rfl, ?_⟩
  have n0_ := Aside0.mk (Kd.R_below m52_ hb)
  have n1_ := Aside0.mk (Kd.R_below (rD_ HO172.out) hb)
  have n2_ := Aside0.mk (Kd.R_lower ho0 (below_size m8_))
  have n3_ := Aside0.mk (blk_below (g := gb156) (o := .cells #[.int .i64 a0_0, .int .i64 a0_1, .slice Ao47 y170.length co47, .string a0_3] 25 (0, 0)) m36_ hb)
  have n4_ := Aside0.mk (blk_below (g := gb157) (o := .cells #[.string a1_0, .int .i64 a1_1, .int .i64 a1_2] 35 (0, 0)) m32_ hb)
  have n5_ := Aside0.mk (blk_below (g := gb158) (o := .cells #[.int .i64 0, .int .i64 0, .slice none 0 0, .string (⟨#[]⟩ : ByteArray)] 25 (0, 0)) m39_ hb)
  have n6_ := Aside0.mk (below_step m8_ hb)
  clear HO169 HO172 BK156 BK157 BK158 HB
  have HO169 := n0_
  have HO172 := n1_
  have HO175 := n2_
  have BK156 := n3_
  have BK157 := n4_
  have BK158 := n5_
  have HB := n6_
  clear n0_ n1_ n2_ n3_ n4_ n5_ n6_
  (try clear hb)
  (try clear hb2)
  (try clear hk)
  (try clear hi)
  (try clear ho0)
  refine hK.out _ _ ⟨(blk_cell BK156.out 0).trans rfl, (blk_cell BK156.out 1).trans rfl, (blk_cell BK156.out 2).trans rfl, (blk_cell BK156.out 3).trans rfl, (blk_cell BK157.out 0).trans rfl, (blk_cell BK157.out 1).trans rfl, (blk_cell BK157.out 2).trans rfl⟩ (fun hHeld => ?_)
  clear hK K
  refine norm_ (a' := ?_) ?_ ?_
  rotate_left
  ·show Act.put _ (some 31) _ = _
   simp only [Act.put, sA_, sB_, sC_, i64_w, i32_w]
   rfl
  refine one_ (i := 4) (N := some 32) (Ra_ [5, 3]) rfl rfl (one_of HT_.out (by kernel_rfl)) (by decide) (fun K hK => ?_)
  have hcv52 := own_string (P := Tryd.prog) Tryd.underlying53 Tryd.underlying5 Tryd.underlying9 (Kd.own_of_R HO175.out)
  refine value_ (w1 := ?_) (v := ?_) (by rfl) rfl ?_ ?_
  rotate_left 2
  ·go_simp
   constructor
   ·rfl
   rfl
  clear hcv52
  refine hK.out _ _ ⟨(blk_cell BK156.out 0).trans rfl, (blk_cell BK156.out 1).trans rfl, (blk_cell BK156.out 2).trans rfl, (blk_cell BK156.out 3).trans rfl, (blk_cell BK157.out 0).trans rfl, (blk_cell BK157.out 1).trans rfl, (blk_cell BK157.out 2).trans rfl⟩ (fun hHeld => ?_)
  clear hK K
  refine norm_ (a' := ?_) ?_ ?_
  rotate_left
  ·show Act.put _ (some 32) _ = _
   simp only [Act.put, sA_, sB_, sC_, i64_w, i32_w]
   rfl
  refine one_ (i := 5) (N := some 33) (Ra_ [6, 2]) rfl rfl (one_of HT_.out (by kernel_rfl)) (by decide) (fun K hK => ?_)
  refine goes_ Tryd.func31 (by kernel_rfl) rfl #[.string a0_3, .string (strOfNums t173)] (by rfl) rfl rfl m30_ ?_
  with_reducible refine (mac_Seal.calls a0_3 (strOfNums t173) t176 _ A34.out).mono ?_
  rintro e w53 ⟨rfl, hb⟩
  refine ⟨_, rfl, ?_⟩
  have n0_ := Aside0.mk (Kd.R_below m52_ hb)
  have n1_ := Aside0.mk (Kd.R_below (rD_ HO172.out) hb)
  have n2_ := Aside0.mk (Kd.R_below (rD_ HO175.out) hb)
  have n3_ := Aside0.mk (blk_below (g := gb156) (o := .cells #[.int .i64 a0_0, .int .i64 a0_1, .slice Ao47 y170.length co47, .string a0_3] 25 (0, 0)) m36_ hb)
  have n4_ := Aside0.mk (blk_below (g := gb157) (o := .cells #[.string a1_0, .int .i64 a1_1, .int .i64 a1_2] 35 (0, 0)) m32_ hb)
  have n5_ := Aside0.mk (blk_below (g := gb158) (o := .cells #[.int .i64 0, .int .i64 0, .slice none 0 0, .string (⟨#[]⟩ : ByteArray)] 25 (0, 0)) m39_ hb)
  have n6_ := Aside0.mk (below_step m8_ hb)
  clear HO169 HO172 HO175 BK156 BK157 BK158 HB
  have HO169 := n0_
  have HO172 := n1_
  have HO175 := n2_
  have BK156 := n3_
  have BK157 := n4_
  have BK158 := n5_
  have HB := n6_
  clear n0_ n1_ n2_ n3_ n4_ n5_ n6_
  (try clear hb)
  (try clear hb2)
  (try clear hk)
  (try clear hi)
  refine hK.out _ _ ⟨(blk_cell BK156.out 0).trans rfl, (blk_cell BK156.out 1).trans rfl, (blk_cell BK156.out 2).trans rfl, (blk_cell BK156.out 3).trans rfl, (blk_cell BK157.out 0).trans rfl, (blk_cell BK157.out 1).trans rfl, (blk_cell BK157.out 2).trans rfl⟩ (fun hHeld => ?_)
  clear hK K
  refine norm_ (a' := ?_) ?_ ?_
  rotate_left
  ·show Act.put _ (some 33) _ = _
   simp only [Act.put, sA_, sB_, sC_, i64_w, i32_w]
   rfl
  refine pI_ 6 (some 34) (Ra_ [7, 1]) (h := ?_)
  refine last_ (i := 7) (N := none) (Ra_ [8]) rfl rfl (one_of HT_.out (by kernel_rfl)) (by decide) (fun K hK => ?_)
  have hs54 : w53.cell? ⟨gb156, 3, none⟩ = some (.string a0_3) := (blk_cell BK156.out 3).trans rfl
  have hfs54 := blk_frozen BK156.out 3
  have hns54_1 := NB157_156.out
  have hns54_2 := NB158_156.out
  have hms54_1 := NB156_157.out
  have hms54_2 := NB156_158.out
  refine skip_ (w1 := ?_) (by rfl) rfl ?_ ?_
  rotate_left
  ·go_simp
   rfl
  refine hK.out _ _ ?_
  clear hK K
  refine done_ (done_of HT_.out (by kernel_rfl)) ?_
  obtain ⟨hcz55_0, hcz55_1, hcz55_2, hcz55_3⟩ := bc4_ BK156.out
  obtain ⟨hfz55_0, hfz55_1, hfz55_2, hfz55_3⟩ := bf4_ BK156.out
  have hnb56 := NB158_157.out
  have hnc56 := NB157_158.out
  obtain ⟨hcz57_0, hcz57_1, hcz57_2, hcz57_3⟩ := bc4_ BK158.out
  obtain ⟨hfz57_0, hfz57_1, hfz57_2, hfz57_3⟩ := bf4_ BK158.out
  try go_wp2
  refine bodyPost_ret (results_ct rfl _ _ gb158 25 #[.int .i64 a0_0, .int .i64 a0_1, .slice Ao47 y170.length co47, .string t176] (0, 0) _ rfl (by refine bD_ ?_; refine blk_put (cs := #[.int .i64 a0_0, .int .i64 a0_1, .slice Ao47 y170.length co47, .string (⟨#[]⟩ : ByteArray)]) ?_ 3 _ rfl; refine bD_ ?_; refine blk_put (cs := #[.int .i64 a0_0, .int .i64 a0_1, .slice none 0 0, .string (⟨#[]⟩ : ByteArray)]) ?_ 2 _ rfl; refine bD_ ?_; refine blk_put (cs := #[.int .i64 a0_0, .int .i64 0, .slice none 0 0, .string (⟨#[]⟩ : ByteArray)]) ?_ 1 _ rfl; refine bD_ ?_; refine blk_put (cs := #[.int .i64 0, .int .i64 0, .slice none 0 0, .string (⟨#[]⟩ : ByteArray)]) ?_ 0 _ rfl; refine bD_ ?_; refine blk_far ?_ NB158_156.out _; refine bD_ ?_; exact BK158.out) Tryd.underlying25 rfl (by kernel_rfl)) rfl ?_
  exact ⟨_, by first | rfl | (simp [errW_none, errW_some] <;> rfl) | (simp [*, errW_none, errW_some] <;> rfl), by refine rD_ ?_; exact Kd.R_mono (Kd.R_far (p := ⟨gb158, 3, none⟩) (Kd.R_far (p := ⟨gb158, 2, none⟩) (Kd.R_far (p := ⟨gb158, 1, none⟩) (Kd.R_far (p := ⟨gb158, 0, none⟩) (Kd.R_far (p := ⟨gb156, 3, none⟩) (Kd.R_types (Kd.R_types HO172.out BK156.out (by decide)) BK158.out (by decide)) (fun _ hk => hk.1.2) (.string t176)) (fun _ hk => hk.2) (.int .i64 a0_0)) (fun _ hk => hk.2) (.int .i64 a0_1)) (fun _ hk => hk.2) (.slice Ao47 y170.length co47)) (fun _ hk => hk.2) (.string t176)) (fun _ hk => trivial), m59_⟩

end Go.Proofs.YtedmkffepmcpaaaDoorH.HCapCodes
