-- PRINTED by print.py (a twelfth state) out of the translation. Not trusted: Lean checks it.
import Derived.Test.YtdeggemomajhcaaDoorHMerkleMissingx0
import Derived.Test.YtdeggemomajhcaaDoorHMerkleMissingx1
import Derived.Test.YtdeggemomajhcaaDoorHMerkleMissingx11
import Derived.Test.YtdeggemomajhcaaDoorHMerkleMissingx12
import Derived.Test.YtdeggemomajhcaaDoorHMerkleMissingx14
namespace Go.Proofs.YtdeggemomajhcaaDoorH.HMerkleMissing
open Go.RowKit Go.Proofs.YtdeggemomajhcaaDoorW.PrintWords Go.Proofs.YtdeggemomajhcaaDoorW.PrintLast Go.Proofs.YtdeggemomajhcaaDoorW.PrintMore
attribute [local go_sem] max2_int min2_int max_two min_two max_three min_three max_four min_four   -- for this text's walks alone
set_option linter.unusedVariables false
set_option linter.unusedSimpArgs false

attribute [local go_sem high] eqA39
/-! ### strongroomref20_Missing: function 29 -/
mutual
def strongroomref20_Missing.j0 : Nat → ByteArray → Int → ByteArray → Bool → Int → ByteArray → ByteArray → ByteArray → ByteArray → List ByteArray → List ByteArray → Option (Bool)
 | 0, _, _, _, _, _, _, _, _, _, _, _ => none
 | k + 1, x0, x1, x2, x32, x254000, x254001, x254002, x254003, x254004, x254005, x254006 => if x32 = true then (some false) else (if x1 = 0 then ((strongroomref20_Digest.f k ([] : List (S39))).bind fun t255 => (strongroomref20_Missing.j1 k x0 x1 x2 (x0.toList != t255.toList) x254000 x254001 x254002 x254003 x254004 x254005 x254006)) else (strongroomref20_Missing.j1 k x0 x1 x2 false x254000 x254001 x254002 x254003 x254004 x254005 x254006))
def strongroomref20_Missing.j1 : Nat → ByteArray → Int → ByteArray → Bool → Int → ByteArray → ByteArray → ByteArray → ByteArray → List ByteArray → List ByteArray → Option (Bool)
 | 0, _, _, _, _, _, _, _, _, _, _, _ => none
 | k + 1, x0, x1, x2, x39, x254000, x254001, x254002, x254003, x254004, x254005, x254006 => if x39 = true then (some false) else (if (x254001.toList == ([] : List UInt8) && (x254002.toList == ([] : List UInt8))) = true then (strongroomref20_Missing.j2 k x0 x1 x2 ((x254005.length : Int) == 0) x254000 x254001 x254002 x254003 x254004 x254005 x254006) else (strongroomref20_Missing.j2 k x0 x1 x2 false x254000 x254001 x254002 x254003 x254004 x254005 x254006))
def strongroomref20_Missing.j2 : Nat → ByteArray → Int → ByteArray → Bool → Int → ByteArray → ByteArray → ByteArray → ByteArray → List ByteArray → List ByteArray → Option (Bool)
 | 0, _, _, _, _, _, _, _, _, _, _, _ => none
 | k + 1, x0, x1, x2, x9, x254000, x254001, x254002, x254003, x254004, x254005, x254006 => if x254000 > 0 then (if (Op.bytesLess x254001.toList x2.toList) = true then ((strongroomref20_Verify.f k x0 x1 (wrap64 (x254000 - 1)) x254001 x254002 x254005).bind fun t256 => (if (x254003.toList == ([] : List UInt8) && (x254004.toList == ([] : List UInt8))) = true then (if x254000 < x1 then (if (Op.bytesLess x2.toList x254003.toList) = true then ((strongroomref20_Verify.f k x0 x1 x254000 x254003 x254004 x254006).bind fun t257 => (if t256 = true then (some t257) else (some false))) else (if t256 = true then (some false) else (some false))) else (if t256 = true then (some ((x254006.length : Int) == 0)) else (some false))) else (if x254000 < x1 then (if (Op.bytesLess x2.toList x254003.toList) = true then ((strongroomref20_Verify.f k x0 x1 x254000 x254003 x254004 x254006).bind fun t258 => (if t256 = true then (some t258) else (some false))) else (if t256 = true then (some false) else (some false))) else (if t256 = true then (some false) else (some false))))) else (if (x254003.toList == ([] : List UInt8) && (x254004.toList == ([] : List UInt8))) = true then (if x254000 < x1 then (if (Op.bytesLess x2.toList x254003.toList) = true then ((strongroomref20_Verify.f k x0 x1 x254000 x254003 x254004 x254006).bind fun t259 => (some false)) else (some false)) else (some false)) else (if x254000 < x1 then (if (Op.bytesLess x2.toList x254003.toList) = true then ((strongroomref20_Verify.f k x0 x1 x254000 x254003 x254004 x254006).bind fun t260 => (some false)) else (some false)) else (some false)))) else (if (x254003.toList == ([] : List UInt8) && (x254004.toList == ([] : List UInt8))) = true then (if x254000 < x1 then (if (Op.bytesLess x2.toList x254003.toList) = true then ((strongroomref20_Verify.f k x0 x1 x254000 x254003 x254004 x254006).bind fun t261 => (if x9 = true then (some t261) else (some false))) else (if x9 = true then (some false) else (some false))) else (if x9 = true then (some ((x254006.length : Int) == 0)) else (some false))) else (if x254000 < x1 then (if (Op.bytesLess x2.toList x254003.toList) = true then ((strongroomref20_Verify.f k x0 x1 x254000 x254003 x254004 x254006).bind fun t262 => (if x9 = true then (some t262) else (some false))) else (if x9 = true then (some false) else (some false))) else (if x9 = true then (some false) else (some false))))
end
def strongroomref20_Missing.f (k : Nat) (a0 : ByteArray) (a1 : Int) (a2 : ByteArray) (a3_0 : Int) (a3_1 : ByteArray) (a3_2 : ByteArray) (a3_3 : ByteArray) (a3_4 : ByteArray) (l3_5 : List ByteArray) (l3_6 : List ByteArray) : Option (Bool) := (strongroomref05_Good.f k a2).bind fun t254 => (if t254 = true then (if a1 < 0 then (strongroomref20_Missing.j0 k a0 a1 a2 true a3_0 a3_1 a3_2 a3_3 a3_4 l3_5 l3_6) else (if a1 > 1024 then (strongroomref20_Missing.j0 k a0 a1 a2 true a3_0 a3_1 a3_2 a3_3 a3_4 l3_5 l3_6) else (if a3_0 < 0 then (strongroomref20_Missing.j0 k a0 a1 a2 true a3_0 a3_1 a3_2 a3_3 a3_4 l3_5 l3_6) else (strongroomref20_Missing.j0 k a0 a1 a2 (decide (a3_0 > a1)) a3_0 a3_1 a3_2 a3_3 a3_4 l3_5 l3_6)))) else (strongroomref20_Missing.j0 k a0 a1 a2 true a3_0 a3_1 a3_2 a3_3 a3_4 l3_5 l3_6))
theorem strongroomref20_Missing.mono_l : ∀ k, (∀ y0 y1 y2 y3 y4 y5 y6 y7 y8 y9 y10, LeO (strongroomref20_Missing.j0 k y0 y1 y2 y3 y4 y5 y6 y7 y8 y9 y10) (strongroomref20_Missing.j0 (k + 1) y0 y1 y2 y3 y4 y5 y6 y7 y8 y9 y10)) ∧ (∀ y0 y1 y2 y3 y4 y5 y6 y7 y8 y9 y10, LeO (strongroomref20_Missing.j1 k y0 y1 y2 y3 y4 y5 y6 y7 y8 y9 y10) (strongroomref20_Missing.j1 (k + 1) y0 y1 y2 y3 y4 y5 y6 y7 y8 y9 y10)) ∧ (∀ y0 y1 y2 y3 y4 y5 y6 y7 y8 y9 y10, LeO (strongroomref20_Missing.j2 k y0 y1 y2 y3 y4 y5 y6 y7 y8 y9 y10) (strongroomref20_Missing.j2 (k + 1) y0 y1 y2 y3 y4 y5 y6 y7 y8 y9 y10))
 | 0 => ⟨fun _ _ _ _ _ _ _ _ _ _ _ r h => by simp [strongroomref20_Missing.j0] at h, fun _ _ _ _ _ _ _ _ _ _ _ r h => by simp [strongroomref20_Missing.j1] at h, fun _ _ _ _ _ _ _ _ _ _ _ r h => by simp [strongroomref20_Missing.j2] at h⟩
 | k + 1 => by
  obtain ⟨ih0, ih1, ih2⟩ := strongroomref20_Missing.mono_l k
  refine ⟨?_, ?_, ?_⟩
  ·intro y0 y1 y2 y3 y4 y5 y6 y7 y8 y9 y10
   unfold strongroomref20_Missing.j0
   repeat' first
   | (with_reducible exact ih0 _ _ _ _ _ _ _ _ _ _ _)
   | (with_reducible exact ih1 _ _ _ _ _ _ _ _ _ _ _)
   | (with_reducible exact ih2 _ _ _ _ _ _ _ _ _ _ _)
   | (with_reducible exact strongroomref05_Good.mono _ _)
   | (with_reducible exact strongroomref20_Digest.mono _ _)
   | (with_reducible exact strongroomref20_Verify.mono _ _ _ _ _ _ _)
   | (with_reducible exact LeO.refl _)
   | (with_reducible exact LeO.none _)
   | (with_reducible refine LeO.ite ?_ ?_)
   | (with_reducible refine LeO.bind ?_ (fun _ => ?_))
   | exact ih0 _ _ _ _ _ _ _ _ _ _ _
   | exact ih1 _ _ _ _ _ _ _ _ _ _ _
   | exact ih2 _ _ _ _ _ _ _ _ _ _ _
   | exact strongroomref05_Good.mono _ _
   | exact strongroomref20_Digest.mono _ _
   | exact strongroomref20_Verify.mono _ _ _ _ _ _ _
   | exact LeO.none _
   | refine LeO.ite ?_ ?_
   | refine LeO.bind ?_ (fun _ => ?_)
  ·intro y0 y1 y2 y3 y4 y5 y6 y7 y8 y9 y10
   unfold strongroomref20_Missing.j1
   repeat' first
   | (with_reducible exact ih0 _ _ _ _ _ _ _ _ _ _ _)
   | (with_reducible exact ih1 _ _ _ _ _ _ _ _ _ _ _)
   | (with_reducible exact ih2 _ _ _ _ _ _ _ _ _ _ _)
   | (with_reducible exact strongroomref05_Good.mono _ _)
   | (with_reducible exact strongroomref20_Digest.mono _ _)
   | (with_reducible exact strongroomref20_Verify.mono _ _ _ _ _ _ _)
   | (with_reducible exact LeO.refl _)
   | (with_reducible exact LeO.none _)
   | (with_reducible refine LeO.ite ?_ ?_)
   | (with_reducible refine LeO.bind ?_ (fun _ => ?_))
   | exact ih0 _ _ _ _ _ _ _ _ _ _ _
   | exact ih1 _ _ _ _ _ _ _ _ _ _ _
   | exact ih2 _ _ _ _ _ _ _ _ _ _ _
   | exact strongroomref05_Good.mono _ _
   | exact strongroomref20_Digest.mono _ _
   | exact strongroomref20_Verify.mono _ _ _ _ _ _ _
   | exact LeO.none _
   | refine LeO.ite ?_ ?_
   | refine LeO.bind ?_ (fun _ => ?_)
  ·intro y0 y1 y2 y3 y4 y5 y6 y7 y8 y9 y10
   unfold strongroomref20_Missing.j2
   repeat' first
   | (with_reducible exact ih0 _ _ _ _ _ _ _ _ _ _ _)
   | (with_reducible exact ih1 _ _ _ _ _ _ _ _ _ _ _)
   | (with_reducible exact ih2 _ _ _ _ _ _ _ _ _ _ _)
   | (with_reducible exact strongroomref05_Good.mono _ _)
   | (with_reducible exact strongroomref20_Digest.mono _ _)
   | (with_reducible exact strongroomref20_Verify.mono _ _ _ _ _ _ _)
   | (with_reducible exact LeO.refl _)
   | (with_reducible exact LeO.none _)
   | (with_reducible refine LeO.ite ?_ ?_)
   | (with_reducible refine LeO.bind ?_ (fun _ => ?_))
   | exact ih0 _ _ _ _ _ _ _ _ _ _ _
   | exact ih1 _ _ _ _ _ _ _ _ _ _ _
   | exact ih2 _ _ _ _ _ _ _ _ _ _ _
   | exact strongroomref05_Good.mono _ _
   | exact strongroomref20_Digest.mono _ _
   | exact strongroomref20_Verify.mono _ _ _ _ _ _ _
   | exact LeO.none _
   | refine LeO.ite ?_ ?_
   | refine LeO.bind ?_ (fun _ => ?_)
theorem strongroomref20_Missing.mono : ∀ a0 a1 a2 a3 a4 a5 a6 a7 a8 a9 k, LeO (strongroomref20_Missing.f k a0 a1 a2 a3 a4 a5 a6 a7 a8 a9) (strongroomref20_Missing.f (k + 1) a0 a1 a2 a3 a4 a5 a6 a7 a8 a9) := by
 intro a0 a1 a2 a3 a4 a5 a6 a7 a8 a9 k
 obtain ⟨ih0, ih1, ih2⟩ := strongroomref20_Missing.mono_l k
 unfold strongroomref20_Missing.f
 repeat' first
   | (with_reducible exact ih0 _ _ _ _ _ _ _ _ _ _ _)
   | (with_reducible exact ih1 _ _ _ _ _ _ _ _ _ _ _)
   | (with_reducible exact ih2 _ _ _ _ _ _ _ _ _ _ _)
   | (with_reducible exact strongroomref05_Good.mono _ _)
   | (with_reducible exact strongroomref20_Digest.mono _ _)
   | (with_reducible exact strongroomref20_Verify.mono _ _ _ _ _ _ _)
   | (with_reducible exact LeO.refl _)
   | (with_reducible exact LeO.none _)
   | (with_reducible refine LeO.ite ?_ ?_)
   | (with_reducible refine LeO.bind ?_ (fun _ => ?_))
   | exact ih0 _ _ _ _ _ _ _ _ _ _ _
   | exact ih1 _ _ _ _ _ _ _ _ _ _ _
   | exact ih2 _ _ _ _ _ _ _ _ _ _ _
   | exact strongroomref05_Good.mono _ _
   | exact strongroomref20_Digest.mono _ _
   | exact strongroomref20_Verify.mono _ _ _ _ _ _ _
   | exact LeO.none _
   | refine LeO.ite ?_ ?_
   | refine LeO.bind ?_ (fun _ => ?_)
set_option maxHeartbeats 8000000 in
set_option maxRecDepth 100000 in
theorem strongroomref20_Missing.calls (k : Nat) (a0 : ByteArray) (a1 : Int) (a2 : ByteArray) (a3_0 : Int) (a3_1 : ByteArray) (a3_2 : ByteArray) (a3_3 : ByteArray) (a3_4 : ByteArray) (A3_5 : Option Addr) (c3_5 : Nat) (l3_5 : List ByteArray) (A3_6 : Option Addr) (c3_6 : Nat) (l3_6 : List ByteArray) (r : Bool) (w : World) (hr3_5 : Kd.C Kd.string w A3_5 l3_5.length l3_5) (hc3_5 : l3_5.length ≤ c3_5) (hr3_6 : Kd.C Kd.string w A3_6 l3_6.length l3_6) (hc3_6 : l3_6.length ≤ c3_6) (h : strongroomref20_Missing.f k a0 a1 a2 a3_0 a3_1 a3_2 a3_3 a3_4 l3_5 l3_6 = some r) :
  Calls Tryd.prog 29 #[.string a0, .int .i64 a1, .string a2, .agg #[.int .i64 a3_0, .string a3_1, .string a3_2, .string a3_3, .string a3_4, .slice A3_5 l3_5.length c3_5, .slice A3_6 l3_6.length c3_6]] w fun e w' => e = .returned (.bool r) ∧ Below w.heap.size w w' := by
 have hu53 := Tryd.underlying53
 have hu39 := Tryd.underlying39
 have HR3_5 := Aside0.mk hr3_5
 have HC3_5 := Aside0.mk hc3_5
 clear hr3_5 hc3_5
 have HR3_6 := Aside0.mk hr3_6
 have HC3_6 := Aside0.mk hc3_6
 clear hr3_6 hc3_6
 have HB := Aside0.mk (Below.refl w.heap.size w)
 have H : ((strongroomref05_Good.f k a2).bind fun t254 => (if t254 = true then (if a1 < 0 then (strongroomref20_Missing.j0 k a0 a1 a2 true a3_0 a3_1 a3_2 a3_3 a3_4 l3_5 l3_6) else (if a1 > 1024 then (strongroomref20_Missing.j0 k a0 a1 a2 true a3_0 a3_1 a3_2 a3_3 a3_4 l3_5 l3_6) else (if a3_0 < 0 then (strongroomref20_Missing.j0 k a0 a1 a2 true a3_0 a3_1 a3_2 a3_3 a3_4 l3_5 l3_6) else (strongroomref20_Missing.j0 k a0 a1 a2 (decide (a3_0 > a1)) a3_0 a3_1 a3_2 a3_3 a3_4 l3_5 l3_6)))) else (strongroomref20_Missing.j0 k a0 a1 a2 true a3_0 a3_1 a3_2 a3_3 a3_4 l3_5 l3_6))) = some r := h
 clear h
 have HC5 := Aside0.mk H
 clear H
 go_enter Tryd.func29, Tryd.ntmps29
 go_upto_region 1 with (first | ((with_reducible refine gate_dst (N := 7) rfl ?_); (try (refine gate_guard (by rfl) ?_; dsimp only)); refine box_event ?hg (N := 7) ?hd (cs := #[.int .i64 a3_0, .string a3_1, .string a3_2, .string a3_3, .string a3_4, .slice A3_5 l3_5.length c3_5, .slice A3_6 l3_6.length c3_6]) (t := 53) ?hr ?_; (case hd => rfl); (case hg => rfl); (case hr => first | (go_simp; done) | (go_simp; rfl)); intro gb253 hg w6 hbox hb; have n0_ := Aside0.mk (below_step m9_ hb); have n1_ := Aside0.mk (hbox); have n2_ := Aside0.mk ((by rw [hg]; exact (below_size m9_) : w.heap.size ≤ gb253)); have n3_ := Aside0.mk ((by rw [hg]; exact (below_size m9_) : w.heap.size ≤ gb253)); clear HB; have HB := n0_; have BK253 := n1_; have GW253 := n2_; have GE253 := n3_; clear n0_ n1_ n2_ n3_; clear hb hbox hg))
 (try simp only [Act.put, List.setIfInBounds_toArray, List.set_cons_zero, List.set_cons_succ])
 go_cut [32] (fun v32 wc => ∃ (kq : Nat) (x32_4 : Bool), v32 = .bool x32_4 ∧ Aside0 (strongroomref20_Missing.j0 kq a0 a1 a2 x32_4 a3_0 a3_1 a3_2 a3_3 a3_4 l3_5 l3_6 = some r) ∧ Aside0 (kq ≤ k) ∧ Aside0 (wc.heap[gb253]? = some (.cells #[.int .i64 a3_0, .string a3_1, .string a3_2, .string a3_3, .string a3_4, (.slice A3_5 l3_5.length c3_5), (.slice A3_6 l3_6.length c3_6)] 53 (0, 0))) ∧ Aside0 (Below w.heap.size w wc))
 case first =>
  have H := HC5.out
  clear HC5
  replace H := Option.bind_eq_some_iff.mp H
  obtain ⟨t254, A70, H⟩ := H
  replace H : (if t254 = true then (if a1 < 0 then (strongroomref20_Missing.j0 k a0 a1 a2 true a3_0 a3_1 a3_2 a3_3 a3_4 l3_5 l3_6) else (if a1 > 1024 then (strongroomref20_Missing.j0 k a0 a1 a2 true a3_0 a3_1 a3_2 a3_3 a3_4 l3_5 l3_6) else (if a3_0 < 0 then (strongroomref20_Missing.j0 k a0 a1 a2 true a3_0 a3_1 a3_2 a3_3 a3_4 l3_5 l3_6) else (strongroomref20_Missing.j0 k a0 a1 a2 (decide (a3_0 > a1)) a3_0 a3_1 a3_2 a3_3 a3_4 l3_5 l3_6)))) else (strongroomref20_Missing.j0 k a0 a1 a2 true a3_0 a3_1 a3_2 a3_3 a3_4 l3_5 l3_6)) = some r := H
  have A7 := Aside0.mk A70
  clear A70
  by_cases c8 : t254 = true
  case neg =>
   replace c8 := Bool.eq_false_iff.mpr c8
   subst c8
   have H1 : (strongroomref20_Missing.j0 k a0 a1 a2 true a3_0 a3_1 a3_2 a3_3 a3_4 l3_5 l3_6) = some r := by rw [if_neg (show ¬ (false = true) by decide)] at H; exact H
   clear H
   have H := H1
   clear H1
   have H' := Aside0.mk H
   clear H
   go_wp2_with (first | ((with_reducible refine gate_callee (f := 51) rfl ?_); refine goesL_ (some 12) rfl rfl Tryd.func51 (by kernel_rfl) rfl #[.string a2] rfl m8_ ?_; (with_reducible refine (strongroomref05_Good.calls k a2 false _ A7.out).mono ?_); rintro e w18 ⟨rfl, hb⟩; refine ⟨_, rfl, ?_⟩; have n0_ := Aside0.mk (blk_below (g := gb253) (o := .cells #[.int .i64 a3_0, .string a3_1, .string a3_2, .string a3_3, .string a3_4, .slice A3_5 l3_5.length c3_5, .slice A3_6 l3_6.length c3_6] 53 (0, 0)) m10_ hb); have n1_ := Aside0.mk (below_step m0_ hb); clear BK253; clear HB; have BK253 := n0_; have HB := n1_; clear n0_ n1_; (try clear hb); (try clear hb2); (try clear hk); (try clear hi)))
   go_meet
   case rel => exact ⟨_, (true), m16_, H', ⟨by first | omega | exact Nat.le_refl _⟩, ⟨by (with_reducible repeat (first | refine blk_drewN ?_ _ | refine blk_drew ?_ | refine blk_alloc ?_ _)); exact BK253.out⟩, ⟨m30_⟩⟩
  subst c8
  have H1 : (if a1 < 0 then (strongroomref20_Missing.j0 k a0 a1 a2 true a3_0 a3_1 a3_2 a3_3 a3_4 l3_5 l3_6) else (if a1 > 1024 then (strongroomref20_Missing.j0 k a0 a1 a2 true a3_0 a3_1 a3_2 a3_3 a3_4 l3_5 l3_6) else (if a3_0 < 0 then (strongroomref20_Missing.j0 k a0 a1 a2 true a3_0 a3_1 a3_2 a3_3 a3_4 l3_5 l3_6) else (strongroomref20_Missing.j0 k a0 a1 a2 (decide (a3_0 > a1)) a3_0 a3_1 a3_2 a3_3 a3_4 l3_5 l3_6)))) = some r := by rw [if_pos rfl] at H; exact H
  clear H
  have H := H1
  clear H1
  by_cases c9 : a1 < 0
  ·rw [if_pos c9] at H
   have c9b0 : decide (a1 < 0) = true := decide_eq_true c9
   clear c9
   (first | rw [c9b0] | (simp only [i64_w, i32_w]; rw [c9b0]) | skip)
   have H' := Aside0.mk H
   clear H
   go_wp2_with (first | ((with_reducible refine gate_callee (f := 51) rfl ?_); refine goesL_ (some 12) rfl rfl Tryd.func51 (by kernel_rfl) rfl #[.string a2] rfl m8_ ?_; (with_reducible refine (strongroomref05_Good.calls k a2 true _ A7.out).mono ?_); rintro e w10 ⟨rfl, hb⟩; refine ⟨_, rfl, ?_⟩; have n0_ := Aside0.mk (blk_below (g := gb253) (o := .cells #[.int .i64 a3_0, .string a3_1, .string a3_2, .string a3_3, .string a3_4, .slice A3_5 l3_5.length c3_5, .slice A3_6 l3_6.length c3_6] 53 (0, 0)) m10_ hb); have n1_ := Aside0.mk (below_step m0_ hb); clear BK253; clear HB; have BK253 := n0_; have HB := n1_; clear n0_ n1_; (try clear hb); (try clear hb2); (try clear hk); (try clear hi)))
   go_meet
   case rel => exact ⟨_, (true), m16_, H', ⟨by first | omega | exact Nat.le_refl _⟩, ⟨by (with_reducible repeat (first | refine blk_drewN ?_ _ | refine blk_drew ?_ | refine blk_alloc ?_ _)); exact BK253.out⟩, ⟨m30_⟩⟩
  rw [if_neg c9] at H
  have c9b0 : decide (a1 < 0) = false := decide_eq_false c9
  clear c9
  (first | rw [c9b0] | (simp only [i64_w, i32_w]; rw [c9b0]) | skip)
  by_cases c11 : a1 > 1024
  ·rw [if_pos c11] at H
   have c11b0 : decide (1024 < a1) = true := decide_eq_true c11
   clear c11
   have H' := Aside0.mk H
   clear H
   go_wp2_with (first | ((with_reducible refine gate_callee (f := 51) rfl ?_); refine goesL_ (some 12) rfl rfl Tryd.func51 (by kernel_rfl) rfl #[.string a2] rfl m8_ ?_; (with_reducible refine (strongroomref05_Good.calls k a2 true _ A7.out).mono ?_); rintro e w12 ⟨rfl, hb⟩; refine ⟨_, rfl, ?_⟩; have n0_ := Aside0.mk (blk_below (g := gb253) (o := .cells #[.int .i64 a3_0, .string a3_1, .string a3_2, .string a3_3, .string a3_4, .slice A3_5 l3_5.length c3_5, .slice A3_6 l3_6.length c3_6] 53 (0, 0)) m10_ hb); have n1_ := Aside0.mk (below_step m0_ hb); clear BK253; clear HB; have BK253 := n0_; have HB := n1_; clear n0_ n1_; (try clear hb); (try clear hb2); (try clear hk); (try clear hi)))
   go_meet
   case rel => exact ⟨_, (true), m16_, H', ⟨by first | omega | exact Nat.le_refl _⟩, ⟨by (with_reducible repeat (first | refine blk_drewN ?_ _ | refine blk_drew ?_ | refine blk_alloc ?_ _)); exact BK253.out⟩, ⟨m30_⟩⟩
  rw [if_neg c11] at H
  have c11b0 : decide (1024 < a1) = false := decide_eq_false c11
  clear c11
  by_cases c13 : a3_0 < 0
  ·rw [if_pos c13] at H
   have c13b0 : decide (a3_0 < 0) = true := decide_eq_true c13
   clear c13
   have H' := Aside0.mk H
   clear H
   go_wp2_with (first | ((with_reducible refine gate_callee (f := 51) rfl ?_); refine goesL_ (some 12) rfl rfl Tryd.func51 (by kernel_rfl) rfl #[.string a2] rfl m8_ ?_; (with_reducible refine (strongroomref05_Good.calls k a2 true _ A7.out).mono ?_); rintro e w14 ⟨rfl, hb⟩; refine ⟨_, rfl, ?_⟩; have n0_ := Aside0.mk (blk_below (g := gb253) (o := .cells #[.int .i64 a3_0, .string a3_1, .string a3_2, .string a3_3, .string a3_4, .slice A3_5 l3_5.length c3_5, .slice A3_6 l3_6.length c3_6] 53 (0, 0)) m10_ hb); have n1_ := Aside0.mk (below_step m0_ hb); clear BK253; clear HB; have BK253 := n0_; have HB := n1_; clear n0_ n1_; (try clear hb); (try clear hb2); (try clear hk); (try clear hi); have hcz15_0 : w14.cell? ⟨gb253, 0, none⟩ = some (.int .i64 a3_0) := (blk_cell BK253.out 0).trans rfl; have hcz15_1 : w14.cell? ⟨gb253, 1, none⟩ = some (.string a3_1) := (blk_cell BK253.out 1).trans rfl; have hcz15_2 : w14.cell? ⟨gb253, 2, none⟩ = some (.string a3_2) := (blk_cell BK253.out 2).trans rfl; have hcz15_3 : w14.cell? ⟨gb253, 3, none⟩ = some (.string a3_3) := (blk_cell BK253.out 3).trans rfl; have hcz15_4 : w14.cell? ⟨gb253, 4, none⟩ = some (.string a3_4) := (blk_cell BK253.out 4).trans rfl; have hcz15_5 : w14.cell? ⟨gb253, 5, none⟩ = some (.slice A3_5 l3_5.length c3_5) := (blk_cell BK253.out 5).trans rfl; have hcz15_6 : w14.cell? ⟨gb253, 6, none⟩ = some (.slice A3_6 l3_6.length c3_6) := (blk_cell BK253.out 6).trans rfl; have hfz15_0 := blk_frozen BK253.out 0; have hfz15_1 := blk_frozen BK253.out 1; have hfz15_2 := blk_frozen BK253.out 2; have hfz15_3 := blk_frozen BK253.out 3; have hfz15_4 := blk_frozen BK253.out 4; have hfz15_5 := blk_frozen BK253.out 5; have hfz15_6 := blk_frozen BK253.out 6))
   go_meet
   case rel => exact ⟨_, (true), m16_, H', ⟨by first | omega | exact Nat.le_refl _⟩, ⟨by (with_reducible repeat (first | refine blk_drewN ?_ _ | refine blk_drew ?_ | refine blk_alloc ?_ _)); exact BK253.out⟩, ⟨m30_⟩⟩
  rw [if_neg c13] at H
  have c13b0 : decide (a3_0 < 0) = false := decide_eq_false c13
  clear c13
  have H' := Aside0.mk H
  clear H
  go_wp2_with (first | ((with_reducible refine gate_callee (f := 51) rfl ?_); refine goesL_ (some 12) rfl rfl Tryd.func51 (by kernel_rfl) rfl #[.string a2] rfl m8_ ?_; (with_reducible refine (strongroomref05_Good.calls k a2 true _ A7.out).mono ?_); rintro e w16 ⟨rfl, hb⟩; refine ⟨_, rfl, ?_⟩; have n0_ := Aside0.mk (blk_below (g := gb253) (o := .cells #[.int .i64 a3_0, .string a3_1, .string a3_2, .string a3_3, .string a3_4, .slice A3_5 l3_5.length c3_5, .slice A3_6 l3_6.length c3_6] 53 (0, 0)) m10_ hb); have n1_ := Aside0.mk (below_step m0_ hb); clear BK253; clear HB; have BK253 := n0_; have HB := n1_; clear n0_ n1_; (try clear hb); (try clear hb2); (try clear hk); (try clear hi); have hcz17_0 : w16.cell? ⟨gb253, 0, none⟩ = some (.int .i64 a3_0) := (blk_cell BK253.out 0).trans rfl; have hcz17_1 : w16.cell? ⟨gb253, 1, none⟩ = some (.string a3_1) := (blk_cell BK253.out 1).trans rfl; have hcz17_2 : w16.cell? ⟨gb253, 2, none⟩ = some (.string a3_2) := (blk_cell BK253.out 2).trans rfl; have hcz17_3 : w16.cell? ⟨gb253, 3, none⟩ = some (.string a3_3) := (blk_cell BK253.out 3).trans rfl; have hcz17_4 : w16.cell? ⟨gb253, 4, none⟩ = some (.string a3_4) := (blk_cell BK253.out 4).trans rfl; have hcz17_5 : w16.cell? ⟨gb253, 5, none⟩ = some (.slice A3_5 l3_5.length c3_5) := (blk_cell BK253.out 5).trans rfl; have hcz17_6 : w16.cell? ⟨gb253, 6, none⟩ = some (.slice A3_6 l3_6.length c3_6) := (blk_cell BK253.out 6).trans rfl; have hfz17_0 := blk_frozen BK253.out 0; have hfz17_1 := blk_frozen BK253.out 1; have hfz17_2 := blk_frozen BK253.out 2; have hfz17_3 := blk_frozen BK253.out 3; have hfz17_4 := blk_frozen BK253.out 4; have hfz17_5 := blk_frozen BK253.out 5; have hfz17_6 := blk_frozen BK253.out 6))
  go_meet
  case rel => exact ⟨_, (decide (a3_0 > a1)), m16_, H', ⟨by first | omega | exact Nat.le_refl _⟩, ⟨by (with_reducible repeat (first | refine blk_drewN ?_ _ | refine blk_drew ?_ | refine blk_alloc ?_ _)); exact BK253.out⟩, ⟨m30_⟩⟩
 clear HC5
 try clear c1; try clear c2; try clear p2; try clear c3; try clear c5; try clear c8; try clear c9; try clear c9b0; try clear c11; try clear c11b0; try clear c13; try clear c13b0; try clear hcz15_0; try clear hcz15_1; try clear hcz15_2; try clear hcz15_3; try clear hcz15_4; try clear hcz15_5; try clear hcz15_6; try clear hcz17_0; try clear hcz17_1; try clear hcz17_2; try clear hcz17_3; try clear hcz17_4; try clear hcz17_5; try clear hcz17_6; try clear hfz15_0; try clear hfz15_1; try clear hfz15_2; try clear hfz15_3; try clear hfz15_4; try clear hfz15_5; try clear hfz15_6; try clear hfz17_0; try clear hfz17_1; try clear hfz17_2; try clear hfz17_3; try clear hfz17_4; try clear hfz17_5; try clear hfz17_6
 obtain ⟨kq, x32_4, rfl, HA, HJ4, BK253, HB⟩ := hcut
 cases kq with
 | zero => exact absurd HA.out (by simp [strongroomref20_Missing.j0])
 | succ kj4 =>
  have H := HA.out
  clear HA
  simp only [strongroomref20_Missing.j0] at H
  by_cases c19 : x32_4 = true
  ·subst c19
   have H1 : (some false) = some r := by rw [if_pos rfl] at H; exact H
   clear H
   have H := H1
   clear H1
   obtain rfl := Option.some.inj H
   go_wp2
   go_ret
   exact ⟨by first | rfl | (simp [errW_none, errW_some] <;> rfl) | (simp [*, errW_none, errW_some] <;> rfl), m30_⟩
  replace c19 := Bool.eq_false_iff.mpr c19
  subst c19
  have H1 : (if a1 = 0 then ((strongroomref20_Digest.f kj4 ([] : List (S39))).bind fun t255 => (strongroomref20_Missing.j1 kj4 a0 a1 a2 (a0.toList != t255.toList) a3_0 a3_1 a3_2 a3_3 a3_4 l3_5 l3_6)) else (strongroomref20_Missing.j1 kj4 a0 a1 a2 false a3_0 a3_1 a3_2 a3_3 a3_4 l3_5 l3_6)) = some r := by rw [if_neg (show ¬ (false = true) by decide)] at H; exact H
  clear H
  have H := H1
  clear H1
  have HC20 := Aside0.mk H
  clear H
  go_upto_region 3 with (fail)
  go_cut [39] (fun v39 wc => ∃ (kq : Nat) (x39_19 : Bool), v39 = .bool x39_19 ∧ Aside0 (strongroomref20_Missing.j1 kq a0 a1 a2 x39_19 a3_0 a3_1 a3_2 a3_3 a3_4 l3_5 l3_6 = some r) ∧ Aside0 (kq ≤ kj4) ∧ Aside0 (wc.heap[gb253]? = some (.cells #[.int .i64 a3_0, .string a3_1, .string a3_2, .string a3_3, .string a3_4, (.slice A3_5 l3_5.length c3_5), (.slice A3_6 l3_6.length c3_6)] 53 (0, 0))) ∧ Aside0 (Below w.heap.size w wc))
  case first =>
   have H := HC20.out
   clear HC20
   by_cases c21 : a1 = 0
   case neg =>
    rw [if_neg c21] at H
    have c21b0 : (a1 == 0) = false := beq_eq_false_iff_ne.mpr c21
    have c21b1 : (a1 != 0) = true := bne_iff_ne.mpr c21
    (first | rw [c21b0] | (simp only [i64_w, i32_w]; rw [c21b0]) | skip)
    have H' := Aside0.mk H
    clear H
    go_wp2
    go_meet
    case rel => exact ⟨_, (false), m16_, H', ⟨by have := HJ4.out; first | omega | exact Nat.le_refl _⟩, ⟨by (with_reducible repeat (first | refine blk_drewN ?_ _ | refine blk_drew ?_ | refine blk_alloc ?_ _)); exact BK253.out⟩, ⟨m30_⟩⟩
   rw [if_pos c21] at H
   have c21b0 : (a1 == 0) = true := beq_iff_eq.mpr c21
   have c21b1 : (a1 != 0) = false := bne_eq_false_iff_eq.mpr c21
   clear c21
   (first | rw [c21b0] | (simp only [i64_w, i32_w]; rw [c21b0]) | skip)
   replace H := Option.bind_eq_some_iff.mp H
   obtain ⟨t255, A220, H⟩ := H
   replace H : (strongroomref20_Missing.j1 kj4 a0 a1 a2 (a0.toList != t255.toList) a3_0 a3_1 a3_2 a3_3 a3_4 l3_5 l3_6) = some r := H
   have A22 := Aside0.mk A220
   clear A220
   have H' := Aside0.mk H
   clear H
   go_wp2_with (first | (go_at_call 18; (refine (strongroomref20_Digest.calls kj4 _ _ ([] : List (S39)) t255 _ ?side1 ?side2 A22.out).mono ?_); (case side1 => exact Kd.C_nil _ _); (case side2 => exact Nat.le_refl _); rintro e w23 ⟨rfl, hb⟩; have n0_ := Aside0.mk (blk_below (g := gb253) (o := .cells #[.int .i64 a3_0, .string a3_1, .string a3_2, .string a3_3, .string a3_4, .slice A3_5 l3_5.length c3_5, .slice A3_6 l3_6.length c3_6] 53 (0, 0)) m10_ hb); have n1_ := Aside0.mk (below_step m0_ hb); clear BK253; clear HB; have BK253 := n0_; have HB := n1_; clear n0_ n1_; (try clear hb); (try clear hb2); (try clear hk); (try clear hi)))
   go_meet
   case rel => exact ⟨_, ((a0.toList != t255.toList)), m16_, H', ⟨by have := HJ4.out; first | omega | exact Nat.le_refl _⟩, ⟨by (with_reducible repeat (first | refine blk_drewN ?_ _ | refine blk_drew ?_ | refine blk_alloc ?_ _)); exact BK253.out⟩, ⟨m30_⟩⟩
  clear HC20
  try clear c1; try clear c2; try clear p2; try clear c3; try clear c5; try clear c8; try clear c9; try clear c9b0; try clear c11; try clear c11b0; try clear c13; try clear c13b0; try clear c19; try clear c21; try clear c21b0; try clear c21b1; try clear hcz15_0; try clear hcz15_1; try clear hcz15_2; try clear hcz15_3; try clear hcz15_4; try clear hcz15_5; try clear hcz15_6; try clear hcz17_0; try clear hcz17_1; try clear hcz17_2; try clear hcz17_3; try clear hcz17_4; try clear hcz17_5; try clear hcz17_6; try clear hfz15_0; try clear hfz15_1; try clear hfz15_2; try clear hfz15_3; try clear hfz15_4; try clear hfz15_5; try clear hfz15_6; try clear hfz17_0; try clear hfz17_1; try clear hfz17_2; try clear hfz17_3; try clear hfz17_4; try clear hfz17_5; try clear hfz17_6; try clear p2
  obtain ⟨kq, x39_19, rfl, HA, HJ19, BK253, HB⟩ := hcut
  cases kq with
  | zero => exact absurd HA.out (by simp [strongroomref20_Missing.j1])
  | succ kj19 =>
   have H := HA.out
   clear HA
   simp only [strongroomref20_Missing.j1] at H
   by_cases c24 : x39_19 = true
   ·subst c24
    have H1 : (some false) = some r := by rw [if_pos rfl] at H; exact H
    clear H
    have H := H1
    clear H1
    obtain rfl := Option.some.inj H
    go_wp2
    go_ret
    exact ⟨by first | rfl | (simp [errW_none, errW_some] <;> rfl) | (simp [*, errW_none, errW_some] <;> rfl), m30_⟩
   replace c24 := Bool.eq_false_iff.mpr c24
   subst c24
   have H1 : (if (a3_1.toList == ([] : List UInt8) && (a3_2.toList == ([] : List UInt8))) = true then (strongroomref20_Missing.j2 kj19 a0 a1 a2 ((l3_5.length : Int) == 0) a3_0 a3_1 a3_2 a3_3 a3_4 l3_5 l3_6) else (strongroomref20_Missing.j2 kj19 a0 a1 a2 false a3_0 a3_1 a3_2 a3_3 a3_4 l3_5 l3_6)) = some r := by rw [if_neg (show ¬ (false = true) by decide)] at H; exact H
   clear H
   have H := H1
   clear H1
   have HC25 := Aside0.mk H
   clear H
   go_upto_region 5 with (fail)
   go_cut [9] (fun v9 wc => ∃ (kq : Nat) (x9_24 : Bool), v9 = .bool x9_24 ∧ Aside0 (strongroomref20_Missing.j2 kq a0 a1 a2 x9_24 a3_0 a3_1 a3_2 a3_3 a3_4 l3_5 l3_6 = some r) ∧ Aside0 (kq ≤ kj19) ∧ Aside0 (wc.heap[gb253]? = some (.cells #[.int .i64 a3_0, .string a3_1, .string a3_2, .string a3_3, .string a3_4, (.slice A3_5 l3_5.length c3_5), (.slice A3_6 l3_6.length c3_6)] 53 (0, 0))) ∧ Aside0 (Below w.heap.size w wc))
   case first =>
    have H := HC25.out
    clear HC25
    by_cases c26 : (a3_1.toList == ([] : List UInt8) && (a3_2.toList == ([] : List UInt8))) = true
    ·rw [if_pos c26] at H
     have c26b0 : (a3_1.toList == ([] : List UInt8) && (a3_2.toList == ([] : List UInt8))) = true := c26
     (try (have c26b1 : decide (a3_1.toList = ([] : List UInt8) && (a3_2.toList == ([] : List UInt8))) = true := by simpa using c26))
     (try (have c26b2 : (a3_1.toList == ([] : List UInt8) && (a3_2.toList == ([] : List UInt8))) = true := by simpa using c26))
     have c26b4 : (a3_1.toList.isEmpty && a3_2.toList.isEmpty) = true := (fun {x_ y_ : List UInt8} {v_ : Bool} (h_ : (x_ == ([] : List UInt8) && (y_ == ([] : List UInt8))) = v_) => (show (x_.isEmpty && y_.isEmpty) = v_ by cases x_ <;> cases y_ <;> first | exact h_ | simpa using h_)) c26b2
     clear c26
     (first | rw [c26b0] | (simp only [i64_w, i32_w]; rw [c26b0]) | skip)
     have H' := Aside0.mk H
     clear H
     have hcz27_0 : wc.cell? ⟨gb253, 0, none⟩ = some (.int .i64 a3_0) := (blk_cell BK253.out 0).trans rfl
     have hcz27_1 : wc.cell? ⟨gb253, 1, none⟩ = some (.string a3_1) := (blk_cell BK253.out 1).trans rfl
     have hcz27_2 : wc.cell? ⟨gb253, 2, none⟩ = some (.string a3_2) := (blk_cell BK253.out 2).trans rfl
     have hcz27_3 : wc.cell? ⟨gb253, 3, none⟩ = some (.string a3_3) := (blk_cell BK253.out 3).trans rfl
     have hcz27_4 : wc.cell? ⟨gb253, 4, none⟩ = some (.string a3_4) := (blk_cell BK253.out 4).trans rfl
     have hcz27_5 : wc.cell? ⟨gb253, 5, none⟩ = some (.slice A3_5 l3_5.length c3_5) := (blk_cell BK253.out 5).trans rfl
     have hcz27_6 : wc.cell? ⟨gb253, 6, none⟩ = some (.slice A3_6 l3_6.length c3_6) := (blk_cell BK253.out 6).trans rfl
     have hfz27_0 := blk_frozen BK253.out 0
     have hfz27_1 := blk_frozen BK253.out 1
     have hfz27_2 := blk_frozen BK253.out 2
     have hfz27_3 := blk_frozen BK253.out 3
     have hfz27_4 := blk_frozen BK253.out 4
     have hfz27_5 := blk_frozen BK253.out 5
     have hfz27_6 := blk_frozen BK253.out 6
     go_wp2
     go_meet
     case rel => exact ⟨_, (((l3_5.length : Int) == 0)), m16_, H', ⟨by have := HJ4.out; have := HJ19.out; first | omega | exact Nat.le_refl _⟩, ⟨by (with_reducible repeat (first | refine blk_drewN ?_ _ | refine blk_drew ?_ | refine blk_alloc ?_ _)); exact BK253.out⟩, ⟨m30_⟩⟩
    rw [if_neg c26] at H
    have c26b0 : (a3_1.toList == ([] : List UInt8) && (a3_2.toList == ([] : List UInt8))) = false := by simpa using c26
    (try (have c26b1 : decide (a3_1.toList = ([] : List UInt8) && (a3_2.toList == ([] : List UInt8))) = false := by simpa using c26))
    (try (have c26b2 : (a3_1.toList == ([] : List UInt8) && (a3_2.toList == ([] : List UInt8))) = false := by simpa using c26))
    have c26b4 : (a3_1.toList.isEmpty && a3_2.toList.isEmpty) = false := (fun {x_ y_ : List UInt8} {v_ : Bool} (h_ : (x_ == ([] : List UInt8) && (y_ == ([] : List UInt8))) = v_) => (show (x_.isEmpty && y_.isEmpty) = v_ by cases x_ <;> cases y_ <;> first | exact h_ | simpa using h_)) c26b2
    (try (have c26b3 : ¬ (a3_1.toList = ([] : List UInt8) && (a3_2.toList == ([] : List UInt8))) := by simpa using c26))
    clear c26
    (first | rw [c26b0] | (simp only [i64_w, i32_w]; rw [c26b0]) | skip)
    have H' := Aside0.mk H
    clear H
    have hcz28_0 : wc.cell? ⟨gb253, 0, none⟩ = some (.int .i64 a3_0) := (blk_cell BK253.out 0).trans rfl
    have hcz28_1 : wc.cell? ⟨gb253, 1, none⟩ = some (.string a3_1) := (blk_cell BK253.out 1).trans rfl
    have hcz28_2 : wc.cell? ⟨gb253, 2, none⟩ = some (.string a3_2) := (blk_cell BK253.out 2).trans rfl
    have hcz28_3 : wc.cell? ⟨gb253, 3, none⟩ = some (.string a3_3) := (blk_cell BK253.out 3).trans rfl
    have hcz28_4 : wc.cell? ⟨gb253, 4, none⟩ = some (.string a3_4) := (blk_cell BK253.out 4).trans rfl
    have hcz28_5 : wc.cell? ⟨gb253, 5, none⟩ = some (.slice A3_5 l3_5.length c3_5) := (blk_cell BK253.out 5).trans rfl
    have hcz28_6 : wc.cell? ⟨gb253, 6, none⟩ = some (.slice A3_6 l3_6.length c3_6) := (blk_cell BK253.out 6).trans rfl
    have hfz28_0 := blk_frozen BK253.out 0
    have hfz28_1 := blk_frozen BK253.out 1
    have hfz28_2 := blk_frozen BK253.out 2
    have hfz28_3 := blk_frozen BK253.out 3
    have hfz28_4 := blk_frozen BK253.out 4
    have hfz28_5 := blk_frozen BK253.out 5
    have hfz28_6 := blk_frozen BK253.out 6
    go_wp2
    go_meet
    case rel => exact ⟨_, (false), m16_, H', ⟨by have := HJ4.out; have := HJ19.out; first | omega | exact Nat.le_refl _⟩, ⟨by (with_reducible repeat (first | refine blk_drewN ?_ _ | refine blk_drew ?_ | refine blk_alloc ?_ _)); exact BK253.out⟩, ⟨m30_⟩⟩
   clear HC25
   try clear c1; try clear c2; try clear p2; try clear c3; try clear c5; try clear c8; try clear c9; try clear c9b0; try clear c11; try clear c11b0; try clear c13; try clear c13b0; try clear c19; try clear c21; try clear c21b0; try clear c21b1; try clear c24; try clear c26; try clear c26b0; try clear c26b1; try clear c26b2; try clear hcz15_0; try clear hcz15_1; try clear hcz15_2; try clear hcz15_3; try clear hcz15_4; try clear hcz15_5; try clear hcz15_6; try clear hcz17_0; try clear hcz17_1; try clear hcz17_2; try clear hcz17_3; try clear hcz17_4; try clear hcz17_5; try clear hcz17_6; try clear hcz27_0; try clear hcz27_1; try clear hcz27_2; try clear hcz27_3; try clear hcz27_4; try clear hcz27_5; try clear hcz27_6; try clear hcz28_0; try clear hcz28_1; try clear hcz28_2; try clear hcz28_3; try clear hcz28_4; try clear hcz28_5; try clear hcz28_6; try clear hfz15_0; try clear hfz15_1; try clear hfz15_2; try clear hfz15_3; try clear hfz15_4; try clear hfz15_5; try clear hfz15_6; try clear hfz17_0; try clear hfz17_1; try clear hfz17_2; try clear hfz17_3; try clear hfz17_4; try clear hfz17_5; try clear hfz17_6; try clear hfz27_0; try clear hfz27_1; try clear hfz27_2; try clear hfz27_3; try clear hfz27_4; try clear hfz27_5; try clear hfz27_6; try clear hfz28_0; try clear hfz28_1; try clear hfz28_2; try clear hfz28_3; try clear hfz28_4; try clear hfz28_5; try clear hfz28_6; try clear p2
   obtain ⟨kq, x9_24, rfl, HA, HJ24, BK253, HB⟩ := hcut
   cases kq with
   | zero => exact absurd HA.out (by simp [strongroomref20_Missing.j2])
   | succ kj24 =>
    have H := HA.out
    clear HA
    simp only [strongroomref20_Missing.j2] at H
    by_cases c29 : a3_0 > 0
    case neg =>
     rw [if_neg c29] at H
     have c29b0 : decide (0 < a3_0) = false := decide_eq_false c29
     clear c29
     by_cases c100 : (a3_3.toList == ([] : List UInt8) && (a3_4.toList == ([] : List UInt8))) = true
     ·rw [if_pos c100] at H
      have c100b0 : (a3_3.toList == ([] : List UInt8) && (a3_4.toList == ([] : List UInt8))) = true := c100
      (try (have c100b1 : decide (a3_3.toList = ([] : List UInt8) && (a3_4.toList == ([] : List UInt8))) = true := by simpa using c100))
      (try (have c100b2 : (a3_3.toList == ([] : List UInt8) && (a3_4.toList == ([] : List UInt8))) = true := by simpa using c100))
      have c100b4 : (a3_3.toList.isEmpty && a3_4.toList.isEmpty) = true := (fun {x_ y_ : List UInt8} {v_ : Bool} (h_ : (x_ == ([] : List UInt8) && (y_ == ([] : List UInt8))) = v_) => (show (x_.isEmpty && y_.isEmpty) = v_ by cases x_ <;> cases y_ <;> first | exact h_ | simpa using h_)) c100b2
      clear c100
      by_cases c101 : a3_0 < a1
      case neg =>
       rw [if_neg c101] at H
       have c101b0 : decide (a3_0 < a1) = false := decide_eq_false c101
       clear c101
       by_cases c112 : x9_24 = true
       ·subst c112
        have H1 : (some ((l3_6.length : Int) == 0)) = some r := by rw [if_pos rfl] at H; exact H
        clear H
        have H := H1
        clear H1
        obtain rfl := Option.some.inj H
        have hcz113_0 : wc.cell? ⟨gb253, 0, none⟩ = some (.int .i64 a3_0) := (blk_cell BK253.out 0).trans rfl
        have hcz113_1 : wc.cell? ⟨gb253, 1, none⟩ = some (.string a3_1) := (blk_cell BK253.out 1).trans rfl
        have hcz113_2 : wc.cell? ⟨gb253, 2, none⟩ = some (.string a3_2) := (blk_cell BK253.out 2).trans rfl
        have hcz113_3 : wc.cell? ⟨gb253, 3, none⟩ = some (.string a3_3) := (blk_cell BK253.out 3).trans rfl
        have hcz113_4 : wc.cell? ⟨gb253, 4, none⟩ = some (.string a3_4) := (blk_cell BK253.out 4).trans rfl
        have hcz113_5 : wc.cell? ⟨gb253, 5, none⟩ = some (.slice A3_5 l3_5.length c3_5) := (blk_cell BK253.out 5).trans rfl
        have hcz113_6 : wc.cell? ⟨gb253, 6, none⟩ = some (.slice A3_6 l3_6.length c3_6) := (blk_cell BK253.out 6).trans rfl
        have hfz113_0 := blk_frozen BK253.out 0
        have hfz113_1 := blk_frozen BK253.out 1
        have hfz113_2 := blk_frozen BK253.out 2
        have hfz113_3 := blk_frozen BK253.out 3
        have hfz113_4 := blk_frozen BK253.out 4
        have hfz113_5 := blk_frozen BK253.out 5
        have hfz113_6 := blk_frozen BK253.out 6
        go_wp2
        go_ret
        exact ⟨by first | rfl | (simp [errW_none, errW_some] <;> rfl) | (simp [*, errW_none, errW_some] <;> rfl), m30_⟩
       replace c112 := Bool.eq_false_iff.mpr c112
       subst c112
       have H1 : (some false) = some r := by rw [if_neg (show ¬ (false = true) by decide)] at H; exact H
       clear H
       have H := H1
       clear H1
       obtain rfl := Option.some.inj H
       have hcz114_0 : wc.cell? ⟨gb253, 0, none⟩ = some (.int .i64 a3_0) := (blk_cell BK253.out 0).trans rfl
       have hcz114_1 : wc.cell? ⟨gb253, 1, none⟩ = some (.string a3_1) := (blk_cell BK253.out 1).trans rfl
       have hcz114_2 : wc.cell? ⟨gb253, 2, none⟩ = some (.string a3_2) := (blk_cell BK253.out 2).trans rfl
       have hcz114_3 : wc.cell? ⟨gb253, 3, none⟩ = some (.string a3_3) := (blk_cell BK253.out 3).trans rfl
       have hcz114_4 : wc.cell? ⟨gb253, 4, none⟩ = some (.string a3_4) := (blk_cell BK253.out 4).trans rfl
       have hcz114_5 : wc.cell? ⟨gb253, 5, none⟩ = some (.slice A3_5 l3_5.length c3_5) := (blk_cell BK253.out 5).trans rfl
       have hcz114_6 : wc.cell? ⟨gb253, 6, none⟩ = some (.slice A3_6 l3_6.length c3_6) := (blk_cell BK253.out 6).trans rfl
       have hfz114_0 := blk_frozen BK253.out 0
       have hfz114_1 := blk_frozen BK253.out 1
       have hfz114_2 := blk_frozen BK253.out 2
       have hfz114_3 := blk_frozen BK253.out 3
       have hfz114_4 := blk_frozen BK253.out 4
       have hfz114_5 := blk_frozen BK253.out 5
       have hfz114_6 := blk_frozen BK253.out 6
       go_wp2
       go_ret
       exact ⟨by first | rfl | (simp [errW_none, errW_some] <;> rfl) | (simp [*, errW_none, errW_some] <;> rfl), m30_⟩
      rw [if_pos c101] at H
      have c101b0 : decide (a3_0 < a1) = true := decide_eq_true c101
      clear c101
      by_cases c102 : (Op.bytesLess a2.toList a3_3.toList) = true
      case neg =>
       rw [if_neg c102] at H
       have c102b0 : (Op.bytesLess a2.toList a3_3.toList) = false := by simpa using c102
       clear c102
       by_cases c109 : x9_24 = true
       ·subst c109
        have H1 : (some false) = some r := by rw [if_pos rfl] at H; exact H
        clear H
        have H := H1
        clear H1
        obtain rfl := Option.some.inj H
        have hcz110_0 : wc.cell? ⟨gb253, 0, none⟩ = some (.int .i64 a3_0) := (blk_cell BK253.out 0).trans rfl
        have hcz110_1 : wc.cell? ⟨gb253, 1, none⟩ = some (.string a3_1) := (blk_cell BK253.out 1).trans rfl
        have hcz110_2 : wc.cell? ⟨gb253, 2, none⟩ = some (.string a3_2) := (blk_cell BK253.out 2).trans rfl
        have hcz110_3 : wc.cell? ⟨gb253, 3, none⟩ = some (.string a3_3) := (blk_cell BK253.out 3).trans rfl
        have hcz110_4 : wc.cell? ⟨gb253, 4, none⟩ = some (.string a3_4) := (blk_cell BK253.out 4).trans rfl
        have hcz110_5 : wc.cell? ⟨gb253, 5, none⟩ = some (.slice A3_5 l3_5.length c3_5) := (blk_cell BK253.out 5).trans rfl
        have hcz110_6 : wc.cell? ⟨gb253, 6, none⟩ = some (.slice A3_6 l3_6.length c3_6) := (blk_cell BK253.out 6).trans rfl
        have hfz110_0 := blk_frozen BK253.out 0
        have hfz110_1 := blk_frozen BK253.out 1
        have hfz110_2 := blk_frozen BK253.out 2
        have hfz110_3 := blk_frozen BK253.out 3
        have hfz110_4 := blk_frozen BK253.out 4
        have hfz110_5 := blk_frozen BK253.out 5
        have hfz110_6 := blk_frozen BK253.out 6
        go_wp2
        go_ret
        exact ⟨by first | rfl | (simp [errW_none, errW_some] <;> rfl) | (simp [*, errW_none, errW_some] <;> rfl), m30_⟩
       replace c109 := Bool.eq_false_iff.mpr c109
       subst c109
       have H1 : (some false) = some r := by rw [if_neg (show ¬ (false = true) by decide)] at H; exact H
       clear H
       have H := H1
       clear H1
       obtain rfl := Option.some.inj H
       have hcz111_0 : wc.cell? ⟨gb253, 0, none⟩ = some (.int .i64 a3_0) := (blk_cell BK253.out 0).trans rfl
       have hcz111_1 : wc.cell? ⟨gb253, 1, none⟩ = some (.string a3_1) := (blk_cell BK253.out 1).trans rfl
       have hcz111_2 : wc.cell? ⟨gb253, 2, none⟩ = some (.string a3_2) := (blk_cell BK253.out 2).trans rfl
       have hcz111_3 : wc.cell? ⟨gb253, 3, none⟩ = some (.string a3_3) := (blk_cell BK253.out 3).trans rfl
       have hcz111_4 : wc.cell? ⟨gb253, 4, none⟩ = some (.string a3_4) := (blk_cell BK253.out 4).trans rfl
       have hcz111_5 : wc.cell? ⟨gb253, 5, none⟩ = some (.slice A3_5 l3_5.length c3_5) := (blk_cell BK253.out 5).trans rfl
       have hcz111_6 : wc.cell? ⟨gb253, 6, none⟩ = some (.slice A3_6 l3_6.length c3_6) := (blk_cell BK253.out 6).trans rfl
       have hfz111_0 := blk_frozen BK253.out 0
       have hfz111_1 := blk_frozen BK253.out 1
       have hfz111_2 := blk_frozen BK253.out 2
       have hfz111_3 := blk_frozen BK253.out 3
       have hfz111_4 := blk_frozen BK253.out 4
       have hfz111_5 := blk_frozen BK253.out 5
       have hfz111_6 := blk_frozen BK253.out 6
       go_wp2
       go_ret
       exact ⟨by first | rfl | (simp [errW_none, errW_some] <;> rfl) | (simp [*, errW_none, errW_some] <;> rfl), m30_⟩
      rw [if_pos c102] at H
      have c102b0 : (Op.bytesLess a2.toList a3_3.toList) = true := c102
      clear c102
      replace H := Option.bind_eq_some_iff.mp H
      obtain ⟨t261, A1030, H⟩ := H
      replace H : (if x9_24 = true then (some t261) else (some false)) = some r := H
      have A103 := Aside0.mk A1030
      clear A1030
      by_cases c104 : x9_24 = true
      ·subst c104
       have H1 : (some t261) = some r := by rw [if_pos rfl] at H; exact H
       clear H
       have H := H1
       clear H1
       obtain rfl := Option.some.inj H
       have hcz105_0 : wc.cell? ⟨gb253, 0, none⟩ = some (.int .i64 a3_0) := (blk_cell BK253.out 0).trans rfl
       have hcz105_1 : wc.cell? ⟨gb253, 1, none⟩ = some (.string a3_1) := (blk_cell BK253.out 1).trans rfl
       have hcz105_2 : wc.cell? ⟨gb253, 2, none⟩ = some (.string a3_2) := (blk_cell BK253.out 2).trans rfl
       have hcz105_3 : wc.cell? ⟨gb253, 3, none⟩ = some (.string a3_3) := (blk_cell BK253.out 3).trans rfl
       have hcz105_4 : wc.cell? ⟨gb253, 4, none⟩ = some (.string a3_4) := (blk_cell BK253.out 4).trans rfl
       have hcz105_5 : wc.cell? ⟨gb253, 5, none⟩ = some (.slice A3_5 l3_5.length c3_5) := (blk_cell BK253.out 5).trans rfl
       have hcz105_6 : wc.cell? ⟨gb253, 6, none⟩ = some (.slice A3_6 l3_6.length c3_6) := (blk_cell BK253.out 6).trans rfl
       have hfz105_0 := blk_frozen BK253.out 0
       have hfz105_1 := blk_frozen BK253.out 1
       have hfz105_2 := blk_frozen BK253.out 2
       have hfz105_3 := blk_frozen BK253.out 3
       have hfz105_4 := blk_frozen BK253.out 4
       have hfz105_5 := blk_frozen BK253.out 5
       have hfz105_6 := blk_frozen BK253.out 6
       go_wp2_with (first | (go_at_call 24; (with_reducible refine (strongroomref20_Verify.calls kj24 a0 a1 a3_0 a3_3 a3_4 _ _ l3_6 t261 _ ?side1 ?side2 A103.out).mono ?_); (case side1 => exact m21_); (case side2 => exact HC3_6.out); rintro e w106 ⟨rfl, hb⟩; have n0_ := Aside0.mk (blk_below (g := gb253) (o := .cells #[.int .i64 a3_0, .string a3_1, .string a3_2, .string a3_3, .string a3_4, .slice A3_5 l3_5.length c3_5, .slice A3_6 l3_6.length c3_6] 53 (0, 0)) m10_ hb); have n1_ := Aside0.mk (below_step m0_ hb); clear BK253; clear HB; have BK253 := n0_; have HB := n1_; clear n0_ n1_; (try clear hb); (try clear hb2); (try clear hk); (try clear hi)))
       go_ret
       exact ⟨by first | rfl | (simp [errW_none, errW_some] <;> rfl) | (simp [*, errW_none, errW_some] <;> rfl), m30_⟩
      replace c104 := Bool.eq_false_iff.mpr c104
      subst c104
      have H1 : (some false) = some r := by rw [if_neg (show ¬ (false = true) by decide)] at H; exact H
      clear H
      have H := H1
      clear H1
      obtain rfl := Option.some.inj H
      have hcz107_0 : wc.cell? ⟨gb253, 0, none⟩ = some (.int .i64 a3_0) := (blk_cell BK253.out 0).trans rfl
      have hcz107_1 : wc.cell? ⟨gb253, 1, none⟩ = some (.string a3_1) := (blk_cell BK253.out 1).trans rfl
      have hcz107_2 : wc.cell? ⟨gb253, 2, none⟩ = some (.string a3_2) := (blk_cell BK253.out 2).trans rfl
      have hcz107_3 : wc.cell? ⟨gb253, 3, none⟩ = some (.string a3_3) := (blk_cell BK253.out 3).trans rfl
      have hcz107_4 : wc.cell? ⟨gb253, 4, none⟩ = some (.string a3_4) := (blk_cell BK253.out 4).trans rfl
      have hcz107_5 : wc.cell? ⟨gb253, 5, none⟩ = some (.slice A3_5 l3_5.length c3_5) := (blk_cell BK253.out 5).trans rfl
      have hcz107_6 : wc.cell? ⟨gb253, 6, none⟩ = some (.slice A3_6 l3_6.length c3_6) := (blk_cell BK253.out 6).trans rfl
      have hfz107_0 := blk_frozen BK253.out 0
      have hfz107_1 := blk_frozen BK253.out 1
      have hfz107_2 := blk_frozen BK253.out 2
      have hfz107_3 := blk_frozen BK253.out 3
      have hfz107_4 := blk_frozen BK253.out 4
      have hfz107_5 := blk_frozen BK253.out 5
      have hfz107_6 := blk_frozen BK253.out 6
      go_wp2_with (first | (go_at_call 24; (with_reducible refine (strongroomref20_Verify.calls kj24 a0 a1 a3_0 a3_3 a3_4 _ _ l3_6 t261 _ ?side1 ?side2 A103.out).mono ?_); (case side1 => exact m21_); (case side2 => exact HC3_6.out); rintro e w108 ⟨rfl, hb⟩; have n0_ := Aside0.mk (blk_below (g := gb253) (o := .cells #[.int .i64 a3_0, .string a3_1, .string a3_2, .string a3_3, .string a3_4, .slice A3_5 l3_5.length c3_5, .slice A3_6 l3_6.length c3_6] 53 (0, 0)) m10_ hb); have n1_ := Aside0.mk (below_step m0_ hb); clear BK253; clear HB; have BK253 := n0_; have HB := n1_; clear n0_ n1_; (try clear hb); (try clear hb2); (try clear hk); (try clear hi)))
      go_ret
      exact ⟨by first | rfl | (simp [errW_none, errW_some] <;> rfl) | (simp [*, errW_none, errW_some] <;> rfl), m30_⟩
     rw [if_neg c100] at H
     have c100b0 : (a3_3.toList == ([] : List UInt8) && (a3_4.toList == ([] : List UInt8))) = false := by simpa using c100
     (try (have c100b1 : decide (a3_3.toList = ([] : List UInt8) && (a3_4.toList == ([] : List UInt8))) = false := by simpa using c100))
     (try (have c100b2 : (a3_3.toList == ([] : List UInt8) && (a3_4.toList == ([] : List UInt8))) = false := by simpa using c100))
     have c100b4 : (a3_3.toList.isEmpty && a3_4.toList.isEmpty) = false := (fun {x_ y_ : List UInt8} {v_ : Bool} (h_ : (x_ == ([] : List UInt8) && (y_ == ([] : List UInt8))) = v_) => (show (x_.isEmpty && y_.isEmpty) = v_ by cases x_ <;> cases y_ <;> first | exact h_ | simpa using h_)) c100b2
     (try (have c100b3 : ¬ (a3_3.toList = ([] : List UInt8) && (a3_4.toList == ([] : List UInt8))) := by simpa using c100))
     clear c100
     by_cases c115 : a3_0 < a1
     case neg =>
      rw [if_neg c115] at H
      have c115b0 : decide (a3_0 < a1) = false := decide_eq_false c115
      clear c115
      by_cases c126 : x9_24 = true
      ·subst c126
       have H1 : (some false) = some r := by rw [if_pos rfl] at H; exact H
       clear H
       have H := H1
       clear H1
       obtain rfl := Option.some.inj H
       have hcz127_0 : wc.cell? ⟨gb253, 0, none⟩ = some (.int .i64 a3_0) := (blk_cell BK253.out 0).trans rfl
       have hcz127_1 : wc.cell? ⟨gb253, 1, none⟩ = some (.string a3_1) := (blk_cell BK253.out 1).trans rfl
       have hcz127_2 : wc.cell? ⟨gb253, 2, none⟩ = some (.string a3_2) := (blk_cell BK253.out 2).trans rfl
       have hcz127_3 : wc.cell? ⟨gb253, 3, none⟩ = some (.string a3_3) := (blk_cell BK253.out 3).trans rfl
       have hcz127_4 : wc.cell? ⟨gb253, 4, none⟩ = some (.string a3_4) := (blk_cell BK253.out 4).trans rfl
       have hcz127_5 : wc.cell? ⟨gb253, 5, none⟩ = some (.slice A3_5 l3_5.length c3_5) := (blk_cell BK253.out 5).trans rfl
       have hcz127_6 : wc.cell? ⟨gb253, 6, none⟩ = some (.slice A3_6 l3_6.length c3_6) := (blk_cell BK253.out 6).trans rfl
       have hfz127_0 := blk_frozen BK253.out 0
       have hfz127_1 := blk_frozen BK253.out 1
       have hfz127_2 := blk_frozen BK253.out 2
       have hfz127_3 := blk_frozen BK253.out 3
       have hfz127_4 := blk_frozen BK253.out 4
       have hfz127_5 := blk_frozen BK253.out 5
       have hfz127_6 := blk_frozen BK253.out 6
       go_wp2
       go_ret
       exact ⟨by first | rfl | (simp [errW_none, errW_some] <;> rfl) | (simp [*, errW_none, errW_some] <;> rfl), m30_⟩
      replace c126 := Bool.eq_false_iff.mpr c126
      subst c126
      have H1 : (some false) = some r := by rw [if_neg (show ¬ (false = true) by decide)] at H; exact H
      clear H
      have H := H1
      clear H1
      obtain rfl := Option.some.inj H
      have hcz128_0 : wc.cell? ⟨gb253, 0, none⟩ = some (.int .i64 a3_0) := (blk_cell BK253.out 0).trans rfl
      have hcz128_1 : wc.cell? ⟨gb253, 1, none⟩ = some (.string a3_1) := (blk_cell BK253.out 1).trans rfl
      have hcz128_2 : wc.cell? ⟨gb253, 2, none⟩ = some (.string a3_2) := (blk_cell BK253.out 2).trans rfl
      have hcz128_3 : wc.cell? ⟨gb253, 3, none⟩ = some (.string a3_3) := (blk_cell BK253.out 3).trans rfl
      have hcz128_4 : wc.cell? ⟨gb253, 4, none⟩ = some (.string a3_4) := (blk_cell BK253.out 4).trans rfl
      have hcz128_5 : wc.cell? ⟨gb253, 5, none⟩ = some (.slice A3_5 l3_5.length c3_5) := (blk_cell BK253.out 5).trans rfl
      have hcz128_6 : wc.cell? ⟨gb253, 6, none⟩ = some (.slice A3_6 l3_6.length c3_6) := (blk_cell BK253.out 6).trans rfl
      have hfz128_0 := blk_frozen BK253.out 0
      have hfz128_1 := blk_frozen BK253.out 1
      have hfz128_2 := blk_frozen BK253.out 2
      have hfz128_3 := blk_frozen BK253.out 3
      have hfz128_4 := blk_frozen BK253.out 4
      have hfz128_5 := blk_frozen BK253.out 5
      have hfz128_6 := blk_frozen BK253.out 6
      go_wp2
      go_ret
      exact ⟨by first | rfl | (simp [errW_none, errW_some] <;> rfl) | (simp [*, errW_none, errW_some] <;> rfl), m30_⟩
     rw [if_pos c115] at H
     have c115b0 : decide (a3_0 < a1) = true := decide_eq_true c115
     clear c115
     by_cases c116 : (Op.bytesLess a2.toList a3_3.toList) = true
     case neg =>
      rw [if_neg c116] at H
      have c116b0 : (Op.bytesLess a2.toList a3_3.toList) = false := by simpa using c116
      clear c116
      by_cases c123 : x9_24 = true
      ·subst c123
       have H1 : (some false) = some r := by rw [if_pos rfl] at H; exact H
       clear H
       have H := H1
       clear H1
       obtain rfl := Option.some.inj H
       have hcz124_0 : wc.cell? ⟨gb253, 0, none⟩ = some (.int .i64 a3_0) := (blk_cell BK253.out 0).trans rfl
       have hcz124_1 : wc.cell? ⟨gb253, 1, none⟩ = some (.string a3_1) := (blk_cell BK253.out 1).trans rfl
       have hcz124_2 : wc.cell? ⟨gb253, 2, none⟩ = some (.string a3_2) := (blk_cell BK253.out 2).trans rfl
       have hcz124_3 : wc.cell? ⟨gb253, 3, none⟩ = some (.string a3_3) := (blk_cell BK253.out 3).trans rfl
       have hcz124_4 : wc.cell? ⟨gb253, 4, none⟩ = some (.string a3_4) := (blk_cell BK253.out 4).trans rfl
       have hcz124_5 : wc.cell? ⟨gb253, 5, none⟩ = some (.slice A3_5 l3_5.length c3_5) := (blk_cell BK253.out 5).trans rfl
       have hcz124_6 : wc.cell? ⟨gb253, 6, none⟩ = some (.slice A3_6 l3_6.length c3_6) := (blk_cell BK253.out 6).trans rfl
       have hfz124_0 := blk_frozen BK253.out 0
       have hfz124_1 := blk_frozen BK253.out 1
       have hfz124_2 := blk_frozen BK253.out 2
       have hfz124_3 := blk_frozen BK253.out 3
       have hfz124_4 := blk_frozen BK253.out 4
       have hfz124_5 := blk_frozen BK253.out 5
       have hfz124_6 := blk_frozen BK253.out 6
       go_wp2
       go_ret
       exact ⟨by first | rfl | (simp [errW_none, errW_some] <;> rfl) | (simp [*, errW_none, errW_some] <;> rfl), m30_⟩
      replace c123 := Bool.eq_false_iff.mpr c123
      subst c123
      have H1 : (some false) = some r := by rw [if_neg (show ¬ (false = true) by decide)] at H; exact H
      clear H
      have H := H1
      clear H1
      obtain rfl := Option.some.inj H
      have hcz125_0 : wc.cell? ⟨gb253, 0, none⟩ = some (.int .i64 a3_0) := (blk_cell BK253.out 0).trans rfl
      have hcz125_1 : wc.cell? ⟨gb253, 1, none⟩ = some (.string a3_1) := (blk_cell BK253.out 1).trans rfl
      have hcz125_2 : wc.cell? ⟨gb253, 2, none⟩ = some (.string a3_2) := (blk_cell BK253.out 2).trans rfl
      have hcz125_3 : wc.cell? ⟨gb253, 3, none⟩ = some (.string a3_3) := (blk_cell BK253.out 3).trans rfl
      have hcz125_4 : wc.cell? ⟨gb253, 4, none⟩ = some (.string a3_4) := (blk_cell BK253.out 4).trans rfl
      have hcz125_5 : wc.cell? ⟨gb253, 5, none⟩ = some (.slice A3_5 l3_5.length c3_5) := (blk_cell BK253.out 5).trans rfl
      have hcz125_6 : wc.cell? ⟨gb253, 6, none⟩ = some (.slice A3_6 l3_6.length c3_6) := (blk_cell BK253.out 6).trans rfl
      have hfz125_0 := blk_frozen BK253.out 0
      have hfz125_1 := blk_frozen BK253.out 1
      have hfz125_2 := blk_frozen BK253.out 2
      have hfz125_3 := blk_frozen BK253.out 3
      have hfz125_4 := blk_frozen BK253.out 4
      have hfz125_5 := blk_frozen BK253.out 5
      have hfz125_6 := blk_frozen BK253.out 6
      go_wp2
      go_ret
      exact ⟨by first | rfl | (simp [errW_none, errW_some] <;> rfl) | (simp [*, errW_none, errW_some] <;> rfl), m30_⟩
     rw [if_pos c116] at H
     have c116b0 : (Op.bytesLess a2.toList a3_3.toList) = true := c116
     clear c116
     replace H := Option.bind_eq_some_iff.mp H
     obtain ⟨t262, A1170, H⟩ := H
     replace H : (if x9_24 = true then (some t262) else (some false)) = some r := H
     have A117 := Aside0.mk A1170
     clear A1170
     by_cases c118 : x9_24 = true
     ·subst c118
      have H1 : (some t262) = some r := by rw [if_pos rfl] at H; exact H
      clear H
      have H := H1
      clear H1
      obtain rfl := Option.some.inj H
      have hcz119_0 : wc.cell? ⟨gb253, 0, none⟩ = some (.int .i64 a3_0) := (blk_cell BK253.out 0).trans rfl
      have hcz119_1 : wc.cell? ⟨gb253, 1, none⟩ = some (.string a3_1) := (blk_cell BK253.out 1).trans rfl
      have hcz119_2 : wc.cell? ⟨gb253, 2, none⟩ = some (.string a3_2) := (blk_cell BK253.out 2).trans rfl
      have hcz119_3 : wc.cell? ⟨gb253, 3, none⟩ = some (.string a3_3) := (blk_cell BK253.out 3).trans rfl
      have hcz119_4 : wc.cell? ⟨gb253, 4, none⟩ = some (.string a3_4) := (blk_cell BK253.out 4).trans rfl
      have hcz119_5 : wc.cell? ⟨gb253, 5, none⟩ = some (.slice A3_5 l3_5.length c3_5) := (blk_cell BK253.out 5).trans rfl
      have hcz119_6 : wc.cell? ⟨gb253, 6, none⟩ = some (.slice A3_6 l3_6.length c3_6) := (blk_cell BK253.out 6).trans rfl
      have hfz119_0 := blk_frozen BK253.out 0
      have hfz119_1 := blk_frozen BK253.out 1
      have hfz119_2 := blk_frozen BK253.out 2
      have hfz119_3 := blk_frozen BK253.out 3
      have hfz119_4 := blk_frozen BK253.out 4
      have hfz119_5 := blk_frozen BK253.out 5
      have hfz119_6 := blk_frozen BK253.out 6
      go_wp2_with (first | (go_at_call 24; (with_reducible refine (strongroomref20_Verify.calls kj24 a0 a1 a3_0 a3_3 a3_4 _ _ l3_6 t262 _ ?side1 ?side2 A117.out).mono ?_); (case side1 => exact m21_); (case side2 => exact HC3_6.out); rintro e w120 ⟨rfl, hb⟩; have n0_ := Aside0.mk (blk_below (g := gb253) (o := .cells #[.int .i64 a3_0, .string a3_1, .string a3_2, .string a3_3, .string a3_4, .slice A3_5 l3_5.length c3_5, .slice A3_6 l3_6.length c3_6] 53 (0, 0)) m10_ hb); have n1_ := Aside0.mk (below_step m0_ hb); clear BK253; clear HB; have BK253 := n0_; have HB := n1_; clear n0_ n1_; (try clear hb); (try clear hb2); (try clear hk); (try clear hi)))
      go_ret
      exact ⟨by first | rfl | (simp [errW_none, errW_some] <;> rfl) | (simp [*, errW_none, errW_some] <;> rfl), m30_⟩
     replace c118 := Bool.eq_false_iff.mpr c118
     subst c118
     have H1 : (some false) = some r := by rw [if_neg (show ¬ (false = true) by decide)] at H; exact H
     clear H
     have H := H1
     clear H1
     obtain rfl := Option.some.inj H
     have hcz121_0 : wc.cell? ⟨gb253, 0, none⟩ = some (.int .i64 a3_0) := (blk_cell BK253.out 0).trans rfl
     have hcz121_1 : wc.cell? ⟨gb253, 1, none⟩ = some (.string a3_1) := (blk_cell BK253.out 1).trans rfl
     have hcz121_2 : wc.cell? ⟨gb253, 2, none⟩ = some (.string a3_2) := (blk_cell BK253.out 2).trans rfl
     have hcz121_3 : wc.cell? ⟨gb253, 3, none⟩ = some (.string a3_3) := (blk_cell BK253.out 3).trans rfl
     have hcz121_4 : wc.cell? ⟨gb253, 4, none⟩ = some (.string a3_4) := (blk_cell BK253.out 4).trans rfl
     have hcz121_5 : wc.cell? ⟨gb253, 5, none⟩ = some (.slice A3_5 l3_5.length c3_5) := (blk_cell BK253.out 5).trans rfl
     have hcz121_6 : wc.cell? ⟨gb253, 6, none⟩ = some (.slice A3_6 l3_6.length c3_6) := (blk_cell BK253.out 6).trans rfl
     have hfz121_0 := blk_frozen BK253.out 0
     have hfz121_1 := blk_frozen BK253.out 1
     have hfz121_2 := blk_frozen BK253.out 2
     have hfz121_3 := blk_frozen BK253.out 3
     have hfz121_4 := blk_frozen BK253.out 4
     have hfz121_5 := blk_frozen BK253.out 5
     have hfz121_6 := blk_frozen BK253.out 6
     go_wp2_with (first | (go_at_call 24; (with_reducible refine (strongroomref20_Verify.calls kj24 a0 a1 a3_0 a3_3 a3_4 _ _ l3_6 t262 _ ?side1 ?side2 A117.out).mono ?_); (case side1 => exact m21_); (case side2 => exact HC3_6.out); rintro e w122 ⟨rfl, hb⟩; have n0_ := Aside0.mk (blk_below (g := gb253) (o := .cells #[.int .i64 a3_0, .string a3_1, .string a3_2, .string a3_3, .string a3_4, .slice A3_5 l3_5.length c3_5, .slice A3_6 l3_6.length c3_6] 53 (0, 0)) m10_ hb); have n1_ := Aside0.mk (below_step m0_ hb); clear BK253; clear HB; have BK253 := n0_; have HB := n1_; clear n0_ n1_; (try clear hb); (try clear hb2); (try clear hk); (try clear hi)))
     go_ret
     exact ⟨by first | rfl | (simp [errW_none, errW_some] <;> rfl) | (simp [*, errW_none, errW_some] <;> rfl), m30_⟩
    rw [if_pos c29] at H
    have c29b0 : decide (0 < a3_0) = true := decide_eq_true c29
    clear c29
    by_cases c30 : (Op.bytesLess a3_1.toList a2.toList) = true
    case neg =>
     rw [if_neg c30] at H
     have c30b0 : (Op.bytesLess a3_1.toList a2.toList) = false := by simpa using c30
     clear c30
     by_cases c85 : (a3_3.toList == ([] : List UInt8) && (a3_4.toList == ([] : List UInt8))) = true
     ·rw [if_pos c85] at H
      have c85b0 : (a3_3.toList == ([] : List UInt8) && (a3_4.toList == ([] : List UInt8))) = true := c85
      (try (have c85b1 : decide (a3_3.toList = ([] : List UInt8) && (a3_4.toList == ([] : List UInt8))) = true := by simpa using c85))
      (try (have c85b2 : (a3_3.toList == ([] : List UInt8) && (a3_4.toList == ([] : List UInt8))) = true := by simpa using c85))
      have c85b4 : (a3_3.toList.isEmpty && a3_4.toList.isEmpty) = true := (fun {x_ y_ : List UInt8} {v_ : Bool} (h_ : (x_ == ([] : List UInt8) && (y_ == ([] : List UInt8))) = v_) => (show (x_.isEmpty && y_.isEmpty) = v_ by cases x_ <;> cases y_ <;> first | exact h_ | simpa using h_)) c85b2
      clear c85
      by_cases c86 : a3_0 < a1
      case neg =>
       rw [if_neg c86] at H
       have c86b0 : decide (a3_0 < a1) = false := decide_eq_false c86
       clear c86
       obtain rfl := Option.some.inj H
       have hcz92_0 : wc.cell? ⟨gb253, 0, none⟩ = some (.int .i64 a3_0) := (blk_cell BK253.out 0).trans rfl
       have hcz92_1 : wc.cell? ⟨gb253, 1, none⟩ = some (.string a3_1) := (blk_cell BK253.out 1).trans rfl
       have hcz92_2 : wc.cell? ⟨gb253, 2, none⟩ = some (.string a3_2) := (blk_cell BK253.out 2).trans rfl
       have hcz92_3 : wc.cell? ⟨gb253, 3, none⟩ = some (.string a3_3) := (blk_cell BK253.out 3).trans rfl
       have hcz92_4 : wc.cell? ⟨gb253, 4, none⟩ = some (.string a3_4) := (blk_cell BK253.out 4).trans rfl
       have hcz92_5 : wc.cell? ⟨gb253, 5, none⟩ = some (.slice A3_5 l3_5.length c3_5) := (blk_cell BK253.out 5).trans rfl
       have hcz92_6 : wc.cell? ⟨gb253, 6, none⟩ = some (.slice A3_6 l3_6.length c3_6) := (blk_cell BK253.out 6).trans rfl
       have hfz92_0 := blk_frozen BK253.out 0
       have hfz92_1 := blk_frozen BK253.out 1
       have hfz92_2 := blk_frozen BK253.out 2
       have hfz92_3 := blk_frozen BK253.out 3
       have hfz92_4 := blk_frozen BK253.out 4
       have hfz92_5 := blk_frozen BK253.out 5
       have hfz92_6 := blk_frozen BK253.out 6
       go_wp2
       go_ret
       exact ⟨by first | rfl | (simp [errW_none, errW_some] <;> rfl) | (simp [*, errW_none, errW_some] <;> rfl), m30_⟩
      rw [if_pos c86] at H
      have c86b0 : decide (a3_0 < a1) = true := decide_eq_true c86
      clear c86
      by_cases c87 : (Op.bytesLess a2.toList a3_3.toList) = true
      case neg =>
       rw [if_neg c87] at H
       have c87b0 : (Op.bytesLess a2.toList a3_3.toList) = false := by simpa using c87
       clear c87
       obtain rfl := Option.some.inj H
       have hcz91_0 : wc.cell? ⟨gb253, 0, none⟩ = some (.int .i64 a3_0) := (blk_cell BK253.out 0).trans rfl
       have hcz91_1 : wc.cell? ⟨gb253, 1, none⟩ = some (.string a3_1) := (blk_cell BK253.out 1).trans rfl
       have hcz91_2 : wc.cell? ⟨gb253, 2, none⟩ = some (.string a3_2) := (blk_cell BK253.out 2).trans rfl
       have hcz91_3 : wc.cell? ⟨gb253, 3, none⟩ = some (.string a3_3) := (blk_cell BK253.out 3).trans rfl
       have hcz91_4 : wc.cell? ⟨gb253, 4, none⟩ = some (.string a3_4) := (blk_cell BK253.out 4).trans rfl
       have hcz91_5 : wc.cell? ⟨gb253, 5, none⟩ = some (.slice A3_5 l3_5.length c3_5) := (blk_cell BK253.out 5).trans rfl
       have hcz91_6 : wc.cell? ⟨gb253, 6, none⟩ = some (.slice A3_6 l3_6.length c3_6) := (blk_cell BK253.out 6).trans rfl
       have hfz91_0 := blk_frozen BK253.out 0
       have hfz91_1 := blk_frozen BK253.out 1
       have hfz91_2 := blk_frozen BK253.out 2
       have hfz91_3 := blk_frozen BK253.out 3
       have hfz91_4 := blk_frozen BK253.out 4
       have hfz91_5 := blk_frozen BK253.out 5
       have hfz91_6 := blk_frozen BK253.out 6
       go_wp2
       go_ret
       exact ⟨by first | rfl | (simp [errW_none, errW_some] <;> rfl) | (simp [*, errW_none, errW_some] <;> rfl), m30_⟩
      rw [if_pos c87] at H
      have c87b0 : (Op.bytesLess a2.toList a3_3.toList) = true := c87
      clear c87
      replace H := Option.bind_eq_some_iff.mp H
      obtain ⟨t259, A880, H⟩ := H
      replace H : (some false) = some r := H
      have A88 := Aside0.mk A880
      clear A880
      obtain rfl := Option.some.inj H
      have hcz89_0 : wc.cell? ⟨gb253, 0, none⟩ = some (.int .i64 a3_0) := (blk_cell BK253.out 0).trans rfl
      have hcz89_1 : wc.cell? ⟨gb253, 1, none⟩ = some (.string a3_1) := (blk_cell BK253.out 1).trans rfl
      have hcz89_2 : wc.cell? ⟨gb253, 2, none⟩ = some (.string a3_2) := (blk_cell BK253.out 2).trans rfl
      have hcz89_3 : wc.cell? ⟨gb253, 3, none⟩ = some (.string a3_3) := (blk_cell BK253.out 3).trans rfl
      have hcz89_4 : wc.cell? ⟨gb253, 4, none⟩ = some (.string a3_4) := (blk_cell BK253.out 4).trans rfl
      have hcz89_5 : wc.cell? ⟨gb253, 5, none⟩ = some (.slice A3_5 l3_5.length c3_5) := (blk_cell BK253.out 5).trans rfl
      have hcz89_6 : wc.cell? ⟨gb253, 6, none⟩ = some (.slice A3_6 l3_6.length c3_6) := (blk_cell BK253.out 6).trans rfl
      have hfz89_0 := blk_frozen BK253.out 0
      have hfz89_1 := blk_frozen BK253.out 1
      have hfz89_2 := blk_frozen BK253.out 2
      have hfz89_3 := blk_frozen BK253.out 3
      have hfz89_4 := blk_frozen BK253.out 4
      have hfz89_5 := blk_frozen BK253.out 5
      have hfz89_6 := blk_frozen BK253.out 6
      go_wp2_with (first | (go_at_call 24; (with_reducible refine (strongroomref20_Verify.calls kj24 a0 a1 a3_0 a3_3 a3_4 _ _ l3_6 t259 _ ?side1 ?side2 A88.out).mono ?_); (case side1 => exact m21_); (case side2 => exact HC3_6.out); rintro e w90 ⟨rfl, hb⟩; have n0_ := Aside0.mk (blk_below (g := gb253) (o := .cells #[.int .i64 a3_0, .string a3_1, .string a3_2, .string a3_3, .string a3_4, .slice A3_5 l3_5.length c3_5, .slice A3_6 l3_6.length c3_6] 53 (0, 0)) m10_ hb); have n1_ := Aside0.mk (below_step m0_ hb); clear BK253; clear HB; have BK253 := n0_; have HB := n1_; clear n0_ n1_; (try clear hb); (try clear hb2); (try clear hk); (try clear hi)))
      go_ret
      exact ⟨by first | rfl | (simp [errW_none, errW_some] <;> rfl) | (simp [*, errW_none, errW_some] <;> rfl), m30_⟩
     rw [if_neg c85] at H
     have c85b0 : (a3_3.toList == ([] : List UInt8) && (a3_4.toList == ([] : List UInt8))) = false := by simpa using c85
     (try (have c85b1 : decide (a3_3.toList = ([] : List UInt8) && (a3_4.toList == ([] : List UInt8))) = false := by simpa using c85))
     (try (have c85b2 : (a3_3.toList == ([] : List UInt8) && (a3_4.toList == ([] : List UInt8))) = false := by simpa using c85))
     have c85b4 : (a3_3.toList.isEmpty && a3_4.toList.isEmpty) = false := (fun {x_ y_ : List UInt8} {v_ : Bool} (h_ : (x_ == ([] : List UInt8) && (y_ == ([] : List UInt8))) = v_) => (show (x_.isEmpty && y_.isEmpty) = v_ by cases x_ <;> cases y_ <;> first | exact h_ | simpa using h_)) c85b2
     (try (have c85b3 : ¬ (a3_3.toList = ([] : List UInt8) && (a3_4.toList == ([] : List UInt8))) := by simpa using c85))
     clear c85
     by_cases c93 : a3_0 < a1
     case neg =>
      rw [if_neg c93] at H
      have c93b0 : decide (a3_0 < a1) = false := decide_eq_false c93
      clear c93
      obtain rfl := Option.some.inj H
      have hcz99_0 : wc.cell? ⟨gb253, 0, none⟩ = some (.int .i64 a3_0) := (blk_cell BK253.out 0).trans rfl
      have hcz99_1 : wc.cell? ⟨gb253, 1, none⟩ = some (.string a3_1) := (blk_cell BK253.out 1).trans rfl
      have hcz99_2 : wc.cell? ⟨gb253, 2, none⟩ = some (.string a3_2) := (blk_cell BK253.out 2).trans rfl
      have hcz99_3 : wc.cell? ⟨gb253, 3, none⟩ = some (.string a3_3) := (blk_cell BK253.out 3).trans rfl
      have hcz99_4 : wc.cell? ⟨gb253, 4, none⟩ = some (.string a3_4) := (blk_cell BK253.out 4).trans rfl
      have hcz99_5 : wc.cell? ⟨gb253, 5, none⟩ = some (.slice A3_5 l3_5.length c3_5) := (blk_cell BK253.out 5).trans rfl
      have hcz99_6 : wc.cell? ⟨gb253, 6, none⟩ = some (.slice A3_6 l3_6.length c3_6) := (blk_cell BK253.out 6).trans rfl
      have hfz99_0 := blk_frozen BK253.out 0
      have hfz99_1 := blk_frozen BK253.out 1
      have hfz99_2 := blk_frozen BK253.out 2
      have hfz99_3 := blk_frozen BK253.out 3
      have hfz99_4 := blk_frozen BK253.out 4
      have hfz99_5 := blk_frozen BK253.out 5
      have hfz99_6 := blk_frozen BK253.out 6
      go_wp2
      go_ret
      exact ⟨by first | rfl | (simp [errW_none, errW_some] <;> rfl) | (simp [*, errW_none, errW_some] <;> rfl), m30_⟩
     rw [if_pos c93] at H
     have c93b0 : decide (a3_0 < a1) = true := decide_eq_true c93
     clear c93
     by_cases c94 : (Op.bytesLess a2.toList a3_3.toList) = true
     case neg =>
      rw [if_neg c94] at H
      have c94b0 : (Op.bytesLess a2.toList a3_3.toList) = false := by simpa using c94
      clear c94
      obtain rfl := Option.some.inj H
      have hcz98_0 : wc.cell? ⟨gb253, 0, none⟩ = some (.int .i64 a3_0) := (blk_cell BK253.out 0).trans rfl
      have hcz98_1 : wc.cell? ⟨gb253, 1, none⟩ = some (.string a3_1) := (blk_cell BK253.out 1).trans rfl
      have hcz98_2 : wc.cell? ⟨gb253, 2, none⟩ = some (.string a3_2) := (blk_cell BK253.out 2).trans rfl
      have hcz98_3 : wc.cell? ⟨gb253, 3, none⟩ = some (.string a3_3) := (blk_cell BK253.out 3).trans rfl
      have hcz98_4 : wc.cell? ⟨gb253, 4, none⟩ = some (.string a3_4) := (blk_cell BK253.out 4).trans rfl
      have hcz98_5 : wc.cell? ⟨gb253, 5, none⟩ = some (.slice A3_5 l3_5.length c3_5) := (blk_cell BK253.out 5).trans rfl
      have hcz98_6 : wc.cell? ⟨gb253, 6, none⟩ = some (.slice A3_6 l3_6.length c3_6) := (blk_cell BK253.out 6).trans rfl
      have hfz98_0 := blk_frozen BK253.out 0
      have hfz98_1 := blk_frozen BK253.out 1
      have hfz98_2 := blk_frozen BK253.out 2
      have hfz98_3 := blk_frozen BK253.out 3
      have hfz98_4 := blk_frozen BK253.out 4
      have hfz98_5 := blk_frozen BK253.out 5
      have hfz98_6 := blk_frozen BK253.out 6
      go_wp2
      go_ret
      exact ⟨by first | rfl | (simp [errW_none, errW_some] <;> rfl) | (simp [*, errW_none, errW_some] <;> rfl), m30_⟩
     rw [if_pos c94] at H
     have c94b0 : (Op.bytesLess a2.toList a3_3.toList) = true := c94
     clear c94
     replace H := Option.bind_eq_some_iff.mp H
     obtain ⟨t260, A950, H⟩ := H
     replace H : (some false) = some r := H
     have A95 := Aside0.mk A950
     clear A950
     obtain rfl := Option.some.inj H
     have hcz96_0 : wc.cell? ⟨gb253, 0, none⟩ = some (.int .i64 a3_0) := (blk_cell BK253.out 0).trans rfl
     have hcz96_1 : wc.cell? ⟨gb253, 1, none⟩ = some (.string a3_1) := (blk_cell BK253.out 1).trans rfl
     have hcz96_2 : wc.cell? ⟨gb253, 2, none⟩ = some (.string a3_2) := (blk_cell BK253.out 2).trans rfl
     have hcz96_3 : wc.cell? ⟨gb253, 3, none⟩ = some (.string a3_3) := (blk_cell BK253.out 3).trans rfl
     have hcz96_4 : wc.cell? ⟨gb253, 4, none⟩ = some (.string a3_4) := (blk_cell BK253.out 4).trans rfl
     have hcz96_5 : wc.cell? ⟨gb253, 5, none⟩ = some (.slice A3_5 l3_5.length c3_5) := (blk_cell BK253.out 5).trans rfl
     have hcz96_6 : wc.cell? ⟨gb253, 6, none⟩ = some (.slice A3_6 l3_6.length c3_6) := (blk_cell BK253.out 6).trans rfl
     have hfz96_0 := blk_frozen BK253.out 0
     have hfz96_1 := blk_frozen BK253.out 1
     have hfz96_2 := blk_frozen BK253.out 2
     have hfz96_3 := blk_frozen BK253.out 3
     have hfz96_4 := blk_frozen BK253.out 4
     have hfz96_5 := blk_frozen BK253.out 5
     have hfz96_6 := blk_frozen BK253.out 6
     go_wp2_with (first | (go_at_call 24; (with_reducible refine (strongroomref20_Verify.calls kj24 a0 a1 a3_0 a3_3 a3_4 _ _ l3_6 t260 _ ?side1 ?side2 A95.out).mono ?_); (case side1 => exact m21_); (case side2 => exact HC3_6.out); rintro e w97 ⟨rfl, hb⟩; have n0_ := Aside0.mk (blk_below (g := gb253) (o := .cells #[.int .i64 a3_0, .string a3_1, .string a3_2, .string a3_3, .string a3_4, .slice A3_5 l3_5.length c3_5, .slice A3_6 l3_6.length c3_6] 53 (0, 0)) m10_ hb); have n1_ := Aside0.mk (below_step m0_ hb); clear BK253; clear HB; have BK253 := n0_; have HB := n1_; clear n0_ n1_; (try clear hb); (try clear hb2); (try clear hk); (try clear hi)))
     go_ret
     exact ⟨by first | rfl | (simp [errW_none, errW_some] <;> rfl) | (simp [*, errW_none, errW_some] <;> rfl), m30_⟩
    rw [if_pos c30] at H
    have c30b0 : (Op.bytesLess a3_1.toList a2.toList) = true := c30
    clear c30
    replace H := Option.bind_eq_some_iff.mp H
    obtain ⟨t256, A310, H⟩ := H
    replace H : (if (a3_3.toList == ([] : List UInt8) && (a3_4.toList == ([] : List UInt8))) = true then (if a3_0 < a1 then (if (Op.bytesLess a2.toList a3_3.toList) = true then ((strongroomref20_Verify.f kj24 a0 a1 a3_0 a3_3 a3_4 l3_6).bind fun t257 => (if t256 = true then (some t257) else (some false))) else (if t256 = true then (some false) else (some false))) else (if t256 = true then (some ((l3_6.length : Int) == 0)) else (some false))) else (if a3_0 < a1 then (if (Op.bytesLess a2.toList a3_3.toList) = true then ((strongroomref20_Verify.f kj24 a0 a1 a3_0 a3_3 a3_4 l3_6).bind fun t258 => (if t256 = true then (some t258) else (some false))) else (if t256 = true then (some false) else (some false))) else (if t256 = true then (some false) else (some false)))) = some r := H
    have A31 := Aside0.mk A310
    clear A310
    by_cases c32 : (a3_3.toList == ([] : List UInt8) && (a3_4.toList == ([] : List UInt8))) = true
    ·rw [if_pos c32] at H
     have c32b0 : (a3_3.toList == ([] : List UInt8) && (a3_4.toList == ([] : List UInt8))) = true := c32
     (try (have c32b1 : decide (a3_3.toList = ([] : List UInt8) && (a3_4.toList == ([] : List UInt8))) = true := by simpa using c32))
     (try (have c32b2 : (a3_3.toList == ([] : List UInt8) && (a3_4.toList == ([] : List UInt8))) = true := by simpa using c32))
     have c32b4 : (a3_3.toList.isEmpty && a3_4.toList.isEmpty) = true := (fun {x_ y_ : List UInt8} {v_ : Bool} (h_ : (x_ == ([] : List UInt8) && (y_ == ([] : List UInt8))) = v_) => (show (x_.isEmpty && y_.isEmpty) = v_ by cases x_ <;> cases y_ <;> first | exact h_ | simpa using h_)) c32b2
     clear c32
     by_cases c33 : a3_0 < a1
     case neg =>
      rw [if_neg c33] at H
      have c33b0 : decide (a3_0 < a1) = false := decide_eq_false c33
      clear c33
      by_cases c52 : t256 = true
      ·subst c52
       have H1 : (some ((l3_6.length : Int) == 0)) = some r := by rw [if_pos rfl] at H; exact H
       clear H
       have H := H1
       clear H1
       obtain rfl := Option.some.inj H
       have hcz53_0 : wc.cell? ⟨gb253, 0, none⟩ = some (.int .i64 a3_0) := (blk_cell BK253.out 0).trans rfl
       have hcz53_1 : wc.cell? ⟨gb253, 1, none⟩ = some (.string a3_1) := (blk_cell BK253.out 1).trans rfl
       have hcz53_2 : wc.cell? ⟨gb253, 2, none⟩ = some (.string a3_2) := (blk_cell BK253.out 2).trans rfl
       have hcz53_3 : wc.cell? ⟨gb253, 3, none⟩ = some (.string a3_3) := (blk_cell BK253.out 3).trans rfl
       have hcz53_4 : wc.cell? ⟨gb253, 4, none⟩ = some (.string a3_4) := (blk_cell BK253.out 4).trans rfl
       have hcz53_5 : wc.cell? ⟨gb253, 5, none⟩ = some (.slice A3_5 l3_5.length c3_5) := (blk_cell BK253.out 5).trans rfl
       have hcz53_6 : wc.cell? ⟨gb253, 6, none⟩ = some (.slice A3_6 l3_6.length c3_6) := (blk_cell BK253.out 6).trans rfl
       have hfz53_0 := blk_frozen BK253.out 0
       have hfz53_1 := blk_frozen BK253.out 1
       have hfz53_2 := blk_frozen BK253.out 2
       have hfz53_3 := blk_frozen BK253.out 3
       have hfz53_4 := blk_frozen BK253.out 4
       have hfz53_5 := blk_frozen BK253.out 5
       have hfz53_6 := blk_frozen BK253.out 6
       go_wp2_with (first | (go_at_call 24; (with_reducible refine (strongroomref20_Verify.calls kj24 a0 a1 (wrap64 (a3_0 - 1)) a3_1 a3_2 _ _ l3_5 true _ ?side1 ?side2 A31.out).mono ?_); (case side1 => exact m20_); (case side2 => exact HC3_5.out); rintro e w54 ⟨rfl, hb⟩; have n0_ := Aside0.mk (blk_below (g := gb253) (o := .cells #[.int .i64 a3_0, .string a3_1, .string a3_2, .string a3_3, .string a3_4, .slice A3_5 l3_5.length c3_5, .slice A3_6 l3_6.length c3_6] 53 (0, 0)) m10_ hb); have n1_ := Aside0.mk (below_step m0_ hb); clear BK253; clear HB; have BK253 := n0_; have HB := n1_; clear n0_ n1_; (try clear hb); (try clear hb2); (try clear hk); (try clear hi); have hcz55_0 : w54.cell? ⟨gb253, 0, none⟩ = some (.int .i64 a3_0) := (blk_cell BK253.out 0).trans rfl; have hcz55_1 : w54.cell? ⟨gb253, 1, none⟩ = some (.string a3_1) := (blk_cell BK253.out 1).trans rfl; have hcz55_2 : w54.cell? ⟨gb253, 2, none⟩ = some (.string a3_2) := (blk_cell BK253.out 2).trans rfl; have hcz55_3 : w54.cell? ⟨gb253, 3, none⟩ = some (.string a3_3) := (blk_cell BK253.out 3).trans rfl; have hcz55_4 : w54.cell? ⟨gb253, 4, none⟩ = some (.string a3_4) := (blk_cell BK253.out 4).trans rfl; have hcz55_5 : w54.cell? ⟨gb253, 5, none⟩ = some (.slice A3_5 l3_5.length c3_5) := (blk_cell BK253.out 5).trans rfl; have hcz55_6 : w54.cell? ⟨gb253, 6, none⟩ = some (.slice A3_6 l3_6.length c3_6) := (blk_cell BK253.out 6).trans rfl; have hfz55_0 := blk_frozen BK253.out 0; have hfz55_1 := blk_frozen BK253.out 1; have hfz55_2 := blk_frozen BK253.out 2; have hfz55_3 := blk_frozen BK253.out 3; have hfz55_4 := blk_frozen BK253.out 4; have hfz55_5 := blk_frozen BK253.out 5; have hfz55_6 := blk_frozen BK253.out 6))
       go_ret
       exact ⟨by first | rfl | (simp [errW_none, errW_some] <;> rfl) | (simp [*, errW_none, errW_some] <;> rfl), m30_⟩
      replace c52 := Bool.eq_false_iff.mpr c52
      subst c52
      have H1 : (some false) = some r := by rw [if_neg (show ¬ (false = true) by decide)] at H; exact H
      clear H
      have H := H1
      clear H1
      obtain rfl := Option.some.inj H
      have hcz56_0 : wc.cell? ⟨gb253, 0, none⟩ = some (.int .i64 a3_0) := (blk_cell BK253.out 0).trans rfl
      have hcz56_1 : wc.cell? ⟨gb253, 1, none⟩ = some (.string a3_1) := (blk_cell BK253.out 1).trans rfl
      have hcz56_2 : wc.cell? ⟨gb253, 2, none⟩ = some (.string a3_2) := (blk_cell BK253.out 2).trans rfl
      have hcz56_3 : wc.cell? ⟨gb253, 3, none⟩ = some (.string a3_3) := (blk_cell BK253.out 3).trans rfl
      have hcz56_4 : wc.cell? ⟨gb253, 4, none⟩ = some (.string a3_4) := (blk_cell BK253.out 4).trans rfl
      have hcz56_5 : wc.cell? ⟨gb253, 5, none⟩ = some (.slice A3_5 l3_5.length c3_5) := (blk_cell BK253.out 5).trans rfl
      have hcz56_6 : wc.cell? ⟨gb253, 6, none⟩ = some (.slice A3_6 l3_6.length c3_6) := (blk_cell BK253.out 6).trans rfl
      have hfz56_0 := blk_frozen BK253.out 0
      have hfz56_1 := blk_frozen BK253.out 1
      have hfz56_2 := blk_frozen BK253.out 2
      have hfz56_3 := blk_frozen BK253.out 3
      have hfz56_4 := blk_frozen BK253.out 4
      have hfz56_5 := blk_frozen BK253.out 5
      have hfz56_6 := blk_frozen BK253.out 6
      go_wp2_with (first | (go_at_call 24; (with_reducible refine (strongroomref20_Verify.calls kj24 a0 a1 (wrap64 (a3_0 - 1)) a3_1 a3_2 _ _ l3_5 false _ ?side1 ?side2 A31.out).mono ?_); (case side1 => exact m20_); (case side2 => exact HC3_5.out); rintro e w57 ⟨rfl, hb⟩; have n0_ := Aside0.mk (blk_below (g := gb253) (o := .cells #[.int .i64 a3_0, .string a3_1, .string a3_2, .string a3_3, .string a3_4, .slice A3_5 l3_5.length c3_5, .slice A3_6 l3_6.length c3_6] 53 (0, 0)) m10_ hb); have n1_ := Aside0.mk (below_step m0_ hb); clear BK253; clear HB; have BK253 := n0_; have HB := n1_; clear n0_ n1_; (try clear hb); (try clear hb2); (try clear hk); (try clear hi); have hcz58_0 : w57.cell? ⟨gb253, 0, none⟩ = some (.int .i64 a3_0) := (blk_cell BK253.out 0).trans rfl; have hcz58_1 : w57.cell? ⟨gb253, 1, none⟩ = some (.string a3_1) := (blk_cell BK253.out 1).trans rfl; have hcz58_2 : w57.cell? ⟨gb253, 2, none⟩ = some (.string a3_2) := (blk_cell BK253.out 2).trans rfl; have hcz58_3 : w57.cell? ⟨gb253, 3, none⟩ = some (.string a3_3) := (blk_cell BK253.out 3).trans rfl; have hcz58_4 : w57.cell? ⟨gb253, 4, none⟩ = some (.string a3_4) := (blk_cell BK253.out 4).trans rfl; have hcz58_5 : w57.cell? ⟨gb253, 5, none⟩ = some (.slice A3_5 l3_5.length c3_5) := (blk_cell BK253.out 5).trans rfl; have hcz58_6 : w57.cell? ⟨gb253, 6, none⟩ = some (.slice A3_6 l3_6.length c3_6) := (blk_cell BK253.out 6).trans rfl; have hfz58_0 := blk_frozen BK253.out 0; have hfz58_1 := blk_frozen BK253.out 1; have hfz58_2 := blk_frozen BK253.out 2; have hfz58_3 := blk_frozen BK253.out 3; have hfz58_4 := blk_frozen BK253.out 4; have hfz58_5 := blk_frozen BK253.out 5; have hfz58_6 := blk_frozen BK253.out 6))
      go_ret
      exact ⟨by first | rfl | (simp [errW_none, errW_some] <;> rfl) | (simp [*, errW_none, errW_some] <;> rfl), m30_⟩
     rw [if_pos c33] at H
     have c33b0 : decide (a3_0 < a1) = true := decide_eq_true c33
     clear c33
     by_cases c34 : (Op.bytesLess a2.toList a3_3.toList) = true
     case neg =>
      rw [if_neg c34] at H
      have c34b0 : (Op.bytesLess a2.toList a3_3.toList) = false := by simpa using c34
      clear c34
      by_cases c45 : t256 = true
      ·subst c45
       have H1 : (some false) = some r := by rw [if_pos rfl] at H; exact H
       clear H
       have H := H1
       clear H1
       obtain rfl := Option.some.inj H
       have hcz46_0 : wc.cell? ⟨gb253, 0, none⟩ = some (.int .i64 a3_0) := (blk_cell BK253.out 0).trans rfl
       have hcz46_1 : wc.cell? ⟨gb253, 1, none⟩ = some (.string a3_1) := (blk_cell BK253.out 1).trans rfl
       have hcz46_2 : wc.cell? ⟨gb253, 2, none⟩ = some (.string a3_2) := (blk_cell BK253.out 2).trans rfl
       have hcz46_3 : wc.cell? ⟨gb253, 3, none⟩ = some (.string a3_3) := (blk_cell BK253.out 3).trans rfl
       have hcz46_4 : wc.cell? ⟨gb253, 4, none⟩ = some (.string a3_4) := (blk_cell BK253.out 4).trans rfl
       have hcz46_5 : wc.cell? ⟨gb253, 5, none⟩ = some (.slice A3_5 l3_5.length c3_5) := (blk_cell BK253.out 5).trans rfl
       have hcz46_6 : wc.cell? ⟨gb253, 6, none⟩ = some (.slice A3_6 l3_6.length c3_6) := (blk_cell BK253.out 6).trans rfl
       have hfz46_0 := blk_frozen BK253.out 0
       have hfz46_1 := blk_frozen BK253.out 1
       have hfz46_2 := blk_frozen BK253.out 2
       have hfz46_3 := blk_frozen BK253.out 3
       have hfz46_4 := blk_frozen BK253.out 4
       have hfz46_5 := blk_frozen BK253.out 5
       have hfz46_6 := blk_frozen BK253.out 6
       go_wp2_with (first | (go_at_call 24; (with_reducible refine (strongroomref20_Verify.calls kj24 a0 a1 (wrap64 (a3_0 - 1)) a3_1 a3_2 _ _ l3_5 true _ ?side1 ?side2 A31.out).mono ?_); (case side1 => exact m20_); (case side2 => exact HC3_5.out); rintro e w47 ⟨rfl, hb⟩; have n0_ := Aside0.mk (blk_below (g := gb253) (o := .cells #[.int .i64 a3_0, .string a3_1, .string a3_2, .string a3_3, .string a3_4, .slice A3_5 l3_5.length c3_5, .slice A3_6 l3_6.length c3_6] 53 (0, 0)) m10_ hb); have n1_ := Aside0.mk (below_step m0_ hb); clear BK253; clear HB; have BK253 := n0_; have HB := n1_; clear n0_ n1_; (try clear hb); (try clear hb2); (try clear hk); (try clear hi); have hcz48_0 : w47.cell? ⟨gb253, 0, none⟩ = some (.int .i64 a3_0) := (blk_cell BK253.out 0).trans rfl; have hcz48_1 : w47.cell? ⟨gb253, 1, none⟩ = some (.string a3_1) := (blk_cell BK253.out 1).trans rfl; have hcz48_2 : w47.cell? ⟨gb253, 2, none⟩ = some (.string a3_2) := (blk_cell BK253.out 2).trans rfl; have hcz48_3 : w47.cell? ⟨gb253, 3, none⟩ = some (.string a3_3) := (blk_cell BK253.out 3).trans rfl; have hcz48_4 : w47.cell? ⟨gb253, 4, none⟩ = some (.string a3_4) := (blk_cell BK253.out 4).trans rfl; have hcz48_5 : w47.cell? ⟨gb253, 5, none⟩ = some (.slice A3_5 l3_5.length c3_5) := (blk_cell BK253.out 5).trans rfl; have hcz48_6 : w47.cell? ⟨gb253, 6, none⟩ = some (.slice A3_6 l3_6.length c3_6) := (blk_cell BK253.out 6).trans rfl; have hfz48_0 := blk_frozen BK253.out 0; have hfz48_1 := blk_frozen BK253.out 1; have hfz48_2 := blk_frozen BK253.out 2; have hfz48_3 := blk_frozen BK253.out 3; have hfz48_4 := blk_frozen BK253.out 4; have hfz48_5 := blk_frozen BK253.out 5; have hfz48_6 := blk_frozen BK253.out 6))
       go_ret
       exact ⟨by first | rfl | (simp [errW_none, errW_some] <;> rfl) | (simp [*, errW_none, errW_some] <;> rfl), m30_⟩
      replace c45 := Bool.eq_false_iff.mpr c45
      subst c45
      have H1 : (some false) = some r := by rw [if_neg (show ¬ (false = true) by decide)] at H; exact H
      clear H
      have H := H1
      clear H1
      obtain rfl := Option.some.inj H
      have hcz49_0 : wc.cell? ⟨gb253, 0, none⟩ = some (.int .i64 a3_0) := (blk_cell BK253.out 0).trans rfl
      have hcz49_1 : wc.cell? ⟨gb253, 1, none⟩ = some (.string a3_1) := (blk_cell BK253.out 1).trans rfl
      have hcz49_2 : wc.cell? ⟨gb253, 2, none⟩ = some (.string a3_2) := (blk_cell BK253.out 2).trans rfl
      have hcz49_3 : wc.cell? ⟨gb253, 3, none⟩ = some (.string a3_3) := (blk_cell BK253.out 3).trans rfl
      have hcz49_4 : wc.cell? ⟨gb253, 4, none⟩ = some (.string a3_4) := (blk_cell BK253.out 4).trans rfl
      have hcz49_5 : wc.cell? ⟨gb253, 5, none⟩ = some (.slice A3_5 l3_5.length c3_5) := (blk_cell BK253.out 5).trans rfl
      have hcz49_6 : wc.cell? ⟨gb253, 6, none⟩ = some (.slice A3_6 l3_6.length c3_6) := (blk_cell BK253.out 6).trans rfl
      have hfz49_0 := blk_frozen BK253.out 0
      have hfz49_1 := blk_frozen BK253.out 1
      have hfz49_2 := blk_frozen BK253.out 2
      have hfz49_3 := blk_frozen BK253.out 3
      have hfz49_4 := blk_frozen BK253.out 4
      have hfz49_5 := blk_frozen BK253.out 5
      have hfz49_6 := blk_frozen BK253.out 6
      go_wp2_with (first | (go_at_call 24; (with_reducible refine (strongroomref20_Verify.calls kj24 a0 a1 (wrap64 (a3_0 - 1)) a3_1 a3_2 _ _ l3_5 false _ ?side1 ?side2 A31.out).mono ?_); (case side1 => exact m20_); (case side2 => exact HC3_5.out); rintro e w50 ⟨rfl, hb⟩; have n0_ := Aside0.mk (blk_below (g := gb253) (o := .cells #[.int .i64 a3_0, .string a3_1, .string a3_2, .string a3_3, .string a3_4, .slice A3_5 l3_5.length c3_5, .slice A3_6 l3_6.length c3_6] 53 (0, 0)) m10_ hb); have n1_ := Aside0.mk (below_step m0_ hb); clear BK253; clear HB; have BK253 := n0_; have HB := n1_; clear n0_ n1_; (try clear hb); (try clear hb2); (try clear hk); (try clear hi); have hcz51_0 : w50.cell? ⟨gb253, 0, none⟩ = some (.int .i64 a3_0) := (blk_cell BK253.out 0).trans rfl; have hcz51_1 : w50.cell? ⟨gb253, 1, none⟩ = some (.string a3_1) := (blk_cell BK253.out 1).trans rfl; have hcz51_2 : w50.cell? ⟨gb253, 2, none⟩ = some (.string a3_2) := (blk_cell BK253.out 2).trans rfl; have hcz51_3 : w50.cell? ⟨gb253, 3, none⟩ = some (.string a3_3) := (blk_cell BK253.out 3).trans rfl; have hcz51_4 : w50.cell? ⟨gb253, 4, none⟩ = some (.string a3_4) := (blk_cell BK253.out 4).trans rfl; have hcz51_5 : w50.cell? ⟨gb253, 5, none⟩ = some (.slice A3_5 l3_5.length c3_5) := (blk_cell BK253.out 5).trans rfl; have hcz51_6 : w50.cell? ⟨gb253, 6, none⟩ = some (.slice A3_6 l3_6.length c3_6) := (blk_cell BK253.out 6).trans rfl; have hfz51_0 := blk_frozen BK253.out 0; have hfz51_1 := blk_frozen BK253.out 1; have hfz51_2 := blk_frozen BK253.out 2; have hfz51_3 := blk_frozen BK253.out 3; have hfz51_4 := blk_frozen BK253.out 4; have hfz51_5 := blk_frozen BK253.out 5; have hfz51_6 := blk_frozen BK253.out 6))
      go_ret
      exact ⟨by first | rfl | (simp [errW_none, errW_some] <;> rfl) | (simp [*, errW_none, errW_some] <;> rfl), m30_⟩
     rw [if_pos c34] at H
     have c34b0 : (Op.bytesLess a2.toList a3_3.toList) = true := c34
     clear c34
     replace H := Option.bind_eq_some_iff.mp H
     obtain ⟨t257, A350, H⟩ := H
     replace H : (if t256 = true then (some t257) else (some false)) = some r := H
     have A35 := Aside0.mk A350
     clear A350
     by_cases c36 : t256 = true
     ·subst c36
      have H1 : (some t257) = some r := by rw [if_pos rfl] at H; exact H
      clear H
      have H := H1
      clear H1
      obtain rfl := Option.some.inj H
      have hcz37_0 : wc.cell? ⟨gb253, 0, none⟩ = some (.int .i64 a3_0) := (blk_cell BK253.out 0).trans rfl
      have hcz37_1 : wc.cell? ⟨gb253, 1, none⟩ = some (.string a3_1) := (blk_cell BK253.out 1).trans rfl
      have hcz37_2 : wc.cell? ⟨gb253, 2, none⟩ = some (.string a3_2) := (blk_cell BK253.out 2).trans rfl
      have hcz37_3 : wc.cell? ⟨gb253, 3, none⟩ = some (.string a3_3) := (blk_cell BK253.out 3).trans rfl
      have hcz37_4 : wc.cell? ⟨gb253, 4, none⟩ = some (.string a3_4) := (blk_cell BK253.out 4).trans rfl
      have hcz37_5 : wc.cell? ⟨gb253, 5, none⟩ = some (.slice A3_5 l3_5.length c3_5) := (blk_cell BK253.out 5).trans rfl
      have hcz37_6 : wc.cell? ⟨gb253, 6, none⟩ = some (.slice A3_6 l3_6.length c3_6) := (blk_cell BK253.out 6).trans rfl
      have hfz37_0 := blk_frozen BK253.out 0
      have hfz37_1 := blk_frozen BK253.out 1
      have hfz37_2 := blk_frozen BK253.out 2
      have hfz37_3 := blk_frozen BK253.out 3
      have hfz37_4 := blk_frozen BK253.out 4
      have hfz37_5 := blk_frozen BK253.out 5
      have hfz37_6 := blk_frozen BK253.out 6
      go_wp2_with (first | (go_at_call 24; (with_reducible refine (strongroomref20_Verify.calls kj24 a0 a1 (wrap64 (a3_0 - 1)) a3_1 a3_2 _ _ l3_5 true _ ?side1 ?side2 A31.out).mono ?_); (case side1 => exact m20_); (case side2 => exact HC3_5.out); rintro e w38 ⟨rfl, hb⟩; have n0_ := Aside0.mk (blk_below (g := gb253) (o := .cells #[.int .i64 a3_0, .string a3_1, .string a3_2, .string a3_3, .string a3_4, .slice A3_5 l3_5.length c3_5, .slice A3_6 l3_6.length c3_6] 53 (0, 0)) m10_ hb); have n1_ := Aside0.mk (below_step m0_ hb); clear BK253; clear HB; have BK253 := n0_; have HB := n1_; clear n0_ n1_; (try clear hb); (try clear hb2); (try clear hk); (try clear hi); have hcz39_0 : w38.cell? ⟨gb253, 0, none⟩ = some (.int .i64 a3_0) := (blk_cell BK253.out 0).trans rfl; have hcz39_1 : w38.cell? ⟨gb253, 1, none⟩ = some (.string a3_1) := (blk_cell BK253.out 1).trans rfl; have hcz39_2 : w38.cell? ⟨gb253, 2, none⟩ = some (.string a3_2) := (blk_cell BK253.out 2).trans rfl; have hcz39_3 : w38.cell? ⟨gb253, 3, none⟩ = some (.string a3_3) := (blk_cell BK253.out 3).trans rfl; have hcz39_4 : w38.cell? ⟨gb253, 4, none⟩ = some (.string a3_4) := (blk_cell BK253.out 4).trans rfl; have hcz39_5 : w38.cell? ⟨gb253, 5, none⟩ = some (.slice A3_5 l3_5.length c3_5) := (blk_cell BK253.out 5).trans rfl; have hcz39_6 : w38.cell? ⟨gb253, 6, none⟩ = some (.slice A3_6 l3_6.length c3_6) := (blk_cell BK253.out 6).trans rfl; have hfz39_0 := blk_frozen BK253.out 0; have hfz39_1 := blk_frozen BK253.out 1; have hfz39_2 := blk_frozen BK253.out 2; have hfz39_3 := blk_frozen BK253.out 3; have hfz39_4 := blk_frozen BK253.out 4; have hfz39_5 := blk_frozen BK253.out 5; have hfz39_6 := blk_frozen BK253.out 6) | (go_at_call 24; (with_reducible refine (strongroomref20_Verify.calls kj24 a0 a1 a3_0 a3_3 a3_4 _ _ l3_6 t257 _ ?side1 ?side2 A35.out).mono ?_); (case side1 => exact m21_); (case side2 => exact HC3_6.out); rintro e w40 ⟨rfl, hb⟩; have n0_ := Aside0.mk (blk_below (g := gb253) (o := .cells #[.int .i64 a3_0, .string a3_1, .string a3_2, .string a3_3, .string a3_4, .slice A3_5 l3_5.length c3_5, .slice A3_6 l3_6.length c3_6] 53 (0, 0)) m10_ hb); have n1_ := Aside0.mk (below_step m0_ hb); clear BK253; clear HB; have BK253 := n0_; have HB := n1_; clear n0_ n1_; (try clear hb); (try clear hb2); (try clear hk); (try clear hi)))
      go_ret
      exact ⟨by first | rfl | (simp [errW_none, errW_some] <;> rfl) | (simp [*, errW_none, errW_some] <;> rfl), m30_⟩
     replace c36 := Bool.eq_false_iff.mpr c36
     subst c36
     have H1 : (some false) = some r := by rw [if_neg (show ¬ (false = true) by decide)] at H; exact H
     clear H
     have H := H1
     clear H1
     obtain rfl := Option.some.inj H
     have hcz41_0 : wc.cell? ⟨gb253, 0, none⟩ = some (.int .i64 a3_0) := (blk_cell BK253.out 0).trans rfl
     have hcz41_1 : wc.cell? ⟨gb253, 1, none⟩ = some (.string a3_1) := (blk_cell BK253.out 1).trans rfl
     have hcz41_2 : wc.cell? ⟨gb253, 2, none⟩ = some (.string a3_2) := (blk_cell BK253.out 2).trans rfl
     have hcz41_3 : wc.cell? ⟨gb253, 3, none⟩ = some (.string a3_3) := (blk_cell BK253.out 3).trans rfl
     have hcz41_4 : wc.cell? ⟨gb253, 4, none⟩ = some (.string a3_4) := (blk_cell BK253.out 4).trans rfl
     have hcz41_5 : wc.cell? ⟨gb253, 5, none⟩ = some (.slice A3_5 l3_5.length c3_5) := (blk_cell BK253.out 5).trans rfl
     have hcz41_6 : wc.cell? ⟨gb253, 6, none⟩ = some (.slice A3_6 l3_6.length c3_6) := (blk_cell BK253.out 6).trans rfl
     have hfz41_0 := blk_frozen BK253.out 0
     have hfz41_1 := blk_frozen BK253.out 1
     have hfz41_2 := blk_frozen BK253.out 2
     have hfz41_3 := blk_frozen BK253.out 3
     have hfz41_4 := blk_frozen BK253.out 4
     have hfz41_5 := blk_frozen BK253.out 5
     have hfz41_6 := blk_frozen BK253.out 6
     go_wp2_with (first | (go_at_call 24; (with_reducible refine (strongroomref20_Verify.calls kj24 a0 a1 (wrap64 (a3_0 - 1)) a3_1 a3_2 _ _ l3_5 false _ ?side1 ?side2 A31.out).mono ?_); (case side1 => exact m20_); (case side2 => exact HC3_5.out); rintro e w42 ⟨rfl, hb⟩; have n0_ := Aside0.mk (blk_below (g := gb253) (o := .cells #[.int .i64 a3_0, .string a3_1, .string a3_2, .string a3_3, .string a3_4, .slice A3_5 l3_5.length c3_5, .slice A3_6 l3_6.length c3_6] 53 (0, 0)) m10_ hb); have n1_ := Aside0.mk (below_step m0_ hb); clear BK253; clear HB; have BK253 := n0_; have HB := n1_; clear n0_ n1_; (try clear hb); (try clear hb2); (try clear hk); (try clear hi); have hcz43_0 : w42.cell? ⟨gb253, 0, none⟩ = some (.int .i64 a3_0) := (blk_cell BK253.out 0).trans rfl; have hcz43_1 : w42.cell? ⟨gb253, 1, none⟩ = some (.string a3_1) := (blk_cell BK253.out 1).trans rfl; have hcz43_2 : w42.cell? ⟨gb253, 2, none⟩ = some (.string a3_2) := (blk_cell BK253.out 2).trans rfl; have hcz43_3 : w42.cell? ⟨gb253, 3, none⟩ = some (.string a3_3) := (blk_cell BK253.out 3).trans rfl; have hcz43_4 : w42.cell? ⟨gb253, 4, none⟩ = some (.string a3_4) := (blk_cell BK253.out 4).trans rfl; have hcz43_5 : w42.cell? ⟨gb253, 5, none⟩ = some (.slice A3_5 l3_5.length c3_5) := (blk_cell BK253.out 5).trans rfl; have hcz43_6 : w42.cell? ⟨gb253, 6, none⟩ = some (.slice A3_6 l3_6.length c3_6) := (blk_cell BK253.out 6).trans rfl; have hfz43_0 := blk_frozen BK253.out 0; have hfz43_1 := blk_frozen BK253.out 1; have hfz43_2 := blk_frozen BK253.out 2; have hfz43_3 := blk_frozen BK253.out 3; have hfz43_4 := blk_frozen BK253.out 4; have hfz43_5 := blk_frozen BK253.out 5; have hfz43_6 := blk_frozen BK253.out 6) | (go_at_call 24; (with_reducible refine (strongroomref20_Verify.calls kj24 a0 a1 a3_0 a3_3 a3_4 _ _ l3_6 t257 _ ?side1 ?side2 A35.out).mono ?_); (case side1 => exact m21_); (case side2 => exact HC3_6.out); rintro e w44 ⟨rfl, hb⟩; have n0_ := Aside0.mk (blk_below (g := gb253) (o := .cells #[.int .i64 a3_0, .string a3_1, .string a3_2, .string a3_3, .string a3_4, .slice A3_5 l3_5.length c3_5, .slice A3_6 l3_6.length c3_6] 53 (0, 0)) m10_ hb); have n1_ := Aside0.mk (below_step m0_ hb); clear BK253; clear HB; have BK253 := n0_; have HB := n1_; clear n0_ n1_; (try clear hb); (try clear hb2); (try clear hk); (try clear hi)))
     go_ret
     exact ⟨by first | rfl | (simp [errW_none, errW_some] <;> rfl) | (simp [*, errW_none, errW_some] <;> rfl), m30_⟩
    rw [if_neg c32] at H
    have c32b0 : (a3_3.toList == ([] : List UInt8) && (a3_4.toList == ([] : List UInt8))) = false := by simpa using c32
    (try (have c32b1 : decide (a3_3.toList = ([] : List UInt8) && (a3_4.toList == ([] : List UInt8))) = false := by simpa using c32))
    (try (have c32b2 : (a3_3.toList == ([] : List UInt8) && (a3_4.toList == ([] : List UInt8))) = false := by simpa using c32))
    have c32b4 : (a3_3.toList.isEmpty && a3_4.toList.isEmpty) = false := (fun {x_ y_ : List UInt8} {v_ : Bool} (h_ : (x_ == ([] : List UInt8) && (y_ == ([] : List UInt8))) = v_) => (show (x_.isEmpty && y_.isEmpty) = v_ by cases x_ <;> cases y_ <;> first | exact h_ | simpa using h_)) c32b2
    (try (have c32b3 : ¬ (a3_3.toList = ([] : List UInt8) && (a3_4.toList == ([] : List UInt8))) := by simpa using c32))
    clear c32
    by_cases c59 : a3_0 < a1
    case neg =>
     rw [if_neg c59] at H
     have c59b0 : decide (a3_0 < a1) = false := decide_eq_false c59
     clear c59
     by_cases c78 : t256 = true
     ·subst c78
      have H1 : (some false) = some r := by rw [if_pos rfl] at H; exact H
      clear H
      have H := H1
      clear H1
      obtain rfl := Option.some.inj H
      have hcz79_0 : wc.cell? ⟨gb253, 0, none⟩ = some (.int .i64 a3_0) := (blk_cell BK253.out 0).trans rfl
      have hcz79_1 : wc.cell? ⟨gb253, 1, none⟩ = some (.string a3_1) := (blk_cell BK253.out 1).trans rfl
      have hcz79_2 : wc.cell? ⟨gb253, 2, none⟩ = some (.string a3_2) := (blk_cell BK253.out 2).trans rfl
      have hcz79_3 : wc.cell? ⟨gb253, 3, none⟩ = some (.string a3_3) := (blk_cell BK253.out 3).trans rfl
      have hcz79_4 : wc.cell? ⟨gb253, 4, none⟩ = some (.string a3_4) := (blk_cell BK253.out 4).trans rfl
      have hcz79_5 : wc.cell? ⟨gb253, 5, none⟩ = some (.slice A3_5 l3_5.length c3_5) := (blk_cell BK253.out 5).trans rfl
      have hcz79_6 : wc.cell? ⟨gb253, 6, none⟩ = some (.slice A3_6 l3_6.length c3_6) := (blk_cell BK253.out 6).trans rfl
      have hfz79_0 := blk_frozen BK253.out 0
      have hfz79_1 := blk_frozen BK253.out 1
      have hfz79_2 := blk_frozen BK253.out 2
      have hfz79_3 := blk_frozen BK253.out 3
      have hfz79_4 := blk_frozen BK253.out 4
      have hfz79_5 := blk_frozen BK253.out 5
      have hfz79_6 := blk_frozen BK253.out 6
      go_wp2_with (first | (go_at_call 24; (with_reducible refine (strongroomref20_Verify.calls kj24 a0 a1 (wrap64 (a3_0 - 1)) a3_1 a3_2 _ _ l3_5 true _ ?side1 ?side2 A31.out).mono ?_); (case side1 => exact m20_); (case side2 => exact HC3_5.out); rintro e w80 ⟨rfl, hb⟩; have n0_ := Aside0.mk (blk_below (g := gb253) (o := .cells #[.int .i64 a3_0, .string a3_1, .string a3_2, .string a3_3, .string a3_4, .slice A3_5 l3_5.length c3_5, .slice A3_6 l3_6.length c3_6] 53 (0, 0)) m10_ hb); have n1_ := Aside0.mk (below_step m0_ hb); clear BK253; clear HB; have BK253 := n0_; have HB := n1_; clear n0_ n1_; (try clear hb); (try clear hb2); (try clear hk); (try clear hi); have hcz81_0 : w80.cell? ⟨gb253, 0, none⟩ = some (.int .i64 a3_0) := (blk_cell BK253.out 0).trans rfl; have hcz81_1 : w80.cell? ⟨gb253, 1, none⟩ = some (.string a3_1) := (blk_cell BK253.out 1).trans rfl; have hcz81_2 : w80.cell? ⟨gb253, 2, none⟩ = some (.string a3_2) := (blk_cell BK253.out 2).trans rfl; have hcz81_3 : w80.cell? ⟨gb253, 3, none⟩ = some (.string a3_3) := (blk_cell BK253.out 3).trans rfl; have hcz81_4 : w80.cell? ⟨gb253, 4, none⟩ = some (.string a3_4) := (blk_cell BK253.out 4).trans rfl; have hcz81_5 : w80.cell? ⟨gb253, 5, none⟩ = some (.slice A3_5 l3_5.length c3_5) := (blk_cell BK253.out 5).trans rfl; have hcz81_6 : w80.cell? ⟨gb253, 6, none⟩ = some (.slice A3_6 l3_6.length c3_6) := (blk_cell BK253.out 6).trans rfl; have hfz81_0 := blk_frozen BK253.out 0; have hfz81_1 := blk_frozen BK253.out 1; have hfz81_2 := blk_frozen BK253.out 2; have hfz81_3 := blk_frozen BK253.out 3; have hfz81_4 := blk_frozen BK253.out 4; have hfz81_5 := blk_frozen BK253.out 5; have hfz81_6 := blk_frozen BK253.out 6))
      go_ret
      exact ⟨by first | rfl | (simp [errW_none, errW_some] <;> rfl) | (simp [*, errW_none, errW_some] <;> rfl), m30_⟩
     replace c78 := Bool.eq_false_iff.mpr c78
     subst c78
     have H1 : (some false) = some r := by rw [if_neg (show ¬ (false = true) by decide)] at H; exact H
     clear H
     have H := H1
     clear H1
     obtain rfl := Option.some.inj H
     have hcz82_0 : wc.cell? ⟨gb253, 0, none⟩ = some (.int .i64 a3_0) := (blk_cell BK253.out 0).trans rfl
     have hcz82_1 : wc.cell? ⟨gb253, 1, none⟩ = some (.string a3_1) := (blk_cell BK253.out 1).trans rfl
     have hcz82_2 : wc.cell? ⟨gb253, 2, none⟩ = some (.string a3_2) := (blk_cell BK253.out 2).trans rfl
     have hcz82_3 : wc.cell? ⟨gb253, 3, none⟩ = some (.string a3_3) := (blk_cell BK253.out 3).trans rfl
     have hcz82_4 : wc.cell? ⟨gb253, 4, none⟩ = some (.string a3_4) := (blk_cell BK253.out 4).trans rfl
     have hcz82_5 : wc.cell? ⟨gb253, 5, none⟩ = some (.slice A3_5 l3_5.length c3_5) := (blk_cell BK253.out 5).trans rfl
     have hcz82_6 : wc.cell? ⟨gb253, 6, none⟩ = some (.slice A3_6 l3_6.length c3_6) := (blk_cell BK253.out 6).trans rfl
     have hfz82_0 := blk_frozen BK253.out 0
     have hfz82_1 := blk_frozen BK253.out 1
     have hfz82_2 := blk_frozen BK253.out 2
     have hfz82_3 := blk_frozen BK253.out 3
     have hfz82_4 := blk_frozen BK253.out 4
     have hfz82_5 := blk_frozen BK253.out 5
     have hfz82_6 := blk_frozen BK253.out 6
     go_wp2_with (first | (go_at_call 24; (with_reducible refine (strongroomref20_Verify.calls kj24 a0 a1 (wrap64 (a3_0 - 1)) a3_1 a3_2 _ _ l3_5 false _ ?side1 ?side2 A31.out).mono ?_); (case side1 => exact m20_); (case side2 => exact HC3_5.out); rintro e w83 ⟨rfl, hb⟩; have n0_ := Aside0.mk (blk_below (g := gb253) (o := .cells #[.int .i64 a3_0, .string a3_1, .string a3_2, .string a3_3, .string a3_4, .slice A3_5 l3_5.length c3_5, .slice A3_6 l3_6.length c3_6] 53 (0, 0)) m10_ hb); have n1_ := Aside0.mk (below_step m0_ hb); clear BK253; clear HB; have BK253 := n0_; have HB := n1_; clear n0_ n1_; (try clear hb); (try clear hb2); (try clear hk); (try clear hi); have hcz84_0 : w83.cell? ⟨gb253, 0, none⟩ = some (.int .i64 a3_0) := (blk_cell BK253.out 0).trans rfl; have hcz84_1 : w83.cell? ⟨gb253, 1, none⟩ = some (.string a3_1) := (blk_cell BK253.out 1).trans rfl; have hcz84_2 : w83.cell? ⟨gb253, 2, none⟩ = some (.string a3_2) := (blk_cell BK253.out 2).trans rfl; have hcz84_3 : w83.cell? ⟨gb253, 3, none⟩ = some (.string a3_3) := (blk_cell BK253.out 3).trans rfl; have hcz84_4 : w83.cell? ⟨gb253, 4, none⟩ = some (.string a3_4) := (blk_cell BK253.out 4).trans rfl; have hcz84_5 : w83.cell? ⟨gb253, 5, none⟩ = some (.slice A3_5 l3_5.length c3_5) := (blk_cell BK253.out 5).trans rfl; have hcz84_6 : w83.cell? ⟨gb253, 6, none⟩ = some (.slice A3_6 l3_6.length c3_6) := (blk_cell BK253.out 6).trans rfl; have hfz84_0 := blk_frozen BK253.out 0; have hfz84_1 := blk_frozen BK253.out 1; have hfz84_2 := blk_frozen BK253.out 2; have hfz84_3 := blk_frozen BK253.out 3; have hfz84_4 := blk_frozen BK253.out 4; have hfz84_5 := blk_frozen BK253.out 5; have hfz84_6 := blk_frozen BK253.out 6))
     go_ret
     exact ⟨by first | rfl | (simp [errW_none, errW_some] <;> rfl) | (simp [*, errW_none, errW_some] <;> rfl), m30_⟩
    rw [if_pos c59] at H
    have c59b0 : decide (a3_0 < a1) = true := decide_eq_true c59
    clear c59
    by_cases c60 : (Op.bytesLess a2.toList a3_3.toList) = true
    case neg =>
     rw [if_neg c60] at H
     have c60b0 : (Op.bytesLess a2.toList a3_3.toList) = false := by simpa using c60
     clear c60
     by_cases c71 : t256 = true
     ·subst c71
      have H1 : (some false) = some r := by rw [if_pos rfl] at H; exact H
      clear H
      have H := H1
      clear H1
      obtain rfl := Option.some.inj H
      have hcz72_0 : wc.cell? ⟨gb253, 0, none⟩ = some (.int .i64 a3_0) := (blk_cell BK253.out 0).trans rfl
      have hcz72_1 : wc.cell? ⟨gb253, 1, none⟩ = some (.string a3_1) := (blk_cell BK253.out 1).trans rfl
      have hcz72_2 : wc.cell? ⟨gb253, 2, none⟩ = some (.string a3_2) := (blk_cell BK253.out 2).trans rfl
      have hcz72_3 : wc.cell? ⟨gb253, 3, none⟩ = some (.string a3_3) := (blk_cell BK253.out 3).trans rfl
      have hcz72_4 : wc.cell? ⟨gb253, 4, none⟩ = some (.string a3_4) := (blk_cell BK253.out 4).trans rfl
      have hcz72_5 : wc.cell? ⟨gb253, 5, none⟩ = some (.slice A3_5 l3_5.length c3_5) := (blk_cell BK253.out 5).trans rfl
      have hcz72_6 : wc.cell? ⟨gb253, 6, none⟩ = some (.slice A3_6 l3_6.length c3_6) := (blk_cell BK253.out 6).trans rfl
      have hfz72_0 := blk_frozen BK253.out 0
      have hfz72_1 := blk_frozen BK253.out 1
      have hfz72_2 := blk_frozen BK253.out 2
      have hfz72_3 := blk_frozen BK253.out 3
      have hfz72_4 := blk_frozen BK253.out 4
      have hfz72_5 := blk_frozen BK253.out 5
      have hfz72_6 := blk_frozen BK253.out 6
      go_wp2_with (first | (go_at_call 24; (with_reducible refine (strongroomref20_Verify.calls kj24 a0 a1 (wrap64 (a3_0 - 1)) a3_1 a3_2 _ _ l3_5 true _ ?side1 ?side2 A31.out).mono ?_); (case side1 => exact m20_); (case side2 => exact HC3_5.out); rintro e w73 ⟨rfl, hb⟩; have n0_ := Aside0.mk (blk_below (g := gb253) (o := .cells #[.int .i64 a3_0, .string a3_1, .string a3_2, .string a3_3, .string a3_4, .slice A3_5 l3_5.length c3_5, .slice A3_6 l3_6.length c3_6] 53 (0, 0)) m10_ hb); have n1_ := Aside0.mk (below_step m0_ hb); clear BK253; clear HB; have BK253 := n0_; have HB := n1_; clear n0_ n1_; (try clear hb); (try clear hb2); (try clear hk); (try clear hi); have hcz74_0 : w73.cell? ⟨gb253, 0, none⟩ = some (.int .i64 a3_0) := (blk_cell BK253.out 0).trans rfl; have hcz74_1 : w73.cell? ⟨gb253, 1, none⟩ = some (.string a3_1) := (blk_cell BK253.out 1).trans rfl; have hcz74_2 : w73.cell? ⟨gb253, 2, none⟩ = some (.string a3_2) := (blk_cell BK253.out 2).trans rfl; have hcz74_3 : w73.cell? ⟨gb253, 3, none⟩ = some (.string a3_3) := (blk_cell BK253.out 3).trans rfl; have hcz74_4 : w73.cell? ⟨gb253, 4, none⟩ = some (.string a3_4) := (blk_cell BK253.out 4).trans rfl; have hcz74_5 : w73.cell? ⟨gb253, 5, none⟩ = some (.slice A3_5 l3_5.length c3_5) := (blk_cell BK253.out 5).trans rfl; have hcz74_6 : w73.cell? ⟨gb253, 6, none⟩ = some (.slice A3_6 l3_6.length c3_6) := (blk_cell BK253.out 6).trans rfl; have hfz74_0 := blk_frozen BK253.out 0; have hfz74_1 := blk_frozen BK253.out 1; have hfz74_2 := blk_frozen BK253.out 2; have hfz74_3 := blk_frozen BK253.out 3; have hfz74_4 := blk_frozen BK253.out 4; have hfz74_5 := blk_frozen BK253.out 5; have hfz74_6 := blk_frozen BK253.out 6))
      go_ret
      exact ⟨by first | rfl | (simp [errW_none, errW_some] <;> rfl) | (simp [*, errW_none, errW_some] <;> rfl), m30_⟩
     replace c71 := Bool.eq_false_iff.mpr c71
     subst c71
     have H1 : (some false) = some r := by rw [if_neg (show ¬ (false = true) by decide)] at H; exact H
     clear H
     have H := H1
     clear H1
     obtain rfl := Option.some.inj H
     have hcz75_0 : wc.cell? ⟨gb253, 0, none⟩ = some (.int .i64 a3_0) := (blk_cell BK253.out 0).trans rfl
     have hcz75_1 : wc.cell? ⟨gb253, 1, none⟩ = some (.string a3_1) := (blk_cell BK253.out 1).trans rfl
     have hcz75_2 : wc.cell? ⟨gb253, 2, none⟩ = some (.string a3_2) := (blk_cell BK253.out 2).trans rfl
     have hcz75_3 : wc.cell? ⟨gb253, 3, none⟩ = some (.string a3_3) := (blk_cell BK253.out 3).trans rfl
     have hcz75_4 : wc.cell? ⟨gb253, 4, none⟩ = some (.string a3_4) := (blk_cell BK253.out 4).trans rfl
     have hcz75_5 : wc.cell? ⟨gb253, 5, none⟩ = some (.slice A3_5 l3_5.length c3_5) := (blk_cell BK253.out 5).trans rfl
     have hcz75_6 : wc.cell? ⟨gb253, 6, none⟩ = some (.slice A3_6 l3_6.length c3_6) := (blk_cell BK253.out 6).trans rfl
     have hfz75_0 := blk_frozen BK253.out 0
     have hfz75_1 := blk_frozen BK253.out 1
     have hfz75_2 := blk_frozen BK253.out 2
     have hfz75_3 := blk_frozen BK253.out 3
     have hfz75_4 := blk_frozen BK253.out 4
     have hfz75_5 := blk_frozen BK253.out 5
     have hfz75_6 := blk_frozen BK253.out 6
     go_wp2_with (first | (go_at_call 24; (with_reducible refine (strongroomref20_Verify.calls kj24 a0 a1 (wrap64 (a3_0 - 1)) a3_1 a3_2 _ _ l3_5 false _ ?side1 ?side2 A31.out).mono ?_); (case side1 => exact m20_); (case side2 => exact HC3_5.out); rintro e w76 ⟨rfl, hb⟩; have n0_ := Aside0.mk (blk_below (g := gb253) (o := .cells #[.int .i64 a3_0, .string a3_1, .string a3_2, .string a3_3, .string a3_4, .slice A3_5 l3_5.length c3_5, .slice A3_6 l3_6.length c3_6] 53 (0, 0)) m10_ hb); have n1_ := Aside0.mk (below_step m0_ hb); clear BK253; clear HB; have BK253 := n0_; have HB := n1_; clear n0_ n1_; (try clear hb); (try clear hb2); (try clear hk); (try clear hi); have hcz77_0 : w76.cell? ⟨gb253, 0, none⟩ = some (.int .i64 a3_0) := (blk_cell BK253.out 0).trans rfl; have hcz77_1 : w76.cell? ⟨gb253, 1, none⟩ = some (.string a3_1) := (blk_cell BK253.out 1).trans rfl; have hcz77_2 : w76.cell? ⟨gb253, 2, none⟩ = some (.string a3_2) := (blk_cell BK253.out 2).trans rfl; have hcz77_3 : w76.cell? ⟨gb253, 3, none⟩ = some (.string a3_3) := (blk_cell BK253.out 3).trans rfl; have hcz77_4 : w76.cell? ⟨gb253, 4, none⟩ = some (.string a3_4) := (blk_cell BK253.out 4).trans rfl; have hcz77_5 : w76.cell? ⟨gb253, 5, none⟩ = some (.slice A3_5 l3_5.length c3_5) := (blk_cell BK253.out 5).trans rfl; have hcz77_6 : w76.cell? ⟨gb253, 6, none⟩ = some (.slice A3_6 l3_6.length c3_6) := (blk_cell BK253.out 6).trans rfl; have hfz77_0 := blk_frozen BK253.out 0; have hfz77_1 := blk_frozen BK253.out 1; have hfz77_2 := blk_frozen BK253.out 2; have hfz77_3 := blk_frozen BK253.out 3; have hfz77_4 := blk_frozen BK253.out 4; have hfz77_5 := blk_frozen BK253.out 5; have hfz77_6 := blk_frozen BK253.out 6))
     go_ret
     exact ⟨by first | rfl | (simp [errW_none, errW_some] <;> rfl) | (simp [*, errW_none, errW_some] <;> rfl), m30_⟩
    rw [if_pos c60] at H
    have c60b0 : (Op.bytesLess a2.toList a3_3.toList) = true := c60
    clear c60
    replace H := Option.bind_eq_some_iff.mp H
    obtain ⟨t258, A610, H⟩ := H
    replace H : (if t256 = true then (some t258) else (some false)) = some r := H
    have A61 := Aside0.mk A610
    clear A610
    by_cases c62 : t256 = true
    ·subst c62
     have H1 : (some t258) = some r := by rw [if_pos rfl] at H; exact H
     clear H
     have H := H1
     clear H1
     obtain rfl := Option.some.inj H
     have hcz63_0 : wc.cell? ⟨gb253, 0, none⟩ = some (.int .i64 a3_0) := (blk_cell BK253.out 0).trans rfl
     have hcz63_1 : wc.cell? ⟨gb253, 1, none⟩ = some (.string a3_1) := (blk_cell BK253.out 1).trans rfl
     have hcz63_2 : wc.cell? ⟨gb253, 2, none⟩ = some (.string a3_2) := (blk_cell BK253.out 2).trans rfl
     have hcz63_3 : wc.cell? ⟨gb253, 3, none⟩ = some (.string a3_3) := (blk_cell BK253.out 3).trans rfl
     have hcz63_4 : wc.cell? ⟨gb253, 4, none⟩ = some (.string a3_4) := (blk_cell BK253.out 4).trans rfl
     have hcz63_5 : wc.cell? ⟨gb253, 5, none⟩ = some (.slice A3_5 l3_5.length c3_5) := (blk_cell BK253.out 5).trans rfl
     have hcz63_6 : wc.cell? ⟨gb253, 6, none⟩ = some (.slice A3_6 l3_6.length c3_6) := (blk_cell BK253.out 6).trans rfl
     have hfz63_0 := blk_frozen BK253.out 0
     have hfz63_1 := blk_frozen BK253.out 1
     have hfz63_2 := blk_frozen BK253.out 2
     have hfz63_3 := blk_frozen BK253.out 3
     have hfz63_4 := blk_frozen BK253.out 4
     have hfz63_5 := blk_frozen BK253.out 5
     have hfz63_6 := blk_frozen BK253.out 6
     go_wp2_with (first | (go_at_call 24; (with_reducible refine (strongroomref20_Verify.calls kj24 a0 a1 (wrap64 (a3_0 - 1)) a3_1 a3_2 _ _ l3_5 true _ ?side1 ?side2 A31.out).mono ?_); (case side1 => exact m20_); (case side2 => exact HC3_5.out); rintro e w64 ⟨rfl, hb⟩; have n0_ := Aside0.mk (blk_below (g := gb253) (o := .cells #[.int .i64 a3_0, .string a3_1, .string a3_2, .string a3_3, .string a3_4, .slice A3_5 l3_5.length c3_5, .slice A3_6 l3_6.length c3_6] 53 (0, 0)) m10_ hb); have n1_ := Aside0.mk (below_step m0_ hb); clear BK253; clear HB; have BK253 := n0_; have HB := n1_; clear n0_ n1_; (try clear hb); (try clear hb2); (try clear hk); (try clear hi); have hcz65_0 : w64.cell? ⟨gb253, 0, none⟩ = some (.int .i64 a3_0) := (blk_cell BK253.out 0).trans rfl; have hcz65_1 : w64.cell? ⟨gb253, 1, none⟩ = some (.string a3_1) := (blk_cell BK253.out 1).trans rfl; have hcz65_2 : w64.cell? ⟨gb253, 2, none⟩ = some (.string a3_2) := (blk_cell BK253.out 2).trans rfl; have hcz65_3 : w64.cell? ⟨gb253, 3, none⟩ = some (.string a3_3) := (blk_cell BK253.out 3).trans rfl; have hcz65_4 : w64.cell? ⟨gb253, 4, none⟩ = some (.string a3_4) := (blk_cell BK253.out 4).trans rfl; have hcz65_5 : w64.cell? ⟨gb253, 5, none⟩ = some (.slice A3_5 l3_5.length c3_5) := (blk_cell BK253.out 5).trans rfl; have hcz65_6 : w64.cell? ⟨gb253, 6, none⟩ = some (.slice A3_6 l3_6.length c3_6) := (blk_cell BK253.out 6).trans rfl; have hfz65_0 := blk_frozen BK253.out 0; have hfz65_1 := blk_frozen BK253.out 1; have hfz65_2 := blk_frozen BK253.out 2; have hfz65_3 := blk_frozen BK253.out 3; have hfz65_4 := blk_frozen BK253.out 4; have hfz65_5 := blk_frozen BK253.out 5; have hfz65_6 := blk_frozen BK253.out 6) | (go_at_call 24; (with_reducible refine (strongroomref20_Verify.calls kj24 a0 a1 a3_0 a3_3 a3_4 _ _ l3_6 t258 _ ?side1 ?side2 A61.out).mono ?_); (case side1 => exact m21_); (case side2 => exact HC3_6.out); rintro e w66 ⟨rfl, hb⟩; have n0_ := Aside0.mk (blk_below (g := gb253) (o := .cells #[.int .i64 a3_0, .string a3_1, .string a3_2, .string a3_3, .string a3_4, .slice A3_5 l3_5.length c3_5, .slice A3_6 l3_6.length c3_6] 53 (0, 0)) m10_ hb); have n1_ := Aside0.mk (below_step m0_ hb); clear BK253; clear HB; have BK253 := n0_; have HB := n1_; clear n0_ n1_; (try clear hb); (try clear hb2); (try clear hk); (try clear hi)))
     go_ret
     exact ⟨by first | rfl | (simp [errW_none, errW_some] <;> rfl) | (simp [*, errW_none, errW_some] <;> rfl), m30_⟩
    replace c62 := Bool.eq_false_iff.mpr c62
    subst c62
    have H1 : (some false) = some r := by rw [if_neg (show ¬ (false = true) by decide)] at H; exact H
    clear H
    have H := H1
    clear H1
    obtain rfl := Option.some.inj H
    have hcz67_0 : wc.cell? ⟨gb253, 0, none⟩ = some (.int .i64 a3_0) := (blk_cell BK253.out 0).trans rfl
    have hcz67_1 : wc.cell? ⟨gb253, 1, none⟩ = some (.string a3_1) := (blk_cell BK253.out 1).trans rfl
    have hcz67_2 : wc.cell? ⟨gb253, 2, none⟩ = some (.string a3_2) := (blk_cell BK253.out 2).trans rfl
    have hcz67_3 : wc.cell? ⟨gb253, 3, none⟩ = some (.string a3_3) := (blk_cell BK253.out 3).trans rfl
    have hcz67_4 : wc.cell? ⟨gb253, 4, none⟩ = some (.string a3_4) := (blk_cell BK253.out 4).trans rfl
    have hcz67_5 : wc.cell? ⟨gb253, 5, none⟩ = some (.slice A3_5 l3_5.length c3_5) := (blk_cell BK253.out 5).trans rfl
    have hcz67_6 : wc.cell? ⟨gb253, 6, none⟩ = some (.slice A3_6 l3_6.length c3_6) := (blk_cell BK253.out 6).trans rfl
    have hfz67_0 := blk_frozen BK253.out 0
    have hfz67_1 := blk_frozen BK253.out 1
    have hfz67_2 := blk_frozen BK253.out 2
    have hfz67_3 := blk_frozen BK253.out 3
    have hfz67_4 := blk_frozen BK253.out 4
    have hfz67_5 := blk_frozen BK253.out 5
    have hfz67_6 := blk_frozen BK253.out 6
    go_wp2_with (first | (go_at_call 24; (with_reducible refine (strongroomref20_Verify.calls kj24 a0 a1 (wrap64 (a3_0 - 1)) a3_1 a3_2 _ _ l3_5 false _ ?side1 ?side2 A31.out).mono ?_); (case side1 => exact m20_); (case side2 => exact HC3_5.out); rintro e w68 ⟨rfl, hb⟩; have n0_ := Aside0.mk (blk_below (g := gb253) (o := .cells #[.int .i64 a3_0, .string a3_1, .string a3_2, .string a3_3, .string a3_4, .slice A3_5 l3_5.length c3_5, .slice A3_6 l3_6.length c3_6] 53 (0, 0)) m10_ hb); have n1_ := Aside0.mk (below_step m0_ hb); clear BK253; clear HB; have BK253 := n0_; have HB := n1_; clear n0_ n1_; (try clear hb); (try clear hb2); (try clear hk); (try clear hi); have hcz69_0 : w68.cell? ⟨gb253, 0, none⟩ = some (.int .i64 a3_0) := (blk_cell BK253.out 0).trans rfl; have hcz69_1 : w68.cell? ⟨gb253, 1, none⟩ = some (.string a3_1) := (blk_cell BK253.out 1).trans rfl; have hcz69_2 : w68.cell? ⟨gb253, 2, none⟩ = some (.string a3_2) := (blk_cell BK253.out 2).trans rfl; have hcz69_3 : w68.cell? ⟨gb253, 3, none⟩ = some (.string a3_3) := (blk_cell BK253.out 3).trans rfl; have hcz69_4 : w68.cell? ⟨gb253, 4, none⟩ = some (.string a3_4) := (blk_cell BK253.out 4).trans rfl; have hcz69_5 : w68.cell? ⟨gb253, 5, none⟩ = some (.slice A3_5 l3_5.length c3_5) := (blk_cell BK253.out 5).trans rfl; have hcz69_6 : w68.cell? ⟨gb253, 6, none⟩ = some (.slice A3_6 l3_6.length c3_6) := (blk_cell BK253.out 6).trans rfl; have hfz69_0 := blk_frozen BK253.out 0; have hfz69_1 := blk_frozen BK253.out 1; have hfz69_2 := blk_frozen BK253.out 2; have hfz69_3 := blk_frozen BK253.out 3; have hfz69_4 := blk_frozen BK253.out 4; have hfz69_5 := blk_frozen BK253.out 5; have hfz69_6 := blk_frozen BK253.out 6) | (go_at_call 24; (with_reducible refine (strongroomref20_Verify.calls kj24 a0 a1 a3_0 a3_3 a3_4 _ _ l3_6 t258 _ ?side1 ?side2 A61.out).mono ?_); (case side1 => exact m21_); (case side2 => exact HC3_6.out); rintro e w70 ⟨rfl, hb⟩; have n0_ := Aside0.mk (blk_below (g := gb253) (o := .cells #[.int .i64 a3_0, .string a3_1, .string a3_2, .string a3_3, .string a3_4, .slice A3_5 l3_5.length c3_5, .slice A3_6 l3_6.length c3_6] 53 (0, 0)) m10_ hb); have n1_ := Aside0.mk (below_step m0_ hb); clear BK253; clear HB; have BK253 := n0_; have HB := n1_; clear n0_ n1_; (try clear hb); (try clear hb2); (try clear hk); (try clear hi)))
    go_ret
    exact ⟨by first | rfl | (simp [errW_none, errW_some] <;> rfl) | (simp [*, errW_none, errW_some] <;> rfl), m30_⟩

end Go.Proofs.YtdeggemomajhcaaDoorH.HMerkleMissing
