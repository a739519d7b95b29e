-- PRINTED by print.py (a twelfth state) out of the translation. Not trusted: Lean checks it.
import Derived.Test.YtedmkffepmcpaaaDoorHCapCodesx0
import Derived.Test.YtedmkffepmcpaaaDoorHCapCodesx2
import Derived.Test.YtedmkffepmcpaaaDoorHCapCodesx3
namespace Go.Proofs.YtedmkffepmcpaaaDoorH.HCapCodes
open Go.RowKit Go.Proofs.YtedmkffepmcpaaaDoorW.PrintWords Go.Proofs.YtedmkffepmcpaaaDoorW.PrintLast Go.Proofs.YtedmkffepmcpaaaDoorW.PrintMore
attribute [local go_sem] max2_int min2_int max_two min_two max_three min_three max_four min_four   -- for this text's walks alone
set_option linter.unusedVariables false
set_option linter.unusedSimpArgs false

/-! ### cap_Check: function 20 -/
mutual
def cap_Check.l0 : Nat → ByteArray → List (S35) → Int → Int → Int → Int → List (S35) → ByteArray → Option (Bool)
 | 0, _, _, _, _, _, _, _, _ => none
 | k + 1, x5, x21, x22, x23, x178000, x178001, x178002, x178003 => if x23 < x22 then (if 0 ≤ x23 then (if x23 < (x21.length : Int) then ((cap_bytes.f k ((rd_T35 x21 x23).f0) ((rd_T35 x21 x23).f1) ((rd_T35 x21 x23).f2)).bind fun t183 => ((mac_Seal.f x5 (strOfNums t183)).bind fun t186 => (cap_Check.l0 k t186 x21 x22 (wrap64 (x23 + 1)) x178000 x178001 x178002 x178003))) else (none)) else (none)) else (cap_Check.l1 k x5 0 (x5.size : Int) 0 x178000 x178001 x178002 x178003)
def cap_Check.l1 : Nat → ByteArray → Int → Int → Int → Int → Int → List (S35) → ByteArray → Option (Bool)
 | 0, _, _, _, _, _, _, _, _ => none
 | k + 1, x5, x8, x34, x35, x178000, x178001, x178002, x178003 => if x35 < x34 then (if 0 ≤ x35 then (if x35 < (x5.size : Int) then (if x35 < (x178003.size : Int) then (cap_Check.l1 k x5 (Go.bits .or .u8 x8 (Go.bits .xor .u8 (bt x5 x35) (bt x178003 x35))) x34 (wrap64 (x35 + 1)) x178000 x178001 x178002 x178003) else (none)) else (none)) else (none)) else (some (x8 == 0))
end
def cap_Check.f (k : Nat) (a0 : ByteArray) (a1_0 : Int) (a1_1 : Int) (l1_2 : List (S35)) (a1_3 : ByteArray) : Option (Bool) := (cap_May.f k a1_0 a1_1 l1_2 a1_3).bind fun t178 => (if t178 = true then ((cap_first.f k a1_0 a1_1).bind fun t179 => ((mac_Seal.f a0 t179).bind fun t180 => (cap_Check.l0 k t180 l1_2 (l1_2.length : Int) 0 a1_0 a1_1 l1_2 a1_3))) else (some false))
theorem cap_Check.mono_l : ∀ k, (∀ y0 y1 y2 y3 y4 y5 y6 y7, LeO (cap_Check.l0 k y0 y1 y2 y3 y4 y5 y6 y7) (cap_Check.l0 (k + 1) y0 y1 y2 y3 y4 y5 y6 y7)) ∧ (∀ y0 y1 y2 y3 y4 y5 y6 y7, LeO (cap_Check.l1 k y0 y1 y2 y3 y4 y5 y6 y7) (cap_Check.l1 (k + 1) y0 y1 y2 y3 y4 y5 y6 y7))
 | 0 => ⟨fun _ _ _ _ _ _ _ _ r h => by simp [cap_Check.l0] at h, fun _ _ _ _ _ _ _ _ r h => by simp [cap_Check.l1] at h⟩
 | k + 1 => by
  obtain ⟨ih0, ih1⟩ := cap_Check.mono_l k
  refine ⟨?_, ?_⟩
  ·intro y0 y1 y2 y3 y4 y5 y6 y7
   unfold cap_Check.l0
   repeat' first
   | (with_reducible exact ih0 _ _ _ _ _ _ _ _)
   | (with_reducible exact ih1 _ _ _ _ _ _ _ _)
   | (with_reducible exact cap_May.mono _ _ _ _ _)
   | (with_reducible exact cap_bytes.mono _ _ _ _)
   | (with_reducible exact cap_first.mono _ _ _)
   | (with_reducible exact LeO.refl _)
   | (with_reducible exact LeO.none _)
   | (with_reducible refine LeO.ite ?_ ?_)
   | (with_reducible refine LeO.bind ?_ (fun _ => ?_))
   | exact ih0 _ _ _ _ _ _ _ _
   | exact ih1 _ _ _ _ _ _ _ _
   | exact cap_May.mono _ _ _ _ _
   | exact cap_bytes.mono _ _ _ _
   | exact cap_first.mono _ _ _
   | exact LeO.none _
   | refine LeO.ite ?_ ?_
   | refine LeO.bind ?_ (fun _ => ?_)
  ·intro y0 y1 y2 y3 y4 y5 y6 y7
   unfold cap_Check.l1
   repeat' first
   | (with_reducible exact ih0 _ _ _ _ _ _ _ _)
   | (with_reducible exact ih1 _ _ _ _ _ _ _ _)
   | (with_reducible exact cap_May.mono _ _ _ _ _)
   | (with_reducible exact cap_bytes.mono _ _ _ _)
   | (with_reducible exact cap_first.mono _ _ _)
   | (with_reducible exact LeO.refl _)
   | (with_reducible exact LeO.none _)
   | (with_reducible refine LeO.ite ?_ ?_)
   | (with_reducible refine LeO.bind ?_ (fun _ => ?_))
   | exact ih0 _ _ _ _ _ _ _ _
   | exact ih1 _ _ _ _ _ _ _ _
   | exact cap_May.mono _ _ _ _ _
   | exact cap_bytes.mono _ _ _ _
   | exact cap_first.mono _ _ _
   | exact LeO.none _
   | refine LeO.ite ?_ ?_
   | refine LeO.bind ?_ (fun _ => ?_)
theorem cap_Check.mono : ∀ a0 a1 a2 a3 a4 k, LeO (cap_Check.f k a0 a1 a2 a3 a4) (cap_Check.f (k + 1) a0 a1 a2 a3 a4) := by
 intro a0 a1 a2 a3 a4 k
 obtain ⟨ih0, ih1⟩ := cap_Check.mono_l k
 unfold cap_Check.f
 repeat' first
   | (with_reducible exact ih0 _ _ _ _ _ _ _ _)
   | (with_reducible exact ih1 _ _ _ _ _ _ _ _)
   | (with_reducible exact cap_May.mono _ _ _ _ _)
   | (with_reducible exact cap_bytes.mono _ _ _ _)
   | (with_reducible exact cap_first.mono _ _ _)
   | (with_reducible exact LeO.refl _)
   | (with_reducible exact LeO.none _)
   | (with_reducible refine LeO.ite ?_ ?_)
   | (with_reducible refine LeO.bind ?_ (fun _ => ?_))
   | exact ih0 _ _ _ _ _ _ _ _
   | exact ih1 _ _ _ _ _ _ _ _
   | exact cap_May.mono _ _ _ _ _
   | exact cap_bytes.mono _ _ _ _
   | exact cap_first.mono _ _ _
   | exact LeO.none _
   | refine LeO.ite ?_ ?_
   | refine LeO.bind ?_ (fun _ => ?_)
set_option maxHeartbeats 8000000 in
set_option maxRecDepth 100000 in
theorem cap_Check.calls (k : Nat) (a0 : ByteArray) (a1_0 : Int) (a1_1 : Int) (A1_2 : Option Addr) (c1_2 : Nat) (l1_2 : List (S35)) (a1_3 : ByteArray) (r : Bool) (w : World) (hr1_2 : Kd.C k35 w A1_2 l1_2.length l1_2) (hc1_2 : l1_2.length ≤ c1_2) (h : cap_Check.f k a0 a1_0 a1_1 l1_2 a1_3 = some r) :
  Calls Tryd.prog 20 #[.string a0, .agg #[.int .i64 a1_0, .int .i64 a1_1, .slice A1_2 l1_2.length c1_2, .string a1_3]] w fun e w' => e = .returned (.bool r) ∧ Below w.heap.size w w' := by
 have hu25 := Tryd.underlying25
 have hu35 := Tryd.underlying35
 have HR1_2 := Aside0.mk hr1_2
 have HC1_2 := Aside0.mk hc1_2
 clear hr1_2 hc1_2
 have HB := Aside0.mk (Below.refl w.heap.size w)
 have H : ((cap_May.f k a1_0 a1_1 l1_2 a1_3).bind fun t178 => (if t178 = true then ((cap_first.f k a1_0 a1_1).bind fun t179 => ((mac_Seal.f a0 t179).bind fun t180 => (cap_Check.l0 k t180 l1_2 (l1_2.length : Int) 0 a1_0 a1_1 l1_2 a1_3))) else (some false))) = some r := h
 clear h
 replace H := Option.bind_eq_some_iff.mp H
 obtain ⟨t178, A30, H⟩ := H
 replace H : (if t178 = true then ((cap_first.f k a1_0 a1_1).bind fun t179 => ((mac_Seal.f a0 t179).bind fun t180 => (cap_Check.l0 k t180 l1_2 (l1_2.length : Int) 0 a1_0 a1_1 l1_2 a1_3))) else (some false)) = some r := H
 have A3 := Aside0.mk A30
 clear A30
 by_cases c4 : t178 = true
 case neg =>
  replace c4 := Bool.eq_false_iff.mpr c4
  subst c4
  have H1 : (some false) = some r := by rw [if_neg (show ¬ (false = true) by decide)] at H; exact H
  clear H
  have H := H1
  clear H1
  obtain rfl := Option.some.inj H
  go_enter Tryd.func20, Tryd.ntmps20
  go_wp2_with (first | ((with_reducible refine gate_dst (N := 3) rfl ?_); refine box_event ?hg (N := 3) ?hd (cs := #[.int .i64 a1_0, .int .i64 a1_1, .slice A1_2 l1_2.length c1_2, .string a1_3]) (t := 25) ?hr ?_; (case hd => rfl); (case hg => rfl); (case hr => first | (go_simp; done) | (go_simp; rfl)); intro gb177 hg w32 hbox hb; have n0_ := Aside0.mk (below_step m31_ hb); have n1_ := Aside0.mk (hbox); have n2_ := Aside0.mk ((by rw [hg]; exact (below_size m31_) : w.heap.size ≤ gb177)); have n3_ := Aside0.mk ((by rw [hg]; exact (below_size m31_) : w.heap.size ≤ gb177)); clear HB; have HB := n0_; have BK177 := n1_; have GW177 := n2_; have GE177 := n3_; clear n0_ n1_ n2_ n3_; clear hb hbox hg; obtain ⟨hcz33_0, hcz33_1, hcz33_2, hcz33_3⟩ := bc4_ BK177.out; obtain ⟨hfz33_0, hfz33_1, hfz33_2, hfz33_3⟩ := bf4_ BK177.out) | (go_at_call 18; (with_reducible refine (cap_May.calls k a1_0 a1_1 _ _ l1_2 a1_3 false _ ?side1 ?side2 A3.out).mono ?_); (case side1 => exact m66_); (case side2 => exact HC1_2.out); rintro e w34 ⟨rfl, hb⟩; replace BK177 := Aside0.mk (blk_below (g := gb177) (o := .cells #[.int .i64 a1_0, .int .i64 a1_1, .slice A1_2 l1_2.length c1_2, .string a1_3] 25 (0, 0)) m35_ hb); replace HB := Aside0.mk (below_step m18_ hb); (try clear hb); (try clear hb2); (try clear hk); (try clear hi)))
  repeat (go_quiet (first | ((with_reducible refine gate_dst (N := 3) rfl ?_); refine box_event ?hg (N := 3) ?hd (cs := #[.int .i64 a1_0, .int .i64 a1_1, .slice A1_2 l1_2.length c1_2, .string a1_3]) (t := 25) ?hr ?_; (case hd => rfl); (case hg => rfl); (case hr => first | (go_simp; done) | (go_simp; rfl)); intro gb177 hg w32 hbox hb; have n0_ := Aside0.mk (below_step m31_ hb); have n1_ := Aside0.mk (hbox); have n2_ := Aside0.mk ((by rw [hg]; exact (below_size m31_) : w.heap.size ≤ gb177)); have n3_ := Aside0.mk ((by rw [hg]; exact (below_size m31_) : w.heap.size ≤ gb177)); clear HB; have HB := n0_; have BK177 := n1_; have GW177 := n2_; have GE177 := n3_; clear n0_ n1_ n2_ n3_; clear hb hbox hg; obtain ⟨hcz33_0, hcz33_1, hcz33_2, hcz33_3⟩ := bc4_ BK177.out; obtain ⟨hfz33_0, hfz33_1, hfz33_2, hfz33_3⟩ := bf4_ BK177.out) | (go_at_call 18; (with_reducible refine (cap_May.calls k a1_0 a1_1 _ _ l1_2 a1_3 false _ ?side1 ?side2 A3.out).mono ?_); (case side1 => exact m66_); (case side2 => exact HC1_2.out); rintro e w34 ⟨rfl, hb⟩; replace BK177 := Aside0.mk (blk_below (g := gb177) (o := .cells #[.int .i64 a1_0, .int .i64 a1_1, .slice A1_2 l1_2.length c1_2, .string a1_3] 25 (0, 0)) m35_ hb); replace HB := Aside0.mk (below_step m18_ hb); (try clear hb); (try clear hb2); (try clear hk); (try clear hi))); try go_wp2_with (first | ((with_reducible refine gate_dst (N := 3) rfl ?_); refine box_event ?hg (N := 3) ?hd (cs := #[.int .i64 a1_0, .int .i64 a1_1, .slice A1_2 l1_2.length c1_2, .string a1_3]) (t := 25) ?hr ?_; (case hd => rfl); (case hg => rfl); (case hr => first | (go_simp; done) | (go_simp; rfl)); intro gb177 hg w32 hbox hb; have n0_ := Aside0.mk (below_step m31_ hb); have n1_ := Aside0.mk (hbox); have n2_ := Aside0.mk ((by rw [hg]; exact (below_size m31_) : w.heap.size ≤ gb177)); have n3_ := Aside0.mk ((by rw [hg]; exact (below_size m31_) : w.heap.size ≤ gb177)); clear HB; have HB := n0_; have BK177 := n1_; have GW177 := n2_; have GE177 := n3_; clear n0_ n1_ n2_ n3_; clear hb hbox hg; obtain ⟨hcz33_0, hcz33_1, hcz33_2, hcz33_3⟩ := bc4_ BK177.out; obtain ⟨hfz33_0, hfz33_1, hfz33_2, hfz33_3⟩ := bf4_ BK177.out) | (go_at_call 18; (with_reducible refine (cap_May.calls k a1_0 a1_1 _ _ l1_2 a1_3 false _ ?side1 ?side2 A3.out).mono ?_); (case side1 => exact m66_); (case side2 => exact HC1_2.out); rintro e w34 ⟨rfl, hb⟩; replace BK177 := Aside0.mk (blk_below (g := gb177) (o := .cells #[.int .i64 a1_0, .int .i64 a1_1, .slice A1_2 l1_2.length c1_2, .string a1_3] 25 (0, 0)) m35_ hb); replace HB := Aside0.mk (below_step m18_ hb); (try clear hb); (try clear hb2); (try clear hk); (try clear hi))))
  go_ret
  exact ⟨by first | rfl | (simp [errW_none, errW_some] <;> rfl) | (simp [*, errW_none, errW_some] <;> rfl), m71_⟩
 subst c4
 have H1 : ((cap_first.f k a1_0 a1_1).bind fun t179 => ((mac_Seal.f a0 t179).bind fun t180 => (cap_Check.l0 k t180 l1_2 (l1_2.length : Int) 0 a1_0 a1_1 l1_2 a1_3))) = some r := by rw [if_pos rfl] at H; exact H
 clear H
 have H := H1
 clear H1
 replace H := Option.bind_eq_some_iff.mp H
 obtain ⟨t179, A50, H⟩ := H
 replace H : ((mac_Seal.f a0 t179).bind fun t180 => (cap_Check.l0 k t180 l1_2 (l1_2.length : Int) 0 a1_0 a1_1 l1_2 a1_3)) = some r := H
 have A5 := Aside0.mk A50
 clear A50
 replace H := Option.bind_eq_some_iff.mp H
 obtain ⟨t180, A60, H⟩ := H
 replace H : (cap_Check.l0 k t180 l1_2 (l1_2.length : Int) 0 a1_0 a1_1 l1_2 a1_3) = some r := H
 have A6 := Aside0.mk A60
 clear A60
 have H' := Aside0.mk H
 clear H
 go_enter Tryd.func20, Tryd.ntmps20
 go_wp2_with (first | ((with_reducible refine gate_dst (N := 3) rfl ?_); refine box_event ?hg (N := 3) ?hd (cs := #[.int .i64 a1_0, .int .i64 a1_1, .slice A1_2 l1_2.length c1_2, .string a1_3]) (t := 25) ?hr ?_; (case hd => rfl); (case hg => rfl); (case hr => first | (go_simp; done) | (go_simp; rfl)); intro gb177 hg w7 hbox hb; have n0_ := Aside0.mk (below_step m31_ hb); have n1_ := Aside0.mk (hbox); have n2_ := Aside0.mk ((by rw [hg]; exact (below_size m31_) : w.heap.size ≤ gb177)); have n3_ := Aside0.mk ((by rw [hg]; exact (below_size m31_) : w.heap.size ≤ gb177)); clear HB; have HB := n0_; have BK177 := n1_; have GW177 := n2_; have GE177 := n3_; clear n0_ n1_ n2_ n3_; clear hb hbox hg; obtain ⟨hcz8_0, hcz8_1, hcz8_2, hcz8_3⟩ := bc4_ BK177.out; obtain ⟨hfz8_0, hfz8_1, hfz8_2, hfz8_3⟩ := bf4_ BK177.out) | (go_at_call 18; (with_reducible refine (cap_May.calls k a1_0 a1_1 _ _ l1_2 a1_3 true _ ?side1 ?side2 A3.out).mono ?_); (case side1 => exact m66_); (case side2 => exact HC1_2.out); rintro e w9 ⟨rfl, hb⟩; replace BK177 := Aside0.mk (blk_below (g := gb177) (o := .cells #[.int .i64 a1_0, .int .i64 a1_1, .slice A1_2 l1_2.length c1_2, .string a1_3] 25 (0, 0)) m35_ hb); replace HB := Aside0.mk (below_step m18_ hb); (try clear hb); (try clear hb2); (try clear hk); (try clear hi); obtain ⟨hcz10_0, hcz10_1, hcz10_2, hcz10_3⟩ := bc4_ BK177.out; obtain ⟨hfz10_0, hfz10_1, hfz10_2, hfz10_3⟩ := bf4_ BK177.out) | (go_at_call 32; (with_reducible refine (cap_first.calls k a1_0 a1_1 t179 _ A5.out).mono ?_); rintro e w11 ⟨rfl, hb⟩; replace BK177 := Aside0.mk (blk_below (g := gb177) (o := .cells #[.int .i64 a1_0, .int .i64 a1_1, .slice A1_2 l1_2.length c1_2, .string a1_3] 25 (0, 0)) m35_ hb); replace HB := Aside0.mk (below_step m18_ hb); (try clear hb); (try clear hb2); (try clear hk); (try clear hi)) | (go_at_call 31; (with_reducible refine (mac_Seal.calls a0 t179 t180 _ A6.out).mono ?_); rintro e w12 ⟨rfl, hb⟩; replace BK177 := Aside0.mk (blk_below (g := gb177) (o := .cells #[.int .i64 a1_0, .int .i64 a1_1, .slice A1_2 l1_2.length c1_2, .string a1_3] 25 (0, 0)) m35_ hb); replace HB := Aside0.mk (below_step m18_ hb); (try clear hb); (try clear hb2); (try clear hk); (try clear hi); obtain ⟨hcz13_0, hcz13_1, hcz13_2, hcz13_3⟩ := bc4_ BK177.out; obtain ⟨hfz13_0, hfz13_1, hfz13_2, hfz13_3⟩ := bf4_ BK177.out))
 repeat (go_quiet (first | ((with_reducible refine gate_dst (N := 3) rfl ?_); refine box_event ?hg (N := 3) ?hd (cs := #[.int .i64 a1_0, .int .i64 a1_1, .slice A1_2 l1_2.length c1_2, .string a1_3]) (t := 25) ?hr ?_; (case hd => rfl); (case hg => rfl); (case hr => first | (go_simp; done) | (go_simp; rfl)); intro gb177 hg w7 hbox hb; have n0_ := Aside0.mk (below_step m31_ hb); have n1_ := Aside0.mk (hbox); have n2_ := Aside0.mk ((by rw [hg]; exact (below_size m31_) : w.heap.size ≤ gb177)); have n3_ := Aside0.mk ((by rw [hg]; exact (below_size m31_) : w.heap.size ≤ gb177)); clear HB; have HB := n0_; have BK177 := n1_; have GW177 := n2_; have GE177 := n3_; clear n0_ n1_ n2_ n3_; clear hb hbox hg; obtain ⟨hcz8_0, hcz8_1, hcz8_2, hcz8_3⟩ := bc4_ BK177.out; obtain ⟨hfz8_0, hfz8_1, hfz8_2, hfz8_3⟩ := bf4_ BK177.out) | (go_at_call 18; (with_reducible refine (cap_May.calls k a1_0 a1_1 _ _ l1_2 a1_3 true _ ?side1 ?side2 A3.out).mono ?_); (case side1 => exact m66_); (case side2 => exact HC1_2.out); rintro e w9 ⟨rfl, hb⟩; replace BK177 := Aside0.mk (blk_below (g := gb177) (o := .cells #[.int .i64 a1_0, .int .i64 a1_1, .slice A1_2 l1_2.length c1_2, .string a1_3] 25 (0, 0)) m35_ hb); replace HB := Aside0.mk (below_step m18_ hb); (try clear hb); (try clear hb2); (try clear hk); (try clear hi); obtain ⟨hcz10_0, hcz10_1, hcz10_2, hcz10_3⟩ := bc4_ BK177.out; obtain ⟨hfz10_0, hfz10_1, hfz10_2, hfz10_3⟩ := bf4_ BK177.out) | (go_at_call 32; (with_reducible refine (cap_first.calls k a1_0 a1_1 t179 _ A5.out).mono ?_); rintro e w11 ⟨rfl, hb⟩; replace BK177 := Aside0.mk (blk_below (g := gb177) (o := .cells #[.int .i64 a1_0, .int .i64 a1_1, .slice A1_2 l1_2.length c1_2, .string a1_3] 25 (0, 0)) m35_ hb); replace HB := Aside0.mk (below_step m18_ hb); (try clear hb); (try clear hb2); (try clear hk); (try clear hi)) | (go_at_call 31; (with_reducible refine (mac_Seal.calls a0 t179 t180 _ A6.out).mono ?_); rintro e w12 ⟨rfl, hb⟩; replace BK177 := Aside0.mk (blk_below (g := gb177) (o := .cells #[.int .i64 a1_0, .int .i64 a1_1, .slice A1_2 l1_2.length c1_2, .string a1_3] 25 (0, 0)) m35_ hb); replace HB := Aside0.mk (below_step m18_ hb); (try clear hb); (try clear hb2); (try clear hk); (try clear hi); obtain ⟨hcz13_0, hcz13_1, hcz13_2, hcz13_3⟩ := bc4_ BK177.out; obtain ⟨hfz13_0, hfz13_1, hfz13_2, hfz13_3⟩ := bf4_ BK177.out)); try go_wp2_with (first | ((with_reducible refine gate_dst (N := 3) rfl ?_); refine box_event ?hg (N := 3) ?hd (cs := #[.int .i64 a1_0, .int .i64 a1_1, .slice A1_2 l1_2.length c1_2, .string a1_3]) (t := 25) ?hr ?_; (case hd => rfl); (case hg => rfl); (case hr => first | (go_simp; done) | (go_simp; rfl)); intro gb177 hg w7 hbox hb; have n0_ := Aside0.mk (below_step m31_ hb); have n1_ := Aside0.mk (hbox); have n2_ := Aside0.mk ((by rw [hg]; exact (below_size m31_) : w.heap.size ≤ gb177)); have n3_ := Aside0.mk ((by rw [hg]; exact (below_size m31_) : w.heap.size ≤ gb177)); clear HB; have HB := n0_; have BK177 := n1_; have GW177 := n2_; have GE177 := n3_; clear n0_ n1_ n2_ n3_; clear hb hbox hg; obtain ⟨hcz8_0, hcz8_1, hcz8_2, hcz8_3⟩ := bc4_ BK177.out; obtain ⟨hfz8_0, hfz8_1, hfz8_2, hfz8_3⟩ := bf4_ BK177.out) | (go_at_call 18; (with_reducible refine (cap_May.calls k a1_0 a1_1 _ _ l1_2 a1_3 true _ ?side1 ?side2 A3.out).mono ?_); (case side1 => exact m66_); (case side2 => exact HC1_2.out); rintro e w9 ⟨rfl, hb⟩; replace BK177 := Aside0.mk (blk_below (g := gb177) (o := .cells #[.int .i64 a1_0, .int .i64 a1_1, .slice A1_2 l1_2.length c1_2, .string a1_3] 25 (0, 0)) m35_ hb); replace HB := Aside0.mk (below_step m18_ hb); (try clear hb); (try clear hb2); (try clear hk); (try clear hi); obtain ⟨hcz10_0, hcz10_1, hcz10_2, hcz10_3⟩ := bc4_ BK177.out; obtain ⟨hfz10_0, hfz10_1, hfz10_2, hfz10_3⟩ := bf4_ BK177.out) | (go_at_call 32; (with_reducible refine (cap_first.calls k a1_0 a1_1 t179 _ A5.out).mono ?_); rintro e w11 ⟨rfl, hb⟩; replace BK177 := Aside0.mk (blk_below (g := gb177) (o := .cells #[.int .i64 a1_0, .int .i64 a1_1, .slice A1_2 l1_2.length c1_2, .string a1_3] 25 (0, 0)) m35_ hb); replace HB := Aside0.mk (below_step m18_ hb); (try clear hb); (try clear hb2); (try clear hk); (try clear hi)) | (go_at_call 31; (with_reducible refine (mac_Seal.calls a0 t179 t180 _ A6.out).mono ?_); rintro e w12 ⟨rfl, hb⟩; replace BK177 := Aside0.mk (blk_below (g := gb177) (o := .cells #[.int .i64 a1_0, .int .i64 a1_1, .slice A1_2 l1_2.length c1_2, .string a1_3] 25 (0, 0)) m35_ hb); replace HB := Aside0.mk (below_step m18_ hb); (try clear hb); (try clear hb2); (try clear hk); (try clear hi); obtain ⟨hcz13_0, hcz13_1, hcz13_2, hcz13_3⟩ := bc4_ BK177.out; obtain ⟨hfz13_0, hfz13_1, hfz13_2, hfz13_3⟩ := bf4_ BK177.out)))
 go_loopg [5, 23] k (fun kq v5 v23 w' => ∃ (x5_1 : ByteArray) (x23_1 : Int), v5 = .string x5_1 ∧ v23 = .int .i64 x23_1 ∧ Aside0 (cap_Check.l0 kq x5_1 l1_2 (l1_2.length : Int) x23_1 a1_0 a1_1 l1_2 a1_3 = some r) ∧ Aside0 (kq ≤ k) ∧ Aside0 (w'.heap[gb177]? = some (.cells #[.int .i64 a1_0, .int .i64 a1_1, (.slice A1_2 l1_2.length c1_2), .string a1_3] 25 (0, 0))) ∧ Aside0 (Below w.heap.size w w'))
 case atStart => exact ⟨(t180), (0), m55_, m55_, H', ⟨Nat.le_refl _⟩, ⟨by refine bD_ ?_; exact BK177.out⟩, ⟨m71_⟩⟩
 clear H'
 try clear c4; try clear hcz10_0; try clear hcz10_1; try clear hcz10_2; try clear hcz10_3; try clear hcz13_0; try clear hcz13_1; try clear hcz13_2; try clear hcz13_3; try clear hcz8_0; try clear hcz8_1; try clear hcz8_2; try clear hcz8_3; try clear hfz10_0; try clear hfz10_1; try clear hfz10_2; try clear hfz10_3; try clear hfz13_0; try clear hfz13_1; try clear hfz13_2; try clear hfz13_3; try clear hfz8_0; try clear hfz8_1; try clear hfz8_2; try clear hfz8_3
 obtain ⟨x5_1, x23_1, rfl, rfl, HA, HK1, BK177, HB⟩ := hrel
 cases gk with
 | zero => exact absurd HA.out (by simp [cap_Check.l0])
 | succ k1 =>
  have H := HA.out
  clear HA
  simp only [cap_Check.l0] at H
  by_cases c14 : x23_1 < (l1_2.length : Int)
  case neg =>
   rw [if_neg c14] at H
   have c14b0 : decide (x23_1 < (l1_2.length : Int)) = false := decide_eq_false c14
   clear c14
   have H' := Aside0.mk H
   clear H
   go_wp2
   repeat (go_quiet (fail); try go_wp2)
   go_loopg [8, 35] k1 (fun kq v8 v35 w' => ∃ (x8_2 : Int) (x35_2 : Int), v8 = .int .u8 x8_2 ∧ v35 = .int .i64 x35_2 ∧ Aside0 (cap_Check.l1 kq x5_1 x8_2 (x5_1.size : Int) x35_2 a1_0 a1_1 l1_2 a1_3 = some r) ∧ Aside0 (kq ≤ k1) ∧ Aside0 (w'.heap[gb177]? = some (.cells #[.int .i64 a1_0, .int .i64 a1_1, (.slice A1_2 l1_2.length c1_2), .string a1_3] 25 (0, 0))) ∧ Aside0 (Below w.heap.size w w'))
   case atStart => exact ⟨(0), (0), m55_, m55_, H', ⟨Nat.le_refl _⟩, ⟨by refine bD_ ?_; exact BK177.out⟩, ⟨m71_⟩⟩
   clear H'
   try clear c14b0
   obtain ⟨x8_2, x35_2, rfl, rfl, HA, HK2, BK177, HB⟩ := hrel
   cases gk with
   | zero => exact absurd HA.out (by simp [cap_Check.l1])
   | succ k2 =>
    have H := HA.out
    clear HA
    simp only [cap_Check.l1] at H
    by_cases c25 : x35_2 < (x5_1.size : Int)
    case neg =>
     rw [if_neg c25] at H
     have c25b0 : decide (x35_2 < (x5_1.size : Int)) = false := decide_eq_false c25
     clear c25
     obtain rfl := Option.some.inj H
     go_wp2
     repeat (go_quiet (fail); try go_wp2)
     go_ret
     exact ⟨by first | rfl | (simp [errW_none, errW_some] <;> rfl) | (simp [*, errW_none, errW_some] <;> rfl), m71_⟩
    rw [if_pos c25] at H
    have c25b0 : decide (x35_2 < (x5_1.size : Int)) = true := decide_eq_true c25
    clear c25
    by_cases c26 : 0 ≤ x35_2
    case neg =>
     rw [if_neg c26] at H
     exact absurd H (by simp)
    rw [if_pos c26] at H
    have c26b0 : decide (0 ≤ x35_2) = true := decide_eq_true c26
    clear c26
    by_cases c27 : x35_2 < (x5_1.size : Int)
    case neg =>
     rw [if_neg c27] at H
     exact absurd H (by simp)
    rw [if_pos c27] at H
    have c27b0 : decide (x35_2 < (x5_1.size : Int)) = true := decide_eq_true c27
    clear c27
    by_cases c29 : x35_2 < (a1_3.size : Int)
    case neg =>
     rw [if_neg c29] at H
     exact absurd H (by simp)
    rw [if_pos c29] at H
    have c29b0 : decide (x35_2 < (a1_3.size : Int)) = true := decide_eq_true c29
    clear c29
    have H' := Aside0.mk H
    clear H
    have p28 : 0 ≤ (x35_2 : Int) := of_decide_eq_true m54_
    have q28 : x35_2 < (x5_1.size : Int) := of_decide_eq_true m54_
    have hx28 := bt_at x5_1 x35_2
    replace p28 := eq_true p28
    replace q28 := eq_true q28
    obtain ⟨hcz31_0, hcz31_1, hcz31_2, hcz31_3⟩ := bc4_ BK177.out
    obtain ⟨hfz31_0, hfz31_1, hfz31_2, hfz31_3⟩ := bf4_ BK177.out
    have p30 : 0 ≤ (x35_2 : Int) := of_decide_eq_true m54_
    have q30 : x35_2 < (a1_3.size : Int) := of_decide_eq_true m54_
    have hx30 := bt_at a1_3 x35_2
    replace p30 := eq_true p30
    replace q30 := eq_true q30
    go_wp2
    repeat (go_quiet (fail); try go_wp2)
    go_roundg k2
    case measure => have := HK1.out; have := HK2.out; omega
    case rel => exact ⟨(Go.bits .or .u8 x8_2 (Go.bits .xor .u8 (bt x5_1 x35_2) (bt a1_3 x35_2))), (wrap64 (x35_2 + 1)), m55_, m55_, H', ⟨by have := HK1.out; have := HK2.out; omega⟩, ⟨by refine bD_ ?_; exact BK177.out⟩, ⟨m71_⟩⟩
  rw [if_pos c14] at H
  have c14b0 : decide (x23_1 < (l1_2.length : Int)) = true := decide_eq_true c14
  clear c14
  by_cases c15 : 0 ≤ x23_1
  case neg =>
   rw [if_neg c15] at H
   exact absurd H (by simp)
  rw [if_pos c15] at H
  have c15b0 : decide (0 ≤ x23_1) = true := decide_eq_true c15
  clear c15
  by_cases c16 : x23_1 < (l1_2.length : Int)
  case neg =>
   rw [if_neg c16] at H
   exact absurd H (by simp)
  rw [if_pos c16] at H
  have c16b0 : decide (x23_1 < (l1_2.length : Int)) = true := decide_eq_true c16
  clear c16
  replace H := Option.bind_eq_some_iff.mp H
  obtain ⟨t183, A170, H⟩ := H
  replace H : ((mac_Seal.f x5_1 (strOfNums t183)).bind fun t186 => (cap_Check.l0 k1 t186 l1_2 (l1_2.length : Int) (wrap64 (x23_1 + 1)) a1_0 a1_1 l1_2 a1_3)) = some r := H
  have A17 := Aside0.mk A170
  clear A170
  replace H := Option.bind_eq_some_iff.mp H
  obtain ⟨t186, A180, H⟩ := H
  replace H : (cap_Check.l0 k1 t186 l1_2 (l1_2.length : Int) (wrap64 (x23_1 + 1)) a1_0 a1_1 l1_2 a1_3) = some r := H
  have A18 := Aside0.mk A180
  clear A180
  have H' := Aside0.mk H
  clear H
  have p181 : 0 ≤ (x23_1 : Int) := of_decide_eq_true m54_
  have q181 : x23_1 < (l1_2.length : Int) := of_decide_eq_true m54_
  obtain ⟨ad181, e181, hx181_0, hx181_1, hx181_2⟩ := at_T35 HR1_2.out x23_1 p181 q181
  cases e181
  replace hx181_0 := (HB.out.cell (World.block_lt_of_cell? w _ hx181_0)).trans hx181_0
  replace hx181_1 := (HB.out.cell (World.block_lt_of_cell? w _ hx181_1)).trans hx181_1
  replace hx181_2 := (HB.out.cell (World.block_lt_of_cell? w _ hx181_2)).trans hx181_2
  replace p181 := eq_true p181
  replace q181 := eq_true q181
  go_wp2_with (first | ((with_reducible refine gate_dst (N := 7) rfl ?_); refine box_event ?hg (N := 7) ?hd (cs := #[.string (⟨#[]⟩ : ByteArray), .int .i64 0, .int .i64 0]) (t := 35) ?hr ?_; (case hd => rfl); (case hg => rfl); (case hr => first | (go_simp; done) | (go_simp; rfl)); intro gb182 hg w19 hbox hb; have n0_ := Aside0.mk (blk_below (g := gb177) (o := .cells #[.int .i64 a1_0, .int .i64 a1_1, .slice (some ad181) l1_2.length c1_2, .string a1_3] 25 (0, 0)) m35_ hb); have n1_ := Aside0.mk (below_step m18_ hb); have n2_ := Aside0.mk (hbox); have n3_ := Aside0.mk ((by rw [hg]; exact (below_size m18_) : w.heap.size ≤ gb182)); have n4_ := Aside0.mk ((by rw [hg]; exact (below_size m18_) : w.heap.size ≤ gb182)); have n5_ := Aside0.mk ((by rw [hg]; exact Nat.ne_of_lt (blk_lt (g := gb177) (o := .cells #[.int .i64 a1_0, .int .i64 a1_1, .slice (some ad181) l1_2.length c1_2, .string a1_3] 25 (0, 0)) m35_) : gb177 ≠ gb182)); have n6_ := Aside0.mk ((by rw [hg]; exact Nat.ne_of_gt (blk_lt (g := gb177) (o := .cells #[.int .i64 a1_0, .int .i64 a1_1, .slice (some ad181) l1_2.length c1_2, .string a1_3] 25 (0, 0)) m35_) : gb182 ≠ gb177)); clear BK177; clear HB; have BK177 := n0_; have HB := n1_; have BK182 := n2_; have GW182 := n3_; have GE182 := n4_; have NB177_182 := n5_; have NB182_177 := n6_; clear n0_ n1_ n2_ n3_ n4_ n5_ n6_; clear hb hbox hg; have hnb20 := NB182_177.out; have hnc20 := NB177_182.out; obtain ⟨hcz21_0, hcz21_1, hcz21_2⟩ := bc3_ BK182.out; obtain ⟨hfz21_0, hfz21_1, hfz21_2⟩ := bf3_ BK182.out) | (go_at_call 37; (with_reducible refine (cap_bytes.calls k1 ((rd_T35 l1_2 x23_1).f0) ((rd_T35 l1_2 x23_1).f1) ((rd_T35 l1_2 x23_1).f2) t183 _ A17.out).mono ?_); rintro e w22 ⟨v184, rfl, ho0, hb⟩; have n0_ := Aside0.mk (Kd.R_lower ho0 (below_size m12_)); have n1_ := Aside0.mk (blk_below (g := gb177) (o := .cells #[.int .i64 a1_0, .int .i64 a1_1, .slice (some ad181) l1_2.length c1_2, .string a1_3] 25 (0, 0)) m5_ hb); have n2_ := Aside0.mk (blk_below (g := gb182) (o := .cells #[.string ((rd_T35 l1_2 x23_1).f0), .int .i64 ((rd_T35 l1_2 x23_1).f1), .int .i64 ((rd_T35 l1_2 x23_1).f2)] 35 (0, 0)) (by refine bD_ ?_; refine blk_put (cs := #[.string ((rd_T35 l1_2 x23_1).f0), .int .i64 ((rd_T35 l1_2 x23_1).f1), .int .i64 0]) ?_ 2 _ rfl; refine bD_ ?_; refine blk_put (cs := #[.string ((rd_T35 l1_2 x23_1).f0), .int .i64 0, .int .i64 0]) ?_ 1 _ rfl; refine bD_ ?_; refine blk_put (cs := #[.string (⟨#[]⟩ : ByteArray), .int .i64 0, .int .i64 0]) ?_ 0 _ rfl; refine bD_ ?_; exact BK182.out) hb); have n3_ := Aside0.mk (below_step m12_ hb); clear BK177; clear BK182; clear HB; have HO185 := n0_; have BK177 := n1_; have BK182 := n2_; have HB := n3_; clear n0_ n1_ n2_ n3_; (try clear hb); (try clear hb2); (try clear hk); (try clear hi); (try clear ho0); have hcv23 := own_string (P := Tryd.prog) Tryd.underlying53 Tryd.underlying5 Tryd.underlying9 (Kd.own_of_R HO185.out)) | (go_at_call 31; (with_reducible refine (mac_Seal.calls x5_1 (strOfNums t183) t186 _ A18.out).mono ?_); rintro e w24 ⟨rfl, hb⟩; have n0_ := Aside0.mk (Kd.R_below (rD_ HO185.out) hb); have n1_ := Aside0.mk (blk_below (g := gb177) (o := .cells #[.int .i64 a1_0, .int .i64 a1_1, .slice (some ad181) l1_2.length c1_2, .string a1_3] 25 (0, 0)) m35_ hb); have n2_ := Aside0.mk (blk_below (g := gb182) (o := .cells #[.string ((rd_T35 l1_2 x23_1).f0), .int .i64 ((rd_T35 l1_2 x23_1).f1), .int .i64 ((rd_T35 l1_2 x23_1).f2)] 35 (0, 0)) (bD_ BK182.out) hb); have n3_ := Aside0.mk (below_step m12_ hb); clear HO185; clear BK177; clear BK182; clear HB; have HO185 := n0_; have BK177 := n1_; have BK182 := n2_; have HB := n3_; clear n0_ n1_ n2_ n3_; (try clear hb); (try clear hb2); (try clear hk); (try clear hi)))
  repeat (go_quiet (first | ((with_reducible refine gate_dst (N := 7) rfl ?_); refine box_event ?hg (N := 7) ?hd (cs := #[.string (⟨#[]⟩ : ByteArray), .int .i64 0, .int .i64 0]) (t := 35) ?hr ?_; (case hd => rfl); (case hg => rfl); (case hr => first | (go_simp; done) | (go_simp; rfl)); intro gb182 hg w19 hbox hb; have n0_ := Aside0.mk (blk_below (g := gb177) (o := .cells #[.int .i64 a1_0, .int .i64 a1_1, .slice (some ad181) l1_2.length c1_2, .string a1_3] 25 (0, 0)) m35_ hb); have n1_ := Aside0.mk (below_step m18_ hb); have n2_ := Aside0.mk (hbox); have n3_ := Aside0.mk ((by rw [hg]; exact (below_size m18_) : w.heap.size ≤ gb182)); have n4_ := Aside0.mk ((by rw [hg]; exact (below_size m18_) : w.heap.size ≤ gb182)); have n5_ := Aside0.mk ((by rw [hg]; exact Nat.ne_of_lt (blk_lt (g := gb177) (o := .cells #[.int .i64 a1_0, .int .i64 a1_1, .slice (some ad181) l1_2.length c1_2, .string a1_3] 25 (0, 0)) m35_) : gb177 ≠ gb182)); have n6_ := Aside0.mk ((by rw [hg]; exact Nat.ne_of_gt (blk_lt (g := gb177) (o := .cells #[.int .i64 a1_0, .int .i64 a1_1, .slice (some ad181) l1_2.length c1_2, .string a1_3] 25 (0, 0)) m35_) : gb182 ≠ gb177)); clear BK177; clear HB; have BK177 := n0_; have HB := n1_; have BK182 := n2_; have GW182 := n3_; have GE182 := n4_; have NB177_182 := n5_; have NB182_177 := n6_; clear n0_ n1_ n2_ n3_ n4_ n5_ n6_; clear hb hbox hg; have hnb20 := NB182_177.out; have hnc20 := NB177_182.out; obtain ⟨hcz21_0, hcz21_1, hcz21_2⟩ := bc3_ BK182.out; obtain ⟨hfz21_0, hfz21_1, hfz21_2⟩ := bf3_ BK182.out) | (go_at_call 37; (with_reducible refine (cap_bytes.calls k1 ((rd_T35 l1_2 x23_1).f0) ((rd_T35 l1_2 x23_1).f1) ((rd_T35 l1_2 x23_1).f2) t183 _ A17.out).mono ?_); rintro e w22 ⟨v184, rfl, ho0, hb⟩; have n0_ := Aside0.mk (Kd.R_lower ho0 (below_size m12_)); have n1_ := Aside0.mk (blk_below (g := gb177) (o := .cells #[.int .i64 a1_0, .int .i64 a1_1, .slice (some ad181) l1_2.length c1_2, .string a1_3] 25 (0, 0)) m5_ hb); have n2_ := Aside0.mk (blk_below (g := gb182) (o := .cells #[.string ((rd_T35 l1_2 x23_1).f0), .int .i64 ((rd_T35 l1_2 x23_1).f1), .int .i64 ((rd_T35 l1_2 x23_1).f2)] 35 (0, 0)) (by refine bD_ ?_; refine blk_put (cs := #[.string ((rd_T35 l1_2 x23_1).f0), .int .i64 ((rd_T35 l1_2 x23_1).f1), .int .i64 0]) ?_ 2 _ rfl; refine bD_ ?_; refine blk_put (cs := #[.string ((rd_T35 l1_2 x23_1).f0), .int .i64 0, .int .i64 0]) ?_ 1 _ rfl; refine bD_ ?_; refine blk_put (cs := #[.string (⟨#[]⟩ : ByteArray), .int .i64 0, .int .i64 0]) ?_ 0 _ rfl; refine bD_ ?_; exact BK182.out) hb); have n3_ := Aside0.mk (below_step m12_ hb); clear BK177; clear BK182; clear HB; have HO185 := n0_; have BK177 := n1_; have BK182 := n2_; have HB := n3_; clear n0_ n1_ n2_ n3_; (try clear hb); (try clear hb2); (try clear hk); (try clear hi); (try clear ho0); have hcv23 := own_string (P := Tryd.prog) Tryd.underlying53 Tryd.underlying5 Tryd.underlying9 (Kd.own_of_R HO185.out)) | (go_at_call 31; (with_reducible refine (mac_Seal.calls x5_1 (strOfNums t183) t186 _ A18.out).mono ?_); rintro e w24 ⟨rfl, hb⟩; have n0_ := Aside0.mk (Kd.R_below (rD_ HO185.out) hb); have n1_ := Aside0.mk (blk_below (g := gb177) (o := .cells #[.int .i64 a1_0, .int .i64 a1_1, .slice (some ad181) l1_2.length c1_2, .string a1_3] 25 (0, 0)) m35_ hb); have n2_ := Aside0.mk (blk_below (g := gb182) (o := .cells #[.string ((rd_T35 l1_2 x23_1).f0), .int .i64 ((rd_T35 l1_2 x23_1).f1), .int .i64 ((rd_T35 l1_2 x23_1).f2)] 35 (0, 0)) (bD_ BK182.out) hb); have n3_ := Aside0.mk (below_step m12_ hb); clear HO185; clear BK177; clear BK182; clear HB; have HO185 := n0_; have BK177 := n1_; have BK182 := n2_; have HB := n3_; clear n0_ n1_ n2_ n3_; (try clear hb); (try clear hb2); (try clear hk); (try clear hi))); try go_wp2_with (first | ((with_reducible refine gate_dst (N := 7) rfl ?_); refine box_event ?hg (N := 7) ?hd (cs := #[.string (⟨#[]⟩ : ByteArray), .int .i64 0, .int .i64 0]) (t := 35) ?hr ?_; (case hd => rfl); (case hg => rfl); (case hr => first | (go_simp; done) | (go_simp; rfl)); intro gb182 hg w19 hbox hb; have n0_ := Aside0.mk (blk_below (g := gb177) (o := .cells #[.int .i64 a1_0, .int .i64 a1_1, .slice (some ad181) l1_2.length c1_2, .string a1_3] 25 (0, 0)) m35_ hb); have n1_ := Aside0.mk (below_step m18_ hb); have n2_ := Aside0.mk (hbox); have n3_ := Aside0.mk ((by rw [hg]; exact (below_size m18_) : w.heap.size ≤ gb182)); have n4_ := Aside0.mk ((by rw [hg]; exact (below_size m18_) : w.heap.size ≤ gb182)); have n5_ := Aside0.mk ((by rw [hg]; exact Nat.ne_of_lt (blk_lt (g := gb177) (o := .cells #[.int .i64 a1_0, .int .i64 a1_1, .slice (some ad181) l1_2.length c1_2, .string a1_3] 25 (0, 0)) m35_) : gb177 ≠ gb182)); have n6_ := Aside0.mk ((by rw [hg]; exact Nat.ne_of_gt (blk_lt (g := gb177) (o := .cells #[.int .i64 a1_0, .int .i64 a1_1, .slice (some ad181) l1_2.length c1_2, .string a1_3] 25 (0, 0)) m35_) : gb182 ≠ gb177)); clear BK177; clear HB; have BK177 := n0_; have HB := n1_; have BK182 := n2_; have GW182 := n3_; have GE182 := n4_; have NB177_182 := n5_; have NB182_177 := n6_; clear n0_ n1_ n2_ n3_ n4_ n5_ n6_; clear hb hbox hg; have hnb20 := NB182_177.out; have hnc20 := NB177_182.out; obtain ⟨hcz21_0, hcz21_1, hcz21_2⟩ := bc3_ BK182.out; obtain ⟨hfz21_0, hfz21_1, hfz21_2⟩ := bf3_ BK182.out) | (go_at_call 37; (with_reducible refine (cap_bytes.calls k1 ((rd_T35 l1_2 x23_1).f0) ((rd_T35 l1_2 x23_1).f1) ((rd_T35 l1_2 x23_1).f2) t183 _ A17.out).mono ?_); rintro e w22 ⟨v184, rfl, ho0, hb⟩; have n0_ := Aside0.mk (Kd.R_lower ho0 (below_size m12_)); have n1_ := Aside0.mk (blk_below (g := gb177) (o := .cells #[.int .i64 a1_0, .int .i64 a1_1, .slice (some ad181) l1_2.length c1_2, .string a1_3] 25 (0, 0)) m5_ hb); have n2_ := Aside0.mk (blk_below (g := gb182) (o := .cells #[.string ((rd_T35 l1_2 x23_1).f0), .int .i64 ((rd_T35 l1_2 x23_1).f1), .int .i64 ((rd_T35 l1_2 x23_1).f2)] 35 (0, 0)) (by refine bD_ ?_; refine blk_put (cs := #[.string ((rd_T35 l1_2 x23_1).f0), .int .i64 ((rd_T35 l1_2 x23_1).f1), .int .i64 0]) ?_ 2 _ rfl; refine bD_ ?_; refine blk_put (cs := #[.string ((rd_T35 l1_2 x23_1).f0), .int .i64 0, .int .i64 0]) ?_ 1 _ rfl; refine bD_ ?_; refine blk_put (cs := #[.string (⟨#[]⟩ : ByteArray), .int .i64 0, .int .i64 0]) ?_ 0 _ rfl; refine bD_ ?_; exact BK182.out) hb); have n3_ := Aside0.mk (below_step m12_ hb); clear BK177; clear BK182; clear HB; have HO185 := n0_; have BK177 := n1_; have BK182 := n2_; have HB := n3_; clear n0_ n1_ n2_ n3_; (try clear hb); (try clear hb2); (try clear hk); (try clear hi); (try clear ho0); have hcv23 := own_string (P := Tryd.prog) Tryd.underlying53 Tryd.underlying5 Tryd.underlying9 (Kd.own_of_R HO185.out)) | (go_at_call 31; (with_reducible refine (mac_Seal.calls x5_1 (strOfNums t183) t186 _ A18.out).mono ?_); rintro e w24 ⟨rfl, hb⟩; have n0_ := Aside0.mk (Kd.R_below (rD_ HO185.out) hb); have n1_ := Aside0.mk (blk_below (g := gb177) (o := .cells #[.int .i64 a1_0, .int .i64 a1_1, .slice (some ad181) l1_2.length c1_2, .string a1_3] 25 (0, 0)) m35_ hb); have n2_ := Aside0.mk (blk_below (g := gb182) (o := .cells #[.string ((rd_T35 l1_2 x23_1).f0), .int .i64 ((rd_T35 l1_2 x23_1).f1), .int .i64 ((rd_T35 l1_2 x23_1).f2)] 35 (0, 0)) (bD_ BK182.out) hb); have n3_ := Aside0.mk (below_step m12_ hb); clear HO185; clear BK177; clear BK182; clear HB; have HO185 := n0_; have BK177 := n1_; have BK182 := n2_; have HB := n3_; clear n0_ n1_ n2_ n3_; (try clear hb); (try clear hb2); (try clear hk); (try clear hi))))
  go_roundg k1
  case measure => have := HK1.out; omega
  case rel => exact ⟨(t186), (wrap64 (x23_1 + 1)), m55_, m55_, H', ⟨by have := HK1.out; omega⟩, ⟨by refine bD_ ?_; exact BK177.out⟩, ⟨by repeat (first | (with_reducible first | exact HB.out | apply below_alloc | apply pw_below_drewN | apply below_drew1 | refine below_set ?_ GE177.out | refine below_set ?_ GE182.out) | exact HB.out)⟩⟩

/-! ### stringslite_HasPrefix: function 83 -/
def stringslite_HasPrefix.f (a0 : ByteArray) (a1 : ByteArray) : Option (Bool) := if (a0.size : Int) ≥ (a1.size : Int) then (if 0 ≤ (a1.size : Int) then (if (a1.size : Int) ≤ (a0.size : Int) then (some ((a0.extract 0 ((a1.size : Int) : Int).toNat).toList == a1.toList)) else (none)) else (none)) else (some false)
set_option maxHeartbeats 8000000 in
set_option maxRecDepth 100000 in
theorem stringslite_HasPrefix.calls (a0 : ByteArray) (a1 : ByteArray) (r : Bool) (w : World) (h : stringslite_HasPrefix.f a0 a1 = some r) :
  Calls Tryd.prog 83 #[.string a0, .string a1] w fun e w' => e = .returned (.bool r) ∧ Drawn0 w w' := by
 have H : (if (a0.size : Int) ≥ (a1.size : Int) then (if 0 ≤ (a1.size : Int) then (if (a1.size : Int) ≤ (a0.size : Int) then (some ((a0.extract 0 ((a1.size : Int) : Int).toNat).toList == a1.toList)) else (none)) else (none)) else (some false)) = some r := h
 clear h
 by_cases c3 : (a0.size : Int) ≥ (a1.size : Int)
 case neg =>
  rw [if_neg c3] at H
  have c3b0 : decide ((a1.size : Int) ≤ (a0.size : Int)) = false := decide_eq_false c3
  have c3b1 : decide (a1.size ≤ a0.size) = false := decide_eq_false (fun h => c3 (Int.ofNat_le.mpr h))
  clear c3
  obtain rfl := Option.some.inj H
  go_enter Tryd.func83, Tryd.ntmps83
  go_wp2
  go_ret
  exact ⟨by first | rfl | (simp; done) | (simp [*]; done), m84_⟩
 rw [if_pos c3] at H
 have c3b0 : decide ((a1.size : Int) ≤ (a0.size : Int)) = true := decide_eq_true c3
 have c3b1 : decide (a1.size ≤ a0.size) = true := decide_eq_true (Int.ofNat_le.mp c3)
 clear c3
 by_cases c4 : 0 ≤ (a1.size : Int)
 case neg =>
  rw [if_neg c4] at H
  exact absurd H (by simp)
 rw [if_pos c4] at H
 have c4b0 := eq_true c4
 have c4b1 : decide (0 ≤ (a1.size : Int)) = true := decide_eq_true c4
 clear c4
 by_cases c5 : (a1.size : Int) ≤ (a0.size : Int)
 case neg =>
  rw [if_neg c5] at H
  exact absurd H (by simp)
 rw [if_pos c5] at H
 have c5b0 := eq_true c5
 have c5b1 : decide ((a1.size : Int) ≤ (a0.size : Int)) = true := decide_eq_true c5
 clear c5
 obtain rfl := Option.some.inj H
 go_enter Tryd.func83, Tryd.ntmps83
 go_wp2
 go_ret
 exact ⟨by first | rfl | (simp; done) | (simp [*]; done), m84_⟩

/-! ### strings_HasPrefix: function 62 -/
def strings_HasPrefix.f (a0 : ByteArray) (a1 : ByteArray) : Option (Bool) := (stringslite_HasPrefix.f a0 a1).bind fun t187 => (some t187)
set_option maxHeartbeats 8000000 in
set_option maxRecDepth 100000 in
theorem strings_HasPrefix.calls (a0 : ByteArray) (a1 : ByteArray) (r : Bool) (w : World) (h : strings_HasPrefix.f a0 a1 = some r) :
  Calls Tryd.prog 62 #[.string a0, .string a1] w fun e w' => e = .returned (.bool r) ∧ Drawn0 w w' := by
 have H : ((stringslite_HasPrefix.f a0 a1).bind fun t187 => (some t187)) = some r := h
 clear h
 replace H := Option.bind_eq_some_iff.mp H
 obtain ⟨t187, A30, H⟩ := H
 replace H : (some t187) = some r := H
 have A3 := Aside0.mk A30
 clear A30
 obtain rfl := Option.some.inj H
 go_enter Tryd.func62, Tryd.ntmps62
 go_wp2_with (first | ((with_reducible refine gate_callee (f := 83) rfl ?_); refine goesL_ (some 7) rfl rfl Tryd.func83 (by kernel_rfl) rfl #[.string a0, .string a1] rfl m30_ ?_; (with_reducible refine (stringslite_HasPrefix.calls a0 a1 t187 _ A3.out).mono ?_); rintro e w' ⟨rfl, ⟨nd, rfl⟩⟩; refine ⟨_, rfl, ?_⟩))
 go_ret
 exact ⟨by first | rfl | (simp; done) | (simp [*]; done), m84_⟩

/-! ### path_Covers: function 41 -/
def path_Covers.f (a0 : ByteArray) (a1 : ByteArray) : Option (Bool) := (path_Place.f a0).bind fun t188 => (if t188 = true then ((path_Place.f a1).bind fun t189 => (if t189 = true then (if a0.toList = ([] : List UInt8) then (some true) else (if a1.toList = a0.toList then (some true) else (if a0.size + 1 ≤ 9223372036854775807 then ((strings_HasPrefix.f a1 (a0 ++ (⟨#[47]⟩ : ByteArray))).bind fun t190 => (some t190)) else (none)))) else (some false))) else (some false))
set_option maxHeartbeats 8000000 in
set_option maxRecDepth 100000 in
theorem path_Covers.calls (a0 : ByteArray) (a1 : ByteArray) (r : Bool) (w : World) (h : path_Covers.f a0 a1 = some r) :
  Calls Tryd.prog 41 #[.string a0, .string a1] w fun e w' => e = .returned (.bool r) ∧ Below w.heap.size w w' := by
 have HB := Aside0.mk (Below.refl w.heap.size w)
 have H : ((path_Place.f a0).bind fun t188 => (if t188 = true then ((path_Place.f a1).bind fun t189 => (if t189 = true then (if a0.toList = ([] : List UInt8) then (some true) else (if a1.toList = a0.toList then (some true) else (if a0.size + 1 ≤ 9223372036854775807 then ((strings_HasPrefix.f a1 (a0 ++ (⟨#[47]⟩ : ByteArray))).bind fun t190 => (some t190)) else (none)))) else (some false))) else (some false))) = some r := h
 clear h
 replace H := Option.bind_eq_some_iff.mp H
 obtain ⟨t188, A30, H⟩ := H
 replace H : (if t188 = true then ((path_Place.f a1).bind fun t189 => (if t189 = true then (if a0.toList = ([] : List UInt8) then (some true) else (if a1.toList = a0.toList then (some true) else (if a0.size + 1 ≤ 9223372036854775807 then ((strings_HasPrefix.f a1 (a0 ++ (⟨#[47]⟩ : ByteArray))).bind fun t190 => (some t190)) else (none)))) else (some false))) else (some false)) = some r := H
 have A3 := Aside0.mk A30
 clear A30
 by_cases c4 : t188 = true
 case neg =>
  replace c4 := Bool.eq_false_iff.mpr c4
  subst c4
  have H1 : (some false) = some r := by rw [if_neg (show ¬ (false = true) by decide)] at H; exact H
  clear H
  have H := H1
  clear H1
  obtain rfl := Option.some.inj H
  go_enter Tryd.func41, Tryd.ntmps41
  go_wp2_with (first | ((with_reducible refine gate_callee (f := 40) rfl ?_); refine goesL_ (some 6) rfl rfl Tryd.func40 (by kernel_rfl) rfl #[.string a0] rfl m30_ ?_; (with_reducible refine (path_Place.calls a0 false _ A3.out).mono ?_); rintro e w19 ⟨rfl, hb⟩; refine ⟨_, rfl, ?_⟩; replace HB := Aside0.mk (below_step m31_ hb); (try clear hb); (try clear hb2); (try clear hk); (try clear hi)))
  go_ret
  exact ⟨by first | rfl | (simp [errW_none, errW_some] <;> rfl) | (simp [*, errW_none, errW_some] <;> rfl), m81_⟩
 subst c4
 have H1 : ((path_Place.f a1).bind fun t189 => (if t189 = true then (if a0.toList = ([] : List UInt8) then (some true) else (if a1.toList = a0.toList then (some true) else (if a0.size + 1 ≤ 9223372036854775807 then ((strings_HasPrefix.f a1 (a0 ++ (⟨#[47]⟩ : ByteArray))).bind fun t190 => (some t190)) else (none)))) else (some false))) = some r := by rw [if_pos rfl] at H; exact H
 clear H
 have H := H1
 clear H1
 replace H := Option.bind_eq_some_iff.mp H
 obtain ⟨t189, A50, H⟩ := H
 replace H : (if t189 = true then (if a0.toList = ([] : List UInt8) then (some true) else (if a1.toList = a0.toList then (some true) else (if a0.size + 1 ≤ 9223372036854775807 then ((strings_HasPrefix.f a1 (a0 ++ (⟨#[47]⟩ : ByteArray))).bind fun t190 => (some t190)) else (none)))) else (some false)) = some r := H
 have A5 := Aside0.mk A50
 clear A50
 by_cases c6 : t189 = true
 case neg =>
  replace c6 := Bool.eq_false_iff.mpr c6
  subst c6
  have H1 : (some false) = some r := by rw [if_neg (show ¬ (false = true) by decide)] at H; exact H
  clear H
  have H := H1
  clear H1
  obtain rfl := Option.some.inj H
  go_enter Tryd.func41, Tryd.ntmps41
  go_wp2_with (first | ((with_reducible refine gate_callee (f := 40) rfl ?_); refine goesL_ (some 6) rfl rfl Tryd.func40 (by kernel_rfl) rfl #[.string a0] rfl m30_ ?_; (with_reducible refine (path_Place.calls a0 true _ A3.out).mono ?_); rintro e w17 ⟨rfl, hb⟩; refine ⟨_, rfl, ?_⟩; replace HB := Aside0.mk (below_step m31_ hb); (try clear hb); (try clear hb2); (try clear hk); (try clear hi)) | (go_at_call 40; (with_reducible refine (path_Place.calls a1 false _ A5.out).mono ?_); rintro e w18 ⟨rfl, hb⟩; replace HB := Aside0.mk (below_step m31_ hb); (try clear hb); (try clear hb2); (try clear hk); (try clear hi)))
  go_ret
  exact ⟨by first | rfl | (simp [errW_none, errW_some] <;> rfl) | (simp [*, errW_none, errW_some] <;> rfl), m81_⟩
 subst c6
 have H1 : (if a0.toList = ([] : List UInt8) then (some true) else (if a1.toList = a0.toList then (some true) else (if a0.size + 1 ≤ 9223372036854775807 then ((strings_HasPrefix.f a1 (a0 ++ (⟨#[47]⟩ : ByteArray))).bind fun t190 => (some t190)) else (none)))) = some r := by rw [if_pos rfl] at H; exact H
 clear H
 have H := H1
 clear H1
 by_cases c7 : a0.toList = ([] : List UInt8)
 ·rw [if_pos c7] at H
  have c7b0 : (a0.toList == ([] : List UInt8)) = true := beq_iff_eq.mpr c7
  have c7b1 : (a0.toList != ([] : List UInt8)) = false := bne_eq_false_iff_eq.mpr c7
  clear c7
  obtain rfl := Option.some.inj H
  go_enter Tryd.func41, Tryd.ntmps41
  go_wp2_with (first | ((with_reducible refine gate_callee (f := 40) rfl ?_); refine goesL_ (some 6) rfl rfl Tryd.func40 (by kernel_rfl) rfl #[.string a0] rfl m30_ ?_; (with_reducible refine (path_Place.calls a0 true _ A3.out).mono ?_); rintro e w8 ⟨rfl, hb⟩; refine ⟨_, rfl, ?_⟩; replace HB := Aside0.mk (below_step m31_ hb); (try clear hb); (try clear hb2); (try clear hk); (try clear hi)) | (go_at_call 40; (with_reducible refine (path_Place.calls a1 true _ A5.out).mono ?_); rintro e w9 ⟨rfl, hb⟩; replace HB := Aside0.mk (below_step m31_ hb); (try clear hb); (try clear hb2); (try clear hk); (try clear hi)))
  go_ret
  exact ⟨by first | rfl | (simp [errW_none, errW_some] <;> rfl) | (simp [*, errW_none, errW_some] <;> rfl), m81_⟩
 rw [if_neg c7] at H
 have c7b0 : (a0.toList == ([] : List UInt8)) = false := beq_eq_false_iff_ne.mpr c7
 have c7b1 : (a0.toList != ([] : List UInt8)) = true := bne_iff_ne.mpr c7
 by_cases c10 : a1.toList = a0.toList
 ·rw [if_pos c10] at H
  have c10b0 : (a1.toList == a0.toList) = true := beq_iff_eq.mpr c10
  have c10b1 : (a1.toList != a0.toList) = false := bne_eq_false_iff_eq.mpr c10
  clear c10
  obtain rfl := Option.some.inj H
  go_enter Tryd.func41, Tryd.ntmps41
  go_wp2_with (first | ((with_reducible refine gate_callee (f := 40) rfl ?_); refine goesL_ (some 6) rfl rfl Tryd.func40 (by kernel_rfl) rfl #[.string a0] rfl m30_ ?_; (with_reducible refine (path_Place.calls a0 true _ A3.out).mono ?_); rintro e w11 ⟨rfl, hb⟩; refine ⟨_, rfl, ?_⟩; replace HB := Aside0.mk (below_step m31_ hb); (try clear hb); (try clear hb2); (try clear hk); (try clear hi)) | (go_at_call 40; (with_reducible refine (path_Place.calls a1 true _ A5.out).mono ?_); rintro e w12 ⟨rfl, hb⟩; replace HB := Aside0.mk (below_step m31_ hb); (try clear hb); (try clear hb2); (try clear hk); (try clear hi)))
  go_ret
  exact ⟨by first | rfl | (simp [errW_none, errW_some] <;> rfl) | (simp [*, errW_none, errW_some] <;> rfl), m81_⟩
 rw [if_neg c10] at H
 have c10b0 : (a1.toList == a0.toList) = false := beq_eq_false_iff_ne.mpr c10
 have c10b1 : (a1.toList != a0.toList) = true := bne_iff_ne.mpr c10
 by_cases c13 : a0.size + 1 ≤ 9223372036854775807
 case neg =>
  rw [if_neg c13] at H
  exact absurd H (by simp)
 rw [if_pos c13] at H
 have c13b0 := eq_true c13
 have c13b1 : decide (a0.size + 1 ≤ 9223372036854775807) = true := decide_eq_true c13
 try have c13b2 : (9223372036854775807 < a0.size + 1) = False := eq_false (Nat.not_lt.2 c13)
 replace H := Option.bind_eq_some_iff.mp H
 obtain ⟨t190, A140, H⟩ := H
 replace H : (some t190) = some r := H
 have A14 := Aside0.mk A140
 clear A140
 obtain rfl := Option.some.inj H
 go_enter Tryd.func41, Tryd.ntmps41
 go_wp2_with (first | ((with_reducible refine gate_callee (f := 40) rfl ?_); refine goesL_ (some 6) rfl rfl Tryd.func40 (by kernel_rfl) rfl #[.string a0] rfl m30_ ?_; (with_reducible refine (path_Place.calls a0 true _ A3.out).mono ?_); rintro e w15 ⟨rfl, hb⟩; refine ⟨_, rfl, ?_⟩; replace HB := Aside0.mk (below_step m31_ hb); (try clear hb); (try clear hb2); (try clear hk); (try clear hi)) | (go_at_call 40; (with_reducible refine (path_Place.calls a1 true _ A5.out).mono ?_); rintro e w16 ⟨rfl, hb⟩; replace HB := Aside0.mk (below_step m31_ hb); (try clear hb); (try clear hb2); (try clear hk); (try clear hi)) | (go_at_call 62; (with_reducible refine (strings_HasPrefix.calls a1 (a0 ++ (⟨#[47]⟩ : ByteArray)) t190 _ A14.out).mono ?_); rintro e w' ⟨rfl, ⟨nd, rfl⟩⟩))
 go_ret
 exact ⟨by first | rfl | (simp [errW_none, errW_some] <;> rfl) | (simp [*, errW_none, errW_some] <;> rfl), m81_⟩

end Go.Proofs.YtedmkffepmcpaaaDoorH.HCapCodes
