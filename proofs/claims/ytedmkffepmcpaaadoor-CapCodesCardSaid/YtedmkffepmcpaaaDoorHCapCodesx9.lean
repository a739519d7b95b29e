-- PRINTED by print.py (a twelfth state) out of the translation. Not trusted: Lean checks it.
import Derived.Test.YtedmkffepmcpaaaDoorHCapCodesx0
import Derived.Test.YtedmkffepmcpaaaDoorHCapCodesx7
import Derived.Test.YtedmkffepmcpaaaDoorHCapCodesx8
namespace Go.Proofs.YtedmkffepmcpaaaDoorH.HCapCodes
open Go.RowKit Go.Proofs.YtedmkffepmcpaaaDoorW.PrintWords Go.Proofs.YtedmkffepmcpaaaDoorW.PrintLast Go.Proofs.YtedmkffepmcpaaaDoorW.PrintMore
attribute [local go_sem] max2_int min2_int max_two min_two max_three min_three max_four min_four   -- for this text's walks alone
set_option linter.unusedVariables false
set_option linter.unusedSimpArgs false

/-! ### strongroomref05_Place: function 45 -/
def strongroomref05_Place.f (k : Nat) (a0 : ByteArray) : Option (Bool) := if a0.toList = ([] : List UInt8) then (some true) else ((strongroomref05_Good.f k a0).bind fun t239 => (some t239))
theorem strongroomref05_Place.mono : ∀ a0 k, LeO (strongroomref05_Place.f k a0) (strongroomref05_Place.f (k + 1) a0) := by
 intro a0 k
 unfold strongroomref05_Place.f
 repeat' first
   | (with_reducible exact strongroomref05_Good.mono _ _)
   | (with_reducible exact LeO.refl _)
   | (with_reducible exact LeO.none _)
   | (with_reducible refine LeO.ite ?_ ?_)
   | (with_reducible refine LeO.bind ?_ (fun _ => ?_))
   | exact strongroomref05_Good.mono _ _
   | exact LeO.none _
   | refine LeO.ite ?_ ?_
   | refine LeO.bind ?_ (fun _ => ?_)
set_option maxHeartbeats 8000000 in
set_option maxRecDepth 100000 in
theorem strongroomref05_Place.calls (k : Nat) (a0 : ByteArray) (r : Bool) (w : World) (h : strongroomref05_Place.f k a0 = some r) :
  Calls Tryd.prog 45 #[.string a0] w fun e w' => e = .returned (.bool r) ∧ Below w.heap.size w w' := by
 have HB := Aside0.mk (Below.refl w.heap.size w)
 have H : (if a0.toList = ([] : List UInt8) then (some true) else ((strongroomref05_Good.f k a0).bind fun t239 => (some t239))) = some r := h
 clear h
 by_cases c2 : a0.toList = ([] : List UInt8)
 ·rw [if_pos c2] at H
  have c2b0 : (a0.toList == ([] : List UInt8)) = true := beq_iff_eq.mpr c2
  have c2b1 : (a0.toList != ([] : List UInt8)) = false := bne_eq_false_iff_eq.mpr c2
  clear c2
  obtain rfl := Option.some.inj H
  go_enter Tryd.func45, Tryd.ntmps45
  go_wp2
  go_ret
  exact ⟨by first | rfl | (simp [errW_none, errW_some] <;> rfl) | (simp [*, errW_none, errW_some] <;> rfl), m81_⟩
 rw [if_neg c2] at H
 have c2b0 : (a0.toList == ([] : List UInt8)) = false := beq_eq_false_iff_ne.mpr c2
 have c2b1 : (a0.toList != ([] : List UInt8)) = true := bne_iff_ne.mpr c2
 replace H := Option.bind_eq_some_iff.mp H
 obtain ⟨t239, A30, H⟩ := H
 replace H : (some t239) = some r := H
 have A3 := Aside0.mk A30
 clear A30
 obtain rfl := Option.some.inj H
 go_enter Tryd.func45, Tryd.ntmps45
 go_wp2_with (first | (go_at_call 63; (with_reducible refine (strongroomref05_Good.calls k a0 t239 _ A3.out).mono ?_); rintro e w4 ⟨rfl, hb⟩; replace HB := Aside0.mk (below_step m31_ hb); (try clear hb); (try clear hb2); (try clear hk); (try clear hi)))
 go_ret
 exact ⟨by first | rfl | (simp [errW_none, errW_some] <;> rfl) | (simp [*, errW_none, errW_some] <;> rfl), m81_⟩

/-! ### strongroomref12_Good: function 38 -/
def strongroomref12_Good.f (k : Nat) (a0_0 : ByteArray) (a0_1 : Int) (a0_2 : Int) : Option (Bool) := (strongroomref05_Place.f k a0_0).bind fun t241 => (if t241 = true then (if a0_1 ≥ 0 then (if a0_1 ≤ 7 then (if a0_2 ≥ 0 then (some (decide (a0_2 ≤ 1099511627776))) else (some false)) else (some false)) else (some false)) else (some false))
theorem strongroomref12_Good.mono : ∀ a0 a1 a2 k, LeO (strongroomref12_Good.f k a0 a1 a2) (strongroomref12_Good.f (k + 1) a0 a1 a2) := by
 intro a0 a1 a2 k
 unfold strongroomref12_Good.f
 repeat' first
   | (with_reducible exact strongroomref05_Place.mono _ _)
   | (with_reducible exact LeO.refl _)
   | (with_reducible exact LeO.none _)
   | (with_reducible refine LeO.ite ?_ ?_)
   | (with_reducible refine LeO.bind ?_ (fun _ => ?_))
   | exact strongroomref05_Place.mono _ _
   | exact LeO.none _
   | refine LeO.ite ?_ ?_
   | refine LeO.bind ?_ (fun _ => ?_)
set_option maxHeartbeats 8000000 in
set_option maxRecDepth 100000 in
theorem strongroomref12_Good.calls (k : Nat) (a0_0 : ByteArray) (a0_1 : Int) (a0_2 : Int) (r : Bool) (w : World) (h : strongroomref12_Good.f k a0_0 a0_1 a0_2 = some r) :
  Calls Tryd.prog 38 #[.agg #[.string a0_0, .int .i64 a0_1, .int .i64 a0_2]] w fun e w' => e = .returned (.bool r) ∧ Below w.heap.size w w' := by
 have hu35 := Tryd.underlying35
 have HB := Aside0.mk (Below.refl w.heap.size w)
 have H : ((strongroomref05_Place.f k a0_0).bind fun t241 => (if t241 = true then (if a0_1 ≥ 0 then (if a0_1 ≤ 7 then (if a0_2 ≥ 0 then (some (decide (a0_2 ≤ 1099511627776))) else (some false)) else (some false)) else (some false)) else (some false))) = some r := h
 clear h
 replace H := Option.bind_eq_some_iff.mp H
 obtain ⟨t241, A20, H⟩ := H
 replace H : (if t241 = true then (if a0_1 ≥ 0 then (if a0_1 ≤ 7 then (if a0_2 ≥ 0 then (some (decide (a0_2 ≤ 1099511627776))) else (some false)) else (some false)) else (some false)) else (some false)) = some r := H
 have A2 := Aside0.mk A20
 clear A20
 by_cases c3 : t241 = true
 case neg =>
  replace c3 := Bool.eq_false_iff.mpr c3
  subst c3
  have H1 : (some false) = some r := by rw [if_neg (show ¬ (false = true) by decide)] at H; exact H
  clear H
  have H := H1
  clear H1
  obtain rfl := Option.some.inj H
  go_enter Tryd.func38, Tryd.ntmps38
  go_wp2_with (first | ((with_reducible refine gate_dst (N := 1) rfl ?_); refine box_event ?hg (N := 1) ?hd (cs := #[.string a0_0, .int .i64 a0_1, .int .i64 a0_2]) (t := 35) ?hr ?_; (case hd => rfl); (case hg => rfl); (case hr => first | (go_simp; done) | (go_simp; rfl)); intro gb240 hg w23 hbox hb; have n0_ := Aside0.mk (below_step m31_ hb); have n1_ := Aside0.mk (hbox); have n2_ := Aside0.mk ((by rw [hg]; exact (below_size m31_) : w.heap.size ≤ gb240)); have n3_ := Aside0.mk ((by rw [hg]; exact (below_size m31_) : w.heap.size ≤ gb240)); clear HB; have HB := n0_; have BK240 := n1_; have GW240 := n2_; have GE240 := n3_; clear n0_ n1_ n2_ n3_; clear hb hbox hg; obtain ⟨hcz24_0, hcz24_1, hcz24_2⟩ := bc3_ BK240.out; obtain ⟨hfz24_0, hfz24_1, hfz24_2⟩ := bf3_ BK240.out) | ((with_reducible refine gate_callee (f := 45) rfl ?_); refine goesL_ (some 5) rfl rfl Tryd.func45 (by kernel_rfl) rfl #[.string a0_0] rfl m30_ ?_; (with_reducible refine (strongroomref05_Place.calls k a0_0 false _ A2.out).mono ?_); rintro e w25 ⟨rfl, hb⟩; refine ⟨_, rfl, ?_⟩; have n0_ := Aside0.mk (blk_below (g := gb240) (o := .cells #[.string a0_0, .int .i64 a0_1, .int .i64 a0_2] 35 (0, 0)) (bD_ BK240.out) hb); have n1_ := Aside0.mk (below_step m25_ hb); clear BK240; clear HB; have BK240 := n0_; have HB := n1_; clear n0_ n1_; (try clear hb); (try clear hb2); (try clear hk); (try clear hi)))
  go_ret
  exact ⟨by first | rfl | (simp [errW_none, errW_some] <;> rfl) | (simp [*, errW_none, errW_some] <;> rfl), m74_⟩
 subst c3
 have H1 : (if a0_1 ≥ 0 then (if a0_1 ≤ 7 then (if a0_2 ≥ 0 then (some (decide (a0_2 ≤ 1099511627776))) else (some false)) else (some false)) else (some false)) = some r := by rw [if_pos rfl] at H; exact H
 clear H
 have H := H1
 clear H1
 by_cases c4 : a0_1 ≥ 0
 case neg =>
  rw [if_neg c4] at H
  have c4b0 : decide (0 ≤ a0_1) = false := decide_eq_false c4
  clear c4
  obtain rfl := Option.some.inj H
  go_enter Tryd.func38, Tryd.ntmps38
  go_wp2_with (first | ((with_reducible refine gate_dst (N := 1) rfl ?_); refine box_event ?hg (N := 1) ?hd (cs := #[.string a0_0, .int .i64 a0_1, .int .i64 a0_2]) (t := 35) ?hr ?_; (case hd => rfl); (case hg => rfl); (case hr => first | (go_simp; done) | (go_simp; rfl)); intro gb240 hg w19 hbox hb; have n0_ := Aside0.mk (below_step m31_ hb); have n1_ := Aside0.mk (hbox); have n2_ := Aside0.mk ((by rw [hg]; exact (below_size m31_) : w.heap.size ≤ gb240)); have n3_ := Aside0.mk ((by rw [hg]; exact (below_size m31_) : w.heap.size ≤ gb240)); clear HB; have HB := n0_; have BK240 := n1_; have GW240 := n2_; have GE240 := n3_; clear n0_ n1_ n2_ n3_; clear hb hbox hg; obtain ⟨hcz20_0, hcz20_1, hcz20_2⟩ := bc3_ BK240.out; obtain ⟨hfz20_0, hfz20_1, hfz20_2⟩ := bf3_ BK240.out) | ((with_reducible refine gate_callee (f := 45) rfl ?_); refine goesL_ (some 5) rfl rfl Tryd.func45 (by kernel_rfl) rfl #[.string a0_0] rfl m30_ ?_; (with_reducible refine (strongroomref05_Place.calls k a0_0 true _ A2.out).mono ?_); rintro e w21 ⟨rfl, hb⟩; refine ⟨_, rfl, ?_⟩; have n0_ := Aside0.mk (blk_below (g := gb240) (o := .cells #[.string a0_0, .int .i64 a0_1, .int .i64 a0_2] 35 (0, 0)) (bD_ BK240.out) hb); have n1_ := Aside0.mk (below_step m25_ hb); clear BK240; clear HB; have BK240 := n0_; have HB := n1_; clear n0_ n1_; (try clear hb); (try clear hb2); (try clear hk); (try clear hi); obtain ⟨hcz22_0, hcz22_1, hcz22_2⟩ := bc3_ BK240.out; obtain ⟨hfz22_0, hfz22_1, hfz22_2⟩ := bf3_ BK240.out))
  go_ret
  exact ⟨by first | rfl | (simp [errW_none, errW_some] <;> rfl) | (simp [*, errW_none, errW_some] <;> rfl), m74_⟩
 rw [if_pos c4] at H
 have c4b0 : decide (0 ≤ a0_1) = true := decide_eq_true c4
 clear c4
 by_cases c5 : a0_1 ≤ 7
 case neg =>
  rw [if_neg c5] at H
  have c5b0 : decide (a0_1 ≤ 7) = false := decide_eq_false c5
  clear c5
  obtain rfl := Option.some.inj H
  go_enter Tryd.func38, Tryd.ntmps38
  go_wp2_with (first | ((with_reducible refine gate_dst (N := 1) rfl ?_); refine box_event ?hg (N := 1) ?hd (cs := #[.string a0_0, .int .i64 a0_1, .int .i64 a0_2]) (t := 35) ?hr ?_; (case hd => rfl); (case hg => rfl); (case hr => first | (go_simp; done) | (go_simp; rfl)); intro gb240 hg w15 hbox hb; have n0_ := Aside0.mk (below_step m31_ hb); have n1_ := Aside0.mk (hbox); have n2_ := Aside0.mk ((by rw [hg]; exact (below_size m31_) : w.heap.size ≤ gb240)); have n3_ := Aside0.mk ((by rw [hg]; exact (below_size m31_) : w.heap.size ≤ gb240)); clear HB; have HB := n0_; have BK240 := n1_; have GW240 := n2_; have GE240 := n3_; clear n0_ n1_ n2_ n3_; clear hb hbox hg; obtain ⟨hcz16_0, hcz16_1, hcz16_2⟩ := bc3_ BK240.out; obtain ⟨hfz16_0, hfz16_1, hfz16_2⟩ := bf3_ BK240.out) | ((with_reducible refine gate_callee (f := 45) rfl ?_); refine goesL_ (some 5) rfl rfl Tryd.func45 (by kernel_rfl) rfl #[.string a0_0] rfl m30_ ?_; (with_reducible refine (strongroomref05_Place.calls k a0_0 true _ A2.out).mono ?_); rintro e w17 ⟨rfl, hb⟩; refine ⟨_, rfl, ?_⟩; have n0_ := Aside0.mk (blk_below (g := gb240) (o := .cells #[.string a0_0, .int .i64 a0_1, .int .i64 a0_2] 35 (0, 0)) (bD_ BK240.out) hb); have n1_ := Aside0.mk (below_step m25_ hb); clear BK240; clear HB; have BK240 := n0_; have HB := n1_; clear n0_ n1_; (try clear hb); (try clear hb2); (try clear hk); (try clear hi); obtain ⟨hcz18_0, hcz18_1, hcz18_2⟩ := bc3_ BK240.out; obtain ⟨hfz18_0, hfz18_1, hfz18_2⟩ := bf3_ BK240.out))
  go_ret
  exact ⟨by first | rfl | (simp [errW_none, errW_some] <;> rfl) | (simp [*, errW_none, errW_some] <;> rfl), m74_⟩
 rw [if_pos c5] at H
 have c5b0 : decide (a0_1 ≤ 7) = true := decide_eq_true c5
 clear c5
 by_cases c6 : a0_2 ≥ 0
 ·rw [if_pos c6] at H
  have c6b0 : decide (0 ≤ a0_2) = true := decide_eq_true c6
  clear c6
  obtain rfl := Option.some.inj H
  go_enter Tryd.func38, Tryd.ntmps38
  go_wp2_with (first | ((with_reducible refine gate_dst (N := 1) rfl ?_); refine box_event ?hg (N := 1) ?hd (cs := #[.string a0_0, .int .i64 a0_1, .int .i64 a0_2]) (t := 35) ?hr ?_; (case hd => rfl); (case hg => rfl); (case hr => first | (go_simp; done) | (go_simp; rfl)); intro gb240 hg w7 hbox hb; have n0_ := Aside0.mk (below_step m31_ hb); have n1_ := Aside0.mk (hbox); have n2_ := Aside0.mk ((by rw [hg]; exact (below_size m31_) : w.heap.size ≤ gb240)); have n3_ := Aside0.mk ((by rw [hg]; exact (below_size m31_) : w.heap.size ≤ gb240)); clear HB; have HB := n0_; have BK240 := n1_; have GW240 := n2_; have GE240 := n3_; clear n0_ n1_ n2_ n3_; clear hb hbox hg; obtain ⟨hcz8_0, hcz8_1, hcz8_2⟩ := bc3_ BK240.out; obtain ⟨hfz8_0, hfz8_1, hfz8_2⟩ := bf3_ BK240.out) | ((with_reducible refine gate_callee (f := 45) rfl ?_); refine goesL_ (some 5) rfl rfl Tryd.func45 (by kernel_rfl) rfl #[.string a0_0] rfl m30_ ?_; (with_reducible refine (strongroomref05_Place.calls k a0_0 true _ A2.out).mono ?_); rintro e w9 ⟨rfl, hb⟩; refine ⟨_, rfl, ?_⟩; have n0_ := Aside0.mk (blk_below (g := gb240) (o := .cells #[.string a0_0, .int .i64 a0_1, .int .i64 a0_2] 35 (0, 0)) (bD_ BK240.out) hb); have n1_ := Aside0.mk (below_step m25_ hb); clear BK240; clear HB; have BK240 := n0_; have HB := n1_; clear n0_ n1_; (try clear hb); (try clear hb2); (try clear hk); (try clear hi); obtain ⟨hcz10_0, hcz10_1, hcz10_2⟩ := bc3_ BK240.out; obtain ⟨hfz10_0, hfz10_1, hfz10_2⟩ := bf3_ BK240.out))
  go_ret
  exact ⟨by first | rfl | (simp [errW_none, errW_some] <;> rfl) | (simp [*, errW_none, errW_some] <;> rfl), m74_⟩
 rw [if_neg c6] at H
 have c6b0 : decide (0 ≤ a0_2) = false := decide_eq_false c6
 clear c6
 obtain rfl := Option.some.inj H
 go_enter Tryd.func38, Tryd.ntmps38
 go_wp2_with (first | ((with_reducible refine gate_dst (N := 1) rfl ?_); refine box_event ?hg (N := 1) ?hd (cs := #[.string a0_0, .int .i64 a0_1, .int .i64 a0_2]) (t := 35) ?hr ?_; (case hd => rfl); (case hg => rfl); (case hr => first | (go_simp; done) | (go_simp; rfl)); intro gb240 hg w11 hbox hb; have n0_ := Aside0.mk (below_step m31_ hb); have n1_ := Aside0.mk (hbox); have n2_ := Aside0.mk ((by rw [hg]; exact (below_size m31_) : w.heap.size ≤ gb240)); have n3_ := Aside0.mk ((by rw [hg]; exact (below_size m31_) : w.heap.size ≤ gb240)); clear HB; have HB := n0_; have BK240 := n1_; have GW240 := n2_; have GE240 := n3_; clear n0_ n1_ n2_ n3_; clear hb hbox hg; obtain ⟨hcz12_0, hcz12_1, hcz12_2⟩ := bc3_ BK240.out; obtain ⟨hfz12_0, hfz12_1, hfz12_2⟩ := bf3_ BK240.out) | ((with_reducible refine gate_callee (f := 45) rfl ?_); refine goesL_ (some 5) rfl rfl Tryd.func45 (by kernel_rfl) rfl #[.string a0_0] rfl m30_ ?_; (with_reducible refine (strongroomref05_Place.calls k a0_0 true _ A2.out).mono ?_); rintro e w13 ⟨rfl, hb⟩; refine ⟨_, rfl, ?_⟩; have n0_ := Aside0.mk (blk_below (g := gb240) (o := .cells #[.string a0_0, .int .i64 a0_1, .int .i64 a0_2] 35 (0, 0)) (bD_ BK240.out) hb); have n1_ := Aside0.mk (below_step m25_ hb); clear BK240; clear HB; have BK240 := n0_; have HB := n1_; clear n0_ n1_; (try clear hb); (try clear hb2); (try clear hk); (try clear hi); obtain ⟨hcz14_0, hcz14_1, hcz14_2⟩ := bc3_ BK240.out; obtain ⟨hfz14_0, hfz14_1, hfz14_2⟩ := bf3_ BK240.out))
 go_ret
 exact ⟨by first | rfl | (simp [errW_none, errW_some] <;> rfl) | (simp [*, errW_none, errW_some] <;> rfl), m74_⟩

/-! ### strongroomref12_May: function 19 -/
mutual
def strongroomref12_May.j0 : Nat → Bool → Int → Int → List (S35) → ByteArray → Option (Bool)
 | 0, _, _, _, _, _ => none
 | k + 1, x21, x243000, x243001, x243002, x243003 => if x21 = true then (some false) else (strongroomref12_May.l0 k 0 x243000 x243001 x243002 x243003)
def strongroomref12_May.l0 : Nat → Int → Int → Int → List (S35) → ByteArray → Option (Bool)
 | 0, _, _, _, _, _ => none
 | k + 1, x3, x243000, x243001, x243002, x243003 => if x3 < (x243002.length : Int) then (if 0 ≤ x3 then ((strongroomref12_Good.f k ((rd_T35 x243002 x3).f0) ((rd_T35 x243002 x3).f1) ((rd_T35 x243002 x3).f2)).bind fun t245 => (if t245 = true then (strongroomref12_May.l0 k (wrap64 (x3 + 1)) x243000 x243001 x243002 x243003) else (some false))) else (none)) else (some true)
end
def strongroomref12_May.f (k : Nat) (a0_0 : Int) (a0_1 : Int) (l0_2 : List (S35)) (a0_3 : ByteArray) : Option (Bool) := (strongroomref12_Known.f a0_0 a0_1).bind fun t243 => (if t243 = true then (if (l0_2.length : Int) > 8 then (strongroomref12_May.j0 k true a0_0 a0_1 l0_2 a0_3) else (strongroomref12_May.j0 k ((a0_3.size : Int) != 32) a0_0 a0_1 l0_2 a0_3)) else (strongroomref12_May.j0 k true a0_0 a0_1 l0_2 a0_3))
theorem strongroomref12_May.mono_l : ∀ k, (∀ y0 y1 y2 y3 y4, LeO (strongroomref12_May.j0 k y0 y1 y2 y3 y4) (strongroomref12_May.j0 (k + 1) y0 y1 y2 y3 y4)) ∧ (∀ y0 y1 y2 y3 y4, LeO (strongroomref12_May.l0 k y0 y1 y2 y3 y4) (strongroomref12_May.l0 (k + 1) y0 y1 y2 y3 y4))
 | 0 => ⟨fun _ _ _ _ _ r h => by simp [strongroomref12_May.j0] at h, fun _ _ _ _ _ r h => by simp [strongroomref12_May.l0] at h⟩
 | k + 1 => by
  obtain ⟨ih0, ih1⟩ := strongroomref12_May.mono_l k
  refine ⟨?_, ?_⟩
  ·intro y0 y1 y2 y3 y4
   unfold strongroomref12_May.j0
   repeat' first
   | (with_reducible exact ih0 _ _ _ _ _)
   | (with_reducible exact ih1 _ _ _ _ _)
   | (with_reducible exact strongroomref12_Good.mono _ _ _ _)
   | (with_reducible exact LeO.refl _)
   | (with_reducible exact LeO.none _)
   | (with_reducible refine LeO.ite ?_ ?_)
   | (with_reducible refine LeO.bind ?_ (fun _ => ?_))
   | exact ih0 _ _ _ _ _
   | exact ih1 _ _ _ _ _
   | exact strongroomref12_Good.mono _ _ _ _
   | exact LeO.none _
   | refine LeO.ite ?_ ?_
   | refine LeO.bind ?_ (fun _ => ?_)
  ·intro y0 y1 y2 y3 y4
   unfold strongroomref12_May.l0
   repeat' first
   | (with_reducible exact ih0 _ _ _ _ _)
   | (with_reducible exact ih1 _ _ _ _ _)
   | (with_reducible exact strongroomref12_Good.mono _ _ _ _)
   | (with_reducible exact LeO.refl _)
   | (with_reducible exact LeO.none _)
   | (with_reducible refine LeO.ite ?_ ?_)
   | (with_reducible refine LeO.bind ?_ (fun _ => ?_))
   | exact ih0 _ _ _ _ _
   | exact ih1 _ _ _ _ _
   | exact strongroomref12_Good.mono _ _ _ _
   | exact LeO.none _
   | refine LeO.ite ?_ ?_
   | refine LeO.bind ?_ (fun _ => ?_)
theorem strongroomref12_May.mono : ∀ a0 a1 a2 a3 k, LeO (strongroomref12_May.f k a0 a1 a2 a3) (strongroomref12_May.f (k + 1) a0 a1 a2 a3) := by
 intro a0 a1 a2 a3 k
 obtain ⟨ih0, ih1⟩ := strongroomref12_May.mono_l k
 unfold strongroomref12_May.f
 repeat' first
   | (with_reducible exact ih0 _ _ _ _ _)
   | (with_reducible exact ih1 _ _ _ _ _)
   | (with_reducible exact strongroomref12_Good.mono _ _ _ _)
   | (with_reducible exact LeO.refl _)
   | (with_reducible exact LeO.none _)
   | (with_reducible refine LeO.ite ?_ ?_)
   | (with_reducible refine LeO.bind ?_ (fun _ => ?_))
   | exact ih0 _ _ _ _ _
   | exact ih1 _ _ _ _ _
   | exact strongroomref12_Good.mono _ _ _ _
   | exact LeO.none _
   | refine LeO.ite ?_ ?_
   | refine LeO.bind ?_ (fun _ => ?_)
set_option maxHeartbeats 8000000 in
set_option maxRecDepth 100000 in
theorem strongroomref12_May.calls (k : Nat) (a0_0 : Int) (a0_1 : Int) (A0_2 : Option Addr) (c0_2 : Nat) (l0_2 : List (S35)) (a0_3 : ByteArray) (r : Bool) (w : World) (hr0_2 : Kd.C k35 w A0_2 l0_2.length l0_2) (hc0_2 : l0_2.length ≤ c0_2) (h : strongroomref12_May.f k a0_0 a0_1 l0_2 a0_3 = some r) :
  Calls Tryd.prog 19 #[.agg #[.int .i64 a0_0, .int .i64 a0_1, .slice A0_2 l0_2.length c0_2, .string a0_3]] w fun e w' => e = .returned (.bool r) ∧ Below w.heap.size w w' := by
 have hu25 := Tryd.underlying25
 have hu35 := Tryd.underlying35
 have HR0_2 := Aside0.mk hr0_2
 have HC0_2 := Aside0.mk hc0_2
 clear hr0_2 hc0_2
 have HB := Aside0.mk (Below.refl w.heap.size w)
 have H : ((strongroomref12_Known.f a0_0 a0_1).bind fun t243 => (if t243 = true then (if (l0_2.length : Int) > 8 then (strongroomref12_May.j0 k true a0_0 a0_1 l0_2 a0_3) else (strongroomref12_May.j0 k ((a0_3.size : Int) != 32) a0_0 a0_1 l0_2 a0_3)) else (strongroomref12_May.j0 k true a0_0 a0_1 l0_2 a0_3))) = some r := h
 clear h
 have HC2 := Aside0.mk H
 clear H
 go_enter Tryd.func19, Tryd.ntmps19
 go_upto_region 1 with (first | ((with_reducible refine gate_dst (N := 1) rfl ?_); (try (refine gate_guard (by rfl) ?_; dsimp only)); refine box_event ?hg (N := 1) ?hd (cs := #[.int .i64 a0_0, .int .i64 a0_1, .slice A0_2 l0_2.length c0_2, .string a0_3]) (t := 25) ?hr ?_; (case hd => rfl); (case hg => rfl); (case hr => first | (go_simp; done) | (go_simp; rfl)); intro gb242 hg w3 hbox hb; have n0_ := Aside0.mk (below_step m31_ hb); have n1_ := Aside0.mk (hbox); have n2_ := Aside0.mk ((by rw [hg]; exact (below_size m31_) : w.heap.size ≤ gb242)); have n3_ := Aside0.mk ((by rw [hg]; exact (below_size m31_) : w.heap.size ≤ gb242)); clear HB; have HB := n0_; have BK242 := n1_; have GW242 := n2_; have GE242 := n3_; clear n0_ n1_ n2_ n3_; clear hb hbox hg))
 (try simp only [Act.put, List.setIfInBounds_toArray, List.set_cons_zero, List.set_cons_succ])
 go_cut [21] (fun v21 wc => ∃ (kq : Nat) (x21_1 : Bool), v21 = .bool x21_1 ∧ Aside0 (strongroomref12_May.j0 kq x21_1 a0_0 a0_1 l0_2 a0_3 = some r) ∧ Aside0 (kq ≤ k) ∧ Aside0 (wc.heap[gb242]? = some (.cells #[.int .i64 a0_0, .int .i64 a0_1, (.slice A0_2 l0_2.length c0_2), .string a0_3] 25 (0, 0))) ∧ Aside0 (Below w.heap.size w wc))
 case first =>
  have H := HC2.out
  clear HC2
  replace H := Option.bind_eq_some_iff.mp H
  obtain ⟨t243, A40, H⟩ := H
  replace H : (if t243 = true then (if (l0_2.length : Int) > 8 then (strongroomref12_May.j0 k true a0_0 a0_1 l0_2 a0_3) else (strongroomref12_May.j0 k ((a0_3.size : Int) != 32) a0_0 a0_1 l0_2 a0_3)) else (strongroomref12_May.j0 k true a0_0 a0_1 l0_2 a0_3)) = some r := H
  have A4 := Aside0.mk A40
  clear A40
  by_cases c5 : t243 = true
  case neg =>
   replace c5 := Bool.eq_false_iff.mpr c5
   subst c5
   have H1 : (strongroomref12_May.j0 k true a0_0 a0_1 l0_2 a0_3) = some r := by rw [if_neg (show ¬ (false = true) by decide)] at H; exact H
   clear H
   have H := H1
   clear H1
   have H' := Aside0.mk H
   clear H
   obtain ⟨hcz9_0, hcz9_1, hcz9_2, hcz9_3⟩ := bc4_ BK242.out
   obtain ⟨hfz9_0, hfz9_1, hfz9_2, hfz9_3⟩ := bf4_ BK242.out
   go_wp2_with (first | ((with_reducible refine gate_callee (f := 12) rfl ?_); refine goesL_ (some 8) rfl rfl Tryd.func12 (by kernel_rfl) rfl #[.int .i64 a0_0, .int .i64 a0_1] rfl m30_ ?_; (with_reducible refine (strongroomref12_Known.calls a0_0 a0_1 false _ A4.out).mono ?_); rintro e w' ⟨rfl, ⟨nd, rfl⟩⟩; refine ⟨_, rfl, ?_⟩))
   go_meet
   case rel => exact ⟨_, (true), m55_, H', ⟨by first | omega | exact Nat.le_refl _⟩, ⟨by refine bD_ ?_; exact BK242.out⟩, ⟨m75_⟩⟩
  subst c5
  have H1 : (if (l0_2.length : Int) > 8 then (strongroomref12_May.j0 k true a0_0 a0_1 l0_2 a0_3) else (strongroomref12_May.j0 k ((a0_3.size : Int) != 32) a0_0 a0_1 l0_2 a0_3)) = some r := by rw [if_pos rfl] at H; exact H
  clear H
  have H := H1
  clear H1
  by_cases c6 : (l0_2.length : Int) > 8
  ·rw [if_pos c6] at H
   have c6b0 : decide (8 < (l0_2.length : Int)) = true := decide_eq_true c6
   have c6b1 : decide (8 < l0_2.length) = true := decide_eq_true (by omega)
   clear c6
   (first | rw [c6b0] | (simp only [i64_w, i32_w]; rw [c6b0]) | skip)
   have H' := Aside0.mk H
   clear H
   obtain ⟨hcz7_0, hcz7_1, hcz7_2, hcz7_3⟩ := bc4_ BK242.out
   obtain ⟨hfz7_0, hfz7_1, hfz7_2, hfz7_3⟩ := bf4_ BK242.out
   go_wp2_with (first | ((with_reducible refine gate_callee (f := 12) rfl ?_); refine goesL_ (some 8) rfl rfl Tryd.func12 (by kernel_rfl) rfl #[.int .i64 a0_0, .int .i64 a0_1] rfl m30_ ?_; (with_reducible refine (strongroomref12_Known.calls a0_0 a0_1 true _ A4.out).mono ?_); rintro e w' ⟨rfl, ⟨nd, rfl⟩⟩; refine ⟨_, rfl, ?_⟩))
   go_meet
   case rel => exact ⟨_, (true), m55_, H', ⟨by first | omega | exact Nat.le_refl _⟩, ⟨by refine bD_ ?_; exact BK242.out⟩, ⟨m75_⟩⟩
  rw [if_neg c6] at H
  have c6b0 : decide (8 < (l0_2.length : Int)) = false := decide_eq_false c6
  have c6b1 : decide (8 < l0_2.length) = false := decide_eq_false (by omega)
  clear c6
  (first | rw [c6b0] | (simp only [i64_w, i32_w]; rw [c6b0]) | skip)
  have H' := Aside0.mk H
  clear H
  obtain ⟨hcz8_0, hcz8_1, hcz8_2, hcz8_3⟩ := bc4_ BK242.out
  obtain ⟨hfz8_0, hfz8_1, hfz8_2, hfz8_3⟩ := bf4_ BK242.out
  go_wp2_with (first | ((with_reducible refine gate_callee (f := 12) rfl ?_); refine goesL_ (some 8) rfl rfl Tryd.func12 (by kernel_rfl) rfl #[.int .i64 a0_0, .int .i64 a0_1] rfl m30_ ?_; (with_reducible refine (strongroomref12_Known.calls a0_0 a0_1 true _ A4.out).mono ?_); rintro e w' ⟨rfl, ⟨nd, rfl⟩⟩; refine ⟨_, rfl, ?_⟩))
  go_meet
  case rel => exact ⟨_, (((a0_3.size : Int) != 32)), m55_, H', ⟨by first | omega | exact Nat.le_refl _⟩, ⟨by refine bD_ ?_; exact BK242.out⟩, ⟨m75_⟩⟩
 clear HC2
 obtain ⟨kq, x21_1, rfl, HA, HJ1, BK242, HB⟩ := hcut
 cases kq with
 | zero => exact absurd HA.out (by simp [strongroomref12_May.j0])
 | succ kj1 =>
  have H := HA.out
  clear HA
  simp only [strongroomref12_May.j0] at H
  by_cases c10 : x21_1 = true
  ·subst c10
   have H1 : (some false) = some r := by rw [if_pos rfl] at H; exact H
   clear H
   have H := H1
   clear H1
   obtain rfl := Option.some.inj H
   go_wp2
   go_ret
   exact ⟨by first | rfl | (simp [errW_none, errW_some] <;> rfl) | (simp [*, errW_none, errW_some] <;> rfl), m75_⟩
  replace c10 := Bool.eq_false_iff.mpr c10
  subst c10
  have H1 : (strongroomref12_May.l0 kj1 0 a0_0 a0_1 l0_2 a0_3) = some r := by rw [if_neg (show ¬ (false = true) by decide)] at H; exact H
  clear H
  have H := H1
  clear H1
  have H' := Aside0.mk H
  clear H
  go_wp2
  go_loopg [3] kj1 (fun kq v3 w' => ∃ (x3_2 : Int), v3 = .int .i64 x3_2 ∧ Aside0 (strongroomref12_May.l0 kq x3_2 a0_0 a0_1 l0_2 a0_3 = some r) ∧ Aside0 (kq ≤ kj1) ∧ Aside0 (w'.heap[gb242]? = some (.cells #[.int .i64 a0_0, .int .i64 a0_1, (.slice A0_2 l0_2.length c0_2), .string a0_3] 25 (0, 0))) ∧ Aside0 (Below w.heap.size w w'))
  case atStart => exact ⟨(0), m55_, H', ⟨Nat.le_refl _⟩, ⟨by refine bD_ ?_; exact BK242.out⟩, ⟨m75_⟩⟩
  clear H'
  try clear c10
  obtain ⟨x3_2, rfl, HA, HK2, BK242, HB⟩ := hrel
  cases gk with
  | zero => exact absurd HA.out (by simp [strongroomref12_May.l0])
  | succ k2 =>
   have H := HA.out
   clear HA
   simp only [strongroomref12_May.l0] at H
   by_cases c11 : x3_2 < (l0_2.length : Int)
   case neg =>
    rw [if_neg c11] at H
    have c11b0 : decide (x3_2 < (l0_2.length : Int)) = false := decide_eq_false c11
    clear c11
    obtain rfl := Option.some.inj H
    obtain ⟨hcz19_0, hcz19_1, hcz19_2, hcz19_3⟩ := bc4_ BK242.out
    obtain ⟨hfz19_0, hfz19_1, hfz19_2, hfz19_3⟩ := bf4_ BK242.out
    go_wp2
    go_ret
    exact ⟨by first | rfl | (simp [errW_none, errW_some] <;> rfl) | (simp [*, errW_none, errW_some] <;> rfl), m75_⟩
   rw [if_pos c11] at H
   have c11b0 : decide (x3_2 < (l0_2.length : Int)) = true := decide_eq_true c11
   clear c11
   by_cases c12 : 0 ≤ x3_2
   case neg =>
    rw [if_neg c12] at H
    exact absurd H (by simp)
   rw [if_pos c12] at H
   have c12b0 : decide (0 ≤ x3_2) = true := decide_eq_true c12
   clear c12
   replace H := Option.bind_eq_some_iff.mp H
   obtain ⟨t245, A130, H⟩ := H
   replace H : (if t245 = true then (strongroomref12_May.l0 k2 (wrap64 (x3_2 + 1)) a0_0 a0_1 l0_2 a0_3) else (some false)) = some r := H
   have A13 := Aside0.mk A130
   clear A130
   by_cases c14 : t245 = true
   case neg =>
    replace c14 := Bool.eq_false_iff.mpr c14
    subst c14
    have H1 : (some false) = some r := by rw [if_neg (show ¬ (false = true) by decide)] at H; exact H
    clear H
    have H := H1
    clear H1
    obtain rfl := Option.some.inj H
    obtain ⟨hcz17_0, hcz17_1, hcz17_2, hcz17_3⟩ := bc4_ BK242.out
    obtain ⟨hfz17_0, hfz17_1, hfz17_2, hfz17_3⟩ := bf4_ BK242.out
    have p244 : 0 ≤ (x3_2 : Int) := of_decide_eq_true m54_
    have q244 : x3_2 < (l0_2.length : Int) := of_decide_eq_true m54_
    obtain ⟨ad244, e244, hx244_0, hx244_1, hx244_2⟩ := at_T35 HR0_2.out x3_2 p244 q244
    cases e244
    replace hx244_0 := (HB.out.cell (World.block_lt_of_cell? w _ hx244_0)).trans hx244_0
    replace hx244_1 := (HB.out.cell (World.block_lt_of_cell? w _ hx244_1)).trans hx244_1
    replace hx244_2 := (HB.out.cell (World.block_lt_of_cell? w _ hx244_2)).trans hx244_2
    replace p244 := eq_true p244
    replace q244 := eq_true q244
    go_wp2_with (first | ((with_reducible refine gate_callee (f := 38) rfl ?_); refine goesL_ (some 34) rfl rfl Tryd.func38 (by kernel_rfl) rfl #[.agg #[.string ((rd_T35 l0_2 x3_2).f0), .int .i64 ((rd_T35 l0_2 x3_2).f1), .int .i64 ((rd_T35 l0_2 x3_2).f2)]] rfl m30_ ?_; (with_reducible refine (strongroomref12_Good.calls k2 ((rd_T35 l0_2 x3_2).f0) ((rd_T35 l0_2 x3_2).f1) ((rd_T35 l0_2 x3_2).f2) false _ A13.out).mono ?_); rintro e w18 ⟨rfl, hb⟩; refine ⟨_, rfl, ?_⟩; have n0_ := Aside0.mk (blk_below (g := gb242) (o := .cells #[.int .i64 a0_0, .int .i64 a0_1, .slice (some ad244) l0_2.length c0_2, .string a0_3] 25 (0, 0)) (bD_ BK242.out) hb); have n1_ := Aside0.mk (below_step (by repeat (first | (with_reducible first | exact HB.out | apply below_alloc | apply pw_below_drewN | apply below_drew1 | refine below_set ?_ GE242.out) | exact HB.out)) hb); clear BK242; clear HB; have BK242 := n0_; have HB := n1_; clear n0_ n1_; (try clear hb); (try clear hb2); (try clear hk); (try clear hi)))
    go_ret
    exact ⟨by first | rfl | (simp [errW_none, errW_some] <;> rfl) | (simp [*, errW_none, errW_some] <;> rfl), m75_⟩
   subst c14
   have H1 : (strongroomref12_May.l0 k2 (wrap64 (x3_2 + 1)) a0_0 a0_1 l0_2 a0_3) = some r := by rw [if_pos rfl] at H; exact H
   clear H
   have H := H1
   clear H1
   have H' := Aside0.mk H
   clear H
   obtain ⟨hcz15_0, hcz15_1, hcz15_2, hcz15_3⟩ := bc4_ BK242.out
   obtain ⟨hfz15_0, hfz15_1, hfz15_2, hfz15_3⟩ := bf4_ BK242.out
   have p244 : 0 ≤ (x3_2 : Int) := of_decide_eq_true m54_
   have q244 : x3_2 < (l0_2.length : Int) := of_decide_eq_true m54_
   obtain ⟨ad244, e244, hx244_0, hx244_1, hx244_2⟩ := at_T35 HR0_2.out x3_2 p244 q244
   cases e244
   replace hx244_0 := (HB.out.cell (World.block_lt_of_cell? w _ hx244_0)).trans hx244_0
   replace hx244_1 := (HB.out.cell (World.block_lt_of_cell? w _ hx244_1)).trans hx244_1
   replace hx244_2 := (HB.out.cell (World.block_lt_of_cell? w _ hx244_2)).trans hx244_2
   replace p244 := eq_true p244
   replace q244 := eq_true q244
   go_wp2_with (first | ((with_reducible refine gate_callee (f := 38) rfl ?_); refine goesL_ (some 34) rfl rfl Tryd.func38 (by kernel_rfl) rfl #[.agg #[.string ((rd_T35 l0_2 x3_2).f0), .int .i64 ((rd_T35 l0_2 x3_2).f1), .int .i64 ((rd_T35 l0_2 x3_2).f2)]] rfl m30_ ?_; (with_reducible refine (strongroomref12_Good.calls k2 ((rd_T35 l0_2 x3_2).f0) ((rd_T35 l0_2 x3_2).f1) ((rd_T35 l0_2 x3_2).f2) true _ A13.out).mono ?_); rintro e w16 ⟨rfl, hb⟩; refine ⟨_, rfl, ?_⟩; have n0_ := Aside0.mk (blk_below (g := gb242) (o := .cells #[.int .i64 a0_0, .int .i64 a0_1, .slice (some ad244) l0_2.length c0_2, .string a0_3] 25 (0, 0)) (bD_ BK242.out) hb); have n1_ := Aside0.mk (below_step (by repeat (first | (with_reducible first | exact HB.out | apply below_alloc | apply pw_below_drewN | apply below_drew1 | refine below_set ?_ GE242.out) | exact HB.out)) hb); clear BK242; clear HB; have BK242 := n0_; have HB := n1_; clear n0_ n1_; (try clear hb); (try clear hb2); (try clear hk); (try clear hi)))
   go_roundg k2
   case measure => have := HJ1.out; have := HK2.out; omega
   case rel => exact ⟨(wrap64 (x3_2 + 1)), m55_, H', ⟨by have := HJ1.out; have := HK2.out; omega⟩, ⟨by refine bD_ ?_; exact BK242.out⟩, ⟨m75_⟩⟩

/-! ### num_Get: function 65 -/
mutual
def num_Get.j0 : Nat → List Int → Int → Bool → Option (Int × Int × Int)
 | 0, _, _, _ => none
 | k + 1, x0, x1, x17 => if x17 = true then (some (0, 0, 9)) else (num_Get.l0 k x0 x1 0 0)
def num_Get.l0 : Nat → List Int → Int → Int → Int → Option (Int × Int × Int)
 | 0, _, _, _, _ => none
 | k + 1, x0, x1, x7, x18 => if x18 < 10 then (if (wrap64 (x1 + x18)) = (x0.length : Int) then (some (0, 0, 3)) else (if 0 ≤ (wrap64 (x1 + x18)) then (if (wrap64 (x1 + x18)) < (x0.length : Int) then (if (rd x0 (wrap64 (x1 + x18))) < 128 then (if (rd x0 (wrap64 (x1 + x18))) = 0 then (if x18 > 0 then (some (0, 0, 4)) else (if x18 = 9 then (if (rd x0 (wrap64 (x1 + x18))) > 1 then (some (0, 0, 4)) else (if 0 ≤ (wrap64 (7 * x18)) then (some (Go.bits .or .u64 x7 (shl .u64 (IntKind.u64.wrap (rd x0 (wrap64 (x1 + x18)))) (wrap64 (7 * x18))), wrap64 ((wrap64 (x1 + x18)) + 1), 0)) else (none))) else (if 0 ≤ (wrap64 (7 * x18)) then (some (Go.bits .or .u64 x7 (shl .u64 (IntKind.u64.wrap (rd x0 (wrap64 (x1 + x18)))) (wrap64 (7 * x18))), wrap64 ((wrap64 (x1 + x18)) + 1), 0)) else (none)))) else (if x18 = 9 then (if (rd x0 (wrap64 (x1 + x18))) > 1 then (some (0, 0, 4)) else (if 0 ≤ (wrap64 (7 * x18)) then (some (Go.bits .or .u64 x7 (shl .u64 (IntKind.u64.wrap (rd x0 (wrap64 (x1 + x18)))) (wrap64 (7 * x18))), wrap64 ((wrap64 (x1 + x18)) + 1), 0)) else (none))) else (if 0 ≤ (wrap64 (7 * x18)) then (some (Go.bits .or .u64 x7 (shl .u64 (IntKind.u64.wrap (rd x0 (wrap64 (x1 + x18)))) (wrap64 (7 * x18))), wrap64 ((wrap64 (x1 + x18)) + 1), 0)) else (none)))) else (if 0 ≤ (wrap64 (7 * x18)) then (num_Get.l0 k x0 x1 (Go.bits .or .u64 x7 (shl .u64 (IntKind.u64.wrap (Go.bits .and .u8 (rd x0 (wrap64 (x1 + x18))) 127)) (wrap64 (7 * x18)))) (wrap64 (x18 + 1))) else (none))) else (none)) else (none))) else (some (0, 0, 4))
end
def num_Get.f (k : Nat) (l0 : List Int) (a1 : Int) : Option (Int × Int × Int) := if a1 < 0 then (num_Get.j0 k l0 a1 true) else (num_Get.j0 k l0 a1 (decide (a1 > (l0.length : Int))))
theorem num_Get.mono_l : ∀ k, (∀ y0 y1 y2, LeO (num_Get.j0 k y0 y1 y2) (num_Get.j0 (k + 1) y0 y1 y2)) ∧ (∀ y0 y1 y2 y3, LeO (num_Get.l0 k y0 y1 y2 y3) (num_Get.l0 (k + 1) y0 y1 y2 y3))
 | 0 => ⟨fun _ _ _ r h => by simp [num_Get.j0] at h, fun _ _ _ _ r h => by simp [num_Get.l0] at h⟩
 | k + 1 => by
  obtain ⟨ih0, ih1⟩ := num_Get.mono_l k
  refine ⟨?_, ?_⟩
  ·intro y0 y1 y2
   unfold num_Get.j0
   repeat' first
   | (with_reducible exact ih0 _ _ _)
   | (with_reducible exact ih1 _ _ _ _)
   | (with_reducible exact LeO.refl _)
   | (with_reducible exact LeO.none _)
   | (with_reducible refine LeO.ite ?_ ?_)
   | (with_reducible refine LeO.bind ?_ (fun _ => ?_))
   | exact ih0 _ _ _
   | exact ih1 _ _ _ _
   | exact LeO.none _
   | refine LeO.ite ?_ ?_
   | refine LeO.bind ?_ (fun _ => ?_)
  ·intro y0 y1 y2 y3
   unfold num_Get.l0
   repeat' first
   | (with_reducible exact ih0 _ _ _)
   | (with_reducible exact ih1 _ _ _ _)
   | (with_reducible exact LeO.refl _)
   | (with_reducible exact LeO.none _)
   | (with_reducible refine LeO.ite ?_ ?_)
   | (with_reducible refine LeO.bind ?_ (fun _ => ?_))
   | exact ih0 _ _ _
   | exact ih1 _ _ _ _
   | exact LeO.none _
   | refine LeO.ite ?_ ?_
   | refine LeO.bind ?_ (fun _ => ?_)
theorem num_Get.mono : ∀ a0 a1 k, LeO (num_Get.f k a0 a1) (num_Get.f (k + 1) a0 a1) := by
 intro a0 a1 k
 obtain ⟨ih0, ih1⟩ := num_Get.mono_l k
 unfold num_Get.f
 repeat' first
   | (with_reducible exact ih0 _ _ _)
   | (with_reducible exact ih1 _ _ _ _)
   | (with_reducible exact LeO.refl _)
   | (with_reducible exact LeO.none _)
   | (with_reducible refine LeO.ite ?_ ?_)
   | (with_reducible refine LeO.bind ?_ (fun _ => ?_))
   | exact ih0 _ _ _
   | exact ih1 _ _ _ _
   | exact LeO.none _
   | refine LeO.ite ?_ ?_
   | refine LeO.bind ?_ (fun _ => ?_)
set_option maxHeartbeats 8000000 in
set_option maxRecDepth 100000 in
theorem num_Get.calls (k : Nat) (A0 : Option Addr) (c0 : Nat) (l0 : List Int) (a1 : Int) (r1 : Int) (r2 : Int) (r3 : Int) (w : World) (hr0 : Kd.C (Kd.int .u8) w A0 l0.length l0) (hc0 : l0.length ≤ c0) (h : num_Get.f k l0 a1 = some (r1, r2, r3)) :
  Calls Tryd.prog 65 #[.slice A0 l0.length c0, .int .i64 a1] w fun e w' => e = .returned (.tuple #[.int .u64 r1, .int .i64 r2, .int .i64 r3]) ∧ Drawn0 w w' := by
 have HR0 := Aside0.mk hr0
 have HC0 := Aside0.mk hc0
 clear hr0 hc0
 have H : (if a1 < 0 then (num_Get.j0 k l0 a1 true) else (num_Get.j0 k l0 a1 (decide (a1 > (l0.length : Int))))) = some (r1, r2, r3) := h
 clear h
 have HC3 := Aside0.mk H
 clear H
 go_enter Tryd.func65, Tryd.ntmps65
 go_upto_region 1 with (fail)
 go_cut [17] (fun v17 wc => ∃ (kq : Nat) (x17_2 : Bool), v17 = .bool x17_2 ∧ Aside0 (num_Get.j0 kq l0 a1 x17_2 = some (r1, r2, r3)) ∧ Aside0 (kq ≤ k) ∧ Drawn0 w wc)
 case first =>
  have H := HC3.out
  clear HC3
  by_cases c4 : a1 < 0
  ·rw [if_pos c4] at H
   have c4b0 : decide (a1 < 0) = true := decide_eq_true c4
   clear c4
   (first | rw [c4b0] | (simp only [i64_w, i32_w]; rw [c4b0]) | skip)
   have H' := Aside0.mk H
   clear H
   go_wp2
   go_meet
   case rel => exact ⟨_, (true), m55_, H', ⟨by first | omega | exact Nat.le_refl _⟩, m84_⟩
  rw [if_neg c4] at H
  have c4b0 : decide (a1 < 0) = false := decide_eq_false c4
  clear c4
  (first | rw [c4b0] | (simp only [i64_w, i32_w]; rw [c4b0]) | skip)
  have H' := Aside0.mk H
  clear H
  go_wp2
  go_meet
  case rel => exact ⟨_, (decide (a1 > (l0.length : Int))), m55_, H', ⟨by first | omega | exact Nat.le_refl _⟩, m84_⟩
 clear HC3
 obtain ⟨kq, x17_2, rfl, HA, HJ2, ⟨mc2, rfl⟩⟩ := hcut
 cases kq with
 | zero => exact absurd HA.out (by simp [num_Get.j0])
 | succ kj2 =>
  have H := HA.out
  clear HA
  simp only [num_Get.j0] at H
  by_cases c5 : x17_2 = true
  ·subst c5
   have H1 : (some (0, 0, 9)) = some (r1, r2, r3) := by rw [if_pos rfl] at H; exact H
   clear H
   have H := H1
   clear H1
   simp only [Option.some.injEq, Prod.mk.injEq] at H
   obtain ⟨rfl, rfl, rfl⟩ := H
   go_wp2
   go_ret3
   exact ⟨by first | rfl | (simp; done) | (simp [*]; done), m84_⟩
  replace c5 := Bool.eq_false_iff.mpr c5
  subst c5
  have H1 : (num_Get.l0 kj2 l0 a1 0 0) = some (r1, r2, r3) := by rw [if_neg (show ¬ (false = true) by decide)] at H; exact H
  clear H
  have H := H1
  clear H1
  have H' := Aside0.mk H
  clear H
  go_wp2
  go_loopg [7, 18] kj2 (fun kq v7 v18 w' => ∃ (x7_2 : Int) (x18_2 : Int), v7 = .int .u64 x7_2 ∧ v18 = .int .i64 x18_2 ∧ Aside0 (num_Get.l0 kq l0 a1 x7_2 x18_2 = some (r1, r2, r3)) ∧ Aside0 (kq ≤ kj2) ∧ Drawn0 w w')
  case atStart => exact ⟨(0), (0), m55_, m55_, H', ⟨Nat.le_refl _⟩, m84_⟩
  clear H'
  try clear c5
  obtain ⟨x7_2, x18_2, rfl, rfl, HA, HK2, ⟨m2, rfl⟩⟩ := hrel
  cases gk with
  | zero => exact absurd HA.out (by simp [num_Get.l0])
  | succ k2 =>
   have H := HA.out
   clear HA
   simp only [num_Get.l0] at H
   by_cases c6 : x18_2 < 10
   case neg =>
    rw [if_neg c6] at H
    have c6b0 : decide (x18_2 < 10) = false := decide_eq_false c6
    clear c6
    simp only [Option.some.injEq, Prod.mk.injEq] at H
    obtain ⟨rfl, rfl, rfl⟩ := H
    go_wp2
    go_ret3
    exact ⟨by first | rfl | (simp; done) | (simp [*]; done), m84_⟩
   rw [if_pos c6] at H
   have c6b0 : decide (x18_2 < 10) = true := decide_eq_true c6
   clear c6
   by_cases c7 : (wrap64 (a1 + x18_2)) = (l0.length : Int)
   ·rw [if_pos c7] at H
    have c7b0 : ((wrap64 (a1 + x18_2)) == (l0.length : Int)) = true := beq_iff_eq.mpr c7
    have c7b1 : ((wrap64 (a1 + x18_2)) != (l0.length : Int)) = false := bne_eq_false_iff_eq.mpr c7
    clear c7
    simp only [Option.some.injEq, Prod.mk.injEq] at H
    obtain ⟨rfl, rfl, rfl⟩ := H
    go_wp2
    go_ret3
    exact ⟨by first | rfl | (simp; done) | (simp [*]; done), m84_⟩
   rw [if_neg c7] at H
   have c7b0 : ((wrap64 (a1 + x18_2)) == (l0.length : Int)) = false := beq_eq_false_iff_ne.mpr c7
   have c7b1 : ((wrap64 (a1 + x18_2)) != (l0.length : Int)) = true := bne_iff_ne.mpr c7
   obtain ⟨ji8, hji8⟩ : ∃ j_ : Int, (wrap64 (a1 + x18_2)) = j_ := ⟨_, rfl⟩
   replace H : (if 0 ≤ (ji8) then (if (ji8) < (l0.length : Int) then (if (rd l0 (ji8)) < 128 then (if (rd l0 (ji8)) = 0 then (if x18_2 > 0 then (some (0, 0, 4)) else (if x18_2 = 9 then (if (rd l0 (ji8)) > 1 then (some (0, 0, 4)) else (if 0 ≤ (wrap64 (7 * x18_2)) then (some (Go.bits .or .u64 x7_2 (shl .u64 (IntKind.u64.wrap (rd l0 (ji8))) (wrap64 (7 * x18_2))), wrap64 ((ji8) + 1), 0)) else (none))) else (if 0 ≤ (wrap64 (7 * x18_2)) then (some (Go.bits .or .u64 x7_2 (shl .u64 (IntKind.u64.wrap (rd l0 (ji8))) (wrap64 (7 * x18_2))), wrap64 ((ji8) + 1), 0)) else (none)))) else (if x18_2 = 9 then (if (rd l0 (ji8)) > 1 then (some (0, 0, 4)) else (if 0 ≤ (wrap64 (7 * x18_2)) then (some (Go.bits .or .u64 x7_2 (shl .u64 (IntKind.u64.wrap (rd l0 (ji8))) (wrap64 (7 * x18_2))), wrap64 ((ji8) + 1), 0)) else (none))) else (if 0 ≤ (wrap64 (7 * x18_2)) then (some (Go.bits .or .u64 x7_2 (shl .u64 (IntKind.u64.wrap (rd l0 (ji8))) (wrap64 (7 * x18_2))), wrap64 ((ji8) + 1), 0)) else (none)))) else (if 0 ≤ (wrap64 (7 * x18_2)) then (num_Get.l0 k2 l0 a1 (Go.bits .or .u64 x7_2 (shl .u64 (IntKind.u64.wrap (Go.bits .and .u8 (rd l0 (ji8)) 127)) (wrap64 (7 * x18_2)))) (wrap64 (x18_2 + 1))) else (none))) else (none)) else (none)) = some (r1, r2, r3) := by first | (rw [hji8] at H; exact H) | (simp only [hji8] at H ⊢; exact H)
   (try rw [hji8] at c7b0)
   (try rw [hji8] at c7b1)
   have hji8w : (IntKind.i64.wrap (a1 + x18_2)) = ji8 := (i64_w _).trans hji8
   by_cases c9 : 0 ≤ (ji8)
   case neg =>
    rw [if_neg c9] at H
    exact absurd H (by simp)
   rw [if_pos c9] at H
   have c9b0 : decide (0 ≤ (ji8)) = true := decide_eq_true c9
   clear c9
   by_cases c10 : (ji8) < (l0.length : Int)
   case neg =>
    rw [if_neg c10] at H
    exact absurd H (by simp)
   rw [if_pos c10] at H
   have c10b0 : decide ((ji8) < (l0.length : Int)) = true := decide_eq_true c10
   clear c10
   by_cases c11 : (rd l0 (ji8)) < 128
   case neg =>
    rw [if_neg c11] at H
    have c11b0 : decide ((rd l0 (ji8)) < 128) = false := decide_eq_false c11
    clear c11
    obtain ⟨ji30, hji30⟩ : ∃ j_ : Int, (wrap64 (7 * x18_2)) = j_ := ⟨_, rfl⟩
    replace H : (if 0 ≤ (ji30) then (num_Get.l0 k2 l0 a1 (Go.bits .or .u64 x7_2 (shl .u64 (IntKind.u64.wrap (Go.bits .and .u8 (rd l0 (ji8)) 127)) (ji30))) (wrap64 (x18_2 + 1))) else (none)) = some (r1, r2, r3) := by first | (rw [hji30] at H; exact H) | (simp only [hji30] at H ⊢; exact H)
    have hji30w : (IntKind.i64.wrap (7 * x18_2)) = ji30 := (i64_w _).trans hji30
    by_cases c31 : 0 ≤ (ji30)
    case neg =>
     rw [if_neg c31] at H
     exact absurd H (by simp)
    rw [if_pos c31] at H
    have c31b0 := eq_true c31
    have c31b1 : decide (0 ≤ (ji30)) = true := decide_eq_true c31
    clear c31
    obtain ⟨ji32, hji32⟩ : ∃ j_ : Int, (shl .u64 (IntKind.u64.wrap (Go.bits .and .u8 (rd l0 (ji8)) 127)) (ji30)) = j_ := ⟨_, rfl⟩
    replace H : (num_Get.l0 k2 l0 a1 (Go.bits .or .u64 x7_2 (ji32)) (wrap64 (x18_2 + 1))) = some (r1, r2, r3) := by first | (rw [hji32] at H; exact H) | (simp only [hji32] at H ⊢; exact H)
    have hji32_ : (IntKind.u64.wrap ((IntKind.u64.wrap (Go.bits .and .u8 (rd l0 (ji8)) 127)) * 2 ^ min (ji30).toNat 64)) = ji32 := hji32
    have hji32z : (ji30) ≤ 64 → (IntKind.u64.wrap ((IntKind.u64.wrap (Go.bits .and .u8 (rd l0 (ji8)) 127)) * 2 ^ (ji30).toNat)) = ji32 := shl_small hji32
    have H' := Aside0.mk H
    clear H
    have p246 : 0 ≤ ((ji8) : Int) := of_decide_eq_true m54_
    have q246 : (ji8) < (l0.length : Int) := of_decide_eq_true m54_
    obtain ⟨ad246, e246, hx246_0⟩ := Kd.at_int HR0.out (ji8) p246 q246
    cases e246
    replace p246 := eq_true p246
    replace q246 := eq_true q246
    go_wp2
    go_roundg k2
    case measure => have := HJ2.out; have := HK2.out; omega
    case rel => exact ⟨(Go.bits .or .u64 x7_2 (ji32)), (wrap64 (x18_2 + 1)), (by first | rfl | (simp; done) | (simp only [← hji32] <;> (first | rfl | simp)) | (simp [*]; done)), m55_, H', ⟨by have := HJ2.out; have := HK2.out; omega⟩, m84_⟩
   rw [if_pos c11] at H
   have c11b0 : decide ((rd l0 (ji8)) < 128) = true := decide_eq_true c11
   clear c11
   by_cases c12 : (rd l0 (ji8)) = 0
   case neg =>
    rw [if_neg c12] at H
    have c12b0 : ((rd l0 (ji8)) == 0) = false := beq_eq_false_iff_ne.mpr c12
    have c12b1 : ((rd l0 (ji8)) != 0) = true := bne_iff_ne.mpr c12
    by_cases c22 : x18_2 = 9
    case neg =>
     rw [if_neg c22] at H
     have c22b0 : (x18_2 == 9) = false := beq_eq_false_iff_ne.mpr c22
     have c22b1 : (x18_2 != 9) = true := bne_iff_ne.mpr c22
     obtain ⟨ji27, hji27⟩ : ∃ j_ : Int, (wrap64 (7 * x18_2)) = j_ := ⟨_, rfl⟩
     replace H : (if 0 ≤ (ji27) then (some (Go.bits .or .u64 x7_2 (shl .u64 (IntKind.u64.wrap (rd l0 (ji8))) (ji27)), wrap64 ((ji8) + 1), 0)) else (none)) = some (r1, r2, r3) := by first | (rw [hji27] at H; exact H) | (simp only [hji27] at H ⊢; exact H)
     have hji27w : (IntKind.i64.wrap (7 * x18_2)) = ji27 := (i64_w _).trans hji27
     by_cases c28 : 0 ≤ (ji27)
     case neg =>
      rw [if_neg c28] at H
      exact absurd H (by simp)
     rw [if_pos c28] at H
     have c28b0 := eq_true c28
     have c28b1 : decide (0 ≤ (ji27)) = true := decide_eq_true c28
     clear c28
     obtain ⟨ji29, hji29⟩ : ∃ j_ : Int, (shl .u64 (IntKind.u64.wrap (rd l0 (ji8))) (ji27)) = j_ := ⟨_, rfl⟩
     replace H : (some (Go.bits .or .u64 x7_2 (ji29), wrap64 ((ji8) + 1), 0)) = some (r1, r2, r3) := by first | (rw [hji29] at H; exact H) | (simp only [hji29] at H ⊢; exact H)
     have hji29_ : (IntKind.u64.wrap ((IntKind.u64.wrap (rd l0 (ji8))) * 2 ^ min (ji27).toNat 64)) = ji29 := hji29
     have hji29z : (ji27) ≤ 64 → (IntKind.u64.wrap ((IntKind.u64.wrap (rd l0 (ji8))) * 2 ^ (ji27).toNat)) = ji29 := shl_small hji29
     simp only [Option.some.injEq, Prod.mk.injEq] at H
     obtain ⟨rfl, rfl, rfl⟩ := H
     have p246 : 0 ≤ ((ji8) : Int) := of_decide_eq_true m54_
     have q246 : (ji8) < (l0.length : Int) := of_decide_eq_true m54_
     obtain ⟨ad246, e246, hx246_0⟩ := Kd.at_int HR0.out (ji8) p246 q246
     cases e246
     replace p246 := eq_true p246
     replace q246 := eq_true q246
     go_wp2
     go_ret3
     exact ⟨by first | rfl | (simp; done) | (simp only [← hji8, ← hji27, ← hji29] <;> (first | rfl | simp)) | (simp [*]; done), m84_⟩
    rw [if_pos c22] at H
    have c22b0 : (x18_2 == 9) = true := beq_iff_eq.mpr c22
    have c22b1 : (x18_2 != 9) = false := bne_eq_false_iff_eq.mpr c22
    clear c22
    by_cases c23 : (rd l0 (ji8)) > 1
    ·rw [if_pos c23] at H
     have c23b0 : decide (1 < (rd l0 (ji8))) = true := decide_eq_true c23
     clear c23
     simp only [Option.some.injEq, Prod.mk.injEq] at H
     obtain ⟨rfl, rfl, rfl⟩ := H
     have p246 : 0 ≤ ((ji8) : Int) := of_decide_eq_true m54_
     have q246 : (ji8) < (l0.length : Int) := of_decide_eq_true m54_
     obtain ⟨ad246, e246, hx246_0⟩ := Kd.at_int HR0.out (ji8) p246 q246
     cases e246
     replace p246 := eq_true p246
     replace q246 := eq_true q246
     go_wp2
     go_ret3
     exact ⟨by first | rfl | (simp; done) | (simp only [← hji8] <;> (first | rfl | simp)) | (simp [*]; done), m84_⟩
    rw [if_neg c23] at H
    have c23b0 : decide (1 < (rd l0 (ji8))) = false := decide_eq_false c23
    clear c23
    obtain ⟨ji24, hji24⟩ : ∃ j_ : Int, (wrap64 (7 * x18_2)) = j_ := ⟨_, rfl⟩
    replace H : (if 0 ≤ (ji24) then (some (Go.bits .or .u64 x7_2 (shl .u64 (IntKind.u64.wrap (rd l0 (ji8))) (ji24)), wrap64 ((ji8) + 1), 0)) else (none)) = some (r1, r2, r3) := by first | (rw [hji24] at H; exact H) | (simp only [hji24] at H ⊢; exact H)
    have hji24w : (IntKind.i64.wrap (7 * x18_2)) = ji24 := (i64_w _).trans hji24
    by_cases c25 : 0 ≤ (ji24)
    case neg =>
     rw [if_neg c25] at H
     exact absurd H (by simp)
    rw [if_pos c25] at H
    have c25b0 := eq_true c25
    have c25b1 : decide (0 ≤ (ji24)) = true := decide_eq_true c25
    clear c25
    obtain ⟨ji26, hji26⟩ : ∃ j_ : Int, (shl .u64 (IntKind.u64.wrap (rd l0 (ji8))) (ji24)) = j_ := ⟨_, rfl⟩
    replace H : (some (Go.bits .or .u64 x7_2 (ji26), wrap64 ((ji8) + 1), 0)) = some (r1, r2, r3) := by first | (rw [hji26] at H; exact H) | (simp only [hji26] at H ⊢; exact H)
    have hji26_ : (IntKind.u64.wrap ((IntKind.u64.wrap (rd l0 (ji8))) * 2 ^ min (ji24).toNat 64)) = ji26 := hji26
    have hji26z : (ji24) ≤ 64 → (IntKind.u64.wrap ((IntKind.u64.wrap (rd l0 (ji8))) * 2 ^ (ji24).toNat)) = ji26 := shl_small hji26
    simp only [Option.some.injEq, Prod.mk.injEq] at H
    obtain ⟨rfl, rfl, rfl⟩ := H
    have p246 : 0 ≤ ((ji8) : Int) := of_decide_eq_true m54_
    have q246 : (ji8) < (l0.length : Int) := of_decide_eq_true m54_
    obtain ⟨ad246, e246, hx246_0⟩ := Kd.at_int HR0.out (ji8) p246 q246
    cases e246
    replace p246 := eq_true p246
    replace q246 := eq_true q246
    go_wp2
    go_ret3
    exact ⟨by first | rfl | (simp; done) | (simp only [← hji8, ← hji24, ← hji26] <;> (first | rfl | simp)) | (simp [*]; done), m84_⟩
   rw [if_pos c12] at H
   have c12b0 : ((rd l0 (ji8)) == 0) = true := beq_iff_eq.mpr c12
   have c12b1 : ((rd l0 (ji8)) != 0) = false := bne_eq_false_iff_eq.mpr c12
   clear c12
   by_cases c13 : x18_2 > 0
   ·rw [if_pos c13] at H
    have c13b0 : decide (0 < x18_2) = true := decide_eq_true c13
    clear c13
    simp only [Option.some.injEq, Prod.mk.injEq] at H
    obtain ⟨rfl, rfl, rfl⟩ := H
    have p246 : 0 ≤ ((ji8) : Int) := of_decide_eq_true m54_
    have q246 : (ji8) < (l0.length : Int) := of_decide_eq_true m54_
    obtain ⟨ad246, e246, hx246_0⟩ := Kd.at_int HR0.out (ji8) p246 q246
    cases e246
    replace p246 := eq_true p246
    replace q246 := eq_true q246
    go_wp2
    go_ret3
    exact ⟨by first | rfl | (simp; done) | (simp only [← hji8] <;> (first | rfl | simp)) | (simp [*]; done), m84_⟩
   rw [if_neg c13] at H
   have c13b0 : decide (0 < x18_2) = false := decide_eq_false c13
   clear c13
   by_cases c14 : x18_2 = 9
   case neg =>
    rw [if_neg c14] at H
    have c14b0 : (x18_2 == 9) = false := beq_eq_false_iff_ne.mpr c14
    have c14b1 : (x18_2 != 9) = true := bne_iff_ne.mpr c14
    obtain ⟨ji19, hji19⟩ : ∃ j_ : Int, (wrap64 (7 * x18_2)) = j_ := ⟨_, rfl⟩
    replace H : (if 0 ≤ (ji19) then (some (Go.bits .or .u64 x7_2 (shl .u64 (IntKind.u64.wrap (rd l0 (ji8))) (ji19)), wrap64 ((ji8) + 1), 0)) else (none)) = some (r1, r2, r3) := by first | (rw [hji19] at H; exact H) | (simp only [hji19] at H ⊢; exact H)
    have hji19w : (IntKind.i64.wrap (7 * x18_2)) = ji19 := (i64_w _).trans hji19
    by_cases c20 : 0 ≤ (ji19)
    case neg =>
     rw [if_neg c20] at H
     exact absurd H (by simp)
    rw [if_pos c20] at H
    have c20b0 := eq_true c20
    have c20b1 : decide (0 ≤ (ji19)) = true := decide_eq_true c20
    clear c20
    obtain ⟨ji21, hji21⟩ : ∃ j_ : Int, (shl .u64 (IntKind.u64.wrap (rd l0 (ji8))) (ji19)) = j_ := ⟨_, rfl⟩
    replace H : (some (Go.bits .or .u64 x7_2 (ji21), wrap64 ((ji8) + 1), 0)) = some (r1, r2, r3) := by first | (rw [hji21] at H; exact H) | (simp only [hji21] at H ⊢; exact H)
    have hji21_ : (IntKind.u64.wrap ((IntKind.u64.wrap (rd l0 (ji8))) * 2 ^ min (ji19).toNat 64)) = ji21 := hji21
    have hji21z : (ji19) ≤ 64 → (IntKind.u64.wrap ((IntKind.u64.wrap (rd l0 (ji8))) * 2 ^ (ji19).toNat)) = ji21 := shl_small hji21
    simp only [Option.some.injEq, Prod.mk.injEq] at H
    obtain ⟨rfl, rfl, rfl⟩ := H
    have p246 : 0 ≤ ((ji8) : Int) := of_decide_eq_true m54_
    have q246 : (ji8) < (l0.length : Int) := of_decide_eq_true m54_
    obtain ⟨ad246, e246, hx246_0⟩ := Kd.at_int HR0.out (ji8) p246 q246
    cases e246
    replace p246 := eq_true p246
    replace q246 := eq_true q246
    go_wp2
    go_ret3
    exact ⟨by first | rfl | (simp; done) | (simp only [← hji8, ← hji19, ← hji21] <;> (first | rfl | simp)) | (simp [*]; done), m84_⟩
   rw [if_pos c14] at H
   have c14b0 : (x18_2 == 9) = true := beq_iff_eq.mpr c14
   have c14b1 : (x18_2 != 9) = false := bne_eq_false_iff_eq.mpr c14
   clear c14
   by_cases c15 : (rd l0 (ji8)) > 1
   ·rw [if_pos c15] at H
    have c15b0 : decide (1 < (rd l0 (ji8))) = true := decide_eq_true c15
    clear c15
    simp only [Option.some.injEq, Prod.mk.injEq] at H
    obtain ⟨rfl, rfl, rfl⟩ := H
    have p246 : 0 ≤ ((ji8) : Int) := of_decide_eq_true m54_
    have q246 : (ji8) < (l0.length : Int) := of_decide_eq_true m54_
    obtain ⟨ad246, e246, hx246_0⟩ := Kd.at_int HR0.out (ji8) p246 q246
    cases e246
    replace p246 := eq_true p246
    replace q246 := eq_true q246
    go_wp2
    go_ret3
    exact ⟨by first | rfl | (simp; done) | (simp only [← hji8] <;> (first | rfl | simp)) | (simp [*]; done), m84_⟩
   rw [if_neg c15] at H
   have c15b0 : decide (1 < (rd l0 (ji8))) = false := decide_eq_false c15
   clear c15
   obtain ⟨ji16, hji16⟩ : ∃ j_ : Int, (wrap64 (7 * x18_2)) = j_ := ⟨_, rfl⟩
   replace H : (if 0 ≤ (ji16) then (some (Go.bits .or .u64 x7_2 (shl .u64 (IntKind.u64.wrap (rd l0 (ji8))) (ji16)), wrap64 ((ji8) + 1), 0)) else (none)) = some (r1, r2, r3) := by first | (rw [hji16] at H; exact H) | (simp only [hji16] at H ⊢; exact H)
   have hji16w : (IntKind.i64.wrap (7 * x18_2)) = ji16 := (i64_w _).trans hji16
   by_cases c17 : 0 ≤ (ji16)
   case neg =>
    rw [if_neg c17] at H
    exact absurd H (by simp)
   rw [if_pos c17] at H
   have c17b0 := eq_true c17
   have c17b1 : decide (0 ≤ (ji16)) = true := decide_eq_true c17
   clear c17
   obtain ⟨ji18, hji18⟩ : ∃ j_ : Int, (shl .u64 (IntKind.u64.wrap (rd l0 (ji8))) (ji16)) = j_ := ⟨_, rfl⟩
   replace H : (some (Go.bits .or .u64 x7_2 (ji18), wrap64 ((ji8) + 1), 0)) = some (r1, r2, r3) := by first | (rw [hji18] at H; exact H) | (simp only [hji18] at H ⊢; exact H)
   have hji18_ : (IntKind.u64.wrap ((IntKind.u64.wrap (rd l0 (ji8))) * 2 ^ min (ji16).toNat 64)) = ji18 := hji18
   have hji18z : (ji16) ≤ 64 → (IntKind.u64.wrap ((IntKind.u64.wrap (rd l0 (ji8))) * 2 ^ (ji16).toNat)) = ji18 := shl_small hji18
   simp only [Option.some.injEq, Prod.mk.injEq] at H
   obtain ⟨rfl, rfl, rfl⟩ := H
   have p246 : 0 ≤ ((ji8) : Int) := of_decide_eq_true m54_
   have q246 : (ji8) < (l0.length : Int) := of_decide_eq_true m54_
   obtain ⟨ad246, e246, hx246_0⟩ := Kd.at_int HR0.out (ji8) p246 q246
   cases e246
   replace p246 := eq_true p246
   replace q246 := eq_true q246
   go_wp2
   go_ret3
   exact ⟨by first | rfl | (simp; done) | (simp only [← hji8, ← hji16, ← hji18] <;> (first | rfl | simp)) | (simp [*]; done), m84_⟩

end Go.Proofs.YtedmkffepmcpaaaDoorH.HCapCodes
