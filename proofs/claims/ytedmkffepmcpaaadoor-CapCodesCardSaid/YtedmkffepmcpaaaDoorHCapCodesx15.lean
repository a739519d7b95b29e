-- PRINTED by print.py (a twelfth state) out of the translation. Not trusted: Lean checks it.
import Derived.Test.YtedmkffepmcpaaaDoorHCapCodesx0
import Derived.Test.YtedmkffepmcpaaaDoorHCapCodesx6
import Derived.Test.YtedmkffepmcpaaaDoorHCapCodesx7
import Derived.Test.YtedmkffepmcpaaaDoorHCapCodesx9
import Derived.Test.YtedmkffepmcpaaaDoorHCapCodesx11
import Derived.Test.YtedmkffepmcpaaaDoorHCapCodesx12
import Derived.Test.YtedmkffepmcpaaaDoorHCapCodesx13
import Derived.Test.YtedmkffepmcpaaaDoorHCapCodesx14
namespace Go.Proofs.YtedmkffepmcpaaaDoorH.HCapCodes
open Go.RowKit Go.Proofs.YtedmkffepmcpaaaDoorW.PrintWords Go.Proofs.YtedmkffepmcpaaaDoorW.PrintLast Go.Proofs.YtedmkffepmcpaaaDoorW.PrintMore
attribute [local go_sem] max2_int min2_int max_two min_two max_three min_three max_four min_four   -- for this text's walks alone
set_option linter.unusedVariables false
set_option linter.unusedSimpArgs false

/-! ### strongroomlaw12_CapCodes: function 9 -/
mutual
def strongroomlaw12_CapCodes.j0 : Nat → List Int → Int → Bool → Int → Int → List (S35) → ByteArray → Option (Bool)
 | 0, _, _, _, _, _, _, _ => none
 | k + 1, x1, x2, x26, x355000, x355001, x355002, x355003 => if x26 = true then ((strongroomlaw12_lives.f k).bind fun t356 => (some t356)) else ((cap_Decode.f k x1 x2).bind fun bt357 => ((strongroomref12_Decode.f k (strOfNums x1) x2).bind fun bt366 => ((strongroomref12_Same.f k bt357.1 bt357.2.1 bt357.2.2.1 bt357.2.2.2.1 bt366.1 bt366.2.1 bt366.2.2.1 bt366.2.2.2.1).bind fun t375 => (if t375 = true then (if bt357.2.2.2.2.1 = bt366.2.2.2.2.1 then (strongroomlaw12_CapCodes.j1 k x1 (bt357.2.2.2.2.2 != bt366.2.2.2.2.2) x355000 x355001 x355002 x355003) else (strongroomlaw12_CapCodes.j1 k x1 true x355000 x355001 x355002 x355003)) else (strongroomlaw12_CapCodes.j1 k x1 true x355000 x355001 x355002 x355003)))))
def strongroomlaw12_CapCodes.j1 : Nat → List Int → Bool → Int → Int → List (S35) → ByteArray → Option (Bool)
 | 0, _, _, _, _, _, _ => none
 | k + 1, x1, x56, x355000, x355001, x355002, x355003 => if x56 = true then (some false) else ((cap_Encode.f k x355000 x355001 x355002 x355003).bind fun bt376 => ((strongroomref12_May.f k x355000 x355001 x355002 x355003).bind fun t380 => (if t380 = true then ((some (([] : List Int) : List Int)).bind fun y382 => (if y382.length + x1.length < 140737488355328 then ((some (y382 ++ x1 : List Int)).bind fun y385 => (if y385.length + bt376.1.length < 140737488355328 then ((some (y385 ++ bt376.1 : List Int)).bind fun y388 => (if y388.length + x1.length < 140737488355328 then ((cap_Decode.f k (y388 ++ x1) (x1.length : Int)).bind fun bt394 => (if bt376.2 = 0 then ((strongroomref12_Encode.f k x355000 x355001 x355002 x355003).bind fun t403 => (if (strOfNums bt376.1).toList = t403.toList then (if bt394.2.2.2.2.2 = 0 then ((strongroomref12_Same.f k bt394.1 bt394.2.1 bt394.2.2.1 bt394.2.2.2.1 x355000 x355001 x355002 x355003).bind fun t404 => (if t404 = true then (if bt394.2.2.2.2.1 = (wrap64 ((x1.length : Int) + (bt376.1.length : Int))) then ((strongroomlaw12_lives.f k).bind fun t405 => (some t405)) else (some false)) else (some false))) else (some false)) else (some false))) else (some false))) else (none))) else (none))) else (none))) else (if (bt376.1.length : Int) = 0 then (if bt376.2 = 1 then ((strongroomlaw12_lives.f k).bind fun t381 => (some t381)) else (some false)) else (some false)))))
end
def strongroomlaw12_CapCodes.f (k : Nat) (a0_0 : Int) (a0_1 : Int) (l0_2 : List (S35)) (a0_3 : ByteArray) (l1 : List Int) (a2 : Int) : Option (Bool) := (strongroomlaw12_small.f k a0_0 a0_1 l0_2 a0_3).bind fun t355 => (if t355 = true then (strongroomlaw12_CapCodes.j0 k l1 a2 (decide ((l1.length : Int) > 5000)) a0_0 a0_1 l0_2 a0_3) else (strongroomlaw12_CapCodes.j0 k l1 a2 true a0_0 a0_1 l0_2 a0_3))
theorem strongroomlaw12_CapCodes.mono_l : ∀ k, (∀ y0 y1 y2 y3 y4 y5 y6, LeO (strongroomlaw12_CapCodes.j0 k y0 y1 y2 y3 y4 y5 y6) (strongroomlaw12_CapCodes.j0 (k + 1) y0 y1 y2 y3 y4 y5 y6)) ∧ (∀ y0 y1 y2 y3 y4 y5, LeO (strongroomlaw12_CapCodes.j1 k y0 y1 y2 y3 y4 y5) (strongroomlaw12_CapCodes.j1 (k + 1) y0 y1 y2 y3 y4 y5))
 | 0 => ⟨fun _ _ _ _ _ _ _ r h => by simp [strongroomlaw12_CapCodes.j0] at h, fun _ _ _ _ _ _ r h => by simp [strongroomlaw12_CapCodes.j1] at h⟩
 | k + 1 => by
  obtain ⟨ih0, ih1⟩ := strongroomlaw12_CapCodes.mono_l k
  refine ⟨?_, ?_⟩
  ·intro y0 y1 y2 y3 y4 y5 y6
   unfold strongroomlaw12_CapCodes.j0
   repeat' first
   | (with_reducible exact ih0 _ _ _ _ _ _ _)
   | (with_reducible exact ih1 _ _ _ _ _ _)
   | (with_reducible exact cap_Decode.mono _ _ _)
   | (with_reducible exact cap_Encode.mono _ _ _ _ _)
   | (with_reducible exact strongroomlaw12_lives.mono _)
   | (with_reducible exact strongroomlaw12_small.mono _ _ _ _ _)
   | (with_reducible exact strongroomref12_Decode.mono _ _ _)
   | (with_reducible exact strongroomref12_Encode.mono _ _ _ _ _)
   | (with_reducible exact strongroomref12_May.mono _ _ _ _ _)
   | (with_reducible exact strongroomref12_Same.mono _ _ _ _ _ _ _ _ _)
   | (with_reducible exact LeO.refl _)
   | (with_reducible exact LeO.none _)
   | (with_reducible refine LeO.ite ?_ ?_)
   | (with_reducible refine LeO.bind ?_ (fun _ => ?_))
   | exact ih0 _ _ _ _ _ _ _
   | exact ih1 _ _ _ _ _ _
   | exact cap_Decode.mono _ _ _
   | exact cap_Encode.mono _ _ _ _ _
   | exact strongroomlaw12_lives.mono _
   | exact strongroomlaw12_small.mono _ _ _ _ _
   | exact strongroomref12_Decode.mono _ _ _
   | exact strongroomref12_Encode.mono _ _ _ _ _
   | exact strongroomref12_May.mono _ _ _ _ _
   | exact strongroomref12_Same.mono _ _ _ _ _ _ _ _ _
   | exact LeO.none _
   | refine LeO.ite ?_ ?_
   | refine LeO.bind ?_ (fun _ => ?_)
  ·intro y0 y1 y2 y3 y4 y5
   unfold strongroomlaw12_CapCodes.j1
   repeat' first
   | (with_reducible exact ih0 _ _ _ _ _ _ _)
   | (with_reducible exact ih1 _ _ _ _ _ _)
   | (with_reducible exact cap_Decode.mono _ _ _)
   | (with_reducible exact cap_Encode.mono _ _ _ _ _)
   | (with_reducible exact strongroomlaw12_lives.mono _)
   | (with_reducible exact strongroomlaw12_small.mono _ _ _ _ _)
   | (with_reducible exact strongroomref12_Decode.mono _ _ _)
   | (with_reducible exact strongroomref12_Encode.mono _ _ _ _ _)
   | (with_reducible exact strongroomref12_May.mono _ _ _ _ _)
   | (with_reducible exact strongroomref12_Same.mono _ _ _ _ _ _ _ _ _)
   | (with_reducible exact LeO.refl _)
   | (with_reducible exact LeO.none _)
   | (with_reducible refine LeO.ite ?_ ?_)
   | (with_reducible refine LeO.bind ?_ (fun _ => ?_))
   | exact ih0 _ _ _ _ _ _ _
   | exact ih1 _ _ _ _ _ _
   | exact cap_Decode.mono _ _ _
   | exact cap_Encode.mono _ _ _ _ _
   | exact strongroomlaw12_lives.mono _
   | exact strongroomlaw12_small.mono _ _ _ _ _
   | exact strongroomref12_Decode.mono _ _ _
   | exact strongroomref12_Encode.mono _ _ _ _ _
   | exact strongroomref12_May.mono _ _ _ _ _
   | exact strongroomref12_Same.mono _ _ _ _ _ _ _ _ _
   | exact LeO.none _
   | refine LeO.ite ?_ ?_
   | refine LeO.bind ?_ (fun _ => ?_)
theorem strongroomlaw12_CapCodes.mono : ∀ a0 a1 a2 a3 a4 a5 k, LeO (strongroomlaw12_CapCodes.f k a0 a1 a2 a3 a4 a5) (strongroomlaw12_CapCodes.f (k + 1) a0 a1 a2 a3 a4 a5) := by
 intro a0 a1 a2 a3 a4 a5 k
 obtain ⟨ih0, ih1⟩ := strongroomlaw12_CapCodes.mono_l k
 unfold strongroomlaw12_CapCodes.f
 repeat' first
   | (with_reducible exact ih0 _ _ _ _ _ _ _)
   | (with_reducible exact ih1 _ _ _ _ _ _)
   | (with_reducible exact cap_Decode.mono _ _ _)
   | (with_reducible exact cap_Encode.mono _ _ _ _ _)
   | (with_reducible exact strongroomlaw12_lives.mono _)
   | (with_reducible exact strongroomlaw12_small.mono _ _ _ _ _)
   | (with_reducible exact strongroomref12_Decode.mono _ _ _)
   | (with_reducible exact strongroomref12_Encode.mono _ _ _ _ _)
   | (with_reducible exact strongroomref12_May.mono _ _ _ _ _)
   | (with_reducible exact strongroomref12_Same.mono _ _ _ _ _ _ _ _ _)
   | (with_reducible exact LeO.refl _)
   | (with_reducible exact LeO.none _)
   | (with_reducible refine LeO.ite ?_ ?_)
   | (with_reducible refine LeO.bind ?_ (fun _ => ?_))
   | exact ih0 _ _ _ _ _ _ _
   | exact ih1 _ _ _ _ _ _
   | exact cap_Decode.mono _ _ _
   | exact cap_Encode.mono _ _ _ _ _
   | exact strongroomlaw12_lives.mono _
   | exact strongroomlaw12_small.mono _ _ _ _ _
   | exact strongroomref12_Decode.mono _ _ _
   | exact strongroomref12_Encode.mono _ _ _ _ _
   | exact strongroomref12_May.mono _ _ _ _ _
   | exact strongroomref12_Same.mono _ _ _ _ _ _ _ _ _
   | exact LeO.none _
   | refine LeO.ite ?_ ?_
   | refine LeO.bind ?_ (fun _ => ?_)
def strongroomlaw12_CapCodes.T15 : Bool × List (List Nat × List Nat) := (true, [([], []), ([0], [0]), ([1], [1]), ([2], [2]), ([3, 2], [2, 3]), ([2], [2]), ([5, 2, 2], [2, 5]), ([4, 6, 2], [2, 4, 6]), ([2, 7], [2, 7]), ([8, 6], [8]), ([9], [9]), ([10, 9], [9, 10]), ([9, 11], [9, 11]), ([12, 9], [12]), ([13], [13]), ([13], [13]), ([14, 15, 13, 13], [13, 14, 15]), ([13, 16], [13, 16]), ([17, 16], [17]), ([18], [18]), ([18], [18]), ([20, 18], [18, 20]), ([18], [18]), ([22, 18], [18, 22]), ([21, 23, 18], [18, 21, 23]), ([19, 24, 18], [18, 19, 24]), ([18, 25], [18, 25]), ([26, 18], [26]), ([27, 27], [27]), ([27, 28], [27, 28]), ([29, 28, 0, 1, 2, 3, 4, 5, 6, 7, 8, 9, 10, 11, 12, 13, 14, 15, 16, 17, 18, 19, 20, 21, 22, 23, 24, 25, 26, 27, 28, 29], [29])])
def strongroomlaw12_CapCodes.B15 : List Nat := [0, 1, 3, 7, 15, 7, 39, 127, 255, 511, 1023, 2047, 4095, 8191, 16383, 16383, 65535, 131071, 262143, 524287, 524287, 1572863, 524287, 4718591, 16252927, 33554431, 67108863, 134217727, 268435455, 536870911, 1073741823]
theorem strongroomlaw12_CapCodes.tab15 : rtab .any (opsOf Tryd.f9 15) = strongroomlaw12_CapCodes.T15 := by kernel_rfl
theorem strongroomlaw12_CapCodes.bits15 : waitsOk strongroomlaw12_CapCodes.T15.2 strongroomlaw12_CapCodes.B15 = true := by kernel_rfl
theorem tI9_ {P : Program} {md : Region.Mode} {ops : Array Oper} {Q : Exit → Act → World → Prop} {S : World → Prop} {ds : List Nat} {oi : Oper} {v : Value} {fuel : Nat} {l : Array Bool} {a a' : Act} {w : World} (i : Nat) (N : Option Tmp) (l' : Array Bool)
    (hi : ops[i]? = some oi := by rfl) (hN : oi.dst = N := by rfl) (hc : takeB md ops ds l l' i = true := by exact take_ofW HT_.out HW_.out (by kernel_rfl)) (hQ : ∀ c a w, Q (.panic c) (a.put oi.dst v) w → Q (.panic c) a w := by exact fun _ _ _ h => h)
    (hS : S w := by exact hHeld) (hy : YieldsIf P ops S oi v a := by exact Or.inl ⟨by rfl, by rintro w' ⟨s0, s1, s2, s3, s4, s5, s6, s7, s8⟩; go_simp; with_reducible rfl⟩) (ha : a.put N v = a' := by simp only [Act.put, sA_, sB_, sC_, i64_w, i32_w]; rfl)
    (h : wpAnyLast P md ops Q S ds fuel l' a' w) : wpAnyLast P md ops Q S ds (fuel + 1) l a w := take_ l' hi hN hc hQ hy hS ha h
set_option maxHeartbeats 8000000 in
set_option maxRecDepth 100000 in
theorem strongroomlaw12_CapCodes.calls (k : Nat) (a0_0 : Int) (a0_1 : Int) (A0_2 : Option Addr) (c0_2 : Nat) (l0_2 : List (S35)) (a0_3 : ByteArray) (A1 : Option Addr) (c1 : Nat) (l1 : List Int) (a2 : Int) (r : Bool) (w : World) (hr0_2 : Kd.C k35 w A0_2 l0_2.length l0_2) (hc0_2 : l0_2.length ≤ c0_2) (hr1 : Kd.C (Kd.int .u8) w A1 l1.length l1) (hc1 : l1.length ≤ c1) (h : strongroomlaw12_CapCodes.f k a0_0 a0_1 l0_2 a0_3 l1 a2 = some r) (hr_ : r = true) :
  Calls Tryd.prog 9 #[.agg #[.int .i64 a0_0, .int .i64 a0_1, .slice A0_2 l0_2.length c0_2, .string a0_3], .slice A1 l1.length c1, .int .i64 a2] w fun e w' => e = .returned (.bool r) ∧ Below w.heap.size w w' := by
 have hu25 := Tryd.underlying25
 have HR0_2 := Aside0.mk hr0_2
 have HC0_2 := Aside0.mk hc0_2
 clear hr0_2 hc0_2
 have HR1 := Aside0.mk hr1
 have HC1 := Aside0.mk hc1
 clear hr1 hc1
 have HB := Aside0.mk (Below.refl w.heap.size w)
 have H : ((strongroomlaw12_small.f k a0_0 a0_1 l0_2 a0_3).bind fun t355 => (if t355 = true then (strongroomlaw12_CapCodes.j0 k l1 a2 (decide ((l1.length : Int) > 5000)) a0_0 a0_1 l0_2 a0_3) else (strongroomlaw12_CapCodes.j0 k l1 a2 true a0_0 a0_1 l0_2 a0_3))) = some r := h
 clear h
 have HC4 := Aside0.mk H
 clear H
 go_enter Tryd.func9, Tryd.ntmps9
 go_upto_region 1 with (first | ((with_reducible refine gate_dst (N := 3) rfl ?_); (try (refine gate_guard (by rfl) ?_; dsimp only)); refine box_event ?hg (N := 3) ?hd (cs := #[.int .i64 a0_0, .int .i64 a0_1, .slice A0_2 l0_2.length c0_2, .string a0_3]) (t := 25) ?hr ?_; (case hd => rfl); (case hg => rfl); (case hr => first | (go_simp; done) | (go_simp; rfl)); intro gb354 hg w5 hbox hb; have n0_ := Aside0.mk (below_step m31_ hb); have n1_ := Aside0.mk (hbox); have n2_ := Aside0.mk ((by rw [hg]; exact (below_size m31_) : w.heap.size ≤ gb354)); have n3_ := Aside0.mk ((by rw [hg]; exact (below_size m31_) : w.heap.size ≤ gb354)); clear HB; have HB := n0_; have BK354 := n1_; have GW354 := n2_; have GE354 := n3_; clear n0_ n1_ n2_ n3_; clear hb hbox hg))
 (try simp only [Act.put, List.setIfInBounds_toArray, List.set_cons_zero, List.set_cons_succ])
 go_cut [26] (fun v26 wc => ∃ (kq : Nat) (x26_3 : Bool), v26 = .bool x26_3 ∧ Aside0 (strongroomlaw12_CapCodes.j0 kq l1 a2 x26_3 a0_0 a0_1 l0_2 a0_3 = some r) ∧ Aside0 (kq ≤ k) ∧ Aside0 (wc.heap[gb354]? = some (.cells #[.int .i64 a0_0, .int .i64 a0_1, (.slice A0_2 l0_2.length c0_2), .string a0_3] 25 (0, 0))) ∧ Aside0 (Below w.heap.size w wc))
 case first =>
  have H := HC4.out
  clear HC4
  replace H := Option.bind_eq_some_iff.mp H
  obtain ⟨t355, A60, H⟩ := H
  replace H : (if t355 = true then (strongroomlaw12_CapCodes.j0 k l1 a2 (decide ((l1.length : Int) > 5000)) a0_0 a0_1 l0_2 a0_3) else (strongroomlaw12_CapCodes.j0 k l1 a2 true a0_0 a0_1 l0_2 a0_3)) = some r := H
  have A6 := Aside0.mk A60
  clear A60
  by_cases c7 : t355 = true
  ·subst c7
   have H1 : (strongroomlaw12_CapCodes.j0 k l1 a2 (decide ((l1.length : Int) > 5000)) a0_0 a0_1 l0_2 a0_3) = some r := by rw [if_pos rfl] at H; exact H
   clear H
   have H := H1
   clear H1
   have H' := Aside0.mk H
   clear H
   obtain ⟨hcz8_0, hcz8_1, hcz8_2, hcz8_3⟩ := bc4_ BK354.out
   obtain ⟨hfz8_0, hfz8_1, hfz8_2, hfz8_3⟩ := bf4_ BK354.out
   go_wp2_with (first | ((with_reducible refine gate_callee (f := 15) rfl ?_); refine goesL_ (some 20) rfl rfl Tryd.func15 (by kernel_rfl) rfl #[.agg #[.int .i64 a0_0, .int .i64 a0_1, .slice A0_2 l0_2.length c0_2, .string a0_3]] rfl m30_ ?_; (with_reducible refine (strongroomlaw12_small.calls k a0_0 a0_1 _ _ l0_2 a0_3 true _ ?side1 ?side2 A6.out).mono ?_); (case side1 => exact m65_); (case side2 => exact HC0_2.out); rintro e w9 ⟨rfl, hb⟩; refine ⟨_, rfl, ?_⟩; replace BK354 := Aside0.mk (blk_below (g := gb354) (o := .cells #[.int .i64 a0_0, .int .i64 a0_1, .slice A0_2 l0_2.length c0_2, .string a0_3] 25 (0, 0)) m34_ hb); replace HB := Aside0.mk (below_step m22_ hb); (try clear hb); (try clear hb2); (try clear hk); (try clear hi)))
   go_meet
   case rel => exact ⟨_, (decide ((l1.length : Int) > 5000)), m55_, H', ⟨by first | omega | exact Nat.le_refl _⟩, ⟨by refine bD_ ?_; exact BK354.out⟩, ⟨m78_⟩⟩
  replace c7 := Bool.eq_false_iff.mpr c7
  subst c7
  have H1 : (strongroomlaw12_CapCodes.j0 k l1 a2 true a0_0 a0_1 l0_2 a0_3) = some r := by rw [if_neg (show ¬ (false = true) by decide)] at H; exact H
  clear H
  have H := H1
  clear H1
  have H' := Aside0.mk H
  clear H
  obtain ⟨hcz10_0, hcz10_1, hcz10_2, hcz10_3⟩ := bc4_ BK354.out
  obtain ⟨hfz10_0, hfz10_1, hfz10_2, hfz10_3⟩ := bf4_ BK354.out
  go_wp2_with (first | ((with_reducible refine gate_callee (f := 15) rfl ?_); refine goesL_ (some 20) rfl rfl Tryd.func15 (by kernel_rfl) rfl #[.agg #[.int .i64 a0_0, .int .i64 a0_1, .slice A0_2 l0_2.length c0_2, .string a0_3]] rfl m30_ ?_; (with_reducible refine (strongroomlaw12_small.calls k a0_0 a0_1 _ _ l0_2 a0_3 false _ ?side1 ?side2 A6.out).mono ?_); (case side1 => exact m65_); (case side2 => exact HC0_2.out); rintro e w11 ⟨rfl, hb⟩; refine ⟨_, rfl, ?_⟩; replace BK354 := Aside0.mk (blk_below (g := gb354) (o := .cells #[.int .i64 a0_0, .int .i64 a0_1, .slice A0_2 l0_2.length c0_2, .string a0_3] 25 (0, 0)) m34_ hb); replace HB := Aside0.mk (below_step m22_ hb); (try clear hb); (try clear hb2); (try clear hk); (try clear hi)))
  go_meet
  case rel => exact ⟨_, (true), m55_, H', ⟨by first | omega | exact Nat.le_refl _⟩, ⟨by refine bD_ ?_; exact BK354.out⟩, ⟨m78_⟩⟩
 clear HC4
 try clear c1
 obtain ⟨kq, x26_3, rfl, HA, HJ3, BK354, HB⟩ := hcut
 cases kq with
 | zero => exact absurd HA.out (by simp [strongroomlaw12_CapCodes.j0])
 | succ kj3 =>
  have H := HA.out
  clear HA
  simp only [strongroomlaw12_CapCodes.j0] at H
  by_cases c12 : x26_3 = true
  ·subst c12
   have H1 : ((strongroomlaw12_lives.f kj3).bind fun t356 => (some t356)) = some r := by rw [if_pos rfl] at H; exact H
   clear H
   have H := H1
   clear H1
   replace H := Option.bind_eq_some_iff.mp H
   obtain ⟨t356, A130, H⟩ := H
   replace H : (some t356) = some r := H
   have A13 := Aside0.mk A130
   clear A130
   obtain rfl := Option.some.inj H
   go_wp2_with (first | ((with_reducible refine gate_callee (f := 10) rfl ?_); refine goesL_ (some 27) rfl rfl Tryd.func10 (by kernel_rfl) rfl #[] rfl m30_ ?_; (with_reducible refine (strongroomlaw12_lives.calls kj3  t356 _ A13.out hr_).mono ?_); rintro e w14 ⟨rfl, hb⟩; refine ⟨_, rfl, ?_⟩; replace BK354 := Aside0.mk (blk_below (g := gb354) (o := .cells #[.int .i64 a0_0, .int .i64 a0_1, .slice A0_2 l0_2.length c0_2, .string a0_3] 25 (0, 0)) m34_ hb); replace HB := Aside0.mk (below_step m22_ hb); (try clear hb); (try clear hb2); (try clear hk); (try clear hi)))
   go_ret
   exact ⟨by first | rfl | (simp [errW_none, errW_some] <;> rfl) | (simp [*, errW_none, errW_some] <;> rfl), m78_⟩
  replace c12 := Bool.eq_false_iff.mpr c12
  subst c12
  have H1 : ((cap_Decode.f kj3 l1 a2).bind fun bt357 => ((strongroomref12_Decode.f kj3 (strOfNums l1) a2).bind fun bt366 => ((strongroomref12_Same.f kj3 bt357.1 bt357.2.1 bt357.2.2.1 bt357.2.2.2.1 bt366.1 bt366.2.1 bt366.2.2.1 bt366.2.2.2.1).bind fun t375 => (if t375 = true then (if bt357.2.2.2.2.1 = bt366.2.2.2.2.1 then (strongroomlaw12_CapCodes.j1 kj3 l1 (bt357.2.2.2.2.2 != bt366.2.2.2.2.2) a0_0 a0_1 l0_2 a0_3) else (strongroomlaw12_CapCodes.j1 kj3 l1 true a0_0 a0_1 l0_2 a0_3)) else (strongroomlaw12_CapCodes.j1 kj3 l1 true a0_0 a0_1 l0_2 a0_3))))) = some r := by rw [if_neg (show ¬ (false = true) by decide)] at H; exact H
  clear H
  have H := H1
  clear H1
  replace H := Option.bind_eq_some_iff.mp H
  obtain ⟨⟨t357, t358, t359, t362, t363, t364⟩, A150, H⟩ := H
  replace H : ((strongroomref12_Decode.f kj3 (strOfNums l1) a2).bind fun bt366 => ((strongroomref12_Same.f kj3 t357 t358 t359 t362 bt366.1 bt366.2.1 bt366.2.2.1 bt366.2.2.2.1).bind fun t375 => (if t375 = true then (if t363 = bt366.2.2.2.2.1 then (strongroomlaw12_CapCodes.j1 kj3 l1 (t364 != bt366.2.2.2.2.2) a0_0 a0_1 l0_2 a0_3) else (strongroomlaw12_CapCodes.j1 kj3 l1 true a0_0 a0_1 l0_2 a0_3)) else (strongroomlaw12_CapCodes.j1 kj3 l1 true a0_0 a0_1 l0_2 a0_3)))) = some r := H
  have A15 := Aside0.mk A150
  clear A150
  replace H := Option.bind_eq_some_iff.mp H
  obtain ⟨⟨t366, t367, t368, t371, t372, t373⟩, A160, H⟩ := H
  replace H : ((strongroomref12_Same.f kj3 t357 t358 t359 t362 t366 t367 t368 t371).bind fun t375 => (if t375 = true then (if t363 = t372 then (strongroomlaw12_CapCodes.j1 kj3 l1 (t364 != t373) a0_0 a0_1 l0_2 a0_3) else (strongroomlaw12_CapCodes.j1 kj3 l1 true a0_0 a0_1 l0_2 a0_3)) else (strongroomlaw12_CapCodes.j1 kj3 l1 true a0_0 a0_1 l0_2 a0_3))) = some r := H
  have A16 := Aside0.mk A160
  clear A160
  have HC17 := Aside0.mk H
  clear H
  go_upto_region 5 with (first | ((with_reducible refine gate_callee (f := 26) rfl ?_); refine goesL_ (some 31) rfl rfl Tryd.func26 (by kernel_rfl) rfl #[.slice A1 l1.length c1, .int .i64 a2] rfl m30_ ?_; (with_reducible refine (cap_Decode.calls kj3 _ _ l1 a2 t357 t358 t359 t362 t363 t364 _ ?side1 ?side2 A15.out).mono ?_); (case side1 => exact m68_); (case side2 => exact HC1.out); rintro e w18 ⟨v360, rfl, ho0, hb⟩; refine ⟨_, rfl, ?_⟩; have HO361 := Aside0.mk (Kd.R_lower ho0 (below_size m22_)); replace BK354 := Aside0.mk (blk_below (g := gb354) (o := .cells #[.int .i64 a0_0, .int .i64 a0_1, .slice A0_2 l0_2.length c0_2, .string a0_3] 25 (0, 0)) m34_ hb); replace HB := Aside0.mk (below_step m22_ hb); (try clear hb); (try clear hb2); (try clear hk); (try clear hi); (try clear ho0)) | ((with_reducible refine gate_dst (N := 7) rfl ?_); (try (refine gate_guard (by rfl) ?_; dsimp only)); refine box_event ?hg (N := 7) ?hd (cs := #[.int .i64 0, .int .i64 0, .slice none 0 0, .string (⟨#[]⟩ : ByteArray)]) (t := 25) ?hr ?_; (case hd => rfl); (case hg => rfl); (case hr => first | (go_simp; done) | (go_simp; rfl)); intro gb365 hg w19 hbox hb; have n0_ := Aside0.mk (Kd.R_below (rD_ HO361.out) hb); have n1_ := Aside0.mk (blk_below (g := gb354) (o := .cells #[.int .i64 a0_0, .int .i64 a0_1, .slice A0_2 l0_2.length c0_2, .string a0_3] 25 (0, 0)) m34_ hb); have n2_ := Aside0.mk (below_step m22_ hb); have n3_ := Aside0.mk (hbox); have n4_ := Aside0.mk ((by rw [hg]; exact (below_size m22_) : w.heap.size ≤ gb365)); have n5_ := Aside0.mk ((by rw [hg]; exact (below_size m22_) : w.heap.size ≤ gb365)); have n6_ := Aside0.mk ((by rw [hg]; exact Nat.ne_of_lt (blk_lt (g := gb354) (o := .cells #[.int .i64 a0_0, .int .i64 a0_1, .slice A0_2 l0_2.length c0_2, .string a0_3] 25 (0, 0)) m34_) : gb354 ≠ gb365)); have n7_ := Aside0.mk ((by rw [hg]; exact Nat.ne_of_gt (blk_lt (g := gb354) (o := .cells #[.int .i64 a0_0, .int .i64 a0_1, .slice A0_2 l0_2.length c0_2, .string a0_3] 25 (0, 0)) m34_) : gb365 ≠ gb354)); clear HO361; clear BK354; clear HB; have HO361 := n0_; have BK354 := n1_; have HB := n2_; have BK365 := n3_; have GW365 := n4_; have GE365 := n5_; have NB354_365 := n6_; have NB365_354 := n7_; clear n0_ n1_ n2_ n3_ n4_ n5_ n6_ n7_; clear hb hbox hg; have hnb20 := NB365_354.out; have hnc20 := NB354_365.out; obtain ⟨hcz21_0, hcz21_1, hcz21_2, hcz21_3⟩ := bc4_ BK365.out; obtain ⟨hfz21_0, hfz21_1, hfz21_2, hfz21_3⟩ := bf4_ BK365.out; obtain ⟨Ao22, co22, eo22⟩ := Kd.R_slice HO361.out; subst eo22; have hcv23 := Kd.C_string (P := Tryd.prog) (A := A1) (c := c1) Tryd.underlying53 Tryd.underlying5 Tryd.underlying9 (Kd.C_below HR1.out (show Below w.heap.size w ((((w19.setCell ⟨gb365, 0, none⟩ (.int .i64 t357)).setCell ⟨gb365, 1, none⟩ (.int .i64 t358)).setCell ⟨gb365, 2, none⟩ (.slice Ao22 t359.length co22)).setCell ⟨gb365, 3, none⟩ (.string t362)) from below_set (below_set (below_set (below_set HB.out GE365.out) GE365.out) GE365.out) GE365.out))) | ((with_reducible refine gate_callee (f := 27) rfl ?_); refine goesL_ (some 39) rfl rfl Tryd.func27 (by kernel_rfl) rfl #[.string (strOfNums l1), .int .i64 a2] rfl m30_ ?_; (with_reducible refine (strongroomref12_Decode.calls kj3 (strOfNums l1) a2 t366 t367 t368 t371 t372 t373 _ A16.out).mono ?_); rintro e w24 ⟨v369, rfl, ho0, hb⟩; refine ⟨_, rfl, ?_⟩; have n0_ := Aside0.mk (Kd.R_elder' (by refine rD_ ?_; exact (Kd.R_mono (Kd.R_far (p := ⟨gb365, 3, none⟩) (Kd.R_far (p := ⟨gb365, 2, none⟩) (Kd.R_far (p := ⟨gb365, 1, none⟩) (Kd.R_far (p := ⟨gb365, 0, none⟩) (Kd.R_types HO361.out BK365.out (by decide)) (fun _ hk => hk.2) (.int .i64 t357)) (fun _ hk => hk.2) (.int .i64 t358)) (fun _ hk => hk.2) (.slice Ao22 t359.length co22)) (fun _ hk => hk.2) (.string t362)) (fun _ h_ => h_.1))) (Kd.R_base ho0) hb); have n1_ := Aside0.mk (Kd.R_lower (Kd.R_new' ho0 (Kd.R_lt (by refine rD_ ?_; exact (Kd.R_mono (Kd.R_far (p := ⟨gb365, 3, none⟩) (Kd.R_far (p := ⟨gb365, 2, none⟩) (Kd.R_far (p := ⟨gb365, 1, none⟩) (Kd.R_far (p := ⟨gb365, 0, none⟩) (Kd.R_types HO361.out BK365.out (by decide)) (fun _ hk => hk.2) (.int .i64 t357)) (fun _ hk => hk.2) (.int .i64 t358)) (fun _ hk => hk.2) (.slice Ao22 t359.length co22)) (fun _ hk => hk.2) (.string t362)) (fun _ h_ => h_.1))))) (below_size m13_)); have n2_ := Aside0.mk (blk_below (g := gb354) (o := .cells #[.int .i64 a0_0, .int .i64 a0_1, .slice A0_2 l0_2.length c0_2, .string a0_3] 25 (0, 0)) (by refine bD_ ?_; refine blk_far ?_ NB354_365.out _; refine bD_ ?_; refine blk_far ?_ NB354_365.out _; refine bD_ ?_; refine blk_far ?_ NB354_365.out _; refine bD_ ?_; refine blk_far ?_ NB354_365.out _; refine bD_ ?_; exact BK354.out) hb); have n3_ := Aside0.mk (blk_below (g := gb365) (o := .cells #[.int .i64 t357, .int .i64 t358, .slice Ao22 t359.length co22, .string t362] 25 (0, 0)) (by refine bD_ ?_; refine blk_put (cs := #[.int .i64 t357, .int .i64 t358, .slice Ao22 t359.length co22, .string (⟨#[]⟩ : ByteArray)]) ?_ 3 _ rfl; refine bD_ ?_; refine blk_put (cs := #[.int .i64 t357, .int .i64 t358, .slice none 0 0, .string (⟨#[]⟩ : ByteArray)]) ?_ 2 _ rfl; refine bD_ ?_; refine blk_put (cs := #[.int .i64 t357, .int .i64 0, .slice none 0 0, .string (⟨#[]⟩ : ByteArray)]) ?_ 1 _ rfl; refine bD_ ?_; refine blk_put (cs := #[.int .i64 0, .int .i64 0, .slice none 0 0, .string (⟨#[]⟩ : ByteArray)]) ?_ 0 _ rfl; refine bD_ ?_; exact BK365.out) hb); have n4_ := Aside0.mk (below_step m13_ hb); clear HO361; clear BK354; clear BK365; clear HB; have HO361 := n0_; have HO370 := n1_; have BK354 := n2_; have BK365 := n3_; have HB := n4_; clear n0_ n1_ n2_ n3_ n4_; (try clear hb); (try clear hb2); (try clear hk); (try clear hi); (try clear ho0)) | ((with_reducible refine gate_dst (N := 10) rfl ?_); (try (refine gate_guard (by rfl) ?_; dsimp only)); refine box_event ?hg (N := 10) ?hd (cs := #[.int .i64 0, .int .i64 0, .slice none 0 0, .string (⟨#[]⟩ : ByteArray)]) (t := 25) ?hr ?_; (case hd => rfl); (case hg => rfl); (case hr => first | (go_simp; done) | (go_simp; rfl)); intro gb374 hg w25 hbox hb; have n0_ := Aside0.mk (Kd.R_below (rD_ HO361.out) hb); have n1_ := Aside0.mk (Kd.R_below (rD_ HO370.out) hb); have n2_ := Aside0.mk (blk_below (g := gb354) (o := .cells #[.int .i64 a0_0, .int .i64 a0_1, .slice A0_2 l0_2.length c0_2, .string a0_3] 25 (0, 0)) m34_ hb); have n3_ := Aside0.mk (blk_below (g := gb365) (o := .cells #[.int .i64 t357, .int .i64 t358, .slice Ao22 t359.length co22, .string t362] 25 (0, 0)) m38_ hb); have n4_ := Aside0.mk (below_step m13_ hb); have n5_ := Aside0.mk (hbox); have n6_ := Aside0.mk ((by rw [hg]; exact (below_size m13_) : w.heap.size ≤ gb374)); have n7_ := Aside0.mk ((by rw [hg]; exact (below_size m13_) : w.heap.size ≤ gb374)); have n8_ := Aside0.mk ((by rw [hg]; exact Nat.ne_of_lt (blk_lt (g := gb354) (o := .cells #[.int .i64 a0_0, .int .i64 a0_1, .slice A0_2 l0_2.length c0_2, .string a0_3] 25 (0, 0)) m34_) : gb354 ≠ gb374)); have n9_ := Aside0.mk ((by rw [hg]; exact Nat.ne_of_gt (blk_lt (g := gb354) (o := .cells #[.int .i64 a0_0, .int .i64 a0_1, .slice A0_2 l0_2.length c0_2, .string a0_3] 25 (0, 0)) m34_) : gb374 ≠ gb354)); have n10_ := Aside0.mk ((by rw [hg]; exact Nat.ne_of_lt (blk_lt (g := gb365) (o := .cells #[.int .i64 t357, .int .i64 t358, .slice Ao22 t359.length co22, .string t362] 25 (0, 0)) m38_) : gb365 ≠ gb374)); have n11_ := Aside0.mk ((by rw [hg]; exact Nat.ne_of_gt (blk_lt (g := gb365) (o := .cells #[.int .i64 t357, .int .i64 t358, .slice Ao22 t359.length co22, .string t362] 25 (0, 0)) m38_) : gb374 ≠ gb365)); clear HO361; clear HO370; clear BK354; clear BK365; clear HB; have HO361 := n0_; have HO370 := n1_; have BK354 := n2_; have BK365 := n3_; have HB := n4_; have BK374 := n5_; have GW374 := n6_; have GE374 := n7_; have NB354_374 := n8_; have NB374_354 := n9_; have NB365_374 := n10_; have NB374_365 := n11_; clear n0_ n1_ n2_ n3_ n4_ n5_ n6_ n7_ n8_ n9_ n10_ n11_; clear hb hbox hg; have hnb26 := NB374_354.out; have hnc26 := NB354_374.out; have hnb27 := NB374_365.out; have hnc27 := NB365_374.out; obtain ⟨hcz28_0, hcz28_1, hcz28_2, hcz28_3⟩ := bc4_ BK374.out; obtain ⟨hfz28_0, hfz28_1, hfz28_2, hfz28_3⟩ := bf4_ BK374.out; obtain ⟨Ao29, co29, eo29⟩ := Kd.R_slice HO370.out; subst eo29))
  (try simp only [Act.put, List.setIfInBounds_toArray, List.set_cons_zero, List.set_cons_succ])
  go_cut [56] (fun v56 wc => ∃ (kq : Nat) (x56_16 : Bool), v56 = .bool x56_16 ∧ Aside0 (strongroomlaw12_CapCodes.j1 kq l1 x56_16 a0_0 a0_1 l0_2 a0_3 = some r) ∧ Aside0 (kq ≤ kj3) ∧ Aside0 (Kd.R k35 35 wc w.heap.size (fun k_ => some k_ ≠ ((.slice Ao29 t368.length co29) : Value).ownBlock) (.slice Ao22 t359.length co22) t359) ∧ Aside0 (Kd.R k35 35 wc w.heap.size (fun k_ => some k_ ≠ ((.slice Ao22 t359.length co22) : Value).ownBlock) (.slice Ao29 t368.length co29) t368) ∧ Aside0 (wc.heap[gb354]? = some (.cells #[.int .i64 a0_0, .int .i64 a0_1, (.slice A0_2 l0_2.length c0_2), .string a0_3] 25 (0, 0))) ∧ Aside0 (wc.heap[gb365]? = some (.cells #[.int .i64 t357, .int .i64 t358, (.slice Ao22 t359.length co22), .string t362] 25 (0, 0))) ∧ Aside0 (wc.heap[gb374]? = some (.cells #[.int .i64 t366, .int .i64 t367, (.slice Ao29 t368.length co29), .string t371] 25 (0, 0))) ∧ Aside0 (Below w.heap.size w wc))
  case first =>
   have H := HC17.out
   clear HC17
   replace H := Option.bind_eq_some_iff.mp H
   obtain ⟨t375, A300, H⟩ := H
   replace H : (if t375 = true then (if t363 = t372 then (strongroomlaw12_CapCodes.j1 kj3 l1 (t364 != t373) a0_0 a0_1 l0_2 a0_3) else (strongroomlaw12_CapCodes.j1 kj3 l1 true a0_0 a0_1 l0_2 a0_3)) else (strongroomlaw12_CapCodes.j1 kj3 l1 true a0_0 a0_1 l0_2 a0_3)) = some r := H
   have A30 := Aside0.mk A300
   clear A300
   by_cases c31 : t375 = true
   case neg =>
    replace c31 := Bool.eq_false_iff.mpr c31
    subst c31
    have H1 : (strongroomlaw12_CapCodes.j1 kj3 l1 true a0_0 a0_1 l0_2 a0_3) = some r := by rw [if_neg (show ¬ (false = true) by decide)] at H; exact H
    clear H
    have H := H1
    clear H1
    have H' := Aside0.mk H
    clear H
    have hnb45 := NB365_354.out
    have hnc45 := NB354_365.out
    have hnb46 := NB365_374.out
    have hnc46 := NB374_365.out
    obtain ⟨hcz47_0, hcz47_1, hcz47_2, hcz47_3⟩ := bc4_ BK365.out
    obtain ⟨hfz47_0, hfz47_1, hfz47_2, hfz47_3⟩ := bf4_ BK365.out
    have hnb48 := NB374_354.out
    have hnc48 := NB354_374.out
    obtain ⟨hcz49_0, hcz49_1, hcz49_2, hcz49_3⟩ := bc4_ BK374.out
    obtain ⟨hfz49_0, hfz49_1, hfz49_2, hfz49_3⟩ := bf4_ BK374.out
    go_wp2_with (first | ((with_reducible refine gate_callee (f := 13) rfl ?_); refine goesL_ (some 45) rfl rfl Tryd.func13 (by kernel_rfl) rfl #[.agg #[.int .i64 t357, .int .i64 t358, .slice Ao22 t359.length co22, .string t362], .agg #[.int .i64 t366, .int .i64 t367, .slice Ao29 t368.length co29, .string t371]] rfl m30_ ?_; (with_reducible refine (strongroomref12_Same.calls kj3 t357 t358 _ _ t359 t362 t366 t367 _ _ t368 t371 false _ ?side1 ?side2 ?side3 ?side4 A30.out).mono ?_); (case side1 => refine (Kd.R_reads' (e := 35) (base := w.heap.size) (ok := fun k_ => (True ∧ some k_ ≠ (.slice Ao29 t368.length co29 : Value).ownBlock)) (n := t359.length) (c := co22) ?_).2.2; exact (by refine rD_ ?_; exact (Kd.R_mono (Kd.R_far (p := ⟨gb374, 3, none⟩) (Kd.R_far (p := ⟨gb374, 2, none⟩) (Kd.R_far (p := ⟨gb374, 1, none⟩) (Kd.R_far (p := ⟨gb374, 0, none⟩) (Kd.R_types HO361.out BK374.out (by decide)) (fun _ hk => hk.2) (.int .i64 t366)) (fun _ hk => hk.2) (.int .i64 t367)) (fun _ hk => hk.2) (.slice Ao29 t368.length co29)) (fun _ hk => hk.2) (.string t371)) (fun _ h_ => h_.1)))); (case side2 => exact (Kd.R_reads' HO361.out).2.1); (case side3 => refine (Kd.R_reads' (e := 35) (base := w.heap.size) (ok := fun k_ => (True ∧ some k_ ≠ (.slice Ao22 t359.length co22 : Value).ownBlock)) (n := t368.length) (c := co29) ?_).2.2; exact (by refine rD_ ?_; exact (Kd.R_mono (Kd.R_far (p := ⟨gb374, 3, none⟩) (Kd.R_far (p := ⟨gb374, 2, none⟩) (Kd.R_far (p := ⟨gb374, 1, none⟩) (Kd.R_far (p := ⟨gb374, 0, none⟩) (Kd.R_types HO370.out BK374.out (by decide)) (fun _ hk => hk.2) (.int .i64 t366)) (fun _ hk => hk.2) (.int .i64 t367)) (fun _ hk => hk.2) (.slice Ao29 t368.length co29)) (fun _ hk => hk.2) (.string t371)) (fun _ h_ => h_.1)))); (case side4 => exact (Kd.R_reads' HO370.out).2.1); rintro e w50 ⟨rfl, hb⟩; refine ⟨_, rfl, ?_⟩; have n0_ := Aside0.mk (Kd.R_below (by refine rD_ ?_; exact (Kd.R_mono (Kd.R_far (p := ⟨gb374, 3, none⟩) (Kd.R_far (p := ⟨gb374, 2, none⟩) (Kd.R_far (p := ⟨gb374, 1, none⟩) (Kd.R_far (p := ⟨gb374, 0, none⟩) (Kd.R_types HO361.out BK374.out (by decide)) (fun _ hk => hk.2) (.int .i64 t366)) (fun _ hk => hk.2) (.int .i64 t367)) (fun _ hk => hk.2) (.slice Ao29 t368.length co29)) (fun _ hk => hk.2) (.string t371)) (fun _ h_ => h_.1))) hb); have n1_ := Aside0.mk (Kd.R_below (by refine rD_ ?_; exact (Kd.R_mono (Kd.R_far (p := ⟨gb374, 3, none⟩) (Kd.R_far (p := ⟨gb374, 2, none⟩) (Kd.R_far (p := ⟨gb374, 1, none⟩) (Kd.R_far (p := ⟨gb374, 0, none⟩) (Kd.R_types HO370.out BK374.out (by decide)) (fun _ hk => hk.2) (.int .i64 t366)) (fun _ hk => hk.2) (.int .i64 t367)) (fun _ hk => hk.2) (.slice Ao29 t368.length co29)) (fun _ hk => hk.2) (.string t371)) (fun _ h_ => h_.1))) hb); have n2_ := Aside0.mk (blk_below (g := gb354) (o := .cells #[.int .i64 a0_0, .int .i64 a0_1, .slice A0_2 l0_2.length c0_2, .string a0_3] 25 (0, 0)) m2_ hb); have n3_ := Aside0.mk (blk_below (g := gb365) (o := .cells #[.int .i64 t357, .int .i64 t358, .slice Ao22 t359.length co22, .string t362] 25 (0, 0)) m1_ hb); have n4_ := Aside0.mk (blk_below (g := gb374) (o := .cells #[.int .i64 t366, .int .i64 t367, .slice Ao29 t368.length co29, .string t371] 25 (0, 0)) (by refine bD_ ?_; refine blk_put (cs := #[.int .i64 t366, .int .i64 t367, .slice Ao29 t368.length co29, .string (⟨#[]⟩ : ByteArray)]) ?_ 3 _ rfl; refine bD_ ?_; refine blk_put (cs := #[.int .i64 t366, .int .i64 t367, .slice none 0 0, .string (⟨#[]⟩ : ByteArray)]) ?_ 2 _ rfl; refine bD_ ?_; refine blk_put (cs := #[.int .i64 t366, .int .i64 0, .slice none 0 0, .string (⟨#[]⟩ : ByteArray)]) ?_ 1 _ rfl; refine bD_ ?_; refine blk_put (cs := #[.int .i64 0, .int .i64 0, .slice none 0 0, .string (⟨#[]⟩ : ByteArray)]) ?_ 0 _ rfl; refine bD_ ?_; exact BK374.out) hb); have n5_ := Aside0.mk (below_step m9_ hb); clear HO361; clear HO370; clear BK354; clear BK365; clear BK374; clear HB; have HO361 := n0_; have HO370 := n1_; have BK354 := n2_; have BK365 := n3_; have BK374 := n4_; have HB := n5_; clear n0_ n1_ n2_ n3_ n4_ n5_; (try clear hb); (try clear hb2); (try clear hk); (try clear hi)))
    go_meet
    case rel => exact ⟨_, (true), m55_, H', ⟨by have := HJ3.out; first | omega | exact Nat.le_refl _⟩, ⟨by refine rD_ ?_; exact Kd.R_mono HO361.out (fun _ hk => hk.2)⟩, ⟨by refine rD_ ?_; exact Kd.R_mono HO370.out (fun _ hk => hk.2)⟩, ⟨by refine bD_ ?_; exact BK354.out⟩, ⟨by refine bD_ ?_; exact BK365.out⟩, ⟨by refine bD_ ?_; exact BK374.out⟩, ⟨m61_⟩⟩
   subst c31
   have H1 : (if t363 = t372 then (strongroomlaw12_CapCodes.j1 kj3 l1 (t364 != t373) a0_0 a0_1 l0_2 a0_3) else (strongroomlaw12_CapCodes.j1 kj3 l1 true a0_0 a0_1 l0_2 a0_3)) = some r := by rw [if_pos rfl] at H; exact H
   clear H
   have H := H1
   clear H1
   by_cases c32 : t363 = t372
   case neg =>
    rw [if_neg c32] at H
    have c32b0 : (t363 == t372) = false := beq_eq_false_iff_ne.mpr c32
    have c32b1 : (t363 != t372) = true := bne_iff_ne.mpr c32
    (first | rw [c32b0] | (simp only [i64_w, i32_w]; rw [c32b0]) | skip)
    have H' := Aside0.mk H
    clear H
    have hnb39 := NB365_354.out
    have hnc39 := NB354_365.out
    have hnb40 := NB365_374.out
    have hnc40 := NB374_365.out
    obtain ⟨hcz41_0, hcz41_1, hcz41_2, hcz41_3⟩ := bc4_ BK365.out
    obtain ⟨hfz41_0, hfz41_1, hfz41_2, hfz41_3⟩ := bf4_ BK365.out
    have hnb42 := NB374_354.out
    have hnc42 := NB354_374.out
    obtain ⟨hcz43_0, hcz43_1, hcz43_2, hcz43_3⟩ := bc4_ BK374.out
    obtain ⟨hfz43_0, hfz43_1, hfz43_2, hfz43_3⟩ := bf4_ BK374.out
    go_wp2_with (first | ((with_reducible refine gate_callee (f := 13) rfl ?_); refine goesL_ (some 45) rfl rfl Tryd.func13 (by kernel_rfl) rfl #[.agg #[.int .i64 t357, .int .i64 t358, .slice Ao22 t359.length co22, .string t362], .agg #[.int .i64 t366, .int .i64 t367, .slice Ao29 t368.length co29, .string t371]] rfl m30_ ?_; (with_reducible refine (strongroomref12_Same.calls kj3 t357 t358 _ _ t359 t362 t366 t367 _ _ t368 t371 true _ ?side1 ?side2 ?side3 ?side4 A30.out).mono ?_); (case side1 => refine (Kd.R_reads' (e := 35) (base := w.heap.size) (ok := fun k_ => (True ∧ some k_ ≠ (.slice Ao29 t368.length co29 : Value).ownBlock)) (n := t359.length) (c := co22) ?_).2.2; exact (by refine rD_ ?_; exact (Kd.R_mono (Kd.R_far (p := ⟨gb374, 3, none⟩) (Kd.R_far (p := ⟨gb374, 2, none⟩) (Kd.R_far (p := ⟨gb374, 1, none⟩) (Kd.R_far (p := ⟨gb374, 0, none⟩) (Kd.R_types HO361.out BK374.out (by decide)) (fun _ hk => hk.2) (.int .i64 t366)) (fun _ hk => hk.2) (.int .i64 t367)) (fun _ hk => hk.2) (.slice Ao29 t368.length co29)) (fun _ hk => hk.2) (.string t371)) (fun _ h_ => h_.1)))); (case side2 => exact (Kd.R_reads' HO361.out).2.1); (case side3 => refine (Kd.R_reads' (e := 35) (base := w.heap.size) (ok := fun k_ => (True ∧ some k_ ≠ (.slice Ao22 t359.length co22 : Value).ownBlock)) (n := t368.length) (c := co29) ?_).2.2; exact (by refine rD_ ?_; exact (Kd.R_mono (Kd.R_far (p := ⟨gb374, 3, none⟩) (Kd.R_far (p := ⟨gb374, 2, none⟩) (Kd.R_far (p := ⟨gb374, 1, none⟩) (Kd.R_far (p := ⟨gb374, 0, none⟩) (Kd.R_types HO370.out BK374.out (by decide)) (fun _ hk => hk.2) (.int .i64 t366)) (fun _ hk => hk.2) (.int .i64 t367)) (fun _ hk => hk.2) (.slice Ao29 t368.length co29)) (fun _ hk => hk.2) (.string t371)) (fun _ h_ => h_.1)))); (case side4 => exact (Kd.R_reads' HO370.out).2.1); rintro e w44 ⟨rfl, hb⟩; refine ⟨_, rfl, ?_⟩; have n0_ := Aside0.mk (Kd.R_below (by refine rD_ ?_; exact (Kd.R_mono (Kd.R_far (p := ⟨gb374, 3, none⟩) (Kd.R_far (p := ⟨gb374, 2, none⟩) (Kd.R_far (p := ⟨gb374, 1, none⟩) (Kd.R_far (p := ⟨gb374, 0, none⟩) (Kd.R_types HO361.out BK374.out (by decide)) (fun _ hk => hk.2) (.int .i64 t366)) (fun _ hk => hk.2) (.int .i64 t367)) (fun _ hk => hk.2) (.slice Ao29 t368.length co29)) (fun _ hk => hk.2) (.string t371)) (fun _ h_ => h_.1))) hb); have n1_ := Aside0.mk (Kd.R_below (by refine rD_ ?_; exact (Kd.R_mono (Kd.R_far (p := ⟨gb374, 3, none⟩) (Kd.R_far (p := ⟨gb374, 2, none⟩) (Kd.R_far (p := ⟨gb374, 1, none⟩) (Kd.R_far (p := ⟨gb374, 0, none⟩) (Kd.R_types HO370.out BK374.out (by decide)) (fun _ hk => hk.2) (.int .i64 t366)) (fun _ hk => hk.2) (.int .i64 t367)) (fun _ hk => hk.2) (.slice Ao29 t368.length co29)) (fun _ hk => hk.2) (.string t371)) (fun _ h_ => h_.1))) hb); have n2_ := Aside0.mk (blk_below (g := gb354) (o := .cells #[.int .i64 a0_0, .int .i64 a0_1, .slice A0_2 l0_2.length c0_2, .string a0_3] 25 (0, 0)) m2_ hb); have n3_ := Aside0.mk (blk_below (g := gb365) (o := .cells #[.int .i64 t357, .int .i64 t358, .slice Ao22 t359.length co22, .string t362] 25 (0, 0)) m1_ hb); have n4_ := Aside0.mk (blk_below (g := gb374) (o := .cells #[.int .i64 t366, .int .i64 t367, .slice Ao29 t368.length co29, .string t371] 25 (0, 0)) (by refine bD_ ?_; refine blk_put (cs := #[.int .i64 t366, .int .i64 t367, .slice Ao29 t368.length co29, .string (⟨#[]⟩ : ByteArray)]) ?_ 3 _ rfl; refine bD_ ?_; refine blk_put (cs := #[.int .i64 t366, .int .i64 t367, .slice none 0 0, .string (⟨#[]⟩ : ByteArray)]) ?_ 2 _ rfl; refine bD_ ?_; refine blk_put (cs := #[.int .i64 t366, .int .i64 0, .slice none 0 0, .string (⟨#[]⟩ : ByteArray)]) ?_ 1 _ rfl; refine bD_ ?_; refine blk_put (cs := #[.int .i64 0, .int .i64 0, .slice none 0 0, .string (⟨#[]⟩ : ByteArray)]) ?_ 0 _ rfl; refine bD_ ?_; exact BK374.out) hb); have n5_ := Aside0.mk (below_step m9_ hb); clear HO361; clear HO370; clear BK354; clear BK365; clear BK374; clear HB; have HO361 := n0_; have HO370 := n1_; have BK354 := n2_; have BK365 := n3_; have BK374 := n4_; have HB := n5_; clear n0_ n1_ n2_ n3_ n4_ n5_; (try clear hb); (try clear hb2); (try clear hk); (try clear hi)))
    go_meet
    case rel => exact ⟨_, (true), m55_, H', ⟨by have := HJ3.out; first | omega | exact Nat.le_refl _⟩, ⟨by refine rD_ ?_; exact Kd.R_mono HO361.out (fun _ hk => hk.2)⟩, ⟨by refine rD_ ?_; exact Kd.R_mono HO370.out (fun _ hk => hk.2)⟩, ⟨by refine bD_ ?_; exact BK354.out⟩, ⟨by refine bD_ ?_; exact BK365.out⟩, ⟨by refine bD_ ?_; exact BK374.out⟩, ⟨m61_⟩⟩
   rw [if_pos c32] at H
   have c32b0 : (t363 == t372) = true := beq_iff_eq.mpr c32
   have c32b1 : (t363 != t372) = false := bne_eq_false_iff_eq.mpr c32
   clear c32
   (first | rw [c32b0] | (simp only [i64_w, i32_w]; rw [c32b0]) | skip)
   have H' := Aside0.mk H
   clear H
   have hnb33 := NB365_354.out
   have hnc33 := NB354_365.out
   have hnb34 := NB365_374.out
   have hnc34 := NB374_365.out
   obtain ⟨hcz35_0, hcz35_1, hcz35_2, hcz35_3⟩ := bc4_ BK365.out
   obtain ⟨hfz35_0, hfz35_1, hfz35_2, hfz35_3⟩ := bf4_ BK365.out
   have hnb36 := NB374_354.out
   have hnc36 := NB354_374.out
   obtain ⟨hcz37_0, hcz37_1, hcz37_2, hcz37_3⟩ := bc4_ BK374.out
   obtain ⟨hfz37_0, hfz37_1, hfz37_2, hfz37_3⟩ := bf4_ BK374.out
   go_wp2_with (first | ((with_reducible refine gate_callee (f := 13) rfl ?_); refine goesL_ (some 45) rfl rfl Tryd.func13 (by kernel_rfl) rfl #[.agg #[.int .i64 t357, .int .i64 t358, .slice Ao22 t359.length co22, .string t362], .agg #[.int .i64 t366, .int .i64 t367, .slice Ao29 t368.length co29, .string t371]] rfl m30_ ?_; (with_reducible refine (strongroomref12_Same.calls kj3 t357 t358 _ _ t359 t362 t366 t367 _ _ t368 t371 true _ ?side1 ?side2 ?side3 ?side4 A30.out).mono ?_); (case side1 => refine (Kd.R_reads' (e := 35) (base := w.heap.size) (ok := fun k_ => (True ∧ some k_ ≠ (.slice Ao29 t368.length co29 : Value).ownBlock)) (n := t359.length) (c := co22) ?_).2.2; exact (by refine rD_ ?_; exact (Kd.R_mono (Kd.R_far (p := ⟨gb374, 3, none⟩) (Kd.R_far (p := ⟨gb374, 2, none⟩) (Kd.R_far (p := ⟨gb374, 1, none⟩) (Kd.R_far (p := ⟨gb374, 0, none⟩) (Kd.R_types HO361.out BK374.out (by decide)) (fun _ hk => hk.2) (.int .i64 t366)) (fun _ hk => hk.2) (.int .i64 t367)) (fun _ hk => hk.2) (.slice Ao29 t368.length co29)) (fun _ hk => hk.2) (.string t371)) (fun _ h_ => h_.1)))); (case side2 => exact (Kd.R_reads' HO361.out).2.1); (case side3 => refine (Kd.R_reads' (e := 35) (base := w.heap.size) (ok := fun k_ => (True ∧ some k_ ≠ (.slice Ao22 t359.length co22 : Value).ownBlock)) (n := t368.length) (c := co29) ?_).2.2; exact (by refine rD_ ?_; exact (Kd.R_mono (Kd.R_far (p := ⟨gb374, 3, none⟩) (Kd.R_far (p := ⟨gb374, 2, none⟩) (Kd.R_far (p := ⟨gb374, 1, none⟩) (Kd.R_far (p := ⟨gb374, 0, none⟩) (Kd.R_types HO370.out BK374.out (by decide)) (fun _ hk => hk.2) (.int .i64 t366)) (fun _ hk => hk.2) (.int .i64 t367)) (fun _ hk => hk.2) (.slice Ao29 t368.length co29)) (fun _ hk => hk.2) (.string t371)) (fun _ h_ => h_.1)))); (case side4 => exact (Kd.R_reads' HO370.out).2.1); rintro e w38 ⟨rfl, hb⟩; refine ⟨_, rfl, ?_⟩; have n0_ := Aside0.mk (Kd.R_below (by refine rD_ ?_; exact (Kd.R_mono (Kd.R_far (p := ⟨gb374, 3, none⟩) (Kd.R_far (p := ⟨gb374, 2, none⟩) (Kd.R_far (p := ⟨gb374, 1, none⟩) (Kd.R_far (p := ⟨gb374, 0, none⟩) (Kd.R_types HO361.out BK374.out (by decide)) (fun _ hk => hk.2) (.int .i64 t366)) (fun _ hk => hk.2) (.int .i64 t367)) (fun _ hk => hk.2) (.slice Ao29 t368.length co29)) (fun _ hk => hk.2) (.string t371)) (fun _ h_ => h_.1))) hb); have n1_ := Aside0.mk (Kd.R_below (by refine rD_ ?_; exact (Kd.R_mono (Kd.R_far (p := ⟨gb374, 3, none⟩) (Kd.R_far (p := ⟨gb374, 2, none⟩) (Kd.R_far (p := ⟨gb374, 1, none⟩) (Kd.R_far (p := ⟨gb374, 0, none⟩) (Kd.R_types HO370.out BK374.out (by decide)) (fun _ hk => hk.2) (.int .i64 t366)) (fun _ hk => hk.2) (.int .i64 t367)) (fun _ hk => hk.2) (.slice Ao29 t368.length co29)) (fun _ hk => hk.2) (.string t371)) (fun _ h_ => h_.1))) hb); have n2_ := Aside0.mk (blk_below (g := gb354) (o := .cells #[.int .i64 a0_0, .int .i64 a0_1, .slice A0_2 l0_2.length c0_2, .string a0_3] 25 (0, 0)) m2_ hb); have n3_ := Aside0.mk (blk_below (g := gb365) (o := .cells #[.int .i64 t357, .int .i64 t358, .slice Ao22 t359.length co22, .string t362] 25 (0, 0)) m1_ hb); have n4_ := Aside0.mk (blk_below (g := gb374) (o := .cells #[.int .i64 t366, .int .i64 t367, .slice Ao29 t368.length co29, .string t371] 25 (0, 0)) (by refine bD_ ?_; refine blk_put (cs := #[.int .i64 t366, .int .i64 t367, .slice Ao29 t368.length co29, .string (⟨#[]⟩ : ByteArray)]) ?_ 3 _ rfl; refine bD_ ?_; refine blk_put (cs := #[.int .i64 t366, .int .i64 t367, .slice none 0 0, .string (⟨#[]⟩ : ByteArray)]) ?_ 2 _ rfl; refine bD_ ?_; refine blk_put (cs := #[.int .i64 t366, .int .i64 0, .slice none 0 0, .string (⟨#[]⟩ : ByteArray)]) ?_ 1 _ rfl; refine bD_ ?_; refine blk_put (cs := #[.int .i64 0, .int .i64 0, .slice none 0 0, .string (⟨#[]⟩ : ByteArray)]) ?_ 0 _ rfl; refine bD_ ?_; exact BK374.out) hb); have n5_ := Aside0.mk (below_step m9_ hb); clear HO361; clear HO370; clear BK354; clear BK365; clear BK374; clear HB; have HO361 := n0_; have HO370 := n1_; have BK354 := n2_; have BK365 := n3_; have BK374 := n4_; have HB := n5_; clear n0_ n1_ n2_ n3_ n4_ n5_; (try clear hb); (try clear hb2); (try clear hk); (try clear hi)))
   go_meet
   case rel => exact ⟨_, ((t364 != t373)), m55_, H', ⟨by have := HJ3.out; first | omega | exact Nat.le_refl _⟩, ⟨by refine rD_ ?_; exact Kd.R_mono HO361.out (fun _ hk => hk.2)⟩, ⟨by refine rD_ ?_; exact Kd.R_mono HO370.out (fun _ hk => hk.2)⟩, ⟨by refine bD_ ?_; exact BK354.out⟩, ⟨by refine bD_ ?_; exact BK365.out⟩, ⟨by refine bD_ ?_; exact BK374.out⟩, ⟨m61_⟩⟩
  clear HC17
  try clear c1; try clear c12; try clear hcv23; try clear hcz21_0; try clear hcz21_1; try clear hcz21_2; try clear hcz21_3; try clear hcz28_0; try clear hcz28_1; try clear hcz28_2; try clear hcz28_3; try clear hfz21_0; try clear hfz21_1; try clear hfz21_2; try clear hfz21_3; try clear hfz28_0; try clear hfz28_1; try clear hfz28_2; try clear hfz28_3
  obtain ⟨kq, x56_16, rfl, HA, HJ16, HO_366002, HO_375002, BK354, BK365, BK374, HB⟩ := hcut
  cases kq with
  | zero => exact absurd HA.out (by simp [strongroomlaw12_CapCodes.j1])
  | succ kj16 =>
   have H := HA.out
   clear HA
   simp only [strongroomlaw12_CapCodes.j1] at H
   by_cases c51 : x56_16 = true
   ·subst c51
    have H1 : (some false) = some r := by rw [if_pos rfl] at H; exact H
    clear H
    have H := H1
    clear H1
    exact absurd ((Option.some.inj H).trans hr_) (by decide)
   replace c51 := Bool.eq_false_iff.mpr c51
   subst c51
   have H1 : ((cap_Encode.f kj16 a0_0 a0_1 l0_2 a0_3).bind fun bt376 => ((strongroomref12_May.f kj16 a0_0 a0_1 l0_2 a0_3).bind fun t380 => (if t380 = true then ((some (([] : List Int) : List Int)).bind fun y382 => (if y382.length + l1.length < 140737488355328 then ((some (y382 ++ l1 : List Int)).bind fun y385 => (if y385.length + bt376.1.length < 140737488355328 then ((some (y385 ++ bt376.1 : List Int)).bind fun y388 => (if y388.length + l1.length < 140737488355328 then ((cap_Decode.f kj16 (y388 ++ l1) (l1.length : Int)).bind fun bt394 => (if bt376.2 = 0 then ((strongroomref12_Encode.f kj16 a0_0 a0_1 l0_2 a0_3).bind fun t403 => (if (strOfNums bt376.1).toList = t403.toList then (if bt394.2.2.2.2.2 = 0 then ((strongroomref12_Same.f kj16 bt394.1 bt394.2.1 bt394.2.2.1 bt394.2.2.2.1 a0_0 a0_1 l0_2 a0_3).bind fun t404 => (if t404 = true then (if bt394.2.2.2.2.1 = (wrap64 ((l1.length : Int) + (bt376.1.length : Int))) then ((strongroomlaw12_lives.f kj16).bind fun t405 => (some t405)) else (some false)) else (some false))) else (some false)) else (some false))) else (some false))) else (none))) else (none))) else (none))) else (if (bt376.1.length : Int) = 0 then (if bt376.2 = 1 then ((strongroomlaw12_lives.f kj16).bind fun t381 => (some t381)) else (some false)) else (some false))))) = some r := by rw [if_neg (show ¬ (false = true) by decide)] at H; exact H
   clear H
   have H := H1
   clear H1
   replace H := Option.bind_eq_some_iff.mp H
   obtain ⟨⟨t376, t379⟩, A520, H⟩ := H
   replace H : ((strongroomref12_May.f kj16 a0_0 a0_1 l0_2 a0_3).bind fun t380 => (if t380 = true then ((some (([] : List Int) : List Int)).bind fun y382 => (if y382.length + l1.length < 140737488355328 then ((some (y382 ++ l1 : List Int)).bind fun y385 => (if y385.length + t376.length < 140737488355328 then ((some (y385 ++ t376 : List Int)).bind fun y388 => (if y388.length + l1.length < 140737488355328 then ((cap_Decode.f kj16 (y388 ++ l1) (l1.length : Int)).bind fun bt394 => (if t379 = 0 then ((strongroomref12_Encode.f kj16 a0_0 a0_1 l0_2 a0_3).bind fun t403 => (if (strOfNums t376).toList = t403.toList then (if bt394.2.2.2.2.2 = 0 then ((strongroomref12_Same.f kj16 bt394.1 bt394.2.1 bt394.2.2.1 bt394.2.2.2.1 a0_0 a0_1 l0_2 a0_3).bind fun t404 => (if t404 = true then (if bt394.2.2.2.2.1 = (wrap64 ((l1.length : Int) + (t376.length : Int))) then ((strongroomlaw12_lives.f kj16).bind fun t405 => (some t405)) else (some false)) else (some false))) else (some false)) else (some false))) else (some false))) else (none))) else (none))) else (none))) else (if (t376.length : Int) = 0 then (if t379 = 1 then ((strongroomlaw12_lives.f kj16).bind fun t381 => (some t381)) else (some false)) else (some false)))) = some r := H
   have A52 := Aside0.mk A520
   clear A520
   replace H := Option.bind_eq_some_iff.mp H
   obtain ⟨t380, A530, H⟩ := H
   replace H : (if t380 = true then ((some (([] : List Int) : List Int)).bind fun y382 => (if y382.length + l1.length < 140737488355328 then ((some (y382 ++ l1 : List Int)).bind fun y385 => (if y385.length + t376.length < 140737488355328 then ((some (y385 ++ t376 : List Int)).bind fun y388 => (if y388.length + l1.length < 140737488355328 then ((cap_Decode.f kj16 (y388 ++ l1) (l1.length : Int)).bind fun bt394 => (if t379 = 0 then ((strongroomref12_Encode.f kj16 a0_0 a0_1 l0_2 a0_3).bind fun t403 => (if (strOfNums t376).toList = t403.toList then (if bt394.2.2.2.2.2 = 0 then ((strongroomref12_Same.f kj16 bt394.1 bt394.2.1 bt394.2.2.1 bt394.2.2.2.1 a0_0 a0_1 l0_2 a0_3).bind fun t404 => (if t404 = true then (if bt394.2.2.2.2.1 = (wrap64 ((l1.length : Int) + (t376.length : Int))) then ((strongroomlaw12_lives.f kj16).bind fun t405 => (some t405)) else (some false)) else (some false))) else (some false)) else (some false))) else (some false))) else (none))) else (none))) else (none))) else (if (t376.length : Int) = 0 then (if t379 = 1 then ((strongroomlaw12_lives.f kj16).bind fun t381 => (some t381)) else (some false)) else (some false))) = some r := H
   have A53 := Aside0.mk A530
   clear A530
   by_cases c54 : t380 = true
   case neg =>
    replace c54 := Bool.eq_false_iff.mpr c54
    subst c54
    have H1 : (if (t376.length : Int) = 0 then (if t379 = 1 then ((strongroomlaw12_lives.f kj16).bind fun t381 => (some t381)) else (some false)) else (some false)) = some r := by rw [if_neg (show ¬ (false = true) by decide)] at H; exact H
    clear H
    have H := H1
    clear H1
    by_cases c218 : (t376.length : Int) = 0
    case neg =>
     rw [if_neg c218] at H
     have c218b0 : ((t376.length : Int) == 0) = false := beq_eq_false_iff_ne.mpr c218
     have c218b1 : ((t376.length : Int) != 0) = true := bne_iff_ne.mpr c218
     have c218b2 : ¬ (t376 = []) := fun h_ => c218 (by rw [h_]; rfl)
     exact absurd ((Option.some.inj H).trans hr_) (by decide)
    rw [if_pos c218] at H
    have c218b0 : ((t376.length : Int) == 0) = true := beq_iff_eq.mpr c218
    have c218b1 : ((t376.length : Int) != 0) = false := bne_eq_false_iff_eq.mpr c218
    clear c218
    by_cases c219 : t379 = 1
    case neg =>
     rw [if_neg c219] at H
     have c219b0 : (t379 == 1) = false := beq_eq_false_iff_ne.mpr c219
     have c219b1 : (t379 != 1) = true := bne_iff_ne.mpr c219
     exact absurd ((Option.some.inj H).trans hr_) (by decide)
    rw [if_pos c219] at H
    have c219b0 : (t379 == 1) = true := beq_iff_eq.mpr c219
    have c219b1 : (t379 != 1) = false := bne_eq_false_iff_eq.mpr c219
    clear c219
    replace H := Option.bind_eq_some_iff.mp H
    obtain ⟨t381, A2200, H⟩ := H
    replace H : (some t381) = some r := H
    have A220 := Aside0.mk A2200
    clear A2200
    obtain rfl := Option.some.inj H
    have hnb221 := NB354_365.out
    have hnc221 := NB365_354.out
    have hnb222 := NB354_374.out
    have hnc222 := NB374_354.out
    obtain ⟨hcz223_0, hcz223_1, hcz223_2, hcz223_3⟩ := bc4_ BK354.out
    obtain ⟨hfz223_0, hfz223_1, hfz223_2, hfz223_3⟩ := bf4_ BK354.out
    go_wp2_with (first | ((with_reducible refine gate_callee (f := 28) rfl ?_); refine goesL_ (some 59) rfl rfl Tryd.func28 (by kernel_rfl) rfl #[.agg #[.int .i64 a0_0, .int .i64 a0_1, .slice A0_2 l0_2.length c0_2, .string a0_3]] rfl m30_ ?_; (with_reducible refine (cap_Encode.calls kj16 a0_0 a0_1 _ _ l0_2 a0_3 t376 t379 _ ?side1 ?side2 A52.out).mono ?_); (case side1 => exact m65_); (case side2 => exact HC0_2.out); rintro e w224 ⟨v377, rfl, ho0, hb⟩; refine ⟨_, rfl, ?_⟩; replace HO_366002 := Aside0.mk (Kd.R_below m49_ hb); replace HO_375002 := Aside0.mk (Kd.R_below m48_ hb); have HO378 := Aside0.mk (Kd.R_lower ho0 (below_size m9_)); replace BK354 := Aside0.mk (blk_below (g := gb354) (o := .cells #[.int .i64 a0_0, .int .i64 a0_1, .slice A0_2 l0_2.length c0_2, .string a0_3] 25 (0, 0)) m34_ hb); replace BK365 := Aside0.mk (blk_below (g := gb365) (o := .cells #[.int .i64 t357, .int .i64 t358, .slice Ao22 t359.length co22, .string t362] 25 (0, 0)) m38_ hb); replace BK374 := Aside0.mk (blk_below (g := gb374) (o := .cells #[.int .i64 t366, .int .i64 t367, .slice Ao29 t368.length co29, .string t371] 25 (0, 0)) m40_ hb); replace HB := Aside0.mk (below_step m9_ hb); (try clear hb); (try clear hb2); (try clear hk); (try clear hi); (try clear ho0); obtain ⟨hcz225_0, hcz225_1, hcz225_2, hcz225_3⟩ := bc4_ BK354.out; obtain ⟨hfz225_0, hfz225_1, hfz225_2, hfz225_3⟩ := bf4_ BK354.out) | ((with_reducible refine gate_callee (f := 19) rfl ?_); refine goesL_ (some 63) rfl rfl Tryd.func19 (by kernel_rfl) rfl #[.agg #[.int .i64 a0_0, .int .i64 a0_1, .slice A0_2 l0_2.length c0_2, .string a0_3]] rfl m30_ ?_; (with_reducible refine (strongroomref12_May.calls kj16 a0_0 a0_1 _ _ l0_2 a0_3 false _ ?side1 ?side2 A53.out).mono ?_); (case side1 => exact m65_); (case side2 => exact HC0_2.out); rintro e w226 ⟨rfl, hb⟩; refine ⟨_, rfl, ?_⟩; replace HO_366002 := Aside0.mk (Kd.R_below m49_ hb); replace HO_375002 := Aside0.mk (Kd.R_below m48_ hb); replace HO378 := Aside0.mk (Kd.R_below m51_ hb); replace BK354 := Aside0.mk (blk_below (g := gb354) (o := .cells #[.int .i64 a0_0, .int .i64 a0_1, .slice A0_2 l0_2.length c0_2, .string a0_3] 25 (0, 0)) m34_ hb); replace BK365 := Aside0.mk (blk_below (g := gb365) (o := .cells #[.int .i64 t357, .int .i64 t358, .slice Ao22 t359.length co22, .string t362] 25 (0, 0)) m38_ hb); replace BK374 := Aside0.mk (blk_below (g := gb374) (o := .cells #[.int .i64 t366, .int .i64 t367, .slice Ao29 t368.length co29, .string t371] 25 (0, 0)) m40_ hb); replace HB := Aside0.mk (below_step m9_ hb); (try clear hb); (try clear hb2); (try clear hk); (try clear hi); obtain ⟨Ao227, co227, eo227⟩ := Kd.R_slice HO378.out; subst eo227) | (go_at_call 10; (with_reducible refine (strongroomlaw12_lives.calls kj16  t381 _ A220.out hr_).mono ?_); rintro e w228 ⟨rfl, hb⟩; replace HO_366002 := Aside0.mk (Kd.R_below m49_ hb); replace HO_375002 := Aside0.mk (Kd.R_below m48_ hb); replace HO378 := Aside0.mk (Kd.R_below m51_ hb); replace BK354 := Aside0.mk (blk_below (g := gb354) (o := .cells #[.int .i64 a0_0, .int .i64 a0_1, .slice A0_2 l0_2.length c0_2, .string a0_3] 25 (0, 0)) m34_ hb); replace BK365 := Aside0.mk (blk_below (g := gb365) (o := .cells #[.int .i64 t357, .int .i64 t358, .slice Ao22 t359.length co22, .string t362] 25 (0, 0)) m38_ hb); replace BK374 := Aside0.mk (blk_below (g := gb374) (o := .cells #[.int .i64 t366, .int .i64 t367, .slice Ao29 t368.length co29, .string t371] 25 (0, 0)) m40_ hb); replace HB := Aside0.mk (below_step m9_ hb); (try clear hb); (try clear hb2); (try clear hk); (try clear hi)))
    go_ret
    exact ⟨by first | rfl | (simp [errW_none, errW_some] <;> rfl) | (simp [*, errW_none, errW_some] <;> rfl), m61_⟩
   subst c54
   have H1 : ((some (([] : List Int) : List Int)).bind fun y382 => (if y382.length + l1.length < 140737488355328 then ((some (y382 ++ l1 : List Int)).bind fun y385 => (if y385.length + t376.length < 140737488355328 then ((some (y385 ++ t376 : List Int)).bind fun y388 => (if y388.length + l1.length < 140737488355328 then ((cap_Decode.f kj16 (y388 ++ l1) (l1.length : Int)).bind fun bt394 => (if t379 = 0 then ((strongroomref12_Encode.f kj16 a0_0 a0_1 l0_2 a0_3).bind fun t403 => (if (strOfNums t376).toList = t403.toList then (if bt394.2.2.2.2.2 = 0 then ((strongroomref12_Same.f kj16 bt394.1 bt394.2.1 bt394.2.2.1 bt394.2.2.2.1 a0_0 a0_1 l0_2 a0_3).bind fun t404 => (if t404 = true then (if bt394.2.2.2.2.1 = (wrap64 ((l1.length : Int) + (t376.length : Int))) then ((strongroomlaw12_lives.f kj16).bind fun t405 => (some t405)) else (some false)) else (some false))) else (some false)) else (some false))) else (some false))) else (none))) else (none))) else (none))) = some r := by rw [if_pos rfl] at H; exact H
   clear H
   have H := H1
   clear H1
   obtain ⟨y382, hy382⟩ : ∃ y_ : List Int, y_ = (([] : List Int)) := ⟨_, rfl⟩
   replace H : (if y382.length + l1.length < 140737488355328 then ((some (y382 ++ l1 : List Int)).bind fun y385 => (if y385.length + t376.length < 140737488355328 then ((some (y385 ++ t376 : List Int)).bind fun y388 => (if y388.length + l1.length < 140737488355328 then ((cap_Decode.f kj16 (y388 ++ l1) (l1.length : Int)).bind fun bt394 => (if t379 = 0 then ((strongroomref12_Encode.f kj16 a0_0 a0_1 l0_2 a0_3).bind fun t403 => (if (strOfNums t376).toList = t403.toList then (if bt394.2.2.2.2.2 = 0 then ((strongroomref12_Same.f kj16 bt394.1 bt394.2.1 bt394.2.2.1 bt394.2.2.2.1 a0_0 a0_1 l0_2 a0_3).bind fun t404 => (if t404 = true then (if bt394.2.2.2.2.1 = (wrap64 ((l1.length : Int) + (t376.length : Int))) then ((strongroomlaw12_lives.f kj16).bind fun t405 => (some t405)) else (some false)) else (some false))) else (some false)) else (some false))) else (some false))) else (none))) else (none))) else (none)) = some r := by first | (rw [hy382]; with_reducible exact H) | (have H2_ := (Option.bind_some _ _).symm.trans H; rw [hy382]; with_reducible exact H2_) | (have H2_ := (Option.bind_some _ _).symm.trans H; with_reducible exact H2_) | with_reducible exact H | (rw [hy382]; exact H) | exact H
   have Ny382 := Aside0.mk hy382
   clear hy382
   by_cases c55 : y382.length + l1.length < 140737488355328
   case neg =>
    rw [if_neg c55] at H
    exact absurd H (by simp)
   rw [if_pos c55] at H
   have LMc55 := Aside0.mk c55
   clear c55
   obtain ⟨y385, hy385⟩ : ∃ y_ : List Int, y_ = (y382 ++ l1) := ⟨_, rfl⟩
   replace H : (if y385.length + t376.length < 140737488355328 then ((some (y385 ++ t376 : List Int)).bind fun y388 => (if y388.length + l1.length < 140737488355328 then ((cap_Decode.f kj16 (y388 ++ l1) (l1.length : Int)).bind fun bt394 => (if t379 = 0 then ((strongroomref12_Encode.f kj16 a0_0 a0_1 l0_2 a0_3).bind fun t403 => (if (strOfNums t376).toList = t403.toList then (if bt394.2.2.2.2.2 = 0 then ((strongroomref12_Same.f kj16 bt394.1 bt394.2.1 bt394.2.2.1 bt394.2.2.2.1 a0_0 a0_1 l0_2 a0_3).bind fun t404 => (if t404 = true then (if bt394.2.2.2.2.1 = (wrap64 ((l1.length : Int) + (t376.length : Int))) then ((strongroomlaw12_lives.f kj16).bind fun t405 => (some t405)) else (some false)) else (some false))) else (some false)) else (some false))) else (some false))) else (none))) else (none)) = some r := by first | (rw [hy385]; with_reducible exact H) | (have H2_ := (Option.bind_some _ _).symm.trans H; rw [hy385]; with_reducible exact H2_) | (have H2_ := (Option.bind_some _ _).symm.trans H; with_reducible exact H2_) | with_reducible exact H | (rw [hy385]; exact H) | exact H
   have Ny385 := Aside0.mk hy385
   clear hy385
   by_cases c56 : y385.length + t376.length < 140737488355328
   case neg =>
    rw [if_neg c56] at H
    exact absurd H (by simp)
   rw [if_pos c56] at H
   have LMc56 := Aside0.mk c56
   clear c56
   obtain ⟨y388, hy388⟩ : ∃ y_ : List Int, y_ = (y385 ++ t376) := ⟨_, rfl⟩
   replace H : (if y388.length + l1.length < 140737488355328 then ((cap_Decode.f kj16 (y388 ++ l1) (l1.length : Int)).bind fun bt394 => (if t379 = 0 then ((strongroomref12_Encode.f kj16 a0_0 a0_1 l0_2 a0_3).bind fun t403 => (if (strOfNums t376).toList = t403.toList then (if bt394.2.2.2.2.2 = 0 then ((strongroomref12_Same.f kj16 bt394.1 bt394.2.1 bt394.2.2.1 bt394.2.2.2.1 a0_0 a0_1 l0_2 a0_3).bind fun t404 => (if t404 = true then (if bt394.2.2.2.2.1 = (wrap64 ((l1.length : Int) + (t376.length : Int))) then ((strongroomlaw12_lives.f kj16).bind fun t405 => (some t405)) else (some false)) else (some false))) else (some false)) else (some false))) else (some false))) else (none)) = some r := by first | (rw [hy388]; with_reducible exact H) | (have H2_ := (Option.bind_some _ _).symm.trans H; rw [hy388]; with_reducible exact H2_) | (have H2_ := (Option.bind_some _ _).symm.trans H; with_reducible exact H2_) | with_reducible exact H | (rw [hy388]; exact H) | exact H
   have Ny388 := Aside0.mk hy388
   clear hy388
   by_cases c57 : y388.length + l1.length < 140737488355328
   case neg =>
    rw [if_neg c57] at H
    exact absurd H (by simp)
   rw [if_pos c57] at H
   have LMc57 := Aside0.mk c57
   clear c57
   obtain ⟨y391, hy391⟩ : ∃ y_ : List Int, y_ = (y388 ++ l1) := ⟨_, rfl⟩
   replace H : ((cap_Decode.f kj16 y391 (l1.length : Int)).bind fun bt394 => (if t379 = 0 then ((strongroomref12_Encode.f kj16 a0_0 a0_1 l0_2 a0_3).bind fun t403 => (if (strOfNums t376).toList = t403.toList then (if bt394.2.2.2.2.2 = 0 then ((strongroomref12_Same.f kj16 bt394.1 bt394.2.1 bt394.2.2.1 bt394.2.2.2.1 a0_0 a0_1 l0_2 a0_3).bind fun t404 => (if t404 = true then (if bt394.2.2.2.2.1 = (wrap64 ((l1.length : Int) + (t376.length : Int))) then ((strongroomlaw12_lives.f kj16).bind fun t405 => (some t405)) else (some false)) else (some false))) else (some false)) else (some false))) else (some false))) = some r := by first | (rw [hy391]; with_reducible exact H) | (have H2_ := (Option.bind_some _ _).symm.trans H; rw [hy391]; with_reducible exact H2_) | (have H2_ := (Option.bind_some _ _).symm.trans H; with_reducible exact H2_) | with_reducible exact H | (rw [hy391]; exact H) | exact H
   have Ny391 := Aside0.mk hy391
   clear hy391
   replace H := Option.bind_eq_some_iff.mp H
   obtain ⟨⟨t394, t395, t396, t399, t400, t401⟩, A580, H⟩ := H
   replace H : (if t379 = 0 then ((strongroomref12_Encode.f kj16 a0_0 a0_1 l0_2 a0_3).bind fun t403 => (if (strOfNums t376).toList = t403.toList then (if t401 = 0 then ((strongroomref12_Same.f kj16 t394 t395 t396 t399 a0_0 a0_1 l0_2 a0_3).bind fun t404 => (if t404 = true then (if t400 = (wrap64 ((l1.length : Int) + (t376.length : Int))) then ((strongroomlaw12_lives.f kj16).bind fun t405 => (some t405)) else (some false)) else (some false))) else (some false)) else (some false))) else (some false)) = some r := H
   have A58 := Aside0.mk A580
   clear A580
   by_cases c59 : t379 = 0
   case neg =>
    rw [if_neg c59] at H
    have c59b0 : (t379 == 0) = false := beq_eq_false_iff_ne.mpr c59
    have c59b1 : (t379 != 0) = true := bne_iff_ne.mpr c59
    exact absurd ((Option.some.inj H).trans hr_) (by decide)
   rw [if_pos c59] at H
   have c59b0 : (t379 == 0) = true := beq_iff_eq.mpr c59
   have c59b1 : (t379 != 0) = false := bne_eq_false_iff_eq.mpr c59
   clear c59
   replace H := Option.bind_eq_some_iff.mp H
   obtain ⟨t403, A600, H⟩ := H
   replace H : (if (strOfNums t376).toList = t403.toList then (if t401 = 0 then ((strongroomref12_Same.f kj16 t394 t395 t396 t399 a0_0 a0_1 l0_2 a0_3).bind fun t404 => (if t404 = true then (if t400 = (wrap64 ((l1.length : Int) + (t376.length : Int))) then ((strongroomlaw12_lives.f kj16).bind fun t405 => (some t405)) else (some false)) else (some false))) else (some false)) else (some false)) = some r := H
   have A60 := Aside0.mk A600
   clear A600
   by_cases c61 : (strOfNums t376).toList = t403.toList
   case neg =>
    rw [if_neg c61] at H
    have c61b0 : ((strOfNums t376).toList == t403.toList) = false := beq_eq_false_iff_ne.mpr c61
    have c61b1 : ((strOfNums t376).toList != t403.toList) = true := bne_iff_ne.mpr c61
    exact absurd ((Option.some.inj H).trans hr_) (by decide)
   rw [if_pos c61] at H
   have c61b0 : ((strOfNums t376).toList == t403.toList) = true := beq_iff_eq.mpr c61
   have c61b1 : ((strOfNums t376).toList != t403.toList) = false := bne_eq_false_iff_eq.mpr c61
   clear c61
   by_cases c62 : t401 = 0
   case neg =>
    rw [if_neg c62] at H
    have c62b0 : (t401 == 0) = false := beq_eq_false_iff_ne.mpr c62
    have c62b1 : (t401 != 0) = true := bne_iff_ne.mpr c62
    exact absurd ((Option.some.inj H).trans hr_) (by decide)
   rw [if_pos c62] at H
   have c62b0 : (t401 == 0) = true := beq_iff_eq.mpr c62
   have c62b1 : (t401 != 0) = false := bne_eq_false_iff_eq.mpr c62
   clear c62
   replace H := Option.bind_eq_some_iff.mp H
   obtain ⟨t404, A630, H⟩ := H
   replace H : (if t404 = true then (if t400 = (wrap64 ((l1.length : Int) + (t376.length : Int))) then ((strongroomlaw12_lives.f kj16).bind fun t405 => (some t405)) else (some false)) else (some false)) = some r := H
   have A63 := Aside0.mk A630
   clear A630
   by_cases c64 : t404 = true
   case neg =>
    replace c64 := Bool.eq_false_iff.mpr c64
    subst c64
    have H1 : (some false) = some r := by rw [if_neg (show ¬ (false = true) by decide)] at H; exact H
    clear H
    have H := H1
    clear H1
    exact absurd ((Option.some.inj H).trans hr_) (by decide)
   subst c64
   have H1 : (if t400 = (wrap64 ((l1.length : Int) + (t376.length : Int))) then ((strongroomlaw12_lives.f kj16).bind fun t405 => (some t405)) else (some false)) = some r := by rw [if_pos rfl] at H; exact H
   clear H
   have H := H1
   clear H1
   by_cases c65 : t400 = (wrap64 ((l1.length : Int) + (t376.length : Int)))
   case neg =>
    rw [if_neg c65] at H
    have c65b0 : (t400 == (wrap64 ((l1.length : Int) + (t376.length : Int)))) = false := beq_eq_false_iff_ne.mpr c65
    have c65b1 : (t400 != (wrap64 ((l1.length : Int) + (t376.length : Int)))) = true := bne_iff_ne.mpr c65
    exact absurd ((Option.some.inj H).trans hr_) (by decide)
   rw [if_pos c65] at H
   have c65b0 : (t400 == (wrap64 ((l1.length : Int) + (t376.length : Int)))) = true := beq_iff_eq.mpr c65
   have c65b1 : (t400 != (wrap64 ((l1.length : Int) + (t376.length : Int)))) = false := bne_eq_false_iff_eq.mpr c65
   clear c65
   replace H := Option.bind_eq_some_iff.mp H
   obtain ⟨t405, A660, H⟩ := H
   replace H : (some t405) = some r := H
   have A66 := Aside0.mk A660
   clear A660
   obtain rfl := Option.some.inj H
   have hnb67 := NB354_365.out
   have hnc67 := NB365_354.out
   have hnb68 := NB354_374.out
   have hnc68 := NB374_354.out
   obtain ⟨hcz69_0, hcz69_1, hcz69_2, hcz69_3⟩ := bc4_ BK354.out
   obtain ⟨hfz69_0, hfz69_1, hfz69_2, hfz69_3⟩ := bf4_ BK354.out
   try go_wp2_with (first | ((with_reducible refine gate_callee (f := 28) rfl ?_); refine goesL_ (some 59) rfl rfl Tryd.func28 (by kernel_rfl) rfl #[.agg #[.int .i64 a0_0, .int .i64 a0_1, .slice A0_2 l0_2.length c0_2, .string a0_3]] rfl m30_ ?_; (with_reducible refine (cap_Encode.calls kj16 a0_0 a0_1 _ _ l0_2 a0_3 t376 t379 _ ?side1 ?side2 A52.out).mono ?_); (case side1 => exact m65_); (case side2 => exact HC0_2.out); rintro e w70 ⟨v377, rfl, ho0, hb⟩; refine ⟨_, rfl, ?_⟩; replace HO_366002 := Aside0.mk (Kd.R_below m49_ hb); replace HO_375002 := Aside0.mk (Kd.R_below m48_ hb); have HO378 := Aside0.mk (Kd.R_lower ho0 (below_size m9_)); replace BK354 := Aside0.mk (blk_below (g := gb354) (o := .cells #[.int .i64 a0_0, .int .i64 a0_1, .slice A0_2 l0_2.length c0_2, .string a0_3] 25 (0, 0)) m34_ hb); replace BK365 := Aside0.mk (blk_below (g := gb365) (o := .cells #[.int .i64 t357, .int .i64 t358, .slice Ao22 t359.length co22, .string t362] 25 (0, 0)) m38_ hb); replace BK374 := Aside0.mk (blk_below (g := gb374) (o := .cells #[.int .i64 t366, .int .i64 t367, .slice Ao29 t368.length co29, .string t371] 25 (0, 0)) m40_ hb); replace HB := Aside0.mk (below_step m9_ hb); (try clear hb); (try clear hb2); (try clear hk); (try clear hi); (try clear ho0); obtain ⟨hcz71_0, hcz71_1, hcz71_2, hcz71_3⟩ := bc4_ BK354.out; obtain ⟨hfz71_0, hfz71_1, hfz71_2, hfz71_3⟩ := bf4_ BK354.out) | ((with_reducible refine gate_callee (f := 19) rfl ?_); refine goesL_ (some 63) rfl rfl Tryd.func19 (by kernel_rfl) rfl #[.agg #[.int .i64 a0_0, .int .i64 a0_1, .slice A0_2 l0_2.length c0_2, .string a0_3]] rfl m30_ ?_; (with_reducible refine (strongroomref12_May.calls kj16 a0_0 a0_1 _ _ l0_2 a0_3 true _ ?side1 ?side2 A53.out).mono ?_); (case side1 => exact m65_); (case side2 => exact HC0_2.out); rintro e w72 ⟨rfl, hb⟩; refine ⟨_, rfl, ?_⟩; replace HO_366002 := Aside0.mk (Kd.R_below m49_ hb); replace HO_375002 := Aside0.mk (Kd.R_below m48_ hb); replace HO378 := Aside0.mk (Kd.R_below m51_ hb); replace BK354 := Aside0.mk (blk_below (g := gb354) (o := .cells #[.int .i64 a0_0, .int .i64 a0_1, .slice A0_2 l0_2.length c0_2, .string a0_3] 25 (0, 0)) m34_ hb); replace BK365 := Aside0.mk (blk_below (g := gb365) (o := .cells #[.int .i64 t357, .int .i64 t358, .slice Ao22 t359.length co22, .string t362] 25 (0, 0)) m38_ hb); replace BK374 := Aside0.mk (blk_below (g := gb374) (o := .cells #[.int .i64 t366, .int .i64 t367, .slice Ao29 t368.length co29, .string t371] 25 (0, 0)) m40_ hb); replace HB := Aside0.mk (below_step m9_ hb); (try clear hb); (try clear hb2); (try clear hk); (try clear hi)) | ((with_reducible refine gate_dst (N := 75) rfl ?_); (try (refine gate_guard (by rfl) ?_; dsimp only)); refine Kd.R_lit (Kd.int .u8) _ 5 ?hg (N := 75) ?hd (xs := ([] : List Int)) (inner := []) (ok := fun _ => True) (okp := fun _ => True) ?hr ?hp (fun _ hk => hk) trivial (Below.refl _ _) (Nat.le_refl _) (by simp) ?_; (case hd => rfl); (case hg => rfl); (case hr => first | (go_simp; done) | (go_simp; rfl)); (case hp => exact (Reps.none _ _)); intro v383 w73 ho74 hb hg_ hnew_; clear hg_ hnew_; (first | rw [← Ny382.out] at ho74 | (simp only [Int.reduceToNat] at ho74; rw [← Ny382.out] at ho74)); have n0_ := Aside0.mk (Kd.R_below m49_ hb); have n1_ := Aside0.mk (Kd.R_below m48_ hb); have n2_ := Aside0.mk (Kd.R_elder' m51_ (Kd.R_base ho74) hb); have n3_ := Aside0.mk (Kd.R_lower (Kd.R_new' ho74 (Kd.R_lt m51_)) (below_size m9_)); have n4_ := Aside0.mk (blk_below (g := gb354) (o := .cells #[.int .i64 a0_0, .int .i64 a0_1, .slice A0_2 l0_2.length c0_2, .string a0_3] 25 (0, 0)) m34_ hb); have n5_ := Aside0.mk (blk_below (g := gb365) (o := .cells #[.int .i64 t357, .int .i64 t358, .slice Ao22 t359.length co22, .string t362] 25 (0, 0)) m38_ hb); have n6_ := Aside0.mk (blk_below (g := gb374) (o := .cells #[.int .i64 t366, .int .i64 t367, .slice Ao29 t368.length co29, .string t371] 25 (0, 0)) m40_ hb); have n7_ := Aside0.mk (below_step m9_ hb); clear HO_366002; clear HO_375002; clear HO378; clear BK354; clear BK365; clear BK374; clear HB; have HO_366002 := n0_; have HO_375002 := n1_; have HO378 := n2_; have HO384 := n3_; have BK354 := n4_; have BK365 := n5_; have BK374 := n6_; have HB := n7_; clear n0_ n1_ n2_ n3_ n4_ n5_ n6_ n7_; clear hb ho74) | ((with_reducible refine gate_builtin (b := .append) (xs := #[.tmp 76, .tmp 77]) rfl ?_); (try (refine gate_guard (by rfl) ?_; dsimp only)); at_builtin; refine Kd.R_append_rows (Kd.int .u8) (w0 := w) w.heap.size rfl (.tmp 76) (.tmp 77) 53 5 (.int .u8 0) 1 rfl Tryd.underlying53 info5 rfl (by decide) (by omega) v383 y382 l1 _ _ _ (fun k_ => some k_ ≠ (v377 : Value).ownBlock) (fun _ => False) rfl rfl ?aO ?aR (fun _ _ h => h) (fun _ h => h.elim) ?aF ?aB ?aS ?aL ?_; (case aR => exact m68_); (case aB => exact m9_); (case aF => exact (fun k_ hk => Kd.fresh' (Kd.R_lt m51_) k_ hk)); (case aO => exact (by refine rD_ ?_; exact Kd.R_mono HO384.out (fun _ hk => hk.2))); (case aS => exact (below_size m9_)); (case aL => have := LMc55.out; omega); intro v386 w75 ho hb hg hat; rw [← Ny385.out] at ho; have n0_ := Aside0.mk (Kd.R_over' m49_ (Kd.R_typed (rD_ HO384.out)) (by decide) hg); have n1_ := Aside0.mk (Kd.R_over' m48_ (Kd.R_typed (rD_ HO384.out)) (by decide) hg); have n2_ := Aside0.mk (blk_grown (g := gb354) (o := .cells #[.int .i64 a0_0, .int .i64 a0_1, .slice A0_2 l0_2.length c0_2, .string a0_3] 25 (0, 0)) m34_ hg (Kd.R_ne HO384.out BK354.out (by decide))); have n3_ := Aside0.mk (blk_grown (g := gb365) (o := .cells #[.int .i64 t357, .int .i64 t358, .slice Ao22 t359.length co22, .string t362] 25 (0, 0)) m38_ hg (Kd.R_ne HO384.out BK365.out (by decide))); have n4_ := Aside0.mk (blk_grown (g := gb374) (o := .cells #[.int .i64 t366, .int .i64 t367, .slice Ao29 t368.length co29, .string t371] 25 (0, 0)) m40_ hg (Kd.R_ne HO384.out BK374.out (by decide))); have n5_ := Aside0.mk (Kd.R_after (ok := (fun _ => True)) m51_ hg hat); have n6_ := Aside0.mk (hb); have n7_ := Aside0.mk (ho); clear HO_366002; clear HO_375002; clear BK354; clear BK365; clear BK374; clear HO378; clear HB; clear HO384; have HO_366002 := n0_; have HO_375002 := n1_; have BK354 := n2_; have BK365 := n3_; have BK374 := n4_; have HO378 := n5_; have HB := n6_; have HO387 := n7_; clear n0_ n1_ n2_ n3_ n4_ n5_ n6_ n7_; clear ho hb hg hat; obtain ⟨Ao77, co77, eo77⟩ := Kd.R_slice HO378.out; subst eo77) | ((with_reducible refine gate_builtin (b := .append) (xs := #[.tmp 79, .tmp 80]) rfl ?_); (try (refine gate_guard (by rfl) ?_; dsimp only)); at_builtin; refine Kd.R_append_rows (Kd.int .u8) (w0 := w) w.heap.size rfl (.tmp 79) (.tmp 80) 53 5 (.int .u8 0) 1 rfl Tryd.underlying53 info5 rfl (by decide) (by omega) v386 y385 t376 _ _ _ (fun k_ => some k_ ≠ (.slice Ao77 t376.length co77 : Value).ownBlock) (fun _ => False) rfl rfl ?aO ?aR (fun _ _ h => h) (fun _ h => h.elim) ?aF ?aB ?aS ?aL ?_; (case aR => repeat (first | exact (Kd.R_reads' HO378.out).2.2 | (with_reducible refine Kd.C_alloc ?_ _) | (with_reducible refine Kd.C_drewN ?_ _) | (with_reducible refine Kd.C_drew ?_))); (case aB => exact m9_); (case aF => exact (fun k_ hk => Kd.fresh' (Kd.R_lt m51_) k_ hk)); (case aO => exact (rD_ HO387.out)); (case aS => exact (below_size m9_)); (case aL => have := LMc56.out; omega); intro v389 w76 ho hb hg hat; rw [← Ny388.out] at ho; have n0_ := Aside0.mk (Kd.R_over' m49_ (Kd.R_typed (rD_ HO387.out)) (by decide) hg); have n1_ := Aside0.mk (Kd.R_over' m48_ (Kd.R_typed (rD_ HO387.out)) (by decide) hg); have n2_ := Aside0.mk (blk_grown (g := gb354) (o := .cells #[.int .i64 a0_0, .int .i64 a0_1, .slice A0_2 l0_2.length c0_2, .string a0_3] 25 (0, 0)) m34_ hg (Kd.R_ne HO387.out BK354.out (by decide))); have n3_ := Aside0.mk (blk_grown (g := gb365) (o := .cells #[.int .i64 t357, .int .i64 t358, .slice Ao22 t359.length co22, .string t362] 25 (0, 0)) m38_ hg (Kd.R_ne HO387.out BK365.out (by decide))); have n4_ := Aside0.mk (blk_grown (g := gb374) (o := .cells #[.int .i64 t366, .int .i64 t367, .slice Ao29 t368.length co29, .string t371] 25 (0, 0)) m40_ hg (Kd.R_ne HO387.out BK374.out (by decide))); have n5_ := Aside0.mk (Kd.R_after (ok := (fun _ => True)) m51_ hg hat); have n6_ := Aside0.mk (hb); have n7_ := Aside0.mk (ho); clear HO_366002; clear HO_375002; clear BK354; clear BK365; clear BK374; clear HO378; clear HB; clear HO387; have HO_366002 := n0_; have HO_375002 := n1_; have BK354 := n2_; have BK365 := n3_; have BK374 := n4_; have HO378 := n5_; have HB := n6_; have HO390 := n7_; clear n0_ n1_ n2_ n3_ n4_ n5_ n6_ n7_; clear ho hb hg hat) | ((with_reducible refine gate_builtin (b := .append) (xs := #[.tmp 82, .tmp 83]) rfl ?_); (try (refine gate_guard (by rfl) ?_; dsimp only)); at_builtin; refine Kd.R_append_rows (Kd.int .u8) (w0 := w) w.heap.size rfl (.tmp 82) (.tmp 83) 53 5 (.int .u8 0) 1 rfl Tryd.underlying53 info5 rfl (by decide) (by omega) v389 y388 l1 _ _ _ (fun k_ => some k_ ≠ (.slice Ao77 t376.length co77 : Value).ownBlock) (fun _ => False) rfl rfl ?aO ?aR (fun _ _ h => h) (fun _ h => h.elim) ?aF ?aB ?aS ?aL ?_; (case aR => exact m68_); (case aB => exact m9_); (case aF => exact (fun k_ hk => Kd.fresh' (Kd.R_lt m51_) k_ hk)); (case aO => exact (rD_ HO390.out)); (case aS => exact (below_size m9_)); (case aL => have := LMc57.out; omega); intro v392 w78 ho hb hg hat; rw [← Ny391.out] at ho; have n0_ := Aside0.mk (Kd.R_over' m49_ (Kd.R_typed (rD_ HO390.out)) (by decide) hg); have n1_ := Aside0.mk (Kd.R_over' m48_ (Kd.R_typed (rD_ HO390.out)) (by decide) hg); have n2_ := Aside0.mk (blk_grown (g := gb354) (o := .cells #[.int .i64 a0_0, .int .i64 a0_1, .slice A0_2 l0_2.length c0_2, .string a0_3] 25 (0, 0)) m34_ hg (Kd.R_ne HO390.out BK354.out (by decide))); have n3_ := Aside0.mk (blk_grown (g := gb365) (o := .cells #[.int .i64 t357, .int .i64 t358, .slice Ao22 t359.length co22, .string t362] 25 (0, 0)) m38_ hg (Kd.R_ne HO390.out BK365.out (by decide))); have n4_ := Aside0.mk (blk_grown (g := gb374) (o := .cells #[.int .i64 t366, .int .i64 t367, .slice Ao29 t368.length co29, .string t371] 25 (0, 0)) m40_ hg (Kd.R_ne HO390.out BK374.out (by decide))); have n5_ := Aside0.mk (Kd.R_after (ok := (fun _ => True)) m51_ hg hat); have n6_ := Aside0.mk (hb); have n7_ := Aside0.mk (ho); clear HO_366002; clear HO_375002; clear BK354; clear BK365; clear BK374; clear HO378; clear HB; clear HO390; have HO_366002 := n0_; have HO_375002 := n1_; have BK354 := n2_; have BK365 := n3_; have BK374 := n4_; have HO378 := n5_; have HB := n6_; have HO393 := n7_; clear n0_ n1_ n2_ n3_ n4_ n5_ n6_ n7_; clear ho hb hg hat; obtain ⟨Ao79, co79, eo79⟩ := Kd.R_slice HO393.out; subst eo79) | ((with_reducible refine gate_callee (f := 26) rfl ?_); refine goesL_ (some 89) rfl rfl Tryd.func26 (by kernel_rfl) rfl #[.slice Ao79 y391.length co79, .int .i64 (l1.length : Int)] rfl m30_ ?_; (with_reducible refine (cap_Decode.calls kj16 _ _ y391 (l1.length : Int) t394 t395 t396 t399 t400 t401 _ ?side1 ?side2 A58.out).mono ?_); (case side1 => repeat (first | exact (Kd.R_reads' HO393.out).2.2 | (with_reducible refine Kd.C_alloc ?_ _) | (with_reducible refine Kd.C_drewN ?_ _) | (with_reducible refine Kd.C_drew ?_))); (case side2 => exact (Kd.R_reads' HO393.out).2.1); rintro e w80 ⟨v397, rfl, ho0, hb⟩; refine ⟨_, rfl, ?_⟩; have n0_ := Aside0.mk (Kd.R_elder' m49_ (Kd.R_base ho0) hb); have n1_ := Aside0.mk (Kd.R_elder' m48_ (Kd.R_base ho0) hb); have n2_ := Aside0.mk (Kd.R_below m51_ hb); have n3_ := Aside0.mk (Kd.R_below (rD_ HO393.out) hb); have n4_ := Aside0.mk (Kd.R_lower (Kd.R_new' (Kd.R_new' ho0 (Kd.R_lt m49_)) (Kd.R_lt m48_)) (below_size m9_)); have n5_ := Aside0.mk (blk_below (g := gb354) (o := .cells #[.int .i64 a0_0, .int .i64 a0_1, .slice A0_2 l0_2.length c0_2, .string a0_3] 25 (0, 0)) m34_ hb); have n6_ := Aside0.mk (blk_below (g := gb365) (o := .cells #[.int .i64 t357, .int .i64 t358, .slice Ao22 t359.length co22, .string t362] 25 (0, 0)) m38_ hb); have n7_ := Aside0.mk (blk_below (g := gb374) (o := .cells #[.int .i64 t366, .int .i64 t367, .slice Ao29 t368.length co29, .string t371] 25 (0, 0)) m40_ hb); have n8_ := Aside0.mk (below_step m9_ hb); clear HO_366002; clear HO_375002; clear HO378; clear HO393; clear BK354; clear BK365; clear BK374; clear HB; have HO_366002 := n0_; have HO_375002 := n1_; have HO378 := n2_; have HO393 := n3_; have HO398 := n4_; have BK354 := n5_; have BK365 := n6_; have BK374 := n7_; have HB := n8_; clear n0_ n1_ n2_ n3_ n4_ n5_ n6_ n7_ n8_; (try clear hb); (try clear hb2); (try clear hk); (try clear hi); (try clear ho0)) | ((with_reducible refine gate_dst (N := 16) rfl ?_); (try (refine gate_guard (by rfl) ?_; dsimp only)); refine box_event ?hg (N := 16) ?hd (cs := #[.int .i64 0, .int .i64 0, .slice none 0 0, .string (⟨#[]⟩ : ByteArray)]) (t := 25) ?hr ?_; (case hd => rfl); (case hg => rfl); (case hr => first | (go_simp; done) | (go_simp; rfl)); intro gb402 hg w81 hbox hb; have n0_ := Aside0.mk (Kd.R_below m49_ hb); have n1_ := Aside0.mk (Kd.R_below m48_ hb); have n2_ := Aside0.mk (Kd.R_below m51_ hb); have n3_ := Aside0.mk (Kd.R_below (rD_ HO393.out) hb); have n4_ := Aside0.mk (Kd.R_below (rD_ HO398.out) hb); have n5_ := Aside0.mk (blk_below (g := gb354) (o := .cells #[.int .i64 a0_0, .int .i64 a0_1, .slice A0_2 l0_2.length c0_2, .string a0_3] 25 (0, 0)) m34_ hb); have n6_ := Aside0.mk (blk_below (g := gb365) (o := .cells #[.int .i64 t357, .int .i64 t358, .slice Ao22 t359.length co22, .string t362] 25 (0, 0)) m38_ hb); have n7_ := Aside0.mk (blk_below (g := gb374) (o := .cells #[.int .i64 t366, .int .i64 t367, .slice Ao29 t368.length co29, .string t371] 25 (0, 0)) m40_ hb); have n8_ := Aside0.mk (below_step m9_ hb); have n9_ := Aside0.mk (hbox); have n10_ := Aside0.mk ((by rw [hg]; exact (below_size m9_) : w.heap.size ≤ gb402)); have n11_ := Aside0.mk ((by rw [hg]; exact (below_size m9_) : w.heap.size ≤ gb402)); have n12_ := Aside0.mk ((by rw [hg]; exact Nat.ne_of_lt (blk_lt (g := gb354) (o := .cells #[.int .i64 a0_0, .int .i64 a0_1, .slice A0_2 l0_2.length c0_2, .string a0_3] 25 (0, 0)) m34_) : gb354 ≠ gb402)); have n13_ := Aside0.mk ((by rw [hg]; exact Nat.ne_of_gt (blk_lt (g := gb354) (o := .cells #[.int .i64 a0_0, .int .i64 a0_1, .slice A0_2 l0_2.length c0_2, .string a0_3] 25 (0, 0)) m34_) : gb402 ≠ gb354)); have n14_ := Aside0.mk ((by rw [hg]; exact Nat.ne_of_lt (blk_lt (g := gb365) (o := .cells #[.int .i64 t357, .int .i64 t358, .slice Ao22 t359.length co22, .string t362] 25 (0, 0)) m38_) : gb365 ≠ gb402)); have n15_ := Aside0.mk ((by rw [hg]; exact Nat.ne_of_gt (blk_lt (g := gb365) (o := .cells #[.int .i64 t357, .int .i64 t358, .slice Ao22 t359.length co22, .string t362] 25 (0, 0)) m38_) : gb402 ≠ gb365)); have n16_ := Aside0.mk ((by rw [hg]; exact Nat.ne_of_lt (blk_lt (g := gb374) (o := .cells #[.int .i64 t366, .int .i64 t367, .slice Ao29 t368.length co29, .string t371] 25 (0, 0)) m40_) : gb374 ≠ gb402)); have n17_ := Aside0.mk ((by rw [hg]; exact Nat.ne_of_gt (blk_lt (g := gb374) (o := .cells #[.int .i64 t366, .int .i64 t367, .slice Ao29 t368.length co29, .string t371] 25 (0, 0)) m40_) : gb402 ≠ gb374)); clear HO_366002; clear HO_375002; clear HO378; clear HO393; clear HO398; clear BK354; clear BK365; clear BK374; clear HB; have HO_366002 := n0_; have HO_375002 := n1_; have HO378 := n2_; have HO393 := n3_; have HO398 := n4_; have BK354 := n5_; have BK365 := n6_; have BK374 := n7_; have HB := n8_; have BK402 := n9_; have GW402 := n10_; have GE402 := n11_; have NB354_402 := n12_; have NB402_354 := n13_; have NB365_402 := n14_; have NB402_365 := n15_; have NB374_402 := n16_; have NB402_374 := n17_; clear n0_ n1_ n2_ n3_ n4_ n5_ n6_ n7_ n8_ n9_ n10_ n11_ n12_ n13_ n14_ n15_ n16_ n17_; clear hb hbox hg; have hnb82 := NB402_354.out; have hnc82 := NB354_402.out; have hnb83 := NB402_365.out; have hnc83 := NB365_402.out; have hnb84 := NB402_374.out; have hnc84 := NB374_402.out; obtain ⟨hcz85_0, hcz85_1, hcz85_2, hcz85_3⟩ := bc4_ BK402.out; obtain ⟨hfz85_0, hfz85_1, hfz85_2, hfz85_3⟩ := bf4_ BK402.out; obtain ⟨Ao86, co86, eo86⟩ := Kd.R_slice HO398.out; subst eo86))
   have n0_ : Aside0 (Kd.R k35 35 ((((w81.setCell ⟨gb402, 0, none⟩ (.int .i64 t394)).setCell ⟨gb402, 1, none⟩ (.int .i64 t395)).setCell ⟨gb402, 2, none⟩ (.slice Ao86 t396.length co86)).setCell ⟨gb402, 3, none⟩ (.string t399)) w.heap.size (fun k_ => some k_ ≠ (.slice Ao29 t368.length co29 : Value).ownBlock ∧ some k_ ≠ (.slice Ao86 t396.length co86 : Value).ownBlock) (.slice Ao22 t359.length co22) t359) := ⟨by refine rD_ ?_; exact Kd.R_mono (Kd.R_far (p := ⟨gb402, 3, none⟩) (Kd.R_far (p := ⟨gb402, 2, none⟩) (Kd.R_far (p := ⟨gb402, 1, none⟩) (Kd.R_far (p := ⟨gb402, 0, none⟩) (Kd.R_types HO_366002.out BK402.out (by decide)) (fun _ hk => hk.2) (.int .i64 t394)) (fun _ hk => hk.2) (.int .i64 t395)) (fun _ hk => hk.2) (.slice Ao86 t396.length co86)) (fun _ hk => hk.2) (.string t399)) (fun _ hk => ⟨hk.1.1, hk.1.2⟩)⟩
   have n1_ : Aside0 (Kd.R k35 35 ((((w81.setCell ⟨gb402, 0, none⟩ (.int .i64 t394)).setCell ⟨gb402, 1, none⟩ (.int .i64 t395)).setCell ⟨gb402, 2, none⟩ (.slice Ao86 t396.length co86)).setCell ⟨gb402, 3, none⟩ (.string t399)) w.heap.size (fun k_ => some k_ ≠ (.slice Ao22 t359.length co22 : Value).ownBlock ∧ some k_ ≠ (.slice Ao86 t396.length co86 : Value).ownBlock) (.slice Ao29 t368.length co29) t368) := ⟨by refine rD_ ?_; exact Kd.R_mono (Kd.R_far (p := ⟨gb402, 3, none⟩) (Kd.R_far (p := ⟨gb402, 2, none⟩) (Kd.R_far (p := ⟨gb402, 1, none⟩) (Kd.R_far (p := ⟨gb402, 0, none⟩) (Kd.R_types HO_375002.out BK402.out (by decide)) (fun _ hk => hk.2) (.int .i64 t394)) (fun _ hk => hk.2) (.int .i64 t395)) (fun _ hk => hk.2) (.slice Ao86 t396.length co86)) (fun _ hk => hk.2) (.string t399)) (fun _ hk => ⟨hk.1.1, hk.1.2⟩)⟩
   have n2_ : Aside0 (Kd.R (Kd.int .u8) 5 ((((w81.setCell ⟨gb402, 0, none⟩ (.int .i64 t394)).setCell ⟨gb402, 1, none⟩ (.int .i64 t395)).setCell ⟨gb402, 2, none⟩ (.slice Ao86 t396.length co86)).setCell ⟨gb402, 3, none⟩ (.string t399)) w.heap.size (fun k_ => some k_ ≠ (.slice Ao79 y391.length co79 : Value).ownBlock) (.slice Ao77 t376.length co77) t376) := ⟨by refine rD_ ?_; exact Kd.R_mono (Kd.R_far (p := ⟨gb402, 3, none⟩) (Kd.R_far (p := ⟨gb402, 2, none⟩) (Kd.R_far (p := ⟨gb402, 1, none⟩) (Kd.R_far (p := ⟨gb402, 0, none⟩) (Kd.R_types HO378.out BK402.out (by decide)) (fun _ hk => hk.2) (.int .i64 t394)) (fun _ hk => hk.2) (.int .i64 t395)) (fun _ hk => hk.2) (.slice Ao86 t396.length co86)) (fun _ hk => hk.2) (.string t399)) (fun _ hk => hk.1.2)⟩
   have n3_ : Aside0 (Kd.R (Kd.int .u8) 5 ((((w81.setCell ⟨gb402, 0, none⟩ (.int .i64 t394)).setCell ⟨gb402, 1, none⟩ (.int .i64 t395)).setCell ⟨gb402, 2, none⟩ (.slice Ao86 t396.length co86)).setCell ⟨gb402, 3, none⟩ (.string t399)) w.heap.size (fun k_ => some k_ ≠ (.slice Ao77 t376.length co77 : Value).ownBlock) (.slice Ao79 y391.length co79) y391) := ⟨by refine rD_ ?_; exact Kd.R_mono (Kd.R_far (p := ⟨gb402, 3, none⟩) (Kd.R_far (p := ⟨gb402, 2, none⟩) (Kd.R_far (p := ⟨gb402, 1, none⟩) (Kd.R_far (p := ⟨gb402, 0, none⟩) (Kd.R_types HO393.out BK402.out (by decide)) (fun _ hk => hk.2) (.int .i64 t394)) (fun _ hk => hk.2) (.int .i64 t395)) (fun _ hk => hk.2) (.slice Ao86 t396.length co86)) (fun _ hk => hk.2) (.string t399)) (fun _ hk => hk.1)⟩
   have n4_ : Aside0 (Kd.R k35 35 ((((w81.setCell ⟨gb402, 0, none⟩ (.int .i64 t394)).setCell ⟨gb402, 1, none⟩ (.int .i64 t395)).setCell ⟨gb402, 2, none⟩ (.slice Ao86 t396.length co86)).setCell ⟨gb402, 3, none⟩ (.string t399)) w.heap.size (fun k_ => some k_ ≠ (.slice Ao22 t359.length co22 : Value).ownBlock ∧ some k_ ≠ (.slice Ao29 t368.length co29 : Value).ownBlock) (.slice Ao86 t396.length co86) t396) := ⟨by refine rD_ ?_; exact Kd.R_mono (Kd.R_far (p := ⟨gb402, 3, none⟩) (Kd.R_far (p := ⟨gb402, 2, none⟩) (Kd.R_far (p := ⟨gb402, 1, none⟩) (Kd.R_far (p := ⟨gb402, 0, none⟩) (Kd.R_types HO398.out BK402.out (by decide)) (fun _ hk => hk.2) (.int .i64 t394)) (fun _ hk => hk.2) (.int .i64 t395)) (fun _ hk => hk.2) (.slice Ao86 t396.length co86)) (fun _ hk => hk.2) (.string t399)) (fun _ hk => ⟨hk.1.1.2, hk.1.2⟩)⟩
   have n5_ : Aside0 (((((w81.setCell ⟨gb402, 0, none⟩ (.int .i64 t394)).setCell ⟨gb402, 1, none⟩ (.int .i64 t395)).setCell ⟨gb402, 2, none⟩ (.slice Ao86 t396.length co86)).setCell ⟨gb402, 3, none⟩ (.string t399)).heap[gb354]? = some (.cells #[.int .i64 a0_0, .int .i64 a0_1, .slice A0_2 l0_2.length c0_2, .string a0_3] 25 (0, 0))) := ⟨by refine bD_ ?_; refine blk_far ?_ NB354_402.out _; refine bD_ ?_; refine blk_far ?_ NB354_402.out _; refine bD_ ?_; refine blk_far ?_ NB354_402.out _; refine bD_ ?_; refine blk_far ?_ NB354_402.out _; refine bD_ ?_; exact BK354.out⟩
   have n6_ : Aside0 (((((w81.setCell ⟨gb402, 0, none⟩ (.int .i64 t394)).setCell ⟨gb402, 1, none⟩ (.int .i64 t395)).setCell ⟨gb402, 2, none⟩ (.slice Ao86 t396.length co86)).setCell ⟨gb402, 3, none⟩ (.string t399)).heap[gb365]? = some (.cells #[.int .i64 t357, .int .i64 t358, .slice Ao22 t359.length co22, .string t362] 25 (0, 0))) := ⟨by refine bD_ ?_; refine blk_far ?_ NB365_402.out _; refine bD_ ?_; refine blk_far ?_ NB365_402.out _; refine bD_ ?_; refine blk_far ?_ NB365_402.out _; refine bD_ ?_; refine blk_far ?_ NB365_402.out _; refine bD_ ?_; exact BK365.out⟩
   have n7_ : Aside0 (((((w81.setCell ⟨gb402, 0, none⟩ (.int .i64 t394)).setCell ⟨gb402, 1, none⟩ (.int .i64 t395)).setCell ⟨gb402, 2, none⟩ (.slice Ao86 t396.length co86)).setCell ⟨gb402, 3, none⟩ (.string t399)).heap[gb374]? = some (.cells #[.int .i64 t366, .int .i64 t367, .slice Ao29 t368.length co29, .string t371] 25 (0, 0))) := ⟨by refine bD_ ?_; refine blk_far ?_ NB374_402.out _; refine bD_ ?_; refine blk_far ?_ NB374_402.out _; refine bD_ ?_; refine blk_far ?_ NB374_402.out _; refine bD_ ?_; refine blk_far ?_ NB374_402.out _; refine bD_ ?_; exact BK374.out⟩
   have n8_ : Aside0 (((((w81.setCell ⟨gb402, 0, none⟩ (.int .i64 t394)).setCell ⟨gb402, 1, none⟩ (.int .i64 t395)).setCell ⟨gb402, 2, none⟩ (.slice Ao86 t396.length co86)).setCell ⟨gb402, 3, none⟩ (.string t399)).heap[gb402]? = some (.cells #[.int .i64 t394, .int .i64 t395, .slice Ao86 t396.length co86, .string t399] 25 (0, 0))) := ⟨by refine bD_ ?_; refine blk_put (cs := #[.int .i64 t394, .int .i64 t395, .slice Ao86 t396.length co86, .string (⟨#[]⟩ : ByteArray)]) ?_ 3 _ rfl; refine bD_ ?_; refine blk_put (cs := #[.int .i64 t394, .int .i64 t395, .slice none 0 0, .string (⟨#[]⟩ : ByteArray)]) ?_ 2 _ rfl; refine bD_ ?_; refine blk_put (cs := #[.int .i64 t394, .int .i64 0, .slice none 0 0, .string (⟨#[]⟩ : ByteArray)]) ?_ 1 _ rfl; refine bD_ ?_; refine blk_put (cs := #[.int .i64 0, .int .i64 0, .slice none 0 0, .string (⟨#[]⟩ : ByteArray)]) ?_ 0 _ rfl; refine bD_ ?_; exact BK402.out⟩
   have n9_ : Aside0 (Below w.heap.size w ((((w81.setCell ⟨gb402, 0, none⟩ (.int .i64 t394)).setCell ⟨gb402, 1, none⟩ (.int .i64 t395)).setCell ⟨gb402, 2, none⟩ (.slice Ao86 t396.length co86)).setCell ⟨gb402, 3, none⟩ (.string t399))) := ⟨by repeat (first | (with_reducible first | exact HB.out | apply below_alloc | apply pw_below_drewN | apply below_drew1 | refine below_set ?_ GE354.out | refine below_set ?_ GE365.out | refine below_set ?_ GE374.out | refine below_set ?_ GE402.out) | exact HB.out)⟩
   (try clear HO_366002)
   (try clear HO_375002)
   (try clear HO378)
   (try clear HO393)
   (try clear HO398)
   (try clear BK354)
   (try clear BK365)
   (try clear BK374)
   (try clear BK402)
   (try clear HB)
   generalize ((((w81.setCell ⟨gb402, 0, none⟩ (.int .i64 t394)).setCell ⟨gb402, 1, none⟩ (.int .i64 t395)).setCell ⟨gb402, 2, none⟩ (.slice Ao86 t396.length co86)).setCell ⟨gb402, 3, none⟩ (.string t399)) = w87 at n0_ n1_ n2_ n3_ n4_ n5_ n6_ n7_ n8_ n9_ ⊢
   have HO_366002 := n0_
   have HO_375002 := n1_
   have HO378 := n2_
   have HO393 := n3_
   have HO398 := n4_
   have BK354 := n5_
   have BK365 := n6_
   have BK374 := n7_
   have BK402 := n8_
   have HB := n9_
   clear n0_ n1_ n2_ n3_ n4_ n5_ n6_ n7_ n8_ n9_
   replace HO_366002 := Aside0.mk (Kd.R_drew HO_366002.out)
   replace HO_375002 := Aside0.mk (Kd.R_drew HO_375002.out)
   replace HO378 := Aside0.mk (Kd.R_drew HO378.out)
   replace HO393 := Aside0.mk (Kd.R_drew HO393.out)
   replace HO398 := Aside0.mk (Kd.R_drew HO398.out)
   replace BK354 := Aside0.mk (blk_drew BK354.out)
   replace BK365 := Aside0.mk (blk_drew BK365.out)
   replace BK374 := Aside0.mk (blk_drew BK374.out)
   replace BK402 := Aside0.mk (blk_drew BK402.out)
   replace HB := Aside0.mk (below_drew1 HB.out)
   refine start_ (n := 31) (S := fun w' => w'.cell? ⟨gb354, 0, none⟩ = some (.int .i64 a0_0) ∧ w'.cell? ⟨gb354, 1, none⟩ = some (.int .i64 a0_1) ∧ w'.cell? ⟨gb354, 2, none⟩ = some (.slice A0_2 l0_2.length c0_2) ∧ w'.cell? ⟨gb354, 3, none⟩ = some (.string a0_3) ∧ w'.cell? ⟨gb402, 0, none⟩ = some (.int .i64 t394) ∧ w'.cell? ⟨gb402, 1, none⟩ = some (.int .i64 t395) ∧ w'.cell? ⟨gb402, 2, none⟩ = some (.slice Ao86 t396.length co86) ∧ w'.cell? ⟨gb402, 3, none⟩ = some (.string t399) ∧ (convert 53 9 (.slice Ao77 t376.length co77)).run Tryd.prog w' = .ok (.string (strOfNums t376)) w') (ds := []) (Ra_ [0, 31]) (by kernel_rfl) rfl rfl ⟨(blk_cell BK354.out 0).trans rfl, (blk_cell BK354.out 1).trans rfl, (blk_cell BK354.out 2).trans rfl, (blk_cell BK354.out 3).trans rfl, (blk_cell BK402.out 0).trans rfl, (blk_cell BK402.out 1).trans rfl, (blk_cell BK402.out 2).trans rfl, (blk_cell BK402.out 3).trans rfl, own_string (P := Tryd.prog) Tryd.underlying53 Tryd.underlying5 Tryd.underlying9 (Kd.own_of_R HO378.out)⟩ (fun hHeld => ?_); refine with_tabW strongroomlaw12_CapCodes.tab15 strongroomlaw12_CapCodes.bits15 (fun HT_ HW_ => ?_)
   generalize w87.drew = w88 at HO_366002 HO_375002 HO378 HO393 HO398 BK354 BK365 BK374 BK402 HB hHeld ⊢
   refine pI_ 0 (some 93) (Ra_ [1, 30]) (h := ?_)
   refine pI_ 1 (some 94) (Ra_ [2, 29]) (h := ?_)
   refine pI_ 2 (some 95) (Ra_ [3, 28]) (h := ?_)
   refine pI_ 3 (some 96) (Ra_ [4, 27]) (h := ?_)
   refine tI9_ 4 (some 97) (Ra_ [5, 26]) (h := ?_)
   refine tI9_ 5 (some 98) (Ra_ [6, 25]) (h := ?_)
   refine one_ (i := 6) (N := some 99) (Ra_ [7, 24]) rfl rfl (one_of HT_.out (by kernel_rfl)) (by decide) (fun K hK => ?_)
   refine goes_ Tryd.func29 (by kernel_rfl) rfl #[.agg #[.int .i64 a0_0, .int .i64 a0_1, .slice A0_2 l0_2.length c0_2, .string a0_3]] (by rfl) rfl rfl m30_ ?_
   with_reducible refine (strongroomref12_Encode.calls kj16 a0_0 a0_1 _ _ l0_2 a0_3 t403 _ ?side1 ?side2 A60.out).mono ?_
   (case side1 => exact m65_)
   (case side2 => exact HC0_2.out)
   rintro e w90 ⟨rfl, hb⟩
   refine ⟨_, rfl, ?_⟩
   have n0_ := Aside0.mk (Kd.R_below m49_ hb)
   have n1_ := Aside0.mk (Kd.R_below m48_ hb)
   have n2_ := Aside0.mk (Kd.R_below m51_ hb)
   have n3_ := Aside0.mk (Kd.R_below (rD_ HO393.out) hb)
   have n4_ := Aside0.mk (Kd.R_below (rD_ HO398.out) hb)
   have n5_ := Aside0.mk (blk_below (g := gb354) (o := .cells #[.int .i64 a0_0, .int .i64 a0_1, .slice A0_2 l0_2.length c0_2, .string a0_3] 25 (0, 0)) m34_ hb)
   have n6_ := Aside0.mk (blk_below (g := gb365) (o := .cells #[.int .i64 t357, .int .i64 t358, .slice Ao22 t359.length co22, .string t362] 25 (0, 0)) m38_ hb)
   have n7_ := Aside0.mk (blk_below (g := gb374) (o := .cells #[.int .i64 t366, .int .i64 t367, .slice Ao29 t368.length co29, .string t371] 25 (0, 0)) m40_ hb)
   have n8_ := Aside0.mk (blk_below (g := gb402) (o := .cells #[.int .i64 t394, .int .i64 t395, .slice Ao86 t396.length co86, .string t399] 25 (0, 0)) (bD_ BK402.out) hb)
   have n9_ := Aside0.mk (below_step m6_ hb)
   clear HO_366002 HO_375002 HO378 HO393 HO398 BK354 BK365 BK374 BK402 HB
   have HO_366002 := n0_
   have HO_375002 := n1_
   have HO378 := n2_
   have HO393 := n3_
   have HO398 := n4_
   have BK354 := n5_
   have BK365 := n6_
   have BK374 := n7_
   have BK402 := n8_
   have HB := n9_
   clear n0_ n1_ n2_ n3_ n4_ n5_ n6_ n7_ n8_ n9_
   (try clear hb)
   (try clear hb2)
   (try clear hk)
   (try clear hi)
   refine hK.out _ _ ⟨(blk_cell BK354.out 0).trans rfl, (blk_cell BK354.out 1).trans rfl, (blk_cell BK354.out 2).trans rfl, (blk_cell BK354.out 3).trans rfl, (blk_cell BK402.out 0).trans rfl, (blk_cell BK402.out 1).trans rfl, (blk_cell BK402.out 2).trans rfl, (blk_cell BK402.out 3).trans rfl, own_string (P := Tryd.prog) Tryd.underlying53 Tryd.underlying5 Tryd.underlying9 (Kd.own_of_R HO378.out)⟩ (fun hHeld => ?_)
   clear hK K
   refine norm_ (a' := ?_) ?_ ?_
   rotate_left
   ·show Act.put _ (some 99) _ = _
    simp only [Act.put, sA_, sB_, sC_, i64_w, i32_w]
    rfl
   refine pI_ 7 (some 100) (Ra_ [8, 23]) (h := ?_)
   refine pI_ 8 (some 101) (Ra_ [9, 22]) (h := ?_)
   refine pI_ 9 (some 102) (Ra_ [10, 21]) (h := ?_)
   refine pI_ 10 (some 103) (Ra_ [11, 20]) (h := ?_)
   refine pI_ 11 (some 104) (Ra_ [12, 19]) (h := ?_)
   refine pI_ 12 (some 105) (Ra_ [13, 18]) (h := ?_)
   refine pI_ 13 (some 106) (Ra_ [14, 17]) (h := ?_)
   refine tI9_ 14 (some 107) (Ra_ [15, 16]) (h := ?_)
   refine tI9_ 15 (some 108) (Ra_ [16, 15]) (h := ?_)
   refine one_ (i := 16) (N := some 109) (Ra_ [17, 14]) rfl rfl (one_of HT_.out (by kernel_rfl)) (by decide) (fun K hK => ?_)
   refine goes_ Tryd.func13 (by kernel_rfl) rfl #[.agg #[.int .i64 t394, .int .i64 t395, .slice Ao86 t396.length co86, .string t399], .agg #[.int .i64 a0_0, .int .i64 a0_1, .slice A0_2 l0_2.length c0_2, .string a0_3]] (by rfl) rfl rfl m30_ ?_
   with_reducible refine (strongroomref12_Same.calls kj16 t394 t395 _ _ t396 t399 a0_0 a0_1 _ _ l0_2 a0_3 true _ ?side1 ?side2 ?side3 ?side4 A63.out).mono ?_
   (case side1 => repeat (first | exact (Kd.R_reads' HO398.out).2.2 | (with_reducible refine Kd.C_alloc ?_ _) | (with_reducible refine Kd.C_drewN ?_ _) | (with_reducible refine Kd.C_drew ?_)))
   (case side2 => exact (Kd.R_reads' HO398.out).2.1)
   (case side3 => exact m65_)
   (case side4 => exact HC0_2.out)
   rintro e w92 ⟨rfl, hb⟩
   refine ⟨_, rfl, ?_⟩
   have n0_ := Aside0.mk (Kd.R_below m49_ hb)
   have n1_ := Aside0.mk (Kd.R_below m48_ hb)
   have n2_ := Aside0.mk (Kd.R_below m51_ hb)
   have n3_ := Aside0.mk (Kd.R_below (rD_ HO393.out) hb)
   have n4_ := Aside0.mk (Kd.R_below (rD_ HO398.out) hb)
   have n5_ := Aside0.mk (blk_below (g := gb354) (o := .cells #[.int .i64 a0_0, .int .i64 a0_1, .slice A0_2 l0_2.length c0_2, .string a0_3] 25 (0, 0)) m34_ hb)
   have n6_ := Aside0.mk (blk_below (g := gb365) (o := .cells #[.int .i64 t357, .int .i64 t358, .slice Ao22 t359.length co22, .string t362] 25 (0, 0)) m38_ hb)
   have n7_ := Aside0.mk (blk_below (g := gb374) (o := .cells #[.int .i64 t366, .int .i64 t367, .slice Ao29 t368.length co29, .string t371] 25 (0, 0)) m40_ hb)
   have n8_ := Aside0.mk (blk_below (g := gb402) (o := .cells #[.int .i64 t394, .int .i64 t395, .slice Ao86 t396.length co86, .string t399] 25 (0, 0)) (bD_ BK402.out) hb)
   have n9_ := Aside0.mk (below_step m6_ hb)
   clear HO_366002 HO_375002 HO378 HO393 HO398 BK354 BK365 BK374 BK402 HB
   have HO_366002 := n0_
   have HO_375002 := n1_
   have HO378 := n2_
   have HO393 := n3_
   have HO398 := n4_
   have BK354 := n5_
   have BK365 := n6_
   have BK374 := n7_
   have BK402 := n8_
   have HB := n9_
   clear n0_ n1_ n2_ n3_ n4_ n5_ n6_ n7_ n8_ n9_
   (try clear hb)
   (try clear hb2)
   (try clear hk)
   (try clear hi)
   refine hK.out _ _ ⟨(blk_cell BK354.out 0).trans rfl, (blk_cell BK354.out 1).trans rfl, (blk_cell BK354.out 2).trans rfl, (blk_cell BK354.out 3).trans rfl, (blk_cell BK402.out 0).trans rfl, (blk_cell BK402.out 1).trans rfl, (blk_cell BK402.out 2).trans rfl, (blk_cell BK402.out 3).trans rfl, own_string (P := Tryd.prog) Tryd.underlying53 Tryd.underlying5 Tryd.underlying9 (Kd.own_of_R HO378.out)⟩ (fun hHeld => ?_)
   clear hK K
   refine norm_ (a' := ?_) ?_ ?_
   rotate_left
   ·show Act.put _ (some 109) _ = _
    simp only [Act.put, sA_, sB_, sC_, i64_w, i32_w]
    rfl
   refine pI_ 17 (some 110) (Ra_ [18, 13]) (h := ?_)
   refine pI_ 18 (some 111) (Ra_ [19, 12]) (h := ?_)
   refine pI_ 19 (some 112) (Ra_ [20, 11]) (h := ?_)
   refine pI_ 20 (some 113) (Ra_ [21, 10]) (h := ?_)
   refine pI_ 21 (some 114) (Ra_ [22, 9]) (h := ?_)
   refine pI_ 22 (some 115) (Ra_ [23, 8]) (h := ?_)
   refine pI_ 23 (some 116) (Ra_ [24, 7]) (h := ?_)
   refine pI_ 24 (some 117) (Ra_ [25, 6]) (h := ?_)
   refine pI_ 25 (some 118) (Ra_ [26, 5]) (h := ?_)
   refine pI_ 26 (some 119) (Ra_ [27, 4]) (h := ?_)
   refine pI_ 27 (some 120) (Ra_ [28, 3]) (h := ?_)
   refine one_ (i := 28) (N := some 121) (Ra_ [29, 2]) rfl rfl (one_of HT_.out (by kernel_rfl)) (by decide) (fun K hK => ?_)
   refine goes_ Tryd.func10 (by kernel_rfl) rfl #[] (by rfl) rfl rfl m30_ ?_
   with_reducible refine (strongroomlaw12_lives.calls kj16  t405 _ A66.out hr_).mono ?_
   rintro e w93 ⟨rfl, hb⟩
   refine ⟨_, rfl, ?_⟩
   have n0_ := Aside0.mk (Kd.R_below m49_ hb)
   have n1_ := Aside0.mk (Kd.R_below m48_ hb)
   have n2_ := Aside0.mk (Kd.R_below m51_ hb)
   have n3_ := Aside0.mk (Kd.R_below (rD_ HO393.out) hb)
   have n4_ := Aside0.mk (Kd.R_below (rD_ HO398.out) hb)
   have n5_ := Aside0.mk (blk_below (g := gb354) (o := .cells #[.int .i64 a0_0, .int .i64 a0_1, .slice A0_2 l0_2.length c0_2, .string a0_3] 25 (0, 0)) m34_ hb)
   have n6_ := Aside0.mk (blk_below (g := gb365) (o := .cells #[.int .i64 t357, .int .i64 t358, .slice Ao22 t359.length co22, .string t362] 25 (0, 0)) m38_ hb)
   have n7_ := Aside0.mk (blk_below (g := gb374) (o := .cells #[.int .i64 t366, .int .i64 t367, .slice Ao29 t368.length co29, .string t371] 25 (0, 0)) m40_ hb)
   have n8_ := Aside0.mk (blk_below (g := gb402) (o := .cells #[.int .i64 t394, .int .i64 t395, .slice Ao86 t396.length co86, .string t399] 25 (0, 0)) (bD_ BK402.out) hb)
   have n9_ := Aside0.mk (below_step m6_ hb)
   clear HO_366002 HO_375002 HO378 HO393 HO398 BK354 BK365 BK374 BK402 HB
   have HO_366002 := n0_
   have HO_375002 := n1_
   have HO378 := n2_
   have HO393 := n3_
   have HO398 := n4_
   have BK354 := n5_
   have BK365 := n6_
   have BK374 := n7_
   have BK402 := n8_
   have HB := n9_
   clear n0_ n1_ n2_ n3_ n4_ n5_ n6_ n7_ n8_ n9_
   (try clear hb)
   (try clear hb2)
   (try clear hk)
   (try clear hi)
   refine hK.out _ _ ⟨(blk_cell BK354.out 0).trans rfl, (blk_cell BK354.out 1).trans rfl, (blk_cell BK354.out 2).trans rfl, (blk_cell BK354.out 3).trans rfl, (blk_cell BK402.out 0).trans rfl, (blk_cell BK402.out 1).trans rfl, (blk_cell BK402.out 2).trans rfl, (blk_cell BK402.out 3).trans rfl, own_string (P := Tryd.prog) Tryd.underlying53 Tryd.underlying5 Tryd.underlying9 (Kd.own_of_R HO378.out)⟩ (fun hHeld => ?_)
   clear hK K
   refine norm_ (a' := ?_) ?_ ?_
   rotate_left
   ·show Act.put _ (some 121) _ = _
    simp only [Act.put, sA_, sB_, sC_, i64_w, i32_w]
    rfl
   refine pI_ 29 (some 122) (Ra_ [30, 1]) (h := ?_)
   refine pI_ 30 (some 6) (Ra_ [31]) (h := ?_)
   refine done_ (done_of HT_.out (by kernel_rfl)) ?_
   try go_wp2
   go_ret
   exact ⟨by first | rfl | (simp [errW_none, errW_some] <;> rfl) | (simp [*, errW_none, errW_some] <;> rfl), by repeat (first | (with_reducible first | exact HB.out | apply below_alloc | apply pw_below_drewN | apply below_drew1 | refine below_set ?_ GE354.out | refine below_set ?_ GE365.out | refine below_set ?_ GE374.out | refine below_set ?_ GE402.out) | exact HB.out)⟩

end Go.Proofs.YtedmkffepmcpaaaDoorH.HCapCodes
