-- PRINTED by print.py (a twelfth state) out of the translation. Not trusted: Lean checks it.
import Derived.Test.YtoankokkdmbjmaaDoorHFrameRepliesx0
import Derived.Test.YtoankokkdmbjmaaDoorHFrameRepliesx6
import Derived.Test.YtoankokkdmbjmaaDoorHFrameRepliesx7
import Derived.Test.YtoankokkdmbjmaaDoorHFrameRepliesx8
import Derived.Test.YtoankokkdmbjmaaDoorHFrameRepliesx9
import Derived.Test.YtoankokkdmbjmaaDoorHFrameRepliesx12
import Derived.Test.YtoankokkdmbjmaaDoorHFrameRepliesx14
import Derived.Test.YtoankokkdmbjmaaDoorHFrameRepliesx16
import Derived.Test.YtoankokkdmbjmaaDoorHFrameRepliesx18
namespace Go.Proofs.YtoankokkdmbjmaaDoorH.HFrameReplies
open Go.RowKit Go.Proofs.YtoankokkdmbjmaaDoorW.PrintWords Go.Proofs.YtoankokkdmbjmaaDoorW.PrintLast Go.Proofs.YtoankokkdmbjmaaDoorW.PrintMore
attribute [local go_sem] max2_int min2_int max_two min_two max_three min_three max_four min_four   -- for this text's walks alone
set_option linter.unusedVariables false
set_option linter.unusedSimpArgs false

/-! ### strongroomlaw25_FrameReplies: function 4 -/
def strongroomlaw25_FrameReplies.f (k : Nat) (a0_0 : Int) (a0_1 : Int) (a0_2 : Int) (l0_3 : List ByteArray) (a0_4 : ByteArray) (a0_5 : ByteArray) (l0_6 : List (S65)) (l0_7 : List (S74)) (a0_8 : ByteArray) (l0_9 : List (S67)) (a0_10 : Int) (a0_11 : Int) : Option (Bool) := (strongroomlaw25_little.f k a0_0 a0_1 a0_2 l0_3 a0_4 a0_5 l0_6 l0_7 a0_8 l0_9 a0_10 a0_11).bind fun t438 => (if t438 = true then ((frame_Reply.f k a0_0 a0_1 a0_2 l0_3 a0_4 a0_5 l0_6 l0_7 a0_8 l0_9 a0_10 a0_11).bind fun bt440 => ((strongroomref25_Fits.f k a0_0 a0_1 a0_2 l0_3 a0_4 a0_5 l0_6 l0_7 a0_8 l0_9 a0_10 a0_11).bind fun t444 => ((frame_Fits.f k a0_0 a0_1 a0_2 l0_3 a0_4 a0_5 l0_6 l0_7 a0_8 l0_9 a0_10 a0_11).bind fun t445 => (if (t445 != t444) = true then (some false) else (if t444 = true then ((frame_ReadReply.f k bt440.1).bind fun bt447 => (if bt440.2 = 0 then ((strongroomref25_Reply.f k a0_0 a0_1 a0_2 l0_3 a0_4 a0_5 l0_6 l0_7 a0_8 l0_9 a0_10 a0_11).bind fun t469 => (if (strOfNums bt440.1).toList = t469.toList then (if bt447.2.2.2.2.2.2.2.2.2.2.2.2 = 0 then ((strongroomref25_SameReplies.f k bt447.1 bt447.2.1 bt447.2.2.1 bt447.2.2.2.1 bt447.2.2.2.2.1 bt447.2.2.2.2.2.1 bt447.2.2.2.2.2.2.1 bt447.2.2.2.2.2.2.2.1 bt447.2.2.2.2.2.2.2.2.1 bt447.2.2.2.2.2.2.2.2.2.1 bt447.2.2.2.2.2.2.2.2.2.2.1 bt447.2.2.2.2.2.2.2.2.2.2.2.1 a0_0 a0_1 a0_2 l0_3 a0_4 a0_5 l0_6 l0_7 a0_8 l0_9 a0_10 a0_11).bind fun t470 => (if t470 = true then ((strongroomlaw25_lives.f k).bind fun t471 => (some t471)) else (some false))) else (some false)) else (some false))) else (some false))) else (if (bt440.1.length : Int) = 0 then (if bt440.2 = 1 then ((strongroomlaw25_lives.f k).bind fun t446 => (some t446)) else (some false)) else (some false))))))) else ((strongroomlaw25_lives.f k).bind fun t439 => (some t439)))
theorem strongroomlaw25_FrameReplies.mono : ∀ a0 a1 a2 a3 a4 a5 a6 a7 a8 a9 a10 a11 k, LeO (strongroomlaw25_FrameReplies.f k a0 a1 a2 a3 a4 a5 a6 a7 a8 a9 a10 a11) (strongroomlaw25_FrameReplies.f (k + 1) a0 a1 a2 a3 a4 a5 a6 a7 a8 a9 a10 a11) := by
  intro a0 a1 a2 a3 a4 a5 a6 a7 a8 a9 a10 a11 k
  unfold strongroomlaw25_FrameReplies.f
  repeat' first
      | (with_reducible exact frame_Fits.mono _ _ _ _ _ _ _ _ _ _ _ _ _)
      | (with_reducible exact frame_ReadReply.mono _ _)
      | (with_reducible exact frame_Reply.mono _ _ _ _ _ _ _ _ _ _ _ _ _)
      | (with_reducible exact strongroomlaw25_little.mono _ _ _ _ _ _ _ _ _ _ _ _ _)
      | (with_reducible exact strongroomlaw25_lives.mono _)
      | (with_reducible exact strongroomref25_Fits.mono _ _ _ _ _ _ _ _ _ _ _ _ _)
      | (with_reducible exact strongroomref25_Reply.mono _ _ _ _ _ _ _ _ _ _ _ _ _)
      | (with_reducible exact strongroomref25_SameReplies.mono _ _ _ _ _ _ _ _ _ _ _ _ _ _ _ _ _ _ _ _ _ _ _ _ _)
      | (with_reducible exact LeO.refl _)
      | (with_reducible exact LeO.none _)
      | (with_reducible refine LeO.ite ?_ ?_)
      | (with_reducible refine LeO.bind ?_ (fun _ => ?_))
      | exact frame_Fits.mono _ _ _ _ _ _ _ _ _ _ _ _ _
      | exact frame_ReadReply.mono _ _
      | exact frame_Reply.mono _ _ _ _ _ _ _ _ _ _ _ _ _
      | exact strongroomlaw25_little.mono _ _ _ _ _ _ _ _ _ _ _ _ _
      | exact strongroomlaw25_lives.mono _
      | exact strongroomref25_Fits.mono _ _ _ _ _ _ _ _ _ _ _ _ _
      | exact strongroomref25_Reply.mono _ _ _ _ _ _ _ _ _ _ _ _ _
      | exact strongroomref25_SameReplies.mono _ _ _ _ _ _ _ _ _ _ _ _ _ _ _ _ _ _ _ _ _ _ _ _ _
      | exact LeO.none _
      | refine LeO.ite ?_ ?_
      | refine LeO.bind ?_ (fun _ => ?_)
def strongroomlaw25_FrameReplies.T10 : Bool × List (List Nat × List Nat) := (true, [([], []), ([0], [0]), ([1], [1]), ([2], [2]), ([3, 2], [2, 3]), ([2], [2]), ([5, 2, 2], [2, 5]), ([4, 6, 2], [2, 4, 6]), ([2, 7], [2, 7]), ([8, 6], [8]), ([9], [9]), ([10, 9], [9, 10]), ([9, 11], [9, 11]), ([12, 9], [12]), ([13], [13]), ([13], [13]), ([14, 15, 13, 13], [13, 14, 15]), ([13, 16], [13, 16]), ([17, 16], [17]), ([18, 18], [18]), ([18, 19], [18, 19]), ([20, 19, 0, 1, 2, 3, 4, 5, 6, 7, 8, 9, 10, 11, 12, 13, 14, 15, 16, 17, 18, 19, 20], [20])])
def strongroomlaw25_FrameReplies.B10 : List Nat := [0, 1, 3, 7, 15, 7, 39, 127, 255, 511, 1023, 2047, 4095, 8191, 16383, 16383, 65535, 131071, 262143, 524287, 1048575, 2097151]
theorem strongroomlaw25_FrameReplies.tab10 : rtab .any (opsOf Tryd.f4 10) = strongroomlaw25_FrameReplies.T10 := by kernel_rfl
theorem strongroomlaw25_FrameReplies.bits10 : waitsOk strongroomlaw25_FrameReplies.T10.2 strongroomlaw25_FrameReplies.B10 = true := by kernel_rfl
theorem tI25_ {P : Program} {md : Region.Mode} {ops : Array Oper} {Q : Exit → Act → World → Prop} {S : World → Prop} {ds : List Nat} {oi : Oper} {v : Value} {fuel : Nat} {l : Array Bool} {a a' : Act} {w : World} (i : Nat) (N : Option Tmp) (l' : Array Bool)
    (hi : ops[i]? = some oi := by rfl) (hN : oi.dst = N := by rfl) (hc : takeB md ops ds l l' i = true := by exact take_ofW HT_.out HW_.out (by kernel_rfl)) (hQ : ∀ c a w, Q (.panic c) (a.put oi.dst v) w → Q (.panic c) a w := by exact fun _ _ _ h => h)
    (hS : S w := by exact hHeld) (hy : YieldsIf P ops S oi v a := by exact Or.inl ⟨by rfl, by rintro w' ⟨s0, s1, s2, s3, s4, s5, s6, s7, s8, s9, s10, s11, s12, s13, s14, s15, s16, s17, s18, s19, s20, s21, s22, s23, s24⟩; go_simp; with_reducible rfl⟩) (ha : a.put N v = a' := by simp only [Act.put, sA_, sB_, sC_, i64_w, i32_w]; rfl)
    (h : wpAnyLast P md ops Q S ds fuel l' a' w) : wpAnyLast P md ops Q S ds (fuel + 1) l a w := take_ l' hi hN hc hQ hy hS ha h
set_option maxHeartbeats 8000000 in
set_option maxRecDepth 100000 in
theorem strongroomlaw25_FrameReplies.calls (k : Nat) (a0_0 : Int) (a0_1 : Int) (a0_2 : Int) (A0_3 : Option Addr) (c0_3 : Nat) (l0_3 : List ByteArray) (a0_4 : ByteArray) (a0_5 : ByteArray) (A0_6 : Option Addr) (c0_6 : Nat) (l0_6 : List (S65)) (A0_7 : Option Addr) (c0_7 : Nat) (l0_7 : List (S74)) (a0_8 : ByteArray) (A0_9 : Option Addr) (c0_9 : Nat) (l0_9 : List (S67)) (a0_10 : Int) (a0_11 : Int) (r : Bool) (w : World) (hr0_3 : Kd.C Kd.string w A0_3 l0_3.length l0_3) (hc0_3 : l0_3.length ≤ c0_3) (hr0_6 : Kd.C k65 w A0_6 l0_6.length l0_6) (hc0_6 : l0_6.length ≤ c0_6) (hr0_7 : Kd.C k74 w A0_7 l0_7.length l0_7) (hc0_7 : l0_7.length ≤ c0_7) (hr0_9 : Kd.C k67 w A0_9 l0_9.length l0_9) (hc0_9 : l0_9.length ≤ c0_9) (h : strongroomlaw25_FrameReplies.f k a0_0 a0_1 a0_2 l0_3 a0_4 a0_5 l0_6 l0_7 a0_8 l0_9 a0_10 a0_11 = some r) (hr_ : r = true) :
    Calls Tryd.prog 4 #[.agg #[.int .i64 a0_0, .int .i64 a0_1, .int .i64 a0_2, .slice A0_3 l0_3.length c0_3, .string a0_4, .string a0_5, .slice A0_6 l0_6.length c0_6, .slice A0_7 l0_7.length c0_7, .string a0_8, .slice A0_9 l0_9.length c0_9, .int .i64 a0_10, .int .i64 a0_11]] w fun e w' => e = .returned (.bool r) ∧ Below w.heap.size w w' := by
  have hu34 := Tryd.underlying34
  have HR0_3 := Aside0.mk hr0_3
  have HC0_3 := Aside0.mk hc0_3
  clear hr0_3 hc0_3
  have HR0_6 := Aside0.mk hr0_6
  have HC0_6 := Aside0.mk hc0_6
  clear hr0_6 hc0_6
  have HR0_7 := Aside0.mk hr0_7
  have HC0_7 := Aside0.mk hc0_7
  clear hr0_7 hc0_7
  have HR0_9 := Aside0.mk hr0_9
  have HC0_9 := Aside0.mk hc0_9
  clear hr0_9 hc0_9
  have HB := Aside0.mk (Below.refl w.heap.size w)
  have H : ((strongroomlaw25_little.f k a0_0 a0_1 a0_2 l0_3 a0_4 a0_5 l0_6 l0_7 a0_8 l0_9 a0_10 a0_11).bind fun t438 => (if t438 = true then ((frame_Reply.f k a0_0 a0_1 a0_2 l0_3 a0_4 a0_5 l0_6 l0_7 a0_8 l0_9 a0_10 a0_11).bind fun bt440 => ((strongroomref25_Fits.f k a0_0 a0_1 a0_2 l0_3 a0_4 a0_5 l0_6 l0_7 a0_8 l0_9 a0_10 a0_11).bind fun t444 => ((frame_Fits.f k a0_0 a0_1 a0_2 l0_3 a0_4 a0_5 l0_6 l0_7 a0_8 l0_9 a0_10 a0_11).bind fun t445 => (if (t445 != t444) = true then (some false) else (if t444 = true then ((frame_ReadReply.f k bt440.1).bind fun bt447 => (if bt440.2 = 0 then ((strongroomref25_Reply.f k a0_0 a0_1 a0_2 l0_3 a0_4 a0_5 l0_6 l0_7 a0_8 l0_9 a0_10 a0_11).bind fun t469 => (if (strOfNums bt440.1).toList = t469.toList then (if bt447.2.2.2.2.2.2.2.2.2.2.2.2 = 0 then ((strongroomref25_SameReplies.f k bt447.1 bt447.2.1 bt447.2.2.1 bt447.2.2.2.1 bt447.2.2.2.2.1 bt447.2.2.2.2.2.1 bt447.2.2.2.2.2.2.1 bt447.2.2.2.2.2.2.2.1 bt447.2.2.2.2.2.2.2.2.1 bt447.2.2.2.2.2.2.2.2.2.1 bt447.2.2.2.2.2.2.2.2.2.2.1 bt447.2.2.2.2.2.2.2.2.2.2.2.1 a0_0 a0_1 a0_2 l0_3 a0_4 a0_5 l0_6 l0_7 a0_8 l0_9 a0_10 a0_11).bind fun t470 => (if t470 = true then ((strongroomlaw25_lives.f k).bind fun t471 => (some t471)) else (some false))) else (some false)) else (some false))) else (some false))) else (if (bt440.1.length : Int) = 0 then (if bt440.2 = 1 then ((strongroomlaw25_lives.f k).bind fun t446 => (some t446)) else (some false)) else (some false))))))) else ((strongroomlaw25_lives.f k).bind fun t439 => (some t439)))) = some r := h
  clear h
  replace H := Option.bind_eq_some_iff.mp H
  obtain ⟨t438, A20, H⟩ := H
  try dsimp only at H
  have A2 := Aside0.mk A20
  clear A20
  by_cases c3 : t438 = true
  case neg =>
   replace c3 := Bool.eq_false_iff.mpr c3
   subst c3
   rw [if_neg Bool.false_ne_true] at H
   replace H := Option.bind_eq_some_iff.mp H
   obtain ⟨t439, A1750, H⟩ := H
   try dsimp only at H
   have A175 := Aside0.mk A1750
   clear A1750
   obtain rfl := Option.some.inj H
   go_enter Tryd.func4, Tryd.ntmps4
   go_wp2_with (first | ((with_reducible refine gate_dst (N := 1) rfl ?_); refine box_event ?hg (N := 1) ?hd (cs := #[.int .i64 a0_0, .int .i64 a0_1, .int .i64 a0_2, .slice A0_3 l0_3.length c0_3, .string a0_4, .string a0_5, .slice A0_6 l0_6.length c0_6, .slice A0_7 l0_7.length c0_7, .string a0_8, .slice A0_9 l0_9.length c0_9, .int .i64 a0_10, .int .i64 a0_11]) (t := 34) ?hr ?_; (case hd => rfl); (case hg => rfl); (case hr => first | (go_simp; done) | (go_simp; rfl)); intro gb437 hg w176 hbox hb; have BK437 := Aside0.mk (hbox); have GW437 := Aside0.mk ((by rw [hg]; exact (below_size m15_) : w.heap.size ≤ gb437)); have GE437 := Aside0.mk ((by rw [hg]; exact (below_size m15_) : w.heap.size ≤ gb437)); replace HB := Aside0.mk (below_step m15_ hb); clear hb hbox hg; obtain ⟨hcz177_0, hcz177_1, hcz177_2, hcz177_3, hcz177_4, hcz177_5, hcz177_6, hcz177_7, hcz177_8, hcz177_9, hcz177_10, hcz177_11⟩ := bc12_ BK437.out; obtain ⟨hfz177_0, hfz177_1, hfz177_2, hfz177_3, hfz177_4, hfz177_5, hfz177_6, hfz177_7, hfz177_8, hfz177_9, hfz177_10, hfz177_11⟩ := bf12_ BK437.out) | ((with_reducible refine gate_callee (f := 12) rfl ?_); refine goesL_ (some 9) rfl rfl Tryd.func12 (by kernel_rfl) rfl #[.agg #[.int .i64 a0_0, .int .i64 a0_1, .int .i64 a0_2, .slice A0_3 l0_3.length c0_3, .string a0_4, .string a0_5, .slice A0_6 l0_6.length c0_6, .slice A0_7 l0_7.length c0_7, .string a0_8, .slice A0_9 l0_9.length c0_9, .int .i64 a0_10, .int .i64 a0_11]] rfl m14_ ?_; (with_reducible refine (strongroomlaw25_little.calls k a0_0 a0_1 a0_2 _ _ l0_3 a0_4 a0_5 _ _ l0_6 _ _ l0_7 a0_8 _ _ l0_9 a0_10 a0_11 false _ ?side1 ?side2 ?side3 ?side4 ?side5 ?side6 ?side7 ?side8 A2.out).mono ?_); (case side1 => exact m46_); (case side2 => exact HC0_3.out); (case side3 => exact m47_); (case side4 => exact HC0_6.out); (case side5 => exact m48_); (case side6 => exact HC0_7.out); (case side7 => exact m49_); (case side8 => exact HC0_9.out); rintro e w178 ⟨rfl, hb⟩; refine ⟨_, rfl, ?_⟩; replace BK437 := Aside0.mk (blk_below m21_ hb); replace HB := Aside0.mk (below_step m8_ hb); (try clear hb)) | ((with_reducible refine gate_callee (f := 11) rfl ?_); refine goesL_ (some 11) rfl rfl Tryd.func11 (by kernel_rfl) rfl #[] rfl m14_ ?_; (with_reducible refine (strongroomlaw25_lives.calls k  t439 _ A175.out hr_).mono ?_); rintro e w179 ⟨rfl, hb⟩; refine ⟨_, rfl, ?_⟩; replace BK437 := Aside0.mk (blk_below m21_ hb); replace HB := Aside0.mk (below_step m8_ hb); (try clear hb)))
   go_ret
   exact ⟨by first | rfl | (simp [errW_none, errW_some] <;> rfl) | (simp [*, errW_none, errW_some] <;> rfl), by repeat (first | (with_reducible first | exact HB.out | apply below_alloc | apply pw_below_drewN | apply below_drew1 | refine below_set ?_ GE437.out) | exact HB.out)⟩
  subst c3
  rw [if_pos rfl] at H
  replace H := Option.bind_eq_some_iff.mp H
  obtain ⟨⟨t440, t443⟩, A40, H⟩ := H
  try dsimp only at H
  have A4 := Aside0.mk A40
  clear A40
  replace H := Option.bind_eq_some_iff.mp H
  obtain ⟨t444, A50, H⟩ := H
  try dsimp only at H
  have A5 := Aside0.mk A50
  clear A50
  replace H := Option.bind_eq_some_iff.mp H
  obtain ⟨t445, A60, H⟩ := H
  try dsimp only at H
  have A6 := Aside0.mk A60
  clear A60
  by_cases c7 : (t445 != t444) = true
  ·rw [if_pos c7] at H
   have c7b0 : (t445 != t444) = true := c7
   (try (have c7b1 : decide (t445 = t444) = false := by simpa using c7))
   (try (have c7b2 : (t445 == t444) = false := by simpa using c7))
   (try (have c7b3 : ¬ (t445 = t444) := by simpa using c7))
   clear c7
   exact absurd ((Option.some.inj H).trans hr_) (by decide)
  rw [if_neg c7] at H
  have c7b0 : (t445 != t444) = false := by simpa using c7
  (try (have c7b1 : decide (t445 = t444) = true := by simpa using c7))
  (try (have c7b2 : (t445 == t444) = true := by simpa using c7))
  clear c7
  by_cases c17 : t444 = true
  case neg =>
   replace c17 := Bool.eq_false_iff.mpr c17
   subst c17
   rw [if_neg Bool.false_ne_true] at H
   by_cases c141 : (t440.length : Int) = 0
   case neg =>
    rw [if_neg c141] at H
    have c141b0 : ((t440.length : Int) == 0) = false := beq_eq_false_iff_ne.mpr c141
    have c141b1 : ((t440.length : Int) != 0) = true := bne_iff_ne.mpr c141
    have c141b2 : ¬ (t440 = []) := fun h_ => c141 (by rw [h_]; rfl)
    exact absurd ((Option.some.inj H).trans hr_) (by decide)
   rw [if_pos c141] at H
   have c141b0 : ((t440.length : Int) == 0) = true := beq_iff_eq.mpr c141
   have c141b1 : ((t440.length : Int) != 0) = false := bne_eq_false_iff_eq.mpr c141
   clear c141
   by_cases c142 : t443 = 1
   case neg =>
    rw [if_neg c142] at H
    have c142b0 : (t443 == 1) = false := beq_eq_false_iff_ne.mpr c142
    have c142b1 : (t443 != 1) = true := bne_iff_ne.mpr c142
    exact absurd ((Option.some.inj H).trans hr_) (by decide)
   rw [if_pos c142] at H
   have c142b0 : (t443 == 1) = true := beq_iff_eq.mpr c142
   have c142b1 : (t443 != 1) = false := bne_eq_false_iff_eq.mpr c142
   clear c142
   replace H := Option.bind_eq_some_iff.mp H
   obtain ⟨t446, A1430, H⟩ := H
   try dsimp only at H
   have A143 := Aside0.mk A1430
   clear A1430
   obtain rfl := Option.some.inj H
   go_enter Tryd.func4, Tryd.ntmps4
   go_wp2_with (first | ((with_reducible refine gate_dst (N := 1) rfl ?_); refine box_event ?hg (N := 1) ?hd (cs := #[.int .i64 a0_0, .int .i64 a0_1, .int .i64 a0_2, .slice A0_3 l0_3.length c0_3, .string a0_4, .string a0_5, .slice A0_6 l0_6.length c0_6, .slice A0_7 l0_7.length c0_7, .string a0_8, .slice A0_9 l0_9.length c0_9, .int .i64 a0_10, .int .i64 a0_11]) (t := 34) ?hr ?_; (case hd => rfl); (case hg => rfl); (case hr => first | (go_simp; done) | (go_simp; rfl)); intro gb437 hg w144 hbox hb; have BK437 := Aside0.mk (hbox); have GW437 := Aside0.mk ((by rw [hg]; exact (below_size m15_) : w.heap.size ≤ gb437)); have GE437 := Aside0.mk ((by rw [hg]; exact (below_size m15_) : w.heap.size ≤ gb437)); replace HB := Aside0.mk (below_step m15_ hb); clear hb hbox hg; obtain ⟨hcz145_0, hcz145_1, hcz145_2, hcz145_3, hcz145_4, hcz145_5, hcz145_6, hcz145_7, hcz145_8, hcz145_9, hcz145_10, hcz145_11⟩ := bc12_ BK437.out; obtain ⟨hfz145_0, hfz145_1, hfz145_2, hfz145_3, hfz145_4, hfz145_5, hfz145_6, hfz145_7, hfz145_8, hfz145_9, hfz145_10, hfz145_11⟩ := bf12_ BK437.out) | ((with_reducible refine gate_callee (f := 12) rfl ?_); refine goesL_ (some 9) rfl rfl Tryd.func12 (by kernel_rfl) rfl #[.agg #[.int .i64 a0_0, .int .i64 a0_1, .int .i64 a0_2, .slice A0_3 l0_3.length c0_3, .string a0_4, .string a0_5, .slice A0_6 l0_6.length c0_6, .slice A0_7 l0_7.length c0_7, .string a0_8, .slice A0_9 l0_9.length c0_9, .int .i64 a0_10, .int .i64 a0_11]] rfl m14_ ?_; (with_reducible refine (strongroomlaw25_little.calls k a0_0 a0_1 a0_2 _ _ l0_3 a0_4 a0_5 _ _ l0_6 _ _ l0_7 a0_8 _ _ l0_9 a0_10 a0_11 true _ ?side1 ?side2 ?side3 ?side4 ?side5 ?side6 ?side7 ?side8 A2.out).mono ?_); (case side1 => exact m46_); (case side2 => exact HC0_3.out); (case side3 => exact m47_); (case side4 => exact HC0_6.out); (case side5 => exact m48_); (case side6 => exact HC0_7.out); (case side7 => exact m49_); (case side8 => exact HC0_9.out); rintro e w146 ⟨rfl, hb⟩; refine ⟨_, rfl, ?_⟩; replace BK437 := Aside0.mk (blk_below m21_ hb); replace HB := Aside0.mk (below_step m8_ hb); (try clear hb); obtain ⟨hcz147_0, hcz147_1, hcz147_2, hcz147_3, hcz147_4, hcz147_5, hcz147_6, hcz147_7, hcz147_8, hcz147_9, hcz147_10, hcz147_11⟩ := bc12_ BK437.out; obtain ⟨hfz147_0, hfz147_1, hfz147_2, hfz147_3, hfz147_4, hfz147_5, hfz147_6, hfz147_7, hfz147_8, hfz147_9, hfz147_10, hfz147_11⟩ := bf12_ BK437.out) | ((with_reducible refine gate_callee (f := 13) rfl ?_); refine goesL_ (some 14) rfl rfl Tryd.func13 (by kernel_rfl) rfl #[.agg #[.int .i64 a0_0, .int .i64 a0_1, .int .i64 a0_2, .slice A0_3 l0_3.length c0_3, .string a0_4, .string a0_5, .slice A0_6 l0_6.length c0_6, .slice A0_7 l0_7.length c0_7, .string a0_8, .slice A0_9 l0_9.length c0_9, .int .i64 a0_10, .int .i64 a0_11]] rfl m14_ ?_; (with_reducible refine (frame_Reply.calls k a0_0 a0_1 a0_2 _ _ l0_3 a0_4 a0_5 _ _ l0_6 _ _ l0_7 a0_8 _ _ l0_9 a0_10 a0_11 t440 t443 _ ?side1 ?side2 ?side3 ?side4 ?side5 ?side6 ?side7 ?side8 A4.out).mono ?_); (case side1 => exact m46_); (case side2 => exact HC0_3.out); (case side3 => exact m47_); (case side4 => exact HC0_6.out); (case side5 => exact m48_); (case side6 => exact HC0_7.out); (case side7 => exact m49_); (case side8 => exact HC0_9.out); rintro e w148 ⟨v441, rfl, ho0, hb⟩; refine ⟨_, rfl, ?_⟩; have HO442 := Aside0.mk (Kd.V_lower (Kd.V_mono (ok' := fun k_ => k_ ≠ gb437) ho0 (fun k_ hk_ => (Kd.freshB (g := gb437) (o := .cells #[.int .i64 a0_0, .int .i64 a0_1, .int .i64 a0_2, .slice A0_3 l0_3.length c0_3, .string a0_4, .string a0_5, .slice A0_6 l0_6.length c0_6, .slice A0_7 l0_7.length c0_7, .string a0_8, .slice A0_9 l0_9.length c0_9, .int .i64 a0_10, .int .i64 a0_11] 34 (0, 0)) m21_ k_ hk_))) (below_size m8_)); replace BK437 := Aside0.mk (blk_below m21_ hb); replace HB := Aside0.mk (below_step m8_ hb); (try clear hb ho0); obtain ⟨hcz149_0, hcz149_1, hcz149_2, hcz149_3, hcz149_4, hcz149_5, hcz149_6, hcz149_7, hcz149_8, hcz149_9, hcz149_10, hcz149_11⟩ := bc12_ BK437.out; obtain ⟨hfz149_0, hfz149_1, hfz149_2, hfz149_3, hfz149_4, hfz149_5, hfz149_6, hfz149_7, hfz149_8, hfz149_9, hfz149_10, hfz149_11⟩ := bf12_ BK437.out) | ((with_reducible refine gate_callee (f := 14) rfl ?_); refine goesL_ (some 18) rfl rfl Tryd.func14 (by kernel_rfl) rfl #[.agg #[.int .i64 a0_0, .int .i64 a0_1, .int .i64 a0_2, .slice A0_3 l0_3.length c0_3, .string a0_4, .string a0_5, .slice A0_6 l0_6.length c0_6, .slice A0_7 l0_7.length c0_7, .string a0_8, .slice A0_9 l0_9.length c0_9, .int .i64 a0_10, .int .i64 a0_11]] rfl m14_ ?_; (with_reducible refine (strongroomref25_Fits.calls k a0_0 a0_1 a0_2 _ _ l0_3 a0_4 a0_5 _ _ l0_6 _ _ l0_7 a0_8 _ _ l0_9 a0_10 a0_11 false _ ?side1 ?side2 ?side3 ?side4 ?side5 ?side6 ?side7 ?side8 A5.out).mono ?_); (case side1 => exact m46_); (case side2 => exact HC0_3.out); (case side3 => exact m47_); (case side4 => exact HC0_6.out); (case side5 => exact m48_); (case side6 => exact HC0_7.out); (case side7 => exact m49_); (case side8 => exact HC0_9.out); rintro e w150 ⟨rfl, hb⟩; refine ⟨_, rfl, ?_⟩; replace HO442 := Aside0.mk (Kd.V_below m32_ hb); replace BK437 := Aside0.mk (blk_below m21_ hb); replace HB := Aside0.mk (below_step m8_ hb); (try clear hb); obtain ⟨hcz151_0, hcz151_1, hcz151_2, hcz151_3, hcz151_4, hcz151_5, hcz151_6, hcz151_7, hcz151_8, hcz151_9, hcz151_10, hcz151_11⟩ := bc12_ BK437.out; obtain ⟨hfz151_0, hfz151_1, hfz151_2, hfz151_3, hfz151_4, hfz151_5, hfz151_6, hfz151_7, hfz151_8, hfz151_9, hfz151_10, hfz151_11⟩ := bf12_ BK437.out) | ((with_reducible refine gate_callee (f := 15) rfl ?_); refine goesL_ (some 20) rfl rfl Tryd.func15 (by kernel_rfl) rfl #[.agg #[.int .i64 a0_0, .int .i64 a0_1, .int .i64 a0_2, .slice A0_3 l0_3.length c0_3, .string a0_4, .string a0_5, .slice A0_6 l0_6.length c0_6, .slice A0_7 l0_7.length c0_7, .string a0_8, .slice A0_9 l0_9.length c0_9, .int .i64 a0_10, .int .i64 a0_11]] rfl m14_ ?_; (with_reducible refine (frame_Fits.calls k a0_0 a0_1 a0_2 _ _ l0_3 a0_4 a0_5 _ _ l0_6 _ _ l0_7 a0_8 _ _ l0_9 a0_10 a0_11 t445 _ ?side1 ?side2 ?side3 ?side4 ?side5 ?side6 ?side7 ?side8 A6.out).mono ?_); (case side1 => exact m46_); (case side2 => exact HC0_3.out); (case side3 => exact m47_); (case side4 => exact HC0_6.out); (case side5 => exact m48_); (case side6 => exact HC0_7.out); (case side7 => exact m49_); (case side8 => exact HC0_9.out); rintro e w152 ⟨rfl, hb⟩; refine ⟨_, rfl, ?_⟩; replace HO442 := Aside0.mk (Kd.V_below m32_ hb); replace BK437 := Aside0.mk (blk_below m21_ hb); replace HB := Aside0.mk (below_step m8_ hb); (try clear hb); obtain ⟨Ao153, co153, eo153⟩ := Kd.V_slice HO442.out; subst eo153) | (go_at_call 11; (with_reducible refine (strongroomlaw25_lives.calls k  t446 _ A143.out hr_).mono ?_); rintro e w154 ⟨rfl, hb⟩; replace HO442 := Aside0.mk (Kd.V_below m32_ hb); replace BK437 := Aside0.mk (blk_below m21_ hb); replace HB := Aside0.mk (below_step m8_ hb); (try clear hb)))
   go_ret
   exact ⟨by first | rfl | (simp [errW_none, errW_some] <;> rfl) | (simp [*, errW_none, errW_some] <;> rfl), by repeat (first | (with_reducible first | exact HB.out | apply below_alloc | apply pw_below_drewN | apply below_drew1 | refine below_set ?_ GE437.out) | exact HB.out)⟩
  subst c17
  rw [if_pos rfl] at H
  replace H := Option.bind_eq_some_iff.mp H
  obtain ⟨⟨t447, t448, t449, t450, t453, t454, t455, t458, t461, t462, t465, t466, t467⟩, A180, H⟩ := H
  try dsimp only at H
  have A18 := Aside0.mk A180
  clear A180
  by_cases c19 : t443 = 0
  case neg =>
   rw [if_neg c19] at H
   have c19b0 : (t443 == 0) = false := beq_eq_false_iff_ne.mpr c19
   have c19b1 : (t443 != 0) = true := bne_iff_ne.mpr c19
   exact absurd ((Option.some.inj H).trans hr_) (by decide)
  rw [if_pos c19] at H
  have c19b0 : (t443 == 0) = true := beq_iff_eq.mpr c19
  have c19b1 : (t443 != 0) = false := bne_eq_false_iff_eq.mpr c19
  clear c19
  replace H := Option.bind_eq_some_iff.mp H
  obtain ⟨t469, A200, H⟩ := H
  try dsimp only at H
  have A20 := Aside0.mk A200
  clear A200
  by_cases c21 : (strOfNums t440).toList = t469.toList
  case neg =>
   rw [if_neg c21] at H
   have c21b0 : ((strOfNums t440).toList == t469.toList) = false := beq_eq_false_iff_ne.mpr c21
   have c21b1 : ((strOfNums t440).toList != t469.toList) = true := bne_iff_ne.mpr c21
   exact absurd ((Option.some.inj H).trans hr_) (by decide)
  rw [if_pos c21] at H
  have c21b0 : ((strOfNums t440).toList == t469.toList) = true := beq_iff_eq.mpr c21
  have c21b1 : ((strOfNums t440).toList != t469.toList) = false := bne_eq_false_iff_eq.mpr c21
  clear c21
  by_cases c22 : t467 = 0
  case neg =>
   rw [if_neg c22] at H
   have c22b0 : (t467 == 0) = false := beq_eq_false_iff_ne.mpr c22
   have c22b1 : (t467 != 0) = true := bne_iff_ne.mpr c22
   exact absurd ((Option.some.inj H).trans hr_) (by decide)
  rw [if_pos c22] at H
  have c22b0 : (t467 == 0) = true := beq_iff_eq.mpr c22
  have c22b1 : (t467 != 0) = false := bne_eq_false_iff_eq.mpr c22
  clear c22
  replace H := Option.bind_eq_some_iff.mp H
  obtain ⟨t470, A230, H⟩ := H
  try dsimp only at H
  have A23 := Aside0.mk A230
  clear A230
  by_cases c24 : t470 = true
  case neg =>
   replace c24 := Bool.eq_false_iff.mpr c24
   subst c24
   rw [if_neg Bool.false_ne_true] at H
   exact absurd ((Option.some.inj H).trans hr_) (by decide)
  subst c24
  rw [if_pos rfl] at H
  replace H := Option.bind_eq_some_iff.mp H
  obtain ⟨t471, A250, H⟩ := H
  try dsimp only at H
  have A25 := Aside0.mk A250
  clear A250
  obtain rfl := Option.some.inj H
  go_enter Tryd.func4, Tryd.ntmps4
  try go_wp2_with (first | ((with_reducible refine gate_dst (N := 1) rfl ?_); refine box_event ?hg (N := 1) ?hd (cs := #[.int .i64 a0_0, .int .i64 a0_1, .int .i64 a0_2, .slice A0_3 l0_3.length c0_3, .string a0_4, .string a0_5, .slice A0_6 l0_6.length c0_6, .slice A0_7 l0_7.length c0_7, .string a0_8, .slice A0_9 l0_9.length c0_9, .int .i64 a0_10, .int .i64 a0_11]) (t := 34) ?hr ?_; (case hd => rfl); (case hg => rfl); (case hr => first | (go_simp; done) | (go_simp; rfl)); intro gb437 hg w26 hbox hb; have BK437 := Aside0.mk (hbox); have GW437 := Aside0.mk ((by rw [hg]; exact (below_size m15_) : w.heap.size ≤ gb437)); have GE437 := Aside0.mk ((by rw [hg]; exact (below_size m15_) : w.heap.size ≤ gb437)); replace HB := Aside0.mk (below_step m15_ hb); clear hb hbox hg; obtain ⟨hcz27_0, hcz27_1, hcz27_2, hcz27_3, hcz27_4, hcz27_5, hcz27_6, hcz27_7, hcz27_8, hcz27_9, hcz27_10, hcz27_11⟩ := bc12_ BK437.out; obtain ⟨hfz27_0, hfz27_1, hfz27_2, hfz27_3, hfz27_4, hfz27_5, hfz27_6, hfz27_7, hfz27_8, hfz27_9, hfz27_10, hfz27_11⟩ := bf12_ BK437.out) | ((with_reducible refine gate_callee (f := 12) rfl ?_); refine goesL_ (some 9) rfl rfl Tryd.func12 (by kernel_rfl) rfl #[.agg #[.int .i64 a0_0, .int .i64 a0_1, .int .i64 a0_2, .slice A0_3 l0_3.length c0_3, .string a0_4, .string a0_5, .slice A0_6 l0_6.length c0_6, .slice A0_7 l0_7.length c0_7, .string a0_8, .slice A0_9 l0_9.length c0_9, .int .i64 a0_10, .int .i64 a0_11]] rfl m14_ ?_; (with_reducible refine (strongroomlaw25_little.calls k a0_0 a0_1 a0_2 _ _ l0_3 a0_4 a0_5 _ _ l0_6 _ _ l0_7 a0_8 _ _ l0_9 a0_10 a0_11 true _ ?side1 ?side2 ?side3 ?side4 ?side5 ?side6 ?side7 ?side8 A2.out).mono ?_); (case side1 => exact m46_); (case side2 => exact HC0_3.out); (case side3 => exact m47_); (case side4 => exact HC0_6.out); (case side5 => exact m48_); (case side6 => exact HC0_7.out); (case side7 => exact m49_); (case side8 => exact HC0_9.out); rintro e w28 ⟨rfl, hb⟩; refine ⟨_, rfl, ?_⟩; replace BK437 := Aside0.mk (blk_below m21_ hb); replace HB := Aside0.mk (below_step m8_ hb); (try clear hb); obtain ⟨hcz29_0, hcz29_1, hcz29_2, hcz29_3, hcz29_4, hcz29_5, hcz29_6, hcz29_7, hcz29_8, hcz29_9, hcz29_10, hcz29_11⟩ := bc12_ BK437.out; obtain ⟨hfz29_0, hfz29_1, hfz29_2, hfz29_3, hfz29_4, hfz29_5, hfz29_6, hfz29_7, hfz29_8, hfz29_9, hfz29_10, hfz29_11⟩ := bf12_ BK437.out) | ((with_reducible refine gate_callee (f := 13) rfl ?_); refine goesL_ (some 14) rfl rfl Tryd.func13 (by kernel_rfl) rfl #[.agg #[.int .i64 a0_0, .int .i64 a0_1, .int .i64 a0_2, .slice A0_3 l0_3.length c0_3, .string a0_4, .string a0_5, .slice A0_6 l0_6.length c0_6, .slice A0_7 l0_7.length c0_7, .string a0_8, .slice A0_9 l0_9.length c0_9, .int .i64 a0_10, .int .i64 a0_11]] rfl m14_ ?_; (with_reducible refine (frame_Reply.calls k a0_0 a0_1 a0_2 _ _ l0_3 a0_4 a0_5 _ _ l0_6 _ _ l0_7 a0_8 _ _ l0_9 a0_10 a0_11 t440 t443 _ ?side1 ?side2 ?side3 ?side4 ?side5 ?side6 ?side7 ?side8 A4.out).mono ?_); (case side1 => exact m46_); (case side2 => exact HC0_3.out); (case side3 => exact m47_); (case side4 => exact HC0_6.out); (case side5 => exact m48_); (case side6 => exact HC0_7.out); (case side7 => exact m49_); (case side8 => exact HC0_9.out); rintro e w30 ⟨v441, rfl, ho0, hb⟩; refine ⟨_, rfl, ?_⟩; have HO442 := Aside0.mk (Kd.V_lower (Kd.V_mono (ok' := fun k_ => k_ ≠ gb437) ho0 (fun k_ hk_ => (Kd.freshB (g := gb437) (o := .cells #[.int .i64 a0_0, .int .i64 a0_1, .int .i64 a0_2, .slice A0_3 l0_3.length c0_3, .string a0_4, .string a0_5, .slice A0_6 l0_6.length c0_6, .slice A0_7 l0_7.length c0_7, .string a0_8, .slice A0_9 l0_9.length c0_9, .int .i64 a0_10, .int .i64 a0_11] 34 (0, 0)) m21_ k_ hk_))) (below_size m8_)); replace BK437 := Aside0.mk (blk_below m21_ hb); replace HB := Aside0.mk (below_step m8_ hb); (try clear hb ho0); obtain ⟨hcz31_0, hcz31_1, hcz31_2, hcz31_3, hcz31_4, hcz31_5, hcz31_6, hcz31_7, hcz31_8, hcz31_9, hcz31_10, hcz31_11⟩ := bc12_ BK437.out; obtain ⟨hfz31_0, hfz31_1, hfz31_2, hfz31_3, hfz31_4, hfz31_5, hfz31_6, hfz31_7, hfz31_8, hfz31_9, hfz31_10, hfz31_11⟩ := bf12_ BK437.out) | ((with_reducible refine gate_callee (f := 14) rfl ?_); refine goesL_ (some 18) rfl rfl Tryd.func14 (by kernel_rfl) rfl #[.agg #[.int .i64 a0_0, .int .i64 a0_1, .int .i64 a0_2, .slice A0_3 l0_3.length c0_3, .string a0_4, .string a0_5, .slice A0_6 l0_6.length c0_6, .slice A0_7 l0_7.length c0_7, .string a0_8, .slice A0_9 l0_9.length c0_9, .int .i64 a0_10, .int .i64 a0_11]] rfl m14_ ?_; (with_reducible refine (strongroomref25_Fits.calls k a0_0 a0_1 a0_2 _ _ l0_3 a0_4 a0_5 _ _ l0_6 _ _ l0_7 a0_8 _ _ l0_9 a0_10 a0_11 true _ ?side1 ?side2 ?side3 ?side4 ?side5 ?side6 ?side7 ?side8 A5.out).mono ?_); (case side1 => exact m46_); (case side2 => exact HC0_3.out); (case side3 => exact m47_); (case side4 => exact HC0_6.out); (case side5 => exact m48_); (case side6 => exact HC0_7.out); (case side7 => exact m49_); (case side8 => exact HC0_9.out); rintro e w32 ⟨rfl, hb⟩; refine ⟨_, rfl, ?_⟩; replace HO442 := Aside0.mk (Kd.V_below m32_ hb); replace BK437 := Aside0.mk (blk_below m21_ hb); replace HB := Aside0.mk (below_step m8_ hb); (try clear hb); obtain ⟨hcz33_0, hcz33_1, hcz33_2, hcz33_3, hcz33_4, hcz33_5, hcz33_6, hcz33_7, hcz33_8, hcz33_9, hcz33_10, hcz33_11⟩ := bc12_ BK437.out; obtain ⟨hfz33_0, hfz33_1, hfz33_2, hfz33_3, hfz33_4, hfz33_5, hfz33_6, hfz33_7, hfz33_8, hfz33_9, hfz33_10, hfz33_11⟩ := bf12_ BK437.out) | ((with_reducible refine gate_callee (f := 15) rfl ?_); refine goesL_ (some 20) rfl rfl Tryd.func15 (by kernel_rfl) rfl #[.agg #[.int .i64 a0_0, .int .i64 a0_1, .int .i64 a0_2, .slice A0_3 l0_3.length c0_3, .string a0_4, .string a0_5, .slice A0_6 l0_6.length c0_6, .slice A0_7 l0_7.length c0_7, .string a0_8, .slice A0_9 l0_9.length c0_9, .int .i64 a0_10, .int .i64 a0_11]] rfl m14_ ?_; (with_reducible refine (frame_Fits.calls k a0_0 a0_1 a0_2 _ _ l0_3 a0_4 a0_5 _ _ l0_6 _ _ l0_7 a0_8 _ _ l0_9 a0_10 a0_11 t445 _ ?side1 ?side2 ?side3 ?side4 ?side5 ?side6 ?side7 ?side8 A6.out).mono ?_); (case side1 => exact m46_); (case side2 => exact HC0_3.out); (case side3 => exact m47_); (case side4 => exact HC0_6.out); (case side5 => exact m48_); (case side6 => exact HC0_7.out); (case side7 => exact m49_); (case side8 => exact HC0_9.out); rintro e w34 ⟨rfl, hb⟩; refine ⟨_, rfl, ?_⟩; replace HO442 := Aside0.mk (Kd.V_below m32_ hb); replace BK437 := Aside0.mk (blk_below m21_ hb); replace HB := Aside0.mk (below_step m8_ hb); (try clear hb); obtain ⟨Ao35, co35, eo35⟩ := Kd.V_slice HO442.out; subst eo35) | ((with_reducible refine gate_callee (f := 16) rfl ?_); refine goesL_ (some 37) rfl rfl Tryd.func16 (by kernel_rfl) rfl #[.slice Ao35 t440.length co35] rfl m14_ ?_; (with_reducible refine (frame_ReadReply.calls k _ _ t440 t447 t448 t449 t450 t453 t454 t455 t458 t461 t462 t465 t466 t467 _ ?side1 ?side2 A18.out).mono ?_); (case side1 => repeat (first | exact (Kd.V_reads' HO442.out).2.2 | (with_reducible refine Kd.C_alloc ?_ _) | (with_reducible refine Kd.C_drewN ?_ _) | (with_reducible refine Kd.C_drew ?_))); (case side2 => exact (Kd.V_reads' HO442.out).2.1); rintro e w36 ⟨v451, v456, v459, v463, rfl, ho0, ho1, ho2, ho3, hb⟩; refine ⟨_, rfl, ?_⟩; replace HO442 := Aside0.mk (Kd.V_mono (Kd.V_told (Kd.V_told (Kd.V_told (Kd.V_told (Kd.V_old m32_ hb) (Kd.R_base ho0)) (Kd.R_base ho1)) (Kd.R_base ho2)) (Kd.R_base ho3)) (fun _ h_ => h_.1)); have HO452 := Aside0.mk (Kd.R_lower ho0 (below_size m8_)); have HO457 := Aside0.mk (Kd.R_lower ho1 (below_size m8_)); have HO460 := Aside0.mk (Kd.R_lower ho2 (below_size m8_)); have HO464 := Aside0.mk (Kd.R_lower ho3 (below_size m8_)); replace BK437 := Aside0.mk (blk_below m21_ hb); replace HB := Aside0.mk (below_step m8_ hb); (try clear hb ho0 ho1 ho2 ho3)) | ((with_reducible refine gate_dst (N := 6) rfl ?_); refine box_event ?hg (N := 6) ?hd (cs := #[.int .i64 0, .int .i64 0, .int .i64 0, .slice none 0 0, .string (⟨#[]⟩ : ByteArray), .string (⟨#[]⟩ : ByteArray), .slice none 0 0, .slice none 0 0, .string (⟨#[]⟩ : ByteArray), .slice none 0 0, .int .i64 0, .int .i64 0]) (t := 34) ?hr ?_; (case hd => rfl); (case hg => rfl); (case hr => first | (go_simp; done) | (go_simp; rfl)); intro gb468 hg w37 hbox hb; replace HO442 := Aside0.mk (Kd.V_below (Kd.V_elderB m32_ gb468 (Nat.le_of_eq hg.symm)) hb); replace HO452 := Aside0.mk (Kd.R_below (rD_ HO452.out) hb); replace HO457 := Aside0.mk (Kd.R_below (rD_ HO457.out) hb); replace HO460 := Aside0.mk (Kd.R_below (rD_ HO460.out) hb); replace HO464 := Aside0.mk (Kd.R_below (rD_ HO464.out) hb); have BK468 := Aside0.mk (hbox); have GW468 := Aside0.mk ((by rw [hg]; exact (below_size m8_) : w.heap.size ≤ gb468)); have GE468 := Aside0.mk ((by rw [hg]; exact (below_size m8_) : w.heap.size ≤ gb468)); replace HB := Aside0.mk (below_step m8_ hb); have NB437_468 := Aside0.mk ((by rw [hg]; exact Nat.ne_of_lt (blk_lt (g := gb437) (o := .cells #[.int .i64 a0_0, .int .i64 a0_1, .int .i64 a0_2, .slice A0_3 l0_3.length c0_3, .string a0_4, .string a0_5, .slice A0_6 l0_6.length c0_6, .slice A0_7 l0_7.length c0_7, .string a0_8, .slice A0_9 l0_9.length c0_9, .int .i64 a0_10, .int .i64 a0_11] 34 (0, 0)) m21_) : gb437 ≠ gb468)); have NB468_437 := Aside0.mk ((by rw [hg]; exact Nat.ne_of_gt (blk_lt (g := gb437) (o := .cells #[.int .i64 a0_0, .int .i64 a0_1, .int .i64 a0_2, .slice A0_3 l0_3.length c0_3, .string a0_4, .string a0_5, .slice A0_6 l0_6.length c0_6, .slice A0_7 l0_7.length c0_7, .string a0_8, .slice A0_9 l0_9.length c0_9, .int .i64 a0_10, .int .i64 a0_11] 34 (0, 0)) m21_) : gb468 ≠ gb437)); replace BK437 := Aside0.mk (blk_below m21_ hb); clear hb hbox hg; have hnb38 := NB468_437.out; have hnc38 := NB437_468.out; obtain ⟨hcz39_0, hcz39_1, hcz39_2, hcz39_3, hcz39_4, hcz39_5, hcz39_6, hcz39_7, hcz39_8, hcz39_9, hcz39_10, hcz39_11⟩ := bc12_ BK468.out; obtain ⟨hfz39_0, hfz39_1, hfz39_2, hfz39_3, hfz39_4, hfz39_5, hfz39_6, hfz39_7, hfz39_8, hfz39_9, hfz39_10, hfz39_11⟩ := bf12_ BK468.out; obtain ⟨Ao40, co40, eo40⟩ := Kd.R_slice HO452.out; subst eo40; obtain ⟨Ao41, co41, eo41⟩ := Kd.R_slice HO457.out; subst eo41; obtain ⟨Ao42, co42, eo42⟩ := Kd.R_slice HO460.out; subst eo42; obtain ⟨Ao43, co43, eo43⟩ := Kd.R_slice HO464.out; subst eo43))
  have n0_ : Aside0 (Kd.V (Kd.int .u8) 5 ((((((((((((w37.setCell ⟨gb468, 0, none⟩ (.int .i64 t447)).setCell ⟨gb468, 1, none⟩ (.int .i64 t448)).setCell ⟨gb468, 2, none⟩ (.int .i64 t449)).setCell ⟨gb468, 3, none⟩ (.slice Ao40 t450.length co40)).setCell ⟨gb468, 4, none⟩ (.string t453)).setCell ⟨gb468, 5, none⟩ (.string t454)).setCell ⟨gb468, 6, none⟩ (.slice Ao41 t455.length co41)).setCell ⟨gb468, 7, none⟩ (.slice Ao42 t458.length co42)).setCell ⟨gb468, 8, none⟩ (.string t461)).setCell ⟨gb468, 9, none⟩ (.slice Ao43 t462.length co43)).setCell ⟨gb468, 10, none⟩ (.int .i64 t465)).setCell ⟨gb468, 11, none⟩ (.int .i64 t466)) w.heap.size (fun k_ => some k_ ≠ (.slice Ao40 t450.length co40 : Value).ownBlock ∧ some k_ ≠ (.slice Ao41 t455.length co41 : Value).ownBlock ∧ some k_ ≠ (.slice Ao42 t458.length co42 : Value).ownBlock ∧ some k_ ≠ (.slice Ao43 t462.length co43 : Value).ownBlock ∧ k_ ≠ gb437 ∧ k_ ≠ gb468) (.slice Ao35 t440.length co35) t440) := ⟨by (with_reducible repeat (first | apply Kd.V_alloc | apply Kd.V_drewN | apply Kd.V_drew)); exact Kd.V_mono (Kd.V_far (p := ⟨gb468, 11, none⟩) (Kd.V_far (p := ⟨gb468, 10, none⟩) (Kd.V_far (p := ⟨gb468, 9, none⟩) (Kd.V_far (p := ⟨gb468, 8, none⟩) (Kd.V_far (p := ⟨gb468, 7, none⟩) (Kd.V_far (p := ⟨gb468, 6, none⟩) (Kd.V_far (p := ⟨gb468, 5, none⟩) (Kd.V_far (p := ⟨gb468, 4, none⟩) (Kd.V_far (p := ⟨gb468, 3, none⟩) (Kd.V_far (p := ⟨gb468, 2, none⟩) (Kd.V_far (p := ⟨gb468, 1, none⟩) (Kd.V_far (p := ⟨gb468, 0, none⟩) (Kd.V_mono HO442.out (fun k_ hk => (⟨hk, hk.2⟩ : _ ∧ k_ ≠ gb468))) (fun _ hk => hk.2) (.int .i64 t447)) (fun _ hk => hk.2) (.int .i64 t448)) (fun _ hk => hk.2) (.int .i64 t449)) (fun _ hk => hk.2) (.slice Ao40 t450.length co40)) (fun _ hk => hk.2) (.string t453)) (fun _ hk => hk.2) (.string t454)) (fun _ hk => hk.2) (.slice Ao41 t455.length co41)) (fun _ hk => hk.2) (.slice Ao42 t458.length co42)) (fun _ hk => hk.2) (.string t461)) (fun _ hk => hk.2) (.slice Ao43 t462.length co43)) (fun _ hk => hk.2) (.int .i64 t465)) (fun _ hk => hk.2) (.int .i64 t466)) (fun _ hk => ⟨hk.1.1.1.1.1.2, ⟨hk.1.1.1.1.2, ⟨hk.1.1.1.2, ⟨hk.1.1.2, ⟨hk.1.1.1.1.1.1, hk.1.2⟩⟩⟩⟩⟩)⟩
  have n1_ : Aside0 (Kd.R Kd.string 9 ((((((((((((w37.setCell ⟨gb468, 0, none⟩ (.int .i64 t447)).setCell ⟨gb468, 1, none⟩ (.int .i64 t448)).setCell ⟨gb468, 2, none⟩ (.int .i64 t449)).setCell ⟨gb468, 3, none⟩ (.slice Ao40 t450.length co40)).setCell ⟨gb468, 4, none⟩ (.string t453)).setCell ⟨gb468, 5, none⟩ (.string t454)).setCell ⟨gb468, 6, none⟩ (.slice Ao41 t455.length co41)).setCell ⟨gb468, 7, none⟩ (.slice Ao42 t458.length co42)).setCell ⟨gb468, 8, none⟩ (.string t461)).setCell ⟨gb468, 9, none⟩ (.slice Ao43 t462.length co43)).setCell ⟨gb468, 10, none⟩ (.int .i64 t465)).setCell ⟨gb468, 11, none⟩ (.int .i64 t466)) w.heap.size (fun _ => True) (.slice Ao40 t450.length co40) t450) := ⟨by refine rD_ ?_; exact Kd.R_mono (Kd.R_far (p := ⟨gb468, 11, none⟩) (Kd.R_far (p := ⟨gb468, 10, none⟩) (Kd.R_far (p := ⟨gb468, 9, none⟩) (Kd.R_far (p := ⟨gb468, 8, none⟩) (Kd.R_far (p := ⟨gb468, 7, none⟩) (Kd.R_far (p := ⟨gb468, 6, none⟩) (Kd.R_far (p := ⟨gb468, 5, none⟩) (Kd.R_far (p := ⟨gb468, 4, none⟩) (Kd.R_far (p := ⟨gb468, 3, none⟩) (Kd.R_far (p := ⟨gb468, 2, none⟩) (Kd.R_far (p := ⟨gb468, 1, none⟩) (Kd.R_far (p := ⟨gb468, 0, none⟩) (Kd.R_types HO452.out BK468.out (by decide)) (fun _ hk => hk.2) (.int .i64 t447)) (fun _ hk => hk.2) (.int .i64 t448)) (fun _ hk => hk.2) (.int .i64 t449)) (fun _ hk => hk.2) (.slice Ao40 t450.length co40)) (fun _ hk => hk.2) (.string t453)) (fun _ hk => hk.2) (.string t454)) (fun _ hk => hk.2) (.slice Ao41 t455.length co41)) (fun _ hk => hk.2) (.slice Ao42 t458.length co42)) (fun _ hk => hk.2) (.string t461)) (fun _ hk => hk.2) (.slice Ao43 t462.length co43)) (fun _ hk => hk.2) (.int .i64 t465)) (fun _ hk => hk.2) (.int .i64 t466)) (fun _ hk => trivial)⟩
  have n2_ : Aside0 (Kd.R k65 65 ((((((((((((w37.setCell ⟨gb468, 0, none⟩ (.int .i64 t447)).setCell ⟨gb468, 1, none⟩ (.int .i64 t448)).setCell ⟨gb468, 2, none⟩ (.int .i64 t449)).setCell ⟨gb468, 3, none⟩ (.slice Ao40 t450.length co40)).setCell ⟨gb468, 4, none⟩ (.string t453)).setCell ⟨gb468, 5, none⟩ (.string t454)).setCell ⟨gb468, 6, none⟩ (.slice Ao41 t455.length co41)).setCell ⟨gb468, 7, none⟩ (.slice Ao42 t458.length co42)).setCell ⟨gb468, 8, none⟩ (.string t461)).setCell ⟨gb468, 9, none⟩ (.slice Ao43 t462.length co43)).setCell ⟨gb468, 10, none⟩ (.int .i64 t465)).setCell ⟨gb468, 11, none⟩ (.int .i64 t466)) w.heap.size (fun _ => True) (.slice Ao41 t455.length co41) t455) := ⟨by refine rD_ ?_; exact Kd.R_mono (Kd.R_far (p := ⟨gb468, 11, none⟩) (Kd.R_far (p := ⟨gb468, 10, none⟩) (Kd.R_far (p := ⟨gb468, 9, none⟩) (Kd.R_far (p := ⟨gb468, 8, none⟩) (Kd.R_far (p := ⟨gb468, 7, none⟩) (Kd.R_far (p := ⟨gb468, 6, none⟩) (Kd.R_far (p := ⟨gb468, 5, none⟩) (Kd.R_far (p := ⟨gb468, 4, none⟩) (Kd.R_far (p := ⟨gb468, 3, none⟩) (Kd.R_far (p := ⟨gb468, 2, none⟩) (Kd.R_far (p := ⟨gb468, 1, none⟩) (Kd.R_far (p := ⟨gb468, 0, none⟩) (Kd.R_types HO457.out BK468.out (by decide)) (fun _ hk => hk.2) (.int .i64 t447)) (fun _ hk => hk.2) (.int .i64 t448)) (fun _ hk => hk.2) (.int .i64 t449)) (fun _ hk => hk.2) (.slice Ao40 t450.length co40)) (fun _ hk => hk.2) (.string t453)) (fun _ hk => hk.2) (.string t454)) (fun _ hk => hk.2) (.slice Ao41 t455.length co41)) (fun _ hk => hk.2) (.slice Ao42 t458.length co42)) (fun _ hk => hk.2) (.string t461)) (fun _ hk => hk.2) (.slice Ao43 t462.length co43)) (fun _ hk => hk.2) (.int .i64 t465)) (fun _ hk => hk.2) (.int .i64 t466)) (fun _ hk => trivial)⟩
  have n3_ : Aside0 (Kd.R k74 74 ((((((((((((w37.setCell ⟨gb468, 0, none⟩ (.int .i64 t447)).setCell ⟨gb468, 1, none⟩ (.int .i64 t448)).setCell ⟨gb468, 2, none⟩ (.int .i64 t449)).setCell ⟨gb468, 3, none⟩ (.slice Ao40 t450.length co40)).setCell ⟨gb468, 4, none⟩ (.string t453)).setCell ⟨gb468, 5, none⟩ (.string t454)).setCell ⟨gb468, 6, none⟩ (.slice Ao41 t455.length co41)).setCell ⟨gb468, 7, none⟩ (.slice Ao42 t458.length co42)).setCell ⟨gb468, 8, none⟩ (.string t461)).setCell ⟨gb468, 9, none⟩ (.slice Ao43 t462.length co43)).setCell ⟨gb468, 10, none⟩ (.int .i64 t465)).setCell ⟨gb468, 11, none⟩ (.int .i64 t466)) w.heap.size (fun _ => True) (.slice Ao42 t458.length co42) t458) := ⟨by refine rD_ ?_; exact Kd.R_mono (Kd.R_far (p := ⟨gb468, 11, none⟩) (Kd.R_far (p := ⟨gb468, 10, none⟩) (Kd.R_far (p := ⟨gb468, 9, none⟩) (Kd.R_far (p := ⟨gb468, 8, none⟩) (Kd.R_far (p := ⟨gb468, 7, none⟩) (Kd.R_far (p := ⟨gb468, 6, none⟩) (Kd.R_far (p := ⟨gb468, 5, none⟩) (Kd.R_far (p := ⟨gb468, 4, none⟩) (Kd.R_far (p := ⟨gb468, 3, none⟩) (Kd.R_far (p := ⟨gb468, 2, none⟩) (Kd.R_far (p := ⟨gb468, 1, none⟩) (Kd.R_far (p := ⟨gb468, 0, none⟩) (Kd.R_types HO460.out BK468.out (by decide)) (fun _ hk => hk.2) (.int .i64 t447)) (fun _ hk => hk.2) (.int .i64 t448)) (fun _ hk => hk.2) (.int .i64 t449)) (fun _ hk => hk.2) (.slice Ao40 t450.length co40)) (fun _ hk => hk.2) (.string t453)) (fun _ hk => hk.2) (.string t454)) (fun _ hk => hk.2) (.slice Ao41 t455.length co41)) (fun _ hk => hk.2) (.slice Ao42 t458.length co42)) (fun _ hk => hk.2) (.string t461)) (fun _ hk => hk.2) (.slice Ao43 t462.length co43)) (fun _ hk => hk.2) (.int .i64 t465)) (fun _ hk => hk.2) (.int .i64 t466)) (fun _ hk => trivial)⟩
  have n4_ : Aside0 (Kd.R k67 67 ((((((((((((w37.setCell ⟨gb468, 0, none⟩ (.int .i64 t447)).setCell ⟨gb468, 1, none⟩ (.int .i64 t448)).setCell ⟨gb468, 2, none⟩ (.int .i64 t449)).setCell ⟨gb468, 3, none⟩ (.slice Ao40 t450.length co40)).setCell ⟨gb468, 4, none⟩ (.string t453)).setCell ⟨gb468, 5, none⟩ (.string t454)).setCell ⟨gb468, 6, none⟩ (.slice Ao41 t455.length co41)).setCell ⟨gb468, 7, none⟩ (.slice Ao42 t458.length co42)).setCell ⟨gb468, 8, none⟩ (.string t461)).setCell ⟨gb468, 9, none⟩ (.slice Ao43 t462.length co43)).setCell ⟨gb468, 10, none⟩ (.int .i64 t465)).setCell ⟨gb468, 11, none⟩ (.int .i64 t466)) w.heap.size (fun _ => True) (.slice Ao43 t462.length co43) t462) := ⟨by refine rD_ ?_; exact Kd.R_mono (Kd.R_far (p := ⟨gb468, 11, none⟩) (Kd.R_far (p := ⟨gb468, 10, none⟩) (Kd.R_far (p := ⟨gb468, 9, none⟩) (Kd.R_far (p := ⟨gb468, 8, none⟩) (Kd.R_far (p := ⟨gb468, 7, none⟩) (Kd.R_far (p := ⟨gb468, 6, none⟩) (Kd.R_far (p := ⟨gb468, 5, none⟩) (Kd.R_far (p := ⟨gb468, 4, none⟩) (Kd.R_far (p := ⟨gb468, 3, none⟩) (Kd.R_far (p := ⟨gb468, 2, none⟩) (Kd.R_far (p := ⟨gb468, 1, none⟩) (Kd.R_far (p := ⟨gb468, 0, none⟩) (Kd.R_types HO464.out BK468.out (by decide)) (fun _ hk => hk.2) (.int .i64 t447)) (fun _ hk => hk.2) (.int .i64 t448)) (fun _ hk => hk.2) (.int .i64 t449)) (fun _ hk => hk.2) (.slice Ao40 t450.length co40)) (fun _ hk => hk.2) (.string t453)) (fun _ hk => hk.2) (.string t454)) (fun _ hk => hk.2) (.slice Ao41 t455.length co41)) (fun _ hk => hk.2) (.slice Ao42 t458.length co42)) (fun _ hk => hk.2) (.string t461)) (fun _ hk => hk.2) (.slice Ao43 t462.length co43)) (fun _ hk => hk.2) (.int .i64 t465)) (fun _ hk => hk.2) (.int .i64 t466)) (fun _ hk => trivial)⟩
  have n5_ : Aside0 (((((((((((((w37.setCell ⟨gb468, 0, none⟩ (.int .i64 t447)).setCell ⟨gb468, 1, none⟩ (.int .i64 t448)).setCell ⟨gb468, 2, none⟩ (.int .i64 t449)).setCell ⟨gb468, 3, none⟩ (.slice Ao40 t450.length co40)).setCell ⟨gb468, 4, none⟩ (.string t453)).setCell ⟨gb468, 5, none⟩ (.string t454)).setCell ⟨gb468, 6, none⟩ (.slice Ao41 t455.length co41)).setCell ⟨gb468, 7, none⟩ (.slice Ao42 t458.length co42)).setCell ⟨gb468, 8, none⟩ (.string t461)).setCell ⟨gb468, 9, none⟩ (.slice Ao43 t462.length co43)).setCell ⟨gb468, 10, none⟩ (.int .i64 t465)).setCell ⟨gb468, 11, none⟩ (.int .i64 t466)).heap[gb437]? = some (.cells #[.int .i64 a0_0, .int .i64 a0_1, .int .i64 a0_2, .slice A0_3 l0_3.length c0_3, .string a0_4, .string a0_5, .slice A0_6 l0_6.length c0_6, .slice A0_7 l0_7.length c0_7, .string a0_8, .slice A0_9 l0_9.length c0_9, .int .i64 a0_10, .int .i64 a0_11] 34 (0, 0))) := ⟨by refine bD_ ?_; refine blk_far ?_ NB437_468.out _; refine bD_ ?_; refine blk_far ?_ NB437_468.out _; refine bD_ ?_; refine blk_far ?_ NB437_468.out _; refine bD_ ?_; refine blk_far ?_ NB437_468.out _; refine bD_ ?_; refine blk_far ?_ NB437_468.out _; refine bD_ ?_; refine blk_far ?_ NB437_468.out _; refine bD_ ?_; refine blk_far ?_ NB437_468.out _; refine bD_ ?_; refine blk_far ?_ NB437_468.out _; refine bD_ ?_; refine blk_far ?_ NB437_468.out _; refine bD_ ?_; refine blk_far ?_ NB437_468.out _; refine bD_ ?_; refine blk_far ?_ NB437_468.out _; refine bD_ ?_; refine blk_far ?_ NB437_468.out _; refine bD_ ?_; exact BK437.out⟩
  have n6_ : Aside0 (((((((((((((w37.setCell ⟨gb468, 0, none⟩ (.int .i64 t447)).setCell ⟨gb468, 1, none⟩ (.int .i64 t448)).setCell ⟨gb468, 2, none⟩ (.int .i64 t449)).setCell ⟨gb468, 3, none⟩ (.slice Ao40 t450.length co40)).setCell ⟨gb468, 4, none⟩ (.string t453)).setCell ⟨gb468, 5, none⟩ (.string t454)).setCell ⟨gb468, 6, none⟩ (.slice Ao41 t455.length co41)).setCell ⟨gb468, 7, none⟩ (.slice Ao42 t458.length co42)).setCell ⟨gb468, 8, none⟩ (.string t461)).setCell ⟨gb468, 9, none⟩ (.slice Ao43 t462.length co43)).setCell ⟨gb468, 10, none⟩ (.int .i64 t465)).setCell ⟨gb468, 11, none⟩ (.int .i64 t466)).heap[gb468]? = some (.cells #[.int .i64 t447, .int .i64 t448, .int .i64 t449, .slice Ao40 t450.length co40, .string t453, .string t454, .slice Ao41 t455.length co41, .slice Ao42 t458.length co42, .string t461, .slice Ao43 t462.length co43, .int .i64 t465, .int .i64 t466] 34 (0, 0))) := ⟨by refine bD_ ?_; refine blk_put (cs := #[.int .i64 t447, .int .i64 t448, .int .i64 t449, .slice Ao40 t450.length co40, .string t453, .string t454, .slice Ao41 t455.length co41, .slice Ao42 t458.length co42, .string t461, .slice Ao43 t462.length co43, .int .i64 t465, .int .i64 0]) ?_ 11 _ rfl; refine bD_ ?_; refine blk_put (cs := #[.int .i64 t447, .int .i64 t448, .int .i64 t449, .slice Ao40 t450.length co40, .string t453, .string t454, .slice Ao41 t455.length co41, .slice Ao42 t458.length co42, .string t461, .slice Ao43 t462.length co43, .int .i64 0, .int .i64 0]) ?_ 10 _ rfl; refine bD_ ?_; refine blk_put (cs := #[.int .i64 t447, .int .i64 t448, .int .i64 t449, .slice Ao40 t450.length co40, .string t453, .string t454, .slice Ao41 t455.length co41, .slice Ao42 t458.length co42, .string t461, .slice none 0 0, .int .i64 0, .int .i64 0]) ?_ 9 _ rfl; refine bD_ ?_; refine blk_put (cs := #[.int .i64 t447, .int .i64 t448, .int .i64 t449, .slice Ao40 t450.length co40, .string t453, .string t454, .slice Ao41 t455.length co41, .slice Ao42 t458.length co42, .string (⟨#[]⟩ : ByteArray), .slice none 0 0, .int .i64 0, .int .i64 0]) ?_ 8 _ rfl; refine bD_ ?_; refine blk_put (cs := #[.int .i64 t447, .int .i64 t448, .int .i64 t449, .slice Ao40 t450.length co40, .string t453, .string t454, .slice Ao41 t455.length co41, .slice none 0 0, .string (⟨#[]⟩ : ByteArray), .slice none 0 0, .int .i64 0, .int .i64 0]) ?_ 7 _ rfl; refine bD_ ?_; refine blk_put (cs := #[.int .i64 t447, .int .i64 t448, .int .i64 t449, .slice Ao40 t450.length co40, .string t453, .string t454, .slice none 0 0, .slice none 0 0, .string (⟨#[]⟩ : ByteArray), .slice none 0 0, .int .i64 0, .int .i64 0]) ?_ 6 _ rfl; refine bD_ ?_; refine blk_put (cs := #[.int .i64 t447, .int .i64 t448, .int .i64 t449, .slice Ao40 t450.length co40, .string t453, .string (⟨#[]⟩ : ByteArray), .slice none 0 0, .slice none 0 0, .string (⟨#[]⟩ : ByteArray), .slice none 0 0, .int .i64 0, .int .i64 0]) ?_ 5 _ rfl; refine bD_ ?_; refine blk_put (cs := #[.int .i64 t447, .int .i64 t448, .int .i64 t449, .slice Ao40 t450.length co40, .string (⟨#[]⟩ : ByteArray), .string (⟨#[]⟩ : ByteArray), .slice none 0 0, .slice none 0 0, .string (⟨#[]⟩ : ByteArray), .slice none 0 0, .int .i64 0, .int .i64 0]) ?_ 4 _ rfl; refine bD_ ?_; refine blk_put (cs := #[.int .i64 t447, .int .i64 t448, .int .i64 t449, .slice none 0 0, .string (⟨#[]⟩ : ByteArray), .string (⟨#[]⟩ : ByteArray), .slice none 0 0, .slice none 0 0, .string (⟨#[]⟩ : ByteArray), .slice none 0 0, .int .i64 0, .int .i64 0]) ?_ 3 _ rfl; refine bD_ ?_; refine blk_put (cs := #[.int .i64 t447, .int .i64 t448, .int .i64 0, .slice none 0 0, .string (⟨#[]⟩ : ByteArray), .string (⟨#[]⟩ : ByteArray), .slice none 0 0, .slice none 0 0, .string (⟨#[]⟩ : ByteArray), .slice none 0 0, .int .i64 0, .int .i64 0]) ?_ 2 _ rfl; refine bD_ ?_; refine blk_put (cs := #[.int .i64 t447, .int .i64 0, .int .i64 0, .slice none 0 0, .string (⟨#[]⟩ : ByteArray), .string (⟨#[]⟩ : ByteArray), .slice none 0 0, .slice none 0 0, .string (⟨#[]⟩ : ByteArray), .slice none 0 0, .int .i64 0, .int .i64 0]) ?_ 1 _ rfl; refine bD_ ?_; refine blk_put (cs := #[.int .i64 0, .int .i64 0, .int .i64 0, .slice none 0 0, .string (⟨#[]⟩ : ByteArray), .string (⟨#[]⟩ : ByteArray), .slice none 0 0, .slice none 0 0, .string (⟨#[]⟩ : ByteArray), .slice none 0 0, .int .i64 0, .int .i64 0]) ?_ 0 _ rfl; refine bD_ ?_; exact BK468.out⟩
  have n7_ : Aside0 (Below w.heap.size w ((((((((((((w37.setCell ⟨gb468, 0, none⟩ (.int .i64 t447)).setCell ⟨gb468, 1, none⟩ (.int .i64 t448)).setCell ⟨gb468, 2, none⟩ (.int .i64 t449)).setCell ⟨gb468, 3, none⟩ (.slice Ao40 t450.length co40)).setCell ⟨gb468, 4, none⟩ (.string t453)).setCell ⟨gb468, 5, none⟩ (.string t454)).setCell ⟨gb468, 6, none⟩ (.slice Ao41 t455.length co41)).setCell ⟨gb468, 7, none⟩ (.slice Ao42 t458.length co42)).setCell ⟨gb468, 8, none⟩ (.string t461)).setCell ⟨gb468, 9, none⟩ (.slice Ao43 t462.length co43)).setCell ⟨gb468, 10, none⟩ (.int .i64 t465)).setCell ⟨gb468, 11, none⟩ (.int .i64 t466))) := ⟨by repeat (first | (with_reducible first | exact HB.out | apply below_alloc | apply pw_below_drewN | apply below_drew1 | refine below_set ?_ GE437.out | refine below_set ?_ GE468.out) | exact HB.out)⟩
  (try clear HO442)
  (try clear HO452)
  (try clear HO457)
  (try clear HO460)
  (try clear HO464)
  (try clear BK437)
  (try clear BK468)
  (try clear HB)
  generalize ((((((((((((w37.setCell ⟨gb468, 0, none⟩ (.int .i64 t447)).setCell ⟨gb468, 1, none⟩ (.int .i64 t448)).setCell ⟨gb468, 2, none⟩ (.int .i64 t449)).setCell ⟨gb468, 3, none⟩ (.slice Ao40 t450.length co40)).setCell ⟨gb468, 4, none⟩ (.string t453)).setCell ⟨gb468, 5, none⟩ (.string t454)).setCell ⟨gb468, 6, none⟩ (.slice Ao41 t455.length co41)).setCell ⟨gb468, 7, none⟩ (.slice Ao42 t458.length co42)).setCell ⟨gb468, 8, none⟩ (.string t461)).setCell ⟨gb468, 9, none⟩ (.slice Ao43 t462.length co43)).setCell ⟨gb468, 10, none⟩ (.int .i64 t465)).setCell ⟨gb468, 11, none⟩ (.int .i64 t466)) = w44 at n0_ n1_ n2_ n3_ n4_ n5_ n6_ n7_ ⊢
  have HO442 := n0_
  have HO452 := n1_
  have HO457 := n2_
  have HO460 := n3_
  have HO464 := n4_
  have BK437 := n5_
  have BK468 := n6_
  have HB := n7_
  clear n0_ n1_ n2_ n3_ n4_ n5_ n6_ n7_
  replace HO442 := Aside0.mk (Kd.V_drew HO442.out)
  replace HO452 := Aside0.mk (Kd.R_drew HO452.out)
  replace HO457 := Aside0.mk (Kd.R_drew HO457.out)
  replace HO460 := Aside0.mk (Kd.R_drew HO460.out)
  replace HO464 := Aside0.mk (Kd.R_drew HO464.out)
  replace BK437 := Aside0.mk (blk_drew BK437.out)
  replace BK468 := Aside0.mk (blk_drew BK468.out)
  replace HB := Aside0.mk (below_drew1 HB.out)
  refine start_ (n := 22) (S := fun w' => w'.cell? ⟨gb437, 0, none⟩ = some (.int .i64 a0_0) ∧ w'.cell? ⟨gb437, 1, none⟩ = some (.int .i64 a0_1) ∧ w'.cell? ⟨gb437, 2, none⟩ = some (.int .i64 a0_2) ∧ w'.cell? ⟨gb437, 3, none⟩ = some (.slice A0_3 l0_3.length c0_3) ∧ w'.cell? ⟨gb437, 4, none⟩ = some (.string a0_4) ∧ w'.cell? ⟨gb437, 5, none⟩ = some (.string a0_5) ∧ w'.cell? ⟨gb437, 6, none⟩ = some (.slice A0_6 l0_6.length c0_6) ∧ w'.cell? ⟨gb437, 7, none⟩ = some (.slice A0_7 l0_7.length c0_7) ∧ w'.cell? ⟨gb437, 8, none⟩ = some (.string a0_8) ∧ w'.cell? ⟨gb437, 9, none⟩ = some (.slice A0_9 l0_9.length c0_9) ∧ w'.cell? ⟨gb437, 10, none⟩ = some (.int .i64 a0_10) ∧ w'.cell? ⟨gb437, 11, none⟩ = some (.int .i64 a0_11) ∧ w'.cell? ⟨gb468, 0, none⟩ = some (.int .i64 t447) ∧ w'.cell? ⟨gb468, 1, none⟩ = some (.int .i64 t448) ∧ w'.cell? ⟨gb468, 2, none⟩ = some (.int .i64 t449) ∧ w'.cell? ⟨gb468, 3, none⟩ = some (.slice Ao40 t450.length co40) ∧ w'.cell? ⟨gb468, 4, none⟩ = some (.string t453) ∧ w'.cell? ⟨gb468, 5, none⟩ = some (.string t454) ∧ w'.cell? ⟨gb468, 6, none⟩ = some (.slice Ao41 t455.length co41) ∧ w'.cell? ⟨gb468, 7, none⟩ = some (.slice Ao42 t458.length co42) ∧ w'.cell? ⟨gb468, 8, none⟩ = some (.string t461) ∧ w'.cell? ⟨gb468, 9, none⟩ = some (.slice Ao43 t462.length co43) ∧ w'.cell? ⟨gb468, 10, none⟩ = some (.int .i64 t465) ∧ w'.cell? ⟨gb468, 11, none⟩ = some (.int .i64 t466) ∧ (convert 36 9 (.slice Ao35 t440.length co35)).run Tryd.prog w' = .ok (.string (strOfNums t440)) w') (ds := []) (Ra_ [0, 22]) (by kernel_rfl) rfl rfl ⟨(blk_cell BK437.out 0).trans rfl, (blk_cell BK437.out 1).trans rfl, (blk_cell BK437.out 2).trans rfl, (blk_cell BK437.out 3).trans rfl, (blk_cell BK437.out 4).trans rfl, (blk_cell BK437.out 5).trans rfl, (blk_cell BK437.out 6).trans rfl, (blk_cell BK437.out 7).trans rfl, (blk_cell BK437.out 8).trans rfl, (blk_cell BK437.out 9).trans rfl, (blk_cell BK437.out 10).trans rfl, (blk_cell BK437.out 11).trans rfl, (blk_cell BK468.out 0).trans rfl, (blk_cell BK468.out 1).trans rfl, (blk_cell BK468.out 2).trans rfl, (blk_cell BK468.out 3).trans rfl, (blk_cell BK468.out 4).trans rfl, (blk_cell BK468.out 5).trans rfl, (blk_cell BK468.out 6).trans rfl, (blk_cell BK468.out 7).trans rfl, (blk_cell BK468.out 8).trans rfl, (blk_cell BK468.out 9).trans rfl, (blk_cell BK468.out 10).trans rfl, (blk_cell BK468.out 11).trans rfl, v_string (P := Tryd.prog) Tryd.underlying36 Tryd.underlying5 Tryd.underlying9 HO442.out⟩ (fun hHeld => ?_); refine with_tabW strongroomlaw25_FrameReplies.tab10 strongroomlaw25_FrameReplies.bits10 (fun HT_ HW_ => ?_)
  generalize w44.drew = w45 at HO442 HO452 HO457 HO460 HO464 BK437 BK468 HB hHeld ⊢
  refine pI_ 0 (some 40) (Ra_ [1, 21]) (h := ?_)
  refine pI_ 1 (some 41) (Ra_ [2, 20]) (h := ?_)
  refine pI_ 2 (some 42) (Ra_ [3, 19]) (h := ?_)
  refine pI_ 3 (some 43) (Ra_ [4, 18]) (h := ?_)
  refine tI25_ 4 (some 44) (Ra_ [5, 17]) (h := ?_)
  refine tI25_ 5 (some 45) (Ra_ [6, 16]) (h := ?_)
  refine one_ (i := 6) (N := some 46) (Ra_ [7, 15]) rfl rfl (one_of HT_.out (by kernel_rfl)) (by decide) (fun K hK => ?_)
  refine goes_ Tryd.func17 (by kernel_rfl) rfl #[.agg #[.int .i64 a0_0, .int .i64 a0_1, .int .i64 a0_2, .slice A0_3 l0_3.length c0_3, .string a0_4, .string a0_5, .slice A0_6 l0_6.length c0_6, .slice A0_7 l0_7.length c0_7, .string a0_8, .slice A0_9 l0_9.length c0_9, .int .i64 a0_10, .int .i64 a0_11]] (by rfl) rfl rfl m14_ ?_
  with_reducible refine (strongroomref25_Reply.calls k a0_0 a0_1 a0_2 _ _ l0_3 a0_4 a0_5 _ _ l0_6 _ _ l0_7 a0_8 _ _ l0_9 a0_10 a0_11 t469 _ ?side1 ?side2 ?side3 ?side4 ?side5 ?side6 ?side7 ?side8 A20.out).mono ?_
  (case side1 => exact m46_)
  (case side2 => exact HC0_3.out)
  (case side3 => exact m47_)
  (case side4 => exact HC0_6.out)
  (case side5 => exact m48_)
  (case side6 => exact HC0_7.out)
  (case side7 => exact m49_)
  (case side8 => exact HC0_9.out)
  rintro e w47 ⟨rfl, hb⟩
  refine ⟨_, rfl, ?_⟩
  replace HO442 := Aside0.mk (Kd.V_below m32_ hb)
  replace HO452 := Aside0.mk (Kd.R_below (rD_ HO452.out) hb)
  replace HO457 := Aside0.mk (Kd.R_below (rD_ HO457.out) hb)
  replace HO460 := Aside0.mk (Kd.R_below (rD_ HO460.out) hb)
  replace HO464 := Aside0.mk (Kd.R_below (rD_ HO464.out) hb)
  replace BK437 := Aside0.mk (blk_below m21_ hb)
  replace BK468 := Aside0.mk (blk_below (bD_ BK468.out) hb)
  replace HB := Aside0.mk (below_step (by repeat (first | (with_reducible first | exact HB.out | apply below_alloc | apply pw_below_drewN | apply below_drew1 | refine below_set ?_ GE437.out | refine below_set ?_ GE468.out) | exact HB.out)) hb)
  (try clear hb)
  refine hK.out _ _ ⟨(blk_cell BK437.out 0).trans rfl, (blk_cell BK437.out 1).trans rfl, (blk_cell BK437.out 2).trans rfl, (blk_cell BK437.out 3).trans rfl, (blk_cell BK437.out 4).trans rfl, (blk_cell BK437.out 5).trans rfl, (blk_cell BK437.out 6).trans rfl, (blk_cell BK437.out 7).trans rfl, (blk_cell BK437.out 8).trans rfl, (blk_cell BK437.out 9).trans rfl, (blk_cell BK437.out 10).trans rfl, (blk_cell BK437.out 11).trans rfl, (blk_cell BK468.out 0).trans rfl, (blk_cell BK468.out 1).trans rfl, (blk_cell BK468.out 2).trans rfl, (blk_cell BK468.out 3).trans rfl, (blk_cell BK468.out 4).trans rfl, (blk_cell BK468.out 5).trans rfl, (blk_cell BK468.out 6).trans rfl, (blk_cell BK468.out 7).trans rfl, (blk_cell BK468.out 8).trans rfl, (blk_cell BK468.out 9).trans rfl, (blk_cell BK468.out 10).trans rfl, (blk_cell BK468.out 11).trans rfl, v_string (P := Tryd.prog) Tryd.underlying36 Tryd.underlying5 Tryd.underlying9 HO442.out⟩ (fun hHeld => ?_)
  clear hK K
  refine norm_ (a' := ?_) ?_ ?_
  rotate_left
  ·show Act.put _ (some 46) _ = _
   simp only [Act.put, sA_, sB_, sC_, i64_w, i32_w]
   rfl
  refine pI_ 7 (some 47) (Ra_ [8, 14]) (h := ?_)
  refine pI_ 8 (some 48) (Ra_ [9, 13]) (h := ?_)
  refine pI_ 9 (some 49) (Ra_ [10, 12]) (h := ?_)
  refine pI_ 10 (some 50) (Ra_ [11, 11]) (h := ?_)
  refine pI_ 11 (some 51) (Ra_ [12, 10]) (h := ?_)
  refine pI_ 12 (some 52) (Ra_ [13, 9]) (h := ?_)
  refine pI_ 13 (some 53) (Ra_ [14, 8]) (h := ?_)
  refine tI25_ 14 (some 54) (Ra_ [15, 7]) (h := ?_)
  refine tI25_ 15 (some 55) (Ra_ [16, 6]) (h := ?_)
  refine one_ (i := 16) (N := some 56) (Ra_ [17, 5]) rfl rfl (one_of HT_.out (by kernel_rfl)) (by decide) (fun K hK => ?_)
  refine goes_ Tryd.func18 (by kernel_rfl) rfl #[.agg #[.int .i64 t447, .int .i64 t448, .int .i64 t449, .slice Ao40 t450.length co40, .string t453, .string t454, .slice Ao41 t455.length co41, .slice Ao42 t458.length co42, .string t461, .slice Ao43 t462.length co43, .int .i64 t465, .int .i64 t466], .agg #[.int .i64 a0_0, .int .i64 a0_1, .int .i64 a0_2, .slice A0_3 l0_3.length c0_3, .string a0_4, .string a0_5, .slice A0_6 l0_6.length c0_6, .slice A0_7 l0_7.length c0_7, .string a0_8, .slice A0_9 l0_9.length c0_9, .int .i64 a0_10, .int .i64 a0_11]] (by rfl) rfl rfl m14_ ?_
  with_reducible refine (strongroomref25_SameReplies.calls k t447 t448 t449 _ _ t450 t453 t454 _ _ t455 _ _ t458 t461 _ _ t462 t465 t466 a0_0 a0_1 a0_2 _ _ l0_3 a0_4 a0_5 _ _ l0_6 _ _ l0_7 a0_8 _ _ l0_9 a0_10 a0_11 true _ ?side1 ?side2 ?side3 ?side4 ?side5 ?side6 ?side7 ?side8 ?side9 ?side10 ?side11 ?side12 ?side13 ?side14 ?side15 ?side16 A23.out).mono ?_
  (case side1 => repeat (first | exact (Kd.R_reads' HO452.out).2.2 | (with_reducible refine Kd.C_alloc ?_ _) | (with_reducible refine Kd.C_drewN ?_ _) | (with_reducible refine Kd.C_drew ?_)))
  (case side2 => exact (Kd.R_reads' HO452.out).2.1)
  (case side3 => repeat (first | exact (Kd.R_reads' HO457.out).2.2 | (with_reducible refine Kd.C_alloc ?_ _) | (with_reducible refine Kd.C_drewN ?_ _) | (with_reducible refine Kd.C_drew ?_)))
  (case side4 => exact (Kd.R_reads' HO457.out).2.1)
  (case side5 => repeat (first | exact (Kd.R_reads' HO460.out).2.2 | (with_reducible refine Kd.C_alloc ?_ _) | (with_reducible refine Kd.C_drewN ?_ _) | (with_reducible refine Kd.C_drew ?_)))
  (case side6 => exact (Kd.R_reads' HO460.out).2.1)
  (case side7 => repeat (first | exact (Kd.R_reads' HO464.out).2.2 | (with_reducible refine Kd.C_alloc ?_ _) | (with_reducible refine Kd.C_drewN ?_ _) | (with_reducible refine Kd.C_drew ?_)))
  (case side8 => exact (Kd.R_reads' HO464.out).2.1)
  (case side9 => exact m46_)
  (case side10 => exact HC0_3.out)
  (case side11 => exact m47_)
  (case side12 => exact HC0_6.out)
  (case side13 => exact m48_)
  (case side14 => exact HC0_7.out)
  (case side15 => exact m49_)
  (case side16 => exact HC0_9.out)
  rintro e w49 ⟨rfl, hb⟩
  refine ⟨_, rfl, ?_⟩
  replace HO442 := Aside0.mk (Kd.V_below m32_ hb)
  replace HO452 := Aside0.mk (Kd.R_below (rD_ HO452.out) hb)
  replace HO457 := Aside0.mk (Kd.R_below (rD_ HO457.out) hb)
  replace HO460 := Aside0.mk (Kd.R_below (rD_ HO460.out) hb)
  replace HO464 := Aside0.mk (Kd.R_below (rD_ HO464.out) hb)
  replace BK437 := Aside0.mk (blk_below m21_ hb)
  replace BK468 := Aside0.mk (blk_below (bD_ BK468.out) hb)
  replace HB := Aside0.mk (below_step (by repeat (first | (with_reducible first | exact HB.out | apply below_alloc | apply pw_below_drewN | apply below_drew1 | refine below_set ?_ GE437.out | refine below_set ?_ GE468.out) | exact HB.out)) hb)
  (try clear hb)
  refine hK.out _ _ ⟨(blk_cell BK437.out 0).trans rfl, (blk_cell BK437.out 1).trans rfl, (blk_cell BK437.out 2).trans rfl, (blk_cell BK437.out 3).trans rfl, (blk_cell BK437.out 4).trans rfl, (blk_cell BK437.out 5).trans rfl, (blk_cell BK437.out 6).trans rfl, (blk_cell BK437.out 7).trans rfl, (blk_cell BK437.out 8).trans rfl, (blk_cell BK437.out 9).trans rfl, (blk_cell BK437.out 10).trans rfl, (blk_cell BK437.out 11).trans rfl, (blk_cell BK468.out 0).trans rfl, (blk_cell BK468.out 1).trans rfl, (blk_cell BK468.out 2).trans rfl, (blk_cell BK468.out 3).trans rfl, (blk_cell BK468.out 4).trans rfl, (blk_cell BK468.out 5).trans rfl, (blk_cell BK468.out 6).trans rfl, (blk_cell BK468.out 7).trans rfl, (blk_cell BK468.out 8).trans rfl, (blk_cell BK468.out 9).trans rfl, (blk_cell BK468.out 10).trans rfl, (blk_cell BK468.out 11).trans rfl, v_string (P := Tryd.prog) Tryd.underlying36 Tryd.underlying5 Tryd.underlying9 HO442.out⟩ (fun hHeld => ?_)
  clear hK K
  refine norm_ (a' := ?_) ?_ ?_
  rotate_left
  ·show Act.put _ (some 56) _ = _
   simp only [Act.put, sA_, sB_, sC_, i64_w, i32_w]
   rfl
  refine pI_ 17 (some 57) (Ra_ [18, 4]) (h := ?_)
  refine pI_ 18 (some 58) (Ra_ [19, 3]) (h := ?_)
  refine one_ (i := 19) (N := some 59) (Ra_ [20, 2]) rfl rfl (one_of HT_.out (by kernel_rfl)) (by decide) (fun K hK => ?_)
  refine goes_ Tryd.func11 (by kernel_rfl) rfl #[] (by rfl) rfl rfl m14_ ?_
  with_reducible refine (strongroomlaw25_lives.calls k  t471 _ A25.out hr_).mono ?_
  rintro e w50 ⟨rfl, hb⟩
  refine ⟨_, rfl, ?_⟩
  replace HO442 := Aside0.mk (Kd.V_below m32_ hb)
  replace HO452 := Aside0.mk (Kd.R_below (rD_ HO452.out) hb)
  replace HO457 := Aside0.mk (Kd.R_below (rD_ HO457.out) hb)
  replace HO460 := Aside0.mk (Kd.R_below (rD_ HO460.out) hb)
  replace HO464 := Aside0.mk (Kd.R_below (rD_ HO464.out) hb)
  replace BK437 := Aside0.mk (blk_below m21_ hb)
  replace BK468 := Aside0.mk (blk_below (bD_ BK468.out) hb)
  replace HB := Aside0.mk (below_step (by repeat (first | (with_reducible first | exact HB.out | apply below_alloc | apply pw_below_drewN | apply below_drew1 | refine below_set ?_ GE437.out | refine below_set ?_ GE468.out) | exact HB.out)) hb)
  (try clear hb)
  refine hK.out _ _ ⟨(blk_cell BK437.out 0).trans rfl, (blk_cell BK437.out 1).trans rfl, (blk_cell BK437.out 2).trans rfl, (blk_cell BK437.out 3).trans rfl, (blk_cell BK437.out 4).trans rfl, (blk_cell BK437.out 5).trans rfl, (blk_cell BK437.out 6).trans rfl, (blk_cell BK437.out 7).trans rfl, (blk_cell BK437.out 8).trans rfl, (blk_cell BK437.out 9).trans rfl, (blk_cell BK437.out 10).trans rfl, (blk_cell BK437.out 11).trans rfl, (blk_cell BK468.out 0).trans rfl, (blk_cell BK468.out 1).trans rfl, (blk_cell BK468.out 2).trans rfl, (blk_cell BK468.out 3).trans rfl, (blk_cell BK468.out 4).trans rfl, (blk_cell BK468.out 5).trans rfl, (blk_cell BK468.out 6).trans rfl, (blk_cell BK468.out 7).trans rfl, (blk_cell BK468.out 8).trans rfl, (blk_cell BK468.out 9).trans rfl, (blk_cell BK468.out 10).trans rfl, (blk_cell BK468.out 11).trans rfl, v_string (P := Tryd.prog) Tryd.underlying36 Tryd.underlying5 Tryd.underlying9 HO442.out⟩ (fun hHeld => ?_)
  clear hK K
  refine norm_ (a' := ?_) ?_ ?_
  rotate_left
  ·show Act.put _ (some 59) _ = _
   simp only [Act.put, sA_, sB_, sC_, i64_w, i32_w]
   rfl
  refine pI_ 20 (some 60) (Ra_ [21, 1]) (h := ?_)
  refine pI_ 21 (some 2) (Ra_ [22]) (h := ?_)
  refine done_ (done_of HT_.out (by kernel_rfl)) ?_
  try go_wp2
  go_ret
  exact ⟨by first | rfl | (simp [errW_none, errW_some] <;> rfl) | (simp [*, errW_none, errW_some] <;> rfl), by repeat (first | (with_reducible first | exact HB.out | apply below_alloc | apply pw_below_drewN | apply below_drew1 | refine below_set ?_ GE437.out | refine below_set ?_ GE468.out) | exact HB.out)⟩


end Go.Proofs.YtoankokkdmbjmaaDoorH.HFrameReplies
