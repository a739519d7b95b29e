-- PRINTED by print.py (a twelfth state) out of the translation. Not trusted: Lean checks it.
import Derived.Test.YtedmkffepmcpaaaDoorHCapCodesx0
import Derived.Test.YtedmkffepmcpaaaDoorHCapCodesx13
namespace Go.Proofs.YtedmkffepmcpaaaDoorH.HCapCodes
open Go.RowKit Go.Proofs.YtedmkffepmcpaaaDoorW.PrintWords Go.Proofs.YtedmkffepmcpaaaDoorW.PrintLast Go.Proofs.YtedmkffepmcpaaaDoorW.PrintMore
attribute [local go_sem] max2_int min2_int max_two min_two max_three min_three max_four min_four   -- for this text's walks alone
set_option linter.unusedVariables false
set_option linter.unusedSimpArgs false

/-! ### strongroomref12_Bytes: function 34 -/
def strongroomref12_Bytes.f (k : Nat) (a0_0 : ByteArray) (a0_1 : Int) (a0_2 : Int) : Option (ByteArray) := (strongroomref01_Text.f k a0_0).bind fun t345 => ((strongroomref01_Put.f k (IntKind.u64.wrap (a0_1))).bind fun t346 => (if t345.size + t346.size ≤ 9223372036854775807 then ((strongroomref01_Put.f k (IntKind.u64.wrap (a0_2))).bind fun t347 => (if (t345 ++ t346).size + t347.size ≤ 9223372036854775807 then (some ((t345 ++ t346) ++ t347)) else (none))) else (none)))
theorem strongroomref12_Bytes.mono : ∀ a0 a1 a2 k, LeO (strongroomref12_Bytes.f k a0 a1 a2) (strongroomref12_Bytes.f (k + 1) a0 a1 a2) := by
 intro a0 a1 a2 k
 unfold strongroomref12_Bytes.f
 repeat' first
   | (with_reducible exact strongroomref01_Put.mono _ _)
   | (with_reducible exact strongroomref01_Text.mono _ _)
   | (with_reducible exact LeO.refl _)
   | (with_reducible exact LeO.none _)
   | (with_reducible refine LeO.ite ?_ ?_)
   | (with_reducible refine LeO.bind ?_ (fun _ => ?_))
   | exact strongroomref01_Put.mono _ _
   | exact strongroomref01_Text.mono _ _
   | exact LeO.none _
   | refine LeO.ite ?_ ?_
   | refine LeO.bind ?_ (fun _ => ?_)
def strongroomref12_Bytes.T1 : Bool × List (List Nat × List Nat) := (true, [([], []), ([0], [0]), ([1], [1]), ([], []), ([3], [3]), ([4], [4]), ([5, 2], [5]), ([2, 6], [2, 6]), ([], []), ([8], [8]), ([9], [9]), ([10, 6], [10]), ([7, 11], [7, 11]), ([12, 11, 0, 1, 2, 3, 4, 5, 6, 7, 8, 9, 10, 11, 12], [12])])
def strongroomref12_Bytes.B1 : List Nat := [0, 1, 3, 0, 8, 24, 63, 127, 0, 256, 768, 1919, 4095, 8191]
theorem strongroomref12_Bytes.tab1 : rtab .any (opsOf Tryd.f34 1) = strongroomref12_Bytes.T1 := by kernel_rfl
theorem strongroomref12_Bytes.bits1 : waitsOk strongroomref12_Bytes.T1.2 strongroomref12_Bytes.B1 = true := by kernel_rfl
set_option maxHeartbeats 8000000 in
set_option maxRecDepth 100000 in
theorem strongroomref12_Bytes.calls (k : Nat) (a0_0 : ByteArray) (a0_1 : Int) (a0_2 : Int) (r : ByteArray) (w : World) (h : strongroomref12_Bytes.f k a0_0 a0_1 a0_2 = some r) :
  Calls Tryd.prog 34 #[.agg #[.string a0_0, .int .i64 a0_1, .int .i64 a0_2]] w fun e w' => e = .returned (.string r) ∧ Below w.heap.size w w' := by
 have hu35 := Tryd.underlying35
 have HB := Aside0.mk (Below.refl w.heap.size w)
 have H : ((strongroomref01_Text.f k a0_0).bind fun t345 => ((strongroomref01_Put.f k (IntKind.u64.wrap (a0_1))).bind fun t346 => (if t345.size + t346.size ≤ 9223372036854775807 then ((strongroomref01_Put.f k (IntKind.u64.wrap (a0_2))).bind fun t347 => (if (t345 ++ t346).size + t347.size ≤ 9223372036854775807 then (some ((t345 ++ t346) ++ t347)) else (none))) else (none)))) = some r := h
 clear h
 replace H := Option.bind_eq_some_iff.mp H
 obtain ⟨t345, A20, H⟩ := H
 replace H : ((strongroomref01_Put.f k (IntKind.u64.wrap (a0_1))).bind fun t346 => (if t345.size + t346.size ≤ 9223372036854775807 then ((strongroomref01_Put.f k (IntKind.u64.wrap (a0_2))).bind fun t347 => (if (t345 ++ t346).size + t347.size ≤ 9223372036854775807 then (some ((t345 ++ t346) ++ t347)) else (none))) else (none))) = some r := H
 have A2 := Aside0.mk A20
 clear A20
 replace H := Option.bind_eq_some_iff.mp H
 obtain ⟨t346, A30, H⟩ := H
 replace H : (if t345.size + t346.size ≤ 9223372036854775807 then ((strongroomref01_Put.f k (IntKind.u64.wrap (a0_2))).bind fun t347 => (if (t345 ++ t346).size + t347.size ≤ 9223372036854775807 then (some ((t345 ++ t346) ++ t347)) else (none))) else (none)) = some r := H
 have A3 := Aside0.mk A30
 clear A30
 by_cases c4 : t345.size + t346.size ≤ 9223372036854775807
 case neg =>
  rw [if_neg c4] at H
  exact absurd H (by simp)
 rw [if_pos c4] at H
 have c4b0 := eq_true c4
 have c4b1 : decide (t345.size + t346.size ≤ 9223372036854775807) = true := decide_eq_true c4
 try have c4b2 : (9223372036854775807 < t345.size + t346.size) = False := eq_false (Nat.not_lt.2 c4)
 replace H := Option.bind_eq_some_iff.mp H
 obtain ⟨t347, A50, H⟩ := H
 replace H : (if (t345 ++ t346).size + t347.size ≤ 9223372036854775807 then (some ((t345 ++ t346) ++ t347)) else (none)) = some r := H
 have A5 := Aside0.mk A50
 clear A50
 by_cases c6 : (t345 ++ t346).size + t347.size ≤ 9223372036854775807
 case neg =>
  rw [if_neg c6] at H
  exact absurd H (by simp)
 rw [if_pos c6] at H
 have c6b0 := eq_true c6
 have c6b1 : decide ((t345 ++ t346).size + t347.size ≤ 9223372036854775807) = true := decide_eq_true c6
 try have c6b2 : (9223372036854775807 < (t345 ++ t346).size + t347.size) = False := eq_false (Nat.not_lt.2 c6)
 try (have c6b3 := c6b2; simp only [ByteArray.size_append] at c6b3)
 obtain rfl := Option.some.inj H
 go_enter Tryd.func34, Tryd.ntmps34
 try go_wp2_with (first | ((with_reducible refine gate_dst (N := 1) rfl ?_); refine box_event ?hg (N := 1) ?hd (cs := #[.string a0_0, .int .i64 a0_1, .int .i64 a0_2]) (t := 35) ?hr ?_; (case hd => rfl); (case hg => rfl); (case hr => first | (go_simp; done) | (go_simp; rfl)); intro gb344 hg w7 hbox hb; have n0_ := Aside0.mk (below_step m31_ hb); have n1_ := Aside0.mk (hbox); have n2_ := Aside0.mk ((by rw [hg]; exact (below_size m31_) : w.heap.size ≤ gb344)); have n3_ := Aside0.mk ((by rw [hg]; exact (below_size m31_) : w.heap.size ≤ gb344)); clear HB; have HB := n0_; have BK344 := n1_; have GW344 := n2_; have GE344 := n3_; clear n0_ n1_ n2_ n3_; clear hb hbox hg))
 replace BK344 := Aside0.mk (blk_drew BK344.out)
 replace HB := Aside0.mk (below_drew1 HB.out)
 refine start_ (n := 14) (S := fun w' => w'.cell? ⟨gb344, 0, none⟩ = some (.string a0_0) ∧ w'.cell? ⟨gb344, 1, none⟩ = some (.int .i64 a0_1) ∧ w'.cell? ⟨gb344, 2, none⟩ = some (.int .i64 a0_2)) (ds := []) (Ra_ [0, 14]) (by kernel_rfl) rfl rfl ⟨(blk_cell BK344.out 0).trans rfl, (blk_cell BK344.out 1).trans rfl, (blk_cell BK344.out 2).trans rfl⟩ (fun hHeld => ?_); refine with_tabW strongroomref12_Bytes.tab1 strongroomref12_Bytes.bits1 (fun HT_ HW_ => ?_)
 generalize w7.drew = w8 at BK344 HB hHeld ⊢
 refine pI_ 0 (some 3) (Ra_ [1, 13]) (h := ?_)
 refine pI_ 3 (some 6) (Ra_ [1, 2, 1, 10]) (h := ?_)
 refine pI_ 8 (some 11) (Ra_ [1, 2, 1, 4, 1, 5]) (h := ?_)
 refine tI3_ 1 (some 4) (Ra_ [2, 1, 1, 4, 1, 5]) (h := ?_)
 refine tI3_ 4 (some 7) (Ra_ [2, 1, 2, 3, 1, 5]) (h := ?_)
 refine pI_ 5 (some 8) (Ra_ [2, 1, 3, 2, 1, 5]) (h := ?_)
 refine tI3_ 9 (some 12) (Ra_ [2, 1, 3, 2, 2, 4]) (h := ?_)
 refine pI_ 10 (some 13) (Ra_ [2, 1, 3, 2, 3, 3]) (h := ?_)
 refine one_ (i := 2) (N := some 5) (Ra_ [6, 2, 3, 3]) rfl rfl (one_of HT_.out (by kernel_rfl)) (by decide) (fun K hK => ?_)
 refine goes_ Tryd.func54 (by kernel_rfl) rfl #[.string a0_0] (by rfl) rfl rfl m30_ ?_
 with_reducible refine (strongroomref01_Text.calls k a0_0 t345 _ A2.out).mono ?_
 rintro e w9 ⟨rfl, hb⟩
 refine ⟨_, rfl, ?_⟩
 have n0_ := Aside0.mk (blk_below (g := gb344) (o := .cells #[.string a0_0, .int .i64 a0_1, .int .i64 a0_2] 35 (0, 0)) (bD_ BK344.out) hb)
 have n1_ := Aside0.mk (below_step (by repeat (first | (with_reducible first | exact HB.out | apply below_alloc | apply pw_below_drewN | apply below_drew1 | refine below_set ?_ GE344.out) | exact HB.out)) hb)
 clear BK344 HB
 have BK344 := n0_
 have HB := n1_
 clear n0_ n1_
 (try clear hb)
 (try clear hb2)
 (try clear hk)
 (try clear hi)
 refine hK.out _ _ ⟨(blk_cell BK344.out 0).trans rfl, (blk_cell BK344.out 1).trans rfl, (blk_cell BK344.out 2).trans rfl⟩ (fun hHeld => ?_)
 clear hK K
 refine norm_ (a' := ?_) ?_ ?_
 rotate_left
 ·show Act.put _ (some 5) _ = _
  simp only [Act.put, sA_, sB_, sC_, i64_w, i32_w]
  rfl
 refine one_ (i := 6) (N := some 9) (Ra_ [7, 1, 3, 3]) rfl rfl (one_of HT_.out (by kernel_rfl)) (by decide) (fun K hK => ?_)
 refine goes_ Tryd.func53 (by kernel_rfl) rfl #[.int .u64 (IntKind.u64.wrap (a0_1))] (by rfl) rfl rfl m30_ ?_
 with_reducible refine (strongroomref01_Put.calls k (IntKind.u64.wrap (a0_1)) t346 _ A3.out).mono ?_
 rintro e w10 ⟨rfl, hb⟩
 refine ⟨_, rfl, ?_⟩
 have n0_ := Aside0.mk (blk_below (g := gb344) (o := .cells #[.string a0_0, .int .i64 a0_1, .int .i64 a0_2] 35 (0, 0)) (bD_ BK344.out) hb)
 have n1_ := Aside0.mk (below_step (by repeat (first | (with_reducible first | exact HB.out | apply below_alloc | apply pw_below_drewN | apply below_drew1 | refine below_set ?_ GE344.out) | exact HB.out)) hb)
 clear BK344 HB
 have BK344 := n0_
 have HB := n1_
 clear n0_ n1_
 (try clear hb)
 (try clear hb2)
 (try clear hk)
 (try clear hi)
 refine hK.out _ _ ⟨(blk_cell BK344.out 0).trans rfl, (blk_cell BK344.out 1).trans rfl, (blk_cell BK344.out 2).trans rfl⟩ (fun hHeld => ?_)
 clear hK K
 refine norm_ (a' := ?_) ?_ ?_
 rotate_left
 ·show Act.put _ (some 9) _ = _
  simp only [Act.put, sA_, sB_, sC_, i64_w, i32_w]
  rfl
 refine pI_ 7 (some 10) (Ra_ [11, 3]) (h := ?_)
 refine one_ (i := 11) (N := some 14) (Ra_ [12, 2]) rfl rfl (one_of HT_.out (by kernel_rfl)) (by decide) (fun K hK => ?_)
 refine goes_ Tryd.func53 (by kernel_rfl) rfl #[.int .u64 (IntKind.u64.wrap (a0_2))] (by rfl) rfl rfl m30_ ?_
 with_reducible refine (strongroomref01_Put.calls k (IntKind.u64.wrap (a0_2)) t347 _ A5.out).mono ?_
 rintro e w11 ⟨rfl, hb⟩
 refine ⟨_, rfl, ?_⟩
 have n0_ := Aside0.mk (blk_below (g := gb344) (o := .cells #[.string a0_0, .int .i64 a0_1, .int .i64 a0_2] 35 (0, 0)) (bD_ BK344.out) hb)
 have n1_ := Aside0.mk (below_step (by repeat (first | (with_reducible first | exact HB.out | apply below_alloc | apply pw_below_drewN | apply below_drew1 | refine below_set ?_ GE344.out) | exact HB.out)) hb)
 clear BK344 HB
 have BK344 := n0_
 have HB := n1_
 clear n0_ n1_
 (try clear hb)
 (try clear hb2)
 (try clear hk)
 (try clear hi)
 refine hK.out _ _ ⟨(blk_cell BK344.out 0).trans rfl, (blk_cell BK344.out 1).trans rfl, (blk_cell BK344.out 2).trans rfl⟩ (fun hHeld => ?_)
 clear hK K
 refine norm_ (a' := ?_) ?_ ?_
 rotate_left
 ·show Act.put _ (some 14) _ = _
  simp only [Act.put, sA_, sB_, sC_, i64_w, i32_w]
  rfl
 refine pI_ 12 (some 15) (Ra_ [13, 1]) (h := ?_)
 refine pI_ 13 (some 2) (Ra_ [14]) (h := ?_)
 refine done_ (done_of HT_.out (by kernel_rfl)) ?_
 try go_wp2
 go_ret
 exact ⟨by first | rfl | (simp [errW_none, errW_some] <;> rfl) | (simp [*, errW_none, errW_some] <;> rfl), by repeat (first | (with_reducible first | exact HB.out | apply below_alloc | apply pw_below_drewN | apply below_drew1 | refine below_set ?_ GE344.out) | exact HB.out)⟩

/-! ### strongroomref12_Encode: function 29 -/
def strongroomref12_Encode.l0 : Nat → ByteArray → Int → Int → Int → List (S35) → ByteArray → Option (ByteArray)
 | 0, _, _, _, _, _, _ => none
 | k + 1, x3, x4, x349000, x349001, x349002, x349003 => if x4 < (x349002.length : Int) then (if 0 ≤ x4 then ((strongroomref12_Bytes.f k ((rd_T35 x349002 x4).f0) ((rd_T35 x349002 x4).f1) ((rd_T35 x349002 x4).f2)).bind fun t352 => (if x3.size + t352.size ≤ 9223372036854775807 then (strongroomref12_Encode.l0 k (x3 ++ t352) (wrap64 (x4 + 1)) x349000 x349001 x349002 x349003) else (none))) else (none)) else ((strongroomref01_Text.f k x349003).bind fun t353 => (if x3.size + t353.size ≤ 9223372036854775807 then (some (x3 ++ t353)) else (none)))
def strongroomref12_Encode.f (k : Nat) (a0_0 : Int) (a0_1 : Int) (l0_2 : List (S35)) (a0_3 : ByteArray) : Option (ByteArray) := (strongroomref12_head.f k a0_0 a0_1).bind fun t349 => ((strongroomref01_Put.f k (IntKind.u64.wrap ((l0_2.length : Int)))).bind fun t350 => (if t349.size + t350.size ≤ 9223372036854775807 then (strongroomref12_Encode.l0 k (t349 ++ t350) 0 a0_0 a0_1 l0_2 a0_3) else (none)))
theorem strongroomref12_Encode.mono_l : ∀ k, (∀ y0 y1 y2 y3 y4 y5, LeO (strongroomref12_Encode.l0 k y0 y1 y2 y3 y4 y5) (strongroomref12_Encode.l0 (k + 1) y0 y1 y2 y3 y4 y5))
 | 0 => fun _ _ _ _ _ _ r h => by simp [strongroomref12_Encode.l0] at h
 | k + 1 => by
  have ih0 := strongroomref12_Encode.mono_l k
  ·intro y0 y1 y2 y3 y4 y5
   unfold strongroomref12_Encode.l0
   repeat' first
   | (with_reducible exact ih0 _ _ _ _ _ _)
   | (with_reducible exact strongroomref01_Put.mono _ _)
   | (with_reducible exact strongroomref01_Text.mono _ _)
   | (with_reducible exact strongroomref12_Bytes.mono _ _ _ _)
   | (with_reducible exact strongroomref12_head.mono _ _ _)
   | (with_reducible exact LeO.refl _)
   | (with_reducible exact LeO.none _)
   | (with_reducible refine LeO.ite ?_ ?_)
   | (with_reducible refine LeO.bind ?_ (fun _ => ?_))
   | exact ih0 _ _ _ _ _ _
   | exact strongroomref01_Put.mono _ _
   | exact strongroomref01_Text.mono _ _
   | exact strongroomref12_Bytes.mono _ _ _ _
   | exact strongroomref12_head.mono _ _ _
   | exact LeO.none _
   | refine LeO.ite ?_ ?_
   | refine LeO.bind ?_ (fun _ => ?_)
theorem strongroomref12_Encode.mono : ∀ a0 a1 a2 a3 k, LeO (strongroomref12_Encode.f k a0 a1 a2 a3) (strongroomref12_Encode.f (k + 1) a0 a1 a2 a3) := by
 intro a0 a1 a2 a3 k
 have ih0 := strongroomref12_Encode.mono_l k
 unfold strongroomref12_Encode.f
 repeat' first
   | (with_reducible exact ih0 _ _ _ _ _ _)
   | (with_reducible exact strongroomref01_Put.mono _ _)
   | (with_reducible exact strongroomref01_Text.mono _ _)
   | (with_reducible exact strongroomref12_Bytes.mono _ _ _ _)
   | (with_reducible exact strongroomref12_head.mono _ _ _)
   | (with_reducible exact LeO.refl _)
   | (with_reducible exact LeO.none _)
   | (with_reducible refine LeO.ite ?_ ?_)
   | (with_reducible refine LeO.bind ?_ (fun _ => ?_))
   | exact ih0 _ _ _ _ _ _
   | exact strongroomref01_Put.mono _ _
   | exact strongroomref01_Text.mono _ _
   | exact strongroomref12_Bytes.mono _ _ _ _
   | exact strongroomref12_head.mono _ _ _
   | exact LeO.none _
   | refine LeO.ite ?_ ?_
   | refine LeO.bind ?_ (fun _ => ?_)
def strongroomref12_Encode.T1 : Bool × List (List Nat × List Nat) := (true, [([], []), ([0], [0]), ([], []), ([2], [2]), ([1, 3], [1, 3]), ([], []), ([5], [5]), ([6], [6]), ([7], [7]), ([8, 4], [8]), ([4, 9], [4, 9]), ([10, 9, 0, 1, 2, 3, 4, 5, 6, 7, 8, 9, 10], [10])])
def strongroomref12_Encode.B1 : List Nat := [0, 1, 0, 4, 15, 0, 32, 96, 224, 511, 1023, 2047]
theorem strongroomref12_Encode.tab1 : rtab .any (opsOf Tryd.f29 1) = strongroomref12_Encode.T1 := by kernel_rfl
theorem strongroomref12_Encode.bits1 : waitsOk strongroomref12_Encode.T1.2 strongroomref12_Encode.B1 = true := by kernel_rfl
set_option maxHeartbeats 8000000 in
set_option maxRecDepth 100000 in
theorem strongroomref12_Encode.calls (k : Nat) (a0_0 : Int) (a0_1 : Int) (A0_2 : Option Addr) (c0_2 : Nat) (l0_2 : List (S35)) (a0_3 : ByteArray) (r : ByteArray) (w : World) (hr0_2 : Kd.C k35 w A0_2 l0_2.length l0_2) (hc0_2 : l0_2.length ≤ c0_2) (h : strongroomref12_Encode.f k a0_0 a0_1 l0_2 a0_3 = some r) :
  Calls Tryd.prog 29 #[.agg #[.int .i64 a0_0, .int .i64 a0_1, .slice A0_2 l0_2.length c0_2, .string a0_3]] w fun e w' => e = .returned (.string r) ∧ Below w.heap.size w w' := by
 have hu25 := Tryd.underlying25
 have hu35 := Tryd.underlying35
 have HR0_2 := Aside0.mk hr0_2
 have HC0_2 := Aside0.mk hc0_2
 clear hr0_2 hc0_2
 have HB := Aside0.mk (Below.refl w.heap.size w)
 have H : ((strongroomref12_head.f k a0_0 a0_1).bind fun t349 => ((strongroomref01_Put.f k (IntKind.u64.wrap ((l0_2.length : Int)))).bind fun t350 => (if t349.size + t350.size ≤ 9223372036854775807 then (strongroomref12_Encode.l0 k (t349 ++ t350) 0 a0_0 a0_1 l0_2 a0_3) else (none)))) = some r := h
 clear h
 replace H := Option.bind_eq_some_iff.mp H
 obtain ⟨t349, A20, H⟩ := H
 replace H : ((strongroomref01_Put.f k (IntKind.u64.wrap ((l0_2.length : Int)))).bind fun t350 => (if t349.size + t350.size ≤ 9223372036854775807 then (strongroomref12_Encode.l0 k (t349 ++ t350) 0 a0_0 a0_1 l0_2 a0_3) else (none))) = some r := H
 have A2 := Aside0.mk A20
 clear A20
 replace H := Option.bind_eq_some_iff.mp H
 obtain ⟨t350, A30, H⟩ := H
 replace H : (if t349.size + t350.size ≤ 9223372036854775807 then (strongroomref12_Encode.l0 k (t349 ++ t350) 0 a0_0 a0_1 l0_2 a0_3) else (none)) = some r := H
 have A3 := Aside0.mk A30
 clear A30
 by_cases c4 : t349.size + t350.size ≤ 9223372036854775807
 case neg =>
  rw [if_neg c4] at H
  exact absurd H (by simp)
 rw [if_pos c4] at H
 have c4b0 := eq_true c4
 have c4b1 : decide (t349.size + t350.size ≤ 9223372036854775807) = true := decide_eq_true c4
 try have c4b2 : (9223372036854775807 < t349.size + t350.size) = False := eq_false (Nat.not_lt.2 c4)
 have H' := Aside0.mk H
 clear H
 go_enter Tryd.func29, Tryd.ntmps29
 try go_wp2_with (first | ((with_reducible refine gate_dst (N := 1) rfl ?_); refine box_event ?hg (N := 1) ?hd (cs := #[.int .i64 a0_0, .int .i64 a0_1, .slice A0_2 l0_2.length c0_2, .string a0_3]) (t := 25) ?hr ?_; (case hd => rfl); (case hg => rfl); (case hr => first | (go_simp; done) | (go_simp; rfl)); intro gb348 hg w5 hbox hb; have n0_ := Aside0.mk (below_step m31_ hb); have n1_ := Aside0.mk (hbox); have n2_ := Aside0.mk ((by rw [hg]; exact (below_size m31_) : w.heap.size ≤ gb348)); have n3_ := Aside0.mk ((by rw [hg]; exact (below_size m31_) : w.heap.size ≤ gb348)); clear HB; have HB := n0_; have BK348 := n1_; have GW348 := n2_; have GE348 := n3_; clear n0_ n1_ n2_ n3_; clear hb hbox hg))
 replace BK348 := Aside0.mk (blk_drew BK348.out)
 replace HB := Aside0.mk (below_drew1 HB.out)
 refine start_ (n := 12) (S := fun w' => w'.cell? ⟨gb348, 0, none⟩ = some (.int .i64 a0_0) ∧ w'.cell? ⟨gb348, 1, none⟩ = some (.int .i64 a0_1) ∧ w'.cell? ⟨gb348, 2, none⟩ = some (.slice A0_2 l0_2.length c0_2) ∧ w'.cell? ⟨gb348, 3, none⟩ = some (.string a0_3)) (ds := []) (Ra_ [0, 12]) (by kernel_rfl) rfl rfl ⟨(blk_cell BK348.out 0).trans rfl, (blk_cell BK348.out 1).trans rfl, (blk_cell BK348.out 2).trans rfl, (blk_cell BK348.out 3).trans rfl⟩ (fun hHeld => ?_); refine with_tabW strongroomref12_Encode.tab1 strongroomref12_Encode.bits1 (fun HT_ HW_ => ?_)
 generalize w5.drew = w6 at BK348 HB hHeld ⊢
 refine pI_ 0 (some 5) (Ra_ [1, 11]) (h := ?_)
 refine pI_ 2 (some 7) (Ra_ [1, 1, 1, 9]) (h := ?_)
 refine pI_ 5 (some 10) (Ra_ [1, 1, 1, 2, 1, 6]) (h := ?_)
 refine tI4_ 1 (some 6) (Ra_ [3, 2, 1, 6]) (h := ?_)
 refine tI4_ 3 (some 8) (Ra_ [4, 1, 1, 6]) (h := ?_)
 refine tI4_ 6 (some 11) (Ra_ [4, 1, 2, 5]) (h := ?_)
 refine pI_ 7 (some 12) (Ra_ [4, 1, 3, 4]) (h := ?_)
 refine pI_ 8 (some 13) (Ra_ [4, 1, 4, 3]) (h := ?_)
 refine one_ (i := 4) (N := some 9) (Ra_ [9, 3]) rfl rfl (one_of HT_.out (by kernel_rfl)) (by decide) (fun K hK => ?_)
 refine goes_ Tryd.func33 (by kernel_rfl) rfl #[.int .i64 a0_0, .int .i64 a0_1] (by rfl) rfl rfl m30_ ?_
 with_reducible refine (strongroomref12_head.calls k a0_0 a0_1 t349 _ A2.out).mono ?_
 rintro e w7 ⟨rfl, hb⟩
 refine ⟨_, rfl, ?_⟩
 have n0_ := Aside0.mk (blk_below (g := gb348) (o := .cells #[.int .i64 a0_0, .int .i64 a0_1, .slice A0_2 l0_2.length c0_2, .string a0_3] 25 (0, 0)) (bD_ BK348.out) hb)
 have n1_ := Aside0.mk (below_step m28_ hb)
 clear BK348 HB
 have BK348 := n0_
 have HB := n1_
 clear n0_ n1_
 (try clear hb)
 (try clear hb2)
 (try clear hk)
 (try clear hi)
 refine hK.out _ _ ⟨(blk_cell BK348.out 0).trans rfl, (blk_cell BK348.out 1).trans rfl, (blk_cell BK348.out 2).trans rfl, (blk_cell BK348.out 3).trans rfl⟩ (fun hHeld => ?_)
 clear hK K
 refine norm_ (a' := ?_) ?_ ?_
 rotate_left
 ·show Act.put _ (some 9) _ = _
  simp only [Act.put, sA_, sB_, sC_, i64_w, i32_w]
  rfl
 refine one_ (i := 9) (N := some 14) (Ra_ [10, 2]) rfl rfl (one_of HT_.out (by kernel_rfl)) (by decide) (fun K hK => ?_)
 refine goes_ Tryd.func53 (by kernel_rfl) rfl #[.int .u64 (IntKind.u64.wrap ((l0_2.length : Int)))] (by rfl) rfl rfl m30_ ?_
 with_reducible refine (strongroomref01_Put.calls k (IntKind.u64.wrap ((l0_2.length : Int))) t350 _ A3.out).mono ?_
 rintro e w8 ⟨rfl, hb⟩
 refine ⟨_, rfl, ?_⟩
 have n0_ := Aside0.mk (blk_below (g := gb348) (o := .cells #[.int .i64 a0_0, .int .i64 a0_1, .slice A0_2 l0_2.length c0_2, .string a0_3] 25 (0, 0)) (bD_ BK348.out) hb)
 have n1_ := Aside0.mk (below_step m28_ hb)
 clear BK348 HB
 have BK348 := n0_
 have HB := n1_
 clear n0_ n1_
 (try clear hb)
 (try clear hb2)
 (try clear hk)
 (try clear hi)
 refine hK.out _ _ ⟨(blk_cell BK348.out 0).trans rfl, (blk_cell BK348.out 1).trans rfl, (blk_cell BK348.out 2).trans rfl, (blk_cell BK348.out 3).trans rfl⟩ (fun hHeld => ?_)
 clear hK K
 refine norm_ (a' := ?_) ?_ ?_
 rotate_left
 ·show Act.put _ (some 14) _ = _
  simp only [Act.put, sA_, sB_, sC_, i64_w, i32_w]
  rfl
 refine pI_ 10 (some 15) (Ra_ [11, 1]) (h := ?_)
 refine pI_ 11 (some 3) (Ra_ [12]) (h := ?_)
 refine done_ (done_of HT_.out (by kernel_rfl)) ?_
 try go_wp2
 go_loopg [3, 4] k (fun kq v3 v4 w' => ∃ (x3_1 : ByteArray) (x4_1 : Int), v3 = .string x3_1 ∧ v4 = .int .i64 x4_1 ∧ Aside0 (strongroomref12_Encode.l0 kq x3_1 x4_1 a0_0 a0_1 l0_2 a0_3 = some r) ∧ Aside0 (kq ≤ k) ∧ Aside0 (w'.heap[gb348]? = some (.cells #[.int .i64 a0_0, .int .i64 a0_1, (.slice A0_2 l0_2.length c0_2), .string a0_3] 25 (0, 0))) ∧ Aside0 (Below w.heap.size w w'))
 case atStart => exact ⟨(t349 ++ t350), (0), m55_, m55_, H', ⟨Nat.le_refl _⟩, ⟨by refine bD_ ?_; exact BK348.out⟩, ⟨m77_⟩⟩
 clear H'
 try clear c4; try clear c4b0; try clear c4b1; try clear c4b2
 obtain ⟨x3_1, x4_1, rfl, rfl, HA, HK1, BK348, HB⟩ := hrel
 cases gk with
 | zero => exact absurd HA.out (by simp [strongroomref12_Encode.l0])
 | succ k1 =>
  have H := HA.out
  clear HA
  simp only [strongroomref12_Encode.l0] at H
  by_cases c9 : x4_1 < (l0_2.length : Int)
  case neg =>
   rw [if_neg c9] at H
   have c9b0 : decide (x4_1 < (l0_2.length : Int)) = false := decide_eq_false c9
   clear c9
   replace H := Option.bind_eq_some_iff.mp H
   obtain ⟨t353, A150, H⟩ := H
   replace H : (if x3_1.size + t353.size ≤ 9223372036854775807 then (some (x3_1 ++ t353)) else (none)) = some r := H
   have A15 := Aside0.mk A150
   clear A150
   by_cases c16 : x3_1.size + t353.size ≤ 9223372036854775807
   case neg =>
    rw [if_neg c16] at H
    exact absurd H (by simp)
   rw [if_pos c16] at H
   have c16b0 := eq_true c16
   have c16b1 : decide (x3_1.size + t353.size ≤ 9223372036854775807) = true := decide_eq_true c16
   try have c16b2 : (9223372036854775807 < x3_1.size + t353.size) = False := eq_false (Nat.not_lt.2 c16)
   obtain rfl := Option.some.inj H
   obtain ⟨hcz17_0, hcz17_1, hcz17_2, hcz17_3⟩ := bc4_ BK348.out
   obtain ⟨hfz17_0, hfz17_1, hfz17_2, hfz17_3⟩ := bf4_ BK348.out
   go_wp2_with (first | ((with_reducible refine gate_callee (f := 54) rfl ?_); refine goesL_ (some 34) rfl rfl Tryd.func54 (by kernel_rfl) rfl #[.string a0_3] rfl m30_ ?_; (with_reducible refine (strongroomref01_Text.calls k1 a0_3 t353 _ A15.out).mono ?_); rintro e w18 ⟨rfl, hb⟩; refine ⟨_, rfl, ?_⟩; have n0_ := Aside0.mk (blk_below (g := gb348) (o := .cells #[.int .i64 a0_0, .int .i64 a0_1, .slice A0_2 l0_2.length c0_2, .string a0_3] 25 (0, 0)) (bD_ BK348.out) hb); have n1_ := Aside0.mk (below_step m28_ hb); clear BK348; clear HB; have BK348 := n0_; have HB := n1_; clear n0_ n1_; (try clear hb); (try clear hb2); (try clear hk); (try clear hi)))
   go_ret
   exact ⟨by first | rfl | (simp [errW_none, errW_some] <;> rfl) | (simp [*, errW_none, errW_some] <;> rfl), m77_⟩
  rw [if_pos c9] at H
  have c9b0 : decide (x4_1 < (l0_2.length : Int)) = true := decide_eq_true c9
  clear c9
  by_cases c10 : 0 ≤ x4_1
  case neg =>
   rw [if_neg c10] at H
   exact absurd H (by simp)
  rw [if_pos c10] at H
  have c10b0 : decide (0 ≤ x4_1) = true := decide_eq_true c10
  clear c10
  replace H := Option.bind_eq_some_iff.mp H
  obtain ⟨t352, A110, H⟩ := H
  replace H : (if x3_1.size + t352.size ≤ 9223372036854775807 then (strongroomref12_Encode.l0 k1 (x3_1 ++ t352) (wrap64 (x4_1 + 1)) a0_0 a0_1 l0_2 a0_3) else (none)) = some r := H
  have A11 := Aside0.mk A110
  clear A110
  by_cases c12 : x3_1.size + t352.size ≤ 9223372036854775807
  case neg =>
   rw [if_neg c12] at H
   exact absurd H (by simp)
  rw [if_pos c12] at H
  have c12b0 := eq_true c12
  have c12b1 : decide (x3_1.size + t352.size ≤ 9223372036854775807) = true := decide_eq_true c12
  try have c12b2 : (9223372036854775807 < x3_1.size + t352.size) = False := eq_false (Nat.not_lt.2 c12)
  have H' := Aside0.mk H
  clear H
  obtain ⟨hcz13_0, hcz13_1, hcz13_2, hcz13_3⟩ := bc4_ BK348.out
  obtain ⟨hfz13_0, hfz13_1, hfz13_2, hfz13_3⟩ := bf4_ BK348.out
  have p351 : 0 ≤ (x4_1 : Int) := of_decide_eq_true m54_
  have q351 : x4_1 < (l0_2.length : Int) := of_decide_eq_true m54_
  obtain ⟨ad351, e351, hx351_0, hx351_1, hx351_2⟩ := at_T35 HR0_2.out x4_1 p351 q351
  cases e351
  replace hx351_0 := (HB.out.cell (World.block_lt_of_cell? w _ hx351_0)).trans hx351_0
  replace hx351_1 := (HB.out.cell (World.block_lt_of_cell? w _ hx351_1)).trans hx351_1
  replace hx351_2 := (HB.out.cell (World.block_lt_of_cell? w _ hx351_2)).trans hx351_2
  replace p351 := eq_true p351
  replace q351 := eq_true q351
  go_wp2_with (first | ((with_reducible refine gate_callee (f := 34) rfl ?_); refine goesL_ (some 29) rfl rfl Tryd.func34 (by kernel_rfl) rfl #[.agg #[.string ((rd_T35 l0_2 x4_1).f0), .int .i64 ((rd_T35 l0_2 x4_1).f1), .int .i64 ((rd_T35 l0_2 x4_1).f2)]] rfl m30_ ?_; (with_reducible refine (strongroomref12_Bytes.calls k1 ((rd_T35 l0_2 x4_1).f0) ((rd_T35 l0_2 x4_1).f1) ((rd_T35 l0_2 x4_1).f2) t352 _ A11.out).mono ?_); rintro e w14 ⟨rfl, hb⟩; refine ⟨_, rfl, ?_⟩; have n0_ := Aside0.mk (blk_below (g := gb348) (o := .cells #[.int .i64 a0_0, .int .i64 a0_1, .slice (some ad351) l0_2.length c0_2, .string a0_3] 25 (0, 0)) (bD_ BK348.out) hb); have n1_ := Aside0.mk (below_step m28_ hb); clear BK348; clear HB; have BK348 := n0_; have HB := n1_; clear n0_ n1_; (try clear hb); (try clear hb2); (try clear hk); (try clear hi)))
  go_roundg k1
  case measure => have := HK1.out; omega
  case rel => exact ⟨(x3_1 ++ t352), (wrap64 (x4_1 + 1)), m55_, m55_, H', ⟨by have := HK1.out; omega⟩, ⟨by refine bD_ ?_; exact BK348.out⟩, ⟨m77_⟩⟩

end Go.Proofs.YtedmkffepmcpaaaDoorH.HCapCodes
