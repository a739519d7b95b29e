-- PRINTED by print.py (a twelfth state) out of the translation. Not trusted: Lean checks it.
import Derived.Test.YtoankokkdmbjmaaDoorHFrameRepliesx0
namespace Go.Proofs.YtoankokkdmbjmaaDoorH.HFrameReplies
open Go.RowKit Go.Proofs.YtoankokkdmbjmaaDoorW.PrintWords Go.Proofs.YtoankokkdmbjmaaDoorW.PrintLast Go.Proofs.YtoankokkdmbjmaaDoorW.PrintMore
attribute [local go_sem] max2_int min2_int max_two min_two max_three min_three max_four min_four   -- for this text's walks alone
set_option linter.unusedVariables false
set_option linter.unusedSimpArgs false

/-! ### strongroomref13_Good: function 35 -/
def strongroomref13_Good.j0 : Nat → Bool → Int → Int → Int → ByteArray → Int → Option (Bool)
  | 0, _, _, _, _, _, _ => none
  | k + 1, x20, x274000, x274001, x274002, x274003, x274004 => if x20 = true then (some false) else (if x274002 ≥ 0 then (if x274002 ≤ 100 then (if (x274003.size : Int) ≤ 32 then (if x274004 ≥ 0 then (some (decide (x274004 ≤ 100))) else (some false)) else (some false)) else (some false)) else (some false))
def strongroomref13_Good.f (k : Nat) (a0_0 : Int) (a0_1 : Int) (a0_2 : Int) (a0_3 : ByteArray) (a0_4 : Int) : Option (Bool) := if a0_0 < 1 then (strongroomref13_Good.j0 k true a0_0 a0_1 a0_2 a0_3 a0_4) else (if a0_0 > 2147483648 then (strongroomref13_Good.j0 k true a0_0 a0_1 a0_2 a0_3 a0_4) else (if a0_1 < 0 then (strongroomref13_Good.j0 k true a0_0 a0_1 a0_2 a0_3 a0_4) else (strongroomref13_Good.j0 k (decide (a0_1 > 1099511627776)) a0_0 a0_1 a0_2 a0_3 a0_4)))
theorem strongroomref13_Good.mono_l : ∀ k, (∀ y0 y1 y2 y3 y4 y5, LeO (strongroomref13_Good.j0 k y0 y1 y2 y3 y4 y5) (strongroomref13_Good.j0 (k + 1) y0 y1 y2 y3 y4 y5))
  | 0 => fun _ _ _ _ _ _ r h => by simp [strongroomref13_Good.j0] at h
  | k + 1 => by
    have ih0 := strongroomref13_Good.mono_l k
    · intro y0 y1 y2 y3 y4 y5
      unfold strongroomref13_Good.j0
      repeat' first
      | (with_reducible exact ih0 _ _ _ _ _ _)
      | (with_reducible exact LeO.refl _)
      | (with_reducible exact LeO.none _)
      | (with_reducible refine LeO.ite ?_ ?_)
      | (with_reducible refine LeO.bind ?_ (fun _ => ?_))
      | exact ih0 _ _ _ _ _ _
      | exact LeO.none _
      | refine LeO.ite ?_ ?_
      | refine LeO.bind ?_ (fun _ => ?_)
theorem strongroomref13_Good.mono : ∀ a0 a1 a2 a3 a4 k, LeO (strongroomref13_Good.f k a0 a1 a2 a3 a4) (strongroomref13_Good.f (k + 1) a0 a1 a2 a3 a4) := by
  intro a0 a1 a2 a3 a4 k
  have ih0 := strongroomref13_Good.mono_l k
  unfold strongroomref13_Good.f
  repeat' first
      | (with_reducible exact ih0 _ _ _ _ _ _)
      | (with_reducible exact LeO.refl _)
      | (with_reducible exact LeO.none _)
      | (with_reducible refine LeO.ite ?_ ?_)
      | (with_reducible refine LeO.bind ?_ (fun _ => ?_))
      | exact ih0 _ _ _ _ _ _
      | exact LeO.none _
      | refine LeO.ite ?_ ?_
      | refine LeO.bind ?_ (fun _ => ?_)
set_option maxHeartbeats 8000000 in
set_option maxRecDepth 100000 in
theorem strongroomref13_Good.calls (k : Nat) (a0_0 : Int) (a0_1 : Int) (a0_2 : Int) (a0_3 : ByteArray) (a0_4 : Int) (r : Bool) (w : World) (h : strongroomref13_Good.f k a0_0 a0_1 a0_2 a0_3 a0_4 = some r) :
    Calls Tryd.prog 35 #[.agg #[.int .i64 a0_0, .int .i64 a0_1, .int .i64 a0_2, .string a0_3, .int .i64 a0_4]] w fun e w' => e = .returned (.bool r) ∧ Below w.heap.size w w' := by
  have hu67 := Tryd.underlying67
  have HB := Aside0.mk (Below.refl w.heap.size w)
  have H : (if a0_0 < 1 then (strongroomref13_Good.j0 k true a0_0 a0_1 a0_2 a0_3 a0_4) else (if a0_0 > 2147483648 then (strongroomref13_Good.j0 k true a0_0 a0_1 a0_2 a0_3 a0_4) else (if a0_1 < 0 then (strongroomref13_Good.j0 k true a0_0 a0_1 a0_2 a0_3 a0_4) else (strongroomref13_Good.j0 k (decide (a0_1 > 1099511627776)) a0_0 a0_1 a0_2 a0_3 a0_4)))) = some r := h
  clear h
  have HC2 := Aside0.mk H
  clear H
  go_enter Tryd.func35, Tryd.ntmps35
  go_upto_region 1 with (first | ((with_reducible refine gate_dst (N := 1) rfl ?_); (try (refine gate_guard (by rfl) ?_; dsimp only)); refine box_event ?hg (N := 1) ?hd (cs := #[.int .i64 a0_0, .int .i64 a0_1, .int .i64 a0_2, .string a0_3, .int .i64 a0_4]) (t := 67) ?hr ?_; (case hd => rfl); (case hg => rfl); (case hr => first | (go_simp; done) | (go_simp; rfl)); intro gb273 hg w3 hbox hb; have BK273 := Aside0.mk (hbox); have GW273 := Aside0.mk ((by rw [hg]; exact (below_size m15_) : w.heap.size ≤ gb273)); have GE273 := Aside0.mk ((by rw [hg]; exact (below_size m15_) : w.heap.size ≤ gb273)); replace HB := Aside0.mk (below_step m15_ hb); clear hb hbox hg))
  (try simp only [Act.put, List.setIfInBounds_toArray, List.set_cons_zero, List.set_cons_succ])
  go_cut [20] (fun v20 wc => ∃ (kq : Nat) (x20_1 : Bool), v20 = .bool x20_1 ∧ Aside0 (strongroomref13_Good.j0 kq x20_1 a0_0 a0_1 a0_2 a0_3 a0_4 = some r) ∧ Aside0 (kq ≤ k) ∧ Aside0 (wc.heap[gb273]? = some (.cells #[.int .i64 a0_0, .int .i64 a0_1, .int .i64 a0_2, .string a0_3, .int .i64 a0_4] 67 (0, 0))) ∧ Aside0 (Below w.heap.size w wc))
  case first =>
   have H := HC2.out
   clear HC2
   by_cases c4 : a0_0 < 1
   ·rw [if_pos c4] at H
    have c4b0 : decide (a0_0 < 1) = true := decide_eq_true c4
    clear c4
    (first | rw [c4b0] | (simp only [i64_w, i32_w]; rw [c4b0]) | skip)
    have H' := Aside0.mk H
    clear H
    obtain ⟨hcz5_0, hcz5_1, hcz5_2, hcz5_3, hcz5_4⟩ := bc5_ BK273.out
    obtain ⟨hfz5_0, hfz5_1, hfz5_2, hfz5_3, hfz5_4⟩ := bf5_ BK273.out
    go_wp2
    go_meet
    case rel => exact ⟨_, (true), m39_, H', ⟨by first | omega | exact Nat.le_refl _⟩, ⟨by refine bD_ ?_; exact BK273.out⟩, ⟨m59_⟩⟩
   rw [if_neg c4] at H
   have c4b0 : decide (a0_0 < 1) = false := decide_eq_false c4
   clear c4
   (first | rw [c4b0] | (simp only [i64_w, i32_w]; rw [c4b0]) | skip)
   by_cases c6 : a0_0 > 2147483648
   ·rw [if_pos c6] at H
    have c6b0 : decide (2147483648 < a0_0) = true := decide_eq_true c6
    clear c6
    have H' := Aside0.mk H
    clear H
    obtain ⟨hcz7_0, hcz7_1, hcz7_2, hcz7_3, hcz7_4⟩ := bc5_ BK273.out
    obtain ⟨hfz7_0, hfz7_1, hfz7_2, hfz7_3, hfz7_4⟩ := bf5_ BK273.out
    go_wp2
    go_meet
    case rel => exact ⟨_, (true), m39_, H', ⟨by first | omega | exact Nat.le_refl _⟩, ⟨by refine bD_ ?_; exact BK273.out⟩, ⟨m59_⟩⟩
   rw [if_neg c6] at H
   have c6b0 : decide (2147483648 < a0_0) = false := decide_eq_false c6
   clear c6
   by_cases c8 : a0_1 < 0
   ·rw [if_pos c8] at H
    have c8b0 : decide (a0_1 < 0) = true := decide_eq_true c8
    clear c8
    have H' := Aside0.mk H
    clear H
    obtain ⟨hcz9_0, hcz9_1, hcz9_2, hcz9_3, hcz9_4⟩ := bc5_ BK273.out
    obtain ⟨hfz9_0, hfz9_1, hfz9_2, hfz9_3, hfz9_4⟩ := bf5_ BK273.out
    go_wp2
    go_meet
    case rel => exact ⟨_, (true), m39_, H', ⟨by first | omega | exact Nat.le_refl _⟩, ⟨by refine bD_ ?_; exact BK273.out⟩, ⟨m59_⟩⟩
   rw [if_neg c8] at H
   have c8b0 : decide (a0_1 < 0) = false := decide_eq_false c8
   clear c8
   have H' := Aside0.mk H
   clear H
   obtain ⟨hcz10_0, hcz10_1, hcz10_2, hcz10_3, hcz10_4⟩ := bc5_ BK273.out
   obtain ⟨hfz10_0, hfz10_1, hfz10_2, hfz10_3, hfz10_4⟩ := bf5_ BK273.out
   go_wp2
   go_meet
   case rel => exact ⟨_, (decide (a0_1 > 1099511627776)), m39_, H', ⟨by first | omega | exact Nat.le_refl _⟩, ⟨by refine bD_ ?_; exact BK273.out⟩, ⟨m59_⟩⟩
  clear HC2
  obtain ⟨kq, x20_1, rfl, HA, HJ1, BK273, HB⟩ := hcut
  cases kq with
  | zero => exact absurd HA.out (by simp [strongroomref13_Good.j0])
  | succ kj1 =>
   have H := HA.out
   clear HA
   simp only [strongroomref13_Good.j0] at H
   by_cases c11 : x20_1 = true
   ·subst c11
    rw [if_pos rfl] at H
    obtain rfl := Option.some.inj H
    go_wp2
    go_ret
    exact ⟨by first | rfl | (simp [errW_none, errW_some] <;> rfl) | (simp [*, errW_none, errW_some] <;> rfl), m59_⟩
   replace c11 := Bool.eq_false_iff.mpr c11
   subst c11
   rw [if_neg Bool.false_ne_true] at H
   by_cases c12 : a0_2 ≥ 0
   case neg =>
    rw [if_neg c12] at H
    have c12b0 : decide (0 ≤ a0_2) = false := decide_eq_false c12
    clear c12
    obtain rfl := Option.some.inj H
    obtain ⟨hcz20_0, hcz20_1, hcz20_2, hcz20_3, hcz20_4⟩ := bc5_ BK273.out
    obtain ⟨hfz20_0, hfz20_1, hfz20_2, hfz20_3, hfz20_4⟩ := bf5_ BK273.out
    go_wp2
    go_ret
    exact ⟨by first | rfl | (simp [errW_none, errW_some] <;> rfl) | (simp [*, errW_none, errW_some] <;> rfl), m59_⟩
   rw [if_pos c12] at H
   have c12b0 : decide (0 ≤ a0_2) = true := decide_eq_true c12
   clear c12
   by_cases c13 : a0_2 ≤ 100
   case neg =>
    rw [if_neg c13] at H
    have c13b0 : decide (a0_2 ≤ 100) = false := decide_eq_false c13
    clear c13
    obtain rfl := Option.some.inj H
    obtain ⟨hcz19_0, hcz19_1, hcz19_2, hcz19_3, hcz19_4⟩ := bc5_ BK273.out
    obtain ⟨hfz19_0, hfz19_1, hfz19_2, hfz19_3, hfz19_4⟩ := bf5_ BK273.out
    go_wp2
    go_ret
    exact ⟨by first | rfl | (simp [errW_none, errW_some] <;> rfl) | (simp [*, errW_none, errW_some] <;> rfl), m59_⟩
   rw [if_pos c13] at H
   have c13b0 : decide (a0_2 ≤ 100) = true := decide_eq_true c13
   clear c13
   by_cases c14 : (a0_3.size : Int) ≤ 32
   case neg =>
    rw [if_neg c14] at H
    have c14b0 : decide ((a0_3.size : Int) ≤ 32) = false := decide_eq_false c14
    have c14b1 : decide (a0_3.size ≤ 32) = false := decide_eq_false (by omega)
    clear c14
    obtain rfl := Option.some.inj H
    obtain ⟨hcz18_0, hcz18_1, hcz18_2, hcz18_3, hcz18_4⟩ := bc5_ BK273.out
    obtain ⟨hfz18_0, hfz18_1, hfz18_2, hfz18_3, hfz18_4⟩ := bf5_ BK273.out
    go_wp2
    go_ret
    exact ⟨by first | rfl | (simp [errW_none, errW_some] <;> rfl) | (simp [*, errW_none, errW_some] <;> rfl), m59_⟩
   rw [if_pos c14] at H
   have c14b0 : decide ((a0_3.size : Int) ≤ 32) = true := decide_eq_true c14
   have c14b1 : decide (a0_3.size ≤ 32) = true := decide_eq_true (by omega)
   clear c14
   by_cases c15 : a0_4 ≥ 0
   ·rw [if_pos c15] at H
    have c15b0 : decide (0 ≤ a0_4) = true := decide_eq_true c15
    clear c15
    obtain rfl := Option.some.inj H
    obtain ⟨hcz16_0, hcz16_1, hcz16_2, hcz16_3, hcz16_4⟩ := bc5_ BK273.out
    obtain ⟨hfz16_0, hfz16_1, hfz16_2, hfz16_3, hfz16_4⟩ := bf5_ BK273.out
    go_wp2
    go_ret
    exact ⟨by first | rfl | (simp [errW_none, errW_some] <;> rfl) | (simp [*, errW_none, errW_some] <;> rfl), m59_⟩
   rw [if_neg c15] at H
   have c15b0 : decide (0 ≤ a0_4) = false := decide_eq_false c15
   clear c15
   obtain rfl := Option.some.inj H
   obtain ⟨hcz17_0, hcz17_1, hcz17_2, hcz17_3, hcz17_4⟩ := bc5_ BK273.out
   obtain ⟨hfz17_0, hfz17_1, hfz17_2, hfz17_3, hfz17_4⟩ := bf5_ BK273.out
   go_wp2
   go_ret
   exact ⟨by first | rfl | (simp [errW_none, errW_some] <;> rfl) | (simp [*, errW_none, errW_some] <;> rfl), m59_⟩

end Go.Proofs.YtoankokkdmbjmaaDoorH.HFrameReplies
