-- PRINTED by print.py (a twelfth state) out of the translation. Not trusted: Lean checks it.
import Derived.Test.YtdeggemomajhcaaDoorHMerkleAppliesx0
namespace Go.Proofs.YtdeggemomajhcaaDoorH.HMerkleApplies
open Go.RowKit Go.Proofs.YtdeggemomajhcaaDoorW.PrintWords Go.Proofs.YtdeggemomajhcaaDoorW.PrintLast Go.Proofs.YtdeggemomajhcaaDoorW.PrintMore
attribute [local go_sem] max2_int min2_int max_two min_two max_three min_three max_four min_four   -- for this text's walks alone
set_option linter.unusedVariables false
set_option linter.unusedSimpArgs false

/-! ### strongroomlaw20_small: function 11 -/
def strongroomlaw20_small.l0 : Nat → List (S39) → Int → Option (Bool)
 | 0, _, _ => none
 | k + 1, x0, x3 => if x3 < (x0.length : Int) then (if 0 ≤ x3 then (if (((rd_T39 x0 x3).f0).size : Int) > 200 then (some false) else (if (((rd_T39 x0 x3).f1).size : Int) > 200 then (some false) else (strongroomlaw20_small.l0 k x0 (wrap64 (x3 + 1))))) else (none)) else (some true)
def strongroomlaw20_small.f (k : Nat) (l0 : List (S39)) : Option (Bool) := if (l0.length : Int) > 60 then (some false) else (strongroomlaw20_small.l0 k l0 0)
theorem strongroomlaw20_small.mono_l : ∀ k, (∀ y0 y1, LeO (strongroomlaw20_small.l0 k y0 y1) (strongroomlaw20_small.l0 (k + 1) y0 y1))
 | 0 => fun _ _ r h => by simp [strongroomlaw20_small.l0] at h
 | k + 1 => by
  have ih0 := strongroomlaw20_small.mono_l k
  ·intro y0 y1
   unfold strongroomlaw20_small.l0
   repeat' first
   | (with_reducible exact ih0 _ _)
   | (with_reducible exact LeO.refl _)
   | (with_reducible exact LeO.none _)
   | (with_reducible refine LeO.ite ?_ ?_)
   | (with_reducible refine LeO.bind ?_ (fun _ => ?_))
   | exact ih0 _ _
   | exact LeO.none _
   | refine LeO.ite ?_ ?_
   | refine LeO.bind ?_ (fun _ => ?_)
theorem strongroomlaw20_small.mono : ∀ a0 k, LeO (strongroomlaw20_small.f k a0) (strongroomlaw20_small.f (k + 1) a0) := by
 intro a0 k
 have ih0 := strongroomlaw20_small.mono_l k
 unfold strongroomlaw20_small.f
 repeat' first
   | (with_reducible exact ih0 _ _)
   | (with_reducible exact LeO.refl _)
   | (with_reducible exact LeO.none _)
   | (with_reducible refine LeO.ite ?_ ?_)
   | (with_reducible refine LeO.bind ?_ (fun _ => ?_))
   | exact ih0 _ _
   | exact LeO.none _
   | refine LeO.ite ?_ ?_
   | refine LeO.bind ?_ (fun _ => ?_)
set_option maxHeartbeats 8000000 in
set_option maxRecDepth 100000 in
theorem strongroomlaw20_small.calls (k : Nat) (A0 : Option Addr) (c0 : Nat) (l0 : List (S39)) (r : Bool) (w : World) (hr0 : Kd.C k39 w A0 l0.length l0) (hc0 : l0.length ≤ c0) (h : strongroomlaw20_small.f k l0 = some r) :
  Calls Tryd.prog 11 #[.slice A0 l0.length c0] w fun e w' => e = .returned (.bool r) ∧ Drawn0 w w' := by
 have HR0 := Aside0.mk hr0
 have HC0 := Aside0.mk hc0
 clear hr0 hc0
 have H : (if (l0.length : Int) > 60 then (some false) else (strongroomlaw20_small.l0 k l0 0)) = some r := h
 clear h
 by_cases c2 : (l0.length : Int) > 60
 ·rw [if_pos c2] at H
  have c2b0 : decide (60 < (l0.length : Int)) = true := decide_eq_true c2
  have c2b1 : decide (60 < l0.length) = true := decide_eq_true (by omega)
  clear c2
  obtain rfl := Option.some.inj H
  go_enter Tryd.func11, Tryd.ntmps11
  go_wp2
  go_ret
  exact ⟨by first | rfl | (simp; done) | (simp [*]; done), m29_⟩
 rw [if_neg c2] at H
 have c2b0 : decide (60 < (l0.length : Int)) = false := decide_eq_false c2
 have c2b1 : decide (60 < l0.length) = false := decide_eq_false (by omega)
 clear c2
 have H' := Aside0.mk H
 clear H
 go_enter Tryd.func11, Tryd.ntmps11
 go_wp2
 go_loopg [3] k (fun kq v3 w' => ∃ (x3_1 : Int), v3 = .int .i64 x3_1 ∧ Aside0 (strongroomlaw20_small.l0 kq l0 x3_1 = some r) ∧ Aside0 (kq ≤ k) ∧ Drawn0 w w')
 case atStart => exact ⟨(0), m19_, H', ⟨Nat.le_refl _⟩, m29_⟩
 clear H'
 try clear c1; try clear c2; try clear c2b0; try clear c2b1; try clear p2
 obtain ⟨x3_1, rfl, HA, HK1, ⟨m1, rfl⟩⟩ := hrel
 cases gk with
 | zero => exact absurd HA.out (by simp [strongroomlaw20_small.l0])
 | succ k1 =>
  have H := HA.out
  clear HA
  simp only [strongroomlaw20_small.l0] at H
  by_cases c3 : x3_1 < (l0.length : Int)
  case neg =>
   rw [if_neg c3] at H
   have c3b0 : decide (x3_1 < (l0.length : Int)) = false := decide_eq_false c3
   clear c3
   obtain rfl := Option.some.inj H
   go_wp2
   go_ret
   exact ⟨by first | rfl | (simp; done) | (simp [*]; done), m29_⟩
  rw [if_pos c3] at H
  have c3b0 : decide (x3_1 < (l0.length : Int)) = true := decide_eq_true c3
  clear c3
  by_cases c4 : 0 ≤ x3_1
  case neg =>
   rw [if_neg c4] at H
   exact absurd H (by simp)
  rw [if_pos c4] at H
  have c4b0 : decide (0 ≤ x3_1) = true := decide_eq_true c4
  clear c4
  by_cases c5 : (((rd_T39 l0 x3_1).f0).size : Int) > 200
  ·rw [if_pos c5] at H
   have c5b0 : decide (200 < (((rd_T39 l0 x3_1).f0).size : Int)) = true := decide_eq_true c5
   have c5b1 : decide (200 < ((rd_T39 l0 x3_1).f0).size) = true := decide_eq_true (by omega)
   clear c5
   obtain rfl := Option.some.inj H
   have p101 : 0 ≤ (x3_1 : Int) := of_decide_eq_true m18_
   have q101 : x3_1 < (l0.length : Int) := of_decide_eq_true m18_
   obtain ⟨ad101, e101, hx101_0, hx101_1⟩ := at_T39 HR0.out x3_1 p101 q101
   cases e101
   replace p101 := eq_true p101
   replace q101 := eq_true q101
   go_wp2
   go_ret
   exact ⟨by first | rfl | (simp; done) | (simp [*]; done), m29_⟩
  rw [if_neg c5] at H
  have c5b0 : decide (200 < (((rd_T39 l0 x3_1).f0).size : Int)) = false := decide_eq_false c5
  have c5b1 : decide (200 < ((rd_T39 l0 x3_1).f0).size) = false := decide_eq_false (by omega)
  clear c5
  by_cases c6 : (((rd_T39 l0 x3_1).f1).size : Int) > 200
  ·rw [if_pos c6] at H
   have c6b0 : decide (200 < (((rd_T39 l0 x3_1).f1).size : Int)) = true := decide_eq_true c6
   have c6b1 : decide (200 < ((rd_T39 l0 x3_1).f1).size) = true := decide_eq_true (by omega)
   clear c6
   obtain rfl := Option.some.inj H
   have p101 : 0 ≤ (x3_1 : Int) := of_decide_eq_true m18_
   have q101 : x3_1 < (l0.length : Int) := of_decide_eq_true m18_
   obtain ⟨ad101, e101, hx101_0, hx101_1⟩ := at_T39 HR0.out x3_1 p101 q101
   cases e101
   replace p101 := eq_true p101
   replace q101 := eq_true q101
   have p102 : 0 ≤ (x3_1 : Int) := of_decide_eq_true m18_
   have q102 : x3_1 < (l0.length : Int) := of_decide_eq_true m18_
   obtain ⟨ad102, e102, hx102_0, hx102_1⟩ := at_T39 HR0.out x3_1 p102 q102
   obtain rfl : ad101 = ad102 := (by injection e102)
   replace p102 := eq_true p102
   replace q102 := eq_true q102
   go_wp2
   go_ret
   exact ⟨by first | rfl | (simp; done) | (simp [*]; done), m29_⟩
  rw [if_neg c6] at H
  have c6b0 : decide (200 < (((rd_T39 l0 x3_1).f1).size : Int)) = false := decide_eq_false c6
  have c6b1 : decide (200 < ((rd_T39 l0 x3_1).f1).size) = false := decide_eq_false (by omega)
  clear c6
  have H' := Aside0.mk H
  clear H
  have p101 : 0 ≤ (x3_1 : Int) := of_decide_eq_true m18_
  have q101 : x3_1 < (l0.length : Int) := of_decide_eq_true m18_
  obtain ⟨ad101, e101, hx101_0, hx101_1⟩ := at_T39 HR0.out x3_1 p101 q101
  cases e101
  replace p101 := eq_true p101
  replace q101 := eq_true q101
  have p102 : 0 ≤ (x3_1 : Int) := of_decide_eq_true m18_
  have q102 : x3_1 < (l0.length : Int) := of_decide_eq_true m18_
  obtain ⟨ad102, e102, hx102_0, hx102_1⟩ := at_T39 HR0.out x3_1 p102 q102
  obtain rfl : ad101 = ad102 := (by injection e102)
  replace p102 := eq_true p102
  replace q102 := eq_true q102
  go_wp2
  go_roundg k1
  case measure => have := HK1.out; omega
  case rel => exact ⟨(wrap64 (x3_1 + 1)), m19_, H', ⟨by have := HK1.out; omega⟩, m29_⟩

/-! ### path_Good: function 53 -/
def path_Good.f (a0 : ByteArray) : Option (Bool) := some (Go.Proofs.YtdeggemomajhcaaDoor.goodB a0)
theorem path_Good.calls (a0 : ByteArray) (r : Bool) (w : World) (h : path_Good.f a0 = some r) :
    Calls Tryd.prog 53 #[.string a0] w fun e w' => e = .returned (.bool r) ∧ Below w.heap.size w w' := by
  obtain rfl := Option.some.inj h
  exact Go.Proofs.YtdeggemomajhcaaDoor.good_any a0 w

/-! ### merkle_good: function 43 -/
def merkle_good.f (a0_0 : ByteArray) (a0_1 : ByteArray) : Option (Bool) := (path_Good.f a0_0).bind fun t104 => (if t104 = true then (some ((a0_1.size : Int) == 32)) else (some false))
set_option maxHeartbeats 8000000 in
set_option maxRecDepth 100000 in
theorem merkle_good.calls (a0_0 : ByteArray) (a0_1 : ByteArray) (r : Bool) (w : World) (h : merkle_good.f a0_0 a0_1 = some r) :
  Calls Tryd.prog 43 #[.agg #[.string a0_0, .string a0_1]] w fun e w' => e = .returned (.bool r) ∧ Below w.heap.size w w' := by
 have hu44 := Tryd.underlying44
 have HB := Aside0.mk (Below.refl w.heap.size w)
 have H : ((path_Good.f a0_0).bind fun t104 => (if t104 = true then (some ((a0_1.size : Int) == 32)) else (some false))) = some r := h
 clear h
 replace H := Option.bind_eq_some_iff.mp H
 obtain ⟨t104, A20, H⟩ := H
 replace H : (if t104 = true then (some ((a0_1.size : Int) == 32)) else (some false)) = some r := H
 have A2 := Aside0.mk A20
 clear A20
 by_cases c3 : t104 = true
 case neg =>
  replace c3 := Bool.eq_false_iff.mpr c3
  subst c3
  have H1 : (some false) = some r := by rw [if_neg (show ¬ (false = true) by decide)] at H; exact H
  clear H
  have H := H1
  clear H1
  obtain rfl := Option.some.inj H
  go_enter Tryd.func43, Tryd.ntmps43
  go_wp2_with (first | ((with_reducible refine gate_dst (N := 1) rfl ?_); (try (refine gate_guard (by rfl) ?_; dsimp only)); refine box_event ?hg (N := 1) ?hd (cs := #[.string a0_0, .string a0_1]) (t := 44) ?hr ?_; (case hd => rfl); (case hg => rfl); (case hr => first | (go_simp; done) | (go_simp; rfl)); intro gb103 hg w8 hbox hb; have n0_ := Aside0.mk (below_step m7_ hb); have n1_ := Aside0.mk (hbox); have n2_ := Aside0.mk ((by rw [hg]; exact (below_size m7_) : w.heap.size ≤ gb103)); have n3_ := Aside0.mk ((by rw [hg]; exact (below_size m7_) : w.heap.size ≤ gb103)); clear HB; have HB := n0_; have BK103 := n1_; have GW103 := n2_; have GE103 := n3_; clear n0_ n1_ n2_ n3_; clear hb hbox hg; obtain ⟨hcz9_0, hcz9_1⟩ := bc2_ BK103.out; obtain ⟨hfz9_0, hfz9_1⟩ := bf2_ BK103.out) | ((with_reducible refine gate_callee (f := 53) rfl ?_); refine goesL_ (some 5) rfl rfl Tryd.func53 (by kernel_rfl) rfl #[.string a0_0] rfl m6_ ?_; (with_reducible refine (path_Good.calls a0_0 false _ A2.out).mono ?_); rintro e w10 ⟨rfl, hb⟩; refine ⟨_, rfl, ?_⟩; have n0_ := Aside0.mk (blk_below (g := gb103) (o := .cells #[.string a0_0, .string a0_1] 44 (0, 0)) (by (with_reducible repeat (first | refine blk_drewN ?_ _ | refine blk_drew ?_ | refine blk_alloc ?_ _)); exact BK103.out) hb); have n1_ := Aside0.mk (below_step (by repeat (first | (with_reducible first | exact HB.out | apply below_alloc | apply pw_below_drewN | apply below_drew1 | refine below_set ?_ GE103.out) | exact HB.out)) hb); clear BK103; clear HB; have BK103 := n0_; have HB := n1_; clear n0_ n1_; (try clear hb); (try clear hb2); (try clear hk); (try clear hi)))
  go_ret
  exact ⟨by first | rfl | (simp [errW_none, errW_some] <;> rfl) | (simp [*, errW_none, errW_some] <;> rfl), by repeat (first | (with_reducible first | exact HB.out | apply below_alloc | apply pw_below_drewN | apply below_drew1 | refine below_set ?_ GE103.out) | exact HB.out)⟩
 subst c3
 have H1 : (some ((a0_1.size : Int) == 32)) = some r := by rw [if_pos rfl] at H; exact H
 clear H
 have H := H1
 clear H1
 obtain rfl := Option.some.inj H
 go_enter Tryd.func43, Tryd.ntmps43
 go_wp2_with (first | ((with_reducible refine gate_dst (N := 1) rfl ?_); (try (refine gate_guard (by rfl) ?_; dsimp only)); refine box_event ?hg (N := 1) ?hd (cs := #[.string a0_0, .string a0_1]) (t := 44) ?hr ?_; (case hd => rfl); (case hg => rfl); (case hr => first | (go_simp; done) | (go_simp; rfl)); intro gb103 hg w4 hbox hb; have n0_ := Aside0.mk (below_step m7_ hb); have n1_ := Aside0.mk (hbox); have n2_ := Aside0.mk ((by rw [hg]; exact (below_size m7_) : w.heap.size ≤ gb103)); have n3_ := Aside0.mk ((by rw [hg]; exact (below_size m7_) : w.heap.size ≤ gb103)); clear HB; have HB := n0_; have BK103 := n1_; have GW103 := n2_; have GE103 := n3_; clear n0_ n1_ n2_ n3_; clear hb hbox hg; obtain ⟨hcz5_0, hcz5_1⟩ := bc2_ BK103.out; obtain ⟨hfz5_0, hfz5_1⟩ := bf2_ BK103.out) | ((with_reducible refine gate_callee (f := 53) rfl ?_); refine goesL_ (some 5) rfl rfl Tryd.func53 (by kernel_rfl) rfl #[.string a0_0] rfl m6_ ?_; (with_reducible refine (path_Good.calls a0_0 true _ A2.out).mono ?_); rintro e w6 ⟨rfl, hb⟩; refine ⟨_, rfl, ?_⟩; have n0_ := Aside0.mk (blk_below (g := gb103) (o := .cells #[.string a0_0, .string a0_1] 44 (0, 0)) (by (with_reducible repeat (first | refine blk_drewN ?_ _ | refine blk_drew ?_ | refine blk_alloc ?_ _)); exact BK103.out) hb); have n1_ := Aside0.mk (below_step (by repeat (first | (with_reducible first | exact HB.out | apply below_alloc | apply pw_below_drewN | apply below_drew1 | refine below_set ?_ GE103.out) | exact HB.out)) hb); clear BK103; clear HB; have BK103 := n0_; have HB := n1_; clear n0_ n1_; (try clear hb); (try clear hb2); (try clear hk); (try clear hi); obtain ⟨hcz7_0, hcz7_1⟩ := bc2_ BK103.out; obtain ⟨hfz7_0, hfz7_1⟩ := bf2_ BK103.out))
 go_ret
 exact ⟨by first | rfl | (simp [errW_none, errW_some] <;> rfl) | (simp [*, errW_none, errW_some] <;> rfl), by repeat (first | (with_reducible first | exact HB.out | apply below_alloc | apply pw_below_drewN | apply below_drew1 | refine below_set ?_ GE103.out) | exact HB.out)⟩

end Go.Proofs.YtdeggemomajhcaaDoorH.HMerkleApplies
