-- PRINTED by print.py (a twelfth state) out of the translation. Not trusted: Lean checks it.
import Derived.Test.YtdeggemomajhcaaDoorHMerkleAppliesx0
import Derived.Test.YtdeggemomajhcaaDoorHMerkleAppliesx9
namespace Go.Proofs.YtdeggemomajhcaaDoorH.HMerkleApplies
open Go.RowKit Go.Proofs.YtdeggemomajhcaaDoorW.PrintWords Go.Proofs.YtdeggemomajhcaaDoorW.PrintLast Go.Proofs.YtdeggemomajhcaaDoorW.PrintMore
attribute [local go_sem] max2_int min2_int max_two min_two max_three min_three max_four min_four   -- for this text's walks alone
set_option linter.unusedVariables false
set_option linter.unusedSimpArgs false

/-! ### strongroomlaw20_list: function 17 -/
def strongroomlaw20_list.f (k : Nat) (l0 : List (S39)) : Option (Bool) := (strongroomref20_Why.f k l0).bind fun t194 => (some (t194 == 0))
theorem strongroomlaw20_list.mono : ∀ a0 k, LeO (strongroomlaw20_list.f k a0) (strongroomlaw20_list.f (k + 1) a0) := by
 intro a0 k
 unfold strongroomlaw20_list.f
 repeat' first
   | (with_reducible exact strongroomref20_Why.mono _ _)
   | (with_reducible exact LeO.refl _)
   | (with_reducible exact LeO.none _)
   | (with_reducible refine LeO.ite ?_ ?_)
   | (with_reducible refine LeO.bind ?_ (fun _ => ?_))
   | exact strongroomref20_Why.mono _ _
   | exact LeO.none _
   | refine LeO.ite ?_ ?_
   | refine LeO.bind ?_ (fun _ => ?_)
set_option maxHeartbeats 8000000 in
set_option maxRecDepth 100000 in
theorem strongroomlaw20_list.calls (k : Nat) (A0 : Option Addr) (c0 : Nat) (l0 : List (S39)) (r : Bool) (w : World) (hr0 : Kd.C k39 w A0 l0.length l0) (hc0 : l0.length ≤ c0) (h : strongroomlaw20_list.f k l0 = some r) :
  Calls Tryd.prog 17 #[.slice A0 l0.length c0] w fun e w' => e = .returned (.bool r) ∧ Below w.heap.size w w' := by
 have HR0 := Aside0.mk hr0
 have HC0 := Aside0.mk hc0
 clear hr0 hc0
 have HB := Aside0.mk (Below.refl w.heap.size w)
 have H : ((strongroomref20_Why.f k l0).bind fun t194 => (some (t194 == 0))) = some r := h
 clear h
 replace H := Option.bind_eq_some_iff.mp H
 obtain ⟨t194, A20, H⟩ := H
 replace H : (some (t194 == 0)) = some r := H
 have A2 := Aside0.mk A20
 clear A20
 obtain rfl := Option.some.inj H
 go_enter Tryd.func17, Tryd.ntmps17
 go_wp2_with (first | ((with_reducible refine gate_callee (f := 16) rfl ?_); refine goesL_ (some 4) rfl rfl Tryd.func16 (by kernel_rfl) rfl #[.slice A0 l0.length c0] rfl m6_ ?_; (with_reducible refine (strongroomref20_Why.calls k _ _ l0 t194 _ ?side1 ?side2 A2.out).mono ?_); (case side1 => repeat (first | exact HR0.out | (with_reducible refine Kd.C_alloc ?_ _) | (with_reducible refine Kd.C_drewN ?_ _) | (with_reducible refine Kd.C_drew ?_))); (case side2 => exact HC0.out); rintro e w3 ⟨rfl, hb⟩; refine ⟨_, rfl, ?_⟩; replace HB := Aside0.mk (below_step m7_ hb); (try clear hb); (try clear hb2); (try clear hk); (try clear hi)))
 go_ret
 exact ⟨by first | rfl | (simp [errW_none, errW_some] <;> rfl) | (simp [*, errW_none, errW_some] <;> rfl), m27_⟩

/-! ### merkle_sum: function 57 -/
def merkle_sum.f (a0 : ByteArray) : Option (Bool) := if a0.toList = ([] : List UInt8) then (some true) else (some ((a0.size : Int) == 32))
set_option maxHeartbeats 8000000 in
set_option maxRecDepth 100000 in
theorem merkle_sum.calls (a0 : ByteArray) (r : Bool) (w : World) (h : merkle_sum.f a0 = some r) :
  Calls Tryd.prog 57 #[.string a0] w fun e w' => e = .returned (.bool r) ∧ Drawn0 w w' := by
 have H : (if a0.toList = ([] : List UInt8) then (some true) else (some ((a0.size : Int) == 32))) = some r := h
 clear h
 by_cases c2 : a0.toList = ([] : List UInt8)
 case neg =>
  rw [if_neg c2] at H
  have c2b0 : (a0.toList == ([] : List UInt8)) = false := beq_eq_false_iff_ne.mpr c2
  have c2b1 : (a0.toList != ([] : List UInt8)) = true := bne_iff_ne.mpr c2
  obtain rfl := Option.some.inj H
  go_enter Tryd.func57, Tryd.ntmps57
  go_wp2
  go_ret
  exact ⟨by first | rfl | (simp; done) | (simp [*]; done), m29_⟩
 rw [if_pos c2] at H
 have c2b0 : (a0.toList == ([] : List UInt8)) = true := beq_iff_eq.mpr c2
 have c2b1 : (a0.toList != ([] : List UInt8)) = false := bne_eq_false_iff_eq.mpr c2
 clear c2
 obtain rfl := Option.some.inj H
 go_enter Tryd.func57, Tryd.ntmps57
 go_wp2
 go_ret
 exact ⟨by first | rfl | (simp; done) | (simp [*]; done), m29_⟩

/-! ### merkle_place: function 58 -/
theorem merkle_place.clo (ba bx : Nat) (ad : Addr) (n cap : Nat) (y x : ByteArray) (i : Nat) (W : World) (hi : i < n)
    (ha : W.cell? ⟨ba, 0, none⟩ = some (.slice (some ad) n cap)) (hx : W.cell? ⟨bx, 0, none⟩ = some (.string x)) (hc : W.cell? (ad.add (i * 2)) = some (.string y)) :
    Calls Tryd.prog 76 (#[.int .i64 i] ++ #[.pointer (some ⟨ba, 0, none⟩), .pointer (some ⟨bx, 0, none⟩)]) W fun e w' => e = .returned (.bool (!Op.bytesLess y.toList x.toList)) ∧ ∃ q, w' = W.drewN q := by
  have hiz : (i : Int) < (n : Int) := by omega
  have hu44 := Tryd.underlying44
  go_enter Tryd.func76, Tryd.ntmps76
  go_wp2
  go_region
  all_goals go_wp2
  all_goals go_ret
  all_goals exact ⟨by first | rfl | simp, 1, rfl⟩
def merkle_place.less (l0 : List S44) (a1 : ByteArray) (i : Nat) : Bool := Op.bytesLess ((rd_T44 l0 (i : Int)).f0.toList) a1.toList
def merkle_place.f (l0 : List S44) (a1 : ByteArray) : Option (Int) := if (decide (l0.length < 4611686018427387904) && (List.range l0.length).all fun a => (List.range l0.length).all fun b => !(decide (a ≤ b) && (!merkle_place.less l0 a1 a && merkle_place.less l0 a1 b))) = true then some (((List.range l0.length).countP (merkle_place.less l0 a1) : Nat) : Int) else none
set_option maxHeartbeats 8000000 in
set_option maxRecDepth 100000 in
theorem merkle_place.calls (A0 : Option Addr) (c0 : Nat) (l0 : List (S44)) (a1 : ByteArray) (r : Int) (w : World) (hr0 : Kd.C k44 w A0 l0.length l0) (hc0 : l0.length ≤ c0) (h : merkle_place.f l0 a1 = some r) :
    Calls Tryd.prog 58 #[.slice A0 l0.length c0, .string a1] w fun e w' => e = .returned (.int .i64 r) ∧ Below w.heap.size w w' := by
  unfold merkle_place.f at h
  split at h
  case isFalse => exact absurd h (by simp)
  rename_i hcond
  obtain rfl := Option.some.inj h
  simp only [Bool.and_eq_true, decide_eq_true_eq, List.all_eq_true, List.mem_range] at hcond
  obtain ⟨hsz, hmo⟩ := hcond
  obtain ⟨W0, hW0⟩ : ∃ W0, W0 = (w.alloc (.cells #[.slice A0 l0.length c0] 26)).alloc (.cells #[.string a1] 9) := ⟨_, rfl⟩
  have hsize : W0.heap.size = w.heap.size + 1 + 1 := by rw [hW0]; simp
  have ca : W0.cell? ⟨w.heap.size, 0, none⟩ = some (.slice A0 l0.length c0) := by rw [hW0]; exact cell_alloc_sl _ (cell_new_sl w _ _)
  have cx : W0.cell? ⟨w.heap.size + 1, 0, none⟩ = some (.string a1) := by rw [hW0]; have := cell_new_sl (w.alloc (.cells #[.slice A0 l0.length c0] 26)) (.string a1) 9; rwa [World.size_alloc] at this
  have hB0 : Below w.heap.size w W0 := by rw [hW0]; exact below_alloc (below_alloc (Below.refl _ w) _) _
  have hr1 : Kd.C k44 W0 A0 l0.length l0 := Kd.C_below hr0 hB0
  have eg : ∀ args w, (callFunc 76 args).run Tryd.prog w = .ok (.enter 76 args) w := enters_of Tryd.func76 (by kernel_rfl) rfl
  have hS := Any.sort_Search Tryd.search 76 #[.pointer (some ⟨w.heap.size, 0, none⟩), .pointer (some ⟨w.heap.size + 1, 0, none⟩)] l0.length (fun i => !merkle_place.less l0 a1 i) W0 eg hsz
    (fun m os i hi => by
      have hb2 : Below W0.heap.size W0 (Go.Sort.grow (W0.drewN m) os) := below_grown_sl W0.heap.size W0 m os (Nat.le_refl _)
      obtain ⟨ad, e, hx, _⟩ := at_T44 (Kd.C_below hr1 hb2) (i : Int) (by omega) (by omega)
      subst e
      refine (merkle_place.clo w.heap.size (w.heap.size + 1) ad l0.length c0 _ a1 i _ hi (cell_grown (by simp [hsize]; omega) ca m os) (cell_grown (by simp [hsize]) cx m os) hx).mono ?_
      rintro _ _ ⟨he, q, hq⟩
      exact ⟨he, q, #[], by rw [hq, Go.Sort.grow_empty]⟩)
    (fun a b hab hb h => by
      have := hmo a (by omega) b hb
      simp only [hab, decide_true, Bool.true_and, Bool.not_eq_true'] at this
      simp only [Bool.not_eq_true'] at h ⊢
      rw [h] at this
      simpa using this)
  simp only [Bool.not_not] at hS
  change Calls Tryd.prog 75 _ _ _ at hS
  clear ca cx hr1 hmo
  generalize (List.range l0.length).countP (merkle_place.less l0 a1) = r at hS ⊢
  go_enter Tryd.func58, Tryd.ntmps58
  go_wp2_with (go_at_call 75; rw [← hW0]; refine hS.mono ?_; rintro e w' ⟨rfl, q, os, rfl⟩)
  go_ret
  refine ⟨rfl, ?_⟩
  rw [← hW0]
  exact hB0.trans (below_grown_sl w.heap.size W0 q os (by omega))

end Go.Proofs.YtdeggemomajhcaaDoorH.HMerkleApplies
