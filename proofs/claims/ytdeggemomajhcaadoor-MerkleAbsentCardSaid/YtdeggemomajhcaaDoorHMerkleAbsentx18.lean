-- PRINTED by print.py (a twelfth state) out of the translation. Not trusted: Lean checks it.
import Derived.Test.YtdeggemomajhcaaDoorHMerkleAbsentx0
import Derived.Test.YtdeggemomajhcaaDoorHMerkleAbsentx4
import Derived.Test.YtdeggemomajhcaaDoorHMerkleAbsentx5
import Derived.Test.YtdeggemomajhcaaDoorHMerkleAbsentx7
namespace Go.Proofs.YtdeggemomajhcaaDoorH.HMerkleAbsent
open Go.RowKit Go.Proofs.YtdeggemomajhcaaDoorW.PrintWords Go.Proofs.YtdeggemomajhcaaDoorW.PrintLast Go.Proofs.YtdeggemomajhcaaDoorW.PrintMore
attribute [local go_sem] max2_int min2_int max_two min_two max_three min_three max_four min_four   -- for this text's walks alone
set_option linter.unusedVariables false
set_option linter.unusedSimpArgs false

/-! ### merkle_place: function 58 -/
theorem merkle_place.clo (ba bx : Nat) (ad : Addr) (n cap : Nat) (y x : ByteArray) (i : Nat) (W : World) (hi : i < n)
    (ha : W.cell? ⟨ba, 0, none⟩ = some (.slice (some ad) n cap)) (hx : W.cell? ⟨bx, 0, none⟩ = some (.string x)) (hc : W.cell? (ad.add (i * 2)) = some (.string y)) :
    Calls Tryd.prog 76 (#[.int .i64 i] ++ #[.pointer (some ⟨ba, 0, none⟩), .pointer (some ⟨bx, 0, none⟩)]) W fun e w' => e = .returned (.bool (!Op.bytesLess y.toList x.toList)) ∧ ∃ q, w' = W.drewN q := by
  have hiz : (i : Int) < (n : Int) := by omega
  have hu44 := Tryd.underlying44
  go_enter Tryd.func76, Tryd.ntmps76
  go_wp2
  go_region
  all_goals go_wp2
  all_goals go_ret
  all_goals exact ⟨by first | rfl | simp, 1, rfl⟩
def merkle_place.less (l0 : List S44) (a1 : ByteArray) (i : Nat) : Bool := Op.bytesLess ((rd_T44 l0 (i : Int)).f0.toList) a1.toList
def merkle_place.f (l0 : List S44) (a1 : ByteArray) : Option (Int) := if (decide (l0.length < 4611686018427387904) && (List.range l0.length).all fun a => (List.range l0.length).all fun b => !(decide (a ≤ b) && (!merkle_place.less l0 a1 a && merkle_place.less l0 a1 b))) = true then some (((List.range l0.length).countP (merkle_place.less l0 a1) : Nat) : Int) else none
set_option maxHeartbeats 8000000 in
set_option maxRecDepth 100000 in
theorem merkle_place.calls (A0 : Option Addr) (c0 : Nat) (l0 : List (S44)) (a1 : ByteArray) (r : Int) (w : World) (hr0 : Kd.C k44 w A0 l0.length l0) (hc0 : l0.length ≤ c0) (h : merkle_place.f l0 a1 = some r) :
    Calls Tryd.prog 58 #[.slice A0 l0.length c0, .string a1] w fun e w' => e = .returned (.int .i64 r) ∧ Below w.heap.size w w' := by
  unfold merkle_place.f at h
  split at h
  case isFalse => exact absurd h (by simp)
  rename_i hcond
  obtain rfl := Option.some.inj h
  simp only [Bool.and_eq_true, decide_eq_true_eq, List.all_eq_true, List.mem_range] at hcond
  obtain ⟨hsz, hmo⟩ := hcond
  obtain ⟨W0, hW0⟩ : ∃ W0, W0 = (w.alloc (.cells #[.slice A0 l0.length c0] 26)).alloc (.cells #[.string a1] 9) := ⟨_, rfl⟩
  have hsize : W0.heap.size = w.heap.size + 1 + 1 := by rw [hW0]; simp
  have ca : W0.cell? ⟨w.heap.size, 0, none⟩ = some (.slice A0 l0.length c0) := by rw [hW0]; exact cell_alloc_sl _ (cell_new_sl w _ _)
  have cx : W0.cell? ⟨w.heap.size + 1, 0, none⟩ = some (.string a1) := by rw [hW0]; have := cell_new_sl (w.alloc (.cells #[.slice A0 l0.length c0] 26)) (.string a1) 9; rwa [World.size_alloc] at this
  have hB0 : Below w.heap.size w W0 := by rw [hW0]; exact below_alloc (below_alloc (Below.refl _ w) _) _
  have hr1 : Kd.C k44 W0 A0 l0.length l0 := Kd.C_below hr0 hB0
  have eg : ∀ args w, (callFunc 76 args).run Tryd.prog w = .ok (.enter 76 args) w := enters_of Tryd.func76 (by kernel_rfl) rfl
  have hS := Any.sort_Search Tryd.search 76 #[.pointer (some ⟨w.heap.size, 0, none⟩), .pointer (some ⟨w.heap.size + 1, 0, none⟩)] l0.length (fun i => !merkle_place.less l0 a1 i) W0 eg hsz
    (fun m os i hi => by
      have hb2 : Below W0.heap.size W0 (Go.Sort.grow (W0.drewN m) os) := below_grown_sl W0.heap.size W0 m os (Nat.le_refl _)
      obtain ⟨ad, e, hx, _⟩ := at_T44 (Kd.C_below hr1 hb2) (i : Int) (by omega) (by omega)
      subst e
      refine (merkle_place.clo w.heap.size (w.heap.size + 1) ad l0.length c0 _ a1 i _ hi (cell_grown (by simp [hsize]; omega) ca m os) (cell_grown (by simp [hsize]) cx m os) hx).mono ?_
      rintro _ _ ⟨he, q, hq⟩
      exact ⟨he, q, #[], by rw [hq, Go.Sort.grow_empty]⟩)
    (fun a b hab hb h => by
      have := hmo a (by omega) b hb
      simp only [hab, decide_true, Bool.true_and, Bool.not_eq_true'] at this
      simp only [Bool.not_eq_true'] at h ⊢
      rw [h] at this
      simpa using this)
  simp only [Bool.not_not] at hS
  change Calls Tryd.prog 75 _ _ _ at hS
  clear ca cx hr1 hmo
  generalize (List.range l0.length).countP (merkle_place.less l0 a1) = r at hS ⊢
  go_enter Tryd.func58, Tryd.ntmps58
  go_wp2_with (go_at_call 75; rw [← hW0]; refine hS.mono ?_; rintro e w' ⟨rfl, q, os, rfl⟩)
  go_ret
  refine ⟨rfl, ?_⟩
  rw [← hW0]
  exact hB0.trans (below_grown_sl w.heap.size W0 q os (by omega))

/-! ### merkle_Find: function 38 -/
def merkle_Find.f (k : Nat) (l0 : List (S44)) (a1 : ByteArray) : Option (Int × Bool) := (merkle_Check.f k l0).bind fun t313 => (if t313 = 0 then ((merkle_place.f l0 a1).bind fun t314 => (if t314 < (l0.length : Int) then (if 0 ≤ t314 then (some (t314, (((rd_T44 l0 t314).f0).toList == a1.toList))) else (none)) else (some (t314, false)))) else (some (0, false)))
theorem merkle_Find.mono : ∀ a0 a1 k, LeO (merkle_Find.f k a0 a1) (merkle_Find.f (k + 1) a0 a1) := by
 intro a0 a1 k
 unfold merkle_Find.f
 repeat' first
   | (with_reducible exact merkle_Check.mono _ _)
   | (with_reducible exact LeO.refl _)
   | (with_reducible exact LeO.none _)
   | (with_reducible refine LeO.ite ?_ ?_)
   | (with_reducible refine LeO.bind ?_ (fun _ => ?_))
   | exact merkle_Check.mono _ _
   | exact LeO.none _
   | refine LeO.ite ?_ ?_
   | refine LeO.bind ?_ (fun _ => ?_)
set_option maxHeartbeats 8000000 in
set_option maxRecDepth 100000 in
theorem merkle_Find.calls (k : Nat) (A0 : Option Addr) (c0 : Nat) (l0 : List (S44)) (a1 : ByteArray) (r1 : Int) (r2 : Bool) (w : World) (hr0 : Kd.C k44 w A0 l0.length l0) (hc0 : l0.length ≤ c0) (h : merkle_Find.f k l0 a1 = some (r1, r2)) :
  Calls Tryd.prog 38 #[.slice A0 l0.length c0, .string a1] w fun e w' => e = .returned (.tuple #[.int .i64 r1, .bool r2]) ∧ Below w.heap.size w w' := by
 have HR0 := Aside0.mk hr0
 have HC0 := Aside0.mk hc0
 clear hr0 hc0
 have HB := Aside0.mk (Below.refl w.heap.size w)
 have H : ((merkle_Check.f k l0).bind fun t313 => (if t313 = 0 then ((merkle_place.f l0 a1).bind fun t314 => (if t314 < (l0.length : Int) then (if 0 ≤ t314 then (some (t314, (((rd_T44 l0 t314).f0).toList == a1.toList))) else (none)) else (some (t314, false)))) else (some (0, false)))) = some (r1, r2) := h
 clear h
 replace H := Option.bind_eq_some_iff.mp H
 obtain ⟨t313, A30, H⟩ := H
 replace H : (if t313 = 0 then ((merkle_place.f l0 a1).bind fun t314 => (if t314 < (l0.length : Int) then (if 0 ≤ t314 then (some (t314, (((rd_T44 l0 t314).f0).toList == a1.toList))) else (none)) else (some (t314, false)))) else (some (0, false))) = some (r1, r2) := H
 have A3 := Aside0.mk A30
 clear A30
 by_cases c4 : t313 = 0
 case neg =>
  rw [if_neg c4] at H
  have c4b0 : (t313 == 0) = false := beq_eq_false_iff_ne.mpr c4
  have c4b1 : (t313 != 0) = true := bne_iff_ne.mpr c4
  simp only [Option.some.injEq, Prod.mk.injEq] at H
  obtain ⟨rfl, rfl⟩ := H
  go_enter Tryd.func38, Tryd.ntmps38
  go_wp2_with (first | (go_at_call 15; (with_reducible refine (merkle_Check.calls k _ _ l0 t313 _ ?side1 ?side2 A3.out).mono ?_); (case side1 => repeat (first | exact HR0.out | (with_reducible refine Kd.C_alloc ?_ _) | (with_reducible refine Kd.C_drewN ?_ _) | (with_reducible refine Kd.C_drew ?_))); (case side2 => exact HC0.out); rintro e w12 ⟨rfl, hb⟩; replace HB := Aside0.mk (below_step m11_ hb); (try clear hb); (try clear hb2); (try clear hk); (try clear hi)))
  repeat (go_quiet (first | (go_at_call 15; (with_reducible refine (merkle_Check.calls k _ _ l0 t313 _ ?side1 ?side2 A3.out).mono ?_); (case side1 => repeat (first | exact HR0.out | (with_reducible refine Kd.C_alloc ?_ _) | (with_reducible refine Kd.C_drewN ?_ _) | (with_reducible refine Kd.C_drew ?_))); (case side2 => exact HC0.out); rintro e w12 ⟨rfl, hb⟩; replace HB := Aside0.mk (below_step m11_ hb); (try clear hb); (try clear hb2); (try clear hk); (try clear hi))); try go_wp2_with (first | (go_at_call 15; (with_reducible refine (merkle_Check.calls k _ _ l0 t313 _ ?side1 ?side2 A3.out).mono ?_); (case side1 => repeat (first | exact HR0.out | (with_reducible refine Kd.C_alloc ?_ _) | (with_reducible refine Kd.C_drewN ?_ _) | (with_reducible refine Kd.C_drew ?_))); (case side2 => exact HC0.out); rintro e w12 ⟨rfl, hb⟩; replace HB := Aside0.mk (below_step m11_ hb); (try clear hb); (try clear hb2); (try clear hk); (try clear hi))))
  go_ret2
  exact ⟨by first | rfl | (simp [errW_none, errW_some] <;> rfl) | (simp [*, errW_none, errW_some] <;> rfl), m41_⟩
 rw [if_pos c4] at H
 have c4b0 : (t313 == 0) = true := beq_iff_eq.mpr c4
 have c4b1 : (t313 != 0) = false := bne_eq_false_iff_eq.mpr c4
 clear c4
 replace H := Option.bind_eq_some_iff.mp H
 obtain ⟨t314, A50, H⟩ := H
 replace H : (if t314 < (l0.length : Int) then (if 0 ≤ t314 then (some (t314, (((rd_T44 l0 t314).f0).toList == a1.toList))) else (none)) else (some (t314, false))) = some (r1, r2) := H
 have A5 := Aside0.mk A50
 clear A50
 by_cases c6 : t314 < (l0.length : Int)
 case neg =>
  rw [if_neg c6] at H
  have c6b0 : decide (t314 < (l0.length : Int)) = false := decide_eq_false c6
  clear c6
  simp only [Option.some.injEq, Prod.mk.injEq] at H
  obtain ⟨rfl, rfl⟩ := H
  go_enter Tryd.func38, Tryd.ntmps38
  go_wp2_with (first | (go_at_call 15; (with_reducible refine (merkle_Check.calls k _ _ l0 t313 _ ?side1 ?side2 A3.out).mono ?_); (case side1 => repeat (first | exact HR0.out | (with_reducible refine Kd.C_alloc ?_ _) | (with_reducible refine Kd.C_drewN ?_ _) | (with_reducible refine Kd.C_drew ?_))); (case side2 => exact HC0.out); rintro e w10 ⟨rfl, hb⟩; replace HB := Aside0.mk (below_step m11_ hb); (try clear hb); (try clear hb2); (try clear hk); (try clear hi)) | (go_at_call 58; (with_reducible refine (merkle_place.calls _ _ l0 a1 t314 _ ?side1 ?side2 A5.out).mono ?_); (case side1 => exact m30_); (case side2 => exact HC0.out); rintro e w11 ⟨rfl, hb⟩; replace HB := Aside0.mk (below_step m11_ hb); (try clear hb); (try clear hb2); (try clear hk); (try clear hi)))
  repeat (go_quiet (first | (go_at_call 15; (with_reducible refine (merkle_Check.calls k _ _ l0 t313 _ ?side1 ?side2 A3.out).mono ?_); (case side1 => repeat (first | exact HR0.out | (with_reducible refine Kd.C_alloc ?_ _) | (with_reducible refine Kd.C_drewN ?_ _) | (with_reducible refine Kd.C_drew ?_))); (case side2 => exact HC0.out); rintro e w10 ⟨rfl, hb⟩; replace HB := Aside0.mk (below_step m11_ hb); (try clear hb); (try clear hb2); (try clear hk); (try clear hi)) | (go_at_call 58; (with_reducible refine (merkle_place.calls _ _ l0 a1 t314 _ ?side1 ?side2 A5.out).mono ?_); (case side1 => exact m30_); (case side2 => exact HC0.out); rintro e w11 ⟨rfl, hb⟩; replace HB := Aside0.mk (below_step m11_ hb); (try clear hb); (try clear hb2); (try clear hk); (try clear hi))); try go_wp2_with (first | (go_at_call 15; (with_reducible refine (merkle_Check.calls k _ _ l0 t313 _ ?side1 ?side2 A3.out).mono ?_); (case side1 => repeat (first | exact HR0.out | (with_reducible refine Kd.C_alloc ?_ _) | (with_reducible refine Kd.C_drewN ?_ _) | (with_reducible refine Kd.C_drew ?_))); (case side2 => exact HC0.out); rintro e w10 ⟨rfl, hb⟩; replace HB := Aside0.mk (below_step m11_ hb); (try clear hb); (try clear hb2); (try clear hk); (try clear hi)) | (go_at_call 58; (with_reducible refine (merkle_place.calls _ _ l0 a1 t314 _ ?side1 ?side2 A5.out).mono ?_); (case side1 => exact m30_); (case side2 => exact HC0.out); rintro e w11 ⟨rfl, hb⟩; replace HB := Aside0.mk (below_step m11_ hb); (try clear hb); (try clear hb2); (try clear hk); (try clear hi))))
  go_ret2
  exact ⟨by first | rfl | (simp [errW_none, errW_some] <;> rfl) | (simp [*, errW_none, errW_some] <;> rfl), m41_⟩
 rw [if_pos c6] at H
 have c6b0 : decide (t314 < (l0.length : Int)) = true := decide_eq_true c6
 clear c6
 by_cases c7 : 0 ≤ t314
 case neg =>
  rw [if_neg c7] at H
  exact absurd H (by simp)
 rw [if_pos c7] at H
 have c7b0 : decide (0 ≤ t314) = true := decide_eq_true c7
 clear c7
 simp only [Option.some.injEq, Prod.mk.injEq] at H
 obtain ⟨rfl, rfl⟩ := H
 go_enter Tryd.func38, Tryd.ntmps38
 go_wp2_with (first | (go_at_call 15; (with_reducible refine (merkle_Check.calls k _ _ l0 t313 _ ?side1 ?side2 A3.out).mono ?_); (case side1 => repeat (first | exact HR0.out | (with_reducible refine Kd.C_alloc ?_ _) | (with_reducible refine Kd.C_drewN ?_ _) | (with_reducible refine Kd.C_drew ?_))); (case side2 => exact HC0.out); rintro e w8 ⟨rfl, hb⟩; replace HB := Aside0.mk (below_step m11_ hb); (try clear hb); (try clear hb2); (try clear hk); (try clear hi)) | (go_at_call 58; (with_reducible refine (merkle_place.calls _ _ l0 a1 t314 _ ?side1 ?side2 A5.out).mono ?_); (case side1 => exact m30_); (case side2 => exact HC0.out); rintro e w9 ⟨rfl, hb⟩; replace HB := Aside0.mk (below_step m11_ hb); (try clear hb); (try clear hb2); (try clear hk); (try clear hi); have p315 : 0 ≤ (t314 : Int) := of_decide_eq_true m22_; have q315 : t314 < (l0.length : Int) := of_decide_eq_true m22_; obtain ⟨ad315, e315, hx315_0, hx315_1⟩ := at_T44 HR0.out t314 p315 q315; cases e315; replace hx315_0 := (HB.out.cell (World.block_lt_of_cell? w _ hx315_0)).trans hx315_0; replace hx315_1 := (HB.out.cell (World.block_lt_of_cell? w _ hx315_1)).trans hx315_1; replace p315 := eq_true p315; replace q315 := eq_true q315))
 repeat (go_quiet (first | (go_at_call 15; (with_reducible refine (merkle_Check.calls k _ _ l0 t313 _ ?side1 ?side2 A3.out).mono ?_); (case side1 => repeat (first | exact HR0.out | (with_reducible refine Kd.C_alloc ?_ _) | (with_reducible refine Kd.C_drewN ?_ _) | (with_reducible refine Kd.C_drew ?_))); (case side2 => exact HC0.out); rintro e w8 ⟨rfl, hb⟩; replace HB := Aside0.mk (below_step m11_ hb); (try clear hb); (try clear hb2); (try clear hk); (try clear hi)) | (go_at_call 58; (with_reducible refine (merkle_place.calls _ _ l0 a1 t314 _ ?side1 ?side2 A5.out).mono ?_); (case side1 => exact m30_); (case side2 => exact HC0.out); rintro e w9 ⟨rfl, hb⟩; replace HB := Aside0.mk (below_step m11_ hb); (try clear hb); (try clear hb2); (try clear hk); (try clear hi); have p315 : 0 ≤ (t314 : Int) := of_decide_eq_true m22_; have q315 : t314 < (l0.length : Int) := of_decide_eq_true m22_; obtain ⟨ad315, e315, hx315_0, hx315_1⟩ := at_T44 HR0.out t314 p315 q315; cases e315; replace hx315_0 := (HB.out.cell (World.block_lt_of_cell? w _ hx315_0)).trans hx315_0; replace hx315_1 := (HB.out.cell (World.block_lt_of_cell? w _ hx315_1)).trans hx315_1; replace p315 := eq_true p315; replace q315 := eq_true q315)); try go_wp2_with (first | (go_at_call 15; (with_reducible refine (merkle_Check.calls k _ _ l0 t313 _ ?side1 ?side2 A3.out).mono ?_); (case side1 => repeat (first | exact HR0.out | (with_reducible refine Kd.C_alloc ?_ _) | (with_reducible refine Kd.C_drewN ?_ _) | (with_reducible refine Kd.C_drew ?_))); (case side2 => exact HC0.out); rintro e w8 ⟨rfl, hb⟩; replace HB := Aside0.mk (below_step m11_ hb); (try clear hb); (try clear hb2); (try clear hk); (try clear hi)) | (go_at_call 58; (with_reducible refine (merkle_place.calls _ _ l0 a1 t314 _ ?side1 ?side2 A5.out).mono ?_); (case side1 => exact m30_); (case side2 => exact HC0.out); rintro e w9 ⟨rfl, hb⟩; replace HB := Aside0.mk (below_step m11_ hb); (try clear hb); (try clear hb2); (try clear hk); (try clear hi); have p315 : 0 ≤ (t314 : Int) := of_decide_eq_true m22_; have q315 : t314 < (l0.length : Int) := of_decide_eq_true m22_; obtain ⟨ad315, e315, hx315_0, hx315_1⟩ := at_T44 HR0.out t314 p315 q315; cases e315; replace hx315_0 := (HB.out.cell (World.block_lt_of_cell? w _ hx315_0)).trans hx315_0; replace hx315_1 := (HB.out.cell (World.block_lt_of_cell? w _ hx315_1)).trans hx315_1; replace p315 := eq_true p315; replace q315 := eq_true q315)))
 go_ret2
 exact ⟨by first | rfl | (simp [errW_none, errW_some] <;> rfl) | (simp [*, errW_none, errW_some] <;> rfl), m41_⟩

/-! ### merkle_Absent: function 39 -/
def merkle_Absent.j0 : Nat → List (S44) → Int → Int → ByteArray → ByteArray → ByteArray → ByteArray → List ByteArray → Option (Int × ByteArray × ByteArray × ByteArray × ByteArray × List ByteArray × List ByteArray × Int)
 | 0, _, _, _, _, _, _, _, _ => none
 | k + 1, x0, x7, x322000, x322001, x322002, x322003, x322004, x322005 => if x7 < (x0.length : Int) then (if 0 ≤ x7 then ((merkle_prove.f k x0 x7).bind fun t327 => (some (x322000, x322001, x322002, (rd_T44 x0 x7).f0, (rd_T44 x0 x7).f1, x322005, t327, 0))) else (none)) else (some (x322000, x322001, x322002, x322003, x322004, x322005, ([] : List ByteArray), 0))
def merkle_Absent.f (k : Nat) (l0 : List (S44)) (a1 : ByteArray) : Option (Int × ByteArray × ByteArray × ByteArray × ByteArray × List ByteArray × List ByteArray × Int) := (merkle_Check.f k l0).bind fun t317 => (if t317 = 0 then ((path_Good.f a1).bind fun t318 => (if t318 = true then ((merkle_Find.f k l0 a1).bind fun bt319 => (if bt319.2 = true then (some (0, (⟨#[]⟩ : ByteArray), (⟨#[]⟩ : ByteArray), (⟨#[]⟩ : ByteArray), (⟨#[]⟩ : ByteArray), ([] : List ByteArray), ([] : List ByteArray), 7)) else (if bt319.1 > 0 then (if 0 ≤ (wrap64 (bt319.1 - 1)) then (if (wrap64 (bt319.1 - 1)) < (l0.length : Int) then ((merkle_prove.f k l0 (wrap64 (bt319.1 - 1))).bind fun t323 => (merkle_Absent.j0 k l0 bt319.1 bt319.1 ((rd_T44 l0 (wrap64 (bt319.1 - 1))).f0) ((rd_T44 l0 (wrap64 (bt319.1 - 1))).f1) (⟨#[]⟩ : ByteArray) (⟨#[]⟩ : ByteArray) t323)) else (none)) else (none)) else (merkle_Absent.j0 k l0 bt319.1 bt319.1 (⟨#[]⟩ : ByteArray) (⟨#[]⟩ : ByteArray) (⟨#[]⟩ : ByteArray) (⟨#[]⟩ : ByteArray) ([] : List ByteArray))))) else (some (0, (⟨#[]⟩ : ByteArray), (⟨#[]⟩ : ByteArray), (⟨#[]⟩ : ByteArray), (⟨#[]⟩ : ByteArray), ([] : List ByteArray), ([] : List ByteArray), 1)))) else (some (0, (⟨#[]⟩ : ByteArray), (⟨#[]⟩ : ByteArray), (⟨#[]⟩ : ByteArray), (⟨#[]⟩ : ByteArray), ([] : List ByteArray), ([] : List ByteArray), t317)))
theorem merkle_Absent.mono_l : ∀ k, (∀ y0 y1 y2 y3 y4 y5 y6 y7, LeO (merkle_Absent.j0 k y0 y1 y2 y3 y4 y5 y6 y7) (merkle_Absent.j0 (k + 1) y0 y1 y2 y3 y4 y5 y6 y7))
 | 0 => fun _ _ _ _ _ _ _ _ r h => by simp [merkle_Absent.j0] at h
 | k + 1 => by
  have ih0 := merkle_Absent.mono_l k
  ·intro y0 y1 y2 y3 y4 y5 y6 y7
   unfold merkle_Absent.j0
   repeat' first
   | (with_reducible exact ih0 _ _ _ _ _ _ _ _)
   | (with_reducible exact merkle_Check.mono _ _)
   | (with_reducible exact merkle_Find.mono _ _ _)
   | (with_reducible exact merkle_prove.mono _ _ _)
   | (with_reducible exact LeO.refl _)
   | (with_reducible exact LeO.none _)
   | (with_reducible refine LeO.ite ?_ ?_)
   | (with_reducible refine LeO.bind ?_ (fun _ => ?_))
   | exact ih0 _ _ _ _ _ _ _ _
   | exact merkle_Check.mono _ _
   | exact merkle_Find.mono _ _ _
   | exact merkle_prove.mono _ _ _
   | exact LeO.none _
   | refine LeO.ite ?_ ?_
   | refine LeO.bind ?_ (fun _ => ?_)
theorem merkle_Absent.mono : ∀ a0 a1 k, LeO (merkle_Absent.f k a0 a1) (merkle_Absent.f (k + 1) a0 a1) := by
 intro a0 a1 k
 have ih0 := merkle_Absent.mono_l k
 unfold merkle_Absent.f
 repeat' first
   | (with_reducible exact ih0 _ _ _ _ _ _ _ _)
   | (with_reducible exact merkle_Check.mono _ _)
   | (with_reducible exact merkle_Find.mono _ _ _)
   | (with_reducible exact merkle_prove.mono _ _ _)
   | (with_reducible exact LeO.refl _)
   | (with_reducible exact LeO.none _)
   | (with_reducible refine LeO.ite ?_ ?_)
   | (with_reducible refine LeO.bind ?_ (fun _ => ?_))
   | exact ih0 _ _ _ _ _ _ _ _
   | exact merkle_Check.mono _ _
   | exact merkle_Find.mono _ _ _
   | exact merkle_prove.mono _ _ _
   | exact LeO.none _
   | refine LeO.ite ?_ ?_
   | refine LeO.bind ?_ (fun _ => ?_)
def merkle_Absent.T11 : Bool × List (List Nat × List Nat) := (true, [([], []), ([], []), ([1], [1]), ([0, 2], [0, 2]), ([3], [3]), ([], []), ([], []), ([6], [6]), ([5, 7], [5, 7]), ([0, 1, 2, 3, 4], []), ([9, 4, 8, 0, 1, 2, 3, 4], [4, 9]), ([0, 1, 2, 3, 4, 5, 6, 7, 8, 9, 10], []), ([11, 8, 10, 0, 1, 2, 3, 4, 5, 6, 7, 8, 9, 10], [8, 11])])
def merkle_Absent.B11 : List Nat := [0, 0, 2, 7, 15, 0, 0, 64, 224, 31, 1023, 2047, 4095]
theorem merkle_Absent.tab11 : rtab .any (opsOf Tryd.f39 11) = merkle_Absent.T11 := by kernel_rfl
theorem merkle_Absent.bits11 : waitsOk merkle_Absent.T11.2 merkle_Absent.B11 = true := by kernel_rfl
def merkle_Absent.T13 : Bool × List (List Nat × List Nat) := (true, [([], []), ([], []), ([0, 1], [0, 1]), ([2], [2]), ([], []), ([], []), ([4, 5], [4, 5]), ([0, 1, 2, 3], []), ([7, 3, 6, 0, 1, 2, 3], [3, 7]), ([0, 1, 2, 3, 4, 5, 6, 7, 8], []), ([9, 6, 8, 0, 1, 2, 3, 4, 5, 6, 7, 8], [6, 9])])
def merkle_Absent.B13 : List Nat := [0, 0, 3, 7, 0, 0, 48, 15, 255, 511, 1023]
theorem merkle_Absent.tab13 : rtab .any (opsOf Tryd.f39 13) = merkle_Absent.T13 := by kernel_rfl
theorem merkle_Absent.bits13 : waitsOk merkle_Absent.T13.2 merkle_Absent.B13 = true := by kernel_rfl
set_option maxHeartbeats 8000000 in
set_option maxRecDepth 100000 in
theorem merkle_Absent.calls (k : Nat) (A0 : Option Addr) (c0 : Nat) (l0 : List (S44)) (a1 : ByteArray) (r1 : Int) (r2 : ByteArray) (r3 : ByteArray) (r4 : ByteArray) (r5 : ByteArray) (r6 : List ByteArray) (r7 : List ByteArray) (r8 : Int) (w : World) (hr0 : Kd.C k44 w A0 l0.length l0) (hc0 : l0.length ≤ c0) (h : merkle_Absent.f k l0 a1 = some (r1, r2, r3, r4, r5, r6, r7, r8)) :
  Calls Tryd.prog 39 #[.slice A0 l0.length c0, .string a1] w fun e w' => ∃ v5_ v6_ : Value, e = .returned (.tuple #[.agg #[.int .i64 r1, .string r2, .string r3, .string r4, .string r5, v5_, v6_], .int .i64 r8]) ∧ Kd.R Kd.string 9 w' w.heap.size (fun k_ => some k_ ≠ (v6_ : Value).ownBlock) v5_ r6 ∧ Kd.R Kd.string 9 w' w.heap.size (fun k_ => some k_ ≠ (v5_ : Value).ownBlock) v6_ r7 ∧ Below w.heap.size w w' := by
 have hu57 := Tryd.underlying57
 have hu44 := Tryd.underlying44
 have HR0 := Aside0.mk hr0
 have HC0 := Aside0.mk hc0
 clear hr0 hc0
 have HB := Aside0.mk (Below.refl w.heap.size w)
 have H : ((merkle_Check.f k l0).bind fun t317 => (if t317 = 0 then ((path_Good.f a1).bind fun t318 => (if t318 = true then ((merkle_Find.f k l0 a1).bind fun bt319 => (if bt319.2 = true then (some (0, (⟨#[]⟩ : ByteArray), (⟨#[]⟩ : ByteArray), (⟨#[]⟩ : ByteArray), (⟨#[]⟩ : ByteArray), ([] : List ByteArray), ([] : List ByteArray), 7)) else (if bt319.1 > 0 then (if 0 ≤ (wrap64 (bt319.1 - 1)) then (if (wrap64 (bt319.1 - 1)) < (l0.length : Int) then ((merkle_prove.f k l0 (wrap64 (bt319.1 - 1))).bind fun t323 => (merkle_Absent.j0 k l0 bt319.1 bt319.1 ((rd_T44 l0 (wrap64 (bt319.1 - 1))).f0) ((rd_T44 l0 (wrap64 (bt319.1 - 1))).f1) (⟨#[]⟩ : ByteArray) (⟨#[]⟩ : ByteArray) t323)) else (none)) else (none)) else (merkle_Absent.j0 k l0 bt319.1 bt319.1 (⟨#[]⟩ : ByteArray) (⟨#[]⟩ : ByteArray) (⟨#[]⟩ : ByteArray) (⟨#[]⟩ : ByteArray) ([] : List ByteArray))))) else (some (0, (⟨#[]⟩ : ByteArray), (⟨#[]⟩ : ByteArray), (⟨#[]⟩ : ByteArray), (⟨#[]⟩ : ByteArray), ([] : List ByteArray), ([] : List ByteArray), 1)))) else (some (0, (⟨#[]⟩ : ByteArray), (⟨#[]⟩ : ByteArray), (⟨#[]⟩ : ByteArray), (⟨#[]⟩ : ByteArray), ([] : List ByteArray), ([] : List ByteArray), t317)))) = some (r1, r2, r3, r4, r5, r6, r7, r8) := h
 clear h
 replace H := Option.bind_eq_some_iff.mp H
 obtain ⟨t317, A30, H⟩ := H
 replace H : (if t317 = 0 then ((path_Good.f a1).bind fun t318 => (if t318 = true then ((merkle_Find.f k l0 a1).bind fun bt319 => (if bt319.2 = true then (some (0, (⟨#[]⟩ : ByteArray), (⟨#[]⟩ : ByteArray), (⟨#[]⟩ : ByteArray), (⟨#[]⟩ : ByteArray), ([] : List ByteArray), ([] : List ByteArray), 7)) else (if bt319.1 > 0 then (if 0 ≤ (wrap64 (bt319.1 - 1)) then (if (wrap64 (bt319.1 - 1)) < (l0.length : Int) then ((merkle_prove.f k l0 (wrap64 (bt319.1 - 1))).bind fun t323 => (merkle_Absent.j0 k l0 bt319.1 bt319.1 ((rd_T44 l0 (wrap64 (bt319.1 - 1))).f0) ((rd_T44 l0 (wrap64 (bt319.1 - 1))).f1) (⟨#[]⟩ : ByteArray) (⟨#[]⟩ : ByteArray) t323)) else (none)) else (none)) else (merkle_Absent.j0 k l0 bt319.1 bt319.1 (⟨#[]⟩ : ByteArray) (⟨#[]⟩ : ByteArray) (⟨#[]⟩ : ByteArray) (⟨#[]⟩ : ByteArray) ([] : List ByteArray))))) else (some (0, (⟨#[]⟩ : ByteArray), (⟨#[]⟩ : ByteArray), (⟨#[]⟩ : ByteArray), (⟨#[]⟩ : ByteArray), ([] : List ByteArray), ([] : List ByteArray), 1)))) else (some (0, (⟨#[]⟩ : ByteArray), (⟨#[]⟩ : ByteArray), (⟨#[]⟩ : ByteArray), (⟨#[]⟩ : ByteArray), ([] : List ByteArray), ([] : List ByteArray), t317))) = some (r1, r2, r3, r4, r5, r6, r7, r8) := H
 have A3 := Aside0.mk A30
 clear A30
 by_cases c4 : t317 = 0
 case neg =>
  rw [if_neg c4] at H
  have c4b0 : (t317 == 0) = false := beq_eq_false_iff_ne.mpr c4
  have c4b1 : (t317 != 0) = true := bne_iff_ne.mpr c4
  simp only [Option.some.injEq, Prod.mk.injEq] at H
  obtain ⟨rfl, rfl, rfl, rfl, rfl, rfl, rfl, rfl⟩ := H
  go_enter Tryd.func39, Tryd.ntmps39
  go_wp2_with (first | ((with_reducible refine gate_dst (N := 4) rfl ?_); refine box_event ?hg (N := 4) ?hd (cs := #[.int .i64 0, .string (⟨#[]⟩ : ByteArray), .string (⟨#[]⟩ : ByteArray), .string (⟨#[]⟩ : ByteArray), .string (⟨#[]⟩ : ByteArray), .slice none 0 0, .slice none 0 0]) (t := 57) ?hr ?_; (case hd => rfl); (case hg => rfl); (case hr => first | (go_simp; done) | (go_simp; rfl)); intro gb316 hg w55 hbox hb; have n0_ := Aside0.mk (below_step m11_ hb); have n1_ := Aside0.mk (hbox); have n2_ := Aside0.mk ((by rw [hg]; exact (below_size m11_) : w.heap.size ≤ gb316)); have n3_ := Aside0.mk ((by rw [hg]; exact (below_size m11_) : w.heap.size ≤ gb316)); clear HB; have HB := n0_; have BK316 := n1_; have GW316 := n2_; have GE316 := n3_; clear n0_ n1_ n2_ n3_; clear hb hbox hg) | ((with_reducible refine gate_callee (f := 15) rfl ?_); refine goesL_ (some 11) rfl rfl Tryd.func15 (by kernel_rfl) rfl #[.slice A0 l0.length c0] rfl m10_ ?_; (with_reducible refine (merkle_Check.calls k _ _ l0 t317 _ ?side1 ?side2 A3.out).mono ?_); (case side1 => exact m30_); (case side2 => exact HC0.out); rintro e w56 ⟨rfl, hb⟩; refine ⟨_, rfl, ?_⟩; replace BK316 := Aside0.mk (blk_below (g := gb316) (o := .cells #[.int .i64 0, .string (⟨#[]⟩ : ByteArray), .string (⟨#[]⟩ : ByteArray), .string (⟨#[]⟩ : ByteArray), .string (⟨#[]⟩ : ByteArray), .slice none 0 0, .slice none 0 0] 57 (0, 0)) m13_ hb); replace HB := Aside0.mk (below_step m2_ hb); (try clear hb); (try clear hb2); (try clear hk); (try clear hi); obtain ⟨hcz57_0, hcz57_1, hcz57_2, hcz57_3, hcz57_4, hcz57_5, hcz57_6⟩ := bc7_ BK316.out; obtain ⟨hfz57_0, hfz57_1, hfz57_2, hfz57_3, hfz57_4, hfz57_5, hfz57_6⟩ := bf7_ BK316.out))
  refine bodyPost_ret (results_ct rfl _ _ gb316 57 #[.int .i64 0, .string (⟨#[]⟩ : ByteArray), .string (⟨#[]⟩ : ByteArray), .string (⟨#[]⟩ : ByteArray), .string (⟨#[]⟩ : ByteArray), .slice none 0 0, .slice none 0 0] (0, 0) _ rfl (by (with_reducible repeat (first | refine blk_drewN ?_ _ | refine blk_drew ?_ | refine blk_alloc ?_ _)); refine blk_put (cs := #[.int .i64 0, .string (⟨#[]⟩ : ByteArray), .string (⟨#[]⟩ : ByteArray), .string (⟨#[]⟩ : ByteArray), .string (⟨#[]⟩ : ByteArray), .slice none 0 0, .slice none 0 0]) ?_ 6 _ rfl; (with_reducible repeat (first | refine blk_drewN ?_ _ | refine blk_drew ?_ | refine blk_alloc ?_ _)); refine blk_put (cs := #[.int .i64 0, .string (⟨#[]⟩ : ByteArray), .string (⟨#[]⟩ : ByteArray), .string (⟨#[]⟩ : ByteArray), .string (⟨#[]⟩ : ByteArray), .slice none 0 0, .slice none 0 0]) ?_ 5 _ rfl; (with_reducible repeat (first | refine blk_drewN ?_ _ | refine blk_drew ?_ | refine blk_alloc ?_ _)); refine blk_put (cs := #[.int .i64 0, .string (⟨#[]⟩ : ByteArray), .string (⟨#[]⟩ : ByteArray), .string (⟨#[]⟩ : ByteArray), .string (⟨#[]⟩ : ByteArray), .slice none 0 0, .slice none 0 0]) ?_ 4 _ rfl; (with_reducible repeat (first | refine blk_drewN ?_ _ | refine blk_drew ?_ | refine blk_alloc ?_ _)); refine blk_put (cs := #[.int .i64 0, .string (⟨#[]⟩ : ByteArray), .string (⟨#[]⟩ : ByteArray), .string (⟨#[]⟩ : ByteArray), .string (⟨#[]⟩ : ByteArray), .slice none 0 0, .slice none 0 0]) ?_ 3 _ rfl; (with_reducible repeat (first | refine blk_drewN ?_ _ | refine blk_drew ?_ | refine blk_alloc ?_ _)); refine blk_put (cs := #[.int .i64 0, .string (⟨#[]⟩ : ByteArray), .string (⟨#[]⟩ : ByteArray), .string (⟨#[]⟩ : ByteArray), .string (⟨#[]⟩ : ByteArray), .slice none 0 0, .slice none 0 0]) ?_ 2 _ rfl; (with_reducible repeat (first | refine blk_drewN ?_ _ | refine blk_drew ?_ | refine blk_alloc ?_ _)); refine blk_put (cs := #[.int .i64 0, .string (⟨#[]⟩ : ByteArray), .string (⟨#[]⟩ : ByteArray), .string (⟨#[]⟩ : ByteArray), .string (⟨#[]⟩ : ByteArray), .slice none 0 0, .slice none 0 0]) ?_ 1 _ rfl; (with_reducible repeat (first | refine blk_drewN ?_ _ | refine blk_drew ?_ | refine blk_alloc ?_ _)); refine blk_put (cs := #[.int .i64 0, .string (⟨#[]⟩ : ByteArray), .string (⟨#[]⟩ : ByteArray), .string (⟨#[]⟩ : ByteArray), .string (⟨#[]⟩ : ByteArray), .slice none 0 0, .slice none 0 0]) ?_ 0 _ rfl; (with_reducible repeat (first | refine blk_drewN ?_ _ | refine blk_drew ?_ | refine blk_alloc ?_ _)); exact BK316.out) Tryd.underlying57 rfl (by kernel_rfl)) rfl ?_
  exact ⟨_, _, by first | rfl | (simp [errW_none, errW_some] <;> rfl) | (simp [*, errW_none, errW_some] <;> rfl), by first | exact Kd.R_nil _ _ _ _ _ | exact Kd.N_nil _ _ _ _ _ | exact Kd.V_nil _ _ _ _ _ | exact Kd.Q_nil _ _ _ _ _ | exact Kd.S_nil _ _ _ _ _, by first | exact Kd.R_nil _ _ _ _ _ | exact Kd.N_nil _ _ _ _ _ | exact Kd.V_nil _ _ _ _ _ | exact Kd.Q_nil _ _ _ _ _ | exact Kd.S_nil _ _ _ _ _, m39_⟩
 rw [if_pos c4] at H
 have c4b0 : (t317 == 0) = true := beq_iff_eq.mpr c4
 have c4b1 : (t317 != 0) = false := bne_eq_false_iff_eq.mpr c4
 clear c4
 replace H := Option.bind_eq_some_iff.mp H
 obtain ⟨t318, A50, H⟩ := H
 replace H : (if t318 = true then ((merkle_Find.f k l0 a1).bind fun bt319 => (if bt319.2 = true then (some (0, (⟨#[]⟩ : ByteArray), (⟨#[]⟩ : ByteArray), (⟨#[]⟩ : ByteArray), (⟨#[]⟩ : ByteArray), ([] : List ByteArray), ([] : List ByteArray), 7)) else (if bt319.1 > 0 then (if 0 ≤ (wrap64 (bt319.1 - 1)) then (if (wrap64 (bt319.1 - 1)) < (l0.length : Int) then ((merkle_prove.f k l0 (wrap64 (bt319.1 - 1))).bind fun t323 => (merkle_Absent.j0 k l0 bt319.1 bt319.1 ((rd_T44 l0 (wrap64 (bt319.1 - 1))).f0) ((rd_T44 l0 (wrap64 (bt319.1 - 1))).f1) (⟨#[]⟩ : ByteArray) (⟨#[]⟩ : ByteArray) t323)) else (none)) else (none)) else (merkle_Absent.j0 k l0 bt319.1 bt319.1 (⟨#[]⟩ : ByteArray) (⟨#[]⟩ : ByteArray) (⟨#[]⟩ : ByteArray) (⟨#[]⟩ : ByteArray) ([] : List ByteArray))))) else (some (0, (⟨#[]⟩ : ByteArray), (⟨#[]⟩ : ByteArray), (⟨#[]⟩ : ByteArray), (⟨#[]⟩ : ByteArray), ([] : List ByteArray), ([] : List ByteArray), 1))) = some (r1, r2, r3, r4, r5, r6, r7, r8) := H
 have A5 := Aside0.mk A50
 clear A50
 by_cases c6 : t318 = true
 case neg =>
  replace c6 := Bool.eq_false_iff.mpr c6
  subst c6
  have H1 : (some (0, (⟨#[]⟩ : ByteArray), (⟨#[]⟩ : ByteArray), (⟨#[]⟩ : ByteArray), (⟨#[]⟩ : ByteArray), ([] : List ByteArray), ([] : List ByteArray), 1)) = some (r1, r2, r3, r4, r5, r6, r7, r8) := by rw [if_neg (show ¬ (false = true) by decide)] at H; exact H
  clear H
  have H := H1
  clear H1
  simp only [Option.some.injEq, Prod.mk.injEq] at H
  obtain ⟨rfl, rfl, rfl, rfl, rfl, rfl, rfl, rfl⟩ := H
  go_enter Tryd.func39, Tryd.ntmps39
  go_wp2_with (first | ((with_reducible refine gate_dst (N := 4) rfl ?_); refine box_event ?hg (N := 4) ?hd (cs := #[.int .i64 0, .string (⟨#[]⟩ : ByteArray), .string (⟨#[]⟩ : ByteArray), .string (⟨#[]⟩ : ByteArray), .string (⟨#[]⟩ : ByteArray), .slice none 0 0, .slice none 0 0]) (t := 57) ?hr ?_; (case hd => rfl); (case hg => rfl); (case hr => first | (go_simp; done) | (go_simp; rfl)); intro gb316 hg w51 hbox hb; have n0_ := Aside0.mk (below_step m11_ hb); have n1_ := Aside0.mk (hbox); have n2_ := Aside0.mk ((by rw [hg]; exact (below_size m11_) : w.heap.size ≤ gb316)); have n3_ := Aside0.mk ((by rw [hg]; exact (below_size m11_) : w.heap.size ≤ gb316)); clear HB; have HB := n0_; have BK316 := n1_; have GW316 := n2_; have GE316 := n3_; clear n0_ n1_ n2_ n3_; clear hb hbox hg) | ((with_reducible refine gate_callee (f := 15) rfl ?_); refine goesL_ (some 11) rfl rfl Tryd.func15 (by kernel_rfl) rfl #[.slice A0 l0.length c0] rfl m10_ ?_; (with_reducible refine (merkle_Check.calls k _ _ l0 t317 _ ?side1 ?side2 A3.out).mono ?_); (case side1 => exact m30_); (case side2 => exact HC0.out); rintro e w52 ⟨rfl, hb⟩; refine ⟨_, rfl, ?_⟩; replace BK316 := Aside0.mk (blk_below (g := gb316) (o := .cells #[.int .i64 0, .string (⟨#[]⟩ : ByteArray), .string (⟨#[]⟩ : ByteArray), .string (⟨#[]⟩ : ByteArray), .string (⟨#[]⟩ : ByteArray), .slice none 0 0, .slice none 0 0] 57 (0, 0)) m13_ hb); replace HB := Aside0.mk (below_step m2_ hb); (try clear hb); (try clear hb2); (try clear hk); (try clear hi)) | ((with_reducible refine gate_callee (f := 53) rfl ?_); refine goesL_ (some 17) rfl rfl Tryd.func53 (by kernel_rfl) rfl #[.string a1] rfl m10_ ?_; (with_reducible refine (path_Good.calls a1 false _ A5.out).mono ?_); rintro e w53 ⟨rfl, hb⟩; refine ⟨_, rfl, ?_⟩; replace BK316 := Aside0.mk (blk_below (g := gb316) (o := .cells #[.int .i64 0, .string (⟨#[]⟩ : ByteArray), .string (⟨#[]⟩ : ByteArray), .string (⟨#[]⟩ : ByteArray), .string (⟨#[]⟩ : ByteArray), .slice none 0 0, .slice none 0 0] 57 (0, 0)) m13_ hb); replace HB := Aside0.mk (below_step m2_ hb); (try clear hb); (try clear hb2); (try clear hk); (try clear hi); obtain ⟨hcz54_0, hcz54_1, hcz54_2, hcz54_3, hcz54_4, hcz54_5, hcz54_6⟩ := bc7_ BK316.out; obtain ⟨hfz54_0, hfz54_1, hfz54_2, hfz54_3, hfz54_4, hfz54_5, hfz54_6⟩ := bf7_ BK316.out))
  refine bodyPost_ret (results_ct rfl _ _ gb316 57 #[.int .i64 0, .string (⟨#[]⟩ : ByteArray), .string (⟨#[]⟩ : ByteArray), .string (⟨#[]⟩ : ByteArray), .string (⟨#[]⟩ : ByteArray), .slice none 0 0, .slice none 0 0] (0, 0) _ rfl (by (with_reducible repeat (first | refine blk_drewN ?_ _ | refine blk_drew ?_ | refine blk_alloc ?_ _)); refine blk_put (cs := #[.int .i64 0, .string (⟨#[]⟩ : ByteArray), .string (⟨#[]⟩ : ByteArray), .string (⟨#[]⟩ : ByteArray), .string (⟨#[]⟩ : ByteArray), .slice none 0 0, .slice none 0 0]) ?_ 6 _ rfl; (with_reducible repeat (first | refine blk_drewN ?_ _ | refine blk_drew ?_ | refine blk_alloc ?_ _)); refine blk_put (cs := #[.int .i64 0, .string (⟨#[]⟩ : ByteArray), .string (⟨#[]⟩ : ByteArray), .string (⟨#[]⟩ : ByteArray), .string (⟨#[]⟩ : ByteArray), .slice none 0 0, .slice none 0 0]) ?_ 5 _ rfl; (with_reducible repeat (first | refine blk_drewN ?_ _ | refine blk_drew ?_ | refine blk_alloc ?_ _)); refine blk_put (cs := #[.int .i64 0, .string (⟨#[]⟩ : ByteArray), .string (⟨#[]⟩ : ByteArray), .string (⟨#[]⟩ : ByteArray), .string (⟨#[]⟩ : ByteArray), .slice none 0 0, .slice none 0 0]) ?_ 4 _ rfl; (with_reducible repeat (first | refine blk_drewN ?_ _ | refine blk_drew ?_ | refine blk_alloc ?_ _)); refine blk_put (cs := #[.int .i64 0, .string (⟨#[]⟩ : ByteArray), .string (⟨#[]⟩ : ByteArray), .string (⟨#[]⟩ : ByteArray), .string (⟨#[]⟩ : ByteArray), .slice none 0 0, .slice none 0 0]) ?_ 3 _ rfl; (with_reducible repeat (first | refine blk_drewN ?_ _ | refine blk_drew ?_ | refine blk_alloc ?_ _)); refine blk_put (cs := #[.int .i64 0, .string (⟨#[]⟩ : ByteArray), .string (⟨#[]⟩ : ByteArray), .string (⟨#[]⟩ : ByteArray), .string (⟨#[]⟩ : ByteArray), .slice none 0 0, .slice none 0 0]) ?_ 2 _ rfl; (with_reducible repeat (first | refine blk_drewN ?_ _ | refine blk_drew ?_ | refine blk_alloc ?_ _)); refine blk_put (cs := #[.int .i64 0, .string (⟨#[]⟩ : ByteArray), .string (⟨#[]⟩ : ByteArray), .string (⟨#[]⟩ : ByteArray), .string (⟨#[]⟩ : ByteArray), .slice none 0 0, .slice none 0 0]) ?_ 1 _ rfl; (with_reducible repeat (first | refine blk_drewN ?_ _ | refine blk_drew ?_ | refine blk_alloc ?_ _)); refine blk_put (cs := #[.int .i64 0, .string (⟨#[]⟩ : ByteArray), .string (⟨#[]⟩ : ByteArray), .string (⟨#[]⟩ : ByteArray), .string (⟨#[]⟩ : ByteArray), .slice none 0 0, .slice none 0 0]) ?_ 0 _ rfl; (with_reducible repeat (first | refine blk_drewN ?_ _ | refine blk_drew ?_ | refine blk_alloc ?_ _)); exact BK316.out) Tryd.underlying57 rfl (by kernel_rfl)) rfl ?_
  exact ⟨_, _, by first | rfl | (simp [errW_none, errW_some] <;> rfl) | (simp [*, errW_none, errW_some] <;> rfl), by first | exact Kd.R_nil _ _ _ _ _ | exact Kd.N_nil _ _ _ _ _ | exact Kd.V_nil _ _ _ _ _ | exact Kd.Q_nil _ _ _ _ _ | exact Kd.S_nil _ _ _ _ _, by first | exact Kd.R_nil _ _ _ _ _ | exact Kd.N_nil _ _ _ _ _ | exact Kd.V_nil _ _ _ _ _ | exact Kd.Q_nil _ _ _ _ _ | exact Kd.S_nil _ _ _ _ _, m39_⟩
 subst c6
 have H1 : ((merkle_Find.f k l0 a1).bind fun bt319 => (if bt319.2 = true then (some (0, (⟨#[]⟩ : ByteArray), (⟨#[]⟩ : ByteArray), (⟨#[]⟩ : ByteArray), (⟨#[]⟩ : ByteArray), ([] : List ByteArray), ([] : List ByteArray), 7)) else (if bt319.1 > 0 then (if 0 ≤ (wrap64 (bt319.1 - 1)) then (if (wrap64 (bt319.1 - 1)) < (l0.length : Int) then ((merkle_prove.f k l0 (wrap64 (bt319.1 - 1))).bind fun t323 => (merkle_Absent.j0 k l0 bt319.1 bt319.1 ((rd_T44 l0 (wrap64 (bt319.1 - 1))).f0) ((rd_T44 l0 (wrap64 (bt319.1 - 1))).f1) (⟨#[]⟩ : ByteArray) (⟨#[]⟩ : ByteArray) t323)) else (none)) else (none)) else (merkle_Absent.j0 k l0 bt319.1 bt319.1 (⟨#[]⟩ : ByteArray) (⟨#[]⟩ : ByteArray) (⟨#[]⟩ : ByteArray) (⟨#[]⟩ : ByteArray) ([] : List ByteArray))))) = some (r1, r2, r3, r4, r5, r6, r7, r8) := by rw [if_pos rfl] at H; exact H
 clear H
 have H := H1
 clear H1
 replace H := Option.bind_eq_some_iff.mp H
 obtain ⟨⟨t319, t320⟩, A70, H⟩ := H
 replace H : (if t320 = true then (some (0, (⟨#[]⟩ : ByteArray), (⟨#[]⟩ : ByteArray), (⟨#[]⟩ : ByteArray), (⟨#[]⟩ : ByteArray), ([] : List ByteArray), ([] : List ByteArray), 7)) else (if t319 > 0 then (if 0 ≤ (wrap64 (t319 - 1)) then (if (wrap64 (t319 - 1)) < (l0.length : Int) then ((merkle_prove.f k l0 (wrap64 (t319 - 1))).bind fun t323 => (merkle_Absent.j0 k l0 t319 t319 ((rd_T44 l0 (wrap64 (t319 - 1))).f0) ((rd_T44 l0 (wrap64 (t319 - 1))).f1) (⟨#[]⟩ : ByteArray) (⟨#[]⟩ : ByteArray) t323)) else (none)) else (none)) else (merkle_Absent.j0 k l0 t319 t319 (⟨#[]⟩ : ByteArray) (⟨#[]⟩ : ByteArray) (⟨#[]⟩ : ByteArray) (⟨#[]⟩ : ByteArray) ([] : List ByteArray)))) = some (r1, r2, r3, r4, r5, r6, r7, r8) := H
 have A7 := Aside0.mk A70
 clear A70
 by_cases c8 : t320 = true
 ·subst c8
  have H1 : (some (0, (⟨#[]⟩ : ByteArray), (⟨#[]⟩ : ByteArray), (⟨#[]⟩ : ByteArray), (⟨#[]⟩ : ByteArray), ([] : List ByteArray), ([] : List ByteArray), 7)) = some (r1, r2, r3, r4, r5, r6, r7, r8) := by rw [if_pos rfl] at H; exact H
  clear H
  have H := H1
  clear H1
  simp only [Option.some.injEq, Prod.mk.injEq] at H
  obtain ⟨rfl, rfl, rfl, rfl, rfl, rfl, rfl, rfl⟩ := H
  go_enter Tryd.func39, Tryd.ntmps39
  go_wp2_with (first | ((with_reducible refine gate_dst (N := 4) rfl ?_); refine box_event ?hg (N := 4) ?hd (cs := #[.int .i64 0, .string (⟨#[]⟩ : ByteArray), .string (⟨#[]⟩ : ByteArray), .string (⟨#[]⟩ : ByteArray), .string (⟨#[]⟩ : ByteArray), .slice none 0 0, .slice none 0 0]) (t := 57) ?hr ?_; (case hd => rfl); (case hg => rfl); (case hr => first | (go_simp; done) | (go_simp; rfl)); intro gb316 hg w9 hbox hb; have n0_ := Aside0.mk (below_step m11_ hb); have n1_ := Aside0.mk (hbox); have n2_ := Aside0.mk ((by rw [hg]; exact (below_size m11_) : w.heap.size ≤ gb316)); have n3_ := Aside0.mk ((by rw [hg]; exact (below_size m11_) : w.heap.size ≤ gb316)); clear HB; have HB := n0_; have BK316 := n1_; have GW316 := n2_; have GE316 := n3_; clear n0_ n1_ n2_ n3_; clear hb hbox hg) | ((with_reducible refine gate_callee (f := 15) rfl ?_); refine goesL_ (some 11) rfl rfl Tryd.func15 (by kernel_rfl) rfl #[.slice A0 l0.length c0] rfl m10_ ?_; (with_reducible refine (merkle_Check.calls k _ _ l0 t317 _ ?side1 ?side2 A3.out).mono ?_); (case side1 => exact m30_); (case side2 => exact HC0.out); rintro e w10 ⟨rfl, hb⟩; refine ⟨_, rfl, ?_⟩; replace BK316 := Aside0.mk (blk_below (g := gb316) (o := .cells #[.int .i64 0, .string (⟨#[]⟩ : ByteArray), .string (⟨#[]⟩ : ByteArray), .string (⟨#[]⟩ : ByteArray), .string (⟨#[]⟩ : ByteArray), .slice none 0 0, .slice none 0 0] 57 (0, 0)) m13_ hb); replace HB := Aside0.mk (below_step m2_ hb); (try clear hb); (try clear hb2); (try clear hk); (try clear hi)) | ((with_reducible refine gate_callee (f := 53) rfl ?_); refine goesL_ (some 17) rfl rfl Tryd.func53 (by kernel_rfl) rfl #[.string a1] rfl m10_ ?_; (with_reducible refine (path_Good.calls a1 true _ A5.out).mono ?_); rintro e w11 ⟨rfl, hb⟩; refine ⟨_, rfl, ?_⟩; replace BK316 := Aside0.mk (blk_below (g := gb316) (o := .cells #[.int .i64 0, .string (⟨#[]⟩ : ByteArray), .string (⟨#[]⟩ : ByteArray), .string (⟨#[]⟩ : ByteArray), .string (⟨#[]⟩ : ByteArray), .slice none 0 0, .slice none 0 0] 57 (0, 0)) m13_ hb); replace HB := Aside0.mk (below_step m2_ hb); (try clear hb); (try clear hb2); (try clear hk); (try clear hi)) | ((with_reducible refine gate_callee (f := 38) rfl ?_); refine goesL_ (some 23) rfl rfl Tryd.func38 (by kernel_rfl) rfl #[.slice A0 l0.length c0, .string a1] rfl m10_ ?_; (with_reducible refine (merkle_Find.calls k _ _ l0 a1 t319 true _ ?side1 ?side2 A7.out).mono ?_); (case side1 => exact m30_); (case side2 => exact HC0.out); rintro e w12 ⟨rfl, hb⟩; refine ⟨_, rfl, ?_⟩; replace BK316 := Aside0.mk (blk_below (g := gb316) (o := .cells #[.int .i64 0, .string (⟨#[]⟩ : ByteArray), .string (⟨#[]⟩ : ByteArray), .string (⟨#[]⟩ : ByteArray), .string (⟨#[]⟩ : ByteArray), .slice none 0 0, .slice none 0 0] 57 (0, 0)) m13_ hb); replace HB := Aside0.mk (below_step m2_ hb); (try clear hb); (try clear hb2); (try clear hk); (try clear hi); obtain ⟨hcz13_0, hcz13_1, hcz13_2, hcz13_3, hcz13_4, hcz13_5, hcz13_6⟩ := bc7_ BK316.out; obtain ⟨hfz13_0, hfz13_1, hfz13_2, hfz13_3, hfz13_4, hfz13_5, hfz13_6⟩ := bf7_ BK316.out))
  refine bodyPost_ret (results_ct rfl _ _ gb316 57 #[.int .i64 0, .string (⟨#[]⟩ : ByteArray), .string (⟨#[]⟩ : ByteArray), .string (⟨#[]⟩ : ByteArray), .string (⟨#[]⟩ : ByteArray), .slice none 0 0, .slice none 0 0] (0, 0) _ rfl (by (with_reducible repeat (first | refine blk_drewN ?_ _ | refine blk_drew ?_ | refine blk_alloc ?_ _)); refine blk_put (cs := #[.int .i64 0, .string (⟨#[]⟩ : ByteArray), .string (⟨#[]⟩ : ByteArray), .string (⟨#[]⟩ : ByteArray), .string (⟨#[]⟩ : ByteArray), .slice none 0 0, .slice none 0 0]) ?_ 6 _ rfl; (with_reducible repeat (first | refine blk_drewN ?_ _ | refine blk_drew ?_ | refine blk_alloc ?_ _)); refine blk_put (cs := #[.int .i64 0, .string (⟨#[]⟩ : ByteArray), .string (⟨#[]⟩ : ByteArray), .string (⟨#[]⟩ : ByteArray), .string (⟨#[]⟩ : ByteArray), .slice none 0 0, .slice none 0 0]) ?_ 5 _ rfl; (with_reducible repeat (first | refine blk_drewN ?_ _ | refine blk_drew ?_ | refine blk_alloc ?_ _)); refine blk_put (cs := #[.int .i64 0, .string (⟨#[]⟩ : ByteArray), .string (⟨#[]⟩ : ByteArray), .string (⟨#[]⟩ : ByteArray), .string (⟨#[]⟩ : ByteArray), .slice none 0 0, .slice none 0 0]) ?_ 4 _ rfl; (with_reducible repeat (first | refine blk_drewN ?_ _ | refine blk_drew ?_ | refine blk_alloc ?_ _)); refine blk_put (cs := #[.int .i64 0, .string (⟨#[]⟩ : ByteArray), .string (⟨#[]⟩ : ByteArray), .string (⟨#[]⟩ : ByteArray), .string (⟨#[]⟩ : ByteArray), .slice none 0 0, .slice none 0 0]) ?_ 3 _ rfl; (with_reducible repeat (first | refine blk_drewN ?_ _ | refine blk_drew ?_ | refine blk_alloc ?_ _)); refine blk_put (cs := #[.int .i64 0, .string (⟨#[]⟩ : ByteArray), .string (⟨#[]⟩ : ByteArray), .string (⟨#[]⟩ : ByteArray), .string (⟨#[]⟩ : ByteArray), .slice none 0 0, .slice none 0 0]) ?_ 2 _ rfl; (with_reducible repeat (first | refine blk_drewN ?_ _ | refine blk_drew ?_ | refine blk_alloc ?_ _)); refine blk_put (cs := #[.int .i64 0, .string (⟨#[]⟩ : ByteArray), .string (⟨#[]⟩ : ByteArray), .string (⟨#[]⟩ : ByteArray), .string (⟨#[]⟩ : ByteArray), .slice none 0 0, .slice none 0 0]) ?_ 1 _ rfl; (with_reducible repeat (first | refine blk_drewN ?_ _ | refine blk_drew ?_ | refine blk_alloc ?_ _)); refine blk_put (cs := #[.int .i64 0, .string (⟨#[]⟩ : ByteArray), .string (⟨#[]⟩ : ByteArray), .string (⟨#[]⟩ : ByteArray), .string (⟨#[]⟩ : ByteArray), .slice none 0 0, .slice none 0 0]) ?_ 0 _ rfl; (with_reducible repeat (first | refine blk_drewN ?_ _ | refine blk_drew ?_ | refine blk_alloc ?_ _)); exact BK316.out) Tryd.underlying57 rfl (by kernel_rfl)) rfl ?_
  exact ⟨_, _, by first | rfl | (simp [errW_none, errW_some] <;> rfl) | (simp [*, errW_none, errW_some] <;> rfl), by first | exact Kd.R_nil _ _ _ _ _ | exact Kd.N_nil _ _ _ _ _ | exact Kd.V_nil _ _ _ _ _ | exact Kd.Q_nil _ _ _ _ _ | exact Kd.S_nil _ _ _ _ _, by first | exact Kd.R_nil _ _ _ _ _ | exact Kd.N_nil _ _ _ _ _ | exact Kd.V_nil _ _ _ _ _ | exact Kd.Q_nil _ _ _ _ _ | exact Kd.S_nil _ _ _ _ _, m39_⟩
 replace c8 := Bool.eq_false_iff.mpr c8
 subst c8
 have H1 : (if t319 > 0 then (if 0 ≤ (wrap64 (t319 - 1)) then (if (wrap64 (t319 - 1)) < (l0.length : Int) then ((merkle_prove.f k l0 (wrap64 (t319 - 1))).bind fun t323 => (merkle_Absent.j0 k l0 t319 t319 ((rd_T44 l0 (wrap64 (t319 - 1))).f0) ((rd_T44 l0 (wrap64 (t319 - 1))).f1) (⟨#[]⟩ : ByteArray) (⟨#[]⟩ : ByteArray) t323)) else (none)) else (none)) else (merkle_Absent.j0 k l0 t319 t319 (⟨#[]⟩ : ByteArray) (⟨#[]⟩ : ByteArray) (⟨#[]⟩ : ByteArray) (⟨#[]⟩ : ByteArray) ([] : List ByteArray))) = some (r1, r2, r3, r4, r5, r6, r7, r8) := by rw [if_neg (show ¬ (false = true) by decide)] at H; exact H
 clear H
 have H := H1
 clear H1
 have HC14 := Aside0.mk H
 clear H
 go_enter Tryd.func39, Tryd.ntmps39
 go_upto_if 31 with (first | ((with_reducible refine gate_dst (N := 4) rfl ?_); refine box_event ?hg (N := 4) ?hd (cs := #[.int .i64 0, .string (⟨#[]⟩ : ByteArray), .string (⟨#[]⟩ : ByteArray), .string (⟨#[]⟩ : ByteArray), .string (⟨#[]⟩ : ByteArray), .slice none 0 0, .slice none 0 0]) (t := 57) ?hr ?_; (case hd => rfl); (case hg => rfl); (case hr => first | (go_simp; done) | (go_simp; rfl)); intro gb316 hg w15 hbox hb; have n0_ := Aside0.mk (below_step m11_ hb); have n1_ := Aside0.mk (hbox); have n2_ := Aside0.mk ((by rw [hg]; exact (below_size m11_) : w.heap.size ≤ gb316)); have n3_ := Aside0.mk ((by rw [hg]; exact (below_size m11_) : w.heap.size ≤ gb316)); clear HB; have HB := n0_; have BK316 := n1_; have GW316 := n2_; have GE316 := n3_; clear n0_ n1_ n2_ n3_; clear hb hbox hg) | ((with_reducible refine gate_callee (f := 15) rfl ?_); refine goesL_ (some 11) rfl rfl Tryd.func15 (by kernel_rfl) rfl #[.slice A0 l0.length c0] rfl m10_ ?_; (with_reducible refine (merkle_Check.calls k _ _ l0 t317 _ ?side1 ?side2 A3.out).mono ?_); (case side1 => exact m30_); (case side2 => exact HC0.out); rintro e w16 ⟨rfl, hb⟩; refine ⟨_, rfl, ?_⟩; replace BK316 := Aside0.mk (blk_below (g := gb316) (o := .cells #[.int .i64 0, .string (⟨#[]⟩ : ByteArray), .string (⟨#[]⟩ : ByteArray), .string (⟨#[]⟩ : ByteArray), .string (⟨#[]⟩ : ByteArray), .slice none 0 0, .slice none 0 0] 57 (0, 0)) m13_ hb); replace HB := Aside0.mk (below_step m2_ hb); (try clear hb); (try clear hb2); (try clear hk); (try clear hi)) | ((with_reducible refine gate_callee (f := 53) rfl ?_); refine goesL_ (some 17) rfl rfl Tryd.func53 (by kernel_rfl) rfl #[.string a1] rfl m10_ ?_; (with_reducible refine (path_Good.calls a1 true _ A5.out).mono ?_); rintro e w17 ⟨rfl, hb⟩; refine ⟨_, rfl, ?_⟩; replace BK316 := Aside0.mk (blk_below (g := gb316) (o := .cells #[.int .i64 0, .string (⟨#[]⟩ : ByteArray), .string (⟨#[]⟩ : ByteArray), .string (⟨#[]⟩ : ByteArray), .string (⟨#[]⟩ : ByteArray), .slice none 0 0, .slice none 0 0] 57 (0, 0)) m13_ hb); replace HB := Aside0.mk (below_step m2_ hb); (try clear hb); (try clear hb2); (try clear hk); (try clear hi)) | ((with_reducible refine gate_callee (f := 38) rfl ?_); refine goesL_ (some 23) rfl rfl Tryd.func38 (by kernel_rfl) rfl #[.slice A0 l0.length c0, .string a1] rfl m10_ ?_; (with_reducible refine (merkle_Find.calls k _ _ l0 a1 t319 false _ ?side1 ?side2 A7.out).mono ?_); (case side1 => exact m30_); (case side2 => exact HC0.out); rintro e w18 ⟨rfl, hb⟩; refine ⟨_, rfl, ?_⟩; replace BK316 := Aside0.mk (blk_below (g := gb316) (o := .cells #[.int .i64 0, .string (⟨#[]⟩ : ByteArray), .string (⟨#[]⟩ : ByteArray), .string (⟨#[]⟩ : ByteArray), .string (⟨#[]⟩ : ByteArray), .slice none 0 0, .slice none 0 0] 57 (0, 0)) m13_ hb); replace HB := Aside0.mk (below_step m2_ hb); (try clear hb); (try clear hb2); (try clear hk); (try clear hi)) | ((with_reducible refine gate_dst (N := 9) rfl ?_); refine box_event ?hg (N := 9) ?hd (cs := #[.int .i64 0, .string (⟨#[]⟩ : ByteArray), .string (⟨#[]⟩ : ByteArray), .string (⟨#[]⟩ : ByteArray), .string (⟨#[]⟩ : ByteArray), .slice none 0 0, .slice none 0 0]) (t := 57) ?hr ?_; (case hd => rfl); (case hg => rfl); (case hr => first | (go_simp; done) | (go_simp; rfl)); intro gb321 hg w19 hbox hb; have n0_ := Aside0.mk (blk_below (g := gb316) (o := .cells #[.int .i64 0, .string (⟨#[]⟩ : ByteArray), .string (⟨#[]⟩ : ByteArray), .string (⟨#[]⟩ : ByteArray), .string (⟨#[]⟩ : ByteArray), .slice none 0 0, .slice none 0 0] 57 (0, 0)) m13_ hb); have n1_ := Aside0.mk (below_step m2_ hb); have n2_ := Aside0.mk (hbox); have n3_ := Aside0.mk ((by rw [hg]; exact (below_size m2_) : w.heap.size ≤ gb321)); have n4_ := Aside0.mk ((by rw [hg]; exact (below_size m2_) : w.heap.size ≤ gb321)); have n5_ := Aside0.mk ((by rw [hg]; exact Nat.ne_of_lt (blk_lt (g := gb316) (o := .cells #[.int .i64 0, .string (⟨#[]⟩ : ByteArray), .string (⟨#[]⟩ : ByteArray), .string (⟨#[]⟩ : ByteArray), .string (⟨#[]⟩ : ByteArray), .slice none 0 0, .slice none 0 0] 57 (0, 0)) m13_) : gb316 ≠ gb321)); have n6_ := Aside0.mk ((by rw [hg]; exact Nat.ne_of_gt (blk_lt (g := gb316) (o := .cells #[.int .i64 0, .string (⟨#[]⟩ : ByteArray), .string (⟨#[]⟩ : ByteArray), .string (⟨#[]⟩ : ByteArray), .string (⟨#[]⟩ : ByteArray), .slice none 0 0, .slice none 0 0] 57 (0, 0)) m13_) : gb321 ≠ gb316)); clear BK316; clear HB; have BK316 := n0_; have HB := n1_; have BK321 := n2_; have GW321 := n3_; have GE321 := n4_; have NB316_321 := n5_; have NB321_316 := n6_; clear n0_ n1_ n2_ n3_ n4_ n5_ n6_; clear hb hbox hg; have hnb20 := NB321_316.out; have hnc20 := NB316_321.out; obtain ⟨hcz21_0, hcz21_1, hcz21_2, hcz21_3, hcz21_4, hcz21_5, hcz21_6⟩ := bc7_ BK321.out; obtain ⟨hfz21_0, hfz21_1, hfz21_2, hfz21_3, hfz21_4, hfz21_5, hfz21_6⟩ := bf7_ BK321.out))
 (try simp only [Act.put, List.setIfInBounds_toArray, List.set_cons_zero, List.set_cons_succ])
 go_cut [] (fun wc => ∃ (kq : Nat) (x322001_13 : ByteArray) (x322002_13 : ByteArray) (x322005_13 : List ByteArray) (u322005 : Value), Aside0 (merkle_Absent.j0 kq l0 t319 t319 x322001_13 x322002_13 (⟨#[]⟩ : ByteArray) (⟨#[]⟩ : ByteArray) x322005_13 = some (r1, r2, r3, r4, r5, r6, r7, r8)) ∧ Aside0 (kq ≤ k) ∧ Aside0 (Kd.R Kd.string 9 wc w.heap.size (fun _ => True) u322005 x322005_13) ∧ Aside0 (wc.heap[gb316]? = some (.cells #[.int .i64 0, .string (⟨#[]⟩ : ByteArray), .string (⟨#[]⟩ : ByteArray), .string (⟨#[]⟩ : ByteArray), .string (⟨#[]⟩ : ByteArray), (.slice none 0 0), (.slice none 0 0)] 57 (0, 0))) ∧ Aside0 (wc.heap[gb321]? = some (.cells #[.int .i64 t319, .string x322001_13, .string x322002_13, .string (⟨#[]⟩ : ByteArray), .string (⟨#[]⟩ : ByteArray), u322005, (.slice none 0 0)] 57 (0, 0))) ∧ Aside0 (Below w.heap.size w wc))
 case first =>
  have H := HC14.out
  clear HC14
  by_cases c22 : t319 > 0
  case neg =>
   rw [if_neg c22] at H
   have c22b0 : decide (0 < t319) = false := decide_eq_false c22
   clear c22
   (first | rw [c22b0] | (simp only [i64_w, i32_w]; rw [c22b0]) | skip)
   have H' := Aside0.mk H
   clear H
   go_wp2
   go_meet
   case rel => exact ⟨_, ((⟨#[]⟩ : ByteArray)), ((⟨#[]⟩ : ByteArray)), (([] : List ByteArray)), (.slice none 0 0), H', ⟨by first | omega | exact Nat.le_refl _⟩, ⟨by first | exact Kd.R_nil _ _ _ _ _ | exact Kd.N_nil _ _ _ _ _ | exact Kd.V_nil _ _ _ _ _ | exact Kd.Q_nil _ _ _ _ _ | exact Kd.S_nil _ _ _ _ _⟩, ⟨by (with_reducible repeat (first | refine blk_drewN ?_ _ | refine blk_drew ?_ | refine blk_alloc ?_ _)); refine blk_far ?_ NB316_321.out _; (with_reducible repeat (first | refine blk_drewN ?_ _ | refine blk_drew ?_ | refine blk_alloc ?_ _)); refine blk_far ?_ NB316_321.out _; (with_reducible repeat (first | refine blk_drewN ?_ _ | refine blk_drew ?_ | refine blk_alloc ?_ _)); refine blk_far ?_ NB316_321.out _; (with_reducible repeat (first | refine blk_drewN ?_ _ | refine blk_drew ?_ | refine blk_alloc ?_ _)); refine blk_far ?_ NB316_321.out _; (with_reducible repeat (first | refine blk_drewN ?_ _ | refine blk_drew ?_ | refine blk_alloc ?_ _)); refine blk_far ?_ NB316_321.out _; (with_reducible repeat (first | refine blk_drewN ?_ _ | refine blk_drew ?_ | refine blk_alloc ?_ _)); refine blk_far ?_ NB316_321.out _; (with_reducible repeat (first | refine blk_drewN ?_ _ | refine blk_drew ?_ | refine blk_alloc ?_ _)); refine blk_far ?_ NB316_321.out _; (with_reducible repeat (first | refine blk_drewN ?_ _ | refine blk_drew ?_ | refine blk_alloc ?_ _)); exact BK316.out⟩, ⟨by (with_reducible repeat (first | refine blk_drewN ?_ _ | refine blk_drew ?_ | refine blk_alloc ?_ _)); refine blk_put (cs := #[.int .i64 t319, .string (⟨#[]⟩ : ByteArray), .string (⟨#[]⟩ : ByteArray), .string (⟨#[]⟩ : ByteArray), .string (⟨#[]⟩ : ByteArray), .slice none 0 0, .slice none 0 0]) ?_ 6 _ rfl; (with_reducible repeat (first | refine blk_drewN ?_ _ | refine blk_drew ?_ | refine blk_alloc ?_ _)); refine blk_put (cs := #[.int .i64 t319, .string (⟨#[]⟩ : ByteArray), .string (⟨#[]⟩ : ByteArray), .string (⟨#[]⟩ : ByteArray), .string (⟨#[]⟩ : ByteArray), .slice none 0 0, .slice none 0 0]) ?_ 5 _ rfl; (with_reducible repeat (first | refine blk_drewN ?_ _ | refine blk_drew ?_ | refine blk_alloc ?_ _)); refine blk_put (cs := #[.int .i64 t319, .string (⟨#[]⟩ : ByteArray), .string (⟨#[]⟩ : ByteArray), .string (⟨#[]⟩ : ByteArray), .string (⟨#[]⟩ : ByteArray), .slice none 0 0, .slice none 0 0]) ?_ 4 _ rfl; (with_reducible repeat (first | refine blk_drewN ?_ _ | refine blk_drew ?_ | refine blk_alloc ?_ _)); refine blk_put (cs := #[.int .i64 t319, .string (⟨#[]⟩ : ByteArray), .string (⟨#[]⟩ : ByteArray), .string (⟨#[]⟩ : ByteArray), .string (⟨#[]⟩ : ByteArray), .slice none 0 0, .slice none 0 0]) ?_ 3 _ rfl; (with_reducible repeat (first | refine blk_drewN ?_ _ | refine blk_drew ?_ | refine blk_alloc ?_ _)); refine blk_put (cs := #[.int .i64 t319, .string (⟨#[]⟩ : ByteArray), .string (⟨#[]⟩ : ByteArray), .string (⟨#[]⟩ : ByteArray), .string (⟨#[]⟩ : ByteArray), .slice none 0 0, .slice none 0 0]) ?_ 2 _ rfl; (with_reducible repeat (first | refine blk_drewN ?_ _ | refine blk_drew ?_ | refine blk_alloc ?_ _)); refine blk_put (cs := #[.int .i64 t319, .string (⟨#[]⟩ : ByteArray), .string (⟨#[]⟩ : ByteArray), .string (⟨#[]⟩ : ByteArray), .string (⟨#[]⟩ : ByteArray), .slice none 0 0, .slice none 0 0]) ?_ 1 _ rfl; (with_reducible repeat (first | refine blk_drewN ?_ _ | refine blk_drew ?_ | refine blk_alloc ?_ _)); refine blk_put (cs := #[.int .i64 0, .string (⟨#[]⟩ : ByteArray), .string (⟨#[]⟩ : ByteArray), .string (⟨#[]⟩ : ByteArray), .string (⟨#[]⟩ : ByteArray), .slice none 0 0, .slice none 0 0]) ?_ 0 _ rfl; (with_reducible repeat (first | refine blk_drewN ?_ _ | refine blk_drew ?_ | refine blk_alloc ?_ _)); exact BK321.out⟩, ⟨m25_⟩⟩
  rw [if_pos c22] at H
  have c22b0 : decide (0 < t319) = true := decide_eq_true c22
  clear c22
  (first | rw [c22b0] | (simp only [i64_w, i32_w]; rw [c22b0]) | skip)
  obtain ⟨ji23, hji23⟩ : ∃ j_ : Int, (wrap64 (t319 - 1)) = j_ := ⟨_, rfl⟩
  replace H : (if 0 ≤ (ji23) then (if (ji23) < (l0.length : Int) then ((merkle_prove.f k l0 (ji23)).bind fun t323 => (merkle_Absent.j0 k l0 t319 t319 ((rd_T44 l0 (ji23)).f0) ((rd_T44 l0 (ji23)).f1) (⟨#[]⟩ : ByteArray) (⟨#[]⟩ : ByteArray) t323)) else (none)) else (none)) = some (r1, r2, r3, r4, r5, r6, r7, r8) := by first | (rw [hji23] at H; exact H) | (simp only [hji23] at H ⊢; exact H)
  have hji23w : (IntKind.i64.wrap (t319 - 1)) = ji23 := (i64_w _).trans hji23
  by_cases c24 : 0 ≤ (ji23)
  case neg =>
   rw [if_neg c24] at H
   exact absurd H (by simp)
  rw [if_pos c24] at H
  have c24b0 : decide (0 ≤ (ji23)) = true := decide_eq_true c24
  clear c24
  by_cases c25 : (ji23) < (l0.length : Int)
  case neg =>
   rw [if_neg c25] at H
   exact absurd H (by simp)
  rw [if_pos c25] at H
  have c25b0 : decide ((ji23) < (l0.length : Int)) = true := decide_eq_true c25
  clear c25
  replace H := Option.bind_eq_some_iff.mp H
  obtain ⟨t323, A260, H⟩ := H
  replace H : (merkle_Absent.j0 k l0 t319 t319 ((rd_T44 l0 (ji23)).f0) ((rd_T44 l0 (ji23)).f1) (⟨#[]⟩ : ByteArray) (⟨#[]⟩ : ByteArray) t323) = some (r1, r2, r3, r4, r5, r6, r7, r8) := H
  have A26 := Aside0.mk A260
  clear A260
  have H' := Aside0.mk H
  clear H
  try go_wp2
  have n0_ : Aside0 ((((((((w19.setCell ⟨gb321, 0, none⟩ (.int .i64 t319)).setCell ⟨gb321, 1, none⟩ (.string (⟨#[]⟩ : ByteArray))).setCell ⟨gb321, 2, none⟩ (.string (⟨#[]⟩ : ByteArray))).setCell ⟨gb321, 3, none⟩ (.string (⟨#[]⟩ : ByteArray))).setCell ⟨gb321, 4, none⟩ (.string (⟨#[]⟩ : ByteArray))).setCell ⟨gb321, 5, none⟩ (.slice none 0 0)).setCell ⟨gb321, 6, none⟩ (.slice none 0 0)).heap[gb316]? = some (.cells #[.int .i64 0, .string (⟨#[]⟩ : ByteArray), .string (⟨#[]⟩ : ByteArray), .string (⟨#[]⟩ : ByteArray), .string (⟨#[]⟩ : ByteArray), .slice none 0 0, .slice none 0 0] 57 (0, 0))) := ⟨by (with_reducible repeat (first | refine blk_drewN ?_ _ | refine blk_drew ?_ | refine blk_alloc ?_ _)); refine blk_far ?_ NB316_321.out _; (with_reducible repeat (first | refine blk_drewN ?_ _ | refine blk_drew ?_ | refine blk_alloc ?_ _)); refine blk_far ?_ NB316_321.out _; (with_reducible repeat (first | refine blk_drewN ?_ _ | refine blk_drew ?_ | refine blk_alloc ?_ _)); refine blk_far ?_ NB316_321.out _; (with_reducible repeat (first | refine blk_drewN ?_ _ | refine blk_drew ?_ | refine blk_alloc ?_ _)); refine blk_far ?_ NB316_321.out _; (with_reducible repeat (first | refine blk_drewN ?_ _ | refine blk_drew ?_ | refine blk_alloc ?_ _)); refine blk_far ?_ NB316_321.out _; (with_reducible repeat (first | refine blk_drewN ?_ _ | refine blk_drew ?_ | refine blk_alloc ?_ _)); refine blk_far ?_ NB316_321.out _; (with_reducible repeat (first | refine blk_drewN ?_ _ | refine blk_drew ?_ | refine blk_alloc ?_ _)); refine blk_far ?_ NB316_321.out _; (with_reducible repeat (first | refine blk_drewN ?_ _ | refine blk_drew ?_ | refine blk_alloc ?_ _)); exact BK316.out⟩
  have n1_ : Aside0 ((((((((w19.setCell ⟨gb321, 0, none⟩ (.int .i64 t319)).setCell ⟨gb321, 1, none⟩ (.string (⟨#[]⟩ : ByteArray))).setCell ⟨gb321, 2, none⟩ (.string (⟨#[]⟩ : ByteArray))).setCell ⟨gb321, 3, none⟩ (.string (⟨#[]⟩ : ByteArray))).setCell ⟨gb321, 4, none⟩ (.string (⟨#[]⟩ : ByteArray))).setCell ⟨gb321, 5, none⟩ (.slice none 0 0)).setCell ⟨gb321, 6, none⟩ (.slice none 0 0)).heap[gb321]? = some (.cells #[.int .i64 t319, .string (⟨#[]⟩ : ByteArray), .string (⟨#[]⟩ : ByteArray), .string (⟨#[]⟩ : ByteArray), .string (⟨#[]⟩ : ByteArray), .slice none 0 0, .slice none 0 0] 57 (0, 0))) := ⟨by (with_reducible repeat (first | refine blk_drewN ?_ _ | refine blk_drew ?_ | refine blk_alloc ?_ _)); refine blk_put (cs := #[.int .i64 t319, .string (⟨#[]⟩ : ByteArray), .string (⟨#[]⟩ : ByteArray), .string (⟨#[]⟩ : ByteArray), .string (⟨#[]⟩ : ByteArray), .slice none 0 0, .slice none 0 0]) ?_ 6 _ rfl; (with_reducible repeat (first | refine blk_drewN ?_ _ | refine blk_drew ?_ | refine blk_alloc ?_ _)); refine blk_put (cs := #[.int .i64 t319, .string (⟨#[]⟩ : ByteArray), .string (⟨#[]⟩ : ByteArray), .string (⟨#[]⟩ : ByteArray), .string (⟨#[]⟩ : ByteArray), .slice none 0 0, .slice none 0 0]) ?_ 5 _ rfl; (with_reducible repeat (first | refine blk_drewN ?_ _ | refine blk_drew ?_ | refine blk_alloc ?_ _)); refine blk_put (cs := #[.int .i64 t319, .string (⟨#[]⟩ : ByteArray), .string (⟨#[]⟩ : ByteArray), .string (⟨#[]⟩ : ByteArray), .string (⟨#[]⟩ : ByteArray), .slice none 0 0, .slice none 0 0]) ?_ 4 _ rfl; (with_reducible repeat (first | refine blk_drewN ?_ _ | refine blk_drew ?_ | refine blk_alloc ?_ _)); refine blk_put (cs := #[.int .i64 t319, .string (⟨#[]⟩ : ByteArray), .string (⟨#[]⟩ : ByteArray), .string (⟨#[]⟩ : ByteArray), .string (⟨#[]⟩ : ByteArray), .slice none 0 0, .slice none 0 0]) ?_ 3 _ rfl; (with_reducible repeat (first | refine blk_drewN ?_ _ | refine blk_drew ?_ | refine blk_alloc ?_ _)); refine blk_put (cs := #[.int .i64 t319, .string (⟨#[]⟩ : ByteArray), .string (⟨#[]⟩ : ByteArray), .string (⟨#[]⟩ : ByteArray), .string (⟨#[]⟩ : ByteArray), .slice none 0 0, .slice none 0 0]) ?_ 2 _ rfl; (with_reducible repeat (first | refine blk_drewN ?_ _ | refine blk_drew ?_ | refine blk_alloc ?_ _)); refine blk_put (cs := #[.int .i64 t319, .string (⟨#[]⟩ : ByteArray), .string (⟨#[]⟩ : ByteArray), .string (⟨#[]⟩ : ByteArray), .string (⟨#[]⟩ : ByteArray), .slice none 0 0, .slice none 0 0]) ?_ 1 _ rfl; (with_reducible repeat (first | refine blk_drewN ?_ _ | refine blk_drew ?_ | refine blk_alloc ?_ _)); refine blk_put (cs := #[.int .i64 0, .string (⟨#[]⟩ : ByteArray), .string (⟨#[]⟩ : ByteArray), .string (⟨#[]⟩ : ByteArray), .string (⟨#[]⟩ : ByteArray), .slice none 0 0, .slice none 0 0]) ?_ 0 _ rfl; (with_reducible repeat (first | refine blk_drewN ?_ _ | refine blk_drew ?_ | refine blk_alloc ?_ _)); exact BK321.out⟩
  have n2_ : Aside0 (Below w.heap.size w (((((((w19.setCell ⟨gb321, 0, none⟩ (.int .i64 t319)).setCell ⟨gb321, 1, none⟩ (.string (⟨#[]⟩ : ByteArray))).setCell ⟨gb321, 2, none⟩ (.string (⟨#[]⟩ : ByteArray))).setCell ⟨gb321, 3, none⟩ (.string (⟨#[]⟩ : ByteArray))).setCell ⟨gb321, 4, none⟩ (.string (⟨#[]⟩ : ByteArray))).setCell ⟨gb321, 5, none⟩ (.slice none 0 0)).setCell ⟨gb321, 6, none⟩ (.slice none 0 0))) := ⟨m25_⟩
  (try clear BK316)
  (try clear BK321)
  (try clear HB)
  generalize (((((((w19.setCell ⟨gb321, 0, none⟩ (.int .i64 t319)).setCell ⟨gb321, 1, none⟩ (.string (⟨#[]⟩ : ByteArray))).setCell ⟨gb321, 2, none⟩ (.string (⟨#[]⟩ : ByteArray))).setCell ⟨gb321, 3, none⟩ (.string (⟨#[]⟩ : ByteArray))).setCell ⟨gb321, 4, none⟩ (.string (⟨#[]⟩ : ByteArray))).setCell ⟨gb321, 5, none⟩ (.slice none 0 0)).setCell ⟨gb321, 6, none⟩ (.slice none 0 0)) = w27 at n0_ n1_ n2_ ⊢
  have BK316 := n0_
  have BK321 := n1_
  have HB := n2_
  clear n0_ n1_ n2_
  replace BK316 := Aside0.mk (blk_drew BK316.out)
  replace BK321 := Aside0.mk (blk_drew BK321.out)
  replace HB := Aside0.mk (below_drew1 HB.out)
  have p322 : 0 ≤ ((ji23) : Int) := of_decide_eq_true m22_
  have q322 : (ji23) < (l0.length : Int) := of_decide_eq_true m22_
  obtain ⟨ad322, e322, hx322_0, hx322_1⟩ := at_T44 HR0.out (ji23) p322 q322
  have hw322_1 := hx322_1
  have hw322_0 := hx322_0
  cases e322
  replace hx322_0 := (HB.out.cell (World.block_lt_of_cell? w _ hx322_0)).trans hx322_0
  replace hx322_1 := (HB.out.cell (World.block_lt_of_cell? w _ hx322_1)).trans hx322_1
  replace p322 := eq_true p322
  replace q322 := eq_true q322
  refine start_ (n := 13) (S := fun w' => w'.cell? (ad322.add (((ji23)).toNat * 2)) = some (.string ((rd_T44 l0 (ji23)).f0)) ∧ w'.cell? ⟨(ad322.add (((ji23)).toNat * 2)).block, (ad322.add (((ji23)).toNat * 2)).off + 1, none⟩ = some (.string ((rd_T44 l0 (ji23)).f1))) (ds := []) (Ra_ [0, 13]) (by kernel_rfl) rfl rfl ⟨((HB.out.cell (World.block_lt_of_cell? w _ hw322_0)).trans hw322_0), ((HB.out.cell (World.block_lt_of_cell? w _ hw322_1)).trans hw322_1)⟩ (fun hHeld => ?_); refine with_tabW merkle_Absent.tab11 merkle_Absent.bits11 (fun HT_ HW_ => ?_)
  generalize w27.drew = w28 at BK316 BK321 HB hx322_0 hx322_1 hHeld ⊢
  refine pI_ 0 (some 32) (Ra_ [1, 12]) (h := ?_)
  refine pI_ 1 (some 33) (Ra_ [2, 11]) (h := ?_)
  refine pI_ 2 (some 34) (Ra_ [3, 10]) (h := ?_)
  refine pI_ 3 (some 35) (Ra_ [4, 9]) (h := ?_)
  refine pI_ 5 (some 37) (Ra_ [4, 1, 1, 7]) (h := ?_)
  refine pI_ 6 (some 38) (Ra_ [4, 1, 2, 6]) (h := ?_)
  refine pI_ 7 (some 39) (Ra_ [4, 1, 3, 5]) (h := ?_)
  refine take_ (i := 4) (N := some 36) (v := ?_) (a' := ?_) (Ra_ [8, 5]) rfl rfl (take_ofW HT_.out HW_.out (by kernel_rfl)) (fun _ _ _ h => h) (Or.inl ⟨by rfl, ?_⟩) hHeld ?_ ?_
  rotate_left
  ·rintro w' ⟨s0, s1⟩
   go_simp
   with_reducible rfl
  rotate_left
  ·simp only [Act.put, sA_, sB_, sC_, i64_w, i32_w]
   rfl
  refine pI_ 9 (some 41) (Ra_ [8, 1, 1, 3]) (h := ?_)
  refine one_ (i := 8) (N := some 40) (Ra_ [10, 3]) rfl rfl (one_of HT_.out (by kernel_rfl)) (by decide) (fun K hK => ?_)
  refine goes_ Tryd.func47 (by kernel_rfl) rfl #[.slice (some ad322) l0.length c0, .int .i64 ji23] (by rfl) rfl rfl (by (try simp only [List.map_toArray, List.map_cons, List.map_nil]); first | done | (simp only [hji23]; rfl) | rfl | (simp only [List.length_drop, List.length_take]; rfl)) ?_
  with_reducible refine (merkle_prove.calls k _ _ l0 ji23 t323 _ ?side1 ?side2 A26.out).mono ?_
  (case side1 => exact m30_)
  (case side2 => exact HC0.out)
  rintro e w29 ⟨v324, rfl, ho0, hb⟩
  refine ⟨_, rfl, ?_⟩
  have n0_ := Aside0.mk (Kd.R_lower ho0 (below_size m0_))
  have n1_ := Aside0.mk (blk_below (g := gb316) (o := .cells #[.int .i64 0, .string (⟨#[]⟩ : ByteArray), .string (⟨#[]⟩ : ByteArray), .string (⟨#[]⟩ : ByteArray), .string (⟨#[]⟩ : ByteArray), .slice none 0 0, .slice none 0 0] 57 (0, 0)) m13_ hb)
  have n2_ := Aside0.mk (blk_below (g := gb321) (o := .cells #[.int .i64 t319, .string (⟨#[]⟩ : ByteArray), .string (⟨#[]⟩ : ByteArray), .string (⟨#[]⟩ : ByteArray), .string (⟨#[]⟩ : ByteArray), .slice none 0 0, .slice none 0 0] 57 (0, 0)) (by (with_reducible repeat (first | refine blk_drewN ?_ _ | refine blk_drew ?_ | refine blk_alloc ?_ _)); exact BK321.out) hb)
  have n3_ := Aside0.mk (below_step m0_ hb)
  clear BK316 BK321 HB
  have HO325 := n0_
  have BK316 := n1_
  have BK321 := n2_
  have HB := n3_
  clear n0_ n1_ n2_ n3_
  (try clear hb)
  (try clear hb2)
  (try clear hk)
  (try clear hi)
  (try clear ho0)
  obtain ⟨Ao32, co32, eo32⟩ := Kd.R_slice HO325.out
  (first | subst eo32 | (injection eo32 with f1_ f2_ f3_; have f4_ := f1_.symm; have f5_ := f3_.symm; clear f1_ f2_ f3_; subst f4_; subst f5_))
  refine hK.out _ _ ⟨((HB.out.cell (World.block_lt_of_cell? w _ hw322_0)).trans hw322_0), ((HB.out.cell (World.block_lt_of_cell? w _ hw322_1)).trans hw322_1)⟩ (fun hHeld => ?_)
  clear hK K
  refine norm_ (a' := ?_) ?_ ?_
  rotate_left
  ·show Act.put _ (some 40) _ = _
   simp only [Act.put, sA_, sB_, sC_, i64_w, i32_w]
   rfl
  refine one_ (i := 10) (N := none) (Ra_ [11, 2]) rfl rfl (one_of HT_.out (by kernel_rfl)) (by decide) (fun K hK => ?_)
  have hs30 : w29.cell? ⟨gb321, 1, none⟩ = some (.string (⟨#[]⟩ : ByteArray)) := (blk_cell BK321.out 1).trans rfl
  have hfs30 := blk_frozen BK321.out 1
  have hns30_0 := NB316_321.out
  have hms30_0 := NB321_316.out
  have hs31 : w29.cell? ⟨gb321, 2, none⟩ = some (.string (⟨#[]⟩ : ByteArray)) := (blk_cell BK321.out 2).trans rfl
  have hfs31 := blk_frozen BK321.out 2
  have hns31_0 := NB316_321.out
  have hms31_0 := NB321_316.out
  refine skip_ (w1 := ?_) (by rfl) rfl ?_ ?_
  rotate_left
  ·go_simp
   rfl
  refine hK.out _ _ ⟨((cell_far (p := ⟨gb321, _, none⟩) (by first | exact Nat.ne_of_lt (Nat.lt_of_lt_of_le (by have := World.block_lt_of_cell? _ _ hw322_0; first | rwa [add_block] at this | exact this) GW321.out) | (rw [add_block]; exact Nat.ne_of_lt (Nat.lt_of_lt_of_le (by have := World.block_lt_of_cell? _ _ hw322_0; first | rwa [add_block] at this | exact this) GW321.out)) | (show (Addr.add _ _).block ≠ _; rw [add_block]; exact Nat.ne_of_lt (Nat.lt_of_lt_of_le (by have := World.block_lt_of_cell? _ _ hw322_0; first | rwa [add_block] at this | exact this) GW321.out)) | (dsimp only; exact Nat.ne_of_lt (Nat.lt_of_lt_of_le (by have := World.block_lt_of_cell? _ _ hw322_0; first | rwa [add_block] at this | exact this) GW321.out))) _).trans (((cell_far (p := ⟨gb321, _, none⟩) (by first | exact Nat.ne_of_lt (Nat.lt_of_lt_of_le (by have := World.block_lt_of_cell? _ _ hw322_0; first | rwa [add_block] at this | exact this) GW321.out) | (rw [add_block]; exact Nat.ne_of_lt (Nat.lt_of_lt_of_le (by have := World.block_lt_of_cell? _ _ hw322_0; first | rwa [add_block] at this | exact this) GW321.out)) | (show (Addr.add _ _).block ≠ _; rw [add_block]; exact Nat.ne_of_lt (Nat.lt_of_lt_of_le (by have := World.block_lt_of_cell? _ _ hw322_0; first | rwa [add_block] at this | exact this) GW321.out)) | (dsimp only; exact Nat.ne_of_lt (Nat.lt_of_lt_of_le (by have := World.block_lt_of_cell? _ _ hw322_0; first | rwa [add_block] at this | exact this) GW321.out))) _).trans (hHeld.1)))), ((cell_far (p := ⟨gb321, _, none⟩) (by first | exact Nat.ne_of_lt (Nat.lt_of_lt_of_le (by have := World.block_lt_of_cell? _ _ hw322_1; first | rwa [add_block] at this | exact this) GW321.out) | (rw [add_block]; exact Nat.ne_of_lt (Nat.lt_of_lt_of_le (by have := World.block_lt_of_cell? _ _ hw322_1; first | rwa [add_block] at this | exact this) GW321.out)) | (show (Addr.add _ _).block ≠ _; rw [add_block]; exact Nat.ne_of_lt (Nat.lt_of_lt_of_le (by have := World.block_lt_of_cell? _ _ hw322_1; first | rwa [add_block] at this | exact this) GW321.out)) | (dsimp only; exact Nat.ne_of_lt (Nat.lt_of_lt_of_le (by have := World.block_lt_of_cell? _ _ hw322_1; first | rwa [add_block] at this | exact this) GW321.out))) _).trans (((cell_far (p := ⟨gb321, _, none⟩) (by first | exact Nat.ne_of_lt (Nat.lt_of_lt_of_le (by have := World.block_lt_of_cell? _ _ hw322_1; first | rwa [add_block] at this | exact this) GW321.out) | (rw [add_block]; exact Nat.ne_of_lt (Nat.lt_of_lt_of_le (by have := World.block_lt_of_cell? _ _ hw322_1; first | rwa [add_block] at this | exact this) GW321.out)) | (show (Addr.add _ _).block ≠ _; rw [add_block]; exact Nat.ne_of_lt (Nat.lt_of_lt_of_le (by have := World.block_lt_of_cell? _ _ hw322_1; first | rwa [add_block] at this | exact this) GW321.out)) | (dsimp only; exact Nat.ne_of_lt (Nat.lt_of_lt_of_le (by have := World.block_lt_of_cell? _ _ hw322_1; first | rwa [add_block] at this | exact this) GW321.out))) _).trans (hHeld.2))))⟩ (fun hHeld => ?_)
  clear hK K
  refine pI_ 11 (some 42) (Ra_ [12, 1]) (h := ?_)
  refine one_ (i := 12) (N := none) (Ra_ [13]) rfl rfl (one_of HT_.out (by kernel_rfl)) (by decide) (fun K hK => ?_)
  have hs33 : w29.cell? ⟨gb321, 5, none⟩ = some (.slice none 0 0) := (blk_cell BK321.out 5).trans rfl
  have hfs33 := blk_frozen BK321.out 5
  have hns33_0 := NB316_321.out
  have hms33_0 := NB321_316.out
  refine skip_ (w1 := ?_) (by rfl) rfl ?_ ?_
  rotate_left
  ·go_simp
   rfl
  refine hK.out _ _ ⟨((cell_far (p := ⟨gb321, _, none⟩) (by first | exact Nat.ne_of_lt (Nat.lt_of_lt_of_le (by have := World.block_lt_of_cell? _ _ hw322_0; first | rwa [add_block] at this | exact this) GW321.out) | (rw [add_block]; exact Nat.ne_of_lt (Nat.lt_of_lt_of_le (by have := World.block_lt_of_cell? _ _ hw322_0; first | rwa [add_block] at this | exact this) GW321.out)) | (show (Addr.add _ _).block ≠ _; rw [add_block]; exact Nat.ne_of_lt (Nat.lt_of_lt_of_le (by have := World.block_lt_of_cell? _ _ hw322_0; first | rwa [add_block] at this | exact this) GW321.out)) | (dsimp only; exact Nat.ne_of_lt (Nat.lt_of_lt_of_le (by have := World.block_lt_of_cell? _ _ hw322_0; first | rwa [add_block] at this | exact this) GW321.out))) _).trans (hHeld.1)), ((cell_far (p := ⟨gb321, _, none⟩) (by first | exact Nat.ne_of_lt (Nat.lt_of_lt_of_le (by have := World.block_lt_of_cell? _ _ hw322_1; first | rwa [add_block] at this | exact this) GW321.out) | (rw [add_block]; exact Nat.ne_of_lt (Nat.lt_of_lt_of_le (by have := World.block_lt_of_cell? _ _ hw322_1; first | rwa [add_block] at this | exact this) GW321.out)) | (show (Addr.add _ _).block ≠ _; rw [add_block]; exact Nat.ne_of_lt (Nat.lt_of_lt_of_le (by have := World.block_lt_of_cell? _ _ hw322_1; first | rwa [add_block] at this | exact this) GW321.out)) | (dsimp only; exact Nat.ne_of_lt (Nat.lt_of_lt_of_le (by have := World.block_lt_of_cell? _ _ hw322_1; first | rwa [add_block] at this | exact this) GW321.out))) _).trans (hHeld.2))⟩ (fun hHeld => ?_)
  clear hK K
  refine done_ (done_of HT_.out (by kernel_rfl)) ?_
  try go_wp2
  go_meet
  case rel => exact ⟨_, ((rd_T44 l0 (ji23)).f0), ((rd_T44 l0 (ji23)).f1), (t323), (.slice Ao32 t323.length co32), H', ⟨by first | omega | exact Nat.le_refl _⟩, ⟨by (with_reducible repeat (first | apply Kd.R_alloc | apply Kd.R_drewN | apply Kd.R_drew)); exact Kd.R_mono (Kd.R_far (p := ⟨gb321, 5, none⟩) (Kd.R_far (p := ⟨gb321, 2, none⟩) (Kd.R_far (p := ⟨gb321, 1, none⟩) (Kd.R_types HO325.out BK321.out (by decide)) (fun _ hk => hk.2) (.string ((rd_T44 l0 (ji23)).f0))) (fun _ hk => hk.2) (.string ((rd_T44 l0 (ji23)).f1))) (fun _ hk => hk.2) (.slice Ao32 t323.length co32)) (fun _ hk => trivial)⟩, ⟨by (with_reducible repeat (first | refine blk_drewN ?_ _ | refine blk_drew ?_ | refine blk_alloc ?_ _)); refine blk_far ?_ NB316_321.out _; (with_reducible repeat (first | refine blk_drewN ?_ _ | refine blk_drew ?_ | refine blk_alloc ?_ _)); refine blk_far ?_ NB316_321.out _; (with_reducible repeat (first | refine blk_drewN ?_ _ | refine blk_drew ?_ | refine blk_alloc ?_ _)); refine blk_far ?_ NB316_321.out _; (with_reducible repeat (first | refine blk_drewN ?_ _ | refine blk_drew ?_ | refine blk_alloc ?_ _)); exact BK316.out⟩, ⟨by (with_reducible repeat (first | refine blk_drewN ?_ _ | refine blk_drew ?_ | refine blk_alloc ?_ _)); refine blk_put (cs := #[.int .i64 t319, .string ((rd_T44 l0 (ji23)).f0), .string ((rd_T44 l0 (ji23)).f1), .string (⟨#[]⟩ : ByteArray), .string (⟨#[]⟩ : ByteArray), .slice none 0 0, .slice none 0 0]) ?_ 5 _ rfl; (with_reducible repeat (first | refine blk_drewN ?_ _ | refine blk_drew ?_ | refine blk_alloc ?_ _)); refine blk_put (cs := #[.int .i64 t319, .string ((rd_T44 l0 (ji23)).f0), .string (⟨#[]⟩ : ByteArray), .string (⟨#[]⟩ : ByteArray), .string (⟨#[]⟩ : ByteArray), .slice none 0 0, .slice none 0 0]) ?_ 2 _ rfl; (with_reducible repeat (first | refine blk_drewN ?_ _ | refine blk_drew ?_ | refine blk_alloc ?_ _)); refine blk_put (cs := #[.int .i64 t319, .string (⟨#[]⟩ : ByteArray), .string (⟨#[]⟩ : ByteArray), .string (⟨#[]⟩ : ByteArray), .string (⟨#[]⟩ : ByteArray), .slice none 0 0, .slice none 0 0]) ?_ 1 _ rfl; (with_reducible repeat (first | refine blk_drewN ?_ _ | refine blk_drew ?_ | refine blk_alloc ?_ _)); exact BK321.out⟩, ⟨m25_⟩⟩
 clear HC14
 try clear c1; try clear c2; try clear p2; try clear c3; try clear p3; try clear q3; try clear hx3; try clear c4; try clear c4b0; try clear c4b1; try clear c5; try clear c6; try clear p6; try clear c8; try clear c15; try clear c20; try clear c22; try clear c22b0; try clear c24; try clear c24b0; try clear c25; try clear c25b0; try clear p32; try clear q32; try clear hx32; try clear hcz13_0; try clear hcz13_1; try clear hcz13_2; try clear hcz13_3; try clear hcz13_4; try clear hcz13_5; try clear hcz13_6; try clear hcz21_0; try clear hcz21_1; try clear hcz21_2; try clear hcz21_3; try clear hcz21_4; try clear hcz21_5; try clear hcz21_6; try clear hfz13_0; try clear hfz13_1; try clear hfz13_2; try clear hfz13_3; try clear hfz13_4; try clear hfz13_5; try clear hfz13_6; try clear hfz21_0; try clear hfz21_1; try clear hfz21_2; try clear hfz21_3; try clear hfz21_4; try clear hfz21_5; try clear hfz21_6; try clear hx322_0; try clear hx322_1; try clear p322; try clear q322
 obtain ⟨kq, x322001_13, x322002_13, x322005_13, u322005, HA, HJ13, HO_322005, BK316, BK321, HB⟩ := hcut
 cases kq with
 | zero => exact absurd HA.out (by simp [merkle_Absent.j0])
 | succ kj13 =>
  have H := HA.out
  clear HA
  simp only [merkle_Absent.j0] at H
  by_cases c34 : t319 < (l0.length : Int)
  case neg =>
   rw [if_neg c34] at H
   have c34b0 : decide (t319 < (l0.length : Int)) = false := decide_eq_false c34
   clear c34
   simp only [Option.some.injEq, Prod.mk.injEq] at H
   obtain ⟨rfl, rfl, rfl, rfl, rfl, rfl, rfl, rfl⟩ := H
   have hnb47 := NB321_316.out
   have hnc47 := NB316_321.out
   obtain ⟨hcz48_0, hcz48_1, hcz48_2, hcz48_3, hcz48_4, hcz48_5, hcz48_6⟩ := bc7_ BK321.out
   obtain ⟨hfz48_0, hfz48_1, hfz48_2, hfz48_3, hfz48_4, hfz48_5, hfz48_6⟩ := bf7_ BK321.out
   obtain ⟨hcz49_0, hcz49_1, hcz49_2, hcz49_3, hcz49_4, hcz49_5, hcz49_6⟩ := bc7_ BK316.out
   obtain ⟨hfz49_0, hfz49_1, hfz49_2, hfz49_3, hfz49_4, hfz49_5, hfz49_6⟩ := bf7_ BK316.out
   obtain ⟨Ao50, co50, eo50⟩ := Kd.R_slice HO_322005.out
   subst eo50
   go_wp2
   refine bodyPost_ret (results_ct rfl _ _ gb316 57 #[.int .i64 t319, .string x322001_13, .string x322002_13, .string (⟨#[]⟩ : ByteArray), .string (⟨#[]⟩ : ByteArray), .slice Ao50 x322005_13.length co50, .slice none 0 0] (0, 0) _ rfl (by (with_reducible repeat (first | refine blk_drewN ?_ _ | refine blk_drew ?_ | refine blk_alloc ?_ _)); refine blk_put (cs := #[.int .i64 t319, .string x322001_13, .string x322002_13, .string (⟨#[]⟩ : ByteArray), .string (⟨#[]⟩ : ByteArray), .slice Ao50 x322005_13.length co50, .slice none 0 0]) ?_ 6 _ rfl; (with_reducible repeat (first | refine blk_drewN ?_ _ | refine blk_drew ?_ | refine blk_alloc ?_ _)); refine blk_put (cs := #[.int .i64 t319, .string x322001_13, .string x322002_13, .string (⟨#[]⟩ : ByteArray), .string (⟨#[]⟩ : ByteArray), .slice none 0 0, .slice none 0 0]) ?_ 5 _ rfl; (with_reducible repeat (first | refine blk_drewN ?_ _ | refine blk_drew ?_ | refine blk_alloc ?_ _)); refine blk_put (cs := #[.int .i64 t319, .string x322001_13, .string x322002_13, .string (⟨#[]⟩ : ByteArray), .string (⟨#[]⟩ : ByteArray), .slice none 0 0, .slice none 0 0]) ?_ 4 _ rfl; (with_reducible repeat (first | refine blk_drewN ?_ _ | refine blk_drew ?_ | refine blk_alloc ?_ _)); refine blk_put (cs := #[.int .i64 t319, .string x322001_13, .string x322002_13, .string (⟨#[]⟩ : ByteArray), .string (⟨#[]⟩ : ByteArray), .slice none 0 0, .slice none 0 0]) ?_ 3 _ rfl; (with_reducible repeat (first | refine blk_drewN ?_ _ | refine blk_drew ?_ | refine blk_alloc ?_ _)); refine blk_put (cs := #[.int .i64 t319, .string x322001_13, .string (⟨#[]⟩ : ByteArray), .string (⟨#[]⟩ : ByteArray), .string (⟨#[]⟩ : ByteArray), .slice none 0 0, .slice none 0 0]) ?_ 2 _ rfl; (with_reducible repeat (first | refine blk_drewN ?_ _ | refine blk_drew ?_ | refine blk_alloc ?_ _)); refine blk_put (cs := #[.int .i64 t319, .string (⟨#[]⟩ : ByteArray), .string (⟨#[]⟩ : ByteArray), .string (⟨#[]⟩ : ByteArray), .string (⟨#[]⟩ : ByteArray), .slice none 0 0, .slice none 0 0]) ?_ 1 _ rfl; (with_reducible repeat (first | refine blk_drewN ?_ _ | refine blk_drew ?_ | refine blk_alloc ?_ _)); refine blk_put (cs := #[.int .i64 0, .string (⟨#[]⟩ : ByteArray), .string (⟨#[]⟩ : ByteArray), .string (⟨#[]⟩ : ByteArray), .string (⟨#[]⟩ : ByteArray), .slice none 0 0, .slice none 0 0]) ?_ 0 _ rfl; (with_reducible repeat (first | refine blk_drewN ?_ _ | refine blk_drew ?_ | refine blk_alloc ?_ _)); exact BK316.out) Tryd.underlying57 rfl (by kernel_rfl)) rfl ?_
   exact ⟨_, _, by first | rfl | (simp [errW_none, errW_some] <;> rfl) | (simp [*, errW_none, errW_some] <;> rfl), by (with_reducible repeat (first | apply Kd.R_alloc | apply Kd.R_drewN | apply Kd.R_drew)); exact Kd.R_mono (Kd.R_far (p := ⟨gb316, 6, none⟩) (Kd.R_far (p := ⟨gb316, 5, none⟩) (Kd.R_far (p := ⟨gb316, 4, none⟩) (Kd.R_far (p := ⟨gb316, 3, none⟩) (Kd.R_far (p := ⟨gb316, 2, none⟩) (Kd.R_far (p := ⟨gb316, 1, none⟩) (Kd.R_far (p := ⟨gb316, 0, none⟩) (Kd.R_types HO_322005.out BK316.out (by decide)) (fun _ hk => hk.2) (.int .i64 t319)) (fun _ hk => hk.2) (.string x322001_13)) (fun _ hk => hk.2) (.string x322002_13)) (fun _ hk => hk.2) (.string (⟨#[]⟩ : ByteArray))) (fun _ hk => hk.2) (.string (⟨#[]⟩ : ByteArray))) (fun _ hk => hk.2) (.slice Ao50 x322005_13.length co50)) (fun _ hk => hk.2) (.slice none 0 0)) (fun _ hk => (by simp [Value.ownBlock])), by first | exact Kd.R_nil _ _ _ _ _ | exact Kd.N_nil _ _ _ _ _ | exact Kd.V_nil _ _ _ _ _ | exact Kd.Q_nil _ _ _ _ _ | exact Kd.S_nil _ _ _ _ _, m25_⟩
  rw [if_pos c34] at H
  have c34b0 : decide (t319 < (l0.length : Int)) = true := decide_eq_true c34
  clear c34
  by_cases c35 : 0 ≤ t319
  case neg =>
   rw [if_neg c35] at H
   exact absurd H (by simp)
  rw [if_pos c35] at H
  have c35b0 : decide (0 ≤ t319) = true := decide_eq_true c35
  clear c35
  replace H := Option.bind_eq_some_iff.mp H
  obtain ⟨t327, A360, H⟩ := H
  replace H : (some (t319, x322001_13, x322002_13, (rd_T44 l0 t319).f0, (rd_T44 l0 t319).f1, x322005_13, t327, 0)) = some (r1, r2, r3, r4, r5, r6, r7, r8) := H
  have A36 := Aside0.mk A360
  clear A360
  simp only [Option.some.injEq, Prod.mk.injEq] at H
  obtain ⟨rfl, rfl, rfl, rfl, rfl, rfl, rfl, rfl⟩ := H
  try go_wp2
  replace HO_322005 := Aside0.mk (Kd.R_drew HO_322005.out)
  replace BK316 := Aside0.mk (blk_drew BK316.out)
  replace BK321 := Aside0.mk (blk_drew BK321.out)
  replace HB := Aside0.mk (below_drew1 HB.out)
  have p326 : 0 ≤ (t319 : Int) := of_decide_eq_true m22_
  have q326 : t319 < (l0.length : Int) := of_decide_eq_true m22_
  obtain ⟨ad326, e326, hx326_0, hx326_1⟩ := at_T44 HR0.out t319 p326 q326
  have hw326_1 := hx326_1
  have hw326_0 := hx326_0
  cases e326
  replace hx326_0 := (HB.out.cell (World.block_lt_of_cell? w _ hx326_0)).trans hx326_0
  replace hx326_1 := (HB.out.cell (World.block_lt_of_cell? w _ hx326_1)).trans hx326_1
  replace p326 := eq_true p326
  replace q326 := eq_true q326
  refine start_ (n := 11) (S := fun w' => w'.cell? (ad326.add ((t319).toNat * 2)) = some (.string ((rd_T44 l0 t319).f0)) ∧ w'.cell? ⟨(ad326.add ((t319).toNat * 2)).block, (ad326.add ((t319).toNat * 2)).off + 1, none⟩ = some (.string ((rd_T44 l0 t319).f1))) (ds := []) (Ra_ [0, 11]) (by kernel_rfl) rfl rfl ⟨((HB.out.cell (World.block_lt_of_cell? w _ hw326_0)).trans hw326_0), ((HB.out.cell (World.block_lt_of_cell? w _ hw326_1)).trans hw326_1)⟩ (fun hHeld => ?_); refine with_tabW merkle_Absent.tab13 merkle_Absent.bits13 (fun HT_ HW_ => ?_)
  generalize wc.drew = w37 at HO_322005 BK316 BK321 HB hx326_0 hx326_1 hHeld ⊢
  refine pI_ 0 (some 47) (Ra_ [1, 10]) (h := ?_)
  refine pI_ 1 (some 48) (Ra_ [2, 9]) (h := ?_)
  refine pI_ 2 (some 49) (Ra_ [3, 8]) (h := ?_)
  refine pI_ 4 (some 51) (Ra_ [3, 1, 1, 6]) (h := ?_)
  refine pI_ 5 (some 52) (Ra_ [3, 1, 2, 5]) (h := ?_)
  refine take_ (i := 3) (N := some 50) (v := ?_) (a' := ?_) (Ra_ [6, 5]) rfl rfl (take_ofW HT_.out HW_.out (by kernel_rfl)) (fun _ _ _ h => h) (Or.inl ⟨by rfl, ?_⟩) hHeld ?_ ?_
  rotate_left
  ·rintro w' ⟨s0, s1⟩
   go_simp
   with_reducible rfl
  rotate_left
  ·simp only [Act.put, sA_, sB_, sC_, i64_w, i32_w]
   rfl
  refine pI_ 7 (some 54) (Ra_ [6, 1, 1, 3]) (h := ?_)
  refine one_ (i := 6) (N := some 53) (Ra_ [8, 3]) rfl rfl (one_of HT_.out (by kernel_rfl)) (by decide) (fun K hK => ?_)
  refine goes_ Tryd.func47 (by kernel_rfl) rfl #[.slice (some ad326) l0.length c0, .int .i64 t319] (by rfl) rfl rfl m10_ ?_
  with_reducible refine (merkle_prove.calls kj13 _ _ l0 t319 t327 _ ?side1 ?side2 A36.out).mono ?_
  (case side1 => exact m30_)
  (case side2 => exact HC0.out)
  rintro e w38 ⟨v328, rfl, ho0, hb⟩
  refine ⟨_, rfl, ?_⟩
  have n0_ := Aside0.mk (Kd.R_elder' (by (with_reducible repeat (first | apply Kd.R_alloc | apply Kd.R_drewN | apply Kd.R_drew)); exact HO_322005.out) (Kd.R_base ho0) hb)
  have n1_ := Aside0.mk (Kd.R_lower (Kd.R_new' ho0 (Kd.R_lt (by (with_reducible repeat (first | apply Kd.R_alloc | apply Kd.R_drewN | apply Kd.R_drew)); exact HO_322005.out))) (below_size m0_))
  have n2_ := Aside0.mk (blk_below (g := gb316) (o := .cells #[.int .i64 0, .string (⟨#[]⟩ : ByteArray), .string (⟨#[]⟩ : ByteArray), .string (⟨#[]⟩ : ByteArray), .string (⟨#[]⟩ : ByteArray), .slice none 0 0, .slice none 0 0] 57 (0, 0)) m13_ hb)
  have n3_ := Aside0.mk (blk_below (g := gb321) (o := .cells #[.int .i64 t319, .string x322001_13, .string x322002_13, .string (⟨#[]⟩ : ByteArray), .string (⟨#[]⟩ : ByteArray), u322005, .slice none 0 0] 57 (0, 0)) (by (with_reducible repeat (first | refine blk_drewN ?_ _ | refine blk_drew ?_ | refine blk_alloc ?_ _)); exact BK321.out) hb)
  have n4_ := Aside0.mk (below_step m0_ hb)
  clear HO_322005 BK316 BK321 HB
  have HO_322005 := n0_
  have HO329 := n1_
  have BK316 := n2_
  have BK321 := n3_
  have HB := n4_
  clear n0_ n1_ n2_ n3_ n4_
  (try clear hb)
  (try clear hb2)
  (try clear hk)
  (try clear hi)
  (try clear ho0)
  obtain ⟨Ao41, co41, eo41⟩ := Kd.R_slice HO329.out
  (first | subst eo41 | (injection eo41 with f1_ f2_ f3_; have f4_ := f1_.symm; have f5_ := f3_.symm; clear f1_ f2_ f3_; subst f4_; subst f5_))
  refine hK.out _ _ ⟨((HB.out.cell (World.block_lt_of_cell? w _ hw326_0)).trans hw326_0), ((HB.out.cell (World.block_lt_of_cell? w _ hw326_1)).trans hw326_1)⟩ (fun hHeld => ?_)
  clear hK K
  refine norm_ (a' := ?_) ?_ ?_
  rotate_left
  ·show Act.put _ (some 53) _ = _
   simp only [Act.put, sA_, sB_, sC_, i64_w, i32_w]
   rfl
  refine one_ (i := 8) (N := none) (Ra_ [9, 2]) rfl rfl (one_of HT_.out (by kernel_rfl)) (by decide) (fun K hK => ?_)
  have hs39 : w38.cell? ⟨gb321, 3, none⟩ = some (.string (⟨#[]⟩ : ByteArray)) := (blk_cell BK321.out 3).trans rfl
  have hfs39 := blk_frozen BK321.out 3
  have hns39_0 := NB316_321.out
  have hms39_0 := NB321_316.out
  have hs40 : w38.cell? ⟨gb321, 4, none⟩ = some (.string (⟨#[]⟩ : ByteArray)) := (blk_cell BK321.out 4).trans rfl
  have hfs40 := blk_frozen BK321.out 4
  have hns40_0 := NB316_321.out
  have hms40_0 := NB321_316.out
  refine skip_ (w1 := ?_) (by rfl) rfl ?_ ?_
  rotate_left
  ·go_simp
   rfl
  refine hK.out _ _ ⟨((cell_far (p := ⟨gb321, _, none⟩) (by first | exact Nat.ne_of_lt (Nat.lt_of_lt_of_le (by have := World.block_lt_of_cell? _ _ hw326_0; first | rwa [add_block] at this | exact this) GW321.out) | (rw [add_block]; exact Nat.ne_of_lt (Nat.lt_of_lt_of_le (by have := World.block_lt_of_cell? _ _ hw326_0; first | rwa [add_block] at this | exact this) GW321.out)) | (show (Addr.add _ _).block ≠ _; rw [add_block]; exact Nat.ne_of_lt (Nat.lt_of_lt_of_le (by have := World.block_lt_of_cell? _ _ hw326_0; first | rwa [add_block] at this | exact this) GW321.out)) | (dsimp only; exact Nat.ne_of_lt (Nat.lt_of_lt_of_le (by have := World.block_lt_of_cell? _ _ hw326_0; first | rwa [add_block] at this | exact this) GW321.out))) _).trans (((cell_far (p := ⟨gb321, _, none⟩) (by first | exact Nat.ne_of_lt (Nat.lt_of_lt_of_le (by have := World.block_lt_of_cell? _ _ hw326_0; first | rwa [add_block] at this | exact this) GW321.out) | (rw [add_block]; exact Nat.ne_of_lt (Nat.lt_of_lt_of_le (by have := World.block_lt_of_cell? _ _ hw326_0; first | rwa [add_block] at this | exact this) GW321.out)) | (show (Addr.add _ _).block ≠ _; rw [add_block]; exact Nat.ne_of_lt (Nat.lt_of_lt_of_le (by have := World.block_lt_of_cell? _ _ hw326_0; first | rwa [add_block] at this | exact this) GW321.out)) | (dsimp only; exact Nat.ne_of_lt (Nat.lt_of_lt_of_le (by have := World.block_lt_of_cell? _ _ hw326_0; first | rwa [add_block] at this | exact this) GW321.out))) _).trans (hHeld.1)))), ((cell_far (p := ⟨gb321, _, none⟩) (by first | exact Nat.ne_of_lt (Nat.lt_of_lt_of_le (by have := World.block_lt_of_cell? _ _ hw326_1; first | rwa [add_block] at this | exact this) GW321.out) | (rw [add_block]; exact Nat.ne_of_lt (Nat.lt_of_lt_of_le (by have := World.block_lt_of_cell? _ _ hw326_1; first | rwa [add_block] at this | exact this) GW321.out)) | (show (Addr.add _ _).block ≠ _; rw [add_block]; exact Nat.ne_of_lt (Nat.lt_of_lt_of_le (by have := World.block_lt_of_cell? _ _ hw326_1; first | rwa [add_block] at this | exact this) GW321.out)) | (dsimp only; exact Nat.ne_of_lt (Nat.lt_of_lt_of_le (by have := World.block_lt_of_cell? _ _ hw326_1; first | rwa [add_block] at this | exact this) GW321.out))) _).trans (((cell_far (p := ⟨gb321, _, none⟩) (by first | exact Nat.ne_of_lt (Nat.lt_of_lt_of_le (by have := World.block_lt_of_cell? _ _ hw326_1; first | rwa [add_block] at this | exact this) GW321.out) | (rw [add_block]; exact Nat.ne_of_lt (Nat.lt_of_lt_of_le (by have := World.block_lt_of_cell? _ _ hw326_1; first | rwa [add_block] at this | exact this) GW321.out)) | (show (Addr.add _ _).block ≠ _; rw [add_block]; exact Nat.ne_of_lt (Nat.lt_of_lt_of_le (by have := World.block_lt_of_cell? _ _ hw326_1; first | rwa [add_block] at this | exact this) GW321.out)) | (dsimp only; exact Nat.ne_of_lt (Nat.lt_of_lt_of_le (by have := World.block_lt_of_cell? _ _ hw326_1; first | rwa [add_block] at this | exact this) GW321.out))) _).trans (hHeld.2))))⟩ (fun hHeld => ?_)
  clear hK K
  refine pI_ 9 (some 55) (Ra_ [10, 1]) (h := ?_)
  refine one_ (i := 10) (N := none) (Ra_ [11]) rfl rfl (one_of HT_.out (by kernel_rfl)) (by decide) (fun K hK => ?_)
  have hs42 : w38.cell? ⟨gb321, 6, none⟩ = some (.slice none 0 0) := (blk_cell BK321.out 6).trans rfl
  have hfs42 := blk_frozen BK321.out 6
  have hns42_0 := NB316_321.out
  have hms42_0 := NB321_316.out
  refine skip_ (w1 := ?_) (by rfl) rfl ?_ ?_
  rotate_left
  ·go_simp
   rfl
  refine hK.out _ _ ⟨((cell_far (p := ⟨gb321, _, none⟩) (by first | exact Nat.ne_of_lt (Nat.lt_of_lt_of_le (by have := World.block_lt_of_cell? _ _ hw326_0; first | rwa [add_block] at this | exact this) GW321.out) | (rw [add_block]; exact Nat.ne_of_lt (Nat.lt_of_lt_of_le (by have := World.block_lt_of_cell? _ _ hw326_0; first | rwa [add_block] at this | exact this) GW321.out)) | (show (Addr.add _ _).block ≠ _; rw [add_block]; exact Nat.ne_of_lt (Nat.lt_of_lt_of_le (by have := World.block_lt_of_cell? _ _ hw326_0; first | rwa [add_block] at this | exact this) GW321.out)) | (dsimp only; exact Nat.ne_of_lt (Nat.lt_of_lt_of_le (by have := World.block_lt_of_cell? _ _ hw326_0; first | rwa [add_block] at this | exact this) GW321.out))) _).trans (hHeld.1)), ((cell_far (p := ⟨gb321, _, none⟩) (by first | exact Nat.ne_of_lt (Nat.lt_of_lt_of_le (by have := World.block_lt_of_cell? _ _ hw326_1; first | rwa [add_block] at this | exact this) GW321.out) | (rw [add_block]; exact Nat.ne_of_lt (Nat.lt_of_lt_of_le (by have := World.block_lt_of_cell? _ _ hw326_1; first | rwa [add_block] at this | exact this) GW321.out)) | (show (Addr.add _ _).block ≠ _; rw [add_block]; exact Nat.ne_of_lt (Nat.lt_of_lt_of_le (by have := World.block_lt_of_cell? _ _ hw326_1; first | rwa [add_block] at this | exact this) GW321.out)) | (dsimp only; exact Nat.ne_of_lt (Nat.lt_of_lt_of_le (by have := World.block_lt_of_cell? _ _ hw326_1; first | rwa [add_block] at this | exact this) GW321.out))) _).trans (hHeld.2))⟩ (fun hHeld => ?_)
  clear hK K
  refine done_ (done_of HT_.out (by kernel_rfl)) ?_
  have hnb43 := NB321_316.out
  have hnc43 := NB316_321.out
  obtain ⟨hcz44_0, hcz44_1, hcz44_2, hcz44_3, hcz44_4, hcz44_5, hcz44_6⟩ := bc7_ BK321.out
  obtain ⟨hfz44_0, hfz44_1, hfz44_2, hfz44_3, hfz44_4, hfz44_5, hfz44_6⟩ := bf7_ BK321.out
  obtain ⟨hcz45_0, hcz45_1, hcz45_2, hcz45_3, hcz45_4, hcz45_5, hcz45_6⟩ := bc7_ BK316.out
  obtain ⟨hfz45_0, hfz45_1, hfz45_2, hfz45_3, hfz45_4, hfz45_5, hfz45_6⟩ := bf7_ BK316.out
  obtain ⟨Ao46, co46, eo46⟩ := Kd.R_slice HO_322005.out
  subst eo46
  try go_wp2
  refine bodyPost_ret (results_ct rfl _ _ gb316 57 #[.int .i64 t319, .string x322001_13, .string x322002_13, .string ((rd_T44 l0 t319).f0), .string ((rd_T44 l0 t319).f1), .slice Ao46 x322005_13.length co46, .slice Ao41 t327.length co41] (0, 0) _ rfl (by (with_reducible repeat (first | refine blk_drewN ?_ _ | refine blk_drew ?_ | refine blk_alloc ?_ _)); refine blk_put (cs := #[.int .i64 t319, .string x322001_13, .string x322002_13, .string ((rd_T44 l0 t319).f0), .string ((rd_T44 l0 t319).f1), .slice Ao46 x322005_13.length co46, .slice none 0 0]) ?_ 6 _ rfl; (with_reducible repeat (first | refine blk_drewN ?_ _ | refine blk_drew ?_ | refine blk_alloc ?_ _)); refine blk_put (cs := #[.int .i64 t319, .string x322001_13, .string x322002_13, .string ((rd_T44 l0 t319).f0), .string ((rd_T44 l0 t319).f1), .slice none 0 0, .slice none 0 0]) ?_ 5 _ rfl; (with_reducible repeat (first | refine blk_drewN ?_ _ | refine blk_drew ?_ | refine blk_alloc ?_ _)); refine blk_put (cs := #[.int .i64 t319, .string x322001_13, .string x322002_13, .string ((rd_T44 l0 t319).f0), .string (⟨#[]⟩ : ByteArray), .slice none 0 0, .slice none 0 0]) ?_ 4 _ rfl; (with_reducible repeat (first | refine blk_drewN ?_ _ | refine blk_drew ?_ | refine blk_alloc ?_ _)); refine blk_put (cs := #[.int .i64 t319, .string x322001_13, .string x322002_13, .string (⟨#[]⟩ : ByteArray), .string (⟨#[]⟩ : ByteArray), .slice none 0 0, .slice none 0 0]) ?_ 3 _ rfl; (with_reducible repeat (first | refine blk_drewN ?_ _ | refine blk_drew ?_ | refine blk_alloc ?_ _)); refine blk_put (cs := #[.int .i64 t319, .string x322001_13, .string (⟨#[]⟩ : ByteArray), .string (⟨#[]⟩ : ByteArray), .string (⟨#[]⟩ : ByteArray), .slice none 0 0, .slice none 0 0]) ?_ 2 _ rfl; (with_reducible repeat (first | refine blk_drewN ?_ _ | refine blk_drew ?_ | refine blk_alloc ?_ _)); refine blk_put (cs := #[.int .i64 t319, .string (⟨#[]⟩ : ByteArray), .string (⟨#[]⟩ : ByteArray), .string (⟨#[]⟩ : ByteArray), .string (⟨#[]⟩ : ByteArray), .slice none 0 0, .slice none 0 0]) ?_ 1 _ rfl; (with_reducible repeat (first | refine blk_drewN ?_ _ | refine blk_drew ?_ | refine blk_alloc ?_ _)); refine blk_put (cs := #[.int .i64 0, .string (⟨#[]⟩ : ByteArray), .string (⟨#[]⟩ : ByteArray), .string (⟨#[]⟩ : ByteArray), .string (⟨#[]⟩ : ByteArray), .slice none 0 0, .slice none 0 0]) ?_ 0 _ rfl; (with_reducible repeat (first | refine blk_drewN ?_ _ | refine blk_drew ?_ | refine blk_alloc ?_ _)); refine blk_far ?_ NB316_321.out _; (with_reducible repeat (first | refine blk_drewN ?_ _ | refine blk_drew ?_ | refine blk_alloc ?_ _)); refine blk_far ?_ NB316_321.out _; (with_reducible repeat (first | refine blk_drewN ?_ _ | refine blk_drew ?_ | refine blk_alloc ?_ _)); refine blk_far ?_ NB316_321.out _; (with_reducible repeat (first | refine blk_drewN ?_ _ | refine blk_drew ?_ | refine blk_alloc ?_ _)); exact BK316.out) Tryd.underlying57 rfl (by kernel_rfl)) rfl ?_
  exact ⟨_, _, by first | rfl | (simp [errW_none, errW_some] <;> rfl) | (simp [*, errW_none, errW_some] <;> rfl), by (with_reducible repeat (first | apply Kd.R_alloc | apply Kd.R_drewN | apply Kd.R_drew)); exact Kd.R_mono (Kd.R_far (p := ⟨gb316, 6, none⟩) (Kd.R_far (p := ⟨gb316, 5, none⟩) (Kd.R_far (p := ⟨gb316, 4, none⟩) (Kd.R_far (p := ⟨gb316, 3, none⟩) (Kd.R_far (p := ⟨gb316, 2, none⟩) (Kd.R_far (p := ⟨gb316, 1, none⟩) (Kd.R_far (p := ⟨gb316, 0, none⟩) (Kd.R_far (p := ⟨gb321, 6, none⟩) (Kd.R_far (p := ⟨gb321, 4, none⟩) (Kd.R_far (p := ⟨gb321, 3, none⟩) (Kd.R_types (Kd.R_types HO_322005.out BK321.out (by decide)) BK316.out (by decide)) (fun _ hk => hk.1.2) (.string ((rd_T44 l0 t319).f0))) (fun _ hk => hk.1.2) (.string ((rd_T44 l0 t319).f1))) (fun _ hk => hk.1.2) (.slice Ao41 t327.length co41)) (fun _ hk => hk.2) (.int .i64 t319)) (fun _ hk => hk.2) (.string x322001_13)) (fun _ hk => hk.2) (.string x322002_13)) (fun _ hk => hk.2) (.string ((rd_T44 l0 t319).f0))) (fun _ hk => hk.2) (.string ((rd_T44 l0 t319).f1))) (fun _ hk => hk.2) (.slice Ao46 x322005_13.length co46)) (fun _ hk => hk.2) (.slice Ao41 t327.length co41)) (fun _ hk => hk.1.1.2), by (with_reducible repeat (first | apply Kd.R_alloc | apply Kd.R_drewN | apply Kd.R_drew)); exact Kd.R_mono (Kd.R_far (p := ⟨gb316, 6, none⟩) (Kd.R_far (p := ⟨gb316, 5, none⟩) (Kd.R_far (p := ⟨gb316, 4, none⟩) (Kd.R_far (p := ⟨gb316, 3, none⟩) (Kd.R_far (p := ⟨gb316, 2, none⟩) (Kd.R_far (p := ⟨gb316, 1, none⟩) (Kd.R_far (p := ⟨gb316, 0, none⟩) (Kd.R_far (p := ⟨gb321, 6, none⟩) (Kd.R_far (p := ⟨gb321, 4, none⟩) (Kd.R_far (p := ⟨gb321, 3, none⟩) (Kd.R_types (Kd.R_types HO329.out BK321.out (by decide)) BK316.out (by decide)) (fun _ hk => hk.1.2) (.string ((rd_T44 l0 t319).f0))) (fun _ hk => hk.1.2) (.string ((rd_T44 l0 t319).f1))) (fun _ hk => hk.1.2) (.slice Ao41 t327.length co41)) (fun _ hk => hk.2) (.int .i64 t319)) (fun _ hk => hk.2) (.string x322001_13)) (fun _ hk => hk.2) (.string x322002_13)) (fun _ hk => hk.2) (.string ((rd_T44 l0 t319).f0))) (fun _ hk => hk.2) (.string ((rd_T44 l0 t319).f1))) (fun _ hk => hk.2) (.slice Ao46 x322005_13.length co46)) (fun _ hk => hk.2) (.slice Ao41 t327.length co41)) (fun _ hk => hk.1.1.2), m25_⟩

end Go.Proofs.YtdeggemomajhcaaDoorH.HMerkleAbsent
