-- PRINTED by print.py (a twelfth state) out of the translation. Not trusted: Lean checks it.
import Derived.Test.YtdeggemomajhcaaDoorHMerkleProvesx0
import Derived.Test.YtdeggemomajhcaaDoorHMerkleProvesx3
import Derived.Test.YtdeggemomajhcaaDoorHMerkleProvesx6
import Derived.Test.YtdeggemomajhcaaDoorHMerkleProvesx8
import Derived.Test.YtdeggemomajhcaaDoorHMerkleProvesx10
import Derived.Test.YtdeggemomajhcaaDoorHMerkleProvesx11
namespace Go.Proofs.YtdeggemomajhcaaDoorH.HMerkleProves
open Go.RowKit Go.Proofs.YtdeggemomajhcaaDoorW.PrintWords Go.Proofs.YtdeggemomajhcaaDoorW.PrintLast Go.Proofs.YtdeggemomajhcaaDoorW.PrintMore
attribute [local go_sem] max2_int min2_int max_two min_two max_three min_three max_four min_four   -- for this text's walks alone
set_option linter.unusedVariables false
set_option linter.unusedSimpArgs false

/-! ### strongroomref20_Digest: function 18 -/
def strongroomref20_Digest.f : Nat → List (S39) → Option (ByteArray)
 | 0, _ => none
 | k + 1, l0 => if (l0.length : Int) = 0 then ((strongroomref02_Sum.f (⟨#[2]⟩ : ByteArray)).bind fun t296 => (some t296)) else (if (l0.length : Int) = 1 then (if 0 < (l0.length : Int) then ((strongroomref20_one.f k ((rd_T39 l0 0).f0) ((rd_T39 l0 0).f1)).bind fun t298 => (some t298)) else (none)) else ((strongroomref20_cut.f k (l0.length : Int)).bind fun t299 => (if 0 ≤ t299 then (if t299 ≤ (l0.length : Int) then ((strongroomref20_Digest.f k (l0.take (t299 : Int).toNat)).bind fun t304 => (if 1 + t304.size ≤ 9223372036854775807 then ((strongroomref20_Digest.f k (l0.drop (t299 : Int).toNat)).bind fun t309 => (if ((⟨#[1]⟩ : ByteArray) ++ t304).size + t309.size ≤ 9223372036854775807 then ((strongroomref02_Sum.f (((⟨#[1]⟩ : ByteArray) ++ t304) ++ t309)).bind fun t310 => (some t310)) else (none))) else (none))) else (none)) else (none))))
theorem strongroomref20_Digest.mono_l : ∀ k, (∀ y0, LeO (strongroomref20_Digest.f k y0) (strongroomref20_Digest.f (k + 1) y0))
 | 0 => fun _ r h => by simp [strongroomref20_Digest.f] at h
 | k + 1 => by
  have ih0 := strongroomref20_Digest.mono_l k
  ·intro y0
   unfold strongroomref20_Digest.f
   repeat' first
   | (with_reducible exact ih0 _)
   | (with_reducible exact strongroomref20_cut.mono _ _)
   | (with_reducible exact strongroomref20_one.mono _ _ _)
   | (with_reducible exact LeO.refl _)
   | (with_reducible exact LeO.none _)
   | (with_reducible refine LeO.ite ?_ ?_)
   | (with_reducible refine LeO.bind ?_ (fun _ => ?_))
   | exact ih0 _
   | exact strongroomref20_cut.mono _ _
   | exact strongroomref20_one.mono _ _ _
   | exact LeO.none _
   | refine LeO.ite ?_ ?_
   | refine LeO.bind ?_ (fun _ => ?_)
theorem strongroomref20_Digest.mono : ∀ a0 k, LeO (strongroomref20_Digest.f k a0) (strongroomref20_Digest.f (k + 1) a0) := by
 intro a0 k
 have ih0 := strongroomref20_Digest.mono_l k
 exact ih0 a0
def strongroomref20_Digest.T6 : Bool × List (List Nat × List Nat) := (true, [([], []), ([], []), ([0, 1], [0, 1]), ([2], [2]), ([3], [3]), ([], []), ([], []), ([5, 6], [5, 6]), ([7, 3], [7]), ([4, 8], [4, 8]), ([9, 8], [9]), ([10, 10, 0, 1, 2, 3, 4, 5, 6, 7, 8, 9, 10], [10])])
def strongroomref20_Digest.B6 : List Nat := [0, 0, 3, 7, 15, 0, 0, 96, 239, 511, 1023, 2047]
theorem strongroomref20_Digest.tab6 : rtab .any (opsOf Tryd.f18 6) = strongroomref20_Digest.T6 := by kernel_rfl
theorem strongroomref20_Digest.bits6 : waitsOk strongroomref20_Digest.T6.2 strongroomref20_Digest.B6 = true := by kernel_rfl
set_option maxHeartbeats 8000000 in
set_option maxRecDepth 100000 in
theorem strongroomref20_Digest.calls (k : Nat) : ∀ (A0 : Option Addr) (c0 : Nat) (l0 : List (S39)) (r : ByteArray) (w : World) (hr0 : Kd.C k39 w A0 l0.length l0) (hc0 : l0.length ≤ c0) (h : strongroomref20_Digest.f k l0 = some r),
  Calls Tryd.prog 18 #[.slice A0 l0.length c0] w fun e w' => e = .returned (.string r) ∧ Below w.heap.size w w' := by
 induction k using Nat.strongRecOn with
 | _ k ih =>
 intro A0 c0 l0 r w hr0 hc0 h
 cases k with
 | zero => exact absurd h (by simp [strongroomref20_Digest.f])
 | succ k =>
 simp only [strongroomref20_Digest.f] at h
 have hu39 := Tryd.underlying39
 have HR0 := Aside0.mk hr0
 have HC0 := Aside0.mk hc0
 clear hr0 hc0
 have HB := Aside0.mk (Below.refl w.heap.size w)
 have H : (if (l0.length : Int) = 0 then ((strongroomref02_Sum.f (⟨#[2]⟩ : ByteArray)).bind fun t296 => (some t296)) else (if (l0.length : Int) = 1 then (if 0 < (l0.length : Int) then ((strongroomref20_one.f k ((rd_T39 l0 0).f0) ((rd_T39 l0 0).f1)).bind fun t298 => (some t298)) else (none)) else ((strongroomref20_cut.f k (l0.length : Int)).bind fun t299 => (if 0 ≤ t299 then (if t299 ≤ (l0.length : Int) then ((strongroomref20_Digest.f k (l0.take (t299 : Int).toNat)).bind fun t304 => (if 1 + t304.size ≤ 9223372036854775807 then ((strongroomref20_Digest.f k (l0.drop (t299 : Int).toNat)).bind fun t309 => (if ((⟨#[1]⟩ : ByteArray) ++ t304).size + t309.size ≤ 9223372036854775807 then ((strongroomref02_Sum.f (((⟨#[1]⟩ : ByteArray) ++ t304) ++ t309)).bind fun t310 => (some t310)) else (none))) else (none))) else (none)) else (none))))) = some r := h
 clear h
 by_cases c2 : (l0.length : Int) = 0
 ·rw [if_pos c2] at H
  have c2b0 : ((l0.length : Int) == 0) = true := beq_iff_eq.mpr c2
  have c2b1 : ((l0.length : Int) != 0) = false := bne_eq_false_iff_eq.mpr c2
  clear c2
  replace H := Option.bind_eq_some_iff.mp H
  obtain ⟨t296, A30, H⟩ := H
  replace H : (some t296) = some r := H
  have A3 := Aside0.mk A30
  clear A30
  obtain rfl := Option.some.inj H
  go_enter Tryd.func18, Tryd.ntmps18
  go_wp2_with (first | ((with_reducible refine gate_callee (f := 44) rfl ?_); refine goesL_ (some 7) rfl rfl Tryd.func44 (by kernel_rfl) rfl #[.string (⟨#[2]⟩ : ByteArray)] rfl (by (try simp only [List.map_toArray, List.map_cons, List.map_nil]); first | done | rfl | (simp only [List.length_drop, List.length_take]; rfl)) ?_; (with_reducible refine (strongroomref02_Sum.calls (⟨#[2]⟩ : ByteArray) t296 _ A3.out).mono ?_); rintro e w4 ⟨rfl, hb⟩; refine ⟨_, rfl, ?_⟩; have n0_ := Aside0.mk (below_step (by repeat (first | (with_reducible first | exact HB.out | apply below_alloc | apply pw_below_drewN | apply below_drew1) | exact HB.out | exact Below.refl _ _)) hb); clear HB; have HB := n0_; clear n0_; (try clear hb); (try clear hb2); (try clear hk); (try clear hi)))
  go_ret
  exact ⟨by first | rfl | (simp [errW_none, errW_some] <;> rfl) | (simp [*, errW_none, errW_some] <;> rfl), by repeat (first | (with_reducible first | exact HB.out | apply below_alloc | apply pw_below_drewN | apply below_drew1) | exact HB.out)⟩
 ·rw [if_neg c2] at H
  have c2b0 : ((l0.length : Int) == 0) = false := beq_eq_false_iff_ne.mpr c2
  have c2b1 : ((l0.length : Int) != 0) = true := bne_iff_ne.mpr c2
  have c2b2 : ¬ (l0 = []) := fun h_ => c2 (by rw [h_]; rfl)
  by_cases c5 : (l0.length : Int) = 1
  ·rw [if_pos c5] at H
   have c5b0 : ((l0.length : Int) == 1) = true := beq_iff_eq.mpr c5
   have c5b1 : ((l0.length : Int) != 1) = false := bne_eq_false_iff_eq.mpr c5
   clear c5
   by_cases c6 : 0 < (l0.length : Int)
   ·rw [if_pos c6] at H
    have c6b0 : decide (0 < (l0.length : Int)) = true := decide_eq_true c6
    have c6b1 : decide (0 < l0.length) = true := decide_eq_true (by omega)
    clear c6
    replace H := Option.bind_eq_some_iff.mp H
    obtain ⟨t298, A70, H⟩ := H
    replace H : (some t298) = some r := H
    have A7 := Aside0.mk A70
    clear A70
    obtain rfl := Option.some.inj H
    have p297 : 0 ≤ (0 : Int) := (by omega)
    have q297 : 0 < (l0.length : Int) := of_decide_eq_true (by first | (with_reducible assumption) | assumption)
    obtain ⟨ad297, e297, hx297_0, hx297_1⟩ := at_T39 HR0.out 0 p297 q297
    cases e297
    have qi297 : (0 < l0.length) = True := eq_true (by omega)
    (try rw [show ((0 : Int)).toNat = 0 from rfl] at hx297_0)
    (try rw [show 0 * 2 = 0 from rfl] at hx297_0)
    (try rw [Addr.add_zero'] at hx297_0)
    (try rw [show ((0 : Int)).toNat = 0 from rfl] at hx297_1)
    (try rw [show 0 * 2 = 0 from rfl] at hx297_1)
    (try rw [Addr.add_zero'] at hx297_1)
    replace p297 := eq_true p297
    replace q297 := eq_true q297
    go_enter Tryd.func18, Tryd.ntmps18
    go_wp2_with (first | ((with_reducible refine gate_callee (f := 45) rfl ?_); refine goesL_ (some 14) rfl rfl Tryd.func45 (by kernel_rfl) rfl #[.agg #[.string ((rd_T39 l0 0).f0), .string ((rd_T39 l0 0).f1)]] rfl (by (try simp only [List.map_toArray, List.map_cons, List.map_nil]); first | done | rfl | (simp only [List.length_drop, List.length_take]; rfl)) ?_; (with_reducible refine (strongroomref20_one.calls k ((rd_T39 l0 0).f0) ((rd_T39 l0 0).f1) t298 _ A7.out).mono ?_); rintro e w8 ⟨rfl, hb⟩; refine ⟨_, rfl, ?_⟩; have n0_ := Aside0.mk (below_step (by repeat (first | (with_reducible first | exact HB.out | apply below_alloc | apply pw_below_drewN | apply below_drew1) | exact HB.out | exact Below.refl _ _)) hb); clear HB; have HB := n0_; clear n0_; (try clear hb); (try clear hb2); (try clear hk); (try clear hi)))
    go_ret
    exact ⟨by first | rfl | (simp [errW_none, errW_some] <;> rfl) | (simp [*, errW_none, errW_some] <;> rfl), by repeat (first | (with_reducible first | exact HB.out | apply below_alloc | apply pw_below_drewN | apply below_drew1) | exact HB.out)⟩
   ·rw [if_neg c6] at H
    exact absurd H (by simp)
  ·rw [if_neg c5] at H
   have c5b0 : ((l0.length : Int) == 1) = false := beq_eq_false_iff_ne.mpr c5
   have c5b1 : ((l0.length : Int) != 1) = true := bne_iff_ne.mpr c5
   replace H := Option.bind_eq_some_iff.mp H
   obtain ⟨t299, A90, H⟩ := H
   replace H : (if 0 ≤ t299 then (if t299 ≤ (l0.length : Int) then ((strongroomref20_Digest.f k (l0.take (t299 : Int).toNat)).bind fun t304 => (if 1 + t304.size ≤ 9223372036854775807 then ((strongroomref20_Digest.f k (l0.drop (t299 : Int).toNat)).bind fun t309 => (if ((⟨#[1]⟩ : ByteArray) ++ t304).size + t309.size ≤ 9223372036854775807 then ((strongroomref02_Sum.f (((⟨#[1]⟩ : ByteArray) ++ t304) ++ t309)).bind fun t310 => (some t310)) else (none))) else (none))) else (none)) else (none)) = some r := H
   have A9 := Aside0.mk A90
   clear A90
   by_cases c10 : 0 ≤ t299
   ·rw [if_pos c10] at H
    have c10b0 := eq_true c10
    have c10b1 : decide (0 ≤ t299) = true := decide_eq_true c10
    clear c10
    by_cases c11 : t299 ≤ (l0.length : Int)
    ·rw [if_pos c11] at H
     have c11b0 := eq_true c11
     have c11b1 : decide (t299 ≤ (l0.length : Int)) = true := decide_eq_true c11
     clear c11
     obtain ⟨y300, hy300⟩ : ∃ y_ : List (S39), y_ = (l0.take (t299 : Int).toNat) := ⟨_, rfl⟩
     replace H : ((strongroomref20_Digest.f k y300).bind fun t304 => (if 1 + t304.size ≤ 9223372036854775807 then ((strongroomref20_Digest.f k (l0.drop (t299 : Int).toNat)).bind fun t309 => (if ((⟨#[1]⟩ : ByteArray) ++ t304).size + t309.size ≤ 9223372036854775807 then ((strongroomref02_Sum.f (((⟨#[1]⟩ : ByteArray) ++ t304) ++ t309)).bind fun t310 => (some t310)) else (none))) else (none))) = some r := by first | (rw [hy300]; with_reducible exact H) | (have H2_ := (Option.bind_some _ _).symm.trans H; rw [hy300]; with_reducible exact H2_) | (have H2_ := (Option.bind_some _ _).symm.trans H; with_reducible exact H2_) | with_reducible exact H | (rw [hy300]; exact H) | exact H
     have Ny300 := Aside0.mk hy300
     clear hy300
     replace H := Option.bind_eq_some_iff.mp H
     obtain ⟨t304, A120, H⟩ := H
     replace H : (if 1 + t304.size ≤ 9223372036854775807 then ((strongroomref20_Digest.f k (l0.drop (t299 : Int).toNat)).bind fun t309 => (if ((⟨#[1]⟩ : ByteArray) ++ t304).size + t309.size ≤ 9223372036854775807 then ((strongroomref02_Sum.f (((⟨#[1]⟩ : ByteArray) ++ t304) ++ t309)).bind fun t310 => (some t310)) else (none))) else (none)) = some r := H
     have A12 := Aside0.mk A120
     clear A120
     by_cases c13 : 1 + t304.size ≤ 9223372036854775807
     ·rw [if_pos c13] at H
      have c13b0 := eq_true c13
      have c13b1 : decide (1 + t304.size ≤ 9223372036854775807) = true := decide_eq_true c13
      try have c13b2 : (9223372036854775807 < 1 + t304.size) = False := eq_false (Nat.not_lt.2 c13)
      have c14b0 := eq_true (of_decide_eq_true (by first | (with_reducible assumption) | assumption) : 0 ≤ t299)
      have c15b0 := eq_true (of_decide_eq_true (by first | (with_reducible assumption) | assumption) : t299 ≤ (l0.length : Int))
      obtain ⟨y305, hy305⟩ : ∃ y_ : List (S39), y_ = (l0.drop (t299 : Int).toNat) := ⟨_, rfl⟩
      replace H : ((strongroomref20_Digest.f k y305).bind fun t309 => (if ((⟨#[1]⟩ : ByteArray) ++ t304).size + t309.size ≤ 9223372036854775807 then ((strongroomref02_Sum.f (((⟨#[1]⟩ : ByteArray) ++ t304) ++ t309)).bind fun t310 => (some t310)) else (none))) = some r := by first | (rw [hy305]; with_reducible exact H) | (have H2_ := (Option.bind_some _ _).symm.trans H; rw [hy305]; with_reducible exact H2_) | (have H2_ := (Option.bind_some _ _).symm.trans H; with_reducible exact H2_) | with_reducible exact H | (rw [hy305]; exact H) | exact H
      have Ny305 := Aside0.mk hy305
      clear hy305
      replace H := Option.bind_eq_some_iff.mp H
      obtain ⟨t309, A160, H⟩ := H
      replace H : (if ((⟨#[1]⟩ : ByteArray) ++ t304).size + t309.size ≤ 9223372036854775807 then ((strongroomref02_Sum.f (((⟨#[1]⟩ : ByteArray) ++ t304) ++ t309)).bind fun t310 => (some t310)) else (none)) = some r := H
      have A16 := Aside0.mk A160
      clear A160
      by_cases c17 : ((⟨#[1]⟩ : ByteArray) ++ t304).size + t309.size ≤ 9223372036854775807
      ·rw [if_pos c17] at H
       have c17b0 := eq_true c17
       have c17b1 : decide (((⟨#[1]⟩ : ByteArray) ++ t304).size + t309.size ≤ 9223372036854775807) = true := decide_eq_true c17
       try have c17b2 : (9223372036854775807 < ((⟨#[1]⟩ : ByteArray) ++ t304).size + t309.size) = False := eq_false (Nat.not_lt.2 c17)
       try (have c17b3 := c17b2; simp only [ByteArray.size_append, show ((⟨#[0]⟩ : ByteArray)).size = 1 from rfl, show ((⟨#[1]⟩ : ByteArray)).size = 1 from rfl, show ((⟨#[2]⟩ : ByteArray)).size = 1 from rfl] at c17b3)
       replace H := Option.bind_eq_some_iff.mp H
       obtain ⟨t310, A180, H⟩ := H
       replace H : (some t310) = some r := H
       have A18 := Aside0.mk A180
       clear A180
       obtain rfl := Option.some.inj H
       go_enter Tryd.func18, Tryd.ntmps18
       try go_wp2_with (first | ((with_reducible refine gate_callee (f := 46) rfl ?_); refine goesL_ (some 17) rfl rfl Tryd.func46 (by kernel_rfl) rfl #[.int .i64 (l0.length : Int)] rfl (by (try simp only [List.map_toArray, List.map_cons, List.map_nil]); first | done | rfl | (simp only [List.length_drop, List.length_take]; rfl)) ?_; (with_reducible refine (strongroomref20_cut.calls k (l0.length : Int) t299 _ A9.out).mono ?_); rintro e w' ⟨rfl, ⟨nd, rfl⟩⟩; refine ⟨_, rfl, ?_⟩))
       have n0_ := Aside0.mk (below_drew1 HB.out)
       clear HB
       have HB := n0_
       clear n0_
       have q20 : (t299 : Int) ≤ ((l0.length : Int) : Int) := of_decide_eq_true (by first | (with_reducible assumption) | assumption)
       obtain ⟨i020, hi020, _, hsz20, _⟩ := info_parts info39
       have hroom20 : l0.length ≤ c0 := HC0.out
       have hC20 : Kd.C k39 _ A0 l0.length l0 := HR0.out
       have hcut20 := cut_to (P := Tryd.prog) 22 39 .i64 Tryd.underlying22 hi020 A0 l0.length c0 t299 (of_decide_eq_true (by first | (with_reducible assumption) | assumption)) q20 hroom20
       have hr20 := Kd.C_take (m := (t299 : Int).toNat) hC20 (by omega)
       have hy20 : y300.length = (t299 : Int).toNat := (by rw [Ny300.out, List.length_take]; omega)
       rw [← Ny300.out] at hr20
       rw [← hy20] at hcut20
       have HR303 := Aside0.mk hr20
       have HC303 := Aside0.mk (show y300.length ≤ c0 from by omega)
       clear hr20 hC20 hroom20 hi020 hsz20
       have KY20 := Aside0.mk hy20
       clear hy20
       replace q20 := eq_true q20
       have q21 : (t299 : Int) ≤ ((l0.length : Int) : Int) := of_decide_eq_true (by first | (with_reducible assumption) | assumption)
       obtain ⟨i021, hi021, _, hsz21, _⟩ := info_parts info39
       have hroom21 : l0.length ≤ c0 := HC0.out
       have hC21 : Kd.C k39 _ A0 l0.length l0 := HR0.out
       have q021 : (0 : Int) ≤ (t299 : Int) := of_decide_eq_true (by first | (with_reducible assumption) | assumption)
       have hcut21 := cut_from (P := Tryd.prog) 22 39 .i64 Tryd.underlying22 hi021 2 hsz21 A0 l0.length c0 t299 q021 q21
       have hr21 := Kd.C_drop (m := (t299 : Int).toNat) (c := c0) hC21 (by omega) hroom21
       obtain ⟨A21, hA21⟩ : ∃ A1, A1 = (if c0 = (t299 : Int).toNat then A0 else (A0 : Option Addr).map (·.add ((t299 : Int).toNat * 2))) := ⟨_, rfl⟩
       obtain ⟨c21, hc21⟩ : ∃ c1, c1 = c0 - (t299 : Int).toNat := ⟨_, rfl⟩
       have hy21 : y305.length = l0.length - (t299 : Int).toNat := (by rw [Ny305.out, List.length_drop] <;> omega)
       rw [show (l0).drop (t299 : Int).toNat = y305 from Ny305.out.symm] at hr21
       replace hr21 : Kd.C k39 _ A21 y305.length y305 := (by rw [hA21]; exact hr21)
       rw [← hy21, ← hA21, ← hc21] at hcut21
       have HR308 := Aside0.mk hr21
       have HC308 := Aside0.mk (show y305.length ≤ c21 from by rw [hy21, hc21]; exact Nat.sub_le_sub_right hroom21 _)
       clear hr21 hC21 hroom21 hi021 hsz21 hc21
       have KY21 := Aside0.mk hy21
       have KA21 := Aside0.mk hA21
       clear hy21 hA21
       replace q21 := eq_true q21
       refine start_ (n := 12) (S := fun w' => True) (ds := []) #[false, false, false, false, false, false, false, false, false, false, false, false] (by kernel_rfl) rfl rfl trivial (fun hHeld => ?_); refine with_tabW strongroomref20_Digest.tab6 strongroomref20_Digest.bits6 (fun HT_ HW_ => ?_)
       generalize w.drew = w19 at HB HR303 HR308 hHeld ⊢
       refine pure_ (i := 0) (N := some 18) (v := ?_) (a' := ?_) #[true, false, false, false, false, false, false, false, false, false, false, false] rfl rfl (any_of HT_.out (by kernel_rfl)) (fun _ _ _ h => h) (Or.inl ⟨by rfl, ?_⟩) ?_ ?_
       rotate_left
       ·intro w'
        go_simp
        with_reducible rfl
       rotate_left
       ·simp only [Act.put, List.setIfInBounds_toArray, List.set_cons_zero, List.set_cons_succ, i64_w, i32_w]
        rfl
       refine pure_ (i := 1) (N := some 19) (v := ?_) (a' := ?_) #[true, true, false, false, false, false, false, false, false, false, false, false] rfl rfl (any_of HT_.out (by kernel_rfl)) (fun _ _ _ h => h) (Or.inl ⟨by rfl, ?_⟩) ?_ ?_
       rotate_left
       ·intro w'
        go_simp
        with_reducible rfl
       rotate_left
       ·simp only [Act.put, List.setIfInBounds_toArray, List.set_cons_zero, List.set_cons_succ, i64_w, i32_w]
        rfl
       refine pure_ (i := 2) (N := some 20) (v := ?_) (a' := ?_) #[true, true, true, false, false, false, false, false, false, false, false, false] rfl rfl (any_of HT_.out (by kernel_rfl)) (fun _ _ _ h => h) (Or.inl ⟨by rfl, ?_⟩) ?_ ?_
       rotate_left
       ·intro w'
        go_simp
        with_reducible rfl
       rotate_left
       ·simp only [Act.put, List.setIfInBounds_toArray, List.set_cons_zero, List.set_cons_succ, i64_w, i32_w]
        rfl
       refine pure_ (i := 5) (N := some 23) (v := ?_) (a' := ?_) #[true, true, true, false, false, true, false, false, false, false, false, false] rfl rfl (any_of HT_.out (by kernel_rfl)) (fun _ _ _ h => h) (Or.inl ⟨by rfl, ?_⟩) ?_ ?_
       rotate_left
       ·intro w'
        go_simp
        with_reducible rfl
       rotate_left
       ·simp only [Act.put, List.setIfInBounds_toArray, List.set_cons_zero, List.set_cons_succ, i64_w, i32_w]
        rfl
       refine pure_ (i := 6) (N := some 24) (v := ?_) (a' := ?_) #[true, true, true, false, false, true, true, false, false, false, false, false] rfl rfl (any_of HT_.out (by kernel_rfl)) (fun _ _ _ h => h) (Or.inl ⟨by rfl, ?_⟩) ?_ ?_
       rotate_left
       ·intro w'
        go_simp
        with_reducible rfl
       rotate_left
       ·simp only [Act.put, List.setIfInBounds_toArray, List.set_cons_zero, List.set_cons_succ, i64_w, i32_w]
        rfl
       refine pure_ (i := 7) (N := some 25) (v := ?_) (a' := ?_) #[true, true, true, false, false, true, true, true, false, false, false, false] rfl rfl (any_of HT_.out (by kernel_rfl)) (fun _ _ _ h => h) (Or.inl ⟨by rfl, ?_⟩) ?_ ?_
       rotate_left
       ·intro w'
        go_simp
        with_reducible rfl
       rotate_left
       ·simp only [Act.put, List.setIfInBounds_toArray, List.set_cons_zero, List.set_cons_succ, i64_w, i32_w]
        rfl
       refine one_ (i := 3) (N := some 21) #[true, true, true, true, false, true, true, true, false, false, false, false] rfl rfl (one_of HT_.out (by kernel_rfl)) (by decide) (fun K hK => ?_)
       refine goes_ Tryd.func18 (by kernel_rfl) rfl #[.slice A0 y300.length c0] (by rfl) rfl rfl (by (try simp only [List.map_toArray, List.map_cons, List.map_nil]); first | done | rfl | (simp only [List.length_drop, List.length_take]; rfl)) ?_
       with_reducible refine (ih k (by omega) _ _ y300 t304 _ ?side1 ?side2 A12.out).mono ?_
       (case side1 => repeat (first | exact (Kd.C_below HR303.out HB.out) | exact HR303.out | (with_reducible refine Kd.C_alloc ?_ _) | (with_reducible refine Kd.C_drewN ?_ _) | (with_reducible refine Kd.C_drew ?_)))
       (case side2 => exact HC303.out)
       rintro e w22 ⟨rfl, hb⟩
       refine ⟨_, rfl, ?_⟩
       have n0_ := Aside0.mk (below_step (by repeat (first | (with_reducible first | exact HB.out | apply below_alloc | apply pw_below_drewN | apply below_drew1) | exact HB.out | exact Below.refl _ _)) hb)
       clear HB
       have HB := n0_
       clear n0_
       (try clear hb)
       (try clear hb2)
       (try clear hk)
       (try clear hi)
       refine hK.out _ _ trivial (fun hHeld => ?_)
       clear hK K
       refine norm_ (a' := ?_) ?_ ?_
       rotate_left
       ·show Act.put _ (some 21) _ = _
        simp only [Act.put, List.setIfInBounds_toArray, List.set_cons_zero, List.set_cons_succ, i64_w, i32_w]
        rfl
       refine pure_ (i := 4) (N := some 22) (v := ?_) (a' := ?_) #[true, true, true, true, true, true, true, true, false, false, false, false] rfl rfl (any_of HT_.out (by kernel_rfl)) (fun _ _ _ h => h) (Or.inl ⟨by rfl, ?_⟩) ?_ ?_
       rotate_left
       ·intro w'
        go_simp
        with_reducible rfl
       rotate_left
       ·simp only [Act.put, List.setIfInBounds_toArray, List.set_cons_zero, List.set_cons_succ, i64_w, i32_w]
        rfl
       refine one_ (i := 8) (N := some 26) #[true, true, true, true, true, true, true, true, true, false, false, false] rfl rfl (one_of HT_.out (by kernel_rfl)) (by decide) (fun K hK => ?_)
       refine goes_ Tryd.func18 (by kernel_rfl) rfl #[.slice A21 y305.length c21] (by rfl) rfl rfl (by (try simp only [List.map_toArray, List.map_cons, List.map_nil]); first | done | rfl | (simp only [List.length_drop, List.length_take]; rfl)) ?_
       with_reducible refine (ih k (by omega) _ _ y305 t309 _ ?side1 ?side2 A16.out).mono ?_
       (case side1 => repeat (first | exact (Kd.C_below HR308.out HB.out) | exact HR308.out | (with_reducible refine Kd.C_alloc ?_ _) | (with_reducible refine Kd.C_drewN ?_ _) | (with_reducible refine Kd.C_drew ?_)))
       (case side2 => exact HC308.out)
       rintro e w23 ⟨rfl, hb⟩
       refine ⟨_, rfl, ?_⟩
       have n0_ := Aside0.mk (below_step (by repeat (first | (with_reducible first | exact HB.out | apply below_alloc | apply pw_below_drewN | apply below_drew1) | exact HB.out | exact Below.refl _ _)) hb)
       clear HB
       have HB := n0_
       clear n0_
       (try clear hb)
       (try clear hb2)
       (try clear hk)
       (try clear hi)
       refine hK.out _ _ trivial (fun hHeld => ?_)
       clear hK K
       refine norm_ (a' := ?_) ?_ ?_
       rotate_left
       ·show Act.put _ (some 26) _ = _
        simp only [Act.put, List.setIfInBounds_toArray, List.set_cons_zero, List.set_cons_succ, i64_w, i32_w]
        rfl
       refine pure_ (i := 9) (N := some 27) (v := ?_) (a' := ?_) #[true, true, true, true, true, true, true, true, true, true, false, false] rfl rfl (any_of HT_.out (by kernel_rfl)) (fun _ _ _ h => h) (Or.inl ⟨by rfl, ?_⟩) ?_ ?_
       rotate_left
       ·intro w'
        go_simp
        with_reducible rfl
       rotate_left
       ·simp only [Act.put, List.setIfInBounds_toArray, List.set_cons_zero, List.set_cons_succ, i64_w, i32_w]
        rfl
       refine one_ (i := 10) (N := some 28) #[true, true, true, true, true, true, true, true, true, true, true, false] rfl rfl (one_of HT_.out (by kernel_rfl)) (by decide) (fun K hK => ?_)
       refine goes_ Tryd.func44 (by kernel_rfl) rfl #[.string (((⟨#[1]⟩ : ByteArray) ++ t304) ++ t309)] (by rfl) rfl rfl (by (try simp only [List.map_toArray, List.map_cons, List.map_nil]); first | done | rfl | (simp only [List.length_drop, List.length_take]; rfl)) ?_
       with_reducible refine (strongroomref02_Sum.calls (((⟨#[1]⟩ : ByteArray) ++ t304) ++ t309) t310 _ A18.out).mono ?_
       rintro e w24 ⟨rfl, hb⟩
       refine ⟨_, rfl, ?_⟩
       have n0_ := Aside0.mk (below_step (by repeat (first | (with_reducible first | exact HB.out | apply below_alloc | apply pw_below_drewN | apply below_drew1) | exact HB.out | exact Below.refl _ _)) hb)
       clear HB
       have HB := n0_
       clear n0_
       (try clear hb)
       (try clear hb2)
       (try clear hk)
       (try clear hi)
       refine hK.out _ _ trivial (fun hHeld => ?_)
       clear hK K
       refine norm_ (a' := ?_) ?_ ?_
       rotate_left
       ·show Act.put _ (some 28) _ = _
        simp only [Act.put, List.setIfInBounds_toArray, List.set_cons_zero, List.set_cons_succ, i64_w, i32_w]
        rfl
       refine pure_ (i := 11) (N := some 2) (v := ?_) (a' := ?_) #[true, true, true, true, true, true, true, true, true, true, true, true] rfl rfl (any_of HT_.out (by kernel_rfl)) (fun _ _ _ h => h) (Or.inl ⟨by rfl, ?_⟩) ?_ ?_
       rotate_left
       ·intro w'
        go_simp
        with_reducible rfl
       rotate_left
       ·simp only [Act.put, List.setIfInBounds_toArray, List.set_cons_zero, List.set_cons_succ, i64_w, i32_w]
        rfl
       refine done_ (done_of HT_.out (by kernel_rfl)) ?_
       try go_wp2
       go_ret
       exact ⟨by first | rfl | (simp [errW_none, errW_some] <;> rfl) | (simp [*, errW_none, errW_some] <;> rfl), by repeat (first | (with_reducible first | exact HB.out | apply below_alloc | apply pw_below_drewN | apply below_drew1) | exact HB.out)⟩
      ·rw [if_neg c17] at H
       exact absurd H (by simp)
     ·rw [if_neg c13] at H
      exact absurd H (by simp)
    ·rw [if_neg c11] at H
     exact absurd H (by simp)
   ·rw [if_neg c10] at H
    exact absurd H (by simp)

/-! ### strongroomref20_Proof: function 21 -/
def strongroomref20_Proof.f : Nat → List (S39) → Int → Option (List ByteArray)
 | 0, _, _ => none
 | k + 1, l0, a1 => if (l0.length : Int) = 1 then (some ([] : List ByteArray)) else ((strongroomref20_cut.f k (l0.length : Int)).bind fun t311 => (if a1 < t311 then (if 0 ≤ t311 then (if t311 ≤ (l0.length : Int) then ((strongroomref20_Proof.f k (l0.take (t311 : Int).toNat) a1).bind fun t316 => (if ([] : List ByteArray).length + t316.length < 8796093022208 then ((some (([] : List ByteArray) ++ t316 : List ByteArray)).bind fun y319 => ((strongroomref20_Digest.f k (l0.drop (t311 : Int).toNat)).bind fun t326 => (if y319.length < 8796093022208 then (some (y319 ++ [t326])) else (none)))) else (none))) else (none)) else (none)) else (if 0 ≤ t311 then (if t311 ≤ (l0.length : Int) then ((strongroomref20_Proof.f k (l0.drop (t311 : Int).toNat) (wrap64 (a1 - t311))).bind fun t334 => (if ([] : List ByteArray).length + t334.length < 8796093022208 then ((some (([] : List ByteArray) ++ t334 : List ByteArray)).bind fun y337 => ((strongroomref20_Digest.f k (l0.take (t311 : Int).toNat)).bind fun t344 => (if y337.length < 8796093022208 then (some (y337 ++ [t344])) else (none)))) else (none))) else (none)) else (none))))
theorem strongroomref20_Proof.mono_l : ∀ k, (∀ y0 y1, LeO (strongroomref20_Proof.f k y0 y1) (strongroomref20_Proof.f (k + 1) y0 y1))
 | 0 => fun _ _ r h => by simp [strongroomref20_Proof.f] at h
 | k + 1 => by
  have ih0 := strongroomref20_Proof.mono_l k
  ·intro y0 y1
   unfold strongroomref20_Proof.f
   repeat' first
   | (with_reducible exact ih0 _ _)
   | (with_reducible exact strongroomref20_Digest.mono _ _)
   | (with_reducible exact strongroomref20_cut.mono _ _)
   | (with_reducible exact LeO.refl _)
   | (with_reducible exact LeO.none _)
   | (with_reducible refine LeO.ite ?_ ?_)
   | (with_reducible refine LeO.bind ?_ (fun _ => ?_))
   | exact ih0 _ _
   | exact strongroomref20_Digest.mono _ _
   | exact strongroomref20_cut.mono _ _
   | exact LeO.none _
   | refine LeO.ite ?_ ?_
   | refine LeO.bind ?_ (fun _ => ?_)
theorem strongroomref20_Proof.mono : ∀ a0 a1 k, LeO (strongroomref20_Proof.f k a0 a1) (strongroomref20_Proof.f (k + 1) a0 a1) := by
 intro a0 a1 k
 have ih0 := strongroomref20_Proof.mono_l k
 exact ih0 a0 a1
set_option maxHeartbeats 8000000 in
set_option maxRecDepth 100000 in
theorem strongroomref20_Proof.calls (k : Nat) : ∀ (A0 : Option Addr) (c0 : Nat) (l0 : List (S39)) (a1 : Int) (r : List ByteArray) (w : World) (hr0 : Kd.C k39 w A0 l0.length l0) (hc0 : l0.length ≤ c0) (h : strongroomref20_Proof.f k l0 a1 = some r),
  Calls Tryd.prog 21 #[.slice A0 l0.length c0, .int .i64 a1] w fun e w' => ∃ v0_ : Value, e = .returned (v0_) ∧ Kd.R Kd.string 9 w' w.heap.size (fun _ => True) v0_ r ∧ Below w.heap.size w w' := by
 induction k using Nat.strongRecOn with
 | _ k ih =>
 intro A0 c0 l0 a1 r w hr0 hc0 h
 cases k with
 | zero => exact absurd h (by simp [strongroomref20_Proof.f])
 | succ k =>
 simp only [strongroomref20_Proof.f] at h
 have HR0 := Aside0.mk hr0
 have HC0 := Aside0.mk hc0
 clear hr0 hc0
 have HB := Aside0.mk (Below.refl w.heap.size w)
 have H : (if (l0.length : Int) = 1 then (some ([] : List ByteArray)) else ((strongroomref20_cut.f k (l0.length : Int)).bind fun t311 => (if a1 < t311 then (if 0 ≤ t311 then (if t311 ≤ (l0.length : Int) then ((strongroomref20_Proof.f k (l0.take (t311 : Int).toNat) a1).bind fun t316 => (if ([] : List ByteArray).length + t316.length < 8796093022208 then ((some (([] : List ByteArray) ++ t316 : List ByteArray)).bind fun y319 => ((strongroomref20_Digest.f k (l0.drop (t311 : Int).toNat)).bind fun t326 => (if y319.length < 8796093022208 then (some (y319 ++ [t326])) else (none)))) else (none))) else (none)) else (none)) else (if 0 ≤ t311 then (if t311 ≤ (l0.length : Int) then ((strongroomref20_Proof.f k (l0.drop (t311 : Int).toNat) (wrap64 (a1 - t311))).bind fun t334 => (if ([] : List ByteArray).length + t334.length < 8796093022208 then ((some (([] : List ByteArray) ++ t334 : List ByteArray)).bind fun y337 => ((strongroomref20_Digest.f k (l0.take (t311 : Int).toNat)).bind fun t344 => (if y337.length < 8796093022208 then (some (y337 ++ [t344])) else (none)))) else (none))) else (none)) else (none))))) = some r := h
 clear h
 by_cases c3 : (l0.length : Int) = 1
 ·rw [if_pos c3] at H
  have c3b0 : ((l0.length : Int) == 1) = true := beq_iff_eq.mpr c3
  have c3b1 : ((l0.length : Int) != 1) = false := bne_eq_false_iff_eq.mpr c3
  clear c3
  obtain rfl := Option.some.inj H
  go_enter Tryd.func21, Tryd.ntmps21
  go_wp2
  go_ret
  exact ⟨_, by first | rfl | (simp [errW_none, errW_some] <;> rfl) | (simp [*, errW_none, errW_some] <;> rfl), by first | exact Kd.R_nil _ _ _ _ _ | exact Kd.N_nil _ _ _ _ _ | exact Kd.V_nil _ _ _ _ _ | exact Kd.Q_nil _ _ _ _ _ | exact Kd.S_nil _ _ _ _ _, by repeat (first | (with_reducible first | exact HB.out | apply below_alloc | apply pw_below_drewN | apply below_drew1) | exact HB.out)⟩
 ·rw [if_neg c3] at H
  have c3b0 : ((l0.length : Int) == 1) = false := beq_eq_false_iff_ne.mpr c3
  have c3b1 : ((l0.length : Int) != 1) = true := bne_iff_ne.mpr c3
  replace H := Option.bind_eq_some_iff.mp H
  obtain ⟨t311, A40, H⟩ := H
  replace H : (if a1 < t311 then (if 0 ≤ t311 then (if t311 ≤ (l0.length : Int) then ((strongroomref20_Proof.f k (l0.take (t311 : Int).toNat) a1).bind fun t316 => (if ([] : List ByteArray).length + t316.length < 8796093022208 then ((some (([] : List ByteArray) ++ t316 : List ByteArray)).bind fun y319 => ((strongroomref20_Digest.f k (l0.drop (t311 : Int).toNat)).bind fun t326 => (if y319.length < 8796093022208 then (some (y319 ++ [t326])) else (none)))) else (none))) else (none)) else (none)) else (if 0 ≤ t311 then (if t311 ≤ (l0.length : Int) then ((strongroomref20_Proof.f k (l0.drop (t311 : Int).toNat) (wrap64 (a1 - t311))).bind fun t334 => (if ([] : List ByteArray).length + t334.length < 8796093022208 then ((some (([] : List ByteArray) ++ t334 : List ByteArray)).bind fun y337 => ((strongroomref20_Digest.f k (l0.take (t311 : Int).toNat)).bind fun t344 => (if y337.length < 8796093022208 then (some (y337 ++ [t344])) else (none)))) else (none))) else (none)) else (none))) = some r := H
  have A4 := Aside0.mk A40
  clear A40
  by_cases c5 : a1 < t311
  ·rw [if_pos c5] at H
   have c5b0 : decide (a1 < t311) = true := decide_eq_true c5
   clear c5
   by_cases c6 : 0 ≤ t311
   ·rw [if_pos c6] at H
    have c6b0 := eq_true c6
    have c6b1 : decide (0 ≤ t311) = true := decide_eq_true c6
    clear c6
    by_cases c7 : t311 ≤ (l0.length : Int)
    ·rw [if_pos c7] at H
     have c7b0 := eq_true c7
     have c7b1 : decide (t311 ≤ (l0.length : Int)) = true := decide_eq_true c7
     clear c7
     obtain ⟨y312, hy312⟩ : ∃ y_ : List (S39), y_ = (l0.take (t311 : Int).toNat) := ⟨_, rfl⟩
     replace H : ((strongroomref20_Proof.f k y312 a1).bind fun t316 => (if ([] : List ByteArray).length + t316.length < 8796093022208 then ((some (([] : List ByteArray) ++ t316 : List ByteArray)).bind fun y319 => ((strongroomref20_Digest.f k (l0.drop (t311 : Int).toNat)).bind fun t326 => (if y319.length < 8796093022208 then (some (y319 ++ [t326])) else (none)))) else (none))) = some r := by first | (rw [hy312]; with_reducible exact H) | (have H2_ := (Option.bind_some _ _).symm.trans H; rw [hy312]; with_reducible exact H2_) | (have H2_ := (Option.bind_some _ _).symm.trans H; with_reducible exact H2_) | with_reducible exact H | (rw [hy312]; exact H) | exact H
     have Ny312 := Aside0.mk hy312
     clear hy312
     replace H := Option.bind_eq_some_iff.mp H
     obtain ⟨t316, A80, H⟩ := H
     replace H : (if ([] : List ByteArray).length + t316.length < 8796093022208 then ((some (([] : List ByteArray) ++ t316 : List ByteArray)).bind fun y319 => ((strongroomref20_Digest.f k (l0.drop (t311 : Int).toNat)).bind fun t326 => (if y319.length < 8796093022208 then (some (y319 ++ [t326])) else (none)))) else (none)) = some r := H
     have A8 := Aside0.mk A80
     clear A80
     by_cases c9 : ([] : List ByteArray).length + t316.length < 8796093022208
     ·rw [if_pos c9] at H
      have LMc9 := Aside0.mk c9
      clear c9
      obtain ⟨y319, hy319⟩ : ∃ y_ : List ByteArray, y_ = (([] : List ByteArray) ++ t316) := ⟨_, rfl⟩
      replace H : ((strongroomref20_Digest.f k (l0.drop (t311 : Int).toNat)).bind fun t326 => (if y319.length < 8796093022208 then (some (y319 ++ [t326])) else (none))) = some r := by first | (rw [hy319]; with_reducible exact H) | (have H2_ := (Option.bind_some _ _).symm.trans H; rw [hy319]; with_reducible exact H2_) | (have H2_ := (Option.bind_some _ _).symm.trans H; with_reducible exact H2_) | with_reducible exact H | (rw [hy319]; exact H) | exact H
      have Ny319 := Aside0.mk hy319
      clear hy319
      have c10b0 := eq_true (of_decide_eq_true (by first | (with_reducible assumption) | assumption) : 0 ≤ t311)
      have c11b0 := eq_true (of_decide_eq_true (by first | (with_reducible assumption) | assumption) : t311 ≤ (l0.length : Int))
      obtain ⟨y322, hy322⟩ : ∃ y_ : List (S39), y_ = (l0.drop (t311 : Int).toNat) := ⟨_, rfl⟩
      replace H : ((strongroomref20_Digest.f k y322).bind fun t326 => (if y319.length < 8796093022208 then (some (y319 ++ [t326])) else (none))) = some r := by first | (rw [hy322]; with_reducible exact H) | (have H2_ := (Option.bind_some _ _).symm.trans H; rw [hy322]; with_reducible exact H2_) | (have H2_ := (Option.bind_some _ _).symm.trans H; with_reducible exact H2_) | with_reducible exact H | (rw [hy322]; exact H) | exact H
      have Ny322 := Aside0.mk hy322
      clear hy322
      replace H := Option.bind_eq_some_iff.mp H
      obtain ⟨t326, A120, H⟩ := H
      replace H : (if y319.length < 8796093022208 then (some (y319 ++ [t326])) else (none)) = some r := H
      have A12 := Aside0.mk A120
      clear A120
      by_cases c13 : y319.length < 8796093022208
      ·rw [if_pos c13] at H
       have LMc13 := Aside0.mk c13
       clear c13
       obtain ⟨y327, hy327⟩ : ∃ y_ : List ByteArray, y_ = (y319 ++ [t326]) := ⟨_, rfl⟩
       replace H : (some y327) = some r := by first | (rw [hy327]; with_reducible exact H) | (have H2_ := (Option.bind_some _ _).symm.trans H; rw [hy327]; with_reducible exact H2_) | (have H2_ := (Option.bind_some _ _).symm.trans H; with_reducible exact H2_) | with_reducible exact H | (rw [hy327]; exact H) | exact H
       have Ny327 := Aside0.mk hy327
       clear hy327
       obtain rfl := Option.some.inj H
       go_enter Tryd.func21, Tryd.ntmps21
       go_wp2_with (first | ((with_reducible refine gate_callee (f := 46) rfl ?_); refine goesL_ (some 12) rfl rfl Tryd.func46 (by kernel_rfl) rfl #[.int .i64 (l0.length : Int)] rfl (by (try simp only [List.map_toArray, List.map_cons, List.map_nil]); first | done | rfl | (simp only [List.length_drop, List.length_take]; rfl)) ?_; (with_reducible refine (strongroomref20_cut.calls k (l0.length : Int) t311 _ A4.out).mono ?_); rintro e w' ⟨rfl, ⟨nd, rfl⟩⟩; refine ⟨_, rfl, ?_⟩; have q14 : (t311 : Int) ≤ ((l0.length : Int) : Int) := of_decide_eq_true (by first | (with_reducible assumption) | assumption); obtain ⟨i014, hi014, _, hsz14, _⟩ := info_parts info39; have hroom14 : l0.length ≤ c0 := HC0.out; have hC14 : Kd.C k39 _ A0 l0.length l0 := HR0.out; have hcut14 := cut_to (P := Tryd.prog) 22 39 .i64 Tryd.underlying22 hi014 A0 l0.length c0 t311 (of_decide_eq_true (by first | (with_reducible assumption) | assumption)) q14 hroom14; have hr14 := Kd.C_take (m := (t311 : Int).toNat) hC14 (by omega); have hy14 : y312.length = (t311 : Int).toNat := (by rw [Ny312.out, List.length_take]; omega); rw [← Ny312.out] at hr14; rw [← hy14] at hcut14; have HR315 := Aside0.mk hr14; have HC315 := Aside0.mk (show y312.length ≤ c0 from by omega); clear hr14 hC14 hroom14 hi014 hsz14; have KY14 := Aside0.mk hy14; clear hy14; replace q14 := eq_true q14) | ((with_reducible refine gate_callee (f := 21) rfl ?_); refine goesL_ (some 21) rfl rfl Tryd.func21 (by kernel_rfl) rfl #[.slice A0 y312.length c0, .int .i64 a1] rfl (by (try simp only [List.map_toArray, List.map_cons, List.map_nil]); first | done | rfl | (simp only [List.length_drop, List.length_take]; rfl)) ?_; (with_reducible refine (ih k (by omega) _ _ y312 a1 t316 _ ?side1 ?side2 A8.out).mono ?_); (case side1 => repeat (first | exact HR315.out | (with_reducible refine Kd.C_alloc ?_ _) | (with_reducible refine Kd.C_drewN ?_ _) | (with_reducible refine Kd.C_drew ?_))); (case side2 => exact HC315.out); rintro e w15 ⟨v317, rfl, ho0, hb⟩; refine ⟨_, rfl, ?_⟩; have n0_ := Aside0.mk (Kd.R_lower ho0 (below_size (by repeat (first | (with_reducible first | exact HB.out | apply below_alloc | apply pw_below_drewN | apply below_drew1) | exact HB.out | exact Below.refl _ _)))); have n1_ := Aside0.mk (below_step (by repeat (first | (with_reducible first | exact HB.out | apply below_alloc | apply pw_below_drewN | apply below_drew1) | exact HB.out | exact Below.refl _ _)) hb); clear HB; have HO318 := n0_; have HB := n1_; clear n0_ n1_; (try clear hb); (try clear hb2); (try clear hk); (try clear hi); (try clear ho0); obtain ⟨Ao17, co17, eo17⟩ := Kd.R_slice HO318.out; subst eo17) | ((with_reducible refine gate_builtin (b := .append) (xs := #[.tmp 16, .tmp 21]) rfl ?_); at_builtin; refine Kd.R_append_rows Kd.string (w0 := w) w.heap.size rfl (.tmp 16) (.tmp 21) 32 9 (.string ⟨#[]⟩) 16 rfl Tryd.underlying32 info9 rfl (by decide) (by omega) (.slice none 0 0) ([] : List ByteArray) t316 _ _ _ (fun k_ => some k_ ≠ (.slice Ao17 t316.length co17 : Value).ownBlock) (fun _ => False) rfl rfl ?aO ?aR (fun _ _ h => h) (fun _ h => h.elim) ?aF ?aB ?aS ?aL ?_; (case aR => repeat (first | exact (Kd.R_reads' HO318.out).2.2 | (with_reducible refine Kd.C_alloc ?_ _) | (with_reducible refine Kd.C_drewN ?_ _) | (with_reducible refine Kd.C_drew ?_))); (case aB => exact (by repeat (first | (with_reducible first | exact HB.out | apply below_alloc | apply pw_below_drewN | apply below_drew1) | exact HB.out | exact Below.refl _ _))); (case aF => exact (fun k_ hk => Kd.fresh' (Kd.R_lt (by (with_reducible repeat (first | apply Kd.R_alloc | apply Kd.R_drewN | apply Kd.R_drew)); exact HO318.out)) k_ hk)); (case aO => exact ((Kd.R_nil _ _ _ _ (fun k_ => some k_ ≠ (.slice Ao17 t316.length co17 : Value).ownBlock)))); (case aS => exact (below_size (by repeat (first | (with_reducible first | exact HB.out | apply below_alloc | apply pw_below_drewN | apply below_drew1) | exact HB.out | exact Below.refl _ _)))); (case aL => have := LMc9.out; omega); intro v320 w16 ho hb hg hat; rw [← Ny319.out] at ho; have n0_ := Aside0.mk (Kd.R_after (Kd.R_apart_nil (by (with_reducible repeat (first | apply Kd.R_alloc | apply Kd.R_drewN | apply Kd.R_drew)); exact HO318.out)) hg hat); have n1_ := Aside0.mk (hb); have n2_ := Aside0.mk (ho); clear HO318; clear HB; have HO318 := n0_; have HB := n1_; have HO321 := n2_; clear n0_ n1_ n2_; clear ho hb hg hat; have q18 : (t311 : Int) ≤ ((l0.length : Int) : Int) := of_decide_eq_true (by first | (with_reducible assumption) | assumption); obtain ⟨i018, hi018, _, hsz18, _⟩ := info_parts info39; have hroom18 : l0.length ≤ c0 := HC0.out; have hC18 : Kd.C k39 _ A0 l0.length l0 := HR0.out; have q018 : (0 : Int) ≤ (t311 : Int) := of_decide_eq_true (by first | (with_reducible assumption) | assumption); have hcut18 := cut_from (P := Tryd.prog) 22 39 .i64 Tryd.underlying22 hi018 2 hsz18 A0 l0.length c0 t311 q018 q18; have hr18 := Kd.C_drop (m := (t311 : Int).toNat) (c := c0) hC18 (by omega) hroom18; obtain ⟨A18, hA18⟩ : ∃ A1, A1 = (if c0 = (t311 : Int).toNat then A0 else (A0 : Option Addr).map (·.add ((t311 : Int).toNat * 2))) := ⟨_, rfl⟩; obtain ⟨c18, hc18⟩ : ∃ c1, c1 = c0 - (t311 : Int).toNat := ⟨_, rfl⟩; have hy18 : y322.length = l0.length - (t311 : Int).toNat := (by rw [Ny322.out, List.length_drop] <;> omega); rw [show (l0).drop (t311 : Int).toNat = y322 from Ny322.out.symm] at hr18; replace hr18 : Kd.C k39 _ A18 y322.length y322 := (by rw [hA18]; exact hr18); rw [← hy18, ← hA18, ← hc18] at hcut18; have HR325 := Aside0.mk hr18; have HC325 := Aside0.mk (show y322.length ≤ c18 from by rw [hy18, hc18]; exact Nat.sub_le_sub_right hroom18 _); clear hr18 hC18 hroom18 hi018 hsz18 hc18; have KY18 := Aside0.mk hy18; have KA18 := Aside0.mk hA18; clear hy18 hA18; replace q18 := eq_true q18) | ((with_reducible refine gate_callee (f := 18) rfl ?_); refine goesL_ (some 27) rfl rfl Tryd.func18 (by kernel_rfl) rfl #[.slice A18 y322.length c18] rfl (by (try simp only [List.map_toArray, List.map_cons, List.map_nil]); first | done | rfl | (simp only [List.length_drop, List.length_take]; rfl)) ?_; (with_reducible refine (strongroomref20_Digest.calls k _ _ y322 t326 _ ?side1 ?side2 A12.out).mono ?_); (case side1 => repeat (first | exact (Kd.C_below HR325.out HB.out) | exact HR325.out | (with_reducible refine Kd.C_alloc ?_ _) | (with_reducible refine Kd.C_drewN ?_ _) | (with_reducible refine Kd.C_drew ?_))); (case side2 => exact HC325.out); rintro e w19 ⟨rfl, hb⟩; refine ⟨_, rfl, ?_⟩; have n0_ := Aside0.mk (Kd.R_below (by (with_reducible repeat (first | apply Kd.R_alloc | apply Kd.R_drewN | apply Kd.R_drew)); exact HO318.out) hb); have n1_ := Aside0.mk (Kd.R_below (by (with_reducible repeat (first | apply Kd.R_alloc | apply Kd.R_drewN | apply Kd.R_drew)); exact HO321.out) hb); have n2_ := Aside0.mk (below_step (by repeat (first | (with_reducible first | exact HB.out | apply below_alloc | apply pw_below_drewN | apply below_drew1) | exact HB.out | exact Below.refl _ _)) hb); clear HO318; clear HO321; clear HB; have HO318 := n0_; have HO321 := n1_; have HB := n2_; clear n0_ n1_ n2_; (try clear hb); (try clear hb2); (try clear hk); (try clear hi)) | ((with_reducible refine gate_builtin (b := .append) (xs := #[.tmp 23, .tmp 28]) rfl ?_); at_builtin; refine Kd.R_append Kd.string (w0 := w) w.heap.size rfl (.tmp 23) (.tmp 28) 32 9 (.string ⟨#[]⟩) 16 rfl Tryd.underlying32 info9 rfl (by decide) (by omega) v320 y319 t326 [.string t326] (fun k_ => some k_ ≠ (.slice Ao17 t316.length co17 : Value).ownBlock) (fun _ => False) rfl rfl ?aP (fun _ hk => hk.elim) ?aF ?aO ?aB ?aS ?aL ?_; (case aP => exact rfl); (case aB => exact (by repeat (first | (with_reducible first | exact HB.out | apply below_alloc | apply pw_below_drewN | apply below_drew1) | exact HB.out | exact Below.refl _ _))); (case aF => exact (fun k_ hk => Kd.fresh' (Kd.R_lt (by (with_reducible repeat (first | apply Kd.R_alloc | apply Kd.R_drewN | apply Kd.R_drew)); exact HO318.out)) k_ hk)); (case aO => exact (by (with_reducible repeat (first | apply Kd.R_alloc | apply Kd.R_drewN | apply Kd.R_drew)); exact HO321.out)); (case aS => exact (below_size (by repeat (first | (with_reducible first | exact HB.out | apply below_alloc | apply pw_below_drewN | apply below_drew1) | exact HB.out | exact Below.refl _ _)))); (case aL => have := LMc13.out; omega); intro v328 w20 ho hb hg hat; rw [← Ny327.out] at ho; have n0_ := Aside0.mk (Kd.R_after (ok := (fun _ => True)) (by (with_reducible repeat (first | apply Kd.R_alloc | apply Kd.R_drewN | apply Kd.R_drew)); exact HO318.out) hg hat); have n1_ := Aside0.mk (hb); have n2_ := Aside0.mk (ho); clear HO318; clear HB; clear HO321; have HO318 := n0_; have HB := n1_; have HO329 := n2_; clear n0_ n1_ n2_; clear ho hb hg hat))
       go_ret
       exact ⟨_, by first | rfl | (simp [errW_none, errW_some] <;> rfl) | (simp [*, errW_none, errW_some] <;> rfl), by (with_reducible repeat (first | apply Kd.R_alloc | apply Kd.R_drewN | apply Kd.R_drew)); exact Kd.R_mono HO329.out (fun _ hk => trivial), by repeat (first | (with_reducible first | exact HB.out | apply below_alloc | apply pw_below_drewN | apply below_drew1) | exact HB.out)⟩
      ·rw [if_neg c13] at H
       exact absurd H (by simp)
     ·rw [if_neg c9] at H
      exact absurd H (by simp)
    ·rw [if_neg c7] at H
     exact absurd H (by simp)
   ·rw [if_neg c6] at H
    exact absurd H (by simp)
  ·rw [if_neg c5] at H
   have c5b0 : decide (a1 < t311) = false := decide_eq_false c5
   clear c5
   by_cases c21 : 0 ≤ t311
   ·rw [if_pos c21] at H
    have c21b0 := eq_true c21
    have c21b1 : decide (0 ≤ t311) = true := decide_eq_true c21
    clear c21
    by_cases c22 : t311 ≤ (l0.length : Int)
    ·rw [if_pos c22] at H
     have c22b0 := eq_true c22
     have c22b1 : decide (t311 ≤ (l0.length : Int)) = true := decide_eq_true c22
     clear c22
     obtain ⟨y330, hy330⟩ : ∃ y_ : List (S39), y_ = (l0.drop (t311 : Int).toNat) := ⟨_, rfl⟩
     replace H : ((strongroomref20_Proof.f k y330 (wrap64 (a1 - t311))).bind fun t334 => (if ([] : List ByteArray).length + t334.length < 8796093022208 then ((some (([] : List ByteArray) ++ t334 : List ByteArray)).bind fun y337 => ((strongroomref20_Digest.f k (l0.take (t311 : Int).toNat)).bind fun t344 => (if y337.length < 8796093022208 then (some (y337 ++ [t344])) else (none)))) else (none))) = some r := by first | (rw [hy330]; with_reducible exact H) | (have H2_ := (Option.bind_some _ _).symm.trans H; rw [hy330]; with_reducible exact H2_) | (have H2_ := (Option.bind_some _ _).symm.trans H; with_reducible exact H2_) | with_reducible exact H | (rw [hy330]; exact H) | exact H
     have Ny330 := Aside0.mk hy330
     clear hy330
     replace H := Option.bind_eq_some_iff.mp H
     obtain ⟨t334, A230, H⟩ := H
     replace H : (if ([] : List ByteArray).length + t334.length < 8796093022208 then ((some (([] : List ByteArray) ++ t334 : List ByteArray)).bind fun y337 => ((strongroomref20_Digest.f k (l0.take (t311 : Int).toNat)).bind fun t344 => (if y337.length < 8796093022208 then (some (y337 ++ [t344])) else (none)))) else (none)) = some r := H
     have A23 := Aside0.mk A230
     clear A230
     by_cases c24 : ([] : List ByteArray).length + t334.length < 8796093022208
     ·rw [if_pos c24] at H
      have LMc24 := Aside0.mk c24
      clear c24
      obtain ⟨y337, hy337⟩ : ∃ y_ : List ByteArray, y_ = (([] : List ByteArray) ++ t334) := ⟨_, rfl⟩
      replace H : ((strongroomref20_Digest.f k (l0.take (t311 : Int).toNat)).bind fun t344 => (if y337.length < 8796093022208 then (some (y337 ++ [t344])) else (none))) = some r := by first | (rw [hy337]; with_reducible exact H) | (have H2_ := (Option.bind_some _ _).symm.trans H; rw [hy337]; with_reducible exact H2_) | (have H2_ := (Option.bind_some _ _).symm.trans H; with_reducible exact H2_) | with_reducible exact H | (rw [hy337]; exact H) | exact H
      have Ny337 := Aside0.mk hy337
      clear hy337
      have c25b0 := eq_true (of_decide_eq_true (by first | (with_reducible assumption) | assumption) : 0 ≤ t311)
      have c26b0 := eq_true (of_decide_eq_true (by first | (with_reducible assumption) | assumption) : t311 ≤ (l0.length : Int))
      obtain ⟨y340, hy340⟩ : ∃ y_ : List (S39), y_ = (l0.take (t311 : Int).toNat) := ⟨_, rfl⟩
      replace H : ((strongroomref20_Digest.f k y340).bind fun t344 => (if y337.length < 8796093022208 then (some (y337 ++ [t344])) else (none))) = some r := by first | (rw [hy340]; with_reducible exact H) | (have H2_ := (Option.bind_some _ _).symm.trans H; rw [hy340]; with_reducible exact H2_) | (have H2_ := (Option.bind_some _ _).symm.trans H; with_reducible exact H2_) | with_reducible exact H | (rw [hy340]; exact H) | exact H
      have Ny340 := Aside0.mk hy340
      clear hy340
      replace H := Option.bind_eq_some_iff.mp H
      obtain ⟨t344, A270, H⟩ := H
      replace H : (if y337.length < 8796093022208 then (some (y337 ++ [t344])) else (none)) = some r := H
      have A27 := Aside0.mk A270
      clear A270
      by_cases c28 : y337.length < 8796093022208
      ·rw [if_pos c28] at H
       have LMc28 := Aside0.mk c28
       clear c28
       obtain ⟨y345, hy345⟩ : ∃ y_ : List ByteArray, y_ = (y337 ++ [t344]) := ⟨_, rfl⟩
       replace H : (some y345) = some r := by first | (rw [hy345]; with_reducible exact H) | (have H2_ := (Option.bind_some _ _).symm.trans H; rw [hy345]; with_reducible exact H2_) | (have H2_ := (Option.bind_some _ _).symm.trans H; with_reducible exact H2_) | with_reducible exact H | (rw [hy345]; exact H) | exact H
       have Ny345 := Aside0.mk hy345
       clear hy345
       obtain rfl := Option.some.inj H
       go_enter Tryd.func21, Tryd.ntmps21
       go_wp2_with (first | ((with_reducible refine gate_callee (f := 46) rfl ?_); refine goesL_ (some 12) rfl rfl Tryd.func46 (by kernel_rfl) rfl #[.int .i64 (l0.length : Int)] rfl (by (try simp only [List.map_toArray, List.map_cons, List.map_nil]); first | done | rfl | (simp only [List.length_drop, List.length_take]; rfl)) ?_; (with_reducible refine (strongroomref20_cut.calls k (l0.length : Int) t311 _ A4.out).mono ?_); rintro e w' ⟨rfl, ⟨nd, rfl⟩⟩; refine ⟨_, rfl, ?_⟩; have q29 : (t311 : Int) ≤ ((l0.length : Int) : Int) := of_decide_eq_true (by first | (with_reducible assumption) | assumption); obtain ⟨i029, hi029, _, hsz29, _⟩ := info_parts info39; have hroom29 : l0.length ≤ c0 := HC0.out; have hC29 : Kd.C k39 _ A0 l0.length l0 := HR0.out; have q029 : (0 : Int) ≤ (t311 : Int) := of_decide_eq_true (by first | (with_reducible assumption) | assumption); have hcut29 := cut_from (P := Tryd.prog) 22 39 .i64 Tryd.underlying22 hi029 2 hsz29 A0 l0.length c0 t311 q029 q29; have hr29 := Kd.C_drop (m := (t311 : Int).toNat) (c := c0) hC29 (by omega) hroom29; obtain ⟨A29, hA29⟩ : ∃ A1, A1 = (if c0 = (t311 : Int).toNat then A0 else (A0 : Option Addr).map (·.add ((t311 : Int).toNat * 2))) := ⟨_, rfl⟩; obtain ⟨c29, hc29⟩ : ∃ c1, c1 = c0 - (t311 : Int).toNat := ⟨_, rfl⟩; have hy29 : y330.length = l0.length - (t311 : Int).toNat := (by rw [Ny330.out, List.length_drop] <;> omega); rw [show (l0).drop (t311 : Int).toNat = y330 from Ny330.out.symm] at hr29; replace hr29 : Kd.C k39 _ A29 y330.length y330 := (by rw [hA29]; exact hr29); rw [← hy29, ← hA29, ← hc29] at hcut29; have HR333 := Aside0.mk hr29; have HC333 := Aside0.mk (show y330.length ≤ c29 from by rw [hy29, hc29]; exact Nat.sub_le_sub_right hroom29 _); clear hr29 hC29 hroom29 hi029 hsz29 hc29; have KY29 := Aside0.mk hy29; have KA29 := Aside0.mk hA29; clear hy29 hA29; replace q29 := eq_true q29) | ((with_reducible refine gate_callee (f := 21) rfl ?_); refine goesL_ (some 37) rfl rfl Tryd.func21 (by kernel_rfl) rfl #[.slice A29 y330.length c29, .int .i64 (wrap64 (a1 - t311))] rfl (by (try simp only [List.map_toArray, List.map_cons, List.map_nil]); first | done | rfl | (simp only [List.length_drop, List.length_take]; rfl)) ?_; (with_reducible refine (ih k (by omega) _ _ y330 (wrap64 (a1 - t311)) t334 _ ?side1 ?side2 A23.out).mono ?_); (case side1 => repeat (first | exact HR333.out | (with_reducible refine Kd.C_alloc ?_ _) | (with_reducible refine Kd.C_drewN ?_ _) | (with_reducible refine Kd.C_drew ?_))); (case side2 => exact HC333.out); rintro e w30 ⟨v335, rfl, ho0, hb⟩; refine ⟨_, rfl, ?_⟩; have n0_ := Aside0.mk (Kd.R_lower ho0 (below_size (by repeat (first | (with_reducible first | exact HB.out | apply below_alloc | apply pw_below_drewN | apply below_drew1) | exact HB.out | exact Below.refl _ _)))); have n1_ := Aside0.mk (below_step (by repeat (first | (with_reducible first | exact HB.out | apply below_alloc | apply pw_below_drewN | apply below_drew1) | exact HB.out | exact Below.refl _ _)) hb); clear HB; have HO336 := n0_; have HB := n1_; clear n0_ n1_; (try clear hb); (try clear hb2); (try clear hk); (try clear hi); (try clear ho0); obtain ⟨Ao32, co32, eo32⟩ := Kd.R_slice HO336.out; subst eo32) | ((with_reducible refine gate_builtin (b := .append) (xs := #[.tmp 30, .tmp 37]) rfl ?_); at_builtin; refine Kd.R_append_rows Kd.string (w0 := w) w.heap.size rfl (.tmp 30) (.tmp 37) 32 9 (.string ⟨#[]⟩) 16 rfl Tryd.underlying32 info9 rfl (by decide) (by omega) (.slice none 0 0) ([] : List ByteArray) t334 _ _ _ (fun k_ => some k_ ≠ (.slice Ao32 t334.length co32 : Value).ownBlock) (fun _ => False) rfl rfl ?aO ?aR (fun _ _ h => h) (fun _ h => h.elim) ?aF ?aB ?aS ?aL ?_; (case aR => repeat (first | exact (Kd.R_reads' HO336.out).2.2 | (with_reducible refine Kd.C_alloc ?_ _) | (with_reducible refine Kd.C_drewN ?_ _) | (with_reducible refine Kd.C_drew ?_))); (case aB => exact (by repeat (first | (with_reducible first | exact HB.out | apply below_alloc | apply pw_below_drewN | apply below_drew1) | exact HB.out | exact Below.refl _ _))); (case aF => exact (fun k_ hk => Kd.fresh' (Kd.R_lt (by (with_reducible repeat (first | apply Kd.R_alloc | apply Kd.R_drewN | apply Kd.R_drew)); exact HO336.out)) k_ hk)); (case aO => exact ((Kd.R_nil _ _ _ _ (fun k_ => some k_ ≠ (.slice Ao32 t334.length co32 : Value).ownBlock)))); (case aS => exact (below_size (by repeat (first | (with_reducible first | exact HB.out | apply below_alloc | apply pw_below_drewN | apply below_drew1) | exact HB.out | exact Below.refl _ _)))); (case aL => have := LMc24.out; omega); intro v338 w31 ho hb hg hat; rw [← Ny337.out] at ho; have n0_ := Aside0.mk (Kd.R_after (Kd.R_apart_nil (by (with_reducible repeat (first | apply Kd.R_alloc | apply Kd.R_drewN | apply Kd.R_drew)); exact HO336.out)) hg hat); have n1_ := Aside0.mk (hb); have n2_ := Aside0.mk (ho); clear HO336; clear HB; have HO336 := n0_; have HB := n1_; have HO339 := n2_; clear n0_ n1_ n2_; clear ho hb hg hat; have q33 : (t311 : Int) ≤ ((l0.length : Int) : Int) := of_decide_eq_true (by first | (with_reducible assumption) | assumption); obtain ⟨i033, hi033, _, hsz33, _⟩ := info_parts info39; have hroom33 : l0.length ≤ c0 := HC0.out; have hC33 : Kd.C k39 _ A0 l0.length l0 := HR0.out; have hcut33 := cut_to (P := Tryd.prog) 22 39 .i64 Tryd.underlying22 hi033 A0 l0.length c0 t311 (of_decide_eq_true (by first | (with_reducible assumption) | assumption)) q33 hroom33; have hr33 := Kd.C_take (m := (t311 : Int).toNat) hC33 (by omega); have hy33 : y340.length = (t311 : Int).toNat := (by rw [Ny340.out, List.length_take]; omega); rw [← Ny340.out] at hr33; rw [← hy33] at hcut33; have HR343 := Aside0.mk hr33; have HC343 := Aside0.mk (show y340.length ≤ c0 from by omega); clear hr33 hC33 hroom33 hi033 hsz33; have KY33 := Aside0.mk hy33; clear hy33; replace q33 := eq_true q33) | ((with_reducible refine gate_callee (f := 18) rfl ?_); refine goesL_ (some 43) rfl rfl Tryd.func18 (by kernel_rfl) rfl #[.slice A0 y340.length c0] rfl (by (try simp only [List.map_toArray, List.map_cons, List.map_nil]); first | done | rfl | (simp only [List.length_drop, List.length_take]; rfl)) ?_; (with_reducible refine (strongroomref20_Digest.calls k _ _ y340 t344 _ ?side1 ?side2 A27.out).mono ?_); (case side1 => repeat (first | exact (Kd.C_below HR343.out HB.out) | exact HR343.out | (with_reducible refine Kd.C_alloc ?_ _) | (with_reducible refine Kd.C_drewN ?_ _) | (with_reducible refine Kd.C_drew ?_))); (case side2 => exact HC343.out); rintro e w34 ⟨rfl, hb⟩; refine ⟨_, rfl, ?_⟩; have n0_ := Aside0.mk (Kd.R_below (by (with_reducible repeat (first | apply Kd.R_alloc | apply Kd.R_drewN | apply Kd.R_drew)); exact HO336.out) hb); have n1_ := Aside0.mk (Kd.R_below (by (with_reducible repeat (first | apply Kd.R_alloc | apply Kd.R_drewN | apply Kd.R_drew)); exact HO339.out) hb); have n2_ := Aside0.mk (below_step (by repeat (first | (with_reducible first | exact HB.out | apply below_alloc | apply pw_below_drewN | apply below_drew1) | exact HB.out | exact Below.refl _ _)) hb); clear HO336; clear HO339; clear HB; have HO336 := n0_; have HO339 := n1_; have HB := n2_; clear n0_ n1_ n2_; (try clear hb); (try clear hb2); (try clear hk); (try clear hi)) | ((with_reducible refine gate_builtin (b := .append) (xs := #[.tmp 39, .tmp 44]) rfl ?_); at_builtin; refine Kd.R_append Kd.string (w0 := w) w.heap.size rfl (.tmp 39) (.tmp 44) 32 9 (.string ⟨#[]⟩) 16 rfl Tryd.underlying32 info9 rfl (by decide) (by omega) v338 y337 t344 [.string t344] (fun k_ => some k_ ≠ (.slice Ao32 t334.length co32 : Value).ownBlock) (fun _ => False) rfl rfl ?aP (fun _ hk => hk.elim) ?aF ?aO ?aB ?aS ?aL ?_; (case aP => exact rfl); (case aB => exact (by repeat (first | (with_reducible first | exact HB.out | apply below_alloc | apply pw_below_drewN | apply below_drew1) | exact HB.out | exact Below.refl _ _))); (case aF => exact (fun k_ hk => Kd.fresh' (Kd.R_lt (by (with_reducible repeat (first | apply Kd.R_alloc | apply Kd.R_drewN | apply Kd.R_drew)); exact HO336.out)) k_ hk)); (case aO => exact (by (with_reducible repeat (first | apply Kd.R_alloc | apply Kd.R_drewN | apply Kd.R_drew)); exact HO339.out)); (case aS => exact (below_size (by repeat (first | (with_reducible first | exact HB.out | apply below_alloc | apply pw_below_drewN | apply below_drew1) | exact HB.out | exact Below.refl _ _)))); (case aL => have := LMc28.out; omega); intro v346 w35 ho hb hg hat; rw [← Ny345.out] at ho; have n0_ := Aside0.mk (Kd.R_after (ok := (fun _ => True)) (by (with_reducible repeat (first | apply Kd.R_alloc | apply Kd.R_drewN | apply Kd.R_drew)); exact HO336.out) hg hat); have n1_ := Aside0.mk (hb); have n2_ := Aside0.mk (ho); clear HO336; clear HB; clear HO339; have HO336 := n0_; have HB := n1_; have HO347 := n2_; clear n0_ n1_ n2_; clear ho hb hg hat))
       go_ret
       exact ⟨_, by first | rfl | (simp [errW_none, errW_some] <;> rfl) | (simp [*, errW_none, errW_some] <;> rfl), by (with_reducible repeat (first | apply Kd.R_alloc | apply Kd.R_drewN | apply Kd.R_drew)); exact Kd.R_mono HO347.out (fun _ hk => trivial), by repeat (first | (with_reducible first | exact HB.out | apply below_alloc | apply pw_below_drewN | apply below_drew1) | exact HB.out)⟩
      ·rw [if_neg c28] at H
       exact absurd H (by simp)
     ·rw [if_neg c24] at H
      exact absurd H (by simp)
    ·rw [if_neg c22] at H
     exact absurd H (by simp)
   ·rw [if_neg c21] at H
    exact absurd H (by simp)

/-! ### strongroomlaw20_MerkleProves: function 4 -/
def strongroomlaw20_MerkleProves.j0 : Nat → List (S39) → Int → List ByteArray → Int → Bool → Option (Bool)
 | 0, _, _, _, _, _ => none
 | k + 1, x0, x1, x5, x6, x40 => if x40 = true then (if (x5.length : Int) = 0 then (if x6 = 9 then ((strongroomlaw20_lives.f k).bind fun t360 => (some t360)) else (some false)) else (some false)) else (if x6 = 0 then ((strongroomref20_Proof.f k x0 x1).bind fun t361 => ((strongroomref20_SameTexts.f k x5 t361).bind fun t364 => (if t364 = true then ((strongroomlaw20_lives.f k).bind fun t365 => (some t365)) else (some false)))) else (some false))
def strongroomlaw20_MerkleProves.f (k : Nat) (l0 : List (S39)) (a1 : Int) : Option (Bool) := (strongroomlaw20_small.f k l0).bind fun t348 => (if t348 = true then ((strongroomlaw20_mine.f k l0).bind fun t350 => ((merkle_Prove.f k t350 a1).bind fun bt353 => ((strongroomlaw20_list.f k l0).bind fun t357 => (if t357 = true then (if a1 < 0 then (strongroomlaw20_MerkleProves.j0 k l0 a1 bt353.1 bt353.2 true) else (strongroomlaw20_MerkleProves.j0 k l0 a1 bt353.1 bt353.2 (decide (a1 ≥ (l0.length : Int))))) else (if (bt353.1.length : Int) = 0 then ((strongroomref20_Why.f k l0).bind fun t358 => (if bt353.2 = t358 then ((strongroomlaw20_lives.f k).bind fun t359 => (some t359)) else (some false))) else (some false)))))) else ((strongroomlaw20_lives.f k).bind fun t349 => (some t349)))
theorem strongroomlaw20_MerkleProves.mono_l : ∀ k, (∀ y0 y1 y2 y3 y4, LeO (strongroomlaw20_MerkleProves.j0 k y0 y1 y2 y3 y4) (strongroomlaw20_MerkleProves.j0 (k + 1) y0 y1 y2 y3 y4))
 | 0 => fun _ _ _ _ _ r h => by simp [strongroomlaw20_MerkleProves.j0] at h
 | k + 1 => by
  have ih0 := strongroomlaw20_MerkleProves.mono_l k
  ·intro y0 y1 y2 y3 y4
   unfold strongroomlaw20_MerkleProves.j0
   repeat' first
   | (with_reducible exact ih0 _ _ _ _ _)
   | (with_reducible exact merkle_Prove.mono _ _ _)
   | (with_reducible exact strongroomlaw20_list.mono _ _)
   | (with_reducible exact strongroomlaw20_lives.mono _)
   | (with_reducible exact strongroomlaw20_mine.mono _ _)
   | (with_reducible exact strongroomlaw20_small.mono _ _)
   | (with_reducible exact strongroomref20_Proof.mono _ _ _)
   | (with_reducible exact strongroomref20_SameTexts.mono _ _ _)
   | (with_reducible exact strongroomref20_Why.mono _ _)
   | (with_reducible exact LeO.refl _)
   | (with_reducible exact LeO.none _)
   | (with_reducible refine LeO.ite ?_ ?_)
   | (with_reducible refine LeO.bind ?_ (fun _ => ?_))
   | exact ih0 _ _ _ _ _
   | exact merkle_Prove.mono _ _ _
   | exact strongroomlaw20_list.mono _ _
   | exact strongroomlaw20_lives.mono _
   | exact strongroomlaw20_mine.mono _ _
   | exact strongroomlaw20_small.mono _ _
   | exact strongroomref20_Proof.mono _ _ _
   | exact strongroomref20_SameTexts.mono _ _ _
   | exact strongroomref20_Why.mono _ _
   | exact LeO.none _
   | refine LeO.ite ?_ ?_
   | refine LeO.bind ?_ (fun _ => ?_)
theorem strongroomlaw20_MerkleProves.mono : ∀ a0 a1 k, LeO (strongroomlaw20_MerkleProves.f k a0 a1) (strongroomlaw20_MerkleProves.f (k + 1) a0 a1) := by
 intro a0 a1 k
 have ih0 := strongroomlaw20_MerkleProves.mono_l k
 unfold strongroomlaw20_MerkleProves.f
 repeat' first
   | (with_reducible exact ih0 _ _ _ _ _)
   | (with_reducible exact merkle_Prove.mono _ _ _)
   | (with_reducible exact strongroomlaw20_list.mono _ _)
   | (with_reducible exact strongroomlaw20_lives.mono _)
   | (with_reducible exact strongroomlaw20_mine.mono _ _)
   | (with_reducible exact strongroomlaw20_small.mono _ _)
   | (with_reducible exact strongroomref20_Proof.mono _ _ _)
   | (with_reducible exact strongroomref20_SameTexts.mono _ _ _)
   | (with_reducible exact strongroomref20_Why.mono _ _)
   | (with_reducible exact LeO.refl _)
   | (with_reducible exact LeO.none _)
   | (with_reducible refine LeO.ite ?_ ?_)
   | (with_reducible refine LeO.bind ?_ (fun _ => ?_))
   | exact ih0 _ _ _ _ _
   | exact merkle_Prove.mono _ _ _
   | exact strongroomlaw20_list.mono _ _
   | exact strongroomlaw20_lives.mono _
   | exact strongroomlaw20_mine.mono _ _
   | exact strongroomlaw20_small.mono _ _
   | exact strongroomref20_Proof.mono _ _ _
   | exact strongroomref20_SameTexts.mono _ _ _
   | exact strongroomref20_Why.mono _ _
   | exact LeO.none _
   | refine LeO.ite ?_ ?_
   | refine LeO.bind ?_ (fun _ => ?_)
set_option maxHeartbeats 8000000 in
set_option maxRecDepth 100000 in
theorem strongroomlaw20_MerkleProves.calls (k : Nat) (A0 : Option Addr) (c0 : Nat) (l0 : List (S39)) (a1 : Int) (r : Bool) (w : World) (hr0 : Kd.C k39 w A0 l0.length l0) (hc0 : l0.length ≤ c0) (h : strongroomlaw20_MerkleProves.f k l0 a1 = some r) (hr_ : r = true) :
  Calls Tryd.prog 4 #[.slice A0 l0.length c0, .int .i64 a1] w fun e w' => e = .returned (.bool r) ∧ Below w.heap.size w w' := by
 have HR0 := Aside0.mk hr0
 have HC0 := Aside0.mk hc0
 clear hr0 hc0
 have HB := Aside0.mk (Below.refl w.heap.size w)
 have H : ((strongroomlaw20_small.f k l0).bind fun t348 => (if t348 = true then ((strongroomlaw20_mine.f k l0).bind fun t350 => ((merkle_Prove.f k t350 a1).bind fun bt353 => ((strongroomlaw20_list.f k l0).bind fun t357 => (if t357 = true then (if a1 < 0 then (strongroomlaw20_MerkleProves.j0 k l0 a1 bt353.1 bt353.2 true) else (strongroomlaw20_MerkleProves.j0 k l0 a1 bt353.1 bt353.2 (decide (a1 ≥ (l0.length : Int))))) else (if (bt353.1.length : Int) = 0 then ((strongroomref20_Why.f k l0).bind fun t358 => (if bt353.2 = t358 then ((strongroomlaw20_lives.f k).bind fun t359 => (some t359)) else (some false))) else (some false)))))) else ((strongroomlaw20_lives.f k).bind fun t349 => (some t349)))) = some r := h
 clear h
 replace H := Option.bind_eq_some_iff.mp H
 obtain ⟨t348, A30, H⟩ := H
 replace H : (if t348 = true then ((strongroomlaw20_mine.f k l0).bind fun t350 => ((merkle_Prove.f k t350 a1).bind fun bt353 => ((strongroomlaw20_list.f k l0).bind fun t357 => (if t357 = true then (if a1 < 0 then (strongroomlaw20_MerkleProves.j0 k l0 a1 bt353.1 bt353.2 true) else (strongroomlaw20_MerkleProves.j0 k l0 a1 bt353.1 bt353.2 (decide (a1 ≥ (l0.length : Int))))) else (if (bt353.1.length : Int) = 0 then ((strongroomref20_Why.f k l0).bind fun t358 => (if bt353.2 = t358 then ((strongroomlaw20_lives.f k).bind fun t359 => (some t359)) else (some false))) else (some false)))))) else ((strongroomlaw20_lives.f k).bind fun t349 => (some t349))) = some r := H
 have A3 := Aside0.mk A30
 clear A30
 by_cases c4 : t348 = true
 ·subst c4
  have H1 : ((strongroomlaw20_mine.f k l0).bind fun t350 => ((merkle_Prove.f k t350 a1).bind fun bt353 => ((strongroomlaw20_list.f k l0).bind fun t357 => (if t357 = true then (if a1 < 0 then (strongroomlaw20_MerkleProves.j0 k l0 a1 bt353.1 bt353.2 true) else (strongroomlaw20_MerkleProves.j0 k l0 a1 bt353.1 bt353.2 (decide (a1 ≥ (l0.length : Int))))) else (if (bt353.1.length : Int) = 0 then ((strongroomref20_Why.f k l0).bind fun t358 => (if bt353.2 = t358 then ((strongroomlaw20_lives.f k).bind fun t359 => (some t359)) else (some false))) else (some false)))))) = some r := by rw [if_pos rfl] at H; exact H
  clear H
  have H := H1
  clear H1
  replace H := Option.bind_eq_some_iff.mp H
  obtain ⟨t350, A50, H⟩ := H
  replace H : ((merkle_Prove.f k t350 a1).bind fun bt353 => ((strongroomlaw20_list.f k l0).bind fun t357 => (if t357 = true then (if a1 < 0 then (strongroomlaw20_MerkleProves.j0 k l0 a1 bt353.1 bt353.2 true) else (strongroomlaw20_MerkleProves.j0 k l0 a1 bt353.1 bt353.2 (decide (a1 ≥ (l0.length : Int))))) else (if (bt353.1.length : Int) = 0 then ((strongroomref20_Why.f k l0).bind fun t358 => (if bt353.2 = t358 then ((strongroomlaw20_lives.f k).bind fun t359 => (some t359)) else (some false))) else (some false))))) = some r := H
  have A5 := Aside0.mk A50
  clear A50
  replace H := Option.bind_eq_some_iff.mp H
  obtain ⟨⟨t353, t354⟩, A60, H⟩ := H
  replace H : ((strongroomlaw20_list.f k l0).bind fun t357 => (if t357 = true then (if a1 < 0 then (strongroomlaw20_MerkleProves.j0 k l0 a1 t353 t354 true) else (strongroomlaw20_MerkleProves.j0 k l0 a1 t353 t354 (decide (a1 ≥ (l0.length : Int))))) else (if (t353.length : Int) = 0 then ((strongroomref20_Why.f k l0).bind fun t358 => (if t354 = t358 then ((strongroomlaw20_lives.f k).bind fun t359 => (some t359)) else (some false))) else (some false)))) = some r := H
  have A6 := Aside0.mk A60
  clear A60
  replace H := Option.bind_eq_some_iff.mp H
  obtain ⟨t357, A70, H⟩ := H
  replace H : (if t357 = true then (if a1 < 0 then (strongroomlaw20_MerkleProves.j0 k l0 a1 t353 t354 true) else (strongroomlaw20_MerkleProves.j0 k l0 a1 t353 t354 (decide (a1 ≥ (l0.length : Int))))) else (if (t353.length : Int) = 0 then ((strongroomref20_Why.f k l0).bind fun t358 => (if t354 = t358 then ((strongroomlaw20_lives.f k).bind fun t359 => (some t359)) else (some false))) else (some false))) = some r := H
  have A7 := Aside0.mk A70
  clear A70
  by_cases c8 : t357 = true
  ·subst c8
   have H1 : (if a1 < 0 then (strongroomlaw20_MerkleProves.j0 k l0 a1 t353 t354 true) else (strongroomlaw20_MerkleProves.j0 k l0 a1 t353 t354 (decide (a1 ≥ (l0.length : Int))))) = some r := by rw [if_pos rfl] at H; exact H
   clear H
   have H := H1
   clear H1
   have HC9 := Aside0.mk H
   clear H
   go_enter Tryd.func4, Tryd.ntmps4
   go_upto_region 6 with (first | ((with_reducible refine gate_callee (f := 11) rfl ?_); refine goesL_ (some 8) rfl rfl Tryd.func11 (by kernel_rfl) rfl #[.slice A0 l0.length c0] rfl (by (try simp only [List.map_toArray, List.map_cons, List.map_nil]); first | done | rfl | (simp only [List.length_drop, List.length_take]; rfl)) ?_; (with_reducible refine (strongroomlaw20_small.calls k _ _ l0 true _ ?side1 ?side2 A3.out).mono ?_); (case side1 => repeat (first | exact HR0.out | (with_reducible refine Kd.C_alloc ?_ _) | (with_reducible refine Kd.C_drewN ?_ _) | (with_reducible refine Kd.C_drew ?_))); (case side2 => exact HC0.out); rintro e w' ⟨rfl, ⟨nd, rfl⟩⟩; refine ⟨_, rfl, ?_⟩) | ((with_reducible refine gate_callee (f := 14) rfl ?_); refine goesL_ (some 13) rfl rfl Tryd.func14 (by kernel_rfl) rfl #[.slice A0 l0.length c0] rfl (by (try simp only [List.map_toArray, List.map_cons, List.map_nil]); first | done | rfl | (simp only [List.length_drop, List.length_take]; rfl)) ?_; (with_reducible refine (strongroomlaw20_mine.calls k _ _ l0 t350 _ ?side1 ?side2 A5.out).mono ?_); (case side1 => repeat (first | exact HR0.out | (with_reducible refine Kd.C_alloc ?_ _) | (with_reducible refine Kd.C_drewN ?_ _) | (with_reducible refine Kd.C_drew ?_))); (case side2 => exact HC0.out); rintro e w10 ⟨v351, rfl, ho0, hb⟩; refine ⟨_, rfl, ?_⟩; have n0_ := Aside0.mk (Kd.R_lower ho0 (below_size (by repeat (first | (with_reducible first | exact HB.out | apply below_alloc | apply pw_below_drewN | apply below_drew1) | exact HB.out)))); have n1_ := Aside0.mk (below_step (by repeat (first | (with_reducible first | exact HB.out | apply below_alloc | apply pw_below_drewN | apply below_drew1) | exact HB.out)) hb); clear HB; have HO352 := n0_; have HB := n1_; clear n0_ n1_; (try clear hb); (try clear hb2); (try clear hk); (try clear hi); (try clear ho0); obtain ⟨Ao11, co11, eo11⟩ := Kd.R_slice HO352.out; subst eo11) | ((with_reducible refine gate_callee (f := 19) rfl ?_); refine goesL_ (some 15) rfl rfl Tryd.func19 (by kernel_rfl) rfl #[.slice Ao11 t350.length co11, .int .i64 a1] rfl (by (try simp only [List.map_toArray, List.map_cons, List.map_nil]); first | done | rfl | (simp only [List.length_drop, List.length_take]; rfl)) ?_; (with_reducible refine (merkle_Prove.calls k _ _ t350 a1 t353 t354 _ ?side1 ?side2 A6.out).mono ?_); (case side1 => repeat (first | exact (Kd.R_reads' HO352.out).2.2 | (with_reducible refine Kd.C_alloc ?_ _) | (with_reducible refine Kd.C_drewN ?_ _) | (with_reducible refine Kd.C_drew ?_))); (case side2 => exact (Kd.R_reads' HO352.out).2.1); rintro e w12 ⟨v355, rfl, ho0, hb⟩; refine ⟨_, rfl, ?_⟩; have n0_ := Aside0.mk (Kd.R_below (by (with_reducible repeat (first | apply Kd.R_alloc | apply Kd.R_drewN | apply Kd.R_drew)); exact HO352.out) hb); have n1_ := Aside0.mk (Kd.R_lower ho0 (below_size (by repeat (first | (with_reducible first | exact HB.out | apply below_alloc | apply pw_below_drewN | apply below_drew1) | exact HB.out)))); have n2_ := Aside0.mk (below_step (by repeat (first | (with_reducible first | exact HB.out | apply below_alloc | apply pw_below_drewN | apply below_drew1) | exact HB.out)) hb); clear HO352; clear HB; have HO352 := n0_; have HO356 := n1_; have HB := n2_; clear n0_ n1_ n2_; (try clear hb); (try clear hb2); (try clear hk); (try clear hi); (try clear ho0)) | ((with_reducible refine gate_callee (f := 17) rfl ?_); refine goesL_ (some 19) rfl rfl Tryd.func17 (by kernel_rfl) rfl #[.slice A0 l0.length c0] rfl (by (try simp only [List.map_toArray, List.map_cons, List.map_nil]); first | done | rfl | (simp only [List.length_drop, List.length_take]; rfl)) ?_; (with_reducible refine (strongroomlaw20_list.calls k _ _ l0 true _ ?side1 ?side2 A7.out).mono ?_); (case side1 => repeat (first | exact (Kd.C_below HR0.out HB.out) | (with_reducible refine Kd.C_alloc ?_ _) | (with_reducible refine Kd.C_drewN ?_ _) | (with_reducible refine Kd.C_drew ?_))); (case side2 => exact HC0.out); rintro e w13 ⟨rfl, hb⟩; refine ⟨_, rfl, ?_⟩; have n0_ := Aside0.mk (Kd.R_below (by (with_reducible repeat (first | apply Kd.R_alloc | apply Kd.R_drewN | apply Kd.R_drew)); exact HO352.out) hb); have n1_ := Aside0.mk (Kd.R_below (by (with_reducible repeat (first | apply Kd.R_alloc | apply Kd.R_drewN | apply Kd.R_drew)); exact HO356.out) hb); have n2_ := Aside0.mk (below_step (by repeat (first | (with_reducible first | exact HB.out | apply below_alloc | apply pw_below_drewN | apply below_drew1) | exact HB.out)) hb); clear HO352; clear HO356; clear HB; have HO352 := n0_; have HO356 := n1_; have HB := n2_; clear n0_ n1_ n2_; (try clear hb); (try clear hb2); (try clear hk); (try clear hi)))
   (try simp only [Act.put, List.setIfInBounds_toArray, List.set_cons_zero, List.set_cons_succ])
   go_cut [40] (fun v40 wc => ∃ (kq : Nat) (x40_8 : Bool), v40 = .bool x40_8 ∧ Aside0 (strongroomlaw20_MerkleProves.j0 kq l0 a1 t353 t354 x40_8 = some r) ∧ Aside0 (kq ≤ k) ∧ Aside0 (Kd.R Kd.string 9 wc w.heap.size (fun _ => True) v355 t353) ∧ Aside0 (Below w.heap.size w wc))
   case first =>
    have H := HC9.out
    clear HC9
    by_cases c14 : a1 < 0
    ·rw [if_pos c14] at H
     have c14b0 : decide (a1 < 0) = true := decide_eq_true c14
     clear c14
     (first | rw [c14b0] | (simp only [i64_w, i32_w]; rw [c14b0]) | skip)
     have H' := Aside0.mk H
     clear H
     go_wp2
     go_meet
     case rel => exact ⟨_, (true), (by first | rfl | (simp; done) | (simp [*]; done)), H', ⟨by first | omega | exact Nat.le_refl _⟩, ⟨by (with_reducible repeat (first | apply Kd.R_alloc | apply Kd.R_drewN | apply Kd.R_drew)); exact HO356.out⟩, ⟨by repeat (first | (with_reducible first | exact HB.out | apply below_alloc | apply pw_below_drewN | apply below_drew1) | exact HB.out)⟩⟩
    ·rw [if_neg c14] at H
     have c14b0 : decide (a1 < 0) = false := decide_eq_false c14
     clear c14
     (first | rw [c14b0] | (simp only [i64_w, i32_w]; rw [c14b0]) | skip)
     have H' := Aside0.mk H
     clear H
     go_wp2
     go_meet
     case rel => exact ⟨_, (decide (a1 ≥ (l0.length : Int))), (by first | rfl | (simp; done) | (simp [*]; done)), H', ⟨by first | omega | exact Nat.le_refl _⟩, ⟨by (with_reducible repeat (first | apply Kd.R_alloc | apply Kd.R_drewN | apply Kd.R_drew)); exact HO356.out⟩, ⟨by repeat (first | (with_reducible first | exact HB.out | apply below_alloc | apply pw_below_drewN | apply below_drew1) | exact HB.out)⟩⟩
   case rest =>
    clear HC9
    try clear c1
    try clear p2
    try clear c4
    try clear c8
    try clear c11
    try clear c14
    try clear c14b0
    obtain ⟨kq, x40_8, rfl, HA, HJ8, HO_5, HB⟩ := hcut
    cases kq with
    | zero => exact absurd HA.out (by simp [strongroomlaw20_MerkleProves.j0])
    | succ kj8 =>
     have H := HA.out
     clear HA
     simp only [strongroomlaw20_MerkleProves.j0] at H
     by_cases c15 : x40_8 = true
     ·subst c15
      have H1 : (if (t353.length : Int) = 0 then (if t354 = 9 then ((strongroomlaw20_lives.f kj8).bind fun t360 => (some t360)) else (some false)) else (some false)) = some r := by rw [if_pos rfl] at H; exact H
      clear H
      have H := H1
      clear H1
      by_cases c16 : (t353.length : Int) = 0
      ·rw [if_pos c16] at H
       have c16b0 : ((t353.length : Int) == 0) = true := beq_iff_eq.mpr c16
       have c16b1 : ((t353.length : Int) != 0) = false := bne_eq_false_iff_eq.mpr c16
       clear c16
       by_cases c17 : t354 = 9
       ·rw [if_pos c17] at H
        have c17b0 : (t354 == 9) = true := beq_iff_eq.mpr c17
        have c17b1 : (t354 != 9) = false := bne_eq_false_iff_eq.mpr c17
        clear c17
        replace H := Option.bind_eq_some_iff.mp H
        obtain ⟨t360, A180, H⟩ := H
        replace H : (some t360) = some r := H
        have A18 := Aside0.mk A180
        clear A180
        obtain rfl := Option.some.inj H
        obtain ⟨Ao19, co19, eo19⟩ := Kd.R_slice HO_5.out
        subst eo19
        go_wp2_with (first | (go_at_call 12; (with_reducible refine (strongroomlaw20_lives.calls kj8  t360 _ A18.out hr_).mono ?_); rintro e w20 ⟨rfl, hb⟩; have n0_ := Aside0.mk (Kd.R_below (by (with_reducible repeat (first | apply Kd.R_alloc | apply Kd.R_drewN | apply Kd.R_drew)); exact HO_5.out) hb); have n1_ := Aside0.mk (below_step (by repeat (first | (with_reducible first | exact HB.out | apply below_alloc | apply pw_below_drewN | apply below_drew1) | exact HB.out)) hb); clear HO_5; clear HB; have HO_5 := n0_; have HB := n1_; clear n0_ n1_; (try clear hb); (try clear hb2); (try clear hk); (try clear hi)))
        go_ret
        exact ⟨by first | rfl | (simp [errW_none, errW_some] <;> rfl) | (simp [*, errW_none, errW_some] <;> rfl), by repeat (first | (with_reducible first | exact HB.out | apply below_alloc | apply pw_below_drewN | apply below_drew1) | exact HB.out)⟩
       ·rw [if_neg c17] at H
        have c17b0 : (t354 == 9) = false := beq_eq_false_iff_ne.mpr c17
        have c17b1 : (t354 != 9) = true := bne_iff_ne.mpr c17
        exact absurd ((Option.some.inj H).trans hr_) (by decide)
      ·rw [if_neg c16] at H
       have c16b0 : ((t353.length : Int) == 0) = false := beq_eq_false_iff_ne.mpr c16
       have c16b1 : ((t353.length : Int) != 0) = true := bne_iff_ne.mpr c16
       have c16b2 : ¬ (t353 = []) := fun h_ => c16 (by rw [h_]; rfl)
       exact absurd ((Option.some.inj H).trans hr_) (by decide)
     ·replace c15 := Bool.eq_false_iff.mpr c15
      subst c15
      have H1 : (if t354 = 0 then ((strongroomref20_Proof.f kj8 l0 a1).bind fun t361 => ((strongroomref20_SameTexts.f kj8 t353 t361).bind fun t364 => (if t364 = true then ((strongroomlaw20_lives.f kj8).bind fun t365 => (some t365)) else (some false)))) else (some false)) = some r := by rw [if_neg (show ¬ (false = true) by decide)] at H; exact H
      clear H
      have H := H1
      clear H1
      by_cases c23 : t354 = 0
      ·rw [if_pos c23] at H
       have c23b0 : (t354 == 0) = true := beq_iff_eq.mpr c23
       have c23b1 : (t354 != 0) = false := bne_eq_false_iff_eq.mpr c23
       clear c23
       replace H := Option.bind_eq_some_iff.mp H
       obtain ⟨t361, A240, H⟩ := H
       replace H : ((strongroomref20_SameTexts.f kj8 t353 t361).bind fun t364 => (if t364 = true then ((strongroomlaw20_lives.f kj8).bind fun t365 => (some t365)) else (some false))) = some r := H
       have A24 := Aside0.mk A240
       clear A240
       replace H := Option.bind_eq_some_iff.mp H
       obtain ⟨t364, A250, H⟩ := H
       replace H : (if t364 = true then ((strongroomlaw20_lives.f kj8).bind fun t365 => (some t365)) else (some false)) = some r := H
       have A25 := Aside0.mk A250
       clear A250
       by_cases c26 : t364 = true
       ·subst c26
        have H1 : ((strongroomlaw20_lives.f kj8).bind fun t365 => (some t365)) = some r := by rw [if_pos rfl] at H; exact H
        clear H
        have H := H1
        clear H1
        replace H := Option.bind_eq_some_iff.mp H
        obtain ⟨t365, A270, H⟩ := H
        replace H : (some t365) = some r := H
        have A27 := Aside0.mk A270
        clear A270
        obtain rfl := Option.some.inj H
        go_wp2_with (first | (go_at_call 21; (with_reducible refine (strongroomref20_Proof.calls kj8 _ _ l0 a1 t361 _ ?side1 ?side2 A24.out).mono ?_); (case side1 => repeat (first | exact (Kd.C_below HR0.out HB.out) | (with_reducible refine Kd.C_alloc ?_ _) | (with_reducible refine Kd.C_drewN ?_ _) | (with_reducible refine Kd.C_drew ?_))); (case side2 => exact HC0.out); rintro e w28 ⟨v362, rfl, ho0, hb⟩; have n0_ := Aside0.mk (Kd.R_elder' (by (with_reducible repeat (first | apply Kd.R_alloc | apply Kd.R_drewN | apply Kd.R_drew)); exact HO_5.out) (Kd.R_base ho0) hb); have n1_ := Aside0.mk (Kd.R_lower (Kd.R_new' ho0 (Kd.R_lt (by (with_reducible repeat (first | apply Kd.R_alloc | apply Kd.R_drewN | apply Kd.R_drew)); exact HO_5.out))) (below_size (by repeat (first | (with_reducible first | exact HB.out | apply below_alloc | apply pw_below_drewN | apply below_drew1) | exact HB.out)))); have n2_ := Aside0.mk (below_step (by repeat (first | (with_reducible first | exact HB.out | apply below_alloc | apply pw_below_drewN | apply below_drew1) | exact HB.out)) hb); clear HO_5; clear HB; have HO_5 := n0_; have HO363 := n1_; have HB := n2_; clear n0_ n1_ n2_; (try clear hb); (try clear hb2); (try clear hk); (try clear hi); (try clear ho0); obtain ⟨Ao29, co29, eo29⟩ := Kd.R_slice HO_5.out; subst eo29; obtain ⟨Ao30, co30, eo30⟩ := Kd.R_slice HO363.out; subst eo30) | (go_at_call 20; (with_reducible refine (strongroomref20_SameTexts.calls kj8 _ _ t353 _ _ t361 true _ ?side1 ?side2 ?side3 ?side4 A25.out).mono ?_); (case side1 => repeat (first | exact (Kd.R_reads' HO_5.out).2.2 | (with_reducible refine Kd.C_alloc ?_ _) | (with_reducible refine Kd.C_drewN ?_ _) | (with_reducible refine Kd.C_drew ?_))); (case side2 => exact (Kd.R_reads' HO_5.out).2.1); (case side3 => repeat (first | exact (Kd.R_reads' HO363.out).2.2 | (with_reducible refine Kd.C_alloc ?_ _) | (with_reducible refine Kd.C_drewN ?_ _) | (with_reducible refine Kd.C_drew ?_))); (case side4 => exact (Kd.R_reads' HO363.out).2.1); rintro e w' ⟨rfl, ⟨nd, rfl⟩⟩) | (go_at_call 12; (with_reducible refine (strongroomlaw20_lives.calls kj8  t365 _ A27.out hr_).mono ?_); rintro e w31 ⟨rfl, hb⟩; have n0_ := Aside0.mk (Kd.R_below (by (with_reducible repeat (first | apply Kd.R_alloc | apply Kd.R_drewN | apply Kd.R_drew)); exact HO_5.out) hb); have n1_ := Aside0.mk (Kd.R_below (by (with_reducible repeat (first | apply Kd.R_alloc | apply Kd.R_drewN | apply Kd.R_drew)); exact HO363.out) hb); have n2_ := Aside0.mk (below_step (by repeat (first | (with_reducible first | exact HB.out | apply below_alloc | apply pw_below_drewN | apply below_drew1) | exact HB.out)) hb); clear HO_5; clear HO363; clear HB; have HO_5 := n0_; have HO363 := n1_; have HB := n2_; clear n0_ n1_ n2_; (try clear hb); (try clear hb2); (try clear hk); (try clear hi)))
        go_ret
        exact ⟨by first | rfl | (simp [errW_none, errW_some] <;> rfl) | (simp [*, errW_none, errW_some] <;> rfl), by repeat (first | (with_reducible first | exact HB.out | apply below_alloc | apply pw_below_drewN | apply below_drew1) | exact HB.out)⟩
       ·replace c26 := Bool.eq_false_iff.mpr c26
        subst c26
        have H1 : (some false) = some r := by rw [if_neg (show ¬ (false = true) by decide)] at H; exact H
        clear H
        have H := H1
        clear H1
        exact absurd ((Option.some.inj H).trans hr_) (by decide)
      ·rw [if_neg c23] at H
       have c23b0 : (t354 == 0) = false := beq_eq_false_iff_ne.mpr c23
       have c23b1 : (t354 != 0) = true := bne_iff_ne.mpr c23
       exact absurd ((Option.some.inj H).trans hr_) (by decide)
  ·replace c8 := Bool.eq_false_iff.mpr c8
   subst c8
   have H1 : (if (t353.length : Int) = 0 then ((strongroomref20_Why.f k l0).bind fun t358 => (if t354 = t358 then ((strongroomlaw20_lives.f k).bind fun t359 => (some t359)) else (some false))) else (some false)) = some r := by rw [if_neg (show ¬ (false = true) by decide)] at H; exact H
   clear H
   have H := H1
   clear H1
   by_cases c35 : (t353.length : Int) = 0
   ·rw [if_pos c35] at H
    have c35b0 : ((t353.length : Int) == 0) = true := beq_iff_eq.mpr c35
    have c35b1 : ((t353.length : Int) != 0) = false := bne_eq_false_iff_eq.mpr c35
    clear c35
    replace H := Option.bind_eq_some_iff.mp H
    obtain ⟨t358, A360, H⟩ := H
    replace H : (if t354 = t358 then ((strongroomlaw20_lives.f k).bind fun t359 => (some t359)) else (some false)) = some r := H
    have A36 := Aside0.mk A360
    clear A360
    by_cases c37 : t354 = t358
    ·rw [if_pos c37] at H
     have c37b0 : (t354 == t358) = true := beq_iff_eq.mpr c37
     have c37b1 : (t354 != t358) = false := bne_eq_false_iff_eq.mpr c37
     clear c37
     replace H := Option.bind_eq_some_iff.mp H
     obtain ⟨t359, A380, H⟩ := H
     replace H : (some t359) = some r := H
     have A38 := Aside0.mk A380
     clear A380
     obtain rfl := Option.some.inj H
     go_enter Tryd.func4, Tryd.ntmps4
     go_wp2_with (first | ((with_reducible refine gate_callee (f := 11) rfl ?_); refine goesL_ (some 8) rfl rfl Tryd.func11 (by kernel_rfl) rfl #[.slice A0 l0.length c0] rfl (by (try simp only [List.map_toArray, List.map_cons, List.map_nil]); first | done | rfl | (simp only [List.length_drop, List.length_take]; rfl)) ?_; (with_reducible refine (strongroomlaw20_small.calls k _ _ l0 true _ ?side1 ?side2 A3.out).mono ?_); (case side1 => repeat (first | exact HR0.out | (with_reducible refine Kd.C_alloc ?_ _) | (with_reducible refine Kd.C_drewN ?_ _) | (with_reducible refine Kd.C_drew ?_))); (case side2 => exact HC0.out); rintro e w' ⟨rfl, ⟨nd, rfl⟩⟩; refine ⟨_, rfl, ?_⟩) | ((with_reducible refine gate_callee (f := 14) rfl ?_); refine goesL_ (some 13) rfl rfl Tryd.func14 (by kernel_rfl) rfl #[.slice A0 l0.length c0] rfl (by (try simp only [List.map_toArray, List.map_cons, List.map_nil]); first | done | rfl | (simp only [List.length_drop, List.length_take]; rfl)) ?_; (with_reducible refine (strongroomlaw20_mine.calls k _ _ l0 t350 _ ?side1 ?side2 A5.out).mono ?_); (case side1 => repeat (first | exact HR0.out | (with_reducible refine Kd.C_alloc ?_ _) | (with_reducible refine Kd.C_drewN ?_ _) | (with_reducible refine Kd.C_drew ?_))); (case side2 => exact HC0.out); rintro e w39 ⟨v351, rfl, ho0, hb⟩; refine ⟨_, rfl, ?_⟩; have n0_ := Aside0.mk (Kd.R_lower ho0 (below_size (by repeat (first | (with_reducible first | exact HB.out | apply below_alloc | apply pw_below_drewN | apply below_drew1) | exact HB.out)))); have n1_ := Aside0.mk (below_step (by repeat (first | (with_reducible first | exact HB.out | apply below_alloc | apply pw_below_drewN | apply below_drew1) | exact HB.out)) hb); clear HB; have HO352 := n0_; have HB := n1_; clear n0_ n1_; (try clear hb); (try clear hb2); (try clear hk); (try clear hi); (try clear ho0); obtain ⟨Ao40, co40, eo40⟩ := Kd.R_slice HO352.out; subst eo40) | ((with_reducible refine gate_callee (f := 19) rfl ?_); refine goesL_ (some 15) rfl rfl Tryd.func19 (by kernel_rfl) rfl #[.slice Ao40 t350.length co40, .int .i64 a1] rfl (by (try simp only [List.map_toArray, List.map_cons, List.map_nil]); first | done | rfl | (simp only [List.length_drop, List.length_take]; rfl)) ?_; (with_reducible refine (merkle_Prove.calls k _ _ t350 a1 t353 t354 _ ?side1 ?side2 A6.out).mono ?_); (case side1 => repeat (first | exact (Kd.R_reads' HO352.out).2.2 | (with_reducible refine Kd.C_alloc ?_ _) | (with_reducible refine Kd.C_drewN ?_ _) | (with_reducible refine Kd.C_drew ?_))); (case side2 => exact (Kd.R_reads' HO352.out).2.1); rintro e w41 ⟨v355, rfl, ho0, hb⟩; refine ⟨_, rfl, ?_⟩; have n0_ := Aside0.mk (Kd.R_below (by (with_reducible repeat (first | apply Kd.R_alloc | apply Kd.R_drewN | apply Kd.R_drew)); exact HO352.out) hb); have n1_ := Aside0.mk (Kd.R_lower ho0 (below_size (by repeat (first | (with_reducible first | exact HB.out | apply below_alloc | apply pw_below_drewN | apply below_drew1) | exact HB.out)))); have n2_ := Aside0.mk (below_step (by repeat (first | (with_reducible first | exact HB.out | apply below_alloc | apply pw_below_drewN | apply below_drew1) | exact HB.out)) hb); clear HO352; clear HB; have HO352 := n0_; have HO356 := n1_; have HB := n2_; clear n0_ n1_ n2_; (try clear hb); (try clear hb2); (try clear hk); (try clear hi); (try clear ho0)) | ((with_reducible refine gate_callee (f := 17) rfl ?_); refine goesL_ (some 19) rfl rfl Tryd.func17 (by kernel_rfl) rfl #[.slice A0 l0.length c0] rfl (by (try simp only [List.map_toArray, List.map_cons, List.map_nil]); first | done | rfl | (simp only [List.length_drop, List.length_take]; rfl)) ?_; (with_reducible refine (strongroomlaw20_list.calls k _ _ l0 false _ ?side1 ?side2 A7.out).mono ?_); (case side1 => repeat (first | exact (Kd.C_below HR0.out HB.out) | (with_reducible refine Kd.C_alloc ?_ _) | (with_reducible refine Kd.C_drewN ?_ _) | (with_reducible refine Kd.C_drew ?_))); (case side2 => exact HC0.out); rintro e w42 ⟨rfl, hb⟩; refine ⟨_, rfl, ?_⟩; have n0_ := Aside0.mk (Kd.R_below (by (with_reducible repeat (first | apply Kd.R_alloc | apply Kd.R_drewN | apply Kd.R_drew)); exact HO352.out) hb); have n1_ := Aside0.mk (Kd.R_below (by (with_reducible repeat (first | apply Kd.R_alloc | apply Kd.R_drewN | apply Kd.R_drew)); exact HO356.out) hb); have n2_ := Aside0.mk (below_step (by repeat (first | (with_reducible first | exact HB.out | apply below_alloc | apply pw_below_drewN | apply below_drew1) | exact HB.out)) hb); clear HO352; clear HO356; clear HB; have HO352 := n0_; have HO356 := n1_; have HB := n2_; clear n0_ n1_ n2_; (try clear hb); (try clear hb2); (try clear hk); (try clear hi); obtain ⟨Ao43, co43, eo43⟩ := Kd.R_slice HO356.out; subst eo43) | (go_at_call 16; (with_reducible refine (strongroomref20_Why.calls k _ _ l0 t358 _ ?side1 ?side2 A36.out).mono ?_); (case side1 => repeat (first | exact (Kd.C_below HR0.out HB.out) | (with_reducible refine Kd.C_alloc ?_ _) | (with_reducible refine Kd.C_drewN ?_ _) | (with_reducible refine Kd.C_drew ?_))); (case side2 => exact HC0.out); rintro e w44 ⟨rfl, hb⟩; have n0_ := Aside0.mk (Kd.R_below (by (with_reducible repeat (first | apply Kd.R_alloc | apply Kd.R_drewN | apply Kd.R_drew)); exact HO352.out) hb); have n1_ := Aside0.mk (Kd.R_below (by (with_reducible repeat (first | apply Kd.R_alloc | apply Kd.R_drewN | apply Kd.R_drew)); exact HO356.out) hb); have n2_ := Aside0.mk (below_step (by repeat (first | (with_reducible first | exact HB.out | apply below_alloc | apply pw_below_drewN | apply below_drew1) | exact HB.out)) hb); clear HO352; clear HO356; clear HB; have HO352 := n0_; have HO356 := n1_; have HB := n2_; clear n0_ n1_ n2_; (try clear hb); (try clear hb2); (try clear hk); (try clear hi)) | (go_at_call 12; (with_reducible refine (strongroomlaw20_lives.calls k  t359 _ A38.out hr_).mono ?_); rintro e w45 ⟨rfl, hb⟩; have n0_ := Aside0.mk (Kd.R_below (by (with_reducible repeat (first | apply Kd.R_alloc | apply Kd.R_drewN | apply Kd.R_drew)); exact HO352.out) hb); have n1_ := Aside0.mk (Kd.R_below (by (with_reducible repeat (first | apply Kd.R_alloc | apply Kd.R_drewN | apply Kd.R_drew)); exact HO356.out) hb); have n2_ := Aside0.mk (below_step (by repeat (first | (with_reducible first | exact HB.out | apply below_alloc | apply pw_below_drewN | apply below_drew1) | exact HB.out)) hb); clear HO352; clear HO356; clear HB; have HO352 := n0_; have HO356 := n1_; have HB := n2_; clear n0_ n1_ n2_; (try clear hb); (try clear hb2); (try clear hk); (try clear hi)))
     go_ret
     exact ⟨by first | rfl | (simp [errW_none, errW_some] <;> rfl) | (simp [*, errW_none, errW_some] <;> rfl), by repeat (first | (with_reducible first | exact HB.out | apply below_alloc | apply pw_below_drewN | apply below_drew1) | exact HB.out)⟩
    ·rw [if_neg c37] at H
     have c37b0 : (t354 == t358) = false := beq_eq_false_iff_ne.mpr c37
     have c37b1 : (t354 != t358) = true := bne_iff_ne.mpr c37
     exact absurd ((Option.some.inj H).trans hr_) (by decide)
   ·rw [if_neg c35] at H
    have c35b0 : ((t353.length : Int) == 0) = false := beq_eq_false_iff_ne.mpr c35
    have c35b1 : ((t353.length : Int) != 0) = true := bne_iff_ne.mpr c35
    have c35b2 : ¬ (t353 = []) := fun h_ => c35 (by rw [h_]; rfl)
    exact absurd ((Option.some.inj H).trans hr_) (by decide)
 ·replace c4 := Bool.eq_false_iff.mpr c4
  subst c4
  have H1 : ((strongroomlaw20_lives.f k).bind fun t349 => (some t349)) = some r := by rw [if_neg (show ¬ (false = true) by decide)] at H; exact H
  clear H
  have H := H1
  clear H1
  replace H := Option.bind_eq_some_iff.mp H
  obtain ⟨t349, A570, H⟩ := H
  replace H : (some t349) = some r := H
  have A57 := Aside0.mk A570
  clear A570
  obtain rfl := Option.some.inj H
  go_enter Tryd.func4, Tryd.ntmps4
  go_wp2_with (first | ((with_reducible refine gate_callee (f := 11) rfl ?_); refine goesL_ (some 8) rfl rfl Tryd.func11 (by kernel_rfl) rfl #[.slice A0 l0.length c0] rfl (by (try simp only [List.map_toArray, List.map_cons, List.map_nil]); first | done | rfl | (simp only [List.length_drop, List.length_take]; rfl)) ?_; (with_reducible refine (strongroomlaw20_small.calls k _ _ l0 false _ ?side1 ?side2 A3.out).mono ?_); (case side1 => repeat (first | exact HR0.out | (with_reducible refine Kd.C_alloc ?_ _) | (with_reducible refine Kd.C_drewN ?_ _) | (with_reducible refine Kd.C_drew ?_))); (case side2 => exact HC0.out); rintro e w' ⟨rfl, ⟨nd, rfl⟩⟩; refine ⟨_, rfl, ?_⟩) | ((with_reducible refine gate_callee (f := 12) rfl ?_); refine goesL_ (some 10) rfl rfl Tryd.func12 (by kernel_rfl) rfl #[] rfl (by (try simp only [List.map_toArray, List.map_cons, List.map_nil]); first | done | rfl | (simp only [List.length_drop, List.length_take]; rfl)) ?_; (with_reducible refine (strongroomlaw20_lives.calls k  t349 _ A57.out hr_).mono ?_); rintro e w58 ⟨rfl, hb⟩; refine ⟨_, rfl, ?_⟩; have n0_ := Aside0.mk (below_step (by repeat (first | (with_reducible first | exact HB.out | apply below_alloc | apply pw_below_drewN | apply below_drew1) | exact HB.out)) hb); clear HB; have HB := n0_; clear n0_; (try clear hb); (try clear hb2); (try clear hk); (try clear hi)))
  go_ret
  exact ⟨by first | rfl | (simp [errW_none, errW_some] <;> rfl) | (simp [*, errW_none, errW_some] <;> rfl), by repeat (first | (with_reducible first | exact HB.out | apply below_alloc | apply pw_below_drewN | apply below_drew1) | exact HB.out)⟩


end Go.Proofs.YtdeggemomajhcaaDoorH.HMerkleProves
