-- PRINTED by print.py (a twelfth state) out of the translation. Not trusted: Lean checks it.
import Derived.Test.YtdeggemomajhcaaDoorHMerkleMissingx0
import Derived.Test.YtdeggemomajhcaaDoorHMerkleMissingx3
import Derived.Test.YtdeggemomajhcaaDoorHMerkleMissingx6
import Derived.Test.YtdeggemomajhcaaDoorHMerkleMissingx7
namespace Go.Proofs.YtdeggemomajhcaaDoorH.HMerkleMissing
open Go.RowKit Go.Proofs.YtdeggemomajhcaaDoorW.PrintWords Go.Proofs.YtdeggemomajhcaaDoorW.PrintLast Go.Proofs.YtdeggemomajhcaaDoorW.PrintMore
attribute [local go_sem] max2_int min2_int max_two min_two max_three min_three max_four min_four   -- for this text's walks alone
set_option linter.unusedVariables false
set_option linter.unusedSimpArgs false

attribute [local go_sem high] eqA66
/-! ### strongroomlaw20_lives: function 12 -/
def strongroomlaw20_lives.f (k : Nat)  : Option (Bool) := if 32 ≤ 281474976710656 then ((some (List.replicate 32 0 : List Int)).bind fun y153 => ((merkle_Prove.f k (([(⟨(⟨#[97]⟩ : ByteArray), strOfNums y153⟩ : S44)] : List (S44))) 0).bind fun bt160 => ((merkle_Diff.f k ([] : List (S44)) (([(⟨(⟨#[97]⟩ : ByteArray), strOfNums y153⟩ : S44)] : List (S44)))).bind fun t167 => (if (bt160.1.length : Int) = 0 then (if bt160.2 = 0 then (if (t167.length : Int) = 1 then (if 0 < (t167.length : Int) then (if ((((rd_T66 t167 0).f0).toList) == ([97] : List UInt8) && ((((rd_T66 t167 0).f1).toList) == ([] : List UInt8) && ((((rd_T66 t167 0).f2).toList) == ((strOfNums y153).toList)))) = true then ((merkle_Digest.f k ([] : List (S44))).bind fun t171 => (some ((t171.size : Int) == 32))) else (some false)) else (none)) else (some false)) else (some false)) else (some false))))) else (none)
theorem strongroomlaw20_lives.mono : ∀ k, LeO (strongroomlaw20_lives.f k ) (strongroomlaw20_lives.f (k + 1) ) := by
 intro  k
 unfold strongroomlaw20_lives.f
 repeat' first
   | (with_reducible exact merkle_Diff.mono _ _ _)
   | (with_reducible exact merkle_Digest.mono _ _)
   | (with_reducible exact merkle_Prove.mono _ _ _)
   | (with_reducible exact LeO.refl _)
   | (with_reducible exact LeO.none _)
   | (with_reducible refine LeO.ite ?_ ?_)
   | (with_reducible refine LeO.bind ?_ (fun _ => ?_))
   | exact merkle_Diff.mono _ _ _
   | exact merkle_Digest.mono _ _
   | exact merkle_Prove.mono _ _ _
   | exact LeO.none _
   | refine LeO.ite ?_ ?_
   | refine LeO.bind ?_ (fun _ => ?_)
def strongroomlaw20_lives.T4 : Bool × List (List Nat × List Nat) := (true, [([], []), ([0], [0]), ([1], [1]), ([2], [2]), ([3], [3]), ([4, 3], [3, 4]), ([3, 5], [3, 5]), ([6, 3], [6]), ([7], [7]), ([8, 7], [7, 8]), ([9, 7], [7, 9]), ([7, 10], [7, 10]), ([11, 7], [11]), ([12], [12]), ([13, 12], [12, 13]), ([14, 12], [12, 14]), ([12], [12]), ([16, 12], [12, 16]), ([17, 12], [12, 17]), ([15, 18, 12], [12, 15, 18]), ([12, 19], [12, 19]), ([20, 12], [20]), ([21, 21], [21]), ([22, 21], [21, 22]), ([23, 21], [21, 23]), ([21, 24], [21, 24]), ([25, 22, 0, 1, 2, 3, 4, 5, 6, 7, 8, 9, 10, 11, 12, 13, 14, 15, 16, 17, 18, 19, 20, 21, 22, 23, 24, 25], [25])])
def strongroomlaw20_lives.B4 : List Nat := [0, 1, 3, 7, 15, 31, 63, 127, 255, 511, 1023, 2047, 4095, 8191, 16383, 32767, 8191, 73727, 204799, 524287, 1048575, 2097151, 4194303, 8388607, 16777215, 33554431, 67108863]
theorem strongroomlaw20_lives.tab4 : rtab .any (opsOf Tryd.f12 4) = strongroomlaw20_lives.T4 := by kernel_rfl
theorem strongroomlaw20_lives.bits4 : waitsOk strongroomlaw20_lives.T4.2 strongroomlaw20_lives.B4 = true := by kernel_rfl
set_option maxHeartbeats 8000000 in
set_option maxRecDepth 100000 in
theorem strongroomlaw20_lives.calls (k : Nat)  (r : Bool) (w : World) (h : strongroomlaw20_lives.f k  = some r) (hr_ : r = true) :
  Calls Tryd.prog 12 #[] w fun e w' => e = .returned (.bool r) ∧ Below w.heap.size w w' := by
 have hu44 := Tryd.underlying44
 have hu66 := Tryd.underlying66
 have HB := Aside0.mk (Below.refl w.heap.size w)
 have H : (if 32 ≤ 281474976710656 then ((some (List.replicate 32 0 : List Int)).bind fun y153 => ((merkle_Prove.f k (([(⟨(⟨#[97]⟩ : ByteArray), strOfNums y153⟩ : S44)] : List (S44))) 0).bind fun bt160 => ((merkle_Diff.f k ([] : List (S44)) (([(⟨(⟨#[97]⟩ : ByteArray), strOfNums y153⟩ : S44)] : List (S44)))).bind fun t167 => (if (bt160.1.length : Int) = 0 then (if bt160.2 = 0 then (if (t167.length : Int) = 1 then (if 0 < (t167.length : Int) then (if ((((rd_T66 t167 0).f0).toList) == ([97] : List UInt8) && ((((rd_T66 t167 0).f1).toList) == ([] : List UInt8) && ((((rd_T66 t167 0).f2).toList) == ((strOfNums y153).toList)))) = true then ((merkle_Digest.f k ([] : List (S44))).bind fun t171 => (some ((t171.size : Int) == 32))) else (some false)) else (none)) else (some false)) else (some false)) else (some false))))) else (none)) = some r := h
 clear h
 by_cases c1 : 32 ≤ 281474976710656
 case neg =>
  rw [if_neg c1] at H
  exact absurd H (by simp)
 rw [if_pos c1] at H
 have c1b0 := eq_true c1
 have c1b1 : decide (32 ≤ 281474976710656) = true := decide_eq_true c1
 clear c1
 obtain ⟨y153, hy153⟩ : ∃ y_ : List Int, y_ = (List.replicate 32 0) := ⟨_, rfl⟩
 replace H : ((merkle_Prove.f k (([(⟨(⟨#[97]⟩ : ByteArray), strOfNums y153⟩ : S44)] : List (S44))) 0).bind fun bt160 => ((merkle_Diff.f k ([] : List (S44)) (([(⟨(⟨#[97]⟩ : ByteArray), strOfNums y153⟩ : S44)] : List (S44)))).bind fun t167 => (if (bt160.1.length : Int) = 0 then (if bt160.2 = 0 then (if (t167.length : Int) = 1 then (if 0 < (t167.length : Int) then (if ((((rd_T66 t167 0).f0).toList) == ([97] : List UInt8) && ((((rd_T66 t167 0).f1).toList) == ([] : List UInt8) && ((((rd_T66 t167 0).f2).toList) == ((strOfNums y153).toList)))) = true then ((merkle_Digest.f k ([] : List (S44))).bind fun t171 => (some ((t171.size : Int) == 32))) else (some false)) else (none)) else (some false)) else (some false)) else (some false)))) = some r := by first | (rw [hy153]; with_reducible exact H) | (have H2_ := (Option.bind_some _ _).symm.trans H; rw [hy153]; with_reducible exact H2_) | (have H2_ := (Option.bind_some _ _).symm.trans H; with_reducible exact H2_) | with_reducible exact H | (rw [hy153]; exact H) | exact H
 have Ny153 := Aside0.mk hy153
 clear hy153
 obtain ⟨y157, hy157⟩ : ∃ y_ : List (S44), y_ = (([(⟨(⟨#[97]⟩ : ByteArray), strOfNums y153⟩ : S44)] : List (S44))) := ⟨_, rfl⟩
 replace H : ((merkle_Prove.f k y157 0).bind fun bt160 => ((merkle_Diff.f k ([] : List (S44)) (([(⟨(⟨#[97]⟩ : ByteArray), strOfNums y153⟩ : S44)] : List (S44)))).bind fun t167 => (if (bt160.1.length : Int) = 0 then (if bt160.2 = 0 then (if (t167.length : Int) = 1 then (if 0 < (t167.length : Int) then (if ((((rd_T66 t167 0).f0).toList) == ([97] : List UInt8) && ((((rd_T66 t167 0).f1).toList) == ([] : List UInt8) && ((((rd_T66 t167 0).f2).toList) == ((strOfNums y153).toList)))) = true then ((merkle_Digest.f k ([] : List (S44))).bind fun t171 => (some ((t171.size : Int) == 32))) else (some false)) else (none)) else (some false)) else (some false)) else (some false)))) = some r := by first | (rw [hy157]; with_reducible exact H) | (have H2_ := (Option.bind_some _ _).symm.trans H; rw [hy157]; with_reducible exact H2_) | (have H2_ := (Option.bind_some _ _).symm.trans H; with_reducible exact H2_) | with_reducible exact H | (rw [hy157]; exact H) | exact H
 have Ny157 := Aside0.mk hy157
 clear hy157
 replace H := Option.bind_eq_some_iff.mp H
 obtain ⟨⟨t160, t161⟩, A20, H⟩ := H
 replace H : ((merkle_Diff.f k ([] : List (S44)) (([(⟨(⟨#[97]⟩ : ByteArray), strOfNums y153⟩ : S44)] : List (S44)))).bind fun t167 => (if (t160.length : Int) = 0 then (if t161 = 0 then (if (t167.length : Int) = 1 then (if 0 < (t167.length : Int) then (if ((((rd_T66 t167 0).f0).toList) == ([97] : List UInt8) && ((((rd_T66 t167 0).f1).toList) == ([] : List UInt8) && ((((rd_T66 t167 0).f2).toList) == ((strOfNums y153).toList)))) = true then ((merkle_Digest.f k ([] : List (S44))).bind fun t171 => (some ((t171.size : Int) == 32))) else (some false)) else (none)) else (some false)) else (some false)) else (some false))) = some r := H
 have A2 := Aside0.mk A20
 clear A20
 obtain ⟨y164, hy164⟩ : ∃ y_ : List (S44), y_ = (([(⟨(⟨#[97]⟩ : ByteArray), strOfNums y153⟩ : S44)] : List (S44))) := ⟨_, rfl⟩
 replace H : ((merkle_Diff.f k ([] : List (S44)) y164).bind fun t167 => (if (t160.length : Int) = 0 then (if t161 = 0 then (if (t167.length : Int) = 1 then (if 0 < (t167.length : Int) then (if ((((rd_T66 t167 0).f0).toList) == ([97] : List UInt8) && ((((rd_T66 t167 0).f1).toList) == ([] : List UInt8) && ((((rd_T66 t167 0).f2).toList) == ((strOfNums y153).toList)))) = true then ((merkle_Digest.f k ([] : List (S44))).bind fun t171 => (some ((t171.size : Int) == 32))) else (some false)) else (none)) else (some false)) else (some false)) else (some false))) = some r := by first | (rw [hy164]; with_reducible exact H) | (have H2_ := (Option.bind_some _ _).symm.trans H; rw [hy164]; with_reducible exact H2_) | (have H2_ := (Option.bind_some _ _).symm.trans H; with_reducible exact H2_) | with_reducible exact H | (rw [hy164]; exact H) | exact H
 have Ny164 := Aside0.mk hy164
 clear hy164
 replace H := Option.bind_eq_some_iff.mp H
 obtain ⟨t167, A30, H⟩ := H
 replace H : (if (t160.length : Int) = 0 then (if t161 = 0 then (if (t167.length : Int) = 1 then (if 0 < (t167.length : Int) then (if ((((rd_T66 t167 0).f0).toList) == ([97] : List UInt8) && ((((rd_T66 t167 0).f1).toList) == ([] : List UInt8) && ((((rd_T66 t167 0).f2).toList) == ((strOfNums y153).toList)))) = true then ((merkle_Digest.f k ([] : List (S44))).bind fun t171 => (some ((t171.size : Int) == 32))) else (some false)) else (none)) else (some false)) else (some false)) else (some false)) = some r := H
 have A3 := Aside0.mk A30
 clear A30
 by_cases c4 : (t160.length : Int) = 0
 case neg =>
  rw [if_neg c4] at H
  have c4b0 : ((t160.length : Int) == 0) = false := beq_eq_false_iff_ne.mpr c4
  have c4b1 : ((t160.length : Int) != 0) = true := bne_iff_ne.mpr c4
  have c4b2 : ¬ (t160 = []) := fun h_ => c4 (by rw [h_]; rfl)
  exact absurd ((Option.some.inj H).trans hr_) (by decide)
 rw [if_pos c4] at H
 have c4b0 : ((t160.length : Int) == 0) = true := beq_iff_eq.mpr c4
 have c4b1 : ((t160.length : Int) != 0) = false := bne_eq_false_iff_eq.mpr c4
 clear c4
 by_cases c5 : t161 = 0
 case neg =>
  rw [if_neg c5] at H
  have c5b0 : (t161 == 0) = false := beq_eq_false_iff_ne.mpr c5
  have c5b1 : (t161 != 0) = true := bne_iff_ne.mpr c5
  exact absurd ((Option.some.inj H).trans hr_) (by decide)
 rw [if_pos c5] at H
 have c5b0 : (t161 == 0) = true := beq_iff_eq.mpr c5
 have c5b1 : (t161 != 0) = false := bne_eq_false_iff_eq.mpr c5
 clear c5
 by_cases c6 : (t167.length : Int) = 1
 case neg =>
  rw [if_neg c6] at H
  have c6b0 : ((t167.length : Int) == 1) = false := beq_eq_false_iff_ne.mpr c6
  have c6b1 : ((t167.length : Int) != 1) = true := bne_iff_ne.mpr c6
  exact absurd ((Option.some.inj H).trans hr_) (by decide)
 rw [if_pos c6] at H
 have c6b0 : ((t167.length : Int) == 1) = true := beq_iff_eq.mpr c6
 have c6b1 : ((t167.length : Int) != 1) = false := bne_eq_false_iff_eq.mpr c6
 clear c6
 by_cases c7 : 0 < (t167.length : Int)
 case neg =>
  rw [if_neg c7] at H
  exact absurd H (by simp)
 rw [if_pos c7] at H
 have c7b0 : decide (0 < (t167.length : Int)) = true := decide_eq_true c7
 have c7b1 : decide (0 < t167.length) = true := decide_eq_true (by omega)
 clear c7
 by_cases c8 : ((((rd_T66 t167 0).f0).toList) == ([97] : List UInt8) && ((((rd_T66 t167 0).f1).toList) == ([] : List UInt8) && ((((rd_T66 t167 0).f2).toList) == ((strOfNums y153).toList)))) = true
 case neg =>
  rw [if_neg c8] at H
  have c8b0 : ((((rd_T66 t167 0).f0).toList) == ([97] : List UInt8) && ((((rd_T66 t167 0).f1).toList) == ([] : List UInt8) && ((((rd_T66 t167 0).f2).toList) == ((strOfNums y153).toList)))) = false := by simpa using c8
  (try (have c8b1 : decide ((((rd_T66 t167 0).f0).toList) = ([97] : List UInt8) && ((((rd_T66 t167 0).f1).toList) == ([] : List UInt8) && ((((rd_T66 t167 0).f2).toList) == ((strOfNums y153).toList)))) = false := by simpa using c8))
  (try (have c8b2 : ((((rd_T66 t167 0).f0).toList) == ([97] : List UInt8) && ((((rd_T66 t167 0).f1).toList) == ([] : List UInt8) && ((((rd_T66 t167 0).f2).toList) == ((strOfNums y153).toList)))) = false := by simpa using c8))
  (try (have c8b3 : ¬ ((((rd_T66 t167 0).f0).toList) = ([97] : List UInt8) && ((((rd_T66 t167 0).f1).toList) == ([] : List UInt8) && ((((rd_T66 t167 0).f2).toList) == ((strOfNums y153).toList)))) := by simpa using c8))
  clear c8
  exact absurd ((Option.some.inj H).trans hr_) (by decide)
 rw [if_pos c8] at H
 have c8b0 : ((((rd_T66 t167 0).f0).toList) == ([97] : List UInt8) && ((((rd_T66 t167 0).f1).toList) == ([] : List UInt8) && ((((rd_T66 t167 0).f2).toList) == ((strOfNums y153).toList)))) = true := c8
 have c8b3 : ((((rd_T66 t167 0).f0).toList) == ([97] : List UInt8) && (((rd_T66 t167 0).f1).toList.isEmpty && ((((rd_T66 t167 0).f2).toList) == ((strOfNums y153).toList)))) = true := by have h_ := c8; simp only [Bool.and_eq_true] at h_ ⊢; exact ⟨h_.1, by have h2_ := h_.2.1; simpa using h2_, h_.2.2⟩
 (try (have c8b1 : decide ((((rd_T66 t167 0).f0).toList) = ([97] : List UInt8) && ((((rd_T66 t167 0).f1).toList) == ([] : List UInt8) && ((((rd_T66 t167 0).f2).toList) == ((strOfNums y153).toList)))) = true := by simpa using c8))
 (try (have c8b2 : ((((rd_T66 t167 0).f0).toList) == ([97] : List UInt8) && ((((rd_T66 t167 0).f1).toList) == ([] : List UInt8) && ((((rd_T66 t167 0).f2).toList) == ((strOfNums y153).toList)))) = true := by simpa using c8))
 clear c8
 replace H := Option.bind_eq_some_iff.mp H
 obtain ⟨t171, A90, H⟩ := H
 replace H : (some ((t171.size : Int) == 32)) = some r := H
 have A9 := Aside0.mk A90
 clear A90
 obtain rfl := Option.some.inj H
 go_enter Tryd.func12, Tryd.ntmps12
 try go_wp2_with (first | ((with_reducible refine gate_dst (N := 5) rfl ?_); (try (refine gate_guard (by rfl) ?_; dsimp only)); refine Kd.R_make (Kd.int .u8) _ 5 rfl (N := 5) rfl 84 _ _ rfl 32 rfl rfl Tryd.underlying84 (.int .u8 0) 1 info5 rfl (by decide) (by omega) 0 (ok := fun _ => True) (okp := fun _ => True) rfl (fun _ hk => hk) trivial (by omega) (by omega) (Below.refl _ _) (Nat.le_refl _) ?_; intro v154 w10 ho11 hb hg_ hnew_; clear hg_ hnew_; (first | rw [← Ny153.out] at ho11 | (simp only [Int.reduceToNat] at ho11; rw [← Ny153.out] at ho11)); have n0_ := Aside0.mk (Kd.R_lower ho11 (below_size m9_)); have n1_ := Aside0.mk (below_step m9_ hb); clear HB; have HO155 := n0_; have HB := n1_; clear n0_ n1_; clear hb ho11; have hcv12 := own_string (P := Tryd.prog) Tryd.underlying84 Tryd.underlying5 Tryd.underlying9 (Kd.own_of_R HO155.out)) | ((with_reducible refine gate_dst (N := 1) rfl ?_); (try (refine gate_guard (by rfl) ?_; dsimp only)); refine box_event ?hg (N := 1) ?hd (cs := #[.string (⟨#[]⟩ : ByteArray), .string (⟨#[]⟩ : ByteArray)]) (t := 44) ?hr ?_; (case hd => rfl); (case hg => rfl); (case hr => first | (go_simp; done) | (go_simp; rfl)); intro gb156 hg w13 hbox hb; have n0_ := Aside0.mk (Kd.R_below (by (with_reducible repeat (first | apply Kd.R_alloc | apply Kd.R_drewN | apply Kd.R_drew)); exact HO155.out) hb); have n1_ := Aside0.mk (below_step m9_ hb); have n2_ := Aside0.mk (hbox); have n3_ := Aside0.mk ((by rw [hg]; exact (below_size m9_) : w.heap.size ≤ gb156)); have n4_ := Aside0.mk ((by rw [hg]; exact (below_size m9_) : w.heap.size ≤ gb156)); clear HO155; clear HB; have HO155 := n0_; have HB := n1_; have BK156 := n2_; have GW156 := n3_; have GE156 := n4_; clear n0_ n1_ n2_ n3_ n4_; clear hb hbox hg; have hcz14_0 : w13.cell? ⟨gb156, 0, none⟩ = some (.string (⟨#[]⟩ : ByteArray)) := (blk_cell BK156.out 0).trans rfl; have hcz14_1 : w13.cell? ⟨gb156, 1, none⟩ = some (.string (⟨#[]⟩ : ByteArray)) := (blk_cell BK156.out 1).trans rfl; have hfz14_0 := blk_frozen BK156.out 0; have hfz14_1 := blk_frozen BK156.out 1) | ((with_reducible refine gate_dst (N := 10) rfl ?_); (try (refine gate_guard (by rfl) ?_; dsimp only)); refine Kd.R_lit k44 _ 44 ?hg (N := 10) ?hd (xs := ([(⟨(⟨#[97]⟩ : ByteArray), strOfNums y153⟩ : S44)] : List (S44))) (inner := [.string (⟨#[97]⟩ : ByteArray), .string (strOfNums y153)]) (ok := fun _ => True) (okp := fun _ => True) ?hr ?hp (fun _ hk => hk) trivial (Below.refl _ _) (Nat.le_refl _) (by simp) ?_; (case hd => rfl); (case hg => rfl); (case hr => first | (go_simp; done) | (go_simp; rfl)); (case hp => exact (Reps.c2 (show Kd.M k44 _ _ _ (⟨(⟨#[97]⟩ : ByteArray), strOfNums y153⟩ : S44) [.string (⟨#[97]⟩ : ByteArray), .string (strOfNums y153)] from (k44_mkM _ _ _ (⟨(⟨#[97]⟩ : ByteArray), strOfNums y153⟩ : S44) )) (Reps.none _ _))); intro v158 w15 ho16 hb hg_ hnew_; clear hg_ hnew_; (first | rw [← Ny157.out] at ho16 | (simp only [Int.reduceToNat] at ho16; rw [← Ny157.out] at ho16)); have n0_ := Aside0.mk (Kd.R_below (by (with_reducible repeat (first | apply Kd.R_alloc | apply Kd.R_drewN | apply Kd.R_drew)); exact (Kd.R_mono (Kd.R_far (p := ⟨gb156, 1, none⟩) (Kd.R_far (p := ⟨gb156, 0, none⟩) (Kd.R_types HO155.out BK156.out (by decide)) (fun _ hk => hk.2) (.string (⟨#[97]⟩ : ByteArray))) (fun _ hk => hk.2) (.string (strOfNums y153))) (fun _ h_ => h_.1))) hb); have n1_ := Aside0.mk (Kd.R_lower (Kd.R_newB ho16 (g := gb156) (o := .cells #[.string (⟨#[97]⟩ : ByteArray), .string (strOfNums y153)] 44 (0, 0)) (by (with_reducible repeat (first | refine blk_drewN ?_ _ | refine blk_drew ?_ | refine blk_alloc ?_ _)); refine blk_put (cs := #[.string (⟨#[97]⟩ : ByteArray), .string (⟨#[]⟩ : ByteArray)]) ?_ 1 _ rfl; (with_reducible repeat (first | refine blk_drewN ?_ _ | refine blk_drew ?_ | refine blk_alloc ?_ _)); refine blk_put (cs := #[.string (⟨#[]⟩ : ByteArray), .string (⟨#[]⟩ : ByteArray)]) ?_ 0 _ rfl; (with_reducible repeat (first | refine blk_drewN ?_ _ | refine blk_drew ?_ | refine blk_alloc ?_ _)); exact BK156.out)) (below_size m4_)); have n2_ := Aside0.mk (blk_below (g := gb156) (o := .cells #[.string (⟨#[97]⟩ : ByteArray), .string (strOfNums y153)] 44 (0, 0)) (by (with_reducible repeat (first | refine blk_drewN ?_ _ | refine blk_drew ?_ | refine blk_alloc ?_ _)); refine blk_put (cs := #[.string (⟨#[97]⟩ : ByteArray), .string (⟨#[]⟩ : ByteArray)]) ?_ 1 _ rfl; (with_reducible repeat (first | refine blk_drewN ?_ _ | refine blk_drew ?_ | refine blk_alloc ?_ _)); refine blk_put (cs := #[.string (⟨#[]⟩ : ByteArray), .string (⟨#[]⟩ : ByteArray)]) ?_ 0 _ rfl; (with_reducible repeat (first | refine blk_drewN ?_ _ | refine blk_drew ?_ | refine blk_alloc ?_ _)); exact BK156.out) hb); have n3_ := Aside0.mk (below_step m4_ hb); clear HO155; clear BK156; clear HB; have HO155 := n0_; have HO159 := n1_; have BK156 := n2_; have HB := n3_; clear n0_ n1_ n2_ n3_; clear hb ho16; obtain ⟨Ao17, co17, eo17⟩ := Kd.R_slice HO159.out; subst eo17) | ((with_reducible refine gate_callee (f := 19) rfl ?_); refine goesL_ (some 11) rfl rfl Tryd.func19 (by kernel_rfl) rfl #[.slice Ao17 y157.length co17, .int .i64 0] rfl m8_ ?_; (with_reducible refine (merkle_Prove.calls k _ _ y157 0 t160 t161 _ ?side1 ?side2 A2.out).mono ?_); (case side1 => repeat (first | exact (Kd.R_reads' HO159.out).2.2 | (with_reducible refine Kd.C_alloc ?_ _) | (with_reducible refine Kd.C_drewN ?_ _) | (with_reducible refine Kd.C_drew ?_))); (case side2 => exact (Kd.R_reads' HO159.out).2.1); rintro e w18 ⟨v162, rfl, ho0, hb⟩; refine ⟨_, rfl, ?_⟩; have n0_ := Aside0.mk (Kd.R_below (by (with_reducible repeat (first | apply Kd.R_alloc | apply Kd.R_drewN | apply Kd.R_drew)); exact HO155.out) hb); have n1_ := Aside0.mk (Kd.R_below (by (with_reducible repeat (first | apply Kd.R_alloc | apply Kd.R_drewN | apply Kd.R_drew)); exact HO159.out) hb); have n2_ := Aside0.mk (Kd.R_lower ho0 (below_size m4_)); have n3_ := Aside0.mk (blk_below (g := gb156) (o := .cells #[.string (⟨#[97]⟩ : ByteArray), .string (strOfNums y153)] 44 (0, 0)) (by (with_reducible repeat (first | refine blk_drewN ?_ _ | refine blk_drew ?_ | refine blk_alloc ?_ _)); exact BK156.out) hb); have n4_ := Aside0.mk (below_step m4_ hb); clear HO155; clear HO159; clear BK156; clear HB; have HO155 := n0_; have HO159 := n1_; have HO163 := n2_; have BK156 := n3_; have HB := n4_; clear n0_ n1_ n2_ n3_ n4_; (try clear hb); (try clear hb2); (try clear hk); (try clear hi); (try clear ho0); have hcz19_0 : w18.cell? ⟨gb156, 0, none⟩ = some (.string (⟨#[97]⟩ : ByteArray)) := (blk_cell BK156.out 0).trans rfl; have hcz19_1 : w18.cell? ⟨gb156, 1, none⟩ = some (.string (strOfNums y153)) := (blk_cell BK156.out 1).trans rfl; have hfz19_0 := blk_frozen BK156.out 0; have hfz19_1 := blk_frozen BK156.out 1) | ((with_reducible refine gate_dst (N := 15) rfl ?_); (try (refine gate_guard (by rfl) ?_; dsimp only)); refine Kd.R_lit k44 _ 44 ?hg (N := 15) ?hd (xs := ([(⟨(⟨#[97]⟩ : ByteArray), strOfNums y153⟩ : S44)] : List (S44))) (inner := [.string (⟨#[97]⟩ : ByteArray), .string (strOfNums y153)]) (ok := fun _ => True) (okp := fun _ => True) ?hr ?hp (fun _ hk => hk) trivial (Below.refl _ _) (Nat.le_refl _) (by simp) ?_; (case hd => rfl); (case hg => rfl); (case hr => first | (go_simp; done) | (go_simp; rfl)); (case hp => exact (Reps.c2 (show Kd.M k44 _ _ _ (⟨(⟨#[97]⟩ : ByteArray), strOfNums y153⟩ : S44) [.string (⟨#[97]⟩ : ByteArray), .string (strOfNums y153)] from (k44_mkM _ _ _ (⟨(⟨#[97]⟩ : ByteArray), strOfNums y153⟩ : S44) )) (Reps.none _ _))); intro v165 w20 ho21 hb hg_ hnew_; clear hg_ hnew_; (first | rw [← Ny164.out] at ho21 | (simp only [Int.reduceToNat] at ho21; rw [← Ny164.out] at ho21)); have n0_ := Aside0.mk (Kd.R_below (by (with_reducible repeat (first | apply Kd.R_alloc | apply Kd.R_drewN | apply Kd.R_drew)); exact HO155.out) hb); have n1_ := Aside0.mk (Kd.R_elder' (by (with_reducible repeat (first | apply Kd.R_alloc | apply Kd.R_drewN | apply Kd.R_drew)); exact HO159.out) (Kd.R_base ho21) hb); have n2_ := Aside0.mk (Kd.R_below (by (with_reducible repeat (first | apply Kd.R_alloc | apply Kd.R_drewN | apply Kd.R_drew)); exact HO163.out) hb); have n3_ := Aside0.mk (Kd.R_lower (Kd.R_newB (Kd.R_new' ho21 (Kd.R_lt (by (with_reducible repeat (first | apply Kd.R_alloc | apply Kd.R_drewN | apply Kd.R_drew)); exact HO159.out))) (g := gb156) (o := .cells #[.string (⟨#[97]⟩ : ByteArray), .string (strOfNums y153)] 44 (0, 0)) (by (with_reducible repeat (first | refine blk_drewN ?_ _ | refine blk_drew ?_ | refine blk_alloc ?_ _)); exact BK156.out)) (below_size m4_)); have n4_ := Aside0.mk (blk_below (g := gb156) (o := .cells #[.string (⟨#[97]⟩ : ByteArray), .string (strOfNums y153)] 44 (0, 0)) (by (with_reducible repeat (first | refine blk_drewN ?_ _ | refine blk_drew ?_ | refine blk_alloc ?_ _)); exact BK156.out) hb); have n5_ := Aside0.mk (below_step m4_ hb); clear HO155; clear HO159; clear HO163; clear BK156; clear HB; have HO155 := n0_; have HO159 := n1_; have HO163 := n2_; have HO166 := n3_; have BK156 := n4_; have HB := n5_; clear n0_ n1_ n2_ n3_ n4_ n5_; clear hb ho21; obtain ⟨Ao22, co22, eo22⟩ := Kd.R_slice HO166.out; subst eo22) | ((with_reducible refine gate_callee (f := 30) rfl ?_); refine goesL_ (some 16) rfl rfl Tryd.func30 (by kernel_rfl) rfl #[.slice none 0 0, .slice Ao22 y164.length co22] rfl m8_ ?_; (refine (merkle_Diff.calls k (fun k_ => False) _ _ ([] : List (S44)) (fun k_ => some k_ = (.slice Ao22 y164.length co22 : Value).ownBlock) _ _ y164 t167 _ ?side1 ?side2 A3.out).mono ?_); (case side1 => exact Kd.V_nil _ _ _ _ _); (case side2 => exact Kd.R_V (Kd.R_tight rfl (Kd.R_apart' (Kd.R_apart' (HO166.out) (Kd.R_typed HO155.out) (by decide)) (Kd.R_typed HO163.out) (by decide)))); rintro e w23 ⟨v168, rfl, ho0, hb⟩; refine ⟨_, rfl, ?_⟩; have n0_ := Aside0.mk (Kd.R_below (by (with_reducible repeat (first | apply Kd.R_alloc | apply Kd.R_drewN | apply Kd.R_drew)); exact HO155.out) hb); have n1_ := Aside0.mk (Kd.R_below (by (with_reducible repeat (first | apply Kd.R_alloc | apply Kd.R_drewN | apply Kd.R_drew)); exact HO159.out) hb); have n2_ := Aside0.mk (Kd.R_below (by (with_reducible repeat (first | apply Kd.R_alloc | apply Kd.R_drewN | apply Kd.R_drew)); exact HO163.out) hb); have n3_ := Aside0.mk (Kd.R_below (by (with_reducible repeat (first | apply Kd.R_alloc | apply Kd.R_drewN | apply Kd.R_drew)); exact HO166.out) hb); have n4_ := Aside0.mk (Kd.R_lower (Kd.R_mono (ok' := fun k_ => True) ho0 (fun _ hk_ => trivial)) (below_size m4_)); have n5_ := Aside0.mk (blk_below (g := gb156) (o := .cells #[.string (⟨#[97]⟩ : ByteArray), .string (strOfNums y153)] 44 (0, 0)) (by (with_reducible repeat (first | refine blk_drewN ?_ _ | refine blk_drew ?_ | refine blk_alloc ?_ _)); exact BK156.out) hb); have n6_ := Aside0.mk (below_step m4_ hb); clear HO155; clear HO159; clear HO163; clear HO166; clear BK156; clear HB; have HO155 := n0_; have HO159 := n1_; have HO163 := n2_; have HO166 := n3_; have HO169 := n4_; have BK156 := n5_; have HB := n6_; clear n0_ n1_ n2_ n3_ n4_ n5_ n6_; (try clear hb); (try clear hb2); (try clear hk); (try clear hi); (try clear ho0)))
 have n0_ := Aside0.mk (Kd.R_drew HO155.out)
 have n1_ := Aside0.mk (Kd.R_drew HO159.out)
 have n2_ := Aside0.mk (Kd.R_drew HO163.out)
 have n3_ := Aside0.mk (Kd.R_drew HO166.out)
 have n4_ := Aside0.mk (Kd.R_drew HO169.out)
 have n5_ := Aside0.mk (blk_drew BK156.out)
 have n6_ := Aside0.mk (below_drew1 HB.out)
 clear HO155 HO159 HO163 HO166 HO169 BK156 HB
 have HO155 := n0_
 have HO159 := n1_
 have HO163 := n2_
 have HO166 := n3_
 have HO169 := n4_
 have BK156 := n5_
 have HB := n6_
 clear n0_ n1_ n2_ n3_ n4_ n5_ n6_
 obtain ⟨Ao25, co25, eo25⟩ := Kd.R_slice HO163.out
 (first | subst eo25 | (injection eo25 with f1_ f2_ f3_; have f4_ := f1_.symm; have f5_ := f3_.symm; clear f1_ f2_ f3_; subst f4_; subst f5_))
 obtain ⟨Ao26, co26, eo26⟩ := Kd.R_slice HO169.out
 (first | subst eo26 | (injection eo26 with f1_ f2_ f3_; have f4_ := f1_.symm; have f5_ := f3_.symm; clear f1_ f2_ f3_; subst f4_; subst f5_))
 have p170 : 0 ≤ (0 : Int) := (by omega)
 have q170 : 0 < (t167.length : Int) := of_decide_eq_true m15_
 obtain ⟨ad170, e170, hx170_0, hx170_1, hx170_2⟩ := at_T66 (Kd.R_reads' HO169.out).2.2 0 p170 q170
 cases e170
 have qi170 : (0 < t167.length) = True := eq_true (by omega)
 (try rw [show ((0 : Int)).toNat = 0 from rfl] at hx170_0)
 (try rw [show 0 * 3 = 0 from rfl] at hx170_0)
 (try rw [Addr.add_zero'] at hx170_0)
 (try rw [show ((0 : Int)).toNat = 0 from rfl] at hx170_1)
 (try rw [show 0 * 3 = 0 from rfl] at hx170_1)
 (try rw [Addr.add_zero'] at hx170_1)
 (try rw [show ((0 : Int)).toNat = 0 from rfl] at hx170_2)
 (try rw [show 0 * 3 = 0 from rfl] at hx170_2)
 (try rw [Addr.add_zero'] at hx170_2)
 replace p170 := eq_true p170
 replace q170 := eq_true q170
 refine start_ (n := 27) (S := fun w' => w'.cell? ⟨gb156, 0, none⟩ = some (.string (⟨#[97]⟩ : ByteArray)) ∧ w'.cell? ⟨gb156, 1, none⟩ = some (.string (strOfNums y153)) ∧ w'.cell? ad170 = some (.string ((rd_T66 t167 0).f0)) ∧ w'.cell? ⟨ad170.block, ad170.off + 1, none⟩ = some (.string ((rd_T66 t167 0).f1)) ∧ w'.cell? ⟨ad170.block, ad170.off + 2, none⟩ = some (.string ((rd_T66 t167 0).f2))) (ds := []) (Ra_ [0, 27]) (by kernel_rfl) rfl rfl ⟨(blk_cell BK156.out 0).trans rfl, (blk_cell BK156.out 1).trans rfl, hx170_0, hx170_1, hx170_2⟩ (fun hHeld => ?_); refine with_tabW strongroomlaw20_lives.tab4 strongroomlaw20_lives.bits4 (fun HT_ HW_ => ?_)
 generalize w23.drew = w24 at HO155 HO159 HO163 HO166 HO169 BK156 HB hx170_0 hx170_1 hx170_2 hHeld ⊢
 refine pure_ (i := 0) (N := some 17) (v := ?_) (a' := ?_) (Ra_ [1, 26]) rfl rfl (any_of HT_.out (by kernel_rfl)) (fun _ _ _ h => h) (Or.inl ⟨by rfl, ?_⟩) ?_ ?_
 rotate_left
 ·intro w'
  go_simp
  with_reducible rfl
 rotate_left
 ·simp only [Act.put, sA_, sB_, sC_, i64_w, i32_w]
  rfl
 refine pure_ (i := 1) (N := some 18) (v := ?_) (a' := ?_) (Ra_ [2, 25]) rfl rfl (any_of HT_.out (by kernel_rfl)) (fun _ _ _ h => h) (Or.inl ⟨by rfl, ?_⟩) ?_ ?_
 rotate_left
 ·intro w'
  go_simp
  with_reducible rfl
 rotate_left
 ·simp only [Act.put, sA_, sB_, sC_, i64_w, i32_w]
  rfl
 refine pure_ (i := 2) (N := some 19) (v := ?_) (a' := ?_) (Ra_ [3, 24]) rfl rfl (any_of HT_.out (by kernel_rfl)) (fun _ _ _ h => h) (Or.inl ⟨by rfl, ?_⟩) ?_ ?_
 rotate_left
 ·intro w'
  go_simp
  with_reducible rfl
 rotate_left
 ·simp only [Act.put, sA_, sB_, sC_, i64_w, i32_w]
  rfl
 refine pure_ (i := 3) (N := some 20) (v := ?_) (a' := ?_) (Ra_ [4, 23]) rfl rfl (any_of HT_.out (by kernel_rfl)) (fun _ _ _ h => h) (Or.inl ⟨by rfl, ?_⟩) ?_ ?_
 rotate_left
 ·intro w'
  go_simp
  with_reducible rfl
 rotate_left
 ·simp only [Act.put, sA_, sB_, sC_, i64_w, i32_w]
  rfl
 refine pure_ (i := 4) (N := some 21) (v := ?_) (a' := ?_) (Ra_ [5, 22]) rfl rfl (any_of HT_.out (by kernel_rfl)) (fun _ _ _ h => h) (Or.inl ⟨by rfl, ?_⟩) ?_ ?_
 rotate_left
 ·intro w'
  go_simp
  with_reducible rfl
 rotate_left
 ·simp only [Act.put, sA_, sB_, sC_, i64_w, i32_w]
  rfl
 refine pure_ (i := 5) (N := some 22) (v := ?_) (a' := ?_) (Ra_ [6, 21]) rfl rfl (any_of HT_.out (by kernel_rfl)) (fun _ _ _ h => h) (Or.inl ⟨by rfl, ?_⟩) ?_ ?_
 rotate_left
 ·intro w'
  go_simp
  with_reducible rfl
 rotate_left
 ·simp only [Act.put, sA_, sB_, sC_, i64_w, i32_w]
  rfl
 refine pure_ (i := 6) (N := some 23) (v := ?_) (a' := ?_) (Ra_ [7, 20]) rfl rfl (any_of HT_.out (by kernel_rfl)) (fun _ _ _ h => h) (Or.inl ⟨by rfl, ?_⟩) ?_ ?_
 rotate_left
 ·intro w'
  go_simp
  with_reducible rfl
 rotate_left
 ·simp only [Act.put, sA_, sB_, sC_, i64_w, i32_w]
  rfl
 refine pure_ (i := 7) (N := some 24) (v := ?_) (a' := ?_) (Ra_ [8, 19]) rfl rfl (any_of HT_.out (by kernel_rfl)) (fun _ _ _ h => h) (Or.inl ⟨by rfl, ?_⟩) ?_ ?_
 rotate_left
 ·intro w'
  go_simp
  with_reducible rfl
 rotate_left
 ·simp only [Act.put, sA_, sB_, sC_, i64_w, i32_w]
  rfl
 refine pure_ (i := 8) (N := some 25) (v := ?_) (a' := ?_) (Ra_ [9, 18]) rfl rfl (any_of HT_.out (by kernel_rfl)) (fun _ _ _ h => h) (Or.inl ⟨by rfl, ?_⟩) ?_ ?_
 rotate_left
 ·intro w'
  go_simp
  with_reducible rfl
 rotate_left
 ·simp only [Act.put, sA_, sB_, sC_, i64_w, i32_w]
  rfl
 refine pure_ (i := 9) (N := some 26) (v := ?_) (a' := ?_) (Ra_ [10, 17]) rfl rfl (any_of HT_.out (by kernel_rfl)) (fun _ _ _ h => h) (Or.inl ⟨by rfl, ?_⟩) ?_ ?_
 rotate_left
 ·intro w'
  go_simp
  with_reducible rfl
 rotate_left
 ·simp only [Act.put, sA_, sB_, sC_, i64_w, i32_w]
  rfl
 refine pure_ (i := 10) (N := some 27) (v := ?_) (a' := ?_) (Ra_ [11, 16]) rfl rfl (any_of HT_.out (by kernel_rfl)) (fun _ _ _ h => h) (Or.inl ⟨by rfl, ?_⟩) ?_ ?_
 rotate_left
 ·intro w'
  go_simp
  with_reducible rfl
 rotate_left
 ·simp only [Act.put, sA_, sB_, sC_, i64_w, i32_w]
  rfl
 refine pure_ (i := 11) (N := some 28) (v := ?_) (a' := ?_) (Ra_ [12, 15]) rfl rfl (any_of HT_.out (by kernel_rfl)) (fun _ _ _ h => h) (Or.inl ⟨by rfl, ?_⟩) ?_ ?_
 rotate_left
 ·intro w'
  go_simp
  with_reducible rfl
 rotate_left
 ·simp only [Act.put, sA_, sB_, sC_, i64_w, i32_w]
  rfl
 refine pure_ (i := 12) (N := some 29) (v := ?_) (a' := ?_) (Ra_ [13, 14]) rfl rfl (any_of HT_.out (by kernel_rfl)) (fun _ _ _ h => h) (Or.inl ⟨by rfl, ?_⟩) ?_ ?_
 rotate_left
 ·intro w'
  go_simp
  with_reducible rfl
 rotate_left
 ·simp only [Act.put, sA_, sB_, sC_, i64_w, i32_w]
  rfl
 refine pure_ (i := 13) (N := some 30) (v := ?_) (a' := ?_) (Ra_ [14, 13]) rfl rfl (any_of HT_.out (by kernel_rfl)) (fun _ _ _ h => h) (Or.inl ⟨by rfl, ?_⟩) ?_ ?_
 rotate_left
 ·intro w'
  go_simp
  with_reducible rfl
 rotate_left
 ·simp only [Act.put, sA_, sB_, sC_, i64_w, i32_w]
  rfl
 refine pure_ (i := 14) (N := some 31) (v := ?_) (a' := ?_) (Ra_ [15, 12]) rfl rfl (any_of HT_.out (by kernel_rfl)) (fun _ _ _ h => h) (Or.inl ⟨by rfl, ?_⟩) ?_ ?_
 rotate_left
 ·intro w'
  go_simp
  with_reducible rfl
 rotate_left
 ·simp only [Act.put, sA_, sB_, sC_, i64_w, i32_w]
  rfl
 refine pure_ (i := 16) (N := some 33) (v := ?_) (a' := ?_) (Ra_ [15, 1, 1, 10]) rfl rfl (any_of HT_.out (by kernel_rfl)) (fun _ _ _ h => h) (Or.inl ⟨by rfl, ?_⟩) ?_ ?_
 rotate_left
 ·intro w'
  go_simp
  with_reducible rfl
 rotate_left
 ·simp only [Act.put, sA_, sB_, sC_, i64_w, i32_w]
  rfl
 refine take_ (i := 15) (N := some 32) (v := ?_) (a' := ?_) (Ra_ [17, 10]) rfl rfl (take_ofW HT_.out HW_.out (by kernel_rfl)) (fun _ _ _ h => h) (Or.inl ⟨by rfl, ?_⟩) hHeld ?_ ?_
 rotate_left
 ·rintro w' ⟨s0, s1, s2, s3, s4⟩
  go_simp
  with_reducible rfl
 rotate_left
 ·simp only [Act.put, sA_, sB_, sC_, i64_w, i32_w]
  rfl
 refine take_ (i := 17) (N := some 34) (v := ?_) (a' := ?_) (Ra_ [18, 9]) rfl rfl (take_ofW HT_.out HW_.out (by kernel_rfl)) (fun _ _ _ h => h) (Or.inl ⟨by rfl, ?_⟩) hHeld ?_ ?_
 rotate_left
 ·rintro w' ⟨s0, s1, s2, s3, s4⟩
  go_simp
  with_reducible rfl
 rotate_left
 ·simp only [Act.put, sA_, sB_, sC_, i64_w, i32_w]
  rfl
 refine pure_ (i := 18) (N := some 35) (v := ?_) (a' := ?_) (Ra_ [19, 8]) rfl rfl (any_of HT_.out (by kernel_rfl)) (fun _ _ _ h => h) (Or.inl ⟨by rfl, ?_⟩) ?_ ?_
 rotate_left
 ·intro w'
  go_simp
  with_reducible rfl
 rotate_left
 ·simp only [Act.put, sA_, sB_, sC_, i64_w, i32_w]
  rfl
 refine pure_ (i := 19) (N := some 36) (v := ?_) (a' := ?_) (Ra_ [20, 7]) rfl rfl (any_of HT_.out (by kernel_rfl)) (fun _ _ _ h => h) (Or.inl ⟨by rfl, ?_⟩) ?_ ?_
 rotate_left
 ·intro w'
  go_simp
  with_reducible rfl
 rotate_left
 ·simp only [Act.put, sA_, sB_, sC_, i64_w, i32_w]
  rfl
 refine pure_ (i := 20) (N := some 37) (v := ?_) (a' := ?_) (Ra_ [21, 6]) rfl rfl (any_of HT_.out (by kernel_rfl)) (fun _ _ _ h => h) (Or.inl ⟨by rfl, ?_⟩) ?_ ?_
 rotate_left
 ·intro w'
  go_simp
  with_reducible rfl
 rotate_left
 ·simp only [Act.put, sA_, sB_, sC_, i64_w, i32_w]
  rfl
 refine pure_ (i := 21) (N := some 38) (v := ?_) (a' := ?_) (Ra_ [22, 5]) rfl rfl (any_of HT_.out (by kernel_rfl)) (fun _ _ _ h => h) (Or.inl ⟨by rfl, ?_⟩) ?_ ?_
 rotate_left
 ·intro w'
  go_simp
  with_reducible rfl
 rotate_left
 ·simp only [Act.put, sA_, sB_, sC_, i64_w, i32_w]
  rfl
 refine one_ (i := 22) (N := some 39) (Ra_ [23, 4]) rfl rfl (one_of HT_.out (by kernel_rfl)) (by decide) (fun K hK => ?_)
 refine goes_ Tryd.func13 (by kernel_rfl) rfl #[.slice none 0 0] (by rfl) rfl rfl m8_ ?_
 refine (merkle_Digest.calls k _ _ ([] : List (S44)) t171 _ ?side1 ?side2 A9.out).mono ?_
 (case side1 => exact Kd.C_nil _ _)
 (case side2 => exact Nat.le_refl _)
 rintro e w27 ⟨rfl, hb⟩
 have HS2_ := (hb.cell (World.block_lt_of_cell? _ _ (hHeld.2.2.1))).trans (hHeld.2.2.1)
 have HS3_ := (hb.cell (World.block_lt_of_cell? _ _ (hHeld.2.2.2.1))).trans (hHeld.2.2.2.1)
 have HS4_ := (hb.cell (World.block_lt_of_cell? _ _ (hHeld.2.2.2.2))).trans (hHeld.2.2.2.2)
 refine ⟨_, rfl, ?_⟩
 have n0_ := Aside0.mk (Kd.R_below (by (with_reducible repeat (first | apply Kd.R_alloc | apply Kd.R_drewN | apply Kd.R_drew)); exact HO155.out) hb)
 have n1_ := Aside0.mk (Kd.R_below (by (with_reducible repeat (first | apply Kd.R_alloc | apply Kd.R_drewN | apply Kd.R_drew)); exact HO159.out) hb)
 have n2_ := Aside0.mk (Kd.R_below (by (with_reducible repeat (first | apply Kd.R_alloc | apply Kd.R_drewN | apply Kd.R_drew)); exact HO163.out) hb)
 have n3_ := Aside0.mk (Kd.R_below (by (with_reducible repeat (first | apply Kd.R_alloc | apply Kd.R_drewN | apply Kd.R_drew)); exact HO166.out) hb)
 have n4_ := Aside0.mk (Kd.R_below (by (with_reducible repeat (first | apply Kd.R_alloc | apply Kd.R_drewN | apply Kd.R_drew)); exact HO169.out) hb)
 have n5_ := Aside0.mk (blk_below (g := gb156) (o := .cells #[.string (⟨#[97]⟩ : ByteArray), .string (strOfNums y153)] 44 (0, 0)) (by (with_reducible repeat (first | refine blk_drewN ?_ _ | refine blk_drew ?_ | refine blk_alloc ?_ _)); exact BK156.out) hb)
 have n6_ := Aside0.mk (below_step m4_ hb)
 clear HO155 HO159 HO163 HO166 HO169 BK156 HB
 have HO155 := n0_
 have HO159 := n1_
 have HO163 := n2_
 have HO166 := n3_
 have HO169 := n4_
 have BK156 := n5_
 have HB := n6_
 clear n0_ n1_ n2_ n3_ n4_ n5_ n6_
 (try clear hb)
 (try clear hb2)
 (try clear hk)
 (try clear hi)
 refine hK.out _ _ ⟨(blk_cell BK156.out 0).trans rfl, (blk_cell BK156.out 1).trans rfl, HS2_, HS3_, HS4_⟩ (fun hHeld => ?_)
 clear hK K
 refine norm_ (a' := ?_) ?_ ?_
 rotate_left
 ·show Act.put _ (some 39) _ = _
  simp only [Act.put, sA_, sB_, sC_, i64_w, i32_w]
  rfl
 refine pure_ (i := 23) (N := some 40) (v := ?_) (a' := ?_) (Ra_ [24, 3]) rfl rfl (any_of HT_.out (by kernel_rfl)) (fun _ _ _ h => h) (Or.inl ⟨by rfl, ?_⟩) ?_ ?_
 rotate_left
 ·intro w'
  go_simp
  with_reducible rfl
 rotate_left
 ·simp only [Act.put, sA_, sB_, sC_, i64_w, i32_w]
  rfl
 refine pure_ (i := 24) (N := some 41) (v := ?_) (a' := ?_) (Ra_ [25, 2]) rfl rfl (any_of HT_.out (by kernel_rfl)) (fun _ _ _ h => h) (Or.inl ⟨by rfl, ?_⟩) ?_ ?_
 rotate_left
 ·intro w'
  go_simp
  with_reducible rfl
 rotate_left
 ·simp only [Act.put, sA_, sB_, sC_, i64_w, i32_w]
  rfl
 refine pure_ (i := 25) (N := some 42) (v := ?_) (a' := ?_) (Ra_ [26, 1]) rfl rfl (any_of HT_.out (by kernel_rfl)) (fun _ _ _ h => h) (Or.inl ⟨by rfl, ?_⟩) ?_ ?_
 rotate_left
 ·intro w'
  go_simp
  with_reducible rfl
 rotate_left
 ·simp only [Act.put, sA_, sB_, sC_, i64_w, i32_w]
  rfl
 refine pure_ (i := 26) (N := some 0) (v := ?_) (a' := ?_) (Ra_ [27]) rfl rfl (any_of HT_.out (by kernel_rfl)) (fun _ _ _ h => h) (Or.inl ⟨by rfl, ?_⟩) ?_ ?_
 rotate_left
 ·intro w'
  go_simp
  with_reducible rfl
 rotate_left
 ·simp only [Act.put, sA_, sB_, sC_, i64_w, i32_w]
  rfl
 refine done_ (done_of HT_.out (by kernel_rfl)) ?_
 try go_wp2
 go_ret
 exact ⟨by first | rfl | (simp [errW_none, errW_some] <;> rfl) | (simp [*, errW_none, errW_some] <;> rfl), by repeat (first | (with_reducible first | exact HB.out | apply below_alloc | apply pw_below_drewN | apply below_drew1 | refine below_set ?_ GE156.out) | exact HB.out)⟩


/-! ### strongroomlaw20_short: function 22 -/
def strongroomlaw20_short.l0 : Nat → List ByteArray → Int → Option (Bool)
 | 0, _, _ => none
 | k + 1, x0, x3 => if x3 < (x0.length : Int) then (if 0 ≤ x3 then (if ((rdOf ByteArray.empty x0 x3).size : Int) > 200 then (some false) else (strongroomlaw20_short.l0 k x0 (wrap64 (x3 + 1)))) else (none)) else (some true)
def strongroomlaw20_short.f (k : Nat) (l0 : List ByteArray) : Option (Bool) := if (l0.length : Int) > 30 then (some false) else (strongroomlaw20_short.l0 k l0 0)
theorem strongroomlaw20_short.mono_l : ∀ k, (∀ y0 y1, LeO (strongroomlaw20_short.l0 k y0 y1) (strongroomlaw20_short.l0 (k + 1) y0 y1))
 | 0 => fun _ _ r h => by simp [strongroomlaw20_short.l0] at h
 | k + 1 => by
  have ih0 := strongroomlaw20_short.mono_l k
  ·intro y0 y1
   unfold strongroomlaw20_short.l0
   repeat' first
   | (with_reducible exact ih0 _ _)
   | (with_reducible exact LeO.refl _)
   | (with_reducible exact LeO.none _)
   | (with_reducible refine LeO.ite ?_ ?_)
   | (with_reducible refine LeO.bind ?_ (fun _ => ?_))
   | exact ih0 _ _
   | exact LeO.none _
   | refine LeO.ite ?_ ?_
   | refine LeO.bind ?_ (fun _ => ?_)
theorem strongroomlaw20_short.mono : ∀ a0 k, LeO (strongroomlaw20_short.f k a0) (strongroomlaw20_short.f (k + 1) a0) := by
 intro a0 k
 have ih0 := strongroomlaw20_short.mono_l k
 unfold strongroomlaw20_short.f
 repeat' first
   | (with_reducible exact ih0 _ _)
   | (with_reducible exact LeO.refl _)
   | (with_reducible exact LeO.none _)
   | (with_reducible refine LeO.ite ?_ ?_)
   | (with_reducible refine LeO.bind ?_ (fun _ => ?_))
   | exact ih0 _ _
   | exact LeO.none _
   | refine LeO.ite ?_ ?_
   | refine LeO.bind ?_ (fun _ => ?_)
set_option maxHeartbeats 8000000 in
set_option maxRecDepth 100000 in
theorem strongroomlaw20_short.calls (k : Nat) (A0 : Option Addr) (c0 : Nat) (l0 : List ByteArray) (r : Bool) (w : World) (hr0 : Kd.C Kd.string w A0 l0.length l0) (hc0 : l0.length ≤ c0) (h : strongroomlaw20_short.f k l0 = some r) :
  Calls Tryd.prog 22 #[.slice A0 l0.length c0] w fun e w' => e = .returned (.bool r) ∧ Drawn0 w w' := by
 have HR0 := Aside0.mk hr0
 have HC0 := Aside0.mk hc0
 clear hr0 hc0
 have H : (if (l0.length : Int) > 30 then (some false) else (strongroomlaw20_short.l0 k l0 0)) = some r := h
 clear h
 by_cases c2 : (l0.length : Int) > 30
 ·rw [if_pos c2] at H
  have c2b0 : decide (30 < (l0.length : Int)) = true := decide_eq_true c2
  have c2b1 : decide (30 < l0.length) = true := decide_eq_true (by omega)
  clear c2
  obtain rfl := Option.some.inj H
  go_enter Tryd.func22, Tryd.ntmps22
  go_wp2
  go_ret
  exact ⟨by first | rfl | (simp; done) | (simp [*]; done), m34_⟩
 rw [if_neg c2] at H
 have c2b0 : decide (30 < (l0.length : Int)) = false := decide_eq_false c2
 have c2b1 : decide (30 < l0.length) = false := decide_eq_false (by omega)
 clear c2
 have H' := Aside0.mk H
 clear H
 go_enter Tryd.func22, Tryd.ntmps22
 go_wp2
 go_loopg [3] k (fun kq v3 w' => ∃ (x3_1 : Int), v3 = .int .i64 x3_1 ∧ Aside0 (strongroomlaw20_short.l0 kq l0 x3_1 = some r) ∧ Aside0 (kq ≤ k) ∧ Drawn0 w w')
 case atStart => exact ⟨(0), m16_, H', ⟨Nat.le_refl _⟩, m34_⟩
 clear H'
 try clear c2; try clear c2b0; try clear c2b1; try clear p2
 obtain ⟨x3_1, rfl, HA, HK1, ⟨m1, rfl⟩⟩ := hrel
 cases gk with
 | zero => exact absurd HA.out (by simp [strongroomlaw20_short.l0])
 | succ k1 =>
  have H := HA.out
  clear HA
  simp only [strongroomlaw20_short.l0] at H
  by_cases c3 : x3_1 < (l0.length : Int)
  case neg =>
   rw [if_neg c3] at H
   have c3b0 : decide (x3_1 < (l0.length : Int)) = false := decide_eq_false c3
   clear c3
   obtain rfl := Option.some.inj H
   go_wp2
   go_ret
   exact ⟨by first | rfl | (simp; done) | (simp [*]; done), m34_⟩
  rw [if_pos c3] at H
  have c3b0 : decide (x3_1 < (l0.length : Int)) = true := decide_eq_true c3
  clear c3
  by_cases c4 : 0 ≤ x3_1
  case neg =>
   rw [if_neg c4] at H
   exact absurd H (by simp)
  rw [if_pos c4] at H
  have c4b0 : decide (0 ≤ x3_1) = true := decide_eq_true c4
  clear c4
  by_cases c5 : ((rdOf ByteArray.empty l0 x3_1).size : Int) > 200
  ·rw [if_pos c5] at H
   have c5b0 : decide (200 < ((rdOf ByteArray.empty l0 x3_1).size : Int)) = true := decide_eq_true c5
   have c5b1 : decide (200 < (rdOf ByteArray.empty l0 x3_1).size) = true := decide_eq_true (by omega)
   clear c5
   obtain rfl := Option.some.inj H
   have p172 : 0 ≤ (x3_1 : Int) := of_decide_eq_true m15_
   have q172 : x3_1 < (l0.length : Int) := of_decide_eq_true m15_
   obtain ⟨ad172, e172, hx172_0⟩ := Kd.at_string HR0.out x3_1 p172 q172
   cases e172
   replace p172 := eq_true p172
   replace q172 := eq_true q172
   go_wp2
   go_ret
   exact ⟨by first | rfl | (simp; done) | (simp [*]; done), m34_⟩
  rw [if_neg c5] at H
  have c5b0 : decide (200 < ((rdOf ByteArray.empty l0 x3_1).size : Int)) = false := decide_eq_false c5
  have c5b1 : decide (200 < (rdOf ByteArray.empty l0 x3_1).size) = false := decide_eq_false (by omega)
  clear c5
  have H' := Aside0.mk H
  clear H
  have p172 : 0 ≤ (x3_1 : Int) := of_decide_eq_true m15_
  have q172 : x3_1 < (l0.length : Int) := of_decide_eq_true m15_
  obtain ⟨ad172, e172, hx172_0⟩ := Kd.at_string HR0.out x3_1 p172 q172
  cases e172
  replace p172 := eq_true p172
  replace q172 := eq_true q172
  go_wp2
  go_roundg k1
  case measure => have := HK1.out; omega
  case rel => exact ⟨(wrap64 (x3_1 + 1)), m16_, H', ⟨by have := HK1.out; omega⟩, m34_⟩

/-! ### merkle_climb: function 48 -/
mutual
def merkle_climb.j0 : Nat → ByteArray → Int → Int → List ByteArray → Bool → Option (ByteArray × Bool)
 | 0, _, _, _, _, _ => none
 | k + 1, x0, x1, x2, x3, x35 => if x35 = true then (some ((⟨#[]⟩ : ByteArray), false)) else (if 0 ≤ (wrap64 ((x3.length : Int) - 1)) then (if (wrap64 ((x3.length : Int) - 1)) < (x3.length : Int) then (if (wrap64 ((x3.length : Int) - 1)) ≤ (x3.length : Int) then ((merkle_half.f k x1).bind fun t176 => (if x2 < t176 then ((merkle_climb.f k x0 t176 x2 (x3.take ((wrap64 ((x3.length : Int) - 1)) : Int).toNat)).bind fun bt177 => ((merkle_both.f bt177.1 (rdOf ByteArray.empty x3 (wrap64 ((x3.length : Int) - 1)))).bind fun t179 => (some (t179, bt177.2)))) else ((merkle_climb.f k x0 (wrap64 (x1 - t176)) (wrap64 (x2 - t176)) (x3.take ((wrap64 ((x3.length : Int) - 1)) : Int).toNat)).bind fun bt180 => ((merkle_both.f (rdOf ByteArray.empty x3 (wrap64 ((x3.length : Int) - 1))) bt180.1).bind fun t182 => (some (t182, bt180.2)))))) else (none)) else (none)) else (none))
def merkle_climb.f : Nat → ByteArray → Int → Int → List ByteArray → Option (ByteArray × Bool)
 | 0, _, _, _, _ => none
 | k + 1, a0, a1, a2, l3 => if a1 = 1 then (some (a0, ((l3.length : Int) == 0))) else (if (l3.length : Int) = 0 then (merkle_climb.j0 k a0 a1 a2 l3 true) else (if 0 ≤ (wrap64 ((l3.length : Int) - 1)) then (if (wrap64 ((l3.length : Int) - 1)) < (l3.length : Int) then (merkle_climb.j0 k a0 a1 a2 l3 (((rdOf ByteArray.empty l3 (wrap64 ((l3.length : Int) - 1))).size : Int) != 32)) else (none)) else (none)))
end
theorem merkle_climb.mono_l : ∀ k, (∀ y0 y1 y2 y3, LeO (merkle_climb.f k y0 y1 y2 y3) (merkle_climb.f (k + 1) y0 y1 y2 y3)) ∧ (∀ y0 y1 y2 y3 y4, LeO (merkle_climb.j0 k y0 y1 y2 y3 y4) (merkle_climb.j0 (k + 1) y0 y1 y2 y3 y4))
 | 0 => ⟨fun _ _ _ _ r h => by simp [merkle_climb.f] at h, fun _ _ _ _ _ r h => by simp [merkle_climb.j0] at h⟩
 | k + 1 => by
  obtain ⟨ih0, ih1⟩ := merkle_climb.mono_l k
  refine ⟨?_, ?_⟩
  ·intro y0 y1 y2 y3
   unfold merkle_climb.f
   repeat' first
   | (with_reducible exact ih0 _ _ _ _)
   | (with_reducible exact ih1 _ _ _ _ _)
   | (with_reducible exact merkle_half.mono _ _)
   | (with_reducible exact LeO.refl _)
   | (with_reducible exact LeO.none _)
   | (with_reducible refine LeO.ite ?_ ?_)
   | (with_reducible refine LeO.bind ?_ (fun _ => ?_))
   | exact ih0 _ _ _ _
   | exact ih1 _ _ _ _ _
   | exact merkle_half.mono _ _
   | exact LeO.none _
   | refine LeO.ite ?_ ?_
   | refine LeO.bind ?_ (fun _ => ?_)
  ·intro y0 y1 y2 y3 y4
   unfold merkle_climb.j0
   repeat' first
   | (with_reducible exact ih0 _ _ _ _)
   | (with_reducible exact ih1 _ _ _ _ _)
   | (with_reducible exact merkle_half.mono _ _)
   | (with_reducible exact LeO.refl _)
   | (with_reducible exact LeO.none _)
   | (with_reducible refine LeO.ite ?_ ?_)
   | (with_reducible refine LeO.bind ?_ (fun _ => ?_))
   | exact ih0 _ _ _ _
   | exact ih1 _ _ _ _ _
   | exact merkle_half.mono _ _
   | exact LeO.none _
   | refine LeO.ite ?_ ?_
   | refine LeO.bind ?_ (fun _ => ?_)
theorem merkle_climb.mono : ∀ a0 a1 a2 a3 k, LeO (merkle_climb.f k a0 a1 a2 a3) (merkle_climb.f (k + 1) a0 a1 a2 a3) := by
 intro a0 a1 a2 a3 k
 obtain ⟨ih0, ih1⟩ := merkle_climb.mono_l k
 exact ih0 a0 a1 a2 a3
set_option maxHeartbeats 8000000 in
set_option maxRecDepth 100000 in
theorem merkle_climb.calls (k : Nat) : ∀ (a0 : ByteArray) (a1 : Int) (a2 : Int) (A3 : Option Addr) (c3 : Nat) (l3 : List ByteArray) (r1 : ByteArray) (r2 : Bool) (w : World) (hr3 : Kd.C Kd.string w A3 l3.length l3) (hc3 : l3.length ≤ c3) (h : merkle_climb.f k a0 a1 a2 l3 = some (r1, r2)),
  Calls Tryd.prog 48 #[.string a0, .int .i64 a1, .int .i64 a2, .slice A3 l3.length c3] w fun e w' => e = .returned (.tuple #[.string r1, .bool r2]) ∧ Below w.heap.size w w' := by
 induction k using Nat.strongRecOn with
 | _ k ih =>
 intro a0 a1 a2 A3 c3 l3 r1 r2 w hr3 hc3 h
 cases k with
 | zero => exact absurd h (by simp [merkle_climb.f])
 | succ k =>
 simp only [merkle_climb.f] at h
 have HR3 := Aside0.mk hr3
 have HC3 := Aside0.mk hc3
 clear hr3 hc3
 have HB := Aside0.mk (Below.refl w.heap.size w)
 have H : (if a1 = 1 then (some (a0, ((l3.length : Int) == 0))) else (if (l3.length : Int) = 0 then (merkle_climb.j0 k a0 a1 a2 l3 true) else (if 0 ≤ (wrap64 ((l3.length : Int) - 1)) then (if (wrap64 ((l3.length : Int) - 1)) < (l3.length : Int) then (merkle_climb.j0 k a0 a1 a2 l3 (((rdOf ByteArray.empty l3 (wrap64 ((l3.length : Int) - 1))).size : Int) != 32)) else (none)) else (none)))) = some (r1, r2) := h
 clear h
 by_cases c5 : a1 = 1
 ·rw [if_pos c5] at H
  have c5b0 : (a1 == 1) = true := beq_iff_eq.mpr c5
  have c5b1 : (a1 != 1) = false := bne_eq_false_iff_eq.mpr c5
  clear c5
  simp only [Option.some.injEq, Prod.mk.injEq] at H
  obtain ⟨rfl, rfl⟩ := H
  go_enter Tryd.func48, Tryd.ntmps48
  go_wp2
  repeat (go_quiet (fail); try go_wp2)
  go_ret2
  exact ⟨by first | rfl | (simp [errW_none, errW_some] <;> rfl) | (simp [*, errW_none, errW_some] <;> rfl), m32_⟩
 rw [if_neg c5] at H
 have c5b0 : (a1 == 1) = false := beq_eq_false_iff_ne.mpr c5
 have c5b1 : (a1 != 1) = true := bne_iff_ne.mpr c5
 have HC6 := Aside0.mk H
 clear H
 go_enter Tryd.func48, Tryd.ntmps48
 go_upto_region 3 with (fail)
 repeat (go_quiet (fail); go_upto_region 3 with (fail))
 go_cut [35] (fun v35 wc => ∃ (kq : Nat) (x35_5 : Bool), v35 = .bool x35_5 ∧ Aside0 (merkle_climb.j0 kq a0 a1 a2 l3 x35_5 = some (r1, r2)) ∧ Aside0 (kq ≤ k) ∧ Aside0 (Below w.heap.size w wc))
 case first =>
  have H := HC6.out
  clear HC6
  by_cases c7 : (l3.length : Int) = 0
  ·rw [if_pos c7] at H
   have c7b0 : ((l3.length : Int) == 0) = true := beq_iff_eq.mpr c7
   have c7b1 : ((l3.length : Int) != 0) = false := bne_eq_false_iff_eq.mpr c7
   clear c7
   (first | rw [c7b0] | (simp only [i64_w, i32_w]; rw [c7b0]) | skip)
   have H' := Aside0.mk H
   clear H
   go_wp2
   repeat (go_quiet (fail); try go_wp2)
   go_meet
   case rel => exact ⟨_, (true), m16_, H', ⟨by first | omega | exact Nat.le_refl _⟩, ⟨m32_⟩⟩
  rw [if_neg c7] at H
  have c7b0 : ((l3.length : Int) == 0) = false := beq_eq_false_iff_ne.mpr c7
  have c7b1 : ((l3.length : Int) != 0) = true := bne_iff_ne.mpr c7
  have c7b2 : ¬ (l3 = []) := fun h_ => c7 (by rw [h_]; rfl)
  (first | rw [c7b0] | (simp only [i64_w, i32_w]; rw [c7b0]) | skip)
  obtain ⟨ji8, hji8⟩ : ∃ j_ : Int, (wrap64 ((l3.length : Int) - 1)) = j_ := ⟨_, rfl⟩
  replace H : (if 0 ≤ (ji8) then (if (ji8) < (l3.length : Int) then (merkle_climb.j0 k a0 a1 a2 l3 (((rdOf ByteArray.empty l3 (ji8)).size : Int) != 32)) else (none)) else (none)) = some (r1, r2) := by first | (rw [hji8] at H; exact H) | (simp only [hji8] at H ⊢; exact H)
  have hji8w : (IntKind.i64.wrap ((l3.length : Int) - 1)) = ji8 := (i64_w _).trans hji8
  by_cases c9 : 0 ≤ (ji8)
  case neg =>
   rw [if_neg c9] at H
   exact absurd H (by simp)
  rw [if_pos c9] at H
  have c9b0 : decide (0 ≤ (ji8)) = true := decide_eq_true c9
  clear c9
  by_cases c10 : (ji8) < (l3.length : Int)
  case neg =>
   rw [if_neg c10] at H
   exact absurd H (by simp)
  rw [if_pos c10] at H
  have c10b0 : decide ((ji8) < (l3.length : Int)) = true := decide_eq_true c10
  clear c10
  have H' := Aside0.mk H
  clear H
  have p173 : 0 ≤ ((ji8) : Int) := of_decide_eq_true m15_
  have q173 : (ji8) < (l3.length : Int) := of_decide_eq_true m15_
  obtain ⟨ad173, e173, hx173_0⟩ := Kd.at_string HR3.out (ji8) p173 q173
  cases e173
  replace hx173_0 := (HB.out.cell (World.block_lt_of_cell? w _ hx173_0)).trans hx173_0
  replace p173 := eq_true p173
  replace q173 := eq_true q173
  go_wp2
  repeat (go_quiet (fail); try go_wp2)
  go_meet
  case rel => exact ⟨_, ((((rdOf ByteArray.empty l3 (ji8)).size : Int) != 32)), (by first | rfl | (simp; done) | (simp only [← hji8] <;> (first | rfl | simp)) | (simp [*]; done)), H', ⟨by first | omega | exact Nat.le_refl _⟩, ⟨m32_⟩⟩
 clear HC6
 try clear c1; try clear p1; try clear q1; try clear hx1; try clear p2; try clear c3; try clear c4; try clear c5; try clear c5b0; try clear c5b1; try clear p6; try clear c7; try clear c7b0; try clear c7b1; try clear c7b2; try clear c9; try clear c9b0; try clear c10; try clear c10b0; try clear hx173_0; try clear p173; try clear q173
 obtain ⟨kq, x35_5, rfl, HA, HJ5, HB⟩ := hcut
 cases kq with
 | zero => exact absurd HA.out (by simp [merkle_climb.j0])
 | succ kj5 =>
  have H := HA.out
  clear HA
  simp only [merkle_climb.j0] at H
  by_cases c11 : x35_5 = true
  ·subst c11
   have H1 : (some ((⟨#[]⟩ : ByteArray), false)) = some (r1, r2) := by rw [if_pos rfl] at H; exact H
   clear H
   have H := H1
   clear H1
   simp only [Option.some.injEq, Prod.mk.injEq] at H
   obtain ⟨rfl, rfl⟩ := H
   go_wp2
   repeat (go_quiet (fail); try go_wp2)
   go_ret2
   exact ⟨by first | rfl | (simp [errW_none, errW_some] <;> rfl) | (simp [*, errW_none, errW_some] <;> rfl), m32_⟩
  replace c11 := Bool.eq_false_iff.mpr c11
  subst c11
  have H1 : (if 0 ≤ (wrap64 ((l3.length : Int) - 1)) then (if (wrap64 ((l3.length : Int) - 1)) < (l3.length : Int) then (if (wrap64 ((l3.length : Int) - 1)) ≤ (l3.length : Int) then ((merkle_half.f kj5 a1).bind fun t176 => (if a2 < t176 then ((merkle_climb.f kj5 a0 t176 a2 (l3.take ((wrap64 ((l3.length : Int) - 1)) : Int).toNat)).bind fun bt177 => ((merkle_both.f bt177.1 (rdOf ByteArray.empty l3 (wrap64 ((l3.length : Int) - 1)))).bind fun t179 => (some (t179, bt177.2)))) else ((merkle_climb.f kj5 a0 (wrap64 (a1 - t176)) (wrap64 (a2 - t176)) (l3.take ((wrap64 ((l3.length : Int) - 1)) : Int).toNat)).bind fun bt180 => ((merkle_both.f (rdOf ByteArray.empty l3 (wrap64 ((l3.length : Int) - 1))) bt180.1).bind fun t182 => (some (t182, bt180.2)))))) else (none)) else (none)) else (none)) = some (r1, r2) := by rw [if_neg (show ¬ (false = true) by decide)] at H; exact H
  clear H
  have H := H1
  clear H1
  obtain ⟨ji12, hji12⟩ : ∃ j_ : Int, (wrap64 ((l3.length : Int) - 1)) = j_ := ⟨_, rfl⟩
  replace H : (if 0 ≤ (ji12) then (if (ji12) < (l3.length : Int) then (if (ji12) ≤ (l3.length : Int) then ((merkle_half.f kj5 a1).bind fun t176 => (if a2 < t176 then ((merkle_climb.f kj5 a0 t176 a2 (l3.take ((ji12) : Int).toNat)).bind fun bt177 => ((merkle_both.f bt177.1 (rdOf ByteArray.empty l3 (ji12))).bind fun t179 => (some (t179, bt177.2)))) else ((merkle_climb.f kj5 a0 (wrap64 (a1 - t176)) (wrap64 (a2 - t176)) (l3.take ((ji12) : Int).toNat)).bind fun bt180 => ((merkle_both.f (rdOf ByteArray.empty l3 (ji12)) bt180.1).bind fun t182 => (some (t182, bt180.2)))))) else (none)) else (none)) else (none)) = some (r1, r2) := by first | (rw [hji12] at H; exact H) | (simp only [hji12] at H ⊢; exact H)
  have hji12w : (IntKind.i64.wrap ((l3.length : Int) - 1)) = ji12 := (i64_w _).trans hji12
  by_cases c13 : 0 ≤ (ji12)
  case neg =>
   rw [if_neg c13] at H
   exact absurd H (by simp)
  rw [if_pos c13] at H
  have c13b0 : decide (0 ≤ (ji12)) = true := decide_eq_true c13
  clear c13
  by_cases c14 : (ji12) < (l3.length : Int)
  case neg =>
   rw [if_neg c14] at H
   exact absurd H (by simp)
  rw [if_pos c14] at H
  have c14b0 : decide ((ji12) < (l3.length : Int)) = true := decide_eq_true c14
  clear c14
  have c15b0 := eq_true (of_decide_eq_true m15_ : 0 ≤ (ji12))
  by_cases c16 : (ji12) ≤ (l3.length : Int)
  case neg =>
   rw [if_neg c16] at H
   exact absurd H (by simp)
  rw [if_pos c16] at H
  have c16b0 := eq_true c16
  have c16b1 : decide ((ji12) ≤ (l3.length : Int)) = true := decide_eq_true c16
  clear c16
  replace H := Option.bind_eq_some_iff.mp H
  obtain ⟨t176, A170, H⟩ := H
  replace H : (if a2 < t176 then ((merkle_climb.f kj5 a0 t176 a2 (l3.take ((ji12) : Int).toNat)).bind fun bt177 => ((merkle_both.f bt177.1 (rdOf ByteArray.empty l3 (ji12))).bind fun t179 => (some (t179, bt177.2)))) else ((merkle_climb.f kj5 a0 (wrap64 (a1 - t176)) (wrap64 (a2 - t176)) (l3.take ((ji12) : Int).toNat)).bind fun bt180 => ((merkle_both.f (rdOf ByteArray.empty l3 (ji12)) bt180.1).bind fun t182 => (some (t182, bt180.2))))) = some (r1, r2) := H
  have A17 := Aside0.mk A170
  clear A170
  by_cases c18 : a2 < t176
  ·rw [if_pos c18] at H
   have c18b0 : decide (a2 < t176) = true := decide_eq_true c18
   clear c18
   replace H := Option.bind_eq_some_iff.mp H
   obtain ⟨⟨t177, t178⟩, A190, H⟩ := H
   replace H : ((merkle_both.f t177 (rdOf ByteArray.empty l3 (ji12))).bind fun t179 => (some (t179, t178))) = some (r1, r2) := H
   have A19 := Aside0.mk A190
   clear A190
   replace H := Option.bind_eq_some_iff.mp H
   obtain ⟨t179, A200, H⟩ := H
   replace H : (some (t179, t178)) = some (r1, r2) := H
   have A20 := Aside0.mk A200
   clear A200
   simp only [Option.some.injEq, Prod.mk.injEq] at H
   obtain ⟨rfl, rfl⟩ := H
   have p174 : 0 ≤ ((ji12) : Int) := of_decide_eq_true m15_
   have q174 : (ji12) < (l3.length : Int) := of_decide_eq_true m15_
   obtain ⟨ad174, e174, hx174_0⟩ := Kd.at_string HR3.out (ji12) p174 q174
   cases e174
   replace hx174_0 := (HB.out.cell (World.block_lt_of_cell? w _ hx174_0)).trans hx174_0
   replace p174 := eq_true p174
   replace q174 := eq_true q174
   obtain ⟨i021, hi021, _, hsz21, _⟩ := info_parts info9
   obtain ⟨hcut21, hA21, hC21⟩ := print_take_of (P := Tryd.prog) Value.string (⟨#[]⟩ : ByteArray) 32 9 .i64 Tryd.underlying32 hi021 hsz21 (some ad174) c3 l3 (ji12) (of_decide_eq_true m15_) (of_decide_eq_true m15_) HC3.out
   have HR175 := Aside0.mk (Kd.C_of_reads (h1 := fun _ => rfl) (hA21 _ (Kd.reads_of_C HR3.out)))
   have HC175 := Aside0.mk hC21
   clear hA21 hC21 hi021 hsz21
   go_wp2_with (first | (go_at_call 61; (with_reducible refine (merkle_half.calls kj5 a1 t176 _ A17.out).mono ?_); rintro e w' ⟨rfl, ⟨nd, rfl⟩⟩; (try first | exact ⟨rfl, _, World.drewN_drewN _ _ _⟩ | exact ⟨rfl, _, Eq.trans (World.drewN_drewN _ _ _) (congrArg (World.drewN _) (Nat.add_assoc _ _ _))⟩)) | (go_at_call 48; (with_reducible refine (Go.Proofs.YtdeggemomajhcaaDoor.cast_len4 (by have h_ : (ji12) < (l3.length : Int) := of_decide_eq_true m15_; rw [List.length_take]; omega) (ih kj5 (by have := HJ5.out; omega) a0 t176 a2 _ _ (l3.take ((ji12) : Int).toNat) t177 t178 _ ?side1 ?side2 A19.out)).mono ?_); (case side1 => repeat (first | exact (Kd.C_below HR175.out m7_) | (with_reducible refine Kd.C_alloc ?_ _) | (with_reducible refine Kd.C_drewN ?_ _) | (with_reducible refine Kd.C_drew ?_))); (case side2 => exact HC175.out); rintro e w22 ⟨rfl, hb⟩; have n0_ := Aside0.mk (below_step m7_ hb); clear HB; have HB := n0_; clear n0_; (try clear hb); (try clear hb2); (try clear hk); (try clear hi)) | (go_at_call 62; (with_reducible refine (merkle_both.calls t177 (rdOf ByteArray.empty l3 (ji12)) t179 _ A20.out).mono ?_); rintro e w23 ⟨rfl, hb⟩; have n0_ := Aside0.mk (below_step m7_ hb); clear HB; have HB := n0_; clear n0_; (try clear hb); (try clear hb2); (try clear hk); (try clear hi)))
   repeat (go_quiet (first | (go_at_call 61; (with_reducible refine (merkle_half.calls kj5 a1 t176 _ A17.out).mono ?_); rintro e w' ⟨rfl, ⟨nd, rfl⟩⟩; (try first | exact ⟨rfl, _, World.drewN_drewN _ _ _⟩ | exact ⟨rfl, _, Eq.trans (World.drewN_drewN _ _ _) (congrArg (World.drewN _) (Nat.add_assoc _ _ _))⟩)) | (go_at_call 48; (with_reducible refine (Go.Proofs.YtdeggemomajhcaaDoor.cast_len4 (by have h_ : (ji12) < (l3.length : Int) := of_decide_eq_true m15_; rw [List.length_take]; omega) (ih kj5 (by have := HJ5.out; omega) a0 t176 a2 _ _ (l3.take ((ji12) : Int).toNat) t177 t178 _ ?side1 ?side2 A19.out)).mono ?_); (case side1 => repeat (first | exact (Kd.C_below HR175.out m7_) | (with_reducible refine Kd.C_alloc ?_ _) | (with_reducible refine Kd.C_drewN ?_ _) | (with_reducible refine Kd.C_drew ?_))); (case side2 => exact HC175.out); rintro e w22 ⟨rfl, hb⟩; have n0_ := Aside0.mk (below_step m7_ hb); clear HB; have HB := n0_; clear n0_; (try clear hb); (try clear hb2); (try clear hk); (try clear hi)) | (go_at_call 62; (with_reducible refine (merkle_both.calls t177 (rdOf ByteArray.empty l3 (ji12)) t179 _ A20.out).mono ?_); rintro e w23 ⟨rfl, hb⟩; have n0_ := Aside0.mk (below_step m7_ hb); clear HB; have HB := n0_; clear n0_; (try clear hb); (try clear hb2); (try clear hk); (try clear hi))); try go_wp2_with (first | (go_at_call 61; (with_reducible refine (merkle_half.calls kj5 a1 t176 _ A17.out).mono ?_); rintro e w' ⟨rfl, ⟨nd, rfl⟩⟩; (try first | exact ⟨rfl, _, World.drewN_drewN _ _ _⟩ | exact ⟨rfl, _, Eq.trans (World.drewN_drewN _ _ _) (congrArg (World.drewN _) (Nat.add_assoc _ _ _))⟩)) | (go_at_call 48; (with_reducible refine (Go.Proofs.YtdeggemomajhcaaDoor.cast_len4 (by have h_ : (ji12) < (l3.length : Int) := of_decide_eq_true m15_; rw [List.length_take]; omega) (ih kj5 (by have := HJ5.out; omega) a0 t176 a2 _ _ (l3.take ((ji12) : Int).toNat) t177 t178 _ ?side1 ?side2 A19.out)).mono ?_); (case side1 => repeat (first | exact (Kd.C_below HR175.out m7_) | (with_reducible refine Kd.C_alloc ?_ _) | (with_reducible refine Kd.C_drewN ?_ _) | (with_reducible refine Kd.C_drew ?_))); (case side2 => exact HC175.out); rintro e w22 ⟨rfl, hb⟩; have n0_ := Aside0.mk (below_step m7_ hb); clear HB; have HB := n0_; clear n0_; (try clear hb); (try clear hb2); (try clear hk); (try clear hi)) | (go_at_call 62; (with_reducible refine (merkle_both.calls t177 (rdOf ByteArray.empty l3 (ji12)) t179 _ A20.out).mono ?_); rintro e w23 ⟨rfl, hb⟩; have n0_ := Aside0.mk (below_step m7_ hb); clear HB; have HB := n0_; clear n0_; (try clear hb); (try clear hb2); (try clear hk); (try clear hi))))
   go_ret2
   exact ⟨by first | rfl | (simp [errW_none, errW_some] <;> rfl) | (simp only [← hji12]; first | rfl | (simp [errW_none, errW_some] <;> rfl)) | (simp [*, errW_none, errW_some] <;> rfl), m32_⟩
  rw [if_neg c18] at H
  have c18b0 : decide (a2 < t176) = false := decide_eq_false c18
  clear c18
  replace H := Option.bind_eq_some_iff.mp H
  obtain ⟨⟨t180, t181⟩, A240, H⟩ := H
  replace H : ((merkle_both.f (rdOf ByteArray.empty l3 (ji12)) t180).bind fun t182 => (some (t182, t181))) = some (r1, r2) := H
  have A24 := Aside0.mk A240
  clear A240
  replace H := Option.bind_eq_some_iff.mp H
  obtain ⟨t182, A250, H⟩ := H
  replace H : (some (t182, t181)) = some (r1, r2) := H
  have A25 := Aside0.mk A250
  clear A250
  simp only [Option.some.injEq, Prod.mk.injEq] at H
  obtain ⟨rfl, rfl⟩ := H
  have p174 : 0 ≤ ((ji12) : Int) := of_decide_eq_true m15_
  have q174 : (ji12) < (l3.length : Int) := of_decide_eq_true m15_
  obtain ⟨ad174, e174, hx174_0⟩ := Kd.at_string HR3.out (ji12) p174 q174
  cases e174
  replace hx174_0 := (HB.out.cell (World.block_lt_of_cell? w _ hx174_0)).trans hx174_0
  replace p174 := eq_true p174
  replace q174 := eq_true q174
  obtain ⟨i026, hi026, _, hsz26, _⟩ := info_parts info9
  obtain ⟨hcut26, hA26, hC26⟩ := print_take_of (P := Tryd.prog) Value.string (⟨#[]⟩ : ByteArray) 32 9 .i64 Tryd.underlying32 hi026 hsz26 (some ad174) c3 l3 (ji12) (of_decide_eq_true m15_) (of_decide_eq_true m15_) HC3.out
  have HR175 := Aside0.mk (Kd.C_of_reads (h1 := fun _ => rfl) (hA26 _ (Kd.reads_of_C HR3.out)))
  have HC175 := Aside0.mk hC26
  clear hA26 hC26 hi026 hsz26
  go_wp2_with (first | (go_at_call 61; (with_reducible refine (merkle_half.calls kj5 a1 t176 _ A17.out).mono ?_); rintro e w' ⟨rfl, ⟨nd, rfl⟩⟩; (try first | exact ⟨rfl, _, World.drewN_drewN _ _ _⟩ | exact ⟨rfl, _, Eq.trans (World.drewN_drewN _ _ _) (congrArg (World.drewN _) (Nat.add_assoc _ _ _))⟩)) | (go_at_call 48; (with_reducible refine (Go.Proofs.YtdeggemomajhcaaDoor.cast_len4 (by have h_ : (ji12) < (l3.length : Int) := of_decide_eq_true m15_; rw [List.length_take]; omega) (ih kj5 (by have := HJ5.out; omega) a0 (wrap64 (a1 - t176)) (wrap64 (a2 - t176)) _ _ (l3.take ((ji12) : Int).toNat) t180 t181 _ ?side1 ?side2 A24.out)).mono ?_); (case side1 => repeat (first | exact (Kd.C_below HR175.out m7_) | (with_reducible refine Kd.C_alloc ?_ _) | (with_reducible refine Kd.C_drewN ?_ _) | (with_reducible refine Kd.C_drew ?_))); (case side2 => exact HC175.out); rintro e w27 ⟨rfl, hb⟩; have n0_ := Aside0.mk (below_step m7_ hb); clear HB; have HB := n0_; clear n0_; (try clear hb); (try clear hb2); (try clear hk); (try clear hi)) | (go_at_call 62; (with_reducible refine (merkle_both.calls (rdOf ByteArray.empty l3 (ji12)) t180 t182 _ A25.out).mono ?_); rintro e w28 ⟨rfl, hb⟩; have n0_ := Aside0.mk (below_step m7_ hb); clear HB; have HB := n0_; clear n0_; (try clear hb); (try clear hb2); (try clear hk); (try clear hi)))
  repeat (go_quiet (first | (go_at_call 61; (with_reducible refine (merkle_half.calls kj5 a1 t176 _ A17.out).mono ?_); rintro e w' ⟨rfl, ⟨nd, rfl⟩⟩; (try first | exact ⟨rfl, _, World.drewN_drewN _ _ _⟩ | exact ⟨rfl, _, Eq.trans (World.drewN_drewN _ _ _) (congrArg (World.drewN _) (Nat.add_assoc _ _ _))⟩)) | (go_at_call 48; (with_reducible refine (Go.Proofs.YtdeggemomajhcaaDoor.cast_len4 (by have h_ : (ji12) < (l3.length : Int) := of_decide_eq_true m15_; rw [List.length_take]; omega) (ih kj5 (by have := HJ5.out; omega) a0 (wrap64 (a1 - t176)) (wrap64 (a2 - t176)) _ _ (l3.take ((ji12) : Int).toNat) t180 t181 _ ?side1 ?side2 A24.out)).mono ?_); (case side1 => repeat (first | exact (Kd.C_below HR175.out m7_) | (with_reducible refine Kd.C_alloc ?_ _) | (with_reducible refine Kd.C_drewN ?_ _) | (with_reducible refine Kd.C_drew ?_))); (case side2 => exact HC175.out); rintro e w27 ⟨rfl, hb⟩; have n0_ := Aside0.mk (below_step m7_ hb); clear HB; have HB := n0_; clear n0_; (try clear hb); (try clear hb2); (try clear hk); (try clear hi)) | (go_at_call 62; (with_reducible refine (merkle_both.calls (rdOf ByteArray.empty l3 (ji12)) t180 t182 _ A25.out).mono ?_); rintro e w28 ⟨rfl, hb⟩; have n0_ := Aside0.mk (below_step m7_ hb); clear HB; have HB := n0_; clear n0_; (try clear hb); (try clear hb2); (try clear hk); (try clear hi))); try go_wp2_with (first | (go_at_call 61; (with_reducible refine (merkle_half.calls kj5 a1 t176 _ A17.out).mono ?_); rintro e w' ⟨rfl, ⟨nd, rfl⟩⟩; (try first | exact ⟨rfl, _, World.drewN_drewN _ _ _⟩ | exact ⟨rfl, _, Eq.trans (World.drewN_drewN _ _ _) (congrArg (World.drewN _) (Nat.add_assoc _ _ _))⟩)) | (go_at_call 48; (with_reducible refine (Go.Proofs.YtdeggemomajhcaaDoor.cast_len4 (by have h_ : (ji12) < (l3.length : Int) := of_decide_eq_true m15_; rw [List.length_take]; omega) (ih kj5 (by have := HJ5.out; omega) a0 (wrap64 (a1 - t176)) (wrap64 (a2 - t176)) _ _ (l3.take ((ji12) : Int).toNat) t180 t181 _ ?side1 ?side2 A24.out)).mono ?_); (case side1 => repeat (first | exact (Kd.C_below HR175.out m7_) | (with_reducible refine Kd.C_alloc ?_ _) | (with_reducible refine Kd.C_drewN ?_ _) | (with_reducible refine Kd.C_drew ?_))); (case side2 => exact HC175.out); rintro e w27 ⟨rfl, hb⟩; have n0_ := Aside0.mk (below_step m7_ hb); clear HB; have HB := n0_; clear n0_; (try clear hb); (try clear hb2); (try clear hk); (try clear hi)) | (go_at_call 62; (with_reducible refine (merkle_both.calls (rdOf ByteArray.empty l3 (ji12)) t180 t182 _ A25.out).mono ?_); rintro e w28 ⟨rfl, hb⟩; have n0_ := Aside0.mk (below_step m7_ hb); clear HB; have HB := n0_; clear n0_; (try clear hb); (try clear hb2); (try clear hk); (try clear hi))))
  go_ret2
  exact ⟨by first | rfl | (simp [errW_none, errW_some] <;> rfl) | (simp only [← hji12]; first | rfl | (simp [errW_none, errW_some] <;> rfl)) | (simp [*, errW_none, errW_some] <;> rfl), m32_⟩

end Go.Proofs.YtdeggemomajhcaaDoorH.HMerkleMissing
