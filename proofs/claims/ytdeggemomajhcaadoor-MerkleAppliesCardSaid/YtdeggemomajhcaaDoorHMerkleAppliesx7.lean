-- PRINTED by print.py (a twelfth state) out of the translation. Not trusted: Lean checks it.
import Derived.Test.YtdeggemomajhcaaDoorHMerkleAppliesx0
import Derived.Test.YtdeggemomajhcaaDoorHMerkleAppliesx2
import Derived.Test.YtdeggemomajhcaaDoorHMerkleAppliesx5
import Derived.Test.YtdeggemomajhcaaDoorHMerkleAppliesx6
namespace Go.Proofs.YtdeggemomajhcaaDoorH.HMerkleApplies
open Go.RowKit Go.Proofs.YtdeggemomajhcaaDoorW.PrintWords Go.Proofs.YtdeggemomajhcaaDoorW.PrintLast Go.Proofs.YtdeggemomajhcaaDoorW.PrintMore
attribute [local go_sem] max2_int min2_int max_two min_two max_three min_three max_four min_four   -- for this text's walks alone
set_option linter.unusedVariables false
set_option linter.unusedSimpArgs false

attribute [local go_sem high] eqA66
/-! ### strongroomlaw20_lives: function 12 -/
def strongroomlaw20_lives.f (k : Nat)  : Option (Bool) := if 32 ≤ 281474976710656 then ((some (List.replicate 32 0 : List Int)).bind fun y153 => ((merkle_Prove.f k (([(⟨(⟨#[97]⟩ : ByteArray), strOfNums y153⟩ : S44)] : List (S44))) 0).bind fun bt160 => ((merkle_Diff.f k ([] : List (S44)) (([(⟨(⟨#[97]⟩ : ByteArray), strOfNums y153⟩ : S44)] : List (S44)))).bind fun t167 => (if (bt160.1.length : Int) = 0 then (if bt160.2 = 0 then (if (t167.length : Int) = 1 then (if 0 < (t167.length : Int) then (if ((((rd_T66 t167 0).f0).toList) == ([97] : List UInt8) && ((((rd_T66 t167 0).f1).toList) == ([] : List UInt8) && ((((rd_T66 t167 0).f2).toList) == ((strOfNums y153).toList)))) = true then ((merkle_Digest.f k ([] : List (S44))).bind fun t171 => (some ((t171.size : Int) == 32))) else (some false)) else (none)) else (some false)) else (some false)) else (some false))))) else (none)
theorem strongroomlaw20_lives.mono : ∀ k, LeO (strongroomlaw20_lives.f k ) (strongroomlaw20_lives.f (k + 1) ) := by
 intro  k
 unfold strongroomlaw20_lives.f
 repeat' first
   | (with_reducible exact merkle_Diff.mono _ _ _)
   | (with_reducible exact merkle_Digest.mono _ _)
   | (with_reducible exact merkle_Prove.mono _ _ _)
   | (with_reducible exact LeO.refl _)
   | (with_reducible exact LeO.none _)
   | (with_reducible refine LeO.ite ?_ ?_)
   | (with_reducible refine LeO.bind ?_ (fun _ => ?_))
   | exact merkle_Diff.mono _ _ _
   | exact merkle_Digest.mono _ _
   | exact merkle_Prove.mono _ _ _
   | exact LeO.none _
   | refine LeO.ite ?_ ?_
   | refine LeO.bind ?_ (fun _ => ?_)
def strongroomlaw20_lives.T4 : Bool × List (List Nat × List Nat) := (true, [([], []), ([0], [0]), ([1], [1]), ([2], [2]), ([3], [3]), ([4, 3], [3, 4]), ([3, 5], [3, 5]), ([6, 3], [6]), ([7], [7]), ([8, 7], [7, 8]), ([9, 7], [7, 9]), ([7, 10], [7, 10]), ([11, 7], [11]), ([12], [12]), ([13, 12], [12, 13]), ([14, 12], [12, 14]), ([12], [12]), ([16, 12], [12, 16]), ([17, 12], [12, 17]), ([15, 18, 12], [12, 15, 18]), ([12, 19], [12, 19]), ([20, 12], [20]), ([21, 21], [21]), ([22, 21], [21, 22]), ([23, 21], [21, 23]), ([21, 24], [21, 24]), ([25, 22, 0, 1, 2, 3, 4, 5, 6, 7, 8, 9, 10, 11, 12, 13, 14, 15, 16, 17, 18, 19, 20, 21, 22, 23, 24, 25], [25])])
def strongroomlaw20_lives.B4 : List Nat := [0, 1, 3, 7, 15, 31, 63, 127, 255, 511, 1023, 2047, 4095, 8191, 16383, 32767, 8191, 73727, 204799, 524287, 1048575, 2097151, 4194303, 8388607, 16777215, 33554431, 67108863]
theorem strongroomlaw20_lives.tab4 : rtab .any (opsOf Tryd.f12 4) = strongroomlaw20_lives.T4 := by kernel_rfl
theorem strongroomlaw20_lives.bits4 : waitsOk strongroomlaw20_lives.T4.2 strongroomlaw20_lives.B4 = true := by kernel_rfl
set_option maxHeartbeats 8000000 in
set_option maxRecDepth 100000 in
theorem strongroomlaw20_lives.calls (k : Nat)  (r : Bool) (w : World) (h : strongroomlaw20_lives.f k  = some r) (hr_ : r = true) :
  Calls Tryd.prog 12 #[] w fun e w' => e = .returned (.bool r) ∧ Below w.heap.size w w' := by
 have hu44 := Tryd.underlying44
 have hu66 := Tryd.underlying66
 have HB := Aside0.mk (Below.refl w.heap.size w)
 have H : (if 32 ≤ 281474976710656 then ((some (List.replicate 32 0 : List Int)).bind fun y153 => ((merkle_Prove.f k (([(⟨(⟨#[97]⟩ : ByteArray), strOfNums y153⟩ : S44)] : List (S44))) 0).bind fun bt160 => ((merkle_Diff.f k ([] : List (S44)) (([(⟨(⟨#[97]⟩ : ByteArray), strOfNums y153⟩ : S44)] : List (S44)))).bind fun t167 => (if (bt160.1.length : Int) = 0 then (if bt160.2 = 0 then (if (t167.length : Int) = 1 then (if 0 < (t167.length : Int) then (if ((((rd_T66 t167 0).f0).toList) == ([97] : List UInt8) && ((((rd_T66 t167 0).f1).toList) == ([] : List UInt8) && ((((rd_T66 t167 0).f2).toList) == ((strOfNums y153).toList)))) = true then ((merkle_Digest.f k ([] : List (S44))).bind fun t171 => (some ((t171.size : Int) == 32))) else (some false)) else (none)) else (some false)) else (some false)) else (some false))))) else (none)) = some r := h
 clear h
 by_cases c1 : 32 ≤ 281474976710656
 case neg =>
  rw [if_neg c1] at H
  exact absurd H (by simp)
 rw [if_pos c1] at H
 have c1b0 := eq_true c1
 have c1b1 : decide (32 ≤ 281474976710656) = true := decide_eq_true c1
 clear c1
 obtain ⟨y153, hy153⟩ : ∃ y_ : List Int, y_ = (List.replicate 32 0) := ⟨_, rfl⟩
 replace H : ((merkle_Prove.f k (([(⟨(⟨#[97]⟩ : ByteArray), strOfNums y153⟩ : S44)] : List (S44))) 0).bind fun bt160 => ((merkle_Diff.f k ([] : List (S44)) (([(⟨(⟨#[97]⟩ : ByteArray), strOfNums y153⟩ : S44)] : List (S44)))).bind fun t167 => (if (bt160.1.length : Int) = 0 then (if bt160.2 = 0 then (if (t167.length : Int) = 1 then (if 0 < (t167.length : Int) then (if ((((rd_T66 t167 0).f0).toList) == ([97] : List UInt8) && ((((rd_T66 t167 0).f1).toList) == ([] : List UInt8) && ((((rd_T66 t167 0).f2).toList) == ((strOfNums y153).toList)))) = true then ((merkle_Digest.f k ([] : List (S44))).bind fun t171 => (some ((t171.size : Int) == 32))) else (some false)) else (none)) else (some false)) else (some false)) else (some false)))) = some r := by first | (rw [hy153]; with_reducible exact H) | (have H2_ := (Option.bind_some _ _).symm.trans H; rw [hy153]; with_reducible exact H2_) | (have H2_ := (Option.bind_some _ _).symm.trans H; with_reducible exact H2_) | with_reducible exact H | (rw [hy153]; exact H) | exact H
 have Ny153 := Aside0.mk hy153
 clear hy153
 obtain ⟨y157, hy157⟩ : ∃ y_ : List (S44), y_ = (([(⟨(⟨#[97]⟩ : ByteArray), strOfNums y153⟩ : S44)] : List (S44))) := ⟨_, rfl⟩
 replace H : ((merkle_Prove.f k y157 0).bind fun bt160 => ((merkle_Diff.f k ([] : List (S44)) (([(⟨(⟨#[97]⟩ : ByteArray), strOfNums y153⟩ : S44)] : List (S44)))).bind fun t167 => (if (bt160.1.length : Int) = 0 then (if bt160.2 = 0 then (if (t167.length : Int) = 1 then (if 0 < (t167.length : Int) then (if ((((rd_T66 t167 0).f0).toList) == ([97] : List UInt8) && ((((rd_T66 t167 0).f1).toList) == ([] : List UInt8) && ((((rd_T66 t167 0).f2).toList) == ((strOfNums y153).toList)))) = true then ((merkle_Digest.f k ([] : List (S44))).bind fun t171 => (some ((t171.size : Int) == 32))) else (some false)) else (none)) else (some false)) else (some false)) else (some false)))) = some r := by first | (rw [hy157]; with_reducible exact H) | (have H2_ := (Option.bind_some _ _).symm.trans H; rw [hy157]; with_reducible exact H2_) | (have H2_ := (Option.bind_some _ _).symm.trans H; with_reducible exact H2_) | with_reducible exact H | (rw [hy157]; exact H) | exact H
 have Ny157 := Aside0.mk hy157
 clear hy157
 replace H := Option.bind_eq_some_iff.mp H
 obtain ⟨⟨t160, t161⟩, A20, H⟩ := H
 replace H : ((merkle_Diff.f k ([] : List (S44)) (([(⟨(⟨#[97]⟩ : ByteArray), strOfNums y153⟩ : S44)] : List (S44)))).bind fun t167 => (if (t160.length : Int) = 0 then (if t161 = 0 then (if (t167.length : Int) = 1 then (if 0 < (t167.length : Int) then (if ((((rd_T66 t167 0).f0).toList) == ([97] : List UInt8) && ((((rd_T66 t167 0).f1).toList) == ([] : List UInt8) && ((((rd_T66 t167 0).f2).toList) == ((strOfNums y153).toList)))) = true then ((merkle_Digest.f k ([] : List (S44))).bind fun t171 => (some ((t171.size : Int) == 32))) else (some false)) else (none)) else (some false)) else (some false)) else (some false))) = some r := H
 have A2 := Aside0.mk A20
 clear A20
 obtain ⟨y164, hy164⟩ : ∃ y_ : List (S44), y_ = (([(⟨(⟨#[97]⟩ : ByteArray), strOfNums y153⟩ : S44)] : List (S44))) := ⟨_, rfl⟩
 replace H : ((merkle_Diff.f k ([] : List (S44)) y164).bind fun t167 => (if (t160.length : Int) = 0 then (if t161 = 0 then (if (t167.length : Int) = 1 then (if 0 < (t167.length : Int) then (if ((((rd_T66 t167 0).f0).toList) == ([97] : List UInt8) && ((((rd_T66 t167 0).f1).toList) == ([] : List UInt8) && ((((rd_T66 t167 0).f2).toList) == ((strOfNums y153).toList)))) = true then ((merkle_Digest.f k ([] : List (S44))).bind fun t171 => (some ((t171.size : Int) == 32))) else (some false)) else (none)) else (some false)) else (some false)) else (some false))) = some r := by first | (rw [hy164]; with_reducible exact H) | (have H2_ := (Option.bind_some _ _).symm.trans H; rw [hy164]; with_reducible exact H2_) | (have H2_ := (Option.bind_some _ _).symm.trans H; with_reducible exact H2_) | with_reducible exact H | (rw [hy164]; exact H) | exact H
 have Ny164 := Aside0.mk hy164
 clear hy164
 replace H := Option.bind_eq_some_iff.mp H
 obtain ⟨t167, A30, H⟩ := H
 replace H : (if (t160.length : Int) = 0 then (if t161 = 0 then (if (t167.length : Int) = 1 then (if 0 < (t167.length : Int) then (if ((((rd_T66 t167 0).f0).toList) == ([97] : List UInt8) && ((((rd_T66 t167 0).f1).toList) == ([] : List UInt8) && ((((rd_T66 t167 0).f2).toList) == ((strOfNums y153).toList)))) = true then ((merkle_Digest.f k ([] : List (S44))).bind fun t171 => (some ((t171.size : Int) == 32))) else (some false)) else (none)) else (some false)) else (some false)) else (some false)) = some r := H
 have A3 := Aside0.mk A30
 clear A30
 by_cases c4 : (t160.length : Int) = 0
 case neg =>
  rw [if_neg c4] at H
  have c4b0 : ((t160.length : Int) == 0) = false := beq_eq_false_iff_ne.mpr c4
  have c4b1 : ((t160.length : Int) != 0) = true := bne_iff_ne.mpr c4
  have c4b2 : ¬ (t160 = []) := fun h_ => c4 (by rw [h_]; rfl)
  exact absurd ((Option.some.inj H).trans hr_) (by decide)
 rw [if_pos c4] at H
 have c4b0 : ((t160.length : Int) == 0) = true := beq_iff_eq.mpr c4
 have c4b1 : ((t160.length : Int) != 0) = false := bne_eq_false_iff_eq.mpr c4
 clear c4
 by_cases c5 : t161 = 0
 case neg =>
  rw [if_neg c5] at H
  have c5b0 : (t161 == 0) = false := beq_eq_false_iff_ne.mpr c5
  have c5b1 : (t161 != 0) = true := bne_iff_ne.mpr c5
  exact absurd ((Option.some.inj H).trans hr_) (by decide)
 rw [if_pos c5] at H
 have c5b0 : (t161 == 0) = true := beq_iff_eq.mpr c5
 have c5b1 : (t161 != 0) = false := bne_eq_false_iff_eq.mpr c5
 clear c5
 by_cases c6 : (t167.length : Int) = 1
 case neg =>
  rw [if_neg c6] at H
  have c6b0 : ((t167.length : Int) == 1) = false := beq_eq_false_iff_ne.mpr c6
  have c6b1 : ((t167.length : Int) != 1) = true := bne_iff_ne.mpr c6
  exact absurd ((Option.some.inj H).trans hr_) (by decide)
 rw [if_pos c6] at H
 have c6b0 : ((t167.length : Int) == 1) = true := beq_iff_eq.mpr c6
 have c6b1 : ((t167.length : Int) != 1) = false := bne_eq_false_iff_eq.mpr c6
 clear c6
 by_cases c7 : 0 < (t167.length : Int)
 case neg =>
  rw [if_neg c7] at H
  exact absurd H (by simp)
 rw [if_pos c7] at H
 have c7b0 : decide (0 < (t167.length : Int)) = true := decide_eq_true c7
 have c7b1 : decide (0 < t167.length) = true := decide_eq_true (by omega)
 clear c7
 by_cases c8 : ((((rd_T66 t167 0).f0).toList) == ([97] : List UInt8) && ((((rd_T66 t167 0).f1).toList) == ([] : List UInt8) && ((((rd_T66 t167 0).f2).toList) == ((strOfNums y153).toList)))) = true
 case neg =>
  rw [if_neg c8] at H
  have c8b0 : ((((rd_T66 t167 0).f0).toList) == ([97] : List UInt8) && ((((rd_T66 t167 0).f1).toList) == ([] : List UInt8) && ((((rd_T66 t167 0).f2).toList) == ((strOfNums y153).toList)))) = false := by simpa using c8
  (try (have c8b1 : decide ((((rd_T66 t167 0).f0).toList) = ([97] : List UInt8) && ((((rd_T66 t167 0).f1).toList) == ([] : List UInt8) && ((((rd_T66 t167 0).f2).toList) == ((strOfNums y153).toList)))) = false := by simpa using c8))
  (try (have c8b2 : ((((rd_T66 t167 0).f0).toList) == ([97] : List UInt8) && ((((rd_T66 t167 0).f1).toList) == ([] : List UInt8) && ((((rd_T66 t167 0).f2).toList) == ((strOfNums y153).toList)))) = false := by simpa using c8))
  (try (have c8b3 : ¬ ((((rd_T66 t167 0).f0).toList) = ([97] : List UInt8) && ((((rd_T66 t167 0).f1).toList) == ([] : List UInt8) && ((((rd_T66 t167 0).f2).toList) == ((strOfNums y153).toList)))) := by simpa using c8))
  clear c8
  exact absurd ((Option.some.inj H).trans hr_) (by decide)
 rw [if_pos c8] at H
 have c8b0 : ((((rd_T66 t167 0).f0).toList) == ([97] : List UInt8) && ((((rd_T66 t167 0).f1).toList) == ([] : List UInt8) && ((((rd_T66 t167 0).f2).toList) == ((strOfNums y153).toList)))) = true := c8
 have c8b3 : ((((rd_T66 t167 0).f0).toList) == ([97] : List UInt8) && (((rd_T66 t167 0).f1).toList.isEmpty && ((((rd_T66 t167 0).f2).toList) == ((strOfNums y153).toList)))) = true := by have h_ := c8; simp only [Bool.and_eq_true] at h_ ⊢; exact ⟨h_.1, by have h2_ := h_.2.1; simpa using h2_, h_.2.2⟩
 (try (have c8b1 : decide ((((rd_T66 t167 0).f0).toList) = ([97] : List UInt8) && ((((rd_T66 t167 0).f1).toList) == ([] : List UInt8) && ((((rd_T66 t167 0).f2).toList) == ((strOfNums y153).toList)))) = true := by simpa using c8))
 (try (have c8b2 : ((((rd_T66 t167 0).f0).toList) == ([97] : List UInt8) && ((((rd_T66 t167 0).f1).toList) == ([] : List UInt8) && ((((rd_T66 t167 0).f2).toList) == ((strOfNums y153).toList)))) = true := by simpa using c8))
 clear c8
 replace H := Option.bind_eq_some_iff.mp H
 obtain ⟨t171, A90, H⟩ := H
 replace H : (some ((t171.size : Int) == 32)) = some r := H
 have A9 := Aside0.mk A90
 clear A90
 obtain rfl := Option.some.inj H
 go_enter Tryd.func12, Tryd.ntmps12
 try go_wp2_with (first | ((with_reducible refine gate_dst (N := 5) rfl ?_); (try (refine gate_guard (by rfl) ?_; dsimp only)); refine Kd.R_make (Kd.int .u8) _ 5 rfl (N := 5) rfl 84 _ _ rfl 32 rfl rfl Tryd.underlying84 (.int .u8 0) 1 info5 rfl (by decide) (by omega) 0 (ok := fun _ => True) (okp := fun _ => True) rfl (fun _ hk => hk) trivial (by omega) (by omega) (Below.refl _ _) (Nat.le_refl _) ?_; intro v154 w10 ho11 hb hg_ hnew_; clear hg_ hnew_; (first | rw [← Ny153.out] at ho11 | (simp only [Int.reduceToNat] at ho11; rw [← Ny153.out] at ho11)); have HO155 := Aside0.mk (Kd.R_lower ho11 (below_size m7_)); replace HB := Aside0.mk (below_step m7_ hb); clear hb ho11; have hcv12 := own_string (P := Tryd.prog) Tryd.underlying84 Tryd.underlying5 Tryd.underlying9 (Kd.own_of_R HO155.out)) | ((with_reducible refine gate_dst (N := 1) rfl ?_); (try (refine gate_guard (by rfl) ?_; dsimp only)); refine box_event ?hg (N := 1) ?hd (cs := #[.string (⟨#[]⟩ : ByteArray), .string (⟨#[]⟩ : ByteArray)]) (t := 44) ?hr ?_; (case hd => rfl); (case hg => rfl); (case hr => first | (go_simp; done) | (go_simp; rfl)); intro gb156 hg w13 hbox hb; have n0_ := Aside0.mk (Kd.R_below (by (with_reducible repeat (first | apply Kd.R_alloc | apply Kd.R_drewN | apply Kd.R_drew)); exact HO155.out) hb); have n1_ := Aside0.mk (below_step m7_ hb); have n2_ := Aside0.mk (hbox); have n3_ := Aside0.mk ((by rw [hg]; exact (below_size m7_) : w.heap.size ≤ gb156)); have n4_ := Aside0.mk ((by rw [hg]; exact (below_size m7_) : w.heap.size ≤ gb156)); clear HO155; clear HB; have HO155 := n0_; have HB := n1_; have BK156 := n2_; have GW156 := n3_; have GE156 := n4_; clear n0_ n1_ n2_ n3_ n4_; clear hb hbox hg; obtain ⟨hcz14_0, hcz14_1⟩ := bc2_ BK156.out; obtain ⟨hfz14_0, hfz14_1⟩ := bf2_ BK156.out) | ((with_reducible refine gate_dst (N := 10) rfl ?_); (try (refine gate_guard (by rfl) ?_; dsimp only)); refine Kd.R_lit k44 _ 44 ?hg (N := 10) ?hd (xs := ([(⟨(⟨#[97]⟩ : ByteArray), strOfNums y153⟩ : S44)] : List (S44))) (inner := [.string (⟨#[97]⟩ : ByteArray), .string (strOfNums y153)]) (ok := fun _ => True) (okp := fun _ => True) ?hr ?hp (fun _ hk => hk) trivial (Below.refl _ _) (Nat.le_refl _) (by simp) ?_; (case hd => rfl); (case hg => rfl); (case hr => first | (go_simp; done) | (go_simp; rfl)); (case hp => exact (Reps.c2 (show Kd.M k44 _ _ _ (⟨(⟨#[97]⟩ : ByteArray), strOfNums y153⟩ : S44) [.string (⟨#[97]⟩ : ByteArray), .string (strOfNums y153)] from (k44_mkM _ _ _ (⟨(⟨#[97]⟩ : ByteArray), strOfNums y153⟩ : S44) )) (Reps.none _ _))); intro v158 w15 ho16 hb hg_ hnew_; clear hg_ hnew_; (first | rw [← Ny157.out] at ho16 | (simp only [Int.reduceToNat] at ho16; rw [← Ny157.out] at ho16)); have n0_ := Aside0.mk (Kd.R_below (by (with_reducible repeat (first | apply Kd.R_alloc | apply Kd.R_drewN | apply Kd.R_drew)); exact (Kd.R_mono (Kd.R_far (p := ⟨gb156, 1, none⟩) (Kd.R_far (p := ⟨gb156, 0, none⟩) (Kd.R_types HO155.out BK156.out (by decide)) (fun _ hk => hk.2) (.string (⟨#[97]⟩ : ByteArray))) (fun _ hk => hk.2) (.string (strOfNums y153))) (fun _ h_ => h_.1))) hb); have n1_ := Aside0.mk (Kd.R_lower (Kd.R_newB ho16 (g := gb156) (o := .cells #[.string (⟨#[97]⟩ : ByteArray), .string (strOfNums y153)] 44 (0, 0)) (by (with_reducible repeat (first | refine blk_drewN ?_ _ | refine blk_drew ?_ | refine blk_alloc ?_ _)); refine blk_put (cs := #[.string (⟨#[97]⟩ : ByteArray), .string (⟨#[]⟩ : ByteArray)]) ?_ 1 _ rfl; (with_reducible repeat (first | refine blk_drewN ?_ _ | refine blk_drew ?_ | refine blk_alloc ?_ _)); refine blk_put (cs := #[.string (⟨#[]⟩ : ByteArray), .string (⟨#[]⟩ : ByteArray)]) ?_ 0 _ rfl; (with_reducible repeat (first | refine blk_drewN ?_ _ | refine blk_drew ?_ | refine blk_alloc ?_ _)); exact BK156.out)) (below_size m1_)); have n2_ := Aside0.mk (blk_below (g := gb156) (o := .cells #[.string (⟨#[97]⟩ : ByteArray), .string (strOfNums y153)] 44 (0, 0)) (by (with_reducible repeat (first | refine blk_drewN ?_ _ | refine blk_drew ?_ | refine blk_alloc ?_ _)); refine blk_put (cs := #[.string (⟨#[97]⟩ : ByteArray), .string (⟨#[]⟩ : ByteArray)]) ?_ 1 _ rfl; (with_reducible repeat (first | refine blk_drewN ?_ _ | refine blk_drew ?_ | refine blk_alloc ?_ _)); refine blk_put (cs := #[.string (⟨#[]⟩ : ByteArray), .string (⟨#[]⟩ : ByteArray)]) ?_ 0 _ rfl; (with_reducible repeat (first | refine blk_drewN ?_ _ | refine blk_drew ?_ | refine blk_alloc ?_ _)); exact BK156.out) hb); have n3_ := Aside0.mk (below_step m1_ hb); clear HO155; clear BK156; clear HB; have HO155 := n0_; have HO159 := n1_; have BK156 := n2_; have HB := n3_; clear n0_ n1_ n2_ n3_; clear hb ho16; obtain ⟨Ao17, co17, eo17⟩ := Kd.R_slice HO159.out; subst eo17) | ((with_reducible refine gate_callee (f := 19) rfl ?_); refine goesL_ (some 11) rfl rfl Tryd.func19 (by kernel_rfl) rfl #[.slice Ao17 y157.length co17, .int .i64 0] rfl m6_ ?_; (with_reducible refine (merkle_Prove.calls k _ _ y157 0 t160 t161 _ ?side1 ?side2 A2.out).mono ?_); (case side1 => repeat (first | exact (Kd.R_reads' HO159.out).2.2 | (with_reducible refine Kd.C_alloc ?_ _) | (with_reducible refine Kd.C_drewN ?_ _) | (with_reducible refine Kd.C_drew ?_))); (case side2 => exact (Kd.R_reads' HO159.out).2.1); rintro e w18 ⟨v162, rfl, ho0, hb⟩; refine ⟨_, rfl, ?_⟩; have n0_ := Aside0.mk (Kd.R_below (by (with_reducible repeat (first | apply Kd.R_alloc | apply Kd.R_drewN | apply Kd.R_drew)); exact HO155.out) hb); have n1_ := Aside0.mk (Kd.R_below (by (with_reducible repeat (first | apply Kd.R_alloc | apply Kd.R_drewN | apply Kd.R_drew)); exact HO159.out) hb); have n2_ := Aside0.mk (Kd.R_lower ho0 (below_size m1_)); have n3_ := Aside0.mk (blk_below (g := gb156) (o := .cells #[.string (⟨#[97]⟩ : ByteArray), .string (strOfNums y153)] 44 (0, 0)) (by (with_reducible repeat (first | refine blk_drewN ?_ _ | refine blk_drew ?_ | refine blk_alloc ?_ _)); exact BK156.out) hb); have n4_ := Aside0.mk (below_step m1_ hb); clear HO155; clear HO159; clear BK156; clear HB; have HO155 := n0_; have HO159 := n1_; have HO163 := n2_; have BK156 := n3_; have HB := n4_; clear n0_ n1_ n2_ n3_ n4_; (try clear hb); (try clear hb2); (try clear hk); (try clear hi); (try clear ho0); obtain ⟨hcz19_0, hcz19_1⟩ := bc2_ BK156.out; obtain ⟨hfz19_0, hfz19_1⟩ := bf2_ BK156.out) | ((with_reducible refine gate_dst (N := 15) rfl ?_); (try (refine gate_guard (by rfl) ?_; dsimp only)); refine Kd.R_lit k44 _ 44 ?hg (N := 15) ?hd (xs := ([(⟨(⟨#[97]⟩ : ByteArray), strOfNums y153⟩ : S44)] : List (S44))) (inner := [.string (⟨#[97]⟩ : ByteArray), .string (strOfNums y153)]) (ok := fun _ => True) (okp := fun _ => True) ?hr ?hp (fun _ hk => hk) trivial (Below.refl _ _) (Nat.le_refl _) (by simp) ?_; (case hd => rfl); (case hg => rfl); (case hr => first | (go_simp; done) | (go_simp; rfl)); (case hp => exact (Reps.c2 (show Kd.M k44 _ _ _ (⟨(⟨#[97]⟩ : ByteArray), strOfNums y153⟩ : S44) [.string (⟨#[97]⟩ : ByteArray), .string (strOfNums y153)] from (k44_mkM _ _ _ (⟨(⟨#[97]⟩ : ByteArray), strOfNums y153⟩ : S44) )) (Reps.none _ _))); intro v165 w20 ho21 hb hg_ hnew_; clear hg_ hnew_; (first | rw [← Ny164.out] at ho21 | (simp only [Int.reduceToNat] at ho21; rw [← Ny164.out] at ho21)); have n0_ := Aside0.mk (Kd.R_below (by (with_reducible repeat (first | apply Kd.R_alloc | apply Kd.R_drewN | apply Kd.R_drew)); exact HO155.out) hb); have n1_ := Aside0.mk (Kd.R_elder' (by (with_reducible repeat (first | apply Kd.R_alloc | apply Kd.R_drewN | apply Kd.R_drew)); exact HO159.out) (Kd.R_base ho21) hb); have n2_ := Aside0.mk (Kd.R_below (by (with_reducible repeat (first | apply Kd.R_alloc | apply Kd.R_drewN | apply Kd.R_drew)); exact HO163.out) hb); have n3_ := Aside0.mk (Kd.R_lower (Kd.R_newB (Kd.R_new' ho21 (Kd.R_lt (by (with_reducible repeat (first | apply Kd.R_alloc | apply Kd.R_drewN | apply Kd.R_drew)); exact HO159.out))) (g := gb156) (o := .cells #[.string (⟨#[97]⟩ : ByteArray), .string (strOfNums y153)] 44 (0, 0)) (by (with_reducible repeat (first | refine blk_drewN ?_ _ | refine blk_drew ?_ | refine blk_alloc ?_ _)); exact BK156.out)) (below_size m1_)); have n4_ := Aside0.mk (blk_below (g := gb156) (o := .cells #[.string (⟨#[97]⟩ : ByteArray), .string (strOfNums y153)] 44 (0, 0)) (by (with_reducible repeat (first | refine blk_drewN ?_ _ | refine blk_drew ?_ | refine blk_alloc ?_ _)); exact BK156.out) hb); have n5_ := Aside0.mk (below_step m1_ hb); clear HO155; clear HO159; clear HO163; clear BK156; clear HB; have HO155 := n0_; have HO159 := n1_; have HO163 := n2_; have HO166 := n3_; have BK156 := n4_; have HB := n5_; clear n0_ n1_ n2_ n3_ n4_ n5_; clear hb ho21; obtain ⟨Ao22, co22, eo22⟩ := Kd.R_slice HO166.out; subst eo22) | ((with_reducible refine gate_callee (f := 30) rfl ?_); refine goesL_ (some 16) rfl rfl Tryd.func30 (by kernel_rfl) rfl #[.slice none 0 0, .slice Ao22 y164.length co22] rfl m6_ ?_; (refine (merkle_Diff.calls k (fun k_ => False) _ _ ([] : List (S44)) (fun k_ => some k_ = (.slice Ao22 y164.length co22 : Value).ownBlock) _ _ y164 t167 _ ?side1 ?side2 A3.out).mono ?_); (case side1 => exact Kd.V_nil _ _ _ _ _); (case side2 => exact Kd.R_V (Kd.R_tight rfl (Kd.R_apart' (Kd.R_apart' (HO166.out) (Kd.R_typed HO155.out) (by decide)) (Kd.R_typed HO163.out) (by decide)))); rintro e w23 ⟨v168, rfl, ho0, hb⟩; refine ⟨_, rfl, ?_⟩; have n0_ := Aside0.mk (Kd.R_below (by (with_reducible repeat (first | apply Kd.R_alloc | apply Kd.R_drewN | apply Kd.R_drew)); exact HO155.out) hb); have n1_ := Aside0.mk (Kd.R_below (by (with_reducible repeat (first | apply Kd.R_alloc | apply Kd.R_drewN | apply Kd.R_drew)); exact HO159.out) hb); have n2_ := Aside0.mk (Kd.R_below (by (with_reducible repeat (first | apply Kd.R_alloc | apply Kd.R_drewN | apply Kd.R_drew)); exact HO163.out) hb); have n3_ := Aside0.mk (Kd.R_below (by (with_reducible repeat (first | apply Kd.R_alloc | apply Kd.R_drewN | apply Kd.R_drew)); exact HO166.out) hb); have n4_ := Aside0.mk (Kd.R_lower (Kd.R_mono (ok' := fun k_ => True) ho0 (fun _ hk_ => trivial)) (below_size m1_)); have n5_ := Aside0.mk (blk_below (g := gb156) (o := .cells #[.string (⟨#[97]⟩ : ByteArray), .string (strOfNums y153)] 44 (0, 0)) (by (with_reducible repeat (first | refine blk_drewN ?_ _ | refine blk_drew ?_ | refine blk_alloc ?_ _)); exact BK156.out) hb); have n6_ := Aside0.mk (below_step m1_ hb); clear HO155; clear HO159; clear HO163; clear HO166; clear BK156; clear HB; have HO155 := n0_; have HO159 := n1_; have HO163 := n2_; have HO166 := n3_; have HO169 := n4_; have BK156 := n5_; have HB := n6_; clear n0_ n1_ n2_ n3_ n4_ n5_ n6_; (try clear hb); (try clear hb2); (try clear hk); (try clear hi); (try clear ho0)))
 replace HO155 := Aside0.mk (Kd.R_drew HO155.out)
 replace HO159 := Aside0.mk (Kd.R_drew HO159.out)
 replace HO163 := Aside0.mk (Kd.R_drew HO163.out)
 replace HO166 := Aside0.mk (Kd.R_drew HO166.out)
 replace HO169 := Aside0.mk (Kd.R_drew HO169.out)
 replace BK156 := Aside0.mk (blk_drew BK156.out)
 replace HB := Aside0.mk (below_drew1 HB.out)
 obtain ⟨Ao25, co25, eo25⟩ := Kd.R_slice HO163.out
 (first | subst eo25 | (injection eo25 with f1_ f2_ f3_; have f4_ := f1_.symm; have f5_ := f3_.symm; clear f1_ f2_ f3_; subst f4_; subst f5_))
 obtain ⟨Ao26, co26, eo26⟩ := Kd.R_slice HO169.out
 (first | subst eo26 | (injection eo26 with f1_ f2_ f3_; have f4_ := f1_.symm; have f5_ := f3_.symm; clear f1_ f2_ f3_; subst f4_; subst f5_))
 have p170 : 0 ≤ (0 : Int) := (by omega)
 have q170 : 0 < (t167.length : Int) := of_decide_eq_true m18_
 obtain ⟨ad170, e170, hx170_0, hx170_1, hx170_2⟩ := at_T66 (Kd.R_reads' HO169.out).2.2 0 p170 q170
 cases e170
 have qi170 : (0 < t167.length) = True := eq_true (by omega)
 (try rw [show ((0 : Int)).toNat = 0 from rfl] at hx170_0)
 (try rw [show 0 * 3 = 0 from rfl] at hx170_0)
 (try rw [Addr.add_zero'] at hx170_0)
 (try rw [show ((0 : Int)).toNat = 0 from rfl] at hx170_1)
 (try rw [show 0 * 3 = 0 from rfl] at hx170_1)
 (try rw [Addr.add_zero'] at hx170_1)
 (try rw [show ((0 : Int)).toNat = 0 from rfl] at hx170_2)
 (try rw [show 0 * 3 = 0 from rfl] at hx170_2)
 (try rw [Addr.add_zero'] at hx170_2)
 replace p170 := eq_true p170
 replace q170 := eq_true q170
 refine start_ (n := 27) (S := fun w' => w'.cell? ⟨gb156, 0, none⟩ = some (.string (⟨#[97]⟩ : ByteArray)) ∧ w'.cell? ⟨gb156, 1, none⟩ = some (.string (strOfNums y153)) ∧ w'.cell? ad170 = some (.string ((rd_T66 t167 0).f0)) ∧ w'.cell? ⟨ad170.block, ad170.off + 1, none⟩ = some (.string ((rd_T66 t167 0).f1)) ∧ w'.cell? ⟨ad170.block, ad170.off + 2, none⟩ = some (.string ((rd_T66 t167 0).f2))) (ds := []) (Ra_ [0, 27]) (by kernel_rfl) rfl rfl ⟨(blk_cell BK156.out 0).trans rfl, (blk_cell BK156.out 1).trans rfl, hx170_0, hx170_1, hx170_2⟩ (fun hHeld => ?_); refine with_tabW strongroomlaw20_lives.tab4 strongroomlaw20_lives.bits4 (fun HT_ HW_ => ?_)
 generalize w23.drew = w24 at HO155 HO159 HO163 HO166 HO169 BK156 HB hx170_0 hx170_1 hx170_2 hHeld ⊢
 refine pI_ 0 (some 17) (Ra_ [1, 26]) (h := ?_)
 refine pI_ 1 (some 18) (Ra_ [2, 25]) (h := ?_)
 refine pI_ 2 (some 19) (Ra_ [3, 24]) (h := ?_)
 refine pI_ 3 (some 20) (Ra_ [4, 23]) (h := ?_)
 refine pI_ 4 (some 21) (Ra_ [5, 22]) (h := ?_)
 refine pI_ 5 (some 22) (Ra_ [6, 21]) (h := ?_)
 refine pI_ 6 (some 23) (Ra_ [7, 20]) (h := ?_)
 refine pI_ 7 (some 24) (Ra_ [8, 19]) (h := ?_)
 refine pI_ 8 (some 25) (Ra_ [9, 18]) (h := ?_)
 refine pI_ 9 (some 26) (Ra_ [10, 17]) (h := ?_)
 refine pI_ 10 (some 27) (Ra_ [11, 16]) (h := ?_)
 refine pI_ 11 (some 28) (Ra_ [12, 15]) (h := ?_)
 refine pI_ 12 (some 29) (Ra_ [13, 14]) (h := ?_)
 refine pI_ 13 (some 30) (Ra_ [14, 13]) (h := ?_)
 refine pI_ 14 (some 31) (Ra_ [15, 12]) (h := ?_)
 refine pI_ 16 (some 33) (Ra_ [15, 1, 1, 10]) (h := ?_)
 refine tI5_ 15 (some 32) (Ra_ [17, 10]) (h := ?_)
 refine tI5_ 17 (some 34) (Ra_ [18, 9]) (h := ?_)
 refine pI_ 18 (some 35) (Ra_ [19, 8]) (h := ?_)
 refine pI_ 19 (some 36) (Ra_ [20, 7]) (h := ?_)
 refine pI_ 20 (some 37) (Ra_ [21, 6]) (h := ?_)
 refine pI_ 21 (some 38) (Ra_ [22, 5]) (h := ?_)
 refine one_ (i := 22) (N := some 39) (Ra_ [23, 4]) rfl rfl (one_of HT_.out (by kernel_rfl)) (by decide) (fun K hK => ?_)
 refine goes_ Tryd.func13 (by kernel_rfl) rfl #[.slice none 0 0] (by rfl) rfl rfl m6_ ?_
 refine (merkle_Digest.calls k _ _ ([] : List (S44)) t171 _ ?side1 ?side2 A9.out).mono ?_
 (case side1 => exact Kd.C_nil _ _)
 (case side2 => exact Nat.le_refl _)
 rintro e w27 ⟨rfl, hb⟩
 have HS2_ := (hb.cell (World.block_lt_of_cell? _ _ (hHeld.2.2.1))).trans (hHeld.2.2.1)
 have HS3_ := (hb.cell (World.block_lt_of_cell? _ _ (hHeld.2.2.2.1))).trans (hHeld.2.2.2.1)
 have HS4_ := (hb.cell (World.block_lt_of_cell? _ _ (hHeld.2.2.2.2))).trans (hHeld.2.2.2.2)
 refine ⟨_, rfl, ?_⟩
 have n0_ := Aside0.mk (Kd.R_below (by (with_reducible repeat (first | apply Kd.R_alloc | apply Kd.R_drewN | apply Kd.R_drew)); exact HO155.out) hb)
 have n1_ := Aside0.mk (Kd.R_below (by (with_reducible repeat (first | apply Kd.R_alloc | apply Kd.R_drewN | apply Kd.R_drew)); exact HO159.out) hb)
 have n2_ := Aside0.mk (Kd.R_below (by (with_reducible repeat (first | apply Kd.R_alloc | apply Kd.R_drewN | apply Kd.R_drew)); exact HO163.out) hb)
 have n3_ := Aside0.mk (Kd.R_below (by (with_reducible repeat (first | apply Kd.R_alloc | apply Kd.R_drewN | apply Kd.R_drew)); exact HO166.out) hb)
 have n4_ := Aside0.mk (Kd.R_below (by (with_reducible repeat (first | apply Kd.R_alloc | apply Kd.R_drewN | apply Kd.R_drew)); exact HO169.out) hb)
 have n5_ := Aside0.mk (blk_below (g := gb156) (o := .cells #[.string (⟨#[97]⟩ : ByteArray), .string (strOfNums y153)] 44 (0, 0)) (by (with_reducible repeat (first | refine blk_drewN ?_ _ | refine blk_drew ?_ | refine blk_alloc ?_ _)); exact BK156.out) hb)
 have n6_ := Aside0.mk (below_step m1_ hb)
 clear HO155 HO159 HO163 HO166 HO169 BK156 HB
 have HO155 := n0_
 have HO159 := n1_
 have HO163 := n2_
 have HO166 := n3_
 have HO169 := n4_
 have BK156 := n5_
 have HB := n6_
 clear n0_ n1_ n2_ n3_ n4_ n5_ n6_
 (try clear hb)
 (try clear hb2)
 (try clear hk)
 (try clear hi)
 refine hK.out _ _ ⟨(blk_cell BK156.out 0).trans rfl, (blk_cell BK156.out 1).trans rfl, HS2_, HS3_, HS4_⟩ (fun hHeld => ?_)
 clear hK K
 refine norm_ (a' := ?_) ?_ ?_
 rotate_left
 ·show Act.put _ (some 39) _ = _
  simp only [Act.put, sA_, sB_, sC_, i64_w, i32_w]
  rfl
 refine pI_ 23 (some 40) (Ra_ [24, 3]) (h := ?_)
 refine pI_ 24 (some 41) (Ra_ [25, 2]) (h := ?_)
 refine pI_ 25 (some 42) (Ra_ [26, 1]) (h := ?_)
 refine pI_ 26 (some 0) (Ra_ [27]) (h := ?_)
 refine done_ (done_of HT_.out (by kernel_rfl)) ?_
 try go_wp2
 go_ret
 exact ⟨by first | rfl | (simp [errW_none, errW_some] <;> rfl) | (simp [*, errW_none, errW_some] <;> rfl), by repeat (first | (with_reducible first | exact HB.out | apply below_alloc | apply pw_below_drewN | apply below_drew1 | refine below_set ?_ GE156.out) | exact HB.out)⟩


/-! ### strongroomlaw20_mine: function 14 -/
def strongroomlaw20_mine.l0 : Nat → List (S39) → List (S44) → Int → Option ((List (S44)))
 | 0, _, _, _ => none
 | k + 1, x0, x3, x4 => if x4 < (x0.length : Int) then (if 0 ≤ x4 then (if x3.length < 4398046511104 then (strongroomlaw20_mine.l0 k x0 (x3 ++ [(⟨(rd_T39 x0 x4).f0, (rd_T39 x0 x4).f1⟩ : S44)]) (wrap64 (x4 + 1))) else (none)) else (none)) else (some x3)
def strongroomlaw20_mine.f (k : Nat) (l0 : List (S39)) : Option ((List (S44))) := strongroomlaw20_mine.l0 k l0 ([] : List (S44)) 0
theorem strongroomlaw20_mine.mono_l : ∀ k, (∀ y0 y1 y2, LeO (strongroomlaw20_mine.l0 k y0 y1 y2) (strongroomlaw20_mine.l0 (k + 1) y0 y1 y2))
 | 0 => fun _ _ _ r h => by simp [strongroomlaw20_mine.l0] at h
 | k + 1 => by
  have ih0 := strongroomlaw20_mine.mono_l k
  ·intro y0 y1 y2
   unfold strongroomlaw20_mine.l0
   repeat' first
   | (with_reducible exact ih0 _ _ _)
   | (with_reducible exact LeO.refl _)
   | (with_reducible exact LeO.none _)
   | (with_reducible refine LeO.ite ?_ ?_)
   | (with_reducible refine LeO.bind ?_ (fun _ => ?_))
   | exact ih0 _ _ _
   | exact LeO.none _
   | refine LeO.ite ?_ ?_
   | refine LeO.bind ?_ (fun _ => ?_)
theorem strongroomlaw20_mine.mono : ∀ a0 k, LeO (strongroomlaw20_mine.f k a0) (strongroomlaw20_mine.f (k + 1) a0) := by
 intro a0 k
 have ih0 := strongroomlaw20_mine.mono_l k
 unfold strongroomlaw20_mine.f
 repeat' first
   | (with_reducible exact ih0 _ _ _)
   | (with_reducible exact LeO.refl _)
   | (with_reducible exact LeO.none _)
   | (with_reducible refine LeO.ite ?_ ?_)
   | (with_reducible refine LeO.bind ?_ (fun _ => ?_))
   | exact ih0 _ _ _
   | exact LeO.none _
   | refine LeO.ite ?_ ?_
   | refine LeO.bind ?_ (fun _ => ?_)
def strongroomlaw20_mine.T5 : Bool × List (List Nat × List Nat) := (true, [([], []), ([], []), ([], []), ([1, 2], [1, 2]), ([3], [3]), ([4], [4]), ([], []), ([], []), ([6, 7], [6, 7]), ([8], [8]), ([9], [9]), ([5, 10], [5, 10]), ([11], [11]), ([0, 12], [0, 12]), ([13, 13, 0, 1, 2, 3, 4, 5, 6, 7, 8, 9, 10, 11, 12, 13], [0, 13])])
def strongroomlaw20_mine.B5 : List Nat := [0, 0, 0, 6, 14, 30, 0, 0, 192, 448, 960, 2046, 4094, 8191, 16383]
theorem strongroomlaw20_mine.tab5 : rtab .any (opsOf Tryd.f14 5) = strongroomlaw20_mine.T5 := by kernel_rfl
theorem strongroomlaw20_mine.bits5 : waitsOk strongroomlaw20_mine.T5.2 strongroomlaw20_mine.B5 = true := by kernel_rfl
set_option maxHeartbeats 8000000 in
set_option maxRecDepth 100000 in
theorem strongroomlaw20_mine.calls (k : Nat) (A0 : Option Addr) (c0 : Nat) (l0 : List (S39)) (r : List (S44)) (w : World) (hr0 : Kd.C k39 w A0 l0.length l0) (hc0 : l0.length ≤ c0) (h : strongroomlaw20_mine.f k l0 = some r) :
  Calls Tryd.prog 14 #[.slice A0 l0.length c0] w fun e w' => ∃ v0_ : Value, e = .returned (v0_) ∧ Kd.R k44 44 w' w.heap.size (fun _ => True) v0_ r ∧ Below w.heap.size w w' := by
 have hu44 := Tryd.underlying44
 have HR0 := Aside0.mk hr0
 have HC0 := Aside0.mk hc0
 clear hr0 hc0
 have HB := Aside0.mk (Below.refl w.heap.size w)
 have H : (strongroomlaw20_mine.l0 k l0 ([] : List (S44)) 0) = some r := h
 clear h
 have H' := Aside0.mk H
 clear H
 go_enter Tryd.func14, Tryd.ntmps14
 go_wp2
 go_loopg [3, 4] k (fun kq v3 v4 w' => ∃ (x3_1 : List (S44)) (x4_1 : Int), v4 = .int .i64 x4_1 ∧ Aside0 (strongroomlaw20_mine.l0 kq l0 x3_1 x4_1 = some r) ∧ Aside0 (kq ≤ k) ∧ Aside0 (Kd.R k44 44 w' w.heap.size (fun _ => True) v3 x3_1) ∧ Aside0 (Below w.heap.size w w'))
 case atStart => exact ⟨(([] : List (S44))), (0), m19_, H', ⟨Nat.le_refl _⟩, ⟨by first | exact Kd.R_nil _ _ _ _ _ | exact Kd.N_nil _ _ _ _ _ | exact Kd.V_nil _ _ _ _ _ | exact Kd.Q_nil _ _ _ _ _ | exact Kd.S_nil _ _ _ _ _⟩, ⟨m27_⟩⟩
 clear H'
 try clear c1
 obtain ⟨x3_1, x4_1, rfl, HA, HK1, HO_3, HB⟩ := hrel
 cases gk with
 | zero => exact absurd HA.out (by simp [strongroomlaw20_mine.l0])
 | succ k1 =>
  have H := HA.out
  clear HA
  simp only [strongroomlaw20_mine.l0] at H
  by_cases c2 : x4_1 < (l0.length : Int)
  case neg =>
   rw [if_neg c2] at H
   have c2b0 : decide (x4_1 < (l0.length : Int)) = false := decide_eq_false c2
   clear c2
   obtain rfl := Option.some.inj H
   go_wp2
   go_ret
   exact ⟨_, by first | rfl | (simp [errW_none, errW_some] <;> rfl) | (simp [*, errW_none, errW_some] <;> rfl), by (with_reducible repeat (first | apply Kd.R_alloc | apply Kd.R_drewN | apply Kd.R_drew)); exact HO_3.out, m27_⟩
  rw [if_pos c2] at H
  have c2b0 : decide (x4_1 < (l0.length : Int)) = true := decide_eq_true c2
  clear c2
  by_cases c3 : 0 ≤ x4_1
  case neg =>
   rw [if_neg c3] at H
   exact absurd H (by simp)
  rw [if_pos c3] at H
  have c3b0 : decide (0 ≤ x4_1) = true := decide_eq_true c3
  clear c3
  by_cases c4 : x3_1.length < 4398046511104
  case neg =>
   rw [if_neg c4] at H
   exact absurd H (by simp)
  rw [if_pos c4] at H
  have LMc4 := Aside0.mk c4
  clear c4
  obtain ⟨y174, hy174⟩ : ∃ y_ : List (S44), y_ = (x3_1 ++ [(⟨(rd_T39 l0 x4_1).f0, (rd_T39 l0 x4_1).f1⟩ : S44)]) := ⟨_, rfl⟩
  replace H : (strongroomlaw20_mine.l0 k1 l0 y174 (wrap64 (x4_1 + 1))) = some r := by first | (rw [hy174]; with_reducible exact H) | (have H2_ := (Option.bind_some _ _).symm.trans H; rw [hy174]; with_reducible exact H2_) | (have H2_ := (Option.bind_some _ _).symm.trans H; with_reducible exact H2_) | with_reducible exact H | (rw [hy174]; exact H) | exact H
  have Ny174 := Aside0.mk hy174
  clear hy174
  have H' := Aside0.mk H
  clear H
  try go_wp2
  replace HO_3 := Aside0.mk (Kd.R_drew HO_3.out)
  replace HB := Aside0.mk (below_drew1 HB.out)
  have p172 : 0 ≤ (x4_1 : Int) := of_decide_eq_true m18_
  have q172 : x4_1 < (l0.length : Int) := of_decide_eq_true m18_
  obtain ⟨ad172, e172, hx172_0, hx172_1⟩ := at_T39 HR0.out x4_1 p172 q172
  have hw172_1 := hx172_1
  have hw172_0 := hx172_0
  cases e172
  replace hx172_0 := (HB.out.cell (World.block_lt_of_cell? w _ hx172_0)).trans hx172_0
  replace hx172_1 := (HB.out.cell (World.block_lt_of_cell? w _ hx172_1)).trans hx172_1
  replace p172 := eq_true p172
  replace q172 := eq_true q172
  have p173 : 0 ≤ (x4_1 : Int) := of_decide_eq_true m18_
  have q173 : x4_1 < (l0.length : Int) := of_decide_eq_true m18_
  obtain ⟨ad173, e173, hx173_0, hx173_1⟩ := at_T39 HR0.out x4_1 p173 q173
  have hw173_1 := hx173_1
  have hw173_0 := hx173_0
  obtain rfl : ad172 = ad173 := (by injection e173)
  replace hx173_0 := (HB.out.cell (World.block_lt_of_cell? w _ hx173_0)).trans hx173_0
  replace hx173_1 := (HB.out.cell (World.block_lt_of_cell? w _ hx173_1)).trans hx173_1
  replace p173 := eq_true p173
  replace q173 := eq_true q173
  refine start_ (n := 15) (S := fun w' => w'.cell? (ad172.add ((x4_1).toNat * 2)) = some (.string ((rd_T39 l0 x4_1).f0)) ∧ w'.cell? ⟨(ad172.add ((x4_1).toNat * 2)).block, (ad172.add ((x4_1).toNat * 2)).off + 1, none⟩ = some (.string ((rd_T39 l0 x4_1).f1)) ∧ w'.cell? (ad172.add ((x4_1).toNat * 2)) = some (.string ((rd_T39 l0 x4_1).f0)) ∧ w'.cell? ⟨(ad172.add ((x4_1).toNat * 2)).block, (ad172.add ((x4_1).toNat * 2)).off + 1, none⟩ = some (.string ((rd_T39 l0 x4_1).f1))) (ds := []) (Ra_ [0, 15]) (by kernel_rfl) rfl rfl ⟨((HB.out.cell (World.block_lt_of_cell? w _ hw172_0)).trans hw172_0), ((HB.out.cell (World.block_lt_of_cell? w _ hw172_1)).trans hw172_1), ((HB.out.cell (World.block_lt_of_cell? w _ hw173_0)).trans hw173_0), ((HB.out.cell (World.block_lt_of_cell? w _ hw173_1)).trans hw173_1)⟩ (fun hHeld => ?_); refine with_tabW strongroomlaw20_mine.tab5 strongroomlaw20_mine.bits5 (fun HT_ HW_ => ?_)
  generalize wr.drew = w5 at HO_3 HB hx172_0 hx172_1 hx173_0 hx173_1 hHeld ⊢
  refine pI_ 0 (some 11) (Ra_ [1, 14]) (h := ?_)
  refine pI_ 1 (some 12) (Ra_ [2, 13]) (h := ?_)
  refine pI_ 2 (some 13) (Ra_ [3, 12]) (h := ?_)
  refine pI_ 3 (some 14) (Ra_ [4, 11]) (h := ?_)
  refine pI_ 4 (some 15) (Ra_ [5, 10]) (h := ?_)
  refine pI_ 6 (some 17) (Ra_ [5, 1, 1, 8]) (h := ?_)
  refine pI_ 7 (some 18) (Ra_ [5, 1, 2, 7]) (h := ?_)
  refine pI_ 8 (some 19) (Ra_ [5, 1, 3, 6]) (h := ?_)
  refine pI_ 9 (some 20) (Ra_ [5, 1, 4, 5]) (h := ?_)
  refine tI4_ 5 (some 16) (Ra_ [10, 5]) (h := ?_)
  refine tI4_ 10 (some 21) (Ra_ [11, 4]) (h := ?_)
  refine pI_ 11 (some 22) (Ra_ [12, 3]) (h := ?_)
  refine one_ (i := 12) (N := some 23) (Ra_ [13, 2]) rfl rfl (one_of HT_.out (by kernel_rfl)) (by decide) (fun K hK => ?_)
  refine value_ (w1 := ?_) (v := ?_) (by rfl) rfl ?_ ?_
  rotate_left 2
  ·go_simp
   constructor
   ·rfl
   rfl
  refine hK.out _ _ ⟨(World.cell?_alloc_lt _ _ _ (World.block_lt_of_cell? _ _ (((HB.out.cell (World.block_lt_of_cell? w _ hw172_0)).trans hw172_0)))).trans (((HB.out.cell (World.block_lt_of_cell? w _ hw172_0)).trans hw172_0)), (World.cell?_alloc_lt _ _ _ (World.block_lt_of_cell? _ _ (((HB.out.cell (World.block_lt_of_cell? w _ hw172_1)).trans hw172_1)))).trans (((HB.out.cell (World.block_lt_of_cell? w _ hw172_1)).trans hw172_1)), (World.cell?_alloc_lt _ _ _ (World.block_lt_of_cell? _ _ (((HB.out.cell (World.block_lt_of_cell? w _ hw173_0)).trans hw173_0)))).trans (((HB.out.cell (World.block_lt_of_cell? w _ hw173_0)).trans hw173_0)), (World.cell?_alloc_lt _ _ _ (World.block_lt_of_cell? _ _ (((HB.out.cell (World.block_lt_of_cell? w _ hw173_1)).trans hw173_1)))).trans (((HB.out.cell (World.block_lt_of_cell? w _ hw173_1)).trans hw173_1))⟩ (fun hHeld => ?_)
  clear hK K
  refine norm_ (a' := ?_) ?_ ?_
  rotate_left
  ·show Act.put _ (some 23) _ = _
   simp only [Act.put, sA_, sB_, sC_, i64_w, i32_w]
   rfl
  refine one_ (i := 13) (N := some 24) (Ra_ [14, 1]) rfl rfl (one_of HT_.out (by kernel_rfl)) (by decide) (fun K hK => ?_)
  refine Kd.R_append_step k44 (w0 := w) w.heap.size (by rfl) (.tmp 11) (.tmp 23) 26 44 (.agg #[(.string ⟨#[]⟩), (.string ⟨#[]⟩)]) 32 rfl Tryd.underlying26 info44 rfl (by decide) (by omega) u3 x3_1 (⟨(rd_T39 l0 x4_1).f0, (rd_T39 l0 x4_1).f1⟩ : S44) [.string ((rd_T39 l0 x4_1).f0), .string ((rd_T39 l0 x4_1).f1)] (fun _ => True) (fun _ => False) rfl rfl ?aP (fun _ hk => hk.elim) ?aF ?aO ?aB ?aS ?aL ?_
  (case aP => exact k44_mkM _ _ _ (⟨(rd_T39 l0 x4_1).f0, (rd_T39 l0 x4_1).f1⟩ : S44))
  (case aB => exact m7_)
  (case aF => exact (fun _ _ => trivial))
  (case aO => exact (by (with_reducible repeat (first | apply Kd.R_alloc | apply Kd.R_drewN | apply Kd.R_drew)); exact HO_3.out))
  (case aS => exact (below_size m7_))
  (case aL => have := LMc4.out; omega)
  intro v175 w6 ho hb hg hat
  rw [← Ny174.out] at ho
  have n0_ := Aside0.mk (hb)
  have n1_ := Aside0.mk (ho)
  clear HB HO_3
  have HB := n0_
  have HO176 := n1_
  clear n0_ n1_ ho hb hg hat
  refine hK.out _ _ ⟨((HB.out.cell (World.block_lt_of_cell? w _ hw172_0)).trans hw172_0), ((HB.out.cell (World.block_lt_of_cell? w _ hw172_1)).trans hw172_1), ((HB.out.cell (World.block_lt_of_cell? w _ hw173_0)).trans hw173_0), ((HB.out.cell (World.block_lt_of_cell? w _ hw173_1)).trans hw173_1)⟩ (fun hHeld => ?_)
  clear hK K
  refine norm_ (a' := ?_) ?_ ?_
  rotate_left
  ·show Act.put _ (some 24) _ = _
   simp only [Act.put, sA_, sB_, sC_, i64_w, i32_w]
   rfl
  refine pI_ 14 (some 3) (Ra_ [15]) (h := ?_)
  refine done_ (done_of HT_.out (by kernel_rfl)) ?_
  try go_wp2
  go_roundg k1
  case measure => have := HK1.out; omega
  case rel => exact ⟨(y174), (wrap64 (x4_1 + 1)), m19_, H', ⟨by have := HK1.out; omega⟩, ⟨by (with_reducible repeat (first | apply Kd.R_alloc | apply Kd.R_drewN | apply Kd.R_drew)); exact HO176.out⟩, ⟨m27_⟩⟩

/-! ### strongroomref05_Cut: function 71 -/
def strongroomref05_Cut.l0 : Nat → ByteArray → List ByteArray → Int → Int → Option (List ByteArray)
 | 0, _, _, _, _ => none
 | k + 1, x0, x3, x4, x5 => if x5 ≤ (x0.size : Int) then (if x5 = (x0.size : Int) then (if 0 ≤ x4 then (if x4 ≤ x5 then (if x3.length < 8796093022208 then (strongroomref05_Cut.l0 k x0 (x3 ++ [x0.extract (x4 : Int).toNat (x5 : Int).toNat]) (wrap64 (x5 + 1)) (wrap64 (x5 + 1))) else (none)) else (none)) else (none)) else (if 0 ≤ x5 then (if x5 < (x0.size : Int) then (if (bt x0 x5) = 47 then (if 0 ≤ x4 then (if x4 ≤ x5 then (if x3.length < 8796093022208 then (strongroomref05_Cut.l0 k x0 (x3 ++ [x0.extract (x4 : Int).toNat (x5 : Int).toNat]) (wrap64 (x5 + 1)) (wrap64 (x5 + 1))) else (none)) else (none)) else (none)) else (strongroomref05_Cut.l0 k x0 x3 x4 (wrap64 (x5 + 1)))) else (none)) else (none))) else (some x3)
def strongroomref05_Cut.f (k : Nat) (a0 : ByteArray) : Option (List ByteArray) := strongroomref05_Cut.l0 k a0 ([] : List ByteArray) 0 0
theorem strongroomref05_Cut.mono_l : ∀ k, (∀ y0 y1 y2 y3, LeO (strongroomref05_Cut.l0 k y0 y1 y2 y3) (strongroomref05_Cut.l0 (k + 1) y0 y1 y2 y3))
 | 0 => fun _ _ _ _ r h => by simp [strongroomref05_Cut.l0] at h
 | k + 1 => by
  have ih0 := strongroomref05_Cut.mono_l k
  ·intro y0 y1 y2 y3
   unfold strongroomref05_Cut.l0
   repeat' first
   | (with_reducible exact ih0 _ _ _ _)
   | (with_reducible exact LeO.refl _)
   | (with_reducible exact LeO.none _)
   | (with_reducible refine LeO.ite ?_ ?_)
   | (with_reducible refine LeO.bind ?_ (fun _ => ?_))
   | exact ih0 _ _ _ _
   | exact LeO.none _
   | refine LeO.ite ?_ ?_
   | refine LeO.bind ?_ (fun _ => ?_)
theorem strongroomref05_Cut.mono : ∀ a0 k, LeO (strongroomref05_Cut.f k a0) (strongroomref05_Cut.f (k + 1) a0) := by
 intro a0 k
 have ih0 := strongroomref05_Cut.mono_l k
 unfold strongroomref05_Cut.f
 repeat' first
   | (with_reducible exact ih0 _ _ _ _)
   | (with_reducible exact LeO.refl _)
   | (with_reducible exact LeO.none _)
   | (with_reducible refine LeO.ite ?_ ?_)
   | (with_reducible refine LeO.bind ?_ (fun _ => ?_))
   | exact ih0 _ _ _ _
   | exact LeO.none _
   | refine LeO.ite ?_ ?_
   | refine LeO.bind ?_ (fun _ => ?_)
set_option maxHeartbeats 8000000 in
set_option maxRecDepth 100000 in
theorem strongroomref05_Cut.calls (k : Nat) (a0 : ByteArray) (r : List ByteArray) (w : World) (h : strongroomref05_Cut.f k a0 = some r) :
  Calls Tryd.prog 71 #[.string a0] w fun e w' => ∃ v0_ : Value, e = .returned (v0_) ∧ Kd.R Kd.string 9 w' w.heap.size (fun _ => True) v0_ r ∧ Below w.heap.size w w' := by
 have HB := Aside0.mk (Below.refl w.heap.size w)
 have H : (strongroomref05_Cut.l0 k a0 ([] : List ByteArray) 0 0) = some r := h
 clear h
 have H' := Aside0.mk H
 clear H
 go_enter Tryd.func71, Tryd.ntmps71
 go_wp2
 go_loopg [3, 4, 5] k (fun kq v3 v4 v5 w' => ∃ (x3_1 : List ByteArray) (x4_1 : Int) (x5_1 : Int), v4 = .int .i64 x4_1 ∧ v5 = .int .i64 x5_1 ∧ Aside0 (strongroomref05_Cut.l0 kq a0 x3_1 x4_1 x5_1 = some r) ∧ Aside0 (kq ≤ k) ∧ Aside0 (Kd.R Kd.string 9 w' w.heap.size (fun _ => True) v3 x3_1) ∧ Aside0 (Below w.heap.size w w'))
 case atStart => exact ⟨(([] : List ByteArray)), (0), (0), m19_, m19_, H', ⟨Nat.le_refl _⟩, ⟨by first | exact Kd.R_nil _ _ _ _ _ | exact Kd.N_nil _ _ _ _ _ | exact Kd.V_nil _ _ _ _ _ | exact Kd.Q_nil _ _ _ _ _ | exact Kd.S_nil _ _ _ _ _⟩, ⟨m27_⟩⟩
 clear H'
 obtain ⟨x3_1, x4_1, x5_1, rfl, rfl, HA, HK1, HO_3, HB⟩ := hrel
 cases gk with
 | zero => exact absurd HA.out (by simp [strongroomref05_Cut.l0])
 | succ k1 =>
  have H := HA.out
  clear HA
  simp only [strongroomref05_Cut.l0] at H
  by_cases c2 : x5_1 ≤ (a0.size : Int)
  case neg =>
   rw [if_neg c2] at H
   have c2b0 : decide (x5_1 ≤ (a0.size : Int)) = false := decide_eq_false c2
   clear c2
   obtain rfl := Option.some.inj H
   go_wp2
   go_ret
   exact ⟨_, by first | rfl | (simp [errW_none, errW_some] <;> rfl) | (simp [*, errW_none, errW_some] <;> rfl), by (with_reducible repeat (first | apply Kd.R_alloc | apply Kd.R_drewN | apply Kd.R_drew)); exact HO_3.out, m27_⟩
  rw [if_pos c2] at H
  have c2b0 : decide (x5_1 ≤ (a0.size : Int)) = true := decide_eq_true c2
  clear c2
  by_cases c3 : x5_1 = (a0.size : Int)
  ·rw [if_pos c3] at H
   have c3b0 : (x5_1 == (a0.size : Int)) = true := beq_iff_eq.mpr c3
   have c3b1 : (x5_1 != (a0.size : Int)) = false := bne_eq_false_iff_eq.mpr c3
   clear c3
   by_cases c4 : 0 ≤ x4_1
   case neg =>
    rw [if_neg c4] at H
    exact absurd H (by simp)
   rw [if_pos c4] at H
   have c4b0 := eq_true c4
   have c4b1 : decide (0 ≤ x4_1) = true := decide_eq_true c4
   clear c4
   by_cases c5 : x4_1 ≤ x5_1
   case neg =>
    rw [if_neg c5] at H
    exact absurd H (by simp)
   rw [if_pos c5] at H
   have c5b0 := eq_true c5
   have c5b1 : decide (x4_1 ≤ x5_1) = true := decide_eq_true c5
   clear c5
   have c6b0 := eq_true (of_decide_eq_true m18_ : x5_1 ≤ (a0.size : Int))
   by_cases c7 : x3_1.length < 8796093022208
   case neg =>
    rw [if_neg c7] at H
    exact absurd H (by simp)
   rw [if_pos c7] at H
   have LMc7 := Aside0.mk c7
   clear c7
   obtain ⟨y177, hy177⟩ : ∃ y_ : List ByteArray, y_ = (x3_1 ++ [a0.extract (x4_1 : Int).toNat (x5_1 : Int).toNat]) := ⟨_, rfl⟩
   replace H : (strongroomref05_Cut.l0 k1 a0 y177 (wrap64 (x5_1 + 1)) (wrap64 (x5_1 + 1))) = some r := by first | (rw [hy177]; with_reducible exact H) | (have H2_ := (Option.bind_some _ _).symm.trans H; rw [hy177]; with_reducible exact H2_) | (have H2_ := (Option.bind_some _ _).symm.trans H; with_reducible exact H2_) | with_reducible exact H | (rw [hy177]; exact H) | exact H
   have Ny177 := Aside0.mk hy177
   clear hy177
   have H' := Aside0.mk H
   clear H
   go_wp2_with (first | ((with_reducible refine gate_builtin (b := .append) (xs := #[.tmp 22, .tmp 27]) rfl ?_); at_builtin; refine Kd.R_append Kd.string (w0 := w) w.heap.size rfl (.tmp 22) (.tmp 27) 32 9 (.string ⟨#[]⟩) 16 rfl Tryd.underlying32 info9 rfl (by decide) (by omega) u3 x3_1 (a0.extract (x4_1 : Int).toNat (x5_1 : Int).toNat) [.string (a0.extract (x4_1 : Int).toNat (x5_1 : Int).toNat)] (fun _ => True) (fun _ => False) rfl rfl ?aP (fun _ hk => hk.elim) ?aF ?aO ?aB ?aS ?aL ?_; (case aP => exact rfl); (case aB => exact m7_); (case aF => exact (fun _ _ => trivial)); (case aO => exact (by (with_reducible repeat (first | apply Kd.R_alloc | apply Kd.R_drewN | apply Kd.R_drew)); exact HO_3.out)); (case aS => exact (below_size m7_)); (case aL => have := LMc7.out; omega); intro v178 w8 ho hb hg hat; rw [← Ny177.out] at ho; have n0_ := Aside0.mk (hb); have n1_ := Aside0.mk (ho); clear HB; clear HO_3; have HB := n0_; have HO179 := n1_; clear n0_ n1_; clear ho hb hg hat))
   go_roundg k1
   case measure => have := HK1.out; omega
   case rel => exact ⟨(y177), (wrap64 (x5_1 + 1)), (wrap64 (x5_1 + 1)), m19_, m19_, H', ⟨by have := HK1.out; omega⟩, ⟨by (with_reducible repeat (first | apply Kd.R_alloc | apply Kd.R_drewN | apply Kd.R_drew)); exact HO179.out⟩, ⟨m27_⟩⟩
  rw [if_neg c3] at H
  have c3b0 : (x5_1 == (a0.size : Int)) = false := beq_eq_false_iff_ne.mpr c3
  have c3b1 : (x5_1 != (a0.size : Int)) = true := bne_iff_ne.mpr c3
  by_cases c9 : 0 ≤ x5_1
  case neg =>
   rw [if_neg c9] at H
   exact absurd H (by simp)
  rw [if_pos c9] at H
  have c9b0 : decide (0 ≤ x5_1) = true := decide_eq_true c9
  clear c9
  by_cases c10 : x5_1 < (a0.size : Int)
  case neg =>
   rw [if_neg c10] at H
   exact absurd H (by simp)
  rw [if_pos c10] at H
  have c10b0 : decide (x5_1 < (a0.size : Int)) = true := decide_eq_true c10
  clear c10
  by_cases c12 : (bt a0 x5_1) = 47
  case neg =>
   rw [if_neg c12] at H
   have c12b0 : ((bt a0 x5_1) == 47) = false := beq_eq_false_iff_ne.mpr c12
   have c12b1 : ((bt a0 x5_1) != 47) = true := bne_iff_ne.mpr c12
   have H' := Aside0.mk H
   clear H
   have p11 : 0 ≤ (x5_1 : Int) := of_decide_eq_true m18_
   have q11 : x5_1 < (a0.size : Int) := of_decide_eq_true m18_
   have hx11 := bt_at a0 x5_1
   replace p11 := eq_true p11
   replace q11 := eq_true q11
   go_wp2
   go_roundg k1
   case measure => have := HK1.out; omega
   case rel => exact ⟨(x3_1), (x4_1), (wrap64 (x5_1 + 1)), m19_, m19_, H', ⟨by have := HK1.out; omega⟩, ⟨by (with_reducible repeat (first | apply Kd.R_alloc | apply Kd.R_drewN | apply Kd.R_drew)); exact HO_3.out⟩, ⟨m27_⟩⟩
  rw [if_pos c12] at H
  have c12b0 : ((bt a0 x5_1) == 47) = true := beq_iff_eq.mpr c12
  have c12b1 : ((bt a0 x5_1) != 47) = false := bne_eq_false_iff_eq.mpr c12
  clear c12
  by_cases c13 : 0 ≤ x4_1
  case neg =>
   rw [if_neg c13] at H
   exact absurd H (by simp)
  rw [if_pos c13] at H
  have c13b0 := eq_true c13
  have c13b1 : decide (0 ≤ x4_1) = true := decide_eq_true c13
  clear c13
  by_cases c14 : x4_1 ≤ x5_1
  case neg =>
   rw [if_neg c14] at H
   exact absurd H (by simp)
  rw [if_pos c14] at H
  have c14b0 := eq_true c14
  have c14b1 : decide (x4_1 ≤ x5_1) = true := decide_eq_true c14
  clear c14
  have c15b0 := eq_true (of_decide_eq_true m18_ : x5_1 ≤ (a0.size : Int))
  by_cases c16 : x3_1.length < 8796093022208
  case neg =>
   rw [if_neg c16] at H
   exact absurd H (by simp)
  rw [if_pos c16] at H
  have LMc16 := Aside0.mk c16
  clear c16
  obtain ⟨y180, hy180⟩ : ∃ y_ : List ByteArray, y_ = (x3_1 ++ [a0.extract (x4_1 : Int).toNat (x5_1 : Int).toNat]) := ⟨_, rfl⟩
  replace H : (strongroomref05_Cut.l0 k1 a0 y180 (wrap64 (x5_1 + 1)) (wrap64 (x5_1 + 1))) = some r := by first | (rw [hy180]; with_reducible exact H) | (have H2_ := (Option.bind_some _ _).symm.trans H; rw [hy180]; with_reducible exact H2_) | (have H2_ := (Option.bind_some _ _).symm.trans H; with_reducible exact H2_) | with_reducible exact H | (rw [hy180]; exact H) | exact H
  have Ny180 := Aside0.mk hy180
  clear hy180
  have H' := Aside0.mk H
  clear H
  have p11 : 0 ≤ (x5_1 : Int) := of_decide_eq_true m18_
  have q11 : x5_1 < (a0.size : Int) := of_decide_eq_true m18_
  have hx11 := bt_at a0 x5_1
  replace p11 := eq_true p11
  replace q11 := eq_true q11
  go_wp2_with (first | ((with_reducible refine gate_builtin (b := .append) (xs := #[.tmp 22, .tmp 27]) rfl ?_); at_builtin; refine Kd.R_append Kd.string (w0 := w) w.heap.size rfl (.tmp 22) (.tmp 27) 32 9 (.string ⟨#[]⟩) 16 rfl Tryd.underlying32 info9 rfl (by decide) (by omega) u3 x3_1 (a0.extract (x4_1 : Int).toNat (x5_1 : Int).toNat) [.string (a0.extract (x4_1 : Int).toNat (x5_1 : Int).toNat)] (fun _ => True) (fun _ => False) rfl rfl ?aP (fun _ hk => hk.elim) ?aF ?aO ?aB ?aS ?aL ?_; (case aP => exact rfl); (case aB => exact m7_); (case aF => exact (fun _ _ => trivial)); (case aO => exact (by (with_reducible repeat (first | apply Kd.R_alloc | apply Kd.R_drewN | apply Kd.R_drew)); exact HO_3.out)); (case aS => exact (below_size m7_)); (case aL => have := LMc16.out; omega); intro v181 w17 ho hb hg hat; rw [← Ny180.out] at ho; have n0_ := Aside0.mk (hb); have n1_ := Aside0.mk (ho); clear HB; clear HO_3; have HB := n0_; have HO182 := n1_; clear n0_ n1_; clear ho hb hg hat))
  go_roundg k1
  case measure => have := HK1.out; omega
  case rel => exact ⟨(y180), (wrap64 (x5_1 + 1)), (wrap64 (x5_1 + 1)), m19_, m19_, H', ⟨by have := HK1.out; omega⟩, ⟨by (with_reducible repeat (first | apply Kd.R_alloc | apply Kd.R_drewN | apply Kd.R_drew)); exact HO182.out⟩, ⟨m27_⟩⟩

end Go.Proofs.YtdeggemomajhcaaDoorH.HMerkleApplies
