-- PRINTED by print.py (a twelfth state) out of the translation. Not trusted: Lean checks it.
import Derived.Test.YtdeggemomajhcaaDoorHMerkleShowsx0
import Derived.Test.YtdeggemomajhcaaDoorHMerkleShowsx2
import Derived.Test.YtdeggemomajhcaaDoorHMerkleShowsx4
import Derived.Test.YtdeggemomajhcaaDoorHMerkleShowsx5
import Derived.Test.YtdeggemomajhcaaDoorHMerkleShowsx7
import Derived.Test.YtdeggemomajhcaaDoorHMerkleShowsx8
import Derived.Test.YtdeggemomajhcaaDoorHMerkleShowsx10
import Derived.Test.YtdeggemomajhcaaDoorHMerkleShowsx11
namespace Go.Proofs.YtdeggemomajhcaaDoorH.HMerkleShows
open Go.RowKit Go.Proofs.YtdeggemomajhcaaDoorW.PrintWords Go.Proofs.YtdeggemomajhcaaDoorW.PrintLast Go.Proofs.YtdeggemomajhcaaDoorW.PrintMore
attribute [local go_sem] max2_int min2_int max_two min_two max_three min_three max_four min_four   -- for this text's walks alone
set_option linter.unusedVariables false
set_option linter.unusedSimpArgs false

/-! ### strongroomlaw20_MerkleShows: function 6 -/
mutual
def strongroomlaw20_MerkleShows.j0 : Nat → List (S39) → Bool → ByteArray → ByteArray → Option (Bool)
 | 0, _, _, _, _ => none
 | k + 1, x0, x29, x277000, x277001 => if x29 = true then ((strongroomlaw20_lives.f k).bind fun t283 => (some t283)) else ((strongroomlaw20_mine.f k x0).bind fun t284 => ((merkle_Digest.f k t284).bind fun t287 => (strongroomlaw20_MerkleShows.l0 k t284 t287 0 x277000 x277001 x277000 x277001)))
def strongroomlaw20_MerkleShows.l0 : Nat → List (S44) → ByteArray → Int → ByteArray → ByteArray → ByteArray → ByteArray → Option (Bool)
 | 0, _, _, _, _, _, _, _ => none
 | k + 1, x5, x6, x8, x277000, x277001, x289000, x289001 => if x8 < (x5.length : Int) then ((merkle_Prove.f k x5 x8).bind fun bt290 => (if bt290.2 = 0 then (if 0 ≤ x8 then ((merkle_Verify.f k x6 (x5.length : Int) x8 ((rd_T44 x5 x8).f0) ((rd_T44 x5 x8).f1) bt290.1).bind fun t295 => (if t295 = true then ((strongroomref20_Length.f k (x5.length : Int) x8).bind fun t296 => (strongroomlaw20_MerkleShows.j2 k x5 x6 x8 bt290.1 ((bt290.1.length : Int) != t296) x277000 x277001 x289000 x289001)) else (strongroomlaw20_MerkleShows.j2 k x5 x6 x8 bt290.1 true x277000 x277001 x289000 x289001))) else (none)) else (strongroomlaw20_MerkleShows.j2 k x5 x6 x8 bt290.1 true x277000 x277001 x289000 x289001))) else ((strongroomlaw20_lives.f k).bind fun t289 => (some t289))
def strongroomlaw20_MerkleShows.j2 : Nat → List (S44) → ByteArray → Int → List ByteArray → Bool → ByteArray → ByteArray → ByteArray → ByteArray → Option (Bool)
 | 0, _, _, _, _, _, _, _, _, _ => none
 | k + 1, x5, x6, x8, x9, x75, x277000, x277001, x289000, x289001 => if x75 = true then (some false) else ((strongroomref20_Good.f k x277000 x277001).bind fun t297 => (if t297 = true then ((merkle_Verify.f k x6 (x5.length : Int) x8 x289000 x289001 x9).bind fun t298 => (strongroomlaw20_MerkleShows.j3 k x5 x6 x8 x9 (!t298) x277000 x277001 x289000 x289001)) else (strongroomlaw20_MerkleShows.j3 k x5 x6 x8 x9 true x277000 x277001 x289000 x289001)))
def strongroomlaw20_MerkleShows.j3 : Nat → List (S44) → ByteArray → Int → List ByteArray → Bool → ByteArray → ByteArray → ByteArray → ByteArray → Option (Bool)
 | 0, _, _, _, _, _, _, _, _, _ => none
 | k + 1, x5, x6, x8, x9, x88, x277000, x277001, x289000, x289001 => if x88 = true then (strongroomlaw20_MerkleShows.l0 k x5 x6 (wrap64 (x8 + 1)) x277000 x277001 x289000 x289001) else (if 0 ≤ x8 then (if x8 < (x5.length : Int) then ((merkle_Digest.f k (([(⟨(rd_T44 x5 x8).f0, (rd_T44 x5 x8).f1⟩ : S44)] : List (S44)))).bind fun t303 => ((merkle_Digest.f k (([(⟨x289000, x289001⟩ : S44)] : List (S44)))).bind fun t307 => ((strongroomlaw20_climb.f k (x5.length : Int) x8 t303 t307 x9).bind fun bt308 => (if t303.toList = t307.toList then (strongroomlaw20_MerkleShows.l0 k x5 x6 (wrap64 (x8 + 1)) x277000 x277001 x289000 x289001) else (if bt308.2.2 = true then (strongroomlaw20_MerkleShows.l0 k x5 x6 (wrap64 (x8 + 1)) x277000 x277001 x289000 x289001) else (some false)))))) else (none)) else (none))
end
def strongroomlaw20_MerkleShows.f (k : Nat) (l0 : List (S39)) (a1_0 : ByteArray) (a1_1 : ByteArray) : Option (Bool) := (strongroomlaw20_small.f k l0).bind fun t277 => (if t277 = true then ((strongroomlaw20_list.f k l0).bind fun t278 => (if t278 = true then ((strongroomlaw20_small.f k (([(⟨a1_0, a1_1⟩ : S39)] : List (S39)))).bind fun t282 => (strongroomlaw20_MerkleShows.j0 k l0 (!t282) a1_0 a1_1)) else (strongroomlaw20_MerkleShows.j0 k l0 true a1_0 a1_1))) else (strongroomlaw20_MerkleShows.j0 k l0 true a1_0 a1_1))
theorem strongroomlaw20_MerkleShows.mono_l : ∀ k, (∀ y0 y1 y2 y3, LeO (strongroomlaw20_MerkleShows.j0 k y0 y1 y2 y3) (strongroomlaw20_MerkleShows.j0 (k + 1) y0 y1 y2 y3)) ∧ (∀ y0 y1 y2 y3 y4 y5 y6, LeO (strongroomlaw20_MerkleShows.l0 k y0 y1 y2 y3 y4 y5 y6) (strongroomlaw20_MerkleShows.l0 (k + 1) y0 y1 y2 y3 y4 y5 y6)) ∧ (∀ y0 y1 y2 y3 y4 y5 y6 y7 y8, LeO (strongroomlaw20_MerkleShows.j2 k y0 y1 y2 y3 y4 y5 y6 y7 y8) (strongroomlaw20_MerkleShows.j2 (k + 1) y0 y1 y2 y3 y4 y5 y6 y7 y8)) ∧ (∀ y0 y1 y2 y3 y4 y5 y6 y7 y8, LeO (strongroomlaw20_MerkleShows.j3 k y0 y1 y2 y3 y4 y5 y6 y7 y8) (strongroomlaw20_MerkleShows.j3 (k + 1) y0 y1 y2 y3 y4 y5 y6 y7 y8))
 | 0 => ⟨fun _ _ _ _ r h => by simp [strongroomlaw20_MerkleShows.j0] at h, fun _ _ _ _ _ _ _ r h => by simp [strongroomlaw20_MerkleShows.l0] at h, fun _ _ _ _ _ _ _ _ _ r h => by simp [strongroomlaw20_MerkleShows.j2] at h, fun _ _ _ _ _ _ _ _ _ r h => by simp [strongroomlaw20_MerkleShows.j3] at h⟩
 | k + 1 => by
  obtain ⟨ih0, ih1, ih2, ih3⟩ := strongroomlaw20_MerkleShows.mono_l k
  refine ⟨?_, ?_, ?_, ?_⟩
  ·intro y0 y1 y2 y3
   unfold strongroomlaw20_MerkleShows.j0
   repeat' first
   | (with_reducible exact ih0 _ _ _ _)
   | (with_reducible exact ih1 _ _ _ _ _ _ _)
   | (with_reducible exact ih2 _ _ _ _ _ _ _ _ _)
   | (with_reducible exact ih3 _ _ _ _ _ _ _ _ _)
   | (with_reducible exact merkle_Digest.mono _ _)
   | (with_reducible exact merkle_Prove.mono _ _ _)
   | (with_reducible exact merkle_Verify.mono _ _ _ _ _ _ _)
   | (with_reducible exact strongroomlaw20_climb.mono _ _ _ _ _ _)
   | (with_reducible exact strongroomlaw20_list.mono _ _)
   | (with_reducible exact strongroomlaw20_lives.mono _)
   | (with_reducible exact strongroomlaw20_mine.mono _ _)
   | (with_reducible exact strongroomlaw20_small.mono _ _)
   | (with_reducible exact strongroomref20_Good.mono _ _ _)
   | (with_reducible exact strongroomref20_Length.mono _ _ _)
   | (with_reducible exact LeO.refl _)
   | (with_reducible exact LeO.none _)
   | (with_reducible refine LeO.ite ?_ ?_)
   | (with_reducible refine LeO.bind ?_ (fun _ => ?_))
   | exact ih0 _ _ _ _
   | exact ih1 _ _ _ _ _ _ _
   | exact ih2 _ _ _ _ _ _ _ _ _
   | exact ih3 _ _ _ _ _ _ _ _ _
   | exact merkle_Digest.mono _ _
   | exact merkle_Prove.mono _ _ _
   | exact merkle_Verify.mono _ _ _ _ _ _ _
   | exact strongroomlaw20_climb.mono _ _ _ _ _ _
   | exact strongroomlaw20_list.mono _ _
   | exact strongroomlaw20_lives.mono _
   | exact strongroomlaw20_mine.mono _ _
   | exact strongroomlaw20_small.mono _ _
   | exact strongroomref20_Good.mono _ _ _
   | exact strongroomref20_Length.mono _ _ _
   | exact LeO.none _
   | refine LeO.ite ?_ ?_
   | refine LeO.bind ?_ (fun _ => ?_)
  ·intro y0 y1 y2 y3 y4 y5 y6
   unfold strongroomlaw20_MerkleShows.l0
   repeat' first
   | (with_reducible exact ih0 _ _ _ _)
   | (with_reducible exact ih1 _ _ _ _ _ _ _)
   | (with_reducible exact ih2 _ _ _ _ _ _ _ _ _)
   | (with_reducible exact ih3 _ _ _ _ _ _ _ _ _)
   | (with_reducible exact merkle_Digest.mono _ _)
   | (with_reducible exact merkle_Prove.mono _ _ _)
   | (with_reducible exact merkle_Verify.mono _ _ _ _ _ _ _)
   | (with_reducible exact strongroomlaw20_climb.mono _ _ _ _ _ _)
   | (with_reducible exact strongroomlaw20_list.mono _ _)
   | (with_reducible exact strongroomlaw20_lives.mono _)
   | (with_reducible exact strongroomlaw20_mine.mono _ _)
   | (with_reducible exact strongroomlaw20_small.mono _ _)
   | (with_reducible exact strongroomref20_Good.mono _ _ _)
   | (with_reducible exact strongroomref20_Length.mono _ _ _)
   | (with_reducible exact LeO.refl _)
   | (with_reducible exact LeO.none _)
   | (with_reducible refine LeO.ite ?_ ?_)
   | (with_reducible refine LeO.bind ?_ (fun _ => ?_))
   | exact ih0 _ _ _ _
   | exact ih1 _ _ _ _ _ _ _
   | exact ih2 _ _ _ _ _ _ _ _ _
   | exact ih3 _ _ _ _ _ _ _ _ _
   | exact merkle_Digest.mono _ _
   | exact merkle_Prove.mono _ _ _
   | exact merkle_Verify.mono _ _ _ _ _ _ _
   | exact strongroomlaw20_climb.mono _ _ _ _ _ _
   | exact strongroomlaw20_list.mono _ _
   | exact strongroomlaw20_lives.mono _
   | exact strongroomlaw20_mine.mono _ _
   | exact strongroomlaw20_small.mono _ _
   | exact strongroomref20_Good.mono _ _ _
   | exact strongroomref20_Length.mono _ _ _
   | exact LeO.none _
   | refine LeO.ite ?_ ?_
   | refine LeO.bind ?_ (fun _ => ?_)
  ·intro y0 y1 y2 y3 y4 y5 y6 y7 y8
   unfold strongroomlaw20_MerkleShows.j2
   repeat' first
   | (with_reducible exact ih0 _ _ _ _)
   | (with_reducible exact ih1 _ _ _ _ _ _ _)
   | (with_reducible exact ih2 _ _ _ _ _ _ _ _ _)
   | (with_reducible exact ih3 _ _ _ _ _ _ _ _ _)
   | (with_reducible exact merkle_Digest.mono _ _)
   | (with_reducible exact merkle_Prove.mono _ _ _)
   | (with_reducible exact merkle_Verify.mono _ _ _ _ _ _ _)
   | (with_reducible exact strongroomlaw20_climb.mono _ _ _ _ _ _)
   | (with_reducible exact strongroomlaw20_list.mono _ _)
   | (with_reducible exact strongroomlaw20_lives.mono _)
   | (with_reducible exact strongroomlaw20_mine.mono _ _)
   | (with_reducible exact strongroomlaw20_small.mono _ _)
   | (with_reducible exact strongroomref20_Good.mono _ _ _)
   | (with_reducible exact strongroomref20_Length.mono _ _ _)
   | (with_reducible exact LeO.refl _)
   | (with_reducible exact LeO.none _)
   | (with_reducible refine LeO.ite ?_ ?_)
   | (with_reducible refine LeO.bind ?_ (fun _ => ?_))
   | exact ih0 _ _ _ _
   | exact ih1 _ _ _ _ _ _ _
   | exact ih2 _ _ _ _ _ _ _ _ _
   | exact ih3 _ _ _ _ _ _ _ _ _
   | exact merkle_Digest.mono _ _
   | exact merkle_Prove.mono _ _ _
   | exact merkle_Verify.mono _ _ _ _ _ _ _
   | exact strongroomlaw20_climb.mono _ _ _ _ _ _
   | exact strongroomlaw20_list.mono _ _
   | exact strongroomlaw20_lives.mono _
   | exact strongroomlaw20_mine.mono _ _
   | exact strongroomlaw20_small.mono _ _
   | exact strongroomref20_Good.mono _ _ _
   | exact strongroomref20_Length.mono _ _ _
   | exact LeO.none _
   | refine LeO.ite ?_ ?_
   | refine LeO.bind ?_ (fun _ => ?_)
  ·intro y0 y1 y2 y3 y4 y5 y6 y7 y8
   unfold strongroomlaw20_MerkleShows.j3
   repeat' first
   | (with_reducible exact ih0 _ _ _ _)
   | (with_reducible exact ih1 _ _ _ _ _ _ _)
   | (with_reducible exact ih2 _ _ _ _ _ _ _ _ _)
   | (with_reducible exact ih3 _ _ _ _ _ _ _ _ _)
   | (with_reducible exact merkle_Digest.mono _ _)
   | (with_reducible exact merkle_Prove.mono _ _ _)
   | (with_reducible exact merkle_Verify.mono _ _ _ _ _ _ _)
   | (with_reducible exact strongroomlaw20_climb.mono _ _ _ _ _ _)
   | (with_reducible exact strongroomlaw20_list.mono _ _)
   | (with_reducible exact strongroomlaw20_lives.mono _)
   | (with_reducible exact strongroomlaw20_mine.mono _ _)
   | (with_reducible exact strongroomlaw20_small.mono _ _)
   | (with_reducible exact strongroomref20_Good.mono _ _ _)
   | (with_reducible exact strongroomref20_Length.mono _ _ _)
   | (with_reducible exact LeO.refl _)
   | (with_reducible exact LeO.none _)
   | (with_reducible refine LeO.ite ?_ ?_)
   | (with_reducible refine LeO.bind ?_ (fun _ => ?_))
   | exact ih0 _ _ _ _
   | exact ih1 _ _ _ _ _ _ _
   | exact ih2 _ _ _ _ _ _ _ _ _
   | exact ih3 _ _ _ _ _ _ _ _ _
   | exact merkle_Digest.mono _ _
   | exact merkle_Prove.mono _ _ _
   | exact merkle_Verify.mono _ _ _ _ _ _ _
   | exact strongroomlaw20_climb.mono _ _ _ _ _ _
   | exact strongroomlaw20_list.mono _ _
   | exact strongroomlaw20_lives.mono _
   | exact strongroomlaw20_mine.mono _ _
   | exact strongroomlaw20_small.mono _ _
   | exact strongroomref20_Good.mono _ _ _
   | exact strongroomref20_Length.mono _ _ _
   | exact LeO.none _
   | refine LeO.ite ?_ ?_
   | refine LeO.bind ?_ (fun _ => ?_)
theorem strongroomlaw20_MerkleShows.mono : ∀ a0 a1 a2 k, LeO (strongroomlaw20_MerkleShows.f k a0 a1 a2) (strongroomlaw20_MerkleShows.f (k + 1) a0 a1 a2) := by
 intro a0 a1 a2 k
 obtain ⟨ih0, ih1, ih2, ih3⟩ := strongroomlaw20_MerkleShows.mono_l k
 unfold strongroomlaw20_MerkleShows.f
 repeat' first
   | (with_reducible exact ih0 _ _ _ _)
   | (with_reducible exact ih1 _ _ _ _ _ _ _)
   | (with_reducible exact ih2 _ _ _ _ _ _ _ _ _)
   | (with_reducible exact ih3 _ _ _ _ _ _ _ _ _)
   | (with_reducible exact merkle_Digest.mono _ _)
   | (with_reducible exact merkle_Prove.mono _ _ _)
   | (with_reducible exact merkle_Verify.mono _ _ _ _ _ _ _)
   | (with_reducible exact strongroomlaw20_climb.mono _ _ _ _ _ _)
   | (with_reducible exact strongroomlaw20_list.mono _ _)
   | (with_reducible exact strongroomlaw20_lives.mono _)
   | (with_reducible exact strongroomlaw20_mine.mono _ _)
   | (with_reducible exact strongroomlaw20_small.mono _ _)
   | (with_reducible exact strongroomref20_Good.mono _ _ _)
   | (with_reducible exact strongroomref20_Length.mono _ _ _)
   | (with_reducible exact LeO.refl _)
   | (with_reducible exact LeO.none _)
   | (with_reducible refine LeO.ite ?_ ?_)
   | (with_reducible refine LeO.bind ?_ (fun _ => ?_))
   | exact ih0 _ _ _ _
   | exact ih1 _ _ _ _ _ _ _
   | exact ih2 _ _ _ _ _ _ _ _ _
   | exact ih3 _ _ _ _ _ _ _ _ _
   | exact merkle_Digest.mono _ _
   | exact merkle_Prove.mono _ _ _
   | exact merkle_Verify.mono _ _ _ _ _ _ _
   | exact strongroomlaw20_climb.mono _ _ _ _ _ _
   | exact strongroomlaw20_list.mono _ _
   | exact strongroomlaw20_lives.mono _
   | exact strongroomlaw20_mine.mono _ _
   | exact strongroomlaw20_small.mono _ _
   | exact strongroomref20_Good.mono _ _ _
   | exact strongroomref20_Length.mono _ _ _
   | exact LeO.none _
   | refine LeO.ite ?_ ?_
   | refine LeO.bind ?_ (fun _ => ?_)
def strongroomlaw20_MerkleShows.T13 : Bool × List (List Nat × List Nat) := (true, [([], []), ([], []), ([0, 1], [0, 1]), ([2], [2]), ([3], [3]), ([4], [4]), ([], []), ([6], [6]), ([7, 5], [7]), ([5, 8, 0, 1, 2, 3, 4, 5], [5]), ([8, 9, 0, 1, 2, 3, 4, 5, 6, 7, 8, 9], [8])])
def strongroomlaw20_MerkleShows.B13 : List Nat := [0, 0, 3, 7, 15, 31, 0, 64, 255, 511, 1023]
theorem strongroomlaw20_MerkleShows.tab13 : rtab .any (opsOf Tryd.f6 13) = strongroomlaw20_MerkleShows.T13 := by kernel_rfl
theorem strongroomlaw20_MerkleShows.bits13 : waitsOk strongroomlaw20_MerkleShows.T13.2 strongroomlaw20_MerkleShows.B13 = true := by kernel_rfl
set_option maxHeartbeats 8000000 in
set_option maxRecDepth 100000 in
theorem strongroomlaw20_MerkleShows.calls (k : Nat) (A0 : Option Addr) (c0 : Nat) (l0 : List (S39)) (a1_0 : ByteArray) (a1_1 : ByteArray) (r : Bool) (w : World) (hr0 : Kd.C k39 w A0 l0.length l0) (hc0 : l0.length ≤ c0) (h : strongroomlaw20_MerkleShows.f k l0 a1_0 a1_1 = some r) (hr_ : r = true) :
  Calls Tryd.prog 6 #[.slice A0 l0.length c0, .agg #[.string a1_0, .string a1_1]] w fun e w' => e = .returned (.bool r) ∧ Below w.heap.size w w' := by
 have hu39 := Tryd.underlying39
 have hu44 := Tryd.underlying44
 have HR0 := Aside0.mk hr0
 have HC0 := Aside0.mk hc0
 clear hr0 hc0
 have HB := Aside0.mk (Below.refl w.heap.size w)
 have H : ((strongroomlaw20_small.f k l0).bind fun t277 => (if t277 = true then ((strongroomlaw20_list.f k l0).bind fun t278 => (if t278 = true then ((strongroomlaw20_small.f k (([(⟨a1_0, a1_1⟩ : S39)] : List (S39)))).bind fun t282 => (strongroomlaw20_MerkleShows.j0 k l0 (!t282) a1_0 a1_1)) else (strongroomlaw20_MerkleShows.j0 k l0 true a1_0 a1_1))) else (strongroomlaw20_MerkleShows.j0 k l0 true a1_0 a1_1))) = some r := h
 clear h
 have HC3 := Aside0.mk H
 clear H
 go_enter Tryd.func6, Tryd.ntmps6
 go_upto_region 1 with (first | ((with_reducible refine gate_dst (N := 3) rfl ?_); (try (refine gate_guard (by rfl) ?_; dsimp only)); refine box_event ?hg (N := 3) ?hd (cs := #[.string a1_0, .string a1_1]) (t := 39) ?hr ?_; (case hd => rfl); (case hg => rfl); (case hr => first | (go_simp; done) | (go_simp; rfl)); intro gb276 hg w4 hbox hb; have n0_ := Aside0.mk (below_step m11_ hb); have n1_ := Aside0.mk (hbox); have n2_ := Aside0.mk ((by rw [hg]; exact (below_size m11_) : w.heap.size ≤ gb276)); have n3_ := Aside0.mk ((by rw [hg]; exact (below_size m11_) : w.heap.size ≤ gb276)); clear HB; have HB := n0_; have BK276 := n1_; have GW276 := n2_; have GE276 := n3_; clear n0_ n1_ n2_ n3_; clear hb hbox hg))
 (try simp only [Act.put, List.setIfInBounds_toArray, List.set_cons_zero, List.set_cons_succ])
 go_cut [29] (fun v29 wc => ∃ (kq : Nat) (x29_2 : Bool), v29 = .bool x29_2 ∧ Aside0 (strongroomlaw20_MerkleShows.j0 kq l0 x29_2 a1_0 a1_1 = some r) ∧ Aside0 (kq ≤ k) ∧ Aside0 (wc.heap[gb276]? = some (.cells #[.string a1_0, .string a1_1] 39 (0, 0))) ∧ Aside0 (Below w.heap.size w wc))
 case first =>
  have H := HC3.out
  clear HC3
  replace H := Option.bind_eq_some_iff.mp H
  obtain ⟨t277, A50, H⟩ := H
  replace H : (if t277 = true then ((strongroomlaw20_list.f k l0).bind fun t278 => (if t278 = true then ((strongroomlaw20_small.f k (([(⟨a1_0, a1_1⟩ : S39)] : List (S39)))).bind fun t282 => (strongroomlaw20_MerkleShows.j0 k l0 (!t282) a1_0 a1_1)) else (strongroomlaw20_MerkleShows.j0 k l0 true a1_0 a1_1))) else (strongroomlaw20_MerkleShows.j0 k l0 true a1_0 a1_1)) = some r := H
  have A5 := Aside0.mk A50
  clear A50
  by_cases c6 : t277 = true
  case neg =>
   replace c6 := Bool.eq_false_iff.mpr c6
   subst c6
   have H1 : (strongroomlaw20_MerkleShows.j0 k l0 true a1_0 a1_1) = some r := by rw [if_neg (show ¬ (false = true) by decide)] at H; exact H
   clear H
   have H := H1
   clear H1
   have H' := Aside0.mk H
   clear H
   go_wp2_with (first | ((with_reducible refine gate_callee (f := 11) rfl ?_); refine goesL_ (some 17) rfl rfl Tryd.func11 (by kernel_rfl) rfl #[.slice A0 l0.length c0] rfl m10_ ?_; (with_reducible refine (strongroomlaw20_small.calls k _ _ l0 false _ ?side1 ?side2 A5.out).mono ?_); (case side1 => exact m24_); (case side2 => exact HC0.out); rintro e w' ⟨rfl, ⟨nd, rfl⟩⟩; refine ⟨_, rfl, ?_⟩))
   go_meet
   case rel => exact ⟨_, (true), m21_, H', ⟨by first | omega | exact Nat.le_refl _⟩, ⟨by (with_reducible repeat (first | refine blk_drewN ?_ _ | refine blk_drew ?_ | refine blk_alloc ?_ _)); exact BK276.out⟩, ⟨m28_⟩⟩
  subst c6
  have H1 : ((strongroomlaw20_list.f k l0).bind fun t278 => (if t278 = true then ((strongroomlaw20_small.f k (([(⟨a1_0, a1_1⟩ : S39)] : List (S39)))).bind fun t282 => (strongroomlaw20_MerkleShows.j0 k l0 (!t282) a1_0 a1_1)) else (strongroomlaw20_MerkleShows.j0 k l0 true a1_0 a1_1))) = some r := by rw [if_pos rfl] at H; exact H
  clear H
  have H := H1
  clear H1
  replace H := Option.bind_eq_some_iff.mp H
  obtain ⟨t278, A70, H⟩ := H
  replace H : (if t278 = true then ((strongroomlaw20_small.f k (([(⟨a1_0, a1_1⟩ : S39)] : List (S39)))).bind fun t282 => (strongroomlaw20_MerkleShows.j0 k l0 (!t282) a1_0 a1_1)) else (strongroomlaw20_MerkleShows.j0 k l0 true a1_0 a1_1)) = some r := H
  have A7 := Aside0.mk A70
  clear A70
  by_cases c8 : t278 = true
  case neg =>
   replace c8 := Bool.eq_false_iff.mpr c8
   subst c8
   have H1 : (strongroomlaw20_MerkleShows.j0 k l0 true a1_0 a1_1) = some r := by rw [if_neg (show ¬ (false = true) by decide)] at H; exact H
   clear H
   have H := H1
   clear H1
   have H' := Aside0.mk H
   clear H
   go_wp2_with (first | ((with_reducible refine gate_callee (f := 11) rfl ?_); refine goesL_ (some 17) rfl rfl Tryd.func11 (by kernel_rfl) rfl #[.slice A0 l0.length c0] rfl m10_ ?_; (with_reducible refine (strongroomlaw20_small.calls k _ _ l0 true _ ?side1 ?side2 A5.out).mono ?_); (case side1 => exact m24_); (case side2 => exact HC0.out); rintro e w' ⟨rfl, ⟨nd, rfl⟩⟩; refine ⟨_, rfl, ?_⟩) | (go_at_call 17; (with_reducible refine (strongroomlaw20_list.calls k _ _ l0 false _ ?side1 ?side2 A7.out).mono ?_); (case side1 => repeat (first | exact (Kd.C_below HR0.out m4_) | (with_reducible refine Kd.C_alloc ?_ _) | (with_reducible refine Kd.C_drewN ?_ _) | (with_reducible refine Kd.C_drew ?_))); (case side2 => exact HC0.out); rintro e w15 ⟨rfl, hb⟩; have n0_ := Aside0.mk (blk_below (g := gb276) (o := .cells #[.string a1_0, .string a1_1] 39 (0, 0)) m12_ hb); have n1_ := Aside0.mk (below_step m4_ hb); clear BK276; clear HB; have BK276 := n0_; have HB := n1_; clear n0_ n1_; (try clear hb); (try clear hb2); (try clear hk); (try clear hi)))
   go_meet
   case rel => exact ⟨_, (true), m21_, H', ⟨by first | omega | exact Nat.le_refl _⟩, ⟨by (with_reducible repeat (first | refine blk_drewN ?_ _ | refine blk_drew ?_ | refine blk_alloc ?_ _)); exact BK276.out⟩, ⟨m28_⟩⟩
  subst c8
  have H1 : ((strongroomlaw20_small.f k (([(⟨a1_0, a1_1⟩ : S39)] : List (S39)))).bind fun t282 => (strongroomlaw20_MerkleShows.j0 k l0 (!t282) a1_0 a1_1)) = some r := by rw [if_pos rfl] at H; exact H
  clear H
  have H := H1
  clear H1
  obtain ⟨y279, hy279⟩ : ∃ y_ : List (S39), y_ = (([(⟨a1_0, a1_1⟩ : S39)] : List (S39))) := ⟨_, rfl⟩
  replace H : ((strongroomlaw20_small.f k y279).bind fun t282 => (strongroomlaw20_MerkleShows.j0 k l0 (!t282) a1_0 a1_1)) = some r := by first | (rw [hy279]; with_reducible exact H) | (have H2_ := (Option.bind_some _ _).symm.trans H; rw [hy279]; with_reducible exact H2_) | (have H2_ := (Option.bind_some _ _).symm.trans H; with_reducible exact H2_) | with_reducible exact H | (rw [hy279]; exact H) | exact H
  have Ny279 := Aside0.mk hy279
  clear hy279
  replace H := Option.bind_eq_some_iff.mp H
  obtain ⟨t282, A90, H⟩ := H
  replace H : (strongroomlaw20_MerkleShows.j0 k l0 (!t282) a1_0 a1_1) = some r := H
  have A9 := Aside0.mk A90
  clear A90
  have H' := Aside0.mk H
  clear H
  go_wp2_with (first | ((with_reducible refine gate_callee (f := 11) rfl ?_); refine goesL_ (some 17) rfl rfl Tryd.func11 (by kernel_rfl) rfl #[.slice A0 l0.length c0] rfl m10_ ?_; (with_reducible refine (strongroomlaw20_small.calls k _ _ l0 true _ ?side1 ?side2 A5.out).mono ?_); (case side1 => exact m24_); (case side2 => exact HC0.out); rintro e w' ⟨rfl, ⟨nd, rfl⟩⟩; refine ⟨_, rfl, ?_⟩) | (go_at_call 17; (with_reducible refine (strongroomlaw20_list.calls k _ _ l0 true _ ?side1 ?side2 A7.out).mono ?_); (case side1 => repeat (first | exact (Kd.C_below HR0.out m4_) | (with_reducible refine Kd.C_alloc ?_ _) | (with_reducible refine Kd.C_drewN ?_ _) | (with_reducible refine Kd.C_drew ?_))); (case side2 => exact HC0.out); rintro e w10 ⟨rfl, hb⟩; have n0_ := Aside0.mk (blk_below (g := gb276) (o := .cells #[.string a1_0, .string a1_1] 39 (0, 0)) m12_ hb); have n1_ := Aside0.mk (below_step m4_ hb); clear BK276; clear HB; have BK276 := n0_; have HB := n1_; clear n0_ n1_; (try clear hb); (try clear hb2); (try clear hk); (try clear hi); have hcz11_0 : w10.cell? ⟨gb276, 0, none⟩ = some (.string a1_0) := (blk_cell BK276.out 0).trans rfl; have hcz11_1 : w10.cell? ⟨gb276, 1, none⟩ = some (.string a1_1) := (blk_cell BK276.out 1).trans rfl; have hfz11_0 := blk_frozen BK276.out 0; have hfz11_1 := blk_frozen BK276.out 1) | ((with_reducible refine gate_dst (N := 26) rfl ?_); (try (refine gate_guard (by rfl) ?_; dsimp only)); refine Kd.R_lit k39 _ 39 ?hg (N := 26) ?hd (xs := ([(⟨a1_0, a1_1⟩ : S39)] : List (S39))) (inner := [.string a1_0, .string a1_1]) (ok := fun _ => True) (okp := fun _ => True) ?hr ?hp (fun _ hk => hk) trivial (Below.refl _ _) (Nat.le_refl _) (by simp) ?_; (case hd => rfl); (case hg => rfl); (case hr => first | (go_simp; done) | (go_simp; rfl)); (case hp => exact (Reps.c2 (show Kd.M k39 _ _ _ (⟨a1_0, a1_1⟩ : S39) [.string a1_0, .string a1_1] from (k39_mkM _ _ _ (⟨a1_0, a1_1⟩ : S39) )) (Reps.none _ _))); intro v280 w12 ho13 hb hg_ hnew_; clear hg_ hnew_; (first | rw [← Ny279.out] at ho13 | (simp only [Int.reduceToNat] at ho13; rw [← Ny279.out] at ho13)); have n0_ := Aside0.mk (Kd.R_lower (Kd.R_newB ho13 (g := gb276) (o := .cells #[.string a1_0, .string a1_1] 39 (0, 0)) m12_) (below_size m4_)); have n1_ := Aside0.mk (blk_below (g := gb276) (o := .cells #[.string a1_0, .string a1_1] 39 (0, 0)) m12_ hb); have n2_ := Aside0.mk (below_step m4_ hb); clear BK276; clear HB; have HO281 := n0_; have BK276 := n1_; have HB := n2_; clear n0_ n1_ n2_; clear hb ho13; obtain ⟨Ao14, co14, eo14⟩ := Kd.R_slice HO281.out; subst eo14) | (go_at_call 11; (with_reducible refine (strongroomlaw20_small.calls k _ _ y279 t282 _ ?side1 ?side2 A9.out).mono ?_); (case side1 => repeat (first | exact (Kd.R_reads' HO281.out).2.2 | (with_reducible refine Kd.C_alloc ?_ _) | (with_reducible refine Kd.C_drewN ?_ _) | (with_reducible refine Kd.C_drew ?_))); (case side2 => exact (Kd.R_reads' HO281.out).2.1); rintro e w' ⟨rfl, ⟨nd, rfl⟩⟩))
  go_meet
  case rel => exact ⟨_, (!t282), m21_, H', ⟨by first | omega | exact Nat.le_refl _⟩, ⟨by (with_reducible repeat (first | refine blk_drewN ?_ _ | refine blk_drew ?_ | refine blk_alloc ?_ _)); exact BK276.out⟩, ⟨m28_⟩⟩
 clear HC3
 try clear c1; try clear c2; try clear p2; try clear c6; try clear c8; try clear c11; try clear hcz11_0; try clear hcz11_1; try clear hfz11_0; try clear hfz11_1
 obtain ⟨kq, x29_2, rfl, HA, HJ2, BK276, HB⟩ := hcut
 cases kq with
 | zero => exact absurd HA.out (by simp [strongroomlaw20_MerkleShows.j0])
 | succ kj2 =>
  have H := HA.out
  clear HA
  simp only [strongroomlaw20_MerkleShows.j0] at H
  by_cases c16 : x29_2 = true
  ·subst c16
   have H1 : ((strongroomlaw20_lives.f kj2).bind fun t283 => (some t283)) = some r := by rw [if_pos rfl] at H; exact H
   clear H
   have H := H1
   clear H1
   replace H := Option.bind_eq_some_iff.mp H
   obtain ⟨t283, A170, H⟩ := H
   replace H : (some t283) = some r := H
   have A17 := Aside0.mk A170
   clear A170
   obtain rfl := Option.some.inj H
   go_wp2_with (first | ((with_reducible refine gate_callee (f := 12) rfl ?_); refine goesL_ (some 30) rfl rfl Tryd.func12 (by kernel_rfl) rfl #[] rfl m10_ ?_; (with_reducible refine (strongroomlaw20_lives.calls kj2  t283 _ A17.out hr_).mono ?_); rintro e w18 ⟨rfl, hb⟩; refine ⟨_, rfl, ?_⟩; have n0_ := Aside0.mk (blk_below (g := gb276) (o := .cells #[.string a1_0, .string a1_1] 39 (0, 0)) m12_ hb); have n1_ := Aside0.mk (below_step m4_ hb); clear BK276; clear HB; have BK276 := n0_; have HB := n1_; clear n0_ n1_; (try clear hb); (try clear hb2); (try clear hk); (try clear hi)))
   go_ret
   exact ⟨by first | rfl | (simp [errW_none, errW_some] <;> rfl) | (simp [*, errW_none, errW_some] <;> rfl), m28_⟩
  replace c16 := Bool.eq_false_iff.mpr c16
  subst c16
  have H1 : ((strongroomlaw20_mine.f kj2 l0).bind fun t284 => ((merkle_Digest.f kj2 t284).bind fun t287 => (strongroomlaw20_MerkleShows.l0 kj2 t284 t287 0 a1_0 a1_1 a1_0 a1_1))) = some r := by rw [if_neg (show ¬ (false = true) by decide)] at H; exact H
  clear H
  have H := H1
  clear H1
  replace H := Option.bind_eq_some_iff.mp H
  obtain ⟨t284, A190, H⟩ := H
  replace H : ((merkle_Digest.f kj2 t284).bind fun t287 => (strongroomlaw20_MerkleShows.l0 kj2 t284 t287 0 a1_0 a1_1 a1_0 a1_1)) = some r := H
  have A19 := Aside0.mk A190
  clear A190
  replace H := Option.bind_eq_some_iff.mp H
  obtain ⟨t287, A200, H⟩ := H
  replace H : (strongroomlaw20_MerkleShows.l0 kj2 t284 t287 0 a1_0 a1_1 a1_0 a1_1) = some r := H
  have A20 := Aside0.mk A200
  clear A200
  have H' := Aside0.mk H
  clear H
  go_wp2_with (first | ((with_reducible refine gate_callee (f := 14) rfl ?_); refine goesL_ (some 32) rfl rfl Tryd.func14 (by kernel_rfl) rfl #[.slice A0 l0.length c0] rfl m10_ ?_; (with_reducible refine (strongroomlaw20_mine.calls kj2 _ _ l0 t284 _ ?side1 ?side2 A19.out).mono ?_); (case side1 => exact m24_); (case side2 => exact HC0.out); rintro e w21 ⟨v285, rfl, ho0, hb⟩; refine ⟨_, rfl, ?_⟩; have n0_ := Aside0.mk (Kd.R_lower ho0 (below_size m4_)); have n1_ := Aside0.mk (blk_below (g := gb276) (o := .cells #[.string a1_0, .string a1_1] 39 (0, 0)) m12_ hb); have n2_ := Aside0.mk (below_step m4_ hb); clear BK276; clear HB; have HO286 := n0_; have BK276 := n1_; have HB := n2_; clear n0_ n1_ n2_; (try clear hb); (try clear hb2); (try clear hk); (try clear hi); (try clear ho0); obtain ⟨Ao22, co22, eo22⟩ := Kd.R_slice HO286.out; subst eo22) | ((with_reducible refine gate_callee (f := 13) rfl ?_); refine goesL_ (some 34) rfl rfl Tryd.func13 (by kernel_rfl) rfl #[.slice Ao22 t284.length co22] rfl m10_ ?_; (with_reducible refine (merkle_Digest.calls kj2 _ _ t284 t287 _ ?side1 ?side2 A20.out).mono ?_); (case side1 => repeat (first | exact (Kd.R_reads' HO286.out).2.2 | (with_reducible refine Kd.C_alloc ?_ _) | (with_reducible refine Kd.C_drewN ?_ _) | (with_reducible refine Kd.C_drew ?_))); (case side2 => exact (Kd.R_reads' HO286.out).2.1); rintro e w23 ⟨rfl, hb⟩; refine ⟨_, rfl, ?_⟩; have n0_ := Aside0.mk (Kd.R_below (by (with_reducible repeat (first | apply Kd.R_alloc | apply Kd.R_drewN | apply Kd.R_drew)); exact HO286.out) hb); have n1_ := Aside0.mk (blk_below (g := gb276) (o := .cells #[.string a1_0, .string a1_1] 39 (0, 0)) m12_ hb); have n2_ := Aside0.mk (below_step m4_ hb); clear HO286; clear BK276; clear HB; have HO286 := n0_; have BK276 := n1_; have HB := n2_; clear n0_ n1_ n2_; (try clear hb); (try clear hb2); (try clear hk); (try clear hi); have hcz24_0 : w23.cell? ⟨gb276, 0, none⟩ = some (.string a1_0) := (blk_cell BK276.out 0).trans rfl; have hcz24_1 : w23.cell? ⟨gb276, 1, none⟩ = some (.string a1_1) := (blk_cell BK276.out 1).trans rfl; have hfz24_0 := blk_frozen BK276.out 0; have hfz24_1 := blk_frozen BK276.out 1) | ((with_reducible refine gate_dst (N := 7) rfl ?_); (try (refine gate_guard (by rfl) ?_; dsimp only)); refine box_event ?hg (N := 7) ?hd (cs := #[.string (⟨#[]⟩ : ByteArray), .string (⟨#[]⟩ : ByteArray)]) (t := 44) ?hr ?_; (case hd => rfl); (case hg => rfl); (case hr => first | (go_simp; done) | (go_simp; rfl)); intro gb288 hg w25 hbox hb; have n0_ := Aside0.mk (Kd.R_below (Kd.R_elderB (by (with_reducible repeat (first | apply Kd.R_alloc | apply Kd.R_drewN | apply Kd.R_drew)); exact HO286.out) gb288 (Nat.le_of_eq hg.symm)) hb); have n1_ := Aside0.mk (blk_below (g := gb276) (o := .cells #[.string a1_0, .string a1_1] 39 (0, 0)) m12_ hb); have n2_ := Aside0.mk (below_step m4_ hb); have n3_ := Aside0.mk (hbox); have n4_ := Aside0.mk ((by rw [hg]; exact (below_size m4_) : w.heap.size ≤ gb288)); have n5_ := Aside0.mk ((by rw [hg]; exact (below_size m4_) : w.heap.size ≤ gb288)); have n6_ := Aside0.mk ((by rw [hg]; exact Nat.ne_of_lt (blk_lt (g := gb276) (o := .cells #[.string a1_0, .string a1_1] 39 (0, 0)) m12_) : gb276 ≠ gb288)); have n7_ := Aside0.mk ((by rw [hg]; exact Nat.ne_of_gt (blk_lt (g := gb276) (o := .cells #[.string a1_0, .string a1_1] 39 (0, 0)) m12_) : gb288 ≠ gb276)); clear HO286; clear BK276; clear HB; have HO286 := n0_; have BK276 := n1_; have HB := n2_; have BK288 := n3_; have GW288 := n4_; have GE288 := n5_; have NB276_288 := n6_; have NB288_276 := n7_; clear n0_ n1_ n2_ n3_ n4_ n5_ n6_ n7_; clear hb hbox hg; have hnb26 := NB288_276.out; have hnc26 := NB276_288.out; have hcz27_0 : w25.cell? ⟨gb288, 0, none⟩ = some (.string (⟨#[]⟩ : ByteArray)) := (blk_cell BK288.out 0).trans rfl; have hcz27_1 : w25.cell? ⟨gb288, 1, none⟩ = some (.string (⟨#[]⟩ : ByteArray)) := (blk_cell BK288.out 1).trans rfl; have hfz27_0 := blk_frozen BK288.out 0; have hfz27_1 := blk_frozen BK288.out 1))
  go_loopg [8] kj2 (fun kq v8 w' => ∃ (x8_2 : Int), v8 = .int .i64 x8_2 ∧ Aside0 (strongroomlaw20_MerkleShows.l0 kq t284 t287 x8_2 a1_0 a1_1 a1_0 a1_1 = some r) ∧ Aside0 (kq ≤ kj2) ∧ Aside0 (Kd.R k44 44 w' w.heap.size (fun k_ => k_ ≠ gb288) (.slice Ao22 t284.length co22) t284) ∧ Aside0 (w'.heap[gb276]? = some (.cells #[.string a1_0, .string a1_1] 39 (0, 0))) ∧ Aside0 (w'.heap[gb288]? = some (.cells #[.string a1_0, .string a1_1] 44 (0, 0))) ∧ Aside0 (Below w.heap.size w w'))
  case atStart => exact ⟨(0), m21_, H', ⟨Nat.le_refl _⟩, ⟨by (with_reducible repeat (first | apply Kd.R_alloc | apply Kd.R_drewN | apply Kd.R_drew)); exact Kd.R_mono (Kd.R_far (p := ⟨gb288, 1, none⟩) (Kd.R_far (p := ⟨gb288, 0, none⟩) (Kd.R_mono HO286.out (fun k_ hk => (⟨hk, hk.2⟩ : _ ∧ k_ ≠ gb288))) (fun _ hk => hk.2) (.string a1_0)) (fun _ hk => hk.2) (.string a1_1)) (fun _ hk => hk.1.2)⟩, ⟨by (with_reducible repeat (first | refine blk_drewN ?_ _ | refine blk_drew ?_ | refine blk_alloc ?_ _)); refine blk_far ?_ NB276_288.out _; (with_reducible repeat (first | refine blk_drewN ?_ _ | refine blk_drew ?_ | refine blk_alloc ?_ _)); refine blk_far ?_ NB276_288.out _; (with_reducible repeat (first | refine blk_drewN ?_ _ | refine blk_drew ?_ | refine blk_alloc ?_ _)); exact BK276.out⟩, ⟨by (with_reducible repeat (first | refine blk_drewN ?_ _ | refine blk_drew ?_ | refine blk_alloc ?_ _)); refine blk_put (cs := #[.string a1_0, .string (⟨#[]⟩ : ByteArray)]) ?_ 1 _ rfl; (with_reducible repeat (first | refine blk_drewN ?_ _ | refine blk_drew ?_ | refine blk_alloc ?_ _)); refine blk_put (cs := #[.string (⟨#[]⟩ : ByteArray), .string (⟨#[]⟩ : ByteArray)]) ?_ 0 _ rfl; (with_reducible repeat (first | refine blk_drewN ?_ _ | refine blk_drew ?_ | refine blk_alloc ?_ _)); exact BK288.out⟩, ⟨m23_⟩⟩
  clear H'
  try clear c1; try clear c2; try clear p2; try clear c6; try clear c8; try clear c11; try clear c12; try clear c13; try clear c14; try clear c16; try clear c26; try clear hcz11_0; try clear hcz11_1; try clear hcz24_0; try clear hcz24_1; try clear hcz27_0; try clear hcz27_1; try clear hfz11_0; try clear hfz11_1; try clear hfz24_0; try clear hfz24_1; try clear hfz27_0; try clear hfz27_1; try clear p2
  obtain ⟨x8_2, rfl, HA, HK2, HO_5, BK276, BK288, HB⟩ := hrel
  cases gk with
  | zero => exact absurd HA.out (by simp [strongroomlaw20_MerkleShows.l0])
  | succ k2 =>
   have H := HA.out
   clear HA
   simp only [strongroomlaw20_MerkleShows.l0] at H
   by_cases c28 : x8_2 < (t284.length : Int)
   case neg =>
    rw [if_neg c28] at H
    have c28b0 : decide (x8_2 < (t284.length : Int)) = false := decide_eq_false c28
    clear c28
    replace H := Option.bind_eq_some_iff.mp H
    obtain ⟨t289, A990, H⟩ := H
    replace H : (some t289) = some r := H
    have A99 := Aside0.mk A990
    clear A990
    obtain rfl := Option.some.inj H
    go_wp2_with (first | ((with_reducible refine gate_callee (f := 12) rfl ?_); refine goesL_ (some 116) rfl rfl Tryd.func12 (by kernel_rfl) rfl #[] rfl m10_ ?_; (with_reducible refine (strongroomlaw20_lives.calls k2  t289 _ A99.out hr_).mono ?_); rintro e w100 ⟨rfl, hb⟩; refine ⟨_, rfl, ?_⟩; have n0_ := Aside0.mk (Kd.R_below m18_ hb); have n1_ := Aside0.mk (blk_below (g := gb276) (o := .cells #[.string a1_0, .string a1_1] 39 (0, 0)) m12_ hb); have n2_ := Aside0.mk (blk_below (g := gb288) (o := .cells #[.string a1_0, .string a1_1] 44 (0, 0)) m13_ hb); have n3_ := Aside0.mk (below_step m1_ hb); clear HO_5; clear BK276; clear BK288; clear HB; have HO_5 := n0_; have BK276 := n1_; have BK288 := n2_; have HB := n3_; clear n0_ n1_ n2_ n3_; (try clear hb); (try clear hb2); (try clear hk); (try clear hi)))
    go_ret
    exact ⟨by first | rfl | (simp [errW_none, errW_some] <;> rfl) | (simp [*, errW_none, errW_some] <;> rfl), m23_⟩
   rw [if_pos c28] at H
   have c28b0 : decide (x8_2 < (t284.length : Int)) = true := decide_eq_true c28
   clear c28
   replace H := Option.bind_eq_some_iff.mp H
   obtain ⟨⟨t290, t291⟩, A290, H⟩ := H
   replace H : (if t291 = 0 then (if 0 ≤ x8_2 then ((merkle_Verify.f k2 t287 (t284.length : Int) x8_2 ((rd_T44 t284 x8_2).f0) ((rd_T44 t284 x8_2).f1) t290).bind fun t295 => (if t295 = true then ((strongroomref20_Length.f k2 (t284.length : Int) x8_2).bind fun t296 => (strongroomlaw20_MerkleShows.j2 k2 t284 t287 x8_2 t290 ((t290.length : Int) != t296) a1_0 a1_1 a1_0 a1_1)) else (strongroomlaw20_MerkleShows.j2 k2 t284 t287 x8_2 t290 true a1_0 a1_1 a1_0 a1_1))) else (none)) else (strongroomlaw20_MerkleShows.j2 k2 t284 t287 x8_2 t290 true a1_0 a1_1 a1_0 a1_1)) = some r := H
   have A29 := Aside0.mk A290
   clear A290
   have HC30 := Aside0.mk H
   clear H
   go_upto_region 10 with (first | ((with_reducible refine gate_callee (f := 19) rfl ?_); refine goesL_ (some 49) rfl rfl Tryd.func19 (by kernel_rfl) rfl #[.slice Ao22 t284.length co22, .int .i64 x8_2] rfl m10_ ?_; (with_reducible refine (merkle_Prove.calls k2 _ _ t284 x8_2 t290 t291 _ ?side1 ?side2 A29.out).mono ?_); (case side1 => repeat (first | exact (Kd.R_reads' HO_5.out).2.2 | (with_reducible refine Kd.C_alloc ?_ _) | (with_reducible refine Kd.C_drewN ?_ _) | (with_reducible refine Kd.C_drew ?_))); (case side2 => exact (Kd.R_reads' HO_5.out).2.1); rintro e w31 ⟨v292, rfl, ho0, hb⟩; refine ⟨_, rfl, ?_⟩; have n0_ := Aside0.mk (Kd.R_below m18_ hb); have n1_ := Aside0.mk (Kd.R_lower ho0 (below_size m1_)); have n2_ := Aside0.mk (blk_below (g := gb276) (o := .cells #[.string a1_0, .string a1_1] 39 (0, 0)) m12_ hb); have n3_ := Aside0.mk (blk_below (g := gb288) (o := .cells #[.string a1_0, .string a1_1] 44 (0, 0)) m13_ hb); have n4_ := Aside0.mk (below_step m1_ hb); clear HO_5; clear BK276; clear BK288; clear HB; have HO_5 := n0_; have HO293 := n1_; have BK276 := n2_; have BK288 := n3_; have HB := n4_; clear n0_ n1_ n2_ n3_ n4_; (try clear hb); (try clear hb2); (try clear hk); (try clear hi); (try clear ho0)))
   (try simp only [Act.put, List.setIfInBounds_toArray, List.set_cons_zero, List.set_cons_succ])
   go_cut [75] (fun v75 wc => ∃ (kq : Nat) (x75_29 : Bool), v75 = .bool x75_29 ∧ Aside0 (strongroomlaw20_MerkleShows.j2 kq t284 t287 x8_2 t290 x75_29 a1_0 a1_1 a1_0 a1_1 = some r) ∧ Aside0 (kq ≤ k2) ∧ Aside0 (Kd.R k44 44 wc w.heap.size (fun k_ => k_ ≠ gb288) (.slice Ao22 t284.length co22) t284) ∧ Aside0 (Kd.R Kd.string 9 wc w.heap.size (fun _ => True) v292 t290) ∧ Aside0 (wc.heap[gb276]? = some (.cells #[.string a1_0, .string a1_1] 39 (0, 0))) ∧ Aside0 (wc.heap[gb288]? = some (.cells #[.string a1_0, .string a1_1] 44 (0, 0))) ∧ Aside0 (Below w.heap.size w wc))
   case first =>
    have H := HC30.out
    clear HC30
    by_cases c32 : t291 = 0
    case neg =>
     rw [if_neg c32] at H
     have c32b0 : (t291 == 0) = false := beq_eq_false_iff_ne.mpr c32
     have c32b1 : (t291 != 0) = true := bne_iff_ne.mpr c32
     (first | rw [c32b0] | (simp only [i64_w, i32_w]; rw [c32b0]) | skip)
     have H' := Aside0.mk H
     clear H
     go_wp2
     go_meet
     case rel => exact ⟨_, (true), m21_, H', ⟨by have := HJ2.out; have := HK2.out; first | omega | exact Nat.le_refl _⟩, ⟨by (with_reducible repeat (first | apply Kd.R_alloc | apply Kd.R_drewN | apply Kd.R_drew)); exact HO_5.out⟩, ⟨by (with_reducible repeat (first | apply Kd.R_alloc | apply Kd.R_drewN | apply Kd.R_drew)); exact HO293.out⟩, ⟨by (with_reducible repeat (first | refine blk_drewN ?_ _ | refine blk_drew ?_ | refine blk_alloc ?_ _)); exact BK276.out⟩, ⟨by (with_reducible repeat (first | refine blk_drewN ?_ _ | refine blk_drew ?_ | refine blk_alloc ?_ _)); exact BK288.out⟩, ⟨m23_⟩⟩
    rw [if_pos c32] at H
    have c32b0 : (t291 == 0) = true := beq_iff_eq.mpr c32
    have c32b1 : (t291 != 0) = false := bne_eq_false_iff_eq.mpr c32
    clear c32
    (first | rw [c32b0] | (simp only [i64_w, i32_w]; rw [c32b0]) | skip)
    by_cases c33 : 0 ≤ x8_2
    case neg =>
     rw [if_neg c33] at H
     exact absurd H (by simp)
    rw [if_pos c33] at H
    have c33b0 : decide (0 ≤ x8_2) = true := decide_eq_true c33
    clear c33
    replace H := Option.bind_eq_some_iff.mp H
    obtain ⟨t295, A340, H⟩ := H
    replace H : (if t295 = true then ((strongroomref20_Length.f k2 (t284.length : Int) x8_2).bind fun t296 => (strongroomlaw20_MerkleShows.j2 k2 t284 t287 x8_2 t290 ((t290.length : Int) != t296) a1_0 a1_1 a1_0 a1_1)) else (strongroomlaw20_MerkleShows.j2 k2 t284 t287 x8_2 t290 true a1_0 a1_1 a1_0 a1_1)) = some r := H
    have A34 := Aside0.mk A340
    clear A340
    by_cases c35 : t295 = true
    case neg =>
     replace c35 := Bool.eq_false_iff.mpr c35
     subst c35
     have H1 : (strongroomlaw20_MerkleShows.j2 k2 t284 t287 x8_2 t290 true a1_0 a1_1 a1_0 a1_1) = some r := by rw [if_neg (show ¬ (false = true) by decide)] at H; exact H
     clear H
     have H := H1
     clear H1
     have H' := Aside0.mk H
     clear H
     have p294 : 0 ≤ (x8_2 : Int) := of_decide_eq_true m20_
     have q294 : x8_2 < (t284.length : Int) := of_decide_eq_true m20_
     obtain ⟨ad294, e294, hx294_0, hx294_1⟩ := at_T44 (Kd.R_reads' HO_5.out).2.2 x8_2 p294 q294
     cases e294
     replace p294 := eq_true p294
     replace q294 := eq_true q294
     obtain ⟨Ao39, co39, eo39⟩ := Kd.R_slice HO293.out
     subst eo39
     go_wp2_with (first | (go_at_call 23; (with_reducible refine (merkle_Verify.calls k2 t287 (t284.length : Int) x8_2 ((rd_T44 t284 x8_2).f0) ((rd_T44 t284 x8_2).f1) _ _ t290 false _ ?side1 ?side2 A34.out).mono ?_); (case side1 => repeat (first | exact (Kd.R_reads' HO293.out).2.2 | (with_reducible refine Kd.C_alloc ?_ _) | (with_reducible refine Kd.C_drewN ?_ _) | (with_reducible refine Kd.C_drew ?_))); (case side2 => exact (Kd.R_reads' HO293.out).2.1); rintro e w40 ⟨rfl, hb⟩; have n0_ := Aside0.mk (Kd.R_below m18_ hb); have n1_ := Aside0.mk (Kd.R_below (by (with_reducible repeat (first | apply Kd.R_alloc | apply Kd.R_drewN | apply Kd.R_drew)); exact HO293.out) hb); have n2_ := Aside0.mk (blk_below (g := gb276) (o := .cells #[.string a1_0, .string a1_1] 39 (0, 0)) m12_ hb); have n3_ := Aside0.mk (blk_below (g := gb288) (o := .cells #[.string a1_0, .string a1_1] 44 (0, 0)) m13_ hb); have n4_ := Aside0.mk (below_step m1_ hb); clear HO_5; clear HO293; clear BK276; clear BK288; clear HB; have HO_5 := n0_; have HO293 := n1_; have BK276 := n2_; have BK288 := n3_; have HB := n4_; clear n0_ n1_ n2_ n3_ n4_; (try clear hb); (try clear hb2); (try clear hk); (try clear hi)))
     go_meet
     case rel => exact ⟨_, (true), m21_, H', ⟨by have := HJ2.out; have := HK2.out; first | omega | exact Nat.le_refl _⟩, ⟨by (with_reducible repeat (first | apply Kd.R_alloc | apply Kd.R_drewN | apply Kd.R_drew)); exact HO_5.out⟩, ⟨by (with_reducible repeat (first | apply Kd.R_alloc | apply Kd.R_drewN | apply Kd.R_drew)); exact HO293.out⟩, ⟨by (with_reducible repeat (first | refine blk_drewN ?_ _ | refine blk_drew ?_ | refine blk_alloc ?_ _)); exact BK276.out⟩, ⟨by (with_reducible repeat (first | refine blk_drewN ?_ _ | refine blk_drew ?_ | refine blk_alloc ?_ _)); exact BK288.out⟩, ⟨m23_⟩⟩
    subst c35
    have H1 : ((strongroomref20_Length.f k2 (t284.length : Int) x8_2).bind fun t296 => (strongroomlaw20_MerkleShows.j2 k2 t284 t287 x8_2 t290 ((t290.length : Int) != t296) a1_0 a1_1 a1_0 a1_1)) = some r := by rw [if_pos rfl] at H; exact H
    clear H
    have H := H1
    clear H1
    replace H := Option.bind_eq_some_iff.mp H
    obtain ⟨t296, A360, H⟩ := H
    replace H : (strongroomlaw20_MerkleShows.j2 k2 t284 t287 x8_2 t290 ((t290.length : Int) != t296) a1_0 a1_1 a1_0 a1_1) = some r := H
    have A36 := Aside0.mk A360
    clear A360
    have H' := Aside0.mk H
    clear H
    have p294 : 0 ≤ (x8_2 : Int) := of_decide_eq_true m20_
    have q294 : x8_2 < (t284.length : Int) := of_decide_eq_true m20_
    obtain ⟨ad294, e294, hx294_0, hx294_1⟩ := at_T44 (Kd.R_reads' HO_5.out).2.2 x8_2 p294 q294
    cases e294
    replace p294 := eq_true p294
    replace q294 := eq_true q294
    obtain ⟨Ao37, co37, eo37⟩ := Kd.R_slice HO293.out
    subst eo37
    go_wp2_with (first | (go_at_call 23; (with_reducible refine (merkle_Verify.calls k2 t287 (t284.length : Int) x8_2 ((rd_T44 t284 x8_2).f0) ((rd_T44 t284 x8_2).f1) _ _ t290 true _ ?side1 ?side2 A34.out).mono ?_); (case side1 => repeat (first | exact (Kd.R_reads' HO293.out).2.2 | (with_reducible refine Kd.C_alloc ?_ _) | (with_reducible refine Kd.C_drewN ?_ _) | (with_reducible refine Kd.C_drew ?_))); (case side2 => exact (Kd.R_reads' HO293.out).2.1); rintro e w38 ⟨rfl, hb⟩; have n0_ := Aside0.mk (Kd.R_below m18_ hb); have n1_ := Aside0.mk (Kd.R_below (by (with_reducible repeat (first | apply Kd.R_alloc | apply Kd.R_drewN | apply Kd.R_drew)); exact HO293.out) hb); have n2_ := Aside0.mk (blk_below (g := gb276) (o := .cells #[.string a1_0, .string a1_1] 39 (0, 0)) m12_ hb); have n3_ := Aside0.mk (blk_below (g := gb288) (o := .cells #[.string a1_0, .string a1_1] 44 (0, 0)) m13_ hb); have n4_ := Aside0.mk (below_step m1_ hb); clear HO_5; clear HO293; clear BK276; clear BK288; clear HB; have HO_5 := n0_; have HO293 := n1_; have BK276 := n2_; have BK288 := n3_; have HB := n4_; clear n0_ n1_ n2_ n3_ n4_; (try clear hb); (try clear hb2); (try clear hk); (try clear hi)) | (go_at_call 25; (with_reducible refine (strongroomref20_Length.calls k2 (t284.length : Int) x8_2 t296 _ A36.out).mono ?_); rintro e w' ⟨rfl, ⟨nd, rfl⟩⟩))
    go_meet
    case rel => exact ⟨_, (((t290.length : Int) != t296)), m21_, H', ⟨by have := HJ2.out; have := HK2.out; first | omega | exact Nat.le_refl _⟩, ⟨by (with_reducible repeat (first | apply Kd.R_alloc | apply Kd.R_drewN | apply Kd.R_drew)); exact HO_5.out⟩, ⟨by (with_reducible repeat (first | apply Kd.R_alloc | apply Kd.R_drewN | apply Kd.R_drew)); exact HO293.out⟩, ⟨by (with_reducible repeat (first | refine blk_drewN ?_ _ | refine blk_drew ?_ | refine blk_alloc ?_ _)); exact BK276.out⟩, ⟨by (with_reducible repeat (first | refine blk_drewN ?_ _ | refine blk_drew ?_ | refine blk_alloc ?_ _)); exact BK288.out⟩, ⟨m23_⟩⟩
   clear HC30
   try clear c1; try clear c2; try clear p2; try clear q2; try clear hx2; try clear c3; try clear c6; try clear c8; try clear c11; try clear c12; try clear c13; try clear c14; try clear c16; try clear c19; try clear c26; try clear c28; try clear c28b0; try clear p29; try clear q29; try clear hx29; try clear c32; try clear c32b0; try clear c32b1; try clear c33; try clear c33b0; try clear c35; try clear hcz11_0; try clear hcz11_1; try clear hcz24_0; try clear hcz24_1; try clear hcz27_0; try clear hcz27_1; try clear hfz11_0; try clear hfz11_1; try clear hfz24_0; try clear hfz24_1; try clear hfz27_0; try clear hfz27_1; try clear hx294_0; try clear hx294_1; try clear p2; try clear p294; try clear q294
   obtain ⟨kq, x75_29, rfl, HA, HJ29, HO_5, HO_9, BK276, BK288, HB⟩ := hcut
   cases kq with
   | zero => exact absurd HA.out (by simp [strongroomlaw20_MerkleShows.j2])
   | succ kj29 =>
    have H := HA.out
    clear HA
    simp only [strongroomlaw20_MerkleShows.j2] at H
    by_cases c41 : x75_29 = true
    ·subst c41
     have H1 : (some false) = some r := by rw [if_pos rfl] at H; exact H
     clear H
     have H := H1
     clear H1
     exact absurd ((Option.some.inj H).trans hr_) (by decide)
    replace c41 := Bool.eq_false_iff.mpr c41
    subst c41
    have H1 : ((strongroomref20_Good.f kj29 a1_0 a1_1).bind fun t297 => (if t297 = true then ((merkle_Verify.f kj29 t287 (t284.length : Int) x8_2 a1_0 a1_1 t290).bind fun t298 => (strongroomlaw20_MerkleShows.j3 kj29 t284 t287 x8_2 t290 (!t298) a1_0 a1_1 a1_0 a1_1)) else (strongroomlaw20_MerkleShows.j3 kj29 t284 t287 x8_2 t290 true a1_0 a1_1 a1_0 a1_1))) = some r := by rw [if_neg (show ¬ (false = true) by decide)] at H; exact H
    clear H
    have H := H1
    clear H1
    have HC42 := Aside0.mk H
    clear H
    go_upto_region 12 with (fail)
    go_cut [88] (fun v88 wc => ∃ (kq : Nat) (x88_41 : Bool), v88 = .bool x88_41 ∧ Aside0 (strongroomlaw20_MerkleShows.j3 kq t284 t287 x8_2 t290 x88_41 a1_0 a1_1 a1_0 a1_1 = some r) ∧ Aside0 (kq ≤ kj29) ∧ Aside0 (Kd.R k44 44 wc w.heap.size (fun k_ => k_ ≠ gb288) (.slice Ao22 t284.length co22) t284) ∧ Aside0 (Kd.R Kd.string 9 wc w.heap.size (fun _ => True) v292 t290) ∧ Aside0 (wc.heap[gb276]? = some (.cells #[.string a1_0, .string a1_1] 39 (0, 0))) ∧ Aside0 (wc.heap[gb288]? = some (.cells #[.string a1_0, .string a1_1] 44 (0, 0))) ∧ Aside0 (Below w.heap.size w wc))
    case first =>
     have H := HC42.out
     clear HC42
     replace H := Option.bind_eq_some_iff.mp H
     obtain ⟨t297, A430, H⟩ := H
     replace H : (if t297 = true then ((merkle_Verify.f kj29 t287 (t284.length : Int) x8_2 a1_0 a1_1 t290).bind fun t298 => (strongroomlaw20_MerkleShows.j3 kj29 t284 t287 x8_2 t290 (!t298) a1_0 a1_1 a1_0 a1_1)) else (strongroomlaw20_MerkleShows.j3 kj29 t284 t287 x8_2 t290 true a1_0 a1_1 a1_0 a1_1)) = some r := H
     have A43 := Aside0.mk A430
     clear A430
     by_cases c44 : t297 = true
     case neg =>
      replace c44 := Bool.eq_false_iff.mpr c44
      subst c44
      have H1 : (strongroomlaw20_MerkleShows.j3 kj29 t284 t287 x8_2 t290 true a1_0 a1_1 a1_0 a1_1) = some r := by rw [if_neg (show ¬ (false = true) by decide)] at H; exact H
      clear H
      have H := H1
      clear H1
      have H' := Aside0.mk H
      clear H
      have hnb52 := NB276_288.out
      have hnc52 := NB288_276.out
      have hcz53_0 : wc.cell? ⟨gb276, 0, none⟩ = some (.string a1_0) := (blk_cell BK276.out 0).trans rfl
      have hcz53_1 : wc.cell? ⟨gb276, 1, none⟩ = some (.string a1_1) := (blk_cell BK276.out 1).trans rfl
      have hfz53_0 := blk_frozen BK276.out 0
      have hfz53_1 := blk_frozen BK276.out 1
      go_wp2_with (first | ((with_reducible refine gate_callee (f := 26) rfl ?_); refine goesL_ (some 77) rfl rfl Tryd.func26 (by kernel_rfl) rfl #[.agg #[.string a1_0, .string a1_1]] rfl m10_ ?_; (with_reducible refine (strongroomref20_Good.calls kj29 a1_0 a1_1 false _ A43.out).mono ?_); rintro e w54 ⟨rfl, hb⟩; refine ⟨_, rfl, ?_⟩; have n0_ := Aside0.mk (Kd.R_below m18_ hb); have n1_ := Aside0.mk (Kd.R_below m19_ hb); have n2_ := Aside0.mk (blk_below (g := gb276) (o := .cells #[.string a1_0, .string a1_1] 39 (0, 0)) m12_ hb); have n3_ := Aside0.mk (blk_below (g := gb288) (o := .cells #[.string a1_0, .string a1_1] 44 (0, 0)) m13_ hb); have n4_ := Aside0.mk (below_step m1_ hb); clear HO_5; clear HO_9; clear BK276; clear BK288; clear HB; have HO_5 := n0_; have HO_9 := n1_; have BK276 := n2_; have BK288 := n3_; have HB := n4_; clear n0_ n1_ n2_ n3_ n4_; (try clear hb); (try clear hb2); (try clear hk); (try clear hi)))
      go_meet
      case rel => exact ⟨_, (true), m21_, H', ⟨by have := HJ2.out; have := HK2.out; have := HJ29.out; first | omega | exact Nat.le_refl _⟩, ⟨by (with_reducible repeat (first | apply Kd.R_alloc | apply Kd.R_drewN | apply Kd.R_drew)); exact HO_5.out⟩, ⟨by (with_reducible repeat (first | apply Kd.R_alloc | apply Kd.R_drewN | apply Kd.R_drew)); exact HO_9.out⟩, ⟨by (with_reducible repeat (first | refine blk_drewN ?_ _ | refine blk_drew ?_ | refine blk_alloc ?_ _)); exact BK276.out⟩, ⟨by (with_reducible repeat (first | refine blk_drewN ?_ _ | refine blk_drew ?_ | refine blk_alloc ?_ _)); exact BK288.out⟩, ⟨m23_⟩⟩
     subst c44
     have H1 : ((merkle_Verify.f kj29 t287 (t284.length : Int) x8_2 a1_0 a1_1 t290).bind fun t298 => (strongroomlaw20_MerkleShows.j3 kj29 t284 t287 x8_2 t290 (!t298) a1_0 a1_1 a1_0 a1_1)) = some r := by rw [if_pos rfl] at H; exact H
     clear H
     have H := H1
     clear H1
     replace H := Option.bind_eq_some_iff.mp H
     obtain ⟨t298, A450, H⟩ := H
     replace H : (strongroomlaw20_MerkleShows.j3 kj29 t284 t287 x8_2 t290 (!t298) a1_0 a1_1 a1_0 a1_1) = some r := H
     have A45 := Aside0.mk A450
     clear A450
     have H' := Aside0.mk H
     clear H
     have hnb46 := NB276_288.out
     have hnc46 := NB288_276.out
     have hcz47_0 : wc.cell? ⟨gb276, 0, none⟩ = some (.string a1_0) := (blk_cell BK276.out 0).trans rfl
     have hcz47_1 : wc.cell? ⟨gb276, 1, none⟩ = some (.string a1_1) := (blk_cell BK276.out 1).trans rfl
     have hfz47_0 := blk_frozen BK276.out 0
     have hfz47_1 := blk_frozen BK276.out 1
     go_wp2_with (first | ((with_reducible refine gate_callee (f := 26) rfl ?_); refine goesL_ (some 77) rfl rfl Tryd.func26 (by kernel_rfl) rfl #[.agg #[.string a1_0, .string a1_1]] rfl m10_ ?_; (with_reducible refine (strongroomref20_Good.calls kj29 a1_0 a1_1 true _ A43.out).mono ?_); rintro e w48 ⟨rfl, hb⟩; refine ⟨_, rfl, ?_⟩; have n0_ := Aside0.mk (Kd.R_below m18_ hb); have n1_ := Aside0.mk (Kd.R_below m19_ hb); have n2_ := Aside0.mk (blk_below (g := gb276) (o := .cells #[.string a1_0, .string a1_1] 39 (0, 0)) m12_ hb); have n3_ := Aside0.mk (blk_below (g := gb288) (o := .cells #[.string a1_0, .string a1_1] 44 (0, 0)) m13_ hb); have n4_ := Aside0.mk (below_step m1_ hb); clear HO_5; clear HO_9; clear BK276; clear BK288; clear HB; have HO_5 := n0_; have HO_9 := n1_; have BK276 := n2_; have BK288 := n3_; have HB := n4_; clear n0_ n1_ n2_ n3_ n4_; (try clear hb); (try clear hb2); (try clear hk); (try clear hi); have hcz49_0 : w48.cell? ⟨gb288, 0, none⟩ = some (.string a1_0) := (blk_cell BK288.out 0).trans rfl; have hcz49_1 : w48.cell? ⟨gb288, 1, none⟩ = some (.string a1_1) := (blk_cell BK288.out 1).trans rfl; have hfz49_0 := blk_frozen BK288.out 0; have hfz49_1 := blk_frozen BK288.out 1; obtain ⟨Ao50, co50, eo50⟩ := Kd.R_slice HO_9.out; subst eo50) | (go_at_call 23; (with_reducible refine (merkle_Verify.calls kj29 t287 (t284.length : Int) x8_2 a1_0 a1_1 _ _ t290 t298 _ ?side1 ?side2 A45.out).mono ?_); (case side1 => exact m25_); (case side2 => exact (Kd.R_reads' HO_9.out).2.1); rintro e w51 ⟨rfl, hb⟩; have n0_ := Aside0.mk (Kd.R_below m18_ hb); have n1_ := Aside0.mk (Kd.R_below m19_ hb); have n2_ := Aside0.mk (blk_below (g := gb276) (o := .cells #[.string a1_0, .string a1_1] 39 (0, 0)) m12_ hb); have n3_ := Aside0.mk (blk_below (g := gb288) (o := .cells #[.string a1_0, .string a1_1] 44 (0, 0)) m13_ hb); have n4_ := Aside0.mk (below_step m1_ hb); clear HO_5; clear HO_9; clear BK276; clear BK288; clear HB; have HO_5 := n0_; have HO_9 := n1_; have BK276 := n2_; have BK288 := n3_; have HB := n4_; clear n0_ n1_ n2_ n3_ n4_; (try clear hb); (try clear hb2); (try clear hk); (try clear hi)))
     go_meet
     case rel => exact ⟨_, (!t298), m21_, H', ⟨by have := HJ2.out; have := HK2.out; have := HJ29.out; first | omega | exact Nat.le_refl _⟩, ⟨by (with_reducible repeat (first | apply Kd.R_alloc | apply Kd.R_drewN | apply Kd.R_drew)); exact HO_5.out⟩, ⟨by (with_reducible repeat (first | apply Kd.R_alloc | apply Kd.R_drewN | apply Kd.R_drew)); exact HO_9.out⟩, ⟨by (with_reducible repeat (first | refine blk_drewN ?_ _ | refine blk_drew ?_ | refine blk_alloc ?_ _)); exact BK276.out⟩, ⟨by (with_reducible repeat (first | refine blk_drewN ?_ _ | refine blk_drew ?_ | refine blk_alloc ?_ _)); exact BK288.out⟩, ⟨m23_⟩⟩
    clear HC42
    try clear c1; try clear c2; try clear p2; try clear q2; try clear hx2; try clear c3; try clear c4; try clear c5; try clear c6; try clear c8; try clear c11; try clear c12; try clear c13; try clear c14; try clear c16; try clear c19; try clear c26; try clear c28; try clear c28b0; try clear p29; try clear q29; try clear hx29; try clear c32; try clear c32b0; try clear c32b1; try clear c33; try clear c33b0; try clear c35; try clear c41; try clear c44; try clear c46; try clear c52; try clear hcz11_0; try clear hcz11_1; try clear hcz24_0; try clear hcz24_1; try clear hcz27_0; try clear hcz27_1; try clear hcz47_0; try clear hcz47_1; try clear hcz49_0; try clear hcz49_1; try clear hcz53_0; try clear hcz53_1; try clear hfz11_0; try clear hfz11_1; try clear hfz24_0; try clear hfz24_1; try clear hfz27_0; try clear hfz27_1; try clear hfz47_0; try clear hfz47_1; try clear hfz49_0; try clear hfz49_1; try clear hfz53_0; try clear hfz53_1; try clear hx294_0; try clear hx294_1; try clear p2; try clear p29; try clear p294; try clear q2; try clear q29; try clear q294
    obtain ⟨kq, x88_41, rfl, HA, HJ41, HO_5, HO_9, BK276, BK288, HB⟩ := hcut
    cases kq with
    | zero => exact absurd HA.out (by simp [strongroomlaw20_MerkleShows.j3])
    | succ kj41 =>
     have H := HA.out
     clear HA
     simp only [strongroomlaw20_MerkleShows.j3] at H
     by_cases c55 : x88_41 = true
     ·subst c55
      have H1 : (strongroomlaw20_MerkleShows.l0 kj41 t284 t287 (wrap64 (x8_2 + 1)) a1_0 a1_1 a1_0 a1_1) = some r := by rw [if_pos rfl] at H; exact H
      clear H
      have H := H1
      clear H1
      have H' := Aside0.mk H
      clear H
      go_wp2
      go_roundg kj41
      case measure => have := HJ2.out; have := HK2.out; have := HJ29.out; have := HJ41.out; omega
      case rel => exact ⟨(wrap64 (x8_2 + 1)), m21_, H', ⟨by have := HJ2.out; have := HK2.out; have := HJ29.out; have := HJ41.out; omega⟩, ⟨by (with_reducible repeat (first | apply Kd.R_alloc | apply Kd.R_drewN | apply Kd.R_drew)); exact HO_5.out⟩, ⟨by (with_reducible repeat (first | refine blk_drewN ?_ _ | refine blk_drew ?_ | refine blk_alloc ?_ _)); exact BK276.out⟩, ⟨by (with_reducible repeat (first | refine blk_drewN ?_ _ | refine blk_drew ?_ | refine blk_alloc ?_ _)); exact BK288.out⟩, ⟨m23_⟩⟩
     replace c55 := Bool.eq_false_iff.mpr c55
     subst c55
     have H1 : (if 0 ≤ x8_2 then (if x8_2 < (t284.length : Int) then ((merkle_Digest.f kj41 (([(⟨(rd_T44 t284 x8_2).f0, (rd_T44 t284 x8_2).f1⟩ : S44)] : List (S44)))).bind fun t303 => ((merkle_Digest.f kj41 (([(⟨a1_0, a1_1⟩ : S44)] : List (S44)))).bind fun t307 => ((strongroomlaw20_climb.f kj41 (t284.length : Int) x8_2 t303 t307 t290).bind fun bt308 => (if t303.toList = t307.toList then (strongroomlaw20_MerkleShows.l0 kj41 t284 t287 (wrap64 (x8_2 + 1)) a1_0 a1_1 a1_0 a1_1) else (if bt308.2.2 = true then (strongroomlaw20_MerkleShows.l0 kj41 t284 t287 (wrap64 (x8_2 + 1)) a1_0 a1_1 a1_0 a1_1) else (some false)))))) else (none)) else (none)) = some r := by rw [if_neg (show ¬ (false = true) by decide)] at H; exact H
     clear H
     have H := H1
     clear H1
     by_cases c56 : 0 ≤ x8_2
     case neg =>
      rw [if_neg c56] at H
      exact absurd H (by simp)
     rw [if_pos c56] at H
     have c56b0 : decide (0 ≤ x8_2) = true := decide_eq_true c56
     clear c56
     by_cases c57 : x8_2 < (t284.length : Int)
     case neg =>
      rw [if_neg c57] at H
      exact absurd H (by simp)
     rw [if_pos c57] at H
     have c57b0 : decide (x8_2 < (t284.length : Int)) = true := decide_eq_true c57
     clear c57
     obtain ⟨y300, hy300⟩ : ∃ y_ : List (S44), y_ = (([(⟨(rd_T44 t284 x8_2).f0, (rd_T44 t284 x8_2).f1⟩ : S44)] : List (S44))) := ⟨_, rfl⟩
     replace H : ((merkle_Digest.f kj41 y300).bind fun t303 => ((merkle_Digest.f kj41 (([(⟨a1_0, a1_1⟩ : S44)] : List (S44)))).bind fun t307 => ((strongroomlaw20_climb.f kj41 (t284.length : Int) x8_2 t303 t307 t290).bind fun bt308 => (if t303.toList = t307.toList then (strongroomlaw20_MerkleShows.l0 kj41 t284 t287 (wrap64 (x8_2 + 1)) a1_0 a1_1 a1_0 a1_1) else (if bt308.2.2 = true then (strongroomlaw20_MerkleShows.l0 kj41 t284 t287 (wrap64 (x8_2 + 1)) a1_0 a1_1 a1_0 a1_1) else (some false)))))) = some r := by first | (rw [hy300]; with_reducible exact H) | (have H2_ := (Option.bind_some _ _).symm.trans H; rw [hy300]; with_reducible exact H2_) | (have H2_ := (Option.bind_some _ _).symm.trans H; with_reducible exact H2_) | with_reducible exact H | (rw [hy300]; exact H) | exact H
     have Ny300 := Aside0.mk hy300
     clear hy300
     replace H := Option.bind_eq_some_iff.mp H
     obtain ⟨t303, A580, H⟩ := H
     replace H : ((merkle_Digest.f kj41 (([(⟨a1_0, a1_1⟩ : S44)] : List (S44)))).bind fun t307 => ((strongroomlaw20_climb.f kj41 (t284.length : Int) x8_2 t303 t307 t290).bind fun bt308 => (if t303.toList = t307.toList then (strongroomlaw20_MerkleShows.l0 kj41 t284 t287 (wrap64 (x8_2 + 1)) a1_0 a1_1 a1_0 a1_1) else (if bt308.2.2 = true then (strongroomlaw20_MerkleShows.l0 kj41 t284 t287 (wrap64 (x8_2 + 1)) a1_0 a1_1 a1_0 a1_1) else (some false))))) = some r := H
     have A58 := Aside0.mk A580
     clear A580
     obtain ⟨y304, hy304⟩ : ∃ y_ : List (S44), y_ = (([(⟨a1_0, a1_1⟩ : S44)] : List (S44))) := ⟨_, rfl⟩
     replace H : ((merkle_Digest.f kj41 y304).bind fun t307 => ((strongroomlaw20_climb.f kj41 (t284.length : Int) x8_2 t303 t307 t290).bind fun bt308 => (if t303.toList = t307.toList then (strongroomlaw20_MerkleShows.l0 kj41 t284 t287 (wrap64 (x8_2 + 1)) a1_0 a1_1 a1_0 a1_1) else (if bt308.2.2 = true then (strongroomlaw20_MerkleShows.l0 kj41 t284 t287 (wrap64 (x8_2 + 1)) a1_0 a1_1 a1_0 a1_1) else (some false))))) = some r := by first | (rw [hy304]; with_reducible exact H) | (have H2_ := (Option.bind_some _ _).symm.trans H; rw [hy304]; with_reducible exact H2_) | (have H2_ := (Option.bind_some _ _).symm.trans H; with_reducible exact H2_) | with_reducible exact H | (rw [hy304]; exact H) | exact H
     have Ny304 := Aside0.mk hy304
     clear hy304
     replace H := Option.bind_eq_some_iff.mp H
     obtain ⟨t307, A590, H⟩ := H
     replace H : ((strongroomlaw20_climb.f kj41 (t284.length : Int) x8_2 t303 t307 t290).bind fun bt308 => (if t303.toList = t307.toList then (strongroomlaw20_MerkleShows.l0 kj41 t284 t287 (wrap64 (x8_2 + 1)) a1_0 a1_1 a1_0 a1_1) else (if bt308.2.2 = true then (strongroomlaw20_MerkleShows.l0 kj41 t284 t287 (wrap64 (x8_2 + 1)) a1_0 a1_1 a1_0 a1_1) else (some false)))) = some r := H
     have A59 := Aside0.mk A590
     clear A590
     replace H := Option.bind_eq_some_iff.mp H
     obtain ⟨⟨t308, t309, t310⟩, A600, H⟩ := H
     replace H : (if t303.toList = t307.toList then (strongroomlaw20_MerkleShows.l0 kj41 t284 t287 (wrap64 (x8_2 + 1)) a1_0 a1_1 a1_0 a1_1) else (if t310 = true then (strongroomlaw20_MerkleShows.l0 kj41 t284 t287 (wrap64 (x8_2 + 1)) a1_0 a1_1 a1_0 a1_1) else (some false))) = some r := H
     have A60 := Aside0.mk A600
     clear A600
     by_cases c61 : t303.toList = t307.toList
     ·rw [if_pos c61] at H
      have c61b0 : (t303.toList == t307.toList) = true := beq_iff_eq.mpr c61
      have c61b1 : (t303.toList != t307.toList) = false := bne_eq_false_iff_eq.mpr c61
      clear c61
      have H' := Aside0.mk H
      clear H
      try go_wp2
      have n0_ := Aside0.mk (Kd.R_drew HO_5.out)
      have n1_ := Aside0.mk (Kd.R_drew HO_9.out)
      have n2_ := Aside0.mk (blk_drew BK276.out)
      have n3_ := Aside0.mk (blk_drew BK288.out)
      have n4_ := Aside0.mk (below_drew1 HB.out)
      clear HO_5 HO_9 BK276 BK288 HB
      have HO_5 := n0_
      have HO_9 := n1_
      have BK276 := n2_
      have BK288 := n3_
      have HB := n4_
      clear n0_ n1_ n2_ n3_ n4_
      have p299 : 0 ≤ (x8_2 : Int) := of_decide_eq_true m20_
      have q299 : x8_2 < (t284.length : Int) := of_decide_eq_true m20_
      obtain ⟨ad299, e299, hx299_0, hx299_1⟩ := at_T44 (Kd.R_reads' HO_5.out).2.2 x8_2 p299 q299
      cases e299
      replace p299 := eq_true p299
      replace q299 := eq_true q299
      refine start_ (n := 11) (S := fun w' => True) (ds := []) (Ra_ [0, 11]) (by kernel_rfl) rfl rfl trivial (fun hHeld => ?_); refine with_tabW strongroomlaw20_MerkleShows.tab13 strongroomlaw20_MerkleShows.bits13 (fun HT_ HW_ => ?_)
      generalize wc.drew = w62 at HO_5 HO_9 BK276 BK288 HB hx299_0 hx299_1 hHeld ⊢
      refine pure_ (i := 0) (N := some 89) (v := ?_) (a' := ?_) (Ra_ [1, 10]) rfl rfl (any_of HT_.out (by kernel_rfl)) (fun _ _ _ h => h) (Or.inl ⟨by rfl, ?_⟩) ?_ ?_
      rotate_left
      ·intro w'
       go_simp
       with_reducible rfl
      rotate_left
      ·simp only [Act.put, sA_, sB_, sC_, i64_w, i32_w]
       rfl
      refine pure_ (i := 1) (N := some 90) (v := ?_) (a' := ?_) (Ra_ [2, 9]) rfl rfl (any_of HT_.out (by kernel_rfl)) (fun _ _ _ h => h) (Or.inl ⟨by rfl, ?_⟩) ?_ ?_
      rotate_left
      ·intro w'
       go_simp
       with_reducible rfl
      rotate_left
      ·simp only [Act.put, sA_, sB_, sC_, i64_w, i32_w]
       rfl
      refine inv_at [2, 3, 4, 5, 6, 7, 8, 9, 10] (fun a0_ b a w' => ∃ (v301 : Value) (v305 : Value), a = putSel a0_ b [(2, 91, .pointer (some (ad299.add ((x8_2).toNat * 2)))), (3, 92, .agg #[.string ((rd_T44 t284 x8_2).f0), .string ((rd_T44 t284 x8_2).f1)]), (4, 93, v301), (5, 94, .string t303), (6, 95, .agg #[.string a1_0, .string a1_1]), (7, 96, v305), (8, 97, .string t307), (9, 11, .string t303), (10, 12, .string t307)] ∧ (Kd.R k44 44 w' w.heap.size (fun k_ => k_ ≠ gb288) (.slice (some ad299) t284.length co22) t284) ∧ (Kd.R Kd.string 9 w' w.heap.size (fun _ => True) v292 t290) ∧ (w'.heap[gb276]? = some (.cells #[.string a1_0, .string a1_1] 39 (0, 0))) ∧ (w'.heap[gb288]? = some (.cells #[.string a1_0, .string a1_1] 44 (0, 0))) ∧ (Below w.heap.size w w') ∧ (b 4 = true → Kd.R k44 44 w' w.heap.size (fun k_ => some k_ ≠ (.slice (some ad299) t284.length co22 : Value).ownBlock ∧ k_ ≠ gb288) v301 y300) ∧ (b 7 = true → Kd.R k44 44 w' w.heap.size (fun k_ => some k_ ≠ (.slice (some ad299) t284.length co22 : Value).ownBlock ∧ k_ ≠ gb288) v305 y304)) HT_.out HW_.out (by kernel_rfl) (by kernel_rfl) ?_ ?_ ?_
      ·exact ⟨.bool false, .bool false, by simp only [putSel, Bool.false_eq_true, if_false], HO_5.out, HO_9.out, BK276.out, BK288.out, HB.out, fun h_ => absurd h_ (by decide), fun h_ => absurd h_ (by decide)⟩
      ·skip
       clear BK276 BK288 HB HO_5 HO_9
       refine steps_cons ?_ ?_
       ·rintro b a w' ⟨v301, v305, ha, Q_HO_5, Q_HO_9, Q_BK276, Q_BK288, Q_HB, Q_HO302, Q_HO306⟩ hb_ hon hoff
        refine ⟨_, rfl, fun K hK => ?_⟩
        have e89 : a.tmps[89]? = some (.slice (some ad299) t284.length co22) := by rw [ha]; exact (putSel_off rfl).trans rfl
        have e90 : a.tmps[90]? = some (.int .i64 x8_2) := by rw [ha]; exact (putSel_off rfl).trans rfl
        replace ha := Aside0.mk ha
        have HO_5 := Aside0.mk Q_HO_5
        have HO_9 := Aside0.mk Q_HO_9
        have BK276 := Aside0.mk Q_BK276
        have BK288 := Aside0.mk Q_BK288
        have HB := Aside0.mk Q_HB
        refine value_ (w1 := w') (v := .pointer (some (ad299.add ((x8_2).toNat * 2)))) (by rfl) rfl ?_ ?_
        ·go_simp
         (try simp only [i64_w])
         try rfl
        refine hK.out _ _ ⟨v301, v305, (by rw [ha.out]; exact putSel_upk 0 hb_ rfl rfl rfl), Q_HO_5, Q_HO_9, Q_BK276, Q_BK288, Q_HB, fun h0_ => absurd ((hoff 4 (by kernel_rfl)).symm.trans h0_) (by decide), Q_HO306⟩
       refine steps_cons ?_ ?_
       ·rintro b a w' ⟨v301, v305, ha, Q_HO_5, Q_HO_9, Q_BK276, Q_BK288, Q_HB, Q_HO302, Q_HO306⟩ hb_ hon hoff
        refine ⟨_, rfl, fun K hK => ?_⟩
        have e91 : a.tmps[91]? = some (.pointer (some (ad299.add ((x8_2).toNat * 2)))) := by rw [ha]; exact putSel_on (e := (2, 91, .pointer (some (ad299.add ((x8_2).toNat * 2))))) 0 rfl rfl (hon 2 (by kernel_rfl)) rfl
        replace ha := Aside0.mk ha
        have HO_5 := Aside0.mk Q_HO_5
        have HO_9 := Aside0.mk Q_HO_9
        have BK276 := Aside0.mk Q_BK276
        have BK288 := Aside0.mk Q_BK288
        have HB := Aside0.mk Q_HB
        obtain ⟨ad299_z, e299_z, hx299_0_z, hx299_1_z⟩ := at_T44 (Kd.R_reads' HO_5.out).2.2 x8_2 (of_eq_true p299) (of_eq_true q299)
        cases e299_z
        have hs0_ : w'.cell? (ad299.add ((x8_2).toNat * 2)) = some (.string ((rd_T44 t284 x8_2).f0)) := (by first | exact hx299_0_z | (have h_ := hx299_0_z; (try simp only [Int.reduceToNat, Nat.zero_mul, Nat.reduceMul, Nat.reduceEqDiff, Go.Addr.add, ↓reduceIte, Addr.add_zero'] at h_); exact h_))
        have hs1_ : w'.cell? ⟨(ad299.add ((x8_2).toNat * 2)).block, (ad299.add ((x8_2).toNat * 2)).off + 1, none⟩ = some (.string ((rd_T44 t284 x8_2).f1)) := (by first | exact hx299_1_z | (have h_ := hx299_1_z; (try simp only [Int.reduceToNat, Nat.zero_mul, Nat.reduceMul, Nat.reduceEqDiff, Go.Addr.add, ↓reduceIte, Addr.add_zero'] at h_); exact h_))
        refine value_ (w1 := w') (v := .agg #[.string ((rd_T44 t284 x8_2).f0), .string ((rd_T44 t284 x8_2).f1)]) (by rfl) rfl ?_ ?_
        ·go_simp
         (try simp only [i64_w])
         try rfl
        refine hK.out _ _ ⟨v301, v305, (by rw [ha.out]; exact putSel_upk 1 hb_ rfl rfl rfl), Q_HO_5, Q_HO_9, Q_BK276, Q_BK288, Q_HB, fun h0_ => absurd ((hoff 4 (by kernel_rfl)).symm.trans h0_) (by decide), Q_HO306⟩
       refine steps_cons ?_ ?_
       ·rintro b a w' ⟨v301, v305, ha, Q_HO_5, Q_HO_9, Q_BK276, Q_BK288, Q_HB, Q_HO302, Q_HO306⟩ hb_ hon hoff
        refine ⟨_, rfl, fun K hK => ?_⟩
        have e92 : a.tmps[92]? = some (.agg #[.string ((rd_T44 t284 x8_2).f0), .string ((rd_T44 t284 x8_2).f1)]) := by rw [ha]; exact putSel_on (e := (3, 92, .agg #[.string ((rd_T44 t284 x8_2).f0), .string ((rd_T44 t284 x8_2).f1)])) 1 rfl rfl (hon 3 (by kernel_rfl)) rfl
        replace ha := Aside0.mk ha
        have HO_5 := Aside0.mk Q_HO_5
        have HO_9 := Aside0.mk Q_HO_9
        have BK276 := Aside0.mk Q_BK276
        have BK288 := Aside0.mk Q_BK288
        have HB := Aside0.mk Q_HB
        refine Kd.R_lit_step k44 _ 44 ?hg (N := 93) ?hd (xs := ([(⟨(rd_T44 t284 x8_2).f0, (rd_T44 t284 x8_2).f1⟩ : S44)] : List (S44))) (inner := [.string ((rd_T44 t284 x8_2).f0), .string ((rd_T44 t284 x8_2).f1)]) (ok := fun _ => True) (okp := fun _ => True) ?hr ?hp (fun _ hk => hk) trivial (Below.refl _ _) (Nat.le_refl _) (by simp) ?_; (case hd => rfl); (case hg => rfl); (case hr => first | (go_simp; done) | (go_simp; rfl)); (case hp => exact (Reps.c2 (show Kd.M k44 _ _ _ (⟨(rd_T44 t284 x8_2).f0, (rd_T44 t284 x8_2).f1⟩ : S44) [.string ((rd_T44 t284 x8_2).f0), .string ((rd_T44 t284 x8_2).f1)] from (k44_mkM _ _ _ (⟨(rd_T44 t284 x8_2).f0, (rd_T44 t284 x8_2).f1⟩ : S44) )) (Reps.none _ _)))
        intro v301 w63 ho64 hb hg_ hnew_
        clear hg_ hnew_
        (first | rw [← Ny300.out] at ho64 | (simp only [Int.reduceToNat] at ho64; rw [← Ny300.out] at ho64))
        have n0_ := Aside0.mk (Kd.R_elder' m18_ (Kd.R_base ho64) hb)
        have n1_ := Aside0.mk (Kd.R_below m19_ hb)
        have n2_ := Aside0.mk (Kd.R_lower (Kd.R_newB (Kd.R_new' ho64 (Kd.R_lt m18_)) (g := gb288) (o := .cells #[.string a1_0, .string a1_1] 44 (0, 0)) m13_) (below_size m1_))
        have n3_ := Aside0.mk (blk_below (g := gb276) (o := .cells #[.string a1_0, .string a1_1] 39 (0, 0)) m12_ hb)
        have n4_ := Aside0.mk (blk_below (g := gb288) (o := .cells #[.string a1_0, .string a1_1] 44 (0, 0)) m13_ hb)
        have n5_ := Aside0.mk (below_step m1_ hb)
        have z_HO306 := fun (h0_ : b 7 = true) => (show Kd.R k44 44 w63 w.heap.size (fun k_ => some k_ ≠ (.slice (some ad299) t284.length co22 : Value).ownBlock ∧ k_ ≠ gb288) v305 y304 from by first | exact (Kd.R_elder' m15_ (Kd.R_base ho64) hb) | exact Kd.R_mono (Kd.R_elder' m15_ (Kd.R_base ho64) hb) (fun _ h_ => by first | trivial | exact h_ | exact h_.1))
        clear HO_5 HO_9 BK276 BK288 HB
        have HO_5 := n0_
        have HO_9 := n1_
        have HO302 := n2_
        have BK276 := n3_
        have BK288 := n4_
        have HB := n5_
        clear n0_ n1_ n2_ n3_ n4_ n5_ hb ho64
        refine hK.out _ _ ⟨v301, v305, (by rw [ha.out]; exact putSel_upk 2 hb_ rfl rfl rfl), m0_, m19_, m12_, m13_, m1_, fun _ => (by (with_reducible repeat (first | apply Kd.R_alloc | apply Kd.R_drewN | apply Kd.R_drew)); exact Kd.R_mono HO302.out m9_), z_HO306⟩
       refine steps_cons ?_ ?_
       ·rintro b a w' ⟨v301, v305, ha, Q_HO_5, Q_HO_9, Q_BK276, Q_BK288, Q_HB, Q_HO302, Q_HO306⟩ hb_ hon hoff
        refine ⟨_, rfl, fun K hK => ?_⟩
        have e93 : a.tmps[93]? = some (v301) := by rw [ha]; exact putSel_on (e := (4, 93, v301)) 2 rfl rfl (hon 4 (by kernel_rfl)) rfl
        replace ha := Aside0.mk ha
        have HO_5 := Aside0.mk Q_HO_5
        have HO_9 := Aside0.mk Q_HO_9
        have BK276 := Aside0.mk Q_BK276
        have BK288 := Aside0.mk Q_BK288
        have HB := Aside0.mk Q_HB
        have HO302 := Aside0.mk (Q_HO302 (hon 4 (by kernel_rfl)))
        obtain ⟨Ao66, co66, eo66⟩ := Kd.R_slice HO302.out
        (first | subst eo66 | (injection eo66 with f1_ f2_ f3_; have f4_ := f1_.symm; have f5_ := f3_.symm; clear f1_ f2_ f3_; subst f4_; subst f5_))
        refine goes_ Tryd.func13 (by kernel_rfl) rfl #[.slice Ao66 y300.length co66] (by rfl) rfl rfl (by first | (simp only [List.map_toArray, List.map_cons, List.map_nil, Act.eval, Array.getD_eq_getD_getElem?, Option.getD_some, e93]; done) | (simp only [List.map_toArray, List.map_cons, List.map_nil, Act.eval, Array.getD_eq_getD_getElem?, Option.getD_some, e93]; rfl)) ?_
        with_reducible refine (merkle_Digest.calls kj41 _ _ y300 t303 _ ?side1 ?side2 A58.out).mono ?_
        (case side1 => repeat (first | exact (Kd.R_reads' HO302.out).2.2 | (with_reducible refine Kd.C_alloc ?_ _) | (with_reducible refine Kd.C_drewN ?_ _) | (with_reducible refine Kd.C_drew ?_)))
        (case side2 => exact (Kd.R_reads' HO302.out).2.1)
        rintro e w67 ⟨rfl, hb⟩
        refine ⟨_, rfl, ?_⟩
        have n0_ := Aside0.mk (Kd.R_below m18_ hb)
        have n1_ := Aside0.mk (Kd.R_below m19_ hb)
        have n2_ := Aside0.mk (Kd.R_below m16_ hb)
        have n3_ := Aside0.mk (blk_below (g := gb276) (o := .cells #[.string a1_0, .string a1_1] 39 (0, 0)) m12_ hb)
        have n4_ := Aside0.mk (blk_below (g := gb288) (o := .cells #[.string a1_0, .string a1_1] 44 (0, 0)) m13_ hb)
        have n5_ := Aside0.mk (below_step m1_ hb)
        have z_HO306 := fun (h0_ : b 7 = true) => (show Kd.R k44 44 w67 w.heap.size (fun k_ => some k_ ≠ (.slice (some ad299) t284.length co22 : Value).ownBlock ∧ k_ ≠ gb288) v305 y304 from by first | exact (Kd.R_below m15_ hb) | exact Kd.R_mono (Kd.R_below m15_ hb) (fun _ h_ => by first | trivial | exact h_ | exact h_.1))
        clear HO_5 HO_9 HO302 BK276 BK288 HB
        have HO_5 := n0_
        have HO_9 := n1_
        have HO302 := n2_
        have BK276 := n3_
        have BK288 := n4_
        have HB := n5_
        clear n0_ n1_ n2_ n3_ n4_ n5_
        (try clear hb)
        (try clear hb2)
        (try clear hk)
        (try clear hi)
        refine hK.out _ _ ⟨.slice Ao66 y300.length co66, v305, (by rw [ha.out]; exact putSel_upk 3 hb_ rfl rfl rfl), m18_, m19_, m12_, m13_, m1_, fun _ => m16_, z_HO306⟩
       refine steps_cons ?_ ?_
       ·rintro b a w' ⟨v301, v305, ha, Q_HO_5, Q_HO_9, Q_BK276, Q_BK288, Q_HB, Q_HO302, Q_HO306⟩ hb_ hon hoff
        refine ⟨_, rfl, fun K hK => ?_⟩
        have e7 : a.tmps[7]? = some (.pointer (some ⟨gb288, 0, none⟩)) := by rw [ha]; exact (putSel_off rfl).trans rfl
        replace ha := Aside0.mk ha
        have HO_5 := Aside0.mk Q_HO_5
        have HO_9 := Aside0.mk Q_HO_9
        have BK276 := Aside0.mk Q_BK276
        have BK288 := Aside0.mk Q_BK288
        have HB := Aside0.mk Q_HB
        have hc0_ : w'.cell? ⟨gb288, 0, none⟩ = some (.string a1_0) := (blk_cell BK288.out 0).trans rfl
        have hc1_ : w'.cell? ⟨gb288, 1, none⟩ = some (.string a1_1) := (blk_cell BK288.out 1).trans rfl
        refine value_ (w1 := w') (v := .agg #[.string a1_0, .string a1_1]) (by rfl) rfl ?_ ?_
        ·go_simp
         (try simp only [i64_w])
         try rfl
        refine hK.out _ _ ⟨v301, v305, (by rw [ha.out]; exact putSel_upk 4 hb_ rfl rfl rfl), Q_HO_5, Q_HO_9, Q_BK276, Q_BK288, Q_HB, Q_HO302, fun h0_ => absurd ((hoff 7 (by kernel_rfl)).symm.trans h0_) (by decide)⟩
       refine steps_cons ?_ ?_
       ·rintro b a w' ⟨v301, v305, ha, Q_HO_5, Q_HO_9, Q_BK276, Q_BK288, Q_HB, Q_HO302, Q_HO306⟩ hb_ hon hoff
        refine ⟨_, rfl, fun K hK => ?_⟩
        have e95 : a.tmps[95]? = some (.agg #[.string a1_0, .string a1_1]) := by rw [ha]; exact putSel_on (e := (6, 95, .agg #[.string a1_0, .string a1_1])) 4 rfl rfl (hon 6 (by kernel_rfl)) rfl
        replace ha := Aside0.mk ha
        have HO_5 := Aside0.mk Q_HO_5
        have HO_9 := Aside0.mk Q_HO_9
        have BK276 := Aside0.mk Q_BK276
        have BK288 := Aside0.mk Q_BK288
        have HB := Aside0.mk Q_HB
        refine Kd.R_lit_step k44 _ 44 ?hg (N := 96) ?hd (xs := ([(⟨a1_0, a1_1⟩ : S44)] : List (S44))) (inner := [.string a1_0, .string a1_1]) (ok := fun _ => True) (okp := fun _ => True) ?hr ?hp (fun _ hk => hk) trivial (Below.refl _ _) (Nat.le_refl _) (by simp) ?_; (case hd => rfl); (case hg => rfl); (case hr => first | (go_simp; done) | (go_simp; rfl)); (case hp => exact (Reps.c2 (show Kd.M k44 _ _ _ (⟨a1_0, a1_1⟩ : S44) [.string a1_0, .string a1_1] from (k44_mkM _ _ _ (⟨a1_0, a1_1⟩ : S44) )) (Reps.none _ _)))
        intro v305 w63 ho64 hb hg_ hnew_
        clear hg_ hnew_
        (first | rw [← Ny304.out] at ho64 | (simp only [Int.reduceToNat] at ho64; rw [← Ny304.out] at ho64))
        have n0_ := Aside0.mk (Kd.R_elder' m18_ (Kd.R_base ho64) hb)
        have n1_ := Aside0.mk (Kd.R_below m19_ hb)
        have n2_ := Aside0.mk (Kd.R_lower (Kd.R_newB (Kd.R_new' ho64 (Kd.R_lt m18_)) (g := gb288) (o := .cells #[.string a1_0, .string a1_1] 44 (0, 0)) m13_) (below_size m1_))
        have n3_ := Aside0.mk (blk_below (g := gb276) (o := .cells #[.string a1_0, .string a1_1] 39 (0, 0)) m12_ hb)
        have n4_ := Aside0.mk (blk_below (g := gb288) (o := .cells #[.string a1_0, .string a1_1] 44 (0, 0)) m13_ hb)
        have n5_ := Aside0.mk (below_step m1_ hb)
        have z_HO302 := fun (h0_ : b 4 = true) => (show Kd.R k44 44 w63 w.heap.size (fun k_ => some k_ ≠ (.slice (some ad299) t284.length co22 : Value).ownBlock ∧ k_ ≠ gb288) v301 y300 from by first | exact (Kd.R_elder' (by (with_reducible repeat (first | apply Kd.R_alloc | apply Kd.R_drewN | apply Kd.R_drew)); exact (Q_HO302 h0_)) (Kd.R_base ho64) hb) | exact Kd.R_mono (Kd.R_elder' (by (with_reducible repeat (first | apply Kd.R_alloc | apply Kd.R_drewN | apply Kd.R_drew)); exact (Q_HO302 h0_)) (Kd.R_base ho64) hb) (fun _ h_ => by first | trivial | exact h_ | exact h_.1))
        clear HO_5 HO_9 BK276 BK288 HB
        have HO_5 := n0_
        have HO_9 := n1_
        have HO306 := n2_
        have BK276 := n3_
        have BK288 := n4_
        have HB := n5_
        clear n0_ n1_ n2_ n3_ n4_ n5_ hb ho64
        refine hK.out _ _ ⟨v301, v305, (by rw [ha.out]; exact putSel_upk 5 hb_ rfl rfl rfl), m0_, m19_, m12_, m13_, m1_, z_HO302, fun _ => (by (with_reducible repeat (first | apply Kd.R_alloc | apply Kd.R_drewN | apply Kd.R_drew)); exact Kd.R_mono HO306.out m9_)⟩
       refine steps_cons ?_ ?_
       ·rintro b a w' ⟨v301, v305, ha, Q_HO_5, Q_HO_9, Q_BK276, Q_BK288, Q_HB, Q_HO302, Q_HO306⟩ hb_ hon hoff
        refine ⟨_, rfl, fun K hK => ?_⟩
        have e96 : a.tmps[96]? = some (v305) := by rw [ha]; exact putSel_on (e := (7, 96, v305)) 5 rfl rfl (hon 7 (by kernel_rfl)) rfl
        replace ha := Aside0.mk ha
        have HO_5 := Aside0.mk Q_HO_5
        have HO_9 := Aside0.mk Q_HO_9
        have BK276 := Aside0.mk Q_BK276
        have BK288 := Aside0.mk Q_BK288
        have HB := Aside0.mk Q_HB
        have HO302 := Aside0.mk (Q_HO302 (hon 4 (by kernel_rfl)))
        have HO306 := Aside0.mk (Q_HO306 (hon 7 (by kernel_rfl)))
        obtain ⟨Ao70, co70, eo70⟩ := Kd.R_slice HO306.out
        (first | subst eo70 | (injection eo70 with f1_ f2_ f3_; have f4_ := f1_.symm; have f5_ := f3_.symm; clear f1_ f2_ f3_; subst f4_; subst f5_))
        refine goes_ Tryd.func13 (by kernel_rfl) rfl #[.slice Ao70 y304.length co70] (by rfl) rfl rfl (by first | (simp only [List.map_toArray, List.map_cons, List.map_nil, Act.eval, Array.getD_eq_getD_getElem?, Option.getD_some, e96]; done) | (simp only [List.map_toArray, List.map_cons, List.map_nil, Act.eval, Array.getD_eq_getD_getElem?, Option.getD_some, e96]; rfl)) ?_
        with_reducible refine (merkle_Digest.calls kj41 _ _ y304 t307 _ ?side1 ?side2 A59.out).mono ?_
        (case side1 => repeat (first | exact (Kd.R_reads' HO306.out).2.2 | (with_reducible refine Kd.C_alloc ?_ _) | (with_reducible refine Kd.C_drewN ?_ _) | (with_reducible refine Kd.C_drew ?_)))
        (case side2 => exact (Kd.R_reads' HO306.out).2.1)
        rintro e w71 ⟨rfl, hb⟩
        refine ⟨_, rfl, ?_⟩
        have n0_ := Aside0.mk (Kd.R_below m18_ hb)
        have n1_ := Aside0.mk (Kd.R_below m19_ hb)
        have n2_ := Aside0.mk (Kd.R_below m16_ hb)
        have n3_ := Aside0.mk (Kd.R_below m17_ hb)
        have n4_ := Aside0.mk (blk_below (g := gb276) (o := .cells #[.string a1_0, .string a1_1] 39 (0, 0)) m12_ hb)
        have n5_ := Aside0.mk (blk_below (g := gb288) (o := .cells #[.string a1_0, .string a1_1] 44 (0, 0)) m13_ hb)
        have n6_ := Aside0.mk (below_step m1_ hb)
        clear HO_5 HO_9 HO302 HO306 BK276 BK288 HB
        have HO_5 := n0_
        have HO_9 := n1_
        have HO302 := n2_
        have HO306 := n3_
        have BK276 := n4_
        have BK288 := n5_
        have HB := n6_
        clear n0_ n1_ n2_ n3_ n4_ n5_ n6_
        (try clear hb)
        (try clear hb2)
        (try clear hk)
        (try clear hi)
        refine hK.out _ _ ⟨v301, .slice Ao70 y304.length co70, (by rw [ha.out]; exact putSel_upk 6 hb_ rfl rfl rfl), m18_, m19_, m12_, m13_, m1_, fun _ => m16_, fun _ => m17_⟩
       refine steps_cons ?_ ?_
       ·rintro b a w' ⟨v301, v305, ha, Q_HO_5, Q_HO_9, Q_BK276, Q_BK288, Q_HB, Q_HO302, Q_HO306⟩ hb_ hon hoff
        refine ⟨_, rfl, fun K hK => ?_⟩
        have e94 : a.tmps[94]? = some (.string t303) := by rw [ha]; exact putSel_on (e := (5, 94, .string t303)) 3 rfl rfl (hon 5 (by kernel_rfl)) rfl
        replace ha := Aside0.mk ha
        have HO_5 := Aside0.mk Q_HO_5
        have HO_9 := Aside0.mk Q_HO_9
        have BK276 := Aside0.mk Q_BK276
        have BK288 := Aside0.mk Q_BK288
        have HB := Aside0.mk Q_HB
        have HO302 := Aside0.mk (Q_HO302 (hon 4 (by kernel_rfl)))
        have HO306 := Aside0.mk (Q_HO306 (hon 7 (by kernel_rfl)))
        refine value_ (w1 := w') (v := .string t303) (by rfl) rfl ?_ ?_
        ·go_simp
         (try simp only [i64_w])
         try rfl
        refine hK.out _ _ ⟨v301, v305, (by rw [ha.out]; exact putSel_upk 7 hb_ rfl rfl rfl), Q_HO_5, Q_HO_9, Q_BK276, Q_BK288, Q_HB, Q_HO302, Q_HO306⟩
       refine steps_cons ?_ ?_
       ·rintro b a w' ⟨v301, v305, ha, Q_HO_5, Q_HO_9, Q_BK276, Q_BK288, Q_HB, Q_HO302, Q_HO306⟩ hb_ hon hoff
        refine ⟨_, rfl, fun K hK => ?_⟩
        have e97 : a.tmps[97]? = some (.string t307) := by rw [ha]; exact putSel_on (e := (8, 97, .string t307)) 6 rfl rfl (hon 8 (by kernel_rfl)) rfl
        replace ha := Aside0.mk ha
        have HO_5 := Aside0.mk Q_HO_5
        have HO_9 := Aside0.mk Q_HO_9
        have BK276 := Aside0.mk Q_BK276
        have BK288 := Aside0.mk Q_BK288
        have HB := Aside0.mk Q_HB
        have HO302 := Aside0.mk (Q_HO302 (hon 4 (by kernel_rfl)))
        have HO306 := Aside0.mk (Q_HO306 (hon 7 (by kernel_rfl)))
        refine value_ (w1 := w') (v := .string t307) (by rfl) rfl ?_ ?_
        ·go_simp
         (try simp only [i64_w])
         try rfl
        refine hK.out _ _ ⟨v301, v305, (by rw [ha.out]; exact putSel_upk 8 hb_ rfl rfl rfl), Q_HO_5, Q_HO_9, Q_BK276, Q_BK288, Q_HB, Q_HO302, Q_HO306⟩
       exact steps_nil
      rintro b a w71 hall ⟨v301, v305, ha, Q_HO_5, Q_HO_9, Q_BK276, Q_BK288, Q_HB, Q_HO302, Q_HO306⟩
      clear BK276 BK288 HB HO_5 HO_9
      have hb2_ := hall 2 (by kernel_rfl)
      have hb3_ := hall 3 (by kernel_rfl)
      have hb4_ := hall 4 (by kernel_rfl)
      have hb5_ := hall 5 (by kernel_rfl)
      have hb6_ := hall 6 (by kernel_rfl)
      have hb7_ := hall 7 (by kernel_rfl)
      have hb8_ := hall 8 (by kernel_rfl)
      have hb9_ := hall 9 (by kernel_rfl)
      have hb10_ := hall 10 (by kernel_rfl)
      subst ha
      simp only [putSel, hb2_, hb3_, hb4_, hb5_, hb6_, hb7_, hb8_, hb9_, hb10_, if_true, Act.put, List.setIfInBounds_toArray, List.set_cons_zero, List.set_cons_succ]
      have HO_5 := Aside0.mk Q_HO_5
      clear Q_HO_5
      have HO_9 := Aside0.mk Q_HO_9
      clear Q_HO_9
      have BK276 := Aside0.mk Q_BK276
      clear Q_BK276
      have BK288 := Aside0.mk Q_BK288
      clear Q_BK288
      have HB := Aside0.mk Q_HB
      clear Q_HB
      have HO302 := Aside0.mk (Q_HO302 hb4_)
      clear Q_HO302
      have HO306 := Aside0.mk (Q_HO306 hb7_)
      clear Q_HO306 hall hb2_ hb3_ hb4_ hb5_ hb6_ hb7_ hb8_ hb9_ hb10_
      obtain ⟨Ao72, co72, eo72⟩ := Kd.R_slice HO_9.out
      subst eo72
      try go_wp2_with (first | ((with_reducible refine gate_callee (f := 27) rfl ?_); refine goesL_ (some 105) rfl rfl Tryd.func27 (by kernel_rfl) rfl #[.int .i64 (t284.length : Int), .int .i64 x8_2, .string t303, .string t307, .slice Ao72 t290.length co72] rfl m10_ ?_; (with_reducible refine (strongroomlaw20_climb.calls kj41 (t284.length : Int) x8_2 t303 t307 _ _ t290 t308 t309 t310 _ ?side1 ?side2 A60.out).mono ?_); (case side1 => exact m25_); (case side2 => exact (Kd.R_reads' HO_9.out).2.1); rintro e w73 ⟨rfl, hb⟩; refine ⟨_, rfl, ?_⟩; have n0_ := Aside0.mk (Kd.R_below m18_ hb); have n1_ := Aside0.mk (Kd.R_below m19_ hb); have n2_ := Aside0.mk (Kd.R_below m16_ hb); have n3_ := Aside0.mk (Kd.R_below m17_ hb); have n4_ := Aside0.mk (blk_below (g := gb276) (o := .cells #[.string a1_0, .string a1_1] 39 (0, 0)) m12_ hb); have n5_ := Aside0.mk (blk_below (g := gb288) (o := .cells #[.string a1_0, .string a1_1] 44 (0, 0)) m13_ hb); have n6_ := Aside0.mk (below_step m1_ hb); clear HO_5; clear HO_9; clear HO302; clear HO306; clear BK276; clear BK288; clear HB; have HO_5 := n0_; have HO_9 := n1_; have HO302 := n2_; have HO306 := n3_; have BK276 := n4_; have BK288 := n5_; have HB := n6_; clear n0_ n1_ n2_ n3_ n4_ n5_ n6_; (try clear hb); (try clear hb2); (try clear hk); (try clear hi)))
      go_roundg kj41
      case measure => have := HJ2.out; have := HK2.out; have := HJ29.out; have := HJ41.out; omega
      case rel => exact ⟨(wrap64 (x8_2 + 1)), m21_, H', ⟨by have := HJ2.out; have := HK2.out; have := HJ29.out; have := HJ41.out; omega⟩, ⟨by (with_reducible repeat (first | apply Kd.R_alloc | apply Kd.R_drewN | apply Kd.R_drew)); exact Kd.R_mono HO_5.out (by intro _ hk; first | exact hk.2.2 | exact hk | exact hk.1 | exact hk.2 | exact ⟨hk.1, hk.2⟩ | (simp_all; done) | (simp at hk ⊢; omega))⟩, ⟨by (with_reducible repeat (first | refine blk_drewN ?_ _ | refine blk_drew ?_ | refine blk_alloc ?_ _)); exact BK276.out⟩, ⟨by (with_reducible repeat (first | refine blk_drewN ?_ _ | refine blk_drew ?_ | refine blk_alloc ?_ _)); exact BK288.out⟩, ⟨m23_⟩⟩
     rw [if_neg c61] at H
     have c61b0 : (t303.toList == t307.toList) = false := beq_eq_false_iff_ne.mpr c61
     have c61b1 : (t303.toList != t307.toList) = true := bne_iff_ne.mpr c61
     by_cases c74 : t310 = true
     case neg =>
      replace c74 := Bool.eq_false_iff.mpr c74
      subst c74
      have H1 : (some false) = some r := by rw [if_neg (show ¬ (false = true) by decide)] at H; exact H
      clear H
      have H := H1
      clear H1
      exact absurd ((Option.some.inj H).trans hr_) (by decide)
     subst c74
     have H1 : (strongroomlaw20_MerkleShows.l0 kj41 t284 t287 (wrap64 (x8_2 + 1)) a1_0 a1_1 a1_0 a1_1) = some r := by rw [if_pos rfl] at H; exact H
     clear H
     have H := H1
     clear H1
     have H' := Aside0.mk H
     clear H
     try go_wp2
     have n0_ := Aside0.mk (Kd.R_drew HO_5.out)
     have n1_ := Aside0.mk (Kd.R_drew HO_9.out)
     have n2_ := Aside0.mk (blk_drew BK276.out)
     have n3_ := Aside0.mk (blk_drew BK288.out)
     have n4_ := Aside0.mk (below_drew1 HB.out)
     clear HO_5 HO_9 BK276 BK288 HB
     have HO_5 := n0_
     have HO_9 := n1_
     have BK276 := n2_
     have BK288 := n3_
     have HB := n4_
     clear n0_ n1_ n2_ n3_ n4_
     have p299 : 0 ≤ (x8_2 : Int) := of_decide_eq_true m20_
     have q299 : x8_2 < (t284.length : Int) := of_decide_eq_true m20_
     obtain ⟨ad299, e299, hx299_0, hx299_1⟩ := at_T44 (Kd.R_reads' HO_5.out).2.2 x8_2 p299 q299
     cases e299
     replace p299 := eq_true p299
     replace q299 := eq_true q299
     refine start_ (n := 11) (S := fun w' => True) (ds := []) (Ra_ [0, 11]) (by kernel_rfl) rfl rfl trivial (fun hHeld => ?_); refine with_tabW strongroomlaw20_MerkleShows.tab13 strongroomlaw20_MerkleShows.bits13 (fun HT_ HW_ => ?_)
     generalize wc.drew = w75 at HO_5 HO_9 BK276 BK288 HB hx299_0 hx299_1 hHeld ⊢
     refine pure_ (i := 0) (N := some 89) (v := ?_) (a' := ?_) (Ra_ [1, 10]) rfl rfl (any_of HT_.out (by kernel_rfl)) (fun _ _ _ h => h) (Or.inl ⟨by rfl, ?_⟩) ?_ ?_
     rotate_left
     ·intro w'
      go_simp
      with_reducible rfl
     rotate_left
     ·simp only [Act.put, sA_, sB_, sC_, i64_w, i32_w]
      rfl
     refine pure_ (i := 1) (N := some 90) (v := ?_) (a' := ?_) (Ra_ [2, 9]) rfl rfl (any_of HT_.out (by kernel_rfl)) (fun _ _ _ h => h) (Or.inl ⟨by rfl, ?_⟩) ?_ ?_
     rotate_left
     ·intro w'
      go_simp
      with_reducible rfl
     rotate_left
     ·simp only [Act.put, sA_, sB_, sC_, i64_w, i32_w]
      rfl
     refine inv_at [2, 3, 4, 5, 6, 7, 8, 9, 10] (fun a0_ b a w' => ∃ (v301 : Value) (v305 : Value), a = putSel a0_ b [(2, 91, .pointer (some (ad299.add ((x8_2).toNat * 2)))), (3, 92, .agg #[.string ((rd_T44 t284 x8_2).f0), .string ((rd_T44 t284 x8_2).f1)]), (4, 93, v301), (5, 94, .string t303), (6, 95, .agg #[.string a1_0, .string a1_1]), (7, 96, v305), (8, 97, .string t307), (9, 11, .string t303), (10, 12, .string t307)] ∧ (Kd.R k44 44 w' w.heap.size (fun k_ => k_ ≠ gb288) (.slice (some ad299) t284.length co22) t284) ∧ (Kd.R Kd.string 9 w' w.heap.size (fun _ => True) v292 t290) ∧ (w'.heap[gb276]? = some (.cells #[.string a1_0, .string a1_1] 39 (0, 0))) ∧ (w'.heap[gb288]? = some (.cells #[.string a1_0, .string a1_1] 44 (0, 0))) ∧ (Below w.heap.size w w') ∧ (b 4 = true → Kd.R k44 44 w' w.heap.size (fun k_ => some k_ ≠ (.slice (some ad299) t284.length co22 : Value).ownBlock ∧ k_ ≠ gb288) v301 y300) ∧ (b 7 = true → Kd.R k44 44 w' w.heap.size (fun k_ => some k_ ≠ (.slice (some ad299) t284.length co22 : Value).ownBlock ∧ k_ ≠ gb288) v305 y304)) HT_.out HW_.out (by kernel_rfl) (by kernel_rfl) ?_ ?_ ?_
     ·exact ⟨.bool false, .bool false, by simp only [putSel, Bool.false_eq_true, if_false], HO_5.out, HO_9.out, BK276.out, BK288.out, HB.out, fun h_ => absurd h_ (by decide), fun h_ => absurd h_ (by decide)⟩
     ·skip
      clear BK276 BK288 HB HO_5 HO_9
      refine steps_cons ?_ ?_
      ·rintro b a w' ⟨v301, v305, ha, Q_HO_5, Q_HO_9, Q_BK276, Q_BK288, Q_HB, Q_HO302, Q_HO306⟩ hb_ hon hoff
       refine ⟨_, rfl, fun K hK => ?_⟩
       have e89 : a.tmps[89]? = some (.slice (some ad299) t284.length co22) := by rw [ha]; exact (putSel_off rfl).trans rfl
       have e90 : a.tmps[90]? = some (.int .i64 x8_2) := by rw [ha]; exact (putSel_off rfl).trans rfl
       replace ha := Aside0.mk ha
       have HO_5 := Aside0.mk Q_HO_5
       have HO_9 := Aside0.mk Q_HO_9
       have BK276 := Aside0.mk Q_BK276
       have BK288 := Aside0.mk Q_BK288
       have HB := Aside0.mk Q_HB
       refine value_ (w1 := w') (v := .pointer (some (ad299.add ((x8_2).toNat * 2)))) (by rfl) rfl ?_ ?_
       ·go_simp
        (try simp only [i64_w])
        try rfl
       refine hK.out _ _ ⟨v301, v305, (by rw [ha.out]; exact putSel_upk 0 hb_ rfl rfl rfl), Q_HO_5, Q_HO_9, Q_BK276, Q_BK288, Q_HB, fun h0_ => absurd ((hoff 4 (by kernel_rfl)).symm.trans h0_) (by decide), Q_HO306⟩
      refine steps_cons ?_ ?_
      ·rintro b a w' ⟨v301, v305, ha, Q_HO_5, Q_HO_9, Q_BK276, Q_BK288, Q_HB, Q_HO302, Q_HO306⟩ hb_ hon hoff
       refine ⟨_, rfl, fun K hK => ?_⟩
       have e91 : a.tmps[91]? = some (.pointer (some (ad299.add ((x8_2).toNat * 2)))) := by rw [ha]; exact putSel_on (e := (2, 91, .pointer (some (ad299.add ((x8_2).toNat * 2))))) 0 rfl rfl (hon 2 (by kernel_rfl)) rfl
       replace ha := Aside0.mk ha
       have HO_5 := Aside0.mk Q_HO_5
       have HO_9 := Aside0.mk Q_HO_9
       have BK276 := Aside0.mk Q_BK276
       have BK288 := Aside0.mk Q_BK288
       have HB := Aside0.mk Q_HB
       obtain ⟨ad299_z, e299_z, hx299_0_z, hx299_1_z⟩ := at_T44 (Kd.R_reads' HO_5.out).2.2 x8_2 (of_eq_true p299) (of_eq_true q299)
       cases e299_z
       have hs0_ : w'.cell? (ad299.add ((x8_2).toNat * 2)) = some (.string ((rd_T44 t284 x8_2).f0)) := (by first | exact hx299_0_z | (have h_ := hx299_0_z; (try simp only [Int.reduceToNat, Nat.zero_mul, Nat.reduceMul, Nat.reduceEqDiff, Go.Addr.add, ↓reduceIte, Addr.add_zero'] at h_); exact h_))
       have hs1_ : w'.cell? ⟨(ad299.add ((x8_2).toNat * 2)).block, (ad299.add ((x8_2).toNat * 2)).off + 1, none⟩ = some (.string ((rd_T44 t284 x8_2).f1)) := (by first | exact hx299_1_z | (have h_ := hx299_1_z; (try simp only [Int.reduceToNat, Nat.zero_mul, Nat.reduceMul, Nat.reduceEqDiff, Go.Addr.add, ↓reduceIte, Addr.add_zero'] at h_); exact h_))
       refine value_ (w1 := w') (v := .agg #[.string ((rd_T44 t284 x8_2).f0), .string ((rd_T44 t284 x8_2).f1)]) (by rfl) rfl ?_ ?_
       ·go_simp
        (try simp only [i64_w])
        try rfl
       refine hK.out _ _ ⟨v301, v305, (by rw [ha.out]; exact putSel_upk 1 hb_ rfl rfl rfl), Q_HO_5, Q_HO_9, Q_BK276, Q_BK288, Q_HB, fun h0_ => absurd ((hoff 4 (by kernel_rfl)).symm.trans h0_) (by decide), Q_HO306⟩
      refine steps_cons ?_ ?_
      ·rintro b a w' ⟨v301, v305, ha, Q_HO_5, Q_HO_9, Q_BK276, Q_BK288, Q_HB, Q_HO302, Q_HO306⟩ hb_ hon hoff
       refine ⟨_, rfl, fun K hK => ?_⟩
       have e92 : a.tmps[92]? = some (.agg #[.string ((rd_T44 t284 x8_2).f0), .string ((rd_T44 t284 x8_2).f1)]) := by rw [ha]; exact putSel_on (e := (3, 92, .agg #[.string ((rd_T44 t284 x8_2).f0), .string ((rd_T44 t284 x8_2).f1)])) 1 rfl rfl (hon 3 (by kernel_rfl)) rfl
       replace ha := Aside0.mk ha
       have HO_5 := Aside0.mk Q_HO_5
       have HO_9 := Aside0.mk Q_HO_9
       have BK276 := Aside0.mk Q_BK276
       have BK288 := Aside0.mk Q_BK288
       have HB := Aside0.mk Q_HB
       refine Kd.R_lit_step k44 _ 44 ?hg (N := 93) ?hd (xs := ([(⟨(rd_T44 t284 x8_2).f0, (rd_T44 t284 x8_2).f1⟩ : S44)] : List (S44))) (inner := [.string ((rd_T44 t284 x8_2).f0), .string ((rd_T44 t284 x8_2).f1)]) (ok := fun _ => True) (okp := fun _ => True) ?hr ?hp (fun _ hk => hk) trivial (Below.refl _ _) (Nat.le_refl _) (by simp) ?_; (case hd => rfl); (case hg => rfl); (case hr => first | (go_simp; done) | (go_simp; rfl)); (case hp => exact (Reps.c2 (show Kd.M k44 _ _ _ (⟨(rd_T44 t284 x8_2).f0, (rd_T44 t284 x8_2).f1⟩ : S44) [.string ((rd_T44 t284 x8_2).f0), .string ((rd_T44 t284 x8_2).f1)] from (k44_mkM _ _ _ (⟨(rd_T44 t284 x8_2).f0, (rd_T44 t284 x8_2).f1⟩ : S44) )) (Reps.none _ _)))
       intro v301 w76 ho77 hb hg_ hnew_
       clear hg_ hnew_
       (first | rw [← Ny300.out] at ho77 | (simp only [Int.reduceToNat] at ho77; rw [← Ny300.out] at ho77))
       have n0_ := Aside0.mk (Kd.R_elder' m18_ (Kd.R_base ho77) hb)
       have n1_ := Aside0.mk (Kd.R_below m19_ hb)
       have n2_ := Aside0.mk (Kd.R_lower (Kd.R_newB (Kd.R_new' ho77 (Kd.R_lt m18_)) (g := gb288) (o := .cells #[.string a1_0, .string a1_1] 44 (0, 0)) m13_) (below_size m1_))
       have n3_ := Aside0.mk (blk_below (g := gb276) (o := .cells #[.string a1_0, .string a1_1] 39 (0, 0)) m12_ hb)
       have n4_ := Aside0.mk (blk_below (g := gb288) (o := .cells #[.string a1_0, .string a1_1] 44 (0, 0)) m13_ hb)
       have n5_ := Aside0.mk (below_step m1_ hb)
       have z_HO306 := fun (h0_ : b 7 = true) => (show Kd.R k44 44 w76 w.heap.size (fun k_ => some k_ ≠ (.slice (some ad299) t284.length co22 : Value).ownBlock ∧ k_ ≠ gb288) v305 y304 from by first | exact (Kd.R_elder' m15_ (Kd.R_base ho77) hb) | exact Kd.R_mono (Kd.R_elder' m15_ (Kd.R_base ho77) hb) (fun _ h_ => by first | trivial | exact h_ | exact h_.1))
       clear HO_5 HO_9 BK276 BK288 HB
       have HO_5 := n0_
       have HO_9 := n1_
       have HO302 := n2_
       have BK276 := n3_
       have BK288 := n4_
       have HB := n5_
       clear n0_ n1_ n2_ n3_ n4_ n5_ hb ho77
       refine hK.out _ _ ⟨v301, v305, (by rw [ha.out]; exact putSel_upk 2 hb_ rfl rfl rfl), m0_, m19_, m12_, m13_, m1_, fun _ => (by (with_reducible repeat (first | apply Kd.R_alloc | apply Kd.R_drewN | apply Kd.R_drew)); exact Kd.R_mono HO302.out m9_), z_HO306⟩
      refine steps_cons ?_ ?_
      ·rintro b a w' ⟨v301, v305, ha, Q_HO_5, Q_HO_9, Q_BK276, Q_BK288, Q_HB, Q_HO302, Q_HO306⟩ hb_ hon hoff
       refine ⟨_, rfl, fun K hK => ?_⟩
       have e93 : a.tmps[93]? = some (v301) := by rw [ha]; exact putSel_on (e := (4, 93, v301)) 2 rfl rfl (hon 4 (by kernel_rfl)) rfl
       replace ha := Aside0.mk ha
       have HO_5 := Aside0.mk Q_HO_5
       have HO_9 := Aside0.mk Q_HO_9
       have BK276 := Aside0.mk Q_BK276
       have BK288 := Aside0.mk Q_BK288
       have HB := Aside0.mk Q_HB
       have HO302 := Aside0.mk (Q_HO302 (hon 4 (by kernel_rfl)))
       obtain ⟨Ao79, co79, eo79⟩ := Kd.R_slice HO302.out
       (first | subst eo79 | (injection eo79 with f1_ f2_ f3_; have f4_ := f1_.symm; have f5_ := f3_.symm; clear f1_ f2_ f3_; subst f4_; subst f5_))
       refine goes_ Tryd.func13 (by kernel_rfl) rfl #[.slice Ao79 y300.length co79] (by rfl) rfl rfl (by first | (simp only [List.map_toArray, List.map_cons, List.map_nil, Act.eval, Array.getD_eq_getD_getElem?, Option.getD_some, e93]; done) | (simp only [List.map_toArray, List.map_cons, List.map_nil, Act.eval, Array.getD_eq_getD_getElem?, Option.getD_some, e93]; rfl)) ?_
       with_reducible refine (merkle_Digest.calls kj41 _ _ y300 t303 _ ?side1 ?side2 A58.out).mono ?_
       (case side1 => repeat (first | exact (Kd.R_reads' HO302.out).2.2 | (with_reducible refine Kd.C_alloc ?_ _) | (with_reducible refine Kd.C_drewN ?_ _) | (with_reducible refine Kd.C_drew ?_)))
       (case side2 => exact (Kd.R_reads' HO302.out).2.1)
       rintro e w80 ⟨rfl, hb⟩
       refine ⟨_, rfl, ?_⟩
       have n0_ := Aside0.mk (Kd.R_below m18_ hb)
       have n1_ := Aside0.mk (Kd.R_below m19_ hb)
       have n2_ := Aside0.mk (Kd.R_below m16_ hb)
       have n3_ := Aside0.mk (blk_below (g := gb276) (o := .cells #[.string a1_0, .string a1_1] 39 (0, 0)) m12_ hb)
       have n4_ := Aside0.mk (blk_below (g := gb288) (o := .cells #[.string a1_0, .string a1_1] 44 (0, 0)) m13_ hb)
       have n5_ := Aside0.mk (below_step m1_ hb)
       have z_HO306 := fun (h0_ : b 7 = true) => (show Kd.R k44 44 w80 w.heap.size (fun k_ => some k_ ≠ (.slice (some ad299) t284.length co22 : Value).ownBlock ∧ k_ ≠ gb288) v305 y304 from by first | exact (Kd.R_below m15_ hb) | exact Kd.R_mono (Kd.R_below m15_ hb) (fun _ h_ => by first | trivial | exact h_ | exact h_.1))
       clear HO_5 HO_9 HO302 BK276 BK288 HB
       have HO_5 := n0_
       have HO_9 := n1_
       have HO302 := n2_
       have BK276 := n3_
       have BK288 := n4_
       have HB := n5_
       clear n0_ n1_ n2_ n3_ n4_ n5_
       (try clear hb)
       (try clear hb2)
       (try clear hk)
       (try clear hi)
       refine hK.out _ _ ⟨.slice Ao79 y300.length co79, v305, (by rw [ha.out]; exact putSel_upk 3 hb_ rfl rfl rfl), m18_, m19_, m12_, m13_, m1_, fun _ => m16_, z_HO306⟩
      refine steps_cons ?_ ?_
      ·rintro b a w' ⟨v301, v305, ha, Q_HO_5, Q_HO_9, Q_BK276, Q_BK288, Q_HB, Q_HO302, Q_HO306⟩ hb_ hon hoff
       refine ⟨_, rfl, fun K hK => ?_⟩
       have e7 : a.tmps[7]? = some (.pointer (some ⟨gb288, 0, none⟩)) := by rw [ha]; exact (putSel_off rfl).trans rfl
       replace ha := Aside0.mk ha
       have HO_5 := Aside0.mk Q_HO_5
       have HO_9 := Aside0.mk Q_HO_9
       have BK276 := Aside0.mk Q_BK276
       have BK288 := Aside0.mk Q_BK288
       have HB := Aside0.mk Q_HB
       have hc0_ : w'.cell? ⟨gb288, 0, none⟩ = some (.string a1_0) := (blk_cell BK288.out 0).trans rfl
       have hc1_ : w'.cell? ⟨gb288, 1, none⟩ = some (.string a1_1) := (blk_cell BK288.out 1).trans rfl
       refine value_ (w1 := w') (v := .agg #[.string a1_0, .string a1_1]) (by rfl) rfl ?_ ?_
       ·go_simp
        (try simp only [i64_w])
        try rfl
       refine hK.out _ _ ⟨v301, v305, (by rw [ha.out]; exact putSel_upk 4 hb_ rfl rfl rfl), Q_HO_5, Q_HO_9, Q_BK276, Q_BK288, Q_HB, Q_HO302, fun h0_ => absurd ((hoff 7 (by kernel_rfl)).symm.trans h0_) (by decide)⟩
      refine steps_cons ?_ ?_
      ·rintro b a w' ⟨v301, v305, ha, Q_HO_5, Q_HO_9, Q_BK276, Q_BK288, Q_HB, Q_HO302, Q_HO306⟩ hb_ hon hoff
       refine ⟨_, rfl, fun K hK => ?_⟩
       have e95 : a.tmps[95]? = some (.agg #[.string a1_0, .string a1_1]) := by rw [ha]; exact putSel_on (e := (6, 95, .agg #[.string a1_0, .string a1_1])) 4 rfl rfl (hon 6 (by kernel_rfl)) rfl
       replace ha := Aside0.mk ha
       have HO_5 := Aside0.mk Q_HO_5
       have HO_9 := Aside0.mk Q_HO_9
       have BK276 := Aside0.mk Q_BK276
       have BK288 := Aside0.mk Q_BK288
       have HB := Aside0.mk Q_HB
       refine Kd.R_lit_step k44 _ 44 ?hg (N := 96) ?hd (xs := ([(⟨a1_0, a1_1⟩ : S44)] : List (S44))) (inner := [.string a1_0, .string a1_1]) (ok := fun _ => True) (okp := fun _ => True) ?hr ?hp (fun _ hk => hk) trivial (Below.refl _ _) (Nat.le_refl _) (by simp) ?_; (case hd => rfl); (case hg => rfl); (case hr => first | (go_simp; done) | (go_simp; rfl)); (case hp => exact (Reps.c2 (show Kd.M k44 _ _ _ (⟨a1_0, a1_1⟩ : S44) [.string a1_0, .string a1_1] from (k44_mkM _ _ _ (⟨a1_0, a1_1⟩ : S44) )) (Reps.none _ _)))
       intro v305 w76 ho77 hb hg_ hnew_
       clear hg_ hnew_
       (first | rw [← Ny304.out] at ho77 | (simp only [Int.reduceToNat] at ho77; rw [← Ny304.out] at ho77))
       have n0_ := Aside0.mk (Kd.R_elder' m18_ (Kd.R_base ho77) hb)
       have n1_ := Aside0.mk (Kd.R_below m19_ hb)
       have n2_ := Aside0.mk (Kd.R_lower (Kd.R_newB (Kd.R_new' ho77 (Kd.R_lt m18_)) (g := gb288) (o := .cells #[.string a1_0, .string a1_1] 44 (0, 0)) m13_) (below_size m1_))
       have n3_ := Aside0.mk (blk_below (g := gb276) (o := .cells #[.string a1_0, .string a1_1] 39 (0, 0)) m12_ hb)
       have n4_ := Aside0.mk (blk_below (g := gb288) (o := .cells #[.string a1_0, .string a1_1] 44 (0, 0)) m13_ hb)
       have n5_ := Aside0.mk (below_step m1_ hb)
       have z_HO302 := fun (h0_ : b 4 = true) => (show Kd.R k44 44 w76 w.heap.size (fun k_ => some k_ ≠ (.slice (some ad299) t284.length co22 : Value).ownBlock ∧ k_ ≠ gb288) v301 y300 from by first | exact (Kd.R_elder' (by (with_reducible repeat (first | apply Kd.R_alloc | apply Kd.R_drewN | apply Kd.R_drew)); exact (Q_HO302 h0_)) (Kd.R_base ho77) hb) | exact Kd.R_mono (Kd.R_elder' (by (with_reducible repeat (first | apply Kd.R_alloc | apply Kd.R_drewN | apply Kd.R_drew)); exact (Q_HO302 h0_)) (Kd.R_base ho77) hb) (fun _ h_ => by first | trivial | exact h_ | exact h_.1))
       clear HO_5 HO_9 BK276 BK288 HB
       have HO_5 := n0_
       have HO_9 := n1_
       have HO306 := n2_
       have BK276 := n3_
       have BK288 := n4_
       have HB := n5_
       clear n0_ n1_ n2_ n3_ n4_ n5_ hb ho77
       refine hK.out _ _ ⟨v301, v305, (by rw [ha.out]; exact putSel_upk 5 hb_ rfl rfl rfl), m0_, m19_, m12_, m13_, m1_, z_HO302, fun _ => (by (with_reducible repeat (first | apply Kd.R_alloc | apply Kd.R_drewN | apply Kd.R_drew)); exact Kd.R_mono HO306.out m9_)⟩
      refine steps_cons ?_ ?_
      ·rintro b a w' ⟨v301, v305, ha, Q_HO_5, Q_HO_9, Q_BK276, Q_BK288, Q_HB, Q_HO302, Q_HO306⟩ hb_ hon hoff
       refine ⟨_, rfl, fun K hK => ?_⟩
       have e96 : a.tmps[96]? = some (v305) := by rw [ha]; exact putSel_on (e := (7, 96, v305)) 5 rfl rfl (hon 7 (by kernel_rfl)) rfl
       replace ha := Aside0.mk ha
       have HO_5 := Aside0.mk Q_HO_5
       have HO_9 := Aside0.mk Q_HO_9
       have BK276 := Aside0.mk Q_BK276
       have BK288 := Aside0.mk Q_BK288
       have HB := Aside0.mk Q_HB
       have HO302 := Aside0.mk (Q_HO302 (hon 4 (by kernel_rfl)))
       have HO306 := Aside0.mk (Q_HO306 (hon 7 (by kernel_rfl)))
       obtain ⟨Ao83, co83, eo83⟩ := Kd.R_slice HO306.out
       (first | subst eo83 | (injection eo83 with f1_ f2_ f3_; have f4_ := f1_.symm; have f5_ := f3_.symm; clear f1_ f2_ f3_; subst f4_; subst f5_))
       refine goes_ Tryd.func13 (by kernel_rfl) rfl #[.slice Ao83 y304.length co83] (by rfl) rfl rfl (by first | (simp only [List.map_toArray, List.map_cons, List.map_nil, Act.eval, Array.getD_eq_getD_getElem?, Option.getD_some, e96]; done) | (simp only [List.map_toArray, List.map_cons, List.map_nil, Act.eval, Array.getD_eq_getD_getElem?, Option.getD_some, e96]; rfl)) ?_
       with_reducible refine (merkle_Digest.calls kj41 _ _ y304 t307 _ ?side1 ?side2 A59.out).mono ?_
       (case side1 => repeat (first | exact (Kd.R_reads' HO306.out).2.2 | (with_reducible refine Kd.C_alloc ?_ _) | (with_reducible refine Kd.C_drewN ?_ _) | (with_reducible refine Kd.C_drew ?_)))
       (case side2 => exact (Kd.R_reads' HO306.out).2.1)
       rintro e w84 ⟨rfl, hb⟩
       refine ⟨_, rfl, ?_⟩
       have n0_ := Aside0.mk (Kd.R_below m18_ hb)
       have n1_ := Aside0.mk (Kd.R_below m19_ hb)
       have n2_ := Aside0.mk (Kd.R_below m16_ hb)
       have n3_ := Aside0.mk (Kd.R_below m17_ hb)
       have n4_ := Aside0.mk (blk_below (g := gb276) (o := .cells #[.string a1_0, .string a1_1] 39 (0, 0)) m12_ hb)
       have n5_ := Aside0.mk (blk_below (g := gb288) (o := .cells #[.string a1_0, .string a1_1] 44 (0, 0)) m13_ hb)
       have n6_ := Aside0.mk (below_step m1_ hb)
       clear HO_5 HO_9 HO302 HO306 BK276 BK288 HB
       have HO_5 := n0_
       have HO_9 := n1_
       have HO302 := n2_
       have HO306 := n3_
       have BK276 := n4_
       have BK288 := n5_
       have HB := n6_
       clear n0_ n1_ n2_ n3_ n4_ n5_ n6_
       (try clear hb)
       (try clear hb2)
       (try clear hk)
       (try clear hi)
       refine hK.out _ _ ⟨v301, .slice Ao83 y304.length co83, (by rw [ha.out]; exact putSel_upk 6 hb_ rfl rfl rfl), m18_, m19_, m12_, m13_, m1_, fun _ => m16_, fun _ => m17_⟩
      refine steps_cons ?_ ?_
      ·rintro b a w' ⟨v301, v305, ha, Q_HO_5, Q_HO_9, Q_BK276, Q_BK288, Q_HB, Q_HO302, Q_HO306⟩ hb_ hon hoff
       refine ⟨_, rfl, fun K hK => ?_⟩
       have e94 : a.tmps[94]? = some (.string t303) := by rw [ha]; exact putSel_on (e := (5, 94, .string t303)) 3 rfl rfl (hon 5 (by kernel_rfl)) rfl
       replace ha := Aside0.mk ha
       have HO_5 := Aside0.mk Q_HO_5
       have HO_9 := Aside0.mk Q_HO_9
       have BK276 := Aside0.mk Q_BK276
       have BK288 := Aside0.mk Q_BK288
       have HB := Aside0.mk Q_HB
       have HO302 := Aside0.mk (Q_HO302 (hon 4 (by kernel_rfl)))
       have HO306 := Aside0.mk (Q_HO306 (hon 7 (by kernel_rfl)))
       refine value_ (w1 := w') (v := .string t303) (by rfl) rfl ?_ ?_
       ·go_simp
        (try simp only [i64_w])
        try rfl
       refine hK.out _ _ ⟨v301, v305, (by rw [ha.out]; exact putSel_upk 7 hb_ rfl rfl rfl), Q_HO_5, Q_HO_9, Q_BK276, Q_BK288, Q_HB, Q_HO302, Q_HO306⟩
      refine steps_cons ?_ ?_
      ·rintro b a w' ⟨v301, v305, ha, Q_HO_5, Q_HO_9, Q_BK276, Q_BK288, Q_HB, Q_HO302, Q_HO306⟩ hb_ hon hoff
       refine ⟨_, rfl, fun K hK => ?_⟩
       have e97 : a.tmps[97]? = some (.string t307) := by rw [ha]; exact putSel_on (e := (8, 97, .string t307)) 6 rfl rfl (hon 8 (by kernel_rfl)) rfl
       replace ha := Aside0.mk ha
       have HO_5 := Aside0.mk Q_HO_5
       have HO_9 := Aside0.mk Q_HO_9
       have BK276 := Aside0.mk Q_BK276
       have BK288 := Aside0.mk Q_BK288
       have HB := Aside0.mk Q_HB
       have HO302 := Aside0.mk (Q_HO302 (hon 4 (by kernel_rfl)))
       have HO306 := Aside0.mk (Q_HO306 (hon 7 (by kernel_rfl)))
       refine value_ (w1 := w') (v := .string t307) (by rfl) rfl ?_ ?_
       ·go_simp
        (try simp only [i64_w])
        try rfl
       refine hK.out _ _ ⟨v301, v305, (by rw [ha.out]; exact putSel_upk 8 hb_ rfl rfl rfl), Q_HO_5, Q_HO_9, Q_BK276, Q_BK288, Q_HB, Q_HO302, Q_HO306⟩
      exact steps_nil
     rintro b a w84 hall ⟨v301, v305, ha, Q_HO_5, Q_HO_9, Q_BK276, Q_BK288, Q_HB, Q_HO302, Q_HO306⟩
     clear BK276 BK288 HB HO_5 HO_9
     have hb2_ := hall 2 (by kernel_rfl)
     have hb3_ := hall 3 (by kernel_rfl)
     have hb4_ := hall 4 (by kernel_rfl)
     have hb5_ := hall 5 (by kernel_rfl)
     have hb6_ := hall 6 (by kernel_rfl)
     have hb7_ := hall 7 (by kernel_rfl)
     have hb8_ := hall 8 (by kernel_rfl)
     have hb9_ := hall 9 (by kernel_rfl)
     have hb10_ := hall 10 (by kernel_rfl)
     subst ha
     simp only [putSel, hb2_, hb3_, hb4_, hb5_, hb6_, hb7_, hb8_, hb9_, hb10_, if_true, Act.put, List.setIfInBounds_toArray, List.set_cons_zero, List.set_cons_succ]
     have HO_5 := Aside0.mk Q_HO_5
     clear Q_HO_5
     have HO_9 := Aside0.mk Q_HO_9
     clear Q_HO_9
     have BK276 := Aside0.mk Q_BK276
     clear Q_BK276
     have BK288 := Aside0.mk Q_BK288
     clear Q_BK288
     have HB := Aside0.mk Q_HB
     clear Q_HB
     have HO302 := Aside0.mk (Q_HO302 hb4_)
     clear Q_HO302
     have HO306 := Aside0.mk (Q_HO306 hb7_)
     clear Q_HO306 hall hb2_ hb3_ hb4_ hb5_ hb6_ hb7_ hb8_ hb9_ hb10_
     obtain ⟨Ao85, co85, eo85⟩ := Kd.R_slice HO_9.out
     subst eo85
     try go_wp2_with (first | ((with_reducible refine gate_callee (f := 27) rfl ?_); refine goesL_ (some 105) rfl rfl Tryd.func27 (by kernel_rfl) rfl #[.int .i64 (t284.length : Int), .int .i64 x8_2, .string t303, .string t307, .slice Ao85 t290.length co85] rfl m10_ ?_; (with_reducible refine (strongroomlaw20_climb.calls kj41 (t284.length : Int) x8_2 t303 t307 _ _ t290 t308 t309 true _ ?side1 ?side2 A60.out).mono ?_); (case side1 => exact m25_); (case side2 => exact (Kd.R_reads' HO_9.out).2.1); rintro e w86 ⟨rfl, hb⟩; refine ⟨_, rfl, ?_⟩; have n0_ := Aside0.mk (Kd.R_below m18_ hb); have n1_ := Aside0.mk (Kd.R_below m19_ hb); have n2_ := Aside0.mk (Kd.R_below m16_ hb); have n3_ := Aside0.mk (Kd.R_below m17_ hb); have n4_ := Aside0.mk (blk_below (g := gb276) (o := .cells #[.string a1_0, .string a1_1] 39 (0, 0)) m12_ hb); have n5_ := Aside0.mk (blk_below (g := gb288) (o := .cells #[.string a1_0, .string a1_1] 44 (0, 0)) m13_ hb); have n6_ := Aside0.mk (below_step m1_ hb); clear HO_5; clear HO_9; clear HO302; clear HO306; clear BK276; clear BK288; clear HB; have HO_5 := n0_; have HO_9 := n1_; have HO302 := n2_; have HO306 := n3_; have BK276 := n4_; have BK288 := n5_; have HB := n6_; clear n0_ n1_ n2_ n3_ n4_ n5_ n6_; (try clear hb); (try clear hb2); (try clear hk); (try clear hi)))
     go_roundg kj41
     case measure => have := HJ2.out; have := HK2.out; have := HJ29.out; have := HJ41.out; omega
     case rel => exact ⟨(wrap64 (x8_2 + 1)), m21_, H', ⟨by have := HJ2.out; have := HK2.out; have := HJ29.out; have := HJ41.out; omega⟩, ⟨by (with_reducible repeat (first | apply Kd.R_alloc | apply Kd.R_drewN | apply Kd.R_drew)); exact Kd.R_mono HO_5.out (by intro _ hk; first | exact hk.2.2 | exact hk | exact hk.1 | exact hk.2 | exact ⟨hk.1, hk.2⟩ | (simp_all; done) | (simp at hk ⊢; omega))⟩, ⟨by (with_reducible repeat (first | refine blk_drewN ?_ _ | refine blk_drew ?_ | refine blk_alloc ?_ _)); exact BK276.out⟩, ⟨by (with_reducible repeat (first | refine blk_drewN ?_ _ | refine blk_drew ?_ | refine blk_alloc ?_ _)); exact BK288.out⟩, ⟨m23_⟩⟩


end Go.Proofs.YtdeggemomajhcaaDoorH.HMerkleShows
