-- PRINTED by print.py (a twelfth state) out of the translation. Not trusted: Lean checks it.
import Derived.Test.YtdeggemomajhcaaDoorHMerkleAppliesx0
import Derived.Test.YtdeggemomajhcaaDoorHMerkleAppliesx3
import Derived.Test.YtdeggemomajhcaaDoorHMerkleAppliesx4
import Derived.Test.YtdeggemomajhcaaDoorHMerkleAppliesx10
namespace Go.Proofs.YtdeggemomajhcaaDoorH.HMerkleApplies
open Go.RowKit Go.Proofs.YtdeggemomajhcaaDoorW.PrintWords Go.Proofs.YtdeggemomajhcaaDoorW.PrintLast Go.Proofs.YtdeggemomajhcaaDoorW.PrintMore
attribute [local go_sem] max2_int min2_int max_two min_two max_three min_three max_four min_four   -- for this text's walks alone
set_option linter.unusedVariables false
set_option linter.unusedSimpArgs false

/-! ### merkle_Apply: function 32 -/
mutual
def merkle_Apply.l0 : Nat → List (S44) → List (S66) → List (S66) → Int → Int → Option ((List (S44)) × Int)
 | 0, _, _, _, _, _ => none
 | k + 1, x0, x1, x19, x20, x21 => if x21 < x20 then (if 0 ≤ x21 then (if x21 < (x19.length : Int) then ((path_Good.f ((rd_T66 x19 x21).f0)).bind fun t198 => (if t198 = true then (if x21 > 0 then (if 0 ≤ (wrap64 (x21 - 1)) then (if (wrap64 (x21 - 1)) < (x1.length : Int) then (if ((Op.bytesLess (((rd_T66 x1 (wrap64 (x21 - 1))).f0).toList) (((rd_T66 x19 x21).f0).toList)) = true) then (if ((rd_T66 x19 x21).f1).toList = ((rd_T66 x19 x21).f2).toList then (merkle_Apply.j1 k x0 x1 x19 x20 x21 true) else ((merkle_sum.f ((rd_T66 x19 x21).f1)).bind fun t200 => (if t200 = true then ((merkle_sum.f ((rd_T66 x19 x21).f2)).bind fun t201 => (merkle_Apply.j1 k x0 x1 x19 x20 x21 (!t201))) else (merkle_Apply.j1 k x0 x1 x19 x20 x21 true)))) else (merkle_Apply.j1 k x0 x1 x19 x20 x21 true)) else (none)) else (none)) else (if ((rd_T66 x19 x21).f1).toList = ((rd_T66 x19 x21).f2).toList then (merkle_Apply.j1 k x0 x1 x19 x20 x21 true) else ((merkle_sum.f ((rd_T66 x19 x21).f1)).bind fun t202 => (if t202 = true then ((merkle_sum.f ((rd_T66 x19 x21).f2)).bind fun t203 => (merkle_Apply.j1 k x0 x1 x19 x20 x21 (!t203))) else (merkle_Apply.j1 k x0 x1 x19 x20 x21 true))))) else (merkle_Apply.j1 k x0 x1 x19 x20 x21 true))) else (none)) else (none)) else (merkle_Apply.l1 k x0 ([] : List (S44)) x1 (x1.length : Int) 0)
def merkle_Apply.j1 : Nat → List (S44) → List (S66) → List (S66) → Int → Int → Bool → Option ((List (S44)) × Int)
 | 0, _, _, _, _, _, _ => none
 | k + 1, x0, x1, x19, x20, x21, x63 => if x63 = true then (some (([] : List (S44)), 1)) else (merkle_Apply.l0 k x0 x1 x19 x20 (wrap64 (x21 + 1)))
def merkle_Apply.l1 : Nat → List (S44) → List (S44) → List (S66) → Int → Int → Option ((List (S44)) × Int)
 | 0, _, _, _, _, _ => none
 | k + 1, x0, x9, x65, x66, x67 => if x67 < x66 then (if 0 ≤ x67 then (if x67 < (x65.length : Int) then ((merkle_place.f x0 ((rd_T66 x65 x67).f0)).bind fun t206 => (if 0 ≤ t206 then (if t206 ≤ (x0.length : Int) then ((some (x0.take (t206 : Int).toNat : List (S44))).bind fun y207 => (if x9.length + y207.length < 4398046511104 then ((some (x9 ++ y207 : List (S44))).bind fun y212 => ((some (x0.drop (t206 : Int).toNat : List (S44))).bind fun y215 => (if (y215.length : Int) > 0 then (if 0 < (y215.length : Int) then (merkle_Apply.j3 k y215 y212 (⟨#[]⟩ : ByteArray) x65 x66 x67 (((rd_T44 y215 0).f0).toList == ((rd_T66 x65 x67).f0).toList) ((rd_T66 x65 x67).f0) ((rd_T66 x65 x67).f1) ((rd_T66 x65 x67).f2)) else (none)) else (merkle_Apply.j3 k y215 y212 (⟨#[]⟩ : ByteArray) x65 x66 x67 false ((rd_T66 x65 x67).f0) ((rd_T66 x65 x67).f1) ((rd_T66 x65 x67).f2))))) else (none))) else (none)) else (none))) else (none)) else (none)) else (if x9.length + x0.length < 4398046511104 then ((some (x9 ++ x0 : List (S44))).bind fun y230 => (if (y230.length : Int) > 1024 then (some (([] : List (S44)), 2)) else (some (y230, 0)))) else (none))
def merkle_Apply.j3 : Nat → List (S44) → List (S44) → ByteArray → List (S66) → Int → Int → Bool → ByteArray → ByteArray → ByteArray → Option ((List (S44)) × Int)
 | 0, _, _, _, _, _, _, _, _, _, _ => none
 | k + 1, x0, x9, x13, x65, x66, x67, x94, x206000, x206001, x206002 => if x94 = true then (if 0 < (x0.length : Int) then (if 1 ≤ (x0.length : Int) then (merkle_Apply.j4 k (x0.drop 1) x9 ((rd_T44 x0 0).f1) x65 x66 x67 x206000 x206001 x206002) else (none)) else (none)) else (merkle_Apply.j4 k x0 x9 x13 x65 x66 x67 x206000 x206001 x206002)
def merkle_Apply.j4 : Nat → List (S44) → List (S44) → ByteArray → List (S66) → Int → Int → ByteArray → ByteArray → ByteArray → Option ((List (S44)) × Int)
 | 0, _, _, _, _, _, _, _, _, _ => none
 | k + 1, x0, x9, x13, x65, x66, x67, x206000, x206001, x206002 => if x13.toList = x206001.toList then (if x206002.toList = ([] : List UInt8) then (merkle_Apply.l1 k x0 x9 x65 x66 (wrap64 (x67 + 1))) else (if x9.length < 4398046511104 then (merkle_Apply.l1 k x0 (x9 ++ [(⟨x206000, x206002⟩ : S44)]) x65 x66 (wrap64 (x67 + 1))) else (none))) else (some (([] : List (S44)), 8))
end
def merkle_Apply.f (k : Nat) (l0 : List (S44)) (l1 : List (S66)) : Option ((List (S44)) × Int) := (merkle_Check.f k l0).bind fun t195 => (if t195 = 0 then (merkle_Apply.l0 k l0 l1 l1 (l1.length : Int) 0) else (some (([] : List (S44)), t195)))
theorem merkle_Apply.mono_l : ∀ k, (∀ y0 y1 y2 y3 y4, LeO (merkle_Apply.l0 k y0 y1 y2 y3 y4) (merkle_Apply.l0 (k + 1) y0 y1 y2 y3 y4)) ∧ (∀ y0 y1 y2 y3 y4 y5, LeO (merkle_Apply.j1 k y0 y1 y2 y3 y4 y5) (merkle_Apply.j1 (k + 1) y0 y1 y2 y3 y4 y5)) ∧ (∀ y0 y1 y2 y3 y4, LeO (merkle_Apply.l1 k y0 y1 y2 y3 y4) (merkle_Apply.l1 (k + 1) y0 y1 y2 y3 y4)) ∧ (∀ y0 y1 y2 y3 y4 y5 y6 y7 y8 y9, LeO (merkle_Apply.j3 k y0 y1 y2 y3 y4 y5 y6 y7 y8 y9) (merkle_Apply.j3 (k + 1) y0 y1 y2 y3 y4 y5 y6 y7 y8 y9)) ∧ (∀ y0 y1 y2 y3 y4 y5 y6 y7 y8, LeO (merkle_Apply.j4 k y0 y1 y2 y3 y4 y5 y6 y7 y8) (merkle_Apply.j4 (k + 1) y0 y1 y2 y3 y4 y5 y6 y7 y8))
 | 0 => ⟨fun _ _ _ _ _ r h => by simp [merkle_Apply.l0] at h, fun _ _ _ _ _ _ r h => by simp [merkle_Apply.j1] at h, fun _ _ _ _ _ r h => by simp [merkle_Apply.l1] at h, fun _ _ _ _ _ _ _ _ _ _ r h => by simp [merkle_Apply.j3] at h, fun _ _ _ _ _ _ _ _ _ r h => by simp [merkle_Apply.j4] at h⟩
 | k + 1 => by
  obtain ⟨ih0, ih1, ih2, ih3, ih4⟩ := merkle_Apply.mono_l k
  refine ⟨?_, ?_, ?_, ?_, ?_⟩
  ·intro y0 y1 y2 y3 y4
   unfold merkle_Apply.l0
   repeat' first
   | (with_reducible exact ih0 _ _ _ _ _)
   | (with_reducible exact ih1 _ _ _ _ _ _)
   | (with_reducible exact ih2 _ _ _ _ _)
   | (with_reducible exact ih3 _ _ _ _ _ _ _ _ _ _)
   | (with_reducible exact ih4 _ _ _ _ _ _ _ _ _)
   | (with_reducible exact merkle_Check.mono _ _)
   | (with_reducible exact LeO.refl _)
   | (with_reducible exact LeO.none _)
   | (with_reducible refine LeO.ite ?_ ?_)
   | (with_reducible refine LeO.bind ?_ (fun _ => ?_))
   | exact ih0 _ _ _ _ _
   | exact ih1 _ _ _ _ _ _
   | exact ih2 _ _ _ _ _
   | exact ih3 _ _ _ _ _ _ _ _ _ _
   | exact ih4 _ _ _ _ _ _ _ _ _
   | exact merkle_Check.mono _ _
   | exact LeO.none _
   | refine LeO.ite ?_ ?_
   | refine LeO.bind ?_ (fun _ => ?_)
  ·intro y0 y1 y2 y3 y4 y5
   unfold merkle_Apply.j1
   repeat' first
   | (with_reducible exact ih0 _ _ _ _ _)
   | (with_reducible exact ih1 _ _ _ _ _ _)
   | (with_reducible exact ih2 _ _ _ _ _)
   | (with_reducible exact ih3 _ _ _ _ _ _ _ _ _ _)
   | (with_reducible exact ih4 _ _ _ _ _ _ _ _ _)
   | (with_reducible exact merkle_Check.mono _ _)
   | (with_reducible exact LeO.refl _)
   | (with_reducible exact LeO.none _)
   | (with_reducible refine LeO.ite ?_ ?_)
   | (with_reducible refine LeO.bind ?_ (fun _ => ?_))
   | exact ih0 _ _ _ _ _
   | exact ih1 _ _ _ _ _ _
   | exact ih2 _ _ _ _ _
   | exact ih3 _ _ _ _ _ _ _ _ _ _
   | exact ih4 _ _ _ _ _ _ _ _ _
   | exact merkle_Check.mono _ _
   | exact LeO.none _
   | refine LeO.ite ?_ ?_
   | refine LeO.bind ?_ (fun _ => ?_)
  ·intro y0 y1 y2 y3 y4
   unfold merkle_Apply.l1
   repeat' first
   | (with_reducible exact ih0 _ _ _ _ _)
   | (with_reducible exact ih1 _ _ _ _ _ _)
   | (with_reducible exact ih2 _ _ _ _ _)
   | (with_reducible exact ih3 _ _ _ _ _ _ _ _ _ _)
   | (with_reducible exact ih4 _ _ _ _ _ _ _ _ _)
   | (with_reducible exact merkle_Check.mono _ _)
   | (with_reducible exact LeO.refl _)
   | (with_reducible exact LeO.none _)
   | (with_reducible refine LeO.ite ?_ ?_)
   | (with_reducible refine LeO.bind ?_ (fun _ => ?_))
   | exact ih0 _ _ _ _ _
   | exact ih1 _ _ _ _ _ _
   | exact ih2 _ _ _ _ _
   | exact ih3 _ _ _ _ _ _ _ _ _ _
   | exact ih4 _ _ _ _ _ _ _ _ _
   | exact merkle_Check.mono _ _
   | exact LeO.none _
   | refine LeO.ite ?_ ?_
   | refine LeO.bind ?_ (fun _ => ?_)
  ·intro y0 y1 y2 y3 y4 y5 y6 y7 y8 y9
   unfold merkle_Apply.j3
   repeat' first
   | (with_reducible exact ih0 _ _ _ _ _)
   | (with_reducible exact ih1 _ _ _ _ _ _)
   | (with_reducible exact ih2 _ _ _ _ _)
   | (with_reducible exact ih3 _ _ _ _ _ _ _ _ _ _)
   | (with_reducible exact ih4 _ _ _ _ _ _ _ _ _)
   | (with_reducible exact merkle_Check.mono _ _)
   | (with_reducible exact LeO.refl _)
   | (with_reducible exact LeO.none _)
   | (with_reducible refine LeO.ite ?_ ?_)
   | (with_reducible refine LeO.bind ?_ (fun _ => ?_))
   | exact ih0 _ _ _ _ _
   | exact ih1 _ _ _ _ _ _
   | exact ih2 _ _ _ _ _
   | exact ih3 _ _ _ _ _ _ _ _ _ _
   | exact ih4 _ _ _ _ _ _ _ _ _
   | exact merkle_Check.mono _ _
   | exact LeO.none _
   | refine LeO.ite ?_ ?_
   | refine LeO.bind ?_ (fun _ => ?_)
  ·intro y0 y1 y2 y3 y4 y5 y6 y7 y8
   unfold merkle_Apply.j4
   repeat' first
   | (with_reducible exact ih0 _ _ _ _ _)
   | (with_reducible exact ih1 _ _ _ _ _ _)
   | (with_reducible exact ih2 _ _ _ _ _)
   | (with_reducible exact ih3 _ _ _ _ _ _ _ _ _ _)
   | (with_reducible exact ih4 _ _ _ _ _ _ _ _ _)
   | (with_reducible exact merkle_Check.mono _ _)
   | (with_reducible exact LeO.refl _)
   | (with_reducible exact LeO.none _)
   | (with_reducible refine LeO.ite ?_ ?_)
   | (with_reducible refine LeO.bind ?_ (fun _ => ?_))
   | exact ih0 _ _ _ _ _
   | exact ih1 _ _ _ _ _ _
   | exact ih2 _ _ _ _ _
   | exact ih3 _ _ _ _ _ _ _ _ _ _
   | exact ih4 _ _ _ _ _ _ _ _ _
   | exact merkle_Check.mono _ _
   | exact LeO.none _
   | refine LeO.ite ?_ ?_
   | refine LeO.bind ?_ (fun _ => ?_)
theorem merkle_Apply.mono : ∀ a0 a1 k, LeO (merkle_Apply.f k a0 a1) (merkle_Apply.f (k + 1) a0 a1) := by
 intro a0 a1 k
 obtain ⟨ih0, ih1, ih2, ih3, ih4⟩ := merkle_Apply.mono_l k
 unfold merkle_Apply.f
 repeat' first
   | (with_reducible exact ih0 _ _ _ _ _)
   | (with_reducible exact ih1 _ _ _ _ _ _)
   | (with_reducible exact ih2 _ _ _ _ _)
   | (with_reducible exact ih3 _ _ _ _ _ _ _ _ _ _)
   | (with_reducible exact ih4 _ _ _ _ _ _ _ _ _)
   | (with_reducible exact merkle_Check.mono _ _)
   | (with_reducible exact LeO.refl _)
   | (with_reducible exact LeO.none _)
   | (with_reducible refine LeO.ite ?_ ?_)
   | (with_reducible refine LeO.bind ?_ (fun _ => ?_))
   | exact ih0 _ _ _ _ _
   | exact ih1 _ _ _ _ _ _
   | exact ih2 _ _ _ _ _
   | exact ih3 _ _ _ _ _ _ _ _ _ _
   | exact ih4 _ _ _ _ _ _ _ _ _
   | exact merkle_Check.mono _ _
   | exact LeO.none _
   | refine LeO.ite ?_ ?_
   | refine LeO.bind ?_ (fun _ => ?_)
def merkle_Apply.T7 : Bool × List (List Nat × List Nat) := (true, [([], []), ([0], [0]), ([1], [1]), ([2], [2]), ([3, 2], [3]), ([4], [4]), ([5, 4], [4, 5]), ([6, 4, 4], [4, 6]), ([7], [7]), ([7], [7]), ([9, 7], [7, 9]), ([8, 10, 7], [7, 8, 10]), ([11, 7], [7, 11]), ([12, 7], [7, 12]), ([7], [7]), ([14, 7], [7, 14]), ([13, 15, 7], [7, 13, 15]), ([7, 16, 4], [4, 7, 16]), ([4, 17], [4, 17]), ([18, 7], [18]), ([19], [19]), ([20, 19], [19, 20]), ([19], [19]), ([22, 19], [19, 22]), ([21, 23, 19], [19, 21, 23]), ([19, 24], [19, 24]), ([25, 19], [25]), ([26], [26]), ([27, 26], [26, 27]), ([28, 26, 26], [26, 28]), ([29, 26], [26, 29]), ([26, 30], [26, 30]), ([31, 29], [31]), ([32], [32]), ([33, 32], [32, 33]), ([34, 32, 32], [32, 34]), ([35, 32], [32, 35]), ([32, 36], [32, 36])])
def merkle_Apply.B7 : List Nat := [0, 1, 3, 7, 15, 31, 63, 127, 255, 255, 767, 2047, 4095, 8191, 255, 16639, 65535, 131071, 262143, 524287, 1048575, 2097151, 1048575, 5242879, 16777215, 33554431, 67108863, 134217727, 268435455, 536870911, 1073741823, 2147483647, 4294967295, 8589934591, 17179869183, 34359738367, 68719476735, 137438953471]
theorem merkle_Apply.tab7 : rtab .any (opsOf Tryd.f32 7) = merkle_Apply.T7 := by kernel_rfl
theorem merkle_Apply.bits7 : waitsOk merkle_Apply.T7.2 merkle_Apply.B7 = true := by kernel_rfl
def merkle_Apply.T18 : Bool × List (List Nat × List Nat) := (true, [([], []), ([0], [0]), ([1], [1]), ([2], [2]), ([3], [3]), ([4, 3], [3, 4]), ([5, 3], [3, 5]), ([6, 3], [3, 6]), ([3], [3]), ([8, 3], [3, 8]), ([7, 9, 3], [3, 7, 9]), ([3, 10], [3, 10])])
def merkle_Apply.B18 : List Nat := [0, 1, 3, 7, 15, 31, 63, 127, 15, 271, 1023, 2047]
theorem merkle_Apply.tab18 : rtab .any (opsOf Tryd.f32 18) = merkle_Apply.T18 := by kernel_rfl
theorem merkle_Apply.bits18 : waitsOk merkle_Apply.T18.2 merkle_Apply.B18 = true := by kernel_rfl
set_option maxHeartbeats 8000000 in
set_option maxRecDepth 100000 in
theorem merkle_Apply.calls (k : Nat) (P0_ : Nat → Prop) (A0 : Option Addr) (c0 : Nat) (l0 : List (S44)) (A1 : Option Addr) (c1 : Nat) (l1 : List (S66)) (r1 : List (S44)) (r2 : Int) (w : World) (hs0 : Kd.V k44 44 w w.heap.size (fun k_ => P0_ k_) (.slice A0 l0.length c0) l0) (hr1 : Kd.C k66 w A1 l1.length l1) (hc1 : l1.length ≤ c1) (h : merkle_Apply.f k l0 l1 = some (r1, r2)) :
  Calls Tryd.prog 32 #[.slice A0 l0.length c0, .slice A1 l1.length c1] w fun e w' => ∃ v0_ : Value, e = .returned (.tuple #[v0_, .int .i64 r2]) ∧ Kd.R k44 44 w' w.heap.size (fun k_ => (w.heap.size ≤ k_)) v0_ r1 ∧ Below w.heap.size w w' := by
 have hu66 := Tryd.underlying66
 have hu44 := Tryd.underlying44
 have HO0 := Aside0.mk (show Kd.V k44 44 w w.heap.size (fun k_ => (P0_ k_ ∨ w.heap.size ≤ k_)) (.slice A0 l0.length c0) l0 from Kd.V_mono hs0 (fun k_ hk => .inl hk))
 have HR1 := Aside0.mk hr1
 have HC1 := Aside0.mk hc1
 clear hr1 hc1
 have HB := Aside0.mk (Below.refl w.heap.size w)
 have H : ((merkle_Check.f k l0).bind fun t195 => (if t195 = 0 then (merkle_Apply.l0 k l0 l1 l1 (l1.length : Int) 0) else (some (([] : List (S44)), t195)))) = some (r1, r2) := h
 clear h
 replace H := Option.bind_eq_some_iff.mp H
 obtain ⟨t195, A30, H⟩ := H
 replace H : (if t195 = 0 then (merkle_Apply.l0 k l0 l1 l1 (l1.length : Int) 0) else (some (([] : List (S44)), t195))) = some (r1, r2) := H
 have A3 := Aside0.mk A30
 clear A30
 by_cases c4 : t195 = 0
 case neg =>
  rw [if_neg c4] at H
  have c4b0 : (t195 == 0) = false := beq_eq_false_iff_ne.mpr c4
  have c4b1 : (t195 != 0) = true := bne_iff_ne.mpr c4
  simp only [Option.some.injEq, Prod.mk.injEq] at H
  obtain ⟨rfl, rfl⟩ := H
  go_enter Tryd.func32, Tryd.ntmps32
  go_wp2_with (first | ((with_reducible refine gate_callee (f := 15) rfl ?_); refine goesL_ (some 15) rfl rfl Tryd.func15 (by kernel_rfl) rfl #[.slice A0 l0.length c0] rfl m6_ ?_; (with_reducible refine (merkle_Check.calls k _ _ l0 t195 _ ?side1 ?side2 A3.out).mono ?_); (case side1 => exact m22_); (case side2 => exact (Kd.V_reads' HO0.out).2.1); rintro e w93 ⟨rfl, hb⟩; refine ⟨_, rfl, ?_⟩; replace HO0 := Aside0.mk (Kd.V_below m17_ hb); replace HB := Aside0.mk (below_step m7_ hb); (try clear hb); (try clear hb2); (try clear hk); (try clear hi)))
  go_ret2
  exact ⟨_, by first | rfl | (simp [errW_none, errW_some] <;> rfl) | (simp [*, errW_none, errW_some] <;> rfl), by first | exact Kd.R_nil _ _ _ _ _ | exact Kd.N_nil _ _ _ _ _ | exact Kd.V_nil _ _ _ _ _ | exact Kd.Q_nil _ _ _ _ _ | exact Kd.S_nil _ _ _ _ _, m27_⟩
 rw [if_pos c4] at H
 have c4b0 : (t195 == 0) = true := beq_iff_eq.mpr c4
 have c4b1 : (t195 != 0) = false := bne_eq_false_iff_eq.mpr c4
 clear c4
 have H' := Aside0.mk H
 clear H
 go_enter Tryd.func32, Tryd.ntmps32
 go_wp2_with (first | ((with_reducible refine gate_callee (f := 15) rfl ?_); refine goesL_ (some 15) rfl rfl Tryd.func15 (by kernel_rfl) rfl #[.slice A0 l0.length c0] rfl m6_ ?_; (with_reducible refine (merkle_Check.calls k _ _ l0 t195 _ ?side1 ?side2 A3.out).mono ?_); (case side1 => exact m22_); (case side2 => exact (Kd.V_reads' HO0.out).2.1); rintro e w5 ⟨rfl, hb⟩; refine ⟨_, rfl, ?_⟩; replace HO0 := Aside0.mk (Kd.V_below m17_ hb); replace HB := Aside0.mk (below_step m7_ hb); (try clear hb); (try clear hb2); (try clear hk); (try clear hi)))
 go_loopg [21] k (fun kq v21 w' => ∃ (x21_1 : Int), v21 = .int .i64 x21_1 ∧ Aside0 (merkle_Apply.l0 kq l0 l1 l1 (l1.length : Int) x21_1 = some (r1, r2)) ∧ Aside0 (kq ≤ k) ∧ Aside0 (Kd.V k44 44 w' w.heap.size (fun k_ => (P0_ k_ ∨ w.heap.size ≤ k_)) (.slice A0 l0.length c0) l0) ∧ Aside0 (Below w.heap.size w w'))
 case atStart => exact ⟨(0), m19_, H', ⟨Nat.le_refl _⟩, ⟨by (with_reducible repeat (first | apply Kd.V_alloc | apply Kd.V_drewN | apply Kd.V_drew)); exact HO0.out⟩, ⟨m27_⟩⟩
 clear H'
 try clear c1; try clear p2; try clear c3; try clear c4; try clear c4b0; try clear c4b1
 obtain ⟨x21_1, rfl, HA, HK1, HO_0, HB⟩ := hrel
 cases gk with
 | zero => exact absurd HA.out (by simp [merkle_Apply.l0])
 | succ k1 =>
  have H := HA.out
  clear HA
  simp only [merkle_Apply.l0] at H
  by_cases c6 : x21_1 < (l1.length : Int)
  case neg =>
   rw [if_neg c6] at H
   have c6b0 : decide (x21_1 < (l1.length : Int)) = false := decide_eq_false c6
   clear c6
   have H' := Aside0.mk H
   clear H
   go_wp2
   go_loopg [0, 9, 67] k1 (fun kq v0 v9 v67 w' => ∃ (x0_2 : List (S44)) (x9_2 : List (S44)) (x67_2 : Int), v67 = .int .i64 x67_2 ∧ Aside0 (merkle_Apply.l1 kq x0_2 x9_2 l1 (l1.length : Int) x67_2 = some (r1, r2)) ∧ Aside0 (kq ≤ k1) ∧ Aside0 (Kd.V k44 44 w' w.heap.size (fun k_ => (P0_ k_ ∨ w.heap.size ≤ k_) ∧ some k_ ≠ (v9 : Value).ownBlock) v0 x0_2) ∧ Aside0 (Kd.R k44 44 w' w.heap.size (fun k_ => (w.heap.size ≤ k_)) v9 x9_2) ∧ Aside0 (Below w.heap.size w w'))
   case atStart => exact ⟨(l0), (([] : List (S44))), (0), m19_, H', ⟨Nat.le_refl _⟩, ⟨by (with_reducible repeat (first | apply Kd.V_alloc | apply Kd.V_drewN | apply Kd.V_drew)); exact Kd.V_mono HO_0.out (fun _ hk => ⟨hk, (by simp [Value.ownBlock])⟩)⟩, ⟨by first | exact Kd.R_nil _ _ _ _ _ | exact Kd.N_nil _ _ _ _ _ | exact Kd.V_nil _ _ _ _ _ | exact Kd.Q_nil _ _ _ _ _ | exact Kd.S_nil _ _ _ _ _⟩, ⟨m27_⟩⟩
   clear H'
   try clear c1; try clear p2; try clear c4; try clear c5; try clear c6; try clear c6b0; try clear p6; try clear c7; try clear c8; try clear c13; try clear c40; try clear c51; try clear p2
   obtain ⟨x0_2, x9_2, x67_2, rfl, HA, HK2, HO_0, HO_9, HB⟩ := hrel
   cases gk with
   | zero => exact absurd HA.out (by simp [merkle_Apply.l1])
   | succ k2 =>
    have H := HA.out
    clear HA
    simp only [merkle_Apply.l1] at H
    by_cases c52 : x67_2 < (l1.length : Int)
    case neg =>
     rw [if_neg c52] at H
     have c52b0 : decide (x67_2 < (l1.length : Int)) = false := decide_eq_false c52
     clear c52
     by_cases c85 : x9_2.length + x0_2.length < 4398046511104
     case neg =>
      rw [if_neg c85] at H
      exact absurd H (by simp)
     rw [if_pos c85] at H
     have LMc85 := Aside0.mk c85
     clear c85
     obtain ⟨y230, hy230⟩ : ∃ y_ : List (S44), y_ = (x9_2 ++ x0_2) := ⟨_, rfl⟩
     replace H : (if (y230.length : Int) > 1024 then (some (([] : List (S44)), 2)) else (some (y230, 0))) = some (r1, r2) := by first | (rw [hy230]; with_reducible exact H) | (have H2_ := (Option.bind_some _ _).symm.trans H; rw [hy230]; with_reducible exact H2_) | (have H2_ := (Option.bind_some _ _).symm.trans H; with_reducible exact H2_) | with_reducible exact H | (rw [hy230]; exact H) | exact H
     have Ny230 := Aside0.mk hy230
     clear hy230
     by_cases c86 : (y230.length : Int) > 1024
     case neg =>
      rw [if_neg c86] at H
      have c86b0 : decide (1024 < (y230.length : Int)) = false := decide_eq_false c86
      have c86b1 : decide (1024 < y230.length) = false := decide_eq_false (by omega)
      clear c86
      simp only [Option.some.injEq, Prod.mk.injEq] at H
      obtain ⟨rfl, rfl⟩ := H
      obtain ⟨Ao91, co91, eo91⟩ := Kd.V_slice HO_0.out
      subst eo91
      go_wp2_with (first | ((with_reducible refine gate_builtin (b := .append) (xs := #[.tmp 117, .tmp 118]) rfl ?_); at_builtin; refine Kd.R_append_rows k44 (w0 := w) w.heap.size rfl (.tmp 117) (.tmp 118) 26 44 (.agg #[(.string ⟨#[]⟩), (.string ⟨#[]⟩)]) 32 rfl Tryd.underlying26 info44 rfl (by decide) (by omega) u9 x9_2 x0_2 _ _ _ (fun k_ => (w.heap.size ≤ k_)) (fun _ => False) rfl rfl ?aO ?aR (fun _ _ h => h) (fun _ h => h.elim) ?aF ?aB ?aS ?aL ?_; (case aR => exact m21_); (case aB => exact m7_); (case aF => exact (fun k_ hk => (Nat.le_trans (below_size m7_) hk))); (case aO => exact (by (with_reducible repeat (first | apply Kd.R_alloc | apply Kd.R_drewN | apply Kd.R_drew)); exact HO_9.out)); (case aS => exact (below_size m7_)); (case aL => have := LMc85.out; omega); intro v231 w90 ho hb hg hat; rw [← Ny230.out] at ho; have n0_ := Aside0.mk (Kd.V_afterv (ok := (fun k_ => (P0_ k_ ∨ w.heap.size ≤ k_))) m14_ hg hat); have n1_ := Aside0.mk (hb); have n2_ := Aside0.mk (ho); clear HO_0; clear HB; clear HO_9; have HO_0 := n0_; have HB := n1_; have HO232 := n2_; clear n0_ n1_ n2_; clear ho hb hg hat; obtain ⟨Ao92, co92, eo92⟩ := Kd.R_slice HO232.out; subst eo92))
      go_ret2
      exact ⟨_, by first | rfl | (simp [errW_none, errW_some] <;> rfl) | (simp [*, errW_none, errW_some] <;> rfl), by (with_reducible repeat (first | apply Kd.R_alloc | apply Kd.R_drewN | apply Kd.R_drew)); exact HO232.out, m27_⟩
     rw [if_pos c86] at H
     have c86b0 : decide (1024 < (y230.length : Int)) = true := decide_eq_true c86
     have c86b1 : decide (1024 < y230.length) = true := decide_eq_true (by omega)
     clear c86
     simp only [Option.some.injEq, Prod.mk.injEq] at H
     obtain ⟨rfl, rfl⟩ := H
     obtain ⟨Ao88, co88, eo88⟩ := Kd.V_slice HO_0.out
     subst eo88
     go_wp2_with (first | ((with_reducible refine gate_builtin (b := .append) (xs := #[.tmp 117, .tmp 118]) rfl ?_); at_builtin; refine Kd.R_append_rows k44 (w0 := w) w.heap.size rfl (.tmp 117) (.tmp 118) 26 44 (.agg #[(.string ⟨#[]⟩), (.string ⟨#[]⟩)]) 32 rfl Tryd.underlying26 info44 rfl (by decide) (by omega) u9 x9_2 x0_2 _ _ _ (fun k_ => (w.heap.size ≤ k_)) (fun _ => False) rfl rfl ?aO ?aR (fun _ _ h => h) (fun _ h => h.elim) ?aF ?aB ?aS ?aL ?_; (case aR => exact m21_); (case aB => exact m7_); (case aF => exact (fun k_ hk => (Nat.le_trans (below_size m7_) hk))); (case aO => exact (by (with_reducible repeat (first | apply Kd.R_alloc | apply Kd.R_drewN | apply Kd.R_drew)); exact HO_9.out)); (case aS => exact (below_size m7_)); (case aL => have := LMc85.out; omega); intro v231 w87 ho hb hg hat; rw [← Ny230.out] at ho; have n0_ := Aside0.mk (Kd.V_afterv (ok := (fun k_ => (P0_ k_ ∨ w.heap.size ≤ k_))) m14_ hg hat); have n1_ := Aside0.mk (hb); have n2_ := Aside0.mk (ho); clear HO_0; clear HB; clear HO_9; have HO_0 := n0_; have HB := n1_; have HO232 := n2_; clear n0_ n1_ n2_; clear ho hb hg hat; obtain ⟨Ao89, co89, eo89⟩ := Kd.R_slice HO232.out; subst eo89))
     go_ret2
     exact ⟨_, by first | rfl | (simp [errW_none, errW_some] <;> rfl) | (simp [*, errW_none, errW_some] <;> rfl), by first | exact Kd.R_nil _ _ _ _ _ | exact Kd.N_nil _ _ _ _ _ | exact Kd.V_nil _ _ _ _ _ | exact Kd.Q_nil _ _ _ _ _ | exact Kd.S_nil _ _ _ _ _, m27_⟩
    rw [if_pos c52] at H
    have c52b0 : decide (x67_2 < (l1.length : Int)) = true := decide_eq_true c52
    clear c52
    by_cases c53 : 0 ≤ x67_2
    case neg =>
     rw [if_neg c53] at H
     exact absurd H (by simp)
    rw [if_pos c53] at H
    have c53b0 : decide (0 ≤ x67_2) = true := decide_eq_true c53
    clear c53
    by_cases c54 : x67_2 < (l1.length : Int)
    case neg =>
     rw [if_neg c54] at H
     exact absurd H (by simp)
    rw [if_pos c54] at H
    have c54b0 : decide (x67_2 < (l1.length : Int)) = true := decide_eq_true c54
    clear c54
    replace H := Option.bind_eq_some_iff.mp H
    obtain ⟨t206, A550, H⟩ := H
    replace H : (if 0 ≤ t206 then (if t206 ≤ (x0_2.length : Int) then ((some (x0_2.take (t206 : Int).toNat : List (S44))).bind fun y207 => (if x9_2.length + y207.length < 4398046511104 then ((some (x9_2 ++ y207 : List (S44))).bind fun y212 => ((some (x0_2.drop (t206 : Int).toNat : List (S44))).bind fun y215 => (if (y215.length : Int) > 0 then (if 0 < (y215.length : Int) then (merkle_Apply.j3 k2 y215 y212 (⟨#[]⟩ : ByteArray) l1 (l1.length : Int) x67_2 (((rd_T44 y215 0).f0).toList == ((rd_T66 l1 x67_2).f0).toList) ((rd_T66 l1 x67_2).f0) ((rd_T66 l1 x67_2).f1) ((rd_T66 l1 x67_2).f2)) else (none)) else (merkle_Apply.j3 k2 y215 y212 (⟨#[]⟩ : ByteArray) l1 (l1.length : Int) x67_2 false ((rd_T66 l1 x67_2).f0) ((rd_T66 l1 x67_2).f1) ((rd_T66 l1 x67_2).f2))))) else (none))) else (none)) else (none)) = some (r1, r2) := H
    have A55 := Aside0.mk A550
    clear A550
    by_cases c56 : 0 ≤ t206
    case neg =>
     rw [if_neg c56] at H
     exact absurd H (by simp)
    rw [if_pos c56] at H
    have c56b0 := eq_true c56
    have c56b1 : decide (0 ≤ t206) = true := decide_eq_true c56
    clear c56
    by_cases c57 : t206 ≤ (x0_2.length : Int)
    case neg =>
     rw [if_neg c57] at H
     exact absurd H (by simp)
    rw [if_pos c57] at H
    have c57b0 := eq_true c57
    have c57b1 : decide (t206 ≤ (x0_2.length : Int)) = true := decide_eq_true c57
    clear c57
    obtain ⟨y207, hy207⟩ : ∃ y_ : List (S44), y_ = (x0_2.take (t206 : Int).toNat) := ⟨_, rfl⟩
    replace H : (if x9_2.length + y207.length < 4398046511104 then ((some (x9_2 ++ y207 : List (S44))).bind fun y212 => ((some (x0_2.drop (t206 : Int).toNat : List (S44))).bind fun y215 => (if (y215.length : Int) > 0 then (if 0 < (y215.length : Int) then (merkle_Apply.j3 k2 y215 y212 (⟨#[]⟩ : ByteArray) l1 (l1.length : Int) x67_2 (((rd_T44 y215 0).f0).toList == ((rd_T66 l1 x67_2).f0).toList) ((rd_T66 l1 x67_2).f0) ((rd_T66 l1 x67_2).f1) ((rd_T66 l1 x67_2).f2)) else (none)) else (merkle_Apply.j3 k2 y215 y212 (⟨#[]⟩ : ByteArray) l1 (l1.length : Int) x67_2 false ((rd_T66 l1 x67_2).f0) ((rd_T66 l1 x67_2).f1) ((rd_T66 l1 x67_2).f2))))) else (none)) = some (r1, r2) := by first | (rw [hy207]; with_reducible exact H) | (have H2_ := (Option.bind_some _ _).symm.trans H; rw [hy207]; with_reducible exact H2_) | (have H2_ := (Option.bind_some _ _).symm.trans H; with_reducible exact H2_) | with_reducible exact H | (rw [hy207]; exact H) | exact H
    have Ny207 := Aside0.mk hy207
    clear hy207
    by_cases c58 : x9_2.length + y207.length < 4398046511104
    case neg =>
     rw [if_neg c58] at H
     exact absurd H (by simp)
    rw [if_pos c58] at H
    have LMc58 := Aside0.mk c58
    clear c58
    obtain ⟨y212, hy212⟩ : ∃ y_ : List (S44), y_ = (x9_2 ++ y207) := ⟨_, rfl⟩
    replace H : ((some (x0_2.drop (t206 : Int).toNat : List (S44))).bind fun y215 => (if (y215.length : Int) > 0 then (if 0 < (y215.length : Int) then (merkle_Apply.j3 k2 y215 y212 (⟨#[]⟩ : ByteArray) l1 (l1.length : Int) x67_2 (((rd_T44 y215 0).f0).toList == ((rd_T66 l1 x67_2).f0).toList) ((rd_T66 l1 x67_2).f0) ((rd_T66 l1 x67_2).f1) ((rd_T66 l1 x67_2).f2)) else (none)) else (merkle_Apply.j3 k2 y215 y212 (⟨#[]⟩ : ByteArray) l1 (l1.length : Int) x67_2 false ((rd_T66 l1 x67_2).f0) ((rd_T66 l1 x67_2).f1) ((rd_T66 l1 x67_2).f2)))) = some (r1, r2) := by first | (rw [hy212]; with_reducible exact H) | (have H2_ := (Option.bind_some _ _).symm.trans H; rw [hy212]; with_reducible exact H2_) | (have H2_ := (Option.bind_some _ _).symm.trans H; with_reducible exact H2_) | with_reducible exact H | (rw [hy212]; exact H) | exact H
    have Ny212 := Aside0.mk hy212
    clear hy212
    have c59b0 := eq_true (of_decide_eq_true m18_ : 0 ≤ t206)
    have c60b0 := eq_true (of_decide_eq_true m18_ : t206 ≤ (x0_2.length : Int))
    obtain ⟨y215, hy215⟩ : ∃ y_ : List (S44), y_ = (x0_2.drop (t206 : Int).toNat) := ⟨_, rfl⟩
    replace H : (if (y215.length : Int) > 0 then (if 0 < (y215.length : Int) then (merkle_Apply.j3 k2 y215 y212 (⟨#[]⟩ : ByteArray) l1 (l1.length : Int) x67_2 (((rd_T44 y215 0).f0).toList == ((rd_T66 l1 x67_2).f0).toList) ((rd_T66 l1 x67_2).f0) ((rd_T66 l1 x67_2).f1) ((rd_T66 l1 x67_2).f2)) else (none)) else (merkle_Apply.j3 k2 y215 y212 (⟨#[]⟩ : ByteArray) l1 (l1.length : Int) x67_2 false ((rd_T66 l1 x67_2).f0) ((rd_T66 l1 x67_2).f1) ((rd_T66 l1 x67_2).f2))) = some (r1, r2) := by first | (rw [hy215]; with_reducible exact H) | (have H2_ := (Option.bind_some _ _).symm.trans H; rw [hy215]; with_reducible exact H2_) | (have H2_ := (Option.bind_some _ _).symm.trans H; with_reducible exact H2_) | with_reducible exact H | (rw [hy215]; exact H) | exact H
    have Ny215 := Aside0.mk hy215
    clear hy215
    have HC61 := Aside0.mk H
    clear H
    have p204 : 0 ≤ (x67_2 : Int) := of_decide_eq_true m18_
    have q204 : x67_2 < (l1.length : Int) := of_decide_eq_true m18_
    obtain ⟨ad204, e204, hx204_0, hx204_1, hx204_2⟩ := at_T66 HR1.out x67_2 p204 q204
    cases e204
    replace hx204_0 := (HB.out.cell (World.block_lt_of_cell? w _ hx204_0)).trans hx204_0
    replace hx204_1 := (HB.out.cell (World.block_lt_of_cell? w _ hx204_1)).trans hx204_1
    replace hx204_2 := (HB.out.cell (World.block_lt_of_cell? w _ hx204_2)).trans hx204_2
    replace p204 := eq_true p204
    replace q204 := eq_true q204
    go_upto_region 18 with (first | ((with_reducible refine gate_dst (N := 11) rfl ?_); refine box_event ?hg (N := 11) ?hd (cs := #[.string (⟨#[]⟩ : ByteArray), .string (⟨#[]⟩ : ByteArray), .string (⟨#[]⟩ : ByteArray)]) (t := 66) ?hr ?_; (case hd => rfl); (case hg => rfl); (case hr => first | (go_simp; done) | (go_simp; rfl)); intro gb205 hg w62 hbox hb; have n0_ := Aside0.mk (Kd.V_below (Kd.V_elderB m14_ gb205 (Nat.le_of_eq hg.symm)) hb); have n1_ := Aside0.mk (Kd.R_below (by (with_reducible repeat (first | apply Kd.R_alloc | apply Kd.R_drewN | apply Kd.R_drew)); exact HO_9.out) hb); have n2_ := Aside0.mk (below_step m7_ hb); have n3_ := Aside0.mk (hbox); have n4_ := Aside0.mk ((by rw [hg]; exact (below_size m7_) : w.heap.size ≤ gb205)); have n5_ := Aside0.mk ((by rw [hg]; exact (below_size m7_) : w.heap.size ≤ gb205)); clear HO_0; clear HO_9; clear HB; have HO_0 := n0_; have HO_9 := n1_; have HB := n2_; have BK205 := n3_; have GW205 := n4_; have GE205 := n5_; clear n0_ n1_ n2_ n3_ n4_ n5_; clear hb hbox hg; obtain ⟨hcz63_0, hcz63_1, hcz63_2⟩ := bc3_ BK205.out; obtain ⟨hfz63_0, hfz63_1, hfz63_2⟩ := bf3_ BK205.out; obtain ⟨Ao64, co64, eo64⟩ := Kd.V_slice HO_0.out; subst eo64) | ((with_reducible refine gate_callee (f := 58) rfl ?_); refine goesL_ (some 74) rfl rfl Tryd.func58 (by kernel_rfl) rfl #[.slice Ao64 x0_2.length co64, .string ((rd_T66 l1 x67_2).f0)] rfl m6_ ?_; (with_reducible refine (merkle_place.calls _ _ x0_2 ((rd_T66 l1 x67_2).f0) t206 _ ?side1 ?side2 A55.out).mono ?_); (case side1 => refine (Kd.V_reads' (e := 44) (base := w.heap.size) (ok := fun k_ => (((P0_ k_ ∨ w.heap.size ≤ k_) ∧ some k_ ≠ (u9 : Value).ownBlock) ∧ k_ ≠ gb205)) (n := x0_2.length) (c := co64) ?_).2.2; exact (by (with_reducible repeat (first | apply Kd.V_alloc | apply Kd.V_drewN | apply Kd.V_drew)); exact (Kd.V_mono (Kd.V_far (p := ⟨gb205, 2, none⟩) (Kd.V_far (p := ⟨gb205, 1, none⟩) (Kd.V_far (p := ⟨gb205, 0, none⟩) (Kd.V_mono HO_0.out (fun k_ hk => (⟨hk, hk.2⟩ : _ ∧ k_ ≠ gb205))) (fun _ hk => hk.2) (.string ((rd_T66 l1 x67_2).f0))) (fun _ hk => hk.2) (.string ((rd_T66 l1 x67_2).f1))) (fun _ hk => hk.2) (.string ((rd_T66 l1 x67_2).f2))) (fun _ h_ => h_.1)))); (case side2 => exact (Kd.V_reads' HO_0.out).2.1); rintro e w65 ⟨rfl, hb⟩; refine ⟨_, rfl, ?_⟩; have n0_ := Aside0.mk (Kd.V_below (by (with_reducible repeat (first | apply Kd.V_alloc | apply Kd.V_drewN | apply Kd.V_drew)); exact (Kd.V_mono (Kd.V_far (p := ⟨gb205, 2, none⟩) (Kd.V_far (p := ⟨gb205, 1, none⟩) (Kd.V_far (p := ⟨gb205, 0, none⟩) (Kd.V_mono HO_0.out (fun k_ hk => (⟨hk, hk.2⟩ : _ ∧ k_ ≠ gb205))) (fun _ hk => hk.2) (.string ((rd_T66 l1 x67_2).f0))) (fun _ hk => hk.2) (.string ((rd_T66 l1 x67_2).f1))) (fun _ hk => hk.2) (.string ((rd_T66 l1 x67_2).f2))) (fun _ h_ => h_.1))) hb); have n1_ := Aside0.mk (Kd.R_below (by (with_reducible repeat (first | apply Kd.R_alloc | apply Kd.R_drewN | apply Kd.R_drew)); exact (Kd.R_mono (Kd.R_far (p := ⟨gb205, 2, none⟩) (Kd.R_far (p := ⟨gb205, 1, none⟩) (Kd.R_far (p := ⟨gb205, 0, none⟩) (Kd.R_types HO_9.out BK205.out (by decide)) (fun _ hk => hk.2) (.string ((rd_T66 l1 x67_2).f0))) (fun _ hk => hk.2) (.string ((rd_T66 l1 x67_2).f1))) (fun _ hk => hk.2) (.string ((rd_T66 l1 x67_2).f2))) (fun _ h_ => h_.1))) hb); have n2_ := Aside0.mk (blk_below (g := gb205) (o := .cells #[.string ((rd_T66 l1 x67_2).f0), .string ((rd_T66 l1 x67_2).f1), .string ((rd_T66 l1 x67_2).f2)] 66 (0, 0)) (by (with_reducible repeat (first | refine blk_drewN ?_ _ | refine blk_drew ?_ | refine blk_alloc ?_ _)); refine blk_put (cs := #[.string ((rd_T66 l1 x67_2).f0), .string ((rd_T66 l1 x67_2).f1), .string (⟨#[]⟩ : ByteArray)]) ?_ 2 _ rfl; (with_reducible repeat (first | refine blk_drewN ?_ _ | refine blk_drew ?_ | refine blk_alloc ?_ _)); refine blk_put (cs := #[.string ((rd_T66 l1 x67_2).f0), .string (⟨#[]⟩ : ByteArray), .string (⟨#[]⟩ : ByteArray)]) ?_ 1 _ rfl; (with_reducible repeat (first | refine blk_drewN ?_ _ | refine blk_drew ?_ | refine blk_alloc ?_ _)); refine blk_put (cs := #[.string (⟨#[]⟩ : ByteArray), .string (⟨#[]⟩ : ByteArray), .string (⟨#[]⟩ : ByteArray)]) ?_ 0 _ rfl; (with_reducible repeat (first | refine blk_drewN ?_ _ | refine blk_drew ?_ | refine blk_alloc ?_ _)); exact BK205.out) hb); have n3_ := Aside0.mk (below_step m3_ hb); clear HO_0; clear HO_9; clear BK205; clear HB; have HO_0 := n0_; have HO_9 := n1_; have BK205 := n2_; have HB := n3_; clear n0_ n1_ n2_ n3_; (try clear hb); (try clear hb2); (try clear hk); (try clear hi); have q66 : (t206 : Int) ≤ ((x0_2.length : Int) : Int) := of_decide_eq_true m18_; obtain ⟨i066, hi066, _, hsz66, _⟩ := info_parts info44; have hroom66 : x0_2.length ≤ co64 := (Kd.V_reads' HO_0.out).2.1; have hC66 : Kd.F k44 _ _ Ao64 x0_2.length x0_2 := (Kd.V_at (base := w.heap.size) HO_0.out).2.2; have hcut66 := cut_to (P := Tryd.prog) 26 44 .i64 Tryd.underlying26 hi066 Ao64 x0_2.length co64 t206 (of_decide_eq_true m18_) q66 hroom66; have hr66 := Kd.F_take (m := (t206 : Int).toNat) hC66 (by omega); have hy66 : y207.length = (t206 : Int).toNat := (by rw [Ny207.out, List.length_take]; omega); rw [← Ny207.out] at hr66; rw [← hy66] at hcut66; have HO211 := Aside0.mk (show Kd.V k44 44 _ w.heap.size _ (.slice Ao64 y207.length co64) y207 from Kd.V_mk (by omega) hr66); have HC211 := Aside0.mk (show y207.length ≤ co64 from by omega); clear hr66 hC66 hroom66 hi066 hsz66; have KY66 := Aside0.mk hy66; clear hy66; replace q66 := eq_true q66) | ((with_reducible refine gate_builtin (b := .append) (xs := #[.tmp 75, .tmp 78]) rfl ?_); at_builtin; refine Kd.R_append_rows k44 (w0 := w) w.heap.size rfl (.tmp 75) (.tmp 78) 26 44 (.agg #[(.string ⟨#[]⟩), (.string ⟨#[]⟩)]) 32 rfl Tryd.underlying26 info44 rfl (by decide) (by omega) u9 x9_2 y207 _ _ _ (fun k_ => (w.heap.size ≤ k_)) (fun _ => False) rfl rfl ?aO ?aR (fun _ _ h => h) (fun _ h => h.elim) ?aF ?aB ?aS ?aL ?_; (case aR => repeat (first | exact (Kd.V_reads' HO211.out).2.2 | (with_reducible refine Kd.C_alloc ?_ _) | (with_reducible refine Kd.C_drewN ?_ _) | (with_reducible refine Kd.C_drew ?_))); (case aB => exact m3_); (case aF => exact (fun k_ hk => (Nat.le_trans (below_size m3_) hk))); (case aO => exact (by (with_reducible repeat (first | apply Kd.R_alloc | apply Kd.R_drewN | apply Kd.R_drew)); exact HO_9.out)); (case aS => exact (below_size m3_)); (case aL => have := LMc58.out; omega); intro v213 w67 ho hb hg hat; rw [← Ny212.out] at ho; have n0_ := Aside0.mk (Kd.V_afterv (ok := (fun k_ => (P0_ k_ ∨ w.heap.size ≤ k_) ∧ k_ ≠ gb205)) (by (with_reducible repeat (first | apply Kd.V_alloc | apply Kd.V_drewN | apply Kd.V_drew)); exact Kd.V_mono HO_0.out (fun _ hk => ⟨⟨hk.1.1, hk.2⟩, hk.1.2⟩)) hg hat); have n1_ := Aside0.mk (blk_grown (g := gb205) (o := .cells #[.string ((rd_T66 l1 x67_2).f0), .string ((rd_T66 l1 x67_2).f1), .string ((rd_T66 l1 x67_2).f2)] 66 (0, 0)) (by (with_reducible repeat (first | refine blk_drewN ?_ _ | refine blk_drew ?_ | refine blk_alloc ?_ _)); exact BK205.out) hg (Kd.R_ne HO_9.out BK205.out (by decide))); have n2_ := Aside0.mk (Kd.V_afterv (ok := (fun k_ => (P0_ k_ ∨ w.heap.size ≤ k_) ∧ k_ ≠ gb205)) (by (with_reducible repeat (first | apply Kd.V_alloc | apply Kd.V_drewN | apply Kd.V_drew)); exact Kd.V_mono HO211.out (fun _ hk => ⟨⟨hk.1.1, hk.2⟩, hk.1.2⟩)) hg hat); have n3_ := Aside0.mk (hb); have n4_ := Aside0.mk (ho); clear HO_0; clear BK205; clear HO211; clear HB; clear HO_9; have HO_0 := n0_; have BK205 := n1_; have HO211 := n2_; have HB := n3_; have HO214 := n4_; clear n0_ n1_ n2_ n3_ n4_; clear ho hb hg hat; have q68 : (t206 : Int) ≤ ((x0_2.length : Int) : Int) := of_decide_eq_true m18_; obtain ⟨i068, hi068, _, hsz68, _⟩ := info_parts info44; have hroom68 : x0_2.length ≤ co64 := (Kd.V_reads' HO_0.out).2.1; have hC68 : Kd.F k44 _ _ Ao64 x0_2.length x0_2 := (Kd.V_at (base := w.heap.size) HO_0.out).2.2; have q068 : (0 : Int) ≤ (t206 : Int) := of_decide_eq_true m18_; have hcut68 := cut_from (P := Tryd.prog) 26 44 .i64 Tryd.underlying26 hi068 2 hsz68 Ao64 x0_2.length co64 t206 q068 q68; have hr68 := Kd.F_cut (m := (t206 : Int).toNat) (c := co64) hC68 (by omega) hroom68; obtain ⟨A68, hA68⟩ : ∃ A1, A1 = (if co64 = (t206 : Int).toNat then Ao64 else (Ao64 : Option Addr).map (·.add ((t206 : Int).toNat * 2))) := ⟨_, rfl⟩; obtain ⟨c68, hc68⟩ : ∃ c1, c1 = co64 - (t206 : Int).toNat := ⟨_, rfl⟩; have hy68 : y215.length = x0_2.length - (t206 : Int).toNat := (by rw [Ny215.out, List.length_drop] <;> omega); rw [show (x0_2).drop (t206 : Int).toNat = y215 from Ny215.out.symm] at hr68; replace hr68 : Kd.F k44 _ _ A68 y215.length y215 := (by rw [hA68]; exact hr68); rw [← hy68, ← hA68, ← hc68] at hcut68; have HO219 := Aside0.mk (show Kd.V k44 44 _ w.heap.size _ (.slice A68 y215.length c68) y215 from Kd.V_mk (by rw [hy68, hc68]; exact Nat.sub_le_sub_right hroom68 _) hr68); have HC219 := Aside0.mk (show y215.length ≤ c68 from by rw [hy68, hc68]; exact Nat.sub_le_sub_right hroom68 _); clear hr68 hC68 hroom68 hi068 hsz68 hc68; have KY68 := Aside0.mk hy68; have KA68 := Aside0.mk hA68; clear hy68 hA68; replace q68 := eq_true q68))
    (try simp only [Act.put, List.setIfInBounds_toArray, List.set_cons_zero, List.set_cons_succ])
    go_cut [94] (fun v94 wc => ∃ (kq : Nat) (x94_60 : Bool), v94 = .bool x94_60 ∧ Aside0 (merkle_Apply.j3 kq y215 y212 (⟨#[]⟩ : ByteArray) l1 (l1.length : Int) x67_2 x94_60 ((rd_T66 l1 x67_2).f0) ((rd_T66 l1 x67_2).f1) ((rd_T66 l1 x67_2).f2) = some (r1, r2)) ∧ Aside0 (kq ≤ k2) ∧ Aside0 (Kd.V k44 44 wc w.heap.size (fun k_ => (P0_ k_ ∨ w.heap.size ≤ k_) ∧ some k_ ≠ (v213 : Value).ownBlock ∧ k_ ≠ gb205) (.slice A68 y215.length c68) y215) ∧ Aside0 (Kd.R k44 44 wc w.heap.size (fun k_ => (w.heap.size ≤ k_)) v213 y212) ∧ Aside0 (wc.heap[gb205]? = some (.cells #[.string ((rd_T66 l1 x67_2).f0), .string ((rd_T66 l1 x67_2).f1), .string ((rd_T66 l1 x67_2).f2)] 66 (0, 0))) ∧ Aside0 (Below w.heap.size w wc))
    case first =>
     have H := HC61.out
     clear HC61
     by_cases c69 : (y215.length : Int) > 0
     case neg =>
      rw [if_neg c69] at H
      have c69b0 : decide (0 < (y215.length : Int)) = false := decide_eq_false c69
      have c69b1 : decide (0 < y215.length) = false := decide_eq_false (by omega)
      clear c69
      (first | rw [c69b0] | (simp only [i64_w, i32_w]; rw [c69b0]) | skip)
      have H' := Aside0.mk H
      clear H
      try go_wp2
      replace HO_0 := Aside0.mk (Kd.V_drew HO_0.out)
      replace HO211 := Aside0.mk (Kd.V_drew HO211.out)
      replace HO214 := Aside0.mk (Kd.R_drew HO214.out)
      replace HO219 := Aside0.mk (Kd.V_drew HO219.out)
      replace BK205 := Aside0.mk (blk_drew BK205.out)
      replace HB := Aside0.mk (below_drew1 HB.out)
      refine start_ (n := 12) (S := fun w' => True) (ds := []) (Ra_ [0, 12]) (by kernel_rfl) rfl rfl trivial (fun hHeld => ?_); refine with_tabW merkle_Apply.tab18 merkle_Apply.bits18 (fun HT_ HW_ => ?_)
      generalize w67.drew = w72 at HO_0 HO211 HO214 HO219 BK205 HB hHeld ⊢
      refine pI_ 0 (some 83) (Ra_ [1, 11]) (h := ?_)
      refine pI_ 1 (some 84) (Ra_ [2, 10]) (h := ?_)
      refine pI_ 2 (some 85) (Ra_ [3, 9]) (h := ?_)
      refine pI_ 3 (some 86) (Ra_ [4, 8]) (h := ?_)
      refine uI_ 4 (some 87) (Ra_ [5, 7]) (h := ?_)
      refine uI_ 5 (some 88) (Ra_ [6, 6]) (h := ?_)
      refine uI_ 6 (some 89) (Ra_ [7, 5]) (h := ?_)
      refine uI_ 7 (some 90) (Ra_ [8, 4]) (h := ?_)
      refine uI_ 8 (some 91) (Ra_ [9, 3]) (h := ?_)
      refine uI_ 9 (some 92) (Ra_ [10, 2]) (h := ?_)
      refine uI_ 10 (some 93) (Ra_ [11, 1]) (h := ?_)
      refine pI_ 11 (some 94) (Ra_ [12]) (h := ?_)
      refine done_ (done_of HT_.out (by kernel_rfl)) ?_
      try go_wp2
      go_meet
      case rel => exact ⟨_, (false), m19_, H', ⟨by have := HK1.out; have := HK2.out; first | omega | exact Nat.le_refl _⟩, ⟨by (with_reducible repeat (first | apply Kd.V_alloc | apply Kd.V_drewN | apply Kd.V_drew)); exact Kd.V_mono HO219.out (fun _ hk => ⟨hk.1.1, ⟨hk.2, hk.1.2⟩⟩)⟩, ⟨by (with_reducible repeat (first | apply Kd.R_alloc | apply Kd.R_drewN | apply Kd.R_drew)); exact HO214.out⟩, ⟨by (with_reducible repeat (first | refine blk_drewN ?_ _ | refine blk_drew ?_ | refine blk_alloc ?_ _)); exact BK205.out⟩, ⟨m24_⟩⟩
     rw [if_pos c69] at H
     have c69b0 : decide (0 < (y215.length : Int)) = true := decide_eq_true c69
     have c69b1 : decide (0 < y215.length) = true := decide_eq_true (by omega)
     clear c69
     (first | rw [c69b0] | (simp only [i64_w, i32_w]; rw [c69b0]) | skip)
     by_cases c70 : 0 < (y215.length : Int)
     case neg =>
      rw [if_neg c70] at H
      exact absurd H (by simp)
     rw [if_pos c70] at H
     have c70b0 : decide (0 < (y215.length : Int)) = true := decide_eq_true c70
     have c70b1 : decide (0 < y215.length) = true := decide_eq_true (by omega)
     clear c70
     have H' := Aside0.mk H
     clear H
     try go_wp2
     replace HO_0 := Aside0.mk (Kd.V_drew HO_0.out)
     replace HO211 := Aside0.mk (Kd.V_drew HO211.out)
     replace HO214 := Aside0.mk (Kd.R_drew HO214.out)
     replace HO219 := Aside0.mk (Kd.V_drew HO219.out)
     replace BK205 := Aside0.mk (blk_drew BK205.out)
     replace HB := Aside0.mk (below_drew1 HB.out)
     have p220 : 0 ≤ (0 : Int) := (by omega)
     have q220 : 0 < (y215.length : Int) := of_decide_eq_true m18_
     obtain ⟨ad220, e220, hx220_0, hx220_1⟩ := at_T44 (Kd.V_reads' HO219.out).2.2 0 p220 q220
     cases e220
     have qi220 : (0 < y215.length) = True := eq_true (by omega)
     (try rw [show ((0 : Int)).toNat = 0 from rfl] at hx220_0)
     (try rw [show 0 * 2 = 0 from rfl] at hx220_0)
     (try rw [Addr.add_zero'] at hx220_0)
     (try rw [show ((0 : Int)).toNat = 0 from rfl] at hx220_1)
     (try rw [show 0 * 2 = 0 from rfl] at hx220_1)
     (try rw [Addr.add_zero'] at hx220_1)
     replace p220 := eq_true p220
     replace q220 := eq_true q220
     refine start_ (n := 12) (S := fun w' => w'.cell? ⟨gb205, 0, none⟩ = some (.string ((rd_T66 l1 x67_2).f0)) ∧ w'.cell? ⟨gb205, 1, none⟩ = some (.string ((rd_T66 l1 x67_2).f1)) ∧ w'.cell? ⟨gb205, 2, none⟩ = some (.string ((rd_T66 l1 x67_2).f2)) ∧ w'.cell? ad220 = some (.string ((rd_T44 y215 0).f0)) ∧ w'.cell? ⟨ad220.block, ad220.off + 1, none⟩ = some (.string ((rd_T44 y215 0).f1))) (ds := []) (Ra_ [0, 12]) (by kernel_rfl) rfl rfl ⟨(blk_cell BK205.out 0).trans rfl, (blk_cell BK205.out 1).trans rfl, (blk_cell BK205.out 2).trans rfl, hx220_0, hx220_1⟩ (fun hHeld => ?_); refine with_tabW merkle_Apply.tab18 merkle_Apply.bits18 (fun HT_ HW_ => ?_)
     generalize w67.drew = w71 at HO_0 HO211 HO214 HO219 BK205 HB hx220_0 hx220_1 hHeld ⊢
     refine pI_ 0 (some 83) (Ra_ [1, 11]) (h := ?_)
     refine pI_ 1 (some 84) (Ra_ [2, 10]) (h := ?_)
     refine pI_ 2 (some 85) (Ra_ [3, 9]) (h := ?_)
     refine pI_ 3 (some 86) (Ra_ [4, 8]) (h := ?_)
     refine pI_ 4 (some 87) (Ra_ [5, 7]) (h := ?_)
     refine pI_ 5 (some 88) (Ra_ [6, 6]) (h := ?_)
     refine pI_ 6 (some 89) (Ra_ [7, 5]) (h := ?_)
     refine pI_ 8 (some 91) (Ra_ [7, 1, 1, 3]) (h := ?_)
     refine tI5_ 7 (some 90) (Ra_ [9, 3]) (h := ?_)
     refine tI5_ 9 (some 92) (Ra_ [10, 2]) (h := ?_)
     refine pI_ 10 (some 93) (Ra_ [11, 1]) (h := ?_)
     refine pI_ 11 (some 94) (Ra_ [12]) (h := ?_)
     refine done_ (done_of HT_.out (by kernel_rfl)) ?_
     try go_wp2
     go_meet
     case rel => exact ⟨_, ((((rd_T44 y215 0).f0).toList == ((rd_T66 l1 x67_2).f0).toList)), m19_, H', ⟨by have := HK1.out; have := HK2.out; first | omega | exact Nat.le_refl _⟩, ⟨by (with_reducible repeat (first | apply Kd.V_alloc | apply Kd.V_drewN | apply Kd.V_drew)); exact Kd.V_mono HO219.out (fun _ hk => ⟨hk.1.1, ⟨hk.2, hk.1.2⟩⟩)⟩, ⟨by (with_reducible repeat (first | apply Kd.R_alloc | apply Kd.R_drewN | apply Kd.R_drew)); exact HO214.out⟩, ⟨by (with_reducible repeat (first | refine blk_drewN ?_ _ | refine blk_drew ?_ | refine blk_alloc ?_ _)); exact BK205.out⟩, ⟨m24_⟩⟩
    clear HC61
    try clear c1; try clear p2; try clear q2; try clear hx2; try clear qi2; try clear c4; try clear c5; try clear c6; try clear c6b0; try clear p6; try clear q6; try clear c7; try clear c8; try clear c13; try clear p20; try clear q20; try clear hx20; try clear p22; try clear q22; try clear hx22; try clear qi22; try clear c40; try clear c51; try clear c52; try clear c52b0; try clear c53; try clear c53b0; try clear c54; try clear c54b0; try clear c56; try clear c56b0; try clear c56b1; try clear c57; try clear c57b0; try clear c57b1; try clear c58; try clear c59; try clear c59b0; try clear c60; try clear c60b0; try clear p64; try clear q66; try clear c68; try clear q68; try clear c69; try clear c69b0; try clear c69b1; try clear c70; try clear c70b0; try clear c70b1; try clear hcz63_0; try clear hcz63_1; try clear hcz63_2; try clear hfz63_0; try clear hfz63_1; try clear hfz63_2; try clear hx204_0; try clear hx204_1; try clear hx204_2; try clear hx220_0; try clear hx220_1; try clear p2; try clear p204; try clear p220; try clear p6; try clear q068; try clear q204; try clear q220; try clear q66; try clear q68
    obtain ⟨kq, x94_60, rfl, HA, HJ60, HO_0, HO_9, BK205, HB⟩ := hcut
    cases kq with
    | zero => exact absurd HA.out (by simp [merkle_Apply.j3])
    | succ kj60 =>
     have H := HA.out
     clear HA
     simp only [merkle_Apply.j3] at H
     have HC73 := Aside0.mk H
     clear H
     go_upto_if 94 with (fail)
     go_cut [0, 13] (fun v0 v13 wc => ∃ (kq : Nat) (x0_72 : List (S44)) (x13_72 : ByteArray), v13 = .string x13_72 ∧ Aside0 (merkle_Apply.j4 kq x0_72 y212 x13_72 l1 (l1.length : Int) x67_2 ((rd_T66 l1 x67_2).f0) ((rd_T66 l1 x67_2).f1) ((rd_T66 l1 x67_2).f2) = some (r1, r2)) ∧ Aside0 (kq ≤ kj60) ∧ Aside0 (Kd.V k44 44 wc w.heap.size (fun k_ => (P0_ k_ ∨ w.heap.size ≤ k_) ∧ some k_ ≠ (v213 : Value).ownBlock ∧ k_ ≠ gb205) v0 x0_72) ∧ Aside0 (Kd.R k44 44 wc w.heap.size (fun k_ => (w.heap.size ≤ k_)) v213 y212) ∧ Aside0 (wc.heap[gb205]? = some (.cells #[.string ((rd_T66 l1 x67_2).f0), .string ((rd_T66 l1 x67_2).f1), .string ((rd_T66 l1 x67_2).f2)] 66 (0, 0))) ∧ Aside0 (Below w.heap.size w wc))
     case first =>
      have H := HC73.out
      clear HC73
      by_cases c74 : x94_60 = true
      case neg =>
       replace c74 := Bool.eq_false_iff.mpr c74
       subst c74
       have H1 : (merkle_Apply.j4 kj60 y215 y212 (⟨#[]⟩ : ByteArray) l1 (l1.length : Int) x67_2 ((rd_T66 l1 x67_2).f0) ((rd_T66 l1 x67_2).f1) ((rd_T66 l1 x67_2).f2)) = some (r1, r2) := by rw [if_neg (show ¬ (false = true) by decide)] at H; exact H
       clear H
       have H := H1
       clear H1
       have H' := Aside0.mk H
       clear H
       go_wp2
       go_meet
       case rel => exact ⟨_, (y215), ((⟨#[]⟩ : ByteArray)), m19_, H', ⟨by have := HK1.out; have := HK2.out; have := HJ60.out; first | omega | exact Nat.le_refl _⟩, ⟨by (with_reducible repeat (first | apply Kd.V_alloc | apply Kd.V_drewN | apply Kd.V_drew)); exact HO_0.out⟩, ⟨by (with_reducible repeat (first | apply Kd.R_alloc | apply Kd.R_drewN | apply Kd.R_drew)); exact HO_9.out⟩, ⟨by (with_reducible repeat (first | refine blk_drewN ?_ _ | refine blk_drew ?_ | refine blk_alloc ?_ _)); exact BK205.out⟩, ⟨m24_⟩⟩
      subst c74
      have H1 : (if 0 < (y215.length : Int) then (if 1 ≤ (y215.length : Int) then (merkle_Apply.j4 kj60 (y215.drop 1) y212 ((rd_T44 y215 0).f1) l1 (l1.length : Int) x67_2 ((rd_T66 l1 x67_2).f0) ((rd_T66 l1 x67_2).f1) ((rd_T66 l1 x67_2).f2)) else (none)) else (none)) = some (r1, r2) := by rw [if_pos rfl] at H; exact H
      clear H
      have H := H1
      clear H1
      by_cases c75 : 0 < (y215.length : Int)
      case neg =>
       rw [if_neg c75] at H
       exact absurd H (by simp)
      rw [if_pos c75] at H
      have c75b0 : decide (0 < (y215.length : Int)) = true := decide_eq_true c75
      have c75b1 : decide (0 < y215.length) = true := decide_eq_true (by omega)
      clear c75
      (first | rw [c75b0] | (simp only [i64_w, i32_w]; rw [c75b0]) | skip)
      by_cases c76 : 1 ≤ (y215.length : Int)
      case neg =>
       rw [if_neg c76] at H
       exact absurd H (by simp)
      rw [if_pos c76] at H
      have c76b0 := eq_true c76
      have c76b1 : decide (1 ≤ (y215.length : Int)) = true := decide_eq_true c76
      clear c76
      obtain ⟨y222, hy222⟩ : ∃ y_ : List (S44), y_ = (y215.drop 1) := ⟨_, rfl⟩
      replace H : (merkle_Apply.j4 kj60 y222 y212 ((rd_T44 y215 0).f1) l1 (l1.length : Int) x67_2 ((rd_T66 l1 x67_2).f0) ((rd_T66 l1 x67_2).f1) ((rd_T66 l1 x67_2).f2)) = some (r1, r2) := by first | (rw [hy222]; with_reducible exact H) | (have H2_ := (Option.bind_some _ _).symm.trans H; rw [hy222]; with_reducible exact H2_) | (have H2_ := (Option.bind_some _ _).symm.trans H; with_reducible exact H2_) | with_reducible exact H | (rw [hy222]; exact H) | exact H
      have Ny222 := Aside0.mk hy222
      clear hy222
      have H' := Aside0.mk H
      clear H
      have p221 : 0 ≤ (0 : Int) := (by omega)
      have q221 : 0 < (y215.length : Int) := of_decide_eq_true m18_
      obtain ⟨ad221, e221, hx221_0, hx221_1⟩ := at_T44 (Kd.V_reads' HO_0.out).2.2 0 p221 q221
      cases e221
      have qi221 : (0 < y215.length) = True := eq_true (by omega)
      (try rw [show ((0 : Int)).toNat = 0 from rfl] at hx221_0)
      (try rw [show 0 * 2 = 0 from rfl] at hx221_0)
      (try rw [Addr.add_zero'] at hx221_0)
      (try rw [show ((0 : Int)).toNat = 0 from rfl] at hx221_1)
      (try rw [show 0 * 2 = 0 from rfl] at hx221_1)
      (try rw [Addr.add_zero'] at hx221_1)
      replace p221 := eq_true p221
      replace q221 := eq_true q221
      have q77 : (1 : Int) ≤ ((y215.length : Int) : Int) := of_decide_eq_true m18_
      obtain ⟨i077, hi077, _, hsz77, _⟩ := info_parts info44
      have hroom77 : y215.length ≤ c68 := (Kd.V_reads' HO_0.out).2.1
      have hC77 : Kd.F k44 _ _ (some ad221) y215.length y215 := (Kd.V_at (base := w.heap.size) HO_0.out).2.2
      have hcut77 := cut_from (P := Tryd.prog) 26 44 .i64 Tryd.underlying26 hi077 2 hsz77 (some ad221) y215.length c68 1 (by omega) q77
      have hr77 := Kd.F_cut (m := (1 : Int).toNat) (c := c68) hC77 (by omega) hroom77
      obtain ⟨A77, hA77⟩ : ∃ A1, A1 = (if c68 = (1 : Int).toNat then (some ad221) else ((some ad221) : Option Addr).map (·.add ((1 : Int).toNat * 2))) := ⟨_, rfl⟩
      obtain ⟨c77, hc77⟩ : ∃ c1, c1 = c68 - (1 : Int).toNat := ⟨_, rfl⟩
      have hy77 : y222.length = y215.length - (1 : Int).toNat := (by rw [Ny222.out, List.length_drop] <;> omega)
      rw [show (y215).drop (1 : Int).toNat = y222 from Ny222.out.symm] at hr77
      replace hr77 : Kd.F k44 _ _ A77 y222.length y222 := (by rw [hA77]; exact hr77)
      rw [← hy77, ← hA77, ← hc77] at hcut77
      have HO226 := Aside0.mk (show Kd.V k44 44 _ w.heap.size _ (.slice A77 y222.length c77) y222 from Kd.V_mk (by rw [hy77, hc77]; exact Nat.sub_le_sub_right hroom77 _) hr77)
      have HC226 := Aside0.mk (show y222.length ≤ c77 from by rw [hy77, hc77]; exact Nat.sub_le_sub_right hroom77 _)
      clear hr77 hC77 hroom77 hi077 hsz77 hc77
      have KY77 := Aside0.mk hy77
      have KA77 := Aside0.mk hA77
      clear hy77 hA77
      replace q77 := eq_true q77
      go_wp2
      go_meet
      case rel => exact ⟨_, (y222), ((rd_T44 y215 0).f1), m19_, H', ⟨by have := HK1.out; have := HK2.out; have := HJ60.out; first | omega | exact Nat.le_refl _⟩, ⟨by (with_reducible repeat (first | apply Kd.V_alloc | apply Kd.V_drewN | apply Kd.V_drew)); exact HO226.out⟩, ⟨by (with_reducible repeat (first | apply Kd.R_alloc | apply Kd.R_drewN | apply Kd.R_drew)); exact HO_9.out⟩, ⟨by (with_reducible repeat (first | refine blk_drewN ?_ _ | refine blk_drew ?_ | refine blk_alloc ?_ _)); exact BK205.out⟩, ⟨m24_⟩⟩
     clear HC73
     try clear c1; try clear p2; try clear q2; try clear hx2; try clear qi2; try clear c4; try clear c5; try clear c6; try clear c6b0; try clear p6; try clear q6; try clear c7; try clear q7; try clear c8; try clear c13; try clear p20; try clear q20; try clear hx20; try clear p22; try clear q22; try clear hx22; try clear qi22; try clear c40; try clear c51; try clear c52; try clear c52b0; try clear c53; try clear c53b0; try clear c54; try clear c54b0; try clear c56; try clear c56b0; try clear c56b1; try clear c57; try clear c57b0; try clear c57b1; try clear c58; try clear c59; try clear c59b0; try clear c60; try clear c60b0; try clear p64; try clear q66; try clear c68; try clear q68; try clear c69; try clear c69b0; try clear c69b1; try clear c70; try clear c70b0; try clear c70b1; try clear c74; try clear c75; try clear c75b0; try clear c75b1; try clear c76; try clear c76b0; try clear c76b1; try clear c77; try clear q77; try clear hcz63_0; try clear hcz63_1; try clear hcz63_2; try clear hfz63_0; try clear hfz63_1; try clear hfz63_2; try clear hx204_0; try clear hx204_1; try clear hx204_2; try clear hx220_0; try clear hx220_1; try clear hx221_0; try clear hx221_1; try clear p2; try clear p20; try clear p204; try clear p22; try clear p220; try clear p221; try clear p6; try clear p64; try clear q068; try clear q2; try clear q20; try clear q204; try clear q22; try clear q220; try clear q221; try clear q6; try clear q66; try clear q68; try clear q77
     obtain ⟨kq, x0_72, x13_72, rfl, HA, HJ72, HO_0, HO_9, BK205, HB⟩ := hcut
     cases kq with
     | zero => exact absurd HA.out (by simp [merkle_Apply.j4])
     | succ kj72 =>
      have H := HA.out
      clear HA
      simp only [merkle_Apply.j4] at H
      by_cases c78 : x13_72.toList = ((rd_T66 l1 x67_2).f1).toList
      case neg =>
       rw [if_neg c78] at H
       have c78b0 : (x13_72.toList == ((rd_T66 l1 x67_2).f1).toList) = false := beq_eq_false_iff_ne.mpr c78
       have c78b1 : (x13_72.toList != ((rd_T66 l1 x67_2).f1).toList) = true := bne_iff_ne.mpr c78
       simp only [Option.some.injEq, Prod.mk.injEq] at H
       obtain ⟨rfl, rfl⟩ := H
       obtain ⟨hcz84_0, hcz84_1, hcz84_2⟩ := bc3_ BK205.out
       obtain ⟨hfz84_0, hfz84_1, hfz84_2⟩ := bf3_ BK205.out
       go_wp2
       go_ret2
       exact ⟨_, by first | rfl | (simp [errW_none, errW_some] <;> rfl) | (simp [*, errW_none, errW_some] <;> rfl), by first | exact Kd.R_nil _ _ _ _ _ | exact Kd.N_nil _ _ _ _ _ | exact Kd.V_nil _ _ _ _ _ | exact Kd.Q_nil _ _ _ _ _ | exact Kd.S_nil _ _ _ _ _, m24_⟩
      rw [if_pos c78] at H
      have c78b0 : (x13_72.toList == ((rd_T66 l1 x67_2).f1).toList) = true := beq_iff_eq.mpr c78
      have c78b1 : (x13_72.toList != ((rd_T66 l1 x67_2).f1).toList) = false := bne_eq_false_iff_eq.mpr c78
      clear c78
      by_cases c79 : ((rd_T66 l1 x67_2).f2).toList = ([] : List UInt8)
      ·rw [if_pos c79] at H
       have c79b0 : (((rd_T66 l1 x67_2).f2).toList == ([] : List UInt8)) = true := beq_iff_eq.mpr c79
       have c79b1 : (((rd_T66 l1 x67_2).f2).toList != ([] : List UInt8)) = false := bne_eq_false_iff_eq.mpr c79
       clear c79
       have H' := Aside0.mk H
       clear H
       obtain ⟨hcz80_0, hcz80_1, hcz80_2⟩ := bc3_ BK205.out
       obtain ⟨hfz80_0, hfz80_1, hfz80_2⟩ := bf3_ BK205.out
       go_wp2
       go_roundg kj72
       case measure => have := HK1.out; have := HK2.out; have := HJ60.out; have := HJ72.out; omega
       case rel => exact ⟨(x0_72), (y212), (wrap64 (x67_2 + 1)), m19_, H', ⟨by have := HK1.out; have := HK2.out; have := HJ60.out; have := HJ72.out; omega⟩, ⟨by (with_reducible repeat (first | apply Kd.V_alloc | apply Kd.V_drewN | apply Kd.V_drew)); exact Kd.V_mono HO_0.out (fun _ hk => ⟨hk.1, hk.2.1⟩)⟩, ⟨by (with_reducible repeat (first | apply Kd.R_alloc | apply Kd.R_drewN | apply Kd.R_drew)); exact HO_9.out⟩, ⟨m24_⟩⟩
      rw [if_neg c79] at H
      have c79b0 : (((rd_T66 l1 x67_2).f2).toList == ([] : List UInt8)) = false := beq_eq_false_iff_ne.mpr c79
      have c79b1 : (((rd_T66 l1 x67_2).f2).toList != ([] : List UInt8)) = true := bne_iff_ne.mpr c79
      by_cases c81 : y212.length < 4398046511104
      case neg =>
       rw [if_neg c81] at H
       exact absurd H (by simp)
      rw [if_pos c81] at H
      have LMc81 := Aside0.mk c81
      clear c81
      obtain ⟨y227, hy227⟩ : ∃ y_ : List (S44), y_ = (y212 ++ [(⟨((rd_T66 l1 x67_2).f0), ((rd_T66 l1 x67_2).f2)⟩ : S44)]) := ⟨_, rfl⟩
      replace H : (merkle_Apply.l1 kj72 x0_72 y227 l1 (l1.length : Int) (wrap64 (x67_2 + 1))) = some (r1, r2) := by first | (rw [hy227]; with_reducible exact H) | (have H2_ := (Option.bind_some _ _).symm.trans H; rw [hy227]; with_reducible exact H2_) | (have H2_ := (Option.bind_some _ _).symm.trans H; with_reducible exact H2_) | with_reducible exact H | (rw [hy227]; exact H) | exact H
      have Ny227 := Aside0.mk hy227
      clear hy227
      have H' := Aside0.mk H
      clear H
      obtain ⟨hcz82_0, hcz82_1, hcz82_2⟩ := bc3_ BK205.out
      obtain ⟨hfz82_0, hfz82_1, hfz82_2⟩ := bf3_ BK205.out
      go_wp2_with (first | ((with_reducible refine gate_builtin (b := .append) (xs := #[.tmp 108, .tmp 114]) rfl ?_); at_builtin; refine Kd.R_append k44 (w0 := w) w.heap.size rfl (.tmp 108) (.tmp 114) 26 44 (.agg #[(.string ⟨#[]⟩), (.string ⟨#[]⟩)]) 32 rfl Tryd.underlying26 info44 rfl (by decide) (by omega) v213 y212 (⟨((rd_T66 l1 x67_2).f0), ((rd_T66 l1 x67_2).f2)⟩ : S44) [.string ((rd_T66 l1 x67_2).f0), .string ((rd_T66 l1 x67_2).f2)] (fun k_ => (w.heap.size ≤ k_)) (fun _ => False) rfl rfl ?aP (fun _ hk => hk.elim) ?aF ?aO ?aB ?aS ?aL ?_; (case aP => exact k44_mkM _ _ _ (⟨((rd_T66 l1 x67_2).f0), ((rd_T66 l1 x67_2).f2)⟩ : S44)); (case aB => exact m3_); (case aF => exact (fun k_ hk => (Nat.le_trans (below_size m3_) hk))); (case aO => exact (by (with_reducible repeat (first | apply Kd.R_alloc | apply Kd.R_drewN | apply Kd.R_drew)); exact HO_9.out)); (case aS => exact (below_size m3_)); (case aL => have := LMc81.out; omega); intro v228 w83 ho hb hg hat; rw [← Ny227.out] at ho; have n0_ := Aside0.mk (Kd.V_afterv (ok := (fun k_ => (P0_ k_ ∨ w.heap.size ≤ k_) ∧ k_ ≠ gb205)) (by (with_reducible repeat (first | apply Kd.V_alloc | apply Kd.V_drewN | apply Kd.V_drew)); exact Kd.V_mono HO_0.out (fun _ hk => ⟨⟨hk.1, hk.2.2⟩, hk.2.1⟩)) hg hat); have n1_ := Aside0.mk (blk_grown (g := gb205) (o := .cells #[.string ((rd_T66 l1 x67_2).f0), .string ((rd_T66 l1 x67_2).f1), .string ((rd_T66 l1 x67_2).f2)] 66 (0, 0)) (by (with_reducible repeat (first | refine blk_drewN ?_ _ | refine blk_drew ?_ | refine blk_alloc ?_ _)); exact BK205.out) hg (Kd.R_ne HO_9.out BK205.out (by decide))); have n2_ := Aside0.mk (hb); have n3_ := Aside0.mk (ho); clear HO_0; clear BK205; clear HB; clear HO_9; have HO_0 := n0_; have BK205 := n1_; have HB := n2_; have HO229 := n3_; clear n0_ n1_ n2_ n3_; clear ho hb hg hat))
      go_roundg kj72
      case measure => have := HK1.out; have := HK2.out; have := HJ60.out; have := HJ72.out; omega
      case rel => exact ⟨(x0_72), (y227), (wrap64 (x67_2 + 1)), m19_, H', ⟨by have := HK1.out; have := HK2.out; have := HJ60.out; have := HJ72.out; omega⟩, ⟨by (with_reducible repeat (first | apply Kd.V_alloc | apply Kd.V_drewN | apply Kd.V_drew)); exact Kd.V_mono HO_0.out (fun _ hk => ⟨hk.1.1, hk.2⟩)⟩, ⟨by (with_reducible repeat (first | apply Kd.R_alloc | apply Kd.R_drewN | apply Kd.R_drew)); exact HO229.out⟩, ⟨m24_⟩⟩
  rw [if_pos c6] at H
  have c6b0 : decide (x21_1 < (l1.length : Int)) = true := decide_eq_true c6
  clear c6
  by_cases c7 : 0 ≤ x21_1
  case neg =>
   rw [if_neg c7] at H
   exact absurd H (by simp)
  rw [if_pos c7] at H
  have c7b0 : decide (0 ≤ x21_1) = true := decide_eq_true c7
  clear c7
  by_cases c8 : x21_1 < (l1.length : Int)
  case neg =>
   rw [if_neg c8] at H
   exact absurd H (by simp)
  rw [if_pos c8] at H
  have c8b0 : decide (x21_1 < (l1.length : Int)) = true := decide_eq_true c8
  clear c8
  have HC9 := Aside0.mk H
  clear H
  have p196 : 0 ≤ (x21_1 : Int) := of_decide_eq_true m18_
  have q196 : x21_1 < (l1.length : Int) := of_decide_eq_true m18_
  obtain ⟨ad196, e196, hx196_0, hx196_1, hx196_2⟩ := at_T66 HR1.out x21_1 p196 q196
  cases e196
  replace hx196_0 := (HB.out.cell (World.block_lt_of_cell? w _ hx196_0)).trans hx196_0
  replace hx196_1 := (HB.out.cell (World.block_lt_of_cell? w _ hx196_1)).trans hx196_1
  replace hx196_2 := (HB.out.cell (World.block_lt_of_cell? w _ hx196_2)).trans hx196_2
  replace p196 := eq_true p196
  replace q196 := eq_true q196
  go_upto_region 7 with (first | ((with_reducible refine gate_dst (N := 8) rfl ?_); refine box_event ?hg (N := 8) ?hd (cs := #[.string (⟨#[]⟩ : ByteArray), .string (⟨#[]⟩ : ByteArray), .string (⟨#[]⟩ : ByteArray)]) (t := 66) ?hr ?_; (case hd => rfl); (case hg => rfl); (case hr => first | (go_simp; done) | (go_simp; rfl)); intro gb197 hg w10 hbox hb; have n0_ := Aside0.mk (Kd.V_below (Kd.V_elderB m14_ gb197 (Nat.le_of_eq hg.symm)) hb); have n1_ := Aside0.mk (below_step m7_ hb); have n2_ := Aside0.mk (hbox); have n3_ := Aside0.mk ((by rw [hg]; exact (below_size m7_) : w.heap.size ≤ gb197)); have n4_ := Aside0.mk ((by rw [hg]; exact (below_size m7_) : w.heap.size ≤ gb197)); clear HO_0; clear HB; have HO_0 := n0_; have HB := n1_; have BK197 := n2_; have GW197 := n3_; have GE197 := n4_; clear n0_ n1_ n2_ n3_ n4_; clear hb hbox hg; obtain ⟨hcz11_0, hcz11_1, hcz11_2⟩ := bc3_ BK197.out; obtain ⟨hfz11_0, hfz11_1, hfz11_2⟩ := bf3_ BK197.out))
  (try simp only [Act.put, List.setIfInBounds_toArray, List.set_cons_zero, List.set_cons_succ])
  go_cut [63] (fun v63 wc => ∃ (kq : Nat) (x63_8 : Bool), v63 = .bool x63_8 ∧ Aside0 (merkle_Apply.j1 kq l0 l1 l1 (l1.length : Int) x21_1 x63_8 = some (r1, r2)) ∧ Aside0 (kq ≤ k1) ∧ Aside0 (Kd.V k44 44 wc w.heap.size (fun k_ => (P0_ k_ ∨ w.heap.size ≤ k_) ∧ k_ ≠ gb197) (.slice A0 l0.length c0) l0) ∧ Aside0 (wc.heap[gb197]? = some (.cells #[.string ((rd_T66 l1 x21_1).f0), .string ((rd_T66 l1 x21_1).f1), .string ((rd_T66 l1 x21_1).f2)] 66 (0, 0))) ∧ Aside0 (Below w.heap.size w wc))
  case first =>
   have H := HC9.out
   clear HC9
   replace H := Option.bind_eq_some_iff.mp H
   obtain ⟨t198, A120, H⟩ := H
   replace H : (if t198 = true then (if x21_1 > 0 then (if 0 ≤ (wrap64 (x21_1 - 1)) then (if (wrap64 (x21_1 - 1)) < (l1.length : Int) then (if ((Op.bytesLess (((rd_T66 l1 (wrap64 (x21_1 - 1))).f0).toList) (((rd_T66 l1 x21_1).f0).toList)) = true) then (if ((rd_T66 l1 x21_1).f1).toList = ((rd_T66 l1 x21_1).f2).toList then (merkle_Apply.j1 k1 l0 l1 l1 (l1.length : Int) x21_1 true) else ((merkle_sum.f ((rd_T66 l1 x21_1).f1)).bind fun t200 => (if t200 = true then ((merkle_sum.f ((rd_T66 l1 x21_1).f2)).bind fun t201 => (merkle_Apply.j1 k1 l0 l1 l1 (l1.length : Int) x21_1 (!t201))) else (merkle_Apply.j1 k1 l0 l1 l1 (l1.length : Int) x21_1 true)))) else (merkle_Apply.j1 k1 l0 l1 l1 (l1.length : Int) x21_1 true)) else (none)) else (none)) else (if ((rd_T66 l1 x21_1).f1).toList = ((rd_T66 l1 x21_1).f2).toList then (merkle_Apply.j1 k1 l0 l1 l1 (l1.length : Int) x21_1 true) else ((merkle_sum.f ((rd_T66 l1 x21_1).f1)).bind fun t202 => (if t202 = true then ((merkle_sum.f ((rd_T66 l1 x21_1).f2)).bind fun t203 => (merkle_Apply.j1 k1 l0 l1 l1 (l1.length : Int) x21_1 (!t203))) else (merkle_Apply.j1 k1 l0 l1 l1 (l1.length : Int) x21_1 true))))) else (merkle_Apply.j1 k1 l0 l1 l1 (l1.length : Int) x21_1 true)) = some (r1, r2) := H
   have A12 := Aside0.mk A120
   clear A120
   by_cases c13 : t198 = true
   case neg =>
    replace c13 := Bool.eq_false_iff.mpr c13
    subst c13
    have H1 : (merkle_Apply.j1 k1 l0 l1 l1 (l1.length : Int) x21_1 true) = some (r1, r2) := by rw [if_neg (show ¬ (false = true) by decide)] at H; exact H
    clear H
    have H := H1
    clear H1
    have H' := Aside0.mk H
    clear H
    try go_wp2
    have n0_ : Aside0 (Kd.V k44 44 (((w10.setCell ⟨gb197, 0, none⟩ (.string ((rd_T66 l1 x21_1).f0))).setCell ⟨gb197, 1, none⟩ (.string ((rd_T66 l1 x21_1).f1))).setCell ⟨gb197, 2, none⟩ (.string ((rd_T66 l1 x21_1).f2))) w.heap.size (fun k_ => (P0_ k_ ∨ w.heap.size ≤ k_) ∧ k_ ≠ gb197) (.slice A0 l0.length c0) l0) := ⟨by (with_reducible repeat (first | apply Kd.V_alloc | apply Kd.V_drewN | apply Kd.V_drew)); exact Kd.V_mono (Kd.V_far (p := ⟨gb197, 2, none⟩) (Kd.V_far (p := ⟨gb197, 1, none⟩) (Kd.V_far (p := ⟨gb197, 0, none⟩) (Kd.V_mono HO_0.out (fun k_ hk => (⟨hk, hk.2⟩ : _ ∧ k_ ≠ gb197))) (fun _ hk => hk.2) (.string ((rd_T66 l1 x21_1).f0))) (fun _ hk => hk.2) (.string ((rd_T66 l1 x21_1).f1))) (fun _ hk => hk.2) (.string ((rd_T66 l1 x21_1).f2))) (fun _ hk => ⟨hk.1.1, hk.1.2⟩)⟩
    have n1_ : Aside0 ((((w10.setCell ⟨gb197, 0, none⟩ (.string ((rd_T66 l1 x21_1).f0))).setCell ⟨gb197, 1, none⟩ (.string ((rd_T66 l1 x21_1).f1))).setCell ⟨gb197, 2, none⟩ (.string ((rd_T66 l1 x21_1).f2))).heap[gb197]? = some (.cells #[.string ((rd_T66 l1 x21_1).f0), .string ((rd_T66 l1 x21_1).f1), .string ((rd_T66 l1 x21_1).f2)] 66 (0, 0))) := ⟨by (with_reducible repeat (first | refine blk_drewN ?_ _ | refine blk_drew ?_ | refine blk_alloc ?_ _)); refine blk_put (cs := #[.string ((rd_T66 l1 x21_1).f0), .string ((rd_T66 l1 x21_1).f1), .string (⟨#[]⟩ : ByteArray)]) ?_ 2 _ rfl; (with_reducible repeat (first | refine blk_drewN ?_ _ | refine blk_drew ?_ | refine blk_alloc ?_ _)); refine blk_put (cs := #[.string ((rd_T66 l1 x21_1).f0), .string (⟨#[]⟩ : ByteArray), .string (⟨#[]⟩ : ByteArray)]) ?_ 1 _ rfl; (with_reducible repeat (first | refine blk_drewN ?_ _ | refine blk_drew ?_ | refine blk_alloc ?_ _)); refine blk_put (cs := #[.string (⟨#[]⟩ : ByteArray), .string (⟨#[]⟩ : ByteArray), .string (⟨#[]⟩ : ByteArray)]) ?_ 0 _ rfl; (with_reducible repeat (first | refine blk_drewN ?_ _ | refine blk_drew ?_ | refine blk_alloc ?_ _)); exact BK197.out⟩
    have n2_ : Aside0 (Below w.heap.size w (((w10.setCell ⟨gb197, 0, none⟩ (.string ((rd_T66 l1 x21_1).f0))).setCell ⟨gb197, 1, none⟩ (.string ((rd_T66 l1 x21_1).f1))).setCell ⟨gb197, 2, none⟩ (.string ((rd_T66 l1 x21_1).f2)))) := ⟨m25_⟩
    (try clear HO_0)
    (try clear BK197)
    (try clear HB)
    generalize (((w10.setCell ⟨gb197, 0, none⟩ (.string ((rd_T66 l1 x21_1).f0))).setCell ⟨gb197, 1, none⟩ (.string ((rd_T66 l1 x21_1).f1))).setCell ⟨gb197, 2, none⟩ (.string ((rd_T66 l1 x21_1).f2))) = w48 at n0_ n1_ n2_ ⊢
    have HO_0 := n0_
    have BK197 := n1_
    have HB := n2_
    clear n0_ n1_ n2_
    replace HO_0 := Aside0.mk (Kd.V_drew HO_0.out)
    replace BK197 := Aside0.mk (blk_drew BK197.out)
    replace HB := Aside0.mk (below_drew1 HB.out)
    refine start_ (n := 38) (S := fun w' => w'.cell? ⟨gb197, 0, none⟩ = some (.string ((rd_T66 l1 x21_1).f0)) ∧ w'.cell? ⟨gb197, 1, none⟩ = some (.string ((rd_T66 l1 x21_1).f1)) ∧ w'.cell? ⟨gb197, 2, none⟩ = some (.string ((rd_T66 l1 x21_1).f2))) (ds := []) (Ra_ [0, 38]) (by kernel_rfl) rfl rfl ⟨(blk_cell BK197.out 0).trans rfl, (blk_cell BK197.out 1).trans rfl, (blk_cell BK197.out 2).trans rfl⟩ (fun hHeld => ?_); refine with_tabW merkle_Apply.tab7 merkle_Apply.bits7 (fun HT_ HW_ => ?_)
    generalize w48.drew = w49 at HO_0 BK197 HB hHeld ⊢
    refine pI_ 0 (some 26) (Ra_ [1, 37]) (h := ?_)
    refine tI3_ 1 (some 27) (Ra_ [2, 36]) (h := ?_)
    refine one_ (i := 2) (N := some 28) (Ra_ [3, 35]) rfl rfl (one_of HT_.out (by kernel_rfl)) (by decide) (fun K hK => ?_)
    refine goes_ Tryd.func53 (by kernel_rfl) rfl #[.string ((rd_T66 l1 x21_1).f0)] (by rfl) rfl rfl m6_ ?_
    with_reducible refine (path_Good.calls ((rd_T66 l1 x21_1).f0) false _ A12.out).mono ?_
    rintro e w50 ⟨rfl, hb⟩
    refine ⟨_, rfl, ?_⟩
    replace HO_0 := Aside0.mk (Kd.V_below m14_ hb)
    replace BK197 := Aside0.mk (blk_below (g := gb197) (o := .cells #[.string ((rd_T66 l1 x21_1).f0), .string ((rd_T66 l1 x21_1).f1), .string ((rd_T66 l1 x21_1).f2)] 66 (0, 0)) m9_ hb)
    replace HB := Aside0.mk (below_step m2_ hb)
    (try clear hb)
    (try clear hb2)
    (try clear hk)
    (try clear hi)
    refine hK.out _ _ ⟨(blk_cell BK197.out 0).trans rfl, (blk_cell BK197.out 1).trans rfl, (blk_cell BK197.out 2).trans rfl⟩ (fun hHeld => ?_)
    clear hK K
    refine norm_ (a' := ?_) ?_ ?_
    rotate_left
    ·show Act.put _ (some 28) _ = _
     simp only [Act.put, sA_, sB_, sC_, i64_w, i32_w]
     rfl
    refine pI_ 3 (some 29) (Ra_ [4, 34]) (h := ?_)
    refine pI_ 4 (some 30) (Ra_ [5, 33]) (h := ?_)
    refine uI_ 5 (some 31) (Ra_ [6, 32]) (h := ?_)
    refine uI_ 6 (some 32) (Ra_ [7, 31]) (h := ?_)
    refine uI_ 7 (some 33) (Ra_ [8, 30]) (h := ?_)
    refine uI_ 8 (some 34) (Ra_ [9, 29]) (h := ?_)
    refine uI_ 9 (some 35) (Ra_ [10, 28]) (h := ?_)
    refine uI_ 10 (some 36) (Ra_ [11, 27]) (h := ?_)
    refine uI_ 11 (some 37) (Ra_ [12, 26]) (h := ?_)
    refine uI_ 12 (some 38) (Ra_ [13, 25]) (h := ?_)
    refine uI_ 13 (some 39) (Ra_ [14, 24]) (h := ?_)
    refine uI_ 14 (some 40) (Ra_ [15, 23]) (h := ?_)
    refine uI_ 15 (some 41) (Ra_ [16, 22]) (h := ?_)
    refine uI_ 16 (some 42) (Ra_ [17, 21]) (h := ?_)
    refine uI_ 17 (some 43) (Ra_ [18, 20]) (h := ?_)
    refine pI_ 18 (some 44) (Ra_ [19, 19]) (h := ?_)
    refine pI_ 19 (some 45) (Ra_ [20, 18]) (h := ?_)
    refine uI_ 20 (some 46) (Ra_ [21, 17]) (h := ?_)
    refine uI_ 21 (some 47) (Ra_ [22, 16]) (h := ?_)
    refine uI_ 22 (some 48) (Ra_ [23, 15]) (h := ?_)
    refine uI_ 23 (some 49) (Ra_ [24, 14]) (h := ?_)
    refine uI_ 24 (some 50) (Ra_ [25, 13]) (h := ?_)
    refine pI_ 25 (some 51) (Ra_ [26, 12]) (h := ?_)
    refine pI_ 26 (some 52) (Ra_ [27, 11]) (h := ?_)
    refine uI_ 27 (some 53) (Ra_ [28, 10]) (h := ?_)
    refine uI_ 28 (some 54) (Ra_ [29, 9]) (h := ?_)
    refine uI_ 29 (some 55) (Ra_ [30, 8]) (h := ?_)
    refine uI_ 30 (some 56) (Ra_ [31, 7]) (h := ?_)
    refine pI_ 31 (some 57) (Ra_ [32, 6]) (h := ?_)
    refine pI_ 32 (some 58) (Ra_ [33, 5]) (h := ?_)
    refine uI_ 33 (some 59) (Ra_ [34, 4]) (h := ?_)
    refine uI_ 34 (some 60) (Ra_ [35, 3]) (h := ?_)
    refine uI_ 35 (some 61) (Ra_ [36, 2]) (h := ?_)
    refine uI_ 36 (some 62) (Ra_ [37, 1]) (h := ?_)
    refine pI_ 37 (some 63) (Ra_ [38]) (h := ?_)
    refine done_ (done_of HT_.out (by kernel_rfl)) ?_
    try go_wp2
    go_meet
    case rel => exact ⟨_, (true), m19_, H', ⟨by have := HK1.out; first | omega | exact Nat.le_refl _⟩, ⟨by (with_reducible repeat (first | apply Kd.V_alloc | apply Kd.V_drewN | apply Kd.V_drew)); exact HO_0.out⟩, ⟨by (with_reducible repeat (first | refine blk_drewN ?_ _ | refine blk_drew ?_ | refine blk_alloc ?_ _)); exact BK197.out⟩, ⟨m25_⟩⟩
   subst c13
   have H1 : (if x21_1 > 0 then (if 0 ≤ (wrap64 (x21_1 - 1)) then (if (wrap64 (x21_1 - 1)) < (l1.length : Int) then (if ((Op.bytesLess (((rd_T66 l1 (wrap64 (x21_1 - 1))).f0).toList) (((rd_T66 l1 x21_1).f0).toList)) = true) then (if ((rd_T66 l1 x21_1).f1).toList = ((rd_T66 l1 x21_1).f2).toList then (merkle_Apply.j1 k1 l0 l1 l1 (l1.length : Int) x21_1 true) else ((merkle_sum.f ((rd_T66 l1 x21_1).f1)).bind fun t200 => (if t200 = true then ((merkle_sum.f ((rd_T66 l1 x21_1).f2)).bind fun t201 => (merkle_Apply.j1 k1 l0 l1 l1 (l1.length : Int) x21_1 (!t201))) else (merkle_Apply.j1 k1 l0 l1 l1 (l1.length : Int) x21_1 true)))) else (merkle_Apply.j1 k1 l0 l1 l1 (l1.length : Int) x21_1 true)) else (none)) else (none)) else (if ((rd_T66 l1 x21_1).f1).toList = ((rd_T66 l1 x21_1).f2).toList then (merkle_Apply.j1 k1 l0 l1 l1 (l1.length : Int) x21_1 true) else ((merkle_sum.f ((rd_T66 l1 x21_1).f1)).bind fun t202 => (if t202 = true then ((merkle_sum.f ((rd_T66 l1 x21_1).f2)).bind fun t203 => (merkle_Apply.j1 k1 l0 l1 l1 (l1.length : Int) x21_1 (!t203))) else (merkle_Apply.j1 k1 l0 l1 l1 (l1.length : Int) x21_1 true))))) = some (r1, r2) := by rw [if_pos rfl] at H; exact H
   clear H
   have H := H1
   clear H1
   by_cases c14 : x21_1 > 0
   case neg =>
    rw [if_neg c14] at H
    have c14b0 : decide (0 < x21_1) = false := decide_eq_false c14
    clear c14
    (first | rw [c14b0] | (simp only [i64_w, i32_w]; rw [c14b0]) | skip)
    by_cases c35 : ((rd_T66 l1 x21_1).f1).toList = ((rd_T66 l1 x21_1).f2).toList
    ·rw [if_pos c35] at H
     have c35b0 : (((rd_T66 l1 x21_1).f1).toList == ((rd_T66 l1 x21_1).f2).toList) = true := beq_iff_eq.mpr c35
     have c35b1 : (((rd_T66 l1 x21_1).f1).toList != ((rd_T66 l1 x21_1).f2).toList) = false := bne_eq_false_iff_eq.mpr c35
     clear c35
     have H' := Aside0.mk H
     clear H
     try go_wp2
     have n0_ : Aside0 (Kd.V k44 44 (((w10.setCell ⟨gb197, 0, none⟩ (.string ((rd_T66 l1 x21_1).f0))).setCell ⟨gb197, 1, none⟩ (.string ((rd_T66 l1 x21_1).f1))).setCell ⟨gb197, 2, none⟩ (.string ((rd_T66 l1 x21_1).f2))) w.heap.size (fun k_ => (P0_ k_ ∨ w.heap.size ≤ k_) ∧ k_ ≠ gb197) (.slice A0 l0.length c0) l0) := ⟨by (with_reducible repeat (first | apply Kd.V_alloc | apply Kd.V_drewN | apply Kd.V_drew)); exact Kd.V_mono (Kd.V_far (p := ⟨gb197, 2, none⟩) (Kd.V_far (p := ⟨gb197, 1, none⟩) (Kd.V_far (p := ⟨gb197, 0, none⟩) (Kd.V_mono HO_0.out (fun k_ hk => (⟨hk, hk.2⟩ : _ ∧ k_ ≠ gb197))) (fun _ hk => hk.2) (.string ((rd_T66 l1 x21_1).f0))) (fun _ hk => hk.2) (.string ((rd_T66 l1 x21_1).f1))) (fun _ hk => hk.2) (.string ((rd_T66 l1 x21_1).f2))) (fun _ hk => ⟨hk.1.1, hk.1.2⟩)⟩
     have n1_ : Aside0 ((((w10.setCell ⟨gb197, 0, none⟩ (.string ((rd_T66 l1 x21_1).f0))).setCell ⟨gb197, 1, none⟩ (.string ((rd_T66 l1 x21_1).f1))).setCell ⟨gb197, 2, none⟩ (.string ((rd_T66 l1 x21_1).f2))).heap[gb197]? = some (.cells #[.string ((rd_T66 l1 x21_1).f0), .string ((rd_T66 l1 x21_1).f1), .string ((rd_T66 l1 x21_1).f2)] 66 (0, 0))) := ⟨by (with_reducible repeat (first | refine blk_drewN ?_ _ | refine blk_drew ?_ | refine blk_alloc ?_ _)); refine blk_put (cs := #[.string ((rd_T66 l1 x21_1).f0), .string ((rd_T66 l1 x21_1).f1), .string (⟨#[]⟩ : ByteArray)]) ?_ 2 _ rfl; (with_reducible repeat (first | refine blk_drewN ?_ _ | refine blk_drew ?_ | refine blk_alloc ?_ _)); refine blk_put (cs := #[.string ((rd_T66 l1 x21_1).f0), .string (⟨#[]⟩ : ByteArray), .string (⟨#[]⟩ : ByteArray)]) ?_ 1 _ rfl; (with_reducible repeat (first | refine blk_drewN ?_ _ | refine blk_drew ?_ | refine blk_alloc ?_ _)); refine blk_put (cs := #[.string (⟨#[]⟩ : ByteArray), .string (⟨#[]⟩ : ByteArray), .string (⟨#[]⟩ : ByteArray)]) ?_ 0 _ rfl; (with_reducible repeat (first | refine blk_drewN ?_ _ | refine blk_drew ?_ | refine blk_alloc ?_ _)); exact BK197.out⟩
     have n2_ : Aside0 (Below w.heap.size w (((w10.setCell ⟨gb197, 0, none⟩ (.string ((rd_T66 l1 x21_1).f0))).setCell ⟨gb197, 1, none⟩ (.string ((rd_T66 l1 x21_1).f1))).setCell ⟨gb197, 2, none⟩ (.string ((rd_T66 l1 x21_1).f2)))) := ⟨m25_⟩
     (try clear HO_0)
     (try clear BK197)
     (try clear HB)
     generalize (((w10.setCell ⟨gb197, 0, none⟩ (.string ((rd_T66 l1 x21_1).f0))).setCell ⟨gb197, 1, none⟩ (.string ((rd_T66 l1 x21_1).f1))).setCell ⟨gb197, 2, none⟩ (.string ((rd_T66 l1 x21_1).f2))) = w36 at n0_ n1_ n2_ ⊢
     have HO_0 := n0_
     have BK197 := n1_
     have HB := n2_
     clear n0_ n1_ n2_
     replace HO_0 := Aside0.mk (Kd.V_drew HO_0.out)
     replace BK197 := Aside0.mk (blk_drew BK197.out)
     replace HB := Aside0.mk (below_drew1 HB.out)
     refine start_ (n := 38) (S := fun w' => w'.cell? ⟨gb197, 0, none⟩ = some (.string ((rd_T66 l1 x21_1).f0)) ∧ w'.cell? ⟨gb197, 1, none⟩ = some (.string ((rd_T66 l1 x21_1).f1)) ∧ w'.cell? ⟨gb197, 2, none⟩ = some (.string ((rd_T66 l1 x21_1).f2))) (ds := []) (Ra_ [0, 38]) (by kernel_rfl) rfl rfl ⟨(blk_cell BK197.out 0).trans rfl, (blk_cell BK197.out 1).trans rfl, (blk_cell BK197.out 2).trans rfl⟩ (fun hHeld => ?_); refine with_tabW merkle_Apply.tab7 merkle_Apply.bits7 (fun HT_ HW_ => ?_)
     generalize w36.drew = w37 at HO_0 BK197 HB hHeld ⊢
     refine pI_ 0 (some 26) (Ra_ [1, 37]) (h := ?_)
     refine tI3_ 1 (some 27) (Ra_ [2, 36]) (h := ?_)
     refine one_ (i := 2) (N := some 28) (Ra_ [3, 35]) rfl rfl (one_of HT_.out (by kernel_rfl)) (by decide) (fun K hK => ?_)
     refine goes_ Tryd.func53 (by kernel_rfl) rfl #[.string ((rd_T66 l1 x21_1).f0)] (by rfl) rfl rfl m6_ ?_
     with_reducible refine (path_Good.calls ((rd_T66 l1 x21_1).f0) true _ A12.out).mono ?_
     rintro e w38 ⟨rfl, hb⟩
     refine ⟨_, rfl, ?_⟩
     replace HO_0 := Aside0.mk (Kd.V_below m14_ hb)
     replace BK197 := Aside0.mk (blk_below (g := gb197) (o := .cells #[.string ((rd_T66 l1 x21_1).f0), .string ((rd_T66 l1 x21_1).f1), .string ((rd_T66 l1 x21_1).f2)] 66 (0, 0)) m9_ hb)
     replace HB := Aside0.mk (below_step m2_ hb)
     (try clear hb)
     (try clear hb2)
     (try clear hk)
     (try clear hi)
     refine hK.out _ _ ⟨(blk_cell BK197.out 0).trans rfl, (blk_cell BK197.out 1).trans rfl, (blk_cell BK197.out 2).trans rfl⟩ (fun hHeld => ?_)
     clear hK K
     refine norm_ (a' := ?_) ?_ ?_
     rotate_left
     ·show Act.put _ (some 28) _ = _
      simp only [Act.put, sA_, sB_, sC_, i64_w, i32_w]
      rfl
     refine pI_ 3 (some 29) (Ra_ [4, 34]) (h := ?_)
     refine pI_ 4 (some 30) (Ra_ [5, 33]) (h := ?_)
     refine pI_ 5 (some 31) (Ra_ [6, 32]) (h := ?_)
     refine pI_ 6 (some 32) (Ra_ [7, 31]) (h := ?_)
     refine pI_ 7 (some 33) (Ra_ [8, 30]) (h := ?_)
     refine uI_ 8 (some 34) (Ra_ [9, 29]) (h := ?_)
     refine uI_ 9 (some 35) (Ra_ [10, 28]) (h := ?_)
     refine uI_ 10 (some 36) (Ra_ [11, 27]) (h := ?_)
     refine uI_ 11 (some 37) (Ra_ [12, 26]) (h := ?_)
     refine uI_ 12 (some 38) (Ra_ [13, 25]) (h := ?_)
     refine uI_ 13 (some 39) (Ra_ [14, 24]) (h := ?_)
     refine uI_ 14 (some 40) (Ra_ [15, 23]) (h := ?_)
     refine uI_ 15 (some 41) (Ra_ [16, 22]) (h := ?_)
     refine uI_ 16 (some 42) (Ra_ [17, 21]) (h := ?_)
     refine pI_ 17 (some 43) (Ra_ [18, 20]) (h := ?_)
     refine pI_ 18 (some 44) (Ra_ [19, 19]) (h := ?_)
     refine pI_ 19 (some 45) (Ra_ [20, 18]) (h := ?_)
     refine pI_ 20 (some 46) (Ra_ [21, 17]) (h := ?_)
     refine pI_ 22 (some 48) (Ra_ [21, 1, 1, 15]) (h := ?_)
     refine tI3_ 21 (some 47) (Ra_ [23, 15]) (h := ?_)
     refine tI3_ 23 (some 49) (Ra_ [24, 14]) (h := ?_)
     refine pI_ 24 (some 50) (Ra_ [25, 13]) (h := ?_)
     refine pI_ 25 (some 51) (Ra_ [26, 12]) (h := ?_)
     refine pI_ 26 (some 52) (Ra_ [27, 11]) (h := ?_)
     refine uI_ 27 (some 53) (Ra_ [28, 10]) (h := ?_)
     refine uI_ 28 (some 54) (Ra_ [29, 9]) (h := ?_)
     refine uI_ 29 (some 55) (Ra_ [30, 8]) (h := ?_)
     refine uI_ 30 (some 56) (Ra_ [31, 7]) (h := ?_)
     refine pI_ 31 (some 57) (Ra_ [32, 6]) (h := ?_)
     refine pI_ 32 (some 58) (Ra_ [33, 5]) (h := ?_)
     refine uI_ 33 (some 59) (Ra_ [34, 4]) (h := ?_)
     refine uI_ 34 (some 60) (Ra_ [35, 3]) (h := ?_)
     refine uI_ 35 (some 61) (Ra_ [36, 2]) (h := ?_)
     refine uI_ 36 (some 62) (Ra_ [37, 1]) (h := ?_)
     refine pI_ 37 (some 63) (Ra_ [38]) (h := ?_)
     refine done_ (done_of HT_.out (by kernel_rfl)) ?_
     try go_wp2
     go_meet
     case rel => exact ⟨_, (true), m19_, H', ⟨by have := HK1.out; first | omega | exact Nat.le_refl _⟩, ⟨by (with_reducible repeat (first | apply Kd.V_alloc | apply Kd.V_drewN | apply Kd.V_drew)); exact HO_0.out⟩, ⟨by (with_reducible repeat (first | refine blk_drewN ?_ _ | refine blk_drew ?_ | refine blk_alloc ?_ _)); exact BK197.out⟩, ⟨m25_⟩⟩
    rw [if_neg c35] at H
    have c35b0 : (((rd_T66 l1 x21_1).f1).toList == ((rd_T66 l1 x21_1).f2).toList) = false := beq_eq_false_iff_ne.mpr c35
    have c35b1 : (((rd_T66 l1 x21_1).f1).toList != ((rd_T66 l1 x21_1).f2).toList) = true := bne_iff_ne.mpr c35
    replace H := Option.bind_eq_some_iff.mp H
    obtain ⟨t202, A390, H⟩ := H
    replace H : (if t202 = true then ((merkle_sum.f ((rd_T66 l1 x21_1).f2)).bind fun t203 => (merkle_Apply.j1 k1 l0 l1 l1 (l1.length : Int) x21_1 (!t203))) else (merkle_Apply.j1 k1 l0 l1 l1 (l1.length : Int) x21_1 true)) = some (r1, r2) := H
    have A39 := Aside0.mk A390
    clear A390
    by_cases c40 : t202 = true
    case neg =>
     replace c40 := Bool.eq_false_iff.mpr c40
     subst c40
     have H1 : (merkle_Apply.j1 k1 l0 l1 l1 (l1.length : Int) x21_1 true) = some (r1, r2) := by rw [if_neg (show ¬ (false = true) by decide)] at H; exact H
     clear H
     have H := H1
     clear H1
     have H' := Aside0.mk H
     clear H
     try go_wp2
     have n0_ : Aside0 (Kd.V k44 44 (((w10.setCell ⟨gb197, 0, none⟩ (.string ((rd_T66 l1 x21_1).f0))).setCell ⟨gb197, 1, none⟩ (.string ((rd_T66 l1 x21_1).f1))).setCell ⟨gb197, 2, none⟩ (.string ((rd_T66 l1 x21_1).f2))) w.heap.size (fun k_ => (P0_ k_ ∨ w.heap.size ≤ k_) ∧ k_ ≠ gb197) (.slice A0 l0.length c0) l0) := ⟨by (with_reducible repeat (first | apply Kd.V_alloc | apply Kd.V_drewN | apply Kd.V_drew)); exact Kd.V_mono (Kd.V_far (p := ⟨gb197, 2, none⟩) (Kd.V_far (p := ⟨gb197, 1, none⟩) (Kd.V_far (p := ⟨gb197, 0, none⟩) (Kd.V_mono HO_0.out (fun k_ hk => (⟨hk, hk.2⟩ : _ ∧ k_ ≠ gb197))) (fun _ hk => hk.2) (.string ((rd_T66 l1 x21_1).f0))) (fun _ hk => hk.2) (.string ((rd_T66 l1 x21_1).f1))) (fun _ hk => hk.2) (.string ((rd_T66 l1 x21_1).f2))) (fun _ hk => ⟨hk.1.1, hk.1.2⟩)⟩
     have n1_ : Aside0 ((((w10.setCell ⟨gb197, 0, none⟩ (.string ((rd_T66 l1 x21_1).f0))).setCell ⟨gb197, 1, none⟩ (.string ((rd_T66 l1 x21_1).f1))).setCell ⟨gb197, 2, none⟩ (.string ((rd_T66 l1 x21_1).f2))).heap[gb197]? = some (.cells #[.string ((rd_T66 l1 x21_1).f0), .string ((rd_T66 l1 x21_1).f1), .string ((rd_T66 l1 x21_1).f2)] 66 (0, 0))) := ⟨by (with_reducible repeat (first | refine blk_drewN ?_ _ | refine blk_drew ?_ | refine blk_alloc ?_ _)); refine blk_put (cs := #[.string ((rd_T66 l1 x21_1).f0), .string ((rd_T66 l1 x21_1).f1), .string (⟨#[]⟩ : ByteArray)]) ?_ 2 _ rfl; (with_reducible repeat (first | refine blk_drewN ?_ _ | refine blk_drew ?_ | refine blk_alloc ?_ _)); refine blk_put (cs := #[.string ((rd_T66 l1 x21_1).f0), .string (⟨#[]⟩ : ByteArray), .string (⟨#[]⟩ : ByteArray)]) ?_ 1 _ rfl; (with_reducible repeat (first | refine blk_drewN ?_ _ | refine blk_drew ?_ | refine blk_alloc ?_ _)); refine blk_put (cs := #[.string (⟨#[]⟩ : ByteArray), .string (⟨#[]⟩ : ByteArray), .string (⟨#[]⟩ : ByteArray)]) ?_ 0 _ rfl; (with_reducible repeat (first | refine blk_drewN ?_ _ | refine blk_drew ?_ | refine blk_alloc ?_ _)); exact BK197.out⟩
     have n2_ : Aside0 (Below w.heap.size w (((w10.setCell ⟨gb197, 0, none⟩ (.string ((rd_T66 l1 x21_1).f0))).setCell ⟨gb197, 1, none⟩ (.string ((rd_T66 l1 x21_1).f1))).setCell ⟨gb197, 2, none⟩ (.string ((rd_T66 l1 x21_1).f2)))) := ⟨m25_⟩
     (try clear HO_0)
     (try clear BK197)
     (try clear HB)
     generalize (((w10.setCell ⟨gb197, 0, none⟩ (.string ((rd_T66 l1 x21_1).f0))).setCell ⟨gb197, 1, none⟩ (.string ((rd_T66 l1 x21_1).f1))).setCell ⟨gb197, 2, none⟩ (.string ((rd_T66 l1 x21_1).f2))) = w45 at n0_ n1_ n2_ ⊢
     have HO_0 := n0_
     have BK197 := n1_
     have HB := n2_
     clear n0_ n1_ n2_
     replace HO_0 := Aside0.mk (Kd.V_drew HO_0.out)
     replace BK197 := Aside0.mk (blk_drew BK197.out)
     replace HB := Aside0.mk (below_drew1 HB.out)
     refine start_ (n := 38) (S := fun w' => w'.cell? ⟨gb197, 0, none⟩ = some (.string ((rd_T66 l1 x21_1).f0)) ∧ w'.cell? ⟨gb197, 1, none⟩ = some (.string ((rd_T66 l1 x21_1).f1)) ∧ w'.cell? ⟨gb197, 2, none⟩ = some (.string ((rd_T66 l1 x21_1).f2))) (ds := []) (Ra_ [0, 38]) (by kernel_rfl) rfl rfl ⟨(blk_cell BK197.out 0).trans rfl, (blk_cell BK197.out 1).trans rfl, (blk_cell BK197.out 2).trans rfl⟩ (fun hHeld => ?_); refine with_tabW merkle_Apply.tab7 merkle_Apply.bits7 (fun HT_ HW_ => ?_)
     generalize w45.drew = w46 at HO_0 BK197 HB hHeld ⊢
     refine pI_ 0 (some 26) (Ra_ [1, 37]) (h := ?_)
     refine tI3_ 1 (some 27) (Ra_ [2, 36]) (h := ?_)
     refine one_ (i := 2) (N := some 28) (Ra_ [3, 35]) rfl rfl (one_of HT_.out (by kernel_rfl)) (by decide) (fun K hK => ?_)
     refine goes_ Tryd.func53 (by kernel_rfl) rfl #[.string ((rd_T66 l1 x21_1).f0)] (by rfl) rfl rfl m6_ ?_
     with_reducible refine (path_Good.calls ((rd_T66 l1 x21_1).f0) true _ A12.out).mono ?_
     rintro e w47 ⟨rfl, hb⟩
     refine ⟨_, rfl, ?_⟩
     replace HO_0 := Aside0.mk (Kd.V_below m14_ hb)
     replace BK197 := Aside0.mk (blk_below (g := gb197) (o := .cells #[.string ((rd_T66 l1 x21_1).f0), .string ((rd_T66 l1 x21_1).f1), .string ((rd_T66 l1 x21_1).f2)] 66 (0, 0)) m9_ hb)
     replace HB := Aside0.mk (below_step m2_ hb)
     (try clear hb)
     (try clear hb2)
     (try clear hk)
     (try clear hi)
     refine hK.out _ _ ⟨(blk_cell BK197.out 0).trans rfl, (blk_cell BK197.out 1).trans rfl, (blk_cell BK197.out 2).trans rfl⟩ (fun hHeld => ?_)
     clear hK K
     refine norm_ (a' := ?_) ?_ ?_
     rotate_left
     ·show Act.put _ (some 28) _ = _
      simp only [Act.put, sA_, sB_, sC_, i64_w, i32_w]
      rfl
     refine pI_ 3 (some 29) (Ra_ [4, 34]) (h := ?_)
     refine pI_ 4 (some 30) (Ra_ [5, 33]) (h := ?_)
     refine pI_ 5 (some 31) (Ra_ [6, 32]) (h := ?_)
     refine pI_ 6 (some 32) (Ra_ [7, 31]) (h := ?_)
     refine pI_ 7 (some 33) (Ra_ [8, 30]) (h := ?_)
     refine uI_ 8 (some 34) (Ra_ [9, 29]) (h := ?_)
     refine uI_ 9 (some 35) (Ra_ [10, 28]) (h := ?_)
     refine uI_ 10 (some 36) (Ra_ [11, 27]) (h := ?_)
     refine uI_ 11 (some 37) (Ra_ [12, 26]) (h := ?_)
     refine uI_ 12 (some 38) (Ra_ [13, 25]) (h := ?_)
     refine uI_ 13 (some 39) (Ra_ [14, 24]) (h := ?_)
     refine uI_ 14 (some 40) (Ra_ [15, 23]) (h := ?_)
     refine uI_ 15 (some 41) (Ra_ [16, 22]) (h := ?_)
     refine uI_ 16 (some 42) (Ra_ [17, 21]) (h := ?_)
     refine pI_ 17 (some 43) (Ra_ [18, 20]) (h := ?_)
     refine pI_ 18 (some 44) (Ra_ [19, 19]) (h := ?_)
     refine pI_ 19 (some 45) (Ra_ [20, 18]) (h := ?_)
     refine pI_ 20 (some 46) (Ra_ [21, 17]) (h := ?_)
     refine pI_ 22 (some 48) (Ra_ [21, 1, 1, 15]) (h := ?_)
     refine tI3_ 21 (some 47) (Ra_ [23, 15]) (h := ?_)
     refine tI3_ 23 (some 49) (Ra_ [24, 14]) (h := ?_)
     refine pI_ 24 (some 50) (Ra_ [25, 13]) (h := ?_)
     refine pI_ 25 (some 51) (Ra_ [26, 12]) (h := ?_)
     refine pI_ 26 (some 52) (Ra_ [27, 11]) (h := ?_)
     refine pI_ 27 (some 53) (Ra_ [28, 10]) (h := ?_)
     refine tI3_ 28 (some 54) (Ra_ [29, 9]) (h := ?_)
     refine one_ (i := 29) (N := some 55) (Ra_ [30, 8]) rfl rfl (one_of HT_.out (by kernel_rfl)) (by decide) (fun K hK => ?_)
     refine goes_ Tryd.func57 (by kernel_rfl) rfl #[.string ((rd_T66 l1 x21_1).f1)] (by rfl) rfl rfl m6_ ?_
     with_reducible refine (merkle_sum.calls ((rd_T66 l1 x21_1).f1) false _ A39.out).mono ?_
     rintro e w' ⟨rfl, ⟨nd, rfl⟩⟩
     refine ⟨_, rfl, ?_⟩
     refine hK.out _ _ ⟨(blk_cell BK197.out 0).trans rfl, (blk_cell BK197.out 1).trans rfl, (blk_cell BK197.out 2).trans rfl⟩ (fun hHeld => ?_)
     clear hK K
     refine norm_ (a' := ?_) ?_ ?_
     rotate_left
     ·show Act.put _ (some 55) _ = _
      simp only [Act.put, sA_, sB_, sC_, i64_w, i32_w]
      rfl
     refine pI_ 30 (some 56) (Ra_ [31, 7]) (h := ?_)
     refine pI_ 31 (some 57) (Ra_ [32, 6]) (h := ?_)
     refine pI_ 32 (some 58) (Ra_ [33, 5]) (h := ?_)
     refine uI_ 33 (some 59) (Ra_ [34, 4]) (h := ?_)
     refine uI_ 34 (some 60) (Ra_ [35, 3]) (h := ?_)
     refine uI_ 35 (some 61) (Ra_ [36, 2]) (h := ?_)
     refine uI_ 36 (some 62) (Ra_ [37, 1]) (h := ?_)
     refine pI_ 37 (some 63) (Ra_ [38]) (h := ?_)
     refine done_ (done_of HT_.out (by kernel_rfl)) ?_
     try go_wp2
     go_meet
     case rel => exact ⟨_, (true), m19_, H', ⟨by have := HK1.out; first | omega | exact Nat.le_refl _⟩, ⟨by (with_reducible repeat (first | apply Kd.V_alloc | apply Kd.V_drewN | apply Kd.V_drew)); exact HO_0.out⟩, ⟨by (with_reducible repeat (first | refine blk_drewN ?_ _ | refine blk_drew ?_ | refine blk_alloc ?_ _)); exact BK197.out⟩, ⟨m25_⟩⟩
    subst c40
    have H1 : ((merkle_sum.f ((rd_T66 l1 x21_1).f2)).bind fun t203 => (merkle_Apply.j1 k1 l0 l1 l1 (l1.length : Int) x21_1 (!t203))) = some (r1, r2) := by rw [if_pos rfl] at H; exact H
    clear H
    have H := H1
    clear H1
    replace H := Option.bind_eq_some_iff.mp H
    obtain ⟨t203, A410, H⟩ := H
    replace H : (merkle_Apply.j1 k1 l0 l1 l1 (l1.length : Int) x21_1 (!t203)) = some (r1, r2) := H
    have A41 := Aside0.mk A410
    clear A410
    have H' := Aside0.mk H
    clear H
    try go_wp2
    have n0_ : Aside0 (Kd.V k44 44 (((w10.setCell ⟨gb197, 0, none⟩ (.string ((rd_T66 l1 x21_1).f0))).setCell ⟨gb197, 1, none⟩ (.string ((rd_T66 l1 x21_1).f1))).setCell ⟨gb197, 2, none⟩ (.string ((rd_T66 l1 x21_1).f2))) w.heap.size (fun k_ => (P0_ k_ ∨ w.heap.size ≤ k_) ∧ k_ ≠ gb197) (.slice A0 l0.length c0) l0) := ⟨by (with_reducible repeat (first | apply Kd.V_alloc | apply Kd.V_drewN | apply Kd.V_drew)); exact Kd.V_mono (Kd.V_far (p := ⟨gb197, 2, none⟩) (Kd.V_far (p := ⟨gb197, 1, none⟩) (Kd.V_far (p := ⟨gb197, 0, none⟩) (Kd.V_mono HO_0.out (fun k_ hk => (⟨hk, hk.2⟩ : _ ∧ k_ ≠ gb197))) (fun _ hk => hk.2) (.string ((rd_T66 l1 x21_1).f0))) (fun _ hk => hk.2) (.string ((rd_T66 l1 x21_1).f1))) (fun _ hk => hk.2) (.string ((rd_T66 l1 x21_1).f2))) (fun _ hk => ⟨hk.1.1, hk.1.2⟩)⟩
    have n1_ : Aside0 ((((w10.setCell ⟨gb197, 0, none⟩ (.string ((rd_T66 l1 x21_1).f0))).setCell ⟨gb197, 1, none⟩ (.string ((rd_T66 l1 x21_1).f1))).setCell ⟨gb197, 2, none⟩ (.string ((rd_T66 l1 x21_1).f2))).heap[gb197]? = some (.cells #[.string ((rd_T66 l1 x21_1).f0), .string ((rd_T66 l1 x21_1).f1), .string ((rd_T66 l1 x21_1).f2)] 66 (0, 0))) := ⟨by (with_reducible repeat (first | refine blk_drewN ?_ _ | refine blk_drew ?_ | refine blk_alloc ?_ _)); refine blk_put (cs := #[.string ((rd_T66 l1 x21_1).f0), .string ((rd_T66 l1 x21_1).f1), .string (⟨#[]⟩ : ByteArray)]) ?_ 2 _ rfl; (with_reducible repeat (first | refine blk_drewN ?_ _ | refine blk_drew ?_ | refine blk_alloc ?_ _)); refine blk_put (cs := #[.string ((rd_T66 l1 x21_1).f0), .string (⟨#[]⟩ : ByteArray), .string (⟨#[]⟩ : ByteArray)]) ?_ 1 _ rfl; (with_reducible repeat (first | refine blk_drewN ?_ _ | refine blk_drew ?_ | refine blk_alloc ?_ _)); refine blk_put (cs := #[.string (⟨#[]⟩ : ByteArray), .string (⟨#[]⟩ : ByteArray), .string (⟨#[]⟩ : ByteArray)]) ?_ 0 _ rfl; (with_reducible repeat (first | refine blk_drewN ?_ _ | refine blk_drew ?_ | refine blk_alloc ?_ _)); exact BK197.out⟩
    have n2_ : Aside0 (Below w.heap.size w (((w10.setCell ⟨gb197, 0, none⟩ (.string ((rd_T66 l1 x21_1).f0))).setCell ⟨gb197, 1, none⟩ (.string ((rd_T66 l1 x21_1).f1))).setCell ⟨gb197, 2, none⟩ (.string ((rd_T66 l1 x21_1).f2)))) := ⟨m25_⟩
    (try clear HO_0)
    (try clear BK197)
    (try clear HB)
    generalize (((w10.setCell ⟨gb197, 0, none⟩ (.string ((rd_T66 l1 x21_1).f0))).setCell ⟨gb197, 1, none⟩ (.string ((rd_T66 l1 x21_1).f1))).setCell ⟨gb197, 2, none⟩ (.string ((rd_T66 l1 x21_1).f2))) = w42 at n0_ n1_ n2_ ⊢
    have HO_0 := n0_
    have BK197 := n1_
    have HB := n2_
    clear n0_ n1_ n2_
    replace HO_0 := Aside0.mk (Kd.V_drew HO_0.out)
    replace BK197 := Aside0.mk (blk_drew BK197.out)
    replace HB := Aside0.mk (below_drew1 HB.out)
    refine start_ (n := 38) (S := fun w' => w'.cell? ⟨gb197, 0, none⟩ = some (.string ((rd_T66 l1 x21_1).f0)) ∧ w'.cell? ⟨gb197, 1, none⟩ = some (.string ((rd_T66 l1 x21_1).f1)) ∧ w'.cell? ⟨gb197, 2, none⟩ = some (.string ((rd_T66 l1 x21_1).f2))) (ds := []) (Ra_ [0, 38]) (by kernel_rfl) rfl rfl ⟨(blk_cell BK197.out 0).trans rfl, (blk_cell BK197.out 1).trans rfl, (blk_cell BK197.out 2).trans rfl⟩ (fun hHeld => ?_); refine with_tabW merkle_Apply.tab7 merkle_Apply.bits7 (fun HT_ HW_ => ?_)
    generalize w42.drew = w43 at HO_0 BK197 HB hHeld ⊢
    refine pI_ 0 (some 26) (Ra_ [1, 37]) (h := ?_)
    refine tI3_ 1 (some 27) (Ra_ [2, 36]) (h := ?_)
    refine one_ (i := 2) (N := some 28) (Ra_ [3, 35]) rfl rfl (one_of HT_.out (by kernel_rfl)) (by decide) (fun K hK => ?_)
    refine goes_ Tryd.func53 (by kernel_rfl) rfl #[.string ((rd_T66 l1 x21_1).f0)] (by rfl) rfl rfl m6_ ?_
    with_reducible refine (path_Good.calls ((rd_T66 l1 x21_1).f0) true _ A12.out).mono ?_
    rintro e w44 ⟨rfl, hb⟩
    refine ⟨_, rfl, ?_⟩
    replace HO_0 := Aside0.mk (Kd.V_below m14_ hb)
    replace BK197 := Aside0.mk (blk_below (g := gb197) (o := .cells #[.string ((rd_T66 l1 x21_1).f0), .string ((rd_T66 l1 x21_1).f1), .string ((rd_T66 l1 x21_1).f2)] 66 (0, 0)) m9_ hb)
    replace HB := Aside0.mk (below_step m2_ hb)
    (try clear hb)
    (try clear hb2)
    (try clear hk)
    (try clear hi)
    refine hK.out _ _ ⟨(blk_cell BK197.out 0).trans rfl, (blk_cell BK197.out 1).trans rfl, (blk_cell BK197.out 2).trans rfl⟩ (fun hHeld => ?_)
    clear hK K
    refine norm_ (a' := ?_) ?_ ?_
    rotate_left
    ·show Act.put _ (some 28) _ = _
     simp only [Act.put, sA_, sB_, sC_, i64_w, i32_w]
     rfl
    refine pI_ 3 (some 29) (Ra_ [4, 34]) (h := ?_)
    refine pI_ 4 (some 30) (Ra_ [5, 33]) (h := ?_)
    refine pI_ 5 (some 31) (Ra_ [6, 32]) (h := ?_)
    refine pI_ 6 (some 32) (Ra_ [7, 31]) (h := ?_)
    refine pI_ 7 (some 33) (Ra_ [8, 30]) (h := ?_)
    refine uI_ 8 (some 34) (Ra_ [9, 29]) (h := ?_)
    refine uI_ 9 (some 35) (Ra_ [10, 28]) (h := ?_)
    refine uI_ 10 (some 36) (Ra_ [11, 27]) (h := ?_)
    refine uI_ 11 (some 37) (Ra_ [12, 26]) (h := ?_)
    refine uI_ 12 (some 38) (Ra_ [13, 25]) (h := ?_)
    refine uI_ 13 (some 39) (Ra_ [14, 24]) (h := ?_)
    refine uI_ 14 (some 40) (Ra_ [15, 23]) (h := ?_)
    refine uI_ 15 (some 41) (Ra_ [16, 22]) (h := ?_)
    refine uI_ 16 (some 42) (Ra_ [17, 21]) (h := ?_)
    refine pI_ 17 (some 43) (Ra_ [18, 20]) (h := ?_)
    refine pI_ 18 (some 44) (Ra_ [19, 19]) (h := ?_)
    refine pI_ 19 (some 45) (Ra_ [20, 18]) (h := ?_)
    refine pI_ 20 (some 46) (Ra_ [21, 17]) (h := ?_)
    refine pI_ 22 (some 48) (Ra_ [21, 1, 1, 15]) (h := ?_)
    refine tI3_ 21 (some 47) (Ra_ [23, 15]) (h := ?_)
    refine tI3_ 23 (some 49) (Ra_ [24, 14]) (h := ?_)
    refine pI_ 24 (some 50) (Ra_ [25, 13]) (h := ?_)
    refine pI_ 25 (some 51) (Ra_ [26, 12]) (h := ?_)
    refine pI_ 26 (some 52) (Ra_ [27, 11]) (h := ?_)
    refine pI_ 27 (some 53) (Ra_ [28, 10]) (h := ?_)
    refine tI3_ 28 (some 54) (Ra_ [29, 9]) (h := ?_)
    refine one_ (i := 29) (N := some 55) (Ra_ [30, 8]) rfl rfl (one_of HT_.out (by kernel_rfl)) (by decide) (fun K hK => ?_)
    refine goes_ Tryd.func57 (by kernel_rfl) rfl #[.string ((rd_T66 l1 x21_1).f1)] (by rfl) rfl rfl m6_ ?_
    with_reducible refine (merkle_sum.calls ((rd_T66 l1 x21_1).f1) true _ A39.out).mono ?_
    rintro e w' ⟨rfl, ⟨nd, rfl⟩⟩
    refine ⟨_, rfl, ?_⟩
    refine hK.out _ _ ⟨(blk_cell BK197.out 0).trans rfl, (blk_cell BK197.out 1).trans rfl, (blk_cell BK197.out 2).trans rfl⟩ (fun hHeld => ?_)
    clear hK K
    refine norm_ (a' := ?_) ?_ ?_
    rotate_left
    ·show Act.put _ (some 55) _ = _
     simp only [Act.put, sA_, sB_, sC_, i64_w, i32_w]
     rfl
    refine pI_ 30 (some 56) (Ra_ [31, 7]) (h := ?_)
    refine pI_ 31 (some 57) (Ra_ [32, 6]) (h := ?_)
    refine pI_ 32 (some 58) (Ra_ [33, 5]) (h := ?_)
    refine pI_ 33 (some 59) (Ra_ [34, 4]) (h := ?_)
    refine tI3_ 34 (some 60) (Ra_ [35, 3]) (h := ?_)
    refine one_ (i := 35) (N := some 61) (Ra_ [36, 2]) rfl rfl (one_of HT_.out (by kernel_rfl)) (by decide) (fun K hK => ?_)
    refine goes_ Tryd.func57 (by kernel_rfl) rfl #[.string ((rd_T66 l1 x21_1).f2)] (by rfl) rfl rfl m6_ ?_
    with_reducible refine (merkle_sum.calls ((rd_T66 l1 x21_1).f2) t203 _ A41.out).mono ?_
    rintro e w' ⟨rfl, ⟨nd, rfl⟩⟩
    refine ⟨_, rfl, ?_⟩
    refine hK.out _ _ ⟨(blk_cell BK197.out 0).trans rfl, (blk_cell BK197.out 1).trans rfl, (blk_cell BK197.out 2).trans rfl⟩ (fun hHeld => ?_)
    clear hK K
    refine norm_ (a' := ?_) ?_ ?_
    rotate_left
    ·show Act.put _ (some 61) _ = _
     simp only [Act.put, sA_, sB_, sC_, i64_w, i32_w]
     rfl
    refine pI_ 36 (some 62) (Ra_ [37, 1]) (h := ?_)
    refine pI_ 37 (some 63) (Ra_ [38]) (h := ?_)
    refine done_ (done_of HT_.out (by kernel_rfl)) ?_
    try go_wp2
    go_meet
    case rel => exact ⟨_, (!t203), m19_, H', ⟨by have := HK1.out; first | omega | exact Nat.le_refl _⟩, ⟨by (with_reducible repeat (first | apply Kd.V_alloc | apply Kd.V_drewN | apply Kd.V_drew)); exact HO_0.out⟩, ⟨by (with_reducible repeat (first | refine blk_drewN ?_ _ | refine blk_drew ?_ | refine blk_alloc ?_ _)); exact BK197.out⟩, ⟨m25_⟩⟩
   rw [if_pos c14] at H
   have c14b0 : decide (0 < x21_1) = true := decide_eq_true c14
   clear c14
   (first | rw [c14b0] | (simp only [i64_w, i32_w]; rw [c14b0]) | skip)
   obtain ⟨ji15, hji15⟩ : ∃ j_ : Int, (wrap64 (x21_1 - 1)) = j_ := ⟨_, rfl⟩
   replace H : (if 0 ≤ (ji15) then (if (ji15) < (l1.length : Int) then (if ((Op.bytesLess (((rd_T66 l1 (ji15)).f0).toList) (((rd_T66 l1 x21_1).f0).toList)) = true) then (if ((rd_T66 l1 x21_1).f1).toList = ((rd_T66 l1 x21_1).f2).toList then (merkle_Apply.j1 k1 l0 l1 l1 (l1.length : Int) x21_1 true) else ((merkle_sum.f ((rd_T66 l1 x21_1).f1)).bind fun t200 => (if t200 = true then ((merkle_sum.f ((rd_T66 l1 x21_1).f2)).bind fun t201 => (merkle_Apply.j1 k1 l0 l1 l1 (l1.length : Int) x21_1 (!t201))) else (merkle_Apply.j1 k1 l0 l1 l1 (l1.length : Int) x21_1 true)))) else (merkle_Apply.j1 k1 l0 l1 l1 (l1.length : Int) x21_1 true)) else (none)) else (none)) = some (r1, r2) := by first | (rw [hji15] at H; exact H) | (simp only [hji15] at H ⊢; exact H)
   (try rw [hji15] at A12)
   have hji15w : (IntKind.i64.wrap (x21_1 - 1)) = ji15 := (i64_w _).trans hji15
   by_cases c16 : 0 ≤ (ji15)
   case neg =>
    rw [if_neg c16] at H
    exact absurd H (by simp)
   rw [if_pos c16] at H
   have c16b0 : decide (0 ≤ (ji15)) = true := decide_eq_true c16
   clear c16
   by_cases c17 : (ji15) < (l1.length : Int)
   case neg =>
    rw [if_neg c17] at H
    exact absurd H (by simp)
   rw [if_pos c17] at H
   have c17b0 : decide ((ji15) < (l1.length : Int)) = true := decide_eq_true c17
   clear c17
   by_cases c18 : ((Op.bytesLess (((rd_T66 l1 (ji15)).f0).toList) (((rd_T66 l1 x21_1).f0).toList)) = true)
   case neg =>
    rw [if_neg c18] at H
    have c18b0 : (Op.bytesLess (((rd_T66 l1 (ji15)).f0).toList) (((rd_T66 l1 x21_1).f0).toList)) = false := by simpa using c18
    clear c18
    have H' := Aside0.mk H
    clear H
    try go_wp2
    have n0_ : Aside0 (Kd.V k44 44 (((w10.setCell ⟨gb197, 0, none⟩ (.string ((rd_T66 l1 x21_1).f0))).setCell ⟨gb197, 1, none⟩ (.string ((rd_T66 l1 x21_1).f1))).setCell ⟨gb197, 2, none⟩ (.string ((rd_T66 l1 x21_1).f2))) w.heap.size (fun k_ => (P0_ k_ ∨ w.heap.size ≤ k_) ∧ k_ ≠ gb197) (.slice A0 l0.length c0) l0) := ⟨by (with_reducible repeat (first | apply Kd.V_alloc | apply Kd.V_drewN | apply Kd.V_drew)); exact Kd.V_mono (Kd.V_far (p := ⟨gb197, 2, none⟩) (Kd.V_far (p := ⟨gb197, 1, none⟩) (Kd.V_far (p := ⟨gb197, 0, none⟩) (Kd.V_mono HO_0.out (fun k_ hk => (⟨hk, hk.2⟩ : _ ∧ k_ ≠ gb197))) (fun _ hk => hk.2) (.string ((rd_T66 l1 x21_1).f0))) (fun _ hk => hk.2) (.string ((rd_T66 l1 x21_1).f1))) (fun _ hk => hk.2) (.string ((rd_T66 l1 x21_1).f2))) (fun _ hk => ⟨hk.1.1, hk.1.2⟩)⟩
    have n1_ : Aside0 ((((w10.setCell ⟨gb197, 0, none⟩ (.string ((rd_T66 l1 x21_1).f0))).setCell ⟨gb197, 1, none⟩ (.string ((rd_T66 l1 x21_1).f1))).setCell ⟨gb197, 2, none⟩ (.string ((rd_T66 l1 x21_1).f2))).heap[gb197]? = some (.cells #[.string ((rd_T66 l1 x21_1).f0), .string ((rd_T66 l1 x21_1).f1), .string ((rd_T66 l1 x21_1).f2)] 66 (0, 0))) := ⟨by (with_reducible repeat (first | refine blk_drewN ?_ _ | refine blk_drew ?_ | refine blk_alloc ?_ _)); refine blk_put (cs := #[.string ((rd_T66 l1 x21_1).f0), .string ((rd_T66 l1 x21_1).f1), .string (⟨#[]⟩ : ByteArray)]) ?_ 2 _ rfl; (with_reducible repeat (first | refine blk_drewN ?_ _ | refine blk_drew ?_ | refine blk_alloc ?_ _)); refine blk_put (cs := #[.string ((rd_T66 l1 x21_1).f0), .string (⟨#[]⟩ : ByteArray), .string (⟨#[]⟩ : ByteArray)]) ?_ 1 _ rfl; (with_reducible repeat (first | refine blk_drewN ?_ _ | refine blk_drew ?_ | refine blk_alloc ?_ _)); refine blk_put (cs := #[.string (⟨#[]⟩ : ByteArray), .string (⟨#[]⟩ : ByteArray), .string (⟨#[]⟩ : ByteArray)]) ?_ 0 _ rfl; (with_reducible repeat (first | refine blk_drewN ?_ _ | refine blk_drew ?_ | refine blk_alloc ?_ _)); exact BK197.out⟩
    have n2_ : Aside0 (Below w.heap.size w (((w10.setCell ⟨gb197, 0, none⟩ (.string ((rd_T66 l1 x21_1).f0))).setCell ⟨gb197, 1, none⟩ (.string ((rd_T66 l1 x21_1).f1))).setCell ⟨gb197, 2, none⟩ (.string ((rd_T66 l1 x21_1).f2)))) := ⟨m25_⟩
    (try clear HO_0)
    (try clear BK197)
    (try clear HB)
    generalize (((w10.setCell ⟨gb197, 0, none⟩ (.string ((rd_T66 l1 x21_1).f0))).setCell ⟨gb197, 1, none⟩ (.string ((rd_T66 l1 x21_1).f1))).setCell ⟨gb197, 2, none⟩ (.string ((rd_T66 l1 x21_1).f2))) = w32 at n0_ n1_ n2_ ⊢
    have HO_0 := n0_
    have BK197 := n1_
    have HB := n2_
    clear n0_ n1_ n2_
    replace HO_0 := Aside0.mk (Kd.V_drew HO_0.out)
    replace BK197 := Aside0.mk (blk_drew BK197.out)
    replace HB := Aside0.mk (below_drew1 HB.out)
    have p199 : 0 ≤ ((ji15) : Int) := of_decide_eq_true m18_
    have q199 : (ji15) < (l1.length : Int) := of_decide_eq_true m18_
    obtain ⟨ad199, e199, hx199_0, hx199_1, hx199_2⟩ := at_T66 HR1.out (ji15) p199 q199
    have hw199_2 := hx199_2
    have hw199_1 := hx199_1
    have hw199_0 := hx199_0
    obtain rfl : ad196 = ad199 := (by injection e199)
    replace hx199_0 := (HB.out.cell (World.block_lt_of_cell? w _ hx199_0)).trans hx199_0
    replace hx199_1 := (HB.out.cell (World.block_lt_of_cell? w _ hx199_1)).trans hx199_1
    replace hx199_2 := (HB.out.cell (World.block_lt_of_cell? w _ hx199_2)).trans hx199_2
    replace p199 := eq_true p199
    replace q199 := eq_true q199
    refine start_ (n := 38) (S := fun w' => w'.cell? ⟨gb197, 0, none⟩ = some (.string ((rd_T66 l1 x21_1).f0)) ∧ w'.cell? ⟨gb197, 1, none⟩ = some (.string ((rd_T66 l1 x21_1).f1)) ∧ w'.cell? ⟨gb197, 2, none⟩ = some (.string ((rd_T66 l1 x21_1).f2)) ∧ w'.cell? (ad196.add (((ji15)).toNat * 3)) = some (.string ((rd_T66 l1 (ji15)).f0)) ∧ w'.cell? ⟨(ad196.add (((ji15)).toNat * 3)).block, (ad196.add (((ji15)).toNat * 3)).off + 1, none⟩ = some (.string ((rd_T66 l1 (ji15)).f1)) ∧ w'.cell? ⟨(ad196.add (((ji15)).toNat * 3)).block, (ad196.add (((ji15)).toNat * 3)).off + 2, none⟩ = some (.string ((rd_T66 l1 (ji15)).f2))) (ds := []) (Ra_ [0, 38]) (by kernel_rfl) rfl rfl ⟨(blk_cell BK197.out 0).trans rfl, (blk_cell BK197.out 1).trans rfl, (blk_cell BK197.out 2).trans rfl, ((HB.out.cell (World.block_lt_of_cell? w _ hw199_0)).trans hw199_0), ((HB.out.cell (World.block_lt_of_cell? w _ hw199_1)).trans hw199_1), ((HB.out.cell (World.block_lt_of_cell? w _ hw199_2)).trans hw199_2)⟩ (fun hHeld => ?_); refine with_tabW merkle_Apply.tab7 merkle_Apply.bits7 (fun HT_ HW_ => ?_)
    generalize w32.drew = w33 at HO_0 BK197 HB hx199_0 hx199_1 hx199_2 hHeld ⊢
    refine pI_ 0 (some 26) (Ra_ [1, 37]) (h := ?_)
    refine tI6_ 1 (some 27) (Ra_ [2, 36]) (h := ?_)
    refine one_ (i := 2) (N := some 28) (Ra_ [3, 35]) rfl rfl (one_of HT_.out (by kernel_rfl)) (by decide) (fun K hK => ?_)
    refine goes_ Tryd.func53 (by kernel_rfl) rfl #[.string ((rd_T66 l1 x21_1).f0)] (by rfl) rfl rfl m6_ ?_
    with_reducible refine (path_Good.calls ((rd_T66 l1 x21_1).f0) true _ A12.out).mono ?_
    rintro e w34 ⟨rfl, hb⟩
    refine ⟨_, rfl, ?_⟩
    replace HO_0 := Aside0.mk (Kd.V_below m14_ hb)
    replace BK197 := Aside0.mk (blk_below (g := gb197) (o := .cells #[.string ((rd_T66 l1 x21_1).f0), .string ((rd_T66 l1 x21_1).f1), .string ((rd_T66 l1 x21_1).f2)] 66 (0, 0)) m9_ hb)
    replace HB := Aside0.mk (below_step m2_ hb)
    (try clear hb)
    (try clear hb2)
    (try clear hk)
    (try clear hi)
    refine hK.out _ _ ⟨(blk_cell BK197.out 0).trans rfl, (blk_cell BK197.out 1).trans rfl, (blk_cell BK197.out 2).trans rfl, ((HB.out.cell (World.block_lt_of_cell? w _ hw199_0)).trans hw199_0), ((HB.out.cell (World.block_lt_of_cell? w _ hw199_1)).trans hw199_1), ((HB.out.cell (World.block_lt_of_cell? w _ hw199_2)).trans hw199_2)⟩ (fun hHeld => ?_)
    clear hK K
    refine norm_ (a' := ?_) ?_ ?_
    rotate_left
    ·show Act.put _ (some 28) _ = _
     simp only [Act.put, sA_, sB_, sC_, i64_w, i32_w]
     rfl
    refine pI_ 3 (some 29) (Ra_ [4, 34]) (h := ?_)
    refine pI_ 4 (some 30) (Ra_ [5, 33]) (h := ?_)
    refine pI_ 5 (some 31) (Ra_ [6, 32]) (h := ?_)
    refine pI_ 6 (some 32) (Ra_ [7, 31]) (h := ?_)
    refine pI_ 7 (some 33) (Ra_ [8, 30]) (h := ?_)
    refine pI_ 8 (some 34) (Ra_ [9, 29]) (h := ?_)
    refine pI_ 9 (some 35) (Ra_ [10, 28]) (h := ?_)
    refine pI_ 10 (some 36) (Ra_ [11, 27]) (h := ?_)
    refine pI_ 11 (some 37) (Ra_ [12, 26]) (h := ?_)
    refine pI_ 12 (some 38) (Ra_ [13, 25]) (h := ?_)
    refine pI_ 14 (some 40) (Ra_ [13, 1, 1, 23]) (h := ?_)
    refine tI6_ 13 (some 39) (Ra_ [15, 23]) (h := ?_)
    refine tI6_ 15 (some 41) (Ra_ [16, 22]) (h := ?_)
    refine pI_ 16 (some 42) (Ra_ [17, 21]) (h := ?_)
    refine pI_ 17 (some 43) (Ra_ [18, 20]) (h := ?_)
    refine pI_ 18 (some 44) (Ra_ [19, 19]) (h := ?_)
    refine pI_ 19 (some 45) (Ra_ [20, 18]) (h := ?_)
    refine uI_ 20 (some 46) (Ra_ [21, 17]) (h := ?_)
    refine uI_ 21 (some 47) (Ra_ [22, 16]) (h := ?_)
    refine uI_ 22 (some 48) (Ra_ [23, 15]) (h := ?_)
    refine uI_ 23 (some 49) (Ra_ [24, 14]) (h := ?_)
    refine uI_ 24 (some 50) (Ra_ [25, 13]) (h := ?_)
    refine pI_ 25 (some 51) (Ra_ [26, 12]) (h := ?_)
    refine pI_ 26 (some 52) (Ra_ [27, 11]) (h := ?_)
    refine uI_ 27 (some 53) (Ra_ [28, 10]) (h := ?_)
    refine uI_ 28 (some 54) (Ra_ [29, 9]) (h := ?_)
    refine uI_ 29 (some 55) (Ra_ [30, 8]) (h := ?_)
    refine uI_ 30 (some 56) (Ra_ [31, 7]) (h := ?_)
    refine pI_ 31 (some 57) (Ra_ [32, 6]) (h := ?_)
    refine pI_ 32 (some 58) (Ra_ [33, 5]) (h := ?_)
    refine uI_ 33 (some 59) (Ra_ [34, 4]) (h := ?_)
    refine uI_ 34 (some 60) (Ra_ [35, 3]) (h := ?_)
    refine uI_ 35 (some 61) (Ra_ [36, 2]) (h := ?_)
    refine uI_ 36 (some 62) (Ra_ [37, 1]) (h := ?_)
    refine pI_ 37 (some 63) (Ra_ [38]) (h := ?_)
    refine done_ (done_of HT_.out (by kernel_rfl)) ?_
    try go_wp2
    go_meet
    case rel => exact ⟨_, (true), m19_, H', ⟨by have := HK1.out; first | omega | exact Nat.le_refl _⟩, ⟨by (with_reducible repeat (first | apply Kd.V_alloc | apply Kd.V_drewN | apply Kd.V_drew)); exact HO_0.out⟩, ⟨by (with_reducible repeat (first | refine blk_drewN ?_ _ | refine blk_drew ?_ | refine blk_alloc ?_ _)); exact BK197.out⟩, ⟨m25_⟩⟩
   rw [if_pos c18] at H
   have c18b0 : (Op.bytesLess (((rd_T66 l1 (ji15)).f0).toList) (((rd_T66 l1 x21_1).f0).toList)) = true := c18
   clear c18
   by_cases c19 : ((rd_T66 l1 x21_1).f1).toList = ((rd_T66 l1 x21_1).f2).toList
   ·rw [if_pos c19] at H
    have c19b0 : (((rd_T66 l1 x21_1).f1).toList == ((rd_T66 l1 x21_1).f2).toList) = true := beq_iff_eq.mpr c19
    have c19b1 : (((rd_T66 l1 x21_1).f1).toList != ((rd_T66 l1 x21_1).f2).toList) = false := bne_eq_false_iff_eq.mpr c19
    clear c19
    have H' := Aside0.mk H
    clear H
    try go_wp2
    have n0_ : Aside0 (Kd.V k44 44 (((w10.setCell ⟨gb197, 0, none⟩ (.string ((rd_T66 l1 x21_1).f0))).setCell ⟨gb197, 1, none⟩ (.string ((rd_T66 l1 x21_1).f1))).setCell ⟨gb197, 2, none⟩ (.string ((rd_T66 l1 x21_1).f2))) w.heap.size (fun k_ => (P0_ k_ ∨ w.heap.size ≤ k_) ∧ k_ ≠ gb197) (.slice A0 l0.length c0) l0) := ⟨by (with_reducible repeat (first | apply Kd.V_alloc | apply Kd.V_drewN | apply Kd.V_drew)); exact Kd.V_mono (Kd.V_far (p := ⟨gb197, 2, none⟩) (Kd.V_far (p := ⟨gb197, 1, none⟩) (Kd.V_far (p := ⟨gb197, 0, none⟩) (Kd.V_mono HO_0.out (fun k_ hk => (⟨hk, hk.2⟩ : _ ∧ k_ ≠ gb197))) (fun _ hk => hk.2) (.string ((rd_T66 l1 x21_1).f0))) (fun _ hk => hk.2) (.string ((rd_T66 l1 x21_1).f1))) (fun _ hk => hk.2) (.string ((rd_T66 l1 x21_1).f2))) (fun _ hk => ⟨hk.1.1, hk.1.2⟩)⟩
    have n1_ : Aside0 ((((w10.setCell ⟨gb197, 0, none⟩ (.string ((rd_T66 l1 x21_1).f0))).setCell ⟨gb197, 1, none⟩ (.string ((rd_T66 l1 x21_1).f1))).setCell ⟨gb197, 2, none⟩ (.string ((rd_T66 l1 x21_1).f2))).heap[gb197]? = some (.cells #[.string ((rd_T66 l1 x21_1).f0), .string ((rd_T66 l1 x21_1).f1), .string ((rd_T66 l1 x21_1).f2)] 66 (0, 0))) := ⟨by (with_reducible repeat (first | refine blk_drewN ?_ _ | refine blk_drew ?_ | refine blk_alloc ?_ _)); refine blk_put (cs := #[.string ((rd_T66 l1 x21_1).f0), .string ((rd_T66 l1 x21_1).f1), .string (⟨#[]⟩ : ByteArray)]) ?_ 2 _ rfl; (with_reducible repeat (first | refine blk_drewN ?_ _ | refine blk_drew ?_ | refine blk_alloc ?_ _)); refine blk_put (cs := #[.string ((rd_T66 l1 x21_1).f0), .string (⟨#[]⟩ : ByteArray), .string (⟨#[]⟩ : ByteArray)]) ?_ 1 _ rfl; (with_reducible repeat (first | refine blk_drewN ?_ _ | refine blk_drew ?_ | refine blk_alloc ?_ _)); refine blk_put (cs := #[.string (⟨#[]⟩ : ByteArray), .string (⟨#[]⟩ : ByteArray), .string (⟨#[]⟩ : ByteArray)]) ?_ 0 _ rfl; (with_reducible repeat (first | refine blk_drewN ?_ _ | refine blk_drew ?_ | refine blk_alloc ?_ _)); exact BK197.out⟩
    have n2_ : Aside0 (Below w.heap.size w (((w10.setCell ⟨gb197, 0, none⟩ (.string ((rd_T66 l1 x21_1).f0))).setCell ⟨gb197, 1, none⟩ (.string ((rd_T66 l1 x21_1).f1))).setCell ⟨gb197, 2, none⟩ (.string ((rd_T66 l1 x21_1).f2)))) := ⟨m25_⟩
    (try clear HO_0)
    (try clear BK197)
    (try clear HB)
    generalize (((w10.setCell ⟨gb197, 0, none⟩ (.string ((rd_T66 l1 x21_1).f0))).setCell ⟨gb197, 1, none⟩ (.string ((rd_T66 l1 x21_1).f1))).setCell ⟨gb197, 2, none⟩ (.string ((rd_T66 l1 x21_1).f2))) = w20 at n0_ n1_ n2_ ⊢
    have HO_0 := n0_
    have BK197 := n1_
    have HB := n2_
    clear n0_ n1_ n2_
    replace HO_0 := Aside0.mk (Kd.V_drew HO_0.out)
    replace BK197 := Aside0.mk (blk_drew BK197.out)
    replace HB := Aside0.mk (below_drew1 HB.out)
    have p199 : 0 ≤ ((ji15) : Int) := of_decide_eq_true m18_
    have q199 : (ji15) < (l1.length : Int) := of_decide_eq_true m18_
    obtain ⟨ad199, e199, hx199_0, hx199_1, hx199_2⟩ := at_T66 HR1.out (ji15) p199 q199
    have hw199_2 := hx199_2
    have hw199_1 := hx199_1
    have hw199_0 := hx199_0
    obtain rfl : ad196 = ad199 := (by injection e199)
    replace hx199_0 := (HB.out.cell (World.block_lt_of_cell? w _ hx199_0)).trans hx199_0
    replace hx199_1 := (HB.out.cell (World.block_lt_of_cell? w _ hx199_1)).trans hx199_1
    replace hx199_2 := (HB.out.cell (World.block_lt_of_cell? w _ hx199_2)).trans hx199_2
    replace p199 := eq_true p199
    replace q199 := eq_true q199
    refine start_ (n := 38) (S := fun w' => w'.cell? ⟨gb197, 0, none⟩ = some (.string ((rd_T66 l1 x21_1).f0)) ∧ w'.cell? ⟨gb197, 1, none⟩ = some (.string ((rd_T66 l1 x21_1).f1)) ∧ w'.cell? ⟨gb197, 2, none⟩ = some (.string ((rd_T66 l1 x21_1).f2)) ∧ w'.cell? (ad196.add (((ji15)).toNat * 3)) = some (.string ((rd_T66 l1 (ji15)).f0)) ∧ w'.cell? ⟨(ad196.add (((ji15)).toNat * 3)).block, (ad196.add (((ji15)).toNat * 3)).off + 1, none⟩ = some (.string ((rd_T66 l1 (ji15)).f1)) ∧ w'.cell? ⟨(ad196.add (((ji15)).toNat * 3)).block, (ad196.add (((ji15)).toNat * 3)).off + 2, none⟩ = some (.string ((rd_T66 l1 (ji15)).f2))) (ds := []) (Ra_ [0, 38]) (by kernel_rfl) rfl rfl ⟨(blk_cell BK197.out 0).trans rfl, (blk_cell BK197.out 1).trans rfl, (blk_cell BK197.out 2).trans rfl, ((HB.out.cell (World.block_lt_of_cell? w _ hw199_0)).trans hw199_0), ((HB.out.cell (World.block_lt_of_cell? w _ hw199_1)).trans hw199_1), ((HB.out.cell (World.block_lt_of_cell? w _ hw199_2)).trans hw199_2)⟩ (fun hHeld => ?_); refine with_tabW merkle_Apply.tab7 merkle_Apply.bits7 (fun HT_ HW_ => ?_)
    generalize w20.drew = w21 at HO_0 BK197 HB hx199_0 hx199_1 hx199_2 hHeld ⊢
    refine pI_ 0 (some 26) (Ra_ [1, 37]) (h := ?_)
    refine tI6_ 1 (some 27) (Ra_ [2, 36]) (h := ?_)
    refine one_ (i := 2) (N := some 28) (Ra_ [3, 35]) rfl rfl (one_of HT_.out (by kernel_rfl)) (by decide) (fun K hK => ?_)
    refine goes_ Tryd.func53 (by kernel_rfl) rfl #[.string ((rd_T66 l1 x21_1).f0)] (by rfl) rfl rfl m6_ ?_
    with_reducible refine (path_Good.calls ((rd_T66 l1 x21_1).f0) true _ A12.out).mono ?_
    rintro e w22 ⟨rfl, hb⟩
    refine ⟨_, rfl, ?_⟩
    replace HO_0 := Aside0.mk (Kd.V_below m14_ hb)
    replace BK197 := Aside0.mk (blk_below (g := gb197) (o := .cells #[.string ((rd_T66 l1 x21_1).f0), .string ((rd_T66 l1 x21_1).f1), .string ((rd_T66 l1 x21_1).f2)] 66 (0, 0)) m9_ hb)
    replace HB := Aside0.mk (below_step m2_ hb)
    (try clear hb)
    (try clear hb2)
    (try clear hk)
    (try clear hi)
    refine hK.out _ _ ⟨(blk_cell BK197.out 0).trans rfl, (blk_cell BK197.out 1).trans rfl, (blk_cell BK197.out 2).trans rfl, ((HB.out.cell (World.block_lt_of_cell? w _ hw199_0)).trans hw199_0), ((HB.out.cell (World.block_lt_of_cell? w _ hw199_1)).trans hw199_1), ((HB.out.cell (World.block_lt_of_cell? w _ hw199_2)).trans hw199_2)⟩ (fun hHeld => ?_)
    clear hK K
    refine norm_ (a' := ?_) ?_ ?_
    rotate_left
    ·show Act.put _ (some 28) _ = _
     simp only [Act.put, sA_, sB_, sC_, i64_w, i32_w]
     rfl
    refine pI_ 3 (some 29) (Ra_ [4, 34]) (h := ?_)
    refine pI_ 4 (some 30) (Ra_ [5, 33]) (h := ?_)
    refine pI_ 5 (some 31) (Ra_ [6, 32]) (h := ?_)
    refine pI_ 6 (some 32) (Ra_ [7, 31]) (h := ?_)
    refine pI_ 7 (some 33) (Ra_ [8, 30]) (h := ?_)
    refine pI_ 8 (some 34) (Ra_ [9, 29]) (h := ?_)
    refine pI_ 9 (some 35) (Ra_ [10, 28]) (h := ?_)
    refine pI_ 10 (some 36) (Ra_ [11, 27]) (h := ?_)
    refine pI_ 11 (some 37) (Ra_ [12, 26]) (h := ?_)
    refine pI_ 12 (some 38) (Ra_ [13, 25]) (h := ?_)
    refine pI_ 14 (some 40) (Ra_ [13, 1, 1, 23]) (h := ?_)
    refine tI6_ 13 (some 39) (Ra_ [15, 23]) (h := ?_)
    refine tI6_ 15 (some 41) (Ra_ [16, 22]) (h := ?_)
    refine pI_ 16 (some 42) (Ra_ [17, 21]) (h := ?_)
    refine pI_ 17 (some 43) (Ra_ [18, 20]) (h := ?_)
    refine pI_ 18 (some 44) (Ra_ [19, 19]) (h := ?_)
    refine pI_ 19 (some 45) (Ra_ [20, 18]) (h := ?_)
    refine pI_ 20 (some 46) (Ra_ [21, 17]) (h := ?_)
    refine pI_ 22 (some 48) (Ra_ [21, 1, 1, 15]) (h := ?_)
    refine tI6_ 21 (some 47) (Ra_ [23, 15]) (h := ?_)
    refine tI6_ 23 (some 49) (Ra_ [24, 14]) (h := ?_)
    refine pI_ 24 (some 50) (Ra_ [25, 13]) (h := ?_)
    refine pI_ 25 (some 51) (Ra_ [26, 12]) (h := ?_)
    refine pI_ 26 (some 52) (Ra_ [27, 11]) (h := ?_)
    refine uI_ 27 (some 53) (Ra_ [28, 10]) (h := ?_)
    refine uI_ 28 (some 54) (Ra_ [29, 9]) (h := ?_)
    refine uI_ 29 (some 55) (Ra_ [30, 8]) (h := ?_)
    refine uI_ 30 (some 56) (Ra_ [31, 7]) (h := ?_)
    refine pI_ 31 (some 57) (Ra_ [32, 6]) (h := ?_)
    refine pI_ 32 (some 58) (Ra_ [33, 5]) (h := ?_)
    refine uI_ 33 (some 59) (Ra_ [34, 4]) (h := ?_)
    refine uI_ 34 (some 60) (Ra_ [35, 3]) (h := ?_)
    refine uI_ 35 (some 61) (Ra_ [36, 2]) (h := ?_)
    refine uI_ 36 (some 62) (Ra_ [37, 1]) (h := ?_)
    refine pI_ 37 (some 63) (Ra_ [38]) (h := ?_)
    refine done_ (done_of HT_.out (by kernel_rfl)) ?_
    try go_wp2
    go_meet
    case rel => exact ⟨_, (true), m19_, H', ⟨by have := HK1.out; first | omega | exact Nat.le_refl _⟩, ⟨by (with_reducible repeat (first | apply Kd.V_alloc | apply Kd.V_drewN | apply Kd.V_drew)); exact HO_0.out⟩, ⟨by (with_reducible repeat (first | refine blk_drewN ?_ _ | refine blk_drew ?_ | refine blk_alloc ?_ _)); exact BK197.out⟩, ⟨m25_⟩⟩
   rw [if_neg c19] at H
   have c19b0 : (((rd_T66 l1 x21_1).f1).toList == ((rd_T66 l1 x21_1).f2).toList) = false := beq_eq_false_iff_ne.mpr c19
   have c19b1 : (((rd_T66 l1 x21_1).f1).toList != ((rd_T66 l1 x21_1).f2).toList) = true := bne_iff_ne.mpr c19
   replace H := Option.bind_eq_some_iff.mp H
   obtain ⟨t200, A230, H⟩ := H
   replace H : (if t200 = true then ((merkle_sum.f ((rd_T66 l1 x21_1).f2)).bind fun t201 => (merkle_Apply.j1 k1 l0 l1 l1 (l1.length : Int) x21_1 (!t201))) else (merkle_Apply.j1 k1 l0 l1 l1 (l1.length : Int) x21_1 true)) = some (r1, r2) := H
   have A23 := Aside0.mk A230
   clear A230
   by_cases c24 : t200 = true
   case neg =>
    replace c24 := Bool.eq_false_iff.mpr c24
    subst c24
    have H1 : (merkle_Apply.j1 k1 l0 l1 l1 (l1.length : Int) x21_1 true) = some (r1, r2) := by rw [if_neg (show ¬ (false = true) by decide)] at H; exact H
    clear H
    have H := H1
    clear H1
    have H' := Aside0.mk H
    clear H
    try go_wp2
    have n0_ : Aside0 (Kd.V k44 44 (((w10.setCell ⟨gb197, 0, none⟩ (.string ((rd_T66 l1 x21_1).f0))).setCell ⟨gb197, 1, none⟩ (.string ((rd_T66 l1 x21_1).f1))).setCell ⟨gb197, 2, none⟩ (.string ((rd_T66 l1 x21_1).f2))) w.heap.size (fun k_ => (P0_ k_ ∨ w.heap.size ≤ k_) ∧ k_ ≠ gb197) (.slice A0 l0.length c0) l0) := ⟨by (with_reducible repeat (first | apply Kd.V_alloc | apply Kd.V_drewN | apply Kd.V_drew)); exact Kd.V_mono (Kd.V_far (p := ⟨gb197, 2, none⟩) (Kd.V_far (p := ⟨gb197, 1, none⟩) (Kd.V_far (p := ⟨gb197, 0, none⟩) (Kd.V_mono HO_0.out (fun k_ hk => (⟨hk, hk.2⟩ : _ ∧ k_ ≠ gb197))) (fun _ hk => hk.2) (.string ((rd_T66 l1 x21_1).f0))) (fun _ hk => hk.2) (.string ((rd_T66 l1 x21_1).f1))) (fun _ hk => hk.2) (.string ((rd_T66 l1 x21_1).f2))) (fun _ hk => ⟨hk.1.1, hk.1.2⟩)⟩
    have n1_ : Aside0 ((((w10.setCell ⟨gb197, 0, none⟩ (.string ((rd_T66 l1 x21_1).f0))).setCell ⟨gb197, 1, none⟩ (.string ((rd_T66 l1 x21_1).f1))).setCell ⟨gb197, 2, none⟩ (.string ((rd_T66 l1 x21_1).f2))).heap[gb197]? = some (.cells #[.string ((rd_T66 l1 x21_1).f0), .string ((rd_T66 l1 x21_1).f1), .string ((rd_T66 l1 x21_1).f2)] 66 (0, 0))) := ⟨by (with_reducible repeat (first | refine blk_drewN ?_ _ | refine blk_drew ?_ | refine blk_alloc ?_ _)); refine blk_put (cs := #[.string ((rd_T66 l1 x21_1).f0), .string ((rd_T66 l1 x21_1).f1), .string (⟨#[]⟩ : ByteArray)]) ?_ 2 _ rfl; (with_reducible repeat (first | refine blk_drewN ?_ _ | refine blk_drew ?_ | refine blk_alloc ?_ _)); refine blk_put (cs := #[.string ((rd_T66 l1 x21_1).f0), .string (⟨#[]⟩ : ByteArray), .string (⟨#[]⟩ : ByteArray)]) ?_ 1 _ rfl; (with_reducible repeat (first | refine blk_drewN ?_ _ | refine blk_drew ?_ | refine blk_alloc ?_ _)); refine blk_put (cs := #[.string (⟨#[]⟩ : ByteArray), .string (⟨#[]⟩ : ByteArray), .string (⟨#[]⟩ : ByteArray)]) ?_ 0 _ rfl; (with_reducible repeat (first | refine blk_drewN ?_ _ | refine blk_drew ?_ | refine blk_alloc ?_ _)); exact BK197.out⟩
    have n2_ : Aside0 (Below w.heap.size w (((w10.setCell ⟨gb197, 0, none⟩ (.string ((rd_T66 l1 x21_1).f0))).setCell ⟨gb197, 1, none⟩ (.string ((rd_T66 l1 x21_1).f1))).setCell ⟨gb197, 2, none⟩ (.string ((rd_T66 l1 x21_1).f2)))) := ⟨m25_⟩
    (try clear HO_0)
    (try clear BK197)
    (try clear HB)
    generalize (((w10.setCell ⟨gb197, 0, none⟩ (.string ((rd_T66 l1 x21_1).f0))).setCell ⟨gb197, 1, none⟩ (.string ((rd_T66 l1 x21_1).f1))).setCell ⟨gb197, 2, none⟩ (.string ((rd_T66 l1 x21_1).f2))) = w29 at n0_ n1_ n2_ ⊢
    have HO_0 := n0_
    have BK197 := n1_
    have HB := n2_
    clear n0_ n1_ n2_
    replace HO_0 := Aside0.mk (Kd.V_drew HO_0.out)
    replace BK197 := Aside0.mk (blk_drew BK197.out)
    replace HB := Aside0.mk (below_drew1 HB.out)
    have p199 : 0 ≤ ((ji15) : Int) := of_decide_eq_true m18_
    have q199 : (ji15) < (l1.length : Int) := of_decide_eq_true m18_
    obtain ⟨ad199, e199, hx199_0, hx199_1, hx199_2⟩ := at_T66 HR1.out (ji15) p199 q199
    have hw199_2 := hx199_2
    have hw199_1 := hx199_1
    have hw199_0 := hx199_0
    obtain rfl : ad196 = ad199 := (by injection e199)
    replace hx199_0 := (HB.out.cell (World.block_lt_of_cell? w _ hx199_0)).trans hx199_0
    replace hx199_1 := (HB.out.cell (World.block_lt_of_cell? w _ hx199_1)).trans hx199_1
    replace hx199_2 := (HB.out.cell (World.block_lt_of_cell? w _ hx199_2)).trans hx199_2
    replace p199 := eq_true p199
    replace q199 := eq_true q199
    refine start_ (n := 38) (S := fun w' => w'.cell? ⟨gb197, 0, none⟩ = some (.string ((rd_T66 l1 x21_1).f0)) ∧ w'.cell? ⟨gb197, 1, none⟩ = some (.string ((rd_T66 l1 x21_1).f1)) ∧ w'.cell? ⟨gb197, 2, none⟩ = some (.string ((rd_T66 l1 x21_1).f2)) ∧ w'.cell? (ad196.add (((ji15)).toNat * 3)) = some (.string ((rd_T66 l1 (ji15)).f0)) ∧ w'.cell? ⟨(ad196.add (((ji15)).toNat * 3)).block, (ad196.add (((ji15)).toNat * 3)).off + 1, none⟩ = some (.string ((rd_T66 l1 (ji15)).f1)) ∧ w'.cell? ⟨(ad196.add (((ji15)).toNat * 3)).block, (ad196.add (((ji15)).toNat * 3)).off + 2, none⟩ = some (.string ((rd_T66 l1 (ji15)).f2))) (ds := []) (Ra_ [0, 38]) (by kernel_rfl) rfl rfl ⟨(blk_cell BK197.out 0).trans rfl, (blk_cell BK197.out 1).trans rfl, (blk_cell BK197.out 2).trans rfl, ((HB.out.cell (World.block_lt_of_cell? w _ hw199_0)).trans hw199_0), ((HB.out.cell (World.block_lt_of_cell? w _ hw199_1)).trans hw199_1), ((HB.out.cell (World.block_lt_of_cell? w _ hw199_2)).trans hw199_2)⟩ (fun hHeld => ?_); refine with_tabW merkle_Apply.tab7 merkle_Apply.bits7 (fun HT_ HW_ => ?_)
    generalize w29.drew = w30 at HO_0 BK197 HB hx199_0 hx199_1 hx199_2 hHeld ⊢
    refine pI_ 0 (some 26) (Ra_ [1, 37]) (h := ?_)
    refine tI6_ 1 (some 27) (Ra_ [2, 36]) (h := ?_)
    refine one_ (i := 2) (N := some 28) (Ra_ [3, 35]) rfl rfl (one_of HT_.out (by kernel_rfl)) (by decide) (fun K hK => ?_)
    refine goes_ Tryd.func53 (by kernel_rfl) rfl #[.string ((rd_T66 l1 x21_1).f0)] (by rfl) rfl rfl m6_ ?_
    with_reducible refine (path_Good.calls ((rd_T66 l1 x21_1).f0) true _ A12.out).mono ?_
    rintro e w31 ⟨rfl, hb⟩
    refine ⟨_, rfl, ?_⟩
    replace HO_0 := Aside0.mk (Kd.V_below m14_ hb)
    replace BK197 := Aside0.mk (blk_below (g := gb197) (o := .cells #[.string ((rd_T66 l1 x21_1).f0), .string ((rd_T66 l1 x21_1).f1), .string ((rd_T66 l1 x21_1).f2)] 66 (0, 0)) m9_ hb)
    replace HB := Aside0.mk (below_step m2_ hb)
    (try clear hb)
    (try clear hb2)
    (try clear hk)
    (try clear hi)
    refine hK.out _ _ ⟨(blk_cell BK197.out 0).trans rfl, (blk_cell BK197.out 1).trans rfl, (blk_cell BK197.out 2).trans rfl, ((HB.out.cell (World.block_lt_of_cell? w _ hw199_0)).trans hw199_0), ((HB.out.cell (World.block_lt_of_cell? w _ hw199_1)).trans hw199_1), ((HB.out.cell (World.block_lt_of_cell? w _ hw199_2)).trans hw199_2)⟩ (fun hHeld => ?_)
    clear hK K
    refine norm_ (a' := ?_) ?_ ?_
    rotate_left
    ·show Act.put _ (some 28) _ = _
     simp only [Act.put, sA_, sB_, sC_, i64_w, i32_w]
     rfl
    refine pI_ 3 (some 29) (Ra_ [4, 34]) (h := ?_)
    refine pI_ 4 (some 30) (Ra_ [5, 33]) (h := ?_)
    refine pI_ 5 (some 31) (Ra_ [6, 32]) (h := ?_)
    refine pI_ 6 (some 32) (Ra_ [7, 31]) (h := ?_)
    refine pI_ 7 (some 33) (Ra_ [8, 30]) (h := ?_)
    refine pI_ 8 (some 34) (Ra_ [9, 29]) (h := ?_)
    refine pI_ 9 (some 35) (Ra_ [10, 28]) (h := ?_)
    refine pI_ 10 (some 36) (Ra_ [11, 27]) (h := ?_)
    refine pI_ 11 (some 37) (Ra_ [12, 26]) (h := ?_)
    refine pI_ 12 (some 38) (Ra_ [13, 25]) (h := ?_)
    refine pI_ 14 (some 40) (Ra_ [13, 1, 1, 23]) (h := ?_)
    refine tI6_ 13 (some 39) (Ra_ [15, 23]) (h := ?_)
    refine tI6_ 15 (some 41) (Ra_ [16, 22]) (h := ?_)
    refine pI_ 16 (some 42) (Ra_ [17, 21]) (h := ?_)
    refine pI_ 17 (some 43) (Ra_ [18, 20]) (h := ?_)
    refine pI_ 18 (some 44) (Ra_ [19, 19]) (h := ?_)
    refine pI_ 19 (some 45) (Ra_ [20, 18]) (h := ?_)
    refine pI_ 20 (some 46) (Ra_ [21, 17]) (h := ?_)
    refine pI_ 22 (some 48) (Ra_ [21, 1, 1, 15]) (h := ?_)
    refine tI6_ 21 (some 47) (Ra_ [23, 15]) (h := ?_)
    refine tI6_ 23 (some 49) (Ra_ [24, 14]) (h := ?_)
    refine pI_ 24 (some 50) (Ra_ [25, 13]) (h := ?_)
    refine pI_ 25 (some 51) (Ra_ [26, 12]) (h := ?_)
    refine pI_ 26 (some 52) (Ra_ [27, 11]) (h := ?_)
    refine pI_ 27 (some 53) (Ra_ [28, 10]) (h := ?_)
    refine tI6_ 28 (some 54) (Ra_ [29, 9]) (h := ?_)
    refine one_ (i := 29) (N := some 55) (Ra_ [30, 8]) rfl rfl (one_of HT_.out (by kernel_rfl)) (by decide) (fun K hK => ?_)
    refine goes_ Tryd.func57 (by kernel_rfl) rfl #[.string ((rd_T66 l1 x21_1).f1)] (by rfl) rfl rfl m6_ ?_
    with_reducible refine (merkle_sum.calls ((rd_T66 l1 x21_1).f1) false _ A23.out).mono ?_
    rintro e w' ⟨rfl, ⟨nd, rfl⟩⟩
    refine ⟨_, rfl, ?_⟩
    refine hK.out _ _ ⟨(blk_cell BK197.out 0).trans rfl, (blk_cell BK197.out 1).trans rfl, (blk_cell BK197.out 2).trans rfl, ((HB.out.cell (World.block_lt_of_cell? w _ hw199_0)).trans hw199_0), ((HB.out.cell (World.block_lt_of_cell? w _ hw199_1)).trans hw199_1), ((HB.out.cell (World.block_lt_of_cell? w _ hw199_2)).trans hw199_2)⟩ (fun hHeld => ?_)
    clear hK K
    refine norm_ (a' := ?_) ?_ ?_
    rotate_left
    ·show Act.put _ (some 55) _ = _
     simp only [Act.put, sA_, sB_, sC_, i64_w, i32_w]
     rfl
    refine pI_ 30 (some 56) (Ra_ [31, 7]) (h := ?_)
    refine pI_ 31 (some 57) (Ra_ [32, 6]) (h := ?_)
    refine pI_ 32 (some 58) (Ra_ [33, 5]) (h := ?_)
    refine uI_ 33 (some 59) (Ra_ [34, 4]) (h := ?_)
    refine uI_ 34 (some 60) (Ra_ [35, 3]) (h := ?_)
    refine uI_ 35 (some 61) (Ra_ [36, 2]) (h := ?_)
    refine uI_ 36 (some 62) (Ra_ [37, 1]) (h := ?_)
    refine pI_ 37 (some 63) (Ra_ [38]) (h := ?_)
    refine done_ (done_of HT_.out (by kernel_rfl)) ?_
    try go_wp2
    go_meet
    case rel => exact ⟨_, (true), m19_, H', ⟨by have := HK1.out; first | omega | exact Nat.le_refl _⟩, ⟨by (with_reducible repeat (first | apply Kd.V_alloc | apply Kd.V_drewN | apply Kd.V_drew)); exact HO_0.out⟩, ⟨by (with_reducible repeat (first | refine blk_drewN ?_ _ | refine blk_drew ?_ | refine blk_alloc ?_ _)); exact BK197.out⟩, ⟨m25_⟩⟩
   subst c24
   have H1 : ((merkle_sum.f ((rd_T66 l1 x21_1).f2)).bind fun t201 => (merkle_Apply.j1 k1 l0 l1 l1 (l1.length : Int) x21_1 (!t201))) = some (r1, r2) := by rw [if_pos rfl] at H; exact H
   clear H
   have H := H1
   clear H1
   replace H := Option.bind_eq_some_iff.mp H
   obtain ⟨t201, A250, H⟩ := H
   replace H : (merkle_Apply.j1 k1 l0 l1 l1 (l1.length : Int) x21_1 (!t201)) = some (r1, r2) := H
   have A25 := Aside0.mk A250
   clear A250
   have H' := Aside0.mk H
   clear H
   try go_wp2
   have n0_ : Aside0 (Kd.V k44 44 (((w10.setCell ⟨gb197, 0, none⟩ (.string ((rd_T66 l1 x21_1).f0))).setCell ⟨gb197, 1, none⟩ (.string ((rd_T66 l1 x21_1).f1))).setCell ⟨gb197, 2, none⟩ (.string ((rd_T66 l1 x21_1).f2))) w.heap.size (fun k_ => (P0_ k_ ∨ w.heap.size ≤ k_) ∧ k_ ≠ gb197) (.slice A0 l0.length c0) l0) := ⟨by (with_reducible repeat (first | apply Kd.V_alloc | apply Kd.V_drewN | apply Kd.V_drew)); exact Kd.V_mono (Kd.V_far (p := ⟨gb197, 2, none⟩) (Kd.V_far (p := ⟨gb197, 1, none⟩) (Kd.V_far (p := ⟨gb197, 0, none⟩) (Kd.V_mono HO_0.out (fun k_ hk => (⟨hk, hk.2⟩ : _ ∧ k_ ≠ gb197))) (fun _ hk => hk.2) (.string ((rd_T66 l1 x21_1).f0))) (fun _ hk => hk.2) (.string ((rd_T66 l1 x21_1).f1))) (fun _ hk => hk.2) (.string ((rd_T66 l1 x21_1).f2))) (fun _ hk => ⟨hk.1.1, hk.1.2⟩)⟩
   have n1_ : Aside0 ((((w10.setCell ⟨gb197, 0, none⟩ (.string ((rd_T66 l1 x21_1).f0))).setCell ⟨gb197, 1, none⟩ (.string ((rd_T66 l1 x21_1).f1))).setCell ⟨gb197, 2, none⟩ (.string ((rd_T66 l1 x21_1).f2))).heap[gb197]? = some (.cells #[.string ((rd_T66 l1 x21_1).f0), .string ((rd_T66 l1 x21_1).f1), .string ((rd_T66 l1 x21_1).f2)] 66 (0, 0))) := ⟨by (with_reducible repeat (first | refine blk_drewN ?_ _ | refine blk_drew ?_ | refine blk_alloc ?_ _)); refine blk_put (cs := #[.string ((rd_T66 l1 x21_1).f0), .string ((rd_T66 l1 x21_1).f1), .string (⟨#[]⟩ : ByteArray)]) ?_ 2 _ rfl; (with_reducible repeat (first | refine blk_drewN ?_ _ | refine blk_drew ?_ | refine blk_alloc ?_ _)); refine blk_put (cs := #[.string ((rd_T66 l1 x21_1).f0), .string (⟨#[]⟩ : ByteArray), .string (⟨#[]⟩ : ByteArray)]) ?_ 1 _ rfl; (with_reducible repeat (first | refine blk_drewN ?_ _ | refine blk_drew ?_ | refine blk_alloc ?_ _)); refine blk_put (cs := #[.string (⟨#[]⟩ : ByteArray), .string (⟨#[]⟩ : ByteArray), .string (⟨#[]⟩ : ByteArray)]) ?_ 0 _ rfl; (with_reducible repeat (first | refine blk_drewN ?_ _ | refine blk_drew ?_ | refine blk_alloc ?_ _)); exact BK197.out⟩
   have n2_ : Aside0 (Below w.heap.size w (((w10.setCell ⟨gb197, 0, none⟩ (.string ((rd_T66 l1 x21_1).f0))).setCell ⟨gb197, 1, none⟩ (.string ((rd_T66 l1 x21_1).f1))).setCell ⟨gb197, 2, none⟩ (.string ((rd_T66 l1 x21_1).f2)))) := ⟨m25_⟩
   (try clear HO_0)
   (try clear BK197)
   (try clear HB)
   generalize (((w10.setCell ⟨gb197, 0, none⟩ (.string ((rd_T66 l1 x21_1).f0))).setCell ⟨gb197, 1, none⟩ (.string ((rd_T66 l1 x21_1).f1))).setCell ⟨gb197, 2, none⟩ (.string ((rd_T66 l1 x21_1).f2))) = w26 at n0_ n1_ n2_ ⊢
   have HO_0 := n0_
   have BK197 := n1_
   have HB := n2_
   clear n0_ n1_ n2_
   replace HO_0 := Aside0.mk (Kd.V_drew HO_0.out)
   replace BK197 := Aside0.mk (blk_drew BK197.out)
   replace HB := Aside0.mk (below_drew1 HB.out)
   have p199 : 0 ≤ ((ji15) : Int) := of_decide_eq_true m18_
   have q199 : (ji15) < (l1.length : Int) := of_decide_eq_true m18_
   obtain ⟨ad199, e199, hx199_0, hx199_1, hx199_2⟩ := at_T66 HR1.out (ji15) p199 q199
   have hw199_2 := hx199_2
   have hw199_1 := hx199_1
   have hw199_0 := hx199_0
   obtain rfl : ad196 = ad199 := (by injection e199)
   replace hx199_0 := (HB.out.cell (World.block_lt_of_cell? w _ hx199_0)).trans hx199_0
   replace hx199_1 := (HB.out.cell (World.block_lt_of_cell? w _ hx199_1)).trans hx199_1
   replace hx199_2 := (HB.out.cell (World.block_lt_of_cell? w _ hx199_2)).trans hx199_2
   replace p199 := eq_true p199
   replace q199 := eq_true q199
   refine start_ (n := 38) (S := fun w' => w'.cell? ⟨gb197, 0, none⟩ = some (.string ((rd_T66 l1 x21_1).f0)) ∧ w'.cell? ⟨gb197, 1, none⟩ = some (.string ((rd_T66 l1 x21_1).f1)) ∧ w'.cell? ⟨gb197, 2, none⟩ = some (.string ((rd_T66 l1 x21_1).f2)) ∧ w'.cell? (ad196.add (((ji15)).toNat * 3)) = some (.string ((rd_T66 l1 (ji15)).f0)) ∧ w'.cell? ⟨(ad196.add (((ji15)).toNat * 3)).block, (ad196.add (((ji15)).toNat * 3)).off + 1, none⟩ = some (.string ((rd_T66 l1 (ji15)).f1)) ∧ w'.cell? ⟨(ad196.add (((ji15)).toNat * 3)).block, (ad196.add (((ji15)).toNat * 3)).off + 2, none⟩ = some (.string ((rd_T66 l1 (ji15)).f2))) (ds := []) (Ra_ [0, 38]) (by kernel_rfl) rfl rfl ⟨(blk_cell BK197.out 0).trans rfl, (blk_cell BK197.out 1).trans rfl, (blk_cell BK197.out 2).trans rfl, ((HB.out.cell (World.block_lt_of_cell? w _ hw199_0)).trans hw199_0), ((HB.out.cell (World.block_lt_of_cell? w _ hw199_1)).trans hw199_1), ((HB.out.cell (World.block_lt_of_cell? w _ hw199_2)).trans hw199_2)⟩ (fun hHeld => ?_); refine with_tabW merkle_Apply.tab7 merkle_Apply.bits7 (fun HT_ HW_ => ?_)
   generalize w26.drew = w27 at HO_0 BK197 HB hx199_0 hx199_1 hx199_2 hHeld ⊢
   refine pI_ 0 (some 26) (Ra_ [1, 37]) (h := ?_)
   refine tI6_ 1 (some 27) (Ra_ [2, 36]) (h := ?_)
   refine one_ (i := 2) (N := some 28) (Ra_ [3, 35]) rfl rfl (one_of HT_.out (by kernel_rfl)) (by decide) (fun K hK => ?_)
   refine goes_ Tryd.func53 (by kernel_rfl) rfl #[.string ((rd_T66 l1 x21_1).f0)] (by rfl) rfl rfl m6_ ?_
   with_reducible refine (path_Good.calls ((rd_T66 l1 x21_1).f0) true _ A12.out).mono ?_
   rintro e w28 ⟨rfl, hb⟩
   refine ⟨_, rfl, ?_⟩
   replace HO_0 := Aside0.mk (Kd.V_below m14_ hb)
   replace BK197 := Aside0.mk (blk_below (g := gb197) (o := .cells #[.string ((rd_T66 l1 x21_1).f0), .string ((rd_T66 l1 x21_1).f1), .string ((rd_T66 l1 x21_1).f2)] 66 (0, 0)) m9_ hb)
   replace HB := Aside0.mk (below_step m2_ hb)
   (try clear hb)
   (try clear hb2)
   (try clear hk)
   (try clear hi)
   refine hK.out _ _ ⟨(blk_cell BK197.out 0).trans rfl, (blk_cell BK197.out 1).trans rfl, (blk_cell BK197.out 2).trans rfl, ((HB.out.cell (World.block_lt_of_cell? w _ hw199_0)).trans hw199_0), ((HB.out.cell (World.block_lt_of_cell? w _ hw199_1)).trans hw199_1), ((HB.out.cell (World.block_lt_of_cell? w _ hw199_2)).trans hw199_2)⟩ (fun hHeld => ?_)
   clear hK K
   refine norm_ (a' := ?_) ?_ ?_
   rotate_left
   ·show Act.put _ (some 28) _ = _
    simp only [Act.put, sA_, sB_, sC_, i64_w, i32_w]
    rfl
   refine pI_ 3 (some 29) (Ra_ [4, 34]) (h := ?_)
   refine pI_ 4 (some 30) (Ra_ [5, 33]) (h := ?_)
   refine pI_ 5 (some 31) (Ra_ [6, 32]) (h := ?_)
   refine pI_ 6 (some 32) (Ra_ [7, 31]) (h := ?_)
   refine pI_ 7 (some 33) (Ra_ [8, 30]) (h := ?_)
   refine pI_ 8 (some 34) (Ra_ [9, 29]) (h := ?_)
   refine pI_ 9 (some 35) (Ra_ [10, 28]) (h := ?_)
   refine pI_ 10 (some 36) (Ra_ [11, 27]) (h := ?_)
   refine pI_ 11 (some 37) (Ra_ [12, 26]) (h := ?_)
   refine pI_ 12 (some 38) (Ra_ [13, 25]) (h := ?_)
   refine pI_ 14 (some 40) (Ra_ [13, 1, 1, 23]) (h := ?_)
   refine tI6_ 13 (some 39) (Ra_ [15, 23]) (h := ?_)
   refine tI6_ 15 (some 41) (Ra_ [16, 22]) (h := ?_)
   refine pI_ 16 (some 42) (Ra_ [17, 21]) (h := ?_)
   refine pI_ 17 (some 43) (Ra_ [18, 20]) (h := ?_)
   refine pI_ 18 (some 44) (Ra_ [19, 19]) (h := ?_)
   refine pI_ 19 (some 45) (Ra_ [20, 18]) (h := ?_)
   refine pI_ 20 (some 46) (Ra_ [21, 17]) (h := ?_)
   refine pI_ 22 (some 48) (Ra_ [21, 1, 1, 15]) (h := ?_)
   refine tI6_ 21 (some 47) (Ra_ [23, 15]) (h := ?_)
   refine tI6_ 23 (some 49) (Ra_ [24, 14]) (h := ?_)
   refine pI_ 24 (some 50) (Ra_ [25, 13]) (h := ?_)
   refine pI_ 25 (some 51) (Ra_ [26, 12]) (h := ?_)
   refine pI_ 26 (some 52) (Ra_ [27, 11]) (h := ?_)
   refine pI_ 27 (some 53) (Ra_ [28, 10]) (h := ?_)
   refine tI6_ 28 (some 54) (Ra_ [29, 9]) (h := ?_)
   refine one_ (i := 29) (N := some 55) (Ra_ [30, 8]) rfl rfl (one_of HT_.out (by kernel_rfl)) (by decide) (fun K hK => ?_)
   refine goes_ Tryd.func57 (by kernel_rfl) rfl #[.string ((rd_T66 l1 x21_1).f1)] (by rfl) rfl rfl m6_ ?_
   with_reducible refine (merkle_sum.calls ((rd_T66 l1 x21_1).f1) true _ A23.out).mono ?_
   rintro e w' ⟨rfl, ⟨nd, rfl⟩⟩
   refine ⟨_, rfl, ?_⟩
   refine hK.out _ _ ⟨(blk_cell BK197.out 0).trans rfl, (blk_cell BK197.out 1).trans rfl, (blk_cell BK197.out 2).trans rfl, ((HB.out.cell (World.block_lt_of_cell? w _ hw199_0)).trans hw199_0), ((HB.out.cell (World.block_lt_of_cell? w _ hw199_1)).trans hw199_1), ((HB.out.cell (World.block_lt_of_cell? w _ hw199_2)).trans hw199_2)⟩ (fun hHeld => ?_)
   clear hK K
   refine norm_ (a' := ?_) ?_ ?_
   rotate_left
   ·show Act.put _ (some 55) _ = _
    simp only [Act.put, sA_, sB_, sC_, i64_w, i32_w]
    rfl
   refine pI_ 30 (some 56) (Ra_ [31, 7]) (h := ?_)
   refine pI_ 31 (some 57) (Ra_ [32, 6]) (h := ?_)
   refine pI_ 32 (some 58) (Ra_ [33, 5]) (h := ?_)
   refine pI_ 33 (some 59) (Ra_ [34, 4]) (h := ?_)
   refine tI6_ 34 (some 60) (Ra_ [35, 3]) (h := ?_)
   refine one_ (i := 35) (N := some 61) (Ra_ [36, 2]) rfl rfl (one_of HT_.out (by kernel_rfl)) (by decide) (fun K hK => ?_)
   refine goes_ Tryd.func57 (by kernel_rfl) rfl #[.string ((rd_T66 l1 x21_1).f2)] (by rfl) rfl rfl m6_ ?_
   with_reducible refine (merkle_sum.calls ((rd_T66 l1 x21_1).f2) t201 _ A25.out).mono ?_
   rintro e w' ⟨rfl, ⟨nd, rfl⟩⟩
   refine ⟨_, rfl, ?_⟩
   refine hK.out _ _ ⟨(blk_cell BK197.out 0).trans rfl, (blk_cell BK197.out 1).trans rfl, (blk_cell BK197.out 2).trans rfl, ((HB.out.cell (World.block_lt_of_cell? w _ hw199_0)).trans hw199_0), ((HB.out.cell (World.block_lt_of_cell? w _ hw199_1)).trans hw199_1), ((HB.out.cell (World.block_lt_of_cell? w _ hw199_2)).trans hw199_2)⟩ (fun hHeld => ?_)
   clear hK K
   refine norm_ (a' := ?_) ?_ ?_
   rotate_left
   ·show Act.put _ (some 61) _ = _
    simp only [Act.put, sA_, sB_, sC_, i64_w, i32_w]
    rfl
   refine pI_ 36 (some 62) (Ra_ [37, 1]) (h := ?_)
   refine pI_ 37 (some 63) (Ra_ [38]) (h := ?_)
   refine done_ (done_of HT_.out (by kernel_rfl)) ?_
   try go_wp2
   go_meet
   case rel => exact ⟨_, (!t201), m19_, H', ⟨by have := HK1.out; first | omega | exact Nat.le_refl _⟩, ⟨by (with_reducible repeat (first | apply Kd.V_alloc | apply Kd.V_drewN | apply Kd.V_drew)); exact HO_0.out⟩, ⟨by (with_reducible repeat (first | refine blk_drewN ?_ _ | refine blk_drew ?_ | refine blk_alloc ?_ _)); exact BK197.out⟩, ⟨m25_⟩⟩
  clear HC9
  try clear c1; try clear p2; try clear c4; try clear c5; try clear c13; try clear c40
  obtain ⟨kq, x63_8, rfl, HA, HJ8, HO_0, BK197, HB⟩ := hcut
  cases kq with
  | zero => exact absurd HA.out (by simp [merkle_Apply.j1])
  | succ kj8 =>
   have H := HA.out
   clear HA
   simp only [merkle_Apply.j1] at H
   by_cases c51 : x63_8 = true
   ·subst c51
    have H1 : (some (([] : List (S44)), 1)) = some (r1, r2) := by rw [if_pos rfl] at H; exact H
    clear H
    have H := H1
    clear H1
    simp only [Option.some.injEq, Prod.mk.injEq] at H
    obtain ⟨rfl, rfl⟩ := H
    go_wp2
    go_ret2
    exact ⟨_, by first | rfl | (simp [errW_none, errW_some] <;> rfl) | (simp [*, errW_none, errW_some] <;> rfl), by first | exact Kd.R_nil _ _ _ _ _ | exact Kd.N_nil _ _ _ _ _ | exact Kd.V_nil _ _ _ _ _ | exact Kd.Q_nil _ _ _ _ _ | exact Kd.S_nil _ _ _ _ _, m25_⟩
   replace c51 := Bool.eq_false_iff.mpr c51
   subst c51
   have H1 : (merkle_Apply.l0 kj8 l0 l1 l1 (l1.length : Int) (wrap64 (x21_1 + 1))) = some (r1, r2) := by rw [if_neg (show ¬ (false = true) by decide)] at H; exact H
   clear H
   have H := H1
   clear H1
   have H' := Aside0.mk H
   clear H
   go_wp2
   go_roundg kj8
   case measure => have := HK1.out; have := HJ8.out; omega
   case rel => exact ⟨(wrap64 (x21_1 + 1)), m19_, H', ⟨by have := HK1.out; have := HJ8.out; omega⟩, ⟨by (with_reducible repeat (first | apply Kd.V_alloc | apply Kd.V_drewN | apply Kd.V_drew)); exact Kd.V_mono HO_0.out (fun _ hk => hk.1)⟩, ⟨m25_⟩⟩

end Go.Proofs.YtdeggemomajhcaaDoorH.HMerkleApplies
