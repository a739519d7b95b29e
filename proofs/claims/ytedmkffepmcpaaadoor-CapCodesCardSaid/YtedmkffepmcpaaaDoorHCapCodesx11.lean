-- PRINTED by print.py (a twelfth state) out of the translation. Not trusted: Lean checks it.
import Derived.Test.YtedmkffepmcpaaaDoorHCapCodesx0
import Derived.Test.YtedmkffepmcpaaaDoorHCapCodesx2
import Derived.Test.YtedmkffepmcpaaaDoorHCapCodesx10
namespace Go.Proofs.YtedmkffepmcpaaaDoorH.HCapCodes
open Go.RowKit Go.Proofs.YtedmkffepmcpaaaDoorW.PrintWords Go.Proofs.YtedmkffepmcpaaaDoorW.PrintLast Go.Proofs.YtedmkffepmcpaaaDoorW.PrintMore
attribute [local go_sem] max2_int min2_int max_two min_two max_three min_three max_four min_four   -- for this text's walks alone
set_option linter.unusedVariables false
set_option linter.unusedSimpArgs false

/-! ### cap_Decode: function 26 -/
mutual
def cap_Decode.j0 : Nat → Int → Bool → List Int → Int → Int → Int → Int → ByteArray → Option (Int × Int × (List (S35)) × ByteArray × Int × Int)
 | 0, _, _, _, _, _, _, _, _ => none
 | k + 1, x9, x31, x253000, x253001, x253002, x260000, x260001, x260003 => if x31 = true then (cap_Decode.j1 k x9 x253000 x253001 4 x260000 x260001 x260003) else (cap_Decode.j1 k x9 x253000 x253001 x253002 x260000 x260001 x260003)
def cap_Decode.j1 : Nat → Int → List Int → Int → Int → Int → Int → ByteArray → Option (Int × Int × (List (S35)) × ByteArray × Int × Int)
 | 0, _, _, _, _, _, _, _ => none
 | k + 1, x9, x253000, x253001, x253002, x260000, x260001, x260003 => cap_Decode.l0 k x9 0 x253000 x253001 x253002 x260000 x260001 ([] : List (S35)) x260003
def cap_Decode.l0 : Nat → Int → Int → List Int → Int → Int → Int → Int → List (S35) → ByteArray → Option (Int × Int × (List (S35)) × ByteArray × Int × Int)
 | 0, _, _, _, _, _, _, _, _, _ => none
 | k + 1, x9, x10, x253000, x253001, x253002, x260000, x260001, x260002, x260003 => if x10 < x9 then (cap_Decode.j3 k x9 x10 (x253002 == 0) x253000 x253001 x253002 x260000 x260001 x260002 x260003) else (cap_Decode.j3 k x9 x10 false x253000 x253001 x253002 x260000 x260001 x260002 x260003)
def cap_Decode.j3 : Nat → Int → Int → Bool → List Int → Int → Int → Int → Int → List (S35) → ByteArray → Option (Int × Int × (List (S35)) × ByteArray × Int × Int)
 | 0, _, _, _, _, _, _, _, _, _, _ => none
 | k + 1, x9, x10, x44, x253000, x253001, x253002, x260000, x260001, x260002, x260003 => if x44 = true then ((cap_reader_text.f k x253000 x253001 x253002 32).bind fun bt263 => ((cap_reader_number.f k x253000 bt263.2.1 bt263.2.2).bind fun bt267 => ((cap_reader_number.f k x253000 bt267.2.1 bt267.2.2).bind fun bt270 => (if x260002.length < 4398046511104 then (cap_Decode.l0 k x9 (wrap64 (x10 + 1)) x253000 bt270.2.1 bt270.2.2 x260000 x260001 (x260002 ++ [(⟨bt263.1, bt267.1, bt270.1⟩ : S35)]) x260003) else (none))))) else ((cap_reader_text.f k x253000 x253001 x253002 32).bind fun bt276 => (if bt276.2.2 = 0 then ((cap_May.f k x260000 x260001 x260002 bt276.1).bind fun t279 => (cap_Decode.j4 k (!t279) x253000 bt276.2.1 bt276.2.2 x260000 x260001 x260002 bt276.1)) else (cap_Decode.j4 k false x253000 bt276.2.1 bt276.2.2 x260000 x260001 x260002 bt276.1)))
def cap_Decode.j4 : Nat → Bool → List Int → Int → Int → Int → Int → List (S35) → ByteArray → Option (Int × Int × (List (S35)) × ByteArray × Int × Int)
 | 0, _, _, _, _, _, _, _, _ => none
 | k + 1, x74, x253000, x253001, x253002, x260000, x260001, x260002, x260003 => if x74 = true then (if 4 = 0 then (some (x260000, x260001, x260002, x260003, x253001, 0)) else (some (0, 0, ([] : List (S35)), (⟨#[]⟩ : ByteArray), 0, 4))) else (if x253002 = 0 then (some (x260000, x260001, x260002, x260003, x253001, 0)) else (some (0, 0, ([] : List (S35)), (⟨#[]⟩ : ByteArray), 0, x253002)))
end
def cap_Decode.f (k : Nat) (l0 : List Int) (a1 : Int) : Option (Int × Int × (List (S35)) × ByteArray × Int × Int) := (cap_reader_number.f k l0 a1 0).bind fun bt253 => ((cap_reader_number.f k l0 bt253.2.1 bt253.2.2).bind fun bt256 => ((cap_reader_number.f k l0 bt256.2.1 bt256.2.2).bind fun bt260 => (if bt260.2.2 = 0 then (cap_Decode.j0 k bt260.1 (decide (bt260.1 > 8)) l0 bt260.2.1 bt260.2.2 bt253.1 bt256.1 (⟨#[]⟩ : ByteArray)) else (cap_Decode.j0 k bt260.1 false l0 bt260.2.1 bt260.2.2 bt253.1 bt256.1 (⟨#[]⟩ : ByteArray)))))
theorem cap_Decode.mono_l : ∀ k, (∀ y0 y1 y2 y3 y4 y5 y6 y7, LeO (cap_Decode.j0 k y0 y1 y2 y3 y4 y5 y6 y7) (cap_Decode.j0 (k + 1) y0 y1 y2 y3 y4 y5 y6 y7)) ∧ (∀ y0 y1 y2 y3 y4 y5 y6, LeO (cap_Decode.j1 k y0 y1 y2 y3 y4 y5 y6) (cap_Decode.j1 (k + 1) y0 y1 y2 y3 y4 y5 y6)) ∧ (∀ y0 y1 y2 y3 y4 y5 y6 y7 y8, LeO (cap_Decode.l0 k y0 y1 y2 y3 y4 y5 y6 y7 y8) (cap_Decode.l0 (k + 1) y0 y1 y2 y3 y4 y5 y6 y7 y8)) ∧ (∀ y0 y1 y2 y3 y4 y5 y6 y7 y8 y9, LeO (cap_Decode.j3 k y0 y1 y2 y3 y4 y5 y6 y7 y8 y9) (cap_Decode.j3 (k + 1) y0 y1 y2 y3 y4 y5 y6 y7 y8 y9)) ∧ (∀ y0 y1 y2 y3 y4 y5 y6 y7, LeO (cap_Decode.j4 k y0 y1 y2 y3 y4 y5 y6 y7) (cap_Decode.j4 (k + 1) y0 y1 y2 y3 y4 y5 y6 y7))
 | 0 => ⟨fun _ _ _ _ _ _ _ _ r h => by simp [cap_Decode.j0] at h, fun _ _ _ _ _ _ _ r h => by simp [cap_Decode.j1] at h, fun _ _ _ _ _ _ _ _ _ r h => by simp [cap_Decode.l0] at h, fun _ _ _ _ _ _ _ _ _ _ r h => by simp [cap_Decode.j3] at h, fun _ _ _ _ _ _ _ _ r h => by simp [cap_Decode.j4] at h⟩
 | k + 1 => by
  obtain ⟨ih0, ih1, ih2, ih3, ih4⟩ := cap_Decode.mono_l k
  refine ⟨?_, ?_, ?_, ?_, ?_⟩
  ·intro y0 y1 y2 y3 y4 y5 y6 y7
   unfold cap_Decode.j0
   repeat' first
   | (with_reducible exact ih0 _ _ _ _ _ _ _ _)
   | (with_reducible exact ih1 _ _ _ _ _ _ _)
   | (with_reducible exact ih2 _ _ _ _ _ _ _ _ _)
   | (with_reducible exact ih3 _ _ _ _ _ _ _ _ _ _)
   | (with_reducible exact ih4 _ _ _ _ _ _ _ _)
   | (with_reducible exact cap_May.mono _ _ _ _ _)
   | (with_reducible exact cap_reader_number.mono _ _ _ _)
   | (with_reducible exact cap_reader_text.mono _ _ _ _ _)
   | (with_reducible exact LeO.refl _)
   | (with_reducible exact LeO.none _)
   | (with_reducible refine LeO.ite ?_ ?_)
   | (with_reducible refine LeO.bind ?_ (fun _ => ?_))
   | exact ih0 _ _ _ _ _ _ _ _
   | exact ih1 _ _ _ _ _ _ _
   | exact ih2 _ _ _ _ _ _ _ _ _
   | exact ih3 _ _ _ _ _ _ _ _ _ _
   | exact ih4 _ _ _ _ _ _ _ _
   | exact cap_May.mono _ _ _ _ _
   | exact cap_reader_number.mono _ _ _ _
   | exact cap_reader_text.mono _ _ _ _ _
   | exact LeO.none _
   | refine LeO.ite ?_ ?_
   | refine LeO.bind ?_ (fun _ => ?_)
  ·intro y0 y1 y2 y3 y4 y5 y6
   unfold cap_Decode.j1
   repeat' first
   | (with_reducible exact ih0 _ _ _ _ _ _ _ _)
   | (with_reducible exact ih1 _ _ _ _ _ _ _)
   | (with_reducible exact ih2 _ _ _ _ _ _ _ _ _)
   | (with_reducible exact ih3 _ _ _ _ _ _ _ _ _ _)
   | (with_reducible exact ih4 _ _ _ _ _ _ _ _)
   | (with_reducible exact cap_May.mono _ _ _ _ _)
   | (with_reducible exact cap_reader_number.mono _ _ _ _)
   | (with_reducible exact cap_reader_text.mono _ _ _ _ _)
   | (with_reducible exact LeO.refl _)
   | (with_reducible exact LeO.none _)
   | (with_reducible refine LeO.ite ?_ ?_)
   | (with_reducible refine LeO.bind ?_ (fun _ => ?_))
   | exact ih0 _ _ _ _ _ _ _ _
   | exact ih1 _ _ _ _ _ _ _
   | exact ih2 _ _ _ _ _ _ _ _ _
   | exact ih3 _ _ _ _ _ _ _ _ _ _
   | exact ih4 _ _ _ _ _ _ _ _
   | exact cap_May.mono _ _ _ _ _
   | exact cap_reader_number.mono _ _ _ _
   | exact cap_reader_text.mono _ _ _ _ _
   | exact LeO.none _
   | refine LeO.ite ?_ ?_
   | refine LeO.bind ?_ (fun _ => ?_)
  ·intro y0 y1 y2 y3 y4 y5 y6 y7 y8
   unfold cap_Decode.l0
   repeat' first
   | (with_reducible exact ih0 _ _ _ _ _ _ _ _)
   | (with_reducible exact ih1 _ _ _ _ _ _ _)
   | (with_reducible exact ih2 _ _ _ _ _ _ _ _ _)
   | (with_reducible exact ih3 _ _ _ _ _ _ _ _ _ _)
   | (with_reducible exact ih4 _ _ _ _ _ _ _ _)
   | (with_reducible exact cap_May.mono _ _ _ _ _)
   | (with_reducible exact cap_reader_number.mono _ _ _ _)
   | (with_reducible exact cap_reader_text.mono _ _ _ _ _)
   | (with_reducible exact LeO.refl _)
   | (with_reducible exact LeO.none _)
   | (with_reducible refine LeO.ite ?_ ?_)
   | (with_reducible refine LeO.bind ?_ (fun _ => ?_))
   | exact ih0 _ _ _ _ _ _ _ _
   | exact ih1 _ _ _ _ _ _ _
   | exact ih2 _ _ _ _ _ _ _ _ _
   | exact ih3 _ _ _ _ _ _ _ _ _ _
   | exact ih4 _ _ _ _ _ _ _ _
   | exact cap_May.mono _ _ _ _ _
   | exact cap_reader_number.mono _ _ _ _
   | exact cap_reader_text.mono _ _ _ _ _
   | exact LeO.none _
   | refine LeO.ite ?_ ?_
   | refine LeO.bind ?_ (fun _ => ?_)
  ·intro y0 y1 y2 y3 y4 y5 y6 y7 y8 y9
   unfold cap_Decode.j3
   repeat' first
   | (with_reducible exact ih0 _ _ _ _ _ _ _ _)
   | (with_reducible exact ih1 _ _ _ _ _ _ _)
   | (with_reducible exact ih2 _ _ _ _ _ _ _ _ _)
   | (with_reducible exact ih3 _ _ _ _ _ _ _ _ _ _)
   | (with_reducible exact ih4 _ _ _ _ _ _ _ _)
   | (with_reducible exact cap_May.mono _ _ _ _ _)
   | (with_reducible exact cap_reader_number.mono _ _ _ _)
   | (with_reducible exact cap_reader_text.mono _ _ _ _ _)
   | (with_reducible exact LeO.refl _)
   | (with_reducible exact LeO.none _)
   | (with_reducible refine LeO.ite ?_ ?_)
   | (with_reducible refine LeO.bind ?_ (fun _ => ?_))
   | exact ih0 _ _ _ _ _ _ _ _
   | exact ih1 _ _ _ _ _ _ _
   | exact ih2 _ _ _ _ _ _ _ _ _
   | exact ih3 _ _ _ _ _ _ _ _ _ _
   | exact ih4 _ _ _ _ _ _ _ _
   | exact cap_May.mono _ _ _ _ _
   | exact cap_reader_number.mono _ _ _ _
   | exact cap_reader_text.mono _ _ _ _ _
   | exact LeO.none _
   | refine LeO.ite ?_ ?_
   | refine LeO.bind ?_ (fun _ => ?_)
  ·intro y0 y1 y2 y3 y4 y5 y6 y7
   unfold cap_Decode.j4
   repeat' first
   | (with_reducible exact ih0 _ _ _ _ _ _ _ _)
   | (with_reducible exact ih1 _ _ _ _ _ _ _)
   | (with_reducible exact ih2 _ _ _ _ _ _ _ _ _)
   | (with_reducible exact ih3 _ _ _ _ _ _ _ _ _ _)
   | (with_reducible exact ih4 _ _ _ _ _ _ _ _)
   | (with_reducible exact cap_May.mono _ _ _ _ _)
   | (with_reducible exact cap_reader_number.mono _ _ _ _)
   | (with_reducible exact cap_reader_text.mono _ _ _ _ _)
   | (with_reducible exact LeO.refl _)
   | (with_reducible exact LeO.none _)
   | (with_reducible refine LeO.ite ?_ ?_)
   | (with_reducible refine LeO.bind ?_ (fun _ => ?_))
   | exact ih0 _ _ _ _ _ _ _ _
   | exact ih1 _ _ _ _ _ _ _
   | exact ih2 _ _ _ _ _ _ _ _ _
   | exact ih3 _ _ _ _ _ _ _ _ _ _
   | exact ih4 _ _ _ _ _ _ _ _
   | exact cap_May.mono _ _ _ _ _
   | exact cap_reader_number.mono _ _ _ _
   | exact cap_reader_text.mono _ _ _ _ _
   | exact LeO.none _
   | refine LeO.ite ?_ ?_
   | refine LeO.bind ?_ (fun _ => ?_)
theorem cap_Decode.mono : ∀ a0 a1 k, LeO (cap_Decode.f k a0 a1) (cap_Decode.f (k + 1) a0 a1) := by
 intro a0 a1 k
 obtain ⟨ih0, ih1, ih2, ih3, ih4⟩ := cap_Decode.mono_l k
 unfold cap_Decode.f
 repeat' first
   | (with_reducible exact ih0 _ _ _ _ _ _ _ _)
   | (with_reducible exact ih1 _ _ _ _ _ _ _)
   | (with_reducible exact ih2 _ _ _ _ _ _ _ _ _)
   | (with_reducible exact ih3 _ _ _ _ _ _ _ _ _ _)
   | (with_reducible exact ih4 _ _ _ _ _ _ _ _)
   | (with_reducible exact cap_May.mono _ _ _ _ _)
   | (with_reducible exact cap_reader_number.mono _ _ _ _)
   | (with_reducible exact cap_reader_text.mono _ _ _ _ _)
   | (with_reducible exact LeO.refl _)
   | (with_reducible exact LeO.none _)
   | (with_reducible refine LeO.ite ?_ ?_)
   | (with_reducible refine LeO.bind ?_ (fun _ => ?_))
   | exact ih0 _ _ _ _ _ _ _ _
   | exact ih1 _ _ _ _ _ _ _
   | exact ih2 _ _ _ _ _ _ _ _ _
   | exact ih3 _ _ _ _ _ _ _ _ _ _
   | exact ih4 _ _ _ _ _ _ _ _
   | exact cap_May.mono _ _ _ _ _
   | exact cap_reader_number.mono _ _ _ _
   | exact cap_reader_text.mono _ _ _ _ _
   | exact LeO.none _
   | refine LeO.ite ?_ ?_
   | refine LeO.bind ?_ (fun _ => ?_)
def cap_Decode.T17 : Bool × List (List Nat × List Nat) := (true, [([], []), ([], []), ([1], [1]), ([2], [2]), ([3], [3]), ([0, 0], [0]), ([5, 0, 5], []), ([4, 6, 0, 1, 2, 3, 4, 5, 6], [4])])
def cap_Decode.B17 : List Nat := [0, 0, 2, 6, 14, 1, 33, 127]
theorem cap_Decode.tab17 : rtab .any (opsOf Tryd.f26 17) = cap_Decode.T17 := by kernel_rfl
theorem cap_Decode.bits17 : waitsOk cap_Decode.T17.2 cap_Decode.B17 = true := by kernel_rfl
def cap_Decode.T18 : Bool × List (List Nat × List Nat) := (true, [([], []), ([], []), ([1], [1]), ([2], [2]), ([3], [3]), ([0, 0], [0]), ([4, 5, 0, 1, 2, 3, 4, 5], [4]), ([6, 0, 1, 2, 3, 4, 5, 6], [])])
def cap_Decode.B18 : List Nat := [0, 0, 2, 6, 14, 1, 63, 127]
theorem cap_Decode.tab18 : rtab .any (opsOf Tryd.f26 18) = cap_Decode.T18 := by kernel_rfl
theorem cap_Decode.bits18 : waitsOk cap_Decode.T18.2 cap_Decode.B18 = true := by kernel_rfl
set_option maxHeartbeats 8000000 in
set_option maxRecDepth 100000 in
theorem cap_Decode.calls (k : Nat) (A0 : Option Addr) (c0 : Nat) (l0 : List Int) (a1 : Int) (r1 : Int) (r2 : Int) (r3 : List (S35)) (r4 : ByteArray) (r5 : Int) (r6 : Int) (w : World) (hr0 : Kd.C (Kd.int .u8) w A0 l0.length l0) (hc0 : l0.length ≤ c0) (h : cap_Decode.f k l0 a1 = some (r1, r2, r3, r4, r5, r6)) :
  Calls Tryd.prog 26 #[.slice A0 l0.length c0, .int .i64 a1] w fun e w' => ∃ v2_ : Value, e = .returned (.tuple #[.agg #[.int .i64 r1, .int .i64 r2, v2_, .string r4], .int .i64 r5, .int .i64 r6]) ∧ Kd.R k35 35 w' w.heap.size (fun _ => True) v2_ r3 ∧ Below w.heap.size w w' := by
 have hu25 := Tryd.underlying25
 have hu75 := Tryd.underlying75
 have hu35 := Tryd.underlying35
 have HR0 := Aside0.mk hr0
 have HC0 := Aside0.mk hc0
 clear hr0 hc0
 have HB := Aside0.mk (Below.refl w.heap.size w)
 have H : ((cap_reader_number.f k l0 a1 0).bind fun bt253 => ((cap_reader_number.f k l0 bt253.2.1 bt253.2.2).bind fun bt256 => ((cap_reader_number.f k l0 bt256.2.1 bt256.2.2).bind fun bt260 => (if bt260.2.2 = 0 then (cap_Decode.j0 k bt260.1 (decide (bt260.1 > 8)) l0 bt260.2.1 bt260.2.2 bt253.1 bt256.1 (⟨#[]⟩ : ByteArray)) else (cap_Decode.j0 k bt260.1 false l0 bt260.2.1 bt260.2.2 bt253.1 bt256.1 (⟨#[]⟩ : ByteArray)))))) = some (r1, r2, r3, r4, r5, r6) := h
 clear h
 replace H := Option.bind_eq_some_iff.mp H
 obtain ⟨⟨t253, t254, t255⟩, A30, H⟩ := H
 replace H : ((cap_reader_number.f k l0 t254 t255).bind fun bt256 => ((cap_reader_number.f k l0 bt256.2.1 bt256.2.2).bind fun bt260 => (if bt260.2.2 = 0 then (cap_Decode.j0 k bt260.1 (decide (bt260.1 > 8)) l0 bt260.2.1 bt260.2.2 t253 bt256.1 (⟨#[]⟩ : ByteArray)) else (cap_Decode.j0 k bt260.1 false l0 bt260.2.1 bt260.2.2 t253 bt256.1 (⟨#[]⟩ : ByteArray))))) = some (r1, r2, r3, r4, r5, r6) := H
 have A3 := Aside0.mk A30
 clear A30
 replace H := Option.bind_eq_some_iff.mp H
 obtain ⟨⟨t256, t257, t258⟩, A40, H⟩ := H
 replace H : ((cap_reader_number.f k l0 t257 t258).bind fun bt260 => (if bt260.2.2 = 0 then (cap_Decode.j0 k bt260.1 (decide (bt260.1 > 8)) l0 bt260.2.1 bt260.2.2 t253 t256 (⟨#[]⟩ : ByteArray)) else (cap_Decode.j0 k bt260.1 false l0 bt260.2.1 bt260.2.2 t253 t256 (⟨#[]⟩ : ByteArray)))) = some (r1, r2, r3, r4, r5, r6) := H
 have A4 := Aside0.mk A40
 clear A40
 replace H := Option.bind_eq_some_iff.mp H
 obtain ⟨⟨t260, t261, t262⟩, A50, H⟩ := H
 replace H : (if t262 = 0 then (cap_Decode.j0 k t260 (decide (t260 > 8)) l0 t261 t262 t253 t256 (⟨#[]⟩ : ByteArray)) else (cap_Decode.j0 k t260 false l0 t261 t262 t253 t256 (⟨#[]⟩ : ByteArray))) = some (r1, r2, r3, r4, r5, r6) := H
 have A5 := Aside0.mk A50
 clear A50
 have HC6 := Aside0.mk H
 clear H
 go_enter Tryd.func26, Tryd.ntmps26
 go_upto_region 4 with (first | ((with_reducible refine gate_dst (N := 4) rfl ?_); refine box_event ?hg (N := 4) ?hd (cs := #[.int .i64 0, .int .i64 0, .slice none 0 0, .string (⟨#[]⟩ : ByteArray)]) (t := 25) ?hr ?_; (case hd => rfl); (case hg => rfl); (case hr => first | (go_simp; done) | (go_simp; rfl)); intro gb251 hg w7 hbox hb; have n0_ := Aside0.mk (below_step m31_ hb); have n1_ := Aside0.mk (hbox); have n2_ := Aside0.mk ((by rw [hg]; exact (below_size m31_) : w.heap.size ≤ gb251)); have n3_ := Aside0.mk ((by rw [hg]; exact (below_size m31_) : w.heap.size ≤ gb251)); clear HB; have HB := n0_; have BK251 := n1_; have GW251 := n2_; have GE251 := n3_; clear n0_ n1_ n2_ n3_; clear hb hbox hg) | ((with_reducible refine gate_dst (N := 15) rfl ?_); refine box_event ?hg (N := 15) ?hd (cs := #[.slice A0 l0.length c0, .int .i64 a1, .int .i64 0]) (t := 75) ?hr ?_; (case hd => rfl); (case hg => rfl); (case hr => first | (go_simp; done) | (go_simp; rfl)); intro gb252 hg w8 hbox hb; have n0_ := Aside0.mk (blk_below (g := gb251) (o := .cells #[.int .i64 0, .int .i64 0, .slice none 0 0, .string (⟨#[]⟩ : ByteArray)] 25 (0, 0)) m43_ hb); have n1_ := Aside0.mk (below_step (by repeat (first | (with_reducible first | exact HB.out | apply below_alloc | apply pw_below_drewN | apply below_drew1 | refine below_set ?_ GE251.out) | exact HB.out)) hb); have n2_ := Aside0.mk ((show IsS75 w w8 gb252 l0 a1 0 from ⟨_, _, hbox, ⟨(by rw [hg]; exact (below_size (by repeat (first | (with_reducible first | exact HB.out | apply below_alloc | apply pw_below_drewN | apply below_drew1 | refine below_set ?_ GE251.out) | exact HB.out))) : w.heap.size ≤ gb252), HC0.out⟩, HR0.out⟩)); have n3_ := Aside0.mk ((by rw [hg]; exact Nat.ne_of_lt (blk_lt (g := gb251) (o := .cells #[.int .i64 0, .int .i64 0, .slice none 0 0, .string (⟨#[]⟩ : ByteArray)] 25 (0, 0)) m43_) : gb251 ≠ gb252)); have n4_ := Aside0.mk ((by rw [hg]; exact Nat.ne_of_gt (blk_lt (g := gb251) (o := .cells #[.int .i64 0, .int .i64 0, .slice none 0 0, .string (⟨#[]⟩ : ByteArray)] 25 (0, 0)) m43_) : gb252 ≠ gb251)); clear BK251; clear HB; have BK251 := n0_; have HB := n1_; have HI252 := n2_; have NB251_252 := n3_; have NB252_251 := n4_; clear n0_ n1_ n2_ n3_ n4_; clear hb hbox hg) | ((with_reducible refine gate_callee (f := 47) rfl ?_); refine goesL_ (some 17) rfl rfl Tryd.func47 (by kernel_rfl) rfl #[.pointer (some ⟨gb252, 0, none⟩)] rfl m30_ ?_; (with_reducible refine (cap_reader_number.calls k gb252 l0 a1 0 t253 t254 t255 w _ ?side1 ?side2 A3.out).mono ?_); (case side1 => repeat (first | (with_reducible first | exact HI252.out | apply IsS75.alloc | apply IsS75.drewN | apply IsS75.drew | apply IsS75.set_1 | apply IsS75.set_2 | refine IsS75.far ?_ NB252_251.out _) | exact HI252.out)); (case side2 => repeat (first | (with_reducible first | exact HB.out | apply below_alloc | apply pw_below_drewN | apply below_drew1 | refine below_set ?_ (IsS75.ge HI252.out) | refine below_set ?_ GE251.out) | exact HB.out)); rintro e w9 ⟨rfl, hi, hb, hk⟩; refine ⟨_, rfl, ?_⟩; replace BK251 := Aside0.mk (KeepBut.blk hk (g' := gb251) (o := .cells #[.int .i64 0, .int .i64 0, .slice none 0 0, .string (⟨#[]⟩ : ByteArray)] 25 (0, 0)) m43_ NB251_252.out (by simp)); replace HI252 := Aside0.mk (hi); replace HB := Aside0.mk (hb); (try clear hb); (try clear hb2); (try clear hk); (try clear hi)) | ((with_reducible refine gate_callee (f := 47) rfl ?_); refine goesL_ (some 19) rfl rfl Tryd.func47 (by kernel_rfl) rfl #[.pointer (some ⟨gb252, 0, none⟩)] rfl m30_ ?_; (with_reducible refine (cap_reader_number.calls k gb252 l0 t254 t255 t256 t257 t258 w _ ?side1 ?side2 A4.out).mono ?_); (case side1 => repeat (first | (with_reducible first | exact HI252.out | apply IsS75.alloc | apply IsS75.drewN | apply IsS75.drew | apply IsS75.set_1 | apply IsS75.set_2 | refine IsS75.far ?_ NB252_251.out _) | exact HI252.out)); (case side2 => repeat (first | (with_reducible first | exact HB.out | apply below_alloc | apply pw_below_drewN | apply below_drew1 | refine below_set ?_ (IsS75.ge HI252.out) | refine below_set ?_ GE251.out) | exact HB.out)); rintro e w10 ⟨rfl, hi, hb, hk⟩; refine ⟨_, rfl, ?_⟩; replace BK251 := Aside0.mk (KeepBut.blk hk (g' := gb251) (o := .cells #[.int .i64 0, .int .i64 0, .slice none 0 0, .string (⟨#[]⟩ : ByteArray)] 25 (0, 0)) m43_ NB251_252.out (by simp)); replace HI252 := Aside0.mk (hi); replace HB := Aside0.mk (hb); (try clear hb); (try clear hb2); (try clear hk); (try clear hi)) | ((with_reducible refine gate_dst (N := 8) rfl ?_); refine box_event ?hg (N := 8) ?hd (cs := #[.int .i64 0, .int .i64 0, .slice none 0 0, .string (⟨#[]⟩ : ByteArray)]) (t := 25) ?hr ?_; (case hd => rfl); (case hg => rfl); (case hr => first | (go_simp; done) | (go_simp; rfl)); intro gb259 hg w11 hbox hb; have n0_ := Aside0.mk (blk_below (g := gb251) (o := .cells #[.int .i64 0, .int .i64 0, .slice none 0 0, .string (⟨#[]⟩ : ByteArray)] 25 (0, 0)) m43_ hb); have n1_ := Aside0.mk (IsS75.below (by repeat (first | (with_reducible first | exact HI252.out | apply IsS75.alloc | apply IsS75.drewN | apply IsS75.drew | apply IsS75.set_1 | apply IsS75.set_2 | refine IsS75.far ?_ NB252_251.out _) | exact HI252.out)) hb); have n2_ := Aside0.mk (below_step m11_ hb); have n3_ := Aside0.mk (hbox); have n4_ := Aside0.mk ((by rw [hg]; exact (below_size m11_) : w.heap.size ≤ gb259)); have n5_ := Aside0.mk ((by rw [hg]; exact (below_size m11_) : w.heap.size ≤ gb259)); have n6_ := Aside0.mk ((by rw [hg]; exact Nat.ne_of_lt (blk_lt (g := gb251) (o := .cells #[.int .i64 0, .int .i64 0, .slice none 0 0, .string (⟨#[]⟩ : ByteArray)] 25 (0, 0)) m43_) : gb251 ≠ gb259)); have n7_ := Aside0.mk ((by rw [hg]; exact Nat.ne_of_gt (blk_lt (g := gb251) (o := .cells #[.int .i64 0, .int .i64 0, .slice none 0 0, .string (⟨#[]⟩ : ByteArray)] 25 (0, 0)) m43_) : gb259 ≠ gb251)); have n8_ := Aside0.mk ((by rw [hg]; exact Nat.ne_of_lt (IsS75.lt (show IsS75 w _ gb252 l0 t257 t258 from by repeat (first | (with_reducible first | exact HI252.out | apply IsS75.alloc | apply IsS75.drewN | apply IsS75.drew | apply IsS75.set_1 | apply IsS75.set_2 | refine IsS75.far ?_ NB252_251.out _) | exact HI252.out))) : gb252 ≠ gb259)); have n9_ := Aside0.mk ((by rw [hg]; exact Nat.ne_of_gt (IsS75.lt (show IsS75 w _ gb252 l0 t257 t258 from by repeat (first | (with_reducible first | exact HI252.out | apply IsS75.alloc | apply IsS75.drewN | apply IsS75.drew | apply IsS75.set_1 | apply IsS75.set_2 | refine IsS75.far ?_ NB252_251.out _) | exact HI252.out))) : gb259 ≠ gb252)); clear BK251; clear HI252; clear HB; have BK251 := n0_; have HI252 := n1_; have HB := n2_; have BK259 := n3_; have GW259 := n4_; have GE259 := n5_; have NB251_259 := n6_; have NB259_251 := n7_; have NB252_259 := n8_; have NB259_252 := n9_; clear n0_ n1_ n2_ n3_ n4_ n5_ n6_ n7_ n8_ n9_; clear hb hbox hg; have hnb12 := NB259_251.out; have hnc12 := NB251_259.out; have hnb13 := NB259_252.out; have hnc13 := NB252_259.out; obtain ⟨hcz14_0, hcz14_1, hcz14_2, hcz14_3⟩ := bc4_ BK259.out; obtain ⟨hfz14_0, hfz14_1, hfz14_2, hfz14_3⟩ := bf4_ BK259.out) | ((with_reducible refine gate_callee (f := 47) rfl ?_); refine goesL_ (some 22) rfl rfl Tryd.func47 (by kernel_rfl) rfl #[.pointer (some ⟨gb252, 0, none⟩)] rfl m30_ ?_; (with_reducible refine (cap_reader_number.calls k gb252 l0 t257 t258 t260 t261 t262 w _ ?side1 ?side2 A5.out).mono ?_); (case side1 => repeat (first | (with_reducible first | exact HI252.out | apply IsS75.alloc | apply IsS75.drewN | apply IsS75.drew | apply IsS75.set_1 | apply IsS75.set_2 | refine IsS75.far ?_ NB252_251.out _ | refine IsS75.far ?_ NB252_259.out _) | exact HI252.out)); (case side2 => repeat (first | (with_reducible first | exact HB.out | apply below_alloc | apply pw_below_drewN | apply below_drew1 | refine below_set ?_ (IsS75.ge HI252.out) | refine below_set ?_ GE251.out | refine below_set ?_ GE259.out) | exact HB.out)); rintro e w15 ⟨rfl, hi, hb, hk⟩; refine ⟨_, rfl, ?_⟩; have n0_ := Aside0.mk (KeepBut.blk hk (g' := gb251) (o := .cells #[.int .i64 0, .int .i64 0, .slice none 0 0, .string (⟨#[]⟩ : ByteArray)] 25 (0, 0)) (by refine bD_ ?_; refine blk_far ?_ NB251_259.out _; refine bD_ ?_; refine blk_far ?_ NB251_259.out _; refine bD_ ?_; refine blk_far ?_ NB251_259.out _; refine bD_ ?_; refine blk_far ?_ NB251_259.out _; refine bD_ ?_; exact BK251.out) NB251_252.out (by simp)); have n1_ := Aside0.mk (KeepBut.blk hk (g' := gb259) (o := .cells #[.int .i64 t253, .int .i64 t256, .slice none 0 0, .string (⟨#[]⟩ : ByteArray)] 25 (0, 0)) (by refine bD_ ?_; refine blk_put (cs := #[.int .i64 t253, .int .i64 t256, .slice none 0 0, .string (⟨#[]⟩ : ByteArray)]) ?_ 3 _ rfl; refine bD_ ?_; refine blk_put (cs := #[.int .i64 t253, .int .i64 t256, .slice none 0 0, .string (⟨#[]⟩ : ByteArray)]) ?_ 2 _ rfl; refine bD_ ?_; refine blk_put (cs := #[.int .i64 t253, .int .i64 0, .slice none 0 0, .string (⟨#[]⟩ : ByteArray)]) ?_ 1 _ rfl; refine bD_ ?_; refine blk_put (cs := #[.int .i64 0, .int .i64 0, .slice none 0 0, .string (⟨#[]⟩ : ByteArray)]) ?_ 0 _ rfl; refine bD_ ?_; exact BK259.out) NB259_252.out (by simp)); have n2_ := Aside0.mk (hb); have n3_ := Aside0.mk (hi); clear BK251; clear BK259; clear HB; clear HI252; have BK251 := n0_; have BK259 := n1_; have HB := n2_; have HI252 := n3_; clear n0_ n1_ n2_ n3_; (try clear hb); (try clear hb2); (try clear hk); (try clear hi)))
 (try simp only [Act.put, List.setIfInBounds_toArray, List.set_cons_zero, List.set_cons_succ])
 go_cut [31] (fun v31 wc => ∃ (kq : Nat) (x31_5 : Bool), v31 = .bool x31_5 ∧ Aside0 (cap_Decode.j0 kq t260 x31_5 l0 t261 t262 t253 t256 (⟨#[]⟩ : ByteArray) = some (r1, r2, r3, r4, r5, r6)) ∧ Aside0 (kq ≤ k) ∧ Aside0 (wc.heap[gb251]? = some (.cells #[.int .i64 0, .int .i64 0, (.slice none 0 0), .string (⟨#[]⟩ : ByteArray)] 25 (0, 0))) ∧ Aside0 (wc.heap[gb259]? = some (.cells #[.int .i64 t253, .int .i64 t256, (.slice none 0 0), .string (⟨#[]⟩ : ByteArray)] 25 (0, 0))) ∧ Aside0 (IsS75 w wc gb252 l0 t261 t262) ∧ Aside0 (Below w.heap.size w wc))
 case first =>
  have H := HC6.out
  clear HC6
  by_cases c16 : t262 = 0
  case neg =>
   rw [if_neg c16] at H
   have c16b0 : (t262 == 0) = false := beq_eq_false_iff_ne.mpr c16
   have c16b1 : (t262 != 0) = true := bne_iff_ne.mpr c16
   (first | rw [c16b0] | (simp only [i64_w, i32_w]; rw [c16b0]) | skip)
   have H' := Aside0.mk H
   clear H
   obtain ⟨ASz18_0, cSz18_0, HGz18, hgz18, HSz18_0⟩ := HI252.out
   have hcz18_0 := cellS75_0 HGz18
   have hcz18_1 := cellS75_1 HGz18
   have hcz18_2 := cellS75_2 HGz18
   have hfz18_1 := blk_frozen HGz18 1
   have hfz18_2 := blk_frozen HGz18 2
   clear HGz18 hgz18
   go_wp2
   go_meet
   case rel => exact ⟨_, (false), m55_, H', ⟨by first | omega | exact Nat.le_refl _⟩, ⟨by refine bD_ ?_; exact BK251.out⟩, ⟨by refine bD_ ?_; exact BK259.out⟩, ⟨m57_⟩, ⟨m58_⟩⟩
  rw [if_pos c16] at H
  have c16b0 : (t262 == 0) = true := beq_iff_eq.mpr c16
  have c16b1 : (t262 != 0) = false := bne_eq_false_iff_eq.mpr c16
  clear c16
  (first | rw [c16b0] | (simp only [i64_w, i32_w]; rw [c16b0]) | skip)
  have H' := Aside0.mk H
  clear H
  obtain ⟨ASz17_0, cSz17_0, HGz17, hgz17, HSz17_0⟩ := HI252.out
  have hcz17_0 := cellS75_0 HGz17
  have hcz17_1 := cellS75_1 HGz17
  have hcz17_2 := cellS75_2 HGz17
  have hfz17_1 := blk_frozen HGz17 1
  have hfz17_2 := blk_frozen HGz17 2
  clear HGz17 hgz17
  go_wp2
  go_meet
  case rel => exact ⟨_, (decide (t260 > 8)), m55_, H', ⟨by first | omega | exact Nat.le_refl _⟩, ⟨by refine bD_ ?_; exact BK251.out⟩, ⟨by refine bD_ ?_; exact BK259.out⟩, ⟨m57_⟩, ⟨m58_⟩⟩
 clear HC6
 try clear hcz14_0; try clear hcz14_1; try clear hcz14_2; try clear hcz14_3; try clear hfz14_0; try clear hfz14_1; try clear hfz14_2; try clear hfz14_3
 obtain ⟨kq, x31_5, rfl, HA, HJ5, BK251, BK259, HI252, HB⟩ := hcut
 cases kq with
 | zero => exact absurd HA.out (by simp [cap_Decode.j0])
 | succ kj5 =>
  have H := HA.out
  clear HA
  simp only [cap_Decode.j0] at H
  have HC19 := Aside0.mk H
  clear H
  go_upto_if 31 with (fail)
  go_cut [] (fun wc => ∃ (kq : Nat) (x253002_18 : Int), Aside0 (cap_Decode.j1 kq t260 l0 t261 x253002_18 t253 t256 (⟨#[]⟩ : ByteArray) = some (r1, r2, r3, r4, r5, r6)) ∧ Aside0 (kq ≤ kj5) ∧ Aside0 (wc.heap[gb251]? = some (.cells #[.int .i64 0, .int .i64 0, (.slice none 0 0), .string (⟨#[]⟩ : ByteArray)] 25 (0, 0))) ∧ Aside0 (wc.heap[gb259]? = some (.cells #[.int .i64 t253, .int .i64 t256, (.slice none 0 0), .string (⟨#[]⟩ : ByteArray)] 25 (0, 0))) ∧ Aside0 (IsS75 w wc gb252 l0 t261 x253002_18) ∧ Aside0 (Below w.heap.size w wc))
  case first =>
   have H := HC19.out
   clear HC19
   by_cases c20 : x31_5 = true
   case neg =>
    replace c20 := Bool.eq_false_iff.mpr c20
    subst c20
    have H1 : (cap_Decode.j1 kj5 t260 l0 t261 t262 t253 t256 (⟨#[]⟩ : ByteArray)) = some (r1, r2, r3, r4, r5, r6) := by rw [if_neg (show ¬ (false = true) by decide)] at H; exact H
    clear H
    have H := H1
    clear H1
    have H' := Aside0.mk H
    clear H
    go_wp2
    go_meet
    case rel => exact ⟨_, (t262), H', ⟨by have := HJ5.out; first | omega | exact Nat.le_refl _⟩, ⟨by refine bD_ ?_; exact BK251.out⟩, ⟨by refine bD_ ?_; exact BK259.out⟩, ⟨m57_⟩, ⟨m58_⟩⟩
   subst c20
   have H1 : (cap_Decode.j1 kj5 t260 l0 t261 4 t253 t256 (⟨#[]⟩ : ByteArray)) = some (r1, r2, r3, r4, r5, r6) := by rw [if_pos rfl] at H; exact H
   clear H
   have H := H1
   clear H1
   have H' := Aside0.mk H
   clear H
   obtain ⟨ASz21_0, cSz21_0, HGz21, hgz21, HSz21_0⟩ := HI252.out
   have hcz21_0 := cellS75_0 HGz21
   have hcz21_1 := cellS75_1 HGz21
   have hcz21_2 := cellS75_2 HGz21
   have hfz21_1 := blk_frozen HGz21 1
   have hfz21_2 := blk_frozen HGz21 2
   clear HGz21 hgz21
   go_wp2
   go_meet
   case rel => exact ⟨_, (4), H', ⟨by have := HJ5.out; first | omega | exact Nat.le_refl _⟩, ⟨by refine bD_ ?_; refine blk_far ?_ NB251_252.out _; refine bD_ ?_; exact BK251.out⟩, ⟨by refine bD_ ?_; refine blk_far ?_ NB259_252.out _; refine bD_ ?_; exact BK259.out⟩, ⟨m57_⟩, ⟨m58_⟩⟩
  clear HC19
  obtain ⟨kq, x253002_18, HA, HJ18, BK251, BK259, HI252, HB⟩ := hcut
  cases kq with
  | zero => exact absurd HA.out (by simp [cap_Decode.j1])
  | succ kj18 =>
   have H := HA.out
   clear HA
   simp only [cap_Decode.j1] at H
   have H' := Aside0.mk H
   clear H
   go_wp2
   go_loopg [10] kj18 (fun kq v10 w' => ∃ (x10_3 : Int) (x253001_3 : Int) (x253002_3 : Int) (x260002_3 : List (S35)) (u260002 : Value), v10 = .int .i64 x10_3 ∧ Aside0 (cap_Decode.l0 kq t260 x10_3 l0 x253001_3 x253002_3 t253 t256 x260002_3 (⟨#[]⟩ : ByteArray) = some (r1, r2, r3, r4, r5, r6)) ∧ Aside0 (kq ≤ kj18) ∧ Aside0 (Kd.R k35 35 w' w.heap.size (fun _ => True) u260002 x260002_3) ∧ Aside0 (w'.heap[gb251]? = some (.cells #[.int .i64 0, .int .i64 0, (.slice none 0 0), .string (⟨#[]⟩ : ByteArray)] 25 (0, 0))) ∧ Aside0 (w'.heap[gb259]? = some (.cells #[.int .i64 t253, .int .i64 t256, u260002, .string (⟨#[]⟩ : ByteArray)] 25 (0, 0))) ∧ Aside0 (IsS75 w w' gb252 l0 x253001_3 x253002_3) ∧ Aside0 (Below w.heap.size w w'))
   case atStart => exact ⟨(0), (t261), (x253002_18), (([] : List (S35))), (.slice none 0 0), m55_, H', ⟨Nat.le_refl _⟩, ⟨by first | exact Kd.R_nil _ _ _ _ _ | exact Kd.N_nil _ _ _ _ _ | exact Kd.V_nil _ _ _ _ _ | exact Kd.Q_nil _ _ _ _ _ | exact Kd.S_nil _ _ _ _ _⟩, ⟨by refine bD_ ?_; exact BK251.out⟩, ⟨by refine bD_ ?_; exact BK259.out⟩, ⟨m57_⟩, ⟨m58_⟩⟩
   clear H'
   obtain ⟨x10_3, x253001_3, x253002_3, x260002_3, u260002, rfl, HA, HK3, HO_260002, BK251, BK259, HI252, HB⟩ := hrel
   cases gk with
   | zero => exact absurd HA.out (by simp [cap_Decode.l0])
   | succ k3 =>
    have H := HA.out
    clear HA
    simp only [cap_Decode.l0] at H
    have HC22 := Aside0.mk H
    clear H
    go_upto_region 7 with (fail)
    go_cut [44] (fun v44 wc => ∃ (kq : Nat) (x44_21 : Bool), v44 = .bool x44_21 ∧ Aside0 (cap_Decode.j3 kq t260 x10_3 x44_21 l0 x253001_3 x253002_3 t253 t256 x260002_3 (⟨#[]⟩ : ByteArray) = some (r1, r2, r3, r4, r5, r6)) ∧ Aside0 (kq ≤ k3) ∧ Aside0 (Kd.R k35 35 wc w.heap.size (fun _ => True) u260002 x260002_3) ∧ Aside0 (wc.heap[gb251]? = some (.cells #[.int .i64 0, .int .i64 0, (.slice none 0 0), .string (⟨#[]⟩ : ByteArray)] 25 (0, 0))) ∧ Aside0 (wc.heap[gb259]? = some (.cells #[.int .i64 t253, .int .i64 t256, u260002, .string (⟨#[]⟩ : ByteArray)] 25 (0, 0))) ∧ Aside0 (IsS75 w wc gb252 l0 x253001_3 x253002_3) ∧ Aside0 (Below w.heap.size w wc))
    case first =>
     have H := HC22.out
     clear HC22
     by_cases c23 : x10_3 < t260
     case neg =>
      rw [if_neg c23] at H
      have c23b0 : decide (x10_3 < t260) = false := decide_eq_false c23
      clear c23
      (first | rw [c23b0] | (simp only [i64_w, i32_w]; rw [c23b0]) | skip)
      have H' := Aside0.mk H
      clear H
      go_wp2
      go_meet
      case rel => exact ⟨_, (false), m55_, H', ⟨by have := HJ5.out; have := HJ18.out; have := HK3.out; first | omega | exact Nat.le_refl _⟩, ⟨by refine rD_ ?_; exact HO_260002.out⟩, ⟨by refine bD_ ?_; exact BK251.out⟩, ⟨by refine bD_ ?_; exact BK259.out⟩, ⟨m57_⟩, ⟨m58_⟩⟩
     rw [if_pos c23] at H
     have c23b0 : decide (x10_3 < t260) = true := decide_eq_true c23
     clear c23
     (first | rw [c23b0] | (simp only [i64_w, i32_w]; rw [c23b0]) | skip)
     have H' := Aside0.mk H
     clear H
     obtain ⟨ASz24_0, cSz24_0, HGz24, hgz24, HSz24_0⟩ := HI252.out
     have hcz24_0 := cellS75_0 HGz24
     have hcz24_1 := cellS75_1 HGz24
     have hcz24_2 := cellS75_2 HGz24
     have hfz24_1 := blk_frozen HGz24 1
     have hfz24_2 := blk_frozen HGz24 2
     clear HGz24 hgz24
     go_wp2
     go_meet
     case rel => exact ⟨_, ((x253002_3 == 0)), m55_, H', ⟨by have := HJ5.out; have := HJ18.out; have := HK3.out; first | omega | exact Nat.le_refl _⟩, ⟨by refine rD_ ?_; exact HO_260002.out⟩, ⟨by refine bD_ ?_; exact BK251.out⟩, ⟨by refine bD_ ?_; exact BK259.out⟩, ⟨m57_⟩, ⟨m58_⟩⟩
    clear HC22
    obtain ⟨kq, x44_21, rfl, HA, HJ21, HO_260002, BK251, BK259, HI252, HB⟩ := hcut
    cases kq with
    | zero => exact absurd HA.out (by simp [cap_Decode.j3])
    | succ kj21 =>
     have H := HA.out
     clear HA
     simp only [cap_Decode.j3] at H
     by_cases c25 : x44_21 = true
     ·subst c25
      have H1 : ((cap_reader_text.f kj21 l0 x253001_3 x253002_3 32).bind fun bt263 => ((cap_reader_number.f kj21 l0 bt263.2.1 bt263.2.2).bind fun bt267 => ((cap_reader_number.f kj21 l0 bt267.2.1 bt267.2.2).bind fun bt270 => (if x260002_3.length < 4398046511104 then (cap_Decode.l0 kj21 t260 (wrap64 (x10_3 + 1)) l0 bt270.2.1 bt270.2.2 t253 t256 (x260002_3 ++ [(⟨bt263.1, bt267.1, bt270.1⟩ : S35)]) (⟨#[]⟩ : ByteArray)) else (none))))) = some (r1, r2, r3, r4, r5, r6) := by rw [if_pos rfl] at H; exact H
      clear H
      have H := H1
      clear H1
      replace H := Option.bind_eq_some_iff.mp H
      obtain ⟨⟨t263, t264, t265⟩, A260, H⟩ := H
      replace H : ((cap_reader_number.f kj21 l0 t264 t265).bind fun bt267 => ((cap_reader_number.f kj21 l0 bt267.2.1 bt267.2.2).bind fun bt270 => (if x260002_3.length < 4398046511104 then (cap_Decode.l0 kj21 t260 (wrap64 (x10_3 + 1)) l0 bt270.2.1 bt270.2.2 t253 t256 (x260002_3 ++ [(⟨t263, bt267.1, bt270.1⟩ : S35)]) (⟨#[]⟩ : ByteArray)) else (none)))) = some (r1, r2, r3, r4, r5, r6) := H
      have A26 := Aside0.mk A260
      clear A260
      replace H := Option.bind_eq_some_iff.mp H
      obtain ⟨⟨t267, t268, t269⟩, A270, H⟩ := H
      replace H : ((cap_reader_number.f kj21 l0 t268 t269).bind fun bt270 => (if x260002_3.length < 4398046511104 then (cap_Decode.l0 kj21 t260 (wrap64 (x10_3 + 1)) l0 bt270.2.1 bt270.2.2 t253 t256 (x260002_3 ++ [(⟨t263, t267, bt270.1⟩ : S35)]) (⟨#[]⟩ : ByteArray)) else (none))) = some (r1, r2, r3, r4, r5, r6) := H
      have A27 := Aside0.mk A270
      clear A270
      replace H := Option.bind_eq_some_iff.mp H
      obtain ⟨⟨t270, t271, t272⟩, A280, H⟩ := H
      replace H : (if x260002_3.length < 4398046511104 then (cap_Decode.l0 kj21 t260 (wrap64 (x10_3 + 1)) l0 t271 t272 t253 t256 (x260002_3 ++ [(⟨t263, t267, t270⟩ : S35)]) (⟨#[]⟩ : ByteArray)) else (none)) = some (r1, r2, r3, r4, r5, r6) := H
      have A28 := Aside0.mk A280
      clear A280
      by_cases c29 : x260002_3.length < 4398046511104
      case neg =>
       rw [if_neg c29] at H
       exact absurd H (by simp)
      rw [if_pos c29] at H
      have LMc29 := Aside0.mk c29
      clear c29
      obtain ⟨y273, hy273⟩ : ∃ y_ : List (S35), y_ = (x260002_3 ++ [(⟨t263, t267, t270⟩ : S35)]) := ⟨_, rfl⟩
      replace H : (cap_Decode.l0 kj21 t260 (wrap64 (x10_3 + 1)) l0 t271 t272 t253 t256 y273 (⟨#[]⟩ : ByteArray)) = some (r1, r2, r3, r4, r5, r6) := by first | (rw [hy273]; with_reducible exact H) | (have H2_ := (Option.bind_some _ _).symm.trans H; rw [hy273]; with_reducible exact H2_) | (have H2_ := (Option.bind_some _ _).symm.trans H; with_reducible exact H2_) | with_reducible exact H | (rw [hy273]; exact H) | exact H
      have Ny273 := Aside0.mk hy273
      clear hy273
      have H' := Aside0.mk H
      clear H
      go_wp2_with (first | ((with_reducible refine gate_callee (f := 48) rfl ?_); refine goesL_ (some 48) rfl rfl Tryd.func48 (by kernel_rfl) rfl #[.pointer (some ⟨gb252, 0, none⟩), .int .i64 32] rfl m30_ ?_; (with_reducible refine (cap_reader_text.calls kj21 gb252 l0 x253001_3 x253002_3 32 t263 t264 t265 w _ ?side1 ?side2 A26.out).mono ?_); (case side1 => repeat (first | (with_reducible first | exact HI252.out | apply IsS75.alloc | apply IsS75.drewN | apply IsS75.drew | apply IsS75.set_1 | apply IsS75.set_2 | refine IsS75.far ?_ NB252_251.out _ | refine IsS75.far ?_ NB252_259.out _) | exact HI252.out)); (case side2 => repeat (first | (with_reducible first | exact HB.out | apply below_alloc | apply pw_below_drewN | apply below_drew1 | refine below_set ?_ (IsS75.ge HI252.out) | refine below_set ?_ GE251.out | refine below_set ?_ GE259.out) | exact HB.out)); rintro e w30 ⟨rfl, hi, hb, hk⟩; refine ⟨_, rfl, ?_⟩; have n0_ := Aside0.mk (Kd.R_mono (Kd.R_keep (IsS75.apart (show IsS75 w _ gb252 l0 x253001_3 x253002_3 from m57_) (rD_ HO_260002.out) (by decide)) hk (fun _ h => h.2)) (fun _ h => h.1)); have n1_ := Aside0.mk (KeepBut.blk hk (g' := gb251) (o := .cells #[.int .i64 0, .int .i64 0, .slice none 0 0, .string (⟨#[]⟩ : ByteArray)] 25 (0, 0)) m43_ NB251_252.out (by simp)); have n2_ := Aside0.mk (KeepBut.blk hk (g' := gb259) (o := .cells #[.int .i64 t253, .int .i64 t256, u260002, .string (⟨#[]⟩ : ByteArray)] 25 (0, 0)) (bD_ BK259.out) NB259_252.out (by simp)); have n3_ := Aside0.mk (hb); have n4_ := Aside0.mk (hi); clear HO_260002; clear BK251; clear BK259; clear HB; clear HI252; have HO_260002 := n0_; have BK251 := n1_; have BK259 := n2_; have HB := n3_; have HI252 := n4_; clear n0_ n1_ n2_ n3_ n4_; (try clear hb); (try clear hb2); (try clear hk); (try clear hi)) | ((with_reducible refine gate_dst (N := 11) rfl ?_); refine box_event ?hg (N := 11) ?hd (cs := #[.string (⟨#[]⟩ : ByteArray), .int .i64 0, .int .i64 0]) (t := 35) ?hr ?_; (case hd => rfl); (case hg => rfl); (case hr => first | (go_simp; done) | (go_simp; rfl)); intro gb266 hg w31 hbox hb; have n0_ := Aside0.mk (Kd.R_below (Kd.R_elderB (rD_ HO_260002.out) gb266 (Nat.le_of_eq hg.symm)) hb); have n1_ := Aside0.mk (blk_below (g := gb251) (o := .cells #[.int .i64 0, .int .i64 0, .slice none 0 0, .string (⟨#[]⟩ : ByteArray)] 25 (0, 0)) m43_ hb); have n2_ := Aside0.mk (blk_below (g := gb259) (o := .cells #[.int .i64 t253, .int .i64 t256, u260002, .string (⟨#[]⟩ : ByteArray)] 25 (0, 0)) (bD_ BK259.out) hb); have n3_ := Aside0.mk (IsS75.below (by repeat (first | (with_reducible first | exact HI252.out | apply IsS75.alloc | apply IsS75.drewN | apply IsS75.drew | apply IsS75.set_1 | apply IsS75.set_2 | refine IsS75.far ?_ NB252_251.out _ | refine IsS75.far ?_ NB252_259.out _) | exact HI252.out)) hb); have n4_ := Aside0.mk (below_step m7_ hb); have n5_ := Aside0.mk (hbox); have n6_ := Aside0.mk ((by rw [hg]; exact (below_size m7_) : w.heap.size ≤ gb266)); have n7_ := Aside0.mk ((by rw [hg]; exact (below_size m7_) : w.heap.size ≤ gb266)); have n8_ := Aside0.mk ((by rw [hg]; exact Nat.ne_of_lt (blk_lt (g := gb251) (o := .cells #[.int .i64 0, .int .i64 0, .slice none 0 0, .string (⟨#[]⟩ : ByteArray)] 25 (0, 0)) m43_) : gb251 ≠ gb266)); have n9_ := Aside0.mk ((by rw [hg]; exact Nat.ne_of_gt (blk_lt (g := gb251) (o := .cells #[.int .i64 0, .int .i64 0, .slice none 0 0, .string (⟨#[]⟩ : ByteArray)] 25 (0, 0)) m43_) : gb266 ≠ gb251)); have n10_ := Aside0.mk ((by rw [hg]; exact Nat.ne_of_lt (blk_lt (g := gb259) (o := .cells #[.int .i64 t253, .int .i64 t256, u260002, .string (⟨#[]⟩ : ByteArray)] 25 (0, 0)) (bD_ BK259.out)) : gb259 ≠ gb266)); have n11_ := Aside0.mk ((by rw [hg]; exact Nat.ne_of_gt (blk_lt (g := gb259) (o := .cells #[.int .i64 t253, .int .i64 t256, u260002, .string (⟨#[]⟩ : ByteArray)] 25 (0, 0)) (bD_ BK259.out)) : gb266 ≠ gb259)); have n12_ := Aside0.mk ((by rw [hg]; exact Nat.ne_of_lt (IsS75.lt (show IsS75 w _ gb252 l0 t264 t265 from m57_)) : gb252 ≠ gb266)); have n13_ := Aside0.mk ((by rw [hg]; exact Nat.ne_of_gt (IsS75.lt (show IsS75 w _ gb252 l0 t264 t265 from m57_)) : gb266 ≠ gb252)); clear HO_260002; clear BK251; clear BK259; clear HI252; clear HB; have HO_260002 := n0_; have BK251 := n1_; have BK259 := n2_; have HI252 := n3_; have HB := n4_; have BK266 := n5_; have GW266 := n6_; have GE266 := n7_; have NB251_266 := n8_; have NB266_251 := n9_; have NB259_266 := n10_; have NB266_259 := n11_; have NB252_266 := n12_; have NB266_252 := n13_; clear n0_ n1_ n2_ n3_ n4_ n5_ n6_ n7_ n8_ n9_ n10_ n11_ n12_ n13_; clear hb hbox hg; have hnb32 := NB266_251.out; have hnc32 := NB251_266.out; have hnb33 := NB266_259.out; have hnc33 := NB259_266.out; have hnb34 := NB266_252.out; have hnc34 := NB252_266.out; obtain ⟨hcz35_0, hcz35_1, hcz35_2⟩ := bc3_ BK266.out; obtain ⟨hfz35_0, hfz35_1, hfz35_2⟩ := bf3_ BK266.out) | ((with_reducible refine gate_callee (f := 47) rfl ?_); refine goesL_ (some 51) rfl rfl Tryd.func47 (by kernel_rfl) rfl #[.pointer (some ⟨gb252, 0, none⟩)] rfl m30_ ?_; (with_reducible refine (cap_reader_number.calls kj21 gb252 l0 t264 t265 t267 t268 t269 w _ ?side1 ?side2 A27.out).mono ?_); (case side1 => repeat (first | (with_reducible first | exact HI252.out | apply IsS75.alloc | apply IsS75.drewN | apply IsS75.drew | apply IsS75.set_1 | apply IsS75.set_2 | refine IsS75.far ?_ NB252_251.out _ | refine IsS75.far ?_ NB252_259.out _ | refine IsS75.far ?_ NB252_266.out _) | exact HI252.out)); (case side2 => repeat (first | (with_reducible first | exact HB.out | apply below_alloc | apply pw_below_drewN | apply below_drew1 | refine below_set ?_ (IsS75.ge HI252.out) | refine below_set ?_ GE251.out | refine below_set ?_ GE259.out | refine below_set ?_ GE266.out) | exact HB.out)); rintro e w36 ⟨rfl, hi, hb, hk⟩; refine ⟨_, rfl, ?_⟩; have n0_ := Aside0.mk (Kd.R_mono (Kd.R_keep (IsS75.apart (show IsS75 w _ gb252 l0 t264 t265 from m56_) (by refine rD_ ?_; exact (Kd.R_mono (Kd.R_far (p := ⟨gb266, 2, none⟩) (Kd.R_far (p := ⟨gb266, 1, none⟩) (Kd.R_far (p := ⟨gb266, 0, none⟩) (Kd.R_mono HO_260002.out (fun k_ hk => (⟨hk, hk.2⟩ : _ ∧ k_ ≠ gb266))) (fun _ hk => hk.2) (.string t263)) (fun _ hk => hk.2) (.int .i64 0)) (fun _ hk => hk.2) (.int .i64 0)) (fun _ h_ => h_.1))) (by decide)) hk (fun _ h => h.2)) (fun _ h => h.1)); have n1_ := Aside0.mk (KeepBut.blk hk (g' := gb251) (o := .cells #[.int .i64 0, .int .i64 0, .slice none 0 0, .string (⟨#[]⟩ : ByteArray)] 25 (0, 0)) (by refine bD_ ?_; refine blk_far ?_ NB251_266.out _; refine bD_ ?_; refine blk_far ?_ NB251_266.out _; refine bD_ ?_; refine blk_far ?_ NB251_266.out _; refine bD_ ?_; exact BK251.out) NB251_252.out (by simp)); have n2_ := Aside0.mk (KeepBut.blk hk (g' := gb259) (o := .cells #[.int .i64 t253, .int .i64 t256, u260002, .string (⟨#[]⟩ : ByteArray)] 25 (0, 0)) (by refine bD_ ?_; refine blk_far ?_ NB259_266.out _; refine bD_ ?_; refine blk_far ?_ NB259_266.out _; refine bD_ ?_; refine blk_far ?_ NB259_266.out _; refine bD_ ?_; exact BK259.out) NB259_252.out (by simp)); have n3_ := Aside0.mk (KeepBut.blk hk (g' := gb266) (o := .cells #[.string t263, .int .i64 0, .int .i64 0] 35 (0, 0)) (by refine bD_ ?_; refine blk_put (cs := #[.string t263, .int .i64 0, .int .i64 0]) ?_ 2 _ rfl; refine bD_ ?_; refine blk_put (cs := #[.string t263, .int .i64 0, .int .i64 0]) ?_ 1 _ rfl; refine bD_ ?_; refine blk_put (cs := #[.string (⟨#[]⟩ : ByteArray), .int .i64 0, .int .i64 0]) ?_ 0 _ rfl; refine bD_ ?_; exact BK266.out) NB266_252.out (by simp)); have n4_ := Aside0.mk (hb); have n5_ := Aside0.mk (hi); clear HO_260002; clear BK251; clear BK259; clear BK266; clear HB; clear HI252; have HO_260002 := n0_; have BK251 := n1_; have BK259 := n2_; have BK266 := n3_; have HB := n4_; have HI252 := n5_; clear n0_ n1_ n2_ n3_ n4_ n5_; (try clear hb); (try clear hb2); (try clear hk); (try clear hi); obtain ⟨hcz37_0, hcz37_1, hcz37_2⟩ := bc3_ BK266.out; obtain ⟨hfz37_0, hfz37_1, hfz37_2⟩ := bf3_ BK266.out) | ((with_reducible refine gate_callee (f := 47) rfl ?_); refine goesL_ (some 54) rfl rfl Tryd.func47 (by kernel_rfl) rfl #[.pointer (some ⟨gb252, 0, none⟩)] rfl m30_ ?_; (with_reducible refine (cap_reader_number.calls kj21 gb252 l0 t268 t269 t270 t271 t272 w _ ?side1 ?side2 A28.out).mono ?_); (case side1 => repeat (first | (with_reducible first | exact HI252.out | apply IsS75.alloc | apply IsS75.drewN | apply IsS75.drew | apply IsS75.set_1 | apply IsS75.set_2 | refine IsS75.far ?_ NB252_251.out _ | refine IsS75.far ?_ NB252_259.out _ | refine IsS75.far ?_ NB252_266.out _) | exact HI252.out)); (case side2 => repeat (first | (with_reducible first | exact HB.out | apply below_alloc | apply pw_below_drewN | apply below_drew1 | refine below_set ?_ (IsS75.ge HI252.out) | refine below_set ?_ GE251.out | refine below_set ?_ GE259.out | refine below_set ?_ GE266.out) | exact HB.out)); rintro e w38 ⟨rfl, hi, hb, hk⟩; refine ⟨_, rfl, ?_⟩; have n0_ := Aside0.mk (Kd.R_mono (Kd.R_keep (IsS75.apart (show IsS75 w _ gb252 l0 t268 t269 from m56_) (by refine rD_ ?_; exact (Kd.R_mono (Kd.R_far (p := ⟨gb266, 1, none⟩) (Kd.R_mono HO_260002.out (fun k_ hk => (⟨hk, hk.2⟩ : _ ∧ k_ ≠ gb266))) (fun _ hk => hk.2) (.int .i64 t267)) (fun _ h_ => h_.1))) (by decide)) hk (fun _ h => h.2)) (fun _ h => h.1)); have n1_ := Aside0.mk (KeepBut.blk hk (g' := gb251) (o := .cells #[.int .i64 0, .int .i64 0, .slice none 0 0, .string (⟨#[]⟩ : ByteArray)] 25 (0, 0)) (by refine bD_ ?_; refine blk_far ?_ NB251_266.out _; refine bD_ ?_; exact BK251.out) NB251_252.out (by simp)); have n2_ := Aside0.mk (KeepBut.blk hk (g' := gb259) (o := .cells #[.int .i64 t253, .int .i64 t256, u260002, .string (⟨#[]⟩ : ByteArray)] 25 (0, 0)) (by refine bD_ ?_; refine blk_far ?_ NB259_266.out _; refine bD_ ?_; exact BK259.out) NB259_252.out (by simp)); have n3_ := Aside0.mk (KeepBut.blk hk (g' := gb266) (o := .cells #[.string t263, .int .i64 t267, .int .i64 0] 35 (0, 0)) (by refine bD_ ?_; refine blk_put (cs := #[.string t263, .int .i64 0, .int .i64 0]) ?_ 1 _ rfl; refine bD_ ?_; exact BK266.out) NB266_252.out (by simp)); have n4_ := Aside0.mk (hb); have n5_ := Aside0.mk (hi); clear HO_260002; clear BK251; clear BK259; clear BK266; clear HB; clear HI252; have HO_260002 := n0_; have BK251 := n1_; have BK259 := n2_; have BK266 := n3_; have HB := n4_; have HI252 := n5_; clear n0_ n1_ n2_ n3_ n4_ n5_; (try clear hb); (try clear hb2); (try clear hk); (try clear hi); obtain ⟨hcz39_0, hcz39_1, hcz39_2⟩ := bc3_ BK266.out; obtain ⟨hfz39_0, hfz39_1, hfz39_2⟩ := bf3_ BK266.out; have hnb40 := NB259_251.out; have hnc40 := NB251_259.out; have hnb41 := NB259_252.out; have hnc41 := NB252_259.out; obtain ⟨hcz42_0, hcz42_1, hcz42_2, hcz42_3⟩ := bc4_ BK259.out; obtain ⟨hfz42_0, hfz42_1, hfz42_2, hfz42_3⟩ := bf4_ BK259.out) | ((with_reducible refine gate_builtin (b := .append) (xs := #[.tmp 57, .tmp 59]) rfl ?_); at_builtin; refine Kd.R_append k35 (w0 := w) w.heap.size rfl (.tmp 57) (.tmp 59) 23 35 (.agg #[(.string ⟨#[]⟩), (.int .i64 0), (.int .i64 0)]) 32 rfl Tryd.underlying23 info35 rfl (by decide) (by omega) u260002 x260002_3 (⟨t263, t267, t270⟩ : S35) [.string t263, .int .i64 t267, .int .i64 t270] (fun k_ => k_ ≠ gb266) (fun _ => False) rfl (by first | (go_simp; done) | (go_simp; rfl)) ?aP (fun _ hk => hk.elim) ?aF ?aO ?aB ?aS ?aL ?_; (case aP => exact k35_mkM _ _ _ (⟨t263, t267, t270⟩ : S35)); (case aB => exact (by repeat (first | (with_reducible first | exact HB.out | apply below_alloc | apply pw_below_drewN | apply below_drew1 | refine below_set ?_ (IsS75.ge HI252.out) | refine below_set ?_ GE251.out | refine below_set ?_ GE259.out | refine below_set ?_ GE266.out) | exact HB.out))); (case aF => exact (fun k_ hk => Kd.freshB (g := gb266) (o := .cells #[.string t263, .int .i64 t267, .int .i64 t270] 35 (0, 0)) (by refine bD_ ?_; refine blk_put (cs := #[.string t263, .int .i64 t267, .int .i64 0]) ?_ 2 _ rfl; refine bD_ ?_; exact BK266.out) k_ hk)); (case aO => exact (by refine rD_ ?_; exact Kd.R_mono (Kd.R_far (p := ⟨gb266, 2, none⟩) (Kd.R_mono HO_260002.out (fun k_ hk => (⟨hk, hk.2⟩ : _ ∧ k_ ≠ gb266))) (fun _ hk => hk.2) (.int .i64 t270)) (fun _ hk => hk.1.2))); (case aS => exact (below_size (by repeat (first | (with_reducible first | exact HB.out | apply below_alloc | apply pw_below_drewN | apply below_drew1 | refine below_set ?_ (IsS75.ge HI252.out) | refine below_set ?_ GE251.out | refine below_set ?_ GE259.out | refine below_set ?_ GE266.out) | exact HB.out)))); (case aL => have := LMc29.out; omega); intro v274 w43 ho hb hg hat; rw [← Ny273.out] at ho; have n0_ := Aside0.mk (blk_grown (g := gb251) (o := .cells #[.int .i64 0, .int .i64 0, .slice none 0 0, .string (⟨#[]⟩ : ByteArray)] 25 (0, 0)) (by refine bD_ ?_; refine blk_far ?_ NB251_266.out _; refine bD_ ?_; exact BK251.out) hg (Kd.R_ne HO_260002.out BK251.out (by decide))); have n1_ := Aside0.mk (blk_grown (g := gb259) (o := .cells #[.int .i64 t253, .int .i64 t256, u260002, .string (⟨#[]⟩ : ByteArray)] 25 (0, 0)) (by refine bD_ ?_; refine blk_far ?_ NB259_266.out _; refine bD_ ?_; exact BK259.out) hg (Kd.R_ne HO_260002.out BK259.out (by decide))); have n2_ := Aside0.mk (IsS75.grown (show IsS75 w _ gb252 l0 t271 t272 from by repeat (first | (with_reducible first | exact HI252.out | apply IsS75.alloc | apply IsS75.drewN | apply IsS75.drew | apply IsS75.set_1 | apply IsS75.set_2 | refine IsS75.far ?_ NB252_251.out _ | refine IsS75.far ?_ NB252_259.out _ | refine IsS75.far ?_ NB252_266.out _) | exact HI252.out)) hg (IsS75.own_ne HI252.out HO_260002.out (by decide))); have n3_ := Aside0.mk (blk_grown (g := gb266) (o := .cells #[.string t263, .int .i64 t267, .int .i64 t270] 35 (0, 0)) (by refine bD_ ?_; refine blk_put (cs := #[.string t263, .int .i64 t267, .int .i64 0]) ?_ 2 _ rfl; refine bD_ ?_; exact BK266.out) hg (Kd.R_away HO_260002.out (fun _ hk => hk.2))); have n4_ := Aside0.mk (hb); have n5_ := Aside0.mk (ho); clear BK251; clear BK259; clear HI252; clear BK266; clear HB; clear HO_260002; have BK251 := n0_; have BK259 := n1_; have HI252 := n2_; have BK266 := n3_; have HB := n4_; have HO275 := n5_; clear n0_ n1_ n2_ n3_ n4_ n5_; clear ho hb hg hat; obtain ⟨Ao44, co44, eo44⟩ := Kd.R_slice HO275.out; subst eo44; obtain ⟨hcz45_0, hcz45_1, hcz45_2, hcz45_3⟩ := bc4_ BK259.out; obtain ⟨hfz45_0, hfz45_1, hfz45_2, hfz45_3⟩ := bf4_ BK259.out))
      go_roundg kj21
      case measure => have := HJ5.out; have := HJ18.out; have := HK3.out; have := HJ21.out; omega
      case rel => exact ⟨(wrap64 (x10_3 + 1)), (t271), (t272), (y273), (.slice Ao44 y273.length co44), m55_, H', ⟨by have := HJ5.out; have := HJ18.out; have := HK3.out; have := HJ21.out; omega⟩, ⟨by refine rD_ ?_; exact Kd.R_mono (Kd.R_far (p := ⟨gb259, 2, none⟩) (Kd.R_types HO275.out BK259.out (by decide)) (fun _ hk => hk.2) (.slice Ao44 y273.length co44)) (fun _ hk => trivial)⟩, ⟨by refine bD_ ?_; refine blk_far ?_ NB251_259.out _; refine bD_ ?_; exact BK251.out⟩, ⟨by refine bD_ ?_; refine blk_put (cs := #[.int .i64 t253, .int .i64 t256, u260002, .string (⟨#[]⟩ : ByteArray)]) ?_ 2 _ rfl; refine bD_ ?_; exact BK259.out⟩, ⟨m56_⟩, ⟨by repeat (first | (with_reducible first | exact HB.out | apply below_alloc | apply pw_below_drewN | apply below_drew1 | refine below_set ?_ (IsS75.ge HI252.out) | refine below_set ?_ GE251.out | refine below_set ?_ GE259.out | refine below_set ?_ GE266.out) | exact HB.out)⟩⟩
     replace c25 := Bool.eq_false_iff.mpr c25
     subst c25
     have H1 : ((cap_reader_text.f kj21 l0 x253001_3 x253002_3 32).bind fun bt276 => (if bt276.2.2 = 0 then ((cap_May.f kj21 t253 t256 x260002_3 bt276.1).bind fun t279 => (cap_Decode.j4 kj21 (!t279) l0 bt276.2.1 bt276.2.2 t253 t256 x260002_3 bt276.1)) else (cap_Decode.j4 kj21 false l0 bt276.2.1 bt276.2.2 t253 t256 x260002_3 bt276.1))) = some (r1, r2, r3, r4, r5, r6) := by rw [if_neg (show ¬ (false = true) by decide)] at H; exact H
     clear H
     have H := H1
     clear H1
     replace H := Option.bind_eq_some_iff.mp H
     obtain ⟨⟨t276, t277, t278⟩, A460, H⟩ := H
     replace H : (if t278 = 0 then ((cap_May.f kj21 t253 t256 x260002_3 t276).bind fun t279 => (cap_Decode.j4 kj21 (!t279) l0 t277 t278 t253 t256 x260002_3 t276)) else (cap_Decode.j4 kj21 false l0 t277 t278 t253 t256 x260002_3 t276)) = some (r1, r2, r3, r4, r5, r6) := H
     have A46 := Aside0.mk A460
     clear A460
     have HC47 := Aside0.mk H
     clear H
     go_upto_region 14 with (first | ((with_reducible refine gate_callee (f := 48) rfl ?_); refine goesL_ (some 63) rfl rfl Tryd.func48 (by kernel_rfl) rfl #[.pointer (some ⟨gb252, 0, none⟩), .int .i64 32] rfl m30_ ?_; (with_reducible refine (cap_reader_text.calls kj21 gb252 l0 x253001_3 x253002_3 32 t276 t277 t278 w _ ?side1 ?side2 A46.out).mono ?_); (case side1 => repeat (first | (with_reducible first | exact HI252.out | apply IsS75.alloc | apply IsS75.drewN | apply IsS75.drew | apply IsS75.set_1 | apply IsS75.set_2 | refine IsS75.far ?_ NB252_251.out _ | refine IsS75.far ?_ NB252_259.out _) | exact HI252.out)); (case side2 => repeat (first | (with_reducible first | exact HB.out | apply below_alloc | apply pw_below_drewN | apply below_drew1 | refine below_set ?_ (IsS75.ge HI252.out) | refine below_set ?_ GE251.out | refine below_set ?_ GE259.out) | exact HB.out)); rintro e w48 ⟨rfl, hi, hb, hk⟩; refine ⟨_, rfl, ?_⟩; have n0_ := Aside0.mk (Kd.R_mono (Kd.R_keep (IsS75.apart (show IsS75 w _ gb252 l0 x253001_3 x253002_3 from m57_) (rD_ HO_260002.out) (by decide)) hk (fun _ h => h.2)) (fun _ h => h.1)); have n1_ := Aside0.mk (KeepBut.blk hk (g' := gb251) (o := .cells #[.int .i64 0, .int .i64 0, .slice none 0 0, .string (⟨#[]⟩ : ByteArray)] 25 (0, 0)) m43_ NB251_252.out (by simp)); have n2_ := Aside0.mk (KeepBut.blk hk (g' := gb259) (o := .cells #[.int .i64 t253, .int .i64 t256, u260002, .string (⟨#[]⟩ : ByteArray)] 25 (0, 0)) (bD_ BK259.out) NB259_252.out (by simp)); have n3_ := Aside0.mk (hb); have n4_ := Aside0.mk (hi); clear HO_260002; clear BK251; clear BK259; clear HB; clear HI252; have HO_260002 := n0_; have BK251 := n1_; have BK259 := n2_; have HB := n3_; have HI252 := n4_; clear n0_ n1_ n2_ n3_ n4_; (try clear hb); (try clear hb2); (try clear hk); (try clear hi); have hnb49 := NB259_251.out; have hnc49 := NB251_259.out; have hnb50 := NB259_252.out; have hnc50 := NB252_259.out; obtain ⟨hcz51_0, hcz51_1, hcz51_2, hcz51_3⟩ := bc4_ BK259.out; obtain ⟨hfz51_0, hfz51_1, hfz51_2, hfz51_3⟩ := bf4_ BK259.out))
     (try simp only [Act.put, List.setIfInBounds_toArray, List.set_cons_zero, List.set_cons_succ])
     go_cut [74] (fun v74 wc => ∃ (kq : Nat) (x74_46 : Bool), v74 = .bool x74_46 ∧ Aside0 (cap_Decode.j4 kq x74_46 l0 t277 t278 t253 t256 x260002_3 t276 = some (r1, r2, r3, r4, r5, r6)) ∧ Aside0 (kq ≤ kj21) ∧ Aside0 (Kd.R k35 35 wc w.heap.size (fun _ => True) u260002 x260002_3) ∧ Aside0 (wc.heap[gb251]? = some (.cells #[.int .i64 0, .int .i64 0, (.slice none 0 0), .string (⟨#[]⟩ : ByteArray)] 25 (0, 0))) ∧ Aside0 (wc.heap[gb259]? = some (.cells #[.int .i64 t253, .int .i64 t256, u260002, .string t276] 25 (0, 0))) ∧ Aside0 (IsS75 w wc gb252 l0 t277 t278) ∧ Aside0 (Below w.heap.size w wc))
     case first =>
      have H := HC47.out
      clear HC47
      by_cases c52 : t278 = 0
      case neg =>
       rw [if_neg c52] at H
       have c52b0 : (t278 == 0) = false := beq_eq_false_iff_ne.mpr c52
       have c52b1 : (t278 != 0) = true := bne_iff_ne.mpr c52
       (first | rw [c52b0] | (simp only [i64_w, i32_w]; rw [c52b0]) | skip)
       have H' := Aside0.mk H
       clear H
       obtain ⟨ASz60_0, cSz60_0, HGz60, hgz60, HSz60_0⟩ := HI252.out
       have hcz60_0 := cellS75_0 HGz60
       have hcz60_1 := cellS75_1 HGz60
       have hcz60_2 := cellS75_2 HGz60
       have hfz60_1 := blk_frozen HGz60 1
       have hfz60_2 := blk_frozen HGz60 2
       clear HGz60 hgz60
       go_wp2
       go_meet
       case rel => exact ⟨_, (false), m55_, H', ⟨by have := HJ5.out; have := HJ18.out; have := HK3.out; have := HJ21.out; first | omega | exact Nat.le_refl _⟩, ⟨by refine rD_ ?_; exact Kd.R_mono (Kd.R_far (p := ⟨gb259, 3, none⟩) (Kd.R_types HO_260002.out BK259.out (by decide)) (fun _ hk => hk.2) (.string t276)) (fun _ hk => trivial)⟩, ⟨by refine bD_ ?_; refine blk_far ?_ NB251_259.out _; refine bD_ ?_; exact BK251.out⟩, ⟨by refine bD_ ?_; refine blk_put (cs := #[.int .i64 t253, .int .i64 t256, u260002, .string (⟨#[]⟩ : ByteArray)]) ?_ 3 _ rfl; refine bD_ ?_; exact BK259.out⟩, ⟨m57_⟩, ⟨m58_⟩⟩
      rw [if_pos c52] at H
      have c52b0 : (t278 == 0) = true := beq_iff_eq.mpr c52
      have c52b1 : (t278 != 0) = false := bne_eq_false_iff_eq.mpr c52
      clear c52
      (first | rw [c52b0] | (simp only [i64_w, i32_w]; rw [c52b0]) | skip)
      replace H := Option.bind_eq_some_iff.mp H
      obtain ⟨t279, A530, H⟩ := H
      replace H : (cap_Decode.j4 kj21 (!t279) l0 t277 t278 t253 t256 x260002_3 t276) = some (r1, r2, r3, r4, r5, r6) := H
      have A53 := Aside0.mk A530
      clear A530
      have H' := Aside0.mk H
      clear H
      obtain ⟨ASz54_0, cSz54_0, HGz54, hgz54, HSz54_0⟩ := HI252.out
      have hcz54_0 := cellS75_0 HGz54
      have hcz54_1 := cellS75_1 HGz54
      have hcz54_2 := cellS75_2 HGz54
      have hfz54_1 := blk_frozen HGz54 1
      have hfz54_2 := blk_frozen HGz54 2
      clear HGz54 hgz54
      have hnb55 := NB259_251.out
      have hnc55 := NB251_259.out
      have hnb56 := NB259_252.out
      have hnc56 := NB252_259.out
      obtain ⟨hcz57_0, hcz57_1, hcz57_2, hcz57_3⟩ := bc4_ BK259.out
      obtain ⟨hfz57_0, hfz57_1, hfz57_2, hfz57_3⟩ := bf4_ BK259.out
      obtain ⟨Ao58, co58, eo58⟩ := Kd.R_slice HO_260002.out
      subst eo58
      go_wp2_with (first | (go_at_call 18; (with_reducible refine (cap_May.calls kj21 t253 t256 _ _ x260002_3 t276 t279 _ ?side1 ?side2 A53.out).mono ?_); (case side1 => refine (Kd.R_reads' (e := 35) (base := w.heap.size) (ok := fun k_ => True) (n := x260002_3.length) (c := co58) ?_).2.2; exact (by refine rD_ ?_; exact (Kd.R_mono (Kd.R_far (p := ⟨gb259, 3, none⟩) (Kd.R_types HO_260002.out BK259.out (by decide)) (fun _ hk => hk.2) (.string t276)) (fun _ h_ => h_.1)))); (case side2 => exact (Kd.R_reads' HO_260002.out).2.1); rintro e w59 ⟨rfl, hb⟩; have n0_ := Aside0.mk (Kd.R_below (by refine rD_ ?_; exact (Kd.R_mono (Kd.R_far (p := ⟨gb259, 3, none⟩) (Kd.R_types HO_260002.out BK259.out (by decide)) (fun _ hk => hk.2) (.string t276)) (fun _ h_ => h_.1))) hb); have n1_ := Aside0.mk (blk_below (g := gb251) (o := .cells #[.int .i64 0, .int .i64 0, .slice none 0 0, .string (⟨#[]⟩ : ByteArray)] 25 (0, 0)) (by refine bD_ ?_; refine blk_far ?_ NB251_259.out _; refine bD_ ?_; exact BK251.out) hb); have n2_ := Aside0.mk (blk_below (g := gb259) (o := .cells #[.int .i64 t253, .int .i64 t256, .slice Ao58 x260002_3.length co58, .string t276] 25 (0, 0)) (by refine bD_ ?_; refine blk_put (cs := #[.int .i64 t253, .int .i64 t256, .slice Ao58 x260002_3.length co58, .string (⟨#[]⟩ : ByteArray)]) ?_ 3 _ rfl; refine bD_ ?_; exact BK259.out) hb); have n3_ := Aside0.mk (IsS75.below (show IsS75 w (w48.setCell ⟨gb259, 3, none⟩ (.string t276)) gb252 l0 t277 t278 from m57_) hb); have n4_ := Aside0.mk (below_step m7_ hb); clear HO_260002; clear BK251; clear BK259; clear HI252; clear HB; have HO_260002 := n0_; have BK251 := n1_; have BK259 := n2_; have HI252 := n3_; have HB := n4_; clear n0_ n1_ n2_ n3_ n4_; (try clear hb); (try clear hb2); (try clear hk); (try clear hi)))
      go_meet
      case rel => exact ⟨_, (!t279), m55_, H', ⟨by have := HJ5.out; have := HJ18.out; have := HK3.out; have := HJ21.out; first | omega | exact Nat.le_refl _⟩, ⟨by refine rD_ ?_; exact HO_260002.out⟩, ⟨by refine bD_ ?_; exact BK251.out⟩, ⟨by refine bD_ ?_; exact BK259.out⟩, ⟨m57_⟩, ⟨m58_⟩⟩
     clear HC47
     try clear c25; try clear hcz51_0; try clear hcz51_1; try clear hcz51_2; try clear hcz51_3; try clear hfz51_0; try clear hfz51_1; try clear hfz51_2; try clear hfz51_3
     obtain ⟨kq, x74_46, rfl, HA, HJ46, HO_260002, BK251, BK259, HI252, HB⟩ := hcut
     cases kq with
     | zero => exact absurd HA.out (by simp [cap_Decode.j4])
     | succ kj46 =>
      have H := HA.out
      clear HA
      simp only [cap_Decode.j4] at H
      by_cases c61 : x74_46 = true
      case neg =>
       replace c61 := Bool.eq_false_iff.mpr c61
       subst c61
       have H1 : (if t278 = 0 then (some (t253, t256, x260002_3, t276, t277, 0)) else (some (0, 0, ([] : List (S35)), (⟨#[]⟩ : ByteArray), 0, t278))) = some (r1, r2, r3, r4, r5, r6) := by rw [if_neg (show ¬ (false = true) by decide)] at H; exact H
       clear H
       have H := H1
       clear H1
       by_cases c78 : t278 = 0
       case neg =>
        rw [if_neg c78] at H
        have c78b0 : (t278 == 0) = false := beq_eq_false_iff_ne.mpr c78
        have c78b1 : (t278 != 0) = true := bne_iff_ne.mpr c78
        simp only [Option.some.injEq, Prod.mk.injEq] at H
        obtain ⟨rfl, rfl, rfl, rfl, rfl, rfl⟩ := H
        obtain ⟨ASz86_0, cSz86_0, HGz86, hgz86, HSz86_0⟩ := HI252.out
        have hcz86_0 := cellS75_0 HGz86
        have hcz86_1 := cellS75_1 HGz86
        have hcz86_2 := cellS75_2 HGz86
        have hfz86_1 := blk_frozen HGz86 1
        have hfz86_2 := blk_frozen HGz86 2
        clear HGz86 hgz86
        try go_wp2
        replace HO_260002 := Aside0.mk (Kd.R_drew HO_260002.out)
        replace BK251 := Aside0.mk (blk_drew BK251.out)
        replace BK259 := Aside0.mk (blk_drew BK259.out)
        replace HI252 := Aside0.mk (IsS75.drew HI252.out)
        replace HB := Aside0.mk (below_drew1 HB.out)
        refine start_ (n := 8) (S := fun w' => w'.cell? ⟨gb252, 1, none⟩ = some (.int .i64 t277) ∧ w'.cell? ⟨gb252, 2, none⟩ = some (.int .i64 t278)) (ds := []) (Ra_ [0, 8]) (by kernel_rfl) rfl rfl ⟨(IsS75.cell_1 HI252.out), (IsS75.cell_2 HI252.out)⟩ (fun hHeld => ?_); refine with_tabW cap_Decode.tab17 cap_Decode.bits17 (fun HT_ HW_ => ?_)
        generalize wc.drew = w87 at HO_260002 BK251 BK259 HI252 HB hHeld ⊢
        refine pI_ 0 (some 83) (Ra_ [1, 7]) (h := ?_)
        refine pI_ 1 (some 84) (Ra_ [2, 6]) (h := ?_)
        refine pI_ 2 (some 85) (Ra_ [3, 5]) (h := ?_)
        refine pI_ 3 (some 86) (Ra_ [4, 4]) (h := ?_)
        refine tI2_ 4 (some 87) (Ra_ [5, 3]) (h := ?_)
        refine one_ (i := 5) (N := none) (Ra_ [6, 2]) rfl rfl (one_of HT_.out (by kernel_rfl)) (by decide) (fun K hK => ?_)
        have hs88 : w87.cell? ⟨gb251, 0, none⟩ = some (.int .i64 0) := (blk_cell BK251.out 0).trans rfl
        have hfs88 := blk_frozen BK251.out 0
        have hns88_1 := NB259_251.out
        have hms88_1 := NB251_259.out
        have hs89 : w87.cell? ⟨gb251, 1, none⟩ = some (.int .i64 0) := (blk_cell BK251.out 1).trans rfl
        have hfs89 := blk_frozen BK251.out 1
        have hns89_1 := NB259_251.out
        have hms89_1 := NB251_259.out
        have hs90 : w87.cell? ⟨gb251, 2, none⟩ = some (.slice none 0 0) := (blk_cell BK251.out 2).trans rfl
        have hfs90 := blk_frozen BK251.out 2
        have hns90_1 := NB259_251.out
        have hms90_1 := NB251_259.out
        have hs91 : w87.cell? ⟨gb251, 3, none⟩ = some (.string (⟨#[]⟩ : ByteArray)) := (blk_cell BK251.out 3).trans rfl
        have hfs91 := blk_frozen BK251.out 3
        have hns91_1 := NB259_251.out
        have hms91_1 := NB251_259.out
        refine skip_ (w1 := ?_) (by rfl) rfl ?_ ?_
        rotate_left
        ·go_simp
         rfl
        refine hK.out _ _ ⟨((cell_far (p := ⟨gb251, _, none⟩) NB252_251.out _).trans (((cell_far (p := ⟨gb251, _, none⟩) NB252_251.out _).trans (((cell_far (p := ⟨gb251, _, none⟩) NB252_251.out _).trans (((cell_far (p := ⟨gb251, _, none⟩) NB252_251.out _).trans (hHeld.1)))))))), ((cell_far (p := ⟨gb251, _, none⟩) NB252_251.out _).trans (((cell_far (p := ⟨gb251, _, none⟩) NB252_251.out _).trans (((cell_far (p := ⟨gb251, _, none⟩) NB252_251.out _).trans (((cell_far (p := ⟨gb251, _, none⟩) NB252_251.out _).trans (hHeld.2))))))))⟩ (fun hHeld => ?_)
        clear hK K
        refine pI_ 6 (some 5) (Ra_ [7, 1]) (h := ?_)
        refine pI_ 7 (some 6) (Ra_ [8]) (h := ?_)
        refine done_ (done_of HT_.out (by kernel_rfl)) ?_
        try go_wp2
        refine bodyPost_ret (results_ctt rfl _ _ gb251 25 #[.int .i64 0, .int .i64 0, .slice none 0 0, .string (⟨#[]⟩ : ByteArray)] (0, 0) _ rfl (by refine bD_ ?_; refine blk_put (cs := #[.int .i64 0, .int .i64 0, .slice none 0 0, .string (⟨#[]⟩ : ByteArray)]) ?_ 3 _ rfl; refine bD_ ?_; refine blk_put (cs := #[.int .i64 0, .int .i64 0, .slice none 0 0, .string (⟨#[]⟩ : ByteArray)]) ?_ 2 _ rfl; refine bD_ ?_; refine blk_put (cs := #[.int .i64 0, .int .i64 0, .slice none 0 0, .string (⟨#[]⟩ : ByteArray)]) ?_ 1 _ rfl; refine bD_ ?_; refine blk_put (cs := #[.int .i64 0, .int .i64 0, .slice none 0 0, .string (⟨#[]⟩ : ByteArray)]) ?_ 0 _ rfl; refine bD_ ?_; exact BK251.out) Tryd.underlying25 rfl (by kernel_rfl)) rfl ?_
        exact ⟨_, by first | rfl | (simp [errW_none, errW_some] <;> rfl) | (simp [*, errW_none, errW_some] <;> rfl), by first | exact Kd.R_nil _ _ _ _ _ | exact Kd.N_nil _ _ _ _ _ | exact Kd.V_nil _ _ _ _ _ | exact Kd.Q_nil _ _ _ _ _ | exact Kd.S_nil _ _ _ _ _, m58_⟩
       rw [if_pos c78] at H
       have c78b0 : (t278 == 0) = true := beq_iff_eq.mpr c78
       have c78b1 : (t278 != 0) = false := bne_eq_false_iff_eq.mpr c78
       clear c78
       simp only [Option.some.injEq, Prod.mk.injEq] at H
       obtain ⟨rfl, rfl, rfl, rfl, rfl, rfl⟩ := H
       obtain ⟨ASz79_0, cSz79_0, HGz79, hgz79, HSz79_0⟩ := HI252.out
       have hcz79_0 := cellS75_0 HGz79
       have hcz79_1 := cellS75_1 HGz79
       have hcz79_2 := cellS75_2 HGz79
       have hfz79_1 := blk_frozen HGz79 1
       have hfz79_2 := blk_frozen HGz79 2
       clear HGz79 hgz79
       try go_wp2
       replace HO_260002 := Aside0.mk (Kd.R_drew HO_260002.out)
       replace BK251 := Aside0.mk (blk_drew BK251.out)
       replace BK259 := Aside0.mk (blk_drew BK259.out)
       replace HI252 := Aside0.mk (IsS75.drew HI252.out)
       replace HB := Aside0.mk (below_drew1 HB.out)
       obtain ⟨Ao83, co83, eo83⟩ := Kd.R_slice HO_260002.out
       (first | subst eo83 | (injection eo83 with f1_ f2_ f3_; have f4_ := f1_.symm; have f5_ := f3_.symm; clear f1_ f2_ f3_; subst f4_; subst f5_))
       refine start_ (n := 8) (S := fun w' => w'.cell? ⟨gb259, 0, none⟩ = some (.int .i64 t253) ∧ w'.cell? ⟨gb259, 1, none⟩ = some (.int .i64 t256) ∧ w'.cell? ⟨gb259, 2, none⟩ = some (.slice Ao83 x260002_3.length co83) ∧ w'.cell? ⟨gb259, 3, none⟩ = some (.string t276) ∧ w'.cell? ⟨gb252, 1, none⟩ = some (.int .i64 t277) ∧ w'.cell? ⟨gb252, 2, none⟩ = some (.int .i64 t278)) (ds := []) (Ra_ [0, 8]) (by kernel_rfl) rfl rfl ⟨(blk_cell BK259.out 0).trans rfl, (blk_cell BK259.out 1).trans rfl, (blk_cell BK259.out 2).trans rfl, (blk_cell BK259.out 3).trans rfl, (IsS75.cell_1 HI252.out), (IsS75.cell_2 HI252.out)⟩ (fun hHeld => ?_); refine with_tabW cap_Decode.tab18 cap_Decode.bits18 (fun HT_ HW_ => ?_)
       generalize wc.drew = w80 at HO_260002 BK251 BK259 HI252 HB hHeld ⊢
       refine pI_ 1 (some 89) (Ra_ [0, 1, 1, 6]) (h := ?_)
       refine pI_ 2 (some 90) (Ra_ [0, 1, 2, 5]) (h := ?_)
       refine pI_ 3 (some 91) (Ra_ [0, 1, 3, 4]) (h := ?_)
       refine tI6_ 0 (some 88) (Ra_ [4, 4]) (h := ?_)
       refine tI6_ 4 (some 92) (Ra_ [5, 3]) (h := ?_)
       refine one_ (i := 5) (N := none) (Ra_ [6, 2]) rfl rfl (one_of HT_.out (by kernel_rfl)) (by decide) (fun K hK => ?_)
       have hs81 : w80.cell? ⟨gb251, 0, none⟩ = some (.int .i64 0) := (blk_cell BK251.out 0).trans rfl
       have hfs81 := blk_frozen BK251.out 0
       have hns81_1 := NB259_251.out
       have hms81_1 := NB251_259.out
       have hs82 : w80.cell? ⟨gb251, 1, none⟩ = some (.int .i64 0) := (blk_cell BK251.out 1).trans rfl
       have hfs82 := blk_frozen BK251.out 1
       have hns82_1 := NB259_251.out
       have hms82_1 := NB251_259.out
       have hs84 : w80.cell? ⟨gb251, 2, none⟩ = some (.slice none 0 0) := (blk_cell BK251.out 2).trans rfl
       have hfs84 := blk_frozen BK251.out 2
       have hns84_1 := NB259_251.out
       have hms84_1 := NB251_259.out
       have hs85 : w80.cell? ⟨gb251, 3, none⟩ = some (.string (⟨#[]⟩ : ByteArray)) := (blk_cell BK251.out 3).trans rfl
       have hfs85 := blk_frozen BK251.out 3
       have hns85_1 := NB259_251.out
       have hms85_1 := NB251_259.out
       refine skip_ (w1 := ?_) (by rfl) rfl ?_ ?_
       rotate_left
       ·go_simp
        rfl
       refine hK.out _ _ ⟨((cell_far (p := ⟨gb251, _, none⟩) NB259_251.out _).trans (((cell_far (p := ⟨gb251, _, none⟩) NB259_251.out _).trans (((cell_far (p := ⟨gb251, _, none⟩) NB259_251.out _).trans (((cell_far (p := ⟨gb251, _, none⟩) NB259_251.out _).trans (hHeld.1)))))))), ((cell_far (p := ⟨gb251, _, none⟩) NB259_251.out _).trans (((cell_far (p := ⟨gb251, _, none⟩) NB259_251.out _).trans (((cell_far (p := ⟨gb251, _, none⟩) NB259_251.out _).trans (((cell_far (p := ⟨gb251, _, none⟩) NB259_251.out _).trans (hHeld.2.1)))))))), ((cell_far (p := ⟨gb251, _, none⟩) NB259_251.out _).trans (((cell_far (p := ⟨gb251, _, none⟩) NB259_251.out _).trans (((cell_far (p := ⟨gb251, _, none⟩) NB259_251.out _).trans (((cell_far (p := ⟨gb251, _, none⟩) NB259_251.out _).trans (hHeld.2.2.1)))))))), ((cell_far (p := ⟨gb251, _, none⟩) NB259_251.out _).trans (((cell_far (p := ⟨gb251, _, none⟩) NB259_251.out _).trans (((cell_far (p := ⟨gb251, _, none⟩) NB259_251.out _).trans (((cell_far (p := ⟨gb251, _, none⟩) NB259_251.out _).trans (hHeld.2.2.2.1)))))))), ((cell_far (p := ⟨gb251, _, none⟩) NB252_251.out _).trans (((cell_far (p := ⟨gb251, _, none⟩) NB252_251.out _).trans (((cell_far (p := ⟨gb251, _, none⟩) NB252_251.out _).trans (((cell_far (p := ⟨gb251, _, none⟩) NB252_251.out _).trans (hHeld.2.2.2.2.1)))))))), ((cell_far (p := ⟨gb251, _, none⟩) NB252_251.out _).trans (((cell_far (p := ⟨gb251, _, none⟩) NB252_251.out _).trans (((cell_far (p := ⟨gb251, _, none⟩) NB252_251.out _).trans (((cell_far (p := ⟨gb251, _, none⟩) NB252_251.out _).trans (hHeld.2.2.2.2.2))))))))⟩ (fun hHeld => ?_)
       clear hK K
       refine pI_ 6 (some 5) (Ra_ [7, 1]) (h := ?_)
       refine pI_ 7 (some 6) (Ra_ [8]) (h := ?_)
       refine done_ (done_of HT_.out (by kernel_rfl)) ?_
       try go_wp2
       refine bodyPost_ret (results_ctt rfl _ _ gb251 25 #[.int .i64 t253, .int .i64 t256, .slice Ao83 x260002_3.length co83, .string t276] (0, 0) _ rfl (by refine bD_ ?_; refine blk_put (cs := #[.int .i64 t253, .int .i64 t256, .slice Ao83 x260002_3.length co83, .string (⟨#[]⟩ : ByteArray)]) ?_ 3 _ rfl; refine bD_ ?_; refine blk_put (cs := #[.int .i64 t253, .int .i64 t256, .slice none 0 0, .string (⟨#[]⟩ : ByteArray)]) ?_ 2 _ rfl; refine bD_ ?_; refine blk_put (cs := #[.int .i64 t253, .int .i64 0, .slice none 0 0, .string (⟨#[]⟩ : ByteArray)]) ?_ 1 _ rfl; refine bD_ ?_; refine blk_put (cs := #[.int .i64 0, .int .i64 0, .slice none 0 0, .string (⟨#[]⟩ : ByteArray)]) ?_ 0 _ rfl; refine bD_ ?_; exact BK251.out) Tryd.underlying25 rfl (by kernel_rfl)) rfl ?_
       exact ⟨_, by first | rfl | (simp [errW_none, errW_some] <;> rfl) | (simp [*, errW_none, errW_some] <;> rfl), by refine rD_ ?_; exact Kd.R_mono (Kd.R_far (p := ⟨gb251, 3, none⟩) (Kd.R_far (p := ⟨gb251, 2, none⟩) (Kd.R_far (p := ⟨gb251, 1, none⟩) (Kd.R_far (p := ⟨gb251, 0, none⟩) (Kd.R_types HO_260002.out BK251.out (by decide)) (fun _ hk => hk.2) (.int .i64 t253)) (fun _ hk => hk.2) (.int .i64 t256)) (fun _ hk => hk.2) (.slice Ao83 x260002_3.length co83)) (fun _ hk => hk.2) (.string t276)) (fun _ hk => trivial), m58_⟩
      subst c61
      have H1 : (if 4 = 0 then (some (t253, t256, x260002_3, t276, t277, 0)) else (some (0, 0, ([] : List (S35)), (⟨#[]⟩ : ByteArray), 0, 4))) = some (r1, r2, r3, r4, r5, r6) := by rw [if_pos rfl] at H; exact H
      clear H
      have H := H1
      clear H1
      by_cases c62 : 4 = 0
      case neg =>
       rw [if_neg c62] at H
       have c62b0 : (4 == 0) = false := beq_eq_false_iff_ne.mpr c62
       have c62b1 : (4 != 0) = true := bne_iff_ne.mpr c62
       simp only [Option.some.injEq, Prod.mk.injEq] at H
       obtain ⟨rfl, rfl, rfl, rfl, rfl, rfl⟩ := H
       obtain ⟨ASz71_0, cSz71_0, HGz71, hgz71, HSz71_0⟩ := HI252.out
       have hcz71_0 := cellS75_0 HGz71
       have hcz71_1 := cellS75_1 HGz71
       have hcz71_2 := cellS75_2 HGz71
       have hfz71_1 := blk_frozen HGz71 1
       have hfz71_2 := blk_frozen HGz71 2
       clear HGz71 hgz71
       try go_wp2
       have n0_ : Aside0 (Kd.R k35 35 (wc.setCell ⟨gb252, 2, none⟩ (.int .i64 4)) w.heap.size (fun _ => True) u260002 x260002_3) := ⟨by refine rD_ ?_; exact Kd.R_mono (Kd.R_far (p := ⟨gb252, 2, none⟩) (IsS75.apart HI252.out HO_260002.out (by decide)) (fun _ hk => hk.2) (.int .i64 4)) (fun _ hk => trivial)⟩
       have n1_ : Aside0 ((wc.setCell ⟨gb252, 2, none⟩ (.int .i64 4)).heap[gb251]? = some (.cells #[.int .i64 0, .int .i64 0, .slice none 0 0, .string (⟨#[]⟩ : ByteArray)] 25 (0, 0))) := ⟨by refine bD_ ?_; refine blk_far ?_ NB251_252.out _; refine bD_ ?_; exact BK251.out⟩
       have n2_ : Aside0 ((wc.setCell ⟨gb252, 2, none⟩ (.int .i64 4)).heap[gb259]? = some (.cells #[.int .i64 t253, .int .i64 t256, u260002, .string t276] 25 (0, 0))) := ⟨by refine bD_ ?_; refine blk_far ?_ NB259_252.out _; refine bD_ ?_; exact BK259.out⟩
       have n3_ : Aside0 (IsS75 w (wc.setCell ⟨gb252, 2, none⟩ (.int .i64 4)) gb252 l0 t277 4) := ⟨m57_⟩
       have n4_ : Aside0 (Below w.heap.size w (wc.setCell ⟨gb252, 2, none⟩ (.int .i64 4))) := ⟨m58_⟩
       (try clear HO_260002)
       (try clear BK251)
       (try clear BK259)
       (try clear HI252)
       (try clear HB)
       generalize (wc.setCell ⟨gb252, 2, none⟩ (.int .i64 4)) = w72 at n0_ n1_ n2_ n3_ n4_ ⊢
       have HO_260002 := n0_
       have BK251 := n1_
       have BK259 := n2_
       have HI252 := n3_
       have HB := n4_
       clear n0_ n1_ n2_ n3_ n4_
       replace HO_260002 := Aside0.mk (Kd.R_drew HO_260002.out)
       replace BK251 := Aside0.mk (blk_drew BK251.out)
       replace BK259 := Aside0.mk (blk_drew BK259.out)
       replace HI252 := Aside0.mk (IsS75.drew HI252.out)
       replace HB := Aside0.mk (below_drew1 HB.out)
       refine start_ (n := 8) (S := fun w' => w'.cell? ⟨gb252, 1, none⟩ = some (.int .i64 t277) ∧ w'.cell? ⟨gb252, 2, none⟩ = some (.int .i64 4)) (ds := []) (Ra_ [0, 8]) (by kernel_rfl) rfl rfl ⟨(IsS75.cell_1 HI252.out), (IsS75.cell_2 HI252.out)⟩ (fun hHeld => ?_); refine with_tabW cap_Decode.tab17 cap_Decode.bits17 (fun HT_ HW_ => ?_)
       generalize w72.drew = w73 at HO_260002 BK251 BK259 HI252 HB hHeld ⊢
       refine pI_ 0 (some 83) (Ra_ [1, 7]) (h := ?_)
       refine pI_ 1 (some 84) (Ra_ [2, 6]) (h := ?_)
       refine pI_ 2 (some 85) (Ra_ [3, 5]) (h := ?_)
       refine pI_ 3 (some 86) (Ra_ [4, 4]) (h := ?_)
       refine tI2_ 4 (some 87) (Ra_ [5, 3]) (h := ?_)
       refine one_ (i := 5) (N := none) (Ra_ [6, 2]) rfl rfl (one_of HT_.out (by kernel_rfl)) (by decide) (fun K hK => ?_)
       have hs74 : w73.cell? ⟨gb251, 0, none⟩ = some (.int .i64 0) := (blk_cell BK251.out 0).trans rfl
       have hfs74 := blk_frozen BK251.out 0
       have hns74_1 := NB259_251.out
       have hms74_1 := NB251_259.out
       have hs75 : w73.cell? ⟨gb251, 1, none⟩ = some (.int .i64 0) := (blk_cell BK251.out 1).trans rfl
       have hfs75 := blk_frozen BK251.out 1
       have hns75_1 := NB259_251.out
       have hms75_1 := NB251_259.out
       have hs76 : w73.cell? ⟨gb251, 2, none⟩ = some (.slice none 0 0) := (blk_cell BK251.out 2).trans rfl
       have hfs76 := blk_frozen BK251.out 2
       have hns76_1 := NB259_251.out
       have hms76_1 := NB251_259.out
       have hs77 : w73.cell? ⟨gb251, 3, none⟩ = some (.string (⟨#[]⟩ : ByteArray)) := (blk_cell BK251.out 3).trans rfl
       have hfs77 := blk_frozen BK251.out 3
       have hns77_1 := NB259_251.out
       have hms77_1 := NB251_259.out
       refine skip_ (w1 := ?_) (by rfl) rfl ?_ ?_
       rotate_left
       ·go_simp
        rfl
       refine hK.out _ _ ⟨((cell_far (p := ⟨gb251, _, none⟩) NB252_251.out _).trans (((cell_far (p := ⟨gb251, _, none⟩) NB252_251.out _).trans (((cell_far (p := ⟨gb251, _, none⟩) NB252_251.out _).trans (((cell_far (p := ⟨gb251, _, none⟩) NB252_251.out _).trans (hHeld.1)))))))), ((cell_far (p := ⟨gb251, _, none⟩) NB252_251.out _).trans (((cell_far (p := ⟨gb251, _, none⟩) NB252_251.out _).trans (((cell_far (p := ⟨gb251, _, none⟩) NB252_251.out _).trans (((cell_far (p := ⟨gb251, _, none⟩) NB252_251.out _).trans (hHeld.2))))))))⟩ (fun hHeld => ?_)
       clear hK K
       refine pI_ 6 (some 5) (Ra_ [7, 1]) (h := ?_)
       refine pI_ 7 (some 6) (Ra_ [8]) (h := ?_)
       refine done_ (done_of HT_.out (by kernel_rfl)) ?_
       try go_wp2
       refine bodyPost_ret (results_ctt rfl _ _ gb251 25 #[.int .i64 0, .int .i64 0, .slice none 0 0, .string (⟨#[]⟩ : ByteArray)] (0, 0) _ rfl (by refine bD_ ?_; refine blk_put (cs := #[.int .i64 0, .int .i64 0, .slice none 0 0, .string (⟨#[]⟩ : ByteArray)]) ?_ 3 _ rfl; refine bD_ ?_; refine blk_put (cs := #[.int .i64 0, .int .i64 0, .slice none 0 0, .string (⟨#[]⟩ : ByteArray)]) ?_ 2 _ rfl; refine bD_ ?_; refine blk_put (cs := #[.int .i64 0, .int .i64 0, .slice none 0 0, .string (⟨#[]⟩ : ByteArray)]) ?_ 1 _ rfl; refine bD_ ?_; refine blk_put (cs := #[.int .i64 0, .int .i64 0, .slice none 0 0, .string (⟨#[]⟩ : ByteArray)]) ?_ 0 _ rfl; refine bD_ ?_; exact BK251.out) Tryd.underlying25 rfl (by kernel_rfl)) rfl ?_
       exact ⟨_, by first | rfl | (simp [errW_none, errW_some] <;> rfl) | (simp [*, errW_none, errW_some] <;> rfl), by first | exact Kd.R_nil _ _ _ _ _ | exact Kd.N_nil _ _ _ _ _ | exact Kd.V_nil _ _ _ _ _ | exact Kd.Q_nil _ _ _ _ _ | exact Kd.S_nil _ _ _ _ _, m58_⟩
      exact absurd c62 (by decide)

end Go.Proofs.YtedmkffepmcpaaaDoorH.HCapCodes
