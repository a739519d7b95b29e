-- PRINTED by print.py (a twelfth state) out of the translation. Not trusted: Lean checks it.
import Derived.Test.YtoankokkdmbjmaaDoorHFrameCutsx0
import Derived.Test.YtoankokkdmbjmaaDoorHFrameCutsx1
namespace Go.Proofs.YtoankokkdmbjmaaDoorH.HFrameCuts
open Go.RowKit Go.Proofs.YtoankokkdmbjmaaDoorW.PrintWords Go.Proofs.YtoankokkdmbjmaaDoorW.PrintLast Go.Proofs.YtoankokkdmbjmaaDoorW.PrintMore
attribute [local go_sem] max2_int min2_int max_two min_two max_three min_three max_four min_four   -- for this text's walks alone
set_option linter.unusedVariables false
set_option linter.unusedSimpArgs false

/-! ### frame_listsFit: function 38 -/
mutual
def frame_listsFit.j0 : Nat → Bool → Int → Int → Int → List ByteArray → ByteArray → ByteArray → List (S65) → List (S74) → ByteArray → List (S67) → Int → Int → Option (Bool)
  | 0, _, _, _, _, _, _, _, _, _, _, _, _, _ => none
  | k + 1, x32, x107000, x107001, x107002, x107003, x107004, x107005, x107006, x107007, x107008, x107009, x107010, x107011 => if x32 = true then (some false) else (frame_listsFit.l0 k x107003 (x107003.length : Int) 0 x107000 x107001 x107002 x107003 x107004 x107005 x107006 x107007 x107008 x107009 x107010 x107011)
def frame_listsFit.l0 : Nat → List ByteArray → Int → Int → Int → Int → Int → List ByteArray → ByteArray → ByteArray → List (S65) → List (S74) → ByteArray → List (S67) → Int → Int → Option (Bool)
  | 0, _, _, _, _, _, _, _, _, _, _, _, _, _, _, _ => none
  | k + 1, x34, x35, x36, x107000, x107001, x107002, x107003, x107004, x107005, x107006, x107007, x107008, x107009, x107010, x107011 => if x36 < x35 then (if 0 ≤ x36 then (if x36 < (x34.length : Int) then ((path_Good.f (rdOf ByteArray.empty x34 x36)).bind fun t108 => (if t108 = true then (frame_listsFit.l0 k x34 x35 (wrap64 (x36 + 1)) x107000 x107001 x107002 x107003 x107004 x107005 x107006 x107007 x107008 x107009 x107010 x107011) else (some false))) else (none)) else (none)) else (frame_listsFit.l1 k x107006 (x107006.length : Int) 0 x107000 x107001 x107002 x107003 x107004 x107005 x107006 x107007 x107008 x107009 x107010 x107011)
def frame_listsFit.l1 : Nat → List (S65) → Int → Int → Int → Int → Int → List ByteArray → ByteArray → ByteArray → List (S65) → List (S74) → ByteArray → List (S67) → Int → Int → Option (Bool)
  | 0, _, _, _, _, _, _, _, _, _, _, _, _, _, _, _ => none
  | k + 1, x45, x46, x47, x107000, x107001, x107002, x107003, x107004, x107005, x107006, x107007, x107008, x107009, x107010, x107011 => if x47 < x46 then (if 0 ≤ x47 then (if x47 < (x45.length : Int) then (if (((rd_T65 x45 x47).f1).size : Int) = 16 then (frame_listsFit.l1 k x45 x46 (wrap64 (x47 + 1)) x107000 x107001 x107002 x107003 x107004 x107005 x107006 x107007 x107008 x107009 x107010 x107011) else (some false)) else (none)) else (none)) else (frame_listsFit.l2 k x107007 (x107007.length : Int) 0 x107000 x107001 x107002 x107003 x107004 x107005 x107006 x107007 x107008 x107009 x107010 x107011)
def frame_listsFit.l2 : Nat → List (S74) → Int → Int → Int → Int → Int → List ByteArray → ByteArray → ByteArray → List (S65) → List (S74) → ByteArray → List (S67) → Int → Int → Option (Bool)
  | 0, _, _, _, _, _, _, _, _, _, _, _, _, _, _, _ => none
  | k + 1, x57, x58, x59, x107000, x107001, x107002, x107003, x107004, x107005, x107006, x107007, x107008, x107009, x107010, x107011 => if x59 < x58 then (if 0 ≤ x59 then (if x59 < (x57.length : Int) then ((frame_within.f ((rd_T74 x57 x59).f0) 0 128).bind fun t113 => (if t113 = true then ((frame_within.f ((rd_T74 x57 x59).f1) 0 128).bind fun t114 => (if t114 = true then (frame_listsFit.l2 k x57 x58 (wrap64 (x59 + 1)) x107000 x107001 x107002 x107003 x107004 x107005 x107006 x107007 x107008 x107009 x107010 x107011) else (some false))) else (some false))) else (none)) else (none)) else (frame_listsFit.l3 k x107009 (x107009.length : Int) 0)
def frame_listsFit.l3 : Nat → List (S67) → Int → Int → Option (Bool)
  | 0, _, _, _ => none
  | k + 1, x75, x76, x77 => if x77 < x76 then (if 0 ≤ x77 then (if x77 < (x75.length : Int) then ((frame_entryFits.f ((rd_T67 x75 x77).f0) ((rd_T67 x75 x77).f1) ((rd_T67 x75 x77).f2) ((rd_T67 x75 x77).f3) ((rd_T67 x75 x77).f4)).bind fun t117 => (if t117 = true then (frame_listsFit.l3 k x75 x76 (wrap64 (x77 + 1))) else (some false))) else (none)) else (none)) else (some true)
end
def frame_listsFit.f (k : Nat) (a0_0 : Int) (a0_1 : Int) (a0_2 : Int) (l0_3 : List ByteArray) (a0_4 : ByteArray) (a0_5 : ByteArray) (l0_6 : List (S65)) (l0_7 : List (S74)) (a0_8 : ByteArray) (l0_9 : List (S67)) (a0_10 : Int) (a0_11 : Int) : Option (Bool) := if (l0_3.length : Int) > 64 then (frame_listsFit.j0 k true a0_0 a0_1 a0_2 l0_3 a0_4 a0_5 l0_6 l0_7 a0_8 l0_9 a0_10 a0_11) else (if (l0_6.length : Int) > 1024 then (frame_listsFit.j0 k true a0_0 a0_1 a0_2 l0_3 a0_4 a0_5 l0_6 l0_7 a0_8 l0_9 a0_10 a0_11) else (if (l0_7.length : Int) > 4 then (frame_listsFit.j0 k true a0_0 a0_1 a0_2 l0_3 a0_4 a0_5 l0_6 l0_7 a0_8 l0_9 a0_10 a0_11) else (frame_listsFit.j0 k (decide ((l0_9.length : Int) > 8)) a0_0 a0_1 a0_2 l0_3 a0_4 a0_5 l0_6 l0_7 a0_8 l0_9 a0_10 a0_11)))
theorem frame_listsFit.mono_l : ∀ k, (∀ y0 y1 y2 y3 y4 y5 y6 y7 y8 y9 y10 y11 y12, LeO (frame_listsFit.j0 k y0 y1 y2 y3 y4 y5 y6 y7 y8 y9 y10 y11 y12) (frame_listsFit.j0 (k + 1) y0 y1 y2 y3 y4 y5 y6 y7 y8 y9 y10 y11 y12)) ∧ (∀ y0 y1 y2 y3 y4 y5 y6 y7 y8 y9 y10 y11 y12 y13 y14, LeO (frame_listsFit.l0 k y0 y1 y2 y3 y4 y5 y6 y7 y8 y9 y10 y11 y12 y13 y14) (frame_listsFit.l0 (k + 1) y0 y1 y2 y3 y4 y5 y6 y7 y8 y9 y10 y11 y12 y13 y14)) ∧ (∀ y0 y1 y2 y3 y4 y5 y6 y7 y8 y9 y10 y11 y12 y13 y14, LeO (frame_listsFit.l1 k y0 y1 y2 y3 y4 y5 y6 y7 y8 y9 y10 y11 y12 y13 y14) (frame_listsFit.l1 (k + 1) y0 y1 y2 y3 y4 y5 y6 y7 y8 y9 y10 y11 y12 y13 y14)) ∧ (∀ y0 y1 y2 y3 y4 y5 y6 y7 y8 y9 y10 y11 y12 y13 y14, LeO (frame_listsFit.l2 k y0 y1 y2 y3 y4 y5 y6 y7 y8 y9 y10 y11 y12 y13 y14) (frame_listsFit.l2 (k + 1) y0 y1 y2 y3 y4 y5 y6 y7 y8 y9 y10 y11 y12 y13 y14)) ∧ (∀ y0 y1 y2, LeO (frame_listsFit.l3 k y0 y1 y2) (frame_listsFit.l3 (k + 1) y0 y1 y2))
  | 0 => ⟨fun _ _ _ _ _ _ _ _ _ _ _ _ _ r h => by simp [frame_listsFit.j0] at h, fun _ _ _ _ _ _ _ _ _ _ _ _ _ _ _ r h => by simp [frame_listsFit.l0] at h, fun _ _ _ _ _ _ _ _ _ _ _ _ _ _ _ r h => by simp [frame_listsFit.l1] at h, fun _ _ _ _ _ _ _ _ _ _ _ _ _ _ _ r h => by simp [frame_listsFit.l2] at h, fun _ _ _ r h => by simp [frame_listsFit.l3] at h⟩
  | k + 1 => by
    obtain ⟨ih0, ih1, ih2, ih3, ih4⟩ := frame_listsFit.mono_l k
    refine ⟨?_, ?_, ?_, ?_, ?_⟩
    · intro y0 y1 y2 y3 y4 y5 y6 y7 y8 y9 y10 y11 y12
      unfold frame_listsFit.j0
      repeat' first
      | (with_reducible exact ih0 _ _ _ _ _ _ _ _ _ _ _ _ _)
      | (with_reducible exact ih1 _ _ _ _ _ _ _ _ _ _ _ _ _ _ _)
      | (with_reducible exact ih2 _ _ _ _ _ _ _ _ _ _ _ _ _ _ _)
      | (with_reducible exact ih3 _ _ _ _ _ _ _ _ _ _ _ _ _ _ _)
      | (with_reducible exact ih4 _ _ _)
      | (with_reducible exact LeO.refl _)
      | (with_reducible exact LeO.none _)
      | (with_reducible refine LeO.ite ?_ ?_)
      | (with_reducible refine LeO.bind ?_ (fun _ => ?_))
      | exact ih0 _ _ _ _ _ _ _ _ _ _ _ _ _
      | exact ih1 _ _ _ _ _ _ _ _ _ _ _ _ _ _ _
      | exact ih2 _ _ _ _ _ _ _ _ _ _ _ _ _ _ _
      | exact ih3 _ _ _ _ _ _ _ _ _ _ _ _ _ _ _
      | exact ih4 _ _ _
      | exact LeO.none _
      | refine LeO.ite ?_ ?_
      | refine LeO.bind ?_ (fun _ => ?_)
    · intro y0 y1 y2 y3 y4 y5 y6 y7 y8 y9 y10 y11 y12 y13 y14
      unfold frame_listsFit.l0
      repeat' first
      | (with_reducible exact ih0 _ _ _ _ _ _ _ _ _ _ _ _ _)
      | (with_reducible exact ih1 _ _ _ _ _ _ _ _ _ _ _ _ _ _ _)
      | (with_reducible exact ih2 _ _ _ _ _ _ _ _ _ _ _ _ _ _ _)
      | (with_reducible exact ih3 _ _ _ _ _ _ _ _ _ _ _ _ _ _ _)
      | (with_reducible exact ih4 _ _ _)
      | (with_reducible exact LeO.refl _)
      | (with_reducible exact LeO.none _)
      | (with_reducible refine LeO.ite ?_ ?_)
      | (with_reducible refine LeO.bind ?_ (fun _ => ?_))
      | exact ih0 _ _ _ _ _ _ _ _ _ _ _ _ _
      | exact ih1 _ _ _ _ _ _ _ _ _ _ _ _ _ _ _
      | exact ih2 _ _ _ _ _ _ _ _ _ _ _ _ _ _ _
      | exact ih3 _ _ _ _ _ _ _ _ _ _ _ _ _ _ _
      | exact ih4 _ _ _
      | exact LeO.none _
      | refine LeO.ite ?_ ?_
      | refine LeO.bind ?_ (fun _ => ?_)
    · intro y0 y1 y2 y3 y4 y5 y6 y7 y8 y9 y10 y11 y12 y13 y14
      unfold frame_listsFit.l1
      repeat' first
      | (with_reducible exact ih0 _ _ _ _ _ _ _ _ _ _ _ _ _)
      | (with_reducible exact ih1 _ _ _ _ _ _ _ _ _ _ _ _ _ _ _)
      | (with_reducible exact ih2 _ _ _ _ _ _ _ _ _ _ _ _ _ _ _)
      | (with_reducible exact ih3 _ _ _ _ _ _ _ _ _ _ _ _ _ _ _)
      | (with_reducible exact ih4 _ _ _)
      | (with_reducible exact LeO.refl _)
      | (with_reducible exact LeO.none _)
      | (with_reducible refine LeO.ite ?_ ?_)
      | (with_reducible refine LeO.bind ?_ (fun _ => ?_))
      | exact ih0 _ _ _ _ _ _ _ _ _ _ _ _ _
      | exact ih1 _ _ _ _ _ _ _ _ _ _ _ _ _ _ _
      | exact ih2 _ _ _ _ _ _ _ _ _ _ _ _ _ _ _
      | exact ih3 _ _ _ _ _ _ _ _ _ _ _ _ _ _ _
      | exact ih4 _ _ _
      | exact LeO.none _
      | refine LeO.ite ?_ ?_
      | refine LeO.bind ?_ (fun _ => ?_)
    · intro y0 y1 y2 y3 y4 y5 y6 y7 y8 y9 y10 y11 y12 y13 y14
      unfold frame_listsFit.l2
      repeat' first
      | (with_reducible exact ih0 _ _ _ _ _ _ _ _ _ _ _ _ _)
      | (with_reducible exact ih1 _ _ _ _ _ _ _ _ _ _ _ _ _ _ _)
      | (with_reducible exact ih2 _ _ _ _ _ _ _ _ _ _ _ _ _ _ _)
      | (with_reducible exact ih3 _ _ _ _ _ _ _ _ _ _ _ _ _ _ _)
      | (with_reducible exact ih4 _ _ _)
      | (with_reducible exact LeO.refl _)
      | (with_reducible exact LeO.none _)
      | (with_reducible refine LeO.ite ?_ ?_)
      | (with_reducible refine LeO.bind ?_ (fun _ => ?_))
      | exact ih0 _ _ _ _ _ _ _ _ _ _ _ _ _
      | exact ih1 _ _ _ _ _ _ _ _ _ _ _ _ _ _ _
      | exact ih2 _ _ _ _ _ _ _ _ _ _ _ _ _ _ _
      | exact ih3 _ _ _ _ _ _ _ _ _ _ _ _ _ _ _
      | exact ih4 _ _ _
      | exact LeO.none _
      | refine LeO.ite ?_ ?_
      | refine LeO.bind ?_ (fun _ => ?_)
    · intro y0 y1 y2
      unfold frame_listsFit.l3
      repeat' first
      | (with_reducible exact ih0 _ _ _ _ _ _ _ _ _ _ _ _ _)
      | (with_reducible exact ih1 _ _ _ _ _ _ _ _ _ _ _ _ _ _ _)
      | (with_reducible exact ih2 _ _ _ _ _ _ _ _ _ _ _ _ _ _ _)
      | (with_reducible exact ih3 _ _ _ _ _ _ _ _ _ _ _ _ _ _ _)
      | (with_reducible exact ih4 _ _ _)
      | (with_reducible exact LeO.refl _)
      | (with_reducible exact LeO.none _)
      | (with_reducible refine LeO.ite ?_ ?_)
      | (with_reducible refine LeO.bind ?_ (fun _ => ?_))
      | exact ih0 _ _ _ _ _ _ _ _ _ _ _ _ _
      | exact ih1 _ _ _ _ _ _ _ _ _ _ _ _ _ _ _
      | exact ih2 _ _ _ _ _ _ _ _ _ _ _ _ _ _ _
      | exact ih3 _ _ _ _ _ _ _ _ _ _ _ _ _ _ _
      | exact ih4 _ _ _
      | exact LeO.none _
      | refine LeO.ite ?_ ?_
      | refine LeO.bind ?_ (fun _ => ?_)
theorem frame_listsFit.mono : ∀ a0 a1 a2 a3 a4 a5 a6 a7 a8 a9 a10 a11 k, LeO (frame_listsFit.f k a0 a1 a2 a3 a4 a5 a6 a7 a8 a9 a10 a11) (frame_listsFit.f (k + 1) a0 a1 a2 a3 a4 a5 a6 a7 a8 a9 a10 a11) := by
  intro a0 a1 a2 a3 a4 a5 a6 a7 a8 a9 a10 a11 k
  obtain ⟨ih0, ih1, ih2, ih3, ih4⟩ := frame_listsFit.mono_l k
  unfold frame_listsFit.f
  repeat' first
      | (with_reducible exact ih0 _ _ _ _ _ _ _ _ _ _ _ _ _)
      | (with_reducible exact ih1 _ _ _ _ _ _ _ _ _ _ _ _ _ _ _)
      | (with_reducible exact ih2 _ _ _ _ _ _ _ _ _ _ _ _ _ _ _)
      | (with_reducible exact ih3 _ _ _ _ _ _ _ _ _ _ _ _ _ _ _)
      | (with_reducible exact ih4 _ _ _)
      | (with_reducible exact LeO.refl _)
      | (with_reducible exact LeO.none _)
      | (with_reducible refine LeO.ite ?_ ?_)
      | (with_reducible refine LeO.bind ?_ (fun _ => ?_))
      | exact ih0 _ _ _ _ _ _ _ _ _ _ _ _ _
      | exact ih1 _ _ _ _ _ _ _ _ _ _ _ _ _ _ _
      | exact ih2 _ _ _ _ _ _ _ _ _ _ _ _ _ _ _
      | exact ih3 _ _ _ _ _ _ _ _ _ _ _ _ _ _ _
      | exact ih4 _ _ _
      | exact LeO.none _
      | refine LeO.ite ?_ ?_
      | refine LeO.bind ?_ (fun _ => ?_)
set_option maxHeartbeats 8000000 in
set_option maxRecDepth 100000 in
theorem frame_listsFit.calls (k : Nat) (a0_0 : Int) (a0_1 : Int) (a0_2 : Int) (A0_3 : Option Addr) (c0_3 : Nat) (l0_3 : List ByteArray) (a0_4 : ByteArray) (a0_5 : ByteArray) (A0_6 : Option Addr) (c0_6 : Nat) (l0_6 : List (S65)) (A0_7 : Option Addr) (c0_7 : Nat) (l0_7 : List (S74)) (a0_8 : ByteArray) (A0_9 : Option Addr) (c0_9 : Nat) (l0_9 : List (S67)) (a0_10 : Int) (a0_11 : Int) (r : Bool) (w : World) (hr0_3 : Kd.C Kd.string w A0_3 l0_3.length l0_3) (hc0_3 : l0_3.length ≤ c0_3) (hr0_6 : Kd.C k65 w A0_6 l0_6.length l0_6) (hc0_6 : l0_6.length ≤ c0_6) (hr0_7 : Kd.C k74 w A0_7 l0_7.length l0_7) (hc0_7 : l0_7.length ≤ c0_7) (hr0_9 : Kd.C k67 w A0_9 l0_9.length l0_9) (hc0_9 : l0_9.length ≤ c0_9) (h : frame_listsFit.f k a0_0 a0_1 a0_2 l0_3 a0_4 a0_5 l0_6 l0_7 a0_8 l0_9 a0_10 a0_11 = some r) :
    Calls Tryd.prog 38 #[.agg #[.int .i64 a0_0, .int .i64 a0_1, .int .i64 a0_2, .slice A0_3 l0_3.length c0_3, .string a0_4, .string a0_5, .slice A0_6 l0_6.length c0_6, .slice A0_7 l0_7.length c0_7, .string a0_8, .slice A0_9 l0_9.length c0_9, .int .i64 a0_10, .int .i64 a0_11]] w fun e w' => e = .returned (.bool r) ∧ Below w.heap.size w w' := by
  have hu34 := Tryd.underlying34
  have hu65 := Tryd.underlying65
  have hu74 := Tryd.underlying74
  have hu67 := Tryd.underlying67
  have HR0_3 := Aside0.mk hr0_3
  have HC0_3 := Aside0.mk hc0_3
  clear hr0_3 hc0_3
  have HR0_6 := Aside0.mk hr0_6
  have HC0_6 := Aside0.mk hc0_6
  clear hr0_6 hc0_6
  have HR0_7 := Aside0.mk hr0_7
  have HC0_7 := Aside0.mk hc0_7
  clear hr0_7 hc0_7
  have HR0_9 := Aside0.mk hr0_9
  have HC0_9 := Aside0.mk hc0_9
  clear hr0_9 hc0_9
  have HB := Aside0.mk (Below.refl w.heap.size w)
  have H : (if (l0_3.length : Int) > 64 then (frame_listsFit.j0 k true a0_0 a0_1 a0_2 l0_3 a0_4 a0_5 l0_6 l0_7 a0_8 l0_9 a0_10 a0_11) else (if (l0_6.length : Int) > 1024 then (frame_listsFit.j0 k true a0_0 a0_1 a0_2 l0_3 a0_4 a0_5 l0_6 l0_7 a0_8 l0_9 a0_10 a0_11) else (if (l0_7.length : Int) > 4 then (frame_listsFit.j0 k true a0_0 a0_1 a0_2 l0_3 a0_4 a0_5 l0_6 l0_7 a0_8 l0_9 a0_10 a0_11) else (frame_listsFit.j0 k (decide ((l0_9.length : Int) > 8)) a0_0 a0_1 a0_2 l0_3 a0_4 a0_5 l0_6 l0_7 a0_8 l0_9 a0_10 a0_11)))) = some r := h
  clear h
  have HC2 := Aside0.mk H
  clear H
  go_enter Tryd.func38, Tryd.ntmps38
  go_upto_region 1 with (first | ((with_reducible refine gate_dst (N := 1) rfl ?_); (try (refine gate_guard (by rfl) ?_; dsimp only)); refine box_event ?hg (N := 1) ?hd (cs := #[.int .i64 a0_0, .int .i64 a0_1, .int .i64 a0_2, .slice A0_3 l0_3.length c0_3, .string a0_4, .string a0_5, .slice A0_6 l0_6.length c0_6, .slice A0_7 l0_7.length c0_7, .string a0_8, .slice A0_9 l0_9.length c0_9, .int .i64 a0_10, .int .i64 a0_11]) (t := 34) ?hr ?_; (case hd => rfl); (case hg => rfl); (case hr => first | (go_simp; done) | (go_simp; rfl)); intro gb106 hg w3 hbox hb; have n0_ := Aside0.mk (below_step m13_ hb); have n1_ := Aside0.mk (hbox); have n2_ := Aside0.mk ((by rw [hg]; exact (below_size m13_) : w.heap.size ≤ gb106)); have n3_ := Aside0.mk ((by rw [hg]; exact (below_size m13_) : w.heap.size ≤ gb106)); clear HB; have HB := n0_; have BK106 := n1_; have GW106 := n2_; have GE106 := n3_; clear n0_ n1_ n2_ n3_; clear hb hbox hg))
  (try simp only [Act.put, List.setIfInBounds_toArray, List.set_cons_zero, List.set_cons_succ])
  go_cut [32] (fun v32 wc => ∃ (kq : Nat) (x32_1 : Bool), v32 = .bool x32_1 ∧ Aside0 (frame_listsFit.j0 kq x32_1 a0_0 a0_1 a0_2 l0_3 a0_4 a0_5 l0_6 l0_7 a0_8 l0_9 a0_10 a0_11 = some r) ∧ Aside0 (kq ≤ k) ∧ Aside0 (wc.heap[gb106]? = some (.cells #[.int .i64 a0_0, .int .i64 a0_1, .int .i64 a0_2, (.slice A0_3 l0_3.length c0_3), .string a0_4, .string a0_5, (.slice A0_6 l0_6.length c0_6), (.slice A0_7 l0_7.length c0_7), .string a0_8, (.slice A0_9 l0_9.length c0_9), .int .i64 a0_10, .int .i64 a0_11] 34 (0, 0))) ∧ Aside0 (Below w.heap.size w wc))
  case first =>
   have H := HC2.out
   clear HC2
   by_cases c4 : (l0_3.length : Int) > 64
   ·rw [if_pos c4] at H
    have c4b0 : decide (64 < (l0_3.length : Int)) = true := decide_eq_true c4
    have c4b1 : decide (64 < l0_3.length) = true := decide_eq_true (by omega)
    clear c4
    (first | rw [c4b0] | (simp only [i64_w, i32_w]; rw [c4b0]) | skip)
    have H' := Aside0.mk H
    clear H
    obtain ⟨hcz5_0, hcz5_1, hcz5_2, hcz5_3, hcz5_4, hcz5_5, hcz5_6, hcz5_7, hcz5_8, hcz5_9, hcz5_10, hcz5_11⟩ := bc12_ BK106.out
    obtain ⟨hfz5_0, hfz5_1, hfz5_2, hfz5_3, hfz5_4, hfz5_5, hfz5_6, hfz5_7, hfz5_8, hfz5_9, hfz5_10, hfz5_11⟩ := bf12_ BK106.out
    go_wp2
    go_meet
    case rel => exact ⟨_, (true), m28_, H', ⟨by first | omega | exact Nat.le_refl _⟩, ⟨by (with_reducible repeat (first | refine blk_drewN ?_ _ | refine blk_drew ?_ | refine blk_alloc ?_ _)); exact BK106.out⟩, ⟨m38_⟩⟩
   rw [if_neg c4] at H
   have c4b0 : decide (64 < (l0_3.length : Int)) = false := decide_eq_false c4
   have c4b1 : decide (64 < l0_3.length) = false := decide_eq_false (by omega)
   clear c4
   (first | rw [c4b0] | (simp only [i64_w, i32_w]; rw [c4b0]) | skip)
   by_cases c6 : (l0_6.length : Int) > 1024
   ·rw [if_pos c6] at H
    have c6b0 : decide (1024 < (l0_6.length : Int)) = true := decide_eq_true c6
    have c6b1 : decide (1024 < l0_6.length) = true := decide_eq_true (by omega)
    clear c6
    have H' := Aside0.mk H
    clear H
    obtain ⟨hcz7_0, hcz7_1, hcz7_2, hcz7_3, hcz7_4, hcz7_5, hcz7_6, hcz7_7, hcz7_8, hcz7_9, hcz7_10, hcz7_11⟩ := bc12_ BK106.out
    obtain ⟨hfz7_0, hfz7_1, hfz7_2, hfz7_3, hfz7_4, hfz7_5, hfz7_6, hfz7_7, hfz7_8, hfz7_9, hfz7_10, hfz7_11⟩ := bf12_ BK106.out
    go_wp2
    go_meet
    case rel => exact ⟨_, (true), m28_, H', ⟨by first | omega | exact Nat.le_refl _⟩, ⟨by (with_reducible repeat (first | refine blk_drewN ?_ _ | refine blk_drew ?_ | refine blk_alloc ?_ _)); exact BK106.out⟩, ⟨m38_⟩⟩
   rw [if_neg c6] at H
   have c6b0 : decide (1024 < (l0_6.length : Int)) = false := decide_eq_false c6
   have c6b1 : decide (1024 < l0_6.length) = false := decide_eq_false (by omega)
   clear c6
   by_cases c8 : (l0_7.length : Int) > 4
   ·rw [if_pos c8] at H
    have c8b0 : decide (4 < (l0_7.length : Int)) = true := decide_eq_true c8
    have c8b1 : decide (4 < l0_7.length) = true := decide_eq_true (by omega)
    clear c8
    have H' := Aside0.mk H
    clear H
    obtain ⟨hcz9_0, hcz9_1, hcz9_2, hcz9_3, hcz9_4, hcz9_5, hcz9_6, hcz9_7, hcz9_8, hcz9_9, hcz9_10, hcz9_11⟩ := bc12_ BK106.out
    obtain ⟨hfz9_0, hfz9_1, hfz9_2, hfz9_3, hfz9_4, hfz9_5, hfz9_6, hfz9_7, hfz9_8, hfz9_9, hfz9_10, hfz9_11⟩ := bf12_ BK106.out
    go_wp2
    go_meet
    case rel => exact ⟨_, (true), m28_, H', ⟨by first | omega | exact Nat.le_refl _⟩, ⟨by (with_reducible repeat (first | refine blk_drewN ?_ _ | refine blk_drew ?_ | refine blk_alloc ?_ _)); exact BK106.out⟩, ⟨m38_⟩⟩
   rw [if_neg c8] at H
   have c8b0 : decide (4 < (l0_7.length : Int)) = false := decide_eq_false c8
   have c8b1 : decide (4 < l0_7.length) = false := decide_eq_false (by omega)
   clear c8
   have H' := Aside0.mk H
   clear H
   obtain ⟨hcz10_0, hcz10_1, hcz10_2, hcz10_3, hcz10_4, hcz10_5, hcz10_6, hcz10_7, hcz10_8, hcz10_9, hcz10_10, hcz10_11⟩ := bc12_ BK106.out
   obtain ⟨hfz10_0, hfz10_1, hfz10_2, hfz10_3, hfz10_4, hfz10_5, hfz10_6, hfz10_7, hfz10_8, hfz10_9, hfz10_10, hfz10_11⟩ := bf12_ BK106.out
   go_wp2
   go_meet
   case rel => exact ⟨_, (decide ((l0_9.length : Int) > 8)), m28_, H', ⟨by first | omega | exact Nat.le_refl _⟩, ⟨by (with_reducible repeat (first | refine blk_drewN ?_ _ | refine blk_drew ?_ | refine blk_alloc ?_ _)); exact BK106.out⟩, ⟨m38_⟩⟩
  clear HC2
  try clear p2; try clear c3; try clear c4; try clear c4b0; try clear c4b1; try clear c6; try clear c6b0; try clear c6b1; try clear c8; try clear c8b0; try clear c8b1; try clear hcz10_0; try clear hcz10_1; try clear hcz10_10; try clear hcz10_11; try clear hcz10_2; try clear hcz10_3; try clear hcz10_4; try clear hcz10_5; try clear hcz10_6; try clear hcz10_7; try clear hcz10_8; try clear hcz10_9; try clear hcz5_0; try clear hcz5_1; try clear hcz5_10; try clear hcz5_11; try clear hcz5_2; try clear hcz5_3; try clear hcz5_4; try clear hcz5_5; try clear hcz5_6; try clear hcz5_7; try clear hcz5_8; try clear hcz5_9; try clear hcz7_0; try clear hcz7_1; try clear hcz7_10; try clear hcz7_11; try clear hcz7_2; try clear hcz7_3; try clear hcz7_4; try clear hcz7_5; try clear hcz7_6; try clear hcz7_7; try clear hcz7_8; try clear hcz7_9; try clear hcz9_0; try clear hcz9_1; try clear hcz9_10; try clear hcz9_11; try clear hcz9_2; try clear hcz9_3; try clear hcz9_4; try clear hcz9_5; try clear hcz9_6; try clear hcz9_7; try clear hcz9_8; try clear hcz9_9; try clear hfz10_0; try clear hfz10_1; try clear hfz10_10; try clear hfz10_11; try clear hfz10_2; try clear hfz10_3; try clear hfz10_4; try clear hfz10_5; try clear hfz10_6; try clear hfz10_7; try clear hfz10_8; try clear hfz10_9; try clear hfz5_0; try clear hfz5_1; try clear hfz5_10; try clear hfz5_11; try clear hfz5_2; try clear hfz5_3; try clear hfz5_4; try clear hfz5_5; try clear hfz5_6; try clear hfz5_7; try clear hfz5_8; try clear hfz5_9; try clear hfz7_0; try clear hfz7_1; try clear hfz7_10; try clear hfz7_11; try clear hfz7_2; try clear hfz7_3; try clear hfz7_4; try clear hfz7_5; try clear hfz7_6; try clear hfz7_7; try clear hfz7_8; try clear hfz7_9; try clear hfz9_0; try clear hfz9_1; try clear hfz9_10; try clear hfz9_11; try clear hfz9_2; try clear hfz9_3; try clear hfz9_4; try clear hfz9_5; try clear hfz9_6; try clear hfz9_7; try clear hfz9_8; try clear hfz9_9
  obtain ⟨kq, x32_1, rfl, HA, HJ1, BK106, HB⟩ := hcut
  cases kq with
  | zero => exact absurd HA.out (by simp [frame_listsFit.j0])
  | succ kj1 =>
   have H := HA.out
   clear HA
   simp only [frame_listsFit.j0] at H
   by_cases c11 : x32_1 = true
   ·subst c11
    have H1 : (some false) = some r := by rw [if_pos rfl] at H; exact H
    clear H
    have H := H1
    clear H1
    obtain rfl := Option.some.inj H
    go_wp2
    go_ret
    exact ⟨by first | rfl | (simp [errW_none, errW_some] <;> rfl) | (simp [*, errW_none, errW_some] <;> rfl), m38_⟩
   replace c11 := Bool.eq_false_iff.mpr c11
   subst c11
   have H1 : (frame_listsFit.l0 kj1 l0_3 (l0_3.length : Int) 0 a0_0 a0_1 a0_2 l0_3 a0_4 a0_5 l0_6 l0_7 a0_8 l0_9 a0_10 a0_11) = some r := by rw [if_neg (show ¬ (false = true) by decide)] at H; exact H
   clear H
   have H := H1
   clear H1
   have H' := Aside0.mk H
   clear H
   obtain ⟨hcz12_0, hcz12_1, hcz12_2, hcz12_3, hcz12_4, hcz12_5, hcz12_6, hcz12_7, hcz12_8, hcz12_9, hcz12_10, hcz12_11⟩ := bc12_ BK106.out
   obtain ⟨hfz12_0, hfz12_1, hfz12_2, hfz12_3, hfz12_4, hfz12_5, hfz12_6, hfz12_7, hfz12_8, hfz12_9, hfz12_10, hfz12_11⟩ := bf12_ BK106.out
   go_wp2
   go_loopg [36] kj1 (fun kq v36 w' => ∃ (x36_2 : Int), v36 = .int .i64 x36_2 ∧ Aside0 (frame_listsFit.l0 kq l0_3 (l0_3.length : Int) x36_2 a0_0 a0_1 a0_2 l0_3 a0_4 a0_5 l0_6 l0_7 a0_8 l0_9 a0_10 a0_11 = some r) ∧ Aside0 (kq ≤ kj1) ∧ Aside0 (w'.heap[gb106]? = some (.cells #[.int .i64 a0_0, .int .i64 a0_1, .int .i64 a0_2, (.slice A0_3 l0_3.length c0_3), .string a0_4, .string a0_5, (.slice A0_6 l0_6.length c0_6), (.slice A0_7 l0_7.length c0_7), .string a0_8, (.slice A0_9 l0_9.length c0_9), .int .i64 a0_10, .int .i64 a0_11] 34 (0, 0))) ∧ Aside0 (Below w.heap.size w w'))
   case atStart => exact ⟨(0), m28_, H', ⟨Nat.le_refl _⟩, ⟨by (with_reducible repeat (first | refine blk_drewN ?_ _ | refine blk_drew ?_ | refine blk_alloc ?_ _)); exact BK106.out⟩, ⟨m38_⟩⟩
   clear H'
   try clear c1; try clear p2; try clear c3; try clear c4; try clear c4b0; try clear c4b1; try clear c6; try clear c6b0; try clear c6b1; try clear c8; try clear c8b0; try clear c8b1; try clear c11; try clear hcz10_0; try clear hcz10_1; try clear hcz10_10; try clear hcz10_11; try clear hcz10_2; try clear hcz10_3; try clear hcz10_4; try clear hcz10_5; try clear hcz10_6; try clear hcz10_7; try clear hcz10_8; try clear hcz10_9; try clear hcz12_0; try clear hcz12_1; try clear hcz12_10; try clear hcz12_11; try clear hcz12_2; try clear hcz12_3; try clear hcz12_4; try clear hcz12_5; try clear hcz12_6; try clear hcz12_7; try clear hcz12_8; try clear hcz12_9; try clear hcz5_0; try clear hcz5_1; try clear hcz5_10; try clear hcz5_11; try clear hcz5_2; try clear hcz5_3; try clear hcz5_4; try clear hcz5_5; try clear hcz5_6; try clear hcz5_7; try clear hcz5_8; try clear hcz5_9; try clear hcz7_0; try clear hcz7_1; try clear hcz7_10; try clear hcz7_11; try clear hcz7_2; try clear hcz7_3; try clear hcz7_4; try clear hcz7_5; try clear hcz7_6; try clear hcz7_7; try clear hcz7_8; try clear hcz7_9; try clear hcz9_0; try clear hcz9_1; try clear hcz9_10; try clear hcz9_11; try clear hcz9_2; try clear hcz9_3; try clear hcz9_4; try clear hcz9_5; try clear hcz9_6; try clear hcz9_7; try clear hcz9_8; try clear hcz9_9; try clear hfz10_0; try clear hfz10_1; try clear hfz10_10; try clear hfz10_11; try clear hfz10_2; try clear hfz10_3; try clear hfz10_4; try clear hfz10_5; try clear hfz10_6; try clear hfz10_7; try clear hfz10_8; try clear hfz10_9; try clear hfz12_0; try clear hfz12_1; try clear hfz12_10; try clear hfz12_11; try clear hfz12_2; try clear hfz12_3; try clear hfz12_4; try clear hfz12_5; try clear hfz12_6; try clear hfz12_7; try clear hfz12_8; try clear hfz12_9; try clear hfz5_0; try clear hfz5_1; try clear hfz5_10; try clear hfz5_11; try clear hfz5_2; try clear hfz5_3; try clear hfz5_4; try clear hfz5_5; try clear hfz5_6; try clear hfz5_7; try clear hfz5_8; try clear hfz5_9; try clear hfz7_0; try clear hfz7_1; try clear hfz7_10; try clear hfz7_11; try clear hfz7_2; try clear hfz7_3; try clear hfz7_4; try clear hfz7_5; try clear hfz7_6; try clear hfz7_7; try clear hfz7_8; try clear hfz7_9; try clear hfz9_0; try clear hfz9_1; try clear hfz9_10; try clear hfz9_11; try clear hfz9_2; try clear hfz9_3; try clear hfz9_4; try clear hfz9_5; try clear hfz9_6; try clear hfz9_7; try clear hfz9_8; try clear hfz9_9; try clear p2
   obtain ⟨x36_2, rfl, HA, HK2, BK106, HB⟩ := hrel
   cases gk with
   | zero => exact absurd HA.out (by simp [frame_listsFit.l0])
   | succ k2 =>
    have H := HA.out
    clear HA
    simp only [frame_listsFit.l0] at H
    by_cases c13 : x36_2 < (l0_3.length : Int)
    ·rw [if_pos c13] at H
     have c13b0 : decide (x36_2 < (l0_3.length : Int)) = true := decide_eq_true c13
     clear c13
     by_cases c14 : 0 ≤ x36_2
     case neg =>
      rw [if_neg c14] at H
      exact absurd H (by simp)
     rw [if_pos c14] at H
     have c14b0 : decide (0 ≤ x36_2) = true := decide_eq_true c14
     clear c14
     by_cases c15 : x36_2 < (l0_3.length : Int)
     case neg =>
      rw [if_neg c15] at H
      exact absurd H (by simp)
     rw [if_pos c15] at H
     have c15b0 : decide (x36_2 < (l0_3.length : Int)) = true := decide_eq_true c15
     clear c15
     replace H := Option.bind_eq_some_iff.mp H
     obtain ⟨t108, A160, H⟩ := H
     replace H : (if t108 = true then (frame_listsFit.l0 k2 l0_3 (l0_3.length : Int) (wrap64 (x36_2 + 1)) a0_0 a0_1 a0_2 l0_3 a0_4 a0_5 l0_6 l0_7 a0_8 l0_9 a0_10 a0_11) else (some false)) = some r := H
     have A16 := Aside0.mk A160
     clear A160
     by_cases c17 : t108 = true
     case neg =>
      replace c17 := Bool.eq_false_iff.mpr c17
      subst c17
      have H1 : (some false) = some r := by rw [if_neg (show ¬ (false = true) by decide)] at H; exact H
      clear H
      have H := H1
      clear H1
      obtain rfl := Option.some.inj H
      have p107 : 0 ≤ (x36_2 : Int) := of_decide_eq_true m27_
      have q107 : x36_2 < (l0_3.length : Int) := of_decide_eq_true m27_
      obtain ⟨ad107, e107, hx107_0⟩ := Kd.at_string HR0_3.out x36_2 p107 q107
      cases e107
      replace hx107_0 := (HB.out.cell (World.block_lt_of_cell? w _ hx107_0)).trans hx107_0
      replace p107 := eq_true p107
      replace q107 := eq_true q107
      go_wp2_with (first | ((with_reducible refine gate_callee (f := 70) rfl ?_); refine goesL_ (some 41) rfl rfl Tryd.func70 (by kernel_rfl) rfl #[.string (rdOf ByteArray.empty l0_3 x36_2)] rfl m12_ ?_; (with_reducible refine (path_Good.calls (rdOf ByteArray.empty l0_3 x36_2) false _ A16.out).mono ?_); rintro e w19 ⟨rfl, hb⟩; refine ⟨_, rfl, ?_⟩; replace BK106 := Aside0.mk (blk_below (g := gb106) (o := .cells #[.int .i64 a0_0, .int .i64 a0_1, .int .i64 a0_2, .slice (some ad107) l0_3.length c0_3, .string a0_4, .string a0_5, .slice A0_6 l0_6.length c0_6, .slice A0_7 l0_7.length c0_7, .string a0_8, .slice A0_9 l0_9.length c0_9, .int .i64 a0_10, .int .i64 a0_11] 34 (0, 0)) m15_ hb); replace HB := Aside0.mk (below_step m5_ hb); (try clear hb); (try clear hb2); (try clear hk); (try clear hi)))
      go_ret
      exact ⟨by first | rfl | (simp [errW_none, errW_some] <;> rfl) | (simp [*, errW_none, errW_some] <;> rfl), m38_⟩
     subst c17
     have H1 : (frame_listsFit.l0 k2 l0_3 (l0_3.length : Int) (wrap64 (x36_2 + 1)) a0_0 a0_1 a0_2 l0_3 a0_4 a0_5 l0_6 l0_7 a0_8 l0_9 a0_10 a0_11) = some r := by rw [if_pos rfl] at H; exact H
     clear H
     have H := H1
     clear H1
     have H' := Aside0.mk H
     clear H
     have p107 : 0 ≤ (x36_2 : Int) := of_decide_eq_true m27_
     have q107 : x36_2 < (l0_3.length : Int) := of_decide_eq_true m27_
     obtain ⟨ad107, e107, hx107_0⟩ := Kd.at_string HR0_3.out x36_2 p107 q107
     cases e107
     replace hx107_0 := (HB.out.cell (World.block_lt_of_cell? w _ hx107_0)).trans hx107_0
     replace p107 := eq_true p107
     replace q107 := eq_true q107
     go_wp2_with (first | ((with_reducible refine gate_callee (f := 70) rfl ?_); refine goesL_ (some 41) rfl rfl Tryd.func70 (by kernel_rfl) rfl #[.string (rdOf ByteArray.empty l0_3 x36_2)] rfl m12_ ?_; (with_reducible refine (path_Good.calls (rdOf ByteArray.empty l0_3 x36_2) true _ A16.out).mono ?_); rintro e w18 ⟨rfl, hb⟩; refine ⟨_, rfl, ?_⟩; replace BK106 := Aside0.mk (blk_below (g := gb106) (o := .cells #[.int .i64 a0_0, .int .i64 a0_1, .int .i64 a0_2, .slice (some ad107) l0_3.length c0_3, .string a0_4, .string a0_5, .slice A0_6 l0_6.length c0_6, .slice A0_7 l0_7.length c0_7, .string a0_8, .slice A0_9 l0_9.length c0_9, .int .i64 a0_10, .int .i64 a0_11] 34 (0, 0)) m15_ hb); replace HB := Aside0.mk (below_step m5_ hb); (try clear hb); (try clear hb2); (try clear hk); (try clear hi)))
     go_roundg k2
     case measure => have := HJ1.out; have := HK2.out; omega
     case rel => exact ⟨(wrap64 (x36_2 + 1)), m28_, H', ⟨by have := HJ1.out; have := HK2.out; omega⟩, ⟨by (with_reducible repeat (first | refine blk_drewN ?_ _ | refine blk_drew ?_ | refine blk_alloc ?_ _)); exact BK106.out⟩, ⟨m38_⟩⟩
    rw [if_neg c13] at H
    have c13b0 : decide (x36_2 < (l0_3.length : Int)) = false := decide_eq_false c13
    clear c13
    have H' := Aside0.mk H
    clear H
    obtain ⟨hcz20_0, hcz20_1, hcz20_2, hcz20_3, hcz20_4, hcz20_5, hcz20_6, hcz20_7, hcz20_8, hcz20_9, hcz20_10, hcz20_11⟩ := bc12_ BK106.out
    obtain ⟨hfz20_0, hfz20_1, hfz20_2, hfz20_3, hfz20_4, hfz20_5, hfz20_6, hfz20_7, hfz20_8, hfz20_9, hfz20_10, hfz20_11⟩ := bf12_ BK106.out
    go_wp2
    go_loopg [47] k2 (fun kq v47 w' => ∃ (x47_3 : Int), v47 = .int .i64 x47_3 ∧ Aside0 (frame_listsFit.l1 kq l0_6 (l0_6.length : Int) x47_3 a0_0 a0_1 a0_2 l0_3 a0_4 a0_5 l0_6 l0_7 a0_8 l0_9 a0_10 a0_11 = some r) ∧ Aside0 (kq ≤ k2) ∧ Aside0 (w'.heap[gb106]? = some (.cells #[.int .i64 a0_0, .int .i64 a0_1, .int .i64 a0_2, (.slice A0_3 l0_3.length c0_3), .string a0_4, .string a0_5, (.slice A0_6 l0_6.length c0_6), (.slice A0_7 l0_7.length c0_7), .string a0_8, (.slice A0_9 l0_9.length c0_9), .int .i64 a0_10, .int .i64 a0_11] 34 (0, 0))) ∧ Aside0 (Below w.heap.size w w'))
    case atStart => exact ⟨(0), m28_, H', ⟨Nat.le_refl _⟩, ⟨by (with_reducible repeat (first | refine blk_drewN ?_ _ | refine blk_drew ?_ | refine blk_alloc ?_ _)); exact BK106.out⟩, ⟨m38_⟩⟩
    clear H'
    try clear c1; try clear p1; try clear q1; try clear hx1; try clear p2; try clear c3; try clear c4; try clear c4b0; try clear c4b1; try clear c6; try clear c6b0; try clear c6b1; try clear p6; try clear c7; try clear c8; try clear c8b0; try clear c8b1; try clear p10; try clear q10; try clear hx10; try clear c11; try clear c13; try clear c13b0; try clear c14; try clear c14b0; try clear c15; try clear c15b0; try clear c17; try clear hcz10_0; try clear hcz10_1; try clear hcz10_10; try clear hcz10_11; try clear hcz10_2; try clear hcz10_3; try clear hcz10_4; try clear hcz10_5; try clear hcz10_6; try clear hcz10_7; try clear hcz10_8; try clear hcz10_9; try clear hcz12_0; try clear hcz12_1; try clear hcz12_10; try clear hcz12_11; try clear hcz12_2; try clear hcz12_3; try clear hcz12_4; try clear hcz12_5; try clear hcz12_6; try clear hcz12_7; try clear hcz12_8; try clear hcz12_9; try clear hcz20_0; try clear hcz20_1; try clear hcz20_10; try clear hcz20_11; try clear hcz20_2; try clear hcz20_3; try clear hcz20_4; try clear hcz20_5; try clear hcz20_6; try clear hcz20_7; try clear hcz20_8; try clear hcz20_9; try clear hcz5_0; try clear hcz5_1; try clear hcz5_10; try clear hcz5_11; try clear hcz5_2; try clear hcz5_3; try clear hcz5_4; try clear hcz5_5; try clear hcz5_6; try clear hcz5_7; try clear hcz5_8; try clear hcz5_9; try clear hcz7_0; try clear hcz7_1; try clear hcz7_10; try clear hcz7_11; try clear hcz7_2; try clear hcz7_3; try clear hcz7_4; try clear hcz7_5; try clear hcz7_6; try clear hcz7_7; try clear hcz7_8; try clear hcz7_9; try clear hcz9_0; try clear hcz9_1; try clear hcz9_10; try clear hcz9_11; try clear hcz9_2; try clear hcz9_3; try clear hcz9_4; try clear hcz9_5; try clear hcz9_6; try clear hcz9_7; try clear hcz9_8; try clear hcz9_9; try clear hfz10_0; try clear hfz10_1; try clear hfz10_10; try clear hfz10_11; try clear hfz10_2; try clear hfz10_3; try clear hfz10_4; try clear hfz10_5; try clear hfz10_6; try clear hfz10_7; try clear hfz10_8; try clear hfz10_9; try clear hfz12_0; try clear hfz12_1; try clear hfz12_10; try clear hfz12_11; try clear hfz12_2; try clear hfz12_3; try clear hfz12_4; try clear hfz12_5; try clear hfz12_6; try clear hfz12_7; try clear hfz12_8; try clear hfz12_9; try clear hfz20_0; try clear hfz20_1; try clear hfz20_10; try clear hfz20_11; try clear hfz20_2; try clear hfz20_3; try clear hfz20_4; try clear hfz20_5; try clear hfz20_6; try clear hfz20_7; try clear hfz20_8; try clear hfz20_9; try clear hfz5_0; try clear hfz5_1; try clear hfz5_10; try clear hfz5_11; try clear hfz5_2; try clear hfz5_3; try clear hfz5_4; try clear hfz5_5; try clear hfz5_6; try clear hfz5_7; try clear hfz5_8; try clear hfz5_9; try clear hfz7_0; try clear hfz7_1; try clear hfz7_10; try clear hfz7_11; try clear hfz7_2; try clear hfz7_3; try clear hfz7_4; try clear hfz7_5; try clear hfz7_6; try clear hfz7_7; try clear hfz7_8; try clear hfz7_9; try clear hfz9_0; try clear hfz9_1; try clear hfz9_10; try clear hfz9_11; try clear hfz9_2; try clear hfz9_3; try clear hfz9_4; try clear hfz9_5; try clear hfz9_6; try clear hfz9_7; try clear hfz9_8; try clear hfz9_9; try clear hx107_0; try clear p107; try clear p2; try clear q107
    obtain ⟨x47_3, rfl, HA, HK3, BK106, HB⟩ := hrel
    cases gk with
    | zero => exact absurd HA.out (by simp [frame_listsFit.l1])
    | succ k3 =>
     have H := HA.out
     clear HA
     simp only [frame_listsFit.l1] at H
     by_cases c21 : x47_3 < (l0_6.length : Int)
     ·rw [if_pos c21] at H
      have c21b0 : decide (x47_3 < (l0_6.length : Int)) = true := decide_eq_true c21
      clear c21
      by_cases c22 : 0 ≤ x47_3
      case neg =>
       rw [if_neg c22] at H
       exact absurd H (by simp)
      rw [if_pos c22] at H
      have c22b0 : decide (0 ≤ x47_3) = true := decide_eq_true c22
      clear c22
      by_cases c23 : x47_3 < (l0_6.length : Int)
      case neg =>
       rw [if_neg c23] at H
       exact absurd H (by simp)
      rw [if_pos c23] at H
      have c23b0 : decide (x47_3 < (l0_6.length : Int)) = true := decide_eq_true c23
      clear c23
      by_cases c24 : (((rd_T65 l0_6 x47_3).f1).size : Int) = 16
      case neg =>
       rw [if_neg c24] at H
       have c24b0 : ((((rd_T65 l0_6 x47_3).f1).size : Int) == 16) = false := beq_eq_false_iff_ne.mpr c24
       have c24b1 : ((((rd_T65 l0_6 x47_3).f1).size : Int) != 16) = true := bne_iff_ne.mpr c24
       obtain rfl := Option.some.inj H
       have p109 : 0 ≤ (x47_3 : Int) := of_decide_eq_true m27_
       have q109 : x47_3 < (l0_6.length : Int) := of_decide_eq_true m27_
       obtain ⟨ad109, e109, hx109_0, hx109_1⟩ := at_T65 HR0_6.out x47_3 p109 q109
       cases e109
       replace hx109_0 := (HB.out.cell (World.block_lt_of_cell? w _ hx109_0)).trans hx109_0
       replace hx109_1 := (HB.out.cell (World.block_lt_of_cell? w _ hx109_1)).trans hx109_1
       replace p109 := eq_true p109
       replace q109 := eq_true q109
       go_wp2_with (first | ((with_reducible refine gate_dst (N := 6) rfl ?_); (try (refine gate_guard (by rfl) ?_; dsimp only)); refine box_event ?hg (N := 6) ?hd (cs := #[.int .u32 0, .string (⟨#[]⟩ : ByteArray)]) (t := 65) ?hr ?_; (case hd => rfl); (case hg => rfl); (case hr => first | (go_simp; done) | (go_simp; rfl)); intro gb110 hg w28 hbox hb; have n0_ := Aside0.mk (blk_below (g := gb106) (o := .cells #[.int .i64 a0_0, .int .i64 a0_1, .int .i64 a0_2, .slice A0_3 l0_3.length c0_3, .string a0_4, .string a0_5, .slice (some ad109) l0_6.length c0_6, .slice A0_7 l0_7.length c0_7, .string a0_8, .slice A0_9 l0_9.length c0_9, .int .i64 a0_10, .int .i64 a0_11] 34 (0, 0)) m15_ hb); have n1_ := Aside0.mk (below_step m5_ hb); have n2_ := Aside0.mk (hbox); have n3_ := Aside0.mk ((by rw [hg]; exact (below_size m5_) : w.heap.size ≤ gb110)); have n4_ := Aside0.mk ((by rw [hg]; exact (below_size m5_) : w.heap.size ≤ gb110)); have n5_ := Aside0.mk ((by rw [hg]; exact Nat.ne_of_lt (blk_lt (g := gb106) (o := .cells #[.int .i64 a0_0, .int .i64 a0_1, .int .i64 a0_2, .slice A0_3 l0_3.length c0_3, .string a0_4, .string a0_5, .slice (some ad109) l0_6.length c0_6, .slice A0_7 l0_7.length c0_7, .string a0_8, .slice A0_9 l0_9.length c0_9, .int .i64 a0_10, .int .i64 a0_11] 34 (0, 0)) m15_) : gb106 ≠ gb110)); have n6_ := Aside0.mk ((by rw [hg]; exact Nat.ne_of_gt (blk_lt (g := gb106) (o := .cells #[.int .i64 a0_0, .int .i64 a0_1, .int .i64 a0_2, .slice A0_3 l0_3.length c0_3, .string a0_4, .string a0_5, .slice (some ad109) l0_6.length c0_6, .slice A0_7 l0_7.length c0_7, .string a0_8, .slice A0_9 l0_9.length c0_9, .int .i64 a0_10, .int .i64 a0_11] 34 (0, 0)) m15_) : gb110 ≠ gb106)); clear BK106; clear HB; have BK106 := n0_; have HB := n1_; have BK110 := n2_; have GW110 := n3_; have GE110 := n4_; have NB106_110 := n5_; have NB110_106 := n6_; clear n0_ n1_ n2_ n3_ n4_ n5_ n6_; clear hb hbox hg; have hnb29 := NB110_106.out; have hnc29 := NB106_110.out; obtain ⟨hcz30_0, hcz30_1⟩ := bc2_ BK110.out; obtain ⟨hfz30_0, hfz30_1⟩ := bf2_ BK110.out))
       go_ret
       exact ⟨by first | rfl | (simp [errW_none, errW_some] <;> rfl) | (simp [*, errW_none, errW_some] <;> rfl), by repeat (first | (with_reducible first | exact HB.out | apply below_alloc | apply pw_below_drewN | apply below_drew1 | refine below_set ?_ GE106.out | refine below_set ?_ GE110.out) | exact HB.out)⟩
      rw [if_pos c24] at H
      have c24b0 : ((((rd_T65 l0_6 x47_3).f1).size : Int) == 16) = true := beq_iff_eq.mpr c24
      have c24b1 : ((((rd_T65 l0_6 x47_3).f1).size : Int) != 16) = false := bne_eq_false_iff_eq.mpr c24
      clear c24
      have H' := Aside0.mk H
      clear H
      have p109 : 0 ≤ (x47_3 : Int) := of_decide_eq_true m27_
      have q109 : x47_3 < (l0_6.length : Int) := of_decide_eq_true m27_
      obtain ⟨ad109, e109, hx109_0, hx109_1⟩ := at_T65 HR0_6.out x47_3 p109 q109
      cases e109
      replace hx109_0 := (HB.out.cell (World.block_lt_of_cell? w _ hx109_0)).trans hx109_0
      replace hx109_1 := (HB.out.cell (World.block_lt_of_cell? w _ hx109_1)).trans hx109_1
      replace p109 := eq_true p109
      replace q109 := eq_true q109
      go_wp2_with (first | ((with_reducible refine gate_dst (N := 6) rfl ?_); (try (refine gate_guard (by rfl) ?_; dsimp only)); refine box_event ?hg (N := 6) ?hd (cs := #[.int .u32 0, .string (⟨#[]⟩ : ByteArray)]) (t := 65) ?hr ?_; (case hd => rfl); (case hg => rfl); (case hr => first | (go_simp; done) | (go_simp; rfl)); intro gb110 hg w25 hbox hb; have n0_ := Aside0.mk (blk_below (g := gb106) (o := .cells #[.int .i64 a0_0, .int .i64 a0_1, .int .i64 a0_2, .slice A0_3 l0_3.length c0_3, .string a0_4, .string a0_5, .slice (some ad109) l0_6.length c0_6, .slice A0_7 l0_7.length c0_7, .string a0_8, .slice A0_9 l0_9.length c0_9, .int .i64 a0_10, .int .i64 a0_11] 34 (0, 0)) m15_ hb); have n1_ := Aside0.mk (below_step m5_ hb); have n2_ := Aside0.mk (hbox); have n3_ := Aside0.mk ((by rw [hg]; exact (below_size m5_) : w.heap.size ≤ gb110)); have n4_ := Aside0.mk ((by rw [hg]; exact (below_size m5_) : w.heap.size ≤ gb110)); have n5_ := Aside0.mk ((by rw [hg]; exact Nat.ne_of_lt (blk_lt (g := gb106) (o := .cells #[.int .i64 a0_0, .int .i64 a0_1, .int .i64 a0_2, .slice A0_3 l0_3.length c0_3, .string a0_4, .string a0_5, .slice (some ad109) l0_6.length c0_6, .slice A0_7 l0_7.length c0_7, .string a0_8, .slice A0_9 l0_9.length c0_9, .int .i64 a0_10, .int .i64 a0_11] 34 (0, 0)) m15_) : gb106 ≠ gb110)); have n6_ := Aside0.mk ((by rw [hg]; exact Nat.ne_of_gt (blk_lt (g := gb106) (o := .cells #[.int .i64 a0_0, .int .i64 a0_1, .int .i64 a0_2, .slice A0_3 l0_3.length c0_3, .string a0_4, .string a0_5, .slice (some ad109) l0_6.length c0_6, .slice A0_7 l0_7.length c0_7, .string a0_8, .slice A0_9 l0_9.length c0_9, .int .i64 a0_10, .int .i64 a0_11] 34 (0, 0)) m15_) : gb110 ≠ gb106)); clear BK106; clear HB; have BK106 := n0_; have HB := n1_; have BK110 := n2_; have GW110 := n3_; have GE110 := n4_; have NB106_110 := n5_; have NB110_106 := n6_; clear n0_ n1_ n2_ n3_ n4_ n5_ n6_; clear hb hbox hg; have hnb26 := NB110_106.out; have hnc26 := NB106_110.out; obtain ⟨hcz27_0, hcz27_1⟩ := bc2_ BK110.out; obtain ⟨hfz27_0, hfz27_1⟩ := bf2_ BK110.out))
      go_roundg k3
      case measure => have := HJ1.out; have := HK2.out; have := HK3.out; omega
      case rel => exact ⟨(wrap64 (x47_3 + 1)), m28_, H', ⟨by have := HJ1.out; have := HK2.out; have := HK3.out; omega⟩, ⟨by (with_reducible repeat (first | refine blk_drewN ?_ _ | refine blk_drew ?_ | refine blk_alloc ?_ _)); refine blk_far ?_ NB106_110.out _; (with_reducible repeat (first | refine blk_drewN ?_ _ | refine blk_drew ?_ | refine blk_alloc ?_ _)); refine blk_far ?_ NB106_110.out _; (with_reducible repeat (first | refine blk_drewN ?_ _ | refine blk_drew ?_ | refine blk_alloc ?_ _)); exact BK106.out⟩, ⟨by repeat (first | (with_reducible first | exact HB.out | apply below_alloc | apply pw_below_drewN | apply below_drew1 | refine below_set ?_ GE106.out | refine below_set ?_ GE110.out) | exact HB.out)⟩⟩
     rw [if_neg c21] at H
     have c21b0 : decide (x47_3 < (l0_6.length : Int)) = false := decide_eq_false c21
     clear c21
     have H' := Aside0.mk H
     clear H
     obtain ⟨hcz31_0, hcz31_1, hcz31_2, hcz31_3, hcz31_4, hcz31_5, hcz31_6, hcz31_7, hcz31_8, hcz31_9, hcz31_10, hcz31_11⟩ := bc12_ BK106.out
     obtain ⟨hfz31_0, hfz31_1, hfz31_2, hfz31_3, hfz31_4, hfz31_5, hfz31_6, hfz31_7, hfz31_8, hfz31_9, hfz31_10, hfz31_11⟩ := bf12_ BK106.out
     go_wp2
     go_loopg [59] k3 (fun kq v59 w' => ∃ (x59_4 : Int), v59 = .int .i64 x59_4 ∧ Aside0 (frame_listsFit.l2 kq l0_7 (l0_7.length : Int) x59_4 a0_0 a0_1 a0_2 l0_3 a0_4 a0_5 l0_6 l0_7 a0_8 l0_9 a0_10 a0_11 = some r) ∧ Aside0 (kq ≤ k3) ∧ Aside0 (w'.heap[gb106]? = some (.cells #[.int .i64 a0_0, .int .i64 a0_1, .int .i64 a0_2, (.slice A0_3 l0_3.length c0_3), .string a0_4, .string a0_5, (.slice A0_6 l0_6.length c0_6), (.slice A0_7 l0_7.length c0_7), .string a0_8, (.slice A0_9 l0_9.length c0_9), .int .i64 a0_10, .int .i64 a0_11] 34 (0, 0))) ∧ Aside0 (Below w.heap.size w w'))
     case atStart => exact ⟨(0), m28_, H', ⟨Nat.le_refl _⟩, ⟨by (with_reducible repeat (first | refine blk_drewN ?_ _ | refine blk_drew ?_ | refine blk_alloc ?_ _)); exact BK106.out⟩, ⟨m38_⟩⟩
     clear H'
     try clear c1; try clear p1; try clear q1; try clear hx1; try clear c2; try clear p2; try clear c3; try clear c4; try clear c4b0; try clear c4b1; try clear c6; try clear c6b0; try clear c6b1; try clear p6; try clear c7; try clear c8; try clear c8b0; try clear c8b1; try clear p10; try clear q10; try clear hx10; try clear c11; try clear c13; try clear c13b0; try clear c14; try clear c14b0; try clear c15; try clear c15b0; try clear c17; try clear c21; try clear c21b0; try clear c22; try clear c22b0; try clear c23; try clear c23b0; try clear c24; try clear c24b0; try clear c24b1; try clear c26; try clear c29; try clear hcz10_0; try clear hcz10_1; try clear hcz10_10; try clear hcz10_11; try clear hcz10_2; try clear hcz10_3; try clear hcz10_4; try clear hcz10_5; try clear hcz10_6; try clear hcz10_7; try clear hcz10_8; try clear hcz10_9; try clear hcz12_0; try clear hcz12_1; try clear hcz12_10; try clear hcz12_11; try clear hcz12_2; try clear hcz12_3; try clear hcz12_4; try clear hcz12_5; try clear hcz12_6; try clear hcz12_7; try clear hcz12_8; try clear hcz12_9; try clear hcz20_0; try clear hcz20_1; try clear hcz20_10; try clear hcz20_11; try clear hcz20_2; try clear hcz20_3; try clear hcz20_4; try clear hcz20_5; try clear hcz20_6; try clear hcz20_7; try clear hcz20_8; try clear hcz20_9; try clear hcz27_0; try clear hcz27_1; try clear hcz30_0; try clear hcz30_1; try clear hcz31_0; try clear hcz31_1; try clear hcz31_10; try clear hcz31_11; try clear hcz31_2; try clear hcz31_3; try clear hcz31_4; try clear hcz31_5; try clear hcz31_6; try clear hcz31_7; try clear hcz31_8; try clear hcz31_9; try clear hcz5_0; try clear hcz5_1; try clear hcz5_10; try clear hcz5_11; try clear hcz5_2; try clear hcz5_3; try clear hcz5_4; try clear hcz5_5; try clear hcz5_6; try clear hcz5_7; try clear hcz5_8; try clear hcz5_9; try clear hcz7_0; try clear hcz7_1; try clear hcz7_10; try clear hcz7_11; try clear hcz7_2; try clear hcz7_3; try clear hcz7_4; try clear hcz7_5; try clear hcz7_6; try clear hcz7_7; try clear hcz7_8; try clear hcz7_9; try clear hcz9_0; try clear hcz9_1; try clear hcz9_10; try clear hcz9_11; try clear hcz9_2; try clear hcz9_3; try clear hcz9_4; try clear hcz9_5; try clear hcz9_6; try clear hcz9_7; try clear hcz9_8; try clear hcz9_9; try clear hfz10_0; try clear hfz10_1; try clear hfz10_10; try clear hfz10_11; try clear hfz10_2; try clear hfz10_3; try clear hfz10_4; try clear hfz10_5; try clear hfz10_6; try clear hfz10_7; try clear hfz10_8; try clear hfz10_9; try clear hfz12_0; try clear hfz12_1; try clear hfz12_10; try clear hfz12_11; try clear hfz12_2; try clear hfz12_3; try clear hfz12_4; try clear hfz12_5; try clear hfz12_6; try clear hfz12_7; try clear hfz12_8; try clear hfz12_9; try clear hfz20_0; try clear hfz20_1; try clear hfz20_10; try clear hfz20_11; try clear hfz20_2; try clear hfz20_3; try clear hfz20_4; try clear hfz20_5; try clear hfz20_6; try clear hfz20_7; try clear hfz20_8; try clear hfz20_9; try clear hfz27_0; try clear hfz27_1; try clear hfz30_0; try clear hfz30_1; try clear hfz31_0; try clear hfz31_1; try clear hfz31_10; try clear hfz31_11; try clear hfz31_2; try clear hfz31_3; try clear hfz31_4; try clear hfz31_5; try clear hfz31_6; try clear hfz31_7; try clear hfz31_8; try clear hfz31_9; try clear hfz5_0; try clear hfz5_1; try clear hfz5_10; try clear hfz5_11; try clear hfz5_2; try clear hfz5_3; try clear hfz5_4; try clear hfz5_5; try clear hfz5_6; try clear hfz5_7; try clear hfz5_8; try clear hfz5_9; try clear hfz7_0; try clear hfz7_1; try clear hfz7_10; try clear hfz7_11; try clear hfz7_2; try clear hfz7_3; try clear hfz7_4; try clear hfz7_5; try clear hfz7_6; try clear hfz7_7; try clear hfz7_8; try clear hfz7_9; try clear hfz9_0; try clear hfz9_1; try clear hfz9_10; try clear hfz9_11; try clear hfz9_2; try clear hfz9_3; try clear hfz9_4; try clear hfz9_5; try clear hfz9_6; try clear hfz9_7; try clear hfz9_8; try clear hfz9_9; try clear hx107_0; try clear hx109_0; try clear hx109_1; try clear p1; try clear p10; try clear p107; try clear p109; try clear p2; try clear p6; try clear q1; try clear q10; try clear q107; try clear q109
     obtain ⟨x59_4, rfl, HA, HK4, BK106, HB⟩ := hrel
     cases gk with
     | zero => exact absurd HA.out (by simp [frame_listsFit.l2])
     | succ k4 =>
      have H := HA.out
      clear HA
      simp only [frame_listsFit.l2] at H
      by_cases c32 : x59_4 < (l0_7.length : Int)
      ·rw [if_pos c32] at H
       have c32b0 : decide (x59_4 < (l0_7.length : Int)) = true := decide_eq_true c32
       clear c32
       by_cases c33 : 0 ≤ x59_4
       case neg =>
        rw [if_neg c33] at H
        exact absurd H (by simp)
       rw [if_pos c33] at H
       have c33b0 : decide (0 ≤ x59_4) = true := decide_eq_true c33
       clear c33
       by_cases c34 : x59_4 < (l0_7.length : Int)
       case neg =>
        rw [if_neg c34] at H
        exact absurd H (by simp)
       rw [if_pos c34] at H
       have c34b0 : decide (x59_4 < (l0_7.length : Int)) = true := decide_eq_true c34
       clear c34
       replace H := Option.bind_eq_some_iff.mp H
       obtain ⟨t113, A350, H⟩ := H
       replace H : (if t113 = true then ((frame_within.f ((rd_T74 l0_7 x59_4).f1) 0 128).bind fun t114 => (if t114 = true then (frame_listsFit.l2 k4 l0_7 (l0_7.length : Int) (wrap64 (x59_4 + 1)) a0_0 a0_1 a0_2 l0_3 a0_4 a0_5 l0_6 l0_7 a0_8 l0_9 a0_10 a0_11) else (some false))) else (some false)) = some r := H
       have A35 := Aside0.mk A350
       clear A350
       by_cases c36 : t113 = true
       case neg =>
        replace c36 := Bool.eq_false_iff.mpr c36
        subst c36
        have H1 : (some false) = some r := by rw [if_neg (show ¬ (false = true) by decide)] at H; exact H
        clear H
        have H := H1
        clear H1
        obtain rfl := Option.some.inj H
        have p111 : 0 ≤ (x59_4 : Int) := of_decide_eq_true m27_
        have q111 : x59_4 < (l0_7.length : Int) := of_decide_eq_true m27_
        obtain ⟨ad111, e111, hx111_0, hx111_1⟩ := at_T74 HR0_7.out x59_4 p111 q111
        cases e111
        replace hx111_0 := (HB.out.cell (World.block_lt_of_cell? w _ hx111_0)).trans hx111_0
        replace hx111_1 := (HB.out.cell (World.block_lt_of_cell? w _ hx111_1)).trans hx111_1
        replace p111 := eq_true p111
        replace q111 := eq_true q111
        go_wp2_with (first | ((with_reducible refine gate_dst (N := 8) rfl ?_); (try (refine gate_guard (by rfl) ?_; dsimp only)); refine box_event ?hg (N := 8) ?hd (cs := #[.int .i64 0, .int .i64 0]) (t := 74) ?hr ?_; (case hd => rfl); (case hg => rfl); (case hr => first | (go_simp; done) | (go_simp; rfl)); intro gb112 hg w45 hbox hb; have n0_ := Aside0.mk (blk_below (g := gb106) (o := .cells #[.int .i64 a0_0, .int .i64 a0_1, .int .i64 a0_2, .slice A0_3 l0_3.length c0_3, .string a0_4, .string a0_5, .slice A0_6 l0_6.length c0_6, .slice (some ad111) l0_7.length c0_7, .string a0_8, .slice A0_9 l0_9.length c0_9, .int .i64 a0_10, .int .i64 a0_11] 34 (0, 0)) m15_ hb); have n1_ := Aside0.mk (below_step m5_ hb); have n2_ := Aside0.mk (hbox); have n3_ := Aside0.mk ((by rw [hg]; exact (below_size m5_) : w.heap.size ≤ gb112)); have n4_ := Aside0.mk ((by rw [hg]; exact (below_size m5_) : w.heap.size ≤ gb112)); have n5_ := Aside0.mk ((by rw [hg]; exact Nat.ne_of_lt (blk_lt (g := gb106) (o := .cells #[.int .i64 a0_0, .int .i64 a0_1, .int .i64 a0_2, .slice A0_3 l0_3.length c0_3, .string a0_4, .string a0_5, .slice A0_6 l0_6.length c0_6, .slice (some ad111) l0_7.length c0_7, .string a0_8, .slice A0_9 l0_9.length c0_9, .int .i64 a0_10, .int .i64 a0_11] 34 (0, 0)) m15_) : gb106 ≠ gb112)); have n6_ := Aside0.mk ((by rw [hg]; exact Nat.ne_of_gt (blk_lt (g := gb106) (o := .cells #[.int .i64 a0_0, .int .i64 a0_1, .int .i64 a0_2, .slice A0_3 l0_3.length c0_3, .string a0_4, .string a0_5, .slice A0_6 l0_6.length c0_6, .slice (some ad111) l0_7.length c0_7, .string a0_8, .slice A0_9 l0_9.length c0_9, .int .i64 a0_10, .int .i64 a0_11] 34 (0, 0)) m15_) : gb112 ≠ gb106)); clear BK106; clear HB; have BK106 := n0_; have HB := n1_; have BK112 := n2_; have GW112 := n3_; have GE112 := n4_; have NB106_112 := n5_; have NB112_106 := n6_; clear n0_ n1_ n2_ n3_ n4_ n5_ n6_; clear hb hbox hg; have hnb46 := NB112_106.out; have hnc46 := NB106_112.out; obtain ⟨hcz47_0, hcz47_1⟩ := bc2_ BK112.out; obtain ⟨hfz47_0, hfz47_1⟩ := bf2_ BK112.out) | ((with_reducible refine gate_callee (f := 36) rfl ?_); refine goesL_ (some 65) rfl rfl Tryd.func36 (by kernel_rfl) rfl #[.int .i64 ((rd_T74 l0_7 x59_4).f0), .int .i64 0, .int .i64 128] rfl m12_ ?_; (with_reducible refine (frame_within.calls ((rd_T74 l0_7 x59_4).f0) 0 128 false _ A35.out).mono ?_); rintro e w' ⟨rfl, ⟨nd, rfl⟩⟩; refine ⟨_, rfl, ?_⟩))
        go_ret
        exact ⟨by first | rfl | (simp [errW_none, errW_some] <;> rfl) | (simp [*, errW_none, errW_some] <;> rfl), m30_⟩
       subst c36
       have H1 : ((frame_within.f ((rd_T74 l0_7 x59_4).f1) 0 128).bind fun t114 => (if t114 = true then (frame_listsFit.l2 k4 l0_7 (l0_7.length : Int) (wrap64 (x59_4 + 1)) a0_0 a0_1 a0_2 l0_3 a0_4 a0_5 l0_6 l0_7 a0_8 l0_9 a0_10 a0_11) else (some false))) = some r := by rw [if_pos rfl] at H; exact H
       clear H
       have H := H1
       clear H1
       replace H := Option.bind_eq_some_iff.mp H
       obtain ⟨t114, A370, H⟩ := H
       replace H : (if t114 = true then (frame_listsFit.l2 k4 l0_7 (l0_7.length : Int) (wrap64 (x59_4 + 1)) a0_0 a0_1 a0_2 l0_3 a0_4 a0_5 l0_6 l0_7 a0_8 l0_9 a0_10 a0_11) else (some false)) = some r := H
       have A37 := Aside0.mk A370
       clear A370
       by_cases c38 : t114 = true
       case neg =>
        replace c38 := Bool.eq_false_iff.mpr c38
        subst c38
        have H1 : (some false) = some r := by rw [if_neg (show ¬ (false = true) by decide)] at H; exact H
        clear H
        have H := H1
        clear H1
        obtain rfl := Option.some.inj H
        have p111 : 0 ≤ (x59_4 : Int) := of_decide_eq_true m27_
        have q111 : x59_4 < (l0_7.length : Int) := of_decide_eq_true m27_
        obtain ⟨ad111, e111, hx111_0, hx111_1⟩ := at_T74 HR0_7.out x59_4 p111 q111
        cases e111
        replace hx111_0 := (HB.out.cell (World.block_lt_of_cell? w _ hx111_0)).trans hx111_0
        replace hx111_1 := (HB.out.cell (World.block_lt_of_cell? w _ hx111_1)).trans hx111_1
        replace p111 := eq_true p111
        replace q111 := eq_true q111
        go_wp2_with (first | ((with_reducible refine gate_dst (N := 8) rfl ?_); (try (refine gate_guard (by rfl) ?_; dsimp only)); refine box_event ?hg (N := 8) ?hd (cs := #[.int .i64 0, .int .i64 0]) (t := 74) ?hr ?_; (case hd => rfl); (case hg => rfl); (case hr => first | (go_simp; done) | (go_simp; rfl)); intro gb112 hg w42 hbox hb; have n0_ := Aside0.mk (blk_below (g := gb106) (o := .cells #[.int .i64 a0_0, .int .i64 a0_1, .int .i64 a0_2, .slice A0_3 l0_3.length c0_3, .string a0_4, .string a0_5, .slice A0_6 l0_6.length c0_6, .slice (some ad111) l0_7.length c0_7, .string a0_8, .slice A0_9 l0_9.length c0_9, .int .i64 a0_10, .int .i64 a0_11] 34 (0, 0)) m15_ hb); have n1_ := Aside0.mk (below_step m5_ hb); have n2_ := Aside0.mk (hbox); have n3_ := Aside0.mk ((by rw [hg]; exact (below_size m5_) : w.heap.size ≤ gb112)); have n4_ := Aside0.mk ((by rw [hg]; exact (below_size m5_) : w.heap.size ≤ gb112)); have n5_ := Aside0.mk ((by rw [hg]; exact Nat.ne_of_lt (blk_lt (g := gb106) (o := .cells #[.int .i64 a0_0, .int .i64 a0_1, .int .i64 a0_2, .slice A0_3 l0_3.length c0_3, .string a0_4, .string a0_5, .slice A0_6 l0_6.length c0_6, .slice (some ad111) l0_7.length c0_7, .string a0_8, .slice A0_9 l0_9.length c0_9, .int .i64 a0_10, .int .i64 a0_11] 34 (0, 0)) m15_) : gb106 ≠ gb112)); have n6_ := Aside0.mk ((by rw [hg]; exact Nat.ne_of_gt (blk_lt (g := gb106) (o := .cells #[.int .i64 a0_0, .int .i64 a0_1, .int .i64 a0_2, .slice A0_3 l0_3.length c0_3, .string a0_4, .string a0_5, .slice A0_6 l0_6.length c0_6, .slice (some ad111) l0_7.length c0_7, .string a0_8, .slice A0_9 l0_9.length c0_9, .int .i64 a0_10, .int .i64 a0_11] 34 (0, 0)) m15_) : gb112 ≠ gb106)); clear BK106; clear HB; have BK106 := n0_; have HB := n1_; have BK112 := n2_; have GW112 := n3_; have GE112 := n4_; have NB106_112 := n5_; have NB112_106 := n6_; clear n0_ n1_ n2_ n3_ n4_ n5_ n6_; clear hb hbox hg; have hnb43 := NB112_106.out; have hnc43 := NB106_112.out; obtain ⟨hcz44_0, hcz44_1⟩ := bc2_ BK112.out; obtain ⟨hfz44_0, hfz44_1⟩ := bf2_ BK112.out) | ((with_reducible refine gate_callee (f := 36) rfl ?_); refine goesL_ (some 65) rfl rfl Tryd.func36 (by kernel_rfl) rfl #[.int .i64 ((rd_T74 l0_7 x59_4).f0), .int .i64 0, .int .i64 128] rfl m12_ ?_; (with_reducible refine (frame_within.calls ((rd_T74 l0_7 x59_4).f0) 0 128 true _ A35.out).mono ?_); rintro e w' ⟨rfl, ⟨nd, rfl⟩⟩; refine ⟨_, rfl, ?_⟩) | (go_at_call 36; (with_reducible refine (frame_within.calls ((rd_T74 l0_7 x59_4).f1) 0 128 false _ A37.out).mono ?_); rintro e w' ⟨rfl, ⟨nd, rfl⟩⟩))
        go_ret
        exact ⟨by first | rfl | (simp [errW_none, errW_some] <;> rfl) | (simp [*, errW_none, errW_some] <;> rfl), m30_⟩
       subst c38
       have H1 : (frame_listsFit.l2 k4 l0_7 (l0_7.length : Int) (wrap64 (x59_4 + 1)) a0_0 a0_1 a0_2 l0_3 a0_4 a0_5 l0_6 l0_7 a0_8 l0_9 a0_10 a0_11) = some r := by rw [if_pos rfl] at H; exact H
       clear H
       have H := H1
       clear H1
       have H' := Aside0.mk H
       clear H
       have p111 : 0 ≤ (x59_4 : Int) := of_decide_eq_true m27_
       have q111 : x59_4 < (l0_7.length : Int) := of_decide_eq_true m27_
       obtain ⟨ad111, e111, hx111_0, hx111_1⟩ := at_T74 HR0_7.out x59_4 p111 q111
       cases e111
       replace hx111_0 := (HB.out.cell (World.block_lt_of_cell? w _ hx111_0)).trans hx111_0
       replace hx111_1 := (HB.out.cell (World.block_lt_of_cell? w _ hx111_1)).trans hx111_1
       replace p111 := eq_true p111
       replace q111 := eq_true q111
       go_wp2_with (first | ((with_reducible refine gate_dst (N := 8) rfl ?_); (try (refine gate_guard (by rfl) ?_; dsimp only)); refine box_event ?hg (N := 8) ?hd (cs := #[.int .i64 0, .int .i64 0]) (t := 74) ?hr ?_; (case hd => rfl); (case hg => rfl); (case hr => first | (go_simp; done) | (go_simp; rfl)); intro gb112 hg w39 hbox hb; have n0_ := Aside0.mk (blk_below (g := gb106) (o := .cells #[.int .i64 a0_0, .int .i64 a0_1, .int .i64 a0_2, .slice A0_3 l0_3.length c0_3, .string a0_4, .string a0_5, .slice A0_6 l0_6.length c0_6, .slice (some ad111) l0_7.length c0_7, .string a0_8, .slice A0_9 l0_9.length c0_9, .int .i64 a0_10, .int .i64 a0_11] 34 (0, 0)) m15_ hb); have n1_ := Aside0.mk (below_step m5_ hb); have n2_ := Aside0.mk (hbox); have n3_ := Aside0.mk ((by rw [hg]; exact (below_size m5_) : w.heap.size ≤ gb112)); have n4_ := Aside0.mk ((by rw [hg]; exact (below_size m5_) : w.heap.size ≤ gb112)); have n5_ := Aside0.mk ((by rw [hg]; exact Nat.ne_of_lt (blk_lt (g := gb106) (o := .cells #[.int .i64 a0_0, .int .i64 a0_1, .int .i64 a0_2, .slice A0_3 l0_3.length c0_3, .string a0_4, .string a0_5, .slice A0_6 l0_6.length c0_6, .slice (some ad111) l0_7.length c0_7, .string a0_8, .slice A0_9 l0_9.length c0_9, .int .i64 a0_10, .int .i64 a0_11] 34 (0, 0)) m15_) : gb106 ≠ gb112)); have n6_ := Aside0.mk ((by rw [hg]; exact Nat.ne_of_gt (blk_lt (g := gb106) (o := .cells #[.int .i64 a0_0, .int .i64 a0_1, .int .i64 a0_2, .slice A0_3 l0_3.length c0_3, .string a0_4, .string a0_5, .slice A0_6 l0_6.length c0_6, .slice (some ad111) l0_7.length c0_7, .string a0_8, .slice A0_9 l0_9.length c0_9, .int .i64 a0_10, .int .i64 a0_11] 34 (0, 0)) m15_) : gb112 ≠ gb106)); clear BK106; clear HB; have BK106 := n0_; have HB := n1_; have BK112 := n2_; have GW112 := n3_; have GE112 := n4_; have NB106_112 := n5_; have NB112_106 := n6_; clear n0_ n1_ n2_ n3_ n4_ n5_ n6_; clear hb hbox hg; have hnb40 := NB112_106.out; have hnc40 := NB106_112.out; obtain ⟨hcz41_0, hcz41_1⟩ := bc2_ BK112.out; obtain ⟨hfz41_0, hfz41_1⟩ := bf2_ BK112.out) | ((with_reducible refine gate_callee (f := 36) rfl ?_); refine goesL_ (some 65) rfl rfl Tryd.func36 (by kernel_rfl) rfl #[.int .i64 ((rd_T74 l0_7 x59_4).f0), .int .i64 0, .int .i64 128] rfl m12_ ?_; (with_reducible refine (frame_within.calls ((rd_T74 l0_7 x59_4).f0) 0 128 true _ A35.out).mono ?_); rintro e w' ⟨rfl, ⟨nd, rfl⟩⟩; refine ⟨_, rfl, ?_⟩) | (go_at_call 36; (with_reducible refine (frame_within.calls ((rd_T74 l0_7 x59_4).f1) 0 128 true _ A37.out).mono ?_); rintro e w' ⟨rfl, ⟨nd, rfl⟩⟩))
       go_roundg k4
       case measure => have := HJ1.out; have := HK2.out; have := HK3.out; have := HK4.out; omega
       case rel => exact ⟨(wrap64 (x59_4 + 1)), m28_, H', ⟨by have := HJ1.out; have := HK2.out; have := HK3.out; have := HK4.out; omega⟩, ⟨by (with_reducible repeat (first | refine blk_drewN ?_ _ | refine blk_drew ?_ | refine blk_alloc ?_ _)); refine blk_far ?_ NB106_112.out _; (with_reducible repeat (first | refine blk_drewN ?_ _ | refine blk_drew ?_ | refine blk_alloc ?_ _)); refine blk_far ?_ NB106_112.out _; (with_reducible repeat (first | refine blk_drewN ?_ _ | refine blk_drew ?_ | refine blk_alloc ?_ _)); exact BK106.out⟩, ⟨m30_⟩⟩
      rw [if_neg c32] at H
      have c32b0 : decide (x59_4 < (l0_7.length : Int)) = false := decide_eq_false c32
      clear c32
      have H' := Aside0.mk H
      clear H
      obtain ⟨hcz48_0, hcz48_1, hcz48_2, hcz48_3, hcz48_4, hcz48_5, hcz48_6, hcz48_7, hcz48_8, hcz48_9, hcz48_10, hcz48_11⟩ := bc12_ BK106.out
      obtain ⟨hfz48_0, hfz48_1, hfz48_2, hfz48_3, hfz48_4, hfz48_5, hfz48_6, hfz48_7, hfz48_8, hfz48_9, hfz48_10, hfz48_11⟩ := bf12_ BK106.out
      go_wp2
      go_loopg [77] k4 (fun kq v77 w' => ∃ (x77_5 : Int), v77 = .int .i64 x77_5 ∧ Aside0 (frame_listsFit.l3 kq l0_9 (l0_9.length : Int) x77_5 = some r) ∧ Aside0 (kq ≤ k4) ∧ Aside0 (w'.heap[gb106]? = some (.cells #[.int .i64 a0_0, .int .i64 a0_1, .int .i64 a0_2, (.slice A0_3 l0_3.length c0_3), .string a0_4, .string a0_5, (.slice A0_6 l0_6.length c0_6), (.slice A0_7 l0_7.length c0_7), .string a0_8, (.slice A0_9 l0_9.length c0_9), .int .i64 a0_10, .int .i64 a0_11] 34 (0, 0))) ∧ Aside0 (Below w.heap.size w w'))
      case atStart => exact ⟨(0), m28_, H', ⟨Nat.le_refl _⟩, ⟨by (with_reducible repeat (first | refine blk_drewN ?_ _ | refine blk_drew ?_ | refine blk_alloc ?_ _)); exact BK106.out⟩, ⟨m38_⟩⟩
      clear H'
      try clear c1; try clear p1; try clear q1; try clear hx1; try clear c2; try clear p2; try clear c3; try clear c4; try clear c4b0; try clear c4b1; try clear c6; try clear c6b0; try clear c6b1; try clear p6; try clear c7; try clear c8; try clear c8b0; try clear c8b1; try clear p10; try clear q10; try clear hx10; try clear c11; try clear p11; try clear q11; try clear hx11; try clear c13; try clear c13b0; try clear c14; try clear c14b0; try clear c15; try clear c15b0; try clear c17; try clear c21; try clear c21b0; try clear c22; try clear c22b0; try clear c23; try clear c23b0; try clear c24; try clear c24b0; try clear c24b1; try clear c26; try clear c29; try clear c32; try clear c32b0; try clear c33; try clear c33b0; try clear c34; try clear c34b0; try clear c36; try clear c38; try clear c40; try clear c43; try clear c46; try clear hcz10_0; try clear hcz10_1; try clear hcz10_10; try clear hcz10_11; try clear hcz10_2; try clear hcz10_3; try clear hcz10_4; try clear hcz10_5; try clear hcz10_6; try clear hcz10_7; try clear hcz10_8; try clear hcz10_9; try clear hcz12_0; try clear hcz12_1; try clear hcz12_10; try clear hcz12_11; try clear hcz12_2; try clear hcz12_3; try clear hcz12_4; try clear hcz12_5; try clear hcz12_6; try clear hcz12_7; try clear hcz12_8; try clear hcz12_9; try clear hcz20_0; try clear hcz20_1; try clear hcz20_10; try clear hcz20_11; try clear hcz20_2; try clear hcz20_3; try clear hcz20_4; try clear hcz20_5; try clear hcz20_6; try clear hcz20_7; try clear hcz20_8; try clear hcz20_9; try clear hcz27_0; try clear hcz27_1; try clear hcz30_0; try clear hcz30_1; try clear hcz31_0; try clear hcz31_1; try clear hcz31_10; try clear hcz31_11; try clear hcz31_2; try clear hcz31_3; try clear hcz31_4; try clear hcz31_5; try clear hcz31_6; try clear hcz31_7; try clear hcz31_8; try clear hcz31_9; try clear hcz41_0; try clear hcz41_1; try clear hcz44_0; try clear hcz44_1; try clear hcz47_0; try clear hcz47_1; try clear hcz48_0; try clear hcz48_1; try clear hcz48_10; try clear hcz48_11; try clear hcz48_2; try clear hcz48_3; try clear hcz48_4; try clear hcz48_5; try clear hcz48_6; try clear hcz48_7; try clear hcz48_8; try clear hcz48_9; try clear hcz5_0; try clear hcz5_1; try clear hcz5_10; try clear hcz5_11; try clear hcz5_2; try clear hcz5_3; try clear hcz5_4; try clear hcz5_5; try clear hcz5_6; try clear hcz5_7; try clear hcz5_8; try clear hcz5_9; try clear hcz7_0; try clear hcz7_1; try clear hcz7_10; try clear hcz7_11; try clear hcz7_2; try clear hcz7_3; try clear hcz7_4; try clear hcz7_5; try clear hcz7_6; try clear hcz7_7; try clear hcz7_8; try clear hcz7_9; try clear hcz9_0; try clear hcz9_1; try clear hcz9_10; try clear hcz9_11; try clear hcz9_2; try clear hcz9_3; try clear hcz9_4; try clear hcz9_5; try clear hcz9_6; try clear hcz9_7; try clear hcz9_8; try clear hcz9_9; try clear hfz10_0; try clear hfz10_1; try clear hfz10_10; try clear hfz10_11; try clear hfz10_2; try clear hfz10_3; try clear hfz10_4; try clear hfz10_5; try clear hfz10_6; try clear hfz10_7; try clear hfz10_8; try clear hfz10_9; try clear hfz12_0; try clear hfz12_1; try clear hfz12_10; try clear hfz12_11; try clear hfz12_2; try clear hfz12_3; try clear hfz12_4; try clear hfz12_5; try clear hfz12_6; try clear hfz12_7; try clear hfz12_8; try clear hfz12_9; try clear hfz20_0; try clear hfz20_1; try clear hfz20_10; try clear hfz20_11; try clear hfz20_2; try clear hfz20_3; try clear hfz20_4; try clear hfz20_5; try clear hfz20_6; try clear hfz20_7; try clear hfz20_8; try clear hfz20_9; try clear hfz27_0; try clear hfz27_1; try clear hfz30_0; try clear hfz30_1; try clear hfz31_0; try clear hfz31_1; try clear hfz31_10; try clear hfz31_11; try clear hfz31_2; try clear hfz31_3; try clear hfz31_4; try clear hfz31_5; try clear hfz31_6; try clear hfz31_7; try clear hfz31_8; try clear hfz31_9; try clear hfz41_0; try clear hfz41_1; try clear hfz44_0; try clear hfz44_1; try clear hfz47_0; try clear hfz47_1; try clear hfz48_0; try clear hfz48_1; try clear hfz48_10; try clear hfz48_11; try clear hfz48_2; try clear hfz48_3; try clear hfz48_4; try clear hfz48_5; try clear hfz48_6; try clear hfz48_7; try clear hfz48_8; try clear hfz48_9; try clear hfz5_0; try clear hfz5_1; try clear hfz5_10; try clear hfz5_11; try clear hfz5_2; try clear hfz5_3; try clear hfz5_4; try clear hfz5_5; try clear hfz5_6; try clear hfz5_7; try clear hfz5_8; try clear hfz5_9; try clear hfz7_0; try clear hfz7_1; try clear hfz7_10; try clear hfz7_11; try clear hfz7_2; try clear hfz7_3; try clear hfz7_4; try clear hfz7_5; try clear hfz7_6; try clear hfz7_7; try clear hfz7_8; try clear hfz7_9; try clear hfz9_0; try clear hfz9_1; try clear hfz9_10; try clear hfz9_11; try clear hfz9_2; try clear hfz9_3; try clear hfz9_4; try clear hfz9_5; try clear hfz9_6; try clear hfz9_7; try clear hfz9_8; try clear hfz9_9; try clear hx107_0; try clear hx109_0; try clear hx109_1; try clear hx111_0; try clear hx111_1; try clear p1; try clear p10; try clear p107; try clear p109; try clear p111; try clear p2; try clear p6; try clear q1; try clear q10; try clear q107; try clear q109; try clear q111
      obtain ⟨x77_5, rfl, HA, HK5, BK106, HB⟩ := hrel
      cases gk with
      | zero => exact absurd HA.out (by simp [frame_listsFit.l3])
      | succ k5 =>
       have H := HA.out
       clear HA
       simp only [frame_listsFit.l3] at H
       by_cases c49 : x77_5 < (l0_9.length : Int)
       case neg =>
        rw [if_neg c49] at H
        have c49b0 : decide (x77_5 < (l0_9.length : Int)) = false := decide_eq_false c49
        clear c49
        obtain rfl := Option.some.inj H
        go_wp2
        go_ret
        exact ⟨by first | rfl | (simp [errW_none, errW_some] <;> rfl) | (simp [*, errW_none, errW_some] <;> rfl), m38_⟩
       rw [if_pos c49] at H
       have c49b0 : decide (x77_5 < (l0_9.length : Int)) = true := decide_eq_true c49
       clear c49
       by_cases c50 : 0 ≤ x77_5
       case neg =>
        rw [if_neg c50] at H
        exact absurd H (by simp)
       rw [if_pos c50] at H
       have c50b0 : decide (0 ≤ x77_5) = true := decide_eq_true c50
       clear c50
       by_cases c51 : x77_5 < (l0_9.length : Int)
       case neg =>
        rw [if_neg c51] at H
        exact absurd H (by simp)
       rw [if_pos c51] at H
       have c51b0 : decide (x77_5 < (l0_9.length : Int)) = true := decide_eq_true c51
       clear c51
       replace H := Option.bind_eq_some_iff.mp H
       obtain ⟨t117, A520, H⟩ := H
       replace H : (if t117 = true then (frame_listsFit.l3 k5 l0_9 (l0_9.length : Int) (wrap64 (x77_5 + 1))) else (some false)) = some r := H
       have A52 := Aside0.mk A520
       clear A520
       by_cases c53 : t117 = true
       case neg =>
        replace c53 := Bool.eq_false_iff.mpr c53
        subst c53
        have H1 : (some false) = some r := by rw [if_neg (show ¬ (false = true) by decide)] at H; exact H
        clear H
        have H := H1
        clear H1
        obtain rfl := Option.some.inj H
        have p115 : 0 ≤ (x77_5 : Int) := of_decide_eq_true m27_
        have q115 : x77_5 < (l0_9.length : Int) := of_decide_eq_true m27_
        obtain ⟨ad115, e115, hx115_0, hx115_1, hx115_2, hx115_3, hx115_4⟩ := at_T67 HR0_9.out x77_5 p115 q115
        cases e115
        replace hx115_0 := (HB.out.cell (World.block_lt_of_cell? w _ hx115_0)).trans hx115_0
        replace hx115_1 := (HB.out.cell (World.block_lt_of_cell? w _ hx115_1)).trans hx115_1
        replace hx115_2 := (HB.out.cell (World.block_lt_of_cell? w _ hx115_2)).trans hx115_2
        replace hx115_3 := (HB.out.cell (World.block_lt_of_cell? w _ hx115_3)).trans hx115_3
        replace hx115_4 := (HB.out.cell (World.block_lt_of_cell? w _ hx115_4)).trans hx115_4
        replace p115 := eq_true p115
        replace q115 := eq_true q115
        go_wp2_with (first | ((with_reducible refine gate_dst (N := 10) rfl ?_); (try (refine gate_guard (by rfl) ?_; dsimp only)); refine box_event ?hg (N := 10) ?hd (cs := #[.int .i64 0, .int .i64 0, .int .i64 0, .string (⟨#[]⟩ : ByteArray), .int .i64 0]) (t := 67) ?hr ?_; (case hd => rfl); (case hg => rfl); (case hr => first | (go_simp; done) | (go_simp; rfl)); intro gb116 hg w58 hbox hb; have n0_ := Aside0.mk (blk_below (g := gb106) (o := .cells #[.int .i64 a0_0, .int .i64 a0_1, .int .i64 a0_2, .slice A0_3 l0_3.length c0_3, .string a0_4, .string a0_5, .slice A0_6 l0_6.length c0_6, .slice A0_7 l0_7.length c0_7, .string a0_8, .slice (some ad115) l0_9.length c0_9, .int .i64 a0_10, .int .i64 a0_11] 34 (0, 0)) m15_ hb); have n1_ := Aside0.mk (below_step m5_ hb); have n2_ := Aside0.mk (hbox); have n3_ := Aside0.mk ((by rw [hg]; exact (below_size m5_) : w.heap.size ≤ gb116)); have n4_ := Aside0.mk ((by rw [hg]; exact (below_size m5_) : w.heap.size ≤ gb116)); have n5_ := Aside0.mk ((by rw [hg]; exact Nat.ne_of_lt (blk_lt (g := gb106) (o := .cells #[.int .i64 a0_0, .int .i64 a0_1, .int .i64 a0_2, .slice A0_3 l0_3.length c0_3, .string a0_4, .string a0_5, .slice A0_6 l0_6.length c0_6, .slice A0_7 l0_7.length c0_7, .string a0_8, .slice (some ad115) l0_9.length c0_9, .int .i64 a0_10, .int .i64 a0_11] 34 (0, 0)) m15_) : gb106 ≠ gb116)); have n6_ := Aside0.mk ((by rw [hg]; exact Nat.ne_of_gt (blk_lt (g := gb106) (o := .cells #[.int .i64 a0_0, .int .i64 a0_1, .int .i64 a0_2, .slice A0_3 l0_3.length c0_3, .string a0_4, .string a0_5, .slice A0_6 l0_6.length c0_6, .slice A0_7 l0_7.length c0_7, .string a0_8, .slice (some ad115) l0_9.length c0_9, .int .i64 a0_10, .int .i64 a0_11] 34 (0, 0)) m15_) : gb116 ≠ gb106)); clear BK106; clear HB; have BK106 := n0_; have HB := n1_; have BK116 := n2_; have GW116 := n3_; have GE116 := n4_; have NB106_116 := n5_; have NB116_106 := n6_; clear n0_ n1_ n2_ n3_ n4_ n5_ n6_; clear hb hbox hg; have hnb59 := NB116_106.out; have hnc59 := NB106_116.out; obtain ⟨hcz60_0, hcz60_1, hcz60_2, hcz60_3, hcz60_4⟩ := bc5_ BK116.out; obtain ⟨hfz60_0, hfz60_1, hfz60_2, hfz60_3, hfz60_4⟩ := bf5_ BK116.out) | ((with_reducible refine gate_callee (f := 71) rfl ?_); refine goesL_ (some 82) rfl rfl Tryd.func71 (by kernel_rfl) rfl #[.agg #[.int .i64 ((rd_T67 l0_9 x77_5).f0), .int .i64 ((rd_T67 l0_9 x77_5).f1), .int .i64 ((rd_T67 l0_9 x77_5).f2), .string ((rd_T67 l0_9 x77_5).f3), .int .i64 ((rd_T67 l0_9 x77_5).f4)]] rfl m12_ ?_; (with_reducible refine (frame_entryFits.calls ((rd_T67 l0_9 x77_5).f0) ((rd_T67 l0_9 x77_5).f1) ((rd_T67 l0_9 x77_5).f2) ((rd_T67 l0_9 x77_5).f3) ((rd_T67 l0_9 x77_5).f4) false _ A52.out).mono ?_); rintro e w61 ⟨rfl, hb⟩; refine ⟨_, rfl, ?_⟩; have n0_ := Aside0.mk (blk_below (g := gb106) (o := .cells #[.int .i64 a0_0, .int .i64 a0_1, .int .i64 a0_2, .slice A0_3 l0_3.length c0_3, .string a0_4, .string a0_5, .slice A0_6 l0_6.length c0_6, .slice A0_7 l0_7.length c0_7, .string a0_8, .slice (some ad115) l0_9.length c0_9, .int .i64 a0_10, .int .i64 a0_11] 34 (0, 0)) (by (with_reducible repeat (first | refine blk_drewN ?_ _ | refine blk_drew ?_ | refine blk_alloc ?_ _)); refine blk_far ?_ NB106_116.out _; (with_reducible repeat (first | refine blk_drewN ?_ _ | refine blk_drew ?_ | refine blk_alloc ?_ _)); refine blk_far ?_ NB106_116.out _; (with_reducible repeat (first | refine blk_drewN ?_ _ | refine blk_drew ?_ | refine blk_alloc ?_ _)); refine blk_far ?_ NB106_116.out _; (with_reducible repeat (first | refine blk_drewN ?_ _ | refine blk_drew ?_ | refine blk_alloc ?_ _)); refine blk_far ?_ NB106_116.out _; (with_reducible repeat (first | refine blk_drewN ?_ _ | refine blk_drew ?_ | refine blk_alloc ?_ _)); refine blk_far ?_ NB106_116.out _; (with_reducible repeat (first | refine blk_drewN ?_ _ | refine blk_drew ?_ | refine blk_alloc ?_ _)); exact BK106.out) hb); have n1_ := Aside0.mk (blk_below (g := gb116) (o := .cells #[.int .i64 ((rd_T67 l0_9 x77_5).f0), .int .i64 ((rd_T67 l0_9 x77_5).f1), .int .i64 ((rd_T67 l0_9 x77_5).f2), .string ((rd_T67 l0_9 x77_5).f3), .int .i64 ((rd_T67 l0_9 x77_5).f4)] 67 (0, 0)) (by (with_reducible repeat (first | refine blk_drewN ?_ _ | refine blk_drew ?_ | refine blk_alloc ?_ _)); refine blk_put (cs := #[.int .i64 ((rd_T67 l0_9 x77_5).f0), .int .i64 ((rd_T67 l0_9 x77_5).f1), .int .i64 ((rd_T67 l0_9 x77_5).f2), .string ((rd_T67 l0_9 x77_5).f3), .int .i64 0]) ?_ 4 _ rfl; (with_reducible repeat (first | refine blk_drewN ?_ _ | refine blk_drew ?_ | refine blk_alloc ?_ _)); refine blk_put (cs := #[.int .i64 ((rd_T67 l0_9 x77_5).f0), .int .i64 ((rd_T67 l0_9 x77_5).f1), .int .i64 ((rd_T67 l0_9 x77_5).f2), .string (⟨#[]⟩ : ByteArray), .int .i64 0]) ?_ 3 _ rfl; (with_reducible repeat (first | refine blk_drewN ?_ _ | refine blk_drew ?_ | refine blk_alloc ?_ _)); refine blk_put (cs := #[.int .i64 ((rd_T67 l0_9 x77_5).f0), .int .i64 ((rd_T67 l0_9 x77_5).f1), .int .i64 0, .string (⟨#[]⟩ : ByteArray), .int .i64 0]) ?_ 2 _ rfl; (with_reducible repeat (first | refine blk_drewN ?_ _ | refine blk_drew ?_ | refine blk_alloc ?_ _)); refine blk_put (cs := #[.int .i64 ((rd_T67 l0_9 x77_5).f0), .int .i64 0, .int .i64 0, .string (⟨#[]⟩ : ByteArray), .int .i64 0]) ?_ 1 _ rfl; (with_reducible repeat (first | refine blk_drewN ?_ _ | refine blk_drew ?_ | refine blk_alloc ?_ _)); refine blk_put (cs := #[.int .i64 0, .int .i64 0, .int .i64 0, .string (⟨#[]⟩ : ByteArray), .int .i64 0]) ?_ 0 _ rfl; (with_reducible repeat (first | refine blk_drewN ?_ _ | refine blk_drew ?_ | refine blk_alloc ?_ _)); exact BK116.out) hb); have n2_ := Aside0.mk (below_step (by repeat (first | (with_reducible first | exact HB.out | apply below_alloc | apply pw_below_drewN | apply below_drew1 | refine below_set ?_ GE106.out | refine below_set ?_ GE116.out) | exact HB.out)) hb); clear BK106; clear BK116; clear HB; have BK106 := n0_; have BK116 := n1_; have HB := n2_; clear n0_ n1_ n2_; (try clear hb); (try clear hb2); (try clear hk); (try clear hi)))
        go_ret
        exact ⟨by first | rfl | (simp [errW_none, errW_some] <;> rfl) | (simp [*, errW_none, errW_some] <;> rfl), by repeat (first | (with_reducible first | exact HB.out | apply below_alloc | apply pw_below_drewN | apply below_drew1 | refine below_set ?_ GE106.out | refine below_set ?_ GE116.out) | exact HB.out)⟩
       subst c53
       have H1 : (frame_listsFit.l3 k5 l0_9 (l0_9.length : Int) (wrap64 (x77_5 + 1))) = some r := by rw [if_pos rfl] at H; exact H
       clear H
       have H := H1
       clear H1
       have H' := Aside0.mk H
       clear H
       have p115 : 0 ≤ (x77_5 : Int) := of_decide_eq_true m27_
       have q115 : x77_5 < (l0_9.length : Int) := of_decide_eq_true m27_
       obtain ⟨ad115, e115, hx115_0, hx115_1, hx115_2, hx115_3, hx115_4⟩ := at_T67 HR0_9.out x77_5 p115 q115
       cases e115
       replace hx115_0 := (HB.out.cell (World.block_lt_of_cell? w _ hx115_0)).trans hx115_0
       replace hx115_1 := (HB.out.cell (World.block_lt_of_cell? w _ hx115_1)).trans hx115_1
       replace hx115_2 := (HB.out.cell (World.block_lt_of_cell? w _ hx115_2)).trans hx115_2
       replace hx115_3 := (HB.out.cell (World.block_lt_of_cell? w _ hx115_3)).trans hx115_3
       replace hx115_4 := (HB.out.cell (World.block_lt_of_cell? w _ hx115_4)).trans hx115_4
       replace p115 := eq_true p115
       replace q115 := eq_true q115
       go_wp2_with (first | ((with_reducible refine gate_dst (N := 10) rfl ?_); (try (refine gate_guard (by rfl) ?_; dsimp only)); refine box_event ?hg (N := 10) ?hd (cs := #[.int .i64 0, .int .i64 0, .int .i64 0, .string (⟨#[]⟩ : ByteArray), .int .i64 0]) (t := 67) ?hr ?_; (case hd => rfl); (case hg => rfl); (case hr => first | (go_simp; done) | (go_simp; rfl)); intro gb116 hg w54 hbox hb; have n0_ := Aside0.mk (blk_below (g := gb106) (o := .cells #[.int .i64 a0_0, .int .i64 a0_1, .int .i64 a0_2, .slice A0_3 l0_3.length c0_3, .string a0_4, .string a0_5, .slice A0_6 l0_6.length c0_6, .slice A0_7 l0_7.length c0_7, .string a0_8, .slice (some ad115) l0_9.length c0_9, .int .i64 a0_10, .int .i64 a0_11] 34 (0, 0)) m15_ hb); have n1_ := Aside0.mk (below_step m5_ hb); have n2_ := Aside0.mk (hbox); have n3_ := Aside0.mk ((by rw [hg]; exact (below_size m5_) : w.heap.size ≤ gb116)); have n4_ := Aside0.mk ((by rw [hg]; exact (below_size m5_) : w.heap.size ≤ gb116)); have n5_ := Aside0.mk ((by rw [hg]; exact Nat.ne_of_lt (blk_lt (g := gb106) (o := .cells #[.int .i64 a0_0, .int .i64 a0_1, .int .i64 a0_2, .slice A0_3 l0_3.length c0_3, .string a0_4, .string a0_5, .slice A0_6 l0_6.length c0_6, .slice A0_7 l0_7.length c0_7, .string a0_8, .slice (some ad115) l0_9.length c0_9, .int .i64 a0_10, .int .i64 a0_11] 34 (0, 0)) m15_) : gb106 ≠ gb116)); have n6_ := Aside0.mk ((by rw [hg]; exact Nat.ne_of_gt (blk_lt (g := gb106) (o := .cells #[.int .i64 a0_0, .int .i64 a0_1, .int .i64 a0_2, .slice A0_3 l0_3.length c0_3, .string a0_4, .string a0_5, .slice A0_6 l0_6.length c0_6, .slice A0_7 l0_7.length c0_7, .string a0_8, .slice (some ad115) l0_9.length c0_9, .int .i64 a0_10, .int .i64 a0_11] 34 (0, 0)) m15_) : gb116 ≠ gb106)); clear BK106; clear HB; have BK106 := n0_; have HB := n1_; have BK116 := n2_; have GW116 := n3_; have GE116 := n4_; have NB106_116 := n5_; have NB116_106 := n6_; clear n0_ n1_ n2_ n3_ n4_ n5_ n6_; clear hb hbox hg; have hnb55 := NB116_106.out; have hnc55 := NB106_116.out; obtain ⟨hcz56_0, hcz56_1, hcz56_2, hcz56_3, hcz56_4⟩ := bc5_ BK116.out; obtain ⟨hfz56_0, hfz56_1, hfz56_2, hfz56_3, hfz56_4⟩ := bf5_ BK116.out) | ((with_reducible refine gate_callee (f := 71) rfl ?_); refine goesL_ (some 82) rfl rfl Tryd.func71 (by kernel_rfl) rfl #[.agg #[.int .i64 ((rd_T67 l0_9 x77_5).f0), .int .i64 ((rd_T67 l0_9 x77_5).f1), .int .i64 ((rd_T67 l0_9 x77_5).f2), .string ((rd_T67 l0_9 x77_5).f3), .int .i64 ((rd_T67 l0_9 x77_5).f4)]] rfl m12_ ?_; (with_reducible refine (frame_entryFits.calls ((rd_T67 l0_9 x77_5).f0) ((rd_T67 l0_9 x77_5).f1) ((rd_T67 l0_9 x77_5).f2) ((rd_T67 l0_9 x77_5).f3) ((rd_T67 l0_9 x77_5).f4) true _ A52.out).mono ?_); rintro e w57 ⟨rfl, hb⟩; refine ⟨_, rfl, ?_⟩; have n0_ := Aside0.mk (blk_below (g := gb106) (o := .cells #[.int .i64 a0_0, .int .i64 a0_1, .int .i64 a0_2, .slice A0_3 l0_3.length c0_3, .string a0_4, .string a0_5, .slice A0_6 l0_6.length c0_6, .slice A0_7 l0_7.length c0_7, .string a0_8, .slice (some ad115) l0_9.length c0_9, .int .i64 a0_10, .int .i64 a0_11] 34 (0, 0)) (by (with_reducible repeat (first | refine blk_drewN ?_ _ | refine blk_drew ?_ | refine blk_alloc ?_ _)); refine blk_far ?_ NB106_116.out _; (with_reducible repeat (first | refine blk_drewN ?_ _ | refine blk_drew ?_ | refine blk_alloc ?_ _)); refine blk_far ?_ NB106_116.out _; (with_reducible repeat (first | refine blk_drewN ?_ _ | refine blk_drew ?_ | refine blk_alloc ?_ _)); refine blk_far ?_ NB106_116.out _; (with_reducible repeat (first | refine blk_drewN ?_ _ | refine blk_drew ?_ | refine blk_alloc ?_ _)); refine blk_far ?_ NB106_116.out _; (with_reducible repeat (first | refine blk_drewN ?_ _ | refine blk_drew ?_ | refine blk_alloc ?_ _)); refine blk_far ?_ NB106_116.out _; (with_reducible repeat (first | refine blk_drewN ?_ _ | refine blk_drew ?_ | refine blk_alloc ?_ _)); exact BK106.out) hb); have n1_ := Aside0.mk (blk_below (g := gb116) (o := .cells #[.int .i64 ((rd_T67 l0_9 x77_5).f0), .int .i64 ((rd_T67 l0_9 x77_5).f1), .int .i64 ((rd_T67 l0_9 x77_5).f2), .string ((rd_T67 l0_9 x77_5).f3), .int .i64 ((rd_T67 l0_9 x77_5).f4)] 67 (0, 0)) (by (with_reducible repeat (first | refine blk_drewN ?_ _ | refine blk_drew ?_ | refine blk_alloc ?_ _)); refine blk_put (cs := #[.int .i64 ((rd_T67 l0_9 x77_5).f0), .int .i64 ((rd_T67 l0_9 x77_5).f1), .int .i64 ((rd_T67 l0_9 x77_5).f2), .string ((rd_T67 l0_9 x77_5).f3), .int .i64 0]) ?_ 4 _ rfl; (with_reducible repeat (first | refine blk_drewN ?_ _ | refine blk_drew ?_ | refine blk_alloc ?_ _)); refine blk_put (cs := #[.int .i64 ((rd_T67 l0_9 x77_5).f0), .int .i64 ((rd_T67 l0_9 x77_5).f1), .int .i64 ((rd_T67 l0_9 x77_5).f2), .string (⟨#[]⟩ : ByteArray), .int .i64 0]) ?_ 3 _ rfl; (with_reducible repeat (first | refine blk_drewN ?_ _ | refine blk_drew ?_ | refine blk_alloc ?_ _)); refine blk_put (cs := #[.int .i64 ((rd_T67 l0_9 x77_5).f0), .int .i64 ((rd_T67 l0_9 x77_5).f1), .int .i64 0, .string (⟨#[]⟩ : ByteArray), .int .i64 0]) ?_ 2 _ rfl; (with_reducible repeat (first | refine blk_drewN ?_ _ | refine blk_drew ?_ | refine blk_alloc ?_ _)); refine blk_put (cs := #[.int .i64 ((rd_T67 l0_9 x77_5).f0), .int .i64 0, .int .i64 0, .string (⟨#[]⟩ : ByteArray), .int .i64 0]) ?_ 1 _ rfl; (with_reducible repeat (first | refine blk_drewN ?_ _ | refine blk_drew ?_ | refine blk_alloc ?_ _)); refine blk_put (cs := #[.int .i64 0, .int .i64 0, .int .i64 0, .string (⟨#[]⟩ : ByteArray), .int .i64 0]) ?_ 0 _ rfl; (with_reducible repeat (first | refine blk_drewN ?_ _ | refine blk_drew ?_ | refine blk_alloc ?_ _)); exact BK116.out) hb); have n2_ := Aside0.mk (below_step (by repeat (first | (with_reducible first | exact HB.out | apply below_alloc | apply pw_below_drewN | apply below_drew1 | refine below_set ?_ GE106.out | refine below_set ?_ GE116.out) | exact HB.out)) hb); clear BK106; clear BK116; clear HB; have BK106 := n0_; have BK116 := n1_; have HB := n2_; clear n0_ n1_ n2_; (try clear hb); (try clear hb2); (try clear hk); (try clear hi)))
       go_roundg k5
       case measure => have := HJ1.out; have := HK2.out; have := HK3.out; have := HK4.out; have := HK5.out; omega
       case rel => exact ⟨(wrap64 (x77_5 + 1)), m28_, H', ⟨by have := HJ1.out; have := HK2.out; have := HK3.out; have := HK4.out; have := HK5.out; omega⟩, ⟨by (with_reducible repeat (first | refine blk_drewN ?_ _ | refine blk_drew ?_ | refine blk_alloc ?_ _)); exact BK106.out⟩, ⟨by repeat (first | (with_reducible first | exact HB.out | apply below_alloc | apply pw_below_drewN | apply below_drew1 | refine below_set ?_ GE106.out | refine below_set ?_ GE116.out) | exact HB.out)⟩⟩

end Go.Proofs.YtoankokkdmbjmaaDoorH.HFrameCuts
