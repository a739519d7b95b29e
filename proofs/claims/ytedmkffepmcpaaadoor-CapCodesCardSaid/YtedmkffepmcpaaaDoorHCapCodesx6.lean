-- PRINTED by print.py (a twelfth state) out of the translation. Not trusted: Lean checks it.
import Derived.Test.YtedmkffepmcpaaaDoorHCapCodesx0
import Derived.Test.YtedmkffepmcpaaaDoorHCapCodesx2
import Derived.Test.YtedmkffepmcpaaaDoorHCapCodesx4
import Derived.Test.YtedmkffepmcpaaaDoorHCapCodesx5
namespace Go.Proofs.YtedmkffepmcpaaaDoorH.HCapCodes
open Go.RowKit Go.Proofs.YtedmkffepmcpaaaDoorW.PrintWords Go.Proofs.YtedmkffepmcpaaaDoorW.PrintLast Go.Proofs.YtedmkffepmcpaaaDoorW.PrintMore
attribute [local go_sem] max2_int min2_int max_two min_two max_three min_three max_four min_four   -- for this text's walks alone
set_option linter.unusedVariables false
set_option linter.unusedSimpArgs false

/-! ### cap_Lets: function 22 -/
mutual
def cap_Lets.j0 : Nat → Int → ByteArray → Int → Bool → Int → Int → List (S35) → ByteArray → Option (Bool)
 | 0, _, _, _, _, _, _, _, _ => none
 | k + 1, x1, x2, x3, x30, x192000, x192001, x192002, x192003 => if x30 = true then (some false) else (cap_Lets.l0 k x1 x2 x3 x192002 (x192002.length : Int) 0)
def cap_Lets.l0 : Nat → Int → ByteArray → Int → List (S35) → Int → Int → Option (Bool)
 | 0, _, _, _, _, _, _ => none
 | k + 1, x1, x2, x3, x32, x33, x34 => if x34 < x33 then (if 0 ≤ x34 then (if x34 < (x32.length : Int) then ((path_Covers.f ((rd_T35 x32 x34).f0) x2).bind fun t200 => (if t200 = true then (if (Go.bits .and .i64 ((rd_T35 x32 x34).f1) x1) = 0 then (some false) else (if x3 > ((rd_T35 x32 x34).f2) then (some false) else (cap_Lets.l0 k x1 x2 x3 x32 x33 (wrap64 (x34 + 1))))) else (some false))) else (none)) else (none)) else (some true)
end
def cap_Lets.f (k : Nat) (a0_0 : Int) (a0_1 : Int) (l0_2 : List (S35)) (a0_3 : ByteArray) (a1 : Int) (a2 : ByteArray) (a3 : Int) : Option (Bool) := if a1 = 1 then ((path_Place.f a2).bind fun t192 => (if t192 = true then ((cap_May.f k a0_0 a0_1 l0_2 a0_3).bind fun t193 => (cap_Lets.j0 k a1 a2 a3 (!t193) a0_0 a0_1 l0_2 a0_3)) else (cap_Lets.j0 k a1 a2 a3 true a0_0 a0_1 l0_2 a0_3))) else (if a1 = 2 then ((path_Place.f a2).bind fun t194 => (if t194 = true then ((cap_May.f k a0_0 a0_1 l0_2 a0_3).bind fun t195 => (cap_Lets.j0 k a1 a2 a3 (!t195) a0_0 a0_1 l0_2 a0_3)) else (cap_Lets.j0 k a1 a2 a3 true a0_0 a0_1 l0_2 a0_3))) else (if a1 = 4 then ((path_Place.f a2).bind fun t196 => (if t196 = true then ((cap_May.f k a0_0 a0_1 l0_2 a0_3).bind fun t197 => (cap_Lets.j0 k a1 a2 a3 (!t197) a0_0 a0_1 l0_2 a0_3)) else (cap_Lets.j0 k a1 a2 a3 true a0_0 a0_1 l0_2 a0_3))) else (cap_Lets.j0 k a1 a2 a3 true a0_0 a0_1 l0_2 a0_3)))
theorem cap_Lets.mono_l : ∀ k, (∀ y0 y1 y2 y3 y4 y5 y6 y7, LeO (cap_Lets.j0 k y0 y1 y2 y3 y4 y5 y6 y7) (cap_Lets.j0 (k + 1) y0 y1 y2 y3 y4 y5 y6 y7)) ∧ (∀ y0 y1 y2 y3 y4 y5, LeO (cap_Lets.l0 k y0 y1 y2 y3 y4 y5) (cap_Lets.l0 (k + 1) y0 y1 y2 y3 y4 y5))
 | 0 => ⟨fun _ _ _ _ _ _ _ _ r h => by simp [cap_Lets.j0] at h, fun _ _ _ _ _ _ r h => by simp [cap_Lets.l0] at h⟩
 | k + 1 => by
  obtain ⟨ih0, ih1⟩ := cap_Lets.mono_l k
  refine ⟨?_, ?_⟩
  ·intro y0 y1 y2 y3 y4 y5 y6 y7
   unfold cap_Lets.j0
   repeat' first
   | (with_reducible exact ih0 _ _ _ _ _ _ _ _)
   | (with_reducible exact ih1 _ _ _ _ _ _)
   | (with_reducible exact cap_May.mono _ _ _ _ _)
   | (with_reducible exact LeO.refl _)
   | (with_reducible exact LeO.none _)
   | (with_reducible refine LeO.ite ?_ ?_)
   | (with_reducible refine LeO.bind ?_ (fun _ => ?_))
   | exact ih0 _ _ _ _ _ _ _ _
   | exact ih1 _ _ _ _ _ _
   | exact cap_May.mono _ _ _ _ _
   | exact LeO.none _
   | refine LeO.ite ?_ ?_
   | refine LeO.bind ?_ (fun _ => ?_)
  ·intro y0 y1 y2 y3 y4 y5
   unfold cap_Lets.l0
   repeat' first
   | (with_reducible exact ih0 _ _ _ _ _ _ _ _)
   | (with_reducible exact ih1 _ _ _ _ _ _)
   | (with_reducible exact cap_May.mono _ _ _ _ _)
   | (with_reducible exact LeO.refl _)
   | (with_reducible exact LeO.none _)
   | (with_reducible refine LeO.ite ?_ ?_)
   | (with_reducible refine LeO.bind ?_ (fun _ => ?_))
   | exact ih0 _ _ _ _ _ _ _ _
   | exact ih1 _ _ _ _ _ _
   | exact cap_May.mono _ _ _ _ _
   | exact LeO.none _
   | refine LeO.ite ?_ ?_
   | refine LeO.bind ?_ (fun _ => ?_)
theorem cap_Lets.mono : ∀ a0 a1 a2 a3 a4 a5 a6 k, LeO (cap_Lets.f k a0 a1 a2 a3 a4 a5 a6) (cap_Lets.f (k + 1) a0 a1 a2 a3 a4 a5 a6) := by
 intro a0 a1 a2 a3 a4 a5 a6 k
 obtain ⟨ih0, ih1⟩ := cap_Lets.mono_l k
 unfold cap_Lets.f
 repeat' first
   | (with_reducible exact ih0 _ _ _ _ _ _ _ _)
   | (with_reducible exact ih1 _ _ _ _ _ _)
   | (with_reducible exact cap_May.mono _ _ _ _ _)
   | (with_reducible exact LeO.refl _)
   | (with_reducible exact LeO.none _)
   | (with_reducible refine LeO.ite ?_ ?_)
   | (with_reducible refine LeO.bind ?_ (fun _ => ?_))
   | exact ih0 _ _ _ _ _ _ _ _
   | exact ih1 _ _ _ _ _ _
   | exact cap_May.mono _ _ _ _ _
   | exact LeO.none _
   | refine LeO.ite ?_ ?_
   | refine LeO.bind ?_ (fun _ => ?_)
set_option maxHeartbeats 8000000 in
set_option maxRecDepth 100000 in
theorem cap_Lets.calls (k : Nat) (a0_0 : Int) (a0_1 : Int) (A0_2 : Option Addr) (c0_2 : Nat) (l0_2 : List (S35)) (a0_3 : ByteArray) (a1 : Int) (a2 : ByteArray) (a3 : Int) (r : Bool) (w : World) (hr0_2 : Kd.C k35 w A0_2 l0_2.length l0_2) (hc0_2 : l0_2.length ≤ c0_2) (h : cap_Lets.f k a0_0 a0_1 l0_2 a0_3 a1 a2 a3 = some r) :
  Calls Tryd.prog 22 #[.agg #[.int .i64 a0_0, .int .i64 a0_1, .slice A0_2 l0_2.length c0_2, .string a0_3], .int .i64 a1, .string a2, .int .i64 a3] w fun e w' => e = .returned (.bool r) ∧ Below w.heap.size w w' := by
 have hu25 := Tryd.underlying25
 have hu35 := Tryd.underlying35
 have HR0_2 := Aside0.mk hr0_2
 have HC0_2 := Aside0.mk hc0_2
 clear hr0_2 hc0_2
 have HB := Aside0.mk (Below.refl w.heap.size w)
 have H : (if a1 = 1 then ((path_Place.f a2).bind fun t192 => (if t192 = true then ((cap_May.f k a0_0 a0_1 l0_2 a0_3).bind fun t193 => (cap_Lets.j0 k a1 a2 a3 (!t193) a0_0 a0_1 l0_2 a0_3)) else (cap_Lets.j0 k a1 a2 a3 true a0_0 a0_1 l0_2 a0_3))) else (if a1 = 2 then ((path_Place.f a2).bind fun t194 => (if t194 = true then ((cap_May.f k a0_0 a0_1 l0_2 a0_3).bind fun t195 => (cap_Lets.j0 k a1 a2 a3 (!t195) a0_0 a0_1 l0_2 a0_3)) else (cap_Lets.j0 k a1 a2 a3 true a0_0 a0_1 l0_2 a0_3))) else (if a1 = 4 then ((path_Place.f a2).bind fun t196 => (if t196 = true then ((cap_May.f k a0_0 a0_1 l0_2 a0_3).bind fun t197 => (cap_Lets.j0 k a1 a2 a3 (!t197) a0_0 a0_1 l0_2 a0_3)) else (cap_Lets.j0 k a1 a2 a3 true a0_0 a0_1 l0_2 a0_3))) else (cap_Lets.j0 k a1 a2 a3 true a0_0 a0_1 l0_2 a0_3)))) = some r := h
 clear h
 have HC5 := Aside0.mk H
 clear H
 go_enter Tryd.func22, Tryd.ntmps22
 go_upto_region 1 with (first | ((with_reducible refine gate_dst (N := 4) rfl ?_); refine box_event ?hg (N := 4) ?hd (cs := #[.int .i64 a0_0, .int .i64 a0_1, .slice A0_2 l0_2.length c0_2, .string a0_3]) (t := 25) ?hr ?_; (case hd => rfl); (case hg => rfl); (case hr => first | (go_simp; done) | (go_simp; rfl)); intro gb191 hg w6 hbox hb; have n0_ := Aside0.mk (below_step m31_ hb); have n1_ := Aside0.mk (hbox); have n2_ := Aside0.mk ((by rw [hg]; exact (below_size m31_) : w.heap.size ≤ gb191)); have n3_ := Aside0.mk ((by rw [hg]; exact (below_size m31_) : w.heap.size ≤ gb191)); clear HB; have HB := n0_; have BK191 := n1_; have GW191 := n2_; have GE191 := n3_; clear n0_ n1_ n2_ n3_; clear hb hbox hg))
 (try simp only [Act.put, List.setIfInBounds_toArray, List.set_cons_zero, List.set_cons_succ])
 go_cut [30] (fun v30 wc => ∃ (kq : Nat) (x30_4 : Bool), v30 = .bool x30_4 ∧ Aside0 (cap_Lets.j0 kq a1 a2 a3 x30_4 a0_0 a0_1 l0_2 a0_3 = some r) ∧ Aside0 (kq ≤ k) ∧ Aside0 (wc.heap[gb191]? = some (.cells #[.int .i64 a0_0, .int .i64 a0_1, (.slice A0_2 l0_2.length c0_2), .string a0_3] 25 (0, 0))) ∧ Aside0 (Below w.heap.size w wc))
 case first =>
  have H := HC5.out
  clear HC5
  by_cases c7 : a1 = 1
  ·rw [if_pos c7] at H
   have c7b0 : (a1 == 1) = true := beq_iff_eq.mpr c7
   have c7b1 : (a1 != 1) = false := bne_eq_false_iff_eq.mpr c7
   clear c7
   (first | rw [c7b0] | (simp only [i64_w, i32_w]; rw [c7b0]) | skip)
   replace H := Option.bind_eq_some_iff.mp H
   obtain ⟨t192, A80, H⟩ := H
   replace H : (if t192 = true then ((cap_May.f k a0_0 a0_1 l0_2 a0_3).bind fun t193 => (cap_Lets.j0 k a1 a2 a3 (!t193) a0_0 a0_1 l0_2 a0_3)) else (cap_Lets.j0 k a1 a2 a3 true a0_0 a0_1 l0_2 a0_3)) = some r := H
   have A8 := Aside0.mk A80
   clear A80
   by_cases c9 : t192 = true
   case neg =>
    replace c9 := Bool.eq_false_iff.mpr c9
    subst c9
    have H1 : (cap_Lets.j0 k a1 a2 a3 true a0_0 a0_1 l0_2 a0_3) = some r := by rw [if_neg (show ¬ (false = true) by decide)] at H; exact H
    clear H
    have H := H1
    clear H1
    have H' := Aside0.mk H
    clear H
    go_wp2_with (first | (go_at_call 40; (with_reducible refine (path_Place.calls a2 false _ A8.out).mono ?_); rintro e w14 ⟨rfl, hb⟩; replace BK191 := Aside0.mk (blk_below (g := gb191) (o := .cells #[.int .i64 a0_0, .int .i64 a0_1, .slice A0_2 l0_2.length c0_2, .string a0_3] 25 (0, 0)) m37_ hb); replace HB := Aside0.mk (below_step m17_ hb); (try clear hb); (try clear hb2); (try clear hk); (try clear hi)))
    go_meet
    case rel => exact ⟨_, (true), m55_, H', ⟨by first | omega | exact Nat.le_refl _⟩, ⟨by refine bD_ ?_; exact BK191.out⟩, ⟨m72_⟩⟩
   subst c9
   have H1 : ((cap_May.f k a0_0 a0_1 l0_2 a0_3).bind fun t193 => (cap_Lets.j0 k a1 a2 a3 (!t193) a0_0 a0_1 l0_2 a0_3)) = some r := by rw [if_pos rfl] at H; exact H
   clear H
   have H := H1
   clear H1
   replace H := Option.bind_eq_some_iff.mp H
   obtain ⟨t193, A100, H⟩ := H
   replace H : (cap_Lets.j0 k a1 a2 a3 (!t193) a0_0 a0_1 l0_2 a0_3) = some r := H
   have A10 := Aside0.mk A100
   clear A100
   have H' := Aside0.mk H
   clear H
   go_wp2_with (first | (go_at_call 40; (with_reducible refine (path_Place.calls a2 true _ A8.out).mono ?_); rintro e w11 ⟨rfl, hb⟩; replace BK191 := Aside0.mk (blk_below (g := gb191) (o := .cells #[.int .i64 a0_0, .int .i64 a0_1, .slice A0_2 l0_2.length c0_2, .string a0_3] 25 (0, 0)) m37_ hb); replace HB := Aside0.mk (below_step m17_ hb); (try clear hb); (try clear hb2); (try clear hk); (try clear hi); obtain ⟨hcz12_0, hcz12_1, hcz12_2, hcz12_3⟩ := bc4_ BK191.out; obtain ⟨hfz12_0, hfz12_1, hfz12_2, hfz12_3⟩ := bf4_ BK191.out) | (go_at_call 18; (with_reducible refine (cap_May.calls k a0_0 a0_1 _ _ l0_2 a0_3 t193 _ ?side1 ?side2 A10.out).mono ?_); (case side1 => exact m65_); (case side2 => exact HC0_2.out); rintro e w13 ⟨rfl, hb⟩; replace BK191 := Aside0.mk (blk_below (g := gb191) (o := .cells #[.int .i64 a0_0, .int .i64 a0_1, .slice A0_2 l0_2.length c0_2, .string a0_3] 25 (0, 0)) m37_ hb); replace HB := Aside0.mk (below_step m17_ hb); (try clear hb); (try clear hb2); (try clear hk); (try clear hi)))
   go_meet
   case rel => exact ⟨_, (!t193), m55_, H', ⟨by first | omega | exact Nat.le_refl _⟩, ⟨by refine bD_ ?_; exact BK191.out⟩, ⟨m72_⟩⟩
  rw [if_neg c7] at H
  have c7b0 : (a1 == 1) = false := beq_eq_false_iff_ne.mpr c7
  have c7b1 : (a1 != 1) = true := bne_iff_ne.mpr c7
  (first | rw [c7b0] | (simp only [i64_w, i32_w]; rw [c7b0]) | skip)
  by_cases c15 : a1 = 2
  ·rw [if_pos c15] at H
   have c15b0 : (a1 == 2) = true := beq_iff_eq.mpr c15
   have c15b1 : (a1 != 2) = false := bne_eq_false_iff_eq.mpr c15
   clear c15
   replace H := Option.bind_eq_some_iff.mp H
   obtain ⟨t194, A160, H⟩ := H
   replace H : (if t194 = true then ((cap_May.f k a0_0 a0_1 l0_2 a0_3).bind fun t195 => (cap_Lets.j0 k a1 a2 a3 (!t195) a0_0 a0_1 l0_2 a0_3)) else (cap_Lets.j0 k a1 a2 a3 true a0_0 a0_1 l0_2 a0_3)) = some r := H
   have A16 := Aside0.mk A160
   clear A160
   by_cases c17 : t194 = true
   case neg =>
    replace c17 := Bool.eq_false_iff.mpr c17
    subst c17
    have H1 : (cap_Lets.j0 k a1 a2 a3 true a0_0 a0_1 l0_2 a0_3) = some r := by rw [if_neg (show ¬ (false = true) by decide)] at H; exact H
    clear H
    have H := H1
    clear H1
    have H' := Aside0.mk H
    clear H
    go_wp2_with (first | (go_at_call 40; (with_reducible refine (path_Place.calls a2 false _ A16.out).mono ?_); rintro e w22 ⟨rfl, hb⟩; replace BK191 := Aside0.mk (blk_below (g := gb191) (o := .cells #[.int .i64 a0_0, .int .i64 a0_1, .slice A0_2 l0_2.length c0_2, .string a0_3] 25 (0, 0)) m37_ hb); replace HB := Aside0.mk (below_step m17_ hb); (try clear hb); (try clear hb2); (try clear hk); (try clear hi)))
    go_meet
    case rel => exact ⟨_, (true), m55_, H', ⟨by first | omega | exact Nat.le_refl _⟩, ⟨by refine bD_ ?_; exact BK191.out⟩, ⟨m72_⟩⟩
   subst c17
   have H1 : ((cap_May.f k a0_0 a0_1 l0_2 a0_3).bind fun t195 => (cap_Lets.j0 k a1 a2 a3 (!t195) a0_0 a0_1 l0_2 a0_3)) = some r := by rw [if_pos rfl] at H; exact H
   clear H
   have H := H1
   clear H1
   replace H := Option.bind_eq_some_iff.mp H
   obtain ⟨t195, A180, H⟩ := H
   replace H : (cap_Lets.j0 k a1 a2 a3 (!t195) a0_0 a0_1 l0_2 a0_3) = some r := H
   have A18 := Aside0.mk A180
   clear A180
   have H' := Aside0.mk H
   clear H
   go_wp2_with (first | (go_at_call 40; (with_reducible refine (path_Place.calls a2 true _ A16.out).mono ?_); rintro e w19 ⟨rfl, hb⟩; replace BK191 := Aside0.mk (blk_below (g := gb191) (o := .cells #[.int .i64 a0_0, .int .i64 a0_1, .slice A0_2 l0_2.length c0_2, .string a0_3] 25 (0, 0)) m37_ hb); replace HB := Aside0.mk (below_step m17_ hb); (try clear hb); (try clear hb2); (try clear hk); (try clear hi); obtain ⟨hcz20_0, hcz20_1, hcz20_2, hcz20_3⟩ := bc4_ BK191.out; obtain ⟨hfz20_0, hfz20_1, hfz20_2, hfz20_3⟩ := bf4_ BK191.out) | (go_at_call 18; (with_reducible refine (cap_May.calls k a0_0 a0_1 _ _ l0_2 a0_3 t195 _ ?side1 ?side2 A18.out).mono ?_); (case side1 => exact m65_); (case side2 => exact HC0_2.out); rintro e w21 ⟨rfl, hb⟩; replace BK191 := Aside0.mk (blk_below (g := gb191) (o := .cells #[.int .i64 a0_0, .int .i64 a0_1, .slice A0_2 l0_2.length c0_2, .string a0_3] 25 (0, 0)) m37_ hb); replace HB := Aside0.mk (below_step m17_ hb); (try clear hb); (try clear hb2); (try clear hk); (try clear hi)))
   go_meet
   case rel => exact ⟨_, (!t195), m55_, H', ⟨by first | omega | exact Nat.le_refl _⟩, ⟨by refine bD_ ?_; exact BK191.out⟩, ⟨m72_⟩⟩
  rw [if_neg c15] at H
  have c15b0 : (a1 == 2) = false := beq_eq_false_iff_ne.mpr c15
  have c15b1 : (a1 != 2) = true := bne_iff_ne.mpr c15
  by_cases c23 : a1 = 4
  case neg =>
   rw [if_neg c23] at H
   have c23b0 : (a1 == 4) = false := beq_eq_false_iff_ne.mpr c23
   have c23b1 : (a1 != 4) = true := bne_iff_ne.mpr c23
   have H' := Aside0.mk H
   clear H
   go_wp2
   go_meet
   case rel => exact ⟨_, (true), m55_, H', ⟨by first | omega | exact Nat.le_refl _⟩, ⟨by refine bD_ ?_; exact BK191.out⟩, ⟨m72_⟩⟩
  rw [if_pos c23] at H
  have c23b0 : (a1 == 4) = true := beq_iff_eq.mpr c23
  have c23b1 : (a1 != 4) = false := bne_eq_false_iff_eq.mpr c23
  clear c23
  replace H := Option.bind_eq_some_iff.mp H
  obtain ⟨t196, A240, H⟩ := H
  replace H : (if t196 = true then ((cap_May.f k a0_0 a0_1 l0_2 a0_3).bind fun t197 => (cap_Lets.j0 k a1 a2 a3 (!t197) a0_0 a0_1 l0_2 a0_3)) else (cap_Lets.j0 k a1 a2 a3 true a0_0 a0_1 l0_2 a0_3)) = some r := H
  have A24 := Aside0.mk A240
  clear A240
  by_cases c25 : t196 = true
  case neg =>
   replace c25 := Bool.eq_false_iff.mpr c25
   subst c25
   have H1 : (cap_Lets.j0 k a1 a2 a3 true a0_0 a0_1 l0_2 a0_3) = some r := by rw [if_neg (show ¬ (false = true) by decide)] at H; exact H
   clear H
   have H := H1
   clear H1
   have H' := Aside0.mk H
   clear H
   go_wp2_with (first | (go_at_call 40; (with_reducible refine (path_Place.calls a2 false _ A24.out).mono ?_); rintro e w30 ⟨rfl, hb⟩; replace BK191 := Aside0.mk (blk_below (g := gb191) (o := .cells #[.int .i64 a0_0, .int .i64 a0_1, .slice A0_2 l0_2.length c0_2, .string a0_3] 25 (0, 0)) m37_ hb); replace HB := Aside0.mk (below_step m17_ hb); (try clear hb); (try clear hb2); (try clear hk); (try clear hi)))
   go_meet
   case rel => exact ⟨_, (true), m55_, H', ⟨by first | omega | exact Nat.le_refl _⟩, ⟨by refine bD_ ?_; exact BK191.out⟩, ⟨m72_⟩⟩
  subst c25
  have H1 : ((cap_May.f k a0_0 a0_1 l0_2 a0_3).bind fun t197 => (cap_Lets.j0 k a1 a2 a3 (!t197) a0_0 a0_1 l0_2 a0_3)) = some r := by rw [if_pos rfl] at H; exact H
  clear H
  have H := H1
  clear H1
  replace H := Option.bind_eq_some_iff.mp H
  obtain ⟨t197, A260, H⟩ := H
  replace H : (cap_Lets.j0 k a1 a2 a3 (!t197) a0_0 a0_1 l0_2 a0_3) = some r := H
  have A26 := Aside0.mk A260
  clear A260
  have H' := Aside0.mk H
  clear H
  go_wp2_with (first | (go_at_call 40; (with_reducible refine (path_Place.calls a2 true _ A24.out).mono ?_); rintro e w27 ⟨rfl, hb⟩; replace BK191 := Aside0.mk (blk_below (g := gb191) (o := .cells #[.int .i64 a0_0, .int .i64 a0_1, .slice A0_2 l0_2.length c0_2, .string a0_3] 25 (0, 0)) m37_ hb); replace HB := Aside0.mk (below_step m17_ hb); (try clear hb); (try clear hb2); (try clear hk); (try clear hi); obtain ⟨hcz28_0, hcz28_1, hcz28_2, hcz28_3⟩ := bc4_ BK191.out; obtain ⟨hfz28_0, hfz28_1, hfz28_2, hfz28_3⟩ := bf4_ BK191.out) | (go_at_call 18; (with_reducible refine (cap_May.calls k a0_0 a0_1 _ _ l0_2 a0_3 t197 _ ?side1 ?side2 A26.out).mono ?_); (case side1 => exact m65_); (case side2 => exact HC0_2.out); rintro e w29 ⟨rfl, hb⟩; replace BK191 := Aside0.mk (blk_below (g := gb191) (o := .cells #[.int .i64 a0_0, .int .i64 a0_1, .slice A0_2 l0_2.length c0_2, .string a0_3] 25 (0, 0)) m37_ hb); replace HB := Aside0.mk (below_step m17_ hb); (try clear hb); (try clear hb2); (try clear hk); (try clear hi)))
  go_meet
  case rel => exact ⟨_, (!t197), m55_, H', ⟨by first | omega | exact Nat.le_refl _⟩, ⟨by refine bD_ ?_; exact BK191.out⟩, ⟨m72_⟩⟩
 clear HC5
 obtain ⟨kq, x30_4, rfl, HA, HJ4, BK191, HB⟩ := hcut
 cases kq with
 | zero => exact absurd HA.out (by simp [cap_Lets.j0])
 | succ kj4 =>
  have H := HA.out
  clear HA
  simp only [cap_Lets.j0] at H
  by_cases c31 : x30_4 = true
  ·subst c31
   have H1 : (some false) = some r := by rw [if_pos rfl] at H; exact H
   clear H
   have H := H1
   clear H1
   obtain rfl := Option.some.inj H
   go_wp2
   go_ret
   exact ⟨by first | rfl | (simp [errW_none, errW_some] <;> rfl) | (simp [*, errW_none, errW_some] <;> rfl), m72_⟩
  replace c31 := Bool.eq_false_iff.mpr c31
  subst c31
  have H1 : (cap_Lets.l0 kj4 a1 a2 a3 l0_2 (l0_2.length : Int) 0) = some r := by rw [if_neg (show ¬ (false = true) by decide)] at H; exact H
  clear H
  have H := H1
  clear H1
  have H' := Aside0.mk H
  clear H
  obtain ⟨hcz32_0, hcz32_1, hcz32_2, hcz32_3⟩ := bc4_ BK191.out
  obtain ⟨hfz32_0, hfz32_1, hfz32_2, hfz32_3⟩ := bf4_ BK191.out
  go_wp2
  go_loopg [34] kj4 (fun kq v34 w' => ∃ (x34_2 : Int), v34 = .int .i64 x34_2 ∧ Aside0 (cap_Lets.l0 kq a1 a2 a3 l0_2 (l0_2.length : Int) x34_2 = some r) ∧ Aside0 (kq ≤ kj4) ∧ Aside0 (w'.heap[gb191]? = some (.cells #[.int .i64 a0_0, .int .i64 a0_1, (.slice A0_2 l0_2.length c0_2), .string a0_3] 25 (0, 0))) ∧ Aside0 (Below w.heap.size w w'))
  case atStart => exact ⟨(0), m55_, H', ⟨Nat.le_refl _⟩, ⟨by refine bD_ ?_; exact BK191.out⟩, ⟨m72_⟩⟩
  clear H'
  try clear c31; try clear hcz32_0; try clear hcz32_1; try clear hcz32_2; try clear hcz32_3; try clear hfz32_0; try clear hfz32_1; try clear hfz32_2; try clear hfz32_3
  obtain ⟨x34_2, rfl, HA, HK2, BK191, HB⟩ := hrel
  cases gk with
  | zero => exact absurd HA.out (by simp [cap_Lets.l0])
  | succ k2 =>
   have H := HA.out
   clear HA
   simp only [cap_Lets.l0] at H
   by_cases c33 : x34_2 < (l0_2.length : Int)
   case neg =>
    rw [if_neg c33] at H
    have c33b0 : decide (x34_2 < (l0_2.length : Int)) = false := decide_eq_false c33
    clear c33
    obtain rfl := Option.some.inj H
    go_wp2
    go_ret
    exact ⟨by first | rfl | (simp [errW_none, errW_some] <;> rfl) | (simp [*, errW_none, errW_some] <;> rfl), m72_⟩
   rw [if_pos c33] at H
   have c33b0 : decide (x34_2 < (l0_2.length : Int)) = true := decide_eq_true c33
   clear c33
   by_cases c34 : 0 ≤ x34_2
   case neg =>
    rw [if_neg c34] at H
    exact absurd H (by simp)
   rw [if_pos c34] at H
   have c34b0 : decide (0 ≤ x34_2) = true := decide_eq_true c34
   clear c34
   by_cases c35 : x34_2 < (l0_2.length : Int)
   case neg =>
    rw [if_neg c35] at H
    exact absurd H (by simp)
   rw [if_pos c35] at H
   have c35b0 : decide (x34_2 < (l0_2.length : Int)) = true := decide_eq_true c35
   clear c35
   replace H := Option.bind_eq_some_iff.mp H
   obtain ⟨t200, A360, H⟩ := H
   replace H : (if t200 = true then (if (Go.bits .and .i64 ((rd_T35 l0_2 x34_2).f1) a1) = 0 then (some false) else (if a3 > ((rd_T35 l0_2 x34_2).f2) then (some false) else (cap_Lets.l0 k2 a1 a2 a3 l0_2 (l0_2.length : Int) (wrap64 (x34_2 + 1))))) else (some false)) = some r := H
   have A36 := Aside0.mk A360
   clear A360
   by_cases c37 : t200 = true
   case neg =>
    replace c37 := Bool.eq_false_iff.mpr c37
    subst c37
    have H1 : (some false) = some r := by rw [if_neg (show ¬ (false = true) by decide)] at H; exact H
    clear H
    have H := H1
    clear H1
    obtain rfl := Option.some.inj H
    have p198 : 0 ≤ (x34_2 : Int) := of_decide_eq_true m54_
    have q198 : x34_2 < (l0_2.length : Int) := of_decide_eq_true m54_
    obtain ⟨ad198, e198, hx198_0, hx198_1, hx198_2⟩ := at_T35 HR0_2.out x34_2 p198 q198
    cases e198
    replace hx198_0 := (HB.out.cell (World.block_lt_of_cell? w _ hx198_0)).trans hx198_0
    replace hx198_1 := (HB.out.cell (World.block_lt_of_cell? w _ hx198_1)).trans hx198_1
    replace hx198_2 := (HB.out.cell (World.block_lt_of_cell? w _ hx198_2)).trans hx198_2
    replace p198 := eq_true p198
    replace q198 := eq_true q198
    go_wp2_with (first | ((with_reducible refine gate_dst (N := 10) rfl ?_); refine box_event ?hg (N := 10) ?hd (cs := #[.string (⟨#[]⟩ : ByteArray), .int .i64 0, .int .i64 0]) (t := 35) ?hr ?_; (case hd => rfl); (case hg => rfl); (case hr => first | (go_simp; done) | (go_simp; rfl)); intro gb199 hg w55 hbox hb; have n0_ := Aside0.mk (blk_below (g := gb191) (o := .cells #[.int .i64 a0_0, .int .i64 a0_1, .slice (some ad198) l0_2.length c0_2, .string a0_3] 25 (0, 0)) m37_ hb); have n1_ := Aside0.mk (below_step m17_ hb); have n2_ := Aside0.mk (hbox); have n3_ := Aside0.mk ((by rw [hg]; exact (below_size m17_) : w.heap.size ≤ gb199)); have n4_ := Aside0.mk ((by rw [hg]; exact (below_size m17_) : w.heap.size ≤ gb199)); have n5_ := Aside0.mk ((by rw [hg]; exact Nat.ne_of_lt (blk_lt (g := gb191) (o := .cells #[.int .i64 a0_0, .int .i64 a0_1, .slice (some ad198) l0_2.length c0_2, .string a0_3] 25 (0, 0)) m37_) : gb191 ≠ gb199)); have n6_ := Aside0.mk ((by rw [hg]; exact Nat.ne_of_gt (blk_lt (g := gb191) (o := .cells #[.int .i64 a0_0, .int .i64 a0_1, .slice (some ad198) l0_2.length c0_2, .string a0_3] 25 (0, 0)) m37_) : gb199 ≠ gb191)); clear BK191; clear HB; have BK191 := n0_; have HB := n1_; have BK199 := n2_; have GW199 := n3_; have GE199 := n4_; have NB191_199 := n5_; have NB199_191 := n6_; clear n0_ n1_ n2_ n3_ n4_ n5_ n6_; clear hb hbox hg; have hnb56 := NB199_191.out; have hnc56 := NB191_199.out; obtain ⟨hcz57_0, hcz57_1, hcz57_2⟩ := bc3_ BK199.out; obtain ⟨hfz57_0, hfz57_1, hfz57_2⟩ := bf3_ BK199.out) | ((with_reducible refine gate_callee (f := 41) rfl ?_); refine goesL_ (some 41) rfl rfl Tryd.func41 (by kernel_rfl) rfl #[.string ((rd_T35 l0_2 x34_2).f0), .string a2] rfl m30_ ?_; (with_reducible refine (path_Covers.calls ((rd_T35 l0_2 x34_2).f0) a2 false _ A36.out).mono ?_); rintro e w58 ⟨rfl, hb⟩; refine ⟨_, rfl, ?_⟩; have n0_ := Aside0.mk (blk_below (g := gb191) (o := .cells #[.int .i64 a0_0, .int .i64 a0_1, .slice (some ad198) l0_2.length c0_2, .string a0_3] 25 (0, 0)) m4_ hb); have n1_ := Aside0.mk (blk_below (g := gb199) (o := .cells #[.string ((rd_T35 l0_2 x34_2).f0), .int .i64 ((rd_T35 l0_2 x34_2).f1), .int .i64 ((rd_T35 l0_2 x34_2).f2)] 35 (0, 0)) (by refine bD_ ?_; refine blk_put (cs := #[.string ((rd_T35 l0_2 x34_2).f0), .int .i64 ((rd_T35 l0_2 x34_2).f1), .int .i64 0]) ?_ 2 _ rfl; refine bD_ ?_; refine blk_put (cs := #[.string ((rd_T35 l0_2 x34_2).f0), .int .i64 0, .int .i64 0]) ?_ 1 _ rfl; refine bD_ ?_; refine blk_put (cs := #[.string (⟨#[]⟩ : ByteArray), .int .i64 0, .int .i64 0]) ?_ 0 _ rfl; refine bD_ ?_; exact BK199.out) hb); have n2_ := Aside0.mk (below_step m16_ hb); clear BK191; clear BK199; clear HB; have BK191 := n0_; have BK199 := n1_; have HB := n2_; clear n0_ n1_ n2_; (try clear hb); (try clear hb2); (try clear hk); (try clear hi)))
    go_ret
    exact ⟨by first | rfl | (simp [errW_none, errW_some] <;> rfl) | (simp [*, errW_none, errW_some] <;> rfl), m62_⟩
   subst c37
   have H1 : (if (Go.bits .and .i64 ((rd_T35 l0_2 x34_2).f1) a1) = 0 then (some false) else (if a3 > ((rd_T35 l0_2 x34_2).f2) then (some false) else (cap_Lets.l0 k2 a1 a2 a3 l0_2 (l0_2.length : Int) (wrap64 (x34_2 + 1))))) = some r := by rw [if_pos rfl] at H; exact H
   clear H
   have H := H1
   clear H1
   by_cases c38 : (Go.bits .and .i64 ((rd_T35 l0_2 x34_2).f1) a1) = 0
   ·rw [if_pos c38] at H
    have c38b0 : ((Go.bits .and .i64 ((rd_T35 l0_2 x34_2).f1) a1) == 0) = true := beq_iff_eq.mpr c38
    have c38b1 : ((Go.bits .and .i64 ((rd_T35 l0_2 x34_2).f1) a1) != 0) = false := bne_eq_false_iff_eq.mpr c38
    clear c38
    obtain rfl := Option.some.inj H
    have p198 : 0 ≤ (x34_2 : Int) := of_decide_eq_true m54_
    have q198 : x34_2 < (l0_2.length : Int) := of_decide_eq_true m54_
    obtain ⟨ad198, e198, hx198_0, hx198_1, hx198_2⟩ := at_T35 HR0_2.out x34_2 p198 q198
    cases e198
    replace hx198_0 := (HB.out.cell (World.block_lt_of_cell? w _ hx198_0)).trans hx198_0
    replace hx198_1 := (HB.out.cell (World.block_lt_of_cell? w _ hx198_1)).trans hx198_1
    replace hx198_2 := (HB.out.cell (World.block_lt_of_cell? w _ hx198_2)).trans hx198_2
    replace p198 := eq_true p198
    replace q198 := eq_true q198
    go_wp2_with (first | ((with_reducible refine gate_dst (N := 10) rfl ?_); refine box_event ?hg (N := 10) ?hd (cs := #[.string (⟨#[]⟩ : ByteArray), .int .i64 0, .int .i64 0]) (t := 35) ?hr ?_; (case hd => rfl); (case hg => rfl); (case hr => first | (go_simp; done) | (go_simp; rfl)); intro gb199 hg w39 hbox hb; have n0_ := Aside0.mk (blk_below (g := gb191) (o := .cells #[.int .i64 a0_0, .int .i64 a0_1, .slice (some ad198) l0_2.length c0_2, .string a0_3] 25 (0, 0)) m37_ hb); have n1_ := Aside0.mk (below_step m17_ hb); have n2_ := Aside0.mk (hbox); have n3_ := Aside0.mk ((by rw [hg]; exact (below_size m17_) : w.heap.size ≤ gb199)); have n4_ := Aside0.mk ((by rw [hg]; exact (below_size m17_) : w.heap.size ≤ gb199)); have n5_ := Aside0.mk ((by rw [hg]; exact Nat.ne_of_lt (blk_lt (g := gb191) (o := .cells #[.int .i64 a0_0, .int .i64 a0_1, .slice (some ad198) l0_2.length c0_2, .string a0_3] 25 (0, 0)) m37_) : gb191 ≠ gb199)); have n6_ := Aside0.mk ((by rw [hg]; exact Nat.ne_of_gt (blk_lt (g := gb191) (o := .cells #[.int .i64 a0_0, .int .i64 a0_1, .slice (some ad198) l0_2.length c0_2, .string a0_3] 25 (0, 0)) m37_) : gb199 ≠ gb191)); clear BK191; clear HB; have BK191 := n0_; have HB := n1_; have BK199 := n2_; have GW199 := n3_; have GE199 := n4_; have NB191_199 := n5_; have NB199_191 := n6_; clear n0_ n1_ n2_ n3_ n4_ n5_ n6_; clear hb hbox hg; have hnb40 := NB199_191.out; have hnc40 := NB191_199.out; obtain ⟨hcz41_0, hcz41_1, hcz41_2⟩ := bc3_ BK199.out; obtain ⟨hfz41_0, hfz41_1, hfz41_2⟩ := bf3_ BK199.out) | ((with_reducible refine gate_callee (f := 41) rfl ?_); refine goesL_ (some 41) rfl rfl Tryd.func41 (by kernel_rfl) rfl #[.string ((rd_T35 l0_2 x34_2).f0), .string a2] rfl m30_ ?_; (with_reducible refine (path_Covers.calls ((rd_T35 l0_2 x34_2).f0) a2 true _ A36.out).mono ?_); rintro e w42 ⟨rfl, hb⟩; refine ⟨_, rfl, ?_⟩; have n0_ := Aside0.mk (blk_below (g := gb191) (o := .cells #[.int .i64 a0_0, .int .i64 a0_1, .slice (some ad198) l0_2.length c0_2, .string a0_3] 25 (0, 0)) m4_ hb); have n1_ := Aside0.mk (blk_below (g := gb199) (o := .cells #[.string ((rd_T35 l0_2 x34_2).f0), .int .i64 ((rd_T35 l0_2 x34_2).f1), .int .i64 ((rd_T35 l0_2 x34_2).f2)] 35 (0, 0)) (by refine bD_ ?_; refine blk_put (cs := #[.string ((rd_T35 l0_2 x34_2).f0), .int .i64 ((rd_T35 l0_2 x34_2).f1), .int .i64 0]) ?_ 2 _ rfl; refine bD_ ?_; refine blk_put (cs := #[.string ((rd_T35 l0_2 x34_2).f0), .int .i64 0, .int .i64 0]) ?_ 1 _ rfl; refine bD_ ?_; refine blk_put (cs := #[.string (⟨#[]⟩ : ByteArray), .int .i64 0, .int .i64 0]) ?_ 0 _ rfl; refine bD_ ?_; exact BK199.out) hb); have n2_ := Aside0.mk (below_step m16_ hb); clear BK191; clear BK199; clear HB; have BK191 := n0_; have BK199 := n1_; have HB := n2_; clear n0_ n1_ n2_; (try clear hb); (try clear hb2); (try clear hk); (try clear hi); obtain ⟨hcz43_0, hcz43_1, hcz43_2⟩ := bc3_ BK199.out; obtain ⟨hfz43_0, hfz43_1, hfz43_2⟩ := bf3_ BK199.out))
    go_ret
    exact ⟨by first | rfl | (simp [errW_none, errW_some] <;> rfl) | (simp [*, errW_none, errW_some] <;> rfl), m62_⟩
   rw [if_neg c38] at H
   have c38b0 : ((Go.bits .and .i64 ((rd_T35 l0_2 x34_2).f1) a1) == 0) = false := beq_eq_false_iff_ne.mpr c38
   have c38b1 : ((Go.bits .and .i64 ((rd_T35 l0_2 x34_2).f1) a1) != 0) = true := bne_iff_ne.mpr c38
   by_cases c44 : a3 > ((rd_T35 l0_2 x34_2).f2)
   ·rw [if_pos c44] at H
    have c44b0 : decide (((rd_T35 l0_2 x34_2).f2) < a3) = true := decide_eq_true c44
    clear c44
    obtain rfl := Option.some.inj H
    have p198 : 0 ≤ (x34_2 : Int) := of_decide_eq_true m54_
    have q198 : x34_2 < (l0_2.length : Int) := of_decide_eq_true m54_
    obtain ⟨ad198, e198, hx198_0, hx198_1, hx198_2⟩ := at_T35 HR0_2.out x34_2 p198 q198
    cases e198
    replace hx198_0 := (HB.out.cell (World.block_lt_of_cell? w _ hx198_0)).trans hx198_0
    replace hx198_1 := (HB.out.cell (World.block_lt_of_cell? w _ hx198_1)).trans hx198_1
    replace hx198_2 := (HB.out.cell (World.block_lt_of_cell? w _ hx198_2)).trans hx198_2
    replace p198 := eq_true p198
    replace q198 := eq_true q198
    go_wp2_with (first | ((with_reducible refine gate_dst (N := 10) rfl ?_); refine box_event ?hg (N := 10) ?hd (cs := #[.string (⟨#[]⟩ : ByteArray), .int .i64 0, .int .i64 0]) (t := 35) ?hr ?_; (case hd => rfl); (case hg => rfl); (case hr => first | (go_simp; done) | (go_simp; rfl)); intro gb199 hg w45 hbox hb; have n0_ := Aside0.mk (blk_below (g := gb191) (o := .cells #[.int .i64 a0_0, .int .i64 a0_1, .slice (some ad198) l0_2.length c0_2, .string a0_3] 25 (0, 0)) m37_ hb); have n1_ := Aside0.mk (below_step m17_ hb); have n2_ := Aside0.mk (hbox); have n3_ := Aside0.mk ((by rw [hg]; exact (below_size m17_) : w.heap.size ≤ gb199)); have n4_ := Aside0.mk ((by rw [hg]; exact (below_size m17_) : w.heap.size ≤ gb199)); have n5_ := Aside0.mk ((by rw [hg]; exact Nat.ne_of_lt (blk_lt (g := gb191) (o := .cells #[.int .i64 a0_0, .int .i64 a0_1, .slice (some ad198) l0_2.length c0_2, .string a0_3] 25 (0, 0)) m37_) : gb191 ≠ gb199)); have n6_ := Aside0.mk ((by rw [hg]; exact Nat.ne_of_gt (blk_lt (g := gb191) (o := .cells #[.int .i64 a0_0, .int .i64 a0_1, .slice (some ad198) l0_2.length c0_2, .string a0_3] 25 (0, 0)) m37_) : gb199 ≠ gb191)); clear BK191; clear HB; have BK191 := n0_; have HB := n1_; have BK199 := n2_; have GW199 := n3_; have GE199 := n4_; have NB191_199 := n5_; have NB199_191 := n6_; clear n0_ n1_ n2_ n3_ n4_ n5_ n6_; clear hb hbox hg; have hnb46 := NB199_191.out; have hnc46 := NB191_199.out; obtain ⟨hcz47_0, hcz47_1, hcz47_2⟩ := bc3_ BK199.out; obtain ⟨hfz47_0, hfz47_1, hfz47_2⟩ := bf3_ BK199.out) | ((with_reducible refine gate_callee (f := 41) rfl ?_); refine goesL_ (some 41) rfl rfl Tryd.func41 (by kernel_rfl) rfl #[.string ((rd_T35 l0_2 x34_2).f0), .string a2] rfl m30_ ?_; (with_reducible refine (path_Covers.calls ((rd_T35 l0_2 x34_2).f0) a2 true _ A36.out).mono ?_); rintro e w48 ⟨rfl, hb⟩; refine ⟨_, rfl, ?_⟩; have n0_ := Aside0.mk (blk_below (g := gb191) (o := .cells #[.int .i64 a0_0, .int .i64 a0_1, .slice (some ad198) l0_2.length c0_2, .string a0_3] 25 (0, 0)) m4_ hb); have n1_ := Aside0.mk (blk_below (g := gb199) (o := .cells #[.string ((rd_T35 l0_2 x34_2).f0), .int .i64 ((rd_T35 l0_2 x34_2).f1), .int .i64 ((rd_T35 l0_2 x34_2).f2)] 35 (0, 0)) (by refine bD_ ?_; refine blk_put (cs := #[.string ((rd_T35 l0_2 x34_2).f0), .int .i64 ((rd_T35 l0_2 x34_2).f1), .int .i64 0]) ?_ 2 _ rfl; refine bD_ ?_; refine blk_put (cs := #[.string ((rd_T35 l0_2 x34_2).f0), .int .i64 0, .int .i64 0]) ?_ 1 _ rfl; refine bD_ ?_; refine blk_put (cs := #[.string (⟨#[]⟩ : ByteArray), .int .i64 0, .int .i64 0]) ?_ 0 _ rfl; refine bD_ ?_; exact BK199.out) hb); have n2_ := Aside0.mk (below_step m16_ hb); clear BK191; clear BK199; clear HB; have BK191 := n0_; have BK199 := n1_; have HB := n2_; clear n0_ n1_ n2_; (try clear hb); (try clear hb2); (try clear hk); (try clear hi); obtain ⟨hcz49_0, hcz49_1, hcz49_2⟩ := bc3_ BK199.out; obtain ⟨hfz49_0, hfz49_1, hfz49_2⟩ := bf3_ BK199.out))
    go_ret
    exact ⟨by first | rfl | (simp [errW_none, errW_some] <;> rfl) | (simp [*, errW_none, errW_some] <;> rfl), m62_⟩
   rw [if_neg c44] at H
   have c44b0 : decide (((rd_T35 l0_2 x34_2).f2) < a3) = false := decide_eq_false c44
   clear c44
   have H' := Aside0.mk H
   clear H
   have p198 : 0 ≤ (x34_2 : Int) := of_decide_eq_true m54_
   have q198 : x34_2 < (l0_2.length : Int) := of_decide_eq_true m54_
   obtain ⟨ad198, e198, hx198_0, hx198_1, hx198_2⟩ := at_T35 HR0_2.out x34_2 p198 q198
   cases e198
   replace hx198_0 := (HB.out.cell (World.block_lt_of_cell? w _ hx198_0)).trans hx198_0
   replace hx198_1 := (HB.out.cell (World.block_lt_of_cell? w _ hx198_1)).trans hx198_1
   replace hx198_2 := (HB.out.cell (World.block_lt_of_cell? w _ hx198_2)).trans hx198_2
   replace p198 := eq_true p198
   replace q198 := eq_true q198
   go_wp2_with (first | ((with_reducible refine gate_dst (N := 10) rfl ?_); refine box_event ?hg (N := 10) ?hd (cs := #[.string (⟨#[]⟩ : ByteArray), .int .i64 0, .int .i64 0]) (t := 35) ?hr ?_; (case hd => rfl); (case hg => rfl); (case hr => first | (go_simp; done) | (go_simp; rfl)); intro gb199 hg w50 hbox hb; have n0_ := Aside0.mk (blk_below (g := gb191) (o := .cells #[.int .i64 a0_0, .int .i64 a0_1, .slice (some ad198) l0_2.length c0_2, .string a0_3] 25 (0, 0)) m37_ hb); have n1_ := Aside0.mk (below_step m17_ hb); have n2_ := Aside0.mk (hbox); have n3_ := Aside0.mk ((by rw [hg]; exact (below_size m17_) : w.heap.size ≤ gb199)); have n4_ := Aside0.mk ((by rw [hg]; exact (below_size m17_) : w.heap.size ≤ gb199)); have n5_ := Aside0.mk ((by rw [hg]; exact Nat.ne_of_lt (blk_lt (g := gb191) (o := .cells #[.int .i64 a0_0, .int .i64 a0_1, .slice (some ad198) l0_2.length c0_2, .string a0_3] 25 (0, 0)) m37_) : gb191 ≠ gb199)); have n6_ := Aside0.mk ((by rw [hg]; exact Nat.ne_of_gt (blk_lt (g := gb191) (o := .cells #[.int .i64 a0_0, .int .i64 a0_1, .slice (some ad198) l0_2.length c0_2, .string a0_3] 25 (0, 0)) m37_) : gb199 ≠ gb191)); clear BK191; clear HB; have BK191 := n0_; have HB := n1_; have BK199 := n2_; have GW199 := n3_; have GE199 := n4_; have NB191_199 := n5_; have NB199_191 := n6_; clear n0_ n1_ n2_ n3_ n4_ n5_ n6_; clear hb hbox hg; have hnb51 := NB199_191.out; have hnc51 := NB191_199.out; obtain ⟨hcz52_0, hcz52_1, hcz52_2⟩ := bc3_ BK199.out; obtain ⟨hfz52_0, hfz52_1, hfz52_2⟩ := bf3_ BK199.out) | ((with_reducible refine gate_callee (f := 41) rfl ?_); refine goesL_ (some 41) rfl rfl Tryd.func41 (by kernel_rfl) rfl #[.string ((rd_T35 l0_2 x34_2).f0), .string a2] rfl m30_ ?_; (with_reducible refine (path_Covers.calls ((rd_T35 l0_2 x34_2).f0) a2 true _ A36.out).mono ?_); rintro e w53 ⟨rfl, hb⟩; refine ⟨_, rfl, ?_⟩; have n0_ := Aside0.mk (blk_below (g := gb191) (o := .cells #[.int .i64 a0_0, .int .i64 a0_1, .slice (some ad198) l0_2.length c0_2, .string a0_3] 25 (0, 0)) m4_ hb); have n1_ := Aside0.mk (blk_below (g := gb199) (o := .cells #[.string ((rd_T35 l0_2 x34_2).f0), .int .i64 ((rd_T35 l0_2 x34_2).f1), .int .i64 ((rd_T35 l0_2 x34_2).f2)] 35 (0, 0)) (by refine bD_ ?_; refine blk_put (cs := #[.string ((rd_T35 l0_2 x34_2).f0), .int .i64 ((rd_T35 l0_2 x34_2).f1), .int .i64 0]) ?_ 2 _ rfl; refine bD_ ?_; refine blk_put (cs := #[.string ((rd_T35 l0_2 x34_2).f0), .int .i64 0, .int .i64 0]) ?_ 1 _ rfl; refine bD_ ?_; refine blk_put (cs := #[.string (⟨#[]⟩ : ByteArray), .int .i64 0, .int .i64 0]) ?_ 0 _ rfl; refine bD_ ?_; exact BK199.out) hb); have n2_ := Aside0.mk (below_step m16_ hb); clear BK191; clear BK199; clear HB; have BK191 := n0_; have BK199 := n1_; have HB := n2_; clear n0_ n1_ n2_; (try clear hb); (try clear hb2); (try clear hk); (try clear hi); obtain ⟨hcz54_0, hcz54_1, hcz54_2⟩ := bc3_ BK199.out; obtain ⟨hfz54_0, hfz54_1, hfz54_2⟩ := bf3_ BK199.out))
   go_roundg k2
   case measure => have := HJ4.out; have := HK2.out; omega
   case rel => exact ⟨(wrap64 (x34_2 + 1)), m55_, H', ⟨by have := HJ4.out; have := HK2.out; omega⟩, ⟨by refine bD_ ?_; exact BK191.out⟩, ⟨m62_⟩⟩

/-! ### strongroomlaw12_lives: function 10 -/
def strongroomlaw12_lives.f (k : Nat)  : Option (Bool) := (cap_Mint.f k (⟨#[115]⟩ : ByteArray) 1 5).bind fun bt201 => ((cap_Narrow.f k bt201.1 bt201.2.1 bt201.2.2.1 bt201.2.2.2.1 (⟨#[97]⟩ : ByteArray) 1 9).bind fun bt209 => (if bt201.2.2.2.2 = 0 then (if bt209.2.2.2.2 = 0 then ((cap_Lets.f k bt209.1 bt209.2.1 bt209.2.2.1 bt209.2.2.2.1 1 (⟨#[97, 47, 98]⟩ : ByteArray) 9).bind fun t217 => (if t217 = true then ((cap_Lets.f k bt209.1 bt209.2.1 bt209.2.2.1 bt209.2.2.2.1 2 (⟨#[97]⟩ : ByteArray) 9).bind fun t218 => (if t218 = true then (some false) else ((cap_Lets.f k bt209.1 bt209.2.1 bt209.2.2.1 bt209.2.2.2.1 1 (⟨#[98]⟩ : ByteArray) 9).bind fun t219 => (if t219 = true then (some false) else ((cap_Lets.f k bt209.1 bt209.2.1 bt209.2.2.1 bt209.2.2.2.1 1 (⟨#[97]⟩ : ByteArray) 10).bind fun t220 => (if t220 = true then (some false) else ((cap_Check.f k (⟨#[115]⟩ : ByteArray) bt209.1 bt209.2.1 bt209.2.2.1 bt209.2.2.2.1).bind fun t221 => (some t221)))))))) else (some false))) else (some false)) else (some false)))
theorem strongroomlaw12_lives.mono : ∀ k, LeO (strongroomlaw12_lives.f k ) (strongroomlaw12_lives.f (k + 1) ) := by
 intro  k
 unfold strongroomlaw12_lives.f
 repeat' first
   | (with_reducible exact cap_Check.mono _ _ _ _ _ _)
   | (with_reducible exact cap_Lets.mono _ _ _ _ _ _ _ _)
   | (with_reducible exact cap_Mint.mono _ _ _ _)
   | (with_reducible exact cap_Narrow.mono _ _ _ _ _ _ _ _)
   | (with_reducible exact LeO.refl _)
   | (with_reducible exact LeO.none _)
   | (with_reducible refine LeO.ite ?_ ?_)
   | (with_reducible refine LeO.bind ?_ (fun _ => ?_))
   | exact cap_Check.mono _ _ _ _ _ _
   | exact cap_Lets.mono _ _ _ _ _ _ _ _
   | exact cap_Mint.mono _ _ _ _
   | exact cap_Narrow.mono _ _ _ _ _ _ _ _
   | exact LeO.none _
   | refine LeO.ite ?_ ?_
   | refine LeO.bind ?_ (fun _ => ?_)
set_option maxHeartbeats 8000000 in
set_option maxRecDepth 100000 in
theorem strongroomlaw12_lives.calls (k : Nat)  (r : Bool) (w : World) (h : strongroomlaw12_lives.f k  = some r) (hr_ : r = true) :
  Calls Tryd.prog 10 #[] w fun e w' => e = .returned (.bool r) ∧ Below w.heap.size w w' := by
 have hu25 := Tryd.underlying25
 have hu35 := Tryd.underlying35
 have HB := Aside0.mk (Below.refl w.heap.size w)
 have H : ((cap_Mint.f k (⟨#[115]⟩ : ByteArray) 1 5).bind fun bt201 => ((cap_Narrow.f k bt201.1 bt201.2.1 bt201.2.2.1 bt201.2.2.2.1 (⟨#[97]⟩ : ByteArray) 1 9).bind fun bt209 => (if bt201.2.2.2.2 = 0 then (if bt209.2.2.2.2 = 0 then ((cap_Lets.f k bt209.1 bt209.2.1 bt209.2.2.1 bt209.2.2.2.1 1 (⟨#[97, 47, 98]⟩ : ByteArray) 9).bind fun t217 => (if t217 = true then ((cap_Lets.f k bt209.1 bt209.2.1 bt209.2.2.1 bt209.2.2.2.1 2 (⟨#[97]⟩ : ByteArray) 9).bind fun t218 => (if t218 = true then (some false) else ((cap_Lets.f k bt209.1 bt209.2.1 bt209.2.2.1 bt209.2.2.2.1 1 (⟨#[98]⟩ : ByteArray) 9).bind fun t219 => (if t219 = true then (some false) else ((cap_Lets.f k bt209.1 bt209.2.1 bt209.2.2.1 bt209.2.2.2.1 1 (⟨#[97]⟩ : ByteArray) 10).bind fun t220 => (if t220 = true then (some false) else ((cap_Check.f k (⟨#[115]⟩ : ByteArray) bt209.1 bt209.2.1 bt209.2.2.1 bt209.2.2.2.1).bind fun t221 => (some t221)))))))) else (some false))) else (some false)) else (some false)))) = some r := h
 clear h
 replace H := Option.bind_eq_some_iff.mp H
 obtain ⟨⟨t201, t202, t203, t206, t207⟩, A10, H⟩ := H
 replace H : ((cap_Narrow.f k t201 t202 t203 t206 (⟨#[97]⟩ : ByteArray) 1 9).bind fun bt209 => (if t207 = 0 then (if bt209.2.2.2.2 = 0 then ((cap_Lets.f k bt209.1 bt209.2.1 bt209.2.2.1 bt209.2.2.2.1 1 (⟨#[97, 47, 98]⟩ : ByteArray) 9).bind fun t217 => (if t217 = true then ((cap_Lets.f k bt209.1 bt209.2.1 bt209.2.2.1 bt209.2.2.2.1 2 (⟨#[97]⟩ : ByteArray) 9).bind fun t218 => (if t218 = true then (some false) else ((cap_Lets.f k bt209.1 bt209.2.1 bt209.2.2.1 bt209.2.2.2.1 1 (⟨#[98]⟩ : ByteArray) 9).bind fun t219 => (if t219 = true then (some false) else ((cap_Lets.f k bt209.1 bt209.2.1 bt209.2.2.1 bt209.2.2.2.1 1 (⟨#[97]⟩ : ByteArray) 10).bind fun t220 => (if t220 = true then (some false) else ((cap_Check.f k (⟨#[115]⟩ : ByteArray) bt209.1 bt209.2.1 bt209.2.2.1 bt209.2.2.2.1).bind fun t221 => (some t221)))))))) else (some false))) else (some false)) else (some false))) = some r := H
 have A1 := Aside0.mk A10
 clear A10
 replace H := Option.bind_eq_some_iff.mp H
 obtain ⟨⟨t209, t210, t211, t214, t215⟩, A20, H⟩ := H
 replace H : (if t207 = 0 then (if t215 = 0 then ((cap_Lets.f k t209 t210 t211 t214 1 (⟨#[97, 47, 98]⟩ : ByteArray) 9).bind fun t217 => (if t217 = true then ((cap_Lets.f k t209 t210 t211 t214 2 (⟨#[97]⟩ : ByteArray) 9).bind fun t218 => (if t218 = true then (some false) else ((cap_Lets.f k t209 t210 t211 t214 1 (⟨#[98]⟩ : ByteArray) 9).bind fun t219 => (if t219 = true then (some false) else ((cap_Lets.f k t209 t210 t211 t214 1 (⟨#[97]⟩ : ByteArray) 10).bind fun t220 => (if t220 = true then (some false) else ((cap_Check.f k (⟨#[115]⟩ : ByteArray) t209 t210 t211 t214).bind fun t221 => (some t221)))))))) else (some false))) else (some false)) else (some false)) = some r := H
 have A2 := Aside0.mk A20
 clear A20
 by_cases c3 : t207 = 0
 case neg =>
  rw [if_neg c3] at H
  have c3b0 : (t207 == 0) = false := beq_eq_false_iff_ne.mpr c3
  have c3b1 : (t207 != 0) = true := bne_iff_ne.mpr c3
  exact absurd ((Option.some.inj H).trans hr_) (by decide)
 rw [if_pos c3] at H
 have c3b0 : (t207 == 0) = true := beq_iff_eq.mpr c3
 have c3b1 : (t207 != 0) = false := bne_eq_false_iff_eq.mpr c3
 clear c3
 by_cases c4 : t215 = 0
 case neg =>
  rw [if_neg c4] at H
  have c4b0 : (t215 == 0) = false := beq_eq_false_iff_ne.mpr c4
  have c4b1 : (t215 != 0) = true := bne_iff_ne.mpr c4
  exact absurd ((Option.some.inj H).trans hr_) (by decide)
 rw [if_pos c4] at H
 have c4b0 : (t215 == 0) = true := beq_iff_eq.mpr c4
 have c4b1 : (t215 != 0) = false := bne_eq_false_iff_eq.mpr c4
 clear c4
 replace H := Option.bind_eq_some_iff.mp H
 obtain ⟨t217, A50, H⟩ := H
 replace H : (if t217 = true then ((cap_Lets.f k t209 t210 t211 t214 2 (⟨#[97]⟩ : ByteArray) 9).bind fun t218 => (if t218 = true then (some false) else ((cap_Lets.f k t209 t210 t211 t214 1 (⟨#[98]⟩ : ByteArray) 9).bind fun t219 => (if t219 = true then (some false) else ((cap_Lets.f k t209 t210 t211 t214 1 (⟨#[97]⟩ : ByteArray) 10).bind fun t220 => (if t220 = true then (some false) else ((cap_Check.f k (⟨#[115]⟩ : ByteArray) t209 t210 t211 t214).bind fun t221 => (some t221)))))))) else (some false)) = some r := H
 have A5 := Aside0.mk A50
 clear A50
 by_cases c6 : t217 = true
 case neg =>
  replace c6 := Bool.eq_false_iff.mpr c6
  subst c6
  have H1 : (some false) = some r := by rw [if_neg (show ¬ (false = true) by decide)] at H; exact H
  clear H
  have H := H1
  clear H1
  exact absurd ((Option.some.inj H).trans hr_) (by decide)
 subst c6
 have H1 : ((cap_Lets.f k t209 t210 t211 t214 2 (⟨#[97]⟩ : ByteArray) 9).bind fun t218 => (if t218 = true then (some false) else ((cap_Lets.f k t209 t210 t211 t214 1 (⟨#[98]⟩ : ByteArray) 9).bind fun t219 => (if t219 = true then (some false) else ((cap_Lets.f k t209 t210 t211 t214 1 (⟨#[97]⟩ : ByteArray) 10).bind fun t220 => (if t220 = true then (some false) else ((cap_Check.f k (⟨#[115]⟩ : ByteArray) t209 t210 t211 t214).bind fun t221 => (some t221)))))))) = some r := by rw [if_pos rfl] at H; exact H
 clear H
 have H := H1
 clear H1
 replace H := Option.bind_eq_some_iff.mp H
 obtain ⟨t218, A70, H⟩ := H
 replace H : (if t218 = true then (some false) else ((cap_Lets.f k t209 t210 t211 t214 1 (⟨#[98]⟩ : ByteArray) 9).bind fun t219 => (if t219 = true then (some false) else ((cap_Lets.f k t209 t210 t211 t214 1 (⟨#[97]⟩ : ByteArray) 10).bind fun t220 => (if t220 = true then (some false) else ((cap_Check.f k (⟨#[115]⟩ : ByteArray) t209 t210 t211 t214).bind fun t221 => (some t221))))))) = some r := H
 have A7 := Aside0.mk A70
 clear A70
 by_cases c8 : t218 = true
 ·subst c8
  have H1 : (some false) = some r := by rw [if_pos rfl] at H; exact H
  clear H
  have H := H1
  clear H1
  exact absurd ((Option.some.inj H).trans hr_) (by decide)
 replace c8 := Bool.eq_false_iff.mpr c8
 subst c8
 have H1 : ((cap_Lets.f k t209 t210 t211 t214 1 (⟨#[98]⟩ : ByteArray) 9).bind fun t219 => (if t219 = true then (some false) else ((cap_Lets.f k t209 t210 t211 t214 1 (⟨#[97]⟩ : ByteArray) 10).bind fun t220 => (if t220 = true then (some false) else ((cap_Check.f k (⟨#[115]⟩ : ByteArray) t209 t210 t211 t214).bind fun t221 => (some t221)))))) = some r := by rw [if_neg (show ¬ (false = true) by decide)] at H; exact H
 clear H
 have H := H1
 clear H1
 replace H := Option.bind_eq_some_iff.mp H
 obtain ⟨t219, A210, H⟩ := H
 replace H : (if t219 = true then (some false) else ((cap_Lets.f k t209 t210 t211 t214 1 (⟨#[97]⟩ : ByteArray) 10).bind fun t220 => (if t220 = true then (some false) else ((cap_Check.f k (⟨#[115]⟩ : ByteArray) t209 t210 t211 t214).bind fun t221 => (some t221))))) = some r := H
 have A21 := Aside0.mk A210
 clear A210
 by_cases c22 : t219 = true
 ·subst c22
  have H1 : (some false) = some r := by rw [if_pos rfl] at H; exact H
  clear H
  have H := H1
  clear H1
  exact absurd ((Option.some.inj H).trans hr_) (by decide)
 replace c22 := Bool.eq_false_iff.mpr c22
 subst c22
 have H1 : ((cap_Lets.f k t209 t210 t211 t214 1 (⟨#[97]⟩ : ByteArray) 10).bind fun t220 => (if t220 = true then (some false) else ((cap_Check.f k (⟨#[115]⟩ : ByteArray) t209 t210 t211 t214).bind fun t221 => (some t221)))) = some r := by rw [if_neg (show ¬ (false = true) by decide)] at H; exact H
 clear H
 have H := H1
 clear H1
 replace H := Option.bind_eq_some_iff.mp H
 obtain ⟨t220, A370, H⟩ := H
 replace H : (if t220 = true then (some false) else ((cap_Check.f k (⟨#[115]⟩ : ByteArray) t209 t210 t211 t214).bind fun t221 => (some t221))) = some r := H
 have A37 := Aside0.mk A370
 clear A370
 by_cases c38 : t220 = true
 ·subst c38
  have H1 : (some false) = some r := by rw [if_pos rfl] at H; exact H
  clear H
  have H := H1
  clear H1
  exact absurd ((Option.some.inj H).trans hr_) (by decide)
 replace c38 := Bool.eq_false_iff.mpr c38
 subst c38
 have H1 : ((cap_Check.f k (⟨#[115]⟩ : ByteArray) t209 t210 t211 t214).bind fun t221 => (some t221)) = some r := by rw [if_neg (show ¬ (false = true) by decide)] at H; exact H
 clear H
 have H := H1
 clear H1
 replace H := Option.bind_eq_some_iff.mp H
 obtain ⟨t221, A550, H⟩ := H
 replace H : (some t221) = some r := H
 have A55 := Aside0.mk A550
 clear A550
 obtain rfl := Option.some.inj H
 go_enter Tryd.func10, Tryd.ntmps10
 go_wp2_with (first | ((with_reducible refine gate_callee (f := 11) rfl ?_); refine goesL_ (some 6) rfl rfl Tryd.func11 (by kernel_rfl) rfl #[.string (⟨#[115]⟩ : ByteArray), .int .i64 1, .int .i64 5] rfl m30_ ?_; (with_reducible refine (cap_Mint.calls k (⟨#[115]⟩ : ByteArray) 1 5 t201 t202 t203 t206 t207 _ A1.out).mono ?_); rintro e w56 ⟨v204, rfl, ho0, hb⟩; refine ⟨_, rfl, ?_⟩; have HO205 := Aside0.mk (Kd.R_lower ho0 (below_size m31_)); replace HB := Aside0.mk (below_step m31_ hb); (try clear hb); (try clear hb2); (try clear hk); (try clear hi); (try clear ho0)) | ((with_reducible refine gate_dst (N := 1) rfl ?_); refine box_event ?hg (N := 1) ?hd (cs := #[.int .i64 0, .int .i64 0, .slice none 0 0, .string (⟨#[]⟩ : ByteArray)]) (t := 25) ?hr ?_; (case hd => rfl); (case hg => rfl); (case hr => first | (go_simp; done) | (go_simp; rfl)); intro gb208 hg w57 hbox hb; have n0_ := Aside0.mk (Kd.R_below m53_ hb); have n1_ := Aside0.mk (below_step m31_ hb); have n2_ := Aside0.mk (hbox); have n3_ := Aside0.mk ((by rw [hg]; exact (below_size m31_) : w.heap.size ≤ gb208)); have n4_ := Aside0.mk ((by rw [hg]; exact (below_size m31_) : w.heap.size ≤ gb208)); clear HO205; clear HB; have HO205 := n0_; have HB := n1_; have BK208 := n2_; have GW208 := n3_; have GE208 := n4_; clear n0_ n1_ n2_ n3_ n4_; clear hb hbox hg; obtain ⟨hcz58_0, hcz58_1, hcz58_2, hcz58_3⟩ := bc4_ BK208.out; obtain ⟨hfz58_0, hfz58_1, hfz58_2, hfz58_3⟩ := bf4_ BK208.out; obtain ⟨Ao59, co59, eo59⟩ := Kd.R_slice HO205.out; subst eo59) | ((with_reducible refine gate_callee (f := 16) rfl ?_); refine goesL_ (some 12) rfl rfl Tryd.func16 (by kernel_rfl) rfl #[.agg #[.int .i64 t201, .int .i64 t202, .slice Ao59 t203.length co59, .string t206], .agg #[.string (⟨#[97]⟩ : ByteArray), .int .i64 1, .int .i64 9]] rfl m30_ ?_; (with_reducible refine (cap_Narrow.calls k t201 t202 _ _ t203 t206 (⟨#[97]⟩ : ByteArray) 1 9 t209 t210 t211 t214 t215 _ ?side1 ?side2 A2.out).mono ?_); (case side1 => refine (Kd.R_reads' (e := 35) (base := w.heap.size) (ok := fun k_ => True) (n := t203.length) (c := co59) ?_).2.2; exact (by refine rD_ ?_; exact (Kd.R_mono (Kd.R_far (p := ⟨gb208, 3, none⟩) (Kd.R_far (p := ⟨gb208, 2, none⟩) (Kd.R_far (p := ⟨gb208, 1, none⟩) (Kd.R_far (p := ⟨gb208, 0, none⟩) (Kd.R_types HO205.out BK208.out (by decide)) (fun _ hk => hk.2) (.int .i64 t201)) (fun _ hk => hk.2) (.int .i64 t202)) (fun _ hk => hk.2) (.slice Ao59 t203.length co59)) (fun _ hk => hk.2) (.string t206)) (fun _ h_ => h_.1)))); (case side2 => exact (Kd.R_reads' HO205.out).2.1); rintro e w60 ⟨v212, rfl, ho0, hb⟩; refine ⟨_, rfl, ?_⟩; have n0_ := Aside0.mk (Kd.R_elder' (by refine rD_ ?_; exact (Kd.R_mono (Kd.R_far (p := ⟨gb208, 3, none⟩) (Kd.R_far (p := ⟨gb208, 2, none⟩) (Kd.R_far (p := ⟨gb208, 1, none⟩) (Kd.R_far (p := ⟨gb208, 0, none⟩) (Kd.R_types HO205.out BK208.out (by decide)) (fun _ hk => hk.2) (.int .i64 t201)) (fun _ hk => hk.2) (.int .i64 t202)) (fun _ hk => hk.2) (.slice Ao59 t203.length co59)) (fun _ hk => hk.2) (.string t206)) (fun _ h_ => h_.1))) (Kd.R_base ho0) hb); have n1_ := Aside0.mk (Kd.R_lower (Kd.R_new' ho0 (Kd.R_lt (by refine rD_ ?_; exact (Kd.R_mono (Kd.R_far (p := ⟨gb208, 3, none⟩) (Kd.R_far (p := ⟨gb208, 2, none⟩) (Kd.R_far (p := ⟨gb208, 1, none⟩) (Kd.R_far (p := ⟨gb208, 0, none⟩) (Kd.R_types HO205.out BK208.out (by decide)) (fun _ hk => hk.2) (.int .i64 t201)) (fun _ hk => hk.2) (.int .i64 t202)) (fun _ hk => hk.2) (.slice Ao59 t203.length co59)) (fun _ hk => hk.2) (.string t206)) (fun _ h_ => h_.1))))) (below_size m26_)); have n2_ := Aside0.mk (blk_below (g := gb208) (o := .cells #[.int .i64 t201, .int .i64 t202, .slice Ao59 t203.length co59, .string t206] 25 (0, 0)) (by refine bD_ ?_; refine blk_put (cs := #[.int .i64 t201, .int .i64 t202, .slice Ao59 t203.length co59, .string (⟨#[]⟩ : ByteArray)]) ?_ 3 _ rfl; refine bD_ ?_; refine blk_put (cs := #[.int .i64 t201, .int .i64 t202, .slice none 0 0, .string (⟨#[]⟩ : ByteArray)]) ?_ 2 _ rfl; refine bD_ ?_; refine blk_put (cs := #[.int .i64 t201, .int .i64 0, .slice none 0 0, .string (⟨#[]⟩ : ByteArray)]) ?_ 1 _ rfl; refine bD_ ?_; refine blk_put (cs := #[.int .i64 0, .int .i64 0, .slice none 0 0, .string (⟨#[]⟩ : ByteArray)]) ?_ 0 _ rfl; refine bD_ ?_; exact BK208.out) hb); have n3_ := Aside0.mk (below_step m26_ hb); clear HO205; clear BK208; clear HB; have HO205 := n0_; have HO213 := n1_; have BK208 := n2_; have HB := n3_; clear n0_ n1_ n2_ n3_; (try clear hb); (try clear hb2); (try clear hk); (try clear hi); (try clear ho0)) | ((with_reducible refine gate_dst (N := 3) rfl ?_); refine box_event ?hg (N := 3) ?hd (cs := #[.int .i64 0, .int .i64 0, .slice none 0 0, .string (⟨#[]⟩ : ByteArray)]) (t := 25) ?hr ?_; (case hd => rfl); (case hg => rfl); (case hr => first | (go_simp; done) | (go_simp; rfl)); intro gb216 hg w61 hbox hb; have n0_ := Aside0.mk (Kd.R_below m53_ hb); have n1_ := Aside0.mk (Kd.R_below (rD_ HO213.out) hb); have n2_ := Aside0.mk (blk_below (g := gb208) (o := .cells #[.int .i64 t201, .int .i64 t202, .slice Ao59 t203.length co59, .string t206] 25 (0, 0)) m46_ hb); have n3_ := Aside0.mk (below_step m26_ hb); have n4_ := Aside0.mk (hbox); have n5_ := Aside0.mk ((by rw [hg]; exact (below_size m26_) : w.heap.size ≤ gb216)); have n6_ := Aside0.mk ((by rw [hg]; exact (below_size m26_) : w.heap.size ≤ gb216)); have n7_ := Aside0.mk ((by rw [hg]; exact Nat.ne_of_lt (blk_lt (g := gb208) (o := .cells #[.int .i64 t201, .int .i64 t202, .slice Ao59 t203.length co59, .string t206] 25 (0, 0)) m46_) : gb208 ≠ gb216)); have n8_ := Aside0.mk ((by rw [hg]; exact Nat.ne_of_gt (blk_lt (g := gb208) (o := .cells #[.int .i64 t201, .int .i64 t202, .slice Ao59 t203.length co59, .string t206] 25 (0, 0)) m46_) : gb216 ≠ gb208)); clear HO205; clear HO213; clear BK208; clear HB; have HO205 := n0_; have HO213 := n1_; have BK208 := n2_; have HB := n3_; have BK216 := n4_; have GW216 := n5_; have GE216 := n6_; have NB208_216 := n7_; have NB216_208 := n8_; clear n0_ n1_ n2_ n3_ n4_ n5_ n6_ n7_ n8_; clear hb hbox hg; have hnb62 := NB216_208.out; have hnc62 := NB208_216.out; obtain ⟨hcz63_0, hcz63_1, hcz63_2, hcz63_3⟩ := bc4_ BK216.out; obtain ⟨hfz63_0, hfz63_1, hfz63_2, hfz63_3⟩ := bf4_ BK216.out; obtain ⟨Ao64, co64, eo64⟩ := Kd.R_slice HO213.out; subst eo64) | (go_at_call 22; (with_reducible refine (cap_Lets.calls k t209 t210 _ _ t211 t214 1 (⟨#[97, 47, 98]⟩ : ByteArray) 9 true _ ?side1 ?side2 A5.out).mono ?_); (case side1 => refine (Kd.R_reads' (e := 35) (base := w.heap.size) (ok := fun k_ => (True ∧ some k_ ≠ (.slice Ao59 t203.length co59 : Value).ownBlock)) (n := t211.length) (c := co64) ?_).2.2; exact (by refine rD_ ?_; exact (Kd.R_mono (Kd.R_far (p := ⟨gb216, 3, none⟩) (Kd.R_far (p := ⟨gb216, 2, none⟩) (Kd.R_far (p := ⟨gb216, 1, none⟩) (Kd.R_far (p := ⟨gb216, 0, none⟩) (Kd.R_types HO213.out BK216.out (by decide)) (fun _ hk => hk.2) (.int .i64 t209)) (fun _ hk => hk.2) (.int .i64 t210)) (fun _ hk => hk.2) (.slice Ao64 t211.length co64)) (fun _ hk => hk.2) (.string t214)) (fun _ h_ => h_.1)))); (case side2 => exact (Kd.R_reads' HO213.out).2.1); rintro e w65 ⟨rfl, hb⟩; have n0_ := Aside0.mk (Kd.R_below (by refine rD_ ?_; exact (Kd.R_mono (Kd.R_far (p := ⟨gb216, 3, none⟩) (Kd.R_far (p := ⟨gb216, 2, none⟩) (Kd.R_far (p := ⟨gb216, 1, none⟩) (Kd.R_far (p := ⟨gb216, 0, none⟩) (Kd.R_types HO205.out BK216.out (by decide)) (fun _ hk => hk.2) (.int .i64 t209)) (fun _ hk => hk.2) (.int .i64 t210)) (fun _ hk => hk.2) (.slice Ao64 t211.length co64)) (fun _ hk => hk.2) (.string t214)) (fun _ h_ => h_.1))) hb); have n1_ := Aside0.mk (Kd.R_below (by refine rD_ ?_; exact (Kd.R_mono (Kd.R_far (p := ⟨gb216, 3, none⟩) (Kd.R_far (p := ⟨gb216, 2, none⟩) (Kd.R_far (p := ⟨gb216, 1, none⟩) (Kd.R_far (p := ⟨gb216, 0, none⟩) (Kd.R_types HO213.out BK216.out (by decide)) (fun _ hk => hk.2) (.int .i64 t209)) (fun _ hk => hk.2) (.int .i64 t210)) (fun _ hk => hk.2) (.slice Ao64 t211.length co64)) (fun _ hk => hk.2) (.string t214)) (fun _ h_ => h_.1))) hb); have n2_ := Aside0.mk (blk_below (g := gb208) (o := .cells #[.int .i64 t201, .int .i64 t202, .slice Ao59 t203.length co59, .string t206] 25 (0, 0)) (by refine bD_ ?_; refine blk_far ?_ NB208_216.out _; refine bD_ ?_; refine blk_far ?_ NB208_216.out _; refine bD_ ?_; refine blk_far ?_ NB208_216.out _; refine bD_ ?_; refine blk_far ?_ NB208_216.out _; refine bD_ ?_; exact BK208.out) hb); have n3_ := Aside0.mk (blk_below (g := gb216) (o := .cells #[.int .i64 t209, .int .i64 t210, .slice Ao64 t211.length co64, .string t214] 25 (0, 0)) (by refine bD_ ?_; refine blk_put (cs := #[.int .i64 t209, .int .i64 t210, .slice Ao64 t211.length co64, .string (⟨#[]⟩ : ByteArray)]) ?_ 3 _ rfl; refine bD_ ?_; refine blk_put (cs := #[.int .i64 t209, .int .i64 t210, .slice none 0 0, .string (⟨#[]⟩ : ByteArray)]) ?_ 2 _ rfl; refine bD_ ?_; refine blk_put (cs := #[.int .i64 t209, .int .i64 0, .slice none 0 0, .string (⟨#[]⟩ : ByteArray)]) ?_ 1 _ rfl; refine bD_ ?_; refine blk_put (cs := #[.int .i64 0, .int .i64 0, .slice none 0 0, .string (⟨#[]⟩ : ByteArray)]) ?_ 0 _ rfl; refine bD_ ?_; exact BK216.out) hb); have n4_ := Aside0.mk (below_step m14_ hb); clear HO205; clear HO213; clear BK208; clear BK216; clear HB; have HO205 := n0_; have HO213 := n1_; have BK208 := n2_; have BK216 := n3_; have HB := n4_; clear n0_ n1_ n2_ n3_ n4_; (try clear hb); (try clear hb2); (try clear hk); (try clear hi); obtain ⟨hcz66_0, hcz66_1, hcz66_2, hcz66_3⟩ := bc4_ BK216.out; obtain ⟨hfz66_0, hfz66_1, hfz66_2, hfz66_3⟩ := bf4_ BK216.out) | (go_at_call 22; (with_reducible refine (cap_Lets.calls k t209 t210 _ _ t211 t214 2 (⟨#[97]⟩ : ByteArray) 9 false _ ?side1 ?side2 A7.out).mono ?_); (case side1 => exact m67_); (case side2 => exact (Kd.R_reads' HO213.out).2.1); rintro e w67 ⟨rfl, hb⟩; have n0_ := Aside0.mk (Kd.R_below m53_ hb); have n1_ := Aside0.mk (Kd.R_below (rD_ HO213.out) hb); have n2_ := Aside0.mk (blk_below (g := gb208) (o := .cells #[.int .i64 t201, .int .i64 t202, .slice Ao59 t203.length co59, .string t206] 25 (0, 0)) m46_ hb); have n3_ := Aside0.mk (blk_below (g := gb216) (o := .cells #[.int .i64 t209, .int .i64 t210, .slice Ao64 t211.length co64, .string t214] 25 (0, 0)) (bD_ BK216.out) hb); have n4_ := Aside0.mk (below_step m14_ hb); clear HO205; clear HO213; clear BK208; clear BK216; clear HB; have HO205 := n0_; have HO213 := n1_; have BK208 := n2_; have BK216 := n3_; have HB := n4_; clear n0_ n1_ n2_ n3_ n4_; (try clear hb); (try clear hb2); (try clear hk); (try clear hi); obtain ⟨hcz68_0, hcz68_1, hcz68_2, hcz68_3⟩ := bc4_ BK216.out; obtain ⟨hfz68_0, hfz68_1, hfz68_2, hfz68_3⟩ := bf4_ BK216.out) | (go_at_call 22; (with_reducible refine (cap_Lets.calls k t209 t210 _ _ t211 t214 1 (⟨#[98]⟩ : ByteArray) 9 false _ ?side1 ?side2 A21.out).mono ?_); (case side1 => exact m67_); (case side2 => exact (Kd.R_reads' HO213.out).2.1); rintro e w69 ⟨rfl, hb⟩; have n0_ := Aside0.mk (Kd.R_below m53_ hb); have n1_ := Aside0.mk (Kd.R_below (rD_ HO213.out) hb); have n2_ := Aside0.mk (blk_below (g := gb208) (o := .cells #[.int .i64 t201, .int .i64 t202, .slice Ao59 t203.length co59, .string t206] 25 (0, 0)) m46_ hb); have n3_ := Aside0.mk (blk_below (g := gb216) (o := .cells #[.int .i64 t209, .int .i64 t210, .slice Ao64 t211.length co64, .string t214] 25 (0, 0)) (bD_ BK216.out) hb); have n4_ := Aside0.mk (below_step m14_ hb); clear HO205; clear HO213; clear BK208; clear BK216; clear HB; have HO205 := n0_; have HO213 := n1_; have BK208 := n2_; have BK216 := n3_; have HB := n4_; clear n0_ n1_ n2_ n3_ n4_; (try clear hb); (try clear hb2); (try clear hk); (try clear hi); obtain ⟨hcz70_0, hcz70_1, hcz70_2, hcz70_3⟩ := bc4_ BK216.out; obtain ⟨hfz70_0, hfz70_1, hfz70_2, hfz70_3⟩ := bf4_ BK216.out) | (go_at_call 22; (with_reducible refine (cap_Lets.calls k t209 t210 _ _ t211 t214 1 (⟨#[97]⟩ : ByteArray) 10 false _ ?side1 ?side2 A37.out).mono ?_); (case side1 => exact m67_); (case side2 => exact (Kd.R_reads' HO213.out).2.1); rintro e w71 ⟨rfl, hb⟩; have n0_ := Aside0.mk (Kd.R_below m53_ hb); have n1_ := Aside0.mk (Kd.R_below (rD_ HO213.out) hb); have n2_ := Aside0.mk (blk_below (g := gb208) (o := .cells #[.int .i64 t201, .int .i64 t202, .slice Ao59 t203.length co59, .string t206] 25 (0, 0)) m46_ hb); have n3_ := Aside0.mk (blk_below (g := gb216) (o := .cells #[.int .i64 t209, .int .i64 t210, .slice Ao64 t211.length co64, .string t214] 25 (0, 0)) (bD_ BK216.out) hb); have n4_ := Aside0.mk (below_step m14_ hb); clear HO205; clear HO213; clear BK208; clear BK216; clear HB; have HO205 := n0_; have HO213 := n1_; have BK208 := n2_; have BK216 := n3_; have HB := n4_; clear n0_ n1_ n2_ n3_ n4_; (try clear hb); (try clear hb2); (try clear hk); (try clear hi); obtain ⟨hcz72_0, hcz72_1, hcz72_2, hcz72_3⟩ := bc4_ BK216.out; obtain ⟨hfz72_0, hfz72_1, hfz72_2, hfz72_3⟩ := bf4_ BK216.out) | (go_at_call 20; (with_reducible refine (cap_Check.calls k (⟨#[115]⟩ : ByteArray) t209 t210 _ _ t211 t214 t221 _ ?side1 ?side2 A55.out).mono ?_); (case side1 => exact m67_); (case side2 => exact (Kd.R_reads' HO213.out).2.1); rintro e w73 ⟨rfl, hb⟩; have n0_ := Aside0.mk (Kd.R_below m53_ hb); have n1_ := Aside0.mk (Kd.R_below (rD_ HO213.out) hb); have n2_ := Aside0.mk (blk_below (g := gb208) (o := .cells #[.int .i64 t201, .int .i64 t202, .slice Ao59 t203.length co59, .string t206] 25 (0, 0)) m46_ hb); have n3_ := Aside0.mk (blk_below (g := gb216) (o := .cells #[.int .i64 t209, .int .i64 t210, .slice Ao64 t211.length co64, .string t214] 25 (0, 0)) (bD_ BK216.out) hb); have n4_ := Aside0.mk (below_step m14_ hb); clear HO205; clear HO213; clear BK208; clear BK216; clear HB; have HO205 := n0_; have HO213 := n1_; have BK208 := n2_; have BK216 := n3_; have HB := n4_; clear n0_ n1_ n2_ n3_ n4_; (try clear hb); (try clear hb2); (try clear hk); (try clear hi)))
 go_ret
 exact ⟨by first | rfl | (simp [errW_none, errW_some] <;> rfl) | (simp [*, errW_none, errW_some] <;> rfl), by repeat (first | (with_reducible first | exact HB.out | apply below_alloc | apply pw_below_drewN | apply below_drew1 | refine below_set ?_ GE208.out | refine below_set ?_ GE216.out) | exact HB.out)⟩

end Go.Proofs.YtedmkffepmcpaaaDoorH.HCapCodes
