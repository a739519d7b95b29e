/- step: one step on both desks. -/
import Derived.Test.YtgkhdpplmdkkaaaEA
set_option linter.unusedVariables false
set_option linter.unusedSimpArgs false
namespace Go.Proofs.Ytgkhdpplmdkkaaa.Ds
open Go.RowKit Go.Proofs.YtgkhdpplmdkkaaaH.HDeskPlays Go.Proofs.YtgkhdpplmdkkaaaW.PrintWords Go.Proofs.YtgkhdpplmdkkaaaW.PrintLast Go.Proofs.YtgkhdpplmdkkaaaW.PrintMore Go.Proofs.Ytgkhdpplmdkkaaa.Dp

theorem is_any (t s : Int) (w : World) :
    Calls Try.prog 15 #[.int .i64 t, .int .i64 s] w fun e w' => e = .returned (.bool (decide (isP t s))) ∧ w = w' := by
  by_cases h : isP t s
  · rw [decide_eq_true h]; exact is_yes t s w h.1 h.2.1 h.2.2.1 h.2.2.2
  · rw [decide_eq_false h]; exact is_no t s w h
/-- the boxes of a step: the desk by value, the step, the result -/
def Box (w0 w : World) (xs ops : Array Value) : Prop := Blk w w0.heap.size 90 xs ∧ Blk w (w0.heap.size + 1) 69 ops ∧ Blk w (w0.heap.size + 1 + 1) 90 Try.zeroCells90
theorem three (w : World) (xs ops : Array Value) : Blk (((w.alloc (.cells xs 90)).alloc (.cells ops 69)).alloc (.cells Try.zeroCells90 90)) w.heap.size 90 xs ∧ Blk (((w.alloc (.cells xs 90)).alloc (.cells ops 69)).alloc (.cells Try.zeroCells90 90)) (w.heap.size + 1) 69 ops ∧
    Blk (((w.alloc (.cells xs 90)).alloc (.cells ops 69)).alloc (.cells Try.zeroCells90 90)) (w.heap.size + 1 + 1) 90 Try.zeroCells90 ∧ Below w.heap.size w (((w.alloc (.cells xs 90)).alloc (.cells ops 69)).alloc (.cells Try.zeroCells90 90)) :=
  ⟨((Blk.new w _ xs).alloc _).alloc _, (Blk.new_at _ _ _ _ _ (by simp) rfl).alloc _, Blk.new_at _ _ _ _ _ (by simp) rfl, (((Below.refl _ _).alloc (Nat.le_refl _) _).alloc (by simp) _).alloc (by simp; omega) _⟩
/-- a block of colour 0 behind a method of the desk -/
theorem Out.blk {w w' : World} {g b : Nat} {ty : TypeId} {cells : Array Value} {col : Nat → Nat} {V' : Nat → Ses} (h : Out w w' g col V') (hb : Blk w b ty cells) (hc : col b = 0) : Blk w' b ty cells := (h.2.2 b hb.lt hc).trans hb
theorem colN_new {col : Nat → Nat} {n k : Nat} (h : n ≤ k) : colN col n 0 k = 0 := by unfold colN; rw [if_neg (by omega)]
theorem SesAt.row {w : World} {okS okT : Nat → Prop} {cs : Array Value} {o b : Nat} {x : Ses} {old ys : Array Value} (h : SesAt w okS okT cs o x) (hb : Blk w b 90 old) : SesAt (w.setRow b ys) okS okT cs o x := by
  obtain ⟨A5, n5, A6, n6, h7, hs, ht⟩ := h
  exact ⟨A5, n5, A6, n6, h7, Kd.R_mono (Kd.R_step (Kd.R_types hs hb (by decide)) (fun k h1 _ => setRow_other _ _ _ _ h1.2)) (fun _ h => h.1), Kd.R_mono (Kd.R_step (Kd.R_types ht hb (by decide)) (fun k h1 _ => setRow_other _ _ _ _ h1.2)) (fun _ h => h.1)⟩
/-- what a step keeps: all that stood ahead of the desk, and the blocks of colour 0 -/
def Kp (col : Nat → Nat) (g : Nat) (w w' : World) : Prop := Below g w w' ∧ g < w.heap.size ∧ ∀ k, k < w.heap.size → col k = 0 → w'.heap[k]? = w.heap[k]?
theorem Kp.of {col : Nat → Nat} {g : Nat} {w w' : World} (hb : Below w.heap.size w w') (hg : g < w.heap.size) : Kp col g w w' := ⟨hb.mono (Nat.le_of_lt hg), hg, fun k hk _ => hb.block k hk⟩
theorem Kp.out {col colx : Nat → Nat} {g : Nat} {w w1 w2 : World} {V' : Nat → Ses} (h : Kp col g w w1) (hc : ∀ k, k < w.heap.size → col k = 0 → colx k = 0) (hO : Out w1 w2 g colx V') : Kp col g w w2 :=
  ⟨h.1.trans hO.1, h.2.1, fun k hk h0 => (hO.2.2 k (Nat.lt_of_lt_of_le hk h.1.size) (hc k hk h0)).trans (h.2.2 k hk h0)⟩
theorem Kp.moreN {col : Nat → Nat} {g : Nat} {w w1 w2 : World} (h : Kp col g w w1) (hb : Below w.heap.size w1 w2) : Kp col g w w2 := ⟨h.1.trans (hb.mono (Nat.le_of_lt h.2.1)), h.2.1, fun k hk h0 => (hb.block k hk).trans (h.2.2 k hk h0)⟩
theorem Kp.more {col : Nat → Nat} {g : Nat} {w w1 w2 : World} (h : Kp col g w w1) (hb : Below w1.heap.size w1 w2) : Kp col g w w2 := h.moreN (hb.mono h.1.size)
theorem Kp.row {col : Nat → Nat} {g b : Nat} {w w1 : World} (h : Kp col g w w1) (hb : w.heap.size ≤ b) (ys : Array Value) : Kp col g w (w1.setRow b ys) := ⟨below_setRow h.1 (by have := h.2.1; omega) _, h.2.1, fun k hk h0 => (setRow_other _ _ _ _ (by omega)).trans (h.2.2 k hk h0)⟩
theorem Kp.recol {col col' : Nat → Nat} {g : Nat} {w w1 : World} (h : Kp col g w w1) (hc : ∀ k, k < w.heap.size → col' k = 0 → col k = 0) : Kp col' g w w1 := ⟨h.1, h.2.1, fun k hk h0 => h.2.2 k hk (hc k hk h0)⟩
def FinK (col : Nat → Nat) (w w' : World) (g : Nat) (V' U' : Nat → Ses) (ys : Array Value) : Prop := Kp col g w w' ∧ ∃ cs' col', DI w' g cs' col' V' ∧ XI w' ys col' U'
theorem Fin.of_row {w0 w3 : World} {g b : Nat} {cs3 ys old : Array Value} {col3 : Nat → Nat} {V' U' : Nat → Ses} {col : Nat → Nat} (hg : g < b) (hbl : Kp col g w0 w3) (hd : DI w3 g cs3 col3 V') (hx : XI w3 ys col3 U') (hB : Blk w3 b 90 old) (hb0 : w0.heap.size ≤ b := by omega) : FinK col w0 (w3.setRow b ys) g V' U' ys :=
  ⟨hbl.row hb0 _, cs3, col3, ⟨rowS hd.1 (by omega), hd.2.1, hd.2.2.1, fun j hj => (hd.2.2.2 j hj).row hB⟩, ⟨hx.1, hx.2.1, fun j hj => (hx.2.2 j hj).row hB⟩⟩
/-- what a step leaves -/
def StepOut (e : Ending) (w w' : World) (g : Nat) (col : Nat → Nat) (V U V' U' : Nat → Ses) : Prop := ∃ ys b, e = .returned (.tuple #[.agg ys, .bool b]) ∧ FinK col w w' g V' U' ys ∧ (V = U → b = true)
/-- the cells of a step -/
structure OpAt (w : World) (b : Nat) (ops : Array Value) : Prop where
  c0 : w.cell? ⟨b, 0, none⟩ = ops[0]?
  c1 : w.cell? ⟨b, 1, none⟩ = ops[1]?
  c2 : w.cell? ⟨b, 2, none⟩ = ops[2]?
  c3 : w.cell? ⟨b, 3, none⟩ = ops[3]?
  c4 : w.cell? ⟨b, 4, none⟩ = ops[4]?
  c5 : w.cell? ⟨b, 5, none⟩ = ops[5]?
  c6 : w.cell? ⟨b, 6, none⟩ = ops[6]?
  c7 : w.cell? ⟨b, 7, none⟩ = ops[7]?
  c8 : w.cell? ⟨b, 8, none⟩ = ops[8]?
theorem opAt {w : World} {b : Nat} {ops : Array Value} (h : Blk w b 69 ops) : OpAt w b ops := ⟨h.cell 0, h.cell 1, h.cell 2, h.cell 3, h.cell 4, h.cell 5, h.cell 6, h.cell 7, h.cell 8⟩
/-- a pure operation of a drawn region, a load that may be taken first -/
theorem pp_ {P : Program} {md : Region.Mode} {ops : Array Oper} {Q : Exit → Act → World → Prop} {S : World → Prop} {ds : List Nat} {oi : Oper} {v : Value} {fuel : Nat} {l : Array Bool} {a a' : Act} {w : World} (i : Nat) (N : Option Tmp) (l' : Array Bool)
    (hi : ops[i]? = some oi := by rfl) (hN : oi.dst = N := by rfl) (hc : Go.Proofs.YtgkhdpplmdkkaaaW.PrintLast.anyB md ops l l' i = true := by kernel_rfl) (hQ : ∀ c a w, Q (.panic c) (a.put oi.dst v) w → Q (.panic c) a w := by exact fun _ _ _ h => h)
    (hy : Yields P ops oi v a := by exact Or.inl ⟨by rfl, by intro w'; go_simp; with_reducible rfl⟩) (ha : a.put N v = a' := by simp only [Act.put, sA_, sB_, sC_]; rfl)
    (h : wpAnyLast P md ops Q S ds fuel l' a' w) : wpAnyLast P md ops Q S ds (fuel + 1) l a w := pure_ l' hi hN hc hQ hy ha h

set_option maxRecDepth 100000 in
set_option maxHeartbeats 4000000 in
theorem step0 {w : World} {g : Nat} {cs xs : Array Value} {col : Nat → Nat} {V U : Nat → Ses} (h : DI w g cs col V) (hx : XI w xs col U) (t s q n : Int) (sum text : ByteArray) (right : Bool) (A8 : Option Addr) (c8 : Nat) (cx : List ByteArray) :
    Calls Try.prog 45 #[.pointer (some ⟨g, 0, none⟩), .agg xs, .agg #[.int .i64 0, .int .i64 t, .int .i64 s, .int .i64 q, .int .i64 n, .string sum, .string text, .bool right, .slice A8 cx.length c8]] w fun e w' =>
      StepOut e w w' g col V U (V) (U) := by
  have ht := three w xs #[.int .i64 0, .int .i64 t, .int .i64 s, .int .i64 q, .int .i64 n, .string sum, .string text, .bool right, .slice A8 cx.length c8]
  have hd := h.still ht.2.2.2
  have hxx := hx.still ht.2.2.2
  have HZ := Lib.hid (And.intro hx.1 hx.2.1)
  have HGW := Lib.hid h.1.lt
  have HT := Lib.hid ht
  have HD := Lib.hid hd
  have HX := Lib.hid hxx
  clear ht hd hxx h hx
  go_enter Try.func45, Try.ntmps45
  go_wp2_with (go_at_call 15; refine (is_any _ _ _).mono ?_; rintro e w' ⟨rfl, rfl⟩)
  refine (d_look HD.out t s q).mono ?_
  rintro e w2 ⟨rfl, hO⟩
  have hB2 := hO.blk HT.out.1 (colN_new (Nat.le_refl _))
  have hC2 := hO.blk HT.out.2.1 (colN_new (by omega))
  have hR2 := hO.blk HT.out.2.2.1 (colN_new (by omega))
  have hW2 : Kp col g w w2 := (Kp.of HT.out.2.2.2 HGW.out).out (fun k hk h0 => by rw [colN_old hk]; exact h0) hO
  obtain ⟨cs2, col2, hD2, hXs2, hag2⟩ := hO.2.1
  have hX2 := hXs2 _ _ HX.out
  have o0 := hC2.cell 0
  have o1 := hC2.cell 1
  have o2 := hC2.cell 2
  have o3 := hC2.cell 3
  have o4 := hC2.cell 4
  have o5 := hC2.cell 5
  have o6 := hC2.cell 6
  have o7 := hC2.cell 7
  have o8 := hC2.cell 8
  have HB2 := Lib.hid hB2
  have HC2 := Lib.hid hC2
  have HR2 := Lib.hid hR2
  have HW2 := Lib.hid hW2
  have HD2 := Lib.hid hD2
  have HX2 := Lib.hid hX2
  clear hO hB2 hC2 hR2 hW2 hD2 hX2 hXs2 hag2
  go_wp2_with ((with_reducible refine wl_load90 ?zz_hg ?_ ?zz_ho ?_ ?zz_hx ?_ ?zz_hb ?zz_hz ?_); (case zz_ho => exact rfl); (case zz_hx => exact rfl); (case zz_hb => with_reducible exact HB2.out); (case zz_hg => exact rfl); (case zz_hz => exact HZ.out.1))
  refine (x_look HX2.out t s q).mono ?_
  rintro e w3 ⟨rfl, hb3⟩
  have hB3 := HB2.out.below hb3 HB2.out.lt
  have hC3 := HC2.out.below hb3 HC2.out.lt
  have hR3 := HR2.out.below hb3 HR2.out.lt
  have hW3 := HW2.out.more hb3
  have hD3 := HD2.out.below hb3
  have hX3 := HX2.out.below hb3
  have HB3 := Lib.hid hB3
  have HC3 := Lib.hid hC3
  have HR3 := Lib.hid hR3
  have HW3 := Lib.hid hW3
  have HD3 := Lib.hid hD3
  have HX3 := Lib.hid hX3
  clear hb3 hB3 hC3 hR3 hW3 hD3 hX3 o0 o1 o2 o3 o4 o5 o6 o7 o8
  go_wp2_with (first
    | ((with_reducible refine wl_load90 ?zz_hg ?_ ?zz_ho ?_ ?zz_hx ?_ ?zz_hb ?zz_hz ?_); (case zz_ho => exact rfl); (case zz_hx => exact rfl); (case zz_hb => with_reducible exact HB3.out); (case zz_hg => exact rfl); (case zz_hz => exact HZ.out.1))
    | ((with_reducible refine wl_store90 ?zz_hg ?_ ?_ ?zz_ho ?_ ?zz_hx ?_ ?zz_hy ?_ ?zz_hb ?zz_yz ?zz_hz ?zz_h1 ?_); (case zz_ho => exact rfl); (case zz_hx => exact rfl); (case zz_hy => exact rfl); (case zz_hb => with_reducible exact HR3.out); (case zz_hg => exact rfl); (case zz_yz => exact zero90); (case zz_hz => exact HZ.out.1); (case zz_h1 => exact HZ.out.2)))
  all_goals
    refine bodyPost_ret (results_ct rfl _ _ (w.heap.size + 1 + 1) 90 _ (0, 0) _ rfl (blk_row HR3.out (by rw [zero90, HZ.out.1])) Try.underlying90 rfl (by rw [HZ.out.1]; exact info90)) rfl ?_
    refine ⟨_, _, rfl, Fin.of_row (by have := HGW.out; omega) HW3.out HD3.out HX3.out HR3.out, fun e => ?_⟩
    subst e
    first | (simp; done) | (exfalso; simp_all; done) | simp_all

set_option maxRecDepth 100000 in
set_option maxHeartbeats 4000000 in
theorem step1 {w : World} {g : Nat} {cs xs : Array Value} {col : Nat → Nat} {V U : Nat → Ses} (h : DI w g cs col V) (hx : XI w xs col U) (t s q n : Int) (sum text : ByteArray) (right : Bool) (A8 : Option Addr) (c8 : Nat) (cx : List ByteArray) (hr : text.size ≤ 140737488351232) :
    Calls Try.prog 45 #[.pointer (some ⟨g, 0, none⟩), .agg xs, .agg #[.int .i64 1, .int .i64 t, .int .i64 s, .int .i64 q, .int .i64 n, .string sum, .string text, .bool right, .slice A8 cx.length c8]] w fun e w' =>
      StepOut e w w' g col V U (ansV V t s q text) (ansV U t s q text) := by
  have ht := three w xs #[.int .i64 1, .int .i64 t, .int .i64 s, .int .i64 q, .int .i64 n, .string sum, .string text, .bool right, .slice A8 cx.length c8]
  have hd := h.still ht.2.2.2
  have hxx := hx.still ht.2.2.2
  have HZ := Lib.hid (And.intro hx.1 hx.2.1)
  have HGW := Lib.hid h.1.lt
  have HT := Lib.hid ht
  have HD := Lib.hid hd
  have HX := Lib.hid hxx
  clear ht hd hxx h hx
  have HRT := Lib.hid hr
  clear hr
  go_enter Try.func45, Try.ntmps45
  go_wp2_with (first
    | (go_at_call 15; refine (is_any _ _ _).mono ?_; rintro e w' ⟨rfl, rfl⟩)
    | ((with_reducible refine wl_load90 ?zz_hg ?_ ?zz_ho ?_ ?zz_hx ?_ ?zz_hb ?zz_hz ?_); (case zz_ho => exact rfl); (case zz_hx => exact rfl); (case zz_hb => with_reducible exact HT.out.1); (case zz_hg => exact rfl); (case zz_hz => exact HZ.out.1)))
  refine (x_answer HX.out t s q text).mono ?_
  rintro e w2 ⟨ys, rfl, hb2, hX2⟩
  have hC2 := HT.out.2.1.below hb2 HT.out.2.1.lt
  have hR2 := HT.out.2.2.1.below hb2 HT.out.2.2.1.lt
  have hD2 := HD.out.still hb2
  have hW2 : Kp col g w w2 := (Kp.of HT.out.2.2.2 HGW.out).more hb2
  have o0 := hC2.cell 0
  have o1 := hC2.cell 1
  have o2 := hC2.cell 2
  have o3 := hC2.cell 3
  have o4 := hC2.cell 4
  have o5 := hC2.cell 5
  have o6 := hC2.cell 6
  have o7 := hC2.cell 7
  have o8 := hC2.cell 8
  have HC2 := Lib.hid hC2
  have HR2 := Lib.hid hR2
  have HD2 := Lib.hid hD2
  have HX2 := Lib.hid hX2
  have HW2 := Lib.hid hW2
  have HYZ := Lib.hid (And.intro hX2.1 hX2.2.1)
  clear hb2 hC2 hR2 hD2 hX2 hW2
  go_wp2_with (first
    | ((with_reducible refine wl_store90 ?zz_hg ?_ ?_ ?zz_ho ?_ ?zz_hx ?_ ?zz_hy ?_ ?zz_hb ?zz_yz ?zz_hz ?zz_h1 ?_); (case zz_ho => exact rfl); (case zz_hx => exact rfl); (case zz_hy => exact rfl); (case zz_hb => with_reducible exact Blk.new _ _ _); (case zz_hg => exact rfl); (case zz_yz => exact zero90); (case zz_hz => exact HYZ.out.1); (case zz_h1 => exact HYZ.out.2)))
  refine abs_world ?_
  intro w4 hw4
  have hY4 : Blk w4 w2.heap.size 90 ys := by rw [hw4]; exact blk_row (Blk.new _ _ _) (by rw [zero90, HYZ.out.1])
  have hb4 : Below w2.heap.size w2 w4 := by rw [hw4]; exact below_setRow (below_allocW w2 _) (Nat.le_refl _) _
  have hC4 := HC2.out.below hb4 HC2.out.lt
  have hR4 := HR2.out.below hb4 HR2.out.lt
  have HD4 := Lib.hid (HD2.out.still hb4)
  have HX4 := Lib.hid (HX2.out.still hb4)
  have HW4 := Lib.hid (HW2.out.more hb4)
  have oc := opAt hC4
  have HR4 := Lib.hid hR4
  have hlt2 := HC2.out.lt
  have hltR := HR2.out.lt
  clear hw4 hb4 o0 o1 o2 o3 o4 o5 o6 o7 o8
  refine start_ (n := 15) (S := (fun w' => (Blk w' w2.heap.size 90 ys ∧ Blk w' (w.heap.size + 1) 69 #[.int .i64 1, .int .i64 t, .int .i64 s, .int .i64 q, .int .i64 n, .string sum, .string text, .bool right, .slice A8 cx.length c8]) ∧ w'.cell? ⟨w.heap.size + 1, 1, none⟩ = some (.int .i64 t) ∧ w'.cell? ⟨w.heap.size + 1, 2, none⟩ = some (.int .i64 s) ∧ w'.cell? ⟨w.heap.size + 1, 3, none⟩ = some (.int .i64 q) ∧ w'.cell? ⟨w.heap.size + 1, 6, none⟩ = some (.string text))) (ds := []) (Ra_ [0, 15]) (by kernel_rfl) rfl rfl ⟨⟨hY4.drew, hC4.drew⟩, oc.c1, oc.c2, oc.c3, oc.c6⟩ (fun hHeld => ?_)
  refine take_ (i := 0) (N := some 98) (Ra_ [1, 14]) rfl rfl (by kernel_rfl) (fun _ _ _ h => h) (yields_row rfl _ _ rfl w2.heap.size rfl _ ys _ (fun _ h => h.1.1) Try.underlying90 rfl (by rw [HYZ.out.1]; exact info90)) hHeld (by simp only [Act.put, sA_, sB_, sC_]; rfl) ?_
  refine pp_ 1 (some 99) (Ra_ [2, 13]) (h := ?_)
  refine pp_ 2 (some 100) (Ra_ [3, 12]) (h := ?_)
  refine take_ (i := 3) (N := some 101) (Ra_ [4, 11]) rfl rfl (by kernel_rfl) (fun _ _ _ h => h) (Or.inl ⟨by rfl, by rintro w' ⟨_, s0, s1, s2, s3⟩; go_simp; with_reducible rfl⟩) hHeld (by simp only [Act.put, sA_, sB_, sC_]; rfl) ?_
  refine pp_ 4 (some 102) (Ra_ [5, 10]) (h := ?_)
  refine take_ (i := 5) (N := some 103) (Ra_ [6, 9]) rfl rfl (by kernel_rfl) (fun _ _ _ h => h) (Or.inl ⟨by rfl, by rintro w' ⟨_, s0, s1, s2, s3⟩; go_simp; with_reducible rfl⟩) hHeld (by simp only [Act.put, sA_, sB_, sC_]; rfl) ?_
  refine pp_ 6 (some 104) (Ra_ [7, 8]) (h := ?_)
  refine take_ (i := 7) (N := some 105) (Ra_ [8, 7]) rfl rfl (by kernel_rfl) (fun _ _ _ h => h) (Or.inl ⟨by rfl, by rintro w' ⟨_, s0, s1, s2, s3⟩; go_simp; with_reducible rfl⟩) hHeld (by simp only [Act.put, sA_, sB_, sC_]; rfl) ?_
  refine pp_ 8 (some 106) (Ra_ [9, 6]) (h := ?_)
  refine take_ (i := 9) (N := some 107) (Ra_ [10, 5]) rfl rfl (by kernel_rfl) (fun _ _ _ h => h) (Or.inl ⟨by rfl, by rintro w' ⟨_, s0, s1, s2, s3⟩; go_simp; with_reducible rfl⟩) hHeld (by simp only [Act.put, sA_, sB_, sC_]; rfl) ?_
  refine pp_ 11 (some 109) (Ra_ [10, 1, 1, 3]) (h := ?_)
  refine one_ (i := 10) (N := some 108) (Ra_ [12, 3]) rfl rfl (by kernel_rfl) (by decide) (fun K hK => ?_)
  refine goes_ Try.func19 (by kernel_rfl) rfl #[.pointer (some ⟨g, 0, none⟩), .int .i64 t, .int .i64 s, .int .i64 q, .string text] (by rfl) rfl rfl (by (try simp only [List.map_toArray, List.map_cons, List.map_nil]); first | done | rfl) ?_
  have hD5 := HD4.out.below (Below.refl w4.heap.size w4).drew
  have hX5 := HX4.out.below (Below.refl w4.heap.size w4).drew
  refine (d_answer hD5 t s q text HRT.out).mono ?_
  rintro e w5 ⟨rfl, hO⟩
  refine ⟨_, rfl, ?_⟩
  have hlt4 : w.heap.size + 1 < w4.heap.size := hC4.lt
  have hY5 := hO.blk hHeld.1.1 (by unfold colN; (repeat' split) <;> first | rfl | omega)
  have hC5 := hO.blk hHeld.1.2 (by unfold colN; (repeat' split) <;> first | rfl | omega)
  have hR5 := hO.blk HR4.out.drew (by unfold colN; (repeat' split) <;> first | rfl | omega)
  have oc5 := opAt hC5
  obtain ⟨cs5, col5, hD5', hXs5, _⟩ := hO.2.1
  have hX5' := hXs5 _ _ hX5
  have hW5 := (HW4.out.more (Below.refl w4.heap.size w4).drew).out (fun k hk h0 => by unfold colN; (repeat' split) <;> first | rfl | exact h0) hO
  refine hK.out _ _ ⟨⟨hY5, hC5⟩, oc5.c1, oc5.c2, oc5.c3, oc5.c6⟩ (fun hHeld => ?_)
  refine pp_ 12 (some 110) (Ra_ [13, 2]) (h := ?_)
  refine one_ (i := 13) (N := none) (Ra_ [14, 1]) rfl rfl (by kernel_rfl) (by decide) (fun K hK => ?_)
  rw [if_pos (by rfl)]
  refine wp_store_row 90 _ _ rfl (w.heap.size + 1 + 1) ys rfl rfl _ _ hR5 (by rw [HYZ.out.1]; exact info90) (by rw [zero90, HYZ.out.1]) HYZ.out.2 ?_
  have hC6 := rowS (ys := ys) (b := w.heap.size + 1 + 1) hC5 (by omega)
  have oc6 := opAt hC6
  refine hK.out _ _ ⟨⟨rowS hY5 (by omega), hC6⟩, oc6.c1, oc6.c2, oc6.c3, oc6.c6⟩ (fun hHeld => ?_)
  refine pp_ 14 (some 7) (Ra_ [15]) (h := ?_)
  refine done_ (by kernel_rfl) ?_
  try go_wp2
  refine bodyPost_ret (results_ct rfl _ _ (w.heap.size + 1 + 1) 90 _ (0, 0) _ rfl (blk_row hR5 (by rw [zero90, HYZ.out.1])) Try.underlying90 rfl (by rw [HYZ.out.1]; exact info90)) rfl ?_
  refine ⟨_, _, rfl, Fin.of_row (by have := HGW.out; omega) hW5 hD5' hX5' hR5, fun e => ?_⟩
  subst e
  first | (simp; done) | simp_all

set_option maxRecDepth 100000 in
set_option maxHeartbeats 4000000 in
theorem step6 {w : World} {g : Nat} {cs xs : Array Value} {col : Nat → Nat} {V U : Nat → Ses} (h : DI w g cs col V) (hx : XI w xs col U) (t s q n : Int) (sum text : ByteArray) (right : Bool) (A8 : Option Addr) (c8 : Nat) (cx : List ByteArray) :
    Calls Try.prog 45 #[.pointer (some ⟨g, 0, none⟩), .agg xs, .agg #[.int .i64 6, .int .i64 t, .int .i64 s, .int .i64 q, .int .i64 n, .string sum, .string text, .bool right, .slice A8 cx.length c8]] w fun e w' =>
      StepOut e w w' g col V U (resV V t s q) (resV U t s q) := by
  have ht := three w xs #[.int .i64 6, .int .i64 t, .int .i64 s, .int .i64 q, .int .i64 n, .string sum, .string text, .bool right, .slice A8 cx.length c8]
  have hd := h.still ht.2.2.2
  have hxx := hx.still ht.2.2.2
  have HZ := Lib.hid (And.intro hx.1 hx.2.1)
  have HGW := Lib.hid h.1.lt
  have HT := Lib.hid ht
  have HD := Lib.hid hd
  have HX := Lib.hid hxx
  clear ht hd hxx h hx
  go_enter Try.func45, Try.ntmps45
  go_wp2_with (first
    | (go_at_call 15; refine (is_any _ _ _).mono ?_; rintro e w' ⟨rfl, rfl⟩)
    | ((with_reducible refine wl_load90 ?zz_hg ?_ ?zz_ho ?_ ?zz_hx ?_ ?zz_hb ?zz_hz ?_); (case zz_ho => exact rfl); (case zz_hx => exact rfl); (case zz_hb => with_reducible exact HT.out.1); (case zz_hg => exact rfl); (case zz_hz => exact HZ.out.1)))
  refine (x_restore HX.out t s q).mono ?_
  rintro e w2 ⟨ys, rfl, hb2, hX2⟩
  have hC2 := HT.out.2.1.below hb2 HT.out.2.1.lt
  have hR2 := HT.out.2.2.1.below hb2 HT.out.2.2.1.lt
  have hD2 := HD.out.still hb2
  have hW2 : Kp col g w w2 := (Kp.of HT.out.2.2.2 HGW.out).more hb2
  have o0 := hC2.cell 0
  have o1 := hC2.cell 1
  have o2 := hC2.cell 2
  have o3 := hC2.cell 3
  have o4 := hC2.cell 4
  have o5 := hC2.cell 5
  have o6 := hC2.cell 6
  have o7 := hC2.cell 7
  have o8 := hC2.cell 8
  have HC2 := Lib.hid hC2
  have HR2 := Lib.hid hR2
  have HD2 := Lib.hid hD2
  have HX2 := Lib.hid hX2
  have HW2 := Lib.hid hW2
  have HYZ := Lib.hid (And.intro hX2.1 hX2.2.1)
  clear hb2 hC2 hR2 hD2 hX2 hW2
  go_wp2_with (first
    | ((with_reducible refine wl_store90 ?zz_hg ?_ ?_ ?zz_ho ?_ ?zz_hx ?_ ?zz_hy ?_ ?zz_hb ?zz_yz ?zz_hz ?zz_h1 ?_); (case zz_ho => exact rfl); (case zz_hx => exact rfl); (case zz_hy => exact rfl); (case zz_hb => with_reducible exact Blk.new _ _ _); (case zz_hg => exact rfl); (case zz_yz => exact zero90); (case zz_hz => exact HYZ.out.1); (case zz_h1 => exact HYZ.out.2)))
  refine abs_world ?_
  intro w4 hw4
  have hY4 : Blk w4 w2.heap.size 90 ys := by rw [hw4]; exact blk_row (Blk.new _ _ _) (by rw [zero90, HYZ.out.1])
  have hb4 : Below w2.heap.size w2 w4 := by rw [hw4]; exact below_setRow (below_allocW w2 _) (Nat.le_refl _) _
  have hC4 := HC2.out.below hb4 HC2.out.lt
  have hR4 := HR2.out.below hb4 HR2.out.lt
  have HD4 := Lib.hid (HD2.out.still hb4)
  have HX4 := Lib.hid (HX2.out.still hb4)
  have HW4 := Lib.hid (HW2.out.more hb4)
  have oc := opAt hC4
  have HR4 := Lib.hid hR4
  have hlt2 := HC2.out.lt
  have hltR := HR2.out.lt
  clear hw4 hb4 o0 o1 o2 o3 o4 o5 o6 o7 o8
  refine start_ (n := 13) (S := (fun w' => (Blk w' w2.heap.size 90 ys ∧ Blk w' (w.heap.size + 1) 69 #[.int .i64 6, .int .i64 t, .int .i64 s, .int .i64 q, .int .i64 n, .string sum, .string text, .bool right, .slice A8 cx.length c8]) ∧ w'.cell? ⟨w.heap.size + 1, 1, none⟩ = some (.int .i64 t) ∧ w'.cell? ⟨w.heap.size + 1, 2, none⟩ = some (.int .i64 s) ∧ w'.cell? ⟨w.heap.size + 1, 3, none⟩ = some (.int .i64 q) ∧ w'.cell? ⟨w.heap.size + 1, 6, none⟩ = some (.string text))) (ds := []) (Ra_ [0, 13]) (by kernel_rfl) rfl rfl ⟨⟨hY4.drew, hC4.drew⟩, oc.c1, oc.c2, oc.c3, oc.c6⟩ (fun hHeld => ?_)
  refine take_ (i := 0) (N := some 332) (Ra_ [1, 12]) rfl rfl (by kernel_rfl) (fun _ _ _ h => h) (yields_row rfl _ _ rfl w2.heap.size rfl _ ys _ (fun _ h => h.1.1) Try.underlying90 rfl (by rw [HYZ.out.1]; exact info90)) hHeld (by simp only [Act.put, sA_, sB_, sC_]; rfl) ?_
  refine pp_ 1 (some 333) (Ra_ [2, 11]) (h := ?_)
  refine pp_ 2 (some 334) (Ra_ [3, 10]) (h := ?_)
  refine take_ (i := 3) (N := some 335) (Ra_ [4, 9]) rfl rfl (by kernel_rfl) (fun _ _ _ h => h) (Or.inl ⟨by rfl, by rintro w' ⟨_, s0, s1, s2, s3⟩; go_simp; with_reducible rfl⟩) hHeld (by simp only [Act.put, sA_, sB_, sC_]; rfl) ?_
  refine pp_ 4 (some 336) (Ra_ [5, 8]) (h := ?_)
  refine take_ (i := 5) (N := some 337) (Ra_ [6, 7]) rfl rfl (by kernel_rfl) (fun _ _ _ h => h) (Or.inl ⟨by rfl, by rintro w' ⟨_, s0, s1, s2, s3⟩; go_simp; with_reducible rfl⟩) hHeld (by simp only [Act.put, sA_, sB_, sC_]; rfl) ?_
  refine pp_ 6 (some 338) (Ra_ [7, 6]) (h := ?_)
  refine take_ (i := 7) (N := some 339) (Ra_ [8, 5]) rfl rfl (by kernel_rfl) (fun _ _ _ h => h) (Or.inl ⟨by rfl, by rintro w' ⟨_, s0, s1, s2, s3⟩; go_simp; with_reducible rfl⟩) hHeld (by simp only [Act.put, sA_, sB_, sC_]; rfl) ?_
  refine pp_ 9 (some 341) (Ra_ [8, 1, 1, 3]) (h := ?_)
  refine one_ (i := 8) (N := some 340) (Ra_ [10, 3]) rfl rfl (by kernel_rfl) (by decide) (fun K hK => ?_)
  refine goes_ Try.func79 (by kernel_rfl) rfl #[.pointer (some ⟨g, 0, none⟩), .int .i64 t, .int .i64 s, .int .i64 q] (by rfl) rfl rfl (by (try simp only [List.map_toArray, List.map_cons, List.map_nil]); first | done | rfl) ?_
  have hD5 := HD4.out.below (Below.refl w4.heap.size w4).drew
  have hX5 := HX4.out.below (Below.refl w4.heap.size w4).drew
  refine (d_restore hD5 t s q).mono ?_
  rintro e w5 ⟨rfl, hO⟩
  refine ⟨_, rfl, ?_⟩
  have hlt4 : w.heap.size + 1 < w4.heap.size := hC4.lt
  have hY5 := hO.blk hHeld.1.1 (by unfold colN; (repeat' split) <;> first | rfl | omega)
  have hC5 := hO.blk hHeld.1.2 (by unfold colN; (repeat' split) <;> first | rfl | omega)
  have hR5 := hO.blk HR4.out.drew (by unfold colN; (repeat' split) <;> first | rfl | omega)
  have oc5 := opAt hC5
  obtain ⟨cs5, col5, hD5', hXs5, _⟩ := hO.2.1
  have hX5' := hXs5 _ _ hX5
  have hW5 := (HW4.out.more (Below.refl w4.heap.size w4).drew).out (fun k hk h0 => by unfold colN; (repeat' split) <;> first | rfl | exact h0) hO
  refine hK.out _ _ ⟨⟨hY5, hC5⟩, oc5.c1, oc5.c2, oc5.c3, oc5.c6⟩ (fun hHeld => ?_)
  refine pp_ 10 (some 342) (Ra_ [11, 2]) (h := ?_)
  refine one_ (i := 11) (N := none) (Ra_ [12, 1]) rfl rfl (by kernel_rfl) (by decide) (fun K hK => ?_)
  rw [if_pos (by rfl)]
  refine wp_store_row 90 _ _ rfl (w.heap.size + 1 + 1) ys rfl rfl _ _ hR5 (by rw [HYZ.out.1]; exact info90) (by rw [zero90, HYZ.out.1]) HYZ.out.2 ?_
  have hC6 := rowS (ys := ys) (b := w.heap.size + 1 + 1) hC5 (by omega)
  have oc6 := opAt hC6
  refine hK.out _ _ ⟨⟨rowS hY5 (by omega), hC6⟩, oc6.c1, oc6.c2, oc6.c3, oc6.c6⟩ (fun hHeld => ?_)
  refine pp_ 12 (some 7) (Ra_ [13]) (h := ?_)
  refine done_ (by kernel_rfl) ?_
  try go_wp2
  refine bodyPost_ret (results_ct rfl _ _ (w.heap.size + 1 + 1) 90 _ (0, 0) _ rfl (blk_row hR5 (by rw [zero90, HYZ.out.1])) Try.underlying90 rfl (by rw [HYZ.out.1]; exact info90)) rfl ?_
  refine ⟨_, _, rfl, Fin.of_row (by have := HGW.out; omega) hW5 hD5' hX5' hR5, fun e => ?_⟩
  subst e
  first | (simp; done) | simp_all

set_option maxRecDepth 100000 in
set_option maxHeartbeats 4000000 in
theorem stepX {w : World} {g : Nat} {cs xs : Array Value} {col : Nat → Nat} {V U : Nat → Ses} (h : DI w g cs col V) (hx : XI w xs col U) (t s q n : Int) (sum text : ByteArray) (right : Bool) (A8 : Option Addr) (c8 : Nat) (cx : List ByteArray) (kd : Int) (hkd : kd < 0 ∨ 6 < kd) :
    Calls Try.prog 45 #[.pointer (some ⟨g, 0, none⟩), .agg xs, .agg #[.int .i64 kd, .int .i64 t, .int .i64 s, .int .i64 q, .int .i64 n, .string sum, .string text, .bool right, .slice A8 cx.length c8]] w fun e w' =>
      StepOut e w w' g col V U (V) (U) := by
  have ht := three w xs #[.int .i64 kd, .int .i64 t, .int .i64 s, .int .i64 q, .int .i64 n, .string sum, .string text, .bool right, .slice A8 cx.length c8]
  have hd := h.still ht.2.2.2
  have hxx := hx.still ht.2.2.2
  have HZ := Lib.hid (And.intro hx.1 hx.2.1)
  have HGW := Lib.hid h.1.lt
  have HT := Lib.hid ht
  have HD := Lib.hid hd
  have HX := Lib.hid hxx
  clear ht hd hxx h hx
  have e0 : (kd == 0) = false := beq_eq_false_iff_ne.2 (by omega)
  have e1 : (kd == 1) = false := beq_eq_false_iff_ne.2 (by omega)
  have e2 : (kd == 2) = false := beq_eq_false_iff_ne.2 (by omega)
  have e3 : (kd == 3) = false := beq_eq_false_iff_ne.2 (by omega)
  have e4 : (kd == 4) = false := beq_eq_false_iff_ne.2 (by omega)
  have e5 : (kd == 5) = false := beq_eq_false_iff_ne.2 (by omega)
  have e6 : (kd == 6) = false := beq_eq_false_iff_ne.2 (by omega)
  go_enter Try.func45, Try.ntmps45
  go_wp2_with (first
    | (go_at_call 15; refine (is_any _ _ _).mono ?_; rintro e w' ⟨rfl, rfl⟩)
    | ((with_reducible refine wl_load90 ?zz_hg ?_ ?zz_ho ?_ ?zz_hx ?_ ?zz_hb ?zz_hz ?_); (case zz_ho => exact rfl); (case zz_hx => exact rfl); (case zz_hb => with_reducible exact HT.out.1); (case zz_hg => exact rfl); (case zz_hz => exact HZ.out.1))
    | ((with_reducible refine wl_store90 ?zz_hg ?_ ?_ ?zz_ho ?_ ?zz_hx ?_ ?zz_hy ?_ ?zz_hb ?zz_yz ?zz_hz ?zz_h1 ?_); (case zz_ho => exact rfl); (case zz_hx => exact rfl); (case zz_hy => exact rfl); (case zz_hb => with_reducible exact HT.out.2.2.1); (case zz_hg => exact rfl); (case zz_yz => exact zero90); (case zz_hz => exact HZ.out.1); (case zz_h1 => exact HZ.out.2)))
  all_goals
    first
    | (exfalso; omega)
    | (refine bodyPost_ret (results_ct rfl _ _ (w.heap.size + 1 + 1) 90 _ (0, 0) _ rfl (blk_row HT.out.2.2.1 (by rw [zero90, HZ.out.1])) Try.underlying90 rfl (by rw [HZ.out.1]; exact info90)) rfl ?_; exact ⟨_, _, rfl, Fin.of_row (by have := HGW.out; omega) (Kp.of HT.out.2.2.2 HGW.out) HD.out HX.out HT.out.2.2.1, fun _ => rfl⟩)

end Go.Proofs.Ytgkhdpplmdkkaaa.Ds
