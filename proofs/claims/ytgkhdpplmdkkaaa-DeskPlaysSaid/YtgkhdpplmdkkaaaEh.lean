/- step of a claim. -/
import Derived.Test.YtgkhdpplmdkkaaaEg
import Derived.Test.YtgkhdpplmdkkaaaHDeskPlaysx3
set_option linter.unusedVariables false
set_option linter.unusedSimpArgs false
namespace Go.Proofs.Ytgkhdpplmdkkaaa.Ds
open Go.RowKit Go.Proofs.YtgkhdpplmdkkaaaH.HDeskPlays Go.Proofs.YtgkhdpplmdkkaaaW.PrintWords Go.Proofs.YtgkhdpplmdkkaaaW.PrintLast Go.Proofs.YtgkhdpplmdkkaaaW.PrintMore Go.Proofs.Ytgkhdpplmdkkaaa.Dp

theorem new38 (w3 : World) (ys c1 c2 : Array Value) : Blk (((w3.alloc (.cells c1 90)).alloc (.cells c2 38)).setRow w3.heap.size ys) (w3.heap.size + 1) 38 c2 := rowS (Blk.new_at _ _ _ _ _ (by simp) rfl) (by simp)
theorem wl_storeT (T : TypeId) (n : Nat) {ops : Array Oper} {rest : List Oper} {o : Oper} {a : Act} {w : World} {Q : Exit → Act → World → Prop} (hgd : o.guard = none) (x y : Operand) (ho : o.op = .store T x y)
    (b : Nat) (hx : a.eval x = .pointer (some ⟨b, 0, none⟩)) (xs : Array Value) (hy : a.eval y = .agg xs) (ys : Array Value) (hb : Blk w b T ys) (hi : (Try.prog.info? T).map (·.size) = some n) (hyz : ys.size = n) (hz : xs.size = n) (h1 : xs.all (·.oneCell') = true)
    (h : wpList Try.prog ops Q rest (a.put o.dst undef) (w.setRow b xs)) : wpList Try.prog ops Q (o :: rest) a w :=
  wpList_plain hgd fun _ hK => wp_store_row T x y ho b xs hx hy _ ys hb (by rw [hz]; exact hi) (by omega) h1 (hK _ _ h)

set_option maxRecDepth 100000 in
set_option maxHeartbeats 4000000 in
theorem step2 {w : World} {g : Nat} {cs xs : Array Value} {col : Nat → Nat} {V U : Nat → Ses} (h : DI w g cs col V) (hx : XI w xs col U) (t s q n : Int) (sum text : ByteArray) (right : Bool) (A8 : Option Addr) (c8 : Nat) (cx : List ByteArray) (no : ByteArray) (sl : List S42) (hD : clmP t s sum → (∃ k, desk_Draw.f k sum text = some (sum, no, sl)) ∧ desk_copied.f sum no sl = some (sum, no, sl)) (hD2 : clmP t s sum → ∃ k, strongroomref27_Draw.f k sum text = some (sum, no, sl)) (ks : Nat) (hS : strongroomlaw27_same.f ks (clmR t s sum no sl).1 (clmR t s sum no sl).2.1 (clmR t s sum no sl).2.2.1 (clmR t s sum no sl).1 (clmR t s sum no sl).2.1 (clmR t s sum no sl).2.2.1 = some true) :
    Calls Try.prog 45 #[.pointer (some ⟨g, 0, none⟩), .agg xs, .agg #[.int .i64 2, .int .i64 t, .int .i64 s, .int .i64 q, .int .i64 n, .string sum, .string text, .bool right, .slice A8 cx.length c8]] w fun e w' =>
      StepOut e w w' g col V U (clmV V t s sum no sl) (clmV U t s sum no sl) := by
  have ht := three w xs #[.int .i64 2, .int .i64 t, .int .i64 s, .int .i64 q, .int .i64 n, .string sum, .string text, .bool right, .slice A8 cx.length c8]
  have hd := h.still ht.2.2.2
  have hxx := hx.still ht.2.2.2
  have HZ := Lib.hid (And.intro hx.1 hx.2.1)
  have HGW := Lib.hid h.1.lt
  have HT := Lib.hid ht
  have HD := Lib.hid hd
  have HX := Lib.hid hxx
  clear ht hd hxx h hx
  have HDR := Lib.hid (And.intro hD (And.intro hD2 hS))
  clear hD hD2 hS
  go_enter Try.func45, Try.ntmps45
  go_wp2_with fail
  refine (is_any t s _).mono ?_
  rintro e w' ⟨rfl, rfl⟩
  generalize decide (isP t s) = bq
  go_wp2_with fail
  refine (d_claim HD.out t s sum text no sl HDR.out.1).mono ?_
  rintro e w2 ⟨⟨v, rfl, hr2⟩, hO⟩
  obtain ⟨A, m, rfl⟩ := Kd.R_slice hr2
  generalize hq_ : clmR t s sum no sl = cr at hr2
  have HQ := Lib.hid hq_
  have hB2 := hO.blk HT.out.1 (colN_new (Nat.le_refl _))
  have hC2 := hO.blk HT.out.2.1 (colN_new (by omega))
  have hR2 := hO.blk HT.out.2.2.1 (colN_new (by omega))
  have hW2 : Kp col g w w2 := (Kp.of HT.out.2.2.2 HGW.out).out (fun k hk h0 => by rw [colN_old hk]; exact h0) hO
  obtain ⟨cs2, col2, hD2, hXs2, hag2⟩ := hO.2.1
  have hX2 := hXs2 _ _ HX.out
  have o0 := hC2.cell 0
  have o1 := hC2.cell 1
  have o2 := hC2.cell 2
  have o3 := hC2.cell 3
  have o4 := hC2.cell 4
  have o5 := hC2.cell 5
  have o6 := hC2.cell 6
  have o7 := hC2.cell 7
  have o8 := hC2.cell 8
  have HB2 := Lib.hid hB2
  have HC2 := Lib.hid hC2
  have HR2 := Lib.hid hR2
  have HW2 := Lib.hid hW2
  have HD2 := Lib.hid hD2
  have HX2 := Lib.hid hX2
  have HV2 := Lib.hid hr2
  have hlt2 : w.heap.size + 1 + 1 < w2.heap.size := hR2.lt
  have hlt2b : w.heap.size + 1 < w2.heap.size := hC2.lt
  clear hO hB2 hC2 hR2 hW2 hD2 hX2 hXs2 hag2 hr2 hq_
  go_wp2_with ((with_reducible refine wl_load90 ?zz_hg ?_ ?zz_ho ?_ ?zz_hx ?_ ?zz_hb ?zz_hz ?_); (case zz_ho => exact rfl); (case zz_hx => exact rfl); (case zz_hb => with_reducible exact HB2.out.alloc _); (case zz_hg => exact rfl); (case zz_hz => exact HZ.out.1))
  have hX2a := HX2.out.still (below_allocW w2 (.cells #[.string cr.1, .string cr.2.1, .slice A cr.2.2.1.length m] 36))
  refine (x_claim hX2a t s sum text no sl HDR.out.2.1).mono ?_
  rintro e w3 ⟨ys, v3, rfl, hb3, hX3, hr3⟩
  rw [HQ.out] at hr3 ⊢
  obtain ⟨A3, m3, rfl⟩ := Kd.R_slice hr3
  have hB3 := (HB2.out.alloc (.cells #[.string cr.1, .string cr.2.1, .slice A cr.2.2.1.length m] 36)).below hb3 (HB2.out.alloc _).lt
  have hC3 := (HC2.out.alloc (.cells #[.string cr.1, .string cr.2.1, .slice A cr.2.2.1.length m] 36)).below hb3 (HC2.out.alloc _).lt
  have hR3 := (HR2.out.alloc (.cells #[.string cr.1, .string cr.2.1, .slice A cr.2.2.1.length m] 36)).below hb3 (HR2.out.alloc _).lt
  have hE3 : Blk w3 w2.heap.size 36 #[.string cr.1, .string cr.2.1, .slice A cr.2.2.1.length m] := (Blk.new w2 36 _).below hb3 (Blk.new w2 36 _).lt
  have hb23 : Below w2.heap.size w2 w3 := (below_allocW w2 _).trans (hb3.mono (by simp))
  have hD3 := (HD2.out.still (below_allocW w2 (.cells #[.string cr.1, .string cr.2.1, .slice A cr.2.2.1.length m] 36))).still hb3
  have hW3 := HW2.out.more hb23
  have hV3 := Kd.R_below HV2.out hb23
  have HY3 := Lib.hid (And.intro hX3.1 hX3.2.1)
  have HB3 := Lib.hid hB3
  have HC3 := Lib.hid hC3
  have HR3 := Lib.hid hR3
  have HE3 := Lib.hid hE3
  have HD3 := Lib.hid hD3
  have HX3 := Lib.hid hX3
  have HW3 := Lib.hid hW3
  have HV3 := Lib.hid hV3
  have HU3 := Lib.hid hr3
  have hltE : w2.heap.size < w3.heap.size := hE3.lt
  clear hb23 hB3 hC3 hR3 hE3 hD3 hX3 hW3 hV3 hr3 o0 o1 o2 o3 o4 o5 o6 o7 o8 hb3
  generalize hOP : (#[Value.int .i64 2, .int .i64 t, .int .i64 s, .int .i64 q, .int .i64 n, .string sum, .string text, .bool right, .slice A8 cx.length c8] : Array Value) = ops at *
  go_wp2_with (first
    | ((with_reducible refine wl_store90 ?zz_hg ?_ ?_ ?zz_ho ?_ ?zz_hx ?_ ?zz_hy ?_ ?zz_hb ?zz_yz ?zz_hz ?zz_h1 ?_); (case zz_ho => exact rfl); (case zz_hx => exact rfl); (case zz_hy => exact rfl); (case zz_hb => with_reducible exact (Blk.new _ _ _).alloc _); (case zz_hg => exact rfl); (case zz_yz => exact zero90); (case zz_hz => exact HY3.out.1); (case zz_h1 => exact HY3.out.2))
    | ((with_reducible refine wl_storeT 38 3 ?zz_hg ?_ ?_ ?zz_ho ?_ ?zz_hx ?_ ?zz_hy ?_ ?zz_hb ?zz_hi ?zz_yz ?zz_hz ?zz_h1 ?_); (case zz_ho => exact rfl); (case zz_hx => exact rfl); (case zz_hy => exact rfl); (case zz_hb => exact new38 _ _ _ _); (case zz_hg => exact rfl); (case zz_hi => kernel_rfl); (case zz_yz => exact rfl); (case zz_hz => exact rfl); (case zz_h1 => exact (by simp [Value.oneCell']))))
  refine abs_world ?_
  intro w4 hw4
  have hb4 : Below w3.heap.size w3 w4 := by rw [hw4]; exact below_setRow (below_setRow (((Below.refl _ _).alloc (Nat.le_refl _) _).alloc (by simp) _) (Nat.le_refl _) _) (by omega) _
  have hY4 : Blk w4 w3.heap.size 90 ys := by rw [hw4]; exact rowS (blk_row ((Blk.new _ _ _).alloc _) (by rw [zero90, HY3.out.1])) (by omega)
  have hF4 : Blk w4 (w3.heap.size + 1) 38 #[.string cr.1, .string cr.2.1, .slice A3 cr.2.2.1.length m3] := by rw [hw4]; exact blk_row (rowS (Blk.new_at _ _ _ _ _ (by simp) rfl) (by omega)) rfl
  have hE4 := HE3.out.below hb4 HE3.out.lt
  have hR4 := HR3.out.below hb4 HR3.out.lt
  have HD4 := Lib.hid (HD3.out.still hb4)
  have HX4 := Lib.hid (HX3.out.still hb4)
  have HW4 := Lib.hid (HW3.out.more hb4)
  have HV4 := Lib.hid (Kd.R_below HV3.out hb4)
  have HU4 := Lib.hid (Kd.R_below HU3.out hb4)
  have HR4 := Lib.hid hR4
  have hltR := HR3.out.lt
  have hlt4 : w3.heap.size < w4.heap.size := hY4.lt
  clear hw4 hb4 hR4
  refine start_ (n := 11) (S := fun w' => Blk w' w3.heap.size 90 ys ∧ Blk w' w2.heap.size 36 #[.string cr.1, .string cr.2.1, .slice A cr.2.2.1.length m] ∧ Blk w' (w3.heap.size + 1) 38 #[.string cr.1, .string cr.2.1, .slice A3 cr.2.2.1.length m3]) (ds := []) (Ra_ [0, 11]) (by kernel_rfl) rfl rfl ⟨hY4.drew, hE4.drew, hF4.drew⟩ (fun hHeld => ?_)
  refine take_ (i := 0) (N := some 140) (Ra_ [1, 10]) rfl rfl (by kernel_rfl) (fun _ _ _ h => h) (yields_row rfl _ _ rfl w3.heap.size rfl _ ys _ (fun _ h => h.1) Try.underlying90 rfl (by rw [HY3.out.1]; exact info90)) hHeld (by simp only [Act.put, sA_, sB_, sC_]; rfl) ?_
  refine take_ (i := 1) (N := some 141) (Ra_ [2, 9]) rfl rfl (by kernel_rfl) (fun _ _ _ h => h) (yields_row rfl _ _ rfl w2.heap.size rfl _ _ _ (fun _ h => h.2.1) Try.underlying36 rfl (by kernel_rfl)) hHeld (by simp only [Act.put, sA_, sB_, sC_]; rfl) ?_
  refine take_ (i := 2) (N := some 142) (Ra_ [3, 8]) rfl rfl (by kernel_rfl) (fun _ _ _ h => h) (yields_row rfl _ _ rfl (w3.heap.size + 1) rfl _ _ _ (fun _ h => h.2.2) Try.underlying38 rfl (by kernel_rfl)) hHeld (by simp only [Act.put, sA_, sB_, sC_]; rfl) ?_
  refine one_ (i := 3) (N := some 143) (Ra_ [4, 7]) rfl rfl (by kernel_rfl) (by decide) (fun K hK => ?_)
  refine goes_ Try.func22 (by kernel_rfl) rfl #[.agg #[.string cr.1, .string cr.2.1, .slice A cr.2.2.1.length m], .agg #[.string cr.1, .string cr.2.1, .slice A3 cr.2.2.1.length m3]] (by rfl) rfl rfl (by (try simp only [List.map_toArray, List.map_cons, List.map_nil]); first | done | rfl) ?_
  have hV5 := Kd.R_reads' (Kd.R_below HV4.out (Below.refl w4.heap.size w4).drew)
  have hU5 := Kd.R_reads' (Kd.R_below HU4.out (Below.refl w4.heap.size w4).drew)
  have hcs := HDR.out.2.2
  rw [HQ.out] at hcs
  refine (strongroomlaw27_same.calls ks _ _ A m _ _ _ A3 m3 _ true _ hV5.2.2 hV5.2.1 hU5.2.2 hU5.2.1 hcs).mono ?_
  rintro e w5 ⟨rfl, hb5⟩
  refine ⟨_, rfl, ?_⟩
  have hb45 : Below w4.heap.size w4 w5 := (Below.refl w4.heap.size w4).drew.trans hb5
  have hR5 := HR4.out.below hb45 HR4.out.lt
  have hD5 := HD4.out.still hb45
  have hX5 := HX4.out.still hb45
  have hW5 := HW4.out.more hb45
  have hY5 := hHeld.1.below hb5 hHeld.1.lt
  have hE5 := hHeld.2.1.below hb5 hHeld.2.1.lt
  have hF5 := hHeld.2.2.below hb5 hHeld.2.2.lt
  refine hK.out _ _ ⟨hY5, hE5, hF5⟩ (fun hHeld => ?_)
  refine pp_ 4 (some 144) (Ra_ [5, 6]) (h := ?_)
  refine pp_ 5 (some 145) (Ra_ [6, 5]) (h := ?_)
  refine pp_ 6 (some 146) (Ra_ [7, 4]) (h := ?_)
  refine pp_ 7 (some 147) (Ra_ [8, 3]) (h := ?_)
  refine pp_ 8 (some 148) (Ra_ [9, 2]) (h := ?_)
  refine one_ (i := 9) (N := none) (Ra_ [10, 1]) rfl rfl (by kernel_rfl) (by decide) (fun K hK => ?_)
  rw [if_pos (by rfl)]
  refine wp_store_row 90 _ _ rfl (w.heap.size + 1 + 1) ys rfl rfl _ _ hR5 (by rw [HY3.out.1]; exact info90) (by rw [zero90, HY3.out.1]) HY3.out.2 ?_
  refine hK.out _ _ ⟨rowS hY5 (by omega), rowS hE5 (by omega), rowS hF5 (by omega)⟩ (fun hHeld => ?_)
  refine pp_ 10 (some 7) (Ra_ [11]) (h := ?_)
  refine done_ (by kernel_rfl) ?_
  try go_wp2
  refine bodyPost_ret (results_ct rfl _ _ (w.heap.size + 1 + 1) 90 _ (0, 0) _ rfl (blk_row hR5 (by rw [zero90, HY3.out.1])) Try.underlying90 rfl (by rw [HY3.out.1]; exact info90)) rfl ?_
  refine ⟨_, _, rfl, Fin.of_row (by have := HGW.out; omega) hW5 hD5 hX5 hR5, fun e => ?_⟩
  first | rfl | (simp; done) | simp_all

end Go.Proofs.Ytgkhdpplmdkkaaa.Ds
