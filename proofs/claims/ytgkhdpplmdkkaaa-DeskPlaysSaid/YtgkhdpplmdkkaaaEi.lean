/- step of a spend. -/
import Derived.Test.YtgkhdpplmdkkaaaEh
import Derived.Test.YtgkhdpplmdkkaaaHDeskPlaysx7
set_option linter.unusedVariables false
set_option linter.unusedSimpArgs false
namespace Go.Proofs.Ytgkhdpplmdkkaaa.Ds
open Go.RowKit Go.Proofs.YtgkhdpplmdkkaaaH.HDeskPlays Go.Proofs.YtgkhdpplmdkkaaaW.PrintWords Go.Proofs.YtgkhdpplmdkkaaaW.PrintLast Go.Proofs.YtgkhdpplmdkkaaaW.PrintMore Go.Proofs.Ytgkhdpplmdkkaaa.Dp

/-- as pp_, the operation wanted or not -/
theorem pq_ {P : Program} {md : Region.Mode} {ops : Array Oper} {Q : Exit → Act → World → Prop} {S : World → Prop} {ds : List Nat} {oi : Oper} {v : Value} {fuel : Nat} {l : Array Bool} {a a' : Act} {w : World} (i : Nat) (N : Option Tmp) (l' : Array Bool)
    (hi : ops[i]? = some oi := by rfl) (hN : oi.dst = N := by rfl) (hc : Go.Proofs.YtgkhdpplmdkkaaaW.PrintLast.anyB md ops l l' i = true := by kernel_rfl) (hQ : ∀ c a w, Q (.panic c) (a.put oi.dst v) w → Q (.panic c) a w := by exact fun _ _ _ h => h)
    (hy : Yields P ops oi v a := by first | exact Or.inl ⟨by rfl, by intro w'; go_simp; with_reducible rfl⟩ | exact Or.inr ⟨by rfl, by rfl⟩) (ha : a.put N v = a' := by simp only [Act.put, sA_, sB_, sC_]; rfl)
    (h : wpAnyLast P md ops Q S ds fuel l' a' w) : wpAnyLast P md ops Q S ds (fuel + 1) l a w := pure_ l' hi hN hc hQ hy ha h
theorem XI.tk0 {w w' : World} {xs old : Array Value} {col : Nat → Nat} {U : Nat → Ses} {b j : Nat} (h : XI w xs col U) (hb : Blk w b 90 old) (hk : KeepBut w w' b none) : XI w' (xs.setIfInBounds (7 * j + 6) (.slice none 0 0)) col (setS U j { U j with tk := [] }) := by
  refine ⟨by simp; exact h.1, one_set h.2.1 _ _ rfl, fun i hi => ?_⟩
  by_cases e : i = j
  · subst e
    rw [setS_same]
    obtain ⟨A5, n5, A6, n6, h7, hs, ht⟩ := (h.2.2 i hi).box hb hk
    exact ⟨A5, n5, none, 0, h7.set6 _, hs, Kd.R_nil _ _ _ _ _⟩
  · rw [setS_ne e]
    exact ((h.2.2 i hi).box hb hk).cells (fun q h1 h2 => by rw [Array.getElem?_setIfInBounds_ne (by omega)])
theorem spdR_at (V : Nat → Ses) (t s : Int) (h : isP t s) : (spdR V t s).1 = (V (ix t s)).tk ∧ (((V (ix t s)).tk.length = 0 ∧ (spdR V t s).2 = 6) ∨ (0 < (V (ix t s)).tk.length ∧ (spdR V t s).2 = 0)) := by
  rw [spdR, if_pos h]
  refine ⟨rfl, ?_⟩
  by_cases e : (V (ix t s)).tk.length = 0
  · exact .inl ⟨e, if_pos e⟩
  · exact .inr ⟨by omega, if_neg e⟩

set_option maxRecDepth 100000 in
set_option maxHeartbeats 4000000 in
theorem step4 {w : World} {g : Nat} {cs xs : Array Value} {col : Nat → Nat} {V U : Nat → Ses} (h : DI w g cs col V) (hx : XI w xs col U) (t s q n : Int) (sum text : ByteArray) (right : Bool) (A8 : Option Addr) (c8 : Nat) (cx : List ByteArray) (ks : Nat) (b3 : Bool) (hS : isP t s → strongroomref27_SameIDs.f ks (V (ix t s)).tk (U (ix t s)).tk = some b3) (hb3 : isP t s → V = U → b3 = true) :
    Calls Try.prog 45 #[.pointer (some ⟨g, 0, none⟩), .agg xs, .agg #[.int .i64 4, .int .i64 t, .int .i64 s, .int .i64 q, .int .i64 n, .string sum, .string text, .bool right, .slice A8 cx.length c8]] w fun e w' =>
      StepOut e w w' g col V U (spdV V t s) (spdV U t s) := by
  have ht := three w xs #[.int .i64 4, .int .i64 t, .int .i64 s, .int .i64 q, .int .i64 n, .string sum, .string text, .bool right, .slice A8 cx.length c8]
  have hd := h.still ht.2.2.2
  have hxx := hx.still ht.2.2.2
  have HZ := Lib.hid (And.intro hx.1 hx.2.1)
  have HGW := Lib.hid h.1.lt
  have HT := Lib.hid ht
  have HD := Lib.hid hd
  have HX := Lib.hid hxx
  clear ht hd hxx h hx
  have HDR := Lib.hid (And.intro hS hb3)
  clear hS hb3
  go_enter Try.func45, Try.ntmps45
  go_wp2_with fail
  refine (is_any t s _).mono ?_
  rintro e w' ⟨rfl, rfl⟩
  by_cases hp : isP t s
  case neg =>
    rw [decide_eq_false hp]
    have HP := Lib.hid hp
    clear hp
    go_wp2_with fail
    refine (d_spend HD.out t s).mono ?_
    rintro e w2 ⟨⟨v, rfl, hr2⟩, hO⟩
    rw [show spdR V t s = ([], 1) from if_neg HP.out] at hr2 ⊢
    obtain ⟨A, m, rfl⟩ := Kd.R_slice hr2
    have hB2 := hO.blk HT.out.1 (colN_new (Nat.le_refl _))
    have hC2 := hO.blk HT.out.2.1 (colN_new (by omega))
    have hR2 := hO.blk HT.out.2.2.1 (colN_new (by omega))
    have hW2 : Kp col g w w2 := (Kp.of HT.out.2.2.2 HGW.out).out (fun k hk h0 => by rw [colN_old hk]; exact h0) hO
    obtain ⟨cs2, col2, hD2, hXs2, hag2⟩ := hO.2.1
    have hX2 := hXs2 _ _ HX.out
    have o0 := hC2.cell 0
    have o1 := hC2.cell 1
    have o2 := hC2.cell 2
    have o3 := hC2.cell 3
    have o4 := hC2.cell 4
    have o5 := hC2.cell 5
    have o6 := hC2.cell 6
    have o7 := hC2.cell 7
    have o8 := hC2.cell 8
    have HB2 := Lib.hid hB2
    have HC2 := Lib.hid hC2
    have HR2 := Lib.hid hR2
    have HW2 := Lib.hid hW2
    have HD2 := Lib.hid hD2
    have HX2 := Lib.hid hX2
    clear hO hB2 hC2 hR2 hW2 hD2 hX2 hXs2 hag2 hr2
    go_wp2_with (first
      | ((with_reducible refine wl_load90 ?zz_hg ?_ ?zz_ho ?_ ?zz_hx ?_ ?zz_hb ?zz_hz ?_); (case zz_ho => exact rfl); (case zz_hx => exact rfl); (case zz_hb => with_reducible exact HB2.out); (case zz_hg => exact rfl); (case zz_hz => exact HZ.out.1))
      | ((with_reducible refine wl_store90 ?zz_hg ?_ ?_ ?zz_ho ?_ ?zz_hx ?_ ?zz_hy ?_ ?zz_hb ?zz_yz ?zz_hz ?zz_h1 ?_); (case zz_ho => exact rfl); (case zz_hx => exact rfl); (case zz_hy => exact rfl); (case zz_hb => with_reducible exact HR2.out); (case zz_hg => exact rfl); (case zz_yz => exact zero90); (case zz_hz => exact HZ.out.1); (case zz_h1 => exact HZ.out.2)))
    all_goals
      refine bodyPost_ret (results_ct rfl _ _ (w.heap.size + 1 + 1) 90 _ (0, 0) _ rfl (blk_row HR2.out (by rw [zero90, HZ.out.1])) Try.underlying90 rfl (by rw [HZ.out.1]; exact info90)) rfl ?_
      refine ⟨_, _, rfl, Fin.of_row (by have := HGW.out; omega) HW2.out HD2.out (by rw [show spdV U t s = U from if_neg HP.out]; exact HX2.out) HR2.out, fun e => ?_⟩
      first | rfl | (simp; done) | simp_all
  rw [decide_eq_true hp]
  have HP := Lib.hid hp
  obtain ⟨g1, g2, g3, g4⟩ := hp
  go_wp2_with fail
  refine (d_spend HD.out t s).mono ?_
  rintro e w2 ⟨⟨v, rfl, hr2⟩, hO⟩
  have hsp := spdR_at V t s HP.out
  generalize spdR V t s = sr at hr2 hsp ⊢
  obtain ⟨A, m, rfl⟩ := Kd.R_slice hr2
  have hB2 := hO.blk HT.out.1 (colN_new (Nat.le_refl _))
  have hC2 := hO.blk HT.out.2.1 (colN_new (by omega))
  have hR2 := hO.blk HT.out.2.2.1 (colN_new (by omega))
  have hW2 : Kp col g w w2 := (Kp.of HT.out.2.2.2 HGW.out).out (fun k hk h0 => by rw [colN_old hk]; exact h0) hO
  obtain ⟨cs2, col2, hD2, hXs2, hag2⟩ := hO.2.1
  have hX2 := hXs2 _ _ HX.out
  obtain ⟨A5, n5, A6, n6, h7, hs, ht⟩ := hX2.2.2 _ (ix_lt HP.out)
  have ho : (t.toNat - 1) * 28 + s.toNat * 7 = 7 * ix t s := ix_o
  have hlo : 7 * ix t s + 6 < 224 := by have := ix_lt HP.out; omega
  generalize hoo : 7 * ix t s = o at ho h7 hlo
  have q6 := (hB2.cell (o + 6)).trans h7.c6
  have f6 := hB2.frozen (o + 6)
  have o0 := hC2.cell 0
  have o1 := hC2.cell 1
  have o2 := hC2.cell 2
  have o3 := hC2.cell 3
  have o4 := hC2.cell 4
  have o5 := hC2.cell 5
  have o6 := hC2.cell 6
  have o7 := hC2.cell 7
  have o8 := hC2.cell 8
  have HB2 := Lib.hid hB2
  have HC2 := Lib.hid hC2
  have HR2 := Lib.hid hR2
  have HW2 := Lib.hid hW2
  have HD2 := Lib.hid hD2
  have HX2 := Lib.hid hX2
  have HV2 := Lib.hid hr2
  have HS7 := Lib.hid (And.intro h7 (And.intro hs ht))
  have HSP := Lib.hid hsp
  have HOO := Lib.hid hoo
  clear hO hB2 hC2 hR2 hW2 hD2 hX2 hXs2 hag2 hr2 h7 hs ht hsp hoo
  go_wp2_with fail
  go_region
  go_wp2_with fail
  go_region
  go_wp2_with fail
  refine abs_world ?_
  intro w4 hw4
  have hk4 : KeepBut w2 w4 w.heap.size none := by rw [hw4]; exact keep_drew (keep_drew ((KeepBut.refl _ _ _).set_ _ _))
  have hB4 : Blk w4 w.heap.size 90 (xs.setIfInBounds (o + 6) (.slice none 0 0)) := by rw [hw4]; exact (HB2.out.set_ _ _).drew.drew
  have hR4 : Blk w4 (w.heap.size + 1 + 1) 90 Try.zeroCells90 := (hk4.2 _ HR2.out.lt (by omega) (by simp)).trans HR2.out
  have hz4 : (xs.setIfInBounds (o + 6) (.slice none 0 0)).size = 224 := by simp; exact HZ.out.1
  have h14 : (xs.setIfInBounds (o + 6) (.slice none 0 0)).all (·.oneCell') = true := one_set HZ.out.2 _ _ rfl
  have hX4 := HX2.out.tk0 (j := ix t s) HB2.out hk4
  rw [HOO.out] at hX4
  have hD4 := HD2.out.box HB2.out hk4 (Nat.ne_of_lt HGW.out)
  have hW4 : Kp col g w w4 := by rw [hw4]; exact HW2.out.moreN (below_set (Below.refl w.heap.size w2) (Nat.le_refl _) _ _).drew.drew
  have hV4 := Kd.R_mono (Kd.R_keep (Kd.R_types HV2.out HB2.out (by decide)) hk4 (fun _ h => h.2)) (fun _ _ => trivial)
  have hU4 := Kd.R_mono (Kd.R_keep (Kd.R_types HS7.out.2.2 HB2.out (by decide)) hk4 (fun _ h => h.2)) (fun _ _ => trivial)
  have HR4 := Lib.hid hR4
  have HX4 := Lib.hid hX4
  have HD4 := Lib.hid hD4
  have HW4 := Lib.hid hW4
  have HV4 := Lib.hid (Kd.R_drew hV4)
  have HU4 := Lib.hid (Kd.R_drew hU4)
  have HY4 := Lib.hid (And.intro hz4 h14)
  have hlt2 := HR2.out.lt
  clear hw4 hk4 hR4 hX4 hD4 hW4 hV4 hU4 hz4 h14 q6 f6 o0 o1 o2 o3 o4 o5 o6 o7 o8 ho hlo
  have hsame := HDR.out.1 HP.out
  have hb3' := HDR.out.2 HP.out
  have hup : spdV U t s = setS U (ix t s) { U (ix t s) with tk := [] } := if_pos HP.out
  rw [← hup] at HX4
  have hsr1 := HSP.out.1
  have hsr2 := HSP.out.2
  rw [← hsr1] at hsame hsr2
  have hvu : V = U → sr.1.length = (U (ix t s)).tk.length := fun e => by rw [hsr1, e]
  clear HSP hsr1 hup
  obtain ⟨sl, se⟩ := sr
  simp only at hsame hsr2 hvu HV4 ⊢
  generalize hut : (U (ix t s)).tk = ut at hsame hvu HU4 ⊢
  refine start_ (n := 23) (S := fun w' => Blk w' w.heap.size 90 (xs.setIfInBounds (o + 6) (.slice none 0 0))) (ds := []) (Ra_ [0, 23]) (by kernel_rfl) rfl rfl hB4.drew (fun hHeld => ?_)
  refine take_ (i := 0) (N := some 267) (Ra_ [1, 22]) rfl rfl (by kernel_rfl) (fun _ _ _ h => h) (yields_row rfl _ _ rfl w.heap.size rfl _ (xs.setIfInBounds (o + 6) (.slice none 0 0)) _ (fun _ h => h) Try.underlying90 rfl (by rw [HY4.out.1]; exact info90)) hHeld (by simp only [Act.put, sA_, sB_, sC_]; rfl) ?_
  refine pp_ 1 (some 268) (Ra_ [2, 21]) (h := ?_)
  refine pp_ 2 (some 269) (Ra_ [3, 20]) (h := ?_)
  refine one_ (i := 3) (N := some 270) (Ra_ [4, 19]) rfl rfl (by kernel_rfl) (by decide) (fun K hK => ?_)
  refine goes_ Try.func76 (by kernel_rfl) rfl #[.slice A sl.length m, .slice A6 ut.length n6] (by rfl) rfl rfl (by (try simp only [List.map_toArray, List.map_cons, List.map_nil]); first | done | rfl) ?_
  refine (strongroomref27_SameIDs.calls ks A m sl A6 n6 ut b3 _ (Kd.R_reads' HV4.out).2.2 (Kd.R_reads' HV4.out).2.1 (Kd.R_reads' HU4.out).2.2 (Kd.R_reads' HU4.out).2.1 hsame).mono ?_
  rintro e w5 ⟨rfl, hb5⟩
  refine ⟨_, rfl, ?_⟩
  have hb45 : Below w4.heap.size w4 w5 := (Below.refl w4.heap.size w4).drew.trans hb5.below
  have hR5 := HR4.out.below hb45 HR4.out.lt
  have hD5 := HD4.out.still hb45
  have hX5 := HX4.out.still hb45
  have hW5 := HW4.out.more hb45
  have hB5 := hHeld.below hb5.below hHeld.lt
  refine hK.out _ _ hB5 (fun hHeld => ?_)
  generalize hn1 : sl.length = nl at hsr2 hvu ⊢
  generalize hn2 : ut.length = nu at hvu ⊢
  rcases hsr2 with ⟨rfl, rfl⟩ | ⟨hnl, rfl⟩ <;> rcases Nat.eq_zero_or_pos nu with rfl | hnu <;> cases b3
  all_goals
    refine pq_ 4 (some 271) (Ra_ [5, 18]) (h := ?_)
    refine pq_ 5 (some 272) (Ra_ [6, 17]) (h := ?_)
    refine pq_ 6 (some 273) (Ra_ [7, 16]) (h := ?_)
    refine pq_ 7 (some 274) (Ra_ [8, 15]) (h := ?_)
    refine pq_ 8 (some 275) (Ra_ [9, 14]) (h := ?_)
    refine pq_ 9 (some 276) (Ra_ [10, 13]) (h := ?_)
    refine pq_ 10 (some 277) (Ra_ [11, 12]) (h := ?_)
    refine pq_ 11 (some 278) (Ra_ [12, 11]) (h := ?_)
    refine pq_ 12 (some 279) (Ra_ [13, 10]) (h := ?_)
    refine pq_ 13 (some 280) (Ra_ [14, 9]) (h := ?_)
    refine pq_ 14 (some 281) (Ra_ [15, 8]) (h := ?_)
    refine pq_ 15 (some 282) (Ra_ [16, 7]) (h := ?_)
    refine pq_ 16 (some 283) (Ra_ [17, 6]) (h := ?_)
    refine pq_ 17 (some 284) (Ra_ [18, 5]) (h := ?_)
    refine pq_ 18 (some 285) (Ra_ [19, 4]) (h := ?_)
    refine pq_ 19 (some 286) (Ra_ [20, 3]) (h := ?_)
    refine pq_ 20 (some 287) (Ra_ [21, 2]) (h := ?_)
    refine one_ (i := 21) (N := none) (Ra_ [22, 1]) rfl rfl (by kernel_rfl) (by decide) (fun K hK => ?_)
    rw [if_pos (by rfl)]
    refine wp_store_row 90 _ _ rfl (w.heap.size + 1 + 1) (xs.setIfInBounds (o + 6) (.slice none 0 0)) rfl rfl _ _ hR5 (by rw [HY4.out.1]; exact info90) (by rw [zero90, HY4.out.1]) HY4.out.2 ?_
    refine hK.out _ _ (rowS hB5 (by omega)) (fun hHeld => ?_)
    refine pp_ 22 (some 7) (Ra_ [23]) (h := ?_)
    refine done_ (by kernel_rfl) ?_
    try go_wp2
    refine bodyPost_ret (results_ct rfl _ _ (w.heap.size + 1 + 1) 90 _ (0, 0) _ rfl (blk_row hR5 (by rw [zero90, HY4.out.1])) Try.underlying90 rfl (by rw [HY4.out.1]; exact info90)) rfl ?_
    refine ⟨_, _, rfl, Fin.of_row (by have := HGW.out; omega) hW5 hD5 hX5 hR5, fun e => ?_⟩
    first | rfl | (have h1 := hvu e; have h2 := hb3' e; first | (exfalso; omega) | (exfalso; revert h2; decide) | simp_all)

end Go.Proofs.Ytgkhdpplmdkkaaa.Ds
