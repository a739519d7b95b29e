/- The reference's Sessions; step of a forgetting. -/
import Derived.Test.YtgkhdpplmdkkaaaEf
set_option linter.unusedVariables false
set_option linter.unusedSimpArgs false
namespace Go.Proofs.Ytgkhdpplmdkkaaa.Ds
open Go.RowKit Go.Proofs.YtgkhdpplmdkkaaaH.HDeskPlays Go.Proofs.YtgkhdpplmdkkaaaW.PrintWords Go.Proofs.YtgkhdpplmdkkaaaW.PrintLast Go.Proofs.YtgkhdpplmdkkaaaW.PrintMore Go.Proofs.Ytgkhdpplmdkkaaa.Dp

def fgtL (U : Nat → Ses) (t : Int) : List Int := if 1 ≤ t ∧ t ≤ 8 then hasAt (fgtB U t) 4 else []
def fgtK (U : Nat → Ses) (t : Int) (k : Nat) : List Int := if 1 ≤ t ∧ t ≤ 8 then hasAt (fgtB U t) k else []
theorem fgtK_len (U : Nat → Ses) (t : Int) (k : Nat) : (fgtK U t k).length ≤ k := by
  unfold fgtK
  split
  · exact hasAt_len _ _
  · simp

set_option maxRecDepth 100000 in
set_option maxHeartbeats 2000000 in
theorem x_sessions {w0 w : World} {xs : Array Value} {col : Nat → Nat} {U : Nat → Ses} (h : XI w0 xs col U) (t : Int) :
    Calls Try.prog 77 #[.agg xs, .int .i64 t] w fun e w' =>
      ∃ v, e = .returned v ∧ Kd.R (Kd.int .i64) 3 w' w.heap.size (fun _ => True) v (fgtL U t) ∧ Below w.heap.size w w' := by
  have HX := Lib.hid h.2.2
  have HB0 := Lib.hid (Blk.new w 90 xs)
  clear h
  go_enter Try.func77, Try.ntmps77
  go_wp2_with fail
  go_loopw [5, 6] (fun l i wr => ∃ k : Nat, i = .int .i64 k ∧ k ≤ 4 ∧ Kd.R (Kd.int .i64) 3 wr (w.heap.size + 1) (fun _ => True) l (fgtK U t k) ∧ Below (w.heap.size + 1) (w.alloc (.cells xs 90)) wr) (fun _ i _ => 4 - (intOf i).toNat)
  case atStart => exact ⟨0, rfl, by omega, by rw [show fgtK U t 0 = [] from by unfold fgtK; split <;> rfl]; exact Kd.R_nil _ _ _ _ _, Below.refl _ _⟩
  case round =>
    obtain ⟨k, rfl, hk, hr, hw⟩ := hrel
    have HR := Lib.hid hr
    have hBx := HB0.out.below hw (by omega)
    have HBx := Lib.hid hBx
    have HW := Lib.hid hw
    have HWB := Lib.hid ((below_allocW w _).trans (hw.mono (Nat.le_succ _)))
    have hlen := fgtK_len U t k
    clear hr hw hBx
    by_cases h4 : k < 4
    case neg =>
      have h4' : k = 4 := by omega
      subst h4'
      go_wp2
      go_ret
      exact ⟨_, rfl, Kd.R_lower HR.out (Nat.le_succ _), HWB.out⟩
    by_cases ht : 1 ≤ t ∧ t ≤ 8
    case neg =>
      have hf : fgtK U t (k + 1) = fgtK U t k := by unfold fgtK; rw [if_neg ht, if_neg ht]
      have HF := Lib.hid hf
      have HNP := Lib.hid (show ¬ isP t (k : Int) from fun h_ => ht ⟨h_.1, h_.2.1⟩)
      clear ht hf
      go_wp2_with (go_at_call 15; refine (is_no _ _ _ HNP.out).mono ?_; rintro e w' ⟨rfl, rfl⟩)
      go_roundw
      case rel => exact ⟨k + 1, by go_num, by omega, by rw [HF.out]; exact HR.out, HW.out⟩
      case measure => simp [intOf]; omega
    have hp : isP t (k : Int) := ⟨ht.1, ht.2, by omega, by omega⟩
    have hb : fgtB U t k = anyS (U (ix t (k : Int))) := by unfold fgtB ix; rw [Int.toNat_natCast]
    have hf : fgtK U t (k + 1) = fgtK U t k ++ (if fgtB U t k = true then [(k : Int)] else []) := by unfold fgtK; rw [if_pos ht, if_pos ht, hasAt_succ]
    obtain ⟨A5, n5, A6, n6, h7, _, _⟩ := HX.out _ (ix_lt hp)
    have ho : (t.toNat - 1) * 28 + k * 7 = 7 * ix t (k : Int) := by unfold ix; rw [Int.toNat_natCast]; omega
    generalize 7 * ix t (k : Int) = o at ho h7
    generalize hx_ : U (ix t (k : Int)) = x at h7 hb
    have k0 := (HBx.out.cell o).trans h7.c0
    have k1 := (HBx.out.cell (o + 1)).trans h7.c1
    have k2 := (HBx.out.cell (o + 2)).trans h7.c2
    have k3 := (HBx.out.cell (o + 3)).trans h7.c3
    have k4 := (HBx.out.cell (o + 4)).trans h7.c4
    have k5 := (HBx.out.cell (o + 5)).trans h7.c5
    have k6 := (HBx.out.cell (o + 6)).trans h7.c6
    have HF := Lib.hid hf
    have HBB := Lib.hid hb
    obtain ⟨t1, t2⟩ := ht
    clear hf hb h7
    go_wp2_with (go_at_call 15; refine (is_yes _ _ _ (by omega) (by omega) (by omega) (by omega)).mono ?_; rintro e w' ⟨rfl, rfl⟩)
    refine (rany_at x.l x.r x.p x.su x.no A5 A6 x.sl.length n5 x.tk.length n6 _).mono ?_
    rintro e w2 ⟨rfl, hb2⟩
    have HR2 := Lib.hid (Kd.R_below HR.out hb2)
    have HW2 := Lib.hid (HW.out.trans (hb2.mono (by have := HW.out.size; simpa using this)))
    have HWB2 := Lib.hid (HWB.out.trans (hb2.mono HWB.out.size))
    clear hb2 k0 k1 k2 k3 k4 k5 k6
    have hxa : anyB x.l x.p x.tk.length = fgtB U t k := HBB.out.symm
    rw [hxa]
    cases hc : fgtB U t k
    · go_wp2
      go_roundw
      case rel => exact ⟨k + 1, by go_num, by omega, by rw [HF.out, hc]; simpa using HR2.out, HW2.out⟩
      case measure => simp [intOf]; omega
    · go_wp2_with (first | ((with_reducible refine gate_builtin (b := .append) (xs := #[.tmp 23, .tmp 25]) rfl ?_); at_builtin; refine Kd.R_append (Kd.int .i64) (w0 := w.alloc (.cells xs 90)) (w.heap.size + 1) rfl (.tmp 23) (.tmp 25) 22 3 (.int .i64 0) 8 rfl Try.underlying22 info3 rfl (by decide) (by omega) _ (fgtK U t k) (k : Int) [.int .i64 (k : Int)] (fun _ => True) (fun _ => False) rfl rfl ?aP (fun _ hk => hk.elim) ?aF ?aO ?aB ?aS ?aL ?_; (case aP => exact rfl); (case aF => exact (fun _ _ => trivial)); (case aO => exact HR2.out); (case aB => exact HW2.out); (case aS => have h_ := HW2.out.size; simpa using h_); (case aL => omega); intro v1 w3 hr3 hb3 hg3 hat3; have HR3 := Lib.hid hr3; have HB3 := Lib.hid hb3; clear hr3 hb3 hg3 hat3))
      go_roundw
      case rel => exact ⟨k + 1, by go_num, by omega, by rw [HF.out, hc]; exact HR3.out, HB3.out⟩
      case measure => simp [intOf]; omega

theorem SesAt.box {w w' : World} {okS okT : Nat → Prop} {cs : Array Value} {o b : Nat} {x : Ses} {old : Array Value} (h : SesAt w okS okT cs o x) (hb : Blk w b 90 old) (hk : KeepBut w w' b none) : SesAt w' okS okT cs o x := by
  obtain ⟨A5, n5, A6, n6, h7, hs, ht⟩ := h
  exact ⟨A5, n5, A6, n6, h7, Kd.R_mono (Kd.R_keep (Kd.R_types hs hb (by decide)) hk (fun k h1 => h1.2)) (fun _ h => h.1), Kd.R_mono (Kd.R_keep (Kd.R_types ht hb (by decide)) hk (fun k h1 => h1.2)) (fun _ h => h.1)⟩
theorem DI.box {w w' : World} {g b : Nat} {cs old : Array Value} {col : Nat → Nat} {V : Nat → Ses} (h : DI w g cs col V) (hb : Blk w b 90 old) (hk : KeepBut w w' b none) (hg : g ≠ b) : DI w' g cs col V :=
  ⟨(hk.2 g h.1.lt hg (by simp)).trans h.1, h.2.1, h.2.2.1, fun j hj => (h.2.2.2 j hj).box hb hk⟩
/-- the desk's cells, the first k sessions of a tenant gone -/
def zk (xs : Array Value) (base : Nat) : Nat → Array Value
  | 0 => xs
  | k + 1 => zero7 (zk xs base k) (base + k * 7)
theorem zk_size (xs : Array Value) (base : Nat) : ∀ k, (zk xs base k).size = xs.size
  | 0 => rfl
  | k + 1 => by rw [zk, zero7_size, zk_size xs base k]
theorem zk_one {xs : Array Value} (h : xs.all (·.oneCell') = true) (base : Nat) : ∀ k, (zk xs base k).all (·.oneCell') = true
  | 0 => h
  | k + 1 => by
    rw [zk, zero7]
    exact one_set (one_set (one_set (one_set (one_set (one_set (one_set (zk_one h base k) _ _ rfl) _ _ rfl) _ _ rfl) _ _ rfl) _ _ rfl) _ _ rfl) _ _ rfl
theorem zk_far (xs : Array Value) (base q : Nat) : ∀ k, ¬ (base ≤ q ∧ q < base + k * 7) → (zk xs base k)[q]? = xs[q]?
  | 0, _ => rfl
  | k + 1, h => by rw [zk, zero7_far (by omega), zk_far xs base q k (by omega)]
theorem zk_hit (xs : Array Value) (base m : Nat) {l : Int} {r : ByteArray} {p : Bool} {su no : ByteArray} {v5 v6 : Value} (h : S7 xs (base + m * 7) l r p su no v5 v6) : ∀ k, m < k → S7 (zk xs base k) (base + m * 7) 0 ⟨#[]⟩ false ⟨#[]⟩ ⟨#[]⟩ (.slice none 0 0) (.slice none 0 0)
  | 0, hk => by omega
  | k + 1, hk => by
    rw [zk]
    by_cases e : m = k
    · subst e
      have hf : ∀ q, base + m * 7 ≤ q → (zk xs base m)[q]? = xs[q]? := fun q hq => zk_far xs base q m (by omega)
      obtain ⟨c0, c1, c2, c3, c4, c5, c6⟩ := h
      exact zero7_S7 ⟨(hf _ (by omega)).trans c0, (hf _ (by omega)).trans c1, (hf _ (by omega)).trans c2, (hf _ (by omega)).trans c3, (hf _ (by omega)).trans c4, (hf _ (by omega)).trans c5, (hf _ (by omega)).trans c6⟩
    · obtain ⟨c0, c1, c2, c3, c4, c5, c6⟩ := zk_hit xs base m h k (by omega)
      have hf : ∀ q, base + m * 7 ≤ q → q < base + m * 7 + 7 → (zero7 (zk xs base k) (base + k * 7))[q]? = (zk xs base k)[q]? := fun q h1 h2 => zero7_far (by omega)
      exact ⟨(hf _ (by omega) (by omega)).trans c0, (hf _ (by omega) (by omega)).trans c1, (hf _ (by omega) (by omega)).trans c2, (hf _ (by omega) (by omega)).trans c3, (hf _ (by omega) (by omega)).trans c4, (hf _ (by omega) (by omega)).trans c5, (hf _ (by omega) (by omega)).trans c6⟩
def fgtU (U : Nat → Ses) (t : Int) : Nat → Ses := fun j => if (1 ≤ t ∧ t ≤ 8) ∧ j / 4 = t.toNat - 1 then ses0 else U j
theorem XI.gone {w w' : World} {xs old : Array Value} {col : Nat → Nat} {U : Nat → Ses} {b : Nat} (h : XI w xs col U) (t : Int) (ht : 1 ≤ t ∧ t ≤ 8) (hb : Blk w b 90 old) (hk : KeepBut w w' b none) : XI w' (zk xs ((t.toNat - 1) * 28) 4) col (fgtU U t) := by
  refine ⟨by rw [zk_size]; exact h.1, zk_one h.2.1 _ _, fun j hj => ?_⟩
  by_cases hc : j / 4 = t.toNat - 1
  · rw [fgtU, if_pos ⟨ht, hc⟩]
    obtain ⟨A5, n5, A6, n6, h7, _, _⟩ := h.2.2 j hj
    have ho : 7 * j = (t.toNat - 1) * 28 + (j % 4) * 7 := by omega
    rw [ho] at h7 ⊢
    exact ⟨none, 0, none, 0, zk_hit xs _ (j % 4) h7 4 (by omega), Kd.R_nil _ _ _ _ _, Kd.R_nil _ _ _ _ _⟩
  · rw [fgtU, if_neg (fun h_ => hc h_.2)]
    exact ((h.2.2 j hj).box hb hk).cells (fun q h1 h2 => zk_far _ _ _ _ (by omega))

set_option maxRecDepth 100000 in
set_option maxHeartbeats 4000000 in
theorem step5 {w : World} {g : Nat} {cs xs : Array Value} {col : Nat → Nat} {V U : Nat → Ses} (h : DI w g cs col V) (hx : XI w xs col U) (t s q n : Int) (sum text : ByteArray) (right : Bool) (A8 : Option Addr) (c8 : Nat) (cx : List ByteArray) :
    Calls Try.prog 45 #[.pointer (some ⟨g, 0, none⟩), .agg xs, .agg #[.int .i64 5, .int .i64 t, .int .i64 s, .int .i64 q, .int .i64 n, .string sum, .string text, .bool right, .slice A8 cx.length c8]] w fun e w' =>
      StepOut e w w' g col V U (fgtV V t) (fgtU U t) := by
  have ht := three w xs #[.int .i64 5, .int .i64 t, .int .i64 s, .int .i64 q, .int .i64 n, .string sum, .string text, .bool right, .slice A8 cx.length c8]
  have hd := h.still ht.2.2.2
  have hxx := hx.still ht.2.2.2
  have HZ := Lib.hid (And.intro hx.1 hx.2.1)
  have HGW := Lib.hid h.1.lt
  have HT := Lib.hid ht
  have HD := Lib.hid hd
  have HX := Lib.hid hxx
  clear ht hd hxx h hx
  go_enter Try.func45, Try.ntmps45
  go_wp2_with fail
  refine (is_any t s _).mono ?_
  rintro e w' ⟨rfl, rfl⟩
  generalize decide (isP t s) = bq
  go_wp2_with fail
  refine (d_forget HD.out t).mono ?_
  rintro e w2 ⟨rfl, hO⟩
  have hB2 := hO.blk HT.out.1 (colN_new (Nat.le_refl _))
  have hC2 := hO.blk HT.out.2.1 (colN_new (by omega))
  have hR2 := hO.blk HT.out.2.2.1 (colN_new (by omega))
  have hW2 : Kp col g w w2 := (Kp.of HT.out.2.2.2 HGW.out).out (fun k hk h0 => by rw [colN_old hk]; exact h0) hO
  obtain ⟨cs2, col2, hD2, hXs2, hag2⟩ := hO.2.1
  have hX2 := hXs2 _ _ HX.out
  have o0 := hC2.cell 0
  have o1 := hC2.cell 1
  have o2 := hC2.cell 2
  have o3 := hC2.cell 3
  have o4 := hC2.cell 4
  have o5 := hC2.cell 5
  have o6 := hC2.cell 6
  have o7 := hC2.cell 7
  have o8 := hC2.cell 8
  have HB2 := Lib.hid hB2
  have HC2 := Lib.hid hC2
  have HR2 := Lib.hid hR2
  have HW2 := Lib.hid hW2
  have HD2 := Lib.hid hD2
  have HX2 := Lib.hid hX2
  clear hO hB2 hC2 hR2 hW2 hD2 hX2 hXs2 hag2
  go_wp2_with ((with_reducible refine wl_load90 ?zz_hg ?_ ?zz_ho ?_ ?zz_hx ?_ ?zz_hb ?zz_hz ?_); (case zz_ho => exact rfl); (case zz_hx => exact rfl); (case zz_hb => with_reducible exact HB2.out); (case zz_hg => exact rfl); (case zz_hz => exact HZ.out.1))
  refine (x_sessions HX2.out t).mono ?_
  rintro e w3 ⟨v, rfl, hr3, hb3⟩
  obtain ⟨A, m, rfl⟩ := Kd.R_slice hr3
  have HB3 := Lib.hid (HB2.out.below hb3 HB2.out.lt)
  have HC3 := Lib.hid (HC2.out.below hb3 HC2.out.lt)
  have HR3 := Lib.hid (HR2.out.below hb3 HR2.out.lt)
  have HW3 := Lib.hid (HW2.out.more hb3)
  have HD3 := Lib.hid (HD2.out.below hb3)
  have HX3 := Lib.hid (HX2.out.below hb3)
  have hgb : g ≠ w.heap.size := Nat.ne_of_lt HGW.out
  clear hr3 hb3 o0 o1 o2 o3 o4 o5 o6 o7 o8
  go_wp2_with fail
  go_loopw [33] (fun i wr => ∃ k : Nat, i = .int .i64 k ∧ k ≤ 4 ∧ (k = 0 ∨ (1 ≤ t ∧ t ≤ 8)) ∧ KeepBut w3 wr w.heap.size none ∧ Below w.heap.size w3 wr ∧ Blk wr w.heap.size 90 (zk xs ((t.toNat - 1) * 28) k)) (fun i _ => 4 - (intOf i).toNat)
  case atStart => exact ⟨0, rfl, by omega, .inl rfl, KeepBut.refl _ _ _, Below.refl _ _, HB3.out⟩
  case round =>
    obtain ⟨k, rfl, hk, hkt, hkb, hbl, hbb⟩ := hrel
    have hCr : Blk wr (w.heap.size + 1) 69 #[.int .i64 5, .int .i64 t, .int .i64 s, .int .i64 q, .int .i64 n, .string sum, .string text, .bool right, .slice A8 cx.length c8] := (hkb.2 _ HC3.out.lt (by omega) (by simp)).trans HC3.out
    have HRr := Lib.hid (show Blk wr (w.heap.size + 1 + 1) 90 Try.zeroCells90 from (hkb.2 _ HR3.out.lt (by omega) (by simp)).trans HR3.out)
    have HWr := Lib.hid (HW3.out.moreN hbl)
    have HDr := Lib.hid (HD3.out.box HB3.out hkb hgb)
    have oc1 := hCr.cell 1
    have HKB := Lib.hid hkb
    have HBL := Lib.hid hbl
    by_cases ht : 1 ≤ t ∧ t ≤ 8
    case neg =>
      have hk0 : k = 0 := by omega
      subst hk0
      have HNP := Lib.hid (show ¬ isP t 0 from fun h_ => ht ⟨h_.1, h_.2.1⟩)
      have HXr := Lib.hid (show XI wr xs col2 (fgtU U t) from by
        rw [show fgtU U t = U from funext fun j => by rw [fgtU, if_neg (fun h_ => ht h_.1)]]
        exact ⟨HX3.out.1, HX3.out.2.1, fun j hj => (HX3.out.2.2 j hj).box HB3.out hkb⟩)
      have HBB := Lib.hid hbb
      have HTN := Lib.hid ht
      clear hkb hbl hbb hCr ht hkt
      go_wp2_with (first
        | (go_at_call 15; refine (is_no _ _ _ HNP.out).mono ?_; rintro e w' ⟨rfl, rfl⟩)
        | ((with_reducible refine wl_load90 ?zz_hg ?_ ?zz_ho ?_ ?zz_hx ?_ ?zz_hb ?zz_hz ?_); (case zz_ho => exact rfl); (case zz_hx => exact rfl); (case zz_hb => with_reducible exact HBB.out); (case zz_hg => exact rfl); (case zz_hz => rw [zk_size]; exact HZ.out.1))
        | ((with_reducible refine wl_store90 ?zz_hg ?_ ?_ ?zz_ho ?_ ?zz_hx ?_ ?zz_hy ?_ ?zz_hb ?zz_yz ?zz_hz ?zz_h1 ?_); (case zz_ho => exact rfl); (case zz_hx => exact rfl); (case zz_hy => exact rfl); (case zz_hb => with_reducible exact HRr.out); (case zz_hg => exact rfl); (case zz_yz => exact zero90); (case zz_hz => rw [zk_size]; exact HZ.out.1); (case zz_h1 => exact zk_one HZ.out.2 _ _)))
      all_goals
        refine bodyPost_ret (results_ct rfl _ _ (w.heap.size + 1 + 1) 90 _ (0, 0) _ rfl (blk_row HRr.out (by rw [zero90, zk_size, HZ.out.1])) Try.underlying90 rfl (by rw [zk_size, HZ.out.1]; exact info90)) rfl ?_
        refine ⟨_, _, rfl, Fin.of_row (by have := HGW.out; omega) HWr.out HDr.out HXr.out HRr.out, fun e => ?_⟩
        subst e
        simp [fgtN, fgtL, HTN.out]
    by_cases h4 : k < 4
    case neg =>
      have hk4 : k = 4 := by omega
      subst hk4
      have HXr := Lib.hid (HX3.out.gone t ht HB3.out hkb)
      have HBB := Lib.hid hbb
      have HTN := Lib.hid ht
      clear hkb hbl hbb hCr ht hkt
      go_wp2_with (first
        | ((with_reducible refine wl_load90 ?zz_hg ?_ ?zz_ho ?_ ?zz_hx ?_ ?zz_hb ?zz_hz ?_); (case zz_ho => exact rfl); (case zz_hx => exact rfl); (case zz_hb => with_reducible exact HBB.out); (case zz_hg => exact rfl); (case zz_hz => rw [zk_size]; exact HZ.out.1))
        | ((with_reducible refine wl_store90 ?zz_hg ?_ ?_ ?zz_ho ?_ ?zz_hx ?_ ?zz_hy ?_ ?zz_hb ?zz_yz ?zz_hz ?zz_h1 ?_); (case zz_ho => exact rfl); (case zz_hx => exact rfl); (case zz_hy => exact rfl); (case zz_hb => with_reducible exact HRr.out); (case zz_hg => exact rfl); (case zz_yz => exact zero90); (case zz_hz => rw [zk_size]; exact HZ.out.1); (case zz_h1 => exact zk_one HZ.out.2 _ _)))
      all_goals
        refine bodyPost_ret (results_ct rfl _ _ (w.heap.size + 1 + 1) 90 _ (0, 0) _ rfl (blk_row HRr.out (by rw [zero90, zk_size, HZ.out.1])) Try.underlying90 rfl (by rw [zk_size, HZ.out.1]; exact info90)) rfl ?_
        refine ⟨_, _, rfl, Fin.of_row (by have := HGW.out; omega) HWr.out HDr.out HXr.out HRr.out, fun e => ?_⟩
        subst e
        simp [fgtN, fgtL, HTN.out]
    obtain ⟨t1, t2⟩ := ht
    have HB1 := Lib.hid hbb
    clear hkb hbl hbb hCr hkt
    go_wp2_with fail
    refine (is_yes _ _ _ t1 t2 (by omega) (by omega)).mono ?_
    rintro e w' ⟨rfl, rfl⟩
    have hbb := HB1.out
    generalize ho : (t.toNat - 1) * 28 + k * 7 = o
    have hz' : (zk xs ((t.toNat - 1) * 28) k).size = 224 := by rw [zk_size, HZ.out.1]
    have hzs : zk xs ((t.toNat - 1) * 28) (k + 1) = zero7 (zk xs ((t.toNat - 1) * 28) k) o := by rw [zk, ho]
    have hoz : o + 6 < 224 := by omega
    generalize zk xs ((t.toNat - 1) * 28) k = ck at hbb hz' hzs
    have f0 := hbb.frozen o
    have f1 := hbb.frozen (o + 1)
    have f2 := hbb.frozen (o + 2)
    have f3 := hbb.frozen (o + 3)
    have f4 := hbb.frozen (o + 4)
    have f5 := hbb.frozen (o + 5)
    have f6 := hbb.frozen (o + 6)
    obtain ⟨e0, he0⟩ : ∃ v, wr.cell? ⟨w.heap.size, o, none⟩ = some v := ⟨_, (hbb.cell _).trans (Array.getElem?_eq_getElem (by omega))⟩
    obtain ⟨e1, he1⟩ : ∃ v, wr.cell? ⟨w.heap.size, o + 1, none⟩ = some v := ⟨_, (hbb.cell _).trans (Array.getElem?_eq_getElem (by omega))⟩
    obtain ⟨e2, he2⟩ : ∃ v, wr.cell? ⟨w.heap.size, o + 2, none⟩ = some v := ⟨_, (hbb.cell _).trans (Array.getElem?_eq_getElem (by omega))⟩
    obtain ⟨e3, he3⟩ : ∃ v, wr.cell? ⟨w.heap.size, o + 3, none⟩ = some v := ⟨_, (hbb.cell _).trans (Array.getElem?_eq_getElem (by omega))⟩
    obtain ⟨e4, he4⟩ : ∃ v, wr.cell? ⟨w.heap.size, o + 4, none⟩ = some v := ⟨_, (hbb.cell _).trans (Array.getElem?_eq_getElem (by omega))⟩
    obtain ⟨e5, he5⟩ : ∃ v, wr.cell? ⟨w.heap.size, o + 5, none⟩ = some v := ⟨_, (hbb.cell _).trans (Array.getElem?_eq_getElem (by omega))⟩
    obtain ⟨e6, he6⟩ : ∃ v, wr.cell? ⟨w.heap.size, o + 6, none⟩ = some v := ⟨_, (hbb.cell _).trans (Array.getElem?_eq_getElem (by omega))⟩
    have HBB := Lib.hid hbb
    have HZS := Lib.hid hzs
    clear hbb hzs
    go_wp2_with fail
    go_roundw
    case rel =>
      refine ⟨k + 1, by go_num, by omega, .inr ⟨t1, t2⟩, ?_, ?_, ?_⟩
      · exact ((((((HKB.out.set_ _ _).set_ _ _).set_ _ _).set_ _ _).set_ _ _).set_ _ _).set_ _ _
      · exact below_set (below_set (below_set (below_set (below_set (below_set (below_set HBL.out (Nat.le_refl _) _ _) (Nat.le_refl _) _ _) (Nat.le_refl _) _ _) (Nat.le_refl _) _ _) (Nat.le_refl _) _ _) (Nat.le_refl _) _ _) (Nat.le_refl _) _ _
      · rw [HZS.out]
        exact ((((((HBB.out.set_ _ _).set_ _ _).set_ _ _).set_ _ _).set_ _ _).set_ _ _).set_ _ _
    case measure => simp [intOf]; omega

end Go.Proofs.Ytgkhdpplmdkkaaa.Ds
