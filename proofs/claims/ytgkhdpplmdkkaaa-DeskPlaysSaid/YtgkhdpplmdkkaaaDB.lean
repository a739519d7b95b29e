/- Joined: Dv, Dw, Dx, Dy, Dz. -/
import Derived.Test.YtgkhdpplmdkkaaaDA
import Derived.Test.YtgkhdpplmdkkaaaDp
set_option linter.unusedVariables false
set_option linter.unusedSimpArgs false
/- Contracts of the reference's desk by value: Claim, Restore, Prove of a session that is there. -/
namespace Go.Proofs.Ytgkhdpplmdkkaaa.Ds
open Go.RowKit Go.Proofs.YtgkhdpplmdkkaaaH.HDeskPlays Go.Proofs.YtgkhdpplmdkkaaaW.PrintWords Go.Proofs.YtgkhdpplmdkkaaaW.PrintLast Go.Proofs.YtgkhdpplmdkkaaaW.PrintMore Go.Proofs.Ytgkhdpplmdkkaaa.Dp

theorem one_set {xs : Array Value} (h : xs.all (·.oneCell') = true) (i : Nat) (v : Value) (hv : v.oneCell' = true) : (xs.setIfInBounds i v).all (·.oneCell') = true := by
  rw [Array.all_eq_true_iff_forall_mem] at h ⊢
  intro x hx
  rcases Array.mem_or_eq_of_mem_setIfInBounds hx with h1 | rfl
  · exact h x h1
  · exact hv

theorem yields_row {P : Program} {ops : Array Oper} {S : World → Prop} {op : Oper} {a : Act} (hw : Region.wanted op (yielded ops a.tmps) = true) (ty : TypeId) (x : Operand) (ho : op.op = .load ty x)
    (b : Nat) (hx : a.eval x = .pointer (some ⟨b, 0, none⟩)) (t : TypeId) (cs : Array Value) (d : TypeDesc) (hS : ∀ w, S w → Blk w b t cs)
    (hu : P.underlying ty = some d) (hd : (match d with | .struct _ | .array _ _ => true | _ => false) = true) (hi : (P.info? ty).map (·.size) = some cs.size) : YieldsIf P ops S op (.agg cs) a :=
  .inl ⟨hw, fun w hw' => by
    unfold execOp
    simp only [ho, hx, Instr.loadAt, Instr.sureAddr, Sem.run_bind, Sem.run_pure, Result.andThen_ok, run_loadVar_row w b t ty cs (0, 0) d (hS w hw') hu hd hi]⟩
def Rn_ : List Nat → List Bool
  | [] => []
  | [a] => List.replicate a true
  | a :: b :: l => List.replicate a true ++ (List.replicate b false ++ Rn_ l)
abbrev Ra_ (l : List Nat) : Array Bool := (Rn_ l).toArray
theorem sA_ (l : List Value) (i : Nat) (a : Value) : l.toArray.setIfInBounds i a = (l.set i a).toArray := by simp
theorem sB_ (x a : Value) (l : List Value) : (x :: l).set 0 a = a :: l := rfl
theorem sC_ (x a : Value) (l : List Value) (n : Nat) : (x :: l).set (n + 1) a = x :: l.set n a := rfl
theorem rowS {w : World} {b c : Nat} {t : TypeId} {xs ys : Array Value} (h : Blk w c t xs) (hne : c ≠ b) : Blk (w.setRow b ys) c t xs := (setRow_other _ _ _ _ hne).trans h

set_option maxRecDepth 100000 in
set_option maxHeartbeats 2000000 in
theorem rclaim_yes (xs : Array Value) (t s : Int) (sum draw : ByteArray) (o k : Nat) (l : Int) (r : ByteArray) (p : Bool) (su0 no0 : ByteArray) (v5 v6 : Value) (su no : ByteArray) (sl : List S42) (w : World) (h : isP t s) (ho : (t.toNat - 1) * 28 + s.toNat * 7 = o)
    (hs1 : 1 ≤ sum.size) (hs2 : sum.size ≤ 32) (hD : strongroomref27_Draw.f k sum draw = some (su, no, sl)) (hs : S7 xs o l r p su0 no0 v5 v6) (hz : xs.size = 224) (h1 : xs.all (·.oneCell') = true) :
    Calls Try.prog 74 #[.agg xs, .int .i64 t, .int .i64 s, .string sum, .string draw] w fun e w' =>
      ∃ v, e = .returned (.tuple #[.agg (clA xs o su no v), .agg #[.string su, .string no, v], .int .i64 0]) ∧ Below w.heap.size w w' ∧ Kd.R k42 42 w' w.heap.size (fun _ => True) v sl := by
  have HZ := Lib.hid (And.intro hz h1)
  have T2 := Lib.hid (two90 w xs)
  have HD := Lib.hid hD
  have HS := Lib.hid hs
  have hO := ho
  obtain ⟨g1, g2, g3, g4⟩ := h
  clear hz h1 hD hs
  go_enter Try.func74, Try.ntmps74
  go_wp2_with (go_at_call 15; refine (is_yes _ _ _ g1 g2 g3 g4).mono ?_; rintro e w' ⟨rfl, rfl⟩)
  refine (strongroomref27_Draw.calls k sum draw su no sl _ HD.out).mono ?_
  rintro e w2 ⟨v, rfl, hr2, hb2⟩
  obtain ⟨A, n, rfl⟩ := Kd.R_slice hr2
  have hT : Below w.heap.size w (((w.alloc (.cells xs 90)).alloc (.cells Try.zeroCells90 90)).alloc (.cells #[.string ⟨#[]⟩, .string ⟨#[]⟩, .slice none 0 0] 38)) := T2.out.2.2.alloc T2.out.2.2.size _
  have hB2 : Blk w2 w.heap.size 90 xs := (T2.out.1.alloc _).below hb2 (T2.out.1.alloc _).lt
  have hR2 : Blk w2 (w.heap.size + 1) 90 Try.zeroCells90 := (T2.out.2.1.alloc _).below hb2 (T2.out.2.1.alloc _).lt
  have hX2 : Blk w2 (w.heap.size + 1 + 1) 38 #[.string ⟨#[]⟩, .string ⟨#[]⟩, .slice none 0 0] := (Blk.new_at _ _ _ _ _ (by simp) rfl : Blk (((w.alloc (.cells xs 90)).alloc (.cells Try.zeroCells90 90)).alloc (.cells #[.string ⟨#[]⟩, .string ⟨#[]⟩, .slice none 0 0] 38)) (w.heap.size + 1 + 1) 38 _).below hb2 (by simp)
  have hlt : w.heap.size + 1 + 1 < w2.heap.size := hX2.lt
  have hlt0 : w.heap.size < w2.heap.size := by omega
  have hne0 : w.heap.size ≠ w2.heap.size := by omega
  have hne0' : w2.heap.size ≠ w.heap.size := by omega
  have hlt1 : w.heap.size + 1 < w2.heap.size := by omega
  have hne1 : w.heap.size + 1 ≠ w2.heap.size := by omega
  have hne2 : w.heap.size + 1 + 1 ≠ w2.heap.size := by omega
  have q2 := (hB2.cell (o + 2)).trans HS.out.c2
  have q3 := (hB2.cell (o + 3)).trans HS.out.c3
  have q4 := (hB2.cell (o + 4)).trans HS.out.c4
  have q5 := (hB2.cell (o + 5)).trans HS.out.c5
  have f2 := hB2.frozen (o + 2)
  have f3 := hB2.frozen (o + 3)
  have f4 := hB2.frozen (o + 4)
  have f5 := hB2.frozen (o + 5)
  have x0 := hX2.cell 0
  have x1 := hX2.cell 1
  have x2 := hX2.cell 2
  have y0 := hX2.frozen 0
  have y1 := hX2.frozen 1
  have y2 := hX2.frozen 2
  have HB2 := Lib.hid hB2
  have HR2 := Lib.hid hR2
  have HX2 := Lib.hid hX2
  have HL2 := Lib.hid (hT.trans (hb2.mono hT.size))
  have HO2 := Lib.hid (show Kd.R k42 42 w2 w.heap.size (fun k_ => k_ ≠ w.heap.size ∧ k_ ≠ w.heap.size + 1 ∧ k_ ≠ w.heap.size + 1 + 1) (.slice A sl.length n) sl from Kd.R_lower (Kd.R_mono (Kd.R_bound hr2) (fun k_ hk_ => by have h_ := hk_.2.1; simp at h_; omega)) hT.size)
  clear hB2 hR2 hX2 hb2 hr2 hT
  go_wp2_with (first
    | ((with_reducible refine wl_load90 ?zz_hg ?_ ?zz_ho ?_ ?zz_hx ?_ ?zz_hb ?zz_hz ?_); (case zz_ho => exact rfl); (case zz_hx => exact rfl); (case zz_hb => repeat (first | with_reducible exact HB2.out | with_reducible apply Blk.set_ | with_reducible apply Blk.alloc | (with_reducible refine Blk.far ?_ (by first | (simp; done) | (simp; omega) | omega) _) | with_reducible apply Blk.drewN)); (case zz_hg => exact rfl); (case zz_hz => simp; exact HZ.out.1))
    | ((with_reducible refine wl_store90 ?zz_hg ?_ ?_ ?zz_ho ?_ ?zz_hx ?_ ?zz_hy ?_ ?zz_hb ?zz_yz ?zz_hz ?zz_h1 ?_); (case zz_ho => exact rfl); (case zz_hx => exact rfl); (case zz_hy => exact rfl); (case zz_hb => repeat (first | with_reducible exact HR2.out | with_reducible apply Blk.set_ | with_reducible apply Blk.alloc | (with_reducible refine Blk.far ?_ (by first | (simp; done) | (simp; omega) | omega) _) | with_reducible apply Blk.drewN)); (case zz_hg => exact rfl); (case zz_yz => exact zero90); (case zz_hz => simp; exact HZ.out.1); (case zz_h1 => repeat (first | exact HZ.out.2 | refine one_set ?_ _ _ rfl))))
  go_region
  go_wp2_with fail
  refine abs_world ?_
  intro w5 hw5
  have hB5 : Blk w5 w.heap.size 90 (clA xs o su no (.slice A sl.length n)) := by rw [hw5]; exact (((((HB2.out.set_ _ _).set_ _ _).set_ _ _).set_ _ _).alloc _).drew
  have hR5 : Blk w5 (w.heap.size + 1) 90 Try.zeroCells90 := by rw [hw5]; exact (((((HR2.out.far (by simp) _).far (by simp) _).far (by simp) _).far (by simp) _).alloc _).drew
  have hX5 : Blk w5 (w.heap.size + 1 + 1) 38 #[.string ⟨#[]⟩, .string ⟨#[]⟩, .slice none 0 0] := by rw [hw5]; exact (((((HX2.out.far (by simp; omega) _).far (by simp; omega) _).far (by simp; omega) _).far (by simp; omega) _).alloc _).drew
  have hY5 : Blk w5 w2.heap.size 38 #[.string su, .string no, .slice A sl.length n] := by rw [hw5]; exact (Blk.new_at _ _ _ _ _ (by simp) rfl).drew
  have hL5 : Below w.heap.size w w5 := by rw [hw5]; exact ((below_set (below_set (below_set (below_set HL2.out (Nat.le_refl _) _ _) (Nat.le_refl _) _ _) (Nat.le_refl _) _ _) (Nat.le_refl _) _ _).alloc (by simpa using HL2.out.size) _).drew
  have hO5 : Kd.R k42 42 w5 w.heap.size (fun k_ => k_ ≠ w.heap.size ∧ k_ ≠ w.heap.size + 1 ∧ k_ ≠ w.heap.size + 1 + 1) (.slice A sl.length n) sl := by
    have hk : KeepBut w2 w5 w.heap.size none := by rw [hw5]; exact keep_drew (keep_alloc (((((KeepBut.refl _ _ _).set_ _ _).set_ _ _).set_ _ _).set_ _ _) _)
    exact Kd.R_keep HO2.out hk (fun _ h => h.1)
  have hz5 : (clA xs o su no (.slice A sl.length n)).size = 224 := by unfold clA; simp; exact HZ.out.1
  have h15 : (clA xs o su no (.slice A sl.length n)).all (·.oneCell') = true := one_set (one_set (one_set (one_set HZ.out.2 _ _ rfl) _ _ rfl) _ _ rfl) _ _ rfl
  clear hw5 x0 x1 x2 y0 y1 y2 q2 q3 q4 q5 f2 f3 f4 f5
  generalize hY : clA xs o su no (.slice A sl.length n) = ys at hB5 hz5 h15
  have EY := Lib.hid hY
  clear hY
  refine start_ (n := 5) (S := fun w' => Blk w' w.heap.size 90 ys ∧ Blk w' w2.heap.size 38 #[.string su, .string no, .slice A sl.length n]) (ds := []) (Ra_ [0, 5]) (by kernel_rfl) rfl rfl ⟨hB5.drew, hY5.drew⟩ (fun hHeld => ?_)
  refine take_ (i := 0) (N := some 46) (Ra_ [1, 4]) rfl rfl (by kernel_rfl) (fun _ _ _ h => h) (yields_row rfl _ _ rfl w.heap.size rfl _ ys _ (fun _ h => h.1) Try.underlying90 rfl (by rw [hz5]; exact info90)) hHeld (by simp only [Act.put, sA_, sB_, sC_]; rfl) ?_
  refine take_ (i := 1) (N := some 47) (Ra_ [2, 3]) rfl rfl (by kernel_rfl) (fun _ _ _ h => h) (yields_row rfl _ _ rfl w2.heap.size rfl _ _ _ (fun _ h => h.2) Try.underlying38 rfl (by kernel_rfl)) hHeld (by simp only [Act.put, sA_, sB_, sC_]; rfl) ?_
  refine one_ (i := 2) (N := none) (Ra_ [3, 2]) rfl rfl (by kernel_rfl) (by decide) (fun K hK => ?_)
  rw [if_pos (by rfl)]
  refine wp_store_row 90 _ _ rfl (w.heap.size + 1) ys rfl rfl _ _ hR5.drew (by rw [hz5]; exact info90) (by rw [zero90, hz5]) h15 ?_
  refine hK.out _ _ ⟨rowS hB5.drew (by omega), rowS hY5.drew (by omega)⟩ (fun hHeld => ?_)
  refine one_ (i := 3) (N := none) (Ra_ [4, 1]) rfl rfl (by kernel_rfl) (by decide) (fun K hK => ?_)
  rw [if_pos (by rfl)]
  refine wp_store_row 38 _ _ rfl (w.heap.size + 1 + 1) #[.string su, .string no, .slice A sl.length n] rfl rfl _ _ (rowS hX5.drew (by omega)) (by kernel_rfl) rfl (by simp [Value.oneCell']) ?_
  refine hK.out _ _ ⟨rowS hHeld.1 (by omega), rowS hHeld.2 (by omega)⟩ (fun hHeld => ?_)
  refine pure_ (i := 4) (N := some 12) (Ra_ [5]) rfl rfl (by kernel_rfl) (fun _ _ _ h => h) (Or.inl ⟨by rfl, by intro w'; go_simp; with_reducible rfl⟩) (by simp only [Act.put, sA_, sB_, sC_]; rfl) ?_
  refine done_ (by kernel_rfl) ?_
  try go_wp2
  refine bodyPost_ret (results_cct rfl _ _ (w.heap.size + 1) (w.heap.size + 1 + 1) 90 38 ys #[.string su, .string no, .slice A sl.length n] _ _ rfl (rowS (blk_row hR5.drew (by rw [zero90, hz5])) (by omega)) Try.underlying90 rfl (by rw [hz5]; exact info90) rfl (blk_row (rowS hX5.drew (by omega)) rfl) Try.underlying38 rfl (by kernel_rfl)) rfl ?_
  refine ⟨.slice A sl.length n, by rw [EY.out]; rfl, below_setRow (below_setRow hL5.drew (by omega) _) (by omega) _, ?_⟩
  exact Kd.R_mono (Kd.R_step (Kd.R_step (Kd.R_drew hO5) (fun k_ h _ => setRow_other _ _ _ _ h.2.1)) (fun k_ h _ => setRow_other _ _ _ _ h.2.2)) (fun _ _ => trivial)

set_option maxHeartbeats 1000000 in
theorem rany_at (l : Int) (r : ByteArray) (p : Bool) (su no : ByteArray) (A5 A6 : Option Addr) (n5 c5 n6 c6 : Nat) (w : World) :
    Calls Try.prog 93 #[.agg #[.int .i64 l, .string r, .bool p, .string su, .string no, .slice A5 n5 c5, .slice A6 n6 c6]] w fun e w' =>
      e = .returned (.bool (anyB l p n6)) ∧ Below w.heap.size w w' := by
  by_cases h0 : 0 < l
  · go_enter Try.func93, Try.ntmps93
    go_wp2
    go_ret
    exact ⟨ret_bool (by rw [anyB, decide_eq_true h0]; rfl), (Below.refl _ _).alloc (Nat.le_refl _) _⟩
  · cases p
    all_goals
    go_enter Try.func93, Try.ntmps93
    go_wp2
    go_ret
    exact ⟨ret_bool (by rw [anyB, decide_eq_false (show ¬ 0 < l by omega)]; first | rfl | simp), (Below.refl _ _).alloc (Nat.le_refl _) _⟩

set_option maxRecDepth 100000 in
set_option maxHeartbeats 2000000 in
theorem rrestore_yes (xs : Array Value) (t s q : Int) (o : Nat) (l : Int) (r : ByteArray) (p : Bool) (su no : ByteArray) (A5 A6 : Option Addr) (n5 c5 n6 c6 : Nat) (w : World) (h : isP t s) (ho : (t.toNat - 1) * 28 + s.toNat * 7 = o)
    (hs : S7 xs o l r p su no (.slice A5 n5 c5) (.slice A6 n6 c6)) (hz : xs.size = 224) (h1 : xs.all (·.oneCell') = true) :
    Calls Try.prog 78 #[.agg xs, .int .i64 t, .int .i64 s, .int .i64 q] w fun e w' =>
      e = .returned (.tuple #[.agg (reA xs o q l p n6), .int .i64 (reE q l p n6)]) ∧ Below w.heap.size w w' := by
  have HZ := Lib.hid (And.intro hz h1)
  have t2 := two90 w xs
  have k0 := (t2.1.cell o).trans hs.c0
  have k1 := (t2.1.cell (o + 1)).trans hs.c1
  have k2 := (t2.1.cell (o + 2)).trans hs.c2
  have k3 := (t2.1.cell (o + 3)).trans hs.c3
  have k4 := (t2.1.cell (o + 4)).trans hs.c4
  have k5 := (t2.1.cell (o + 5)).trans hs.c5
  have k6 := (t2.1.cell (o + 6)).trans hs.c6
  have T2 := Lib.hid t2
  have HS := Lib.hid hs
  have hO := ho
  obtain ⟨d0, d1, d2, d3, d4, d5, d6⟩ := hs
  obtain ⟨g1, g2, g3, g4⟩ := h
  clear hz h1 t2
  by_cases hq : q < 0 ∨ 2147483648 < q
  · have e1 : reE q l p n6 = 1 := by unfold reE; rw [if_pos hq]
    have E1 := Lib.hid e1
    have E2 := Lib.hid (show reA xs o q l p n6 = xs by unfold reA; rw [if_neg (by omega)])
    clear e1
    rcases hq with hq | hq
    all_goals
      go_enter Try.func78, Try.ntmps78
      go_wp2_with (first
        | (go_at_call 15; refine (is_yes _ _ _ g1 g2 g3 g4).mono ?_; rintro e w' ⟨rfl, rfl⟩)
        | ((with_reducible refine wl_load90 ?zz_hg ?_ ?zz_ho ?_ ?zz_hx ?_ ?zz_hb ?zz_hz ?_); (case zz_ho => exact rfl); (case zz_hx => exact rfl); (case zz_hb => with_reducible exact T2.out.1); (case zz_hg => exact rfl); (case zz_hz => exact HZ.out.1))
        | ((with_reducible refine wl_store90 ?zz_hg ?_ ?_ ?zz_ho ?_ ?zz_hx ?_ ?zz_hy ?_ ?zz_hb ?zz_yz ?zz_hz ?zz_h1 ?_); (case zz_ho => exact rfl); (case zz_hx => exact rfl); (case zz_hy => exact rfl); (case zz_hb => with_reducible exact T2.out.2.1); (case zz_hg => exact rfl); (case zz_yz => exact zero90); (case zz_hz => exact HZ.out.1); (case zz_h1 => exact HZ.out.2)))
      have hf := same90 HZ.out.1 T2.out.2.2 T2.out.2.1
      refine bodyPost_ret (results_ct rfl _ _ (w.heap.size + 1) 90 _ (0, 0) _ rfl hf.2 Try.underlying90 rfl (by rw [HZ.out.1]; exact info90)) rfl ?_
      exact ⟨by rw [E1.out, E2.out]; rfl, hf.1⟩
  · have hq1 : 0 ≤ q := by omega
    have hq2 : q ≤ 2147483648 := by omega
    have E1 := Lib.hid (show reE q l p n6 = if anyB l p n6 = true then 8 else 0 by unfold reE; rw [if_neg hq])
    clear hq
    go_enter Try.func78, Try.ntmps78
    go_wp2_with (first
      | (go_at_call 15; refine (is_yes _ _ _ g1 g2 g3 g4).mono ?_; rintro e w' ⟨rfl, rfl⟩)
      | ((with_reducible refine wl_load90 ?zz_hg ?_ ?zz_ho ?_ ?zz_hx ?_ ?zz_hb ?zz_hz ?_); (case zz_ho => exact rfl); (case zz_hx => exact rfl); (case zz_hb => with_reducible exact T2.out.1); (case zz_hg => exact rfl); (case zz_hz => exact HZ.out.1)))
    refine (rany_at l r p su no A5 A6 n5 c5 n6 c6 _).mono ?_
    rintro e w2 ⟨rfl, hb2⟩
    have hB2 := T2.out.1.below hb2 T2.out.1.lt
    have f0 := hB2.frozen o
    have q0 := (hB2.cell o).trans HS.out.c0
    have HB2 := Lib.hid hB2
    have HR2 := Lib.hid (T2.out.2.1.below hb2 T2.out.2.1.lt)
    have HL2 := Lib.hid (T2.out.2.2.trans (hb2.mono T2.out.2.2.size))
    clear hb2 hB2 k0 k1 k2 k3 k4 k5 k6
    cases ha : anyB l p n6
    · have E2 := Lib.hid (show reE q l p n6 = 0 by rw [E1.out, ha]; rfl)
      have E3 := Lib.hid (show reA xs o q l p n6 = xs.setIfInBounds o (.int .i64 q) by unfold reA; rw [if_pos E2.out])
      go_wp2_with (first
        | ((with_reducible refine wl_load90 ?zz_hg ?_ ?zz_ho ?_ ?zz_hx ?_ ?zz_hb ?zz_hz ?_); (case zz_ho => exact rfl); (case zz_hx => exact rfl); (case zz_hb => with_reducible exact HB2.out.set_ _ _); (case zz_hg => exact rfl); (case zz_hz => simp; exact HZ.out.1))
        | ((with_reducible refine wl_store90 ?zz_hg ?_ ?_ ?zz_ho ?_ ?zz_hx ?_ ?zz_hy ?_ ?zz_hb ?zz_yz ?zz_hz ?zz_h1 ?_); (case zz_ho => exact rfl); (case zz_hx => exact rfl); (case zz_hy => exact rfl); (case zz_hb => exact HR2.out.far (p := ⟨w.heap.size, o, none⟩) (by simp) _); (case zz_hg => exact rfl); (case zz_yz => exact zero90); (case zz_hz => simp; exact HZ.out.1); (case zz_h1 => exact one_set HZ.out.2 _ _ rfl)))
      have hf := same90 (xs := xs.setIfInBounds o (.int .i64 q)) (w3 := w2.setCell ⟨w.heap.size, o, none⟩ (.int .i64 q)) (by simp; exact HZ.out.1) (below_set HL2.out (Nat.le_refl _) _ _) (HR2.out.far (by simp) _)
      refine bodyPost_ret (results_ct rfl _ _ (w.heap.size + 1) 90 _ (0, 0) _ rfl hf.2 Try.underlying90 rfl (by rw [Array.size_setIfInBounds, HZ.out.1]; exact info90)) rfl ?_
      exact ⟨by rw [E2.out, E3.out]; rfl, hf.1⟩
    · have E2 := Lib.hid (show reE q l p n6 = 8 by rw [E1.out, ha]; rfl)
      have E3 := Lib.hid (show reA xs o q l p n6 = xs by unfold reA; rw [if_neg (by rw [E2.out]; decide)])
      go_wp2_with (first
        | ((with_reducible refine wl_load90 ?zz_hg ?_ ?zz_ho ?_ ?zz_hx ?_ ?zz_hb ?zz_hz ?_); (case zz_ho => exact rfl); (case zz_hx => exact rfl); (case zz_hb => with_reducible exact HB2.out); (case zz_hg => exact rfl); (case zz_hz => exact HZ.out.1))
        | ((with_reducible refine wl_store90 ?zz_hg ?_ ?_ ?zz_ho ?_ ?zz_hx ?_ ?zz_hy ?_ ?zz_hb ?zz_yz ?zz_hz ?zz_h1 ?_); (case zz_ho => exact rfl); (case zz_hx => exact rfl); (case zz_hy => exact rfl); (case zz_hb => with_reducible exact HR2.out); (case zz_hg => exact rfl); (case zz_yz => exact zero90); (case zz_hz => exact HZ.out.1); (case zz_h1 => exact HZ.out.2)))
      have hf := same90 HZ.out.1 HL2.out HR2.out
      refine bodyPost_ret (results_ct rfl _ _ (w.heap.size + 1) 90 _ (0, 0) _ rfl hf.2 Try.underlying90 rfl (by rw [HZ.out.1]; exact info90)) rfl ?_
      exact ⟨by rw [E2.out, E3.out]; rfl, hf.1⟩

end Go.Proofs.Ytgkhdpplmdkkaaa.Ds
/- Contracts of the reference's Prove (by value) where nothing is proved. -/
namespace Go.Proofs.Ytgkhdpplmdkkaaa.Ds
open Go.RowKit Go.Proofs.YtgkhdpplmdkkaaaH.HDeskPlays Go.Proofs.YtgkhdpplmdkkaaaW.PrintWords Go.Proofs.YtgkhdpplmdkkaaaW.PrintLast Go.Proofs.YtgkhdpplmdkkaaaW.PrintMore Go.Proofs.Ytgkhdpplmdkkaaa.Dp

set_option maxRecDepth 100000 in
set_option maxHeartbeats 1000000 in
theorem rprove_no (xs : Array Value) (t s : Int) (answer : ByteArray) (A3 A4 : Option Addr) (n3 c3 n4 c4 : Nat) (w : World) (h : ¬ isP t s ∨ (isP t s ∧ ¬ (n3 : Int) = (n4 : Int))) (hz : xs.size = 224) (h1 : xs.all (·.oneCell') = true) :
    Calls Try.prog 75 #[.agg xs, .int .i64 t, .int .i64 s, .string answer, .slice A3 n3 c3, .slice A4 n4 c4] w fun e w' =>
      e = .returned (.tuple #[.agg xs, .agg #[.string ⟨#[]⟩, .int .i64 0], .int .i64 1]) ∧ Below w.heap.size w w' := by
  have HZ := Lib.hid (And.intro hz h1)
  have T2 := Lib.hid (two90 w xs)
  clear hz h1
  have hX : Blk ((((w.alloc (.cells xs 90)).alloc (.cells Try.zeroCells90 90)).alloc (.cells #[.string ⟨#[]⟩, .int .i64 0] 74)).setRow (w.heap.size + 1) xs) (w.heap.size + 1 + 1) 74 #[.string ⟨#[]⟩, .int .i64 0] := rowS ((Blk.new_at _ _ _ _ _ (by simp) rfl)) (by omega)
  have x0 := hX.cell 0
  have x1 := hX.cell 1
  have z0 := hX.frozen 0
  have z1 := hX.frozen 1
  have HX := Lib.hid hX
  clear hX
  have HF := Lib.hid (same90 HZ.out.1 (T2.out.2.2.alloc T2.out.2.2.size (.cells #[.string ⟨#[]⟩, .int .i64 0] 74)) (T2.out.2.1.alloc _))
  have fin : ∀ a : Act, a.tmps.getD 12 undef = .pointer (some ⟨w.heap.size + 1, 0, none⟩) → a.tmps.getD 13 undef = .pointer (some ⟨w.heap.size + 1 + 1, 0, none⟩) → a.tmps.getD 14 undef = .int .i64 1 → a.defers = [] →
      bodyPost Try.prog Try.f75 (fun e w' => e = .returned (.tuple #[.agg xs, .agg #[.string ⟨#[]⟩, .int .i64 0], .int .i64 1]) ∧ Below w.heap.size w w') Exit.ret a
        ((((((w.alloc (.cells xs 90)).alloc (.cells Try.zeroCells90 90)).alloc (.cells #[.string ⟨#[]⟩, .int .i64 0] 74)).setRow (w.heap.size + 1) xs).setCell ⟨w.heap.size + 1 + 1, 0, none⟩ (.string ⟨#[]⟩)).setCell ⟨w.heap.size + 1 + 1, 1, none⟩ (.int .i64 0)) := by
    intro a q0 q1 q2 q3
    refine bodyPost_ret (results_cct rfl _ _ (w.heap.size + 1) (w.heap.size + 1 + 1) 90 74 _ #[.string ⟨#[]⟩, .int .i64 0] _ _ q0 (((HF.out.2).far (by simp) _).far (by simp) _) Try.underlying90 rfl (by rw [HZ.out.1]; exact info90) q1 ((HX.out.set_ 0 _).set_ 1 _) Try.underlying74 rfl (by kernel_rfl)) q3 ?_
    rw [q2]
    exact ⟨rfl, below_set (below_set HF.out.1 (by omega) _ _) (by omega) _ _⟩
  have FIN := Lib.hid fin
  clear fin
  rcases h with h | ⟨⟨g1, g2, g3, g4⟩, h⟩
  · have H := Lib.hid h
    clear h
    go_enter Try.func75, Try.ntmps75
    go_wp2_with (first
      | (go_at_call 15; refine (is_no _ _ _ H.out).mono ?_; rintro e w' ⟨rfl, rfl⟩)
      | ((with_reducible refine wl_load90 ?zz_hg ?_ ?zz_ho ?_ ?zz_hx ?_ ?zz_hb ?zz_hz ?_); (case zz_ho => exact rfl); (case zz_hx => exact rfl); (case zz_hb => with_reducible exact T2.out.1.alloc _); (case zz_hg => exact rfl); (case zz_hz => exact HZ.out.1))
      | ((with_reducible refine wl_store90 ?zz_hg ?_ ?_ ?zz_ho ?_ ?zz_hx ?_ ?zz_hy ?_ ?zz_hb ?zz_yz ?zz_hz ?zz_h1 ?_); (case zz_ho => exact rfl); (case zz_hx => exact rfl); (case zz_hy => exact rfl); (case zz_hb => with_reducible exact T2.out.2.1.alloc _); (case zz_hg => exact rfl); (case zz_yz => exact zero90); (case zz_hz => exact HZ.out.1); (case zz_h1 => exact HZ.out.2)))
    exact FIN.out _ rfl rfl rfl rfl
  · go_enter Try.func75, Try.ntmps75
    go_wp2_with (first
      | (go_at_call 15; refine (is_yes _ _ _ g1 g2 g3 g4).mono ?_; rintro e w' ⟨rfl, rfl⟩)
      | ((with_reducible refine wl_load90 ?zz_hg ?_ ?zz_ho ?_ ?zz_hx ?_ ?zz_hb ?zz_hz ?_); (case zz_ho => exact rfl); (case zz_hx => exact rfl); (case zz_hb => with_reducible exact T2.out.1.alloc _); (case zz_hg => exact rfl); (case zz_hz => exact HZ.out.1))
      | ((with_reducible refine wl_store90 ?zz_hg ?_ ?_ ?zz_ho ?_ ?zz_hx ?_ ?zz_hy ?_ ?zz_hb ?zz_yz ?zz_hz ?zz_h1 ?_); (case zz_ho => exact rfl); (case zz_hx => exact rfl); (case zz_hy => exact rfl); (case zz_hb => with_reducible exact T2.out.2.1.alloc _); (case zz_hg => exact rfl); (case zz_yz => exact zero90); (case zz_hz => exact HZ.out.1); (case zz_h1 => exact HZ.out.2)))
    exact FIN.out _ rfl rfl rfl rfl

set_option maxRecDepth 100000 in
set_option maxHeartbeats 2000000 in
theorem rprove_shut (xs : Array Value) (t s : Int) (answer : ByteArray) (A3 A4 : Option Addr) (n3 c3 c4 : Nat) (o : Nat) (l : Int) (r : ByteArray) (su no : ByteArray) (A5 A6 : Option Addr) (n5 c5 n6 c6 : Nat) (w : World) (h : isP t s) (ho : (t.toNat - 1) * 28 + s.toNat * 7 = o)
    (hs : S7 xs o l r false su no (.slice A5 n5 c5) (.slice A6 n6 c6)) (hz : xs.size = 224) (h1 : xs.all (·.oneCell') = true) :
    Calls Try.prog 75 #[.agg xs, .int .i64 t, .int .i64 s, .string answer, .slice A3 n3 c3, .slice A4 n3 c4] w fun e w' =>
      e = .returned (.tuple #[.agg xs, .agg #[.string ⟨#[]⟩, .int .i64 0], .int .i64 6]) ∧ Below w.heap.size w w' := by
  have HZ := Lib.hid (And.intro hz h1)
  have t2 := two90 w xs
  have hb := t2.1.alloc (.cells #[.string ⟨#[]⟩, .int .i64 0] 74)
  have k0 := (hb.cell o).trans hs.c0
  have k1 := (hb.cell (o + 1)).trans hs.c1
  have k2 := (hb.cell (o + 2)).trans hs.c2
  have k3 := (hb.cell (o + 3)).trans hs.c3
  have k4 := (hb.cell (o + 4)).trans hs.c4
  have k5 := (hb.cell (o + 5)).trans hs.c5
  have k6 := (hb.cell (o + 6)).trans hs.c6
  have T2 := Lib.hid t2
  have hO := ho
  obtain ⟨d0, d1, d2, d3, d4, d5, d6⟩ := hs
  obtain ⟨g1, g2, g3, g4⟩ := h
  clear hz h1 t2 hb
  have hX : Blk (((((w.alloc (.cells xs 90)).alloc (.cells Try.zeroCells90 90)).alloc (.cells #[.string ⟨#[]⟩, .int .i64 0] 74)).alloc (.cells #[.int .i64 l, .string r, .bool false, .string su, .string no, .slice A5 n5 c5, .slice A6 n6 c6] 87)).setRow (w.heap.size + 1) xs) (w.heap.size + 1 + 1) 74 #[.string ⟨#[]⟩, .int .i64 0] := rowS ((Blk.new_at _ _ _ _ _ (by simp) rfl : Blk (((w.alloc (.cells xs 90)).alloc (.cells Try.zeroCells90 90)).alloc (.cells #[.string ⟨#[]⟩, .int .i64 0] 74)) (w.heap.size + 1 + 1) 74 _).alloc _) (by omega)
  have x0 := hX.cell 0
  have x1 := hX.cell 1
  have z0 := hX.frozen 0
  have z1 := hX.frozen 1
  have HX := Lib.hid hX
  clear hX
  have HF := Lib.hid (same90 HZ.out.1 ((T2.out.2.2.alloc T2.out.2.2.size (.cells #[.string ⟨#[]⟩, .int .i64 0] 74)).alloc (T2.out.2.2.alloc T2.out.2.2.size (.cells #[.string ⟨#[]⟩, .int .i64 0] 74)).size (.cells #[.int .i64 l, .string r, .bool false, .string su, .string no, .slice A5 n5 c5, .slice A6 n6 c6] 87)) ((T2.out.2.1.alloc _).alloc _))
  have fin : ∀ a : Act, a.tmps.getD 12 undef = .pointer (some ⟨w.heap.size + 1, 0, none⟩) → a.tmps.getD 13 undef = .pointer (some ⟨w.heap.size + 1 + 1, 0, none⟩) → a.tmps.getD 14 undef = .int .i64 6 → a.defers = [] →
      bodyPost Try.prog Try.f75 (fun e w' => e = .returned (.tuple #[.agg xs, .agg #[.string ⟨#[]⟩, .int .i64 0], .int .i64 6]) ∧ Below w.heap.size w w') Exit.ret a
        (((((((w.alloc (.cells xs 90)).alloc (.cells Try.zeroCells90 90)).alloc (.cells #[.string ⟨#[]⟩, .int .i64 0] 74)).alloc (.cells #[.int .i64 l, .string r, .bool false, .string su, .string no, .slice A5 n5 c5, .slice A6 n6 c6] 87)).setRow (w.heap.size + 1) xs).setCell ⟨w.heap.size + 1 + 1, 0, none⟩ (.string ⟨#[]⟩)).setCell ⟨w.heap.size + 1 + 1, 1, none⟩ (.int .i64 0)) := by
    intro a q0 q1 q2 q3
    refine bodyPost_ret (results_cct rfl _ _ (w.heap.size + 1) (w.heap.size + 1 + 1) 90 74 _ #[.string ⟨#[]⟩, .int .i64 0] _ _ q0 (((HF.out.2).far (by simp) _).far (by simp) _) Try.underlying90 rfl (by rw [HZ.out.1]; exact info90) q1 ((HX.out.set_ 0 _).set_ 1 _) Try.underlying74 rfl (by kernel_rfl)) q3 ?_
    rw [q2]
    exact ⟨rfl, below_set (below_set HF.out.1 (by omega) _ _) (by omega) _ _⟩
  have FIN := Lib.hid fin
  clear fin
  go_enter Try.func75, Try.ntmps75
  go_wp2_with (first
    | (go_at_call 15; refine (is_yes _ _ _ g1 g2 g3 g4).mono ?_; rintro e w' ⟨rfl, rfl⟩)
    | ((with_reducible refine wl_load90 ?zz_hg ?_ ?zz_ho ?_ ?zz_hx ?_ ?zz_hb ?zz_hz ?_); (case zz_ho => exact rfl); (case zz_hx => exact rfl); (case zz_hb => with_reducible exact (T2.out.1.alloc _).alloc _); (case zz_hg => exact rfl); (case zz_hz => exact HZ.out.1))
    | ((with_reducible refine wl_store90 ?zz_hg ?_ ?_ ?zz_ho ?_ ?zz_hx ?_ ?zz_hy ?_ ?zz_hb ?zz_yz ?zz_hz ?zz_h1 ?_); (case zz_ho => exact rfl); (case zz_hx => exact rfl); (case zz_hy => exact rfl); (case zz_hb => with_reducible exact (T2.out.2.1.alloc _).alloc _); (case zz_hg => exact rfl); (case zz_yz => exact zero90); (case zz_hz => exact HZ.out.1); (case zz_h1 => exact HZ.out.2)))
  exact FIN.out _ rfl rfl rfl rfl

end Go.Proofs.Ytgkhdpplmdkkaaa.Ds
/- Contracts of the desk's methods of a session that is not there, and of no desk. -/
namespace Go.Proofs.Ytgkhdpplmdkkaaa.Ds
open Go.RowKit Go.Proofs.YtgkhdpplmdkkaaaH.HDeskPlays Go.Proofs.YtgkhdpplmdkkaaaW.PrintWords Go.Proofs.YtgkhdpplmdkkaaaW.PrintLast Go.Proofs.YtgkhdpplmdkkaaaW.PrintMore Go.Proofs.Ytgkhdpplmdkkaaa.Dp

set_option maxHeartbeats 400000 in
theorem look_no (g : Nat) (t s q : Int) (w : World) (h : ¬ isP t s) :
    Calls Try.prog 18 #[.pointer (some ⟨g, 0, none⟩), .int .i64 t, .int .i64 s, .int .i64 q] w fun e w' =>
      e = .returned (.tuple #[.int .i64 0, .string ⟨#[]⟩, .int .i64 1]) ∧ w = w' := by
  have H := Lib.hid h
  clear h
  go_enter Try.func18, Try.ntmps18
  go_wp2_with (go_at_call 51; refine (find_no _ _ _ _ H.out).mono ?_; rintro e w' ⟨rfl, rfl⟩)
  go_ret3
  exact ⟨rfl, rfl⟩

set_option maxHeartbeats 400000 in
theorem look_nil (t s q : Int) (w : World) :
    Calls Try.prog 18 #[.pointer none, .int .i64 t, .int .i64 s, .int .i64 q] w fun e w' =>
      e = .returned (.tuple #[.int .i64 0, .string ⟨#[]⟩, .int .i64 1]) ∧ w = w' := by
  go_enter Try.func18, Try.ntmps18
  go_wp2_with (go_at_call 51; refine (find_nil _ _ _).mono ?_; rintro e w' ⟨rfl, rfl⟩)
  go_ret3
  exact ⟨rfl, rfl⟩

set_option maxHeartbeats 400000 in
theorem answer_no (g : Nat) (t s q : Int) (rp : ByteArray) (w : World) (h : ¬ isP t s) :
    Calls Try.prog 19 #[.pointer (some ⟨g, 0, none⟩), .int .i64 t, .int .i64 s, .int .i64 q, .string rp] w fun e w' =>
      e = .returned (.int .i64 1) ∧ w = w' := by
  have H := Lib.hid h
  clear h
  go_enter Try.func19, Try.ntmps19
  go_wp2_with (go_at_call 18; refine (look_no _ _ _ _ _ H.out).mono ?_; rintro e w' ⟨rfl, rfl⟩)
  go_ret
  exact ⟨rfl, rfl⟩

set_option maxHeartbeats 1000000 in
theorem claim_noslot (g : Nat) (t s : Int) (sum draw : ByteArray) (w : World) (h : ¬ isP t s) :
    Calls Try.prog 37 #[.pointer (some ⟨g, 0, none⟩), .int .i64 t, .int .i64 s, .string sum, .string draw] w fun e w' =>
      e = .returned (.tuple #[.agg #[.string ⟨#[]⟩, .string ⟨#[]⟩, .slice none 0 0], .int .i64 1]) ∧ Below w.heap.size w w' := by
  have H := Lib.hid h
  clear h
  go_enter Try.func37, Try.ntmps37
  go_wp2_with (go_at_call 51; refine (find_no _ _ _ _ H.out).mono ?_; rintro e w' ⟨rfl, rfl⟩)
  refine bodyPost_ret (results_ct rfl _ _ w.heap.size 36 #[.string ⟨#[]⟩, .string ⟨#[]⟩, .slice none 0 0] (0, 0) _ rfl (Blk.new w 36 _) Try.underlying36 rfl (by kernel_rfl)) rfl ?_
  exact ⟨rfl, below_allocW _ _⟩

set_option maxHeartbeats 1000000 in
theorem prove_noslot (g : Nat) (t s : Int) (answer : ByteArray) (A3 A4 : Option Addr) (n c3 c4 : Nat) (w : World) (h : ¬ isP t s) :
    Calls Try.prog 38 #[.pointer (some ⟨g, 0, none⟩), .int .i64 t, .int .i64 s, .string answer, .slice A3 n c3, .slice A4 n c4] w fun e w' =>
      e = .returned (.tuple #[.agg #[.string ⟨#[]⟩, .int .i64 0], .int .i64 1]) ∧ Below w.heap.size w w' := by
  have H := Lib.hid h
  clear h
  go_enter Try.func38, Try.ntmps38
  go_wp2_with (go_at_call 51; refine (find_no _ _ _ _ H.out).mono ?_; rintro e w' ⟨rfl, rfl⟩)
  refine bodyPost_ret (results_ct rfl _ _ w.heap.size 74 #[.string ⟨#[]⟩, .int .i64 0] (0, 0) _ rfl (Blk.new w 74 _) Try.underlying74 rfl (by kernel_rfl)) rfl ?_
  exact ⟨rfl, below_allocW _ _⟩

set_option maxHeartbeats 400000 in
theorem spend_noslot (g : Nat) (t s : Int) (w : World) (h : ¬ isP t s) :
    Calls Try.prog 40 #[.pointer (some ⟨g, 0, none⟩), .int .i64 t, .int .i64 s] w fun e w' =>
      e = .returned (.tuple #[.slice none 0 0, .int .i64 1]) ∧ w = w' := by
  have H := Lib.hid h
  clear h
  go_enter Try.func40, Try.ntmps40
  go_wp2_with (go_at_call 51; refine (find_no _ _ _ _ H.out).mono ?_; rintro e w' ⟨rfl, rfl⟩)
  go_ret2
  exact ⟨rfl, rfl⟩

set_option maxHeartbeats 400000 in
theorem tickets_nil (t s : Int) (w : World) :
    Calls Try.prog 49 #[.pointer none, .int .i64 t, .int .i64 s] w fun e w' =>
      e = .returned (.slice none 0 0) ∧ w = w' := by
  go_enter Try.func49, Try.ntmps49
  go_wp2_with (go_at_call 51; refine (find_nil _ _ _).mono ?_; rintro e w' ⟨rfl, rfl⟩)
  go_ret
  exact ⟨rfl, rfl⟩

/-- which of a tenant's sessions have anything -/
def hasAt (b : Nat → Bool) (n : Nat) : List Int := ((List.range n).filter b).map fun (j : Nat) => (j : Int)
theorem hasAt_succ (b : Nat → Bool) (n : Nat) : hasAt b (n + 1) = hasAt b n ++ (if b n = true then [(n : Int)] else []) := by
  unfold hasAt
  rw [List.range_succ, List.filter_append, List.map_append]
  congr 1
  cases h : b n <;> simp [h]
theorem hasAt_len (b : Nat → Bool) (n : Nat) : (hasAt b n).length ≤ n := by
  unfold hasAt
  rw [List.length_map]
  exact Nat.le_trans (List.length_filter_le _ _) (by simp)

set_option maxRecDepth 100000 in
set_option maxHeartbeats 1000000 in
/-- a tenant that there is not -/
theorem sessions_no (A : Option Addr) (t : Int) (w : World) (hf : ∀ s w, Calls Try.prog 51 #[.pointer A, .int .i64 t, .int .i64 s] w fun e w' => e = .returned (.pointer none) ∧ w = w') :
    Calls Try.prog 48 #[.pointer A, .int .i64 t] w fun e w' =>
      e = .returned (.slice none 0 0) ∧ Below w.heap.size w w' := by
  have HF := Lib.hid hf
  clear hf
  go_enter Try.func48, Try.ntmps48
  go_wp2_with fail
  go_loopw [5, 8] (fun l i wr => l = .slice none 0 0 ∧ (∃ k : Nat, i = .int .i64 k ∧ k ≤ 4) ∧ Below w.heap.size w wr) (fun _ i _ => 4 - (intOf i).toNat)
  case atStart => exact ⟨rfl, ⟨0, rfl, by omega⟩, Below.refl _ _⟩
  case round =>
    obtain ⟨rfl, ⟨k, rfl, hk⟩, hw⟩ := hrel
    by_cases h4 : k < 4
    · go_wp2_with (go_at_call 51; refine (HF.out _ _).mono ?_; rintro e w' ⟨rfl, rfl⟩)
      go_roundw
      case rel => exact ⟨rfl, ⟨k + 1, by go_num, by omega⟩, hw⟩
      case measure => simp [intOf]; omega
    · go_wp2
      go_ret
      exact ⟨rfl, hw⟩

end Go.Proofs.Ytgkhdpplmdkkaaa.Ds
/- Contracts of the desk: a tenant's sessions, what is open, Forget. -/
namespace Go.Proofs.Ytgkhdpplmdkkaaa.Ds
open Go.RowKit Go.Proofs.YtgkhdpplmdkkaaaH.HDeskPlays Go.Proofs.YtgkhdpplmdkkaaaW.PrintWords Go.Proofs.YtgkhdpplmdkkaaaW.PrintLast Go.Proofs.YtgkhdpplmdkkaaaW.PrintMore Go.Proofs.Ytgkhdpplmdkkaaa.Dp

theorem info3 : (Try.prog.info? 3).map (fun i => (i.zero, i.size, i.bytes)) = some (some (.int .i64 0), 1, 8) := by kernel_rfl

/-- has the k-th session of a tenant anything -/
def Has (cs : Array Value) (t : Int) (b : Nat → Bool) : Prop := ∀ k, k < 4 → ∃ l r p su no v5 A6 n6 c6, S7 cs ((t.toNat - 1) * 28 + k * 7) l r p su no v5 (.slice A6 n6 c6) ∧ b k = anyB l p n6

set_option maxRecDepth 100000 in
set_option maxHeartbeats 2000000 in
theorem sessions_yes (g : Nat) (cs : Array Value) (T : TypeId) (t : Int) (b : Nat → Bool) (w : World) (h1 : 1 ≤ t) (h2 : t ≤ 8) (hb : Blk w g T cs) (hs : Has cs t b) :
    Calls Try.prog 48 #[.pointer (some ⟨g, 0, none⟩), .int .i64 t] w fun e w' =>
      ∃ v, e = .returned v ∧ Kd.R (Kd.int .i64) 3 w' w.heap.size (fun _ => True) v (hasAt b 4) ∧ Below w.heap.size w w' := by
  have HB := Lib.hid hb
  have HS := Lib.hid hs
  clear hb hs
  go_enter Try.func48, Try.ntmps48
  go_wp2_with fail
  go_loopw [5, 8] (fun l i wr => ∃ k : Nat, i = .int .i64 k ∧ k ≤ 4 ∧ Kd.R (Kd.int .i64) 3 wr w.heap.size (fun _ => True) l (hasAt b k) ∧ Below w.heap.size w wr) (fun _ i _ => 4 - (intOf i).toNat)
  case atStart => exact ⟨0, rfl, by omega, Kd.R_nil _ _ _ _ _, Below.refl _ _⟩
  case round =>
    obtain ⟨k, rfl, hk, hr, hw⟩ := hrel
    have HR := Lib.hid hr
    have HW := Lib.hid hw
    have hlen := hasAt_len b k
    clear hr hw
    by_cases h4 : k < 4
    · obtain ⟨ll, r, p, su, no, v5, A6, n6, c6, hS, hbk⟩ := HS.out k h4
      have HSK := Lib.hid hS
      have HBK := Lib.hid hbk
      clear hS hbk
      go_wp2_with (go_at_call 51; refine (find_at g t (k : Int) ((t.toNat - 1) * 28 + k * 7) _ ⟨h1, h2, by omega, by omega⟩ (by simp)).mono ?_; rintro e w' ⟨rfl, rfl⟩)
      refine (any_at g cs T _ ll r p su no v5 A6 n6 c6 _ (HB.out.below HW.out HB.out.lt) HSK.out).mono ?_
      rintro e w' ⟨rfl, rfl⟩
      rw [← HBK.out]
      cases hc : b k
      · go_wp2
        go_roundw
        case rel => exact ⟨k + 1, by go_num, by omega, by rw [hasAt_succ, hc]; simpa using HR.out, HW.out⟩
        case measure => simp [intOf]; omega
      · go_wp2_with (first | ((with_reducible refine gate_builtin (b := .append) (xs := #[.tmp 21, .tmp 23]) rfl ?_); at_builtin; refine Kd.R_append (Kd.int .i64) (w0 := w) w.heap.size rfl (.tmp 21) (.tmp 23) 22 3 (.int .i64 0) 8 rfl Try.underlying22 info3 rfl (by decide) (by omega) _ (hasAt b k) (k : Int) [.int .i64 (k : Int)] (fun _ => True) (fun _ => False) rfl rfl ?aP (fun _ hk => hk.elim) ?aF ?aO ?aB ?aS ?aL ?_; (case aP => exact rfl); (case aF => exact (fun _ _ => trivial)); (case aO => exact HR.out); (case aB => exact HW.out); (case aS => exact HW.out.size); (case aL => omega); intro v1 w3 hr3 hb3 hg3 hat3; have HR3 := Lib.hid hr3; have HB3 := Lib.hid hb3; clear hr3 hb3 hg3 hat3))
        go_roundw
        case rel => exact ⟨k + 1, by go_num, by omega, by rw [hasAt_succ, hc]; exact HR3.out, HB3.out⟩
        case measure => simp [intOf]; omega
    · have h4' : k = 4 := by omega
      subst h4'
      go_wp2
      go_ret
      exact ⟨_, rfl, HR.out, HW.out⟩

/-- a session's cells, gone -/
def zero7 (cs : Array Value) (o : Nat) : Array Value := ((((((cs.setIfInBounds o (.int .i64 0)).setIfInBounds (o + 1) (.string ⟨#[]⟩)).setIfInBounds (o + 2) (.bool false)).setIfInBounds (o + 3) (.string ⟨#[]⟩)).setIfInBounds (o + 4) (.string ⟨#[]⟩)).setIfInBounds (o + 5) (.slice none 0 0)).setIfInBounds (o + 6) (.slice none 0 0)
theorem zero7_size (cs : Array Value) (o : Nat) : (zero7 cs o).size = cs.size := by simp [zero7]
def fgt (cs : Array Value) (base : Nat) (l : List Int) : Array Value := l.foldl (fun cs i => zero7 cs (base + i.toNat * 7)) cs
theorem fgt_size (base : Nat) : ∀ (l : List Int) (cs : Array Value), (fgt cs base l).size = cs.size
  | [], _ => rfl
  | i :: l, cs => by
    have := fgt_size base l (zero7 cs (base + i.toNat * 7))
    unfold fgt at this ⊢
    rw [List.foldl_cons, this, zero7_size]
theorem fgt_snoc (cs : Array Value) (base : Nat) (l : List Int) (i : Int) : fgt cs base (l ++ [i]) = zero7 (fgt cs base l) (base + i.toNat * 7) := by
  unfold fgt; rw [List.foldl_append, List.foldl_cons, List.foldl_nil]
theorem hasAt_mem {b : Nat → Bool} {n i : Nat} (h : i < (hasAt b n).length) : ∃ j : Nat, j < n ∧ (hasAt b n)[i]? = some (j : Int) ∧ b j = true := by
  have hm := List.getElem_mem h
  unfold hasAt at hm
  obtain ⟨j, hj, e⟩ := List.mem_map.1 hm
  rw [List.mem_filter, List.mem_range] at hj
  exact ⟨j, hj.1, by rw [List.getElem?_eq_getElem h]; exact congrArg some e.symm, hj.2⟩

set_option maxRecDepth 100000 in
set_option maxHeartbeats 1000000 in
theorem forget_no (A : Option Addr) (t : Int) (w : World) (hf : ∀ s w, Calls Try.prog 51 #[.pointer A, .int .i64 t, .int .i64 s] w fun e w' => e = .returned (.pointer none) ∧ w = w') :
    Calls Try.prog 47 #[.pointer A, .int .i64 t] w fun e w' =>
      e = .returned (.int .i64 0) ∧ Below w.heap.size w w' := by
  have HF := Lib.hid hf
  clear hf
  go_enter Try.func47, Try.ntmps47
  go_wp2_with (go_at_call 48; refine (sessions_no _ _ _ HF.out).mono ?_; rintro e w1 ⟨rfl, hb1⟩; have HB1 := Lib.hid hb1; clear hb1)
  go_loopw [13] (fun i wr => i = .int .i64 0 ∧ wr = w1) (fun i _ => 0)
  case atStart => exact ⟨rfl, rfl⟩
  case round =>
    obtain ⟨rfl, rfl⟩ := hrel
    go_wp2
    go_ret
    exact ⟨rfl, HB1.out⟩

set_option maxRecDepth 100000 in
set_option maxHeartbeats 4000000 in
theorem forget_yes (g : Nat) (cs : Array Value) (T : TypeId) (t : Int) (b : Nat → Bool) (w : World) (h1 : 1 ≤ t) (h2 : t ≤ 8) (hb : Blk w g T cs) (hs : Has cs t b) (hz : cs.size = 224) :
    Calls Try.prog 47 #[.pointer (some ⟨g, 0, none⟩), .int .i64 t] w fun e w' =>
      e = .returned (.int .i64 ((hasAt b 4).length : Int)) ∧ KeepBut w w' g none ∧ Below g w w' ∧ Blk w' g T (fgt cs ((t.toNat - 1) * 28) (hasAt b 4)) := by
  have HB := Lib.hid hb
  have HS := Lib.hid hs
  have hgw := hb.lt
  clear hb hs
  go_enter Try.func47, Try.ntmps47
  go_wp2_with fail
  refine (sessions_yes g cs T t b _ h1 h2 HB.out HS.out).mono ?_
  rintro e w1 ⟨v, rfl, hr1, hb1⟩
  obtain ⟨A, n, rfl⟩ := Kd.R_slice hr1
  have hf1 : ∀ W', KeepBut w1 W' g none → Kd.C (Kd.int .i64) W' A (hasAt b 4).length (hasAt b 4) := Kd.C_foot_own (Kd.R_mono (Kd.R_bound hr1) (fun k_ hk_ => (by have := hk_.2.1; omega : k_ ≠ g))) (fun _ h => h)
  have HF1 := Lib.hid hf1
  have HB1 := Lib.hid (HB.out.below hb1 HB.out.lt)
  have HL1 := Lib.hid hb1
  have hlen := hasAt_len b 4
  generalize hH : hasAt b 4 = H at *
  have HH := Lib.hid hH
  clear hr1 hf1 hb1 hH
  go_wp2_with fail
  go_loopw [13] (fun i wr => ∃ k : Nat, i = .int .i64 k ∧ k ≤ H.length ∧ KeepBut w1 wr g none ∧ Below g w1 wr ∧ Blk wr g T (fgt cs ((t.toNat - 1) * 28) (H.take k))) (fun i _ => H.length - (intOf i).toNat)
  case atStart => exact ⟨0, rfl, by omega, KeepBut.refl _ _ _, Below.refl _ _, HB1.out⟩
  case round =>
    obtain ⟨k, rfl, hk, hkb, hlb, hbb⟩ := hrel
    by_cases h4 : k < H.length
    · obtain ⟨j, hj, hjk, _⟩ := hasAt_mem (b := b) (n := 4) (i := k) (by rw [HH.out]; exact h4)
      rw [HH.out] at hjk
      obtain ⟨ad, rfl, hc⟩ := Kd.at_int (HF1.out wr hkb) (k : Int) (by omega) (by omega)
      have hrd : rd H (k : Int) = (j : Int) := by simp [rd, List.getD_eq_getElem?_getD, hjk]
      rw [hrd] at hc
      simp only [Int.toNat_natCast] at hc
      have hsn : H.take (k + 1) = H.take k ++ [(j : Int)] := by rw [List.take_add_one, hjk]; rfl
      generalize ho : (t.toNat - 1) * 28 + j * 7 = o
      have hoz : o + 6 < 224 := by omega
      have hz' : (fgt cs ((t.toNat - 1) * 28) (H.take k)).size = 224 := by rw [fgt_size, hz]
      have hfs : fgt cs ((t.toNat - 1) * 28) (H.take (k + 1)) = zero7 (fgt cs ((t.toNat - 1) * 28) (H.take k)) o := by rw [hsn, fgt_snoc, Int.toNat_natCast, ho]
      generalize fgt cs ((t.toNat - 1) * 28) (H.take k) = ck at hbb hz' hfs
      have f0 := hbb.frozen o
      have f1 := hbb.frozen (o + 1)
      have f2 := hbb.frozen (o + 2)
      have f3 := hbb.frozen (o + 3)
      have f4 := hbb.frozen (o + 4)
      have f5 := hbb.frozen (o + 5)
      have f6 := hbb.frozen (o + 6)
      obtain ⟨e0, he0⟩ : ∃ v, wr.cell? ⟨g, o, none⟩ = some v := ⟨_, (hbb.cell _).trans (Array.getElem?_eq_getElem (by omega))⟩
      obtain ⟨e1, he1⟩ : ∃ v, wr.cell? ⟨g, o + 1, none⟩ = some v := ⟨_, (hbb.cell _).trans (Array.getElem?_eq_getElem (by omega))⟩
      obtain ⟨e2, he2⟩ : ∃ v, wr.cell? ⟨g, o + 2, none⟩ = some v := ⟨_, (hbb.cell _).trans (Array.getElem?_eq_getElem (by omega))⟩
      obtain ⟨e3, he3⟩ : ∃ v, wr.cell? ⟨g, o + 3, none⟩ = some v := ⟨_, (hbb.cell _).trans (Array.getElem?_eq_getElem (by omega))⟩
      obtain ⟨e4, he4⟩ : ∃ v, wr.cell? ⟨g, o + 4, none⟩ = some v := ⟨_, (hbb.cell _).trans (Array.getElem?_eq_getElem (by omega))⟩
      obtain ⟨e5, he5⟩ : ∃ v, wr.cell? ⟨g, o + 5, none⟩ = some v := ⟨_, (hbb.cell _).trans (Array.getElem?_eq_getElem (by omega))⟩
      obtain ⟨e6, he6⟩ : ∃ v, wr.cell? ⟨g, o + 6, none⟩ = some v := ⟨_, (hbb.cell _).trans (Array.getElem?_eq_getElem (by omega))⟩
      have HKB := Lib.hid hkb
      have HLB := Lib.hid hlb
      have HBB := Lib.hid hbb
      have HFS := Lib.hid hfs
      clear hkb hlb hbb hfs hrd hjk hsn
      go_wp2_with (go_at_call 51; refine (find_at g t (j : Int) o _ ⟨h1, h2, by omega, by omega⟩ (by simpa using ho)).mono ?_; rintro e w' ⟨rfl, rfl⟩)
      go_roundw
      case rel =>
        refine ⟨k + 1, by go_num, by omega, ?_, ?_, ?_⟩
        · exact ((((((HKB.out.set_ _ _).set_ _ _).set_ _ _).set_ _ _).set_ _ _).set_ _ _).set_ _ _
        · exact below_set (below_set (below_set (below_set (below_set (below_set (below_set HLB.out (Nat.le_refl _) _ _) (Nat.le_refl _) _ _) (Nat.le_refl _) _ _) (Nat.le_refl _) _ _) (Nat.le_refl _) _ _) (Nat.le_refl _) _ _) (Nat.le_refl _) _ _
        · rw [HFS.out]
          exact ((((((HBB.out.set_ _ _).set_ _ _).set_ _ _).set_ _ _).set_ _ _).set_ _ _).set_ _ _
      case measure => simp [intOf]; omega
    · have h4' : k = H.length := by omega
      subst h4'
      have HKB := Lib.hid hkb
      have HLB := Lib.hid hlb
      have HBB := Lib.hid hbb
      clear hkb hlb hbb
      go_wp2
      go_ret
      rw [HH.out]
      refine ⟨rfl, (keep_of_below HL1.out : KeepBut w w1 g none).trans HKB.out (.inl rfl), (HL1.out.mono (by omega)).trans HLB.out, ?_⟩
      have := HBB.out
      rw [List.take_length] at this
      exact this

end Go.Proofs.Ytgkhdpplmdkkaaa.Ds
/- Contracts of the desk: Open, and Prove of a session whose challenge is open. -/
namespace Go.Proofs.Ytgkhdpplmdkkaaa.Ds
open Go.RowKit Go.Proofs.YtgkhdpplmdkkaaaH.HDeskPlays Go.Proofs.YtgkhdpplmdkkaaaW.PrintWords Go.Proofs.YtgkhdpplmdkkaaaW.PrintLast Go.Proofs.YtgkhdpplmdkkaaaW.PrintMore Go.Proofs.Ytgkhdpplmdkkaaa.Dp

theorem keep_row {w w' : World} {g : Nat} {row : Option Nat} (h : KeepBut w w' g none) : KeepBut w w' g row := ⟨h.1, fun i hi hg _ => h.2 i hi hg (by simp)⟩

set_option maxHeartbeats 1000000 in
theorem open_no (g : Nat) (cs : Array Value) (T : TypeId) (t s : Int) (o : Nat) (w : World) (h : ¬ isP t s ∨ (isP t s ∧ (t.toNat - 1) * 28 + s.toNat * 7 = o ∧ cs[o + 2]? = some (.bool false))) (hb : Blk w g T cs) :
    Calls Try.prog 46 #[.pointer (some ⟨g, 0, none⟩), .int .i64 t, .int .i64 s] w fun e w' =>
      e = .returned (.tuple #[.agg #[.string ⟨#[]⟩, .string ⟨#[]⟩, .slice none 0 0], .bool false]) ∧ Below w.heap.size w w' := by
  rcases h with h | ⟨h, ho, hop⟩
  · have H := Lib.hid h
    clear h hb
    go_enter Try.func46, Try.ntmps46
    go_wp2_with (go_at_call 51; refine (find_no _ _ _ _ H.out).mono ?_; rintro e w' ⟨rfl, rfl⟩)
    refine bodyPost_ret (results_ct rfl _ _ w.heap.size 36 #[.string ⟨#[]⟩, .string ⟨#[]⟩, .slice none 0 0] (0, 0) _ rfl (Blk.new w 36 _) Try.underlying36 rfl (by kernel_rfl)) rfl ?_
    exact ⟨rfl, below_allocW _ _⟩
  · have k2 := (hb.cell (o + 2)).trans hop
    have hlt := hb.lt
    have H := Lib.hid (And.intro h ho)
    clear hb h ho
    go_enter Try.func46, Try.ntmps46
    go_wp2_with (go_at_call 51; refine (Ds.find_at _ _ _ o _ H.out.1 H.out.2).mono ?_; rintro e w' ⟨rfl, rfl⟩)
    refine bodyPost_ret (results_ct rfl _ _ w.heap.size 36 #[.string ⟨#[]⟩, .string ⟨#[]⟩, .slice none 0 0] (0, 0) _ rfl (Blk.new w 36 _) Try.underlying36 rfl (by kernel_rfl)) rfl ?_
    exact ⟨rfl, below_allocW _ _⟩

set_option maxHeartbeats 2000000 in
theorem open_yes (g : Nat) (cs : Array Value) (T : TypeId) (t s : Int) (o : Nat) (l : Int) (r su no : ByteArray) (A5 : Option Addr) (n5 : Nat) (sl : List S42) (v6 : Value) (w : World) (h : isP t s) (ho : (t.toNat - 1) * 28 + s.toNat * 7 = o)
    (hb : Blk w g T cs) (hs : S7 cs o l r true su no (.slice A5 sl.length n5) v6) (hn : sl.length ≤ n5) (hC : Kd.C k42 w A5 sl.length sl) (hcp : desk_copied.f su no sl = some (su, no, sl)) :
    Calls Try.prog 46 #[.pointer (some ⟨g, 0, none⟩), .int .i64 t, .int .i64 s] w fun e w' =>
      ∃ v, e = .returned (.tuple #[.agg #[.string su, .string no, v], .bool true]) ∧ Below w.heap.size w w' ∧ Kd.R k42 42 w' w.heap.size (fun _ => True) v sl := by
  have k2 := (hb.cell (o + 2)).trans hs.c2
  have k3 := (hb.cell (o + 3)).trans hs.c3
  have k4 := (hb.cell (o + 4)).trans hs.c4
  have k5 := (hb.cell (o + 5)).trans hs.c5
  have hlt := hb.lt
  have H := Lib.hid (And.intro h ho)
  have HC := Lib.hid hC
  have HCP := Lib.hid hcp
  clear hb hs h ho hC hcp
  go_enter Try.func46, Try.ntmps46
  go_wp2_with (go_at_call 51; refine (Ds.find_at _ _ _ o _ H.out.1 H.out.2).mono ?_; rintro e w' ⟨rfl, rfl⟩)
  refine (desk_copied.calls su no A5 n5 sl su no sl _ (Kd.C_alloc HC.out _) hn HCP.out).mono ?_
  rintro e w3 ⟨v2, rfl, hr3, hb3⟩
  obtain ⟨A2, n2, rfl⟩ := Kd.R_slice hr3
  have hX3 : Blk w3 w.heap.size 36 #[.string ⟨#[]⟩, .string ⟨#[]⟩, .slice none 0 0] := (Blk.new w 36 _).below hb3 (Blk.new w 36 _).lt
  have hL3 : Below w.heap.size w w3 := (below_allocW w _).trans (hb3.mono (below_allocW w _).size)
  have c0 := hX3.cell 0
  have c1 := hX3.cell 1
  have c2 := hX3.cell 2
  have g0 := hX3.frozen 0
  have g1 := hX3.frozen 1
  have g2 := hX3.frozen 2
  have hO3 : Kd.R k42 42 w3 w.heap.size (fun k_ => k_ ≠ w.heap.size) (.slice A2 sl.length n2) sl := Kd.R_lower (Kd.R_mono (Kd.R_bound hr3) (fun k_ hk_ => by have h_ := hk_.2.1; simp at h_; omega)) (below_allocW w _).size
  have HX3 := Lib.hid hX3
  have HL3 := Lib.hid hL3
  have HO3 := Lib.hid hO3
  clear hX3 hL3 hO3 hr3 hb3
  go_wp2_with fail
  refine bodyPost_ret (results_ct rfl _ _ w.heap.size 36 #[.string su, .string no, .slice A2 sl.length n2] (0, 0) _ rfl (((HX3.out.set_ 0 _).set_ 1 _).set_ 2 _) Try.underlying36 rfl (by kernel_rfl)) rfl ?_
  have hk : KeepBut w3 (((w3.setCell ⟨w.heap.size, 0, none⟩ (.string su)).setCell ⟨w.heap.size, 1, none⟩ (.string no)).setCell ⟨w.heap.size, 2, none⟩ (.slice A2 sl.length n2)) w.heap.size none := (((KeepBut.refl _ _ _).set_ _ _).set_ _ _).set_ _ _
  exact ⟨_, rfl, below_set (below_set (below_set HL3.out (Nat.le_refl _) _ _) (Nat.le_refl _) _ _) (Nat.le_refl _) _ _, Kd.R_mono (Kd.R_keep HO3.out hk (fun _ h => h)) (fun _ _ => trivial)⟩

set_option maxHeartbeats 4000000 in
/-- a challenge is open: R is the errno and the id that the first content whose proof is the answer makes -/
theorem prove_open (g : Nat) (cs : Array Value) (T : TypeId) (t s : Int) (o : Nat) (answer su no : ByteArray) (sl : List S42) (A1 : Option Addr) (n1 : Nat) (l : Int) (r : ByteArray) (tk : List S74) (A6 : Option Addr) (n6 : Nat) (okT : Nat → Prop) (xs : List ByteArray) (A4 : Option Addr) (c4 : Nat) (ys : List S74) (A3 : Option Addr) (c3 : Nat) (pf : ByteArray → ByteArray) (R : Int × S74) (w : World)
    (h : isP t s) (ho : (t.toNat - 1) * 28 + s.toNat * 7 = o)
    (hb : Blk w g T cs) (hS : S7 cs o l r true su no (.slice A1 sl.length n1) (.slice A6 tk.length n6)) (hs1 : sl.length ≤ n1) (hsb : ∀ W', KeepBut w W' g none → Kd.C k42 W' A1 sl.length sl)
    (hx : ∀ W', KeepBut w W' g none → Kd.C Kd.string W' A4 xs.length xs) (hy : ∀ W', KeepBut w W' g (Value.slice A6 tk.length n6).ownBlock → Kd.C k74 W' A3 ys.length ys) (hl : ys.length = xs.length) (hlen : xs.length ≤ 1000) (htk : tk.length ≤ 1000)
    (hv : Kd.R k74 74 w 0 okT (.slice A6 tk.length n6) tk) (hok : ∀ k, okT k → k ≠ g)
    (hp : ∀ x ∈ xs, ∃ k, desk_Proof.f k su no sl x = some (pf x))
    (hmiss : (∀ i, i < xs.length → (pf (xs.getD i ⟨#[]⟩)).toList ≠ answer.toList) → R = (11, z74))
    (hhit : ∀ m, m < xs.length → (pf (xs.getD m ⟨#[]⟩)).toList = answer.toList → (∀ i, i < m → (pf (xs.getD i ⟨#[]⟩)).toList ≠ answer.toList) → R = if tk.length = 8 then (5, z74) else (0, ys.getD m z74)) :
    Calls Try.prog 38 #[.pointer (some ⟨g, 0, none⟩), .int .i64 t, .int .i64 s, .string answer, .slice A3 ys.length c3, .slice A4 xs.length c4] w fun e w' =>
      e = .returned (.tuple #[.agg #[.string R.2.f0, .int .i64 R.2.f1], .int .i64 R.1]) ∧ Below 0 w w' ∧ KeepBut w w' g (Value.slice A6 tk.length n6).ownBlock ∧
        ((R.1 ≠ 0 ∧ KeepBut w w' g none ∧ Blk w' g T (clB cs o)) ∨ (R.1 = 0 ∧ ∃ v, Blk w' g T ((clB cs o).setIfInBounds (o + 6) v) ∧ Kd.R k74 74 w' 0 (fun k => okT k ∨ w.heap.size ≤ k) v (tk ++ [R.2]))) := by
  have HB := Lib.hid hb
  have q2 := (hb.cell (o + 2)).trans hS.c2
  have q3 := (hb.cell (o + 3)).trans hS.c3
  have q4 := (hb.cell (o + 4)).trans hS.c4
  have q5 := (hb.cell (o + 5)).trans hS.c5
  have q6 := (hb.cell (o + 6)).trans hS.c6
  have f2 := hb.frozen (o + 2)
  have f3 := hb.frozen (o + 3)
  have f4 := hb.frozen (o + 4)
  have f5 := hb.frozen (o + 5)
  have f6 := hb.frozen (o + 6)
  have hlt := hb.lt
  have HSB := Lib.hid hsb
  have HX := Lib.hid hx
  have HY := Lib.hid hy
  have HP := Lib.hid hp
  have HV := Lib.hid hv
  have HOK := Lib.hid hok
  have HM := Lib.hid hmiss
  have HH := Lib.hid hhit
  have HK := Lib.hid hS.c6
  have H := Lib.hid (And.intro h ho)
  have hgo : some g ≠ (Value.slice A6 tk.length n6).ownBlock := Kd.R_away hv hok
  have hgs0 : some w.heap.size ≠ (Value.slice A6 tk.length n6).ownBlock := fun e => by have := Kd.R_lt hv _ e.symm; omega
  have HGO := Lib.hid (And.intro hgo hgs0)
  clear hb hsb hx hy hp hmiss hhit hS hv hok h ho hgo hgs0
  go_enter Try.func38, Try.ntmps38
  go_wp2_with (go_at_call 51; refine (Ds.find_at _ _ _ o _ H.out.1 H.out.2).mono ?_; rintro e w' ⟨rfl, rfl⟩)
  generalize hw2 : ((((((w.setCell ⟨g, o + 2, none⟩ (.bool false)).setCell ⟨g, o + 3, none⟩ (.string ⟨#[]⟩)).setCell ⟨g, o + 3 + 1, none⟩ (.string ⟨#[]⟩)).setCell ⟨g, o + 3 + 2, none⟩ (.slice none 0 0)).alloc (.cells #[.string ⟨#[]⟩, .int .i64 0] 74)).alloc (.cells #[.string su, .string no, .slice A1 sl.length n1] 36)) = w2
  have hkw : KeepBut w w2 g none := by
    rw [← hw2]
    exact keep_alloc (keep_alloc (((((KeepBut.refl _ _ _).set_ _ _).set_ _ _).set_ _ _).set_ _ _) _) _
  have hB2 : Blk w2 g T (clB cs o) := by rw [← hw2]; exact (((((HB.out.set_ _ _).set_ _ _).set_ _ _).set_ _ _).alloc _).alloc _
  have hR2 : Blk w2 w.heap.size 74 #[.string ⟨#[]⟩, .int .i64 0] := by rw [← hw2]; exact (Blk.new_at _ _ _ _ _ (by simp) rfl).alloc _
  have hC2 : Blk w2 (w.heap.size + 1) 36 #[.string su, .string no, .slice A1 sl.length n1] := by rw [← hw2]; exact Blk.new_at _ _ _ _ _ (by simp) rfl
  have hgw : g ≤ w.heap.size := Nat.le_of_lt hlt
  have HG0 := Lib.hid (show Below 0 w w2 by rw [← hw2]; exact ((below_set (below_set (below_set (below_set (Below.refl _ _) (Nat.zero_le _) _ _) (Nat.zero_le _) _ _) (Nat.zero_le _) _ _) (Nat.zero_le _) _ _).alloc (Nat.zero_le _) _).alloc (Nat.zero_le _) _)
  have HKW := Lib.hid hkw
  have HB2 := Lib.hid hB2
  have HR2 := Lib.hid hR2
  have HC2 := Lib.hid hC2
  clear hw2 hkw hB2 hR2 hC2 q2 q3 q4 q5 q6 f2 f3 f4 f5 f6 HB
  have ge : ∀ (wq : World), Below w2.heap.size w2 wq → R.2 = z74 → R.1 ≠ 0 → ∀ a : Act, a.tmps.getD 12 undef = .pointer (some ⟨w.heap.size, 0, none⟩) → a.tmps.getD 13 undef = .int .i64 R.1 → a.defers = [] → ∀ wz, wz = (wq.setCell ⟨w.heap.size, 0, none⟩ (.string ⟨#[]⟩)).setCell ⟨w.heap.size, 1, none⟩ (.int .i64 0) →
      bodyPost Try.prog Try.f38 (fun e w' => e = .returned (.tuple #[.agg #[.string R.2.f0, .int .i64 R.2.f1], .int .i64 R.1]) ∧ Below 0 w w' ∧ KeepBut w w' g (Value.slice A6 tk.length n6).ownBlock ∧
        ((R.1 ≠ 0 ∧ KeepBut w w' g none ∧ Blk w' g T (clB cs o)) ∨ (R.1 = 0 ∧ ∃ v, Blk w' g T ((clB cs o).setIfInBounds (o + 6) v) ∧ Kd.R k74 74 w' 0 (fun k => okT k ∨ w.heap.size ≤ k) v (tk ++ [R.2])))) Exit.ret a wz := by
    intro wq hq hz hne a q0 q1 q3 wz hwz
    subst hwz
    have hRq := HR2.out.below hq HR2.out.lt
    have hBq := HB2.out.below hq HB2.out.lt
    have hkq : KeepBut w wq g none := HKW.out.trans (keep_of_below hq) (.inl rfl)
    have hgs : g ≠ w.heap.size := by omega
    refine bodyPost_ret (results_ct rfl _ _ w.heap.size 74 #[.string ⟨#[]⟩, .int .i64 0] (0, 0) _ q0 ((hRq.set_ 0 _).set_ 1 _) Try.underlying74 rfl (by kernel_rfl)) q3 ?_
    rw [q1, hz]
    have hk : KeepBut wq ((wq.setCell ⟨w.heap.size, 0, none⟩ (.string ⟨#[]⟩)).setCell ⟨w.heap.size, 1, none⟩ (.int .i64 0)) w.heap.size none := ((KeepBut.refl _ _ _).set_ _ _).set_ _ _
    have hkk : KeepBut w ((wq.setCell ⟨w.heap.size, 0, none⟩ (.string ⟨#[]⟩)).setCell ⟨w.heap.size, 1, none⟩ (.int .i64 0)) g none := ⟨Nat.le_trans hkq.1 hk.1, fun i hi hne _ => by
      rw [hk.2 i (Nat.lt_of_lt_of_le hi hkq.1) (Nat.ne_of_lt hi) (by simp)]
      exact hkq.2 i hi hne (by simp)⟩
    exact ⟨rfl, below_set (below_set (HG0.out.trans (hq.mono (Nat.zero_le _))) (Nat.zero_le _) _ _) (Nat.zero_le _) _ _, keep_row hkk, .inl ⟨hne, hkk, (hBq.far hgs _).far hgs _⟩⟩
  have GE := Lib.hid ge
  clear ge
  go_loopw [51] (fun i wr => ∃ m : Nat, i = .int .i64 m ∧ m ≤ xs.length ∧ (∀ i, i < m → (pf (xs.getD i ⟨#[]⟩)).toList ≠ answer.toList) ∧ Below w2.heap.size w2 wr) (fun i _ => xs.length - (intOf i).toNat)
  case atStart => exact ⟨0, rfl, by omega, fun i hi => by omega, Below.refl _ _⟩
  case round =>
    obtain ⟨m, rfl, hmj, hne_, hwr⟩ := hrel
    have HNE := Lib.hid hne_
    clear hne_
    by_cases hmx : m < xs.length
    case neg =>
      have hm' : m = xs.length := by omega
      subst hm'
      have hR0 := HM.out HNE.out
      have HRR := Lib.hid hR0
      have hRw := HR2.out.below hwr HR2.out.lt
      have c0 := hRw.cell 0
      have c1 := hRw.cell 1
      have g0 := hRw.frozen 0
      have g1 := hRw.frozen 1
      have HWR := Lib.hid hwr
      clear hRw hwr hR0
      go_wp2_with fail
      exact GE.out _ HWR.out (by rw [HRR.out]) (by rw [HRR.out]; decide) _ rfl (by rw [HRR.out]; rfl) rfl _ rfl
    have hkr : KeepBut w wr g none := HKW.out.trans (keep_of_below hwr) (.inl rfl)
    obtain ⟨ad, rfl, hxc⟩ := Kd.at_string (HX.out wr hkr) (m : Int) (by omega) (by omega)
    simp only [Int.toNat_natCast] at hxc
    generalize hxv : rdOf ByteArray.empty xs (m : Int) = x at hxc
    have hxm : x = xs.getD m ⟨#[]⟩ := by rw [← hxv]; rfl
    have hmem : x ∈ xs := by
      rw [hxm, List.getD_eq_getElem?_getD, List.getElem?_eq_getElem (by omega)]
      exact List.getElem_mem _
    obtain ⟨k, hp⟩ := HP.out x hmem
    have hC := HC2.out.below hwr HC2.out.lt
    have d0 := hC.cell 0
    have d1 := hC.cell 1
    have d2 := hC.cell 2
    have hmx : (m : Int) < xs.length := by omega
    have HPx := Lib.hid hp
    have HWR := Lib.hid hwr
    have HKR := Lib.hid hkr
    have HXM := Lib.hid hxm
    clear hp hmem hxv hwr hkr hC hxm
    go_wp2_with fail
    refine (desk_Proof.calls k su no A1 n1 sl x (pf x) _ (HSB.out _ HKR.out) hs1 HPx.out).mono ?_
    rintro e w4 ⟨rfl, hb4⟩
    have HW4 := Lib.hid (HWR.out.trans (hb4.mono HWR.out.size))
    clear hb4
    by_cases heq : (pf x).toList = answer.toList
    case neg =>
      have hne0 : ((pf x).toList == answer.toList) = false := beq_eq_false_iff_ne.mpr heq
      have hne1 : ((pf x).toList != answer.toList) = true := bne_iff_ne.mpr heq
      have HNQ := Lib.hid heq
      clear heq
      go_wp2
      refine ⟨⟨m + 1, by go_num, by omega, fun i hi => ?_, HW4.out⟩, by simp [intOf]; omega⟩
      by_cases h_ : i = m
      · subst h_; rw [← HXM.out]; exact HNQ.out
      · exact HNE.out i (by omega)
    have he0 : ((pf x).toList == answer.toList) = true := beq_iff_eq.mpr heq
    have he1 : ((pf x).toList != answer.toList) = false := bne_eq_false_iff_eq.mpr heq
    have hR0 := HH.out m (by omega) (by rw [← HXM.out]; exact heq) HNE.out
    clear heq
    have hB4 := HB2.out.below HW4.out HB2.out.lt
    have hR4 := HR2.out.below HW4.out HR2.out.lt
    have q6 : w4.cell? ⟨g, o + 6, none⟩ = some (.slice A6 tk.length n6) := by
      rw [hB4.cell, clB_six]
      exact HK.out
    have f6 := hB4.frozen (o + 6)
    have hlt4 := hB4.lt
    by_cases h8 : tk.length = 8
    · have c0 := hR4.cell 0
      have c1 := hR4.cell 1
      have g0 := hR4.frozen 0
      have g1 := hR4.frozen 1
      rw [if_pos h8] at hR0
      have HRR := Lib.hid hR0
      have h8' : (tk.length : Int) = 8 := by omega
      clear hR0 hB4 hR4
      go_wp2_with fail
      exact GE.out _ HW4.out (by rw [HRR.out]) (by rw [HRR.out]; decide) _ rfl (by rw [HRR.out]; rfl) rfl _ rfl
    rw [if_neg h8] at hR0
    have HRR := Lib.hid hR0
    have h8' : ¬ (tk.length : Int) = 8 := by omega
    clear hR0
    obtain ⟨ad3, rfl, hy0, hy1⟩ := at_T74 (HY.out w4 (keep_row (HKW.out.trans (keep_of_below HW4.out) (.inl rfl)))) (m : Int) (by omega) (by omega)
    simp only [Int.toNat_natCast] at hy0 hy1
    have HB4 := Lib.hid hB4
    have HR4 := Lib.hid hR4
    clear hB4 hR4
    have hmy : (m : Int) < ys.length := by omega
    have hk4 : KeepBut w w4 g none := HKW.out.trans (keep_of_below HW4.out) (.inl rfl)
    have HK4 := Lib.hid hk4
    have hlR : w.heap.size < w4.heap.size := HR4.out.lt
    have HV4 := Lib.hid (show Kd.R k74 74 w4.drew 0 (fun k => (okT k ∧ k < w.heap.size) ∨ w4.heap.size ≤ k) (.slice A6 tk.length n6) tk from Kd.R_drew (Kd.R_mono (Kd.R_keep (Kd.R_bound HV.out) hk4 (fun k hk => HOK.out k hk.1)) (fun k hk => .inl ⟨hk.1, hk.2.2.1⟩)))
    clear hk4
    go_wp2_with fail
    go_region_law (refine Kd.R_append_step k74 (w0 := w4.drew) (W := w4.drew) 0 (by rfl) (.tmp 72) (.tmp 77) 77 74 (.agg #[.string ⟨#[]⟩, .int .i64 0]) 24 rfl Try.underlying77 info74 rfl (by decide) (by decide) (.slice A6 tk.length n6) tk (rd_T74 ys (m : Int)) [.string (rd_T74 ys (m : Int)).f0, .int .i64 (rd_T74 ys (m : Int)).f1] (fun k => (okT k ∧ k < w.heap.size) ∨ w4.heap.size ≤ k) (fun _ => False) (by rfl) (by rfl) (k74_mkM _ _ _ _) (fun _ h => h.elim) (fun k hk => .inr hk) HV4.out (Below.refl _ _) (Nat.zero_le _) (by omega) ?_; intro v5 w5 hr5 hb5 hg5 hat5; obtain ⟨A5, c5, rfl⟩ := Kd.R_slice hr5; have hB5 : Blk w5 g T (clB cs o) := (HB4.out.drew).grown hg5 HGO.out.1; have hR5 : Blk w5 w.heap.size 74 #[.string ⟨#[]⟩, .int .i64 0] := (HR4.out.drew).grown hg5 HGO.out.2; have p6 := hB5.frozen (o + 6); have q6' : w5.cell? ⟨g, o + 6, none⟩ = some (.slice A6 tk.length n6) := (by rw [hB5.cell, clB_six]; exact HK.out); have HB5 := Lib.hid hB5; have HR5 := Lib.hid hR5; have HO5 := Lib.hid hr5; have HL5 := Lib.hid hg5; have HG5 := Lib.hid hb5; clear hB5 hR5 hr5 hb5 hg5 hat5 hy0 hy1 q6 f6)
    all_goals
      refine abs_then ?_
      intro w6 hw6
      have hgs : w.heap.size ≠ g := fun h => by omega
      have hB6 : Blk w6 g T ((clB cs o).setIfInBounds (o + 6) (.slice A5 (tk.length + 1) c5)) := by rw [hw6]; exact HB5.out.set_ _ _
      have hR6 : Blk w6 w.heap.size 74 #[.string ⟨#[]⟩, .int .i64 0] := by rw [hw6]; exact HR5.out.far hgs _
      have hO6 : Kd.R k74 74 w6 0 (fun k => (okT k ∧ k < w.heap.size) ∨ w4.heap.size ≤ k) (.slice A5 (tk.length + 1) c5) (tk ++ [rd_T74 ys (m : Int)]) := by
        rw [hw6]
        have h_ := Kd.R_far HO5.out (p := ⟨g, o + 6, none⟩) (fun k hk => by
          rcases hk with hk | hk
          · exact HOK.out k hk.1
          · show k ≠ g
            omega) (.slice A5 (tk.length + 1) c5)
        rw [List.length_append] at h_
        exact h_
      have hk5 : KeepBut w w5 g (Value.slice A6 tk.length n6).ownBlock := (keep_drew (keep_row HK4.out)).trans (KeepBut.of_grown HL5.out g) (.inl rfl)
      have hk6 : KeepBut w w6 g (Value.slice A6 tk.length n6).ownBlock := by rw [hw6]; exact hk5.set_ _ _
      obtain ⟨ad3', e3, hy0, hy1⟩ := at_T74 (HY.out w6 hk6) (m : Int) (by omega) (by omega)
      cases e3
      simp only [Int.toNat_natCast] at hy0 hy1
      have c0 := hR6.cell 0
      have c1 := hR6.cell 1
      have g0 := hR6.frozen 0
      have g1 := hR6.frozen 1
      have HB6 := Lib.hid hB6
      have HR6 := Lib.hid hR6
      have HO6 := Lib.hid hO6
      have HG6 := Lib.hid (show Below 0 w w6 by rw [hw6]; exact below_set (((HG0.out.trans (HW4.out.mono (Nat.zero_le _))).drew).trans HG5.out) (Nat.zero_le _) _ _)
      have HK6 := Lib.hid hk6
      clear hw6 hB6 hR6 hO6 hk5 hk6 q6' p6
      go_wp2_with fail
      refine bodyPost_ret (results_ct rfl _ _ w.heap.size 74 #[.string (rd_T74 ys (m : Int)).f0, .int .i64 (rd_T74 ys (m : Int)).f1] (0, 0) _ rfl ((HR6.out.set_ 0 _).set_ 1 _) Try.underlying74 rfl (by kernel_rfl)) rfl ?_
      have hk : KeepBut w6 ((w6.setCell ⟨w.heap.size, 0, none⟩ (.string (rd_T74 ys (m : Int)).f0)).setCell ⟨w.heap.size, 1, none⟩ (.int .i64 (rd_T74 ys (m : Int)).f1)) w.heap.size none := ((KeepBut.refl _ _ _).set_ _ _).set_ _ _
      rw [HRR.out]
      refine ⟨rfl, below_set (below_set HG6.out (Nat.zero_le _) _ _) (Nat.zero_le _) _ _, ⟨Nat.le_trans HK6.out.1 hk.1, fun i hi hne hnr => ?_⟩, .inr ⟨rfl, _, (HB6.out.far (Ne.symm hgs) _).far (Ne.symm hgs) _, ?_⟩⟩
      · rw [hk.2 i (Nat.lt_of_lt_of_le hi HK6.out.1) (Nat.ne_of_lt hi) (by simp)]
        exact HK6.out.2 i hi hne hnr
      · refine Kd.R_mono (Kd.R_keep HO6.out hk (fun k h_ => ?_)) (fun k h_ => ?_)
        · rcases h_ with h_ | h_ <;> omega
        · rcases h_ with h_ | h_
          · exact .inl h_.1
          · right; omega

end Go.Proofs.Ytgkhdpplmdkkaaa.Ds
