/- Joined: Ds, Dt, Du. -/
import Derived.Test.YtgkhdpplmdkkaaaMd
import Derived.Deep.MidRow
import Derived.Deep.WholeRow
import Derived.Test.YtgkhdpplmdkkaaaWWords
import Derived.Test.YtgkhdpplmdkkaaaWMore
import Derived.Laws.CopyOwn
set_option linter.unusedVariables false
set_option linter.unusedSimpArgs false
/- Contracts of the desk: sessions that are not there, and what has anything. -/
namespace Go.Proofs.Ytgkhdpplmdkkaaa.Ds
open Go.RowKit

/-- is there such a session -/
abbrev isP (t s : Int) : Prop := 1 ≤ t ∧ t ≤ 8 ∧ 0 ≤ s ∧ s ≤ 3

/-- the seven cells of the session at o -/
structure S7 (cs : Array Value) (o : Nat) (l : Int) (r : ByteArray) (p : Bool) (su no : ByteArray) (v5 v6 : Value) : Prop where
  c0 : cs[o]? = some (.int .i64 l)
  c1 : cs[o + 1]? = some (.string r)
  c2 : cs[o + 2]? = some (.bool p)
  c3 : cs[o + 3]? = some (.string su)
  c4 : cs[o + 4]? = some (.string no)
  c5 : cs[o + 5]? = some v5
  c6 : cs[o + 6]? = some v6

set_option maxHeartbeats 400000 in
theorem find_no (g : Nat) (t s : Int) (w : World) (h : ¬ isP t s) :
    Calls Try.prog 51 #[.pointer (some ⟨g, 0, none⟩), .int .i64 t, .int .i64 s] w fun e w' =>
      e = .returned (.pointer none) ∧ w = w' := by
  have hc : t < 1 ∨ (1 ≤ t ∧ 8 < t) ∨ (1 ≤ t ∧ t ≤ 8 ∧ s < 0) ∨ (1 ≤ t ∧ t ≤ 8 ∧ 0 ≤ s ∧ 3 < s) := by unfold isP at h; omega
  clear h
  rcases hc with h | ⟨h1, h⟩ | ⟨h1, h2, h⟩ | ⟨h1, h2, h3, h⟩
  all_goals
    go_enter Try.func51, Try.ntmps51
    go_wp2
    go_ret
    exact ⟨rfl, rfl⟩

set_option maxHeartbeats 400000 in
theorem find_nil (t s : Int) (w : World) :
    Calls Try.prog 51 #[.pointer none, .int .i64 t, .int .i64 s] w fun e w' =>
      e = .returned (.pointer none) ∧ w = w' := by
  go_enter Try.func51, Try.ntmps51
  go_wp2
  go_ret
  exact ⟨rfl, rfl⟩

theorem find_at (g : Nat) (t s : Int) (o : Nat) (w : World) (h : isP t s) (ho : (t.toNat - 1) * 28 + s.toNat * 7 = o) :
    Calls Try.prog 51 #[.pointer (some ⟨g, 0, none⟩), .int .i64 t, .int .i64 s] w fun e w' =>
      e = .returned (.pointer (some ⟨g, o, none⟩)) ∧ w = w' := by
  subst ho
  obtain ⟨h1, h2, h3, h4⟩ := h
  exact find_yes g t s w h1 h2 h3 h4

/-- has a session anything -/
def anyB (l : Int) (p : Bool) (n : Nat) : Bool := decide (0 < l) || (p || decide (0 < n))

set_option maxHeartbeats 400000 in
theorem any_at (g : Nat) (cs : Array Value) (T : TypeId) (o : Nat) (l : Int) (r : ByteArray) (p : Bool) (su no : ByteArray) (v5 : Value) (A6 : Option Addr) (n6 c6 : Nat) (w : World) (hb : Blk w g T cs) (hs : S7 cs o l r p su no v5 (.slice A6 n6 c6)) :
    Calls Try.prog 80 #[.pointer (some ⟨g, o, none⟩)] w fun e w' =>
      e = .returned (.bool (anyB l p n6)) ∧ w = w' := by
  have k0 := (hb.cell o).trans hs.c0
  have k2 := (hb.cell (o + 2)).trans hs.c2
  have k6 := (hb.cell (o + 6)).trans hs.c6
  clear hb hs
  by_cases h0 : 0 < l
  · go_enter Try.func80, Try.ntmps80
    go_wp2
    go_ret
    exact ⟨ret_bool (by rw [anyB, decide_eq_true h0]; rfl), rfl⟩
  · cases p
    · go_enter Try.func80, Try.ntmps80
      go_wp2
      go_ret
      exact ⟨ret_bool (by rw [anyB, decide_eq_false (show ¬ 0 < l by omega)]; first | rfl | simp), rfl⟩
    · go_enter Try.func80, Try.ntmps80
      go_wp2
      go_ret
      exact ⟨ret_bool (by rw [anyB, decide_eq_false (show ¬ 0 < l by omega)]; first | rfl | simp), rfl⟩

set_option maxHeartbeats 400000 in
theorem last_no (g : Nat) (t s : Int) (w : World) (h : ¬ isP t s) :
    Calls Try.prog 81 #[.pointer (some ⟨g, 0, none⟩), .int .i64 t, .int .i64 s] w fun e w' =>
      e = .returned (.int .i64 0) ∧ w = w' := by
  have H := Lib.hid h
  clear h
  go_enter Try.func81, Try.ntmps81
  go_wp2_with (go_at_call 51; refine (find_no _ _ _ _ H.out).mono ?_; rintro e w' ⟨rfl, rfl⟩)
  go_ret
  exact ⟨rfl, rfl⟩

set_option maxHeartbeats 400000 in
theorem last_yes (g : Nat) (cs : Array Value) (T : TypeId) (t s : Int) (o : Nat) (l : Int) (w : World) (h : isP t s) (ho : (t.toNat - 1) * 28 + s.toNat * 7 = o) (hb : Blk w g T cs) (hs : cs[o]? = some (.int .i64 l)) :
    Calls Try.prog 81 #[.pointer (some ⟨g, 0, none⟩), .int .i64 t, .int .i64 s] w fun e w' =>
      e = .returned (.int .i64 l) ∧ w = w' := by
  have k0 := (hb.cell o).trans hs
  have H := Lib.hid (And.intro h ho)
  clear hb hs h ho
  go_enter Try.func81, Try.ntmps81
  go_wp2_with (go_at_call 51; refine (find_at _ _ _ o _ H.out.1 H.out.2).mono ?_; rintro e w' ⟨rfl, rfl⟩)
  go_ret
  exact ⟨rfl, rfl⟩

/-- what a restoring answers -/
def reE (q l : Int) (p : Bool) (n : Nat) : Int := if q < 0 ∨ 2147483648 < q then 1 else if anyB l p n = true then 8 else 0
def reA (cs : Array Value) (o : Nat) (q l : Int) (p : Bool) (n : Nat) : Array Value := if reE q l p n = 0 then cs.setIfInBounds o (.int .i64 q) else cs

set_option maxHeartbeats 400000 in
theorem restore_no (g : Nat) (t s q : Int) (w : World) (h : ¬ isP t s) :
    Calls Try.prog 79 #[.pointer (some ⟨g, 0, none⟩), .int .i64 t, .int .i64 s, .int .i64 q] w fun e w' =>
      e = .returned (.int .i64 1) ∧ w = w' := by
  have H := Lib.hid h
  clear h
  go_enter Try.func79, Try.ntmps79
  go_wp2_with (go_at_call 51; refine (find_no _ _ _ _ H.out).mono ?_; rintro e w' ⟨rfl, rfl⟩)
  go_ret
  exact ⟨rfl, rfl⟩

set_option maxHeartbeats 400000 in
theorem restore_yes (g : Nat) (cs : Array Value) (T : TypeId) (t s q : Int) (o : Nat) (l : Int) (r : ByteArray) (p : Bool) (su no : ByteArray) (v5 : Value) (A6 : Option Addr) (n6 c6 : Nat) (w : World) (h : isP t s) (ho : (t.toNat - 1) * 28 + s.toNat * 7 = o)
    (hb : Blk w g T cs) (hs : S7 cs o l r p su no v5 (.slice A6 n6 c6)) :
    Calls Try.prog 79 #[.pointer (some ⟨g, 0, none⟩), .int .i64 t, .int .i64 s, .int .i64 q] w fun e w' =>
      e = .returned (.int .i64 (reE q l p n6)) ∧ Below g w w' ∧ Blk w' g T (reA cs o q l p n6) := by
  have HB := Lib.hid hb
  have HS := Lib.hid hs
  have H := Lib.hid (And.intro h ho)
  have k0 := (hb.cell o).trans hs.c0
  have f0 := hb.frozen o
  clear hb hs h ho
  by_cases hq : q < 0 ∨ 2147483648 < q
  · rcases hq with hq | hq
    all_goals
      have e1 : reE q l p n6 = 1 := by unfold reE; rw [if_pos (by omega)]
      have E1 := Lib.hid e1
      clear e1
      go_enter Try.func79, Try.ntmps79
      go_wp2_with (go_at_call 51; refine (find_at _ _ _ o _ H.out.1 H.out.2).mono ?_; rintro e w' ⟨rfl, rfl⟩)
      go_ret
      exact ⟨ret_int E1.out.symm, Below.refl _ _, by unfold reA; rw [E1.out, if_neg (by decide)]; exact HB.out⟩
  · have hq1 : 0 ≤ q := by omega
    have hq2 : q ≤ 2147483648 := by omega
    have e1 : reE q l p n6 = if anyB l p n6 = true then 8 else 0 := by unfold reE; rw [if_neg hq]
    have E1 := Lib.hid e1
    clear hq e1
    cases ha : anyB l p n6
    all_goals
      have HA := Lib.hid ha
      clear ha
      go_enter Try.func79, Try.ntmps79
      go_wp2_with (first
        | (go_at_call 51; refine (find_at _ _ _ o _ H.out.1 H.out.2).mono ?_; rintro e w' ⟨rfl, rfl⟩)
        | (go_at_call 80; refine (any_at _ _ _ o l r p su no v5 A6 n6 c6 _ HB.out HS.out).mono ?_; rintro e w' ⟨rfl, rfl⟩; rw [HA.out]))
      go_ret
    · have E2 : reE q l p n6 = 0 := by rw [E1.out, HA.out]; rfl
      exact ⟨ret_int E2.symm, below_set (Below.refl _ _) (Nat.le_refl _) _ _, by unfold reA; rw [if_pos E2]; exact HB.out.set_ _ _⟩
    · have E2 : reE q l p n6 = 8 := by rw [E1.out, HA.out]; rfl
      exact ⟨ret_int E2.symm, Below.refl _ _, by unfold reA; rw [E2, if_neg (by decide)]; exact HB.out⟩

end Go.Proofs.Ytgkhdpplmdkkaaa.Ds
/- Contracts of the reference's desk, which is handed by value. -/
namespace Go.Proofs.Ytgkhdpplmdkkaaa.Ds
open Go.RowKit Go.Proofs.YtgkhdpplmdkkaaaW.PrintWords Go.Proofs.YtgkhdpplmdkkaaaW.PrintMore

theorem info90 : (Try.prog.info? 90).map (·.size) = some 224 := by kernel_rfl
theorem load90 {w : World} {b : Nat} {xs : Array Value} (h : Blk w b 90 xs) (hz : xs.size = 224) : (Instr.loadAt 90 (.pointer (some ⟨b, 0, none⟩))).run Try.prog w = .ok (.agg xs) w := by
  simp only [Instr.loadAt, Instr.sureAddr, Sem.run_bind, Sem.run_pure, Result.andThen_ok, run_loadVar_row w b _ _ xs (0, 0) _ h Try.underlying90 rfl (by rw [hz]; exact info90)]

set_option maxHeartbeats 1000000 in
theorem rlook_yes (xs : Array Value) (t s q l : Int) (r : ByteArray) (p : Bool) (su no : ByteArray) (A5 A6 : Option Addr) (n5 c5 n6 c6 : Nat) (o : Nat) (w : World) (h : isP t s)
    (ho : (t.toNat - 1) * 28 + s.toNat * 7 = o) (hs : S7 xs o l r p su no (.slice A5 n5 c5) (.slice A6 n6 c6)) :
    Calls Try.prog 72 #[.agg xs, .int .i64 t, .int .i64 s, .int .i64 q] w fun e w' =>
      e = .returned (.tuple #[.int .i64 (lkK l q), .string (lkR l r q), .int .i64 (lkE q)]) ∧ Below w.heap.size w w' := by
  subst ho
  obtain ⟨h1, h2, h3, h4⟩ := h
  generalize ho : (t.toNat - 1) * 28 + s.toNat * 7 = o at hs
  have hb := Blk.new w 90 xs
  have k0 := (hb.cell o).trans hs.c0
  have k1 := (hb.cell (o + 1)).trans hs.c1
  have k2 := (hb.cell (o + 2)).trans hs.c2
  have k3 := (hb.cell (o + 3)).trans hs.c3
  have k4 := (hb.cell (o + 4)).trans hs.c4
  have k5 := (hb.cell (o + 5)).trans hs.c5
  have k6 := (hb.cell (o + 6)).trans hs.c6
  obtain ⟨c0, c1, c2, c3, c4, c5, c6⟩ := hs
  clear hb
  go_enter Try.func72, Try.ntmps72
  go_wp2_with (first | (go_at_call 15; refine (is_yes _ _ _ (by omega) (by omega) (by omega) (by omega)).mono ?_; rintro e w' ⟨rfl, rfl⟩))
  all_goals try (go_quiet (fail); go_wp2)
  all_goals go_ret3
  all_goals refine ⟨ret3 (congrArg (Value.int .i64) ?_) (congrArg Value.string ?_) (congrArg (Value.int .i64) ?_), ?_⟩
  all_goals first | exact Below.refl _ _ | exact ((Below.refl _ _).alloc (Nat.le_refl _) _) | exact (((Below.refl _ _).alloc (Nat.le_refl _) _).alloc (by simp) _) | exact below_drewN (((Below.refl _ _).alloc (Nat.le_refl _) _).alloc (by simp) _) _ | skip
  all_goals try simp only [beq_iff_eq, beq_eq_false_iff_ne, ne_eq, Bool.or_eq_true, Bool.or_eq_false_iff, decide_eq_true_eq, decide_eq_false_iff_not] at *
  all_goals (first | unfold lkK | unfold lkR | unfold lkE)
  all_goals (repeat' split)
  all_goals first | rfl | omega

theorem blk_row {w : World} {b : Nat} {T : TypeId} {xs ys : Array Value} (h : Blk w b T xs) (hz : xs.size = ys.size) : Blk (w.setRow b ys) b T ys := by
  exact setRow_heap w b xs ys T (0, 0) h

theorem store90 {w : World} {b : Nat} {ys xs : Array Value} (h : Blk w b 90 ys) (hy : ys.size = 224) (hz : xs.size = 224) (h1 : xs.all (·.oneCell') = true) :
    (Instr.storeAt 90 (.pointer (some ⟨b, 0, none⟩)) (.agg xs)).run Try.prog w = .ok () (w.setRow b xs) := by
  simp only [Instr.storeAt, Instr.sureAddr, Sem.run_bind, Sem.run_pure, Result.andThen_ok, run_storeVar_row w b _ _ ys xs h (by rw [hz]; exact info90) (by omega) h1]

theorem wl_load90 {ops : Array Oper} {rest : List Oper} {o : Oper} {a : Act} {w : World} {Q : Exit → Act → World → Prop} (hgd : o.guard = none) (x : Operand) (ho : o.op = .load 90 x)
    (b : Nat) (hx : a.eval x = .pointer (some ⟨b, 0, none⟩)) (xs : Array Value) (hb : Blk w b 90 xs) (hz : xs.size = 224)
    (h : wpList Try.prog ops Q rest (a.put o.dst (.agg xs)) w) : wpList Try.prog ops Q (o :: rest) a w :=
  wpList_load_row hgd 90 x ho b hx _ xs (0, 0) _ hb Try.underlying90 rfl (by rw [hz]; exact info90) h

theorem wl_store90 {ops : Array Oper} {rest : List Oper} {o : Oper} {a : Act} {w : World} {Q : Exit → Act → World → Prop} (hgd : o.guard = none) (x y : Operand) (ho : o.op = .store 90 x y)
    (b : Nat) (hx : a.eval x = .pointer (some ⟨b, 0, none⟩)) (xs : Array Value) (hy : a.eval y = .agg xs) (ys : Array Value) (hb : Blk w b 90 ys) (hyz : ys.size = 224) (hz : xs.size = 224) (h1 : xs.all (·.oneCell') = true)
    (h : wpList Try.prog ops Q rest (a.put o.dst undef) (w.setRow b xs)) : wpList Try.prog ops Q (o :: rest) a w :=
  wpList_plain hgd fun _ hK => wp_store_row 90 x y ho b xs hx hy _ ys hb (by rw [hz]; exact info90) (by omega) h1 (hK _ _ h)

theorem zero90 : Try.zeroCells90.size = 224 := by kernel_rfl

theorem an_ways (l q : Int) (rp : ByteArray) : (lkE q = 1 ∧ anE l q rp = 1) ∨ (lkE q = 0 ∧ ¬ lkK l q = 0 ∧ anE l q rp = 8) ∨ (lkE q = 0 ∧ lkK l q = 0 ∧ 65536 < (rp.size : Int) ∧ anE l q rp = 2) ∨ (lkE q = 0 ∧ lkK l q = 0 ∧ (rp.size : Int) ≤ 65536 ∧ anE l q rp = 0) := by
  unfold lkE lkK anE
  repeat' split
  all_goals first | omega | simp_all | skip
  all_goals omega

set_option maxRecDepth 100000 in
set_option maxHeartbeats 1000000 in
theorem ranswer_yes (xs : Array Value) (t s q l : Int) (rp r : ByteArray) (p : Bool) (su no : ByteArray) (A5 A6 : Option Addr) (n5 c5 n6 c6 : Nat) (o : Nat) (w : World) (h : isP t s)
    (ho : (t.toNat - 1) * 28 + s.toNat * 7 = o) (hs : S7 xs o l r p su no (.slice A5 n5 c5) (.slice A6 n6 c6)) (hz : xs.size = 224) (h1 : xs.all (·.oneCell') = true) (h1' : (anA xs o l q rp).all (·.oneCell') = true) (hz' : (anA xs o l q rp).size = 224) :
    Calls Try.prog 73 #[.agg xs, .int .i64 t, .int .i64 s, .int .i64 q, .string rp] w fun e w' =>
      e = .returned (.tuple #[.agg (anA xs o l q rp), .int .i64 (anE l q rp)]) ∧ Below w.heap.size w w' := by
  have HS := Lib.hid hs
  have H := Lib.hid (And.intro h ho)
  have HZ := Lib.hid (And.intro hz h1)
  have HY := Lib.hid (And.intro hz' h1')
  obtain ⟨g1, g2, g3, g4⟩ := h
  clear hs hz h1 hz' h1'
  go_enter Try.func73, Try.ntmps73
  go_wp2_with ((with_reducible refine wl_load90 ?zz_hg ?_ ?zz_ho ?_ ?zz_hx ?_ ?zz_hb ?zz_hz ?_); (case zz_ho => exact rfl); (case zz_hb => with_reducible exact ((Blk.new w _ xs).alloc _)); (case zz_hg => exact rfl); (case zz_hx => exact rfl); (case zz_hz => exact HZ.out.1))
  refine (rlook_yes xs t s q l r p su no A5 A6 n5 c5 n6 c6 o _ H.out.1 H.out.2 HS.out).mono ?_
  rintro e w2 ⟨rfl, hb2⟩
  have hB2 : Blk w2 w.heap.size 90 xs := ((Blk.new w _ xs).alloc _).below hb2 ((Blk.new w _ xs).alloc _).lt
  have hR2 : Blk w2 (w.heap.size + 1) 90 Try.zeroCells90 := (Blk.new_at _ _ _ _ _ (by simp) rfl).below hb2 (by simp)
  have hL2 : Below w.heap.size w w2 := (((Below.refl _ _).alloc (Nat.le_refl _) _).alloc (by simp) _).trans (hb2.mono (by simp; omega))
  have k0 := (hB2.cell o).trans HS.out.c0
  have k1 := (hB2.cell (o + 1)).trans HS.out.c1
  have f0 := hB2.frozen o
  have f1 := hB2.frozen (o + 1)
  have HB2 := Lib.hid hB2
  have HR2 := Lib.hid hR2
  have HL2 := Lib.hid hL2
  clear hb2 hB2 hR2 hL2
  have fin : ∀ w3, Below w.heap.size w w3 → Blk w3 (w.heap.size + 1) 90 Try.zeroCells90 → Below w.heap.size w (w3.setRow (w.heap.size + 1) (anA xs o l q rp)) ∧ Blk (w3.setRow (w.heap.size + 1) (anA xs o l q rp)) (w.heap.size + 1) 90 (anA xs o l q rp) := fun w3 h3 h4 => ⟨below_setRow h3 (Nat.le_succ _) _, blk_row h4 (by rw [zero90, HY.out.1])⟩
  have FIN := Lib.hid fin
  clear fin
  rcases an_ways l q rp with ⟨e1, e2⟩ | ⟨e1, e3, e2⟩ | ⟨e1, e3, e4, e2⟩ | ⟨e1, e3, e4, e2⟩
  case inr.inr.inr =>
    have ea : anA xs o l q rp = (xs.setIfInBounds o (.int .i64 q)).setIfInBounds (o + 1) (.string rp) := if_pos e2
    have EA := Lib.hid ea
    clear ea
    go_wp2_with (first
      | ((with_reducible refine wl_load90 ?zz_hg ?_ ?zz_ho ?_ ?zz_hx ?_ ?zz_hb ?zz_hz ?_); (case zz_ho => exact rfl); (case zz_hb => with_reducible exact ((HB2.out.set_ _ _).set_ _ _)); (case zz_hg => exact rfl); (case zz_hx => exact rfl); (case zz_hz => rw [← EA.out]; exact HY.out.1))
      | ((with_reducible refine wl_store90 ?zz_hg ?_ ?_ ?zz_ho ?_ ?zz_hx ?_ ?zz_hy ?_ ?zz_hb ?zz_yz ?zz_hz ?zz_h1 ?_); (case zz_ho => exact rfl); (case zz_hx => exact rfl); (case zz_hy => exact rfl); (case zz_hb => refine (HR2.out.far ?_ _).far ?_ _ <;> simp); (case zz_hg => exact rfl); (case zz_yz => exact zero90); (case zz_hz => rw [← EA.out]; exact HY.out.1); (case zz_h1 => rw [← EA.out]; exact HY.out.2)))
    have hf := FIN.out ((w2.setCell ⟨w.heap.size, o, none⟩ (.int .i64 q)).setCell ⟨w.heap.size, o + 1, none⟩ (.string rp)) (below_set (below_set HL2.out (Nat.le_refl _) _ _) (Nat.le_refl _) _ _) (by refine (HR2.out.far ?_ _).far ?_ _ <;> simp)
    rw [EA.out] at hf
    refine bodyPost_ret (results_ct rfl _ _ (w.heap.size + 1) 90 _ (0, 0) _ rfl hf.2 Try.underlying90 rfl (by rw [← EA.out, HY.out.1]; exact info90)) rfl ?_
    rw [EA.out, e2]
    exact ⟨rfl, hf.1⟩
  all_goals
    have ea : anA xs o l q rp = xs := anA_no (by omega)
    have EA := Lib.hid ea
    clear ea
    go_wp2_with (first
      | ((with_reducible refine wl_load90 ?zz_hg ?_ ?zz_ho ?_ ?zz_hx ?_ ?zz_hb ?zz_hz ?_); (case zz_ho => exact rfl); (case zz_hb => with_reducible exact (HB2.out)); (case zz_hg => exact rfl); (case zz_hx => exact rfl); (case zz_hz => exact HZ.out.1))
      | ((with_reducible refine wl_store90 ?zz_hg ?_ ?_ ?zz_ho ?_ ?zz_hx ?_ ?zz_hy ?_ ?zz_hb ?zz_yz ?zz_hz ?zz_h1 ?_); (case zz_ho => exact rfl); (case zz_hx => exact rfl); (case zz_hy => exact rfl); (case zz_hb => with_reducible exact HR2.out); (case zz_hg => exact rfl); (case zz_yz => exact zero90); (case zz_hz => exact HZ.out.1); (case zz_h1 => exact HZ.out.2)))
    have hf := FIN.out w2 HL2.out HR2.out
    rw [EA.out] at hf
    refine bodyPost_ret (results_ct rfl _ _ (w.heap.size + 1) 90 _ (0, 0) _ rfl hf.2 Try.underlying90 rfl (by rw [HZ.out.1]; exact info90)) rfl ?_
    rw [EA.out, e2]
    exact ⟨rfl, hf.1⟩
end Go.Proofs.Ytgkhdpplmdkkaaa.Ds
/- Contracts of the reference's desk, which is handed by value: what Dt has not. -/
namespace Go.Proofs.Ytgkhdpplmdkkaaa.Ds
open Go.RowKit Go.Proofs.YtgkhdpplmdkkaaaW.PrintWords Go.Proofs.YtgkhdpplmdkkaaaW.PrintMore

set_option maxHeartbeats 1000000 in
theorem rlook_no (xs : Array Value) (t s q : Int) (w : World) (h : ¬ isP t s) :
    Calls Try.prog 72 #[.agg xs, .int .i64 t, .int .i64 s, .int .i64 q] w fun e w' =>
      e = .returned (.tuple #[.int .i64 0, .string ⟨#[]⟩, .int .i64 1]) ∧ Below w.heap.size w w' := by
  have H := Lib.hid h
  clear h
  go_enter Try.func72, Try.ntmps72
  go_wp2_with (go_at_call 15; refine (is_no _ _ _ H.out).mono ?_; rintro e w' ⟨rfl, rfl⟩)
  go_ret3
  exact ⟨rfl, (Below.refl _ _).alloc (Nat.le_refl _) _⟩

theorem results_cct {P : Program} {fn : Func} {p p' u : Tmp} {ty ty' : TypeId} (h : fn.results = #[.cell p ty, .cell p' ty', .tmp u]) (tmps : Array Value) (w : World) (g g' : Nat) (t t' : TypeId) (cs cs' : Array Value) (d d' : TypeDesc)
    (hp : tmps.getD p undef = .pointer (some ⟨g, 0, none⟩)) (hg : w.heap[g]? = some (.cells cs t (0, 0)))
    (hu : P.underlying ty = some d) (hd : (match d with | .struct _ | .array _ _ => true | _ => false) = true) (hi : (P.info? ty).map (·.size) = some cs.size)
    (hp' : tmps.getD p' undef = .pointer (some ⟨g', 0, none⟩)) (hg' : w.heap[g']? = some (.cells cs' t' (0, 0)))
    (hu' : P.underlying ty' = some d') (hd' : (match d' with | .struct _ | .array _ _ => true | _ => false) = true) (hi' : (P.info? ty').map (·.size) = some cs'.size) :
    (results fn tmps).run P w = .ok (.tuple #[.agg cs, .agg cs', tmps.getD u undef]) w := by
  have q : tmps[p]?.getD undef = .pointer (some ⟨g, 0, none⟩) := by simpa using hp
  have q' : tmps[p']?.getD undef = .pointer (some ⟨g', 0, none⟩) := by simpa using hp'
  simp [results, h, q, q', asAddr, run_loadVar_row w g t ty cs (0, 0) d hg hu hd hi, run_loadVar_row w g' t' ty' cs' (0, 0) d' hg' hu' hd' hi']

/-- the result's box, of a desk that is as it was -/
theorem same90 {w w3 : World} {xs : Array Value} (hz : xs.size = 224) (h3 : Below w.heap.size w w3) (h4 : Blk w3 (w.heap.size + 1) 90 Try.zeroCells90) :
    Below w.heap.size w (w3.setRow (w.heap.size + 1) xs) ∧ Blk (w3.setRow (w.heap.size + 1) xs) (w.heap.size + 1) 90 xs := ⟨below_setRow h3 (Nat.le_succ _) _, blk_row h4 (by rw [zero90, hz])⟩
theorem two90 (w : World) (xs : Array Value) : Blk ((w.alloc (.cells xs 90)).alloc (.cells Try.zeroCells90 90)) w.heap.size 90 xs ∧ Blk ((w.alloc (.cells xs 90)).alloc (.cells Try.zeroCells90 90)) (w.heap.size + 1) 90 Try.zeroCells90 ∧
    Below w.heap.size w ((w.alloc (.cells xs 90)).alloc (.cells Try.zeroCells90 90)) := ⟨(Blk.new w _ xs).alloc _, Blk.new_at _ _ _ _ _ (by simp) rfl, ((Below.refl _ _).alloc (Nat.le_refl _) _).alloc (by simp) _⟩

set_option maxRecDepth 100000 in
set_option maxHeartbeats 1000000 in
theorem ranswer_no (xs : Array Value) (t s q : Int) (rp : ByteArray) (w : World) (h : ¬ isP t s) (hz : xs.size = 224) (h1 : xs.all (·.oneCell') = true) :
    Calls Try.prog 73 #[.agg xs, .int .i64 t, .int .i64 s, .int .i64 q, .string rp] w fun e w' =>
      e = .returned (.tuple #[.agg xs, .int .i64 1]) ∧ Below w.heap.size w w' := by
  have H := Lib.hid h
  have HZ := Lib.hid (And.intro hz h1)
  have T2 := Lib.hid (two90 w xs)
  clear h hz h1
  go_enter Try.func73, Try.ntmps73
  go_wp2_with ((with_reducible refine wl_load90 ?zz_hg ?_ ?zz_ho ?_ ?zz_hx ?_ ?zz_hb ?zz_hz ?_); (case zz_ho => exact rfl); (case zz_hb => with_reducible exact (T2.out.1)); (case zz_hg => exact rfl); (case zz_hx => exact rfl); (case zz_hz => exact HZ.out.1))
  refine (rlook_no xs t s q _ H.out).mono ?_
  rintro e w2 ⟨rfl, hb2⟩
  have HB2 := Lib.hid (T2.out.1.below hb2 T2.out.1.lt)
  have HR2 := Lib.hid (T2.out.2.1.below hb2 T2.out.2.1.lt)
  have HL2 := Lib.hid (T2.out.2.2.trans (hb2.mono T2.out.2.2.size))
  clear hb2
  go_wp2_with (first
    | ((with_reducible refine wl_load90 ?zz_hg ?_ ?zz_ho ?_ ?zz_hx ?_ ?zz_hb ?zz_hz ?_); (case zz_ho => exact rfl); (case zz_hb => with_reducible exact (HB2.out)); (case zz_hg => exact rfl); (case zz_hx => exact rfl); (case zz_hz => exact HZ.out.1))
    | ((with_reducible refine wl_store90 ?zz_hg ?_ ?_ ?zz_ho ?_ ?zz_hx ?_ ?zz_hy ?_ ?zz_hb ?zz_yz ?zz_hz ?zz_h1 ?_); (case zz_ho => exact rfl); (case zz_hx => exact rfl); (case zz_hy => exact rfl); (case zz_hb => with_reducible exact HR2.out); (case zz_hg => exact rfl); (case zz_yz => exact zero90); (case zz_hz => exact HZ.out.1); (case zz_h1 => exact HZ.out.2)))
  have hf := same90 HZ.out.1 HL2.out HR2.out
  refine bodyPost_ret (results_ct rfl _ _ (w.heap.size + 1) 90 _ (0, 0) _ rfl hf.2 Try.underlying90 rfl (by rw [HZ.out.1]; exact info90)) rfl ?_
  exact ⟨rfl, hf.1⟩

set_option maxRecDepth 100000 in
set_option maxHeartbeats 1000000 in
theorem rrestore_no (xs : Array Value) (t s q : Int) (w : World) (h : ¬ isP t s) (hz : xs.size = 224) (h1 : xs.all (·.oneCell') = true) :
    Calls Try.prog 78 #[.agg xs, .int .i64 t, .int .i64 s, .int .i64 q] w fun e w' =>
      e = .returned (.tuple #[.agg xs, .int .i64 1]) ∧ Below w.heap.size w w' := by
  have H := Lib.hid h
  have HZ := Lib.hid (And.intro hz h1)
  have T2 := Lib.hid (two90 w xs)
  clear h hz h1
  go_enter Try.func78, Try.ntmps78
  go_wp2_with (first
    | (go_at_call 15; refine (is_no _ _ _ H.out).mono ?_; rintro e w' ⟨rfl, rfl⟩)
    | ((with_reducible refine wl_load90 ?zz_hg ?_ ?zz_ho ?_ ?zz_hx ?_ ?zz_hb ?zz_hz ?_); (case zz_ho => exact rfl); (case zz_hb => with_reducible exact (T2.out.1)); (case zz_hg => exact rfl); (case zz_hx => exact rfl); (case zz_hz => exact HZ.out.1))
    | ((with_reducible refine wl_store90 ?zz_hg ?_ ?_ ?zz_ho ?_ ?zz_hx ?_ ?zz_hy ?_ ?zz_hb ?zz_yz ?zz_hz ?zz_h1 ?_); (case zz_ho => exact rfl); (case zz_hx => exact rfl); (case zz_hy => exact rfl); (case zz_hb => with_reducible exact T2.out.2.1); (case zz_hg => exact rfl); (case zz_yz => exact zero90); (case zz_hz => exact HZ.out.1); (case zz_h1 => exact HZ.out.2)))
  have hf := same90 HZ.out.1 T2.out.2.2 T2.out.2.1
  refine bodyPost_ret (results_ct rfl _ _ (w.heap.size + 1) 90 _ (0, 0) _ rfl hf.2 Try.underlying90 rfl (by rw [HZ.out.1]; exact info90)) rfl ?_
  exact ⟨rfl, hf.1⟩

set_option maxRecDepth 100000 in
set_option maxHeartbeats 1000000 in
theorem rclaim_no (xs : Array Value) (t s : Int) (sum draw : ByteArray) (w : World) (h : ¬ isP t s ∨ (isP t s ∧ (sum.size < 1 ∨ 32 < sum.size))) (hz : xs.size = 224) (h1 : xs.all (·.oneCell') = true) :
    Calls Try.prog 74 #[.agg xs, .int .i64 t, .int .i64 s, .string sum, .string draw] w fun e w' =>
      e = .returned (.tuple #[.agg xs, .agg #[.string ⟨#[]⟩, .string ⟨#[]⟩, .slice none 0 0], .int .i64 1]) ∧ Below w.heap.size w w' := by
  have HZ := Lib.hid (And.intro hz h1)
  have T2 := Lib.hid (two90 w xs)
  clear hz h1
  have hX : Blk ((((w.alloc (.cells xs 90)).alloc (.cells Try.zeroCells90 90)).alloc (.cells #[.string ⟨#[]⟩, .string ⟨#[]⟩, .slice none 0 0] 38)).setRow (w.heap.size + 1) xs) (w.heap.size + 1 + 1) 38 #[.string ⟨#[]⟩, .string ⟨#[]⟩, .slice none 0 0] :=
    (setRow_other _ _ _ _ (by omega)).trans (Blk.new_at _ _ _ _ _ (by simp) rfl)
  have k0 := hX.cell 0
  have k1 := hX.cell 1
  have k2 := hX.cell 2
  have f0 := hX.frozen 0
  have f1 := hX.frozen 1
  have f2 := hX.frozen 2
  have HX := Lib.hid hX
  clear hX
  have hf := same90 HZ.out.1 (T2.out.2.2.alloc T2.out.2.2.size (.cells #[.string ⟨#[]⟩, .string ⟨#[]⟩, .slice none 0 0] 38)) (T2.out.2.1.alloc _)
  have HF := Lib.hid hf
  clear hf
  have fin : ∀ a : Act, a.tmps.getD 10 undef = .pointer (some ⟨w.heap.size + 1, 0, none⟩) → a.tmps.getD 11 undef = .pointer (some ⟨w.heap.size + 1 + 1, 0, none⟩) → a.tmps.getD 12 undef = .int .i64 1 → a.defers = [] →
      bodyPost Try.prog Try.f74 (fun e w' => e = .returned (.tuple #[.agg xs, .agg #[.string ⟨#[]⟩, .string ⟨#[]⟩, .slice none 0 0], .int .i64 1]) ∧ Below w.heap.size w w') Exit.ret a
        (((((((w.alloc (.cells xs 90)).alloc (.cells Try.zeroCells90 90)).alloc (.cells #[.string ⟨#[]⟩, .string ⟨#[]⟩, .slice none 0 0] 38)).setRow (w.heap.size + 1) xs).setCell ⟨w.heap.size + 1 + 1, 0, none⟩ (.string ⟨#[]⟩)).setCell ⟨w.heap.size + 1 + 1, 1, none⟩ (.string ⟨#[]⟩)).setCell ⟨w.heap.size + 1 + 1, 2, none⟩ (.slice none 0 0)) := by
    intro a q0 q1 q2 q3
    refine bodyPost_ret (results_cct rfl _ _ (w.heap.size + 1) (w.heap.size + 1 + 1) 90 38 _ #[.string ⟨#[]⟩, .string ⟨#[]⟩, .slice none 0 0] _ _ q0 ((((HF.out.2).far (by simp) _).far (by simp) _).far (by simp) _) Try.underlying90 rfl (by rw [HZ.out.1]; exact info90) q1 (((HX.out.set_ 0 _).set_ 1 _).set_ 2 _) Try.underlying38 rfl (by kernel_rfl)) q3 ?_
    rw [q2]
    exact ⟨rfl, below_set (below_set (below_set HF.out.1 (by omega) _ _) (by omega) _ _) (by omega) _ _⟩
  have FIN := Lib.hid fin
  clear fin
  rcases h with h | ⟨⟨g1, g2, g3, g4⟩, h | h⟩
  · have H := Lib.hid h
    clear h
    go_enter Try.func74, Try.ntmps74
    go_wp2_with (first
      | (go_at_call 15; refine (is_no _ _ _ H.out).mono ?_; rintro e w' ⟨rfl, rfl⟩)
      | ((with_reducible refine wl_load90 ?zz_hg ?_ ?zz_ho ?_ ?zz_hx ?_ ?zz_hb ?zz_hz ?_); (case zz_ho => exact rfl); (case zz_hb => with_reducible exact (T2.out.1.alloc _)); (case zz_hg => exact rfl); (case zz_hx => exact rfl); (case zz_hz => exact HZ.out.1))
      | ((with_reducible refine wl_store90 ?zz_hg ?_ ?_ ?zz_ho ?_ ?zz_hx ?_ ?zz_hy ?_ ?zz_hb ?zz_yz ?zz_hz ?zz_h1 ?_); (case zz_ho => exact rfl); (case zz_hx => exact rfl); (case zz_hy => exact rfl); (case zz_hb => with_reducible exact T2.out.2.1.alloc _); (case zz_hg => exact rfl); (case zz_yz => exact zero90); (case zz_hz => exact HZ.out.1); (case zz_h1 => exact HZ.out.2)))
    exact FIN.out _ rfl rfl rfl rfl
  · go_enter Try.func74, Try.ntmps74
    go_wp2_with (first
      | (go_at_call 15; refine (is_yes _ _ _ g1 g2 g3 g4).mono ?_; rintro e w' ⟨rfl, rfl⟩)
      | ((with_reducible refine wl_load90 ?zz_hg ?_ ?zz_ho ?_ ?zz_hx ?_ ?zz_hb ?zz_hz ?_); (case zz_ho => exact rfl); (case zz_hb => with_reducible exact (T2.out.1.alloc _)); (case zz_hg => exact rfl); (case zz_hx => exact rfl); (case zz_hz => exact HZ.out.1))
      | ((with_reducible refine wl_store90 ?zz_hg ?_ ?_ ?zz_ho ?_ ?zz_hx ?_ ?zz_hy ?_ ?zz_hb ?zz_yz ?zz_hz ?zz_h1 ?_); (case zz_ho => exact rfl); (case zz_hx => exact rfl); (case zz_hy => exact rfl); (case zz_hb => with_reducible exact T2.out.2.1.alloc _); (case zz_hg => exact rfl); (case zz_yz => exact zero90); (case zz_hz => exact HZ.out.1); (case zz_h1 => exact HZ.out.2)))
    exact FIN.out _ rfl rfl rfl rfl
  · go_enter Try.func74, Try.ntmps74
    go_wp2_with (first
      | (go_at_call 15; refine (is_yes _ _ _ g1 g2 g3 g4).mono ?_; rintro e w' ⟨rfl, rfl⟩)
      | ((with_reducible refine wl_load90 ?zz_hg ?_ ?zz_ho ?_ ?zz_hx ?_ ?zz_hb ?zz_hz ?_); (case zz_ho => exact rfl); (case zz_hb => with_reducible exact (T2.out.1.alloc _)); (case zz_hg => exact rfl); (case zz_hx => exact rfl); (case zz_hz => exact HZ.out.1))
      | ((with_reducible refine wl_store90 ?zz_hg ?_ ?_ ?zz_ho ?_ ?zz_hx ?_ ?zz_hy ?_ ?zz_hb ?zz_yz ?zz_hz ?zz_h1 ?_); (case zz_ho => exact rfl); (case zz_hx => exact rfl); (case zz_hy => exact rfl); (case zz_hb => with_reducible exact T2.out.2.1.alloc _); (case zz_hg => exact rfl); (case zz_yz => exact zero90); (case zz_hz => exact HZ.out.1); (case zz_h1 => exact HZ.out.2)))
    exact FIN.out _ rfl rfl rfl rfl

end Go.Proofs.Ytgkhdpplmdkkaaa.Ds
