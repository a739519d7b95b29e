/- Contracts of the desk's challenges and tickets: Claim, Prove, Spend. -/
import Derived.Test.YtgkhdpplmdkkaaaMd
import Derived.Test.YtgkhdpplmdkkaaaHDeskPlaysx6
import Derived.Test.YtgkhdpplmdkkaaaHDeskPlaysx7
namespace Go.Proofs.Ytgkhdpplmdkkaaa.Dp
open Go.RowKit Go.Proofs.YtgkhdpplmdkkaaaH.HDeskPlays Go.Proofs.YtgkhdpplmdkkaaaW.PrintWords Go.Proofs.YtgkhdpplmdkkaaaW.PrintMore

theorem find_at (g : Nat) (t s : Int) (o : Nat) (w : World) (h1 : 1 ≤ t) (h2 : t ≤ 8) (h3 : 0 ≤ s) (h4 : s ≤ 3) (ho : (t.toNat - 1) * 28 + s.toNat * 7 = o) :
    Calls Try.prog 51 #[.pointer (some ⟨g, 0, none⟩), .int .i64 t, .int .i64 s] w fun e w' =>
      e = .returned (.pointer (some ⟨g, o, none⟩)) ∧ w = w' := by
  subst ho
  exact find_yes g t s w h1 h2 h3 h4

/-- what a claim writes into the session at o -/
def clA (cs : Array Value) (o : Nat) (su no : ByteArray) (v : Value) : Array Value := (((cs.setIfInBounds (o + 2) (.bool true)).setIfInBounds (o + 3) (.string su)).setIfInBounds (o + 4) (.string no)).setIfInBounds (o + 5) v

theorem keep_of_below {w w' : World} {g : Nat} (h : Below w.heap.size w w') : KeepBut w w' g none := KeepBut.of_below h g none

theorem below_allocW (w : World) (o : Obj) : Below w.heap.size w (w.alloc o) := (Below.refl _ _).alloc (Nat.le_refl _) _

set_option maxHeartbeats 1000000 in
theorem claim_no (g : Nat) (t s : Int) (sum draw : ByteArray) (o : Nat) (w : World) (h1 : 1 ≤ t) (h2 : t ≤ 8) (h3 : 0 ≤ s) (h4 : s ≤ 3) (ho : (t.toNat - 1) * 28 + s.toNat * 7 = o)
    (hs : sum.size < 1 ∨ 32 < sum.size) :
    Calls Try.prog 37 #[.pointer (some ⟨g, 0, none⟩), .int .i64 t, .int .i64 s, .string sum, .string draw] w fun e w' =>
      e = .returned (.tuple #[.agg #[.string ⟨#[]⟩, .string ⟨#[]⟩, .slice none 0 0], .int .i64 1]) ∧ Below w.heap.size w w' := by
  rcases hs with hs | hs
  all_goals
    go_enter Try.func37, Try.ntmps37
    go_wp2_with (go_at_call 51; refine (find_at _ _ _ o _ (by omega) (by omega) (by omega) (by omega) ho).mono ?_; rintro e w' ⟨rfl, rfl⟩)
    refine bodyPost_ret (results_ct rfl _ _ w.heap.size 36 #[.string ⟨#[]⟩, .string ⟨#[]⟩, .slice none 0 0] (0, 0) _ rfl (Blk.new w 36 _) Try.underlying36 rfl (by kernel_rfl)) rfl ?_
  all_goals exact ⟨rfl, below_allocW _ _⟩

set_option maxHeartbeats 1000000 in
theorem claim_yes (g : Nat) (cs : Array Value) (t s : Int) (sum draw : ByteArray) (o k : Nat) (su no : ByteArray) (sl : List S42) (w : World) (h1 : 1 ≤ t) (h2 : t ≤ 8) (h3 : 0 ≤ s) (h4 : s ≤ 3) (ho : (t.toNat - 1) * 28 + s.toNat * 7 = o)
    (hs1 : 1 ≤ sum.size) (hs2 : sum.size ≤ 32) (hD : desk_Draw.f k sum draw = some (su, no, sl)) (hC : desk_copied.f su no sl = some (su, no, sl)) (hb : Blk w g 106 cs) (hz : o + 6 < cs.size) :
    Calls Try.prog 37 #[.pointer (some ⟨g, 0, none⟩), .int .i64 t, .int .i64 s, .string sum, .string draw] w fun e w' =>
      ∃ v1 v2, e = .returned (.tuple #[.agg #[.string su, .string no, v2], .int .i64 0]) ∧ KeepBut w w' g none ∧ Below g w w' ∧ Blk w' g 106 (clA cs o su no v1) ∧
        Kd.R k42 42 w' w.heap.size (fun _ => True) v1 sl ∧ Kd.R k42 42 w' w.heap.size (fun _ => True) v2 sl := by
  have HD := Lib.hid hD
  have HC := Lib.hid hC
  have HB := Lib.hid hb
  have hgl : g ≠ w.heap.size := Nat.ne_of_lt hb.lt
  have hgl' : w.heap.size ≠ g := fun h => hgl h.symm
  clear hD hC hb
  go_enter Try.func37, Try.ntmps37
  go_wp2_with (go_at_call 51; refine (find_at _ _ _ o _ (by omega) (by omega) (by omega) (by omega) ho).mono ?_; rintro e w' ⟨rfl, rfl⟩)
  refine (desk_Draw.calls k sum draw su no sl _ HD.out).mono ?_
  rintro e w1 ⟨v1, rfl, hr1, hb1⟩
  have hW1 : Below w.heap.size w w1 := (below_allocW w _).trans (hb1.mono (below_allocW w _).size)
  have hB1 : Blk w1 g 106 cs := HB.out.below hW1 HB.out.lt
  have hx : Blk w1 w.heap.size 36 #[.string ⟨#[]⟩, .string ⟨#[]⟩, .slice none 0 0] := (Blk.new w 36 #[.string ⟨#[]⟩, .string ⟨#[]⟩, .slice none 0 0]).below hb1 (Blk.new w 36 _).lt
  have c0 := hx.cell 0
  have c1 := hx.cell 1
  have c2 := hx.cell 2
  have f2 := hB1.frozen (o + 2)
  have f3 := hB1.frozen (o + 3)
  have f4 := hB1.frozen (o + 4)
  have f5 := hB1.frozen (o + 5)
  obtain ⟨e2, he2⟩ : ∃ v, w1.cell? ⟨g, o + 2, none⟩ = some v := ⟨_, (hB1.cell _).trans (Array.getElem?_eq_getElem (by omega))⟩
  obtain ⟨e3, he3⟩ : ∃ v, w1.cell? ⟨g, o + 3, none⟩ = some v := ⟨_, (hB1.cell _).trans (Array.getElem?_eq_getElem (by omega))⟩
  obtain ⟨e4, he4⟩ : ∃ v, w1.cell? ⟨g, o + 4, none⟩ = some v := ⟨_, (hB1.cell _).trans (Array.getElem?_eq_getElem (by omega))⟩
  obtain ⟨e5, he5⟩ : ∃ v, w1.cell? ⟨g, o + 5, none⟩ = some v := ⟨_, (hB1.cell _).trans (Array.getElem?_eq_getElem (by omega))⟩
  obtain ⟨A1, n1, rfl⟩ := Kd.R_slice hr1
  have HW1 := Lib.hid hW1
  have HB1 := Lib.hid hB1
  have HX := Lib.hid hx
  have HR1 := Lib.hid hr1
  clear hW1 hB1 hx hr1 hb1
  go_wp2_with fail
  generalize hw2 : (((w1.setCell ⟨g, o + 2, none⟩ (.bool true)).setCell ⟨g, o + 3, none⟩ (.string su)).setCell ⟨g, o + 3 + 1, none⟩ (.string no)).setCell ⟨g, o + 3 + 2, none⟩ (.slice A1 sl.length n1) = w2
  have hk2 : KeepBut w1 w2 g none := by rw [← hw2]; exact ((((KeepBut.refl _ _ _).set_ _ _).set_ _ _).set_ _ _).set_ _ _
  have hB2 : Blk w2 g 106 (clA cs o su no (.slice A1 sl.length n1)) := by rw [← hw2]; exact (((HB1.out.set_ _ _).set_ _ _).set_ _ _).set_ _ _
  have hX2 : Blk w2 w.heap.size 36 #[.string ⟨#[]⟩, .string ⟨#[]⟩, .slice none 0 0] := by rw [← hw2]; exact (((HX.out.far hgl' _).far hgl' _).far hgl' _).far hgl' _
  have hr2 : Kd.R k42 42 w2 w.heap.size (fun _ => True) (.slice A1 sl.length n1) sl := Kd.R_mono (Kd.R_keep (Kd.R_types (Kd.R_lower HR1.out (below_allocW w _).size) HB1.out (by decide)) hk2 (fun _ h => h.2)) (fun _ _ => trivial)
  have HK2 := Lib.hid (((keep_of_below HW1.out : KeepBut w w1 g none)).trans hk2 (.inl rfl))
  have hgw : g ≤ w.heap.size := Nat.le_of_lt HB.out.lt
  have HG2 := Lib.hid (show Below g w w2 by rw [← hw2]; exact below_set (below_set (below_set (below_set (HW1.out.mono hgw) (Nat.le_refl _) _ _) (Nat.le_refl _) _ _) (Nat.le_refl _) _ _) (Nat.le_refl _) _ _)
  have HB2 := Lib.hid hB2
  have HX2 := Lib.hid hX2
  have HR2 := Lib.hid hr2
  clear HW1 HB1 HX HR1 hw2 hk2 hB2 hX2 hr2 c0 c1 c2 f2 f3 f4 f5 he2 he3 he4 he5
  refine (desk_copied.calls su no A1 n1 sl su no sl _ (Kd.R_reads' HR2.out).2.2 (Kd.R_reads' HR2.out).2.1 HC.out).mono ?_
  rintro e w3 ⟨v2, rfl, hr3, hb3⟩
  obtain ⟨A2, n2, rfl⟩ := Kd.R_slice hr3
  have hB3 := HB2.out.below hb3 HB2.out.lt
  have hX3 := HX2.out.below hb3 HX2.out.lt
  have c0 := hX3.cell 0
  have c1 := hX3.cell 1
  have c2 := hX3.cell 2
  have g0 := hX3.frozen 0
  have g1 := hX3.frozen 1
  have g2 := hX3.frozen 2
  have HB3 := Lib.hid hB3
  have HX3 := Lib.hid hX3
  have HK3 := Lib.hid (HK2.out.trans (keep_of_below hb3 : KeepBut w2 w3 g none) (.inl rfl))
  have HG3 := Lib.hid (HG2.out.trans (hb3.mono (Nat.le_trans hgw HK2.out.1)))
  have HR3 := Lib.hid (Kd.R_lower hr3 HK2.out.1)
  have HR3' := Lib.hid (Kd.R_below HR2.out hb3)
  clear hB3 hX3 hr3 hb3 HB2 HX2 HR2 HK2
  go_wp2_with fail
  refine bodyPost_ret (results_ct rfl _ _ w.heap.size 36 #[.string su, .string no, .slice A2 sl.length n2] (0, 0) _ rfl (((HX3.out.set_ 0 _).set_ 1 _).set_ 2 _) Try.underlying36 rfl (by kernel_rfl)) rfl ?_
  have hk : KeepBut w3 (((w3.setCell ⟨w.heap.size, 0, none⟩ (.string su)).setCell ⟨w.heap.size, 1, none⟩ (.string no)).setCell ⟨w.heap.size, 2, none⟩ (.slice A2 sl.length n2)) w.heap.size none := (((KeepBut.refl _ _ _).set_ _ _).set_ _ _).set_ _ _
  refine ⟨_, _, rfl, ?_, below_set (below_set (below_set HG3.out hgw _ _) hgw _ _) hgw _ _, ((HB3.out.far hgl _).far hgl _).far hgl _, ?_, ?_⟩
  · refine ⟨Nat.le_trans HK3.out.1 hk.1, fun i hi hne _ => ?_⟩
    rw [hk.2 i (Nat.lt_of_lt_of_le hi HK3.out.1) (Nat.ne_of_lt hi) (by simp)]
    exact HK3.out.2 i hi hne (by simp)
  · exact Kd.R_mono (Kd.R_keep (Kd.R_types HR3'.out HX3.out (by decide)) hk (fun _ h => h.2)) (fun _ _ => trivial)
  · exact Kd.R_mono (Kd.R_keep (Kd.R_types HR3.out HX3.out (by decide)) hk (fun _ h => h.2)) (fun _ _ => trivial)

/-- what a prove writes into the session at o first -/
def clB (cs : Array Value) (o : Nat) : Array Value := (((cs.setIfInBounds (o + 2) (.bool false)).setIfInBounds (o + 3) (.string ⟨#[]⟩)).setIfInBounds (o + 4) (.string ⟨#[]⟩)).setIfInBounds (o + 5) (.slice none 0 0)

theorem clB_six (cs : Array Value) (o : Nat) : (clB cs o)[o + 6]? = cs[o + 6]? := by
  unfold clB
  rw [Array.getElem?_setIfInBounds_ne (by omega), Array.getElem?_setIfInBounds_ne (by omega), Array.getElem?_setIfInBounds_ne (by omega), Array.getElem?_setIfInBounds_ne (by omega)]

set_option maxHeartbeats 1000000 in
/-- no challenge is open -/
theorem prove_shut (g : Nat) (cs : Array Value) (t s : Int) (o : Nat) (answer : ByteArray) (A3 A4 : Option Addr) (n c3 c4 : Nat) (w : World) (h1 : 1 ≤ t) (h2 : t ≤ 8) (h3 : 0 ≤ s) (h4 : s ≤ 3) (ho : (t.toNat - 1) * 28 + s.toNat * 7 = o)
    (hb : Blk w g 106 cs) (hop : cs[o + 2]? = some (.bool false)) (_hn : n ≤ 9223372036854775807) :
    Calls Try.prog 38 #[.pointer (some ⟨g, 0, none⟩), .int .i64 t, .int .i64 s, .string answer, .slice A3 n c3, .slice A4 n c4] w fun e w' =>
      e = .returned (.tuple #[.agg #[.string ⟨#[]⟩, .int .i64 0], .int .i64 6]) ∧ Below w.heap.size w w' := by
  have HB := Lib.hid hb
  have hgl : g ≠ w.heap.size := Nat.ne_of_lt hb.lt
  have k2 := (hb.cell (o + 2)).trans hop
  have hlt := hb.lt
  clear hb
  go_enter Try.func38, Try.ntmps38
  go_wp2_with (go_at_call 51; refine (find_at _ _ _ o _ (by omega) (by omega) (by omega) (by omega) ho).mono ?_; rintro e w' ⟨rfl, rfl⟩)
  refine bodyPost_ret (results_ct rfl _ _ w.heap.size 74 #[.string ⟨#[]⟩, .int .i64 0] (0, 0) _ rfl (Blk.new w 74 _) Try.underlying74 rfl (by kernel_rfl)) rfl ?_
  exact ⟨rfl, below_allocW _ _⟩

set_option maxHeartbeats 1000000 in
theorem spend_no (g : Nat) (cs : Array Value) (t s : Int) (o : Nat) (w : World) (h1 : 1 ≤ t) (h2 : t ≤ 8) (h3 : 0 ≤ s) (h4 : s ≤ 3) (ho : (t.toNat - 1) * 28 + s.toNat * 7 = o)
    (hb : Blk w g 106 cs) (htk : cs[o + 6]? = some (.slice none 0 0)) :
    Calls Try.prog 40 #[.pointer (some ⟨g, 0, none⟩), .int .i64 t, .int .i64 s] w fun e w' =>
      e = .returned (.tuple #[.slice none 0 0, .int .i64 6]) ∧ Below w.heap.size w w' := by
  have k2 := (hb.cell (o + 6)).trans htk
  clear hb
  go_enter Try.func40, Try.ntmps40
  go_wp2_with (go_at_call 51; refine (find_at _ _ _ o _ (by omega) (by omega) (by omega) (by omega) ho).mono ?_; rintro e w' ⟨rfl, rfl⟩)
  go_ret2
  exact ⟨rfl, by first | exact Below.refl _ _ | exact below_drewN (Below.refl _ _) _⟩

set_option maxHeartbeats 1000000 in
theorem spend_yes (g : Nat) (cs : Array Value) (t s : Int) (o n c : Nat) (A : Option Addr) (w : World) (h1 : 1 ≤ t) (h2 : t ≤ 8) (h3 : 0 ≤ s) (h4 : s ≤ 3) (ho : (t.toNat - 1) * 28 + s.toNat * 7 = o)
    (hb : Blk w g 106 cs) (htk : cs[o + 6]? = some (.slice A n c)) (hn : 0 < n) (hn2 : n ≤ 9223372036854775807) :
    Calls Try.prog 40 #[.pointer (some ⟨g, 0, none⟩), .int .i64 t, .int .i64 s] w fun e w' =>
      e = .returned (.tuple #[.slice A n c, .int .i64 0]) ∧ KeepBut w w' g none ∧ Below g w w' ∧ Blk w' g 106 (cs.setIfInBounds (o + 6) (.slice none 0 0)) := by
  have HB := Lib.hid hb
  have k2 := (hb.cell (o + 6)).trans htk
  have f2 := hb.frozen (o + 6)
  have hlt := hb.lt
  have hn0 : ¬ ((n : Int) = 0) := by omega
  clear hb
  go_enter Try.func40, Try.ntmps40
  go_wp2_with (go_at_call 51; refine (find_at _ _ _ o _ (by omega) (by omega) (by omega) (by omega) ho).mono ?_; rintro e w' ⟨rfl, rfl⟩)
  go_ret2
  refine ⟨rfl, ?_, ?_, ?_⟩
  rotate_left
  · first | exact below_set (Below.refl _ _) (Nat.le_refl _) _ _ | exact below_set (below_drewN (Below.refl _ _) _) (Nat.le_refl _) _ _
  rotate_left
  · first | exact (KeepBut.refl _ _ _).set_ _ _ | exact ((KeepBut.of_below (below_drewN (Below.refl _ _) _) _ _)).set_ _ _
  · first | exact HB.out.set_ _ _ | exact (HB.out.drewN _).set_ _ _

set_option maxHeartbeats 4000000 in
/-- a challenge is open, no ticket is there, and the j-th content is the first whose proof is the answer -/
theorem prove_yes (g : Nat) (cs : Array Value) (t s : Int) (o : Nat) (answer su no : ByteArray) (sl : List S42) (A1 : Option Addr) (n1 : Nat) (xs : List ByteArray) (A4 : Option Addr) (c4 : Nat) (ys : List S74) (A3 : Option Addr) (c3 : Nat) (j : Nat) (pf : ByteArray → ByteArray) (w : World)
    (h1 : 1 ≤ t) (h2 : t ≤ 8) (h3 : 0 ≤ s) (h4 : s ≤ 3) (ho : (t.toNat - 1) * 28 + s.toNat * 7 = o)
    (hb : Blk w g 106 cs) (k2 : cs[o + 2]? = some (.bool true)) (k3 : cs[o + 3]? = some (.string su)) (k4 : cs[o + 4]? = some (.string no)) (k5 : cs[o + 5]? = some (.slice A1 sl.length n1)) (k6 : cs[o + 6]? = some (.slice none 0 0))
    (hs1 : sl.length ≤ n1) (hsb : ∀ W', KeepBut w W' g none → Kd.C k42 W' A1 sl.length sl)
    (hx : ∀ W', KeepBut w W' g none → Kd.C Kd.string W' A4 xs.length xs) (hy : ∀ W', KeepBut w W' g none → Kd.C k74 W' A3 ys.length ys) (hl : ys.length = xs.length) (hlen : xs.length ≤ 1000)
    (hp : ∀ x ∈ xs, ∃ k, desk_Proof.f k su no sl x = some (pf x)) (hj : j < xs.length) (hja : (pf (xs.getD j ⟨#[]⟩)).toList = answer.toList) (hjb : ∀ i, i < j → (pf (xs.getD i ⟨#[]⟩)).toList ≠ answer.toList) :
    Calls Try.prog 38 #[.pointer (some ⟨g, 0, none⟩), .int .i64 t, .int .i64 s, .string answer, .slice A3 ys.length c3, .slice A4 xs.length c4] w fun e w' =>
      e = .returned (.tuple #[.agg #[.string (ys.getD j z74).f0, .int .i64 (ys.getD j z74).f1], .int .i64 0]) ∧ KeepBut w w' g none ∧ Below g w w' ∧
        ∃ v, Blk w' g 106 ((clB cs o).setIfInBounds (o + 6) v) ∧ Kd.R k74 74 w' w.heap.size (fun _ => True) v [ys.getD j z74] := by
  have HB := Lib.hid hb
  have q2 := (hb.cell (o + 2)).trans k2
  have q3 := (hb.cell (o + 3)).trans k3
  have q4 := (hb.cell (o + 4)).trans k4
  have q5 := (hb.cell (o + 5)).trans k5
  have q6 := (hb.cell (o + 6)).trans k6
  have f2 := hb.frozen (o + 2)
  have f3 := hb.frozen (o + 3)
  have f4 := hb.frozen (o + 4)
  have f5 := hb.frozen (o + 5)
  have f6 := hb.frozen (o + 6)
  have hlt := hb.lt
  have HSB := Lib.hid hsb
  have HX := Lib.hid hx
  have HY := Lib.hid hy
  have HP := Lib.hid hp
  have HJA := Lib.hid hja
  have HJB := Lib.hid hjb
  have HK := Lib.hid (And.intro k2 (And.intro k3 (And.intro k4 (And.intro k5 k6))))
  clear hb hsb hx hy hp hja hjb k2 k3 k4 k5 k6
  go_enter Try.func38, Try.ntmps38
  go_wp2_with (go_at_call 51; refine (find_at _ _ _ o _ (by omega) (by omega) (by omega) (by omega) ho).mono ?_; rintro e w' ⟨rfl, rfl⟩)
  generalize hw2 : ((((((w.setCell ⟨g, o + 2, none⟩ (.bool false)).setCell ⟨g, o + 3, none⟩ (.string ⟨#[]⟩)).setCell ⟨g, o + 3 + 1, none⟩ (.string ⟨#[]⟩)).setCell ⟨g, o + 3 + 2, none⟩ (.slice none 0 0)).alloc (.cells #[.string ⟨#[]⟩, .int .i64 0] 74)).alloc (.cells #[.string su, .string no, .slice A1 sl.length n1] 36)) = w2
  have hkw : KeepBut w w2 g none := by
    rw [← hw2]
    exact keep_alloc (keep_alloc (((((KeepBut.refl _ _ _).set_ _ _).set_ _ _).set_ _ _).set_ _ _) _) _
  have hB2 : Blk w2 g 106 (clB cs o) := by rw [← hw2]; exact (((((HB.out.set_ _ _).set_ _ _).set_ _ _).set_ _ _).alloc _).alloc _
  have hR2 : Blk w2 w.heap.size 74 #[.string ⟨#[]⟩, .int .i64 0] := by rw [← hw2]; exact (Blk.new_at _ _ _ _ _ (by simp) rfl).alloc _
  have hC2 : Blk w2 (w.heap.size + 1) 36 #[.string su, .string no, .slice A1 sl.length n1] := by rw [← hw2]; exact Blk.new_at _ _ _ _ _ (by simp) rfl
  have hgw : g ≤ w.heap.size := Nat.le_of_lt hlt
  have HG2 := Lib.hid (show Below g w w2 by rw [← hw2]; exact ((below_set (below_set (below_set (below_set (Below.refl _ _) (Nat.le_refl _) _ _) (Nat.le_refl _) _ _) (Nat.le_refl _) _ _) (Nat.le_refl _) _ _).alloc (by simpa using hgw) _).alloc (by simp; omega) _)
  have HKW := Lib.hid hkw
  have HB2 := Lib.hid hB2
  have HR2 := Lib.hid hR2
  have HC2 := Lib.hid hC2
  clear hw2 hkw hB2 hR2 hC2 q2 q3 q4 q5 q6 f2 f3 f4 f5 f6 HB
  go_loopw [51] (fun i wr => ∃ m : Nat, i = .int .i64 m ∧ m ≤ j ∧ Below w2.heap.size w2 wr) (fun i _ => j - (intOf i).toNat)
  case atStart => exact ⟨0, rfl, by omega, Below.refl _ _⟩
  case round =>
    obtain ⟨m, rfl, hmj, hwr⟩ := hrel
    have hkr : KeepBut w wr g none := HKW.out.trans (keep_of_below hwr) (.inl rfl)
    obtain ⟨ad, rfl, hxc⟩ := Kd.at_string (HX.out wr hkr) (m : Int) (by omega) (by omega)
    simp only [Int.toNat_natCast] at hxc
    generalize hxv : rdOf ByteArray.empty xs (m : Int) = x at hxc
    have hxm : x = xs.getD m ⟨#[]⟩ := by rw [← hxv]; rfl
    have hmem : x ∈ xs := by
      rw [hxm, List.getD_eq_getElem?_getD, List.getElem?_eq_getElem (by omega)]
      exact List.getElem_mem _
    obtain ⟨k, hp⟩ := HP.out x hmem
    have hC := HC2.out.below hwr HC2.out.lt
    have d0 := hC.cell 0
    have d1 := hC.cell 1
    have d2 := hC.cell 2
    have hmx : (m : Int) < xs.length := by omega
    have HPx := Lib.hid hp
    have HWR := Lib.hid hwr
    have HKR := Lib.hid hkr
    have HXM := Lib.hid hxm
    clear hp hmem hxv hwr hkr hC hxm
    go_wp2_with fail
    refine (desk_Proof.calls k su no A1 n1 sl x (pf x) _ (HSB.out _ HKR.out) hs1 HPx.out).mono ?_
    rintro e w4 ⟨rfl, hb4⟩
    have HW4 := Lib.hid (HWR.out.trans (hb4.mono HWR.out.size))
    clear hb4
    by_cases hmj2 : m = j
    case neg =>
      have hne : (pf x).toList ≠ answer.toList := by rw [HXM.out]; exact HJB.out m (by omega)
      have hne0 : ((pf x).toList == answer.toList) = false := beq_eq_false_iff_ne.mpr hne
      have hne1 : ((pf x).toList != answer.toList) = true := bne_iff_ne.mpr hne
      clear hne
      go_wp2
      exact ⟨⟨m + 1, by go_num, by omega, HW4.out⟩, by simp [intOf]; omega⟩
    subst hmj2
    have he : (pf x).toList = answer.toList := by rw [HXM.out]; exact HJA.out
    have he0 : ((pf x).toList == answer.toList) = true := beq_iff_eq.mpr he
    have he1 : ((pf x).toList != answer.toList) = false := bne_eq_false_iff_eq.mpr he
    clear he
    have hB4 := HB2.out.below HW4.out HB2.out.lt
    have hR4 := HR2.out.below HW4.out HR2.out.lt
    have q6 : w4.cell? ⟨g, o + 6, none⟩ = some (.slice none 0 0) := by
      rw [hB4.cell, clB_six]
      exact HK.out.2.2.2.2
    have f6 := hB4.frozen (o + 6)
    have hlt4 := hB4.lt
    obtain ⟨ad3, rfl, hy0, hy1⟩ := at_T74 (HY.out w4 (HKW.out.trans (keep_of_below HW4.out) (.inl rfl))) (m : Int) (by omega) (by omega)
    simp only [Int.toNat_natCast] at hy0 hy1
    have HB4 := Lib.hid hB4
    have HR4 := Lib.hid hR4
    clear hB4 hR4
    have hmy : (m : Int) < ys.length := by omega
    go_wp2_with fail
    go_region_law (refine Kd.R_append_step k74 (w0 := w4.drew) w4.drew.heap.size (by rfl) (.tmp 72) (.tmp 77) 77 74 (.agg #[.string ⟨#[]⟩, .int .i64 0]) 24 rfl Try.underlying77 info74 rfl (by decide) (by decide) (.slice none 0 0) [] (rd_T74 ys (m : Int)) [.string (rd_T74 ys (m : Int)).f0, .int .i64 (rd_T74 ys (m : Int)).f1] (fun _ => True) (fun _ => False) (by rfl) (by rfl) (k74_mkM _ _ _ _) (fun _ h => h.elim) (fun _ _ => trivial) (Kd.R_nil _ _ _ _ _) (Below.refl _ _) (Nat.le_refl _) (by decide) ?_; intro v5 w5 hr5 hb5 hg5 hat5; obtain ⟨A5, c5, rfl⟩ := Kd.R_slice hr5; have hB5 : Blk w5 g 106 (clB cs o) := (HB4.out.drew).below hb5 HB4.out.lt; have hR5 : Blk w5 w.heap.size 74 #[.string ⟨#[]⟩, .int .i64 0] := (HR4.out.drew).below hb5 HR4.out.lt; have p6 := hB5.frozen (o + 6); have q6' := hb5.cell (p := ⟨g, o + 6, none⟩) HB4.out.lt; replace q6' := q6'.trans q6; have HB5 := Lib.hid hB5; have HR5 := Lib.hid hR5; have HO5 := Lib.hid hr5; have HL5 := Lib.hid hb5; clear hB5 hR5 hr5 hb5 hg5 hat5 hy0 hy1 q6 f6)
    all_goals
      refine abs_then ?_
      intro w6 hw6
      have hgs : w.heap.size ≠ g := fun h => by omega
      have hB6 : Blk w6 g 106 ((clB cs o).setIfInBounds (o + 6) (.slice A5 1 c5)) := by rw [hw6]; exact HB5.out.set_ _ _
      have hR6 : Blk w6 w.heap.size 74 #[.string ⟨#[]⟩, .int .i64 0] := by rw [hw6]; exact HR5.out.far hgs _
      have hlR : w.heap.size < w4.heap.size := HR4.out.lt
      have hO6 : Kd.R k74 74 w6 w.heap.size (fun k_ => k_ ≠ w.heap.size) (.slice A5 1 c5) [rd_T74 ys (m : Int)] := by
        rw [hw6]
        refine Kd.R_set (Kd.R_lower (Kd.R_mono (Kd.R_bound HO5.out) (fun k_ hk_ => ?_)) (Nat.le_trans HKW.out.1 HW4.out.size)) HB5.out (by decide) _ _
        have h_ : w4.heap.size ≤ k_ := hk_.2.1
        omega
      have hb45 : Below w4.heap.size w4 w5 := (show Below w4.heap.size w4 w4.drew from (Below.refl _ _).drew).trans HL5.out
      have hk5 : KeepBut w w5 g none := (HKW.out.trans (keep_of_below HW4.out) (.inl rfl)).trans (keep_of_below hb45) (.inl rfl)
      have hk6 : KeepBut w w6 g none := by rw [hw6]; exact hk5.set_ _ _
      have hG5 : Below g w w5 := (HG2.out.trans (HW4.out.mono (Nat.le_trans hgw HKW.out.1))).trans (hb45.mono (Nat.le_trans hgw (Nat.le_trans HKW.out.1 HW4.out.size)))
      have HG6 := Lib.hid (show Below g w w6 by rw [hw6]; exact below_set hG5 (Nat.le_refl _) _ _)
      obtain ⟨ad3', e3, hy0, hy1⟩ := at_T74 (HY.out w6 hk6) (m : Int) (by omega) (by omega)
      cases e3
      simp only [Int.toNat_natCast] at hy0 hy1
      have c0 := hR6.cell 0
      have c1 := hR6.cell 1
      have g0 := hR6.frozen 0
      have g1 := hR6.frozen 1
      have HB6 := Lib.hid hB6
      have HR6 := Lib.hid hR6
      have HO6 := Lib.hid hO6
      have HK6 := Lib.hid hk6
      clear hw6 hB6 hR6 hO6 hk5 hk6 hG5 q6' p6
      go_wp2_with fail
      refine bodyPost_ret (results_ct rfl _ _ w.heap.size 74 #[.string (rd_T74 ys (m : Int)).f0, .int .i64 (rd_T74 ys (m : Int)).f1] (0, 0) _ rfl ((HR6.out.set_ 0 _).set_ 1 _) Try.underlying74 rfl (by kernel_rfl)) rfl ?_
      have hk : KeepBut w6 ((w6.setCell ⟨w.heap.size, 0, none⟩ (.string (rd_T74 ys (m : Int)).f0)).setCell ⟨w.heap.size, 1, none⟩ (.int .i64 (rd_T74 ys (m : Int)).f1)) w.heap.size none := ((KeepBut.refl _ _ _).set_ _ _).set_ _ _
      refine ⟨rfl, ⟨Nat.le_trans HK6.out.1 hk.1, fun i hi hne _ => ?_⟩, below_set (below_set HG6.out hgw _ _) hgw _ _, _, (HB6.out.far (Ne.symm hgs) _).far (Ne.symm hgs) _, ?_⟩
      · rw [hk.2 i (Nat.lt_of_lt_of_le hi HK6.out.1) (Nat.ne_of_lt hi) (by simp)]
        exact HK6.out.2 i hi hne (by simp)
      · exact Kd.R_mono (Kd.R_keep HO6.out hk (fun _ h => h)) (fun _ _ => trivial)

end Go.Proofs.Ytgkhdpplmdkkaaa.Dp
