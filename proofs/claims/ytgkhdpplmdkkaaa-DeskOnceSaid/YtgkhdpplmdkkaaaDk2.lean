/- The walk of the law DeskOnce. -/
import Derived.Test.YtgkhdpplmdkkaaaDk1
namespace Go.Proofs.Ytgkhdpplmdkkaaa
open Go.RowKit

/-- WHAT THE WALK IS TOLD OF A SLICE OF INTEGERS THAT CAME IN. -/
def IsRow (k : IntKind) (w : World) (a : Option Addr) (len cap : Nat) (zs : List Int) : Prop :=
  (a = none ∧ len = 0 ∧ cap = 0 ∧ zs = []) ∨
  ∃ x, a = some x ∧ len ≤ cap ∧ cap ≤ maxLen ∧ zs.length = cap ∧ (∀ i, i < zs.length → w.cell? (x.add i) = some (.int k (zs.getD i 0))) ∧ ∀ n ∈ zs, (Lit.int k n).wf = true

theorem cell_lt {w : World} {a : Addr} {v : Value} (h : w.cell? a = some v) : a.block < w.heap.size := by
  rcases Nat.lt_or_ge a.block w.heap.size with h' | h'
  · exact h'
  · simp [World.cell?, Array.getElem?_eq_none h'] at h
theorem row_len {k : IntKind} {w : World} {a : Option Addr} {len cap : Nat} {zs : List Int} (h : IsRow k w a len cap zs) : len ≤ cap := by
  rcases h with ⟨_, rfl, rfl, _⟩ | ⟨x, _, hl, _⟩
  · exact Nat.le_refl _
  · exact hl
theorem row_cap {k : IntKind} {w : World} {a : Option Addr} {len cap : Nat} {zs : List Int} (h : IsRow k w a len cap zs) : cap ≤ maxLen := by
  rcases h with ⟨_, _, rfl, _⟩ | ⟨x, _, _, hm, _⟩
  · exact Nat.zero_le _
  · exact hm
theorem row_at {k : IntKind} {w : World} {a : Option Addr} {len cap : Nat} {zs : List Int} (h : IsRow k w a len cap zs) {i : Nat} (hi : i < len) :
    ∃ b off q, a = some ⟨b, off, none⟩ ∧ b < w.heap.size ∧ (∀ w2, Below w.heap.size w w2 → w2.cell? ⟨b, off + i, none⟩ = some (.int k q)) := by
  rcases h with ⟨_, rfl, _⟩ | ⟨⟨b, off, spot⟩, rfl, hl, _, hz, hc, _⟩
  · omega
  · have h := hc i (by omega)
    have hs : spot = none := World.cell?_spot (show w.cell? ⟨b, off, spot⟩ = _ from hc 0 (by omega))
    subst hs
    have h1 : w.cell? ⟨b, off + i, none⟩ = some (.int k (zs.getD i 0)) := by
      by_cases h0 : i = 0
      · subst h0; simpa [Addr.add] using h
      · simpa [Addr.add, h0] using h
    have hb : b < w.heap.size := cell_lt h1
    exact ⟨b, off, _, rfl, hb, fun w2 h2 => (h2.cell (p := ⟨b, off + i, none⟩) hb).trans h1⟩

theorem once_A {last q : Int} {rp : ByteArray} (h : q < 1 ∨ 2147483648 < q) : lkE q = 1 ∧ anE last q rp = 1 := by
  unfold lkE anE; (repeat' split) <;> first | exact ⟨rfl, rfl⟩ | omega
theorem once_B {last q : Int} {rep rp : ByteArray} (h1 : 1 ≤ q) (h2 : q ≤ 2147483648) (h3 : last < q) (hz : rp.size = 2) : lkE q = 0 ∧ lkK last q = 0 ∧ lkR last rep q = ⟨#[]⟩ ∧ anE last q rp = 0 ∧ lkR q rp q = rp := by
  refine ⟨?_, ?_, ?_, ?_, ?_⟩
  · unfold lkE; (repeat' split) <;> omega
  · unfold lkK; (repeat' split) <;> omega
  · unfold lkR; (repeat' split) <;> first | rfl | omega
  · unfold anE; (repeat' split) <;> omega
  · unfold lkR; (repeat' split) <;> first | rfl | omega
theorem once_C {q : Int} {rp : ByteArray} (h1 : 1 ≤ q) (h2 : q ≤ 2147483648) : lkE q = 0 ∧ lkK q q = 1 ∧ anE q q rp = 8 := by
  refine ⟨?_, ?_, ?_⟩
  · unfold lkE; (repeat' split) <;> omega
  · unfold lkK; (repeat' split) <;> omega
  · unfold anE; (repeat' split) <;> omega
theorem once_D {last q : Int} {rep rp : ByteArray} (h1 : 1 ≤ q) (h2 : q ≤ 2147483648) (h3 : q < last) : lkE q = 0 ∧ lkK last q = 2 ∧ lkR last rep q = ⟨#[]⟩ ∧ anE last q rp = 8 := by
  refine ⟨?_, ?_, ?_, ?_⟩
  · unfold lkE; (repeat' split) <;> omega
  · unfold lkK; (repeat' split) <;> omega
  · unfold lkR; (repeat' split) <;> first | rfl | omega
  · unfold anE; (repeat' split) <;> omega

/-- what the round hands on -/
def Rel (t s : Int) (len g : Nat) (w : World) (l i : Value) (wr : World) : Prop :=
  ∃ (k : Nat) (last : Int) (csr : Array Value) (rep : ByteArray), i = .int .i64 k ∧ l = .int .i64 last ∧ k ≤ len ∧ k ≤ 60 ∧ 0 ≤ last ∧
      Blk wr g 106 csr ∧ Se csr ((t.toNat - 1) * 28 + s.toNat * 7) last rep ∧ Below w.heap.size w wr

set_option maxRecDepth 100000 in
set_option maxHeartbeats 1000000 in
theorem once_walk (t s : Int) (a : Option Addr) (len cap : Nat) (zs : List Int) (w : World) (hrow : IsRow .i64 w a len cap zs) :
    Calls Try.prog 3 #[.int .i64 t, .int .i64 s, .slice a len cap] w fun e w' => e = .returned (.bool true) ∧ Below w.heap.size w w' := by
  by_cases his : 1 ≤ t ∧ t ≤ 8 ∧ 0 ≤ s ∧ s ≤ 3
  case neg =>
    have His := Lib.hid his
    clear his
    go_enter Try.func3, Try.ntmps3
    go_wp2_with (first
      | (go_at_call 15; refine (is_no _ _ _ His.out).mono ?_; rintro e w' ⟨rfl, rfl⟩)
      | (go_at_call 16; refine (lives_any _).mono ?_; rintro e w' ⟨rfl, hl⟩))
    go_ret
    exact ⟨rfl, ‹_›⟩
  obtain ⟨h1, h2, h3, h4⟩ := his
  have hz0 := Lib.hid (Zs_at (t.toNat - 1) (by omega) s.toNat (by omega))
  go_enter Try.func3, Try.ntmps3
  go_wp2_with (go_at_call 15; refine (is_yes _ _ _ (by omega) (by omega) (by omega) (by omega)).mono ?_; rintro e w' ⟨rfl, rfl⟩)
  refine (new_any _).mono ?_
  rintro e w1 ⟨rfl, hw1⟩
  have hb1 : Blk w1 w.heap.size 106 (Zs 32).toArray := by rw [hw1]; exact Blk.new _ _ _
  have hl1 : Below w.heap.size w w1 := by rw [hw1]; exact (Below.refl _ _).alloc (Nat.le_refl _) _
  clear hw1
  generalize (Zs 32).toArray = cs at hb1 hz0
  have Hb1 := Lib.hid hb1
  have Hl1 := Lib.hid hl1
  clear hb1 hl1
  have hrow' := Lib.hid hrow
  clear hrow
  have hlen8 : len ≤ 9223372036854775807 := by have := row_len hrow'.out; have h := row_cap hrow'.out; unfold maxLen at h; omega
  go_wp2_with fail
  go_loopw [8, 9] (fun l i wr => Rel t s len w.heap.size w l i wr) (fun _ i _ => 60 - (intOf i).toNat)
  case atStart => exact ⟨0, 0, cs, ⟨#[]⟩, rfl, rfl, by omega, by omega, by omega, Hb1.out, hz0.out, Hl1.out⟩
  case round =>
    obtain ⟨k, last, csr, rep, rfl, rfl, hk, hk60, hlast, hb, hs, hl⟩ := hrel
    have Hb := Lib.hid hb
    have Hs := Lib.hid hs
    have Hl := Lib.hid hl
    clear hb hs hl
    by_cases hlt : k < len ∧ k < 60
    case neg =>
      have hlt' : len ≤ k ∨ 60 ≤ k := by omega
      clear hlt
      by_cases hkl : len ≤ k
      · go_wp2_with (go_at_call 16; refine (lives_any _).mono ?_; rintro e w' ⟨rfl, hl⟩)
        go_ret
        exact ⟨rfl, Hl.out.trans ((‹Below wr.heap.size wr _›).mono Hl.out.size)⟩
      · have hkl' : k < len := by omega
        have h60 : 60 ≤ k := by omega
        clear hkl hlt'
        go_wp2_with (go_at_call 16; refine (lives_any _).mono ?_; rintro e w' ⟨rfl, hl⟩)
        go_ret
        exact ⟨rfl, Hl.out.trans ((‹Below wr.heap.size wr _›).mono Hl.out.size)⟩
    obtain ⟨hlen, h60⟩ := hlt
    obtain ⟨b, off, q, rfl, hbw, hc⟩ := row_at hrow'.out hlen
    have hck := hc wr Hl.out
    have hbl : b < wr.heap.size := Nat.lt_of_lt_of_le hbw Hl.out.size
    clear hbw
    have hc1 := Lib.hid hc
    clear hc
    generalize hrp : (⟨#[114]⟩ ++ ⟨#[UInt8.ofNat k]⟩ : ByteArray) = rp
    have hrz : rp.size = 2 := by rw [← hrp]; rfl
    have Hrp := Lib.hid hrp
    have Hrz := Lib.hid hrz
    clear hrp hrz
    have hq : (q < 1 ∨ 2147483648 < q) ∨ 1 ≤ q ∧ q ≤ 2147483648 ∧ last < q ∨ 1 ≤ q ∧ q ≤ 2147483648 ∧ last = q ∨ 1 ≤ q ∧ q ≤ 2147483648 ∧ q < last := by omega
    go_wp2_with fail
    refine (look_yes _ csr _ t s q last rep _ _ (by omega) (by omega) (by omega) (by omega) rfl (Hb.out.alloc _) Hs.out).mono ?_
    rintro e w2 ⟨rfl, n2, rfl⟩
    go_wp2_with fail
    rw [Hrp.out]
    refine (answer_yes _ csr _ t s q last rp rep _ _ (by omega) (by omega) (by omega) (by omega) rfl ((Hb.out.alloc _).drewN _) Hs.out (by have := Hrz.out; omega)).mono ?_
    rintro e w3 ⟨rfl, hl3, hb3⟩
    have hl3' : Below w.heap.size w w3 := (below_drewN ((Hl.out.alloc Hl.out.size _)) n2).trans hl3
    have hck3 := hc1.out w3 hl3'
    have Hl3 := Lib.hid hl3'
    have Hb3 := Lib.hid hb3
    clear hl3 hb3 hl3'
    rcases hq with hA | ⟨q1, q2, q3⟩ | ⟨q1, q2, rfl⟩ | ⟨q1, q2, q3⟩
    · obtain ⟨e1, e2⟩ := once_A (last := last) (rp := rp) hA
      have hb4 : Blk w3 w.heap.size 106 csr := by have := Hb3.out; rwa [anA_no (by rw [e2]; decide)] at this
      have Hb4 := Lib.hid hb4
      clear hb4
      rcases hA with hA | hA
      all_goals
        go_wp2
        go_roundw
        case rel => exact ⟨k + 1, last, csr, rep, by go_num, rfl, by omega, by omega, hlast, Hb4.out, Hs.out, Hl3.out⟩
        case measure => simp [intOf]; omega
    · obtain ⟨e1, e2, e3, e4, e5⟩ := once_B (rep := rep) q1 q2 q3 Hrz.out
      have hs4 : Se (anA csr ((t.toNat - 1) * 28 + s.toNat * 7) last q rp) ((t.toNat - 1) * 28 + s.toNat * 7) q rp := by
        have := Hs.out.an (seq := q) (reply := rp)
        rwa [if_pos e4, if_pos e4] at this
      have Hs4 := Lib.hid hs4
      clear hs4
      go_wp2_with fail
      refine (look_yes _ _ _ t s q q rp _ _ (by omega) (by omega) (by omega) (by omega) rfl Hb3.out Hs4.out).mono ?_
      rintro e w5 ⟨rfl, n5, rfl⟩
      go_wp2
      go_roundw
      case rel => exact ⟨k + 1, q, _, rp, by go_num, rfl, by omega, by omega, by omega, Hb3.out.drewN _, Hs4.out, below_drewN Hl3.out _⟩
      case measure => simp [intOf]; omega
    · obtain ⟨e1, e2, e3⟩ := once_C (rp := rp) q1 q2
      have hb4 : Blk w3 w.heap.size 106 csr := by have := Hb3.out; rwa [anA_no (by rw [e3]; decide)] at this
      have Hb4 := Lib.hid hb4
      clear hb4
      go_wp2
      go_roundw
      case rel => exact ⟨k + 1, last, csr, rep, by go_num, rfl, by omega, by omega, hlast, Hb4.out, Hs.out, Hl3.out⟩
      case measure => simp [intOf]; omega
    · obtain ⟨e1, e2, e3, e4⟩ := once_D (rep := rep) (rp := rp) q1 q2 q3
      have e5 : (q == last) = false := beq_eq_false_iff_ne.2 (by omega)
      have hb4 : Blk w3 w.heap.size 106 csr := by have := Hb3.out; rwa [anA_no (by rw [e4]; decide)] at this
      have Hb4 := Lib.hid hb4
      clear hb4
      go_wp2
      go_roundw
      case rel => exact ⟨k + 1, last, csr, rep, by go_num, rfl, by omega, by omega, hlast, Hb4.out, Hs.out, Hl3.out⟩
      case measure => simp [intOf]; omega

end Go.Proofs.Ytgkhdpplmdkkaaa
