/- The contracts of the desk that need no challenge. -/
import Derived.Test.YtgkhdpplmdkkaaaMa
namespace Go.Proofs.Ytgkhdpplmdkkaaa
open Go.RowKit

set_option maxHeartbeats 400000 in
theorem find_yes (g : Nat) (t s : Int) (w : World) (h1 : 1 ≤ t) (h2 : t ≤ 8) (h3 : 0 ≤ s) (h4 : s ≤ 3) :
    Calls Try.prog 51 #[.pointer (some ⟨g, 0, none⟩), .int .i64 t, .int .i64 s] w fun e w' =>
      e = .returned (.pointer (some ⟨g, (t.toNat - 1) * 28 + s.toNat * 7, none⟩)) ∧ w = w' := by
  go_enter Try.func51, Try.ntmps51
  go_wp2
  go_ret
  exact ⟨rfl, rfl⟩

/-- how a request stands to the last one -/
def lkK (last seq : Int) : Int := if seq < 1 then 0 else if 2147483648 < seq then 0 else if seq = last then 1 else if seq < last then 2 else 0
def lkR (last : Int) (reply : ByteArray) (seq : Int) : ByteArray := if seq < 1 then ⟨#[]⟩ else if 2147483648 < seq then ⟨#[]⟩ else if seq = last then reply else ⟨#[]⟩
def lkE (seq : Int) : Int := if seq < 1 then 1 else if 2147483648 < seq then 1 else 0

/-- the last request of the session at o, and its reply -/
def Se (cs : Array Value) (o : Nat) (last : Int) (reply : ByteArray) : Prop := cs[o]? = some (.int .i64 last) ∧ cs[o + 1]? = some (.string reply)

set_option maxHeartbeats 400000 in
theorem look_yes (g : Nat) (cs : Array Value) (T : TypeId) (t s seq last : Int) (reply : ByteArray) (o : Nat) (w : World) (h1 : 1 ≤ t) (h2 : t ≤ 8) (h3 : 0 ≤ s) (h4 : s ≤ 3)
    (ho : (t.toNat - 1) * 28 + s.toNat * 7 = o) (hb : Blk w g T cs) (hs : Se cs o last reply) :
    Calls Try.prog 18 #[.pointer (some ⟨g, 0, none⟩), .int .i64 t, .int .i64 s, .int .i64 seq] w fun e w' =>
      e = .returned (.tuple #[.int .i64 (lkK last seq), .string (lkR last reply seq), .int .i64 (lkE seq)]) ∧ ∃ n, w' = w.drewN n := by
  subst ho
  have k0 := (hb.cell _).trans hs.1
  have k1 := (hb.cell _).trans hs.2
  clear hb hs
  go_enter Try.func18, Try.ntmps18
  go_wp2_with (go_at_call 51; refine (find_yes _ _ _ _ (by omega) (by omega) (by omega) (by omega)).mono ?_; rintro e w' ⟨rfl, rfl⟩)
  all_goals try (go_quiet (fail); go_wp2)
  all_goals go_ret3
  all_goals refine ⟨ret3 (congrArg (Value.int .i64) ?_) (congrArg Value.string ?_) (congrArg (Value.int .i64) ?_), ?_⟩
  all_goals first | exact ⟨_, rfl⟩ | exact ⟨0, rfl⟩ | skip
  all_goals try simp only [beq_iff_eq, beq_eq_false_iff_ne, ne_eq] at *
  all_goals (first | unfold lkK | unfold lkR | unfold lkE)
  all_goals (repeat' split)
  all_goals first | rfl | omega

/-- a desk of no session -/
def Zs (n : Nat) : List Value := (List.range n).flatMap fun _ => [.int .i64 0, .string ⟨#[]⟩, .bool false, .string ⟨#[]⟩, .string ⟨#[]⟩, .slice none 0 0, .slice none 0 0]

set_option maxRecDepth 100000 in
set_option maxHeartbeats 400000 in
theorem new_any (w : World) :
    Calls Try.prog 17 #[] w fun e w' =>
      e = .returned (.pointer (some ⟨w.heap.size, 0, none⟩)) ∧ w' = w.alloc (.cells (Zs 32).toArray 106) := by
  go_enter Try.func17, Try.ntmps17
  go_wp2
  go_ret
  exact ⟨rfl, rfl⟩

def anE (last seq : Int) (reply : ByteArray) : Int := if seq < 1 then 1 else if 2147483648 < seq then 1 else if seq ≤ last then 8 else if 65536 < (reply.size : Int) then 2 else 0
def anA (cs : Array Value) (o : Nat) (last seq : Int) (reply : ByteArray) : Array Value := if anE last seq reply = 0 then (cs.setIfInBounds o (.int .i64 seq)).setIfInBounds (o + 1) (.string reply) else cs

theorem anA_no {cs : Array Value} {o : Nat} {last seq : Int} {reply : ByteArray} (h : anE last seq reply ≠ 0) : anA cs o last seq reply = cs := if_neg h
theorem anE_1 {last seq : Int} {reply : ByteArray} (h : (lkE seq != 0) = true) : lkE seq = anE last seq reply := by
  unfold lkE anE at *
  (repeat' split) <;> simp_all
theorem anE_2 {last seq : Int} {reply : ByteArray} (h : (lkE seq != 0) = false) (h2 : (lkK last seq != 0) = true) : 8 = anE last seq reply := by
  unfold lkE lkK anE at *
  (repeat' split) <;> simp_all <;> omega
theorem anE_3 {last seq : Int} {reply : ByteArray} (h : (lkE seq != 0) = false) (h2 : (lkK last seq != 0) = false) (h3 : 65536 < (reply.size : Int)) : 2 = anE last seq reply := by
  unfold lkE lkK anE at *
  (repeat' split) <;> simp_all <;> omega
theorem anE_4 {last seq : Int} {reply : ByteArray} (h : (lkE seq != 0) = false) (h2 : (lkK last seq != 0) = false) (h3 : (reply.size : Int) ≤ 65536) : 0 = anE last seq reply := by
  unfold lkE lkK anE at *
  (repeat' split) <;> simp_all <;> omega

set_option maxHeartbeats 400000 in
theorem answer_yes (g : Nat) (cs : Array Value) (T : TypeId) (t s seq last : Int) (reply was : ByteArray) (o : Nat) (w : World) (h1 : 1 ≤ t) (h2 : t ≤ 8) (h3 : 0 ≤ s) (h4 : s ≤ 3)
    (ho : (t.toNat - 1) * 28 + s.toNat * 7 = o) (hb : Blk w g T cs) (hs : Se cs o last was) (_hr : reply.size ≤ 140737488351232) :
    Calls Try.prog 19 #[.pointer (some ⟨g, 0, none⟩), .int .i64 t, .int .i64 s, .int .i64 seq, .string reply] w fun e w' =>
      e = .returned (.int .i64 (anE last seq reply)) ∧ Below g w w' ∧ Blk w' g T (anA cs o last seq reply) := by
  subst ho
  have k0 := (hb.cell _).trans hs.1
  have k1 := (hb.cell _).trans hs.2
  have f0 := hb.frozen ((t.toNat - 1) * 28 + s.toNat * 7)
  have f1 := hb.frozen ((t.toNat - 1) * 28 + s.toNat * 7 + 1)
  have HB := Lib.hid hb
  have HC := Lib.hid hs
  clear hb hs
  go_enter Try.func19, Try.ntmps19
  go_wp2_with (first
    | (go_at_call 18; refine (look_yes _ _ _ _ _ _ _ _ _ _ (by omega) (by omega) (by omega) (by omega) rfl HB.out HC.out).mono ?_; rintro e w' ⟨rfl, n, rfl⟩)
    | (go_at_call 51; refine (find_yes _ _ _ _ (by omega) (by omega) (by omega) (by omega)).mono ?_; rintro e w' ⟨rfl, rfl⟩))
  · go_ret
    have he := anE_1 (last := last) (reply := reply) ‹_›
    exact ⟨ret_int he, below_drewN (Below.refl _ _) _, by rw [anA_no (by rw [← he]; simp at *; assumption)]; exact HB.out⟩
  · go_ret
    have he := anE_2 (last := last) (reply := reply) ‹_› ‹_›
    exact ⟨ret_int he, below_drewN (Below.refl _ _) _, by rw [anA_no (by rw [← he]; decide)]; exact HB.out⟩
  · go_ret
    have he := anE_3 (last := last) (reply := reply) ‹_› ‹_› ‹_›
    exact ⟨ret_int he, below_drewN (Below.refl _ _) _, by rw [anA_no (by rw [← he]; decide)]; exact HB.out⟩
  · go_ret
    have he := anE_4 (last := last) (reply := reply) ‹_› ‹_› ‹_›
    refine ⟨ret_int he, below_set (below_set (below_drewN (Below.refl _ _) _) (Nat.le_refl _) _ _) (Nat.le_refl _) _ _, ?_⟩
    unfold anA
    rw [if_pos he.symm]
    exact ((HB.out.drewN n).set_ _ _).set_ _ _

theorem Se.an {cs : Array Value} {o : Nat} {last seq : Int} {was reply : ByteArray} (h : Se cs o last was) :
    Se (anA cs o last seq reply) o (if anE last seq reply = 0 then seq else last) (if anE last seq reply = 0 then reply else was) := by
  obtain ⟨h0, h1⟩ := h
  unfold anA Se
  split
  · have := (Array.getElem?_eq_some_iff.1 h0).1
    have := (Array.getElem?_eq_some_iff.1 h1).1
    constructor
    · rw [Array.getElem?_setIfInBounds_ne (by omega), Array.getElem?_setIfInBounds_self]; simp; omega
    · rw [Array.getElem?_setIfInBounds_self]; simp; omega
  · exact ⟨h0, h1⟩

set_option maxRecDepth 100000 in
theorem Zs_at (t : Nat) (ht : t < 8) (s : Nat) (hs : s < 4) : Se (Zs 32).toArray (t * 28 + s * 7) 0 ⟨#[]⟩ := by
  have h : t = 0 ∨ t = 1 ∨ t = 2 ∨ t = 3 ∨ t = 4 ∨ t = 5 ∨ t = 6 ∨ t = 7 := by omega
  have h' : s = 0 ∨ s = 1 ∨ s = 2 ∨ s = 3 := by omega
  rcases h with rfl | rfl | rfl | rfl | rfl | rfl | rfl | rfl <;> rcases h' with rfl | rfl | rfl | rfl <;> exact ⟨rfl, rfl⟩

set_option maxHeartbeats 400000 in
theorem is_yes (t s : Int) (w : World) (h1 : 1 ≤ t) (h2 : t ≤ 8) (h3 : 0 ≤ s) (h4 : s ≤ 3) :
    Calls Try.prog 15 #[.int .i64 t, .int .i64 s] w fun e w' => e = .returned (.bool true) ∧ w = w' := by
  go_enter Try.func15, Try.ntmps15
  go_wp2
  go_ret
  exact ⟨by simp, rfl⟩

set_option maxHeartbeats 400000 in
theorem is_no (t s : Int) (w : World) (h : ¬ (1 ≤ t ∧ t ≤ 8 ∧ 0 ≤ s ∧ s ≤ 3)) :
    Calls Try.prog 15 #[.int .i64 t, .int .i64 s] w fun e w' => e = .returned (.bool false) ∧ w = w' := by
  have H := Lib.hid h
  clear h
  go_enter Try.func15, Try.ntmps15
  go_wp2
  all_goals go_ret
  all_goals exact ⟨by have := H.out; simp <;> omega, rfl⟩

set_option maxRecDepth 100000 in
set_option maxHeartbeats 400000 in
theorem lives_any (w : World) :
    Calls Try.prog 16 #[] w fun e w' => e = .returned (.bool true) ∧ Below w.heap.size w w' := by
  have hz0 : Se (Zs 32).toArray 0 0 ⟨#[]⟩ := Zs_at 0 (by omega) 0 (by omega)
  go_enter Try.func16, Try.ntmps16
  go_wp2_with fail
  refine (new_any _).mono ?_
  rintro e w1 ⟨rfl, hw1⟩
  have hb1 : Blk w1 w.heap.size 106 (Zs 32).toArray := by rw [hw1]; exact Blk.new _ _ _
  have hl1 : Below w.heap.size w w1 := by rw [hw1]; exact (Below.refl _ _).alloc (Nat.le_refl _) _
  clear hw1
  generalize (Zs 32).toArray = cs at hb1 hz0
  have Hb1 := Lib.hid hb1
  have Hl1 := Lib.hid hl1
  have Hz := Lib.hid hz0
  clear hb1 hl1 hz0
  go_wp2_with fail
  refine (look_yes _ cs _ 1 0 1 0 ⟨#[]⟩ 0 _ (by omega) (by omega) (by omega) (by omega) (by decide) Hb1.out Hz.out).mono ?_
  rintro e w2 ⟨rfl, n2, rfl⟩
  go_wp2_with fail
  refine (answer_yes _ cs _ 1 0 1 0 ⟨#[114]⟩ ⟨#[]⟩ 0 _ (by omega) (by omega) (by omega) (by omega) (by decide) (Hb1.out.drewN _) Hz.out (by decide)).mono ?_
  rintro e w3 ⟨rfl, hl3, hb3⟩
  have hs3 : Se (anA cs 0 0 1 ⟨#[114]⟩) 0 1 ⟨#[114]⟩ := Hz.out.an
  have Hl3 := Lib.hid hl3
  have Hb3 := Lib.hid hb3
  have Hs3 := Lib.hid hs3
  clear hl3 hb3 hs3
  generalize anA cs 0 0 1 ⟨#[114]⟩ = cs3 at Hb3 Hs3
  go_wp2_with fail
  refine (look_yes _ cs3 _ 1 0 1 1 ⟨#[114]⟩ 0 _ (by omega) (by omega) (by omega) (by omega) (by decide) Hb3.out Hs3.out).mono ?_
  rintro e w4 ⟨rfl, n4, rfl⟩
  go_wp2_with fail
  refine (look_yes _ cs3 _ 1 0 3 1 ⟨#[114]⟩ 0 _ (by omega) (by omega) (by omega) (by omega) (by decide) (Hb3.out.drewN _) Hs3.out).mono ?_
  rintro e w5 ⟨rfl, n5, rfl⟩
  have e1 : lkE 1 = 0 := by decide
  have e2 : lkE 3 = 0 := by decide
  have e3 : lkK 0 1 = 0 := by decide
  have e4 : lkK 1 1 = 1 := by decide
  have e5 : lkK 1 3 = 0 := by decide
  have e6 : lkR 1 ⟨#[114]⟩ 1 = ⟨#[114]⟩ := rfl
  have e7 : anE 0 1 ⟨#[114]⟩ = 0 := by decide
  go_wp2
  go_ret
  exact ⟨rfl, below_drewN ((below_drewN' Hl1.out _).trans Hl3.out) _⟩

end Go.Proofs.Ytgkhdpplmdkkaaa
