/- The walk of sha.mix. -/
import Derived.Test.YtgkhdpplmdkkaaaBits
import Derived.BigRegion
namespace Go.Proofs.Ytgkhdpplmdkkaaa
open Go.RowKit

def agg8 (s : St) : Value := .agg #[.int .u32 (I32 s.a), .int .u32 (I32 s.b), .int .u32 (I32 s.c), .int .u32 (I32 s.d), .int .u32 (I32 s.e), .int .u32 (I32 s.f), .int .u32 (I32 s.g), .int .u32 (I32 s.h)]

/-- words in cells from 0 on, n of them, those from t on noughts -/
def wArr (f : Nat → UInt32) (t n : Nat) : Array Value := ((List.range n).map fun j => .int .u32 (if j < t then I32 (f j) else 0)).toArray
theorem wArr_at (f : Nat → UInt32) (t n j : Nat) (hj : j < n) : (wArr f t n)[j]? = some (.int .u32 (if j < t then I32 (f j) else 0)) := by
  unfold wArr; simp [hj]
theorem wArr_size (f : Nat → UInt32) (t n : Nat) : (wArr f t n).size = n := by simp [wArr]
theorem wArr_one (f : Nat → UInt32) (t n : Nat) : (wArr f t n).all (·.oneCell') = true := by
  unfold wArr
  simp [Value.oneCell']
theorem wArr_set (f : Nat → UInt32) (t n : Nat) : (wArr f t n).setIfInBounds t (.int .u32 (I32 (f t))) = wArr f (t + 1) n := by
  apply Array.ext_getElem?
  intro i
  rw [Array.getElem?_setIfInBounds]
  by_cases h : i < n
  · rw [wArr_at _ _ _ _ h, wArr_at _ _ _ _ h]
    by_cases e : t = i
    · subst e; simp [wArr_size, h]
    · rw [if_neg e]
      by_cases h2 : i < t
      · rw [if_pos h2, if_pos (by omega)]
      · rw [if_neg h2, if_neg (by omega)]
  · have h1 : (wArr f t n)[i]? = none := Array.getElem?_eq_none (by rw [wArr_size]; omega)
    have h2 : (wArr f (t + 1) n)[i]? = none := Array.getElem?_eq_none (by rw [wArr_size]; omega)
    rw [h1, h2]
    split
    · rename_i e; subst e; rw [if_neg (by rw [wArr_size]; omega)]
    · rfl

theorem set_self {a : Array Value} {i : Nat} {v : Value} (h : a[i]? = some v) : a.setIfInBounds i v = a := by
  apply Array.ext_getElem?
  intro j
  rw [Array.getElem?_setIfInBounds]
  by_cases e : i = j
  · subst e
    have := (Array.getElem?_eq_some_iff.1 h).1
    rw [if_pos rfl, if_pos this, h]
  · rw [if_neg e]
theorem set_set {a : Array Value} {i : Nat} {u v : Value} : (a.setIfInBounds i u).setIfInBounds i v = a.setIfInBounds i v := by
  apply Array.ext_getElem?
  intro j
  rw [Array.getElem?_setIfInBounds, Array.getElem?_setIfInBounds, Array.getElem?_setIfInBounds]
  by_cases e : i = j
  · subst e; simp
  · simp [e]
theorem set_get {a : Array Value} {i : Nat} {v : Value} (h : i < a.size) : (a.setIfInBounds i v)[i]? = some v := by
  rw [Array.getElem?_setIfInBounds_self]; simp [h]

/-- the words of a state, those below j with another one's added -/
def sArr (s z : St) (j : Nat) : Array Value := ((List.range 8).map fun i => .int .u32 (I32 (if i < j then s.at i + z.at i else s.at i))).toArray
theorem sArr_at (s z : St) (j i : Nat) (h : i < 8) : (sArr s z j)[i]? = some (.int .u32 (I32 (if i < j then s.at i + z.at i else s.at i))) := by
  unfold sArr; simp [h]
theorem sArr_size (s z : St) (j : Nat) : (sArr s z j).size = 8 := by simp [sArr]
theorem sArr_set (s z : St) (j : Nat) : (sArr s z j).setIfInBounds j (.int .u32 (I32 (s.at j + z.at j))) = sArr s z (j + 1) := by
  apply Array.ext_getElem?
  intro i
  rw [Array.getElem?_setIfInBounds]
  by_cases h : i < 8
  · rw [sArr_at _ _ _ _ h, sArr_at _ _ _ _ h]
    by_cases e : j = i
    · subst e; simp [sArr_size, h]
    · rw [if_neg e]
      by_cases h2 : i < j
      · rw [if_pos h2, if_pos (by omega)]
      · rw [if_neg h2, if_neg (by omega)]
  · have h1 : (sArr s z j)[i]? = none := Array.getElem?_eq_none (by rw [sArr_size]; omega)
    have h2 : (sArr s z (j + 1))[i]? = none := Array.getElem?_eq_none (by rw [sArr_size]; omega)
    rw [h1, h2]
    split
    · rename_i e; subst e; rw [if_neg (by rw [sArr_size]; omega)]
    · rfl
theorem run_index8 (z : St) (j : Nat) (hj : j < 8) (w : World) :
    (Instr.index 156 (.agg #[.int .u32 (I32 z.a), .int .u32 (I32 z.b), .int .u32 (I32 z.c), .int .u32 (I32 z.d), .int .u32 (I32 z.e), .int .u32 (I32 z.f), .int .u32 (I32 z.g), .int .u32 (I32 z.h)]) (.int .i64 (j : Int))).run Try.prog w = .ok (.int .u32 (I32 (z.at j))) w := by
  have : j = 0 ∨ j = 1 ∨ j = 2 ∨ j = 3 ∨ j = 4 ∨ j = 5 ∨ j = 6 ∨ j = 7 := by omega
  rcases this with rfl | rfl | rfl | rfl | rfl | rfl | rfl | rfl <;> (refine Eq.trans ?_ (Eq.refl _); kernel_rfl)

/-- only block g has turned, and new blocks came -/
structure Only (g : Nat) (w w' : World) : Prop where
  os : w'.os = w.os
  tape : w'.tape = w.tape
  output : w'.output = w.output
  size : w.heap.size ≤ w'.heap.size
  block : ∀ k, k < w.heap.size → k ≠ g → w'.heap[k]? = w.heap[k]?
theorem Only.refl (g : Nat) (w : World) : Only g w w := ⟨rfl, rfl, rfl, Nat.le_refl _, fun _ _ _ => rfl⟩
theorem Only.drewN {g : Nat} {a w : World} (h : Only g a w) (n : Nat) : Only g a (w.drewN n) := ⟨h.os, h.tape, h.output, h.size, h.block⟩
theorem Only.set_ {g : Nat} {a w : World} (h : Only g a w) (o : Nat) (u : Value) : Only g a (w.setCell ⟨g, o, none⟩ u) :=
  ⟨h.os, h.tape, h.output, by have := h.size; simp [World.setCell]; omega, fun k hk hg => (Below.heap_setCell w ⟨g, o, none⟩ u k hg).trans (h.block k hk hg)⟩
theorem Only.blk {g g' : Nat} {a w : World} {t : TypeId} {cs : Array Value} (h : Only g a w) (hb : Blk a g' t cs) (hg : g' ≠ g) : Blk w g' t cs := (h.block g' hb.lt hg).trans hb
theorem Only.below {g B : Nat} {a w : World} (h : Only g a w) (hg : B ≤ g) (hB : B ≤ a.heap.size) : Below B a w :=
  ⟨h.os, h.tape, h.output, h.size, fun k hk => h.block k (by omega) (by omega)⟩
theorem Only.cell {g : Nat} {a w : World} (h : Only g a w) {p : Addr} {v : Value} (hc : a.cell? p = some v) (hg : p.block ≠ g) : w.cell? p = some v := by
  have hlt : p.block < a.heap.size := by
    rcases Nat.lt_or_ge p.block a.heap.size with h' | h'
    · exact h'
    · simp [World.cell?, Array.getElem?_eq_none h'] at hc
  exact (World.cell?_of_block (w := a) (h.block p.block hlt hg)).trans hc

set_option maxRecDepth 100000 in
set_option maxHeartbeats 1000000 in
theorem mix_any (gk ok : Nat) (ks : Nat → UInt32) (s : St) (b o cap : Nat) (bs : Nat → UInt8) (w : World)
    (hk : ∀ t, t < 64 → w.cell? ⟨gk, ok + t, none⟩ = some (.int .u32 (I32 (ks t))))
    (hb : ∀ j, j < 64 → w.cell? ⟨b, o + j, none⟩ = some (.int .u8 (I8 (bs j)))) (hcap : 64 ≤ cap) :
    Calls Try.prog 97 #[.pointer (some ⟨gk, ok, none⟩), agg8 s, .slice (some ⟨b, o, none⟩) 64 cap] w fun e w' => e = .returned (agg8 (mixS ks s bs)) ∧ Below w.heap.size w w' := by
  have Hk := Lib.hid hk
  have Hb := Lib.hid hb
  clear hk hb
  unfold agg8
  go_enter Try.func97, Try.ntmps97
  go_wp2_with fail
  refine abs_world ?_
  intro w1 hw1
  have h0 : Blk w1 w.heap.size 156 #[.int .u32 (I32 s.a), .int .u32 (I32 s.b), .int .u32 (I32 s.c), .int .u32 (I32 s.d), .int .u32 (I32 s.e), .int .u32 (I32 s.f), .int .u32 (I32 s.g), .int .u32 (I32 s.h)] := by
    rw [hw1]; exact ((Blk.new _ _ _).alloc _).alloc _
  have h1 : Blk w1 (w.heap.size + 1) 156 #[.int .u32 0, .int .u32 0, .int .u32 0, .int .u32 0, .int .u32 0, .int .u32 0, .int .u32 0, .int .u32 0] := by
    rw [hw1]; exact (Blk.new_at _ _ _ _ _ (by simp) rfl).alloc _
  have h2 : Blk w1 (w.heap.size + 1 + 1) 154 (wArr (sch bs) 0 64) := by
    rw [hw1]; exact Blk.new_at _ _ _ _ _ (by simp) rfl
  have hl : Below w.heap.size w w1 := by
    rw [hw1]; exact (((Below.refl _ _).alloc (Nat.le_refl _) _).alloc (by simp) _).alloc (by simp; omega) _
  clear hw1
  have H0 := Lib.hid h0
  have H1 := Lib.hid h1
  have H2 := Lib.hid h2
  have Hl := Lib.hid hl
  clear h0 h1 h2 hl
  go_loopw [26] (fun i wr => ∃ t : Nat, i = .int .i64 t ∧ t ≤ 64 ∧ Blk wr (w.heap.size + 1 + 1) 154 (wArr (sch bs) t 64) ∧ Only (w.heap.size + 1 + 1) w1 wr) (fun i _ => 64 - (intOf i).toNat)
  case atStart => exact ⟨0, rfl, by omega, H2.out, Only.refl _ _⟩
  case round =>
    obtain ⟨t, rfl, ht, hb2, ho⟩ := hrel
    have Hb2 := Lib.hid hb2
    have Ho := Lib.hid ho
    clear hb2 ho
    by_cases h16 : t < 16
    · have hin : ∀ m, m < 4 → w.cell? ⟨b, o + 4 * t + m, none⟩ = some (.int .u8 (I8 (bs (4 * t + m)))) := fun m hm => by
        have := Hb.out (4 * t + m) (by omega)
        rwa [← Nat.add_assoc] at this
      have Hin := Lib.hid hin
      clear hin
      go_wp2_with fail
      have hlen : 4 * t + 4 - 4 * t = 4 := by omega
      go_loopw [39] (fun i wr2 => ∃ m : Nat, i = .int .i64 m ∧ m ≤ 4 ∧ Blk wr2 (w.heap.size + 1 + 1) 154 ((wArr (sch bs) t 64).setIfInBounds t (.int .u32 (I32 (part bs t m)))) ∧ Only (w.heap.size + 1 + 1) w1 wr2) (fun i _ => 4 - (intOf i).toNat)
      case atStart => exact ⟨0, rfl, by omega, by rw [set_self (by rw [wArr_at _ _ _ _ (by omega), if_neg (by omega)]; rfl)]; exact Hb2.out, Ho.out⟩
      case round =>
        obtain ⟨m, rfl, hm, hb3, ho3⟩ := hrel
        by_cases h4 : m < 4
        · have hc := (hb3.cell t).trans (set_get (by rw [wArr_size]; omega))
          have hf := hb3.frozen t
          have hi0 := Hin.out m h4
          have hblt : b < w.heap.size := by
            rcases Nat.lt_or_ge b w.heap.size with h' | h'
            · exact h'
            · simp [World.cell?, Array.getElem?_eq_none h'] at hi0
          have hi := ho3.cell (Hl.out.cell (p := ⟨b, o + 4 * t + m, none⟩) hblt |>.trans hi0) (by show b ≠ _; omega)
          have Hb3 := Lib.hid hb3
          have Ho3 := Lib.hid ho3
          clear hb3 ho3 hi0
          go_wp2_with fail
          go_roundw
          case rel => exact ⟨m + 1, by go_num, by omega, by have := Hb3.out.set_ t (.int .u32 (I32 (part bs t (m + 1)))); rwa [set_set] at this, Ho3.out.set_ _ _⟩
          case measure => simp [intOf]; omega
        · obtain rfl : m = 4 := by omega
          go_wp2
          go_roundw
          case rel => exact ⟨t + 1, by go_num, by omega, by rw [part_four, ← sch_lo bs h16, wArr_set] at hb3; exact hb3, ho3⟩
          case measure => simp [intOf]; omega
    · by_cases h64 : t < 64
      · have c16 := (Hb2.out.cell (t - 16)).trans (by rw [wArr_at _ _ _ _ (show t - 16 < 64 by omega), if_pos (by omega)])
        have c15 := (Hb2.out.cell (t - 15)).trans (by rw [wArr_at _ _ _ _ (show t - 15 < 64 by omega), if_pos (by omega)])
        have c7 := (Hb2.out.cell (t - 7)).trans (by rw [wArr_at _ _ _ _ (show t - 7 < 64 by omega), if_pos (by omega)])
        have c2 := (Hb2.out.cell (t - 2)).trans (by rw [wArr_at _ _ _ _ (show t - 2 < 64 by omega), if_pos (by omega)])
        have c0 := (Hb2.out.cell t).trans (by rw [wArr_at _ _ _ _ (show t < 64 by omega), if_neg (by omega)])
        have f0 := Hb2.out.frozen t
        have w2 : IntKind.i64.wrap ((t : Int) - 2) = (t : Int) - 2 := IntWalk.i64_in _ (by omega)
        have n2 : (2 : Int) ≤ (t : Int) := by omega
        have l2 : (t : Int) - 2 < 64 := by omega
        have z2 : ((t : Int) - 2).toNat = t - 2 := by omega
        have w7 : IntKind.i64.wrap ((t : Int) - 7) = (t : Int) - 7 := IntWalk.i64_in _ (by omega)
        have n7 : (7 : Int) ≤ (t : Int) := by omega
        have l7 : (t : Int) - 7 < 64 := by omega
        have z7 : ((t : Int) - 7).toNat = t - 7 := by omega
        have w15 : IntKind.i64.wrap ((t : Int) - 15) = (t : Int) - 15 := IntWalk.i64_in _ (by omega)
        have n15 : (15 : Int) ≤ (t : Int) := by omega
        have l15 : (t : Int) - 15 < 64 := by omega
        have z15 : ((t : Int) - 15).toNat = t - 15 := by omega
        have w16 : IntKind.i64.wrap ((t : Int) - 16) = (t : Int) - 16 := IntWalk.i64_in _ (by omega)
        have n16 : (16 : Int) ≤ (t : Int) := by omega
        have l16 : (t : Int) - 16 < 64 := by omega
        have z16 : ((t : Int) - 16).toNat = t - 16 := by omega
        go_wp2_with fail
        go_quiet ((go_at_call 108; exact Calls.quiet_of_same (turn_any _ _ _ (by omega) (by omega))))
        go_wp2_with fail
        go_quiet ((go_at_call 108; exact quiet_add_same (turn_any _ _ _ (by omega) (by omega))))
        go_wp2_with fail
        go_region
        go_wp2
        go_roundw
        case rel =>
          have hx := fun n => (Hb2.out.drewN n).set_ t (.int .u32 (I32 (sch bs t)))
          simp only [wArr_set] at hx
          rw [sch_hi bs h16] at hx
          exact ⟨t + 1, by go_num, by omega, hx _, (Ho.out.drewN _).set_ _ _⟩
        case measure => simp [intOf]; omega
      · obtain rfl : t = 64 := by omega
        have hs := Ho.out.blk H0.out (by omega)
        have s0 := hs.cell 0
        have s1 := hs.cell 1
        have s2 := hs.cell 2
        have s3 := hs.cell 3
        have s4 := hs.cell 4
        have s5 := hs.cell 5
        have s6 := hs.cell 6
        have s7 := hs.cell 7
        simp only [List.getElem?_toArray, List.getElem?_cons_zero, List.getElem?_cons_succ] at s0 s1 s2 s3 s4 s5 s6 s7
        have Hs := Lib.hid hs
        clear hs
        go_wp2_with fail
        go_quiet (fail)
        go_wp2_with fail
        go_loopw [13, 14, 15, 16, 17, 18, 19, 20, 119] (fun xa xb xc xd xe xf xg xh i w3 => ∃ t n : Nat, i = .int .i64 t ∧ t ≤ 64 ∧ xa = .int .u32 (I32 (rnd ks (sch bs) s t).a) ∧ xb = .int .u32 (I32 (rnd ks (sch bs) s t).b) ∧ xc = .int .u32 (I32 (rnd ks (sch bs) s t).c) ∧ xd = .int .u32 (I32 (rnd ks (sch bs) s t).d) ∧ xe = .int .u32 (I32 (rnd ks (sch bs) s t).e) ∧ xf = .int .u32 (I32 (rnd ks (sch bs) s t).f) ∧ xg = .int .u32 (I32 (rnd ks (sch bs) s t).g) ∧ xh = .int .u32 (I32 (rnd ks (sch bs) s t).h) ∧ w3 = wr.drewN n) (fun _ _ _ _ _ _ _ _ i _ => 64 - (intOf i).toNat)
        case atStart => exact ⟨0, nq, rfl, by omega, rfl, rfl, rfl, rfl, rfl, rfl, rfl, rfl, rfl⟩
        case round =>
          obtain ⟨t, n, rfl, ht, rfl, rfl, rfl, rfl, rfl, rfl, rfl, rfl, rfl⟩ := hrel
          by_cases h64 : t < 64
          · have ck : wr.cell? ⟨gk, ok + t, none⟩ = some (.int .u32 (I32 (ks t))) := by
              have h0 := Hk.out t h64
              have hlt : gk < w.heap.size := by
                rcases Nat.lt_or_ge gk w.heap.size with h' | h'
                · exact h'
                · simp [World.cell?, Array.getElem?_eq_none h'] at h0
              exact Ho.out.cell (Hl.out.cell (p := ⟨gk, ok + t, none⟩) hlt |>.trans h0) (by show gk ≠ _; omega)
            have cw := (Hb2.out.cell t).trans (by rw [wArr_at _ _ _ _ h64, if_pos h64])
            have hz : ∃ z, z = rnd ks (sch bs) s t := ⟨_, rfl⟩
            obtain ⟨z, hz⟩ := hz
            rw [← hz]
            have Hz := Lib.hid hz
            clear hz
            go_wp2_with fail
            go_quiet ((go_at_call 108; exact quiet_add_same (turn_any _ _ _ (by omega) (by omega))))
            go_wp2_with (go_at_call 108; refine (turn_any _ _ _ (by omega) (by omega)).mono ?_; rintro e w' ⟨rfl, rfl⟩)
            refine ⟨⟨_, _, _, _, _, _, _, _, _, _, _, _, ⟨t + 1, ?_, ?_, ?_, ?_, ?_, ?_, ?_, ?_, ?_, ?_, ⟨_, rfl⟩⟩, rfl, rfl, rfl, rfl, rfl, rfl, rfl, rfl, rfl, rfl, rfl, rfl⟩, ?_⟩
            · go_num
            · omega
            · show Value.int .u32 _ = .int .u32 (I32 (uu (ks t) (sch bs t) (rnd ks (sch bs) s t) + vv (rnd ks (sch bs) s t)))
              rw [← Hz.out]; exact congrArg (Value.int .u32) (u32_sum5 _ _ _ _ _)
            · rw [Hz.out]; rfl
            · rw [Hz.out]; rfl
            · rw [Hz.out]; rfl
            · show Value.int .u32 _ = .int .u32 (I32 ((rnd ks (sch bs) s t).d + uu (ks t) (sch bs t) (rnd ks (sch bs) s t)))
              rw [← Hz.out]; exact congrArg (Value.int .u32) (u32_sumd _ _ _ _ _)
            · rw [Hz.out]; rfl
            · rw [Hz.out]; rfl
            · rw [Hz.out]; rfl
            · simp [intOf]; omega
          · obtain rfl : t = 64 := by omega
            go_wp2_with fail
            have hz : ∃ z, z = rnd ks (sch bs) s 64 := ⟨_, rfl⟩
            obtain ⟨z, hz⟩ := hz
            rw [← hz]
            have Hz := Lib.hid hz
            have hs0 : Blk wr w.heap.size 156 (sArr s z 0) := Hs.out
            have Hs0 := Lib.hid hs0
            have h10 := Ho.out.blk H1.out (by omega)
            have H10 := Lib.hid h10
            clear hz hs0 h10 s0 s1 s2 s3 s4 s5 s6 s7
            go_loopw [193] (fun i w4 => ∃ j : Nat, i = .int .i64 j ∧ j ≤ 8 ∧ Blk w4 w.heap.size 156 (sArr s z j) ∧ Only w.heap.size wr w4) (fun i _ => 8 - (intOf i).toNat)
            case atStart => exact ⟨0, rfl, by omega, Hs0.out.drewN _, (Only.refl _ _).drewN _⟩
            case round =>
              obtain ⟨j, rfl, hj, hb5, ho5⟩ := hrel
              by_cases h8 : j < 8
              · have hx := fun W => run_index8 z j h8 W
                have hc := (hb5.cell j).trans (by rw [sArr_at _ _ _ _ h8, if_neg (by omega)])
                have hf := hb5.frozen j
                have Hb5 := Lib.hid hb5
                have Ho5 := Lib.hid ho5
                clear hb5 ho5
                go_wp2
                go_roundw
                case rel => exact ⟨j + 1, by go_num, by omega, by have := Hb5.out.set_ j (.int .u32 (I32 (s.at j + z.at j))); rwa [sArr_set] at this, Ho5.out.set_ _ _⟩
                case measure => simp [intOf]; omega
              · obtain rfl : j = 8 := by omega
                have h15 := ho5.blk H10.out (by omega)
                have s0 := (hb5.cell 0).trans (sArr_at s z 8 0 (by omega))
                have s1 := (hb5.cell 1).trans (sArr_at s z 8 1 (by omega))
                have s2 := (hb5.cell 2).trans (sArr_at s z 8 2 (by omega))
                have s3 := (hb5.cell 3).trans (sArr_at s z 8 3 (by omega))
                have s4 := (hb5.cell 4).trans (sArr_at s z 8 4 (by omega))
                have s5 := (hb5.cell 5).trans (sArr_at s z 8 5 (by omega))
                have s6 := (hb5.cell 6).trans (sArr_at s z 8 6 (by omega))
                have s7 := (hb5.cell 7).trans (sArr_at s z 8 7 (by omega))
                simp only [if_pos (show 0 < 8 by omega), if_pos (show 1 < 8 by omega), if_pos (show 2 < 8 by omega), if_pos (show 3 < 8 by omega), if_pos (show 4 < 8 by omega), if_pos (show 5 < 8 by omega), if_pos (show 6 < 8 by omega), if_pos (show 7 < 8 by omega)] at s0 s1 s2 s3 s4 s5 s6 s7
                have r0 := h15.cell 0
                have r1 := h15.cell 1
                have r2 := h15.cell 2
                have r3 := h15.cell 3
                have r4 := h15.cell 4
                have r5 := h15.cell 5
                have r6 := h15.cell 6
                have r7 := h15.cell 7
                simp only [List.getElem?_toArray, List.getElem?_cons_zero, List.getElem?_cons_succ] at r0 r1 r2 r3 r4 r5 r6 r7
                have q0 := h15.frozen 0
                have q1 := h15.frozen 1
                have q2 := h15.frozen 2
                have q3 := h15.frozen 3
                have q4 := h15.frozen 4
                have q5 := h15.frozen 5
                have q6 := h15.frozen 6
                have q7 := h15.frozen 7
                have H15 := Lib.hid h15
                have Hb5 := Lib.hid hb5
                have Ho5 := Lib.hid ho5
                clear hb5 ho5 h15
                go_wp2
                refine abs_post ?_
                intro W hW
                have hF : Blk W (w.heap.size + 1) 156 #[.int .u32 (I32 (s.at 0 + z.at 0)), .int .u32 (I32 (s.at 1 + z.at 1)), .int .u32 (I32 (s.at 2 + z.at 2)), .int .u32 (I32 (s.at 3 + z.at 3)), .int .u32 (I32 (s.at 4 + z.at 4)), .int .u32 (I32 (s.at 5 + z.at 5)), .int .u32 (I32 (s.at 6 + z.at 6)), .int .u32 (I32 (s.at 7 + z.at 7))] := by
                  rw [hW]; exact (((((((H15.out.set_ 0 _).set_ 1 _).set_ 2 _).set_ 3 _).set_ 4 _).set_ 5 _).set_ 6 _).set_ 7 _
                have hB : Below w.heap.size w W := by
                  have hb0 : Below w.heap.size w wr := Hl.out.trans ((Ho.out.below (by omega) (Nat.le_of_lt (Nat.lt_trans (Nat.lt_succ_self _) H1.out.lt))).trans (Ho5.out.below (Nat.le_refl _) (Nat.le_of_lt (Nat.lt_trans (Nat.lt_succ_self _) H10.out.lt))))
                  rw [hW]; exact below_set (below_set (below_set (below_set (below_set (below_set (below_set (below_set hb0 (by omega) _ _) (by omega) _ _) (by omega) _ _) (by omega) _ _) (by omega) _ _) (by omega) _ _) (by omega) _ _) (by omega) _ _
                clear hW r0 r1 r2 r3 r4 r5 r6 r7 q0 q1 q2 q3 q4 q5 q6 q7 s0 s1 s2 s3 s4 s5 s6 s7
                have r0 := hF.cell 0
                have r1 := hF.cell 1
                have r2 := hF.cell 2
                have r3 := hF.cell 3
                have r4 := hF.cell 4
                have r5 := hF.cell 5
                have r6 := hF.cell 6
                have r7 := hF.cell 7
                simp only [List.getElem?_toArray, List.getElem?_cons_zero, List.getElem?_cons_succ] at r0 r1 r2 r3 r4 r5 r6 r7
                have hm : mixS ks s bs = s.add z := by unfold mixS; rw [Hz.out]
                refine bodyPost_ret (v := agg8 (s.add z)) ?_ rfl ⟨by rw [hm]; rfl, hB⟩
                simp [results, Try.results97, go_sem, agg8, r0, r1, r2, r3, r4, r5, r6, r7]
                exact ⟨rfl, rfl, rfl, rfl, rfl, rfl, rfl, rfl⟩

end Go.Proofs.Ytgkhdpplmdkkaaa
