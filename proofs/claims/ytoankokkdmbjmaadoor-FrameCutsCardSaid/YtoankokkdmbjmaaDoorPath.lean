/- The contracts of path.Name and path.Good: a text is a path just if it has at most 32 bytes and each piece between its strokes is a name. -/
import Derived.Test.YtoankokkdmbjmaaDoorShelf
import Derived.Laws.RangeAny
import Derived.WalkKit
import Derived.KernelRfl
import Derived.Lib.Hide
import Derived.Lib.SplitLaws
import Derived.Below
import Derived.Deep.Draws
import Derived.Deep.QuietTactic
import Derived.BigQuiet
namespace Go.Proofs
open Go.Shelf Go.RowKit Go.Lib

/-- strings.Split at a stroke: no fact about the library's variables is asked, for the separator is one byte. -/
theorem split_stroke {P : Program} {ρ : Ren} (L : Lays.n146 P ρ) (hi9 : (P.info? (ρ.t 9)).map (fun i => (i.zero, i.size, i.bytes)) = some (some (.string ByteArray.empty), 1, 16)) (s : ByteArray) (c : UInt8) (w : World) (hs : s.size < 4294967281) :
    Calls P (ρ.f 146) #[.string s, .string ⟨#[c]⟩] w fun e w' =>
      e = .returned (.slice (some ⟨w.heap.size, 0, none⟩) (Lib.countB s ⟨#[c]⟩ + 1) (Lib.countB s ⟨#[c]⟩ + 1)) ∧ w' = w.alloc (.cells ((Lib.splitB ⟨#[c]⟩ 0 (Lib.countB s ⟨#[c]⟩) s).map Value.string).toArray (ρ.t 9)) := by
  have h1 : 1 ≤ (⟨#[c]⟩ : ByteArray).size := Nat.le_refl 1
  have hle := Lib.countB_le ⟨#[c]⟩ h1 s.size s (Nat.le_refl _)
  have hlen := Lib.splitB_all ⟨#[c]⟩ h1 0 _ s rfl
  have hI : ∀ (x : ByteArray) (a : Array Value), x.size ≤ s.size → Calls P (ρ.f 143) #[.string x, .string ⟨#[c]⟩] (w.alloc (.cells a (ρ.t 9))) fun e w' => e = .returned (.int .i64 (Lib.indexB x ⟨#[c]⟩)) ∧ w' = w.alloc (.cells a (ρ.t 9)) := fun x a _ => by
    refine (Any.strings_Index_one { L with } x c _).mono fun e w' ⟨he, hw⟩ => ⟨?_, hw⟩
    rw [he]
    show _ = Ending.returned (Value.int .i64 (Lib.index x.data.toList [c]))
    rw [Lib.index_one]
  have hC : Calls P (ρ.f 138) #[.string s, .string ⟨#[c]⟩] w fun e w' => e = .returned (.int .i64 (Lib.countB s ⟨#[c]⟩)) ∧ w' = w := by
    refine (Any.strings_Count_one { L with } s c w).mono fun e w' ⟨he, hw⟩ => ⟨?_, hw⟩
    rw [he]
    show _ = Ending.returned (Value.int .i64 ((Lib.count s.data.toList [c] : Nat) : Int))
    rw [Lib.count_one]
    rfl
  have k := Any.strings_genSplit_core { L with } hi9 s ⟨#[c]⟩ 0 (-1) (Lib.countB s ⟨#[c]⟩ + 1) w hs h1 (Nat.zero_le _) hI hC (by decide) (by decide) (by rw [if_pos (by decide)]; omega)
  rw [Nat.add_sub_cancel, hlen] at k
  have e2 : Lib.cellsOf (Lib.splitB ⟨#[c]⟩ 0 (Lib.countB s ⟨#[c]⟩) s) (Lib.countB s ⟨#[c]⟩ + 1) = ((Lib.splitB ⟨#[c]⟩ 0 (Lib.countB s ⟨#[c]⟩) s).map Value.string).toArray := by rw [← hlen]; exact Lib.cellsOf_full _
  rw [e2] at k
  have t3 := L.t3; have t9 := L.t9; have t31 := L.t31
  have a3 := L.a3; have a9 := L.a9; have a31 := L.a31
  have z3 := L.z3; have v3 := L.v3; have z9 := L.z9; have v9 := L.v9; have z31 := L.z31; have v31 := L.v31
  have e221 : ∀ args w, (callFunc (ρ.f 221) args).run P w = .ok (.enter (ρ.f 221) args) w := enters_of L.f221 (by kernel_rfl) rfl
  go_enter L.f146, Body.n146_ntmps ρ
  go_wp2_with (go_at_fn (ρ.f 221); refine k.mono ?_; rintro e w' ⟨rfl, hw⟩; rw [hw])
  go_ret
  exact ⟨rfl, rfl⟩

end Go.Proofs
namespace Go.Proofs.YtoankokkdmbjmaaDoor
open Go.RowKit Go.Lib

/-- may a byte stand in a name? -/
def okB (b : UInt8) : Bool := (decide (97 ≤ b.toNat) && decide (b.toNat ≤ 122)) || (decide (48 ≤ b.toNat) && decide (b.toNat ≤ 57)) || b.toNat == 45 || b.toNat == 95 || b.toNat == 46
/-- is a text a name? -/
def nameB (s : List UInt8) : Bool := decide (1 ≤ s.length) && decide (s.length ≤ 12) && !(s == [46]) && !(s == [46, 46]) && s.all okB
def okI (n : Int) : Bool := (decide (97 ≤ n) && decide (n ≤ 122)) || (decide (48 ≤ n) && decide (n ≤ 57)) || n == 45 || n == 95 || n == 46
theorem okB_okI (b : UInt8) : okB b = okI (b.toNat : Int) := by
  simp only [okB, okI]
  rw [Bool.eq_iff_iff]
  simp
  omega
theorem okI_true {n : Int} (h : okI n = true) : (97 ≤ n ∧ n ≤ 122) ∨ (¬ 97 ≤ n ∧ 48 ≤ n ∧ n ≤ 57) ∨ n = 45 ∨ n = 95 ∨ n = 46 := by
  simp [okI] at h
  omega
theorem okI_false {n : Int} (h : okI n = false) : (n < 97 ∧ n < 48 ∧ ¬ n = 45 ∧ ¬ n = 95 ∧ ¬ n = 46) ∨ (n < 97 ∧ (¬ n < 48 ∧ 57 < n) ∧ ¬ n = 45 ∧ ¬ n = 95 ∧ ¬ n = 46) ∨ ((¬ n < 97 ∧ 122 < n) ∧ (¬ n < 48 ∧ 57 < n) ∧ ¬ n = 45 ∧ ¬ n = 95 ∧ ¬ n = 46) := by
  simp [okI] at h
  omega
theorem width_any (s : ByteArray) (pos : Nat) (h : pos < s.size) : 1 ≤ (Utf8.decode s pos).2 := by
  by_cases ha : (s[pos]'h).toNat < 128
  · rw [decode_ascii s pos h ha]; exact Nat.le_refl 1
  · exact (decode_high s pos h (by omega)).2
theorem iterPos_iter' (w : World) (s : ByteArray) (p : Nat) : (w.iter s p).iterPos w.heap.size = p := World.iterPos_iter w s p

set_option maxRecDepth 100000 in
set_option maxHeartbeats 2000000 in
theorem name_any (s : ByteArray) (w : World) :
    Calls Tryd.prog 84 #[.string s] w fun e w' => e = .returned (.bool (nameB s.data.toList)) ∧ Below w.heap.size w w' := by
  have hsz : s.data.toList.length = s.size := rfl
  obtain ⟨R, hR⟩ : ∃ R, R = nameB s.data.toList := ⟨_, rfl⟩
  rw [← hR]
  have HR := Lib.hid hR
  clear hR
  by_cases h1 : s.size < 1
  · have d1 : decide ((s.size : Int) < 1) = true := decide_eq_true (by omega)
    go_enter Tryd.func84, Tryd.ntmps84
    go_wp2
    go_ret
    refine ⟨?_, Below.refl _ _⟩
    rw [HR.out, nameB, show decide (1 ≤ s.data.toList.length) = false from decide_eq_false (by omega)]; rfl
  have n1 : ¬ (s.size : Int) < 1 := by omega
  by_cases h2 : 12 < s.size
  · have n2 : (12 : Int) < (s.size : Int) := by omega
    go_enter Tryd.func84, Tryd.ntmps84
    go_wp2
    go_ret
    refine ⟨?_, Below.refl _ _⟩
    rw [HR.out, nameB, show decide (s.data.toList.length ≤ 12) = false from decide_eq_false (by omega)]; simp
  have n2 : ¬ (12 : Int) < (s.size : Int) := by omega
  by_cases h3 : s.data.toList = [46]
  · have e3 : (s.toList == [46]) = true := by rw [ByteArray.toList_eq]; exact beq_iff_eq.2 h3
    go_enter Tryd.func84, Tryd.ntmps84
    go_wp2
    go_ret
    exact ⟨by rw [HR.out, h3]; rfl, Below.refl _ _⟩
  have e3 : (s.toList == [46]) = false := by rw [ByteArray.toList_eq]; exact beq_eq_false_iff_ne.2 h3
  by_cases h4 : s.data.toList = [46, 46]
  · have e4 : (s.toList == [46, 46]) = true := by rw [ByteArray.toList_eq]; exact beq_iff_eq.2 h4
    go_enter Tryd.func84, Tryd.ntmps84
    go_wp2
    go_ret
    exact ⟨by rw [HR.out, h4]; rfl, Below.refl _ _⟩
  have e4 : (s.toList == [46, 46]) = false := by rw [ByteArray.toList_eq]; exact beq_eq_false_iff_ne.2 h4
  have hall : R = s.data.toList.all okB := by
    rw [HR.out, nameB, show decide (1 ≤ s.data.toList.length) = true from decide_eq_true (by omega), show decide (s.data.toList.length ≤ 12) = true from decide_eq_true (by omega)]
    rw [show (s.data.toList == [46]) = false from beq_eq_false_iff_ne.2 h3, show (s.data.toList == [46, 46]) = false from beq_eq_false_iff_ne.2 h4]; rfl
  have HA := Lib.hid hall
  clear hall
  go_enter Tryd.func84, Tryd.ntmps84
  go_wp2
  go_loopw [] (fun w' => ∃ pos : Nat, w' = w.iter s pos ∧ Hid ((s.data.toList.drop pos).all okB = R)) (fun w' => s.size - w'.iterPos w.heap.size)
  case atStart => exact ⟨0, rfl, Lib.hid HA.out.symm⟩
  case round =>
    obtain ⟨pos, rfl, HP⟩ := hrel
    by_cases hp : pos < s.size
    · have hlt : pos < s.data.toList.length := hp
      have hdrop : s.data.toList.drop pos = s[pos] :: s.data.toList.drop (pos + 1) := List.drop_eq_getElem_cons hlt
      have HS  := Lib.hid (show (okB s[pos] && (s.data.toList.drop (pos + 1)).all okB) = R by rw [← HP.out, hdrop, List.all_cons])
      clear hdrop
      have hnx := fun ty => run_next_any (P := Tryd.prog) w s pos ty hp
      by_cases ha : (s[pos]'hp).toNat < 128
      · rw [decode_ascii s pos hp ha] at hnx
        generalize hb : s[pos]'hp = b at *
        have hok : okB b = okI (b.toNat : Int) := okB_okI b
        have HO := Lib.hid hok
        clear hok
        generalize hn : ((b.toNat : Nat) : Int) = n at *
        clear hn hb
        by_cases g : okI n = true
        · rcases okI_true g with ⟨c1, c2⟩ | ⟨c1, c2, c3⟩ | c1 | c1 | c1
          all_goals
            go_wp2
            go_roundw
            case rel => exact ⟨pos + 1, rfl, Lib.hid (by rw [← HS.out, HO.out, g]; rfl)⟩
            case measure => rw [iterPos_iter', iterPos_iter']; omega
        · have hg : okI n = false := by cases h : okI n <;> simp_all
          have hRf : R = false := by rw [← HS.out, HO.out, hg]; rfl
          rcases okI_false hg with ⟨c1, c2, c3, c4, c5⟩ | ⟨c1, c2, c3, c4, c5⟩ | ⟨c1, c2, c3, c4, c5⟩
          all_goals
            have b3 : (n != 45) = true := bne_iff_ne.2 c3
            have b4 : (n != 95) = true := bne_iff_ne.2 c4
            have b5 : (n != 46) = true := bne_iff_ne.2 c5
            go_wp2
            go_ret
            exact ⟨rfl, (Below.refl w.heap.size w).alloc (Nat.le_refl _) _⟩
      · have hbad : okB s[pos] = false := by
          have := okB_okI s[pos]
          rw [this]
          cases h : okI ((s[pos]'hp).toNat : Int)
          · rfl
          · have := okI_true h; omega
        have hRf : R = false := by rw [← HS.out, hbad]; rfl
        obtain ⟨hge, _⟩ := decode_high s pos hp (by omega)
        generalize (Utf8.decode s pos).2 = q at *
        generalize (Utf8.decode s pos).1 = m at *
        obtain ⟨n, hn⟩ : ∃ n : Int, n = (m : Int) := ⟨_, rfl⟩
        rw [← hn] at hnx
        have c1 : ¬ n < 97 := by omega
        have c1' : (122 : Int) < n := by omega
        have c2 : ¬ n < 48 := by omega
        have c2' : (57 : Int) < n := by omega
        have c3 : ¬ n = 45 := by omega
        have c4 : ¬ n = 95 := by omega
        have c5 : ¬ n = 46 := by omega
        have b3 : (n != 45) = true := bne_iff_ne.2 c3
        have b4 : (n != 95) = true := bne_iff_ne.2 c4
        have b5 : (n != 46) = true := bne_iff_ne.2 c5
        clear hn hge
        go_wp2
        go_ret
        exact ⟨rfl, (Below.refl w.heap.size w).alloc (Nat.le_refl _) _⟩
    · have hRt : R = true := by rw [← HP.out, List.drop_eq_nil_of_le (show s.data.toList.length ≤ pos by omega)]; rfl
      have hnx := fun ty => run_next_end (P := Tryd.prog) w s pos ty hp
      go_wp2
      go_ret
      exact ⟨by rw [hRt]; rfl, (Below.refl w.heap.size w).alloc (Nat.le_refl _) _⟩

/-- a text's pieces between the strokes -/
def pieces (s : ByteArray) : List ByteArray := Lib.splitB ⟨#[47]⟩ 0 (Lib.countB s ⟨#[47]⟩) s
/-- is a text a path? -/
def goodB (s : ByteArray) : Bool := decide (1 ≤ s.size) && decide (s.size ≤ 32) && (pieces s).all fun x => nameB x.data.toList
theorem pieces_len (s : ByteArray) : (pieces s).length = Lib.countB s ⟨#[47]⟩ + 1 := Lib.splitB_all ⟨#[47]⟩ (Nat.le_refl 1) 0 _ s rfl
theorem split_any (s : ByteArray) (w : World) (hs : s.size ≤ 32) :
    Calls Tryd.prog 96 #[.string s, .string ⟨#[47]⟩] w fun e w' =>
      e = .returned (.slice (some ⟨w.heap.size, 0, none⟩) (pieces s).length (pieces s).length) ∧ w' = w.alloc (.cells ((pieces s).map Value.string).toArray 9) := by
  rw [pieces_len]
  exact split_stroke Tryd.lays146 (by kernel_rfl) s 47 w (by omega)
set_option maxRecDepth 10000 in
theorem cell_pieces (w : World) (l : List ByteArray) (t : TypeId) (i : Nat) (h : i < l.length) : (w.alloc (.cells (l.map Value.string).toArray t)).cell? ⟨w.heap.size, i, none⟩ = some (.string l[i]) := by
  have hb : (w.alloc (.cells (l.map Value.string).toArray t)).heap[w.heap.size]? = some (.cells (l.map Value.string).toArray t) := heap_alloc_new w _
  simp only [World.cell?, hb]
  simp [h]

set_option maxRecDepth 100000 in
set_option maxHeartbeats 2000000 in
theorem good_any (s : ByteArray) (w : World) :
    Calls Tryd.prog 70 #[.string s] w fun e w' => e = .returned (.bool (goodB s)) ∧ Below w.heap.size w w' := by
  obtain ⟨R, hR⟩ : ∃ R, R = goodB s := ⟨_, rfl⟩
  rw [← hR]
  have HR := Lib.hid hR
  clear hR
  by_cases h1 : s.size < 1
  · have d1 : decide ((s.size : Int) < 1) = true := decide_eq_true (by omega)
    go_enter Tryd.func70, Tryd.ntmps70
    go_wp2
    go_ret
    refine ⟨?_, Below.refl _ _⟩
    rw [HR.out, goodB, show decide (1 ≤ s.size) = false from decide_eq_false (by omega)]; rfl
  have n1 : ¬ (s.size : Int) < 1 := by omega
  by_cases h2 : 32 < s.size
  · have n2 : (32 : Int) < (s.size : Int) := by omega
    go_enter Tryd.func70, Tryd.ntmps70
    go_wp2
    go_ret
    refine ⟨?_, Below.refl _ _⟩
    rw [HR.out, goodB, show decide (s.size ≤ 32) = false from decide_eq_false (by omega)]; simp
  have n2 : ¬ (32 : Int) < (s.size : Int) := by omega
  have hall : R = (pieces s).all fun x => nameB x.data.toList := by
    rw [HR.out, goodB, show decide (1 ≤ s.size) = true from decide_eq_true (by omega), show decide (s.size ≤ 32) = true from decide_eq_true (by omega)]; rfl
  have HA := Lib.hid hall
  have hsp := split_any s w (by omega)
  clear hall
  have hpl : (pieces s).length ≤ 100 := by
    rw [pieces_len]
    have := Lib.countB_le ⟨#[47]⟩ (Nat.le_refl 1) s.size s (Nat.le_refl _)
    omega
  have hcell := cell_pieces w (pieces s) 9
  generalize pieces s = ps at *
  obtain ⟨w2, hw2⟩ : ∃ w2, w2 = w.alloc (.cells (ps.map Value.string).toArray 9) := ⟨_, rfl⟩
  rw [← hw2] at hsp hcell
  have hs2 : w2.heap.size = w.heap.size + 1 := by rw [hw2]; simp
  have hb2 : Below w.heap.size w w2 := by rw [hw2]; exact (Below.refl w.heap.size w).alloc (Nat.le_refl _) _
  have HB2 := Lib.hid hb2
  clear hw2 hb2
  go_enter Tryd.func70, Tryd.ntmps70
  go_wp2_with (go_at_call 96; refine hsp.mono ?_; rintro e w' ⟨rfl, hw'⟩; rw [hw']; clear hw')
  go_loopw [16] (fun ix wr => ∃ i : Nat, ix = .int .i64 i ∧ i ≤ ps.length ∧ Hid (((ps.drop i).all fun x => nameB x.data.toList) = R) ∧ Below w2.heap.size w2 wr) (fun ix _ => ps.length - (RowKit.intOf ix).toNat)
  case atStart => exact ⟨0, rfl, Nat.zero_le _, Lib.hid HA.out.symm, Below.refl _ _⟩
  case round =>
    obtain ⟨i, rfl, hi, HP, hl⟩ := hrel
    by_cases hlt : i < ps.length
    · have hc : wr.cell? ⟨w.heap.size, i, none⟩ = some (.string ps[i]) := (hl.cell (p := ⟨w.heap.size, i, none⟩) (show w.heap.size < w2.heap.size by omega)).trans (hcell i hlt)
      have hdrop : ps.drop i = ps[i] :: ps.drop (i + 1) := List.drop_eq_getElem_cons hlt
      have HS := Lib.hid (show (nameB ps[i].data.toList && (ps.drop (i + 1)).all fun x => nameB x.data.toList) = R by rw [← HP.out, hdrop, List.all_cons])
      clear hdrop
      have HL := Lib.hid hl
      clear hl hcell
      generalize ps[i] = x at *
      cases hb : nameB x.data.toList
      · have HN := Lib.hid (show false = R by rw [← HS.out, hb]; rfl)
        go_wp2_with (go_at_call 84; refine (name_any x _).mono ?_; rintro e w3 ⟨rfl, hl3⟩; rw [hb])
        go_ret
        exact ⟨by rw [← HN.out]; rfl, HB2.out.trans (((HL.out).trans (hl3.mono HL.out.size)).mono (by omega))⟩
      · go_wp2_with (go_at_call 84; refine (name_any x _).mono ?_; rintro e w3 ⟨rfl, hl3⟩; rw [hb])
        go_roundw
        case rel => exact ⟨i + 1, by go_num, by omega, Lib.hid (by rw [← HS.out, hb]; rfl), HL.out.trans (hl3.mono HL.out.size)⟩
        case measure => simp [RowKit.intOf]; omega
    · have HL := Lib.hid hl
      have HN := Lib.hid (show true = R by rw [← HP.out, List.drop_eq_nil_of_le (by omega)]; rfl)
      go_wp2
      go_ret
      exact ⟨by rw [← HN.out]; rfl, HB2.out.trans (HL.out.mono (by omega))⟩

end Go.Proofs.YtoankokkdmbjmaaDoor
