/- The walk of the law DeskProves. -/
import Derived.Test.YtgkhdpplmdkkaaaDp
namespace Go.Proofs.Ytgkhdpplmdkkaaa.Dp
open Go.RowKit Go.Proofs.YtgkhdpplmdkkaaaH.HDeskProves Go.Proofs.YtgkhdpplmdkkaaaW.PrintWords Go.Proofs.YtgkhdpplmdkkaaaW.PrintLast Go.Proofs.YtgkhdpplmdkkaaaW.PrintMore

/-! ### A region that draws its order, by its table -/
theorem sA_ (l : List Value) (i : Nat) (a : Value) : l.toArray.setIfInBounds i a = (l.set i a).toArray := by simp
theorem sB_ (x a : Value) (l : List Value) : (x :: l).set 0 a = a :: l := rfl
theorem sC_ (x a : Value) (l : List Value) (n : Nat) : (x :: l).set (n + 1) a = x :: l.set n a := rfl
def Rn_ : List Nat → List Bool
  | [] => []
  | [a] => List.replicate a true
  | a :: b :: l => List.replicate a true ++ (List.replicate b false ++ Rn_ l)
abbrev Ra_ (l : List Nat) : Array Bool := (Rn_ l).toArray
theorem pI_ {P : Program} {md : Region.Mode} {ops : Array Oper} {Q : Exit → Act → World → Prop} {S : World → Prop} {ds : List Nat} {oi : Oper} {v : Value} {fuel : Nat} {l : Array Bool} {a a' : Act} {w : World} (i : Nat) (N : Option Tmp) (l' : Array Bool)
    (hi : ops[i]? = some oi := by rfl) (hN : oi.dst = N := by rfl) (hc : anyB md ops l l' i = true := by exact any_of HT_.out (by kernel_rfl)) (hQ : ∀ c a w, Q (.panic c) (a.put oi.dst v) w → Q (.panic c) a w := by exact fun _ _ _ h => h)
    (hy : Yields P ops oi v a := by exact Or.inl ⟨by rfl, by intro w'; go_simp; with_reducible rfl⟩) (ha : a.put N v = a' := by simp only [Act.put, sA_, sB_, sC_, i64_w, i32_w]; rfl)
    (h : wpAnyLast P md ops Q S ds fuel l' a' w) : wpAnyLast P md ops Q S ds (fuel + 1) l a w := pure_ l' hi hN hc hQ hy ha h
theorem tI4_ {P : Program} {md : Region.Mode} {ops : Array Oper} {Q : Exit → Act → World → Prop} {S : World → Prop} {ds : List Nat} {oi : Oper} {v : Value} {fuel : Nat} {l : Array Bool} {a a' : Act} {w : World} (i : Nat) (N : Option Tmp) (l' : Array Bool)
    (hi : ops[i]? = some oi := by rfl) (hN : oi.dst = N := by rfl) (hc : takeB md ops ds l l' i = true := by exact take_ofW HT_.out HW_.out (by kernel_rfl)) (hQ : ∀ c a w, Q (.panic c) (a.put oi.dst v) w → Q (.panic c) a w := by exact fun _ _ _ h => h)
    (hS : S w := by exact hHeld) (hy : YieldsIf P ops S oi v a := by exact Or.inl ⟨by rfl, by rintro w' ⟨s0, s1, s2, s3⟩; go_simp; with_reducible rfl⟩) (ha : a.put N v = a' := by simp only [Act.put, sA_, sB_, sC_, i64_w, i32_w]; rfl)
    (h : wpAnyLast P md ops Q S ds fuel l' a' w) : wpAnyLast P md ops Q S ds (fuel + 1) l a w := take_ l' hi hN hc hQ hy hS ha h
def T16 : Bool × List (List Nat × List Nat) := (true, [([], []), ([0], [0]), ([1], [1]), ([2], [2]), ([3, 2], [2, 3]), ([2, 4], [2, 4]), ([5, 2], [5]), ([6], [6]), ([7, 6], [6, 7]), ([8, 6], [6, 8]), ([6, 9], [6, 9]), ([10, 6], [10]), ([11], [11]), ([12, 11], [11, 12]), ([13, 11], [11, 13]), ([11], [11]), ([14, 15, 11], [11, 14, 15]), ([11, 16], [11, 16]), ([17, 11], [17]), ([18], [18]), ([19, 18], [18, 19]), ([18, 20], [18, 20]), ([21, 18], [21]), ([22, 22], [22]), ([22, 23], [22, 23]), ([24, 23, 0, 1, 2, 3, 4, 5, 6, 7, 8, 9, 10, 11, 12, 13, 14, 15, 16, 17, 18, 19, 20, 21, 22, 23, 24], [24])])
def B16 : List Nat := [0, 1, 3, 7, 15, 31, 63, 127, 255, 511, 1023, 2047, 4095, 8191, 16383, 4095, 65535, 131071, 262143, 524287, 1048575, 2097151, 4194303, 8388607, 16777215, 33554431]
theorem tab16 : rtab .any (opsOf Try.f9 16) = T16 := by kernel_rfl
theorem bits16 : waitsOk T16.2 B16 = true := by kernel_rfl

set_option maxRecDepth 100000 in
theorem Zs_ses (t : Nat) (ht : t < 8) (s : Nat) (hs : s < 4) : (Zs 32).toArray[t * 28 + s * 7 + 2]? = some (.bool false) ∧ (Zs 32).toArray[t * 28 + s * 7 + 6]? = some (.slice none 0 0) ∧ t * 28 + s * 7 + 6 < (Zs 32).toArray.size := by
  have h : t = 0 ∨ t = 1 ∨ t = 2 ∨ t = 3 ∨ t = 4 ∨ t = 5 ∨ t = 6 ∨ t = 7 := by omega
  have h' : s = 0 ∨ s = 1 ∨ s = 2 ∨ s = 3 := by omega
  rcases h with rfl | rfl | rfl | rfl | rfl | rfl | rfl | rfl <;> rcases h' with rfl | rfl | rfl | rfl <;> exact ⟨rfl, rfl, by decide⟩

theorem clA_at (cs : Array Value) (o : Nat) (su no : ByteArray) (v : Value) (h : o + 6 < cs.size) :
    (clA cs o su no v)[o + 2]? = some (.bool true) ∧ (clA cs o su no v)[o + 3]? = some (.string su) ∧ (clA cs o su no v)[o + 4]? = some (.string no) ∧ (clA cs o su no v)[o + 5]? = some v ∧ (clA cs o su no v)[o + 6]? = cs[o + 6]? := by
  unfold clA
  refine ⟨?_, ?_, ?_, ?_, ?_⟩
  · rw [Array.getElem?_setIfInBounds_ne (by omega), Array.getElem?_setIfInBounds_ne (by omega), Array.getElem?_setIfInBounds_ne (by omega), Array.getElem?_setIfInBounds_self_of_lt (by omega)]
  · rw [Array.getElem?_setIfInBounds_ne (by omega), Array.getElem?_setIfInBounds_ne (by omega), Array.getElem?_setIfInBounds_self_of_lt (by simp; omega)]
  · rw [Array.getElem?_setIfInBounds_ne (by omega), Array.getElem?_setIfInBounds_self_of_lt (by simp; omega)]
  · rw [Array.getElem?_setIfInBounds_self_of_lt (by simp; omega)]
  · rw [Array.getElem?_setIfInBounds_ne (by omega), Array.getElem?_setIfInBounds_ne (by omega), Array.getElem?_setIfInBounds_ne (by omega), Array.getElem?_setIfInBounds_ne (by omega)]
theorem clB_two (cs : Array Value) (o : Nat) (v : Value) (h : o + 6 < cs.size) : ((clB cs o).setIfInBounds (o + 6) v)[o + 2]? = some (.bool false) ∧ ((clB cs o).setIfInBounds (o + 6) v)[o + 6]? = some v ∧ (((clB cs o).setIfInBounds (o + 6) v).setIfInBounds (o + 6) (.slice none 0 0))[o + 6]? = some (.slice none 0 0) := by
  unfold clB
  refine ⟨?_, ?_, ?_⟩
  · rw [Array.getElem?_setIfInBounds_ne (by omega), Array.getElem?_setIfInBounds_ne (by omega), Array.getElem?_setIfInBounds_ne (by omega), Array.getElem?_setIfInBounds_ne (by omega), Array.getElem?_setIfInBounds_self_of_lt (by omega)]
  · rw [Array.getElem?_setIfInBounds_self_of_lt (by simp; omega)]
  · rw [Array.getElem?_setIfInBounds_self_of_lt (by simp; omega)]
theorem clA_size (cs : Array Value) (o : Nat) (su no : ByteArray) (v : Value) : (clA cs o su no v).size = cs.size := by simp [clA]
/-- the first place of a kind -/
theorem first_at (P : Nat → Prop) : ∀ m, P m → ∃ j, j ≤ m ∧ P j ∧ ∀ i, i < j → ¬ P i := by
  intro m
  induction m using Nat.strongRecOn with
  | _ m ih =>
    intro hm
    by_cases h : ∃ i, i < m ∧ P i
    · obtain ⟨i, hi, hp⟩ := h
      obtain ⟨j, hj, h1, h2⟩ := ih i hi hp
      exact ⟨j, by omega, h1, h2⟩
    · exact ⟨m, Nat.le_refl _, hm, fun i hi hp => h ⟨i, hi, hp⟩⟩

set_option maxHeartbeats 4000000 in
set_option maxRecDepth 100000 in
theorem proves_walk (t s n : Int) (x0 x1 : ByteArray) (A : Option Addr) (c : Nat) (xs : List ByteArray) (w : World) (k : Nat) (r : Bool) (hx : Kd.C Kd.string w A xs.length xs) (hc : xs.length ≤ c)
    (hl : strongroomlaw27_light.f k 0 0 0 0 0 x0 x1 false xs = some r)
    (hD : r = true → 1 ≤ x0.size → x0.size ≤ 32 → ∃ k no sl, desk_Draw.f k x0 x1 = some (x0, no, sl) ∧ desk_copied.f x0 no sl = some (x0, no, sl) ∧ ∃ pf : ByteArray → ByteArray, ∀ x ∈ xs, ∃ k, desk_Proof.f k x0 no sl x = some (pf x))
    (hI : r = true → xs.length ≤ 1000 ∧ ∃ k ys, strongroomlaw27_ids.f k xs.length = some ys ∧ ys.length = xs.length ∧ ∀ j, j < xs.length → (ys.getD j z74).f1 = j) :
    Calls Try.prog 9 #[.agg #[.int .i64 t, .int .i64 s, .int .i64 n], .agg #[.string x0, .string x1], .slice A xs.length c] w fun e w' => e = .returned (.bool true) ∧ Below w.heap.size w w' := by
  have HX := Lib.hid hx
  have HL := Lib.hid hl
  have HD := Lib.hid hD
  have HI := Lib.hid hI
  clear hx hl hD hI
  go_enter Try.func9, Try.ntmps9
  go_wp2_with fail
  go_region
  refine abs_then ?_
  intro w1 hw1
  have hl1 : Below w.heap.size w w1 := by rw [hw1]; exact (((Below.refl _ _).alloc (Nat.le_refl _) _).alloc (by simp) _).drew
  have hT1 : Blk w1 (w.heap.size + 1) 66 #[.string x0, .string x1] := by rw [hw1]; exact (Blk.new_at _ _ _ _ _ (by simp) rfl).drew
  have d0 := hT1.cell 0
  have d1 := hT1.cell 1
  have HL1 := Lib.hid hl1
  have HT1 := Lib.hid hT1
  have hlt1 := hT1.lt
  clear hw1 hl1 hT1
  go_wp2_with fail
  refine (strongroomlaw27_light.calls k 0 0 0 0 0 x0 x1 false A c xs r _ (Kd.C_below HX.out (HL1.out.alloc HL1.out.size _)) hc HL.out).mono ?_
  rintro e w2 ⟨rfl, hb2⟩
  have hl2 : Below w.heap.size w w2 := (HL1.out.alloc HL1.out.size _).trans (hb2.mono (HL1.out.alloc HL1.out.size _).size)
  have hT2 : Blk w2 (w.heap.size + 1) 66 #[.string x0, .string x1] := (HT1.out.alloc _).below hb2 (HT1.out.alloc _).lt
  have HL2 := Lib.hid hl2
  have HT2 := Lib.hid hT2
  clear hb2 hl2 hT2 d0 d1 HL1 HT1 hlt1
  cases r
  case false =>
    go_wp2_with (go_at_call 16; refine (lives_any _).mono ?_; rintro e w' ⟨rfl, hl⟩)
    go_ret
    exact ⟨rfl, HL2.out.trans ((‹Below w2.heap.size w2 _›).mono HL2.out.size)⟩
  by_cases his : 1 ≤ t ∧ t ≤ 8 ∧ 0 ≤ s ∧ s ≤ 3
  case neg =>
    have His := Lib.hid his
    clear his
    go_wp2_with (first
      | (go_at_call 15; refine (is_no _ _ _ His.out).mono ?_; rintro e w' ⟨rfl, rfl⟩)
      | (go_at_call 16; refine (lives_any _).mono ?_; rintro e w' ⟨rfl, hl⟩))
    go_ret
    exact ⟨rfl, HL2.out.trans ((‹Below w2.heap.size w2 _›).mono HL2.out.size)⟩
  obtain ⟨h1, h2, h3, h4⟩ := his
  by_cases hn : 0 ≤ n ∧ n < xs.length
  case neg =>
    by_cases hn0 : n < 0
    all_goals
      try have hn1 : (xs.length : Int) ≤ n := by omega
      try have hn2 : 0 ≤ n := by omega
      clear hn
      go_wp2_with (first
        | (go_at_call 15; refine (is_yes _ _ _ (by omega) (by omega) (by omega) (by omega)).mono ?_; rintro e w' ⟨rfl, rfl⟩)
        | (go_at_call 16; refine (lives_any _).mono ?_; rintro e w' ⟨rfl, hl⟩))
      go_ret
      exact ⟨rfl, HL2.out.trans ((‹Below w2.heap.size w2 _›).mono HL2.out.size)⟩
  obtain ⟨hn0, hn1⟩ := hn
  go_wp2_with (go_at_call 15; refine (is_yes _ _ _ (by omega) (by omega) (by omega) (by omega)).mono ?_; rintro e w' ⟨rfl, rfl⟩)
  refine (new_any _).mono ?_
  rintro e w3 ⟨rfl, hw3⟩
  have hb3 : Blk w3 w2.heap.size 106 (Zs 32).toArray := by rw [hw3]; exact Blk.new _ _ _
  have hl3 : Below w2.heap.size w2 w3 := by rw [hw3]; exact below_allocW _ _
  have hz := Zs_ses (t.toNat - 1) (by omega) s.toNat (by omega)
  generalize ho : (t.toNat - 1) * 28 + s.toNat * 7 = o at hz
  generalize (Zs 32).toArray = cs at hb3 hz
  generalize hg : w2.heap.size = g at hb3 hl3
  have hgw : w.heap.size ≤ g := by rw [← hg]; exact HL2.out.size
  have hT3 : Blk w3 (w.heap.size + 1) 66 #[.string x0, .string x1] := HT2.out.below hl3 (by rw [← hg]; exact HT2.out.lt)
  have HB3 := Lib.hid hb3
  have HL3 := Lib.hid (HL2.out.trans (hl3.mono (by omega)))
  have HZ := Lib.hid hz
  have HT3 := Lib.hid hT3
  have d0 := hT3.cell 0
  have d1 := hT3.cell 1
  have hlt3 := hT3.lt
  clear hw3 hb3 hl3 hz hT3 HL2 HT2
  go_wp2_with fail
  obtain ⟨hxl, ki, ys, hys, hyl, hyj⟩ := HI.out trivial
  by_cases hsz : 1 ≤ x0.size ∧ x0.size ≤ 32
  case neg =>
    refine (claim_no g t s x0 x1 o _ h1 h2 h3 h4 ho (by omega)).mono ?_
    rintro e w4 ⟨rfl, hb4⟩
    have hT4 := HT3.out.below hb4 HT3.out.lt
    have e0 := hT4.cell 0
    have hlt4 := hT4.lt
    have HL4 := Lib.hid (HL3.out.trans (hb4.mono HL3.out.size))
    clear hb4 hT4 d0 d1 hlt3
    have hsz' : x0.size < 1 ∨ 32 < x0.size := by omega
    clear hsz
    rcases hsz' with hsz | hsz
    all_goals
      go_wp2_with (go_at_call 16; refine (lives_any _).mono ?_; rintro e w' ⟨rfl, hl⟩)
      go_ret
      refine ⟨?_, (HL4.out.alloc HL4.out.size _).trans ((‹Below (w4.alloc _).heap.size (w4.alloc _) _›).mono (HL4.out.alloc HL4.out.size _).size)⟩
      first | rfl | exact ret_bool (a := decide ((x0.size : Int) < 1) || decide (32 < (x0.size : Int))) (by simp; omega)
  obtain ⟨hs1, hs2⟩ := hsz
  obtain ⟨kd, no, sl, hdr, hcp, pf, hpf⟩ := HD.out trivial hs1 hs2
  refine (claim_yes g cs t s x0 x1 o kd x0 no sl _ h1 h2 h3 h4 ho hs1 hs2 hdr hcp HB3.out HZ.out.2.2).mono ?_
  rintro e w4 ⟨v1, v2, rfl, hk4, hG4, hb4, hr1, hr2⟩
  have HG4 := Lib.hid (HL3.out.trans (hG4.mono hgw))
  clear hG4
  obtain ⟨A1, n1, rfl⟩ := Kd.R_slice hr1
  obtain ⟨A2, n2, rfl⟩ := Kd.R_slice hr2
  have hkc : ∀ W', KeepBut w3 W' g none → Kd.C Kd.string W' A xs.length xs := Kd.C_foot_came Kd.heap_string HX.out HL3.out hgw
  have hg3 : g < w3.heap.size := HB3.out.lt
  have hr1' : Kd.R k42 42 w4 w3.heap.size (fun k_ => k_ ≠ g) (.slice A1 sl.length n1) sl := Kd.R_mono (Kd.R_bound hr1) (fun k_ hk_ => by have := hk_.2.1; omega)
  have hr2' : Kd.R k42 42 w4 w3.heap.size (fun k_ => k_ ≠ g) (.slice A2 sl.length n2) sl := Kd.R_mono (Kd.R_bound hr2) (fun k_ hk_ => by have := hk_.2.1; omega)
  have hf1 : ∀ W', KeepBut w4 W' g none → Kd.C k42 W' A1 sl.length sl := Kd.C_foot_own hr1' (fun _ h => h)
  have hf2 : ∀ W', KeepBut w4 W' g none → Kd.C k42 W' A2 sl.length sl := Kd.C_foot_own hr2' (fun _ h => h)
  have hc1 := (Kd.R_reads' hr1').2.1
  have hc2 := (Kd.R_reads' hr2').2.1
  obtain ⟨m, rfl⟩ : ∃ m : Nat, n = m := ⟨n.toNat, by omega⟩
  have hm : m < xs.length := by omega
  have HKC := Lib.hid hkc
  have HF1 := Lib.hid hf1
  have HF2 := Lib.hid hf2
  have HK4 := Lib.hid hk4
  have HB4 := Lib.hid hb4
  have HYS := Lib.hid hys
  have HYJ := Lib.hid hyj
  have HPF := Lib.hid hpf
  obtain ⟨ad, rfl, hxc⟩ := Kd.at_string (hkc w4 hk4) (m : Int) (by omega) (by omega)
  simp only [Int.toNat_natCast] at hxc
  have hxlt := World.block_lt_of_cell? w4 _ hxc
  generalize hxv : rdOf ByteArray.empty xs (m : Int) = x at hxc
  have hxm : x = xs.getD m ⟨#[]⟩ := by rw [← hxv]; rfl
  have hmem : x ∈ xs := by
    rw [hxm, List.getD_eq_getElem?_getD, List.getElem?_eq_getElem (by omega)]
    exact List.getElem_mem _
  have HXM := Lib.hid (And.intro hxm hmem)
  obtain ⟨a2, a3, a4, a5, a6⟩ := clA_at cs o x0 no (.slice A1 sl.length n1) HZ.out.2.2
  have HA := Lib.hid (And.intro a2 (And.intro a3 (And.intro a4 (And.intro a5 (a6.trans HZ.out.2.1)))))
  have hz7 : o + 6 < (clA cs o x0 no (.slice A1 sl.length n1)).size := by rw [clA_size]; exact HZ.out.2.2
  generalize clA cs o x0 no (.slice A1 sl.length n1) = ca at HA hz7 hb4 HB4
  obtain ⟨j, hjm, hja, hjb⟩ := first_at (fun i => (pf (xs.getD i ⟨#[]⟩)).toList = (pf x).toList) m (by rw [← hxm])
  have HJ := Lib.hid (And.intro hja hjb)
  clear hkc hf1 hf2 hk4 hb4 hys hyj hpf hdr hcp hr1 hr2 hr1' hr2' hxv hxm hmem HB3 HZ HT3 d0 d1 hlt3 hs1 hs2 a2 a3 a4 a5 a6 hja hjb
  go_wp2_with fail
  obtain ⟨kp, hpx⟩ := HPF.out x HXM.out.2
  have HPX := Lib.hid hpx
  clear hpx
  refine abs_world ?_
  intro w5 hw5
  have hk5 : KeepBut w4 w5 g none := by rw [hw5]; exact keep_alloc (KeepBut.refl _ _ _) _
  have HL5 := Lib.hid (show Below w4.heap.size w4 w5 by rw [hw5]; exact below_allocW _ _)
  have hC5 : Blk w5 w4.heap.size 36 #[.string x0, .string no, .slice A2 sl.length n2] := by rw [hw5]; exact Blk.new _ _ _
  have d0 := hC5.cell 0
  have d1 := hC5.cell 1
  have d2 := hC5.cell 2
  have hlt5 := hC5.lt
  have hxc5 : w5.cell? (ad.add m) = some (.string x) := by
    rw [hw5, World.cell?_alloc_old w4 _ _ (Nat.ne_of_lt hxlt)]; exact hxc
  have HK5 := Lib.hid hk5
  have HC5 := Lib.hid hC5
  clear hw5 hk5 hC5 hxc hxlt
  go_cut [14] (fun v14 wc => v14 = .string (pf x) ∧ Below w5.heap.size w5 wc)
  case first =>
    go_region_law (go_simp; go_at_call 23; refine (desk_Proof.calls kp x0 no A2 n2 sl x (pf x) _ (HF2.out _ (keep_drew HK5.out)) hc2 HPX.out).mono ?_; rintro e w6 ⟨rfl, hb6⟩; have HB6 := Lib.hid hb6; clear hb6)
    all_goals
      go_wp2
      go_meet
      case rel => exact ⟨rfl, (show Below w5.heap.size w5 w5.drew from (Below.refl _ _).drew).trans HB6.out⟩
  obtain ⟨rfl, hb6⟩ := hcut
  rename_i wc _ _
  have hC7 := HC5.out.below hb6 HC5.out.lt
  have HL7 := Lib.hid (HL5.out.trans (hb6.mono HL5.out.size))
  have HC7 := Lib.hid hC7
  clear hb6 hC7 HK5 HC5 HL5 d0 d1 d2 hlt5 hxc5
  go_wp2_with fail
  refine (strongroomlaw27_ids.calls ki _ ys _ HYS.out).mono ?_
  rintro e w8 ⟨v3, rfl, hr3, hb8⟩
  obtain ⟨A3, n3, rfl⟩ := Kd.R_slice hr3
  have hL8 : Below w4.heap.size w4 w8 := HL7.out.trans (hb8.mono HL7.out.size)
  have hB8 := HB4.out.below hL8 HB4.out.lt
  have hC8 := HC7.out.below hb8 HC7.out.lt
  have hk8 : KeepBut w4 w8 g none := keep_of_below hL8
  have hg8 : g < wc.heap.size := Nat.lt_of_lt_of_le HB4.out.lt HL7.out.size
  have hfy : ∀ W', KeepBut w8 W' g none → Kd.C k74 W' A3 ys.length ys := Kd.C_foot_own (Kd.R_mono (Kd.R_bound hr3) (fun k_ hk_ => (by have := hk_.2.1; omega : k_ ≠ g))) (fun _ h => h)
  have hcy := (Kd.R_reads' hr3).2.1
  have HK8 := Lib.hid hk8
  have HG8 := Lib.hid (HG4.out.trans (hL8.mono HG4.out.size))
  have HB8 := Lib.hid hB8
  have HC8 := Lib.hid hC8
  have HFY := Lib.hid hfy
  clear hr3 hb8 hL8 hB8 hC8 hk8 hfy HL7 HC7
  go_wp2_with fail
  have hP := prove_yes g ca t s o (pf x) x0 no sl A1 n1 xs (some ad) c ys A3 n3 j pf w8 h1 h2 h3 h4 ho HB8.out HA.out.1 HA.out.2.1 HA.out.2.2.1 HA.out.2.2.2.1 HA.out.2.2.2.2 hc1
    (fun W' h => HF1.out W' (HK8.out.trans h (.inl rfl))) (fun W' h => HKC.out W' ((HK4.out.trans HK8.out (.inl rfl)).trans h (.inl rfl))) HFY.out hyl hxl HPF.out (by omega) HJ.out.1 HJ.out.2
  rw [hyl] at hP
  refine hP.mono ?_
  clear hP
  rintro e w9 ⟨rfl, hk9, hG9, v6, hb9, hr9⟩
  have HG9 := Lib.hid (HG8.out.trans (hG9.mono hgw))
  clear hG9
  have hfj := HYJ.out j (by omega)
  generalize hid_ : ys.getD j z74 = y at hfj hr9
  obtain ⟨yd, yn⟩ := y
  simp only at hfj
  subst hfj
  obtain ⟨A6, n6, rfl⟩ := Kd.R_slice hr9
  have hC9 : Blk w9 w4.heap.size 36 #[.string x0, .string no, .slice A2 sl.length n2] := (hk9.2 _ HC8.out.lt (Nat.ne_of_gt (by have := HB4.out.lt; exact this)) (by simp)).trans HC8.out
  have hg8' : g < w8.heap.size := HB8.out.lt
  have hk9' : KeepBut w4 w9 g none := HK8.out.trans hk9 (.inl rfl)
  have hr9' : Kd.R k74 74 w9 w8.heap.size (fun k_ => k_ ≠ g) (.slice A6 [(⟨yd, (j : Int)⟩ : S74)].length n6) [⟨yd, (j : Int)⟩] := Kd.R_mono (Kd.R_bound hr9) (fun k_ hk_ => by have := hk_.2.1; omega)
  have hb2 := clB_two ca o (.slice A6 1 n6) hz7
  have d0 := hC9.cell 0
  have d1 := hC9.cell 1
  have d2 := hC9.cell 2
  have hlt9 := hC9.lt
  have HK9 := Lib.hid hk9'
  have HB9 := Lib.hid hb9
  have HC9 := Lib.hid hC9
  have HR9 := Lib.hid hr9'
  have HZ9 := Lib.hid hb2
  have HGL := Lib.hid (show g < w9.heap.size from hb9.lt)
  obtain ⟨ad', e', hxc⟩ := Kd.at_string (HKC.out w9 (HK4.out.trans hk9' (.inl rfl))) (j : Int) (by omega) (by omega)
  cases e'
  simp only [Int.toNat_natCast] at hxc
  have hxlt := World.block_lt_of_cell? w9 _ hxc
  generalize hxv : rdOf ByteArray.empty xs (j : Int) = x' at hxc
  have hxm : x' = xs.getD j ⟨#[]⟩ := by rw [← hxv]; rfl
  have hmem : x' ∈ xs := by
    rw [hxm, List.getD_eq_getElem?_getD, List.getElem?_eq_getElem (by omega)]
    exact List.getElem_mem _
  have HXJ := Lib.hid (And.intro hxm hmem)
  clear hk9 hb9 hr9 hC9 hk9' hr9' hb2 hxv hxm hmem HK8 HB8 HC8 HFY HA HYJ hid_
  go_wp2_with fail
  obtain ⟨kj, hpj⟩ := HPF.out x' HXJ.out.2
  have HPJ := Lib.hid hpj
  have hee : (pf x').toList = (pf x).toList := by rw [HXJ.out.1]; exact HJ.out.1
  clear hpj
  refine abs_world ?_
  intro w10 hw10
  have hL10 : Below w9.heap.size w9 w10 := by rw [hw10]; exact below_allocW _ _
  have hI10 : Blk w10 w9.heap.size 74 #[.string yd, .int .i64 (j : Int)] := by rw [hw10]; exact Blk.new _ _ _
  have hC10 := HC9.out.below hL10 HC9.out.lt
  have hB10 := HB9.out.below hL10 HB9.out.lt
  have hxc10 : w10.cell? (ad.add j) = some (.string x') := by
    rw [hw10, World.cell?_alloc_old w9 _ _ (Nat.ne_of_lt hxlt)]; exact hxc
  have HL10 := Lib.hid hL10
  have HG10 := Lib.hid (HG9.out.trans (hL10.mono HG9.out.size))
  have HI10 := Lib.hid hI10
  have HC10 := Lib.hid hC10
  have HB10 := Lib.hid hB10
  have HK10 := Lib.hid (HK9.out.trans (keep_of_below hL10 : KeepBut w9 w10 g none) (.inl rfl))
  have i0 := hI10.cell 0
  have i1 := hI10.cell 1
  have e0 := hC10.cell 0
  have e1 := hC10.cell 1
  have e2 := hC10.cell 2
  have hm0 : ¬ ((j : Int) < 0) := by omega
  have hm1 : ¬ ((m : Int) < (j : Int)) := by omega
  have hjl : (j : Int) < xs.length := by omega
  have he0 : ((pf x').toList == (pf x).toList) = true := beq_iff_eq.mpr hee
  have he1 : ((pf x').toList != (pf x).toList) = false := bne_eq_false_iff_eq.mpr hee
  clear hw10 hL10 hI10 hC10 hB10 hxc hxlt hee d0 d1 d2 hlt9 HC9
  go_cut [123] (fun v123 wc => v123 = .bool false ∧ Below w10.heap.size w10 wc)
  case first =>
    go_region_law (go_simp; go_at_call 23; refine (desk_Proof.calls kj x0 no A2 n2 sl x' (pf x') _ (HF2.out _ (keep_drew HK10.out)) hc2 HPJ.out).mono ?_; rintro e w11 ⟨rfl, hb11⟩; have HB11 := Lib.hid hb11; clear hb11)
    all_goals
      go_wp2
      go_meet
      case rel => exact ⟨rfl, (show Below w10.heap.size w10 w10.drew from (Below.refl _ _).drew).trans HB11.out⟩
  obtain ⟨rfl, hb11⟩ := hcut
  have hI11 := HI10.out.below hb11 HI10.out.lt
  have HG11 := Lib.hid (HG10.out.trans (hb11.mono HG10.out.size))
  have hB11 := HB10.out.below hb11 HB10.out.lt
  have hk11 := (keep_of_below HL10.out : KeepBut w9 w10 g none).trans (keep_of_below (g := g) hb11) (.inl rfl)
  have HI11 := Lib.hid hI11
  have HB11 := Lib.hid hB11
  have HK11 := Lib.hid hk11
  have HR11 := Lib.hid (Kd.R_keep HR9.out hk11 (fun _ h => h))
  clear hb11 hI11 hB11 hk11 HL10 HI10 HB10 HC10 HK10 HB9 HR9 HK9 i0 i1 e0 e1 e2 hm0 hm1 he0 he1 hxc10
  go_wp2_with fail
  refine (strongroomlaw27_ids.calls ki _ ys _ HYS.out).mono ?_
  rintro e w12 ⟨v8, rfl, hr12, hb12⟩
  obtain ⟨A8, n8, rfl⟩ := Kd.R_slice hr12
  have HI12 := Lib.hid (HI11.out.below hb12 HI11.out.lt)
  have HG12 := Lib.hid (HG11.out.trans (hb12.mono HG11.out.size))
  have HB12 := Lib.hid (HB11.out.below hb12 HB11.out.lt)
  have HR12 := Lib.hid (Kd.R_below HR11.out hb12)
  clear hr12 hb12 HI11 HB11 HR11
  go_wp2_with fail
  refine (prove_shut g _ t s o (pf x) A8 (some ad) xs.length n8 c w12 h1 h2 h3 h4 ho HB12.out HZ9.out.1 (by omega)).mono ?_
  rintro e w13 ⟨rfl, hb13⟩
  have HI13 := Lib.hid (HI12.out.below hb13 HI12.out.lt)
  have HG13 := Lib.hid (HG12.out.trans (hb13.mono HG12.out.size))
  have HB13 := Lib.hid (HB12.out.below hb13 HB12.out.lt)
  have HR13 := Lib.hid (Kd.R_below HR12.out hb13)
  clear hb13 HI12 HB12 HR12
  go_wp2_with fail
  refine (spend_yes g _ t s o 1 n6 A6 _ h1 h2 h3 h4 ho (HB13.out.alloc _) HZ9.out.2.1 (by omega) (by omega)).mono ?_
  rintro e w15 ⟨rfl, hk15, hG15, hb15⟩
  have hlI : w9.heap.size < w13.heap.size := HI13.out.lt
  have hne : w9.heap.size ≠ g := Nat.ne_of_gt (show g < w9.heap.size from HGL.out)
  have hI15 : Blk w15 w9.heap.size 74 #[.string yd, .int .i64 (j : Int)] := (hk15.2 _ (HI13.out.alloc _).lt hne (by simp)).trans (HI13.out.alloc _)
  have HI15 := Lib.hid hI15
  have HB15 := Lib.hid hb15
  have HR15 := Lib.hid (Kd.R_keep (Kd.R_alloc HR13.out _) hk15 (fun _ h => h))
  have HG15 := Lib.hid ((HG13.out.alloc HG13.out.size _).trans (hG15.mono hgw))
  clear hk15 hG15 hb15 hlI hne hI15 HI13 HB13 HR13 HG13
  go_wp2_with fail
  refine (spend_no g _ t s o _ h1 h2 h3 h4 ho HB15.out HZ9.out.2.2).mono ?_
  rintro e w16 ⟨rfl, hb16⟩
  have hI16 := HI15.out.below hb16 HI15.out.lt
  have hr16 := Kd.R_below HR15.out hb16
  have HG16 := Lib.hid (HG15.out.trans (hb16.mono HG15.out.size))
  obtain ⟨ad6, e6, l0, l1⟩ := at_T74 (Kd.R_reads' hr16).2.2 0 (by omega) (by simp)
  cases e6
  obtain ⟨b6, rfl⟩ := Kd.R_head hr16
  have l0' : w16.cell? ⟨b6, 0, none⟩ = some (.string yd) := l0
  have l1' : w16.cell? ⟨b6, 1, none⟩ = some (.int .i64 (j : Int)) := l1
  have i0 := hI16.cell 0
  have i1 := hI16.cell 1
  clear hb16 hI16 hr16 HI15 HB15 HR15 HG15 l0 l1
  go_wp2_with fail
  refine start_ (n := 26) (S := fun w' => w'.cell? ⟨b6, 0, none⟩ = some (.string yd) ∧ w'.cell? ⟨b6, 1, none⟩ = some (.int .i64 (j : Int)) ∧ w'.cell? ⟨w9.heap.size, 0, none⟩ = some (.string yd) ∧ w'.cell? ⟨w9.heap.size, 1, none⟩ = some (.int .i64 (j : Int))) (ds := []) (Ra_ [0, 26]) (by kernel_rfl) rfl rfl ⟨l0', l1', i0, i1⟩ (fun hHeld => ?_)
  refine with_tabW tab16 bits16 (fun HT_ HW_ => ?_)
  refine pI_ 0 (some 150) (Ra_ [1, 25]) (h := ?_)
  refine pI_ 1 (some 151) (Ra_ [2, 24]) (h := ?_)
  refine pI_ 2 (some 152) (Ra_ [3, 23]) (h := ?_)
  refine pI_ 3 (some 153) (Ra_ [4, 22]) (h := ?_)
  refine pI_ 4 (some 154) (Ra_ [5, 21]) (h := ?_)
  refine pI_ 5 (some 155) (Ra_ [6, 20]) (h := ?_)
  refine pI_ 6 (some 156) (Ra_ [7, 19]) (h := ?_)
  refine pI_ 7 (some 157) (Ra_ [8, 18]) (h := ?_)
  refine pI_ 8 (some 158) (Ra_ [9, 17]) (h := ?_)
  refine pI_ 9 (some 159) (Ra_ [10, 16]) (h := ?_)
  refine pI_ 10 (some 160) (Ra_ [11, 15]) (h := ?_)
  refine pI_ 11 (some 161) (Ra_ [12, 14]) (h := ?_)
  refine pI_ 12 (some 162) (Ra_ [13, 13]) (h := ?_)
  refine pI_ 13 (some 163) (Ra_ [14, 12]) (h := ?_)
  refine tI4_ 14 (some 164) (Ra_ [15, 11]) (h := ?_)
  refine tI4_ 15 (some 165) (Ra_ [16, 10]) (h := ?_)
  refine pI_ 16 (some 166) (Ra_ [17, 9]) (h := ?_)
  refine pI_ 17 (some 167) (Ra_ [18, 8]) (h := ?_)
  refine pI_ 18 (some 168) (Ra_ [19, 7]) (h := ?_)
  refine pI_ 19 (some 169) (Ra_ [20, 6]) (h := ?_)
  refine pI_ 20 (some 170) (Ra_ [21, 5]) (h := ?_)
  refine pI_ 21 (some 171) (Ra_ [22, 4]) (h := ?_)
  refine pI_ 22 (some 172) (Ra_ [23, 3]) (h := ?_)
  refine one_ (i := 23) (N := some 173) (Ra_ [24, 2]) rfl rfl (one_of HT_.out (by kernel_rfl)) (by decide) (fun K hK => ?_)
  refine goes_ Try.func16 (by kernel_rfl) rfl #[] (by rfl) rfl rfl (by (try simp only [List.map_toArray, List.map_nil]); first | done | rfl) ?_
  refine (lives_any _).mono ?_
  rintro e w17 ⟨rfl, hb17⟩
  refine ⟨_, rfl, ?_⟩
  have hs17 : Below w16.heap.size w16 w17 := (show Below w16.heap.size w16 w16.drew from (Below.refl _ _).drew).trans hb17
  refine hK.out _ _ ⟨(hs17.cell (World.block_lt_of_cell? w16 _ l0')).trans l0', (hs17.cell (World.block_lt_of_cell? w16 _ l1')).trans l1', (hs17.cell (World.block_lt_of_cell? w16 _ i0)).trans i0, (hs17.cell (World.block_lt_of_cell? w16 _ i1)).trans i1⟩ (fun hHeld => ?_)
  refine pI_ 24 (some 174) (Ra_ [25, 1]) (h := ?_)
  refine pI_ 25 (some 6) (Ra_ [26]) (h := ?_)
  refine done_ (done_of HT_.out (by kernel_rfl)) ?_
  try go_wp2
  go_ret
  exact ⟨rfl, HG16.out.trans (hs17.mono HG16.out.size)⟩

end Go.Proofs.Ytgkhdpplmdkkaaa.Dp
