/- The walk of sha.Hash's Sum and of sha.Sum. -/
import Derived.Test.YtgkhdpplmdkkaaaHash
import Derived.Laws.IdiomStrings
import Derived.Lib.BufferRead
namespace Go.Proofs.Ytgkhdpplmdkkaaa
open Go.RowKit Go.Lib

def wb (x : UInt32) : List UInt8 := [UInt8.ofNat (x.toNat / 16777216), UInt8.ofNat (x.toNat / 65536), UInt8.ofNat (x.toNat / 256), UInt8.ofNat x.toNat]
def outB (s : St) : Nat → List UInt8
  | 0 => []
  | j + 1 => outB s j ++ wb (s.at j)
theorem outB_length (s : St) (j : Nat) : (outB s j).length = 4 * j := by
  induction j with
  | zero => rfl
  | succ j ih => simp [outB, ih, wb]; omega
/-- the digest's state and its bytes -/
def digS (T : List UInt8) : St := fold kw iv (gt (T ++ padL T.length)) ((T ++ padL T.length).length / 64)
def dig (T : List UInt8) : List UInt8 := outB (digS T) 8
theorem dig_length (T : List UInt8) : (dig T).length = 32 := outB_length _ 8

theorem abs_in {n : Nat} {Q : Exit → Act → World → Prop} {e : Exit} {a : Act} {w : World} (h : ∀ w1, w1 = w → Exit.inBlock n Q e a w1) : Exit.inBlock n Q e a w := h w rfl

theorem u32_byte (x : UInt32) (d : Nat) : I32 x / (d : Int) % 256 = I8 (UInt8.ofNat (x.toNat / d)) := by
  rw [← I8_mod, Int.natCast_emod, Int.natCast_ediv]; rfl
theorem u32_byte0 (x : UInt32) : I32 x % 256 = I8 (UInt8.ofNat x.toNat) := by
  rw [← I8_mod, Int.natCast_emod]; rfl

theorem wb_cells (X : UInt32) : (#[.int .u8 (I32 X / 16777216 % 256), .int .u8 (I32 X / 65536 % 256), .int .u8 (I32 X / 256 % 256), .int .u8 (I32 X % 256)] : Array Value) = (bv (wb X)).toArray := by
  have h1 : I32 X / 16777216 % 256 = _ := u32_byte X 16777216
  have h2 : I32 X / 65536 % 256 = _ := u32_byte X 65536
  have h3 : I32 X / 256 % 256 = _ := u32_byte X 256
  rw [h1, h2, h3, u32_byte0]
  rfl

/-- eight words stored in a row -/
def set8 (w : World) (g o : Nat) (s : St) : World :=
  (((((((w.setCell ⟨g, o, none⟩ (.int .u32 (I32 s.a))).setCell ⟨g, o + 1, none⟩ (.int .u32 (I32 s.b))).setCell ⟨g, o + 2, none⟩ (.int .u32 (I32 s.c))).setCell ⟨g, o + 3, none⟩ (.int .u32 (I32 s.d))).setCell ⟨g, o + 4, none⟩ (.int .u32 (I32 s.e))).setCell ⟨g, o + 5, none⟩ (.int .u32 (I32 s.f))).setCell ⟨g, o + 6, none⟩ (.int .u32 (I32 s.g))).setCell ⟨g, o + 7, none⟩ (.int .u32 (I32 s.h))
theorem Blk.set8_same {w : World} {g : Nat} {t : TypeId} {s : St} (h : Blk w g t (sOf s)) (s2 : St) : Blk (set8 w g 0 s2) g t (sOf s2) := by
  have := (((((((h.set_ 0 (.int .u32 (I32 s2.a))).set_ 1 (.int .u32 (I32 s2.b))).set_ 2 (.int .u32 (I32 s2.c))).set_ 3 (.int .u32 (I32 s2.d))).set_ 4 (.int .u32 (I32 s2.e))).set_ 5 (.int .u32 (I32 s2.f))).set_ 6 (.int .u32 (I32 s2.g))).set_ 7 (.int .u32 (I32 s2.h))
  have hz : ((((((((sOf s).setIfInBounds 0 (.int .u32 (I32 s2.a))).setIfInBounds 1 (.int .u32 (I32 s2.b))).setIfInBounds 2 (.int .u32 (I32 s2.c))).setIfInBounds 3 (.int .u32 (I32 s2.d))).setIfInBounds 4 (.int .u32 (I32 s2.e))).setIfInBounds 5 (.int .u32 (I32 s2.f))).setIfInBounds 6 (.int .u32 (I32 s2.g))).setIfInBounds 7 (.int .u32 (I32 s2.h)) = sOf s2 := by simp [sOf]
  rw [hz] at this
  exact this
theorem Blk.set8_far {w : World} {g g4 o : Nat} {t : TypeId} {cs : Array Value} (h : Blk w g t cs) (hg : g ≠ g4) (s2 : St) : Blk (set8 w g4 o s2) g t cs :=
  (((((((h.far hg _).far hg _).far hg _).far hg _).far hg _).far hg _).far hg _).far hg _
theorem OwnB.set8 {w : World} {base : Nat} {v : Value} {l : List UInt8} {g o : Nat} (h : OwnB w base v l) (hg : v.ownBlock ≠ some g) (s2 : St) : OwnB (set8 w g o s2) base v l :=
  (((((((h.set_ _ _ hg).set_ _ _ hg).set_ _ _ hg).set_ _ _ hg).set_ _ _ hg).set_ _ _ hg).set_ _ _ hg).set_ _ _ hg
theorem below_set8 {B : Nat} {a w : World} (h : Below B a w) {g : Nat} (hg : B ≤ g) (o : Nat) (s2 : St) : Below B a (set8 w g o s2) :=
  below_set (below_set (below_set (below_set (below_set (below_set (below_set (below_set h hg _ _) hg _ _) hg _ _) hg _ _) hg _ _) hg _ _) hg _ _) hg _ _

set_option maxRecDepth 100000 in
/-- string(b) of a slice that lies owned -/
theorem OwnB.string {w : World} {base : Nat} {v : Value} {l : List UInt8} (h : OwnB w base v l) : (convert 27 9 v).run Try.prog w = .ok (.string ⟨l.toArray⟩) w := by
  obtain ⟨A, cap, rfl, hA⟩ := h.form
  cases A with
  | none =>
    rcases h.2 with ⟨_, h0⟩ | ⟨g, cap', cur, hv, _⟩
    · have : l = [] := List.eq_nil_of_length_eq_zero h0
      subst this
      exact run_convert_nil_bytes w _ _ 5 _ (by kernel_rfl) (by kernel_rfl) (by kernel_rfl)
    · injection hv with h2; cases h2
  | some a =>
    refine run_convert_bytes_back w _ _ 5 a cap l (by kernel_rfl) (by kernel_rfl) (by kernel_rfl) fun j hj => ?_
    obtain ⟨g, rfl, _⟩ := hA a rfl
    show _ = some (Value.int .u8 (I8 _))
    exact World.ownsRow.cells (g := g) h rfl j _ (by rw [bv_at, List.getElem?_eq_getElem hj]; rfl)

set_option maxRecDepth 100000 in
set_option maxHeartbeats 30000000 in
theorem hsum_any (g base : Nat) (T : List UInt8) (A : Option Addr) (cap : Nat) (w : World) (hd : Dig w g base T T.length A cap) (hT : T.length ≤ 1099511627776) :
    Calls Try.prog 88 #[.pointer (some ⟨g, 0, none⟩)] w fun e w' => e = .returned (.string ⟨(dig T).toArray⟩) ∧ Below w.heap.size w w' := by
  have Hd := Lib.hid hd
  have c72 := (hd.blk.cell 72).trans (hCells_rest (sOf_size _))
  have c73 := (hd.blk.cell 73).trans (hCells_n (sOf_size _))
  have hr64 : (rem T).length < 64 := by rw [rem_length]; omega
  have Hr64 := Lib.hid hr64
  have hba := hd.blk.alloc (.cells #[] 5)
  have c72a := (hba.cell 72).trans (hCells_rest (sOf_size _))
  have c73a := (hba.cell 73).trans (hCells_n (sOf_size _))
  clear hd hr64 hba
  go_enter Try.func88, Try.ntmps88
  go_wp2_with fail
  go_region_law (first
    | (refine step_app rfl (.tmp 11) (.tmp 15) rfl w.heap.size (.slice (some ⟨w.heap.size, 0, none⟩) 0 0) [] (by rfl) (OwnB.lit _ [] (by simp) (by decide)) _ _ _ (rem T) (rem T).length rfl (by rfl) ((Hd.out.own.reads.drewN 1).alloc (by simp) _) (by have := Hr64.out; simp; omega) (by simp) ?_; intro v1 w2 ho2 hg2 hat2; have hb2 := ((Hd.out.blk.drewN 1).alloc _).grown hg2 (by simp [Value.ownBlock]; have := Hd.out.blk.lt; omega); have c73' := (hb2.cell 73).trans (hCells_n (sOf_size _)); have Hb2 := Lib.hid hb2; have Hg2 := Lib.hid hg2; have Ho2 := Lib.hid ho2; have Hat2 := Lib.hid hat2; clear hb2 hg2 ho2 hat2)
    | (go_simp; go_at_call 99; refine (pad_any T.length hT _).mono ?_; rintro e3 w3 ⟨v3, rfl, ho3, hl3⟩; have Ho3 := Lib.hid ho3; have Hl3 := Lib.hid hl3; clear ho3 hl3)
    | (obtain ⟨A3, c3, hv3, _⟩ := Ho3.out.form; subst hv3; refine step_app rfl (.tmp 16) (.tmp 21) rfl w.heap.size v1 ([] ++ rem T) (by rfl) (Ho2.out.below_size Hl3.out) _ A3 c3 (padL T.length) (padL T.length).length rfl (by rfl) Ho3.out.reads (by have := Hr64.out; have := padL_length T.length; have := zc_lt T.length; simp; omega) (by have := Hg2.out.size; have := Hl3.out.size; simp at *; omega) ?_; intro v5 w5 ho5 hg5 hat5; have Ho5 := Lib.hid ho5; have Hg5 := Lib.hid hg5; clear ho5 hg5 hat5))
  all_goals
    refine abs_then ?_
    intro w6 hw6
    have hb3 := Hb2.out.below Hl3.out Hb2.out.lt
    have hb6 : Blk w6 g 158 (hCells kw (sOf (fold kw iv (gt T) (T.length / 64))) (.slice A (rem T).length cap) T.length) := by
      rw [hw6]; exact hb3.grown Hg5.out (Ne.symm (Ho2.out.ne_blk Hb2.out (by decide)))
    have hM : ∃ M, M = rem T ++ padL T.length := ⟨_, rfl⟩
    obtain ⟨M, hM⟩ := hM
    have ho6 : OwnB w6 w.heap.size v5 M := by rw [hw6, hM]; have := Ho5.out; simpa using this
    have hsz3 : w.heap.size ≤ w3.heap.size := by have := Hg2.out.size; have := Hl3.out.size; simp at *; omega
    have hl2 : Below w.heap.size w w2 := below_app (below_drewN' ((Below.refl _ _).alloc (Nat.le_refl _) (.cells #[] 5)) 1) (base := w.heap.size) (v := .slice (some ⟨w.heap.size, 0, none⟩) 0 0) (l := []) (OwnB.drewN (OwnB.lit _ [] (by simp) (by decide)) 1) Hg2.out (Nat.le_refl _) (by simp)
    have hl3 : Below w.heap.size w w3 := hl2.trans (Hl3.out.mono hl2.size)
    have hl6 : Below w.heap.size w w6 := by rw [hw6]; exact below_app hl3 (Ho2.out.below_size Hl3.out) Hg5.out (Nat.le_refl _) hl3.size
    clear hw6 c72 c73 c72a c73a c73'
    have hM64 : M.length % 64 = 0 := by rw [hM, List.length_append, rem_length]; have := padL_whole T.length; omega
    have hM0 : 0 < M.length := by rw [hM, List.length_append, padL_length]; omega
    have hMb : M.length < 200 := by rw [hM, List.length_append, padL_length]; have := Hr64.out; have := zc_lt T.length; omega
    have hf : ∃ g5 c5, v5 = .slice (some ⟨g5, 0, none⟩) M.length c5 ∧ M.length ≤ c5 := by
      rcases ho6.2 with ⟨_, h0⟩ | ⟨g', cap', cur, hv', _, _, hnc, _⟩
      · omega
      · exact ⟨g', cap', hv', hnc⟩
    obtain ⟨g5, c5, rfl, hMc⟩ := hf
    have hg5 : g5 < w6.heap.size := (World.ownsRow.lt ho6 g5 rfl).2
    have hgg : g5 ≠ g := by intro h; subst h; exact ho6.ne_blk hb6 (by decide) rfl
    have hst : ∃ st, st = fold kw iv (gt T) (T.length / 64) := ⟨_, rfl⟩
    obtain ⟨st, hst⟩ := hst
    rw [← hst] at hb6
    have s0 := (hb6.cell (64 + 0)).trans (hCells_s (sOf_size _) (by omega))
    have s1 := (hb6.cell (64 + 1)).trans (hCells_s (sOf_size _) (by omega))
    have s2 := (hb6.cell (64 + 2)).trans (hCells_s (sOf_size _) (by omega))
    have s3 := (hb6.cell (64 + 3)).trans (hCells_s (sOf_size _) (by omega))
    have s4 := (hb6.cell (64 + 4)).trans (hCells_s (sOf_size _) (by omega))
    have s5 := (hb6.cell (64 + 5)).trans (hCells_s (sOf_size _) (by omega))
    have s6 := (hb6.cell (64 + 6)).trans (hCells_s (sOf_size _) (by omega))
    have s7 := (hb6.cell (64 + 7)).trans (hCells_s (sOf_size _) (by omega))
    simp only [sOf, List.getElem?_toArray, List.getElem?_cons_zero, List.getElem?_cons_succ, Nat.reduceAdd] at s0 s1 s2 s3 s4 s5 s6 s7
    have Hb6 := Lib.hid hb6
    have Ho6 := Lib.hid ho6
    have Hl6 := Lib.hid hl6
    have HM := Lib.hid hM
    have Hst := Lib.hid hst
    have HM64 := Lib.hid hM64
    have HMb := Lib.hid hMb
    clear hb6 ho6 hl6 hM hst hM64 hMb hb3 hsz3 hl2 hl3
    go_wp2_with fail
    refine abs_world ?_
    intro w7 hw7
    have hg4 : ∃ g4, g4 = w6.heap.size := ⟨_, rfl⟩
    obtain ⟨g4, hg4⟩ := hg4
    rw [← hg4]
    have hst7 : Blk w7 g4 156 (sOf st) := by rw [hw7, hg4]; exact Blk.new w6 _ _
    have hb7 : Blk w7 g 158 (hCells kw (sOf st) (.slice A (rem T).length cap) T.length) := by rw [hw7]; exact Hb6.out.alloc _
    have ho7 : OwnB w7 w.heap.size (.slice (some ⟨g5, 0, none⟩) M.length c5) M := by rw [hw7]; exact Ho6.out.alloc _
    have hl7 : Below w.heap.size w w7 := by rw [hw7]; exact Hl6.out.alloc Hl6.out.size _
    have hg54 : g5 ≠ g4 := by omega
    have hgg4 : g ≠ g4 := by have := Hb6.out.lt; omega
    have hw4 : w.heap.size ≤ g4 := by rw [hg4]; exact Hl6.out.size
    clear hw7 s0 s1 s2 s3 s4 s5 s6 s7
    have Hst7 := Lib.hid hst7
    have Hb7 := Lib.hid hb7
    have Ho7 := Lib.hid ho7
    have Hl7 := Lib.hid hl7
    clear hst7 hb7 ho7 hl7 hg4
    go_loopw [5] (fun i wr => ∃ q : Nat, i = .int .i64 ((64 * q : Nat) : Int) ∧ 64 * q ≤ M.length ∧ Blk wr g4 156 (sOf (fold kw iv (gt (T ++ padL T.length)) (T.length / 64 + q))) ∧ Blk wr g 158 (hCells kw (sOf st) (.slice A (rem T).length cap) T.length) ∧
        OwnB wr w.heap.size (.slice (some ⟨g5, 0, none⟩) M.length c5) M ∧ Below w.heap.size w wr) (fun i _ => M.length - (intOf i).toNat)
    case atStart =>
      refine ⟨0, rfl, by omega, ?_, Hb7.out, Ho7.out, Hl7.out⟩
      have := Hst7.out
      rw [Hst.out] at this
      rw [Nat.add_zero, fold_congr (T.length / 64) (fun _ _ => rfl) (b' := gt T) (fun j hj => gt_app T (padL T.length) j (by omega))]
      exact this
    case round =>
      obtain ⟨q, rfl, hq, hs4, hb, ho, hl⟩ := hrel
      have hi : ∃ i, i = 64 * q := ⟨_, rfl⟩
      obtain ⟨i, hi⟩ := hi
      rw [← hi]
      rw [← hi] at hq
      have hF : ∃ F, F = fold kw iv (gt (T ++ padL T.length)) (T.length / 64 + q) := ⟨_, rfl⟩
      obtain ⟨F, hF⟩ := hF
      rw [← hF] at hs4
      have HF := Lib.hid hF
      have Hi := Lib.hid hi
      clear hF hi
      by_cases him : i < M.length
      · have him64 : i + 64 ≤ M.length := by have := Hi.out; have := HM64.out; omega
        have himc : i + 64 ≤ c5 := by omega
        have hic : i < c5 := by omega
        have hib : i < 200 := by have := HMb.out; omega
        have hcb : 64 ≤ c5 - i := by omega
        have hw64 : IntKind.i64.wrap ((i : Int) + 64) = (i : Int) + 64 := by rw [IntKind.wrap_i64]; omega
        have ht64 : ((i : Int) + 64).toNat = i + 64 := by omega
        have hle64 : (i : Int) + 64 ≤ (c5 : Int) := by omega
        have hge64 : (0 : Int) ≤ (i : Int) + 64 := by omega
        have hci : ¬ c5 = i := by omega
        have s0 := hs4.cell 0
        have s1 := hs4.cell 1
        have s2 := hs4.cell 2
        have s3 := hs4.cell 3
        have s4 := hs4.cell 4
        have s5 := hs4.cell 5
        have s6 := hs4.cell 6
        have s7 := hs4.cell 7
        simp only [sOf, List.getElem?_toArray, List.getElem?_cons_zero, List.getElem?_cons_succ] at s0 s1 s2 s3 s4 s5 s6 s7
        have hkk : ∀ t, t < 64 → wr.cell? ⟨g, 0 + t, none⟩ = some (.int .u32 (I32 (kw t))) := fun j hj => by
          rw [Nat.zero_add]; exact (hb.cell j).trans (hCells_k (sOf_size _) hj)
        have hrc : ∀ j, j < 64 → wr.cell? ⟨g5, i + j, none⟩ = some (.int .u8 (I8 (gt M (i + j)))) := fun j hj => by
          have := World.ownsRow.cells (g := g5) ho rfl (i + j) (.int .u8 (I8 (gt M (i + j)))) (by
            rw [bv_at]; unfold gt; rw [List.getD_eq_getElem?_getD, List.getElem?_eq_getElem (by omega)]; rfl)
          have hadd : (⟨g5, 0, none⟩ : Addr).add (i + j) = ⟨g5, i + j, none⟩ := by unfold Addr.add; split <;> simp_all
          rwa [hadd] at this
        have Hkk := Lib.hid hkk
        have Hrc := Lib.hid hrc
        have Hs4 := Lib.hid hs4
        have Hb := Lib.hid hb
        have Ho := Lib.hid ho
        have Hl := Lib.hid hl
        clear hkk hrc hs4 hb ho hl
        go_wp2_with fail
        go_region_law (go_simp; go_at_call 97; refine (mix_any g 0 kw F g5 i (c5 - i) (fun j => gt M (i + j)) (World.drew wr) Hkk.out Hrc.out hcb).mono ?_; rintro e8 w8 ⟨rfl, hl8⟩; unfold agg8; clear s0 s1 s2 s3 s4 s5 s6 s7; have hb8 := (Hs4.out.drewN 1).below hl8 Hs4.out.lt; have s0 := hb8.cell 0; have q0 := hb8.frozen 0; have s1 := hb8.cell 1; have q1 := hb8.frozen 1; have s2 := hb8.cell 2; have q2 := hb8.frozen 2; have s3 := hb8.cell 3; have q3 := hb8.frozen 3; have s4 := hb8.cell 4; have q4 := hb8.frozen 4; have s5 := hb8.cell 5; have q5 := hb8.frozen 5; have s6 := hb8.cell 6; have q6 := hb8.frozen 6; have s7 := hb8.cell 7; have q7 := hb8.frozen 7; simp only [sOf, List.getElem?_toArray, List.getElem?_cons_zero, List.getElem?_cons_succ] at s0 s1 s2 s3 s4 s5 s6 s7; have Hb8 := Lib.hid hb8; have Hl8 := Lib.hid hl8; clear hb8 hl8)
        all_goals
          refine abs_in ?_
          intro w9 hw9
          have hx : ∃ S9, S9 = mixS kw F (fun j => gt M (i + j)) := ⟨_, rfl⟩
          obtain ⟨S9, hx⟩ := hx
          rw [← hx] at hw9
          have hw9' : w9 = set8 w8 g4 0 S9 := hw9
          clear hw9
          have hb9 : Blk w9 g4 156 (sOf S9) := by rw [hw9']; exact Hb8.out.set8_same S9
          have hbg9 : Blk w9 g 158 (hCells kw (sOf st) (.slice A (rem T).length cap) T.length) := by
            rw [hw9']; exact ((Hb.out.drewN 1).below Hl8.out Hb.out.lt).set8_far hgg4 _
          have hne4 : (.slice (some ⟨g5, 0, none⟩) M.length c5 : Value).ownBlock ≠ some g4 := by simp [Value.ownBlock]; exact hg54
          have ho9 : OwnB w9 w.heap.size (.slice (some ⟨g5, 0, none⟩) M.length c5) M := by
            rw [hw9']; exact ((Ho.out.drewN 1).below_size Hl8.out).set8 hne4 _
          have hl9 : Below w.heap.size w w9 := by
            rw [hw9']; exact below_set8 ((below_drewN' Hl.out 1).trans (Hl8.out.mono Hl.out.size)) hw4 _ _
          clear hw9' hne4 s0 s1 s2 s3 s4 s5 s6 s7 q0 q1 q2 q3 q4 q5 q6 q7
          have hF1 : S9 = fold kw iv (gt (T ++ padL T.length)) (T.length / 64 + (q + 1)) := by
            show _ = mixS kw (fold kw iv (gt (T ++ padL T.length)) (T.length / 64 + q)) _
            rw [← HF.out, hx]
            refine mixS_congr (fun _ _ => rfl) fun j hj => ?_
            rw [HM.out, rem_at]
            congr 1
            have h1 := Hi.out
            show 64 * (T.length / 64) + (i + j) = 64 * (T.length / 64 + q) + j
            omega
          rw [hF1] at hb9
          have Hb9 := Lib.hid hb9
          have Hbg9 := Lib.hid hbg9
          have Ho9 := Lib.hid ho9
          have Hl9 := Lib.hid hl9
          clear hb9 hbg9 ho9 hl9 hF1 hx
          go_wp2_with fail
          refine ⟨⟨q + 1, ?_, by have := Hi.out; omega, Hb9.out, Hbg9.out, Ho9.out, Hl9.out⟩, ?_⟩
          · have := Hi.out
            congr 1
            omega
          · simp [intOf]
            omega
      · have hiM : i = M.length := by omega
        have hFd : F = digS T := by
          rw [HF.out]
          unfold digS
          congr 1
          have h1 := Hi.out
          rw [hiM, HM.out, List.length_append, rem_length] at h1
          rw [List.length_append]
          omega
        have s0 := hs4.cell 0
        have s1 := hs4.cell 1
        have s2 := hs4.cell 2
        have s3 := hs4.cell 3
        have s4 := hs4.cell 4
        have s5 := hs4.cell 5
        have s6 := hs4.cell 6
        have s7 := hs4.cell 7
        simp only [sOf, List.getElem?_toArray, List.getElem?_cons_zero, List.getElem?_cons_succ] at s0 s1 s2 s3 s4 s5 s6 s7
        have Hl := Lib.hid hl
        have HFd := Lib.hid hFd
        clear hs4 hb ho hl hFd hiM
        go_wp2_with fail
        go_loopw [6, 44] (fun b i wr => ∃ (j : Nat) (A : Option Addr) (c : Nat), i = .int .i64 j ∧ j ≤ 8 ∧ b = .slice A (4 * j) c ∧ OwnB wr w.heap.size (.slice A (4 * j) c) (outB F j) ∧ Below w.heap.size w wr) (fun _ i _ => 8 - (intOf i).toNat)
        case atStart => exact ⟨0, none, 0, rfl, by omega, rfl, OwnB.nil _ _, Hl.out⟩
        case round =>
          obtain ⟨j, A, c, rfl, hj, rfl, ho3, hl3⟩ := hrel
          have Ho3 := Lib.hid ho3
          have Hl3 := Lib.hid hl3
          clear ho3 hl3
          by_cases h8 : j < 8
          · have hx := fun W => run_index8 F j h8 W
            have hX : ∃ X, X = F.at j := ⟨_, rfl⟩
            obtain ⟨X, hX⟩ := hX
            rw [← hX] at hx
            have HX := Lib.hid hX
            clear hX
            have hc := wb_cells X
            have Hc := Lib.hid hc
            clear hc
            go_wp2_with (at_builtin; refine wpList_app rfl (.tmp 47) (.tmp 59) rfl w.heap.size (.slice A (4 * j) c) _ rfl (Ho3.out.alloc _) _ _ _ (wb X) 4 rfl rfl (reads_new _ _ _ _ (by rw [Hc.out])) (by rw [outB_length]; omega) (Nat.le_trans Hl3.out.size (by simp)) ?_; intro v1 w2 ho2 hg2 hat2)
            obtain ⟨A2, c2, rfl, _⟩ := ho2.form
            have hrep : outB F j ++ wb X = outB F (j + 1) := by rw [HX.out]; rfl
            rw [hrep, outB_length] at ho2
            rw [hrep, outB_length]
            go_roundw
            case rel => exact ⟨j + 1, A2, c2, by go_num, by omega, rfl, ho2, below_app (Hl3.out.alloc Hl3.out.size _) (Ho3.out.alloc _) hg2 (Nat.le_refl _) (Nat.le_trans Hl3.out.size (by simp))⟩
            case measure => simp [intOf]; omega
          · obtain rfl : j = 8 := by omega
            have hs := Ho3.out.string
            rw [HFd.out] at hs
            go_wp2
            go_ret
            exact ⟨rfl, Hl3.out⟩

end Go.Proofs.Ytgkhdpplmdkkaaa
