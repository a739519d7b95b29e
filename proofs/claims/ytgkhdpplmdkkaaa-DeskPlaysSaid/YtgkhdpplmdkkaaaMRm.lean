/- The contracts of the reference: its turns. -/
import Derived.Test.YtgkhdpplmdkkaaaMa
import Derived.Test.YtgkhdpplmdkkaaaMb
import Derived.Test.YtgkhdpplmdkkaaaMRp
import Derived.Deep.QuietTactic
import Derived.BigQuiet
import Derived.BigRegion
import Derived.Laws.Tables
namespace Go.Proofs.Ytgkhdpplmdkkaaa
open Go.RowKit Go.Lib
def gb (l : List UInt8) (j : Nat) : UInt8 := l.getD j 0
@[go_sem] theorem byte_mk (l : List UInt8) (j : Nat) (h : j < (ByteArray.mk l.toArray).size) : ((((ByteArray.mk l.toArray)[j]'h).toNat : Nat) : Int) = I8 (gb l j) := by
  have hj : j < l.length := by rwa [size_mk] at h
  unfold I8 gb
  rw [List.getD_eq_getElem?_getD, List.getElem?_eq_getElem hj]
  rfl
end Go.Proofs.Ytgkhdpplmdkkaaa

namespace Go.Proofs.Ytgkhdpplmdkkaaa
open Go.RowKit Go.Lib

theorem be4_sum (a b c d : UInt8) : (((I8 a * 16777216 % 4294967296 + I8 b * 65536 % 4294967296) % 4294967296 + I8 c * 256 % 4294967296) % 4294967296 + I8 d) % 4294967296 = I32 (be4 a b c d) := by
  have ha := a.toNat_lt
  have hb := b.toNat_lt
  have hc := c.toNat_lt
  have hd := d.toNat_lt
  unfold be4
  rw [I32_ofNat (by omega)]
  unfold I8
  omega
theorem be4_sum' (a b c d : UInt8) : (I8 a * 16777216 + I8 b * 65536 + I8 c * 256 + I8 d) % 4294967296 = I32 (be4 a b c d) := by
  have ha := a.toNat_lt
  have hb := b.toNat_lt
  have hc := c.toNat_lt
  have hd := d.toNat_lt
  unfold be4
  rw [I32_ofNat (by omega)]
  unfold I8
  omega
theorem sOf_at (z : St) (j : Nat) (h : j < 8) : (sOf z)[j]? = some (.int .u32 (I32 (z.at j))) := by
  have := sArr_at z z 0 j h
  rw [if_neg (by omega)] at this
  exact this
theorem info8w : (Try.prog.info? 156).map (·.size) = some 8 := by kernel_rfl
theorem sArr_one (s z : St) (j : Nat) : (sArr s z j).all (·.oneCell') = true := by
  unfold sArr
  simp [Value.oneCell']

set_option maxRecDepth 100000 in
set_option maxHeartbeats 2000000 in
theorem rmix_any (ks : Nat → UInt32) (s : St) (B : List UInt8) (hB : B.length = 64) (w : World) :
    Calls Try.prog 104 #[.agg (wArr ks 64 64), agg8 s, .string ⟨B.toArray⟩] w fun e w' => e = .returned (agg8 (mixS ks s (fun j => gt B j))) ∧ Below w.heap.size w w' := by
  obtain ⟨bs, hbs⟩ : ∃ bs, bs = fun j => gt B j := ⟨_, rfl⟩
  rw [← hbs]
  have hBi : (B.length : Int) = 64 := by omega
  have Hbs := Lib.hid hbs
  have HBi := Lib.hid hBi
  clear hbs hB hBi
  unfold agg8
  generalize hKW : wArr ks 64 64 = KW
  have HKW := Lib.hid hKW
  clear hKW
  go_enter Try.func104, Try.ntmps104
  go_wp2_with fail
  refine abs_world ?_
  intro w1 hw1
  have hk : Blk w1 w.heap.size 154 (wArr ks 64 64) := by
    rw [hw1, HKW.out]; exact (((Blk.new _ _ _).alloc _).alloc _).alloc _
  have h0 : Blk w1 (w.heap.size + 1) 156 (sOf s) := by
    rw [hw1]; exact ((Blk.new_at _ _ _ _ _ (by simp) rfl).alloc _).alloc _
  have h1 : Blk w1 (w.heap.size + 2) 156 (sOf ⟨0, 0, 0, 0, 0, 0, 0, 0⟩) := by
    rw [hw1]; exact (Blk.new_at _ _ _ _ _ (by simp) rfl).alloc _
  have h2 : Blk w1 (w.heap.size + 3) 154 (wArr (sch bs) 0 64) := by
    rw [hw1]; exact Blk.new_at _ _ _ _ _ (by simp) rfl
  have hl : Below w.heap.size w w1 := by
    rw [hw1]; exact ((((Below.refl _ _).alloc (Nat.le_refl _) _).alloc (by simp) _).alloc (by simp; omega) _).alloc (by simp; omega) _
  clear hw1
  try simp only [Nat.add_assoc, Nat.reduceAdd]
  obtain ⟨g, hg⟩ : ∃ g, g = w.heap.size + 3 := ⟨_, rfl⟩
  rw [← hg] at h2 ⊢
  have Hk := Lib.hid hk
  have H0 := Lib.hid h0
  have H1 := Lib.hid h1
  have H2 := Lib.hid h2
  have Hl := Lib.hid hl
  have Hg := Lib.hid hg
  clear hk h0 h1 h2 hl hg
  go_loopw [8] (fun i wr => ∃ t : Nat, i = .int .i64 t ∧ t ≤ 16 ∧ Blk wr g 154 (wArr (sch bs) t 64) ∧ Only g w1 wr) (fun i _ => 16 - (intOf i).toNat)
  case atStart => exact ⟨0, rfl, by omega, H2.out, Only.refl _ _⟩
  case round =>
    obtain ⟨t, rfl, ht, hb2, ho⟩ := hrel
    by_cases h16 : t < 16
    · have hd16 : decide ((t : Int) < 16) = true := by simp; omega
      have ht16 : (t : Int) < 16 := by omega
      have ht64 : (t : Int) < 64 := by omega
      have hBi := HBi.out
      have b0 : 4 * (t : Int) < 64 := by omega
      have b1 : 4 * (t : Int) + 1 < 64 := by omega
      have b2 : 4 * (t : Int) + 2 < 64 := by omega
      have b3 : 4 * (t : Int) + 3 < 64 := by omega
      have g0 : (0 : Int) ≤ 4 * (t : Int) := by omega
      have g1 : (0 : Int) ≤ 4 * (t : Int) + 1 := by omega
      have g2 : (0 : Int) ≤ 4 * (t : Int) + 2 := by omega
      have g3 : (0 : Int) ≤ 4 * (t : Int) + 3 := by omega
      have e0 : (4 * (t : Int)).toNat = 4 * t := by omega
      have e1 : (4 * (t : Int) + 1).toNat = 4 * t + 1 := by omega
      have e2 : (4 * (t : Int) + 2).toNat = 4 * t + 2 := by omega
      have e3 : (4 * (t : Int) + 3).toNat = 4 * t + 3 := by omega
      have hsum := be4_sum (gb B (4 * t)) (gb B (4 * t + 1)) (gb B (4 * t + 2)) (gb B (4 * t + 3))
      have hsum' := be4_sum' (gb B (4 * t)) (gb B (4 * t + 1)) (gb B (4 * t + 2)) (gb B (4 * t + 3))
      have c0 := (hb2.cell t).trans (by rw [wArr_at _ _ _ _ (show t < 64 by omega), if_neg (by omega)])
      have f0 := hb2.frozen t
      have Hb2 := Lib.hid hb2
      have Ho := Lib.hid ho
      clear hb2 ho
      go_wp2_with fail
      go_region
      go_wp2_with fail
      refine ⟨⟨t + 1, by go_num, by omega, ?_, (Ho.out.set_ _ _).drewN 1⟩, by simp [intOf]; omega⟩
      have := (Hb2.out.set_ t (.int .u32 (I32 (sch bs t)))).drewN 1
      rw [wArr_set, sch_lo bs h16, Hbs.out] at this
      rw [Hbs.out]
      exact this
    · have hd16 : decide ((t : Int) < 16) = false := by simp; omega
      have ht16 : t = 16 := by omega
      rw [ht16] at hb2
      have Hb2 := Lib.hid hb2
      have Ho := Lib.hid ho
      clear hb2 ho ht16
      go_wp2_with fail
      go_loopw [9] (fun i wr => ∃ t : Nat, i = .int .i64 t ∧ 16 ≤ t ∧ t ≤ 64 ∧ Blk wr g 154 (wArr (sch bs) t 64) ∧ Only g w1 wr) (fun i _ => 64 - (intOf i).toNat)
      case atStart => exact ⟨16, rfl, by omega, by omega, Hb2.out, Ho.out⟩
      case round =>
        obtain ⟨t, rfl, htl, htu, hb2, ho⟩ := hrel
        have Hb2 := Lib.hid hb2
        have Ho := Lib.hid ho
        clear hb2 ho
        by_cases h64 : t < 64
        · have hd64 : decide ((t : Int) < 64) = true := by simp; omega
          have c16 := (Hb2.out.cell (t - 16)).trans (by rw [wArr_at _ _ _ _ (show t - 16 < 64 by omega), if_pos (by omega)])
          have c15 := (Hb2.out.cell (t - 15)).trans (by rw [wArr_at _ _ _ _ (show t - 15 < 64 by omega), if_pos (by omega)])
          have c7 := (Hb2.out.cell (t - 7)).trans (by rw [wArr_at _ _ _ _ (show t - 7 < 64 by omega), if_pos (by omega)])
          have c2 := (Hb2.out.cell (t - 2)).trans (by rw [wArr_at _ _ _ _ (show t - 2 < 64 by omega), if_pos (by omega)])
          have c0 := (Hb2.out.cell t).trans (by rw [wArr_at _ _ _ _ (show t < 64 by omega), if_neg (by omega)])
          have f0 := Hb2.out.frozen t
          have ht64 : (t : Int) < 64 := by omega
          have w2 : IntKind.i64.wrap ((t : Int) - 2) = (t : Int) - 2 := IntWalk.i64_in _ (by omega)
          have n2 : (2 : Int) ≤ (t : Int) := by omega
          have l2 : (t : Int) - 2 < 64 := by omega
          have z2 : ((t : Int) - 2).toNat = t - 2 := by omega
          have w7 : IntKind.i64.wrap ((t : Int) - 7) = (t : Int) - 7 := IntWalk.i64_in _ (by omega)
          have n7 : (7 : Int) ≤ (t : Int) := by omega
          have l7 : (t : Int) - 7 < 64 := by omega
          have z7 : ((t : Int) - 7).toNat = t - 7 := by omega
          have w15 : IntKind.i64.wrap ((t : Int) - 15) = (t : Int) - 15 := IntWalk.i64_in _ (by omega)
          have n15 : (15 : Int) ≤ (t : Int) := by omega
          have l15 : (t : Int) - 15 < 64 := by omega
          have z15 : ((t : Int) - 15).toNat = t - 15 := by omega
          have w16 : IntKind.i64.wrap ((t : Int) - 16) = (t : Int) - 16 := IntWalk.i64_in _ (by omega)
          have n16 : (16 : Int) ≤ (t : Int) := by omega
          have l16 : (t : Int) - 16 < 64 := by omega
          have z16 : ((t : Int) - 16).toNat = t - 16 := by omega
          go_wp2_with fail
          go_quiet ((go_at_call 112; exact Calls.quiet_of_same (rturn_any _ _ _ (by omega) (by omega))))
          go_wp2_with fail
          go_quiet ((go_at_call 112; exact quiet_add_same (rturn_any _ _ _ (by omega) (by omega))))
          go_wp2_with fail
          go_region
          go_wp2_with fail
          have hx := fun n => (Hb2.out.drewN n).set_ t (.int .u32 (I32 (sch bs t)))
          simp only [wArr_set] at hx
          rw [sch_hi bs (by omega)] at hx
          exact ⟨⟨t + 1, by go_num, by omega, by omega, hx _, (Ho.out.drewN _).set_ _ _⟩, by simp [intOf]; omega⟩
        · have hd64 : decide ((t : Int) < 64) = false := by simp; omega
          have ht64 : t = 64 := by omega
          have hb64 := Hb2.out
          rw [ht64] at hb64
          have Hb64 := Lib.hid hb64
          have hs := Ho.out.blk H0.out (by have := Hg.out; omega)
          have s0 := hs.cell 0
          have s1 := hs.cell 1
          have s2 := hs.cell 2
          have s3 := hs.cell 3
          have s4 := hs.cell 4
          have s5 := hs.cell 5
          have s6 := hs.cell 6
          have s7 := hs.cell 7
          simp only [sOf, List.getElem?_toArray, List.getElem?_cons_zero, List.getElem?_cons_succ] at s0 s1 s2 s3 s4 s5 s6 s7
          have Hs := Lib.hid hs
          clear hs hb64 ht64
          go_wp2_with fail
          refine abs_world ?_
          intro w3 hw3
          obtain ⟨zb, hzb⟩ : ∃ zb, zb = wr.heap.size := ⟨_, rfl⟩
          rw [← hzb]
          have hwr : w.heap.size + 3 < wr.heap.size := by have := Hb2.out.lt; have := Hg.out; omega
          have hz3 : Blk w3 zb 156 (sOf s) := by rw [hw3, hzb]; exact Blk.new_at _ _ _ _ _ rfl rfl
          have hg3 : Blk w3 g 154 (wArr (sch bs) 64 64) := by rw [hw3]; exact Hb64.out.alloc _
          have hs3 : Blk w3 (w.heap.size + 1) 156 (sOf s) := by rw [hw3]; exact Hs.out.alloc _
          have hr3 : Blk w3 (w.heap.size + 2) 156 (sOf ⟨0, 0, 0, 0, 0, 0, 0, 0⟩) := by rw [hw3]; exact (Ho.out.blk H1.out (by have := Hg.out; omega)).alloc _
          have hk3 : Blk w3 w.heap.size 154 (wArr ks 64 64) := by rw [hw3]; exact (Ho.out.blk Hk.out (by have := Hg.out; omega)).alloc _
          have hB3 : Below w.heap.size w w3 := by
            rw [hw3]; exact (Hl.out.trans (Ho.out.below (by have := Hg.out; omega) (by have := Hk.out.lt; omega))).alloc (by omega) _
          have Hz3 := Lib.hid hz3
          have Hg3 := Lib.hid hg3
          have Hs3 := Lib.hid hs3
          have Hr3 := Lib.hid hr3
          have Hk3 := Lib.hid hk3
          have HB3 := Lib.hid hB3
          have Hzb : Hid (w.heap.size + 3 < zb ∧ g < zb) := Lib.hid ⟨by omega, by have := Hb2.out.lt; omega⟩
          clear hw3 hz3 hg3 hs3 hr3 hk3 hB3 hzb hwr s0 s1 s2 s3 s4 s5 s6 s7
          go_loopw [13] (fun i w4 => ∃ t : Nat, i = .int .i64 t ∧ t ≤ 64 ∧ Blk w4 zb 156 (sOf (rnd ks (sch bs) s t)) ∧ Only zb w3 w4) (fun i _ => 64 - (intOf i).toNat)
          case atStart => exact ⟨0, rfl, by omega, Hz3.out, Only.refl _ _⟩
          case round =>
            obtain ⟨t, rfl, htu, hz, ho⟩ := hrel
            obtain ⟨z, hze⟩ : ∃ z, z = rnd ks (sch bs) s t := ⟨_, rfl⟩
            rw [← hze] at hz
            have Hze := Lib.hid hze
            clear hze
            by_cases h64 : t < 64
            · have hd64 : decide ((t : Int) < 64) = true := by simp; omega
              have ht64 : (t : Int) < 64 := by omega
              have z0 := hz.cell 0
              have z1 := hz.cell 1
              have z2 := hz.cell 2
              have z3 := hz.cell 3
              have z4 := hz.cell 4
              have z5 := hz.cell 5
              have z6 := hz.cell 6
              have z7 := hz.cell 7
              simp only [sOf, List.getElem?_toArray, List.getElem?_cons_zero, List.getElem?_cons_succ] at z0 z1 z2 z3 z4 z5 z6 z7
              have y0 := hz.frozen 0
              have y1 := hz.frozen 1
              have y2 := hz.frozen 2
              have y3 := hz.frozen 3
              have y4 := hz.frozen 4
              have y5 := hz.frozen 5
              have y6 := hz.frozen 6
              have y7 := hz.frozen 7
              have hne1 : w.heap.size ≠ zb := by have := Hzb.out; omega
              have hne2 : g ≠ zb := by have := Hzb.out; omega
              have ck := ((ho.blk Hk3.out hne1).cell t).trans (by rw [wArr_at _ _ _ _ h64, if_pos h64])
              have cw := ((ho.blk Hg3.out hne2).cell t).trans (by rw [wArr_at _ _ _ _ h64, if_pos h64])
              have Hz := Lib.hid hz
              have Ho4 := Lib.hid ho
              clear hz ho
              go_wp2_with fail
              go_quiet ((go_at_call 112; first | exact Calls.quiet_of_same (rturn_any _ _ _ (by omega) (by omega)) | exact quiet_add_same (rturn_any _ _ _ (by omega) (by omega))))
              go_wp2_with fail
              go_quiet ((go_at_call 112; first | exact Calls.quiet_of_same (rturn_any _ _ _ (by omega) (by omega)) | exact quiet_add_same (rturn_any _ _ _ (by omega) (by omega))))
              go_wp2_with fail
              refine ⟨⟨t + 1, by go_num, by omega, ?_, ((((((((Ho4.out.drewN _).set_ 0 _).set_ 1 _).set_ 2 _).set_ 3 _).set_ 4 _).set_ 5 _).set_ 6 _).set_ 7 _⟩, by simp [intOf]; omega⟩
              show Blk _ zb _ (sOf (stp (ks t) (sch bs t) (rnd ks (sch bs) s t)))
              rw [← Hze.out]
              exact Blk.set8_same (Hz.out.drewN _) (stp (ks t) (sch bs t) z)
            · have hd64 : decide ((t : Int) < 64) = false := by simp; omega
              have ht64 : t = 64 := by omega
              have hm : mixS ks s bs = s.add z := by unfold mixS; rw [Hze.out, ht64]
              have Hm := Lib.hid hm
              have hs4 := ho.blk Hs3.out (by have := Hzb.out; omega)
              have hr4 := ho.blk Hr3.out (by have := Hzb.out; omega)
              have hB4 : Below w.heap.size w wr := HB3.out.trans (ho.below (by have := Hzb.out; omega) (by have := Hk3.out.lt; omega))
              have Hz := Lib.hid hz
              have Hs4 := Lib.hid hs4
              have Hr4 := Lib.hid hr4
              have HB4 := Lib.hid hB4
              clear hz ho hs4 hr4 hB4 hm ht64
              go_wp2_with fail
              go_loopw [16] (fun i w5 => ∃ j : Nat, i = .int .i64 j ∧ j ≤ 8 ∧ Blk w5 (w.heap.size + 1) 156 (sArr s z j) ∧ Only (w.heap.size + 1) wr w5) (fun i _ => 8 - (intOf i).toNat)
              case atStart => exact ⟨0, rfl, by omega, Hs4.out, Only.refl _ _⟩
              case round =>
                obtain ⟨j, rfl, hj, hb5, ho5⟩ := hrel
                by_cases h8 : j < 8
                · have hd8 : decide ((j : Int) < 8) = true := by simp; omega
                  have hj8 : (j : Int) < 8 := by omega
                  have hc := (hb5.cell j).trans (by rw [sArr_at _ _ _ _ h8, if_neg (by omega)])
                  have hf := hb5.frozen j
                  have hzc := ((ho5.blk Hz.out (by have := Hzb.out; omega)).cell j).trans (sOf_at z j h8)
                  have Hb5 := Lib.hid hb5
                  have Ho5 := Lib.hid ho5
                  clear hb5 ho5
                  go_wp2_with fail
                  go_region
                  go_wp2_with fail
                  refine ⟨⟨j + 1, by go_num, by omega, ?_, (Ho5.out.set_ _ _).drewN 1⟩, by simp [intOf]; omega⟩
                  have := (Hb5.out.set_ j (.int .u32 (I32 (s.at j + z.at j)))).drewN 1
                  rw [sArr_set] at this
                  exact this
                · have hd8 : decide ((j : Int) < 8) = false := by simp; omega
                  have hj8 : j = 8 := by omega
                  rw [hj8] at hb5
                  have hr5 := ho5.blk Hr4.out (by omega)
                  have hi8 : (Try.prog.info? 156).map (·.size) = some (sArr s z 8).size := by rw [sArr_size]; exact info8w
                  have hB5 : Below w.heap.size w wr := HB4.out.trans (ho5.below (by omega) (by have := Hs4.out.lt; omega))
                  have Hb5 := Lib.hid hb5
                  have Hr5 := Lib.hid hr5
                  have Hi8 := Lib.hid hi8
                  have HB5 := Lib.hid hB5
                  clear hb5 ho5 hr5 hi8 hB5 hj8
                  go_wp2_with (first
                    | (refine wpList_load_row rfl 156 (.tmp 4) rfl (w.heap.size + 1) rfl 156 (sArr s z 8) (0, 0) _ Hb5.out Try.underlying156 rfl Hi8.out ?_)
                    | (refine wpList_store_row rfl 156 (.tmp 6) (.tmp 207) rfl (w.heap.size + 2) (sArr s z 8) rfl rfl 156 (sOf ⟨0, 0, 0, 0, 0, 0, 0, 0⟩) Hr5.out Hi8.out (by rw [sArr_size]; rfl) (sArr_one _ _ _) ?_))
                  refine bodyPost_ret (v := .agg (sArr s z 8)) (results_cell_row (t := 156) (fr := (0, 0)) rfl _ _ (w.heap.size + 2) _ _ rfl (setRow_heap _ _ _ _ _ _ Hr5.out) Try.underlying156 rfl Hi8.out) rfl ⟨by rw [Hm.out]; rfl, ?_⟩
                  exact below_setRow HB5.out (by omega) _
end Go.Proofs.Ytgkhdpplmdkkaaa
