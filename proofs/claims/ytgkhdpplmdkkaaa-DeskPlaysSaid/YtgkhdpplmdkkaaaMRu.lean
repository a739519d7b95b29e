/- The contracts of the reference: its digest. -/
import Derived.Test.YtgkhdpplmdkkaaaMRm
import Derived.Test.YtgkhdpplmdkkaaaMRd
import Derived.Test.YtgkhdpplmdkkaaaMb
import Derived.Deep.MidRow
import Derived.StillTailTactics
namespace Go.Proofs.Ytgkhdpplmdkkaaa
open Go.RowKit Go.Lib

@[go_sem] theorem run_str4d {P : Program} (w : World) (src dst e : TypeId) (a b c d : Int) (cap g : Nat) (fr : Nat × Nat) (hg : g = w.heap.size) (hs : P.underlying src = some (.slice e)) (he : P.underlying e = some (.int .u8)) (hd : P.underlying dst = some .string) :
    (convert src dst (.slice (some ⟨g, 0, none⟩) 4 cap)).run P (w.alloc (.cells #[.int .u8 a, .int .u8 b, .int .u8 c, .int .u8 d] e fr)).drew = .ok (.string ⟨#[UInt8.ofNat a.toNat, UInt8.ofNat b.toNat, UInt8.ofNat c.toNat, UInt8.ofNat d.toNat]⟩) (w.alloc (.cells #[.int .u8 a, .int .u8 b, .int .u8 c, .int .u8 d] e fr)).drew := by
  subst hg
  rw [run_convert_bytes_arg (P := P) _ src e hs he w.heap.size 0 4 cap [a, b, c, d] rfl (fun i hi => by
    have : i = 0 ∨ i = 1 ∨ i = 2 ∨ i = 3 := by omega
    have h := World.cell?_alloc_mark w #[.int .u8 a, .int .u8 b, .int .u8 c, .int .u8 d] e fr i
    rcases this with rfl | rfl | rfl | rfl <;> simpa using h) dst hd]
  rfl
theorem I8_back' (u : UInt8) : UInt8.ofNat (I8 u).toNat = u := by
  show UInt8.ofNat u.toNat = u
  exact UInt8.ofNat_toNat
theorem tm0' (X : UInt32) : (I32 X).tmod 256 % 256 = I8 (UInt8.ofNat X.toNat) := by
  rw [← u32_byte0, Int.tmod_eq_emod_of_nonneg (I32_nonneg X)]
  omega
theorem tm1' (X : UInt32) (d : Nat) : (I32 X).tdiv (d : Int) % 256 = I8 (UInt8.ofNat (X.toNat / d)) := by
  rw [← u32_byte, Int.tdiv_eq_ediv_of_nonneg (I32_nonneg X)]
theorem extract_cut (l : List UInt8) (a b : Nat) : (ByteArray.mk l.toArray).extract a b = ⟨((l.take b).drop a).toArray⟩ := by
  apply ByteArray.ext
  simp [ByteArray.data_extract, List.drop_take]

theorem wpStill_load {P : Program} {ops : Array Oper} {w : World} {Q : Act → Prop} {rest : List Oper} {a : Act} {o : Oper} (hgd : o.guard = none) (ty : TypeId) (x : Operand) (ho : o.op = .load ty x)
    (g : Nat) (hx : a.eval x = .pointer (some ⟨g, 0, none⟩)) (cs : Array Value) (d : TypeDesc) (hS : w.rangeAt g 0 cs.toList)
    (hu : P.underlying ty = some d) (hd : d.isRow = true) (hi : (P.info? ty).map (·.size) = some cs.toList.length)
    (h : wpStill P ops w Q rest (a.put o.dst (.agg cs))) : wpStill P ops w Q (o :: rest) a :=
  wpStill_step (fun K hK => by
    have hw : Region.wanted o (yielded ops a.tmps) = true := by simp [Region.wanted, hgd]
    rw [if_pos hw]
    unfold Oper.still execOp
    simp only [ho, hx, Instr.loadAt, Instr.sureAddr, Sem.run_bind, Sem.run_pure, Result.andThen_ok, run_loadVar_mid w g 0 ty cs.toList d hS hu hd hi]
    exact ⟨rfl, hK _ h⟩)
theorem abs_q2 {F : Exit → Act → World → Prop} {e : Exit} {a : Act} {w : World} (h : ∀ w1, w1 = w → F e a w1) : F e a w := h w rfl
theorem RA {w : World} {g : Nat} {t : TypeId} {cs : Array Value} (h : Blk w g t cs) : w.rangeAt g 0 cs.toList := fun j v hv => by
  rw [Nat.zero_add, h.cell j]; simpa using hv
set_option maxRecDepth 100000 in
set_option maxHeartbeats 4000000 in
theorem rsum_any (T : List UInt8) (w : World) (hT : T.length ≤ 549755813888) :
    Calls Try.prog 89 #[.string ⟨T.toArray⟩] w fun e w' => e = .returned (.string ⟨(dig T).toArray⟩) ∧ Below w.heap.size w w' := by
  go_enter Try.func89, Try.ntmps89
  go_wp2_with fail
  refine (rwords_any _).mono ?_
  rintro e w0 ⟨rfl, hl0⟩
  obtain ⟨KW, hKW⟩ : ∃ KW, KW = wArr kw 64 64 := ⟨_, rfl⟩
  rw [← hKW]
  have hks : KW.size = 64 := by rw [hKW, wArr_size]
  have hi64 : (Try.prog.info? 154).map (·.size) = some KW.size := by rw [hks]; exact info64
  have hone : KW.all (·.oneCell') = true := by rw [hKW]; exact wArr_one _ _ _
  have HKW := Lib.hid hKW
  have Hks := Lib.hid hks
  have Hi64 := Lib.hid hi64
  have Hone := Lib.hid hone
  have Hl0 := Lib.hid hl0
  clear hKW hks hi64 hone hl0
  go_wp2_with (refine wpList_store_row rfl 154 (.tmp 3) (.tmp 10) rfl w0.heap.size KW rfl rfl 154 (wArr kw 0 64) (Blk.new_at _ _ _ _ _ rfl rfl) Hi64.out (by rw [Hks.out, wArr_size]) Hone.out ?_)
  refine abs_world ?_
  intro w1 hw1
  obtain ⟨gk, hgk⟩ : ∃ gk, gk = w0.heap.size := ⟨_, rfl⟩
  rw [← hgk]
  have hk1 : Blk w1 gk 154 KW := by rw [hw1, hgk]; exact Blk.alloc (setRow_heap _ _ _ _ _ _ (Blk.new w0 154 (wArr kw 0 64))) _
  have hs1 : Blk w1 (gk + 1) 156 (wArr iw 0 8) := by rw [hw1, hgk]; exact Blk.new_at _ _ _ _ _ (by simp) rfl
  have hB1 : Below w.heap.size w w1 := by
    rw [hw1]; exact Below.alloc (below_setRow (Hl0.out.alloc Hl0.out.size _) Hl0.out.size _) (by have := Hl0.out.size; simp; omega) _
  have hgw : w.heap.size ≤ gk := by rw [hgk]; exact Hl0.out.size
  have Hk1 := Lib.hid hk1
  have Hs1 := Lib.hid hs1
  have HB1 := Lib.hid hB1
  clear hw1 hk1 hs1 hB1 hgk
  go_loopw [5] (fun i wr => ∃ j : Nat, i = .int .i64 j ∧ j ≤ 8 ∧ Blk wr (gk + 1) 156 (wArr iw j 8) ∧ Only (gk + 1) w1 wr) (fun i _ => 8 - (intOf i).toNat)
  case atStart => exact ⟨0, rfl, by omega, Hs1.out, Only.refl _ _⟩
  case round =>
    obtain ⟨j, rfl, hj, hb, ho⟩ := hrel
    by_cases h8 : j < 8
    · have hd8 : decide ((j : Int) < 8) = true := by simp; omega
      have hj8 : (j : Int) < 8 := by omega
      have hc := (hb.cell j).trans (wArr_at _ _ _ _ h8)
      have hf := hb.frozen j
      have Hb := Lib.hid hb
      have Ho := Lib.hid ho
      clear hb ho
      go_wp2_with fail
      refine (rprime_any j h8 _).mono ?_
      rintro e w2 ⟨rfl, rfl⟩
      go_wp2_with fail
      refine (rrootS_any (prm j) (prm_small h8) _).mono ?_
      rintro e w3 ⟨rfl, rfl⟩
      rw [show UInt32.ofNat (riter (prm j) false 49) = iw j from rfl]
      go_wp2_with fail
      go_roundw
      case rel => exact ⟨j + 1, by go_num, by omega, by have := Hb.out.set_ j (.int .u32 (I32 (iw j))); rwa [wArr_set] at this, Ho.out.set_ _ _⟩
      case measure => simp [intOf]; omega
    · have hd8 : decide ((j : Int) < 8) = false := by simp; omega
      have hj8 : j = 8 := by omega
      rw [hj8, wArr_iv] at hb
      have hk2 := ho.blk Hk1.out (by omega)
      have hB2 : Below w.heap.size w wr := HB1.out.trans (ho.below (by omega) (by have := Hk1.out.lt; omega))
      have hTi : (T.length : Int) = ((T.length : Nat) : Int) := rfl
      have Hb := Lib.hid hb
      have Hk2 := Lib.hid hk2
      have HB2 := Lib.hid hB2
      clear hb ho hk2 hB2 hj8 hTi
      go_wp2_with fail
      refine (rpad_any T.length (by omega) _).mono ?_
      rintro e w3 ⟨rfl, hl3⟩
      obtain ⟨M, hM⟩ : ∃ M, M = T ++ padL T.length := ⟨_, rfl⟩
      have hpl : (padL T.length).length < 200 := by rw [padL_length]; have := zc_lt T.length; omega
      have ha : ∀ W, (Op.stringOp .add ⟨T.toArray⟩ ⟨(padL T.length).toArray⟩).run Try.prog W = .ok (.string ⟨M.toArray⟩) W := fun W => by
        rw [hM]
        have := str_add T (padL T.length) (by omega) W
        exact this
      have hM64 : M.length % 64 = 0 := by rw [hM, List.length_append]; exact padL_whole _
      have hMl : M.length ≤ 2199023255552 := by rw [hM, List.length_append]; omega
      obtain ⟨PL, hPL⟩ : ∃ PL, PL = padL T.length := ⟨_, rfl⟩
      rw [← hPL] at ha ⊢
      have hb3 := Hb.out.below hl3 Hb.out.lt
      have hk3 := Hk2.out.below hl3 Hk2.out.lt
      have hB3 := HB2.out.trans (hl3.mono HB2.out.size)
      have HM := Lib.hid hM
      have HM64 := Lib.hid hM64
      have HMl := Lib.hid hMl
      have Hb3 := Lib.hid hb3
      have Hk3 := Lib.hid hk3
      have HB3 := Lib.hid hB3
      clear hl3 hM hM64 hMl hPL hpl hb3 hk3 hB3
      go_wp2_with fail
      go_loopw [7] (fun ix wr => ∃ q : Nat, ix = .int .i64 ((64 * q : Nat) : Int) ∧ 64 * q ≤ M.length ∧ Blk wr (gk + 1) 156 (sOf (fold kw iv (gt M) q)) ∧ Blk wr gk 154 KW ∧ Below w.heap.size w wr) (fun i _ => M.length - (intOf i).toNat)
      case atStart => exact ⟨0, rfl, by omega, Hb3.out, Hk3.out, HB3.out⟩
      case round =>
        obtain ⟨q, rfl, hq, hs4, hk4, hl⟩ := hrel
        obtain ⟨i, hi⟩ : ∃ i, i = 64 * q := ⟨_, rfl⟩
        rw [← hi]
        rw [← hi] at hq
        obtain ⟨F, hF⟩ : ∃ F, F = fold kw iv (gt M) q := ⟨_, rfl⟩
        rw [← hF] at hs4
        have HF := Lib.hid hF
        have Hi := Lib.hid hi
        have Hk4 := Lib.hid hk4
        have Hl := Lib.hid hl
        clear hF hi hk4 hl
        have hMl := HMl.out
        by_cases him : i < M.length
        · have hd : decide ((i : Int) < (M.length : Int)) = true := by simp; omega
          have him64 : i + 64 ≤ M.length := by have := Hi.out; have := HM64.out; omega
          have hw64 : IntKind.i64.wrap ((i : Int) + 64) = (i : Int) + 64 := by rw [IntKind.wrap_i64]; omega
          have ht64 : ((i : Int) + 64).toNat = i + 64 := by omega
          have hle64 : (i : Int) + 64 ≤ (M.length : Int) := by omega
          have hge64 : (0 : Int) ≤ (i : Int) + 64 := by omega
          have hii : (i : Int) ≤ (i : Int) + 64 := by omega
          obtain ⟨Bk, hBk⟩ : ∃ Bk, Bk = (M.take (i + 64)).drop i := ⟨_, rfl⟩
          have hx : (ByteArray.mk M.toArray).extract i (i + 64) = ⟨Bk.toArray⟩ := by rw [hBk]; exact extract_cut _ _ _
          have hBl : Bk.length = 64 := by rw [hBk, List.length_drop, List.length_take]; omega
          have s0 := hs4.cell 0
          have s1 := hs4.cell 1
          have s2 := hs4.cell 2
          have s3 := hs4.cell 3
          have s4 := hs4.cell 4
          have s5 := hs4.cell 5
          have s6 := hs4.cell 6
          have s7 := hs4.cell 7
          simp only [sOf, List.getElem?_toArray, List.getElem?_cons_zero, List.getElem?_cons_succ] at s0 s1 s2 s3 s4 s5 s6 s7
          have Hs4 := Lib.hid hs4
          have HBk := Lib.hid hBk
          have HBl := Lib.hid hBl
          clear hs4 hBk hBl
          have hu64 := Try.underlying154
          have hil : (Try.prog.info? 154).map (·.size) = some KW.toList.length := by rw [Array.length_toList]; exact Hi64.out
          go_wp2_with fail
          have Hil := Lib.hid hil
          clear hu64 hil
          refine wp_region_still_tail 7 (by kernel_rfl) (by kernel_rfl) ?_
          simp only [List.take_succ_cons, List.take_zero, List.drop_succ_cons, List.drop_zero]
          change wpStill _ _ (World.drewN wr 1) _ _ _
          refine wpStill_load rfl 154 (.tmp 3) rfl gk rfl KW _ (RA (Hk4.out.drewN 1)) Try.underlying154 rfl Hil.out ?_
          still_step
          still_step
          still_step
          still_step
          still_step
          still_step
          refine wpStill_nil ?_
          go_wp2_with fail
          refine ((HKW.out ▸ rmix_any kw F Bk HBl.out (World.drew wr) : Calls Try.prog 104 #[.agg KW, agg8 F, .string ⟨Bk.toArray⟩] (World.drew wr) _)).mono ?_
          rintro e8 w8 ⟨rfl, hl8⟩
          obtain ⟨S9, hS9⟩ : ∃ S9, S9 = mixS kw F (fun j => gt Bk j) := ⟨_, rfl⟩
          rw [← hS9]
          unfold agg8
          clear s0 s1 s2 s3 s4 s5 s6 s7
          have hb8 : Blk w8 (gk + 1) 156 (sOf F) := (Hs4.out.drewN 1).below hl8 Hs4.out.lt
          have hk8 : Blk w8 gk 154 KW := (Hk4.out.drewN 1).below hl8 Hk4.out.lt
          have hB8 : Below w.heap.size w w8 := (below_drewN' Hl.out 1).trans (hl8.mono Hl.out.size)
          have hF1 : S9 = fold kw iv (gt M) (q + 1) := by
            show _ = mixS kw (fold kw iv (gt M) q) _
            rw [← HF.out, hS9]
            refine mixS_congr (fun _ _ => rfl) fun j hj => ?_
            unfold gt
            rw [HBk.out, List.getD_eq_getElem?_getD, List.getD_eq_getElem?_getD, List.getElem?_drop, List.getElem?_take, if_pos (by omega), Hi.out]
          have s0 := hb8.cell 0
          have q0 := hb8.frozen 0
          have s1 := hb8.cell 1
          have q1 := hb8.frozen 1
          have s2 := hb8.cell 2
          have q2 := hb8.frozen 2
          have s3 := hb8.cell 3
          have q3 := hb8.frozen 3
          have s4 := hb8.cell 4
          have q4 := hb8.frozen 4
          have s5 := hb8.cell 5
          have q5 := hb8.frozen 5
          have s6 := hb8.cell 6
          have q6 := hb8.frozen 6
          have s7 := hb8.cell 7
          have q7 := hb8.frozen 7
          simp only [sOf, List.getElem?_toArray, List.getElem?_cons_zero, List.getElem?_cons_succ] at s0 s1 s2 s3 s4 s5 s6 s7
          have Hb8 := Lib.hid hb8
          have Hk8 := Lib.hid hk8
          have HB8 := Lib.hid hB8
          have HF1 := Lib.hid hF1
          clear hl8 hb8 hk8 hB8 hF1 hS9
          go_wp2_with fail
          refine ⟨⟨q + 1, ?_, by have := Hi.out; omega, by rw [← HF1.out]; exact Hb8.out.set8_same S9, Hk8.out.set8_far (o := 0) (Nat.ne_of_lt (Nat.lt_succ_self gk)) S9, below_set8 HB8.out (by omega) 0 S9⟩, ?_⟩
          · have := Hi.out
            congr 1
            omega
          · simp [intOf]
            omega
        · have hd : decide ((i : Int) < (M.length : Int)) = false := by simp; omega
          have hFd : F = digS T := by
            rw [HF.out]
            unfold digS
            rw [← HM.out]
            congr 1
            have h1 := Hi.out
            have h2 := HM64.out
            omega
          have Hs4 := Lib.hid hs4
          have HFd := Lib.hid hFd
          clear hs4 hFd
          go_wp2_with fail
          go_loopw [8, 9] (fun o ix w5 => ∃ j : Nat, ix = .int .i64 j ∧ j ≤ 8 ∧ o = .string ⟨(outB F j).toArray⟩ ∧ Blk w5 (gk + 1) 156 (sOf F) ∧ Below w.heap.size w w5) (fun _ i _ => 8 - (intOf i).toNat)
          case atStart => exact ⟨0, rfl, by omega, rfl, Hs4.out, Hl.out⟩
          case round =>
            obtain ⟨j, rfl, hj, rfl, hb, hB⟩ := hrel
            obtain ⟨O, hO⟩ : ∃ O, O = outB F j := ⟨_, rfl⟩
            rw [← hO]
            have hOl : O.length = 4 * j := by rw [hO, outB_length]
            by_cases h8 : j < 8
            · have hd8 : decide ((j : Int) < 8) = true := by simp; omega
              have hj8 : (j : Int) < 8 := by omega
              obtain ⟨X, hX⟩ : ∃ X, X = F.at j := ⟨_, rfl⟩
              have c0 := (hb.cell j).trans (sOf_at F j h8)
              rw [← hX] at c0
              obtain ⟨u0, hu0⟩ : ∃ u, u = UInt8.ofNat X.toNat := ⟨_, rfl⟩
              obtain ⟨u1, hu1⟩ : ∃ u, u = UInt8.ofNat (X.toNat / 256) := ⟨_, rfl⟩
              obtain ⟨u2, hu2⟩ : ∃ u, u = UInt8.ofNat (X.toNat / 65536) := ⟨_, rfl⟩
              obtain ⟨u3, hu3⟩ : ∃ u, u = UInt8.ofNat (X.toNat / 16777216) := ⟨_, rfl⟩
              have t0 : (I32 X).tmod 256 % 256 = I8 u0 := by rw [hu0]; exact tm0' X
              have t1 : (I32 X).tdiv 256 % 256 = I8 u1 := by rw [hu1]; exact tm1' X 256
              have t2 : (I32 X).tdiv 65536 % 256 = I8 u2 := by rw [hu2]; exact tm1' X 65536
              have t3 : (I32 X).tdiv 16777216 % 256 = I8 u3 := by rw [hu3]; exact tm1' X 16777216
              have k0 := I8_back' u0
              have k1 := I8_back' u1
              have k2 := I8_back' u2
              have k3 := I8_back' u3
              obtain ⟨ON, hON⟩ : ∃ ON, ON = O ++ [u3, u2, u1, u0] := ⟨_, rfl⟩
              have ha3 : ∀ W, (Op.stringOp .add ⟨O.toArray⟩ ⟨#[u3, u2, u1, u0]⟩).run Try.prog W = .ok (.string ⟨ON.toArray⟩) W := fun W => by
                rw [hON]; exact str_add O [u3, u2, u1, u0] (by simp; omega) W
              have hE : ON = outB F (j + 1) := by rw [hON, hO, hu0, hu1, hu2, hu3, hX]; rfl
              have HE := Lib.hid hE
              have Hb := Lib.hid hb
              have HB := Lib.hid hB
              clear hX hu0 hu1 hu2 hu3 hON hE hO hOl hb hB
              go_wp2_with fail
              go_region
              all_goals
                refine abs_q2 ?_
                intro w6 hw6
                have hb6 : Blk w6 (gk + 1) 156 (sOf F) := by rw [hw6]; exact (Hb.out.alloc _).drewN 1
                have hB6 : Below w.heap.size w w6 := by rw [hw6]; exact below_drewN' (HB.out.alloc HB.out.size _) 1
                have Hb6 := Lib.hid hb6
                have HB6 := Lib.hid hB6
                clear hw6 hb6 hB6
                go_wp2_with fail
                refine ⟨⟨j + 1, by go_num, by omega, by rw [HE.out], Hb6.out, HB6.out⟩, by simp [intOf]; omega⟩
            · have hd8 : decide ((j : Int) < 8) = false := by simp; omega
              have hj8 : j = 8 := by omega
              have hR : dig T = O := by rw [hO, hj8, HFd.out]; rfl
              have HR := Lib.hid hR
              have HB := Lib.hid hB
              clear hb hB hR hj8 hO hOl
              go_wp2_with fail
              go_ret
              exact ⟨by rw [HR.out]; rfl, HB.out⟩
end Go.Proofs.Ytgkhdpplmdkkaaa
