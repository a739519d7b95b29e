/- the walk of the law FrameCuts: what is read of cut, or longer, bytes is none. -/
import Derived.Test.YtoankokkdmbjmaaDoorHFrameCutsx5
import Derived.Test.YtoankokkdmbjmaaDoorHFrameCutsx6
import Derived.Test.YtoankokkdmbjmaaDoorHFrameCutsx8
import Derived.Test.YtoankokkdmbjmaaDoorHFrameCutsx9
import Derived.Test.YtoankokkdmbjmaaDoorHFrameCutsx14
import Derived.Test.YtoankokkdmbjmaaDoorFap
namespace Go.Proofs.YtoankokkdmbjmaaDoorH.HFrameCuts
open Go.RowKit Go.Proofs.YtoankokkdmbjmaaDoorW.PrintWords Go.Proofs.YtoankokkdmbjmaaDoorW.PrintLast Go.Proofs.YtoankokkdmbjmaaDoorW.PrintMore
set_option linter.unusedVariables false
set_option linter.unusedSimpArgs false
theorem cut3_ (A : Option Addr) (c : Nat) (xs : List Int) (hc : xs.length ≤ c) : ∀ W : World, (Instr.slice 36 (.slice A xs.length c) none (some (.int .i64 xs.length)) (some (.int .i64 xs.length))).run Tryd.prog W = .ok (.slice A xs.length xs.length) W := by
  intro W
  obtain ⟨i, hi, _⟩ := info_parts info5
  have hel : (Tryd.prog).elem 36 = 5 := by simp [Program.elem, Tryd.underlying36]
  have hu : (Tryd.prog).underlying 36 = some (.slice ((Tryd.prog).elem 36)) := by rw [hel]; exact Tryd.underlying36
  have ha : (A.map fun x => x.add 0) = A := by cases A <;> simp [Addr.add]
  have key : (Instr.slice 36 (.slice A xs.length c) none (some (.int .i64 xs.length)) (some (.int .i64 xs.length))).run Tryd.prog W = ((sizeOf ((Tryd.prog).elem 36)).run Tryd.prog W).andThen fun s w => .ok (sliced A 0 (xs.length : Int).toNat (xs.length : Int).toNat s) w := by
    exact run_slice_hm W 36 A xs.length c hu .i64 .i64 xs.length xs.length (by omega) (by omega) (by omega)
  rw [key, hel]
  simp [sizeOf, typeInfo, hi, sliced, Result.andThen, ha]
theorem cut1_ (A : Option Addr) (c : Nat) (xs : List Int) (j : Int) (hc : xs.length ≤ c) : 0 ≤ j → j < xs.length → ∀ W : World, (Instr.slice 36 (.slice A xs.length c) none (some (.int .i64 j)) none).run Tryd.prog W = .ok (.slice A j.toNat c) W := by
  intro h0 h1 W
  obtain ⟨i, hi, _⟩ := info_parts info5
  exact cut_to (P := Tryd.prog) 36 5 .i64 Tryd.underlying36 hi A xs.length c j h0 (by omega) hc W
theorem rr_at (k : Nat) (A0 : Option Addr) (c0 n : Nat) (l0 : List Int) (w : World) (hn : l0.length = n) (hr0 : Kd.C (Kd.int .u8) w A0 l0.length l0) (hc0 : n ≤ c0) (h : frame_ReadRequest.f k l0 = some (reqZ 4)) :
    Calls Tryd.prog 23 #[.slice A0 n c0] w fun e w' => ∃ (A : Option Addr) (c : Nat), e = .returned (.tuple #[.agg #[.int .i64 0, .int .i64 0, .int .i64 0, .int .i64 0, .int .i64 0, .slice A 0 c, .string ⟨#[]⟩, .string ⟨#[]⟩, .string ⟨#[]⟩, .string ⟨#[]⟩, .string ⟨#[]⟩, .string ⟨#[]⟩], .int .i64 4]) ∧ Below w.heap.size w w' := by
  subst hn
  refine (frame_ReadRequest.calls k A0 c0 l0 _ _ _ _ _ _ _ _ _ _ _ _ _ w hr0 hc0 h).mono ?_
  rintro e w' ⟨v, rfl, hr, hb⟩
  obtain ⟨A, c, rfl⟩ := Kd.R_slice hr
  exact ⟨A, c, rfl, hb⟩
theorem rp_at (k : Nat) (A0 : Option Addr) (c0 n : Nat) (l0 : List Int) (w : World) (hn : l0.length = n) (hr0 : Kd.C (Kd.int .u8) w A0 l0.length l0) (hc0 : n ≤ c0) (h : frame_ReadReply.f k l0 = some (repZ 4)) :
    Calls Tryd.prog 16 #[.slice A0 n c0] w fun e w' => ∃ (A3 : Option Addr) (c3 : Nat) (A6 : Option Addr) (c6 : Nat) (A7 : Option Addr) (c7 : Nat) (A9 : Option Addr) (c9 : Nat), e = .returned (.tuple #[.agg #[.int .i64 0, .int .i64 0, .int .i64 0, .slice A3 0 c3, .string ⟨#[]⟩, .string ⟨#[]⟩, .slice A6 0 c6, .slice A7 0 c7, .string ⟨#[]⟩, .slice A9 0 c9, .int .i64 0, .int .i64 0], .int .i64 4]) ∧ Below w.heap.size w w' := by
  subst hn
  refine (frame_ReadReply.calls k A0 c0 l0 _ _ _ _ _ _ _ _ _ _ _ _ _ w hr0 hc0 h).mono ?_
  rintro e w' ⟨v3, v6, v7, v9, rfl, h3, h6, h7, h9, hb⟩
  obtain ⟨A3, c3, rfl⟩ := Kd.R_slice h3
  obtain ⟨A6, c6, rfl⟩ := Kd.R_slice h6
  obtain ⟨A7, c7, rfl⟩ := Kd.R_slice h7
  obtain ⟨A9, c9, rfl⟩ := Kd.R_slice h9
  exact ⟨A3, c3, A6, c6, A7, c7, A9, c9, rfl, hb⟩
set_option maxHeartbeats 8000000 in
set_option maxRecDepth 100000 in
theorem cuts_walk (k : Nat) (q0 q1 q2 q3 q4 : Int) (Aq : Option Addr) (cq : Nat) (lq : List S91) (q6 q7 q8 q9 q10 q11 : ByteArray)
    (a0 a1 a2 : Int) (A3 : Option Addr) (c3 : Nat) (l3 : List ByteArray) (a4 a5 : ByteArray) (A6 : Option Addr) (c6 : Nat) (l6 : List S65) (A7 : Option Addr) (c7 : Nat) (l7 : List S74) (a8 : ByteArray) (A9 : Option Addr) (c9 : Nat) (l9 : List S67) (a10 a11 : Int) (n0 n1 : Int) (w : World)
    (hq : Kd.C k91 w Aq lq.length lq) (hqc : lq.length ≤ cq) (h3 : Kd.C Kd.string w A3 l3.length l3) (h3c : l3.length ≤ c3) (h6 : Kd.C k65 w A6 l6.length l6) (h6c : l6.length ≤ c6) (h7 : Kd.C k74 w A7 l7.length l7) (h7c : l7.length ≤ c7) (h9 : Kd.C k67 w A9 l9.length l9) (h9c : l9.length ≤ c9)
    (sm li : Bool) (a b : List Int) (ea eb : Int)
    (hlives : strongroomlaw25_lives.f k = some true)
    (hsm : strongroomlaw25_small.f k q0 q1 q2 q3 q4 lq q6 q7 q8 q9 q10 q11 = some sm)
    (hli : sm = true → strongroomlaw25_little.f k a0 a1 a2 l3 a4 a5 l6 l7 a8 l9 a10 a11 = some li)
    (hrq : sm = true → li = true → frame_Request.f k q0 q1 q2 q3 q4 lq q6 q7 q8 q9 q10 q11 = some (a, ea))
    (hrp : sm = true → li = true → frame_Reply.f k a0 a1 a2 l3 a4 a5 l6 l7 a8 l9 a10 a11 = some (b, eb))
    (hab : a.length < 1000000 ∧ b.length < 1000000)
    (g1 : ea = 0 → frame_ReadRequest.f k (a ++ [n1 % 256]) = some (reqZ 4))
    (g2 : ea = 0 → 0 ≤ n0 → n0 < a.length → frame_ReadRequest.f k (a.take n0.toNat) = some (reqZ 4))
    (g3 : eb = 0 → frame_ReadReply.f k (b ++ [n1 % 256]) = some (repZ 4))
    (g4 : eb = 0 → 0 ≤ n0 → n0 < b.length → frame_ReadReply.f k (b.take n0.toNat) = some (repZ 4)) :
    Calls Tryd.prog 7 #[.agg #[.int .i64 q0, .int .i64 q1, .int .i64 q2, .int .i64 q3, .int .i64 q4, .slice Aq lq.length cq, .string q6, .string q7, .string q8, .string q9, .string q10, .string q11],
      .agg #[.int .i64 a0, .int .i64 a1, .int .i64 a2, .slice A3 l3.length c3, .string a4, .string a5, .slice A6 l6.length c6, .slice A7 l7.length c7, .string a8, .slice A9 l9.length c9, .int .i64 a10, .int .i64 a11], .agg #[.int .i64 n0, .int .i64 n1]] w fun e w' => e = .returned (.bool true) ∧ Below w.heap.size w w' := by
  have HQ := Aside0.mk hq
  have HQC := Aside0.mk hqc
  have H3 := Aside0.mk h3
  have HC3 := Aside0.mk h3c
  have H6 := Aside0.mk h6
  have HC6 := Aside0.mk h6c
  have H7 := Aside0.mk h7
  have HC7 := Aside0.mk h7c
  have H9 := Aside0.mk h9
  have HC9 := Aside0.mk h9c
  have HLV := Aside0.mk hlives
  have HSM := Aside0.mk hsm
  have HLN := Aside0.mk hab
  have G1 := Aside0.mk g1
  have G2 := Aside0.mk g2
  have G3 := Aside0.mk g3
  have G4 := Aside0.mk g4
  clear hq hqc h3 h3c h6 h6c h7 h7c h9 h9c hlives hsm hab g1 g2 g3 g4
  cases sm
  · clear hli hrq hrp
    go_enter Tryd.func7, Tryd.ntmps7
    go_wp2
    go_quiet (fail)
    go_wp2_with (first
      | (go_at_call 19; (with_reducible refine (strongroomlaw25_small.calls k q0 q1 q2 q3 q4 Aq cq lq q6 q7 q8 q9 q10 q11 _ _ ?hr ?hc HSM.out).mono ?_); (case hr => exact Kd.C_below HQ.out (pw_below_drewN (below_alloc (below_alloc (below_alloc (Below.refl _ _) _) _) _) _)); (case hc => exact HQC.out); rintro e w1 ⟨rfl, hb⟩; have HB1 := Aside0.mk (below_step (pw_below_drewN (below_alloc (below_alloc (below_alloc (Below.refl _ _) _) _) _) _) hb); have HQ1 := Aside0.mk (blk_below (blk_drewN (blk_alloc (blk_alloc (heap_alloc_new w (.cells #[.int .i64 q0, .int .i64 q1, .int .i64 q2, .int .i64 q3, .int .i64 q4, .slice Aq lq.length cq, .string q6, .string q7, .string q8, .string q9, .string q10, .string q11] 47)) _) _) _) hb); have HR1 := Aside0.mk (blk_below (blk_drewN (blk_alloc (blk_newG (W := w.alloc (.cells #[.int .i64 q0, .int .i64 q1, .int .i64 q2, .int .i64 q3, .int .i64 q4, .slice Aq lq.length cq, .string q6, .string q7, .string q8, .string q9, .string q10, .string q11] 47)) (g := w.heap.size + 1) (by simp) (.cells #[.int .i64 a0, .int .i64 a1, .int .i64 a2, .slice A3 l3.length c3, .string a4, .string a5, .slice A6 l6.length c6, .slice A7 l7.length c7, .string a8, .slice A9 l9.length c9, .int .i64 a10, .int .i64 a11] 34)) _) _) hb); clear hb; obtain ⟨x0, x1, x2, x3, x4, x5, x6, x7, x8, x9, x10, x11⟩ := rq_cells HQ1.out; obtain ⟨⟨y0, y1, y2, y3, y4, y5, y6, y7, y8, y9, y10, y11⟩, _⟩ := rp_cells HR1.out)
      | (go_at_call 11; (with_reducible refine (strongroomlaw25_lives.calls k true _ HLV.out rfl).mono ?_); rintro e w9 ⟨rfl, hb⟩; have HB9 := Aside0.mk hb; clear hb))
    go_ret
    exact ⟨rfl, below_step HB1.out HB9.out⟩
  have HLI := Aside0.mk (hli rfl)
  clear hli
  cases li
  · clear hrq hrp
    go_enter Tryd.func7, Tryd.ntmps7
    go_wp2
    go_quiet (fail)
    go_wp2_with (first
      | (go_at_call 19; (with_reducible refine (strongroomlaw25_small.calls k q0 q1 q2 q3 q4 Aq cq lq q6 q7 q8 q9 q10 q11 _ _ ?hr ?hc HSM.out).mono ?_); (case hr => exact Kd.C_below HQ.out (pw_below_drewN (below_alloc (below_alloc (below_alloc (Below.refl _ _) _) _) _) _)); (case hc => exact HQC.out); rintro e w1 ⟨rfl, hb⟩; have HB1 := Aside0.mk (below_step (pw_below_drewN (below_alloc (below_alloc (below_alloc (Below.refl _ _) _) _) _) _) hb); have HQ1 := Aside0.mk (blk_below (blk_drewN (blk_alloc (blk_alloc (heap_alloc_new w (.cells #[.int .i64 q0, .int .i64 q1, .int .i64 q2, .int .i64 q3, .int .i64 q4, .slice Aq lq.length cq, .string q6, .string q7, .string q8, .string q9, .string q10, .string q11] 47)) _) _) _) hb); have HR1 := Aside0.mk (blk_below (blk_drewN (blk_alloc (blk_newG (W := w.alloc (.cells #[.int .i64 q0, .int .i64 q1, .int .i64 q2, .int .i64 q3, .int .i64 q4, .slice Aq lq.length cq, .string q6, .string q7, .string q8, .string q9, .string q10, .string q11] 47)) (g := w.heap.size + 1) (by simp) (.cells #[.int .i64 a0, .int .i64 a1, .int .i64 a2, .slice A3 l3.length c3, .string a4, .string a5, .slice A6 l6.length c6, .slice A7 l7.length c7, .string a8, .slice A9 l9.length c9, .int .i64 a10, .int .i64 a11] 34)) _) _) hb); clear hb; obtain ⟨x0, x1, x2, x3, x4, x5, x6, x7, x8, x9, x10, x11⟩ := rq_cells HQ1.out; obtain ⟨⟨y0, y1, y2, y3, y4, y5, y6, y7, y8, y9, y10, y11⟩, _⟩ := rp_cells HR1.out)
      | (go_at_call 12; (with_reducible refine (strongroomlaw25_little.calls k a0 a1 a2 A3 c3 l3 a4 a5 A6 c6 l6 A7 c7 l7 a8 A9 c9 l9 a10 a11 _ _ ?r3 ?s3 ?r6 ?s6 ?r7 ?s7 ?r9 ?s9 HLI.out).mono ?_); (case r3 => exact Kd.C_below H3.out HB1.out); (case s3 => exact HC3.out); (case r6 => exact Kd.C_below H6.out HB1.out); (case s6 => exact HC6.out); (case r7 => exact Kd.C_below H7.out HB1.out); (case s7 => exact HC7.out); (case r9 => exact Kd.C_below H9.out HB1.out); (case s9 => exact HC9.out); rintro e w2 ⟨rfl, hb⟩; have HB2 := Aside0.mk (below_step HB1.out hb); have HQ2 := Aside0.mk (blk_below HQ1.out hb); have HR2 := Aside0.mk (blk_below HR1.out hb); clear hb; clear x0 x1 x2 x3 x4 x5 x6 x7 x8 x9 x10 x11 y0 y1 y2 y3 y4 y5 y6 y7 y8 y9 y10 y11; obtain ⟨x0, x1, x2, x3, x4, x5, x6, x7, x8, x9, x10, x11⟩ := rq_cells HQ2.out; obtain ⟨⟨y0, y1, y2, y3, y4, y5, y6, y7, y8, y9, y10, y11⟩, _⟩ := rp_cells HR2.out)
      | (go_at_call 11; (with_reducible refine (strongroomlaw25_lives.calls k true _ HLV.out rfl).mono ?_); rintro e w9 ⟨rfl, hb⟩; have HB9 := Aside0.mk hb; clear hb))
    go_ret
    exact ⟨rfl, below_step HB2.out HB9.out⟩
  have HRQ := Aside0.mk (hrq rfl rfl)
  have HRP := Aside0.mk (hrp rfl rfl)
  clear hrq hrp
  go_enter Tryd.func7, Tryd.ntmps7
  go_wp2
  go_quiet (fail)
  go_wp2_with (first
    | (go_at_call 19; (with_reducible refine (strongroomlaw25_small.calls k q0 q1 q2 q3 q4 Aq cq lq q6 q7 q8 q9 q10 q11 _ _ ?hr ?hc HSM.out).mono ?_); (case hr => exact Kd.C_below HQ.out (pw_below_drewN (below_alloc (below_alloc (below_alloc (Below.refl _ _) _) _) _) _)); (case hc => exact HQC.out); rintro e w1 ⟨rfl, hb⟩; have HB1 := Aside0.mk (below_step (pw_below_drewN (below_alloc (below_alloc (below_alloc (Below.refl _ _) _) _) _) _) hb); have HQ1 := Aside0.mk (blk_below (blk_drewN (blk_alloc (blk_alloc (heap_alloc_new w (.cells #[.int .i64 q0, .int .i64 q1, .int .i64 q2, .int .i64 q3, .int .i64 q4, .slice Aq lq.length cq, .string q6, .string q7, .string q8, .string q9, .string q10, .string q11] 47)) _) _) _) hb); have HR1 := Aside0.mk (blk_below (blk_drewN (blk_alloc (blk_newG (W := w.alloc (.cells #[.int .i64 q0, .int .i64 q1, .int .i64 q2, .int .i64 q3, .int .i64 q4, .slice Aq lq.length cq, .string q6, .string q7, .string q8, .string q9, .string q10, .string q11] 47)) (g := w.heap.size + 1) (by simp) (.cells #[.int .i64 a0, .int .i64 a1, .int .i64 a2, .slice A3 l3.length c3, .string a4, .string a5, .slice A6 l6.length c6, .slice A7 l7.length c7, .string a8, .slice A9 l9.length c9, .int .i64 a10, .int .i64 a11] 34)) _) _) hb); clear hb; obtain ⟨x0, x1, x2, x3, x4, x5, x6, x7, x8, x9, x10, x11⟩ := rq_cells HQ1.out; obtain ⟨⟨y0, y1, y2, y3, y4, y5, y6, y7, y8, y9, y10, y11⟩, _⟩ := rp_cells HR1.out)
    | (go_at_call 12; (with_reducible refine (strongroomlaw25_little.calls k a0 a1 a2 A3 c3 l3 a4 a5 A6 c6 l6 A7 c7 l7 a8 A9 c9 l9 a10 a11 _ _ ?r3 ?s3 ?r6 ?s6 ?r7 ?s7 ?r9 ?s9 HLI.out).mono ?_); (case r3 => exact Kd.C_below H3.out HB1.out); (case s3 => exact HC3.out); (case r6 => exact Kd.C_below H6.out HB1.out); (case s6 => exact HC6.out); (case r7 => exact Kd.C_below H7.out HB1.out); (case s7 => exact HC7.out); (case r9 => exact Kd.C_below H9.out HB1.out); (case s9 => exact HC9.out); rintro e w2 ⟨rfl, hb⟩; have HB2 := Aside0.mk (below_step HB1.out hb); have HQ2 := Aside0.mk (blk_below HQ1.out hb); have HR2 := Aside0.mk (blk_below HR1.out hb); clear hb; clear x0 x1 x2 x3 x4 x5 x6 x7 x8 x9 x10 x11 y0 y1 y2 y3 y4 y5 y6 y7 y8 y9 y10 y11; obtain ⟨x0, x1, x2, x3, x4, x5, x6, x7, x8, x9, x10, x11⟩ := rq_cells HQ2.out; obtain ⟨⟨y0, y1, y2, y3, y4, y5, y6, y7, y8, y9, y10, y11⟩, _⟩ := rp_cells HR2.out)
    | (go_at_call 20; (with_reducible refine (frame_Request.calls k q0 q1 q2 q3 q4 Aq cq lq q6 q7 q8 q9 q10 q11 a ea _ ?hr ?hc HRQ.out).mono ?_); (case hr => exact Kd.C_below HQ.out HB2.out); (case hc => exact HQC.out); rintro e w3 ⟨v3, rfl, hr, hb⟩; obtain ⟨Aa, ca, rfl⟩ := Kd.R_slice hr; have HB3 := Aside0.mk (below_step HB2.out hb); have HR3 := Aside0.mk (blk_below HR2.out hb); have HA3 := Aside0.mk (Kd.R_reads' hr); clear hb hr; clear x0 x1 x2 x3 x4 x5 x6 x7 x8 x9 x10 x11 y0 y1 y2 y3 y4 y5 y6 y7 y8 y9 y10 y11; obtain ⟨⟨y0, y1, y2, y3, y4, y5, y6, y7, y8, y9, y10, y11⟩, _⟩ := rp_cells HR3.out)
    | (go_at_call 13; (with_reducible refine (frame_Reply.calls k a0 a1 a2 A3 c3 l3 a4 a5 A6 c6 l6 A7 c7 l7 a8 A9 c9 l9 a10 a11 b eb _ ?r3 ?s3 ?r6 ?s6 ?r7 ?s7 ?r9 ?s9 HRP.out).mono ?_); (case r3 => exact Kd.C_below H3.out HB3.out); (case s3 => exact HC3.out); (case r6 => exact Kd.C_below H6.out HB3.out); (case s6 => exact HC6.out); (case r7 => exact Kd.C_below H7.out HB3.out); (case s7 => exact HC7.out); (case r9 => exact Kd.C_below H9.out HB3.out); (case s9 => exact HC9.out); rintro e w4 ⟨v4, rfl, hr, hb⟩; obtain ⟨Ab, cb, rfl⟩ := Kd.V_slice hr; have HB4 := Aside0.mk (below_step HB3.out hb); have HA4 := Aside0.mk (Kd.C_below HA3.out.2.2 hb); have HB_ := Aside0.mk (Kd.V_reads' hr); have kc3 := cut3_ Aa ca a HA3.out.2.1; have kc4 := cut3_ Ab cb b HB_.out.2.1; have kd3 := cut1_ Aa ca a n0 HA3.out.2.1; have kd4 := cut1_ Ab cb b n0 HB_.out.2.1; clear hb hr; clear y0 y1 y2 y3 y4 y5 y6 y7 y8 y9 y10 y11; have HKc := Aside0.mk (Below.refl w4.heap.size w4); have HBc := HB4)
    | ((with_reducible refine gate_builtin (b := .append) (xs := #[.tmp 53, .tmp 55]) rfl ?_); at_builtin; refine app_full _ rfl (.tmp 53) (.tmp 55) rfl Aa a.length a rfl ?hC rfl _ (n1 % 256) rfl ?hy HLN.out.1 ?_; (case hC => exact Kd.C_below HA4.out (by repeat (first | exact HKc.out | apply below_alloc))); (case hy => exact blk_cell (blk_newG (by simp) _) 0); intro Ax cx waa hx hcx hb; have HXa := Aside0.mk hx; have HCXa := Aside0.mk hcx; have K2 := Aside0.mk (below_step (show Below w4.heap.size w4 _ from (by repeat (first | exact HKc.out | apply below_alloc))) hb); have B2 := Aside0.mk (below_step (show Below w.heap.size w _ from (by repeat (first | exact HBc.out | apply below_alloc))) hb); clear HKc HBc; have HKc := K2; have HBc := B2; clear K2 B2; clear hx hcx hb)
    | (go_at_call 23; (with_reducible refine (rr_at k _ _ _ (a ++ [n1 % 256]) _ ?hn ?hr ?hc (G1.out ?he)).mono ?_); (case hn => first | rfl | (simp; done)); (case hr => exact HXa.out); (case hc => first | exact HCXa.out | (have := HCXa.out; simpa using this)); (case he => (have h_ := ‹(ea == 0) = true›; simpa using h_)); rintro e w1a ⟨Ar, cr, rfl, hb⟩; have K2 := Aside0.mk (below_step (show Below w4.heap.size w4 _ from (by repeat (first | exact HKc.out | apply below_alloc))) hb); have B2 := Aside0.mk (below_step (show Below w.heap.size w _ from (by repeat (first | exact HBc.out | apply below_alloc))) hb); clear HKc HBc; have HKc := K2; have HBc := B2; clear K2 B2; clear hb HXa HCXa)
    | (go_at_call 23; (with_reducible refine (rr_at k Aa ca _ (a.take n0.toNat) _ ?hn ?hr ?hc (G2.out ?he ?h0 ?h1)).mono ?_); (case hn => (have h1_ : n0 < a.length := (by assumption); rw [List.length_take]; omega)); (case hr => (have h1_ : n0 < a.length := (by assumption); exact Kd.C_take (Kd.C_below HA4.out (by repeat (first | exact HKc.out | apply below_alloc))) (by omega))); (case hc => (have h1_ : n0 < a.length := (by assumption); have h2_ := HA3.out.2.1; omega)); (case he => (have h_ := ‹(ea == 0) = true›; simpa using h_)); (case h0 => assumption); (case h1 => assumption); rintro e w2a ⟨Ar, cr, rfl, hb⟩; have K2 := Aside0.mk (below_step (show Below w4.heap.size w4 _ from (by repeat (first | exact HKc.out | apply below_alloc))) hb); have B2 := Aside0.mk (below_step (show Below w.heap.size w _ from (by repeat (first | exact HBc.out | apply below_alloc))) hb); clear HKc HBc; have HKc := K2; have HBc := B2; clear K2 B2; clear hb)
    | ((with_reducible refine gate_builtin (b := .append) (xs := #[.tmp 87, .tmp 89]) rfl ?_); at_builtin; refine app_full _ rfl (.tmp 87) (.tmp 89) rfl Ab b.length b rfl ?hC rfl _ (n1 % 256) rfl ?hy HLN.out.2 ?_; (case hC => exact Kd.C_below HB_.out.2.2 (by repeat (first | exact HKc.out | apply below_alloc))); (case hy => exact blk_cell (blk_newG (by simp) _) 0); intro Ax cx wab hx hcx hb; have HXb := Aside0.mk hx; have HCXb := Aside0.mk hcx; have K2 := Aside0.mk (below_step (show Below w4.heap.size w4 _ from (by repeat (first | exact HKc.out | apply below_alloc))) hb); have B2 := Aside0.mk (below_step (show Below w.heap.size w _ from (by repeat (first | exact HBc.out | apply below_alloc))) hb); clear HKc HBc; have HKc := K2; have HBc := B2; clear K2 B2; clear hx hcx hb)
    | (go_at_call 16; (with_reducible refine (rp_at k _ _ _ (b ++ [n1 % 256]) _ ?hn ?hr ?hc (G3.out ?he)).mono ?_); (case hn => first | rfl | (simp; done)); (case hr => exact HXb.out); (case hc => first | exact HCXb.out | (have := HCXb.out; simpa using this)); (case he => (have h_ := ‹(eb == 0) = true›; simpa using h_)); rintro e w1b ⟨Ar3, cr3, Ar6, cr6, Ar7, cr7, Ar9, cr9, rfl, hb⟩; have K2 := Aside0.mk (below_step (show Below w4.heap.size w4 _ from (by repeat (first | exact HKc.out | apply below_alloc))) hb); have B2 := Aside0.mk (below_step (show Below w.heap.size w _ from (by repeat (first | exact HBc.out | apply below_alloc))) hb); clear HKc HBc; have HKc := K2; have HBc := B2; clear K2 B2; clear hb HXb HCXb)
    | (go_at_call 16; (with_reducible refine (rp_at k Ab cb _ (b.take n0.toNat) _ ?hn ?hr ?hc (G4.out ?he ?h0 ?h1)).mono ?_); (case hn => (have h1_ : n0 < b.length := (by assumption); rw [List.length_take]; omega)); (case hr => (have h1_ : n0 < b.length := (by assumption); exact Kd.C_take (Kd.C_below HB_.out.2.2 (by repeat (first | exact HKc.out | apply below_alloc))) (by omega))); (case hc => (have h1_ : n0 < b.length := (by assumption); have h2_ := HB_.out.2.1; omega)); (case he => (have h_ := ‹(eb == 0) = true›; simpa using h_)); (case h0 => assumption); (case h1 => assumption); rintro e w2b ⟨Ar3, cr3, Ar6, cr6, Ar7, cr7, Ar9, cr9, rfl, hb⟩; have K2 := Aside0.mk (below_step (show Below w4.heap.size w4 _ from (by repeat (first | exact HKc.out | apply below_alloc))) hb); have B2 := Aside0.mk (below_step (show Below w.heap.size w _ from (by repeat (first | exact HBc.out | apply below_alloc))) hb); clear HKc HBc; have HKc := K2; have HBc := B2; clear K2 B2; clear hb)
    | (go_at_call 11; (with_reducible refine (strongroomlaw25_lives.calls k true _ HLV.out rfl).mono ?_); rintro e w9 ⟨rfl, hb⟩; have HB9 := Aside0.mk hb; clear hb))
  all_goals
    go_ret
    exact ⟨rfl, below_step (by repeat (first | exact HBc.out | apply below_alloc)) HB9.out⟩
end Go.Proofs.YtoankokkdmbjmaaDoorH.HFrameCuts
