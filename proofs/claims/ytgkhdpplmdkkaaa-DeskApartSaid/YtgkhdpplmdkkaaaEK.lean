/- Joined: Ek, El. -/
import Derived.Test.YtgkhdpplmdkkaaaEi
import Derived.Test.YtgkhdpplmdkkaaaEj
import Derived.Test.YtgkhdpplmdkkaaaPureSteps
set_option linter.unusedVariables false
set_option linter.unusedSimpArgs false
/- one step, of any kind. -/
namespace Go.Proofs.Ytgkhdpplmdkkaaa.Ds
open Go.RowKit Go.Proofs.YtgkhdpplmdkkaaaH.HDeskPlays Go.Proofs.YtgkhdpplmdkkaaaW.PrintWords Go.Proofs.YtgkhdpplmdkkaaaW.PrintLast Go.Proofs.YtgkhdpplmdkkaaaW.PrintMore Go.Proofs.Ytgkhdpplmdkkaaa.Dp Go.Proofs.Ytgkhdpplmdkkaaa.PureS

theorem rd_small {cx : List ByteArray} (h4 : ∀ x ∈ cx, x.size ≤ 300) {n : Int} (h0 : 0 ≤ n) (h1 : n < (cx.length : Int)) : (rdOf ByteArray.empty cx n).size ≤ 300 := by
  obtain ⟨m, rfl⟩ : ∃ m : Nat, n = m := ⟨n.toNat, by omega⟩
  have hm : m < cx.length := by omega
  have := h4 _ (List.getElem_mem hm)
  show (cx.getD m ByteArray.empty).size ≤ 300
  rwa [List.getD_eq_getElem?_getD, List.getElem?_eq_getElem hm]
/-- what a step asks of the reference's prove -/
def Proves (U : Nat → Ses) (t s : Int) (cx : List ByteArray) : Prop := ∀ (ans : ByteArray) (ns : List S74) (pf : ByteArray → ByteArray) (R : Int × S74), ns.length = cx.length →
  (isP t s → (U (ix t s)).p = true → ∀ x ∈ cx, ∃ k, strongroomref27_Proof.f k (U (ix t s)).su (U (ix t s)).no (U (ix t s)).sl x = some (pf x)) →
  ((∀ i, i < cx.length → (pf (cx.getD i ⟨#[]⟩)).toList ≠ ans.toList) → R = (11, z74)) →
  (isP t s → ∀ m, m < cx.length → (pf (cx.getD m ⟨#[]⟩)).toList = ans.toList → (∀ i, i < m → (pf (cx.getD i ⟨#[]⟩)).toList ≠ ans.toList) → R = if (U (ix t s)).tk.length = 8 then (5, z74) else (0, ns.getD m z74)) → XProve U t s R ans ns cx
theorem proves0 (t s : Int) (cx : List ByteArray) : Proves (fun _ => ses0) t s cx := fun ans ns _ R hl _ _ _ => xprove_shut (fun _ => rfl) R ans ns cx hl
/-- what a step leaves, whatever its kind -/
def AnyOut (e : Ending) (w w' : World) (g : Nat) (col : Nat → Nat) (t : Int) (V U : Nat → Ses) : Prop := ∃ ys b V' U', e = .returned (.tuple #[.agg ys, .bool b]) ∧ FinK col w w' g V' U' ys ∧ Sts V' ∧ Far t V V' ∧ (V = U → b = true ∧ V' = U')
theorem step_any {w : World} {g : Nat} {cs xs : Array Value} {col : Nat → Nat} {V U : Nat → Ses} (h : DI w g cs col V) (hx : XI w xs col U) (kd t s q n : Int) (sum text : ByteArray) (right : Bool) (A8 : Option Addr) (c8 : Nat) (cx : List ByteArray)
    (hV : Sts V) (hU : Sts U) (h1 : sum.size ≤ 200) (h2 : text.size ≤ 1000) (h3 : cx.length ≤ 12) (h4 : ∀ x ∈ cx, x.size ≤ 300) (hcx : Lo w g A8 cx) (hXP : Proves U t s cx) :
    Calls Try.prog 45 #[.pointer (some ⟨g, 0, none⟩), .agg xs, .agg #[.int .i64 kd, .int .i64 t, .int .i64 s, .int .i64 q, .int .i64 n, .string sum, .string text, .bool right, .slice A8 cx.length c8]] w fun e w' =>
      AnyOut e w w' g col t V U := by
  by_cases k0 : kd = 0
  · subst k0
    refine (step0 h hx t s q n sum text right A8 c8 cx).mono ?_
    rintro e w' ⟨ys, b, rfl, hf, hb⟩
    exact ⟨ys, b, V, U, rfl, hf, hV, far_same _ _, fun e => ⟨hb e, e⟩⟩
  by_cases k1 : kd = 1
  · subst k1
    refine (step1 h hx t s q n sum text right A8 c8 cx (by omega)).mono ?_
    rintro e w' ⟨ys, b, rfl, hf, hb⟩
    exact ⟨ys, b, _, _, rfl, hf, sts_ans hV _ _ _ _, far_ans _ _ _ _ _, fun e => ⟨hb e, by rw [e]⟩⟩
  by_cases k2 : kd = 2
  · subst k2
    obtain ⟨no, sl, hd, hcp, hrd, ⟨ks, hsm⟩, hso⟩ := clm_ok sum text h1 h2
    obtain ⟨kn, hnn⟩ := same_nil
    have hS : ∃ ks, strongroomlaw27_same.f ks (clmR t s sum no sl).1 (clmR t s sum no sl).2.1 (clmR t s sum no sl).2.2.1 (clmR t s sum no sl).1 (clmR t s sum no sl).2.1 (clmR t s sum no sl).2.2.1 = some true := by
      unfold clmR
      split
      · exact ⟨ks, hsm⟩
      · exact ⟨kn, hnn⟩
    obtain ⟨kq, hq⟩ := hS
    refine (step2 h hx t s q n sum text right A8 c8 cx no sl (fun _ => ⟨hd, hcp⟩) (fun _ => hrd) kq hq).mono ?_
    rintro e w' ⟨ys, b, rfl, hf, hb⟩
    refine ⟨ys, b, _, _, rfl, hf, ?_, far_clm _ _ _ _ _ _, fun e => ⟨hb e, by rw [e]⟩⟩
    unfold clmV
    split
    · exact hV.set (hso _ (hV _))
    · exact hV
  by_cases k3 : kd = 3
  · subst k3
    obtain ⟨ki, ns, hids, hl, _⟩ := ids_ok cx.length (by omega)
    obtain ⟨pf, hpf⟩ := (hV (ix t s)).pf
    obtain ⟨pf', hpf'⟩ := (hU (ix t s)).pf
    have hans : ∃ ans : ByteArray, (isP t s → right = true → 0 ≤ n → n < (cx.length : Int) → ∃ k, strongroomref27_Proof.f k (U (ix t s)).su (U (ix t s)).no (U (ix t s)).sl (rdOf ByteArray.empty cx n) = some ans) ∧ (¬ (isP t s ∧ right = true ∧ 0 ≤ n ∧ n < (cx.length : Int)) → ans = text) := by
      by_cases hc : isP t s ∧ right = true ∧ 0 ≤ n ∧ n < (cx.length : Int)
      · exact ⟨pf' (rdOf ByteArray.empty cx n), fun _ _ a b => (hpf' _ (by have := rd_small h4 a b; omega)).2, fun h_ => absurd hc h_⟩
      · exact ⟨text, fun a b c d => absurd ⟨a, b, c, d⟩ hc, fun _ => rfl⟩
    obtain ⟨ans, ha1, ha2⟩ := hans
    obtain ⟨R, hm, hh⟩ := first_of pf ans cx ns (V (ix t s)).tk.length
    have hR2 : ∃ R2, XProve U t s R2 ans ns cx ∧ (V = U → R = R2) := by
      by_cases e : V = U
      · subst e
        exact ⟨R, hXP ans ns pf R hl (fun _ _ x hx => (hpf x (by have := h4 x hx; omega)).2) hm (fun _ => hh), fun _ => rfl⟩
      · obtain ⟨R2, hm2, hh2⟩ := first_of pf' ans cx ns (U (ix t s)).tk.length
        exact ⟨R2, hXP ans ns pf' R2 hl (fun _ _ x hx => (hpf' x (by have := h4 x hx; omega)).2) hm2 (fun _ => hh2), fun h_ => absurd h_ e⟩
    obtain ⟨R2, hx2, hrr⟩ := hR2
    refine (step3 h hx t s q n sum text right A8 c8 cx (by omega) ns ki hids hl hcx ans ha1 ha2 pf R R2 (fun _ => (hV _).tk) (fun _ _ x hx => (hpf x (by have := h4 x hx; omega)).1) hm (fun _ => hh) hx2 hrr).mono ?_
    rintro e w' ⟨ys, b, rfl, hf, hb⟩
    exact ⟨ys, b, _, _, rfl, hf, sts_prv hV _ _ _ (room hm hh), far_prv _ _ _ _, fun e => ⟨hb e, by rw [e, hrr e]⟩⟩
  by_cases k4 : kd = 4
  · subst k4
    obtain ⟨ks, b3, hs, he⟩ := sameIDs_ok (V (ix t s)).tk (U (ix t s)).tk (by have := (hV (ix t s)).tk; omega)
    refine (step4 h hx t s q n sum text right A8 c8 cx ks b3 (fun _ => hs) (fun _ e => he (by rw [e]))).mono ?_
    rintro e w' ⟨ys, b, rfl, hf, hb⟩
    exact ⟨ys, b, _, _, rfl, hf, sts_spd hV _ _, far_spd _ _ _, fun e => ⟨hb e, by rw [e]⟩⟩
  by_cases k5 : kd = 5
  · subst k5
    refine (step5 h hx t s q n sum text right A8 c8 cx).mono ?_
    rintro e w' ⟨ys, b, rfl, hf, hb⟩
    exact ⟨ys, b, _, _, rfl, hf, sts_fgtV hV _, far_fgt _ _, fun e => ⟨hb e, by rw [← e]; exact fgt_same hV t⟩⟩
  by_cases k6 : kd = 6
  · subst k6
    refine (step6 h hx t s q n sum text right A8 c8 cx).mono ?_
    rintro e w' ⟨ys, b, rfl, hf, hb⟩
    exact ⟨ys, b, _, _, rfl, hf, sts_res hV _ _ _, far_res _ _ _ _, fun e => ⟨hb e, by rw [e]⟩⟩
  refine (stepX h hx t s q n sum text right A8 c8 cx kd (by omega)).mono ?_
  rintro e w' ⟨ys, b, rfl, hf, hb⟩
  exact ⟨ys, b, V, U, rfl, hf, hV, far_same _ _, fun e => ⟨hb e, e⟩⟩

end Go.Proofs.Ytgkhdpplmdkkaaa.Ds
/- The walk of DeskApart. -/
namespace Go.Proofs.Ytgkhdpplmdkkaaa.Ds
open Go.RowKit Go.Proofs.YtgkhdpplmdkkaaaH.HDeskPlays Go.Proofs.YtgkhdpplmdkkaaaW.PrintWords Go.Proofs.YtgkhdpplmdkkaaaW.PrintLast Go.Proofs.YtgkhdpplmdkkaaaW.PrintMore Go.Proofs.Ytgkhdpplmdkkaaa.Dp Go.Proofs.Ytgkhdpplmdkkaaa.PureS

set_option maxRecDepth 100000 in
theorem zs7 : ∀ j, j < 32 → S7 (Zs 32).toArray (7 * j) 0 ⟨#[]⟩ false ⟨#[]⟩ ⟨#[]⟩ (.slice none 0 0) (.slice none 0 0)
  | 0, _ => ⟨rfl, rfl, rfl, rfl, rfl, rfl, rfl⟩
  | 1, _ => ⟨rfl, rfl, rfl, rfl, rfl, rfl, rfl⟩
  | 2, _ => ⟨rfl, rfl, rfl, rfl, rfl, rfl, rfl⟩
  | 3, _ => ⟨rfl, rfl, rfl, rfl, rfl, rfl, rfl⟩
  | 4, _ => ⟨rfl, rfl, rfl, rfl, rfl, rfl, rfl⟩
  | 5, _ => ⟨rfl, rfl, rfl, rfl, rfl, rfl, rfl⟩
  | 6, _ => ⟨rfl, rfl, rfl, rfl, rfl, rfl, rfl⟩
  | 7, _ => ⟨rfl, rfl, rfl, rfl, rfl, rfl, rfl⟩
  | 8, _ => ⟨rfl, rfl, rfl, rfl, rfl, rfl, rfl⟩
  | 9, _ => ⟨rfl, rfl, rfl, rfl, rfl, rfl, rfl⟩
  | 10, _ => ⟨rfl, rfl, rfl, rfl, rfl, rfl, rfl⟩
  | 11, _ => ⟨rfl, rfl, rfl, rfl, rfl, rfl, rfl⟩
  | 12, _ => ⟨rfl, rfl, rfl, rfl, rfl, rfl, rfl⟩
  | 13, _ => ⟨rfl, rfl, rfl, rfl, rfl, rfl, rfl⟩
  | 14, _ => ⟨rfl, rfl, rfl, rfl, rfl, rfl, rfl⟩
  | 15, _ => ⟨rfl, rfl, rfl, rfl, rfl, rfl, rfl⟩
  | 16, _ => ⟨rfl, rfl, rfl, rfl, rfl, rfl, rfl⟩
  | 17, _ => ⟨rfl, rfl, rfl, rfl, rfl, rfl, rfl⟩
  | 18, _ => ⟨rfl, rfl, rfl, rfl, rfl, rfl, rfl⟩
  | 19, _ => ⟨rfl, rfl, rfl, rfl, rfl, rfl, rfl⟩
  | 20, _ => ⟨rfl, rfl, rfl, rfl, rfl, rfl, rfl⟩
  | 21, _ => ⟨rfl, rfl, rfl, rfl, rfl, rfl, rfl⟩
  | 22, _ => ⟨rfl, rfl, rfl, rfl, rfl, rfl, rfl⟩
  | 23, _ => ⟨rfl, rfl, rfl, rfl, rfl, rfl, rfl⟩
  | 24, _ => ⟨rfl, rfl, rfl, rfl, rfl, rfl, rfl⟩
  | 25, _ => ⟨rfl, rfl, rfl, rfl, rfl, rfl, rfl⟩
  | 26, _ => ⟨rfl, rfl, rfl, rfl, rfl, rfl, rfl⟩
  | 27, _ => ⟨rfl, rfl, rfl, rfl, rfl, rfl, rfl⟩
  | 28, _ => ⟨rfl, rfl, rfl, rfl, rfl, rfl, rfl⟩
  | 29, _ => ⟨rfl, rfl, rfl, rfl, rfl, rfl, rfl⟩
  | 30, _ => ⟨rfl, rfl, rfl, rfl, rfl, rfl, rfl⟩
  | 31, _ => ⟨rfl, rfl, rfl, rfl, rfl, rfl, rfl⟩
  | n + 32, h => by omega
theorem zero_is : Try.zeroCells90 = (Zs 32).toArray := by kernel_rfl
theorem zs_one : (Zs 32).toArray.all (·.oneCell') = true := by kernel_rfl
theorem zs_size : (Zs 32).toArray.size = 224 := by kernel_rfl
/-- a new desk -/
theorem DI.new (w : World) : DI (w.alloc (.cells (Zs 32).toArray 106)) w.heap.size (Zs 32).toArray (fun k => if k = w.heap.size then 1 else 0) (fun _ => ses0) :=
  ⟨Blk.new _ _ _, zs_size, ⟨if_pos rfl, fun k hk => by simp only at hk; split at hk <;> omega⟩, fun j hj => ⟨none, 0, none, 0, zs7 j hj, Kd.R_nil _ _ _ _ _, Kd.R_nil _ _ _ _ _⟩⟩
/-- the reference's desk, empty -/
theorem XI.zero (w : World) (col : Nat → Nat) : XI w Try.zeroCells90 col (fun _ => ses0) := by
  rw [zero_is]
  exact ⟨zs_size, zs_one, fun j hj => ⟨none, 0, none, 0, zs7 j hj, Kd.R_nil _ _ _ _ _, Kd.R_nil _ _ _ _ _⟩⟩
def opnR (V : Nat → Ses) (t s : Int) : ByteArray × ByteArray × List S42 × Bool := if isP t s ∧ (V (ix t s)).p = true then ((V (ix t s)).su, (V (ix t s)).no, (V (ix t s)).sl, true) else (⟨#[]⟩, ⟨#[]⟩, [], false)
theorem d_open {w : World} {g : Nat} {cs : Array Value} {col : Nat → Nat} {V : Nat → Ses} (h : DI w g cs col V) (t s : Int) (hn : (V (ix t s)).sl.length ≤ 4) :
    Calls Try.prog 46 #[.pointer (some ⟨g, 0, none⟩), .int .i64 t, .int .i64 s] w fun e w' =>
      ∃ v, e = .returned (.tuple #[.agg #[.string (opnR V t s).1, .string (opnR V t s).2.1, v], .bool (opnR V t s).2.2.2]) ∧ Below w.heap.size w w' ∧ Kd.R k42 42 w' w.heap.size (fun _ => True) v (opnR V t s).2.2.1 := by
  by_cases hc : isP t s ∧ (V (ix t s)).p = true
  · obtain ⟨A5, n5, A6, n6, h7, hs, ht⟩ := h.2.2.2 _ (ix_lt hc.1)
    rw [hc.2] at h7
    rw [opnR, if_pos hc]
    have hr := Kd.R_reads' hs
    exact open_yes g cs _ t s (7 * ix t s) _ _ _ _ A5 n5 _ _ w hc.1 ix_o h.1 h7 hr.2.1 hr.2.2 (copied_ok _ _ _ (by simp only; omega))
  · rw [opnR, if_neg hc]
    refine (open_no g cs _ t s (7 * ix t s) w ?_ h.1).mono ?_
    · by_cases hi : isP t s
      · obtain ⟨A5, n5, A6, n6, h7, _, _⟩ := h.2.2.2 _ (ix_lt hi)
        have hp : (V (ix t s)).p = false := by simpa [hi] using hc
        rw [hp] at h7
        exact .inr ⟨hi, ix_o, h7.c2⟩
      · exact .inl hi
    · rintro e w' ⟨rfl, hb⟩
      exact ⟨_, rfl, hb, Kd.R_nil _ _ _ _ _⟩
/-- a block of a challenge may be of colour 0 -/
theorem DI.free {w : World} {g b : Nat} {cs old : Array Value} {col : Nat → Nat} {V : Nat → Ses} (h : DI w g cs col V) (hb : Blk w b 36 old) (hg : g ≠ b) : DI w g cs (fun k => if k = b then 0 else col k) V := by
  refine ⟨h.1, h.2.1, ⟨by simp only; rw [if_neg hg]; exact h.2.2.1.1, fun k hk => ?_⟩, fun j hj => ?_⟩
  · simp only at hk
    split at hk
    · omega
    · exact h.2.2.1.2 k hk
  · obtain ⟨A5, n5, A6, n6, h7, hs, ht⟩ := h.2.2.2 j hj
    exact ⟨A5, n5, A6, n6, h7, Kd.R_mono (Kd.R_types hs hb (by decide)) (fun k h1 => by show (if k = b then 0 else col k) = 0; rw [if_neg h1.2]; exact h1.1), Kd.R_mono (Kd.R_types ht hb (by decide)) (fun k h1 => by show (if k = b then 0 else col k) = j + 2; rw [if_neg h1.2]; exact h1.1)⟩
/-- a step, as it lies in the steps that came in -/
structure OpV where
  kd : Int
  t : Int
  s : Int
  q : Int
  n : Int
  sum : ByteArray
  text : ByteArray
  right : Bool
  A : Option Addr
  c : Nat
  cx : List ByteArray
instance : Inhabited OpV := ⟨⟨0, 0, 0, 0, 0, ⟨#[]⟩, ⟨#[]⟩, false, none, 0, []⟩⟩
structure OpC (W : World) (ad : Addr) (o : OpV) : Prop where
  c0 : W.cell? ad = some (.int .i64 o.kd)
  c1 : W.cell? ⟨ad.block, ad.off + 1, none⟩ = some (.int .i64 o.t)
  c2 : W.cell? ⟨ad.block, ad.off + 2, none⟩ = some (.int .i64 o.s)
  c3 : W.cell? ⟨ad.block, ad.off + 3, none⟩ = some (.int .i64 o.q)
  c4 : W.cell? ⟨ad.block, ad.off + 4, none⟩ = some (.int .i64 o.n)
  c5 : W.cell? ⟨ad.block, ad.off + 5, none⟩ = some (.string o.sum)
  c6 : W.cell? ⟨ad.block, ad.off + 6, none⟩ = some (.string o.text)
  c7 : W.cell? ⟨ad.block, ad.off + 7, none⟩ = some (.bool o.right)
  c8 : W.cell? ⟨ad.block, ad.off + 8, none⟩ = some (.slice o.A o.cx.length o.c)
  le : o.cx.length ≤ o.c
  C : Kd.C Kd.string W o.A o.cx.length o.cx
def OpsAt (W : World) (A : Option Addr) (os : List OpV) : Prop := ∀ i o, os[i]? = some o → ∃ ad, A = some ad ∧ OpC W (ad.add (i * 9)) o
theorem OpC.heap {w w1 : World} {ad : Addr} {o : OpV} (h : OpC w ad o) (hb : ∀ k, k < w.heap.size → w1.heap[k]? = w.heap[k]?) : OpC w1 ad o :=
  ⟨Kd.cell_heap hb h.c0, Kd.cell_heap hb h.c1, Kd.cell_heap hb h.c2, Kd.cell_heap hb h.c3, Kd.cell_heap hb h.c4, Kd.cell_heap hb h.c5, Kd.cell_heap hb h.c6, Kd.cell_heap hb h.c7, Kd.cell_heap hb h.c8, h.le, Kd.Heap.C Kd.heap_string hb h.C⟩
theorem OpC.lo {w w1 : World} {ad : Addr} {o : OpV} (h : OpC w ad o) (hb : Below w.heap.size w w1) : Lo w1 w.heap.size o.A o.cx := fun W' hk => Kd.Heap.C Kd.heap_string (fun k hlt => (hk k hlt).trans (hb.block k hlt)) h.C
/-- what the loop keeps -/
def Lp (w0 w : World) (g : Nat) (t s : Int) (x0 : Ses) (b8 : Nat) (c8 : Array Value) : Prop := ∃ cs col V, DI w g cs col V ∧ col b8 = 0 ∧ Sts V ∧ V (ix t s) = { x0 with tk := (V (ix t s)).tk } ∧ Blk w b8 36 c8 ∧ Below g w0 w

set_option maxRecDepth 100000 in
set_option maxHeartbeats 4000000 in
theorem apart_walk (t s : Int) (A : Option Addr) (c : Nat) (os : List OpV) (w : World) (hops : OpsAt w A os) :
    Calls Try.prog 13 #[.slice A os.length c, .int .i64 t, .int .i64 s] w fun e w' => e = .returned (.bool true) ∧ Below w.heap.size w w' := by
  have HO := Lib.hid hops
  clear hops
  go_enter Try.func13, Try.ntmps13
  go_wp2_with fail
  refine (is_any t s _).mono ?_
  rintro e w' ⟨rfl, rfl⟩
  by_cases hp : isP t s
  case neg =>
    rw [decide_eq_false hp]
    clear hp
    go_wp2_with (go_at_call 16; refine (lives_any _).mono ?_; rintro e w' ⟨rfl, hl⟩)
    go_ret
    exact ⟨rfl, ‹Below w.heap.size w _›⟩
  rw [decide_eq_true hp]
  have HP := Lib.hid hp
  clear hp
  go_wp2_with fail
  refine (new_any _).mono ?_
  rintro e w1 ⟨rfl, hw1⟩
  have hD1 := DI.new w
  rw [← hw1] at hD1
  have hl1 : Below w.heap.size w w1 := by rw [hw1]; exact below_allocW _ _
  have HD1 := Lib.hid hD1
  have HL1 := Lib.hid hl1
  clear hw1 hD1 hl1
  generalize hg : w.heap.size = g at HD1 HL1 ⊢
  have HG := Lib.hid hg
  clear hg
  go_wp2_with fail
  refine (d_answer HD1.out t s 1 ⟨#[109, 105, 110, 101]⟩ (by decide)).mono ?_
  rintro e w2 ⟨rfl, hO⟩
  have he : ansE (fun _ => ses0) t s 1 ⟨#[109, 105, 110, 101]⟩ = 0 := by unfold ansE; rw [if_pos HP.out]; rfl
  rw [he]
  obtain ⟨cs2, col2, hD2, _, _⟩ := hO.2.1
  have hV2 : ansV (fun _ => ses0) t s 1 ⟨#[109, 105, 110, 101]⟩ = setS (fun _ => ses0) (ix t s) { ses0 with l := 1, r := ⟨#[109, 105, 110, 101]⟩ } := if_pos ⟨HP.out, rfl⟩
  have hs2 := sts_ans sts0 t s 1 ⟨#[109, 105, 110, 101]⟩
  have hv2 : ansV (fun _ => ses0) t s 1 ⟨#[109, 105, 110, 101]⟩ (ix t s) = { ses0 with l := 1, r := ⟨#[109, 105, 110, 101]⟩ } := by rw [hV2, setS_same]
  generalize ansV (fun _ => ses0) t s 1 ⟨#[109, 105, 110, 101]⟩ = V2 at hD2 hs2 hv2
  have HD2 := Lib.hid hD2
  have HL2 := Lib.hid (HL1.out.trans hO.1)
  have HS2 := Lib.hid (And.intro hs2 hv2)
  clear hO hD2 hV2 hs2 hv2 he HD1 HL1
  go_wp2_with fail
  obtain ⟨no, sl, hd, hcp, _, _, hso⟩ := clm_ok ⟨#[100]⟩ ⟨#[100, 114, 97, 119]⟩ (by decide) (by decide)
  refine (d_claim HD2.out t s ⟨#[100]⟩ ⟨#[100, 114, 97, 119]⟩ no sl (fun _ => ⟨hd, hcp⟩)).mono ?_
  rintro e w3 ⟨⟨v, rfl, hr3⟩, hO⟩
  have hcl : clmP t s ⟨#[100]⟩ := ⟨HP.out, by decide, by decide⟩
  rw [show clmR t s ⟨#[100]⟩ no sl = (⟨#[100]⟩, no, sl, 0) from if_pos hcl] at hr3 ⊢
  obtain ⟨A3, m3, rfl⟩ := Kd.R_slice hr3
  obtain ⟨cs3, col3, hD3, _, _⟩ := hO.2.1
  have hV3 : clmV V2 t s ⟨#[100]⟩ no sl = setS V2 (ix t s) { V2 (ix t s) with p := true, su := ⟨#[100]⟩, no := no, sl := sl } := if_pos hcl
  rw [hV3] at hD3
  have hs3 : Sts (setS V2 (ix t s) { V2 (ix t s) with p := true, su := ⟨#[100]⟩, no := no, sl := sl }) := HS2.out.1.set (hso _ (HS2.out.1 _))
  rw [HS2.out.2] at hD3 hs3
  have HD3 := Lib.hid hD3
  have HS3 := Lib.hid hs3
  have HL3 := Lib.hid (HL2.out.trans hO.1)
  have HSL := Lib.hid (hso _ (HS2.out.1 (ix t s))).n
  clear hO hD3 hV3 hs3 hr3 hcl hso hd hcp HD2 HL2 HS2
  simp only
  go_wp2_with fail
  generalize hw4 : w3.alloc (Obj.cells #[.string ⟨#[100]⟩, .string no, .slice A3 sl.length m3] 36) = w4
  have hb8 : Blk w4 w3.heap.size 36 #[.string ⟨#[100]⟩, .string no, .slice A3 sl.length m3] := by rw [← hw4]; exact Blk.new _ _ _
  have hb4 : Below w3.heap.size w3 w4 := by rw [← hw4]; exact below_allocW _ _
  have hgw : g < w3.heap.size := HD3.out.1.lt
  have hlp : Lp w w4 g t s { ses0 with l := 1, r := ⟨#[109, 105, 110, 101]⟩, p := true, su := ⟨#[100]⟩, no := no, sl := sl } w3.heap.size #[.string ⟨#[100]⟩, .string no, .slice A3 sl.length m3] := by
    refine ⟨cs3, _, _, (HD3.out.below hb4).free hb8 (Nat.ne_of_lt hgw), if_pos rfl, HS3.out, by rw [setS_same], hb8, HL3.out.trans (hb4.mono (Nat.le_of_lt hgw))⟩
  generalize w3.heap.size = b8 at hlp hgw ⊢
  have HLP := Lib.hid hlp
  clear hw4 hb8 hb4 hlp HD3 HS3 HL3
  go_loopw [10] (fun i wr => ∃ k : Nat, i = .int .i64 k ∧ k ≤ 40 ∧ Lp w wr g t s { ses0 with l := 1, r := ⟨#[109, 105, 110, 101]⟩, p := true, su := ⟨#[100]⟩, no := no, sl := sl } b8 #[.string ⟨#[100]⟩, .string no, .slice A3 sl.length m3]) (fun i _ => 40 - (intOf i).toNat)
  case atStart => exact ⟨0, rfl, by omega, HLP.out⟩
  case round =>
    obtain ⟨k, rfl, hk, hlp⟩ := hrel
    have HLP := Lib.hid hlp
    clear hlp
    by_cases hcc : k < os.length ∧ k < 40
    case pos =>
      obtain ⟨hk1, hk2⟩ := hcc
      have hk1' : (k : Int) < os.length := by omega
      obtain ⟨ad, rfl, hoc⟩ := HO.out k os[k] (List.getElem?_eq_getElem hk1)
      generalize os[k] = o at hoc
      obtain ⟨kd, ot, osl, q, n, sum, text, right, A8, c8, cx⟩ := o
      obtain ⟨cs, col, V, hD, hc8, hSt, hVx, hB8, hBl⟩ := HLP.out
      have hkeep : ∀ q, q < w.heap.size → wr.heap[q]? = w.heap[q]? := by rw [HG.out]; exact hBl.block
      have hor := hoc.heap hkeep
      obtain ⟨d0, d1, d2, d3, d4, d5, d6, d7, d8, dle, dC⟩ := hor
      simp only at d0 d1 d2 d3 d4 d5 d6 d7 d8 dle dC
      obtain ⟨r, kl, hli, hlr⟩ := light_ok kd ot osl q n sum text right cx
      have HLI := Lib.hid (And.intro hli hlr)
      have HDC := Lib.hid (And.intro dle dC)
      have HDR := Lib.hid hD
      have HBL := Lib.hid hBl
      have HST := Lib.hid (And.intro hc8 (And.intro hSt (And.intro hVx hB8)))
      have HOC := Lib.hid hoc
      clear hli hlr dle dC hD hBl hc8 hSt hVx hB8 hoc hkeep HLP
      go_wp2_with fail
      refine (strongroomlaw27_light.calls kl kd ot osl q n sum text right A8 c8 cx r _ HDC.out.2 HDC.out.1 HLI.out.1).mono ?_
      rintro e wa ⟨rfl, hba⟩
      have hBLa := HBL.out.trans (hba.mono (Nat.le_of_lt HDR.out.1.lt))
      have hkeep : ∀ q, q < w.heap.size → wa.heap[q]? = w.heap[q]? := by rw [HG.out]; exact hBLa.block
      have hor := HOC.out.heap hkeep
      have HLO := Lib.hid (show Lo wa g A8 cx from by
        have h := HOC.out.lo (w1 := wa) (by rw [HG.out]; exact hBLa)
        rw [HG.out] at h
        exact h)
      obtain ⟨d0, d1, d2, d3, d4, d5, d6, d7, d8, _, _⟩ := hor
      simp only at d0 d1 d2 d3 d4 d5 d6 d7 d8
      have HDA := Lib.hid (HDR.out.below hba)
      have HBA := Lib.hid hBLa
      have HB8 := Lib.hid (HST.out.2.2.2.below hba HST.out.2.2.2.lt)
      clear hba hBLa hkeep HDR HBL HOC HDC
      cases r
      case false =>
        go_wp2_with (go_at_call 16; refine (lives_any _).mono ?_; rintro e w' ⟨rfl, hl⟩)
        go_ret
        refine ⟨rfl, ?_⟩
        rw [HG.out]
        exact HBA.out.trans ((‹Below wa.heap.size wa _›).mono (Nat.le_of_lt HDA.out.1.lt))
      obtain ⟨l1, l2, l3, l4⟩ := HLI.out.2 rfl
      have HL4 := Lib.hid (And.intro l1 (And.intro l2 (And.intro l3 l4)))
      clear l1 l2 l3 l4 HLI
      by_cases hT : ot = t
      case pos =>
        subst hT
        go_wp2_with fail
        go_roundw
        case rel => exact ⟨k + 1, by go_num, by omega, cs, col, V, HDA.out, HST.out.1, HST.out.2.1, HST.out.2.2.1, HB8.out, HBA.out⟩
        case measure => simp [intOf]; omega
      have hT1 : (ot == t) = false := beq_eq_false_iff_ne.2 hT
      have hT2 : (ot != t) = true := bne_iff_ne.2 hT
      have HNT := Lib.hid hT
      clear hT
      go_wp2_with fail
      refine (step_any HDA.out (XI.zero _ _) kd ot osl q n sum text right A8 c8 cx HST.out.2.1 sts0 HL4.out.1 HL4.out.2.1 HL4.out.2.2.1 HL4.out.2.2.2 HLO.out (proves0 _ _ _)).mono ?_
      rintro e w5 ⟨ys, b, V', U', rfl, ⟨hkp, cs', col', hD', _⟩, hs', hfar, _⟩
      have hix : V' (ix t s) = V (ix t s) := hfar _ (by
        obtain ⟨p1, p2, p3, p4⟩ := HP.out
        have := HNT.out
        unfold ix
        omega)
      have hB5 : Blk w5 b8 36 #[.string ⟨#[100]⟩, .string no, .slice A3 sl.length m3] := (hkp.2.2 b8 HB8.out.lt HST.out.1).trans HB8.out
      have HLP5 := Lib.hid (show Lp w w5 g t s { ses0 with l := 1, r := ⟨#[109, 105, 110, 101]⟩, p := true, su := ⟨#[100]⟩, no := no, sl := sl } b8 #[.string ⟨#[100]⟩, .string no, .slice A3 sl.length m3] from
        ⟨cs', _, V', hD'.free hB5 (Nat.ne_of_lt hgw), if_pos rfl, hs', by rw [hix]; exact HST.out.2.2.1, hB5, HBA.out.trans hkp.1⟩)
      clear hkp hD' hs' hfar hix hB5
      go_wp2_with fail
      go_roundw
      case rel => exact ⟨k + 1, by go_num, by omega, HLP5.out⟩
      case measure => simp [intOf]; omega
    case neg =>
      have hcc' : (os.length ≤ k) ∨ (k < os.length ∧ k = 40) := by omega
      obtain ⟨cs, col, V, hD, hc8, hSt, hVx, hB8, hBl⟩ := HLP.out
      have hlook : lookV V t s 1 = (1, ⟨#[109, 105, 110, 101]⟩, 0) := by unfold lookV; rw [if_pos HP.out, hVx]; rfl
      have hopn : opnR V t s = (⟨#[100]⟩, no, sl, true) := by unfold opnR; rw [if_pos ⟨HP.out, by rw [hVx]⟩, hVx]
      have hsl : (V (ix t s)).sl.length ≤ 4 := by rw [hVx]; exact HSL.out
      have HDR := Lib.hid hD
      have HBL := Lib.hid hBl
      have HQ := Lib.hid (And.intro hlook (And.intro hopn hsl))
      have HB8 := Lib.hid (And.intro hB8 hc8)
      clear hD hBl hB8 hc8 hSt hVx hlook hopn hsl hcc HLP
      rcases hcc' with h1 | ⟨h1, rfl⟩
      all_goals
        go_wp2_with fail
        refine (d_look HDR.out t s 1).mono ?_
        rintro e w5 ⟨rfl, hO⟩
        rw [HQ.out.1]
        obtain ⟨cs5, col5, hD5, _, _⟩ := hO.2.1
        have HD5 := Lib.hid hD5
        have HB5 := Lib.hid (hO.blk HB8.out.1 HB8.out.2)
        have HL5 := Lib.hid (HBL.out.trans hO.1)
        clear hO hD5
        simp only
        go_wp2_with fail
        refine (d_open HD5.out t s HQ.out.2.2).mono ?_
        rintro e w6 ⟨v6, rfl, hb6, hr6⟩
        rw [HQ.out.2.1] at hr6 ⊢
        obtain ⟨A7, m7, rfl⟩ := Kd.R_slice hr6
        have hB6 := HB5.out.below hb6 HB5.out.lt
        have e0 := hB6.cell 0
        have e1 := hB6.cell 1
        have hlt6 := hB6.lt
        have HL6 := Lib.hid (HL5.out.trans (hb6.mono (Nat.le_of_lt HD5.out.1.lt)))
        have hg6 : g < w6.heap.size := Nat.lt_of_lt_of_le HD5.out.1.lt hb6.size
        clear hB6 hr6 hb6
        simp only
        go_wp2_with fail
        refine (look_nil t s 1 _).mono ?_
        rintro e w' ⟨rfl, rfl⟩
        go_wp2_with (first
          | (go_at_call 47; refine (forget_no none t _ (fun s w => find_nil t s w)).mono ?_; rintro e wf ⟨rfl, hbf⟩)
          | (go_at_call 48; refine (sessions_no none t _ (fun s w => find_nil t s w)).mono ?_; rintro e wse ⟨rfl, hbs⟩)
          | (go_at_call 49; refine (tickets_nil t s _).mono ?_; rintro e w' ⟨rfl, rfl⟩)
          | (go_at_call 16; refine (lives_any _).mono ?_; rintro e wl ⟨rfl, hbl⟩))
        go_ret
        refine ⟨rfl, ?_⟩
        rw [HG.out]
        refine HL6.out.trans ?_
        exact (((below_allocW w6 _).mono (Nat.le_of_lt hg6)).trans (hbf.mono (by simp; omega))).trans ((hbs.mono (by have := hbf.size; simp at this; omega)).trans (hbl.mono (by have := hbf.size; have := hbs.size; simp at *; omega)))

end Go.Proofs.Ytgkhdpplmdkkaaa.Ds
