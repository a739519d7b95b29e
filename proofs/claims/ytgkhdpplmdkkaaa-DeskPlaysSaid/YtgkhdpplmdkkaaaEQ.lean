/- Joined: Ek, El, Em, En, Eo, Ep. -/
import Derived.Test.YtgkhdpplmdkkaaaEi
import Derived.Test.YtgkhdpplmdkkaaaEj
import Derived.Test.YtgkhdpplmdkkaaaPureSteps
import Derived.Test.YtgkhdpplmdkkaaaEf
import Derived.Test.YtgkhdpplmdkkaaaHDeskPlaysx6
set_option linter.unusedVariables false
set_option linter.unusedSimpArgs false
/- one step, of any kind. -/
namespace Go.Proofs.Ytgkhdpplmdkkaaa.Ds
open Go.RowKit Go.Proofs.YtgkhdpplmdkkaaaH.HDeskPlays Go.Proofs.YtgkhdpplmdkkaaaW.PrintWords Go.Proofs.YtgkhdpplmdkkaaaW.PrintLast Go.Proofs.YtgkhdpplmdkkaaaW.PrintMore Go.Proofs.Ytgkhdpplmdkkaaa.Dp Go.Proofs.Ytgkhdpplmdkkaaa.PureS

theorem rd_small {cx : List ByteArray} (h4 : ∀ x ∈ cx, x.size ≤ 300) {n : Int} (h0 : 0 ≤ n) (h1 : n < (cx.length : Int)) : (rdOf ByteArray.empty cx n).size ≤ 300 := by
  obtain ⟨m, rfl⟩ : ∃ m : Nat, n = m := ⟨n.toNat, by omega⟩
  have hm : m < cx.length := by omega
  have := h4 _ (List.getElem_mem hm)
  show (cx.getD m ByteArray.empty).size ≤ 300
  rwa [List.getD_eq_getElem?_getD, List.getElem?_eq_getElem hm]
/-- what a step asks of the reference's prove -/
def Proves (U : Nat → Ses) (t s : Int) (cx : List ByteArray) : Prop := ∀ (ans : ByteArray) (ns : List S74) (pf : ByteArray → ByteArray) (R : Int × S74), ns.length = cx.length →
  (isP t s → (U (ix t s)).p = true → ∀ x ∈ cx, ∃ k, strongroomref27_Proof.f k (U (ix t s)).su (U (ix t s)).no (U (ix t s)).sl x = some (pf x)) →
  ((∀ i, i < cx.length → (pf (cx.getD i ⟨#[]⟩)).toList ≠ ans.toList) → R = (11, z74)) →
  (isP t s → ∀ m, m < cx.length → (pf (cx.getD m ⟨#[]⟩)).toList = ans.toList → (∀ i, i < m → (pf (cx.getD i ⟨#[]⟩)).toList ≠ ans.toList) → R = if (U (ix t s)).tk.length = 8 then (5, z74) else (0, ns.getD m z74)) → XProve U t s R ans ns cx
theorem proves0 (t s : Int) (cx : List ByteArray) : Proves (fun _ => ses0) t s cx := fun ans ns _ R hl _ _ _ => xprove_shut (fun _ => rfl) R ans ns cx hl
/-- what a step leaves, whatever its kind -/
def AnyOut (e : Ending) (w w' : World) (g : Nat) (col : Nat → Nat) (t : Int) (V U : Nat → Ses) : Prop := ∃ ys b V' U', e = .returned (.tuple #[.agg ys, .bool b]) ∧ FinK col w w' g V' U' ys ∧ Sts V' ∧ Far t V V' ∧ (V = U → b = true ∧ V' = U')
theorem step_any {w : World} {g : Nat} {cs xs : Array Value} {col : Nat → Nat} {V U : Nat → Ses} (h : DI w g cs col V) (hx : XI w xs col U) (kd t s q n : Int) (sum text : ByteArray) (right : Bool) (A8 : Option Addr) (c8 : Nat) (cx : List ByteArray)
    (hV : Sts V) (hU : Sts U) (h1 : sum.size ≤ 200) (h2 : text.size ≤ 1000) (h3 : cx.length ≤ 12) (h4 : ∀ x ∈ cx, x.size ≤ 300) (hcx : Lo w g A8 cx) (hXP : Proves U t s cx) :
    Calls Try.prog 45 #[.pointer (some ⟨g, 0, none⟩), .agg xs, .agg #[.int .i64 kd, .int .i64 t, .int .i64 s, .int .i64 q, .int .i64 n, .string sum, .string text, .bool right, .slice A8 cx.length c8]] w fun e w' =>
      AnyOut e w w' g col t V U := by
  by_cases k0 : kd = 0
  · subst k0
    refine (step0 h hx t s q n sum text right A8 c8 cx).mono ?_
    rintro e w' ⟨ys, b, rfl, hf, hb⟩
    exact ⟨ys, b, V, U, rfl, hf, hV, far_same _ _, fun e => ⟨hb e, e⟩⟩
  by_cases k1 : kd = 1
  · subst k1
    refine (step1 h hx t s q n sum text right A8 c8 cx (by omega)).mono ?_
    rintro e w' ⟨ys, b, rfl, hf, hb⟩
    exact ⟨ys, b, _, _, rfl, hf, sts_ans hV _ _ _ _, far_ans _ _ _ _ _, fun e => ⟨hb e, by rw [e]⟩⟩
  by_cases k2 : kd = 2
  · subst k2
    obtain ⟨no, sl, hd, hcp, hrd, ⟨ks, hsm⟩, hso⟩ := clm_ok sum text h1 h2
    obtain ⟨kn, hnn⟩ := same_nil
    have hS : ∃ ks, strongroomlaw27_same.f ks (clmR t s sum no sl).1 (clmR t s sum no sl).2.1 (clmR t s sum no sl).2.2.1 (clmR t s sum no sl).1 (clmR t s sum no sl).2.1 (clmR t s sum no sl).2.2.1 = some true := by
      unfold clmR
      split
      · exact ⟨ks, hsm⟩
      · exact ⟨kn, hnn⟩
    obtain ⟨kq, hq⟩ := hS
    refine (step2 h hx t s q n sum text right A8 c8 cx no sl (fun _ => ⟨hd, hcp⟩) (fun _ => hrd) kq hq).mono ?_
    rintro e w' ⟨ys, b, rfl, hf, hb⟩
    refine ⟨ys, b, _, _, rfl, hf, ?_, far_clm _ _ _ _ _ _, fun e => ⟨hb e, by rw [e]⟩⟩
    unfold clmV
    split
    · exact hV.set (hso _ (hV _))
    · exact hV
  by_cases k3 : kd = 3
  · subst k3
    obtain ⟨ki, ns, hids, hl, _⟩ := ids_ok cx.length (by omega)
    obtain ⟨pf, hpf⟩ := (hV (ix t s)).pf
    obtain ⟨pf', hpf'⟩ := (hU (ix t s)).pf
    have hans : ∃ ans : ByteArray, (isP t s → right = true → 0 ≤ n → n < (cx.length : Int) → ∃ k, strongroomref27_Proof.f k (U (ix t s)).su (U (ix t s)).no (U (ix t s)).sl (rdOf ByteArray.empty cx n) = some ans) ∧ (¬ (isP t s ∧ right = true ∧ 0 ≤ n ∧ n < (cx.length : Int)) → ans = text) := by
      by_cases hc : isP t s ∧ right = true ∧ 0 ≤ n ∧ n < (cx.length : Int)
      · exact ⟨pf' (rdOf ByteArray.empty cx n), fun _ _ a b => (hpf' _ (by have := rd_small h4 a b; omega)).2, fun h_ => absurd hc h_⟩
      · exact ⟨text, fun a b c d => absurd ⟨a, b, c, d⟩ hc, fun _ => rfl⟩
    obtain ⟨ans, ha1, ha2⟩ := hans
    obtain ⟨R, hm, hh⟩ := first_of pf ans cx ns (V (ix t s)).tk.length
    have hR2 : ∃ R2, XProve U t s R2 ans ns cx ∧ (V = U → R = R2) := by
      by_cases e : V = U
      · subst e
        exact ⟨R, hXP ans ns pf R hl (fun _ _ x hx => (hpf x (by have := h4 x hx; omega)).2) hm (fun _ => hh), fun _ => rfl⟩
      · obtain ⟨R2, hm2, hh2⟩ := first_of pf' ans cx ns (U (ix t s)).tk.length
        exact ⟨R2, hXP ans ns pf' R2 hl (fun _ _ x hx => (hpf' x (by have := h4 x hx; omega)).2) hm2 (fun _ => hh2), fun h_ => absurd h_ e⟩
    obtain ⟨R2, hx2, hrr⟩ := hR2
    refine (step3 h hx t s q n sum text right A8 c8 cx (by omega) ns ki hids hl hcx ans ha1 ha2 pf R R2 (fun _ => (hV _).tk) (fun _ _ x hx => (hpf x (by have := h4 x hx; omega)).1) hm (fun _ => hh) hx2 hrr).mono ?_
    rintro e w' ⟨ys, b, rfl, hf, hb⟩
    exact ⟨ys, b, _, _, rfl, hf, sts_prv hV _ _ _ (room hm hh), far_prv _ _ _ _, fun e => ⟨hb e, by rw [e, hrr e]⟩⟩
  by_cases k4 : kd = 4
  · subst k4
    obtain ⟨ks, b3, hs, he⟩ := sameIDs_ok (V (ix t s)).tk (U (ix t s)).tk (by have := (hV (ix t s)).tk; omega)
    refine (step4 h hx t s q n sum text right A8 c8 cx ks b3 (fun _ => hs) (fun _ e => he (by rw [e]))).mono ?_
    rintro e w' ⟨ys, b, rfl, hf, hb⟩
    exact ⟨ys, b, _, _, rfl, hf, sts_spd hV _ _, far_spd _ _ _, fun e => ⟨hb e, by rw [e]⟩⟩
  by_cases k5 : kd = 5
  · subst k5
    refine (step5 h hx t s q n sum text right A8 c8 cx).mono ?_
    rintro e w' ⟨ys, b, rfl, hf, hb⟩
    exact ⟨ys, b, _, _, rfl, hf, sts_fgtV hV _, far_fgt _ _, fun e => ⟨hb e, by rw [← e]; exact fgt_same hV t⟩⟩
  by_cases k6 : kd = 6
  · subst k6
    refine (step6 h hx t s q n sum text right A8 c8 cx).mono ?_
    rintro e w' ⟨ys, b, rfl, hf, hb⟩
    exact ⟨ys, b, _, _, rfl, hf, sts_res hV _ _ _, far_res _ _ _ _, fun e => ⟨hb e, by rw [e]⟩⟩
  refine (stepX h hx t s q n sum text right A8 c8 cx kd (by omega)).mono ?_
  rintro e w' ⟨ys, b, rfl, hf, hb⟩
  exact ⟨ys, b, V, U, rfl, hf, hV, far_same _ _, fun e => ⟨hb e, e⟩⟩

end Go.Proofs.Ytgkhdpplmdkkaaa.Ds
/- The walk of DeskApart. -/
namespace Go.Proofs.Ytgkhdpplmdkkaaa.Ds
open Go.RowKit Go.Proofs.YtgkhdpplmdkkaaaH.HDeskPlays Go.Proofs.YtgkhdpplmdkkaaaW.PrintWords Go.Proofs.YtgkhdpplmdkkaaaW.PrintLast Go.Proofs.YtgkhdpplmdkkaaaW.PrintMore Go.Proofs.Ytgkhdpplmdkkaaa.Dp Go.Proofs.Ytgkhdpplmdkkaaa.PureS

set_option maxRecDepth 100000 in
theorem zs7 : ∀ j, j < 32 → S7 (Zs 32).toArray (7 * j) 0 ⟨#[]⟩ false ⟨#[]⟩ ⟨#[]⟩ (.slice none 0 0) (.slice none 0 0)
  | 0, _ => ⟨rfl, rfl, rfl, rfl, rfl, rfl, rfl⟩
  | 1, _ => ⟨rfl, rfl, rfl, rfl, rfl, rfl, rfl⟩
  | 2, _ => ⟨rfl, rfl, rfl, rfl, rfl, rfl, rfl⟩
  | 3, _ => ⟨rfl, rfl, rfl, rfl, rfl, rfl, rfl⟩
  | 4, _ => ⟨rfl, rfl, rfl, rfl, rfl, rfl, rfl⟩
  | 5, _ => ⟨rfl, rfl, rfl, rfl, rfl, rfl, rfl⟩
  | 6, _ => ⟨rfl, rfl, rfl, rfl, rfl, rfl, rfl⟩
  | 7, _ => ⟨rfl, rfl, rfl, rfl, rfl, rfl, rfl⟩
  | 8, _ => ⟨rfl, rfl, rfl, rfl, rfl, rfl, rfl⟩
  | 9, _ => ⟨rfl, rfl, rfl, rfl, rfl, rfl, rfl⟩
  | 10, _ => ⟨rfl, rfl, rfl, rfl, rfl, rfl, rfl⟩
  | 11, _ => ⟨rfl, rfl, rfl, rfl, rfl, rfl, rfl⟩
  | 12, _ => ⟨rfl, rfl, rfl, rfl, rfl, rfl, rfl⟩
  | 13, _ => ⟨rfl, rfl, rfl, rfl, rfl, rfl, rfl⟩
  | 14, _ => ⟨rfl, rfl, rfl, rfl, rfl, rfl, rfl⟩
  | 15, _ => ⟨rfl, rfl, rfl, rfl, rfl, rfl, rfl⟩
  | 16, _ => ⟨rfl, rfl, rfl, rfl, rfl, rfl, rfl⟩
  | 17, _ => ⟨rfl, rfl, rfl, rfl, rfl, rfl, rfl⟩
  | 18, _ => ⟨rfl, rfl, rfl, rfl, rfl, rfl, rfl⟩
  | 19, _ => ⟨rfl, rfl, rfl, rfl, rfl, rfl, rfl⟩
  | 20, _ => ⟨rfl, rfl, rfl, rfl, rfl, rfl, rfl⟩
  | 21, _ => ⟨rfl, rfl, rfl, rfl, rfl, rfl, rfl⟩
  | 22, _ => ⟨rfl, rfl, rfl, rfl, rfl, rfl, rfl⟩
  | 23, _ => ⟨rfl, rfl, rfl, rfl, rfl, rfl, rfl⟩
  | 24, _ => ⟨rfl, rfl, rfl, rfl, rfl, rfl, rfl⟩
  | 25, _ => ⟨rfl, rfl, rfl, rfl, rfl, rfl, rfl⟩
  | 26, _ => ⟨rfl, rfl, rfl, rfl, rfl, rfl, rfl⟩
  | 27, _ => ⟨rfl, rfl, rfl, rfl, rfl, rfl, rfl⟩
  | 28, _ => ⟨rfl, rfl, rfl, rfl, rfl, rfl, rfl⟩
  | 29, _ => ⟨rfl, rfl, rfl, rfl, rfl, rfl, rfl⟩
  | 30, _ => ⟨rfl, rfl, rfl, rfl, rfl, rfl, rfl⟩
  | 31, _ => ⟨rfl, rfl, rfl, rfl, rfl, rfl, rfl⟩
  | n + 32, h => by omega
theorem zero_is : Try.zeroCells90 = (Zs 32).toArray := by kernel_rfl
theorem zs_one : (Zs 32).toArray.all (·.oneCell') = true := by kernel_rfl
theorem zs_size : (Zs 32).toArray.size = 224 := by kernel_rfl
/-- a new desk -/
theorem DI.new (w : World) : DI (w.alloc (.cells (Zs 32).toArray 106)) w.heap.size (Zs 32).toArray (fun k => if k = w.heap.size then 1 else 0) (fun _ => ses0) :=
  ⟨Blk.new _ _ _, zs_size, ⟨if_pos rfl, fun k hk => by simp only at hk; split at hk <;> omega⟩, fun j hj => ⟨none, 0, none, 0, zs7 j hj, Kd.R_nil _ _ _ _ _, Kd.R_nil _ _ _ _ _⟩⟩
/-- the reference's desk, empty -/
theorem XI.zero (w : World) (col : Nat → Nat) : XI w Try.zeroCells90 col (fun _ => ses0) := by
  rw [zero_is]
  exact ⟨zs_size, zs_one, fun j hj => ⟨none, 0, none, 0, zs7 j hj, Kd.R_nil _ _ _ _ _, Kd.R_nil _ _ _ _ _⟩⟩
def opnR (V : Nat → Ses) (t s : Int) : ByteArray × ByteArray × List S42 × Bool := if isP t s ∧ (V (ix t s)).p = true then ((V (ix t s)).su, (V (ix t s)).no, (V (ix t s)).sl, true) else (⟨#[]⟩, ⟨#[]⟩, [], false)
theorem d_open {w : World} {g : Nat} {cs : Array Value} {col : Nat → Nat} {V : Nat → Ses} (h : DI w g cs col V) (t s : Int) (hn : (V (ix t s)).sl.length ≤ 4) :
    Calls Try.prog 46 #[.pointer (some ⟨g, 0, none⟩), .int .i64 t, .int .i64 s] w fun e w' =>
      ∃ v, e = .returned (.tuple #[.agg #[.string (opnR V t s).1, .string (opnR V t s).2.1, v], .bool (opnR V t s).2.2.2]) ∧ Below w.heap.size w w' ∧ Kd.R k42 42 w' w.heap.size (fun _ => True) v (opnR V t s).2.2.1 := by
  by_cases hc : isP t s ∧ (V (ix t s)).p = true
  · obtain ⟨A5, n5, A6, n6, h7, hs, ht⟩ := h.2.2.2 _ (ix_lt hc.1)
    rw [hc.2] at h7
    rw [opnR, if_pos hc]
    have hr := Kd.R_reads' hs
    exact open_yes g cs _ t s (7 * ix t s) _ _ _ _ A5 n5 _ _ w hc.1 ix_o h.1 h7 hr.2.1 hr.2.2 (copied_ok _ _ _ (by simp only; omega))
  · rw [opnR, if_neg hc]
    refine (open_no g cs _ t s (7 * ix t s) w ?_ h.1).mono ?_
    · by_cases hi : isP t s
      · obtain ⟨A5, n5, A6, n6, h7, _, _⟩ := h.2.2.2 _ (ix_lt hi)
        have hp : (V (ix t s)).p = false := by simpa [hi] using hc
        rw [hp] at h7
        exact .inr ⟨hi, ix_o, h7.c2⟩
      · exact .inl hi
    · rintro e w' ⟨rfl, hb⟩
      exact ⟨_, rfl, hb, Kd.R_nil _ _ _ _ _⟩
/-- a block of a challenge may be of colour 0 -/
theorem DI.free {w : World} {g b : Nat} {cs old : Array Value} {col : Nat → Nat} {V : Nat → Ses} (h : DI w g cs col V) (hb : Blk w b 36 old) (hg : g ≠ b) : DI w g cs (fun k => if k = b then 0 else col k) V := by
  refine ⟨h.1, h.2.1, ⟨by simp only; rw [if_neg hg]; exact h.2.2.1.1, fun k hk => ?_⟩, fun j hj => ?_⟩
  · simp only at hk
    split at hk
    · omega
    · exact h.2.2.1.2 k hk
  · obtain ⟨A5, n5, A6, n6, h7, hs, ht⟩ := h.2.2.2 j hj
    exact ⟨A5, n5, A6, n6, h7, Kd.R_mono (Kd.R_types hs hb (by decide)) (fun k h1 => by show (if k = b then 0 else col k) = 0; rw [if_neg h1.2]; exact h1.1), Kd.R_mono (Kd.R_types ht hb (by decide)) (fun k h1 => by show (if k = b then 0 else col k) = j + 2; rw [if_neg h1.2]; exact h1.1)⟩
/-- a step, as it lies in the steps that came in -/
structure OpV where
  kd : Int
  t : Int
  s : Int
  q : Int
  n : Int
  sum : ByteArray
  text : ByteArray
  right : Bool
  A : Option Addr
  c : Nat
  cx : List ByteArray
instance : Inhabited OpV := ⟨⟨0, 0, 0, 0, 0, ⟨#[]⟩, ⟨#[]⟩, false, none, 0, []⟩⟩
structure OpC (W : World) (ad : Addr) (o : OpV) : Prop where
  c0 : W.cell? ad = some (.int .i64 o.kd)
  c1 : W.cell? ⟨ad.block, ad.off + 1, none⟩ = some (.int .i64 o.t)
  c2 : W.cell? ⟨ad.block, ad.off + 2, none⟩ = some (.int .i64 o.s)
  c3 : W.cell? ⟨ad.block, ad.off + 3, none⟩ = some (.int .i64 o.q)
  c4 : W.cell? ⟨ad.block, ad.off + 4, none⟩ = some (.int .i64 o.n)
  c5 : W.cell? ⟨ad.block, ad.off + 5, none⟩ = some (.string o.sum)
  c6 : W.cell? ⟨ad.block, ad.off + 6, none⟩ = some (.string o.text)
  c7 : W.cell? ⟨ad.block, ad.off + 7, none⟩ = some (.bool o.right)
  c8 : W.cell? ⟨ad.block, ad.off + 8, none⟩ = some (.slice o.A o.cx.length o.c)
  le : o.cx.length ≤ o.c
  C : Kd.C Kd.string W o.A o.cx.length o.cx
def OpsAt (W : World) (A : Option Addr) (os : List OpV) : Prop := ∀ i o, os[i]? = some o → ∃ ad, A = some ad ∧ OpC W (ad.add (i * 9)) o
theorem OpC.heap {w w1 : World} {ad : Addr} {o : OpV} (h : OpC w ad o) (hb : ∀ k, k < w.heap.size → w1.heap[k]? = w.heap[k]?) : OpC w1 ad o :=
  ⟨Kd.cell_heap hb h.c0, Kd.cell_heap hb h.c1, Kd.cell_heap hb h.c2, Kd.cell_heap hb h.c3, Kd.cell_heap hb h.c4, Kd.cell_heap hb h.c5, Kd.cell_heap hb h.c6, Kd.cell_heap hb h.c7, Kd.cell_heap hb h.c8, h.le, Kd.Heap.C Kd.heap_string hb h.C⟩
theorem OpC.lo {w w1 : World} {ad : Addr} {o : OpV} (h : OpC w ad o) (hb : Below w.heap.size w w1) : Lo w1 w.heap.size o.A o.cx := fun W' hk => Kd.Heap.C Kd.heap_string (fun k hlt => (hk k hlt).trans (hb.block k hlt)) h.C
/-- what the loop keeps -/
def Lp (w0 w : World) (g : Nat) (t s : Int) (x0 : Ses) (b8 : Nat) (c8 : Array Value) : Prop := ∃ cs col V, DI w g cs col V ∧ col b8 = 0 ∧ Sts V ∧ V (ix t s) = { x0 with tk := (V (ix t s)).tk } ∧ Blk w b8 36 c8 ∧ Below g w0 w

set_option maxRecDepth 100000 in
set_option maxHeartbeats 4000000 in
theorem apart_walk (t s : Int) (A : Option Addr) (c : Nat) (os : List OpV) (w : World) (hops : OpsAt w A os) :
    Calls Try.prog 13 #[.slice A os.length c, .int .i64 t, .int .i64 s] w fun e w' => e = .returned (.bool true) ∧ Below w.heap.size w w' := by
  have HO := Lib.hid hops
  clear hops
  go_enter Try.func13, Try.ntmps13
  go_wp2_with fail
  refine (is_any t s _).mono ?_
  rintro e w' ⟨rfl, rfl⟩
  by_cases hp : isP t s
  case neg =>
    rw [decide_eq_false hp]
    clear hp
    go_wp2_with (go_at_call 16; refine (lives_any _).mono ?_; rintro e w' ⟨rfl, hl⟩)
    go_ret
    exact ⟨rfl, ‹Below w.heap.size w _›⟩
  rw [decide_eq_true hp]
  have HP := Lib.hid hp
  clear hp
  go_wp2_with fail
  refine (new_any _).mono ?_
  rintro e w1 ⟨rfl, hw1⟩
  have hD1 := DI.new w
  rw [← hw1] at hD1
  have hl1 : Below w.heap.size w w1 := by rw [hw1]; exact below_allocW _ _
  have HD1 := Lib.hid hD1
  have HL1 := Lib.hid hl1
  clear hw1 hD1 hl1
  generalize hg : w.heap.size = g at HD1 HL1 ⊢
  have HG := Lib.hid hg
  clear hg
  go_wp2_with fail
  refine (d_answer HD1.out t s 1 ⟨#[109, 105, 110, 101]⟩ (by decide)).mono ?_
  rintro e w2 ⟨rfl, hO⟩
  have he : ansE (fun _ => ses0) t s 1 ⟨#[109, 105, 110, 101]⟩ = 0 := by unfold ansE; rw [if_pos HP.out]; rfl
  rw [he]
  obtain ⟨cs2, col2, hD2, _, _⟩ := hO.2.1
  have hV2 : ansV (fun _ => ses0) t s 1 ⟨#[109, 105, 110, 101]⟩ = setS (fun _ => ses0) (ix t s) { ses0 with l := 1, r := ⟨#[109, 105, 110, 101]⟩ } := if_pos ⟨HP.out, rfl⟩
  have hs2 := sts_ans sts0 t s 1 ⟨#[109, 105, 110, 101]⟩
  have hv2 : ansV (fun _ => ses0) t s 1 ⟨#[109, 105, 110, 101]⟩ (ix t s) = { ses0 with l := 1, r := ⟨#[109, 105, 110, 101]⟩ } := by rw [hV2, setS_same]
  generalize ansV (fun _ => ses0) t s 1 ⟨#[109, 105, 110, 101]⟩ = V2 at hD2 hs2 hv2
  have HD2 := Lib.hid hD2
  have HL2 := Lib.hid (HL1.out.trans hO.1)
  have HS2 := Lib.hid (And.intro hs2 hv2)
  clear hO hD2 hV2 hs2 hv2 he HD1 HL1
  go_wp2_with fail
  obtain ⟨no, sl, hd, hcp, _, _, hso⟩ := clm_ok ⟨#[100]⟩ ⟨#[100, 114, 97, 119]⟩ (by decide) (by decide)
  refine (d_claim HD2.out t s ⟨#[100]⟩ ⟨#[100, 114, 97, 119]⟩ no sl (fun _ => ⟨hd, hcp⟩)).mono ?_
  rintro e w3 ⟨⟨v, rfl, hr3⟩, hO⟩
  have hcl : clmP t s ⟨#[100]⟩ := ⟨HP.out, by decide, by decide⟩
  rw [show clmR t s ⟨#[100]⟩ no sl = (⟨#[100]⟩, no, sl, 0) from if_pos hcl] at hr3 ⊢
  obtain ⟨A3, m3, rfl⟩ := Kd.R_slice hr3
  obtain ⟨cs3, col3, hD3, _, _⟩ := hO.2.1
  have hV3 : clmV V2 t s ⟨#[100]⟩ no sl = setS V2 (ix t s) { V2 (ix t s) with p := true, su := ⟨#[100]⟩, no := no, sl := sl } := if_pos hcl
  rw [hV3] at hD3
  have hs3 : Sts (setS V2 (ix t s) { V2 (ix t s) with p := true, su := ⟨#[100]⟩, no := no, sl := sl }) := HS2.out.1.set (hso _ (HS2.out.1 _))
  rw [HS2.out.2] at hD3 hs3
  have HD3 := Lib.hid hD3
  have HS3 := Lib.hid hs3
  have HL3 := Lib.hid (HL2.out.trans hO.1)
  have HSL := Lib.hid (hso _ (HS2.out.1 (ix t s))).n
  clear hO hD3 hV3 hs3 hr3 hcl hso hd hcp HD2 HL2 HS2
  simp only
  go_wp2_with fail
  generalize hw4 : w3.alloc (Obj.cells #[.string ⟨#[100]⟩, .string no, .slice A3 sl.length m3] 36) = w4
  have hb8 : Blk w4 w3.heap.size 36 #[.string ⟨#[100]⟩, .string no, .slice A3 sl.length m3] := by rw [← hw4]; exact Blk.new _ _ _
  have hb4 : Below w3.heap.size w3 w4 := by rw [← hw4]; exact below_allocW _ _
  have hgw : g < w3.heap.size := HD3.out.1.lt
  have hlp : Lp w w4 g t s { ses0 with l := 1, r := ⟨#[109, 105, 110, 101]⟩, p := true, su := ⟨#[100]⟩, no := no, sl := sl } w3.heap.size #[.string ⟨#[100]⟩, .string no, .slice A3 sl.length m3] := by
    refine ⟨cs3, _, _, (HD3.out.below hb4).free hb8 (Nat.ne_of_lt hgw), if_pos rfl, HS3.out, by rw [setS_same], hb8, HL3.out.trans (hb4.mono (Nat.le_of_lt hgw))⟩
  generalize w3.heap.size = b8 at hlp hgw ⊢
  have HLP := Lib.hid hlp
  clear hw4 hb8 hb4 hlp HD3 HS3 HL3
  go_loopw [10] (fun i wr => ∃ k : Nat, i = .int .i64 k ∧ k ≤ 40 ∧ Lp w wr g t s { ses0 with l := 1, r := ⟨#[109, 105, 110, 101]⟩, p := true, su := ⟨#[100]⟩, no := no, sl := sl } b8 #[.string ⟨#[100]⟩, .string no, .slice A3 sl.length m3]) (fun i _ => 40 - (intOf i).toNat)
  case atStart => exact ⟨0, rfl, by omega, HLP.out⟩
  case round =>
    obtain ⟨k, rfl, hk, hlp⟩ := hrel
    have HLP := Lib.hid hlp
    clear hlp
    by_cases hcc : k < os.length ∧ k < 40
    case pos =>
      obtain ⟨hk1, hk2⟩ := hcc
      have hk1' : (k : Int) < os.length := by omega
      obtain ⟨ad, rfl, hoc⟩ := HO.out k os[k] (List.getElem?_eq_getElem hk1)
      generalize os[k] = o at hoc
      obtain ⟨kd, ot, osl, q, n, sum, text, right, A8, c8, cx⟩ := o
      obtain ⟨cs, col, V, hD, hc8, hSt, hVx, hB8, hBl⟩ := HLP.out
      have hkeep : ∀ q, q < w.heap.size → wr.heap[q]? = w.heap[q]? := by rw [HG.out]; exact hBl.block
      have hor := hoc.heap hkeep
      obtain ⟨d0, d1, d2, d3, d4, d5, d6, d7, d8, dle, dC⟩ := hor
      simp only at d0 d1 d2 d3 d4 d5 d6 d7 d8 dle dC
      obtain ⟨r, kl, hli, hlr⟩ := light_ok kd ot osl q n sum text right cx
      have HLI := Lib.hid (And.intro hli hlr)
      have HDC := Lib.hid (And.intro dle dC)
      have HDR := Lib.hid hD
      have HBL := Lib.hid hBl
      have HST := Lib.hid (And.intro hc8 (And.intro hSt (And.intro hVx hB8)))
      have HOC := Lib.hid hoc
      clear hli hlr dle dC hD hBl hc8 hSt hVx hB8 hoc hkeep HLP
      go_wp2_with fail
      refine (strongroomlaw27_light.calls kl kd ot osl q n sum text right A8 c8 cx r _ HDC.out.2 HDC.out.1 HLI.out.1).mono ?_
      rintro e wa ⟨rfl, hba⟩
      have hBLa := HBL.out.trans (hba.mono (Nat.le_of_lt HDR.out.1.lt))
      have hkeep : ∀ q, q < w.heap.size → wa.heap[q]? = w.heap[q]? := by rw [HG.out]; exact hBLa.block
      have hor := HOC.out.heap hkeep
      have HLO := Lib.hid (show Lo wa g A8 cx from by
        have h := HOC.out.lo (w1 := wa) (by rw [HG.out]; exact hBLa)
        rw [HG.out] at h
        exact h)
      obtain ⟨d0, d1, d2, d3, d4, d5, d6, d7, d8, _, _⟩ := hor
      simp only at d0 d1 d2 d3 d4 d5 d6 d7 d8
      have HDA := Lib.hid (HDR.out.below hba)
      have HBA := Lib.hid hBLa
      have HB8 := Lib.hid (HST.out.2.2.2.below hba HST.out.2.2.2.lt)
      clear hba hBLa hkeep HDR HBL HOC HDC
      cases r
      case false =>
        go_wp2_with (go_at_call 16; refine (lives_any _).mono ?_; rintro e w' ⟨rfl, hl⟩)
        go_ret
        refine ⟨rfl, ?_⟩
        rw [HG.out]
        exact HBA.out.trans ((‹Below wa.heap.size wa _›).mono (Nat.le_of_lt HDA.out.1.lt))
      obtain ⟨l1, l2, l3, l4⟩ := HLI.out.2 rfl
      have HL4 := Lib.hid (And.intro l1 (And.intro l2 (And.intro l3 l4)))
      clear l1 l2 l3 l4 HLI
      by_cases hT : ot = t
      case pos =>
        subst hT
        go_wp2_with fail
        go_roundw
        case rel => exact ⟨k + 1, by go_num, by omega, cs, col, V, HDA.out, HST.out.1, HST.out.2.1, HST.out.2.2.1, HB8.out, HBA.out⟩
        case measure => simp [intOf]; omega
      have hT1 : (ot == t) = false := beq_eq_false_iff_ne.2 hT
      have hT2 : (ot != t) = true := bne_iff_ne.2 hT
      have HNT := Lib.hid hT
      clear hT
      go_wp2_with fail
      refine (step_any HDA.out (XI.zero _ _) kd ot osl q n sum text right A8 c8 cx HST.out.2.1 sts0 HL4.out.1 HL4.out.2.1 HL4.out.2.2.1 HL4.out.2.2.2 HLO.out (proves0 _ _ _)).mono ?_
      rintro e w5 ⟨ys, b, V', U', rfl, ⟨hkp, cs', col', hD', _⟩, hs', hfar, _⟩
      have hix : V' (ix t s) = V (ix t s) := hfar _ (by
        obtain ⟨p1, p2, p3, p4⟩ := HP.out
        have := HNT.out
        unfold ix
        omega)
      have hB5 : Blk w5 b8 36 #[.string ⟨#[100]⟩, .string no, .slice A3 sl.length m3] := (hkp.2.2 b8 HB8.out.lt HST.out.1).trans HB8.out
      have HLP5 := Lib.hid (show Lp w w5 g t s { ses0 with l := 1, r := ⟨#[109, 105, 110, 101]⟩, p := true, su := ⟨#[100]⟩, no := no, sl := sl } b8 #[.string ⟨#[100]⟩, .string no, .slice A3 sl.length m3] from
        ⟨cs', _, V', hD'.free hB5 (Nat.ne_of_lt hgw), if_pos rfl, hs', by rw [hix]; exact HST.out.2.2.1, hB5, HBA.out.trans hkp.1⟩)
      clear hkp hD' hs' hfar hix hB5
      go_wp2_with fail
      go_roundw
      case rel => exact ⟨k + 1, by go_num, by omega, HLP5.out⟩
      case measure => simp [intOf]; omega
    case neg =>
      have hcc' : (os.length ≤ k) ∨ (k < os.length ∧ k = 40) := by omega
      obtain ⟨cs, col, V, hD, hc8, hSt, hVx, hB8, hBl⟩ := HLP.out
      have hlook : lookV V t s 1 = (1, ⟨#[109, 105, 110, 101]⟩, 0) := by unfold lookV; rw [if_pos HP.out, hVx]; rfl
      have hopn : opnR V t s = (⟨#[100]⟩, no, sl, true) := by unfold opnR; rw [if_pos ⟨HP.out, by rw [hVx]⟩, hVx]
      have hsl : (V (ix t s)).sl.length ≤ 4 := by rw [hVx]; exact HSL.out
      have HDR := Lib.hid hD
      have HBL := Lib.hid hBl
      have HQ := Lib.hid (And.intro hlook (And.intro hopn hsl))
      have HB8 := Lib.hid (And.intro hB8 hc8)
      clear hD hBl hB8 hc8 hSt hVx hlook hopn hsl hcc HLP
      rcases hcc' with h1 | ⟨h1, rfl⟩
      all_goals
        go_wp2_with fail
        refine (d_look HDR.out t s 1).mono ?_
        rintro e w5 ⟨rfl, hO⟩
        rw [HQ.out.1]
        obtain ⟨cs5, col5, hD5, _, _⟩ := hO.2.1
        have HD5 := Lib.hid hD5
        have HB5 := Lib.hid (hO.blk HB8.out.1 HB8.out.2)
        have HL5 := Lib.hid (HBL.out.trans hO.1)
        clear hO hD5
        simp only
        go_wp2_with fail
        refine (d_open HD5.out t s HQ.out.2.2).mono ?_
        rintro e w6 ⟨v6, rfl, hb6, hr6⟩
        rw [HQ.out.2.1] at hr6 ⊢
        obtain ⟨A7, m7, rfl⟩ := Kd.R_slice hr6
        have hB6 := HB5.out.below hb6 HB5.out.lt
        have e0 := hB6.cell 0
        have e1 := hB6.cell 1
        have hlt6 := hB6.lt
        have HL6 := Lib.hid (HL5.out.trans (hb6.mono (Nat.le_of_lt HD5.out.1.lt)))
        have hg6 : g < w6.heap.size := Nat.lt_of_lt_of_le HD5.out.1.lt hb6.size
        clear hB6 hr6 hb6
        simp only
        go_wp2_with fail
        refine (look_nil t s 1 _).mono ?_
        rintro e w' ⟨rfl, rfl⟩
        go_wp2_with (first
          | (go_at_call 47; refine (forget_no none t _ (fun s w => find_nil t s w)).mono ?_; rintro e wf ⟨rfl, hbf⟩)
          | (go_at_call 48; refine (sessions_no none t _ (fun s w => find_nil t s w)).mono ?_; rintro e wse ⟨rfl, hbs⟩)
          | (go_at_call 49; refine (tickets_nil t s _).mono ?_; rintro e w' ⟨rfl, rfl⟩)
          | (go_at_call 16; refine (lives_any _).mono ?_; rintro e wl ⟨rfl, hbl⟩))
        go_ret
        refine ⟨rfl, ?_⟩
        rw [HG.out]
        refine HL6.out.trans ?_
        exact (((below_allocW w6 _).mono (Nat.le_of_lt hg6)).trans (hbf.mono (by simp; omega))).trans ((hbs.mono (by have := hbf.size; simp at this; omega)).trans (hbl.mono (by have := hbf.size; have := hbs.size; simp at *; omega)))

end Go.Proofs.Ytgkhdpplmdkkaaa.Ds
/- The reference's prove of a challenge that is open. -/
namespace Go.Proofs.Ytgkhdpplmdkkaaa.Ds
open Go.RowKit Go.Proofs.YtgkhdpplmdkkaaaH.HDeskPlays Go.Proofs.YtgkhdpplmdkkaaaW.PrintWords Go.Proofs.YtgkhdpplmdkkaaaW.PrintLast Go.Proofs.YtgkhdpplmdkkaaaW.PrintMore Go.Proofs.Ytgkhdpplmdkkaaa.Dp

/-- a session that is written whole, its challenge gone -/
def cl7 (xs : Array Value) (o : Nat) (l : Int) (r : ByteArray) (v : Value) : Array Value := ((((((xs.setIfInBounds o (.int .i64 l)).setIfInBounds (o + 1) (.string r)).setIfInBounds (o + 2) (.bool false)).setIfInBounds (o + 3) (.string ⟨#[]⟩)).setIfInBounds (o + 4) (.string ⟨#[]⟩)).setIfInBounds (o + 5) (.slice none 0 0)).setIfInBounds (o + 6) v
theorem cl7_size (xs : Array Value) (o : Nat) (l : Int) (r : ByteArray) (v : Value) : (cl7 xs o l r v).size = xs.size := by simp [cl7]
theorem cl7_one {xs : Array Value} (h : xs.all (·.oneCell') = true) (o : Nat) (l : Int) (r : ByteArray) (v : Value) (hv : v.oneCell' = true) : (cl7 xs o l r v).all (·.oneCell') = true :=
  one_set (one_set (one_set (one_set (one_set (one_set (one_set h _ _ rfl) _ _ rfl) _ _ rfl) _ _ rfl) _ _ rfl) _ _ rfl) _ _ hv
theorem cl7_far {xs : Array Value} {o i : Nat} (h : ¬ (o ≤ i ∧ i < o + 7)) (l : Int) (r : ByteArray) (v : Value) : (cl7 xs o l r v)[i]? = xs[i]? := by
  unfold cl7
  rw [far7 h (by omega), far7 h (by omega), far7 h (by omega), far7 h (by omega), far7 h (by omega), far7 h (by omega), far7 h (by omega)]
theorem cl7_S7 {xs : Array Value} {o : Nat} {l0 : Int} {r0 : ByteArray} {p : Bool} {su no : ByteArray} {v5 v6 : Value} (h : S7 xs o l0 r0 p su no v5 v6) (l : Int) (r : ByteArray) (v : Value) : S7 (cl7 xs o l r v) o l r false ⟨#[]⟩ ⟨#[]⟩ (.slice none 0 0) v :=
  ((((((h.set0 l).set1 r).set2 false).set3 ⟨#[]⟩).set4 ⟨#[]⟩).set5 (.slice none 0 0)).set6 v
/-- what the reference's prove leaves -/
def RpOut (e : Ending) (w w' : World) (xs : Array Value) (o : Nat) (l : Int) (r : ByteArray) (tk : List S74) (okT : Nat → Prop) (R : Int × S74) : Prop := ∃ ys, e = .returned (.tuple #[.agg ys, .agg #[.string R.2.f0, .int .i64 R.2.f1], .int .i64 R.1]) ∧ Below w.heap.size w w' ∧ ys.size = 224 ∧ ys.all (·.oneCell') = true ∧ (∀ i, ¬ (o ≤ i ∧ i < o + 7) → ys[i]? = xs[i]?) ∧
  ∃ A6 n6, S7 ys o l r false ⟨#[]⟩ ⟨#[]⟩ (.slice none 0 0) (.slice A6 (if R.1 = 0 then tk ++ [R.2] else tk).length n6) ∧ Kd.R k74 74 w' 0 (fun k => okT k ∨ w.heap.size ≤ k) (.slice A6 (if R.1 = 0 then tk ++ [R.2] else tk).length n6) (if R.1 = 0 then tk ++ [R.2] else tk)

set_option maxRecDepth 100000 in
set_option maxHeartbeats 4000000 in
theorem rprove_open (xs : Array Value) (t s : Int) (answer su no : ByteArray) (sl : List S42) (A1 : Option Addr) (n1 : Nat) (l : Int) (r : ByteArray) (tk : List S74) (A6 : Option Addr) (n6 : Nat) (okT : Nat → Prop) (cx : List ByteArray) (A4 : Option Addr) (c4 : Nat) (ns : List S74) (A3 : Option Addr) (c3 : Nat) (pf : ByteArray → ByteArray) (R : Int × S74) (o : Nat) (w : World)
    (h : isP t s) (ho : (t.toNat - 1) * 28 + s.toNat * 7 = o) (hz : xs.size = 224) (h1 : xs.all (·.oneCell') = true) (hS : S7 xs o l r true su no (.slice A1 sl.length n1) (.slice A6 tk.length n6)) (hs1 : sl.length ≤ n1) (hsb : Kd.C k42 w A1 sl.length sl)
    (hx : Kd.C Kd.string w A4 cx.length cx) (hy : Kd.C k74 w A3 ns.length ns) (hl : ns.length = cx.length) (hlen : cx.length ≤ 1000) (htk : tk.length ≤ 8) (hv : Kd.R k74 74 w 0 okT (.slice A6 tk.length n6) tk)
    (hp : ∀ x ∈ cx, ∃ k, strongroomref27_Proof.f k su no sl x = some (pf x))
    (hmiss : (∀ i, i < cx.length → (pf (cx.getD i ⟨#[]⟩)).toList ≠ answer.toList) → R = (11, z74))
    (hhit : ∀ m, m < cx.length → (pf (cx.getD m ⟨#[]⟩)).toList = answer.toList → (∀ i, i < m → (pf (cx.getD i ⟨#[]⟩)).toList ≠ answer.toList) → R = if tk.length = 8 then (5, z74) else (0, ns.getD m z74)) :
    Calls Try.prog 75 #[.agg xs, .int .i64 t, .int .i64 s, .string answer, .slice A3 ns.length c3, .slice A4 cx.length c4] w fun e w' => RpOut e w w' xs o l r tk okT R := by
  have HZ := Lib.hid (And.intro hz h1)
  have t2 := two90 w xs
  have hb := t2.1.alloc (.cells #[.string ⟨#[]⟩, .int .i64 0] 74)
  have k0 := (hb.cell o).trans hS.c0
  have k1 := (hb.cell (o + 1)).trans hS.c1
  have k2 := (hb.cell (o + 2)).trans hS.c2
  have k3 := (hb.cell (o + 3)).trans hS.c3
  have k4 := (hb.cell (o + 4)).trans hS.c4
  have k5 := (hb.cell (o + 5)).trans hS.c5
  have k6 := (hb.cell (o + 6)).trans hS.c6
  have T2 := Lib.hid t2
  have HS := Lib.hid hS
  have HSB := Lib.hid (And.intro hs1 hsb)
  have HXY := Lib.hid (And.intro hx hy)
  have HV := Lib.hid hv
  have HP := Lib.hid hp
  have HM := Lib.hid (And.intro hmiss hhit)
  have hO := ho
  obtain ⟨g1, g2, g3, g4⟩ := h
  clear hz h1 t2 hb hS hs1 hsb hx hy hv hp hmiss hhit
  rw [hl]
  go_enter Try.func75, Try.ntmps75
  go_wp2_with (first
    | (go_at_call 15; refine (is_yes _ _ _ g1 g2 g3 g4).mono ?_; rintro e w' ⟨rfl, rfl⟩)
    | ((with_reducible refine wl_load90 ?zz_hg ?_ ?zz_ho ?_ ?zz_hx ?_ ?zz_hb ?zz_hz ?_); (case zz_ho => exact rfl); (case zz_hx => exact rfl); (case zz_hb => with_reducible exact (T2.out.1.alloc _).alloc _); (case zz_hg => exact rfl); (case zz_hz => exact HZ.out.1)))
  refine abs_world ?_
  intro w2 hw2
  have hB2 : Blk w2 w.heap.size 90 xs := by rw [hw2]; exact ((T2.out.1.alloc _).alloc _).alloc _
  have hR2 : Blk w2 (w.heap.size + 1) 90 Try.zeroCells90 := by rw [hw2]; exact ((T2.out.2.1.alloc _).alloc _).alloc _
  have hX2 : Blk w2 (w.heap.size + 1 + 1) 74 #[.string ⟨#[]⟩, .int .i64 0] := by rw [hw2]; exact ((Blk.new_at _ _ _ _ _ (by simp) rfl).alloc _).alloc _
  have hS2 : Blk w2 (w.heap.size + 1 + 1 + 1) 87 #[.int .i64 l, .string r, .bool false, .string ⟨#[]⟩, .string ⟨#[]⟩, .slice none 0 0, .slice A6 tk.length n6] := by rw [hw2]; exact (Blk.new_at _ _ _ _ _ (by simp) rfl).alloc _
  have hC2 : Blk w2 (w.heap.size + 1 + 1 + 1 + 1) 38 #[.string su, .string no, .slice A1 sl.length n1] := by rw [hw2]; exact Blk.new_at _ _ _ _ _ (by simp) rfl
  have hl2 : Below w.heap.size w w2 := by
    rw [hw2]
    exact (((((Below.refl _ _).alloc (Nat.le_refl _) _).alloc (by simp) _).alloc (by simp; omega) _).alloc (by simp; omega) _).alloc (by simp; omega) _
  have q0 := (hB2.cell o).trans HS.out.c0
  have q1 := (hB2.cell (o + 1)).trans HS.out.c1
  have q2 := (hB2.cell (o + 2)).trans HS.out.c2
  have q3 := (hB2.cell (o + 3)).trans HS.out.c3
  have q4 := (hB2.cell (o + 4)).trans HS.out.c4
  have q5 := (hB2.cell (o + 5)).trans HS.out.c5
  have q6 := (hB2.cell (o + 6)).trans HS.out.c6
  have f0 := hB2.frozen o
  have f1 := hB2.frozen (o + 1)
  have f2 := hB2.frozen (o + 2)
  have f3 := hB2.frozen (o + 3)
  have f4 := hB2.frozen (o + 4)
  have f5 := hB2.frozen (o + 5)
  have f6 := hB2.frozen (o + 6)
  have s0 := hS2.cell 0
  have s1 := hS2.cell 1
  have s2 := hS2.cell 2
  have s3 := hS2.cell 3
  have s4 := hS2.cell 4
  have s5 := hS2.cell 5
  have s6 := hS2.cell 6
  have hoz : o + 6 < 224 := by omega
  have hltB := hB2.lt
  have hltS := hS2.lt
  have HB2 := Lib.hid hB2
  have HR2 := Lib.hid hR2
  have HX2 := Lib.hid hX2
  have HS2 := Lib.hid hS2
  have HC2 := Lib.hid hC2
  have HL2 := Lib.hid hl2
  have HO := Lib.hid hO
  clear hw2 hB2 hR2 hX2 hS2 hC2 hl2 k0 k1 k2 k3 k4 k5 k6
  go_region
  refine abs_then ?_
  intro w5 hw5
  have hk5 : KeepBut w2 w5 w.heap.size none := by
    rw [hw5]
    exact keep_drew ((((((((KeepBut.refl _ _ _).set_ _ _).set_ _ _).set_ _ _).set_ _ _).set_ _ _).set_ _ _).set_ _ _)
  have hB5 : Blk w5 w.heap.size 90 (cl7 xs o l r (.slice A6 tk.length n6)) := by
    rw [hw5]
    exact (((((((HB2.out.set_ o _).set_ (o + 1) _).set_ (o + 2) _).set_ (o + 3) _).set_ (o + 4) _).set_ (o + 5) _).set_ (o + 6) _).drew
  have hl5 : Below w.heap.size w w5 := by
    rw [hw5]
    exact (below_set (below_set (below_set (below_set (below_set (below_set (below_set HL2.out (Nat.le_refl _) _ _) (Nat.le_refl _) _ _) (Nat.le_refl _) _ _) (Nat.le_refl _) _ _) (Nat.le_refl _) _ _) (Nat.le_refl _) _ _) (Nat.le_refl _) _ _).drew
  have hY7 := cl7_S7 HS.out l r (.slice A6 tk.length n6)
  have hYz : (cl7 xs o l r (.slice A6 tk.length n6)).size = 224 := by rw [cl7_size]; exact HZ.out.1
  have hY1 := cl7_one HZ.out.2 o l r (.slice A6 tk.length n6) rfl
  have hYf : ∀ i, ¬ (o ≤ i ∧ i < o + 7) → (cl7 xs o l r (.slice A6 tk.length n6))[i]? = xs[i]? := fun i hi => cl7_far hi _ _ _
  generalize cl7 xs o l r (.slice A6 tk.length n6) = ys at hB5 hY7 hYz hY1 hYf
  have HB5 := Lib.hid hB5
  have HR5 := Lib.hid (show Blk w5 (w.heap.size + 1) 90 Try.zeroCells90 from (hk5.2 _ HR2.out.lt (by omega) (by simp)).trans HR2.out)
  have HX5 := Lib.hid (show Blk w5 (w.heap.size + 1 + 1) 74 #[.string ⟨#[]⟩, .int .i64 0] from (hk5.2 _ HX2.out.lt (by omega) (by simp)).trans HX2.out)
  have HS5 := Lib.hid (show Blk w5 (w.heap.size + 1 + 1 + 1) 87 #[.int .i64 l, .string r, .bool false, .string ⟨#[]⟩, .string ⟨#[]⟩, .slice none 0 0, .slice A6 tk.length n6] from (hk5.2 _ HS2.out.lt (by omega) (by simp)).trans HS2.out)
  have HC5 := Lib.hid (show Blk w5 (w.heap.size + 1 + 1 + 1 + 1) 38 #[.string su, .string no, .slice A1 sl.length n1] from (hk5.2 _ HC2.out.lt (by omega) (by simp)).trans HC2.out)
  have HL5 := Lib.hid hl5
  have HY := Lib.hid (And.intro hY7 (And.intro hYz (And.intro hY1 hYf)))
  have HV5 := Lib.hid (Kd.R_below (Kd.R_bound HV.out) hl5)
  clear hw5 hk5 hB5 hl5 hY7 hYz hY1 hYf HB2 HR2 HX2 HS2 HC2 HL2 q0 q1 q2 q3 q4 q5 q6 f0 f1 f2 f3 f4 f5 f6 s0 s1 s2 s3 s4 s5 s6 hltB hltS
  have fin : ∀ (wq : World), Below w5.heap.size w5 wq → R.2 = z74 → R.1 ≠ 0 → ∀ a : Act, a.tmps.getD 12 undef = .pointer (some ⟨w.heap.size + 1, 0, none⟩) → a.tmps.getD 13 undef = .pointer (some ⟨w.heap.size + 1 + 1, 0, none⟩) → a.tmps.getD 14 undef = .int .i64 R.1 → a.defers = [] →
      bodyPost Try.prog Try.f75 (fun e w' => RpOut e w w' xs o l r tk okT R) Exit.ret a (((wq.setRow (w.heap.size + 1) ys).setCell ⟨w.heap.size + 1 + 1, 0, none⟩ (.string ⟨#[]⟩)).setCell ⟨w.heap.size + 1 + 1, 1, none⟩ (.int .i64 0)) := by
    intro wq hq hz hne a p0 p1 p2 p3
    have hRq : Blk (wq.setRow (w.heap.size + 1) ys) (w.heap.size + 1) 90 ys := blk_row (HR5.out.below hq HR5.out.lt) (by rw [zero90, HY.out.2.1])
    have hXq : Blk (wq.setRow (w.heap.size + 1) ys) (w.heap.size + 1 + 1) 74 #[.string ⟨#[]⟩, .int .i64 0] := rowS (HX5.out.below hq HX5.out.lt) (by omega)
    refine bodyPost_ret (results_cct rfl _ _ (w.heap.size + 1) (w.heap.size + 1 + 1) 90 74 _ #[.string ⟨#[]⟩, .int .i64 0] _ _ p0 ((hRq.far (by simp) _).far (by simp) _) Try.underlying90 rfl (by rw [HY.out.2.1]; exact info90) p1 ((hXq.set_ 0 _).set_ 1 _) Try.underlying74 rfl (by kernel_rfl)) p3 ?_
    rw [p2]
    have hle : w5.heap.size ≤ wq.heap.size := hq.size
    have hbw : Below w.heap.size w (wq.setRow (w.heap.size + 1) ys) := below_setRow (HL5.out.trans (hq.mono HL5.out.size)) (by omega) _
    refine ⟨ys, by rw [hz]; rfl, below_set (below_set hbw (by omega) _ _) (by omega) _ _, HY.out.2.1, HY.out.2.2.1, HY.out.2.2.2, A6, n6, ?_, ?_⟩
    · rw [if_neg hne]
      exact HY.out.1
    · rw [if_neg hne]
      have h1 := Kd.R_below HV5.out hq
      refine Kd.R_mono (Kd.R_step h1 (w1 := ((wq.setRow (w.heap.size + 1) ys).setCell ⟨w.heap.size + 1 + 1, 0, none⟩ (.string ⟨#[]⟩)).setCell ⟨w.heap.size + 1 + 1, 1, none⟩ (.int .i64 0)) (fun k hk _ => ?_)) (fun k hk => .inl hk.1)
      have h2 := hk.2.2.1
      rw [Below.heap_setCell _ _ _ k (by simp; omega), Below.heap_setCell _ _ _ k (by simp; omega), setRow_other _ _ _ _ (by omega)]
  have FIN := Lib.hid fin
  clear fin
  go_wp2_with fail
  go_loopw [17] (fun i wr => ∃ m : Nat, i = .int .i64 m ∧ m ≤ cx.length ∧ (∀ i, i < m → (pf (cx.getD i ⟨#[]⟩)).toList ≠ answer.toList) ∧ Below w5.heap.size w5 wr) (fun i _ => cx.length - (intOf i).toNat)
  case atStart => exact ⟨0, rfl, by omega, fun i hi => by omega, Below.refl _ _⟩
  case round =>
    obtain ⟨m, rfl, hm, hne_, hwr⟩ := hrel
    have HNE := Lib.hid hne_
    clear hne_
    by_cases hmx : m < cx.length
    case neg =>
      have hm' : m = cx.length := by omega
      subst hm'
      have hR0 := HM.out.1 HNE.out
      have HRR := Lib.hid hR0
      have hBw := HB5.out.below hwr HB5.out.lt
      have hRw := HR5.out.below hwr HR5.out.lt
      have hXw := HX5.out.below hwr HX5.out.lt
      have hXs := rowS (b := w.heap.size + 1) (ys := ys) hXw (by omega)
      have x0 := hXs.cell 0
      have x1 := hXs.cell 1
      have z0 := hXs.frozen 0
      have z1 := hXs.frozen 1
      have hlx := hXw.lt
      have HBW := Lib.hid hBw
      have HRW := Lib.hid hRw
      have HWR := Lib.hid hwr
      clear hwr hR0 hBw hRw hXw hXs
      go_wp2_with (first
        | ((with_reducible refine wl_load90 ?zz_hg ?_ ?zz_ho ?_ ?zz_hx ?_ ?zz_hb ?zz_hz ?_); (case zz_ho => exact rfl); (case zz_hx => exact rfl); (case zz_hb => with_reducible exact HBW.out); (case zz_hg => exact rfl); (case zz_hz => exact HY.out.2.1))
        | ((with_reducible refine wl_store90 ?zz_hg ?_ ?_ ?zz_ho ?_ ?zz_hx ?_ ?zz_hy ?_ ?zz_hb ?zz_yz ?zz_hz ?zz_h1 ?_); (case zz_ho => exact rfl); (case zz_hx => exact rfl); (case zz_hy => exact rfl); (case zz_hb => with_reducible exact HRW.out); (case zz_hg => exact rfl); (case zz_yz => exact zero90); (case zz_hz => exact HY.out.2.1); (case zz_h1 => exact HY.out.2.2.1)))
      refine FIN.out _ HWR.out ?_ ?_ _ ?_ ?_ ?_ ?_
      · rw [HRR.out]
      · rw [HRR.out]; decide
      · rfl
      · rfl
      · rw [HRR.out]; rfl
      · rfl
    have hmx' : (m : Int) < cx.length := by omega
    obtain ⟨ad, rfl, hxc⟩ := Kd.at_string (Kd.C_below HXY.out.1 (HL5.out.trans (hwr.mono HL5.out.size))) (m : Int) (by omega) (by omega)
    simp only [Int.toNat_natCast] at hxc
    generalize hxv : rdOf ByteArray.empty cx (m : Int) = x at hxc
    have hxm : x = cx.getD m ⟨#[]⟩ := by rw [← hxv]; rfl
    have hmem : x ∈ cx := by
      rw [hxm, List.getD_eq_getElem?_getD, List.getElem?_eq_getElem (by omega)]
      exact List.getElem_mem _
    obtain ⟨kp, hpk⟩ := HP.out x hmem
    have hCw := HC5.out.below hwr HC5.out.lt
    have HPK := Lib.hid hpk
    have HXM := Lib.hid hxm
    have HWR := Lib.hid hwr
    have hSp := Kd.C_below HSB.out.2 (HL5.out.trans (hwr.mono HL5.out.size))
    have HSP := Lib.hid hSp
    clear hxv hxm hmem hpk hwr hSp
    go_wp2_with fail
    refine start_ (n := 8) (S := fun w' => Blk w' (w.heap.size + 1 + 1 + 1 + 1) 38 #[.string su, .string no, .slice A1 sl.length n1] ∧ w'.cell? (ad.add m) = some (.string x)) (ds := []) (Ra_ [0, 8]) (by kernel_rfl) rfl rfl ⟨hCw.drew, hxc⟩ (fun hHeld => ?_)
    refine take_ (i := 0) (N := some 60) (Ra_ [1, 7]) rfl rfl (by kernel_rfl) (fun _ _ _ h => h) (yields_row rfl _ _ rfl (w.heap.size + 1 + 1 + 1 + 1) rfl _ _ _ (fun _ h => h.1) Try.underlying38 rfl (by kernel_rfl)) hHeld (by simp only [Act.put, sA_, sB_, sC_]; rfl) ?_
    refine pp_ 1 (some 61) (Ra_ [2, 6]) (h := ?_)
    refine pp_ 2 (some 62) (Ra_ [3, 5]) (h := ?_)
    refine pp_ 3 (some 63) (Ra_ [4, 4]) (h := ?_)
    refine take_ (i := 4) (N := some 64) (Ra_ [5, 3]) rfl rfl (by kernel_rfl) (fun _ _ _ h => h) (Or.inl ⟨by rfl, by rintro w' ⟨_, s0⟩; go_simp; with_reducible rfl⟩) hHeld (by simp only [Act.put, sA_, sB_, sC_]; rfl) ?_
    refine pp_ 6 (some 66) (Ra_ [5, 1, 1, 1]) (h := ?_)
    refine one_ (i := 5) (N := some 65) (Ra_ [7, 1]) rfl rfl (by kernel_rfl) (by decide) (fun K hK => ?_)
    refine goes_ Try.func24 (by kernel_rfl) rfl #[.agg #[.string su, .string no, .slice A1 sl.length n1], .string x] (by rfl) rfl rfl (by (try simp only [List.map_toArray, List.map_cons, List.map_nil]); first | done | rfl) ?_
    refine (strongroomref27_Proof.calls kp su no A1 n1 sl x (pf x) _ (Kd.C_below HSP.out (Below.refl wr.heap.size wr).drew) HSB.out.1 HPK.out).mono ?_
    rintro e w7 ⟨rfl, hb7⟩
    refine ⟨_, rfl, ?_⟩
    have hW7 : Below w5.heap.size w5 w7 := HWR.out.trans (((Below.refl wr.heap.size wr).drew.trans hb7).mono HWR.out.size)
    have HW7 := Lib.hid hW7
    refine hK.out _ _ ⟨hHeld.1.below hb7 hHeld.1.lt, (hb7.cell (World.block_lt_of_cell? _ _ hHeld.2)).trans hHeld.2⟩ (fun hHeld => ?_)
    clear hb7 hW7
    by_cases heq : (pf x).toList = answer.toList
    case neg =>
      have hne0 : ((pf x).toList == answer.toList) = false := beq_eq_false_iff_ne.mpr heq
      have hne1 : ((pf x).toList != answer.toList) = true := bne_iff_ne.mpr heq
      have HNQ := Lib.hid heq
      clear heq
      refine pp_ 7 (some 67) (Ra_ [8]) (h := ?_)
      refine done_ (by kernel_rfl) ?_
      clear hHeld hK
      go_wp2_with fail
      go_roundw
      case rel =>
        refine ⟨m + 1, by go_num, by omega, fun i hi => ?_, HW7.out⟩
        by_cases h_ : i = m
        · subst h_; rw [← HXM.out]; exact HNQ.out
        · exact HNE.out i (by omega)
      case measure => simp [intOf]; omega
    have he0 : ((pf x).toList == answer.toList) = true := beq_iff_eq.mpr heq
    have he1 : ((pf x).toList != answer.toList) = false := bne_eq_false_iff_eq.mpr heq
    have hR0 := HM.out.2 m (by omega) (by rw [← HXM.out]; exact heq) HNE.out
    clear heq
    refine pp_ 7 (some 67) (Ra_ [8]) (h := ?_)
    refine done_ (by kernel_rfl) ?_
    clear hHeld hK hxc hCw
    have hS7 := HS5.out.below HW7.out HS5.out.lt
    have hB7 := HB5.out.below HW7.out HB5.out.lt
    have hR7 := HR5.out.below HW7.out HR5.out.lt
    have hX7 := HX5.out.below HW7.out HX5.out.lt
    have s6 := hS7.cell 6
    have HB7 := Lib.hid hB7
    have HR7 := Lib.hid hR7
    by_cases h8 : tk.length = 8
    · have h8' : (tk.length : Int) = 8 := by omega
      rw [if_pos h8] at hR0
      have HRR := Lib.hid hR0
      have hXs := rowS (b := w.heap.size + 1) (ys := ys) hX7 (by omega)
      have x0 := hXs.cell 0
      have x1 := hXs.cell 1
      have z0 := hXs.frozen 0
      have z1 := hXs.frozen 1
      have hlx := hX7.lt
      clear hR0 hS7 hB7 hR7 hX7 hXs
      go_wp2_with (first
        | ((with_reducible refine wl_load90 ?zz_hg ?_ ?zz_ho ?_ ?zz_hx ?_ ?zz_hb ?zz_hz ?_); (case zz_ho => exact rfl); (case zz_hx => exact rfl); (case zz_hb => with_reducible exact HB7.out); (case zz_hg => exact rfl); (case zz_hz => exact HY.out.2.1))
        | ((with_reducible refine wl_store90 ?zz_hg ?_ ?_ ?zz_ho ?_ ?zz_hx ?_ ?zz_hy ?_ ?zz_hb ?zz_yz ?zz_hz ?zz_h1 ?_); (case zz_ho => exact rfl); (case zz_hx => exact rfl); (case zz_hy => exact rfl); (case zz_hb => with_reducible exact HR7.out); (case zz_hg => exact rfl); (case zz_yz => exact zero90); (case zz_hz => exact HY.out.2.1); (case zz_h1 => exact HY.out.2.2.1)))
      refine FIN.out _ HW7.out ?_ ?_ _ ?_ ?_ ?_ ?_
      · rw [HRR.out]
      · rw [HRR.out]; decide
      · rfl
      · rfl
      · rw [HRR.out]; rfl
      · rfl
    rw [if_neg h8] at hR0
    have HRR := Lib.hid hR0
    have h8' : ¬ (tk.length : Int) = 8 := by omega
    have hX7h := Lib.hid hX7
    have HS7 := Lib.hid hS7
    have HTK := Lib.hid (Kd.R_reads' (Kd.R_below HV5.out HW7.out)).2.2
    clear hR0 hS7 hB7 hR7 hX7
    go_wp2_with ((with_reducible refine gate_builtin (b := .append) (xs := #[.tmp 74, .tmp 76]) rfl ?_); at_builtin; refine Kd.R_append_rows k74 (w0 := w7) w7.heap.size rfl (.tmp 74) (.tmp 76) 77 74 (.agg #[.string ⟨#[]⟩, .int .i64 0]) 24 rfl Try.underlying77 info74 rfl (by decide) (by omega) (.slice none 0 0) [] tk _ _ _ (fun _ => True) (fun _ => False) rfl rfl ?aO ?aR (fun _ _ h => h) (fun _ h => h.elim) ?aF ?aB ?aS ?aL ?_; (case aR => first | exact HTK.out | exact Kd.C_drew HTK.out); (case aB => first | exact Below.refl _ _ | exact (Below.refl w7.heap.size w7).drew); (case aF => exact (fun _ _ => trivial)); (case aO => exact Kd.R_nil _ _ _ _ _); (case aS => exact Nat.le_refl _); (case aL => simp; omega); intro v9 w9 ho9 hb9 hg9 hat9)
    simp only [List.nil_append] at ho9
    obtain ⟨A9, c9, rfl⟩ := Kd.R_slice ho9
    have hno : ∀ q, q < w7.heap.size → some q ≠ (Value.slice A9 tk.length c9).ownBlock := fun q hq e => by
      rcases hat9 with h_ | ⟨b, h_, hb_⟩
      · rw [h_] at e
        simp [Value.ownBlock] at e
      · rw [h_] at e
        injection e with e
        omega
    have HB9 := Lib.hid (HB7.out.below hb9 HB7.out.lt)
    have HR9 := Lib.hid (HR7.out.below hb9 HR7.out.lt)
    have HX9 := Lib.hid (hX7h.out.below hb9 hX7h.out.lt)
    have HNO := Lib.hid (And.intro (hno _ HB7.out.lt) (And.intro (hno _ HR7.out.lt) (hno _ hX7h.out.lt)))
    have HL9 := Lib.hid hb9
    have hL9 : Below w.heap.size w w9 := HL5.out.trans ((HW7.out.mono HL5.out.size).trans (hb9.mono (Nat.le_trans HL5.out.size HW7.out.size)))
    have HLW := Lib.hid hL9
    have HV9 := Lib.hid (show Kd.R k74 74 w9.drew 0 (fun k => w7.heap.size ≤ k) (.slice A9 tk.length c9) tk from Kd.R_drew (Kd.R_mono (Kd.R_lower (Kd.R_bound ho9) (Nat.zero_le _)) (fun k hk => hk.2.1)))
    obtain ⟨ad3, rfl, hy0, hy1⟩ := at_T74 (Kd.C_below HXY.out.2 hL9) (m : Int) (by omega) (by omega)
    simp only [Int.toNat_natCast] at hy0 hy1
    have hmy : (m : Int) < ns.length := by omega
    have hltB := HB9.out.lt
    have v1 : IntKind.i64.wrap (t - 1) = t - 1 := by rw [IntKind.wrap_i64]; go_num
    have v2 : 0 ≤ t - 1 := by omega
    have v3 : t - 1 < 8 := by omega
    have v4 : s < 4 := by omega
    have v5 : (t - 1).toNat * 28 + s.toNat * 7 = o := by omega
    clear ho9 hb9 hg9 hat9 hno hL9 s6
    go_region_law (refine Kd.R_append_step k74 (w0 := w9.drew) (W := w9.drew) 0 (by rfl) (.tmp 81) (.tmp 86) 77 74 (.agg #[.string ⟨#[]⟩, .int .i64 0]) 24 rfl Try.underlying77 info74 rfl (by decide) (by decide) (.slice A9 tk.length c9) tk (rd_T74 ns (m : Int)) [.string (rd_T74 ns (m : Int)).f0, .int .i64 (rd_T74 ns (m : Int)).f1] (fun k => w7.heap.size ≤ k) (fun _ => False) (by rfl) (by rfl) (k74_mkM _ _ _ _) (fun _ h => h.elim) (fun k hk => Nat.le_trans HL9.out.size hk) HV9.out (Below.refl _ _) (Nat.zero_le _) (by omega) ?_; intro v10 w10 hr10 hb10 hg10 hat10; obtain ⟨A10, c10, rfl⟩ := Kd.R_slice hr10; have hB10 : Blk w10 w.heap.size 90 ys := (HB9.out.drew).grown hg10 HNO.out.1; have hR10 : Blk w10 (w.heap.size + 1) 90 Try.zeroCells90 := (HR9.out.drew).grown hg10 HNO.out.2.1; have hX10 : Blk w10 (w.heap.size + 1 + 1) 74 #[.string ⟨#[]⟩, .int .i64 0] := (HX9.out.drew).grown hg10 HNO.out.2.2; have p6 := hB10.frozen (o + 6); have q6' : w10.cell? ⟨w.heap.size, o + 6, none⟩ = some (.slice A6 tk.length n6) := (hB10.cell (o + 6)).trans HY.out.1.c6; have HB10 := Lib.hid hB10; have HR10 := Lib.hid hR10; have HX10 := Lib.hid hX10; have HO10 := Lib.hid hr10; have HG10 := Lib.hid hb10; have HGR := Lib.hid hg10; clear hB10 hR10 hX10 hr10 hb10 hg10 hat10 hy0 hy1)
    all_goals
      refine abs_then ?_
      intro w11 hw11
      have hB11 : Blk w11 w.heap.size 90 (ys.setIfInBounds (o + 6) (.slice A10 (tk.length + 1) c10)) := by rw [hw11]; exact HB10.out.set_ _ _
      have hR11 : Blk w11 (w.heap.size + 1) 90 Try.zeroCells90 := by rw [hw11]; exact HR10.out.far (by simp) _
      have hX11 : Blk w11 (w.heap.size + 1 + 1) 74 #[.string ⟨#[]⟩, .int .i64 0] := by rw [hw11]; exact HX10.out.far (by simp; omega) _
      have hL11 : Below w.heap.size w w11 := by
        rw [hw11]
        refine below_set ?_ (Nat.le_refl _) _ _
        have h1 : Below w.heap.size w w9.drew := HLW.out.drew
        exact h1.trans ⟨HG10.out.os, HG10.out.tape, HG10.out.output, HG10.out.size, fun k hk => HGR.out.block k (Nat.lt_of_lt_of_le hk h1.size) (fun e => by
          have h2 := HV9.out.1 k e.symm
          have h3 := HW7.out.size
          have h4 := HL5.out.size
          omega)⟩
      have hB7lt := HB7.out.lt
      have hO11 : Kd.R k74 74 w11 0 (fun k => w7.heap.size ≤ k) (.slice A10 (tk.length + 1) c10) (tk ++ [rd_T74 ns (m : Int)]) := by
        rw [hw11]
        have h_ := Kd.R_far HO10.out (p := ⟨w.heap.size, o + 6, none⟩) (fun k hk => by
          show k ≠ w.heap.size
          omega) (.slice A10 (tk.length + 1) c10)
        rw [List.length_append] at h_
        exact h_
      have ids : ∀ W : World, Below w.heap.size w W → W.cell? (ad3.add (m * 2)) = some (.string (rd_T74 ns (m : Int)).f0) ∧ W.cell? ⟨(ad3.add (m * 2)).block, (ad3.add (m * 2)).off + 1, none⟩ = some (.int .i64 (rd_T74 ns (m : Int)).f1) := fun W hW => by
        obtain ⟨ad', e3, i0, i1⟩ := at_T74 (Kd.C_below HXY.out.2 hW) (m : Int) (by omega) (by omega)
        cases e3
        simp only [Int.toNat_natCast] at i0 i1
        exact ⟨i0, i1⟩
      have hz7 := HY.out.1.set6 (.slice A10 (tk.length + 1) c10)
      have hzz : (ys.setIfInBounds (o + 6) (.slice A10 (tk.length + 1) c10)).size = 224 := by simp; exact HY.out.2.1
      have hz1 := one_set HY.out.2.2.1 (o + 6) (.slice A10 (tk.length + 1) c10) rfl
      have hzf : ∀ i, ¬ (o ≤ i ∧ i < o + 7) → (ys.setIfInBounds (o + 6) (.slice A10 (tk.length + 1) c10))[i]? = xs[i]? := fun i hi => by rw [far7 hi (by omega)]; exact HY.out.2.2.2 i hi
      generalize ys.setIfInBounds (o + 6) (.slice A10 (tk.length + 1) c10) = zs at hB11 hz7 hzz hz1 hzf
      have hrl : R = (0, rd_T74 ns (m : Int)) := HRR.out
      have HB11 := Lib.hid hB11
      have HR11 := Lib.hid hR11
      have HX11 := Lib.hid hX11
      have HL11 := Lib.hid hL11
      have HO11 := Lib.hid hO11
      have HID := Lib.hid ids
      have HZZ := Lib.hid (And.intro hz7 (And.intro hzz (And.intro hz1 hzf)))
      have HRL := Lib.hid hrl
      clear hw11 hB11 hR11 hX11 hL11 hO11 ids hz7 hzz hz1 hzf hrl q6' p6
      go_wp2_with fail
      have i0 := HID.out w11.drew HL11.out.drew
      refine start_ (n := 8) (S := (fun w' => Blk w' w.heap.size 90 zs ∧ w'.cell? (ad3.add (m * 2)) = some (.string (rd_T74 ns (m : Int)).f0) ∧ w'.cell? ⟨(ad3.add (m * 2)).block, (ad3.add (m * 2)).off + 1, none⟩ = some (.int .i64 (rd_T74 ns (m : Int)).f1))) (ds := [6]) (Ra_ [0, 8]) (by kernel_rfl) rfl rfl ⟨HB11.out.drew, i0.1, i0.2⟩ (fun hHeld => ?_)
      refine take_ (i := 0) (N := some 91) (Ra_ [1, 7]) rfl rfl (by kernel_rfl) (fun _ _ _ h => h) (yields_row rfl _ _ rfl w.heap.size rfl _ zs _ (fun _ h => h.1) Try.underlying90 rfl (by rw [HZZ.out.2.1]; exact info90)) hHeld (by simp only [Act.put, sA_, sB_, sC_]; rfl) ?_
      refine pp_ 1 (some 92) (Ra_ [2, 6]) (h := ?_)
      refine pp_ 2 (some 93) (Ra_ [3, 5]) (h := ?_)
      refine pp_ 3 (some 94) (Ra_ [4, 4]) (h := ?_)
      refine take_ (i := 4) (N := some 95) (Ra_ [5, 3]) rfl rfl (by kernel_rfl) (fun _ _ _ h => h) (Or.inl ⟨by rfl, by rintro w' ⟨_, s0, s1⟩; go_simp; with_reducible rfl⟩) hHeld (by simp only [Act.put, sA_, sB_, sC_]; rfl) ?_
      refine one_ (i := 5) (N := none) (Ra_ [6, 2]) rfl rfl (by kernel_rfl) (by decide) (fun K hK => ?_)
      rw [if_pos (by rfl)]
      refine wp_store_row 90 _ _ rfl (w.heap.size + 1) zs rfl rfl _ _ HR11.out.drew (by rw [HZZ.out.2.1]; exact info90) (by rw [zero90, HZZ.out.2.1]) HZZ.out.2.2.1 ?_
      have hL12 : Below w.heap.size w (w11.drew.setRow (w.heap.size + 1) zs) := below_setRow HL11.out.drew (by omega) _
      have hR12 : Blk (w11.drew.setRow (w.heap.size + 1) zs) (w.heap.size + 1) 90 zs := blk_row HR11.out.drew (by rw [zero90, HZZ.out.2.1])
      have hX12 : Blk (w11.drew.setRow (w.heap.size + 1) zs) (w.heap.size + 1 + 1) 74 #[.string ⟨#[]⟩, .int .i64 0] := rowS HX11.out.drew (by omega)
      have i1 := HID.out _ hL12
      refine hK.out _ _ ⟨rowS HB11.out.drew (by omega), i1.1, i1.2⟩ (fun hHeld => ?_)
      refine last_ (i := 6) (N := none) (Ra_ [7, 1]) rfl rfl (by kernel_rfl) (by decide) (fun K hK => ?_)
      rw [if_pos (by rfl)]
      refine wp_store_row 74 _ _ rfl (w.heap.size + 1 + 1) #[.string (rd_T74 ns (m : Int)).f0, .int .i64 (rd_T74 ns (m : Int)).f1] rfl rfl _ _ hX12 (by kernel_rfl) rfl (by simp [Value.oneCell']) ?_
      refine hK.out _ _ ?_
      refine pp_ 7 (some 14) (Ra_ [8]) (h := ?_)
      refine done_ (by kernel_rfl) ?_
      try go_wp2
      refine bodyPost_ret (results_cct rfl _ _ (w.heap.size + 1) (w.heap.size + 1 + 1) 90 74 zs #[.string (rd_T74 ns (m : Int)).f0, .int .i64 (rd_T74 ns (m : Int)).f1] _ _ rfl (rowS hR12 (by omega)) Try.underlying90 rfl (by rw [HZZ.out.2.1]; exact info90) rfl (blk_row hX12 rfl) Try.underlying74 rfl (by kernel_rfl)) rfl ?_
      have hlen1 : (tk ++ [rd_T74 ns (m : Int)]).length = tk.length + 1 := by simp
      refine ⟨zs, by rw [HRL.out]; rfl, below_setRow hL12 (by omega) _, HZZ.out.2.1, HZZ.out.2.2.1, HZZ.out.2.2.2, A10, c10, ?_, ?_⟩
      · rw [HRL.out, if_pos rfl, hlen1]
        exact HZZ.out.1
      · rw [HRL.out, if_pos rfl, hlen1]
        refine Kd.R_mono (Kd.R_step (Kd.R_bound HO11.out) (fun k hk _ => ?_)) (fun k hk => .inr (by have := hk.1; omega))
        have h2 := hk.1
        have hx2 := HX5.out.lt
        have hx3 := HW7.out.size
        rw [setRow_other _ _ _ _ (by omega), setRow_other _ _ _ _ (by omega)]
        rfl

end Go.Proofs.Ytgkhdpplmdkkaaa.Ds
/- The reference's prove as a contract; what the desk tells of a session. -/
namespace Go.Proofs.Ytgkhdpplmdkkaaa.Ds
open Go.RowKit Go.Proofs.YtgkhdpplmdkkaaaH.HDeskPlays Go.Proofs.YtgkhdpplmdkkaaaW.PrintWords Go.Proofs.YtgkhdpplmdkkaaaW.PrintLast Go.Proofs.YtgkhdpplmdkkaaaW.PrintMore Go.Proofs.Ytgkhdpplmdkkaaa.Dp Go.Proofs.Ytgkhdpplmdkkaaa.PureS

theorem x_prove {U : Nat → Ses} {t s : Int} (R : Int × S74) (ans : ByteArray) (ns : List S74) (cx : List ByteArray) (pf : ByteArray → ByteArray) (hl : ns.length = cx.length) (hlen : cx.length ≤ 1000) (htk : (U (ix t s)).tk.length ≤ 8)
    (hp : isP t s → (U (ix t s)).p = true → ∀ x ∈ cx, ∃ k, strongroomref27_Proof.f k (U (ix t s)).su (U (ix t s)).no (U (ix t s)).sl x = some (pf x))
    (hmiss : (∀ i, i < cx.length → (pf (cx.getD i ⟨#[]⟩)).toList ≠ ans.toList) → R = (11, z74))
    (hhit : isP t s → ∀ m, m < cx.length → (pf (cx.getD m ⟨#[]⟩)).toList = ans.toList → (∀ i, i < m → (pf (cx.getD i ⟨#[]⟩)).toList ≠ ans.toList) → R = if (U (ix t s)).tk.length = 8 then (5, z74) else (0, ns.getD m z74)) : XProve U t s R ans ns cx := by
  by_cases ho : isP t s ∧ (U (ix t s)).p = true
  case neg => exact xprove_shut (fun hi => by simpa [hi] using ho) R ans ns cx hl
  intro w xs col A3 c3 A4 c4 hX h3 hc3 h4
  obtain ⟨hp', hop⟩ := ho
  obtain ⟨A5, n5, A6, n6, h7, hs, ht⟩ := hX.2.2 _ (ix_lt hp')
  rw [hop] at h7
  have hr := Kd.R_reads' hs
  refine (rprove_open xs t s ans _ _ _ A5 n5 _ _ _ A6 n6 (fun k => col k = 0) cx A4 c4 ns A3 c3 pf R (7 * ix t s) w hp' ix_o hX.1 hX.2.1 h7 hr.2.1 hr.2.2 h4 h3 hl hlen htk ht (hp hp' hop) hmiss (hhit hp')).mono ?_
  rintro e w' ⟨ys, rfl, hb, hz, h1, hf, A6', n6', h7', hr'⟩
  rw [prvR, if_pos hp', if_pos hop, prvV, if_pos hp', if_pos hop]
  refine ⟨ys, rfl, hb, hX.upd hb hz h1 hf ⟨none, 0, A6', n6', h7', Kd.R_nil _ _ _ _ _, Kd.R_mono hr' (fun k hk => ?_)⟩⟩
  show colN col w.heap.size 0 k = 0
  unfold colN
  split
  · rcases hk with h | h
    · exact h
    · omega
  · rfl
theorem provesV {V : Nat → Ses} (hV : Sts V) (t s : Int) (cx : List ByteArray) (h3 : cx.length ≤ 12) : Proves V t s cx := fun ans ns pf R hl hp hm hh => x_prove R ans ns cx pf hl (by omega) (hV _).tk hp hm hh

theorem tickets_no (g : Nat) (t s : Int) (w : World) (h : ¬ isP t s) :
    Calls Try.prog 49 #[.pointer (some ⟨g, 0, none⟩), .int .i64 t, .int .i64 s] w fun e w' => e = .returned (.slice none 0 0) ∧ w = w' := by
  have H := Lib.hid h
  clear h
  go_enter Try.func49, Try.ntmps49
  go_wp2_with (go_at_call 51; refine (find_no g t s _ H.out).mono ?_; rintro e w' ⟨rfl, rfl⟩)
  go_ret
  exact ⟨rfl, rfl⟩

set_option maxHeartbeats 1000000 in
theorem tickets_yes (g : Nat) (cs : Array Value) (T : TypeId) (t s : Int) (o : Nat) (tk : List S74) (A6 : Option Addr) (n6 : Nat) (w : World) (h : isP t s) (ho : (t.toNat - 1) * 28 + s.toNat * 7 = o) (hb : Blk w g T cs) (hs : cs[o + 6]? = some (.slice A6 tk.length n6)) (hC : Kd.C k74 w A6 tk.length tk) (h8 : tk.length ≤ 8) :
    Calls Try.prog 49 #[.pointer (some ⟨g, 0, none⟩), .int .i64 t, .int .i64 s] w fun e w' => ∃ v, e = .returned v ∧ Below w.heap.size w w' ∧ Kd.R k74 74 w' w.heap.size (fun _ => True) v tk := by
  have HB := Lib.hid hb
  have HS := Lib.hid hs
  have HC := Lib.hid hC
  have H := Lib.hid (And.intro h ho)
  clear hb hs hC h ho
  go_enter Try.func49, Try.ntmps49
  go_wp2_with (first
    | (go_at_call 51; refine (find_at g t s o _ H.out.1 H.out.2).mono ?_; rintro e w' ⟨rfl, rfl⟩)
    | ((with_reducible refine gate_dst (N := 14) rfl ?_); refine Kd.R_lit k74 _ 74 ?hg (N := 14) ?hd (xs := ([] : List S74)) (inner := []) (ok := fun _ => True) (okp := fun _ => True) ?hr ?hp (fun _ hk => hk) trivial (Below.refl _ _) (Nat.le_refl _) (by simp) ?_; (case hd => rfl); (case hg => rfl); (case hr => first | (go_simp; done) | (go_simp; rfl)); (case hp => exact (Reps.none _ _)); intro v1 w5 ho6 hb5 hg_ hnew_; clear hg_ hnew_; have q6 := ((HB.out.below hb5 HB.out.lt).cell (o + 6)).trans HS.out; have HO6 := Lib.hid ho6; have HB5 := Lib.hid hb5; have hlt5 := (HB.out.below hb5 HB.out.lt).lt; clear ho6 hb5)
    | ((with_reducible refine gate_builtin (b := .append) (xs := #[.tmp 14, .tmp 18]) rfl ?_); at_builtin; refine Kd.R_append_rows k74 (w0 := w) w.heap.size rfl (.tmp 14) (.tmp 18) 77 74 (.agg #[.string ⟨#[]⟩, .int .i64 0]) 24 rfl Try.underlying77 info74 rfl (by decide) (by omega) v1 [] tk _ _ _ (fun _ => True) (fun _ => False) rfl rfl ?aO ?aR (fun _ _ h => h) (fun _ h => h.elim) ?aF ?aB ?aS ?aL ?_; (case aR => first | exact Kd.C_below HC.out HB5.out | exact Kd.C_drew (Kd.C_below HC.out HB5.out)); (case aB => first | exact HB5.out | exact HB5.out.drew); (case aF => exact (fun _ _ => trivial)); (case aO => first | exact HO6.out | exact Kd.R_lower HO6.out (Nat.le_refl _) | exact Kd.R_drew HO6.out); (case aS => exact HB5.out.size); (case aL => simp; omega); intro v9 w9 ho9 hb9 hg9 hat9))
  go_ret
  simp only [List.nil_append] at ho9
  exact ⟨_, rfl, hb9, ho9⟩
def tktL (V : Nat → Ses) (t s : Int) : List S74 := if isP t s then (V (ix t s)).tk else []
theorem d_tickets {w : World} {g : Nat} {cs : Array Value} {col : Nat → Nat} {V : Nat → Ses} (h : DI w g cs col V) (t s : Int) (h8 : (V (ix t s)).tk.length ≤ 8) :
    Calls Try.prog 49 #[.pointer (some ⟨g, 0, none⟩), .int .i64 t, .int .i64 s] w fun e w' => ∃ v, e = .returned v ∧ Below w.heap.size w w' ∧ Kd.R k74 74 w' w.heap.size (fun _ => True) v (tktL V t s) := by
  by_cases hi : isP t s
  · obtain ⟨A5, n5, A6, n6, h7, hs, ht⟩ := h.2.2.2 _ (ix_lt hi)
    rw [tktL, if_pos hi]
    exact tickets_yes g cs _ t s (7 * ix t s) _ A6 n6 w hi ix_o h.1 h7.c6 (Kd.R_reads' ht).2.2 h8
  · refine (tickets_no g t s w hi).mono ?_
    rintro e w' ⟨rfl, rfl⟩
    rw [tktL, if_neg hi]
    exact ⟨_, rfl, Below.refl _ _, Kd.R_nil _ _ _ _ _⟩
def lstR (V : Nat → Ses) (t s : Int) : Int := if isP t s then (V (ix t s)).l else 0
theorem d_last {w : World} {g : Nat} {cs : Array Value} {col : Nat → Nat} {V : Nat → Ses} (h : DI w g cs col V) (t s : Int) :
    Calls Try.prog 81 #[.pointer (some ⟨g, 0, none⟩), .int .i64 t, .int .i64 s] w fun e w' => e = .returned (.int .i64 (lstR V t s)) ∧ w = w' := by
  by_cases hi : isP t s
  · obtain ⟨A5, n5, A6, n6, h7, hs, ht⟩ := h.2.2.2 _ (ix_lt hi)
    rw [lstR, if_pos hi]
    exact last_yes g cs _ t s (7 * ix t s) _ w hi ix_o h.1 h7.c0
  · rw [lstR, if_neg hi]
    exact last_no g t s w hi
theorem d_sessions {w : World} {g : Nat} {cs : Array Value} {col : Nat → Nat} {V : Nat → Ses} (h : DI w g cs col V) (t : Int) :
    Calls Try.prog 48 #[.pointer (some ⟨g, 0, none⟩), .int .i64 t] w fun e w' =>
      ∃ v, e = .returned v ∧ Kd.R (Kd.int .i64) 3 w' w.heap.size (fun _ => True) v (fgtL V t) ∧ Below w.heap.size w w' := by
  by_cases ht : 1 ≤ t ∧ t ≤ 8
  · rw [fgtL, if_pos ht]
    exact sessions_yes g cs _ t (fgtB V t) w ht.1 ht.2 h.1 (d_has h t ht)
  · refine (sessions_no (some ⟨g, 0, none⟩) t w (fun s w => find_no g t s w (fun h_ => ht ⟨h_.1, h_.2.1⟩))).mono ?_
    rintro e w' ⟨rfl, hb⟩
    rw [fgtL, if_neg ht]
    exact ⟨_, rfl, Kd.R_nil _ _ _ _ _, hb⟩

end Go.Proofs.Ytgkhdpplmdkkaaa.Ds
/- alike: both desks tell the same of a session. -/
namespace Go.Proofs.Ytgkhdpplmdkkaaa.Ds
open Go.RowKit Go.Proofs.YtgkhdpplmdkkaaaH.HDeskPlays Go.Proofs.YtgkhdpplmdkkaaaW.PrintWords Go.Proofs.YtgkhdpplmdkkaaaW.PrintLast Go.Proofs.YtgkhdpplmdkkaaaW.PrintMore Go.Proofs.Ytgkhdpplmdkkaaa.Dp Go.Proofs.Ytgkhdpplmdkkaaa.PureS

theorem sameInts_ok (l : List Int) (hl : l.length < 1000) : ∃ k, strongroomref27_SameInts.f k l l = some true := by
  have loop : ∀ d i, i + d = l.length → Ev (fun k => strongroomref27_SameInts.l0 k l l (i : Int)) true := by
    intro d
    induction d with
    | zero =>
      intro i hi
      refine Ev.step (f := fun _ => some true) (fun k => ?_) (Ev.now _)
      simp only [strongroomref27_SameInts.l0]
      rw [if_neg (by omega)]
    | succ d ih =>
      intro i hi
      refine Ev.step (fun k => ?_) (ih (i + 1) (by omega))
      simp only [strongroomref27_SameInts.l0]
      rw [if_pos (by omega), if_pos (by omega), if_pos (by omega), if_pos trivial, show wrap64 ((i : Int) + 1) = ((i + 1 : Nat) : Int) by unfold wrap64; omega]
  obtain ⟨k, hk⟩ := (loop l.length 0 (by omega)).rounds
  refine ⟨k, ?_⟩
  simp only [strongroomref27_SameInts.f]
  rw [if_pos trivial]
  exact hk
theorem fgtL_len (U : Nat → Ses) (t : Int) : (fgtL U t).length ≤ 4 := by
  unfold fgtL
  split
  · exact hasAt_len _ _
  · simp
theorem opn_is {V : Nat → Ses} {t s : Int} (hV : SOk (V (ix t s))) (hp : isP t s) : opnR V t s = ((V (ix t s)).su, (V (ix t s)).no, (V (ix t s)).sl, (V (ix t s)).p) := by
  unfold opnR
  by_cases h : (V (ix t s)).p = true
  · rw [if_pos ⟨hp, h⟩, h]
  · have h' : (V (ix t s)).p = false := by simpa using h
    obtain ⟨h1, h2, h3⟩ := hV.c h'
    rw [if_neg (fun h_ => h h_.2), h1, h2, h3, h']
/-- what the loads of alike need -/
def SAl (b87 b36 b90 : Nat) (c87 c36 xs : Array Value) (l : Int) (p : Bool) (su no : ByteArray) (v5 v6 : Value) (w' : World) : Prop := (Blk w' b87 87 c87 ∧ Blk w' b36 36 c36 ∧ Blk w' b90 90 xs) ∧ w'.cell? ⟨b87, 0, none⟩ = some (.int .i64 l) ∧ w'.cell? ⟨b87, 2, none⟩ = some (.bool p) ∧ w'.cell? ⟨b87, 3, none⟩ = some (.string su) ∧ w'.cell? ⟨b87, 4, none⟩ = some (.string no) ∧ w'.cell? ⟨b87, 5, none⟩ = some v5 ∧ w'.cell? ⟨b87, 6, none⟩ = some v6
theorem sal {b87 b36 b90 : Nat} {c87 c36 xs : Array Value} {l : Int} {p : Bool} {su no : ByteArray} {v5 v6 : Value} {w' : World} (h1 : Blk w' b87 87 c87) (h2 : Blk w' b36 36 c36) (h3 : Blk w' b90 90 xs) (e0 : c87[0]? = some (.int .i64 l)) (e2 : c87[2]? = some (.bool p)) (e3 : c87[3]? = some (.string su)) (e4 : c87[4]? = some (.string no)) (e5 : c87[5]? = some v5) (e6 : c87[6]? = some v6) : SAl b87 b36 b90 c87 c36 xs l p su no v5 v6 w' :=
  ⟨⟨h1, h2, h3⟩, (h1.cell 0).trans e0, (h1.cell 2).trans e2, (h1.cell 3).trans e3, (h1.cell 4).trans e4, (h1.cell 5).trans e5, (h1.cell 6).trans e6⟩
theorem SAl.below {b87 b36 b90 : Nat} {c87 c36 xs : Array Value} {l : Int} {p : Bool} {su no : ByteArray} {v5 v6 : Value} {w1 w2 : World} (h : SAl b87 b36 b90 c87 c36 xs l p su no v5 v6 w1) (hb : Below w1.heap.size w1 w2) : SAl b87 b36 b90 c87 c36 xs l p su no v5 v6 w2 := by
  obtain ⟨⟨h1, h2, h3⟩, a, b, c, d, e, f⟩ := h
  exact ⟨⟨h1.below hb h1.lt, h2.below hb h2.lt, h3.below hb h3.lt⟩, (hb.cell (World.block_lt_of_cell? _ _ a)).trans a, (hb.cell (World.block_lt_of_cell? _ _ b)).trans b, (hb.cell (World.block_lt_of_cell? _ _ c)).trans c, (hb.cell (World.block_lt_of_cell? _ _ d)).trans d, (hb.cell (World.block_lt_of_cell? _ _ e)).trans e, (hb.cell (World.block_lt_of_cell? _ _ f)).trans f⟩

set_option maxRecDepth 100000 in
set_option maxHeartbeats 4000000 in
theorem alike_ok {w : World} {g : Nat} {cs xs : Array Value} {col : Nat → Nat} {V : Nat → Ses} (h : DI w g cs col V) (hx : XI w xs col V) (hV : Sts V) (t s : Int) :
    Calls Try.prog 50 #[.pointer (some ⟨g, 0, none⟩), .agg xs, .int .i64 t, .int .i64 s] w fun e w' => e = .returned (.bool true) ∧ Below w.heap.size w w' := by
  have hba := below_allocW w (.cells xs 90)
  have HZ := Lib.hid (And.intro hx.1 hx.2.1)
  have HD := Lib.hid (h.below hba)
  have HX := Lib.hid (hx.below hba)
  have HS := Lib.hid hV
  have HB := Lib.hid (show Blk (w.alloc (.cells xs 90)) w.heap.size 90 xs from Blk.new _ _ _)
  clear hba h hx hV
  go_enter Try.func50, Try.ntmps50
  go_wp2_with fail
  refine (d_open HD.out t s (HS.out _).n).mono ?_
  rintro e w2 ⟨v, rfl, hb2, hr2⟩
  by_cases hp : isP t s
  case neg =>
    have ho : opnR V t s = (⟨#[]⟩, ⟨#[]⟩, [], false) := if_neg (fun h_ => hp h_.1)
    rw [ho] at hr2 ⊢
    have ht : tktL V t s = [] := if_neg hp
    have hlst : lstR V t s = 0 := if_neg hp
    obtain ⟨A2, m2, rfl⟩ := Kd.R_slice hr2
    have HD2 := Lib.hid (HD.out.below hb2)
    have HL2 := Lib.hid ((below_allocW w (.cells xs 90)).trans (hb2.mono (below_allocW w (.cells xs 90)).size))
    have HT := Lib.hid (And.intro ht hlst)
    have HP := Lib.hid hp
    clear ho ht hlst hr2 hb2 hp
    simp only
    go_wp2_with fail
    refine (d_tickets (HD2.out.below (below_allocW w2 _)) t s (HS.out _).tk).mono ?_
    rintro e w4 ⟨v4, rfl, hb4, hr4⟩
    rw [HT.out.1] at hr4
    obtain ⟨A4, m4, rfl⟩ := Kd.R_slice hr4
    have HD4 := Lib.hid ((HD2.out.below (below_allocW w2 _)).below hb4)
    have HL4 := Lib.hid (HL2.out.trans (((below_allocW w2 _).mono HL2.out.size).trans (hb4.mono (Nat.le_trans HL2.out.size (below_allocW w2 _).size))))
    clear hr4 hb4
    go_wp2_with (first
      | (go_at_call 15; refine (is_no _ _ _ HP.out).mono ?_; rintro e w' ⟨rfl, rfl⟩)
      | (go_at_call 81; refine (d_last HD4.out t s).mono ?_; rintro e w' ⟨rfl, rfl⟩; rw [HT.out.2]))
    go_ret
    exact ⟨rfl, HL4.out⟩
  have hi := hp
  obtain ⟨A5, n5, A6, n6, h7, hs5, ht6⟩ := HX.out.2.2 _ (ix_lt hp)
  have hsok := HS.out (ix t s)
  rw [opn_is hsok hp] at hr2 ⊢
  have ht : tktL V t s = (V (ix t s)).tk := if_pos hp
  have hlst : lstR V t s = (V (ix t s)).l := if_pos hp
  have ho : (t.toNat - 1) * 28 + s.toNat * 7 = 7 * ix t s := ix_o
  have hoz : 7 * ix t s + 6 < 224 := by have := ix_lt hp; omega
  have h8 := hsok.tk
  have hn4 := hsok.n
  have hdt : ∀ (W : World) (ct : Array Value) (cl : Nat → Nat), DI W g ct cl V → Calls Try.prog 49 #[.pointer (some ⟨g, 0, none⟩), .int .i64 t, .int .i64 s] W fun e w' => ∃ v, e = .returned v ∧ Below W.heap.size W w' ∧ Kd.R k74 74 w' W.heap.size (fun _ => True) v (V (ix t s)).tk := fun _ _ _ hD => by
    have h_ := d_tickets hD t s h8
    rw [ht] at h_
    exact h_
  have hdl : ∀ (W : World) (ct : Array Value) (cl : Nat → Nat), DI W g ct cl V → Calls Try.prog 81 #[.pointer (some ⟨g, 0, none⟩), .int .i64 t, .int .i64 s] W fun e w' => e = .returned (.int .i64 (V (ix t s)).l) ∧ W = w' := fun _ _ _ hD => by
    have h_ := d_last hD t s
    rw [hlst] at h_
    exact h_
  clear hsok ht hlst
  generalize V (ix t s) = x at h7 hs5 ht6 hr2 h8 hn4 hdt hdl ⊢
  obtain ⟨l, r, p, su, no, sl, tk⟩ := x
  simp only at h7 hs5 ht6 hr2 h8 hn4 hdt hdl ⊢
  generalize 7 * ix t s = o at ho h7 hoz
  obtain ⟨A2, m2, rfl⟩ := Kd.R_slice hr2
  have HDT := Lib.hid hdt
  have HDL := Lib.hid hdl
  have HD2 := Lib.hid (HD.out.below hb2)
  have HX2 := Lib.hid (HX.out.below hb2)
  have HB2 := Lib.hid (HB.out.below hb2 HB.out.lt)
  have HL2 := Lib.hid ((below_allocW w (.cells xs 90)).trans (hb2.mono (below_allocW w (.cells xs 90)).size))
  have HR2 := Lib.hid hr2
  have HSP := Lib.hid (Kd.R_below hs5 hb2)
  have HTK := Lib.hid (Kd.R_below ht6 hb2)
  have H7 := Lib.hid h7
  have HN := Lib.hid (And.intro h8 hn4)
  have HP := Lib.hid hp
  obtain ⟨g1, g2, g3, g4⟩ := hi
  clear hdt hdl hb2 hr2 hs5 ht6 h7 h8 hn4 hp
  go_wp2_with fail
  refine (HDT.out _ _ _ (HD2.out.below (below_allocW w2 _))).mono ?_
  rintro e w4 ⟨v4, rfl, hb4, hr4⟩
  obtain ⟨A4, m4, rfl⟩ := Kd.R_slice hr4
  have hb24 : Below w2.heap.size w2 w4 := (below_allocW w2 (.cells #[.string su, .string no, .slice A2 sl.length m2] 36)).trans (hb4.mono (below_allocW w2 (.cells #[.string su, .string no, .slice A2 sl.length m2] 36)).size)
  have hB4 := HB2.out.below hb24 HB2.out.lt
  have hE4 : Blk w4 w2.heap.size 36 #[.string su, .string no, .slice A2 sl.length m2] := (Blk.new w2 36 _).below hb4 (Blk.new w2 36 _).lt
  have HB4 := Lib.hid hB4
  have HE4 := Lib.hid hE4
  have HD4 := Lib.hid (HD2.out.below hb24)
  have HX4 := Lib.hid (HX2.out.below hb24)
  have HL4 := Lib.hid (HL2.out.trans (hb24.mono HL2.out.size))
  have HR24 := Lib.hid (Kd.R_below HR2.out hb24)
  have HSP4 := Lib.hid (Kd.R_below HSP.out hb24)
  have HTK4 := Lib.hid (Kd.R_below HTK.out hb24)
  have HR4 := Lib.hid hr4
  have k0 := (hB4.cell o).trans H7.out.c0
  have k1 := (hB4.cell (o + 1)).trans H7.out.c1
  have k2 := (hB4.cell (o + 2)).trans H7.out.c2
  have k3 := (hB4.cell (o + 3)).trans H7.out.c3
  have k4 := (hB4.cell (o + 4)).trans H7.out.c4
  have k5 := (hB4.cell (o + 5)).trans H7.out.c5
  have k6 := (hB4.cell (o + 6)).trans H7.out.c6
  have hltB := hB4.lt
  clear hb24 hB4 hE4 hb4 hr4 HB2 HD2 HX2 HR2 HSP HTK
  go_wp2_with (go_at_call 15; refine (is_yes _ _ _ g1 g2 g3 g4).mono ?_; rintro e w' ⟨rfl, rfl⟩)
  refine abs_world ?_
  intro w5 hw5
  have hb5 : Below w4.heap.size w4 w5 := by rw [hw5]; exact below_allocW _ _
  have hS5 : Blk w5 w4.heap.size 87 #[.int .i64 l, .string r, .bool p, .string su, .string no, .slice A5 sl.length n5, .slice A6 tk.length n6] := by rw [hw5]; exact Blk.new _ _ _
  have hE5 := HE4.out.below hb5 HE4.out.lt
  have hB5 := HB4.out.below hb5 HB4.out.lt
  have hd : Below w5.heap.size w5 w5.drew := (Below.refl w5.heap.size w5).drew
  have HD5 := Lib.hid ((HD4.out.below hb5).below hd)
  have HX5 := Lib.hid ((HX4.out.below hb5).below hd)
  have HL5 := Lib.hid ((HL4.out.trans (hb5.mono HL4.out.size)).drew)
  have HR25 := Lib.hid (Kd.R_below (Kd.R_below HR24.out hb5) hd)
  have HSP5 := Lib.hid (Kd.R_below (Kd.R_below HSP4.out hb5) hd)
  have HTK5 := Lib.hid (Kd.R_below (Kd.R_below HTK4.out hb5) hd)
  have HR45 := Lib.hid (Kd.R_below (Kd.R_below HR4.out hb5) hd)
  have hSS : SAl w4.heap.size w2.heap.size w.heap.size #[.int .i64 l, .string r, .bool p, .string su, .string no, .slice A5 sl.length n5, .slice A6 tk.length n6] #[.string su, .string no, .slice A2 sl.length m2] xs l p su no (.slice A5 sl.length n5) (.slice A6 tk.length n6) w5.drew := (sal hS5 hE5 hB5 rfl rfl rfl rfl rfl rfl).below hd
  clear hw5 hb5 hS5 hE5 hB5 hd k0 k1 k2 k3 k4 k5 k6 HB4 HE4 HD4 HX4 HL4 HR24 HSP4 HTK4 HR4 HD HX HB
  obtain ⟨ks, hsame⟩ := (same_ev su no sl (by have := HN.out.2; omega)).rounds
  obtain ⟨ki, ri, hids, hri⟩ := sameIDs_ok tk tk (by have := HN.out.1; omega)
  obtain rfl := hri rfl
  obtain ⟨kn, hints⟩ := sameInts_ok (fgtL V t) (by have := fgtL_len V t; omega)
  have HK := Lib.hid (And.intro hsame (And.intro hids hints))
  clear hsame hids hints hri
  have W0 := HL5.out
  refine start_ (n := 35) (S := SAl w4.heap.size w2.heap.size w.heap.size #[.int .i64 l, .string r, .bool p, .string su, .string no, .slice A5 sl.length n5, .slice A6 tk.length n6] #[.string su, .string no, .slice A2 sl.length m2] xs l p su no (.slice A5 sl.length n5) (.slice A6 tk.length n6)) (ds := []) (Ra_ [0, 35]) (by kernel_rfl) rfl rfl hSS (fun hHeld => ?_)
  refine pq_ 0 (some 48) (Ra_ [1, 34]) (h := ?_)
  refine pq_ 1 (some 49) (Ra_ [2, 33]) (h := ?_)
  refine pq_ 2 (some 50) (Ra_ [3, 32]) (h := ?_)
  refine pq_ 4 (some 52) (Ra_ [3, 1, 1, 30]) (h := ?_)
  refine take_ (i := 5) (N := some 53) (Ra_ [3, 1, 2, 29]) rfl rfl (by kernel_rfl) (fun _ _ _ h => h) (Or.inl ⟨by rfl, by rintro w' ⟨⟨_, _, _⟩, s0, s2, s3, s4, s5, s6⟩; go_simp; with_reducible rfl⟩) hHeld (by simp only [Act.put, sA_, sB_, sC_]; rfl) ?_
  refine one_ (i := 3) (N := some 51) (Ra_ [6, 29]) rfl rfl (by kernel_rfl) (by decide) (fun K hK => ?_)
  refine goes_ Try.func81 (by kernel_rfl) rfl #[.pointer (some ⟨g, 0, none⟩), .int .i64 t, .int .i64 s] (by rfl) rfl rfl (by (try simp only [List.map_toArray, List.map_cons, List.map_nil]); first | done | rfl) ?_
  refine (HDL.out _ _ _ HD5.out).mono ?_
  rintro e w6 ⟨rfl, rfl⟩
  refine ⟨_, rfl, ?_⟩
  refine hK.out _ _ hHeld (fun hHeld => ?_)
  refine pq_ 6 (some 54) (Ra_ [7, 28]) (h := ?_)
  refine pq_ 7 (some 55) (Ra_ [8, 27]) (h := ?_)
  refine pq_ 8 (some 56) (Ra_ [9, 26]) (h := ?_)
  refine pq_ 9 (some 57) (Ra_ [10, 25]) (h := ?_)
  refine take_ (i := 10) (N := some 58) (Ra_ [11, 24]) rfl rfl (by kernel_rfl) (fun _ _ _ h => h) (Or.inl ⟨by rfl, by rintro w' ⟨⟨_, _, _⟩, s0, s2, s3, s4, s5, s6⟩; go_simp; with_reducible rfl⟩) hHeld (by simp only [Act.put, sA_, sB_, sC_]; rfl) ?_
  refine pq_ 11 (some 59) (Ra_ [12, 23]) (h := ?_)
  refine pq_ 12 (some 60) (Ra_ [13, 22]) (h := ?_)
  refine pq_ 13 (some 61) (Ra_ [14, 21]) (h := ?_)
  refine pq_ 15 (some 63) (Ra_ [14, 1, 1, 19]) (h := ?_)
  refine take_ (i := 14) (N := some 62) (Ra_ [16, 19]) rfl rfl (by kernel_rfl) (fun _ _ _ h => h) (yields_row rfl _ _ rfl w2.heap.size rfl _ _ _ (fun _ h => h.1.2.1) Try.underlying36 rfl (by kernel_rfl)) hHeld (by simp only [Act.put, sA_, sB_, sC_]; rfl) ?_
  refine take_ (i := 16) (N := some 64) (Ra_ [17, 18]) rfl rfl (by kernel_rfl) (fun _ _ _ h => h) (Or.inl ⟨by rfl, by rintro w' ⟨⟨_, _, _⟩, s0, s2, s3, s4, s5, s6⟩; go_simp; with_reducible rfl⟩) hHeld (by simp only [Act.put, sA_, sB_, sC_]; rfl) ?_
  refine one_ (i := 17) (N := some 65) (Ra_ [18, 17]) rfl rfl (by kernel_rfl) (by decide) (fun K hK => ?_)
  refine goes_ Try.func22 (by kernel_rfl) rfl #[.agg #[.string su, .string no, .slice A2 sl.length m2], .agg #[.string su, .string no, .slice A5 sl.length n5]] (by rfl) rfl rfl (by (try simp only [List.map_toArray, List.map_cons, List.map_nil]); first | done | rfl) ?_
  refine (strongroomlaw27_same.calls ks su no A2 m2 sl su no A5 n5 sl true _ (Kd.R_reads' HR25.out).2.2 (Kd.R_reads' HR25.out).2.1 (Kd.R_reads' HSP5.out).2.2 (Kd.R_reads' HSP5.out).2.1 HK.out.1).mono ?_
  rintro e w7 ⟨rfl, hb7⟩
  refine ⟨_, rfl, ?_⟩
  have HD6 := Lib.hid (HD5.out.below hb7)
  have HX6 := Lib.hid (HX5.out.below hb7)
  have HL6 := Lib.hid (HL5.out.trans (hb7.mono HL5.out.size))
  have HR26 := Lib.hid (Kd.R_below HR25.out hb7)
  have HSP6 := Lib.hid (Kd.R_below HSP5.out hb7)
  have HTK6 := Lib.hid (Kd.R_below HTK5.out hb7)
  have HR46 := Lib.hid (Kd.R_below HR45.out hb7)
  refine hK.out _ _ (hHeld.below hb7) (fun hHeld => ?_)
  refine pq_ 18 (some 66) (Ra_ [19, 16]) (h := ?_)
  refine pq_ 19 (some 67) (Ra_ [20, 15]) (h := ?_)
  refine pq_ 20 (some 68) (Ra_ [21, 14]) (h := ?_)
  refine pq_ 21 (some 69) (Ra_ [22, 13]) (h := ?_)
  refine take_ (i := 22) (N := some 70) (Ra_ [23, 12]) rfl rfl (by kernel_rfl) (fun _ _ _ h => h) (Or.inl ⟨by rfl, by rintro w' ⟨⟨_, _, _⟩, s0, s2, s3, s4, s5, s6⟩; go_simp; with_reducible rfl⟩) hHeld (by simp only [Act.put, sA_, sB_, sC_]; rfl) ?_
  refine one_ (i := 23) (N := some 71) (Ra_ [24, 11]) rfl rfl (by kernel_rfl) (by decide) (fun K hK => ?_)
  refine goes_ Try.func76 (by kernel_rfl) rfl #[.slice A4 tk.length m4, .slice A6 tk.length n6] (by rfl) rfl rfl (by (try simp only [List.map_toArray, List.map_cons, List.map_nil]); first | done | rfl) ?_
  refine (strongroomref27_SameIDs.calls ki A4 m4 tk A6 n6 tk true _ (Kd.R_reads' HR46.out).2.2 (Kd.R_reads' HR46.out).2.1 (Kd.R_reads' HTK6.out).2.2 (Kd.R_reads' HTK6.out).2.1 HK.out.2.1).mono ?_
  rintro e w8 ⟨rfl, hb8_⟩
  have hb8 := hb8_.below
  refine ⟨_, rfl, ?_⟩
  have HD7 := Lib.hid (HD6.out.below hb8)
  have HX7 := Lib.hid (HX6.out.below hb8)
  have HL7 := Lib.hid (HL6.out.trans (hb8.mono HL6.out.size))
  have HR27 := Lib.hid (Kd.R_below HR26.out hb8)
  have HSP7 := Lib.hid (Kd.R_below HSP6.out hb8)
  have HTK7 := Lib.hid (Kd.R_below HTK6.out hb8)
  have HR47 := Lib.hid (Kd.R_below HR46.out hb8)
  refine hK.out _ _ (hHeld.below hb8) (fun hHeld => ?_)
  refine pq_ 24 (some 72) (Ra_ [25, 10]) (h := ?_)
  refine pq_ 25 (some 73) (Ra_ [26, 9]) (h := ?_)
  refine pq_ 26 (some 74) (Ra_ [27, 8]) (h := ?_)
  refine pq_ 27 (some 75) (Ra_ [28, 7]) (h := ?_)
  refine pq_ 30 (some 78) (Ra_ [28, 2, 1, 4]) (h := ?_)
  refine take_ (i := 29) (N := some 77) (Ra_ [28, 1, 2, 4]) rfl rfl (by kernel_rfl) (fun _ _ _ h => h) (yields_row rfl _ _ rfl w.heap.size rfl _ xs _ (fun _ h => h.1.2.2) Try.underlying90 rfl (by rw [HZ.out.1]; exact info90)) hHeld (by simp only [Act.put, sA_, sB_, sC_]; rfl) ?_
  refine one_ (i := 28) (N := some 76) (Ra_ [31, 4]) rfl rfl (by kernel_rfl) (by decide) (fun K hK => ?_)
  refine goes_ Try.func48 (by kernel_rfl) rfl #[.pointer (some ⟨g, 0, none⟩), .int .i64 t] (by rfl) rfl rfl (by (try simp only [List.map_toArray, List.map_cons, List.map_nil]); first | done | rfl) ?_
  refine (d_sessions HD7.out t).mono ?_
  rintro e w9 ⟨v9, rfl, hr9, hb9⟩
  obtain ⟨A9, m9, rfl⟩ := Kd.R_slice hr9
  refine ⟨_, rfl, ?_⟩
  have HS9 := Lib.hid (Kd.R_lower hr9 (Nat.zero_le _))
  have HD8 := Lib.hid (HD7.out.below hb9)
  have HX8 := Lib.hid (HX7.out.below hb9)
  have HL8 := Lib.hid (HL7.out.trans (hb9.mono HL7.out.size))
  have HR28 := Lib.hid (Kd.R_below HR27.out hb9)
  have HSP8 := Lib.hid (Kd.R_below HSP7.out hb9)
  have HTK8 := Lib.hid (Kd.R_below HTK7.out hb9)
  have HR48 := Lib.hid (Kd.R_below HR47.out hb9)
  refine hK.out _ _ (hHeld.below hb9) (fun hHeld => ?_)
  refine one_ (i := 31) (N := some 79) (Ra_ [32, 3]) rfl rfl (by kernel_rfl) (by decide) (fun K hK => ?_)
  refine goes_ Try.func77 (by kernel_rfl) rfl #[.agg xs, .int .i64 t] (by rfl) rfl rfl (by (try simp only [List.map_toArray, List.map_cons, List.map_nil]); first | done | rfl) ?_
  refine (x_sessions HX8.out t).mono ?_
  rintro e w10 ⟨v10, rfl, hr10, hb10⟩
  obtain ⟨A10, m10, rfl⟩ := Kd.R_slice hr10
  refine ⟨_, rfl, ?_⟩
  have HD9 := Lib.hid (HD8.out.below hb10)
  have HX9 := Lib.hid (HX8.out.below hb10)
  have HL9 := Lib.hid (HL8.out.trans (hb10.mono HL8.out.size))
  have HR29 := Lib.hid (Kd.R_below HR28.out hb10)
  have HSP9 := Lib.hid (Kd.R_below HSP8.out hb10)
  have HTK9 := Lib.hid (Kd.R_below HTK8.out hb10)
  have HR49 := Lib.hid (Kd.R_below HR48.out hb10)
  have HS99 := Lib.hid (Kd.R_below HS9.out hb10)
  refine hK.out _ _ (hHeld.below hb10) (fun hHeld => ?_)
  refine one_ (i := 32) (N := some 80) (Ra_ [33, 2]) rfl rfl (by kernel_rfl) (by decide) (fun K hK => ?_)
  refine goes_ Try.func82 (by kernel_rfl) rfl #[.slice A9 (fgtL V t).length m9, .slice A10 (fgtL V t).length m10] (by rfl) rfl rfl (by (try simp only [List.map_toArray, List.map_cons, List.map_nil]); first | done | rfl) ?_
  refine (strongroomref27_SameInts.calls kn A9 m9 _ A10 m10 _ true _ (Kd.R_reads' HS99.out).2.2 (Kd.R_reads' HS99.out).2.1 (Kd.R_reads' hr10).2.2 (Kd.R_reads' hr10).2.1 HK.out.2.2).mono ?_
  rintro e w11 ⟨rfl, hb11_⟩
  have hb11 := hb11_.below
  refine ⟨_, rfl, ?_⟩
  have HD10 := Lib.hid (HD9.out.below hb11)
  have HX10 := Lib.hid (HX9.out.below hb11)
  have HL10 := Lib.hid (HL9.out.trans (hb11.mono HL9.out.size))
  have HR210 := Lib.hid (Kd.R_below HR29.out hb11)
  have HSP10 := Lib.hid (Kd.R_below HSP9.out hb11)
  have HTK10 := Lib.hid (Kd.R_below HTK9.out hb11)
  have HR410 := Lib.hid (Kd.R_below HR49.out hb11)
  have HS910 := Lib.hid (Kd.R_below HS99.out hb11)
  refine hK.out _ _ (hHeld.below hb11) (fun hHeld => ?_)
  refine pq_ 33 (some 81) (Ra_ [34, 1]) (h := ?_)
  refine pq_ 34 (some 8) (Ra_ [35]) (h := ?_)
  refine done_ (by kernel_rfl) ?_
  try go_wp2
  go_ret
  exact ⟨rfl, HL10.out⟩

end Go.Proofs.Ytgkhdpplmdkkaaa.Ds
/- The walk of DeskPlays. -/
namespace Go.Proofs.Ytgkhdpplmdkkaaa.Ds
open Go.RowKit Go.Proofs.YtgkhdpplmdkkaaaH.HDeskPlays Go.Proofs.YtgkhdpplmdkkaaaW.PrintWords Go.Proofs.YtgkhdpplmdkkaaaW.PrintLast Go.Proofs.YtgkhdpplmdkkaaaW.PrintMore Go.Proofs.Ytgkhdpplmdkkaaa.Dp Go.Proofs.Ytgkhdpplmdkkaaa.PureS

theorem DI.free90 {w : World} {g b : Nat} {cs old : Array Value} {col : Nat → Nat} {V : Nat → Ses} (h : DI w g cs col V) (hb : Blk w b 90 old) (hg : g ≠ b) : DI w g cs (fun k => if k = b then 0 else col k) V := by
  refine ⟨h.1, h.2.1, ⟨by simp only; rw [if_neg hg]; exact h.2.2.1.1, fun k hk => ?_⟩, fun j hj => ?_⟩
  · simp only at hk
    split at hk
    · omega
    · exact h.2.2.1.2 k hk
  · obtain ⟨A5, n5, A6, n6, h7, hs, ht⟩ := h.2.2.2 j hj
    exact ⟨A5, n5, A6, n6, h7, Kd.R_mono (Kd.R_types hs hb (by decide)) (fun k h1 => by show (if k = b then 0 else col k) = 0; rw [if_neg h1.2]; exact h1.1), Kd.R_mono (Kd.R_types ht hb (by decide)) (fun k h1 => by show (if k = b then 0 else col k) = j + 2; rw [if_neg h1.2]; exact h1.1)⟩
theorem XI.free90 {w : World} {b : Nat} {xs old : Array Value} {col : Nat → Nat} {U : Nat → Ses} (h : XI w xs col U) (hb : Blk w b 90 old) : XI w xs (fun k => if k = b then 0 else col k) U := by
  refine ⟨h.1, h.2.1, fun j hj => ?_⟩
  obtain ⟨A5, n5, A6, n6, h7, hs, ht⟩ := h.2.2 j hj
  exact ⟨A5, n5, A6, n6, h7, Kd.R_mono (Kd.R_types hs hb (by decide)) (fun k h1 => by show (if k = b then 0 else col k) = 0; rw [if_neg h1.2]; exact h1.1), Kd.R_mono (Kd.R_types ht hb (by decide)) (fun k h1 => by show (if k = b then 0 else col k) = 0; rw [if_neg h1.2]; exact h1.1)⟩
/-- what the loop keeps: both desks have the same -/
def Lq (w0 w : World) (g b : Nat) : Prop := ∃ cs col V xs, DI w g cs col V ∧ XI w xs col V ∧ Sts V ∧ Blk w b 90 xs ∧ col b = 0 ∧ Below g w0 w
/-- the cells of a step, and the document's desk -/
def SPl (b : Nat) (xs : Array Value) (ad : Addr) (kd t s q n : Int) (sum text : ByteArray) (right : Bool) (v8 : Value) (W : World) : Prop := Blk W b 90 xs ∧ W.cell? ad = some (.int .i64 kd) ∧ W.cell? ⟨ad.block, ad.off + 1, none⟩ = some (.int .i64 t) ∧ W.cell? ⟨ad.block, ad.off + 2, none⟩ = some (.int .i64 s) ∧ W.cell? ⟨ad.block, ad.off + 3, none⟩ = some (.int .i64 q) ∧ W.cell? ⟨ad.block, ad.off + 4, none⟩ = some (.int .i64 n) ∧ W.cell? ⟨ad.block, ad.off + 5, none⟩ = some (.string sum) ∧ W.cell? ⟨ad.block, ad.off + 6, none⟩ = some (.string text) ∧ W.cell? ⟨ad.block, ad.off + 7, none⟩ = some (.bool right) ∧ W.cell? ⟨ad.block, ad.off + 8, none⟩ = some v8

set_option maxRecDepth 100000 in
set_option maxHeartbeats 4000000 in
theorem plays_walk (A : Option Addr) (c : Nat) (os : List OpV) (w : World) (hops : OpsAt w A os) :
    Calls Try.prog 14 #[.slice A os.length c] w fun e w' => e = .returned (.bool true) ∧ Below w.heap.size w w' := by
  have HO := Lib.hid hops
  clear hops
  go_enter Try.func14, Try.ntmps14
  go_wp2_with fail
  refine (new_any _).mono ?_
  rintro e w1 ⟨rfl, hw1⟩
  have hD1 := DI.new w
  rw [← hw1] at hD1
  have hl1 : Below w.heap.size w w1 := by rw [hw1]; exact below_allocW _ _
  have HD1 := Lib.hid hD1
  have HL1 := Lib.hid hl1
  clear hw1 hD1 hl1
  generalize hg : w.heap.size = g at HD1 HL1 ⊢
  have HG := Lib.hid hg
  clear hg
  go_wp2_with fail
  refine abs_world ?_
  intro w4 hw4
  have hb4 : Below w1.heap.size w1 w4 := by rw [hw4]; exact below_allocW _ _
  have hB4 : Blk w4 w1.heap.size 90 Try.zeroCells90 := by rw [hw4]; exact Blk.new _ _ _
  have hgw : g < w1.heap.size := HD1.out.1.lt
  have hlp : Lq w w4 g w1.heap.size := ⟨_, _, _, _, (HD1.out.below hb4).free90 hB4 (Nat.ne_of_lt hgw), (XI.zero w4 _).free90 hB4, sts0, hB4, if_pos rfl, HL1.out.trans (hb4.mono (Nat.le_of_lt hgw))⟩
  generalize w1.heap.size = b at hlp hgw ⊢
  have HLP := Lib.hid hlp
  clear hw4 hB4 hb4 hlp HD1 HL1
  go_wp2_with fail
  go_loopw [5] (fun i wr => ∃ k : Nat, i = .int .i64 k ∧ k ≤ 50 ∧ Lq w wr g b) (fun i _ => 50 - (intOf i).toNat)
  case atStart => exact ⟨0, rfl, by omega, HLP.out⟩
  case round =>
    obtain ⟨k, rfl, hk, hlp⟩ := hrel
    have HLP := Lib.hid hlp
    clear hlp
    by_cases hcc : k < os.length ∧ k < 50
    case neg =>
      have hcc' : (os.length ≤ k) ∨ (k < os.length ∧ k = 50) := by omega
      clear hcc
      obtain ⟨cs, col, V, xs, hD, hX, hSt, hB, hcb, hBl⟩ := HLP.out
      have HBL := Lib.hid hBl
      have HDL := Lib.hid hD.1.lt
      clear hD hX hSt hB hcb hBl HLP
      rcases hcc' with h1 | ⟨h1, rfl⟩
      all_goals
        go_wp2_with (go_at_call 16; refine (lives_any _).mono ?_; rintro e w' ⟨rfl, hl⟩)
        go_ret
        refine ⟨rfl, ?_⟩
        rw [HG.out]
        exact HBL.out.trans ((‹Below wr.heap.size wr _›).mono (Nat.le_of_lt HDL.out))
    obtain ⟨hk1, hk2⟩ := hcc
    have hk1' : (k : Int) < os.length := by omega
    obtain ⟨ad, rfl, hoc⟩ := HO.out k os[k] (List.getElem?_eq_getElem hk1)
    generalize os[k] = o at hoc
    obtain ⟨kd, ot, osl, q, n, sum, text, right, A8, c8, cx⟩ := o
    obtain ⟨cs, col, V, xs, hD, hX, hSt, hB, hcb, hBl⟩ := HLP.out
    have hkeep : ∀ q, q < w.heap.size → wr.heap[q]? = w.heap[q]? := by rw [HG.out]; exact hBl.block
    have hor := hoc.heap hkeep
    obtain ⟨d0, d1, d2, d3, d4, d5, d6, d7, d8, dle, dC⟩ := hor
    simp only at d0 d1 d2 d3 d4 d5 d6 d7 d8 dle dC
    obtain ⟨r, kl, hli, hlr⟩ := light_ok kd ot osl q n sum text right cx
    have HLI := Lib.hid (And.intro hli hlr)
    have HDC := Lib.hid (And.intro dle dC)
    have HDR := Lib.hid hD
    have HXR := Lib.hid hX
    have HBL := Lib.hid hBl
    have HST := Lib.hid (And.intro hcb (And.intro hSt hB))
    have HOC := Lib.hid hoc
    clear hli hlr dle dC hD hX hBl hcb hSt hB hoc hkeep HLP
    go_wp2_with fail
    refine (strongroomlaw27_light.calls kl kd ot osl q n sum text right A8 c8 cx r _ HDC.out.2 HDC.out.1 HLI.out.1).mono ?_
    rintro e wa ⟨rfl, hba⟩
    have hBLa := HBL.out.trans (hba.mono (Nat.le_of_lt HDR.out.1.lt))
    have HDA := Lib.hid (HDR.out.below hba)
    have HXA := Lib.hid (HXR.out.below hba)
    have HBA := Lib.hid hBLa
    have HB8 := Lib.hid (HST.out.2.2.below hba HST.out.2.2.lt)
    clear hba hBLa HDR HXR HBL HDC d0 d1 d2 d3 d4 d5 d6 d7 d8
    cases r
    case false =>
      go_wp2_with (go_at_call 16; refine (lives_any _).mono ?_; rintro e w' ⟨rfl, hl⟩)
      go_ret
      refine ⟨rfl, ?_⟩
      rw [HG.out]
      exact HBA.out.trans ((‹Below wa.heap.size wa _›).mono (Nat.le_of_lt HDA.out.1.lt))
    obtain ⟨l1, l2, l3, l4⟩ := HLI.out.2 rfl
    have HL4 := Lib.hid (And.intro l1 (And.intro l2 (And.intro l3 l4)))
    clear l1 l2 l3 l4 HLI
    have hcells : ∀ W ys, Below g w W → Blk W b 90 ys → SPl b ys (ad.add (k * 9)) kd ot osl q n sum text right (.slice A8 cx.length c8) W := fun W ys hW hBW => by
      have h_ := HOC.out.heap (w1 := W) (by rw [HG.out]; exact hW.block)
      exact ⟨hBW, h_.c0, h_.c1, h_.c2, h_.c3, h_.c4, h_.c5, h_.c6, h_.c7, h_.c8⟩
    have HCE := Lib.hid hcells
    clear hcells
    go_wp2_with fail
    have hd : Below wa.heap.size wa wa.drew := (Below.refl wa.heap.size wa).drew
    have hS0 := HCE.out wa.drew xs HBA.out.drew HB8.out.drew
    have hlo : Lo wa.drew g A8 cx := by
      have h := HOC.out.lo (w1 := wa.drew) (by rw [HG.out]; exact HBA.out.drew)
      rw [HG.out] at h
      exact h
    have HLO := Lib.hid hlo
    clear hlo
    refine start_ (n := 12) (S := SPl b xs (ad.add (k * 9)) kd ot osl q n sum text right (.slice A8 cx.length c8)) (ds := [10]) (Ra_ [0, 12]) (by kernel_rfl) rfl rfl hS0 (fun hHeld => ?_)
    refine pq_ 0 (some 26) (Ra_ [1, 11]) (h := ?_)
    refine take_ (i := 1) (N := some 27) (Ra_ [2, 10]) rfl rfl (by kernel_rfl) (fun _ _ _ h => h) (yields_row rfl _ _ rfl b rfl _ xs _ (fun _ h => h.1) Try.underlying90 rfl (by rw [HXA.out.1]; exact info90)) hHeld (by simp only [Act.put, sA_, sB_, sC_]; rfl) ?_
    refine pq_ 2 (some 28) (Ra_ [3, 9]) (h := ?_)
    refine pq_ 3 (some 29) (Ra_ [4, 8]) (h := ?_)
    refine pq_ 4 (some 30) (Ra_ [5, 7]) (h := ?_)
    refine take_ (i := 5) (N := some 31) (Ra_ [6, 6]) rfl rfl (by kernel_rfl) (fun _ _ _ h => h) (Or.inl ⟨by rfl, by rintro w' ⟨_, s0, s1, s2, s3, s4, s5, s6, s7, s8⟩; go_simp; with_reducible rfl⟩) hHeld (by simp only [Act.put, sA_, sB_, sC_]; rfl) ?_
    refine one_ (i := 6) (N := some 32) (Ra_ [7, 5]) rfl rfl (by kernel_rfl) (by decide) (fun K hK => ?_)
    refine goes_ Try.func45 (by kernel_rfl) rfl #[.pointer (some ⟨g, 0, none⟩), .agg xs, .agg #[.int .i64 kd, .int .i64 ot, .int .i64 osl, .int .i64 q, .int .i64 n, .string sum, .string text, .bool right, .slice A8 cx.length c8]] (by rfl) rfl rfl (by (try simp only [List.map_toArray, List.map_cons, List.map_nil]); first | done | rfl) ?_
    refine (step_any (HDA.out.below hd) (HXA.out.below hd) kd ot osl q n sum text right A8 c8 cx HST.out.2.1 HST.out.2.1 HL4.out.1 HL4.out.2.1 HL4.out.2.2.1 HL4.out.2.2.2 HLO.out (provesV HST.out.2.1 ot osl cx HL4.out.2.2.1)).mono ?_
    rintro e w5 ⟨ys, bb, V', U', rfl, ⟨hkp, cs', col', hD', hX'⟩, hs', hfar, heq⟩
    obtain ⟨rfl, rfl⟩ := heq rfl
    refine ⟨_, rfl, ?_⟩
    have hB5 : Blk w5 b 90 xs := (hkp.2.2 b HB8.out.lt HST.out.1).trans HB8.out.drew
    have hL5 : Below g w w5 := HBA.out.drew.trans hkp.1
    have HD5 := Lib.hid hD'
    have HX5 := Lib.hid hX'
    have HS5 := Lib.hid hs'
    have HL5 := Lib.hid hL5
    have HXZ := Lib.hid HXA.out.1
    refine hK.out _ _ (HCE.out w5 xs hL5 hB5) (fun hHeld => ?_)
    clear hkp hD' hX' hs' hfar heq
    refine pq_ 7 (some 25) (Ra_ [8, 4]) (h := ?_)
    refine pq_ 8 (some 33) (Ra_ [9, 3]) (h := ?_)
    refine pq_ 9 (some 34) (Ra_ [10, 2]) (h := ?_)
    refine last_ (i := 10) (N := none) (Ra_ [11, 1]) rfl rfl (by kernel_rfl) (by decide) (fun K hK => ?_)
    rw [if_pos (by rfl)]
    refine wp_store_row 90 _ _ rfl b ys rfl rfl _ _ hB5 (by rw [HX5.out.1]; exact info90) (by rw [HX5.out.1, HXZ.out]) HX5.out.2.1 ?_
    refine hK.out _ _ ?_
    refine pq_ 11 (some 6) (Ra_ [12]) (h := ?_)
    refine done_ (by kernel_rfl) ?_
    have hB6 : Blk (w5.setRow b ys) b 90 ys := blk_row hB5 (by rw [HX5.out.1, HXZ.out])
    have hD6 : DI (w5.setRow b ys) g cs' col' V' := ⟨rowS HD5.out.1 (Nat.ne_of_lt hgw), HD5.out.2.1, HD5.out.2.2.1, fun j hj => (HD5.out.2.2.2 j hj).row hB5⟩
    have hX6 : XI (w5.setRow b ys) ys col' V' := ⟨HX5.out.1, HX5.out.2.1, fun j hj => (HX5.out.2.2 j hj).row hB5⟩
    have hL6 : Below g w (w5.setRow b ys) := below_setRow hL5 (Nat.le_of_lt hgw) _
    generalize w5.setRow b ys = w6 at hB6 hD6 hX6 hL6 ⊢
    have HB6 := Lib.hid hB6
    have HD6 := Lib.hid hD6
    have HX6 := Lib.hid hX6
    have HL6 := Lib.hid hL6
    clear hHeld hK hB5 hL5 hB6 hD6 hX6 hL6 HD5 HX5 HL5 HXZ hS0 hd HDA HXA HBA HB8 HLO
    go_wp2_with fail
    have hS1 := HCE.out w6.drew ys HL6.out.drew HB6.out.drew
    have hd : Below w6.heap.size w6 w6.drew := (Below.refl w6.heap.size w6).drew
    refine start_ (n := 18) (S := SPl b ys (ad.add (k * 9)) kd ot osl q n sum text right (.slice A8 cx.length c8)) (ds := []) (Ra_ [0, 18]) (by kernel_rfl) rfl rfl hS1 (fun hHeld => ?_)
    refine pq_ 0 (some 35) (Ra_ [1, 17]) (h := ?_)
    refine pq_ 1 (some 36) (Ra_ [2, 16]) (h := ?_)
    refine pq_ 2 (some 37) (Ra_ [3, 15]) (h := ?_)
    refine pq_ 3 (some 38) (Ra_ [4, 14]) (h := ?_)
    refine take_ (i := 4) (N := some 39) (Ra_ [5, 13]) rfl rfl (by kernel_rfl) (fun _ _ _ h => h) (yields_row rfl _ _ rfl b rfl _ ys _ (fun _ h => h.1) Try.underlying90 rfl (by rw [HX6.out.1]; exact info90)) hHeld (by simp only [Act.put, sA_, sB_, sC_]; rfl) ?_
    refine pq_ 5 (some 40) (Ra_ [6, 12]) (h := ?_)
    refine pq_ 6 (some 41) (Ra_ [7, 11]) (h := ?_)
    refine pq_ 7 (some 42) (Ra_ [8, 10]) (h := ?_)
    refine pq_ 8 (some 43) (Ra_ [9, 9]) (h := ?_)
    refine take_ (i := 9) (N := some 44) (Ra_ [10, 8]) rfl rfl (by kernel_rfl) (fun _ _ _ h => h) (Or.inl ⟨by rfl, by rintro w' ⟨_, s0, s1, s2, s3, s4, s5, s6, s7, s8⟩; go_simp; with_reducible rfl⟩) hHeld (by simp only [Act.put, sA_, sB_, sC_]; rfl) ?_
    refine pq_ 10 (some 45) (Ra_ [11, 7]) (h := ?_)
    refine pq_ 11 (some 46) (Ra_ [12, 6]) (h := ?_)
    refine pq_ 12 (some 47) (Ra_ [13, 5]) (h := ?_)
    refine pq_ 13 (some 48) (Ra_ [14, 4]) (h := ?_)
    refine take_ (i := 14) (N := some 49) (Ra_ [15, 3]) rfl rfl (by kernel_rfl) (fun _ _ _ h => h) (Or.inl ⟨by rfl, by rintro w' ⟨_, s0, s1, s2, s3, s4, s5, s6, s7, s8⟩; go_simp; with_reducible rfl⟩) hHeld (by simp only [Act.put, sA_, sB_, sC_]; rfl) ?_
    refine one_ (i := 15) (N := some 50) (Ra_ [16, 2]) rfl rfl (by kernel_rfl) (by decide) (fun K hK => ?_)
    refine goes_ Try.func50 (by kernel_rfl) rfl #[.pointer (some ⟨g, 0, none⟩), .agg ys, .int .i64 ot, .int .i64 osl] (by rfl) rfl rfl (by (try simp only [List.map_toArray, List.map_cons, List.map_nil]); first | done | rfl) ?_
    refine (alike_ok (HD6.out.below hd) (HX6.out.below hd) HS5.out ot osl).mono ?_
    rintro e w7 ⟨rfl, hb7⟩
    refine ⟨_, rfl, ?_⟩
    have hb67 : Below w6.heap.size w6 w7 := hd.trans hb7
    have hB7 := HB6.out.below hb67 HB6.out.lt
    have hL7 : Below g w w7 := HL6.out.trans (hb67.mono (Nat.le_of_lt HD6.out.1.lt))
    have HLP7 := Lib.hid (show Lq w w7 g b from ⟨cs', _, V', ys, (HD6.out.below hb67).free90 hB7 (Nat.ne_of_lt hgw), (HX6.out.below hb67).free90 hB7, HS5.out, hB7, if_pos rfl, hL7⟩)
    refine hK.out _ _ (HCE.out w7 ys hL7 hB7) (fun hHeld => ?_)
    clear hb67 hB7 hL7 hb7
    refine pq_ 16 (some 51) (Ra_ [17, 1]) (h := ?_)
    refine pq_ 17 (some 52) (Ra_ [18]) (h := ?_)
    refine done_ (by kernel_rfl) ?_
    clear hHeld hK
    go_wp2_with fail
    go_roundw
    case rel => exact ⟨k + 1, by go_num, by omega, HLP7.out⟩
    case measure => simp [intOf]; omega

end Go.Proofs.Ytgkhdpplmdkkaaa.Ds
