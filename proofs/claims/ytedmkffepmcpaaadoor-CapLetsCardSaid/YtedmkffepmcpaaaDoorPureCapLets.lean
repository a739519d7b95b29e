/- The plain law of CapLets: of numbers and lists alone. -/
import Derived.Test.YtedmkffepmcpaaaDoorHCapLetsx11
import Derived.Laws.BitsAllLaws
namespace Go.Proofs.YtedmkffepmcpaaaDoor.Pure
open Go.RowKit Go.Proofs.YtedmkffepmcpaaaDoorH.HCapLets Go.Proofs.YtedmkffepmcpaaaDoorW.PrintWords Go.Proofs.YtedmkffepmcpaaaDoorW.PrintLast Go.Proofs.YtedmkffepmcpaaaDoorW.PrintMore

abbrev I (b : UInt8) : Int := (b.toNat : Int)
def putL (n : Nat) : List UInt8 := if n < 128 then [UInt8.ofNat n] else UInt8.ofNat (n % 128 + 128) :: putL (n / 128)
termination_by n
decreasing_by omega
theorem putL_small {n : Nat} (h : n < 128) : putL n = [UInt8.ofNat n] := by rw [putL, if_pos h]
theorem putL_big {n : Nat} (h : ¬ n < 128) : putL n = UInt8.ofNat (n % 128 + 128) :: putL (n / 128) := by rw [putL, if_neg h]
theorem putL_len : ∀ (k n : Nat), n < 128 ^ (k + 1) → (putL n).length ≤ k + 1
  | 0, n, h => by rw [putL_small (by simpa using h)]; simp
  | k + 1, n, h => by
    by_cases hn : n < 128
    · rw [putL_small hn]; simp
    · rw [putL_big hn, List.length_cons]
      have := putL_len k (n / 128) (by rw [Nat.div_lt_iff_lt_mul (by decide), ← Nat.pow_succ]; exact h)
      omega
theorem putL_ten {n : Nat} (h : n < 18446744073709551616) : (putL n).length ≤ 10 := putL_len 9 n (Nat.lt_trans h (by decide))
theorem or128 (n : Nat) : Go.bits .or .u8 ((n : Int) % 256) 128 = I (UInt8.ofNat (n % 128 + 128)) := by
  have h : ∀ m, m < 256 → Go.bits .or .u8 ((m : Nat) : Int) 128 = I (UInt8.ofNat (m % 128 + 128)) := by decide +kernel
  have h2 := h (n % 256) (Nat.mod_lt _ (by decide))
  rw [show ((n : Int) % 256) = ((n % 256 : Nat) : Int) by omega, h2, Nat.mod_mod_of_dvd n (by decide)]
theorem I_ofNat {n : Nat} (h : n < 256) : I (UInt8.ofNat n) = (n : Int) := by
  simp only [I, UInt8.toNat_ofNat']; omega
theorem mk_app (a b : List UInt8) : (⟨a.toArray⟩ : ByteArray) ++ ⟨b.toArray⟩ = ⟨(a ++ b).toArray⟩ := by
  apply ByteArray.ext
  simp [ByteArray.data_append]
theorem mk_size (a : List UInt8) : (⟨a.toArray⟩ : ByteArray).size = a.length := by simp [ByteArray.size]
theorem nums_mk (l : List UInt8) : strOfNums (l.map I) = ⟨l.toArray⟩ := by
  simp [strOfNums, I, Function.comp_def]
theorem bytes_mk (l : List UInt8) : bytesOf ⟨l.toArray⟩ = l.map I := by simp [bytesOf]
theorem u64_nat {n : Nat} (h : n < 18446744073709551616) : IntKind.u64.wrap (n : Int) = (n : Int) := by
  simp [IntKind.wrap, IntKind.bits, IntKind.signed]; omega
theorem ifpos {α : Type} {c : Prop} [Decidable c] {f g : Nat → Option α} {r : α} (h : c) (k : Ev f r) : Ev (fun n => if c then f n else g n) r := Ev.congr (fun _ => if_pos h) k
theorem ifneg {α : Type} {c : Prop} [Decidable c] {f g : Nat → Option α} {r : α} (h : ¬ c) (k : Ev g r) : Ev (fun n => if c then f n else g n) r := Ev.congr (fun _ => if_neg h) k
theorem mk_all (a : ByteArray) : ∃ l : List UInt8, a = ⟨l.toArray⟩ ∧ l.length = a.size := ⟨a.data.toList, rfl, rfl⟩
theorem lay_ev : ∀ (n : Nat) (l : List UInt8), l.length + (putL n).length < 140737488355328 → Ev (fun k => num_lay.l0 k (l.map I) (n : Int)) ((l ++ putL n).map I) := by
  intro n
  induction n using Nat.strongRecOn with
  | ind n ih =>
    intro l hl
    by_cases hn : n < 128
    · rw [putL_small hn] at hl ⊢
      refine Ev.step (f := fun _ => some ((l ++ [UInt8.ofNat n]).map I)) (fun k => ?_) (Ev.now _)
      simp only [num_lay.l0]
      rw [if_neg (by omega), if_pos (by simp at hl ⊢; omega)]
      simp only [List.map_append, List.map_cons, List.map_nil, I_ofNat (show n < 256 by omega)]
      rw [show (n : Int) % 256 = (n : Int) by omega]
    · rw [putL_big hn] at hl ⊢
      have h2 := ih (n / 128) (by omega) (l ++ [UInt8.ofNat (n % 128 + 128)]) (by simp at hl ⊢; omega)
      rw [show l ++ UInt8.ofNat (n % 128 + 128) :: putL (n / 128) = l ++ [UInt8.ofNat (n % 128 + 128)] ++ putL (n / 128) by simp]
      refine Ev.step (fun k => ?_) h2
      simp only [num_lay.l0]
      rw [if_pos (by omega), if_pos (by simp at hl ⊢; omega), or128, show (n : Int) / 128 = ((n / 128 : Nat) : Int) by omega]
      simp
theorem own_is (l : List Int) (h : l.length < 140737488355328) : num_own.f l = some l := by
  simp [num_own.f, h]
theorem put_ev (l : List UInt8) (n : Nat) (h : l.length + (putL n).length < 140737488355328) : Ev (fun k => num_Put.f k (l.map I) (n : Int)) ((l ++ putL n).map I) := by
  refine Ev.congr (f := fun k => (num_lay.l0 k (l.map I) (n : Int)).bind fun t => some t) (fun k => ?_) (Ev.bind (lay_ev n l h) (Ev.now _))
  simp only [num_Put.f, own_is _ (show (l.map I).length < 140737488355328 by simp; omega), Option.bind_some, num_lay.f]
theorem putText_ev (l s : List UInt8) (h : l.length + s.length + 10 < 140737488355328) (hs : s.length < 18446744073709551616) : Ev (fun k => num_PutText.f k (l.map I) ⟨s.toArray⟩) ((l ++ putL s.length ++ s).map I) := by
  have h10 := putL_ten hs
  refine Ev.congr (f := fun k => (num_lay.l0 k (l.map I) ((s.length : Nat) : Int)).bind fun t => if t.length + s.length < 140737488355328 then some (t ++ s.map I) else none) (fun k => ?_) (Ev.bind (lay_ev s.length l (by omega)) ?_)
  · simp only [num_PutText.f, own_is _ (show (l.map I).length < 140737488355328 by simp; omega), Option.bind_some, num_lay.f, mk_size, bytes_mk, u64_nat hs]
  · rw [if_pos (by simp; omega)]
    rw [← List.map_append]
    exact Ev.now _
/-- does a place cover another one, in plain lists -/
def coverL (a p : List UInt8) : Bool := a == [] || (a ++ [47]).isPrefixOf (p ++ [47])
theorem coverL_iff (a p : List UInt8) : coverL a p = true ↔ a = [] ∨ (a ++ [47]) <+: (p ++ [47]) := by
  simp [coverL]
theorem stroke_prefix (a p : List UInt8) : (a ++ [47]) <+: (p ++ [47]) ↔ p = a ∨ (a ++ [47]) <+: p := by
  constructor
  · intro h
    have hl := h.length_le
    simp at hl
    by_cases e : a.length = p.length
    · left
      have := h.eq_of_length (by simp [e])
      exact (List.append_cancel_right this).symm
    · right
      exact List.prefix_of_prefix_length_le h (List.prefix_append p [47]) (by simp; omega)
  · rintro (rfl | h)
    · exact List.prefix_refl _
    · exact h.trans (List.prefix_append p [47])
theorem coverL_trans {a b p : List UInt8} (h1 : coverL a b = true) (h2 : coverL b p = true) (hb : b ≠ [] ∨ a = []) : coverL a p = true := by
  rw [coverL_iff] at h1 h2 ⊢
  rcases h1 with h1 | h1
  · exact Or.inl h1
  · rcases h2 with h2 | h2
    · rcases hb with hb | hb
      · exact absurd h2 hb
      · exact Or.inl hb
    · exact Or.inr (h1.trans h2)
theorem coverL_chain {a b p : List UInt8} (h1 : coverL a p = true) (h2 : coverL b p = true) : coverL a b = true ∨ coverL b a = true := by
  rw [coverL_iff] at h1 h2
  rw [coverL_iff, coverL_iff]
  rcases h1 with h1 | h1
  · exact Or.inl (Or.inl h1)
  rcases h2 with h2 | h2
  · exact Or.inr (Or.inl h2)
  rcases List.prefix_or_prefix_of_prefix h1 h2 with h | h
  · exact Or.inl (Or.inr h)
  · exact Or.inr (Or.inr h)
/-- a place that covers an empty one is empty -/
theorem coverL_empty {a : List UInt8} (h : coverL a [] = true) : a = [] := by
  rw [coverL_iff] at h
  rcases h with h | h
  · exact h
  · have := h.length_le
    simp at this
    exact this
theorem coverL_tr {a b p : List UInt8} (h1 : coverL a b = true) (h2 : coverL b p = true) : coverL a p = true := by
  by_cases hb : b = []
  · subst hb; exact coverL_trans h1 h2 (Or.inr (coverL_empty h1))
  · exact coverL_trans h1 h2 (Or.inl hb)
theorem toList_data (s : ByteArray) : s.toList = s.data.toList := by rw [ByteArray.toList_eq]
abbrev SC := S35
/-- may a text be a place? -/
def placeB (a : ByteArray) : Bool := a.data.toList == [] || goodB a
/-- may a caveat be? -/
def goodC (c : SC) : Bool := placeB c.f0 && (decide (0 ≤ c.f1) && (decide (c.f1 ≤ 7) && (decide (0 ≤ c.f2) && decide (c.f2 ≤ 1099511627776))))
theorem place_is (a : ByteArray) : path_Place.f a = some (placeB a) := by
  simp only [path_Place.f, path_Good.f, placeB, toList_data]
  by_cases h : a.data.toList = []
  · rw [if_pos h, h]; rfl
  · rw [if_neg h, show (a.data.toList == []) = false from beq_eq_false_iff_ne.2 h]; rfl
theorem cgood_is (p : ByteArray) (r u : Int) : cap_good.f p r u = some (goodC ⟨p, r, u⟩) := by
  simp only [cap_good.f, place_is, Option.bind_some, goodC]
  cases placeB p
  · rfl
  · by_cases h1 : 0 ≤ r
    · by_cases h2 : r ≤ 7
      · by_cases h3 : 0 ≤ u
        · simp [h1, h2, h3]
        · simp [h1, h2, h3]
      · simp [h1, h2]
    · simp [h1]
theorem goodB_le {a : ByteArray} (h : goodB a = true) : a.size ≤ 32 := by
  simp [goodB] at h; omega
theorem placeB_le {a : ByteArray} (h : placeB a = true) : a.size ≤ 32 := by
  rcases Bool.or_eq_true_iff.1 h with h | h
  · have h0 : a.data.toList = [] := beq_iff_eq.1 h
    have : a.size = a.data.toList.length := rfl
    rw [this, h0]; simp
  · exact goodB_le h
theorem goodC_facts {c : SC} (h : goodC c = true) : placeB c.f0 = true ∧ 0 ≤ c.f1 ∧ c.f1 ≤ 7 ∧ 0 ≤ c.f2 ∧ c.f2 ≤ 1099511627776 := by
  simp only [goodC, Bool.and_eq_true, decide_eq_true_eq] at h
  exact h
def knownB (t n : Int) : Bool := decide (1 ≤ t) && (decide (t ≤ 8) && (decide (0 ≤ n) && decide (n ≤ 1073741824)))
theorem known_is (t n : Int) : cap_known.f t n = some (knownB t n) := by
  simp only [cap_known.f, knownB]
  by_cases h1 : 1 ≤ t
  · by_cases h2 : t ≤ 8
    · by_cases h3 : 0 ≤ n
      · simp [h1, h2, h3]
      · simp [h1, h2, h3]
    · simp [h1, h2]
  · simp [h1]
theorem knownB_facts {t n : Int} (h : knownB t n = true) : 1 ≤ t ∧ t ≤ 8 ∧ 0 ≤ n ∧ n ≤ 1073741824 := by
  simp only [knownB, Bool.and_eq_true, decide_eq_true_eq] at h
  exact h
/-- may a token be? -/
def mayB (t n : Int) (l : List SC) (s : ByteArray) : Bool := knownB t n && (decide (l.length ≤ 8) && (decide (s.size = 32) && l.all goodC))
theorem rd_drop (l : List SC) (i : Nat) (c : SC) (cs : List SC) (h : l.drop i = c :: cs) : rd_T35 l (i : Int) = c ∧ l.drop (i + 1) = cs ∧ i < l.length := by
  have hlt : i < l.length := by
    rcases Nat.lt_or_ge i l.length with g | g
    · exact g
    · rw [List.drop_eq_nil_of_le g] at h; cases h
  have hp : l[i]? = some c := by
    have := congrArg List.head? h
    simpa [List.head?_drop] using this
  refine ⟨?_, ?_, hlt⟩
  · simp [rd_T35, List.getD_eq_getElem?_getD, hp]
  · have := congrArg List.tail h
    simpa [List.tail_drop] using this
theorem drop_nil_len {α : Type} {l : List α} {i : Nat} (h : l.drop i = []) (hi : i ≤ l.length) : i = l.length := by
  have := congrArg List.length h
  simp at this; omega
theorem wrap_succ {i n : Nat} (h : i < n) (hn : n < 1000000000000) : wrap64 ((i : Int) + 1) = ((i + 1 : Nat) : Int) := by unfold wrap64; omega
/-- the bytes of a caveat -/
def capB (c : SC) : List UInt8 := putL c.f0.data.toList.length ++ c.f0.data.toList ++ putL c.f1.toNat ++ putL c.f2.toNat
def firstL (t n : Int) : List UInt8 := putL t.toNat ++ putL n.toNat
theorem put_ev' (l : List UInt8) (n : Int) (h0 : 0 ≤ n) (h1 : n < 9223372036854775808) (h : l.length < 1000000) : Ev (fun k => num_Put.f k (l.map I) (IntKind.u64.wrap n)) ((l ++ putL n.toNat).map I) := by
  have h10 := putL_ten (n := n.toNat) (by omega)
  have := put_ev l n.toNat (by omega)
  rw [show ((n.toNat : Nat) : Int) = n by omega] at this
  have e : IntKind.u64.wrap n = n := by
    have := u64_nat (n := n.toNat) (by omega)
    rwa [show ((n.toNat : Nat) : Int) = n by omega] at this
  rw [e]
  exact this
theorem bytes_ev (c : SC) (h : goodC c = true) : Ev (fun k => cap_bytes.f k c.f0 c.f1 c.f2) ((capB c).map I) := by
  obtain ⟨h0, h1, h2, h3, h4⟩ := goodC_facts h
  have hs := placeB_le h0
  obtain ⟨s, hs2, hsl⟩ := mk_all c.f0
  have e1 := putText_ev [] s (by simp; omega) (by omega)
  have h10 := putL_ten (n := s.length) (by omega)
  have h11 := putL_ten (n := c.f1.toNat) (by omega)
  have e2 := put_ev' ([] ++ putL s.length ++ s) c.f1 h1 (by omega) (by simp only [List.length_append, List.length_nil]; omega)
  have e3 := put_ev' ([] ++ putL s.length ++ s ++ putL c.f1.toNat) c.f2 h3 (by omega) (by simp only [List.length_append, List.length_nil]; omega)
  have e : (capB c).map I = ([] ++ putL s.length ++ s ++ putL c.f1.toNat ++ putL c.f2.toNat).map I := by rw [capB, hs2]; rfl
  rw [e]
  simp only [cap_bytes.f, hs2]
  refine Ev.bind e1 ?_
  refine Ev.bind e2 ?_
  exact Ev.bind e3 (Ev.now _)
theorem capB_len {c : SC} (h : goodC c = true) : (capB c).length ≤ 100 := by
  obtain ⟨h0, h1, h2, h3, h4⟩ := goodC_facts h
  have hs := placeB_le h0
  have hsz : c.f0.data.toList.length = c.f0.size := rfl
  have a := putL_ten (n := c.f0.data.toList.length) (by omega)
  have b := putL_ten (n := c.f1.toNat) (by omega)
  have d := putL_ten (n := c.f2.toNat) (by omega)
  simp only [capB, List.length_append]; omega
theorem first_ev (t n : Int) (h : knownB t n = true) : Ev (fun k => cap_first.f k t n) ⟨(firstL t n).toArray⟩ := by
  obtain ⟨h1, h2, h3, h4⟩ := knownB_facts h
  have h10 := putL_ten (n := t.toNat) (by omega)
  have e1 := put_ev' [] t (by omega) (by omega) (by simp)
  have e2 := put_ev' ([] ++ putL t.toNat) n h3 (by omega) (by simp only [List.length_append, List.length_nil]; omega)
  simp only [cap_first.f]
  refine Ev.bind e1 ?_
  refine Ev.bind e2 ?_
  rw [← nums_mk]
  exact Ev.now _
theorem firstL_len {t n : Int} (h : knownB t n = true) : (firstL t n).length ≤ 20 := by
  obtain ⟨h1, h2, h3, h4⟩ := knownB_facts h
  have a := putL_ten (n := t.toNat) (by omega)
  have b := putL_ten (n := n.toNat) (by omega)
  simp only [firstL, List.length_append]; omega
theorem seal_is (n m : List UInt8) (h1 : n.length ≤ 549755813888) (h2 : m.length ≤ 274877906944) : macSealF ⟨n.toArray⟩ ⟨m.toArray⟩ = some ⟨(sealB n m).toArray⟩ := by
  unfold macSealF
  rw [if_pos ⟨by rw [mk_size]; exact h1, by rw [mk_size]; exact h2⟩]
/-- the seal of a token with these caveats, out of the seal of the one without -/
def keyL (s : List UInt8) : List SC → List UInt8
  | [] => s
  | c :: l => keyL (sealB s (capB c)) l
theorem keyL_append (l : List SC) : ∀ (s : List UInt8) (m : List SC), keyL s (l ++ m) = keyL (keyL s l) m := by
  induction l with
  | nil => intro s m; rfl
  | cons c l ih => intro s m; exact ih _ _
theorem keyL_len (l : List SC) : ∀ (s : List UInt8), s.length = 32 → (keyL s l).length = 32 := by
  induction l with
  | nil => intro s h; exact h
  | cons c l ih => intro s _; exact ih _ (seal_length _ _)
theorem all_loop {α : Type} (l : List α) (P : α → Bool) (F : Nat → Int → Option Bool)
    (ht : ∀ i c cs, l.drop i = c :: cs → P c = true → ∀ r, Ev (fun k => F k ((i + 1 : Nat) : Int)) r → Ev (fun k => F k (i : Int)) r)
    (hf : ∀ i c cs, l.drop i = c :: cs → P c = false → Ev (fun k => F k (i : Int)) false)
    (he : Ev (fun k => F k ((l.length : Nat) : Int)) true) : ∀ (cs : List α) (i : Nat), l.drop i = cs → i ≤ l.length → Ev (fun k => F k (i : Int)) (cs.all P) := by
  intro cs
  induction cs with
  | nil =>
    intro i hd hi
    rw [drop_nil_len hd hi]
    exact he
  | cons c cs ih =>
    intro i hd hi
    have hlt : i < l.length := by
      rcases Nat.lt_or_ge i l.length with g | g
      · exact g
      · rw [List.drop_eq_nil_of_le g] at hd; cases hd
    have hd2 : l.drop (i + 1) = cs := by
      have := congrArg List.tail hd
      simpa [List.tail_drop] using this
    cases hc : P c
    · rw [List.all_cons, hc]; exact hf i c cs hd hc
    · rw [List.all_cons, hc]; exact ht i c cs hd hc _ (ih (i + 1) hd2 hlt)
theorem bt_mk (s : List UInt8) (i : Nat) (h : i < s.length) : bt ⟨s.toArray⟩ (i : Int) = I (s.getD i 0) := by
  have hs : i < (⟨s.toArray⟩ : ByteArray).size := by rw [mk_size]; exact h
  simp only [bt, Int.toNat_natCast, hs, dite_true, I]
  simp [List.getD_eq_getElem?_getD, h]
  rfl
theorem mk_data (a : ByteArray) : (⟨a.data.toList.toArray⟩ : ByteArray) = a := rfl
theorem data_mk (l : List UInt8) : (⟨l.toArray⟩ : ByteArray).data.toList = l := rfl
theorem mayT_ev (t n : Int) (l : List SC) (s : ByteArray) : Ev (fun k => cap_May.j0 k true t n l s) false :=
  Ev.step (f := fun _ => some false) (fun k => by simp only [cap_May.j0]; rw [if_pos trivial]) (Ev.now false)
theorem mayL_ev (l : List SC) (hn : l.length < 1000000) : Ev (fun k => cap_May.l0 k l (l.length : Int) 0) (l.all goodC) := by
  refine all_loop l goodC (fun k i => cap_May.l0 k l (l.length : Int) i) (fun i c cs hd hc r hr => ?_) (fun i c cs hd hc => ?_) ?_ l 0 rfl (Nat.zero_le _)
  · obtain ⟨h1, h2, h3⟩ := rd_drop l i c cs hd
    refine Ev.step (fun k => ?_) hr
    simp only [cap_May.l0]
    rw [if_pos (by omega), if_pos (by omega), if_pos (by omega), h1, cgood_is, Option.bind_some, if_pos hc, wrap_succ h3 (by omega)]
  · obtain ⟨h1, h2, h3⟩ := rd_drop l i c cs hd
    refine Ev.step (f := fun _ => some false) (fun k => ?_) (Ev.now _)
    simp only [cap_May.l0]
    rw [if_pos (by omega), if_pos (by omega), if_pos (by omega), h1, cgood_is, Option.bind_some, if_neg (by rw [show goodC ⟨c.f0, c.f1, c.f2⟩ = false from hc]; simp)]
  · refine Ev.step (f := fun _ => some true) (fun k => ?_) (Ev.now _)
    simp only [cap_May.l0]
    rw [if_neg (by omega)]
theorem may_ev (t n : Int) (l : List SC) (s : ByteArray) : Ev (fun k => cap_May.f k t n l s) (mayB t n l s) := by
  unfold mayB
  cases hk : knownB t n
  · refine Ev.congr (fun k => ?_) (mayT_ev t n l s)
    simp only [cap_May.f, known_is, hk, Option.bind_some]
    rw [if_neg (by simp)]
  by_cases hl : l.length ≤ 8
  · by_cases hs : s.size = 32
    · rw [show decide (l.length ≤ 8) = true from decide_eq_true hl, show decide (s.size = 32) = true from decide_eq_true hs]
      refine Ev.congr (g := fun k => cap_May.f k t n l s) (fun k => ?_) (Ev.step (g := fun k => cap_May.j0 k false t n l s) (fun k => ?_) (mayL_ev l (by omega)))
      · simp only [cap_May.f, known_is, hk, Option.bind_some]
        rw [if_pos trivial, if_neg (by omega), show ((s.size : Int) != 32) = false by simp [hs]]
      · simp only [cap_May.j0]
        rw [if_neg (by simp)]
    · rw [show decide (l.length ≤ 8) = true from decide_eq_true hl, show decide (s.size = 32) = false from decide_eq_false hs]
      refine Ev.congr (fun k => ?_) (mayT_ev t n l s)
      simp only [cap_May.f, known_is, hk, Option.bind_some]
      rw [if_pos trivial, if_neg (by omega), show ((s.size : Int) != 32) = true by simp; omega]
  · rw [show decide (l.length ≤ 8) = false from decide_eq_false hl]
    refine Ev.congr (fun k => ?_) (mayT_ev t n l s)
    simp only [cap_May.f, known_is, hk, Option.bind_some]
    rw [if_pos trivial, if_pos (by omega)]
theorem mayB_facts {t n : Int} {l : List SC} {s : ByteArray} (h : mayB t n l s = true) : knownB t n = true ∧ l.length ≤ 8 ∧ s.size = 32 ∧ l.all goodC = true := by
  simp only [mayB, Bool.and_eq_true, decide_eq_true_eq] at h
  exact h
/-- the seal of a token of no caveats -/
def sealF (s : List UInt8) (t n : Int) : List UInt8 := sealB s (firstL t n)
theorem mint_ev (s : List UInt8) (t n : Int) (hs : s.length ≤ 1000) (h : knownB t n = true) : Ev (fun k => cap_Mint.f k ⟨s.toArray⟩ t n) (t, n, [], ⟨(sealF s t n).toArray⟩, 0) := by
  have hl := firstL_len h
  simp only [cap_Mint.f, known_is, h, Option.bind_some, if_true]
  refine Ev.bind (first_ev t n h) ?_
  simp only [mac_Seal.f, seal_is s (firstL t n) (by omega) (by omega), Option.bind_some]
  exact Ev.now _
theorem mint_no (s : ByteArray) (t n : Int) (h : knownB t n = false) : Ev (fun k => cap_Mint.f k s t n) (0, 0, [], ⟨#[]⟩, 1) := by
  simp only [cap_Mint.f, known_is, h, Option.bind_some, Bool.false_eq_true, if_false]
  exact Ev.now _
/-- what a token is narrowed to -/
theorem narrowT_ev (t n : Int) (l : List SC) (s : ByteArray) (p : ByteArray) (r u : Int) : Ev (fun k => cap_Narrow.j0 k true t n l s p r u) (0, 0, [], ⟨#[]⟩, 1) :=
  Ev.step (f := fun _ => some (0, 0, [], ⟨#[]⟩, 1)) (fun k => by simp only [cap_Narrow.j0]; rw [if_pos trivial]) (Ev.now _)
theorem narrow_arg (t n : Int) (l : List SC) (s : ByteArray) (c : SC) (h : (mayB t n l s && goodC c) = false) : Ev (fun k => cap_Narrow.f k t n l s c.f0 c.f1 c.f2) (0, 0, [], ⟨#[]⟩, 1) := by
  simp only [cap_Narrow.f, cgood_is, Option.bind_some]
  refine Ev.bind (may_ev t n l s) ?_
  cases hm : mayB t n l s
  · simp only [Bool.false_eq_true, if_false]
    exact narrowT_ev t n l s c.f0 c.f1 c.f2
  · rw [hm, Bool.true_and] at h
    simp only [if_true, show goodC ⟨c.f0, c.f1, c.f2⟩ = false from h, Bool.not_false]
    exact narrowT_ev t n l s c.f0 c.f1 c.f2
theorem narrow_full (t n : Int) (l : List SC) (s : ByteArray) (c : SC) (hm : mayB t n l s = true) (hc : goodC c = true) (hl : l.length = 8) : Ev (fun k => cap_Narrow.f k t n l s c.f0 c.f1 c.f2) (0, 0, [], ⟨#[]⟩, 5) := by
  simp only [cap_Narrow.f, cgood_is, Option.bind_some]
  refine Ev.bind (may_ev t n l s) ?_
  simp only [hm, if_true, show goodC ⟨c.f0, c.f1, c.f2⟩ = true from hc, Bool.not_true]
  refine Ev.step (f := fun _ => some (0, 0, [], ⟨#[]⟩, 5)) (fun k => ?_) (Ev.now _)
  simp only [cap_Narrow.j0]
  rw [if_neg (by simp), if_pos (by omega)]
theorem narrow_ev (t n : Int) (l : List SC) (s : List UInt8) (c : SC) (hm : mayB t n l ⟨s.toArray⟩ = true) (hc : goodC c = true) (hl : l.length < 8) : Ev (fun k => cap_Narrow.f k t n l ⟨s.toArray⟩ c.f0 c.f1 c.f2) (t, n, l ++ [c], ⟨(sealB s (capB c)).toArray⟩, 0) := by
  have hs := (mayB_facts hm).2.2.1
  rw [mk_size] at hs
  have hb := capB_len hc
  simp only [cap_Narrow.f, cgood_is, Option.bind_some]
  refine Ev.bind (may_ev t n l _) ?_
  simp only [hm, if_true, show goodC ⟨c.f0, c.f1, c.f2⟩ = true from hc, Bool.not_true]
  refine Ev.step (f := fun k => (cap_bytes.f k c.f0 c.f1 c.f2).bind fun x => (mac_Seal.f ⟨s.toArray⟩ (strOfNums x)).bind fun y => some (t, n, l ++ [c], y, 0)) (fun k => ?_) ?_
  · simp only [cap_Narrow.j0, Option.bind_some, List.nil_append]
    rw [if_neg (by simp), if_neg (by omega), if_pos (by simp; omega), if_pos (by simp; omega)]
  · refine Ev.bind (bytes_ev c hc) ?_
    simp only [nums_mk, mac_Seal.f, seal_is s (capB c) (by omega) (by omega), Option.bind_some]
    exact Ev.now _
theorem u8_or' (x y : UInt8) : Go.bits .or .u8 (I x) (I y) = I (x ||| y) := by
  simp only [I]; rw [Go.u8_or_nat _ _ x.toNat_lt y.toNat_lt, UInt8.toNat_or]
theorem u8_xor' (x y : UInt8) : Go.bits .xor .u8 (I x) (I y) = I (x ^^^ y) := by
  simp only [I]; rw [Go.u8_xor_nat _ _ x.toNat_lt y.toNat_lt, UInt8.toNat_xor]
theorem or_xor_zero (d a b : UInt8) : ((d ||| (a ^^^ b)) == 0) = ((d == 0) && (a == b)) := by
  rw [Bool.eq_iff_iff, Bool.and_eq_true, beq_iff_eq, beq_iff_eq, beq_iff_eq]
  constructor
  · intro h
    obtain ⟨h2, h3⟩ := UInt8.or_eq_zero_iff.1 h
    exact ⟨h2, UInt8.xor_eq_zero_iff.1 h3⟩
  · rintro ⟨rfl, rfl⟩
    simp
theorem I_zero (d : UInt8) : (I d == 0) = (d == 0) := by
  rw [Bool.eq_iff_iff, beq_iff_eq, beq_iff_eq]
  constructor
  · intro h
    have : d.toNat = 0 := by simp only [I] at h; omega
    exact UInt8.toNat.inj this
  · rintro rfl; rfl
theorem check1_ev (key s : List UInt8) (hk : key.length = 32) (hs : s.length = 32) (a b : Int) (l : List SC) : ∀ (m i : Nat) (d : UInt8), i + m = 32 → Ev (fun k => cap_Check.l1 k ⟨key.toArray⟩ (I d) 32 (i : Int) a b l ⟨s.toArray⟩) ((d == 0) && (key.drop i == s.drop i)) := by
  intro m
  induction m with
  | zero =>
    intro i d hi
    rw [List.drop_eq_nil_of_le (by omega), List.drop_eq_nil_of_le (by omega)]
    refine Ev.step (f := fun _ => some (d == 0 && ([] == ([] : List UInt8)))) (fun k => ?_) (Ev.now _)
    simp only [cap_Check.l1]
    rw [if_neg (by omega), I_zero]
    simp
  | succ m ih =>
    intro i d hi
    have h1 : i < key.length := by omega
    have h2 : i < s.length := by omega
    have e1 : key.drop i = key.getD i 0 :: key.drop (i + 1) := by rw [List.drop_eq_getElem_cons h1, List.getD_eq_getElem?_getD, List.getElem?_eq_getElem h1]; rfl
    have e2 : s.drop i = s.getD i 0 :: s.drop (i + 1) := by rw [List.drop_eq_getElem_cons h2, List.getD_eq_getElem?_getD, List.getElem?_eq_getElem h2]; rfl
    have h := ih (i + 1) (d ||| (key.getD i 0 ^^^ s.getD i 0)) (by omega)
    rw [or_xor_zero] at h
    rw [e1, e2, List.cons_beq_cons, ← Bool.and_assoc]
    refine Ev.step (fun k => ?_) h
    simp only [cap_Check.l1, mk_size]
    rw [if_pos (by omega), if_pos (by omega), if_pos (by omega), if_pos (by omega), bt_mk _ _ h1, bt_mk _ _ h2, u8_xor', u8_or', wrap_succ (n := 32) (by omega) (by omega)]
theorem check0_ev (l : List SC) (s : List UInt8) (hl : l.length ≤ 8) (hg : l.all goodC = true) (hs : s.length = 32) (a b : Int) (l0 : List SC) : ∀ (cs : List SC) (i : Nat) (key : List UInt8), l.drop i = cs → i ≤ l.length → key.length = 32 → Ev (fun k => cap_Check.l0 k ⟨key.toArray⟩ l (l.length : Int) (i : Int) a b l0 ⟨s.toArray⟩) (keyL key cs == s) := by
  intro cs
  induction cs with
  | nil =>
    intro i key hd hi hk
    have := drop_nil_len hd hi
    have h1 := check1_ev key s hk hs a b l0 32 0 0 rfl
    simp only [List.drop_zero, beq_self_eq_true, Bool.true_and] at h1
    refine Ev.step (fun k => ?_) h1
    simp only [cap_Check.l0, mk_size, hk]
    rw [if_neg (by omega)]
    rfl
  | cons c cs ih =>
    intro i key hd hi hk
    obtain ⟨h1, h2, h3⟩ := rd_drop l i c cs hd
    have hc : goodC c = true := List.all_eq_true.1 hg c (List.mem_of_mem_drop (by rw [hd]; exact List.mem_cons_self ..))
    have hb := capB_len hc
    have h := ih (i + 1) (sealB key (capB c)) h2 h3 (seal_length _ _)
    refine Ev.step (f := fun k => (cap_bytes.f k c.f0 c.f1 c.f2).bind fun x => (mac_Seal.f ⟨key.toArray⟩ (strOfNums x)).bind fun y => cap_Check.l0 k y l (l.length : Int) ((i + 1 : Nat) : Int) a b l0 ⟨s.toArray⟩) (fun k => ?_) ?_
    · simp only [cap_Check.l0]
      rw [if_pos (by omega), if_pos (by omega), if_pos (by omega), h1, wrap_succ h3 (by omega)]
    · refine Ev.bind (bytes_ev c hc) ?_
      simp only [nums_mk, mac_Seal.f, seal_is key (capB c) (by omega) (by omega), Option.bind_some]
      exact h
theorem check_ev (sec : List UInt8) (t n : Int) (l : List SC) (s : List UInt8) (hsec : sec.length ≤ 1000) : Ev (fun k => cap_Check.f k ⟨sec.toArray⟩ t n l ⟨s.toArray⟩) (mayB t n l ⟨s.toArray⟩ && (keyL (sealF sec t n) l == s)) := by
  simp only [cap_Check.f]
  refine Ev.bind (may_ev t n l _) ?_
  cases hm : mayB t n l ⟨s.toArray⟩
  · simp only [Bool.false_eq_true, if_false, Bool.false_and]
    exact Ev.now _
  · obtain ⟨h1, h2, h3, h4⟩ := mayB_facts hm
    rw [mk_size] at h3
    have hf := firstL_len h1
    simp only [if_true, Bool.true_and]
    refine Ev.bind (first_ev t n h1) ?_
    simp only [mac_Seal.f, seal_is sec (firstL t n) (by omega) (by omega), Option.bind_some]
    exact check0_ev l s h2 h4 h3 t n l l 0 (sealF sec t n) rfl (Nat.zero_le _) (seal_length _ _)
theorem hasPrefix_is (a b : ByteArray) : strings_HasPrefix.f a b = some (b.data.toList.isPrefixOf a.data.toList) := by
  have ha : a.size = a.data.toList.length := rfl
  have hb : b.size = b.data.toList.length := rfl
  simp only [strings_HasPrefix.f, stringslite_HasPrefix.f]
  by_cases h : b.size ≤ a.size
  · rw [if_pos (by omega), if_pos (by omega), if_pos (by omega)]
    simp only [Option.bind_some, toList_data, Int.toNat_natCast]
    congr 1
    rw [Bool.eq_iff_iff, beq_iff_eq, List.isPrefixOf_iff_prefix]
    have e : (a.extract 0 b.size).data.toList = a.data.toList.take b.size := by
      rw [ByteArray.data_extract, Array.toList_extract]
      simp [List.extract_eq_take_drop]
    rw [e, List.prefix_iff_eq_take, hb]
    exact eq_comm
  · rw [if_neg (by omega)]
    simp only [Option.bind_some]
    congr 1
    symm
    rw [Bool.eq_false_iff, Ne, List.isPrefixOf_iff_prefix]
    intro hp
    have := hp.length_le
    omega
def coversB (a p : ByteArray) : Bool := placeB a && (placeB p && coverL a.data.toList p.data.toList)
theorem covers_is (a p : ByteArray) : path_Covers.f a p = some (coversB a p) := by
  simp only [path_Covers.f, place_is, Option.bind_some, coversB, coverL]
  cases ha : placeB a
  · simp
  cases hp : placeB p
  · simp
  have hs := placeB_le ha
  simp only [if_true, Bool.true_and, toList_data]
  by_cases h0 : a.data.toList = []
  · rw [if_pos h0, h0]; rfl
  rw [if_neg h0, show (a.data.toList == []) = false from beq_eq_false_iff_ne.2 h0, Bool.false_or]
  by_cases h1 : p.data.toList = a.data.toList
  · rw [if_pos h1, h1]
    congr 1
    symm
    rw [List.isPrefixOf_iff_prefix]
    exact List.prefix_refl _
  rw [if_neg h1, if_pos (by omega), hasPrefix_is]
  simp only [Option.bind_some]
  congr 1
  rw [Bool.eq_iff_iff, List.isPrefixOf_iff_prefix, List.isPrefixOf_iff_prefix, stroke_prefix]
  rw [show (a ++ (⟨#[47]⟩ : ByteArray)).data.toList = a.data.toList ++ [47] by rw [ByteArray.data_append]; simp]
  constructor
  · exact Or.inr
  · rintro (h | h)
    · exact absurd h h1
    · exact h
/-- does a caveat let something -/
def letC (r : Int) (p : ByteArray) (now : Int) (c : SC) : Bool := coversB c.f0 p && (!decide (Go.bits .and .i64 c.f1 r = 0) && !decide (now > c.f2))
def rightB (r : Int) : Bool := decide (r = 1) || (decide (r = 2) || decide (r = 4))
theorem letsL_ev (r : Int) (p : ByteArray) (now : Int) (l : List SC) (hn : l.length < 1000000) : Ev (fun k => cap_Lets.l0 k r p now l (l.length : Int) 0) (l.all (letC r p now)) := by
  refine all_loop l (letC r p now) (fun k i => cap_Lets.l0 k r p now l (l.length : Int) i) (fun i c cs hd hc R hr => ?_) (fun i c cs hd hc => ?_) ?_ l 0 rfl (Nat.zero_le _)
  · obtain ⟨h1, h2, h3⟩ := rd_drop l i c cs hd
    simp only [letC, Bool.and_eq_true, Bool.not_eq_true', decide_eq_false_iff_not] at hc
    obtain ⟨c1, c2, c3⟩ := hc
    refine Ev.step (fun k => ?_) hr
    simp only [cap_Lets.l0]
    rw [if_pos (by omega), if_pos (by omega), if_pos (by omega), h1, covers_is, Option.bind_some, if_pos c1, if_neg c2, if_neg c3, wrap_succ h3 (by omega)]
  · obtain ⟨h1, h2, h3⟩ := rd_drop l i c cs hd
    refine Ev.step (f := fun _ => some false) (fun k => ?_) (Ev.now _)
    simp only [cap_Lets.l0]
    rw [if_pos (by omega), if_pos (by omega), if_pos (by omega), h1, covers_is, Option.bind_some]
    by_cases c1 : coversB c.f0 p = true
    · rw [if_pos c1]
      by_cases c2 : Go.bits .and .i64 c.f1 r = 0
      · rw [if_pos c2]
      · rw [if_neg c2]
        by_cases c3 : now > c.f2
        · rw [if_pos c3]
        · exact absurd hc (by simp only [letC, c1, c2, c3]; simp)
    · rw [if_neg c1]
  · refine Ev.step (f := fun _ => some true) (fun k => ?_) (Ev.now _)
    simp only [cap_Lets.l0]
    rw [if_neg (by omega)]
def letsB (t n : Int) (l : List SC) (s : ByteArray) (r : Int) (p : ByteArray) (now : Int) : Bool := rightB r && (placeB p && (mayB t n l s && l.all (letC r p now)))
theorem letsT_ev (r : Int) (p : ByteArray) (now t n : Int) (l : List SC) (s : ByteArray) : Ev (fun k => cap_Lets.j0 k r p now true t n l s) false :=
  Ev.step (f := fun _ => some false) (fun k => by simp only [cap_Lets.j0]; rw [if_pos trivial]) (Ev.now _)
theorem letsM_ev (r : Int) (p : ByteArray) (now t n : Int) (l : List SC) (s : ByteArray) : Ev (fun k => (cap_May.f k t n l s).bind fun x => cap_Lets.j0 k r p now (!x) t n l s) (mayB t n l s && l.all (letC r p now)) := by
  refine Ev.bind (may_ev t n l s) ?_
  cases hm : mayB t n l s
  · exact letsT_ev r p now t n l s
  · have hl := (mayB_facts hm).2.1
    refine Ev.step (fun k => ?_) (letsL_ev r p now l (by omega))
    simp only [cap_Lets.j0]
    rw [if_neg (by simp)]
theorem lets_ev (t n : Int) (l : List SC) (s : ByteArray) (r : Int) (p : ByteArray) (now : Int) : Ev (fun k => cap_Lets.f k t n l s r p now) (letsB t n l s r p now) := by
  simp only [cap_Lets.f, place_is, Option.bind_some, letsB, rightB]
  by_cases h1 : r = 1
  · rw [show decide (r = 1) = true from decide_eq_true h1, Bool.true_or, Bool.true_and]
    simp only [if_pos h1]
    cases placeB p
    · simp only [Bool.false_eq_true, if_false, Bool.false_and]; exact letsT_ev r p now t n l s
    · simp only [if_true, Bool.true_and]; exact letsM_ev r p now t n l s
  by_cases h2 : r = 2
  · rw [show decide (r = 1) = false from decide_eq_false h1, show decide (r = 2) = true from decide_eq_true h2, Bool.false_or, Bool.true_or, Bool.true_and]
    simp only [if_neg h1, if_pos h2]
    cases placeB p
    · simp only [Bool.false_eq_true, if_false, Bool.false_and]; exact letsT_ev r p now t n l s
    · simp only [if_true, Bool.true_and]; exact letsM_ev r p now t n l s
  by_cases h4 : r = 4
  · rw [show decide (r = 1) = false from decide_eq_false h1, show decide (r = 2) = false from decide_eq_false h2, show decide (r = 4) = true from decide_eq_true h4, Bool.false_or, Bool.false_or, Bool.true_and]
    simp only [if_neg h1, if_neg h2, if_pos h4]
    cases placeB p
    · simp only [Bool.false_eq_true, if_false, Bool.false_and]; exact letsT_ev r p now t n l s
    · simp only [if_true, Bool.true_and]; exact letsM_ev r p now t n l s
  rw [show decide (r = 1) = false from decide_eq_false h1, show decide (r = 2) = false from decide_eq_false h2, show decide (r = 4) = false from decide_eq_false h4, Bool.false_or, Bool.false_or, Bool.false_and]
  simp only [if_neg h1, if_neg h2, if_neg h4]
  exact letsT_ev r p now t n l s
abbrev cE : SC := ⟨⟨#[97]⟩, 1, 9⟩
theorem cE_good : goodC cE = true := by decide +kernel
theorem lives_ev : Ev (fun k => strongroomlaw12_lives.f k) true := by
  have hk : knownB 1 5 = true := by decide
  have hm : mayB 1 5 [] ⟨(sealF [115] 1 5).toArray⟩ = true := by
    simp only [mayB, hk, mk_size, sealF, seal_length]; decide
  have hm2 : mayB 1 5 [cE] ⟨(sealB (sealF [115] 1 5) (capB cE)).toArray⟩ = true := by
    simp only [mayB, hk, mk_size, seal_length, List.all_cons, cE_good]; decide
  have nr := narrow_ev 1 5 [] (sealF [115] 1 5) cE hm cE_good (by decide)
  have l1 := lets_ev 1 5 [cE] ⟨(sealB (sealF [115] 1 5) (capB cE)).toArray⟩ 1 ⟨#[97, 47, 98]⟩ 9
  rw [show letsB 1 5 [cE] ⟨(sealB (sealF [115] 1 5) (capB cE)).toArray⟩ 1 ⟨#[97, 47, 98]⟩ 9 = true by rw [letsB, hm2]; decide +kernel] at l1
  have l2 := lets_ev 1 5 [cE] ⟨(sealB (sealF [115] 1 5) (capB cE)).toArray⟩ 2 ⟨#[97]⟩ 9
  rw [show letsB 1 5 [cE] ⟨(sealB (sealF [115] 1 5) (capB cE)).toArray⟩ 2 ⟨#[97]⟩ 9 = false by rw [letsB, hm2]; decide +kernel] at l2
  have l3 := lets_ev 1 5 [cE] ⟨(sealB (sealF [115] 1 5) (capB cE)).toArray⟩ 1 ⟨#[98]⟩ 9
  rw [show letsB 1 5 [cE] ⟨(sealB (sealF [115] 1 5) (capB cE)).toArray⟩ 1 ⟨#[98]⟩ 9 = false by rw [letsB, hm2]; decide +kernel] at l3
  have l4 := lets_ev 1 5 [cE] ⟨(sealB (sealF [115] 1 5) (capB cE)).toArray⟩ 1 ⟨#[97]⟩ 10
  rw [show letsB 1 5 [cE] ⟨(sealB (sealF [115] 1 5) (capB cE)).toArray⟩ 1 ⟨#[97]⟩ 10 = false by rw [letsB, hm2]; decide +kernel] at l4
  have ch := check_ev [115] 1 5 [cE] (sealB (sealF [115] 1 5) (capB cE)) (by decide)
  rw [hm2, show keyL (sealF [115] 1 5) [cE] = sealB (sealF [115] 1 5) (capB cE) from rfl, beq_self_eq_true, Bool.and_true] at ch
  simp only [strongroomlaw12_lives.f]
  refine Ev.bind (mint_ev [115] 1 5 (by decide) hk) ?_
  refine Ev.bind nr ?_
  refine ifpos rfl ?_
  refine ifpos rfl ?_
  refine Ev.bind l1 ?_
  refine ifpos rfl ?_
  refine Ev.bind l2 ?_
  refine ifneg (by simp) ?_
  refine Ev.bind l3 ?_
  refine ifneg (by simp) ?_
  refine Ev.bind l4 ?_
  refine ifneg (by simp) ?_
  exact Ev.bind ch (Ev.now _)
theorem lives_ev' : Ev (fun k => (strongroomlaw12_lives.f k).bind fun t => some t) true := Ev.bind lives_ev (Ev.now _)
/-- a text cut at its strokes -/
def cutL : List UInt8 → List (List UInt8)
  | [] => [[]]
  | b :: l => if b = 47 then [] :: cutL l else match cutL l with
    | [] => [[b]]
    | h :: t => (b :: h) :: t
theorem cutL_ne : ∀ l : List UInt8, cutL l ≠ []
  | [] => by simp [cutL]
  | b :: l => by
    unfold cutL
    split
    · simp
    · cases h : cutL l <;> simp
theorem splitK_ne (b : UInt8) (l : List UInt8) (h : b ≠ 47) (k : Nat) : Go.Lib.splitK [47] 0 k (b :: l) = match Go.Lib.splitK [47] 0 k l with
    | [] => [[b]]
    | x :: t => (b :: x) :: t := by
  cases k with
  | zero => rfl
  | succ k =>
    have hp : ([47] : List UInt8).isPrefixOf (b :: l) = false := by simp [List.isPrefixOf, Ne.symm h]
    have hix : Go.Lib.index (b :: l) [47] = if Go.Lib.index l [47] == -1 then -1 else Go.Lib.index l [47] + 1 := by rw [Go.Lib.index, hp]; simp
    by_cases hm : Go.Lib.index l [47] = -1
    · simp only [Go.Lib.splitK, hix, hm]
      rfl
    · have hge := Go.Lib.index_ge l [47]
      have hm2 : (Go.Lib.index l [47] == -1) = false := beq_eq_false_iff_ne.2 hm
      have hm3 : (Go.Lib.index l [47] + 1 == -1) = false := beq_eq_false_iff_ne.2 (by omega)
      simp only [Go.Lib.splitK, hix, hm2, hm3, Bool.false_eq_true, if_false]
      have e : (Go.Lib.index l [47] + 1).toNat = (Go.Lib.index l [47]).toNat + 1 := by omega
      rw [e]
      simp
theorem splitK_cutL : ∀ l : List UInt8, Go.Lib.splitK [47] 0 (Go.Lib.count l [47]) l = cutL l
  | [] => by rw [Go.Lib.count_miss (by simp [Go.Lib.index])]; rfl
  | b :: l => by
    by_cases h : b = 47
    · subst h
      have hix : Go.Lib.index (47 :: l) [47] = 0 := by rw [Go.Lib.index]; simp [List.isPrefixOf]
      rw [Go.Lib.count_cons_eq, Nat.add_comm]
      simp only [Go.Lib.splitK, hix]
      rw [if_neg (by decide)]
      simp only [cutL, if_true, ← splitK_cutL l]
      rfl
    · rw [Go.Lib.count_cons_ne b 47 l h, splitK_ne b l h, splitK_cutL l]
      simp only [cutL, if_neg h]
theorem pieces_data (s : ByteArray) : (pieces s).map (·.data.toList) = cutL s.data.toList := by
  rw [pieces, Go.Lib.splitB_data]
  exact splitK_cutL s.data.toList
/-- is a text a path, in plain lists -/
def goodL (s : List UInt8) : Bool := decide (1 ≤ s.length) && decide (s.length ≤ 32) && (cutL s).all nameB
theorem goodB_goodL (s : ByteArray) : goodB s = goodL s.data.toList := by
  unfold goodB goodL
  rw [← pieces_data, List.all_map]
  rfl
theorem cutL_app : ∀ (a b : List UInt8), cutL (a ++ 47 :: b) = cutL a ++ cutL b
  | [], b => by simp [cutL]
  | x :: a, b => by
    by_cases h : x = 47
    · simp only [List.cons_append, cutL, if_pos h, cutL_app a b]
    · simp only [List.cons_append, cutL, if_neg h, cutL_app a b]
      cases hc : cutL a with
      | nil => exact absurd hc (cutL_ne a)
      | cons y t => rfl
/-- the text of some pieces -/
def joinL : List (List UInt8) → List UInt8
  | [] => []
  | [x] => x
  | x :: y :: t => x ++ 47 :: joinL (y :: t)
theorem joinL_cons (x : List UInt8) (t : List (List UInt8)) (h : t ≠ []) : joinL (x :: t) = x ++ 47 :: joinL t := by
  cases t with
  | nil => exact absurd rfl h
  | cons y t => rfl
theorem joinL_cutL : ∀ l : List UInt8, joinL (cutL l) = l
  | [] => rfl
  | b :: l => by
    have ih := joinL_cutL l
    by_cases h : b = 47
    · simp only [cutL, if_pos h]
      rw [joinL_cons _ _ (cutL_ne l), ih, h]
      rfl
    · simp only [cutL, if_neg h]
      cases hc : cutL l with
      | nil => exact absurd hc (cutL_ne l)
      | cons y t =>
        rw [hc] at ih
        cases t with
        | nil => simp only [joinL] at ih ⊢; rw [ih]
        | cons z t => simp only [joinL] at ih ⊢; rw [← ih]; rfl
theorem joinL_app (a b : List (List UInt8)) (ha : a ≠ []) (hb : b ≠ []) : joinL (a ++ b) = joinL a ++ 47 :: joinL b := by
  induction a with
  | nil => exact absurd rfl ha
  | cons x a ih =>
    by_cases h : a = []
    · subst h
      rw [List.cons_append, List.nil_append, joinL_cons _ _ hb]; rfl
    · rw [List.cons_append, joinL_cons _ _ (by simp [h]), joinL_cons _ _ h, ih h]
      simp
/-- a place's pieces stand at the head of a path's just if it is the path, or the path begins with it and a stroke -/
theorem prefix_cut (a p : List UInt8) : cutL a <+: cutL p ↔ p = a ∨ (a ++ [47]) <+: p := by
  constructor
  · rintro ⟨t, ht⟩
    by_cases h : t = []
    · subst h
      rw [List.append_nil] at ht
      left
      rw [← joinL_cutL p, ← ht, joinL_cutL]
    · right
      refine ⟨joinL t, ?_⟩
      have := joinL_app (cutL a) t (cutL_ne a) h
      rw [ht, joinL_cutL, joinL_cutL] at this
      rw [this]; simp
  · rintro (rfl | ⟨t, rfl⟩)
    · exact List.prefix_refl _
    · refine ⟨cutL t, ?_⟩
      rw [List.append_assoc]
      exact (cutL_app a t).symm
/-- the place that two have in common -/
def meetP (a b : ByteArray) : Option ByteArray := if coversB a b = true then some b else if coversB b a = true then some a else none
theorem pmeet_is (a b : ByteArray) : path_Meet.f a b = some (match meetP a b with | some q => (q, true) | none => (⟨#[]⟩, false)) := by
  simp only [path_Meet.f, covers_is, Option.bind_some, meetP]
  by_cases h : coversB a b = true
  · simp only [if_pos h]
  · simp only [if_neg h]
    by_cases h2 : coversB b a = true
    · simp only [if_pos h2]
    · simp only [if_neg h2]
/-- the caveat that two have in common, if their places have one -/
def meetC (m c : SC) : Option SC := (meetP m.f0 c.f0).map fun q => ⟨q, Go.bits .and .i64 m.f1 c.f1, mn m.f2 c.f2⟩
def meetL : SC → List SC → Option SC
  | m, [] => some m
  | m, c :: cs => (meetC m c).bind fun x => meetL x cs
theorem and_range : ∀ a, a < 8 → ∀ b, b < 8 → 0 ≤ Go.bits .and .i64 ((a : Nat) : Int) ((b : Nat) : Int) ∧ Go.bits .and .i64 ((a : Nat) : Int) ((b : Nat) : Int) ≤ 7 := by decide +kernel
theorem and_zero : ∀ r, r < 3 → ∀ a, a < 8 → ∀ b, b < 8 → (Go.bits .and .i64 (Go.bits .and .i64 ((a : Nat) : Int) ((b : Nat) : Int)) ((2 ^ r : Nat) : Int) == 0) = ((Go.bits .and .i64 ((a : Nat) : Int) ((2 ^ r : Nat) : Int) == 0) || (Go.bits .and .i64 ((b : Nat) : Int) ((2 ^ r : Nat) : Int) == 0)) := by decide +kernel
theorem mn_le (a b x : Int) : x > mn a b ↔ x > a ∨ x > b := by unfold mn; split <;> omega
theorem rightB_iff (r : Int) : rightB r = true ↔ r = 1 ∨ r = 2 ∨ r = 4 := by simp [rightB]
theorem covers_facts {a p : ByteArray} (h : coversB a p = true) : placeB a = true ∧ placeB p = true ∧ coverL a.data.toList p.data.toList = true := by
  simpa only [coversB, Bool.and_eq_true] using h
theorem coversB_of {a p : ByteArray} (ha : placeB a = true) (hp : placeB p = true) : coversB a p = coverL a.data.toList p.data.toList := by
  rw [coversB, ha, hp, Bool.true_and, Bool.true_and]
/-- covering the common place is covering both -/
theorem meetP_covers {a b p : ByteArray} (ha : placeB a = true) (hb : placeB b = true) (hp : placeB p = true) :
    match meetP a b with
    | some q => placeB q = true ∧ coversB q p = (coversB a p && coversB b p)
    | none => (coversB a p && coversB b p) = false := by
  unfold meetP
  by_cases h : coversB a b = true
  · rw [if_pos h]
    refine ⟨hb, ?_⟩
    cases hbp : coversB b p
    · simp
    · have := coverL_tr (covers_facts h).2.2 (covers_facts hbp).2.2
      rw [coversB_of ha hp, this]; rfl
  rw [if_neg h]
  by_cases h2 : coversB b a = true
  · rw [if_pos h2]
    refine ⟨ha, ?_⟩
    cases hap : coversB a p
    · simp
    · have := coverL_tr (covers_facts h2).2.2 (covers_facts hap).2.2
      rw [coversB_of hb hp, this]; rfl
  rw [if_neg h2]
  cases hap : coversB a p
  · simp
  cases hbp : coversB b p
  · simp
  rcases coverL_chain (covers_facts hap).2.2 (covers_facts hbp).2.2 with h3 | h3
  · exact absurd (by rw [coversB_of ha hb]; exact h3) h
  · exact absurd (by rw [coversB_of hb ha]; exact h3) h2
theorem meetC_let {m c : SC} (hm : goodC m = true) (hc : goodC c = true) {r now : Int} {p : ByteArray} (hr : rightB r = true) (hp : placeB p = true) :
    match meetC m c with
    | some x => goodC x = true ∧ letC r p now x = (letC r p now m && letC r p now c)
    | none => (letC r p now m && letC r p now c) = false := by
  obtain ⟨m0, m1, m2, m3, m4⟩ := goodC_facts hm
  obtain ⟨c0, c1, c2, c3, c4⟩ := goodC_facts hc
  have hP := meetP_covers m0 c0 hp
  have hr2 := (rightB_iff r).1 hr
  obtain ⟨s1, s2⟩ := and_range m.f1.toNat (by omega) c.f1.toNat (by omega)
  obtain ⟨j, hj, hjr⟩ : ∃ j : Nat, j < 3 ∧ r = ((2 ^ j : Nat) : Int) := by
    rcases hr2 with rfl | rfl | rfl
    · exact ⟨0, by decide, rfl⟩
    · exact ⟨1, by decide, rfl⟩
    · exact ⟨2, by decide, rfl⟩
  have s4 := and_zero j hj m.f1.toNat (by omega) c.f1.toNat (by omega)
  rw [← hjr] at s4
  rw [show ((m.f1.toNat : Nat) : Int) = m.f1 by omega, show ((c.f1.toNat : Nat) : Int) = c.f1 by omega] at s1 s2 s4
  unfold meetC
  cases hq : meetP m.f0 c.f0 with
  | none =>
    rw [hq] at hP
    simp only [Option.map_none]
    simp only [letC]
    revert hP
    cases coversB m.f0 p <;> cases coversB c.f0 p <;> simp
  | some q =>
    rw [hq] at hP
    obtain ⟨h1, h2⟩ := hP
    simp only [Option.map_some]
    refine ⟨?_, ?_⟩
    · have hmn : 0 ≤ mn m.f2 c.f2 ∧ mn m.f2 c.f2 ≤ 1099511627776 := by unfold mn; split <;> omega
      simp only [goodC, h1, Bool.true_and, Bool.and_eq_true, decide_eq_true_eq]
      exact ⟨s1, s2, hmn.1, hmn.2⟩
    · simp only [letC, h2]
      have e1 : decide (Go.bits .and .i64 (Go.bits .and .i64 m.f1 c.f1) r = 0) = (decide (Go.bits .and .i64 m.f1 r = 0) || decide (Go.bits .and .i64 c.f1 r = 0)) := by
        rw [Bool.eq_iff_iff, Bool.or_eq_true, beq_iff_eq, beq_iff_eq, beq_iff_eq] at s4
        rw [Bool.eq_iff_iff, Bool.or_eq_true, decide_eq_true_eq, decide_eq_true_eq, decide_eq_true_eq]; exact s4
      have e2 : decide (now > mn m.f2 c.f2) = (decide (now > m.f2) || decide (now > c.f2)) := by
        rw [Bool.eq_iff_iff, Bool.or_eq_true, decide_eq_true_eq, decide_eq_true_eq, decide_eq_true_eq]; exact mn_le _ _ _
      rw [e1, e2]
      cases coversB m.f0 p <;> cases coversB c.f0 p <;> cases decide (Go.bits .and .i64 m.f1 r = 0) <;> cases decide (Go.bits .and .i64 c.f1 r = 0) <;> cases decide (now > m.f2) <;> cases decide (now > c.f2) <;> rfl
theorem meetC_good {m c x : SC} (hm : goodC m = true) (hc : goodC c = true) (h : meetC m c = some x) : goodC x = true := by
  have := meetC_let (r := 1) (now := 0) (p := ⟨#[]⟩) hm hc (by decide) (by decide +kernel)
  rw [h] at this
  exact this.1
theorem meetL_let (r now : Int) (p : ByteArray) (hr : rightB r = true) (hp : placeB p = true) : ∀ (l : List SC) (m : SC), goodC m = true → l.all goodC = true →
    match meetL m l with
    | some x => goodC x = true ∧ letC r p now x = (letC r p now m && l.all (letC r p now))
    | none => (letC r p now m && l.all (letC r p now)) = false := by
  intro l
  induction l with
  | nil => intro m hm _; exact ⟨hm, by simp⟩
  | cons c cs ih =>
    intro m hm hl
    rw [List.all_cons, Bool.and_eq_true] at hl
    have h1 := meetC_let (now := now) hm hl.1 hr hp
    simp only [meetL]
    cases hx : meetC m c with
    | none =>
      rw [hx] at h1
      simp only [Option.bind_none, List.all_cons]
      rw [← Bool.and_assoc, h1, Bool.false_and]
    | some x =>
      rw [hx] at h1
      have h2 := ih x h1.1 hl.2
      rw [h1.2] at h2
      simp only [Option.bind_some, List.all_cons]
      rw [← Bool.and_assoc]
      exact h2
theorem meetL_good : ∀ (l : List SC) (m x : SC), goodC m = true → l.all goodC = true → meetL m l = some x → goodC x = true := by
  intro l m x hm hl h
  have := meetL_let 1 0 ⟨#[]⟩ (by decide) (by decide +kernel) l m hm hl
  rw [h] at this
  exact this.1
abbrev meetR (o : Option SC) : ByteArray × Int × Int × Bool := match o with | some x => (x.f0, x.f1, x.f2, true) | none => (⟨#[]⟩, 0, 0, false)
theorem meetLoop_ev (l : List SC) (hn : l.length < 1000000) : ∀ (cs : List SC) (i : Nat) (m : SC), l.drop i = cs → i ≤ l.length → Ev (fun k => cap_Meet.l0 k l (l.length : Int) (i : Int) m.f0 m.f1 m.f2) (meetR (meetL m cs)) := by
  intro cs
  induction cs with
  | nil =>
    intro i m hd hi
    have := drop_nil_len hd hi
    refine Ev.step (f := fun _ => some (m.f0, m.f1, m.f2, true)) (fun k => ?_) (Ev.now _)
    simp only [cap_Meet.l0]
    rw [if_neg (by omega)]
  | cons c cs ih =>
    intro i m hd hi
    obtain ⟨h1, h2, h3⟩ := rd_drop l i c cs hd
    simp only [meetL, meetC]
    cases hq : meetP m.f0 c.f0 with
    | none =>
      refine Ev.step (f := fun _ => some (⟨#[]⟩, 0, 0, false)) (fun k => ?_) (Ev.now _)
      simp only [cap_Meet.l0]
      rw [if_pos (by omega), if_pos (by omega), if_pos (by omega), h1, pmeet_is, hq]
      simp
    | some q =>
      have h := ih (i + 1) ⟨q, Go.bits .and .i64 m.f1 c.f1, mn m.f2 c.f2⟩ h2 h3
      refine Ev.step (fun k => ?_) h
      simp only [cap_Meet.l0]
      rw [if_pos (by omega), if_pos (by omega), if_pos (by omega), h1, pmeet_is, hq, wrap_succ h3 (by omega)]
      simp
abbrev m0C : SC := ⟨⟨#[]⟩, 7, 1099511627776⟩
theorem meet_ev (t n : Int) (l : List SC) (s : ByteArray) : Ev (fun k => cap_Meet.f k t n l s) (meetR (if mayB t n l s = true then meetL m0C l else none)) := by
  simp only [cap_Meet.f]
  refine Ev.bind (may_ev t n l s) ?_
  cases hm : mayB t n l s
  · simp only [Bool.false_eq_true, if_false]
    exact Ev.now _
  · have hl := (mayB_facts hm).2.1
    simp only [if_true]
    exact meetLoop_ev l (by omega) l 0 m0C rfl (Nat.zero_le _)
theorem m0C_good : goodC m0C = true := by decide +kernel
theorem m0C_let (r now : Int) (p : ByteArray) (hr : rightB r = true) (hp : placeB p = true) : letC r p now m0C = decide (now ≤ 1099511627776) := by
  have h1 : coversB m0C.f0 p = true := by
    rw [coversB_of (by decide +kernel) hp]
    rfl
  have h2 : decide (Go.bits .and .i64 7 r = 0) = false := by
    rcases (rightB_iff r).1 hr with rfl | rfl | rfl <;> decide +kernel
  simp only [letC, h1, h2]
  by_cases h : now ≤ 1099511627776
  · simp [h]
  · simp [h]; omega
theorem letC_now {r now : Int} {p : ByteArray} {c : SC} (h : letC r p now c = true) : now ≤ c.f2 := by
  simp [letC] at h; omega
/-- the same cut, with what stands ahead -/
def cutG : List UInt8 → List UInt8 → List (List UInt8)
  | cur, [] => [cur]
  | cur, b :: l => if b = 47 then cur :: cutG [] l else cutG (cur ++ [b]) l
theorem cutG_eq : ∀ (l cur : List UInt8), cutG cur l = match cutL l with | [] => [cur] | h :: t => (cur ++ h) :: t
  | [], cur => by simp [cutG, cutL]
  | b :: l, cur => by
    unfold cutG cutL
    by_cases h : b = 47
    · rw [if_pos h, if_pos h, cutG_eq l []]
      cases hc : cutL l with
      | nil => exact absurd hc (cutL_ne l)
      | cons x t => simp
    · rw [if_neg h, if_neg h, cutG_eq l (cur ++ [b])]
      cases hc : cutL l with
      | nil => simp
      | cons x t => simp
theorem cutG_nil (l : List UInt8) : cutG [] l = cutL l := by
  rw [cutG_eq]
  cases hc : cutL l with
  | nil => exact absurd hc (cutL_ne l)
  | cons x t => simp
abbrev mkB (p : List UInt8) : ByteArray := ⟨p.toArray⟩
theorem extract_mk (s : List UInt8) (a b : Nat) : (⟨s.toArray⟩ : ByteArray).extract a b = mkB ((s.drop a).take (b - a)) := by
  apply ByteArray.ext
  rw [ByteArray.data_extract]
  simp [List.extract_eq_take_drop]
theorem drop_cons_facts {α : Type} {l : List α} {i : Nat} {c : α} {cs : List α} (h : l.drop i = c :: cs) : l[i]? = some c ∧ l.drop (i + 1) = cs ∧ i < l.length := by
  have hlt : i < l.length := by
    rcases Nat.lt_or_ge i l.length with g | g
    · exact g
    · rw [List.drop_eq_nil_of_le g] at h; cases h
  refine ⟨?_, ?_, hlt⟩
  · have := congrArg List.head? h
    simpa [List.head?_drop] using this
  · have := congrArg List.tail h
    simpa [List.tail_drop] using this
theorem getD_of {l : List UInt8} {i : Nat} {c : UInt8} (h : l[i]? = some c) : l.getD i 0 = c := by rw [List.getD_eq_getElem?_getD, h]; rfl
theorem take_piece {s : List UInt8} {f i : Nat} {b : UInt8} (hf : f ≤ i) (hb : s[i]? = some b) : (s.drop f).take (i + 1 - f) = (s.drop f).take (i - f) ++ [b] := by
  rw [show i + 1 - f = (i - f) + 1 by omega, List.take_add_one, List.getElem?_drop, show f + (i - f) = i by omega, hb]; rfl
theorem cut_loop (s : List UInt8) (hs : s.length < 1000000) : ∀ (rest : List UInt8) (i f : Nat) (acc : List ByteArray), s.drop i = rest → f ≤ i → i ≤ s.length → acc.length ≤ i → Ev (fun k => strongroomref05_Cut.l0 k ⟨s.toArray⟩ acc (f : Int) (i : Int)) (acc ++ (cutG ((s.drop f).take (i - f)) rest).map mkB) := by
  intro rest
  induction rest with
  | nil =>
    intro i f acc hd hf hi ha
    have hl := drop_nil_len hd hi
    refine Ev.step (f := fun k => strongroomref05_Cut.l0 k ⟨s.toArray⟩ (acc ++ [mkB ((s.drop f).take (i - f))]) (wrap64 ((i : Int) + 1)) (wrap64 ((i : Int) + 1))) (fun k => ?_) (Ev.step (f := fun _ => some (acc ++ [mkB ((s.drop f).take (i - f))])) (fun k => ?_) (Ev.now _))
    · simp only [strongroomref05_Cut.l0, mk_size]
      rw [if_pos (by omega), if_pos (by omega), if_pos (by omega), if_pos (by omega), if_pos (by omega), Int.toNat_natCast, Int.toNat_natCast, extract_mk]
    · simp only [strongroomref05_Cut.l0, mk_size]
      rw [if_neg (by unfold wrap64; omega)]
  | cons b rest ih =>
    intro i f acc hd hf hi ha
    obtain ⟨h1, h2, h3⟩ := drop_cons_facts hd
    have hb : bt ⟨s.toArray⟩ (i : Int) = I b := by rw [bt_mk s i h3, getD_of h1]
    have hw := wrap_succ h3 (by omega)
    by_cases h47 : b = 47
    · have h := ih (i + 1) (i + 1) (acc ++ [mkB ((s.drop f).take (i - f))]) h2 (Nat.le_refl _) h3 (by simp; omega)
      rw [Nat.sub_self, List.take_zero] at h
      rw [cutG, if_pos h47, List.map_cons]
      rw [List.append_assoc, List.singleton_append] at h
      refine Ev.step (fun k => ?_) h
      simp only [strongroomref05_Cut.l0, mk_size]
      rw [if_pos (by omega), if_neg (by omega), if_pos (by omega), if_pos (by omega), hb, if_pos (by rw [h47]; rfl), if_pos (by omega), if_pos (by omega), if_pos (by omega), Int.toNat_natCast, Int.toNat_natCast, extract_mk, hw]
    · have h := ih (i + 1) f acc h2 (by omega) h3 (by omega)
      rw [take_piece hf h1] at h
      rw [cutG, if_neg h47]
      refine Ev.step (fun k => ?_) h
      simp only [strongroomref05_Cut.l0, mk_size]
      rw [if_pos (by omega), if_neg (by omega), if_pos (by omega), if_pos (by omega), hb, if_neg (by intro h; exact h47 (UInt8.toNat.inj (show b.toNat = 47 by simp only [I] at h; omega))), hw]
theorem cut_ev (s : List UInt8) (hs : s.length < 1000000) : Ev (fun k => strongroomref05_Cut.f k ⟨s.toArray⟩) ((cutL s).map mkB) := by
  simp only [strongroomref05_Cut.f]
  have h := cut_loop s hs s 0 0 [] rfl (Nat.le_refl _) (Nat.zero_le _) (Nat.zero_le _)
  simp only [Nat.sub_self, List.take_zero, List.nil_append, cutG_nil] at h
  exact h
theorem nameJ_t (s : ByteArray) : Ev (fun k => strongroomref05_Name.j0 k s true) false :=
  Ev.step (f := fun _ => some false) (fun k => by simp only [strongroomref05_Name.j0]; rw [if_pos trivial]) (Ev.now _)
theorem nameLoop_ev (s : List UInt8) (hs : s.length < 1000000) : Ev (fun k => strongroomref05_Name.l0 k ⟨s.toArray⟩ 0) (s.all okB) := by
  refine all_loop s okB (fun k i => strongroomref05_Name.l0 k ⟨s.toArray⟩ i) (fun i c cs hd hc r hr => ?_) (fun i c cs hd hc => ?_) ?_ s 0 rfl (Nat.zero_le _)
  · obtain ⟨h1, h2, h3⟩ := drop_cons_facts hd
    have hb : bt ⟨s.toArray⟩ (i : Int) = I c := by rw [bt_mk s i h3, getD_of h1]
    rw [okB_okI] at hc
    have hk := okI_true hc
    refine Ev.step (fun k => ?_) hr
    simp only [strongroomref05_Name.l0, mk_size, hb]
    rw [if_pos (by omega), if_pos (by omega), wrap_succ h3 (by omega)]
    generalize strongroomref05_Name.l0 k ⟨s.toArray⟩ ((i + 1 : Nat) : Int) = X
    simp only [I]
    repeat' split
    all_goals first | rfl | (exfalso; omega)
  · obtain ⟨h1, h2, h3⟩ := drop_cons_facts hd
    have hb : bt ⟨s.toArray⟩ (i : Int) = I c := by rw [bt_mk s i h3, getD_of h1]
    rw [okB_okI] at hc
    have hk := okI_false hc
    refine Ev.step (f := fun _ => some false) (fun k => ?_) (Ev.now _)
    simp only [strongroomref05_Name.l0, mk_size, hb]
    rw [if_pos (by omega), if_pos (by omega), wrap_succ h3 (by omega)]
    generalize strongroomref05_Name.l0 k ⟨s.toArray⟩ ((i + 1 : Nat) : Int) = X
    simp only [I]
    repeat' split
    all_goals first | rfl | (exfalso; omega)
  · refine Ev.step (f := fun _ => some true) (fun k => ?_) (Ev.now _)
    simp only [strongroomref05_Name.l0, mk_size]
    rw [if_neg (by omega)]
theorem rname_ev (s : List UInt8) (hs : s.length < 1000000) : Ev (fun k => strongroomref05_Name.f k ⟨s.toArray⟩) (nameB s) := by
  simp only [strongroomref05_Name.f, toList_data, mk_size]
  by_cases h0 : s = []
  · refine ifpos h0 ?_
    subst h0
    exact nameJ_t _
  refine ifneg h0 ?_
  have hl : 1 ≤ s.length := by
    rcases s with _ | ⟨b, s⟩
    · exact absurd rfl h0
    · simp
  by_cases h1 : 12 < s.length
  · refine ifpos (by omega) ?_
    rw [show nameB s = false by rw [nameB, show decide (s.length ≤ 12) = false from decide_eq_false (by omega)]; simp]
    exact nameJ_t _
  refine ifneg (by omega) ?_
  by_cases h2 : s = [46]
  · refine ifpos h2 ?_
    subst h2
    exact nameJ_t _
  refine ifneg h2 ?_
  by_cases h3 : s = [46, 46]
  · subst h3
    exact nameJ_t _
  rw [show ((s.toArray).toList == [46, 46]) = false from beq_eq_false_iff_ne.2 h3]
  rw [show nameB s = s.all okB by
    rw [nameB, show decide (1 ≤ s.length) = true from decide_eq_true hl, show decide (s.length ≤ 12) = true from decide_eq_true (by omega), show (s == [46]) = false from beq_eq_false_iff_ne.2 h2, show (s == [46, 46]) = false from beq_eq_false_iff_ne.2 h3]; rfl]
  refine Ev.step (fun k => ?_) (nameLoop_ev s hs)
  simp only [strongroomref05_Name.j0]
  rw [if_neg (by simp)]
theorem cutL_len : ∀ (l : List UInt8), (cutL l).length ≤ l.length + 1
  | [] => by simp [cutL]
  | b :: l => by
    have ih := cutL_len l
    unfold cutL
    split
    · simp; omega
    · cases hc : cutL l with
      | nil => simp
      | cons x t => rw [hc] at ih; simp at ih ⊢; omega
theorem cutL_piece : ∀ (l : List UInt8) (x : List UInt8), x ∈ cutL l → x.length ≤ l.length
  | [], x, h => by simp [cutL] at h; simp [h]
  | b :: l, x, h => by
    unfold cutL at h
    split at h
    · rcases List.mem_cons.1 h with rfl | h
      · simp
      · have := cutL_piece l x h; simp; omega
    · cases hc : cutL l with
      | nil => rw [hc] at h; simp at h; simp [h]
      | cons y t =>
        rw [hc] at h
        rcases List.mem_cons.1 h with rfl | h
        · have := cutL_piece l y (by rw [hc]; simp); simp; omega
        · have := cutL_piece l x (by rw [hc]; simp [h]); simp; omega
theorem rgood_ev (s : List UInt8) : Ev (fun k => strongroomref05_Good.f k ⟨s.toArray⟩) (goodB ⟨s.toArray⟩) := by
  rw [goodB_goodL]
  show Ev _ (goodL s)
  simp only [strongroomref05_Good.f, mk_size]
  by_cases h : 32 < s.length
  · refine ifpos (by omega) ?_
    rw [show goodL s = false by rw [goodL, show decide (s.length ≤ 32) = false from decide_eq_false (by omega)]; simp]
    exact Ev.now _
  refine ifneg (by omega) ?_
  refine Ev.bind (cut_ev s (by omega)) ?_
  have hlen := cutL_len s
  have key : goodL s = (cutL s).all nameB := by
    rw [goodL, show decide (s.length ≤ 32) = true from decide_eq_true (by omega)]
    rcases s with _ | ⟨b, s⟩
    · rfl
    · simp
  rw [key]
  refine all_loop (cutL s) nameB (fun k i => strongroomref05_Good.l0 k ((cutL s).map mkB) i) (fun i c cs hd hc r hr => ?_) (fun i c cs hd hc => ?_) ?_ (cutL s) 0 rfl (Nat.zero_le _)
  · obtain ⟨h1, h2, h3⟩ := drop_cons_facts hd
    have hcl := cutL_piece s c (List.mem_of_getElem? h1)
    have hrd : rdOf ByteArray.empty ((cutL s).map mkB) (i : Int) = mkB c := by simp [rdOf, List.getD_eq_getElem?_getD, h1]
    refine Ev.step (f := fun k => (strongroomref05_Name.f k (mkB c)).bind fun t => if t = true then strongroomref05_Good.l0 k ((cutL s).map mkB) ((i + 1 : Nat) : Int) else some false) (fun k => ?_) ?_
    · simp only [strongroomref05_Good.l0, List.length_map, hrd]
      rw [if_pos (by omega), if_pos (by omega), wrap_succ h3 (by omega)]
    · refine Ev.bind (rname_ev c (by omega)) ?_
      exact ifpos hc hr
  · obtain ⟨h1, h2, h3⟩ := drop_cons_facts hd
    have hcl := cutL_piece s c (List.mem_of_getElem? h1)
    have hrd : rdOf ByteArray.empty ((cutL s).map mkB) (i : Int) = mkB c := by simp [rdOf, List.getD_eq_getElem?_getD, h1]
    refine Ev.step (f := fun k => (strongroomref05_Name.f k (mkB c)).bind fun t => if t = true then strongroomref05_Good.l0 k ((cutL s).map mkB) ((i + 1 : Nat) : Int) else some false) (fun k => ?_) ?_
    · simp only [strongroomref05_Good.l0, List.length_map, hrd]
      rw [if_pos (by omega), if_pos (by omega), wrap_succ h3 (by omega)]
    · refine Ev.bind (rname_ev c (by omega)) ?_
      exact ifneg (by rw [hc]; simp) (Ev.now _)
  · refine Ev.step (f := fun _ => some true) (fun k => ?_) (Ev.now _)
    simp only [strongroomref05_Good.l0, List.length_map]
    rw [if_neg (by omega)]
theorem rgood_ev' (p : ByteArray) : Ev (fun k => strongroomref05_Good.f k p) (goodB p) := rgood_ev p.data.toList
theorem rplace_ev (p : ByteArray) : Ev (fun k => strongroomref05_Place.f k p) (placeB p) := by
  simp only [strongroomref05_Place.f, toList_data, placeB]
  by_cases h : p.data.toList = []
  · refine ifpos h ?_
    rw [h]
    exact Ev.now _
  · refine ifneg h ?_
    rw [show (p.data.toList == []) = false from beq_eq_false_iff_ne.2 h, Bool.false_or]
    exact Ev.bind (rgood_ev' p) (Ev.now _)
theorem rcgood_ev (c : SC) : Ev (fun k => strongroomref12_Good.f k c.f0 c.f1 c.f2) (goodC c) := by
  simp only [strongroomref12_Good.f, goodC]
  refine Ev.bind (rplace_ev c.f0) ?_
  cases placeB c.f0
  · exact ifneg (by simp) (Ev.now _)
  refine ifpos rfl ?_
  by_cases h1 : 0 ≤ c.f1
  · refine ifpos h1 ?_
    by_cases h2 : c.f1 ≤ 7
    · refine ifpos h2 ?_
      by_cases h3 : 0 ≤ c.f2
      · refine ifpos h3 ?_
        rw [show decide (0 ≤ c.f1) = true from decide_eq_true h1, show decide (c.f1 ≤ 7) = true from decide_eq_true h2, show decide (0 ≤ c.f2) = true from decide_eq_true h3]
        exact Ev.now _
      · refine ifneg h3 ?_
        rw [show decide (0 ≤ c.f2) = false from decide_eq_false h3]
        simp only [Bool.false_and, Bool.and_false]
        exact Ev.now _
    · refine ifneg h2 ?_
      rw [show decide (c.f1 ≤ 7) = false from decide_eq_false h2]
      simp only [Bool.false_and, Bool.and_false]
      exact Ev.now _
  · refine ifneg h1 ?_
    rw [show decide (0 ≤ c.f1) = false from decide_eq_false h1]
    simp only [Bool.false_and, Bool.and_false]
    exact Ev.now _
theorem rmayT_ev (t n : Int) (l : List SC) (s : ByteArray) : Ev (fun k => strongroomref12_May.j0 k true t n l s) false :=
  Ev.step (f := fun _ => some false) (fun k => by simp only [strongroomref12_May.j0]; rw [if_pos trivial]) (Ev.now false)
theorem rmayL_ev (t n : Int) (l : List SC) (s : ByteArray) (hn : l.length < 1000000) : Ev (fun k => strongroomref12_May.l0 k 0 t n l s) (l.all goodC) := by
  refine all_loop l goodC (fun k i => strongroomref12_May.l0 k i t n l s) (fun i c cs hd hc r hr => ?_) (fun i c cs hd hc => ?_) ?_ l 0 rfl (Nat.zero_le _)
  · obtain ⟨h1, h2, h3⟩ := rd_drop l i c cs hd
    refine Ev.step (f := fun k => (strongroomref12_Good.f k c.f0 c.f1 c.f2).bind fun x => if x = true then strongroomref12_May.l0 k ((i + 1 : Nat) : Int) t n l s else some false) (fun k => ?_) ?_
    · simp only [strongroomref12_May.l0]
      rw [if_pos (by omega), if_pos (by omega), h1, wrap_succ h3 (by omega)]
    · exact Ev.bind (rcgood_ev c) (ifpos hc hr)
  · obtain ⟨h1, h2, h3⟩ := rd_drop l i c cs hd
    refine Ev.step (f := fun k => (strongroomref12_Good.f k c.f0 c.f1 c.f2).bind fun x => if x = true then strongroomref12_May.l0 k ((i + 1 : Nat) : Int) t n l s else some false) (fun k => ?_) ?_
    · simp only [strongroomref12_May.l0]
      rw [if_pos (by omega), if_pos (by omega), h1, wrap_succ h3 (by omega)]
    · exact Ev.bind (rcgood_ev c) (ifneg (by rw [hc]; simp) (Ev.now _))
  · refine Ev.step (f := fun _ => some true) (fun k => ?_) (Ev.now _)
    simp only [strongroomref12_May.l0]
    rw [if_neg (by omega)]
theorem rknown_is' (t n : Int) : strongroomref12_Known.f t n = some (knownB t n) := known_is t n
theorem rmay_ev (t n : Int) (l : List SC) (s : ByteArray) : Ev (fun k => strongroomref12_May.f k t n l s) (mayB t n l s) := by
  simp only [strongroomref12_May.f, rknown_is', Option.bind_some]
  unfold mayB
  cases hk : knownB t n
  · exact ifneg (by simp) (rmayT_ev t n l s)
  refine ifpos rfl ?_
  by_cases hl : l.length ≤ 8
  · refine ifneg (by omega) ?_
    rw [show decide (l.length ≤ 8) = true from decide_eq_true hl]
    by_cases hs : s.size = 32
    · rw [show decide (s.size = 32) = true from decide_eq_true hs, show ((s.size : Int) != 32) = false by simp [hs]]
      refine Ev.step (fun k => ?_) (rmayL_ev t n l s (by omega))
      simp only [strongroomref12_May.j0]
      rw [if_neg (by simp)]
    · rw [show decide (s.size = 32) = false from decide_eq_false hs, show ((s.size : Int) != 32) = true by simp; omega]
      exact rmayT_ev t n l s
  · refine ifpos (by omega) ?_
    rw [show decide (l.length ≤ 8) = false from decide_eq_false hl]
    exact rmayT_ev t n l s
/-- is a token so small that it is gone through -/
def smallB (l : List SC) (s : ByteArray) : Bool := decide (l.length ≤ 40) && (decide (s.size ≤ 1000) && l.all fun c => decide (c.f0.size ≤ 1000))
theorem smallT_ev (t n : Int) (l : List SC) (s : ByteArray) : Ev (fun k => strongroomlaw12_small.j0 k true t n l s) false :=
  Ev.step (f := fun _ => some false) (fun k => by simp only [strongroomlaw12_small.j0]; rw [if_pos trivial]) (Ev.now false)
theorem small_ev (t n : Int) (l : List SC) (s : ByteArray) : Ev (fun k => strongroomlaw12_small.f k t n l s) (smallB l s) := by
  simp only [strongroomlaw12_small.f]
  unfold smallB
  by_cases hl : l.length ≤ 40
  · refine ifneg (by omega) ?_
    rw [show decide (l.length ≤ 40) = true from decide_eq_true hl]
    by_cases hs : s.size ≤ 1000
    · rw [show decide (s.size ≤ 1000) = true from decide_eq_true hs, show decide ((s.size : Int) > 1000) = false from decide_eq_false (by omega)]
      refine Ev.step (f := fun k => strongroomlaw12_small.l0 k 0 t n l s) (fun k => ?_) ?_
      · simp only [strongroomlaw12_small.j0]
        rw [if_neg (by simp)]
      refine all_loop l (fun c => decide (c.f0.size ≤ 1000)) (fun k i => strongroomlaw12_small.l0 k i t n l s) (fun i c cs hd hc r hr => ?_) (fun i c cs hd hc => ?_) ?_ l 0 rfl (Nat.zero_le _)
      · obtain ⟨h1, h2, h3⟩ := rd_drop l i c cs hd
        have hc2 : c.f0.size ≤ 1000 := of_decide_eq_true hc
        refine Ev.step (fun k => ?_) hr
        simp only [strongroomlaw12_small.l0]
        rw [if_pos (by omega), if_pos (by omega), h1, if_neg (by omega), wrap_succ h3 (by omega)]
      · obtain ⟨h1, h2, h3⟩ := rd_drop l i c cs hd
        have hc2 : ¬ c.f0.size ≤ 1000 := of_decide_eq_false hc
        refine Ev.step (f := fun _ => some false) (fun k => ?_) (Ev.now _)
        simp only [strongroomlaw12_small.l0]
        rw [if_pos (by omega), if_pos (by omega), h1, if_pos (by omega)]
      · refine Ev.step (f := fun _ => some true) (fun k => ?_) (Ev.now _)
        simp only [strongroomlaw12_small.l0]
        rw [if_neg (by omega)]
    · rw [show decide (s.size ≤ 1000) = false from decide_eq_false hs, show decide ((s.size : Int) > 1000) = true from decide_eq_true (by omega)]
      exact smallT_ev t n l s
  · refine ifpos (by omega) ?_
    rw [show decide (l.length ≤ 40) = false from decide_eq_false hl]
    exact smallT_ev t n l s
theorem rparts_ev (p : ByteArray) (h : goodB p = true) : Ev (fun k => strongroomref05_Parts.f k p) ((cutL p.data.toList).map mkB) := by
  have hs := goodB_le h
  have hl : p.data.toList.length = p.size := rfl
  simp only [strongroomref05_Parts.f]
  refine Ev.bind (rgood_ev' p) ?_
  refine ifpos h ?_
  exact Ev.bind (cut_ev p.data.toList (by omega)) (Ev.now _)
theorem rparts_none (p : ByteArray) (h : goodB p = false) : Ev (fun k => strongroomref05_Parts.f k p) [] := by
  simp only [strongroomref05_Parts.f]
  refine Ev.bind (rgood_ev' p) ?_
  refine ifneg (by rw [h]; simp) ?_
  exact Ev.now _
theorem rcovL_ev (A B : List (List UInt8)) (hl : A.length ≤ B.length) (hA : A.length < 1000000) : ∀ (cs : List (List UInt8)) (i : Nat), A.drop i = cs → i ≤ A.length → Ev (fun k => strongroomref05_Covers.l0 k (A.map mkB) (B.map mkB) (i : Int)) (cs.isPrefixOf (B.drop i)) := by
  intro cs
  induction cs with
  | nil =>
    intro i hd hi
    have := drop_nil_len hd hi
    refine Ev.step (f := fun _ => some true) (fun k => ?_) (Ev.now _)
    simp only [strongroomref05_Covers.l0, List.length_map]
    rw [if_neg (by omega)]
  | cons c cs ih =>
    intro i hd hi
    obtain ⟨h1, h2, h3⟩ := drop_cons_facts hd
    have hb : B[i]? = some (B[i]'(by omega)) := List.getElem?_eq_getElem (by omega)
    have eB : B.drop i = B[i]'(by omega) :: B.drop (i + 1) := List.drop_eq_getElem_cons (by omega)
    have hra : rdOf ByteArray.empty (A.map mkB) (i : Int) = mkB c := by simp [rdOf, List.getD_eq_getElem?_getD, h1]
    have hrb : rdOf ByteArray.empty (B.map mkB) (i : Int) = mkB (B[i]'(by omega)) := by simp [rdOf, List.getD_eq_getElem?_getD, hb]
    rw [eB, List.isPrefixOf_cons_cons]
    by_cases he : c = B[i]'(by omega)
    · rw [show (c == B[i]'(by omega)) = true from beq_iff_eq.2 he, Bool.true_and]
      refine Ev.step (fun k => ?_) (ih (i + 1) h2 h3)
      simp only [strongroomref05_Covers.l0, List.length_map, hra, hrb, toList_data]
      rw [if_pos (by omega), if_pos (by omega), if_pos (by omega), if_pos he, wrap_succ h3 (by omega)]
    · rw [show (c == B[i]'(by omega)) = false from beq_eq_false_iff_ne.2 he, Bool.false_and]
      refine Ev.step (f := fun _ => some false) (fun k => ?_) (Ev.now _)
      simp only [strongroomref05_Covers.l0, List.length_map, hra, hrb, toList_data]
      rw [if_pos (by omega), if_pos (by omega), if_pos (by omega), if_neg he]
theorem rcovT_ev (a p : ByteArray) : Ev (fun k => strongroomref05_Covers.j0 k a p true) false :=
  Ev.step (f := fun _ => some false) (fun k => by simp only [strongroomref05_Covers.j0]; rw [if_pos trivial]) (Ev.now _)
theorem rcovers_ev (a p : ByteArray) : Ev (fun k => strongroomref05_Covers.f k a p) (coversB a p) := by
  simp only [strongroomref05_Covers.f, coversB]
  refine Ev.bind (rplace_ev a) ?_
  cases ha : placeB a
  · exact ifneg (by simp) (rcovT_ev a p)
  refine ifpos rfl ?_
  refine Ev.bind (rplace_ev p) ?_
  cases hp : placeB p
  · exact rcovT_ev a p
  simp only [Bool.true_and]
  by_cases h0 : a.data.toList = []
  · rw [show coverL a.data.toList p.data.toList = true by rw [h0]; rfl]
    refine Ev.step (f := fun _ => some true) (fun k => ?_) (Ev.now _)
    simp only [strongroomref05_Covers.j0, toList_data]
    rw [if_neg (by simp), if_pos h0]
  have hga : goodB a = true := by
    rw [placeB, show (a.data.toList == []) = false from beq_eq_false_iff_ne.2 h0, Bool.false_or] at ha
    exact ha
  have hsa := goodB_le hga
  have hla : a.data.toList.length = a.size := rfl
  have hca := cutL_len a.data.toList
  refine Ev.step (f := fun k => (strongroomref05_Parts.f k a).bind fun t => (strongroomref05_Parts.f k p).bind fun u => if (t.length : Int) > (u.length : Int) then some false else strongroomref05_Covers.l0 k t u 0) (fun k => ?_) ?_
  · simp only [strongroomref05_Covers.j0, toList_data]
    rw [if_neg (by simp), if_neg h0]
  refine Ev.bind (rparts_ev a hga) ?_
  by_cases hp0 : p.data.toList = []
  · have hgp : goodB p = false := by rw [goodB_goodL, hp0]; rfl
    rw [show coverL a.data.toList p.data.toList = false by
      rw [Bool.eq_false_iff, hp0]
      intro h
      exact h0 (coverL_empty h)]
    refine Ev.bind (rparts_none p hgp) ?_
    have := cutL_ne a.data.toList
    have h1 : 0 < (cutL a.data.toList).length := List.length_pos_iff.2 this
    refine ifpos (by simp only [List.length_map, List.length_nil]; omega) ?_
    exact Ev.now _
  have hgp : goodB p = true := by
    rw [placeB, show (p.data.toList == []) = false from beq_eq_false_iff_ne.2 hp0, Bool.false_or] at hp
    exact hp
  have e : coverL a.data.toList p.data.toList = (cutL a.data.toList).isPrefixOf (cutL p.data.toList) := by
    rw [Bool.eq_iff_iff, coverL_iff, List.isPrefixOf_iff_prefix, prefix_cut, ← stroke_prefix]
    constructor
    · rintro (h | h)
      · exact absurd h h0
      · exact h
    · exact Or.inr
  rw [e]
  refine Ev.bind (rparts_ev p hgp) ?_
  by_cases hlen : (cutL p.data.toList).length < (cutL a.data.toList).length
  · refine ifpos (by simp only [List.length_map]; omega) ?_
    rw [show (cutL a.data.toList).isPrefixOf (cutL p.data.toList) = false by
      rw [Bool.eq_false_iff, Ne, List.isPrefixOf_iff_prefix]
      intro h
      have := h.length_le
      omega]
    exact Ev.now _
  · refine ifneg (by simp only [List.length_map]; omega) ?_
    exact rcovL_ev _ _ (by omega) (by omega) (cutL a.data.toList) 0 rfl (Nat.zero_le _)
theorem bit_is : ∀ j, j < 3 → ∀ a, a < 8 → (Int.tmod (wrap64 (Int.tdiv ((a : Nat) : Int) ((2 ^ j : Nat) : Int))) 2 == 1) = !(Go.bits .and .i64 ((a : Nat) : Int) ((2 ^ j : Nat) : Int) == 0) := by decide +kernel
theorem right_two {r : Int} (h : rightB r = true) : ∃ j : Nat, j < 3 ∧ r = ((2 ^ j : Nat) : Int) := by
  rcases (rightB_iff r).1 h with rfl | rfl | rfl
  · exact ⟨0, by decide, rfl⟩
  · exact ⟨1, by decide, rfl⟩
  · exact ⟨2, by decide, rfl⟩
theorem bit_iff {f r : Int} (hr : rightB r = true) (h0 : 0 ≤ f) (h1 : f ≤ 7) : (Int.tmod (wrap64 (Int.tdiv f r)) 2 = 1) ↔ ¬ Go.bits .and .i64 f r = 0 := by
  obtain ⟨j, hj, rfl⟩ := right_two hr
  have h := bit_is j hj f.toNat (by omega)
  rw [show ((f.toNat : Nat) : Int) = f by omega] at h
  rw [← beq_iff_eq, h]
  simp
theorem rletsL_ev (r : Int) (hr : rightB r = true) (p : ByteArray) (now t n : Int) (l : List SC) (s : ByteArray) (hg : l.all goodC = true) (hn : l.length < 1000000) : Ev (fun k => strongroomref12_Lets.l0 k r p now 0 t n l s) (l.all (letC r p now)) := by
  have hr0 : ¬ r = 0 := by
    rcases (rightB_iff r).1 hr with rfl | rfl | rfl <;> decide
  refine all_loop l (letC r p now) (fun k i => strongroomref12_Lets.l0 k r p now i t n l s) (fun i c cs hd hc R hR => ?_) (fun i c cs hd hc => ?_) ?_ l 0 rfl (Nat.zero_le _)
  · obtain ⟨h1, h2, h3⟩ := rd_drop l i c cs hd
    obtain ⟨g0, g1, g2, g3, g4⟩ := goodC_facts (List.all_eq_true.1 hg c (List.mem_of_mem_drop (by rw [hd]; exact List.mem_cons_self ..)))
    simp only [letC, Bool.and_eq_true, Bool.not_eq_true', decide_eq_false_iff_not] at hc
    obtain ⟨c1, c2, c3⟩ := hc
    refine Ev.step (f := fun k => (strongroomref05_Covers.f k c.f0 p).bind fun x => if x = true then strongroomref12_Lets.l0 k r p now ((i + 1 : Nat) : Int) t n l s else some false) (fun k => ?_) ?_
    · simp only [strongroomref12_Lets.l0]
      rw [if_pos (by omega), if_pos (by omega), h1, wrap_succ h3 (by omega)]
      simp only [if_neg hr0, if_pos ((bit_iff hr g1 g2).2 c2), if_neg (show ¬ c.f2 < now by omega)]
    · exact Ev.bind (rcovers_ev c.f0 p) (ifpos c1 hR)
  · obtain ⟨h1, h2, h3⟩ := rd_drop l i c cs hd
    obtain ⟨g0, g1, g2, g3, g4⟩ := goodC_facts (List.all_eq_true.1 hg c (List.mem_of_mem_drop (by rw [hd]; exact List.mem_cons_self ..)))
    refine Ev.step (f := fun k => (strongroomref05_Covers.f k c.f0 p).bind fun x => if x = true then (if Int.tmod (wrap64 (Int.tdiv c.f1 r)) 2 = 1 then (if c.f2 < now then some false else strongroomref12_Lets.l0 k r p now ((i + 1 : Nat) : Int) t n l s) else some false) else some false) (fun k => ?_) ?_
    · simp only [strongroomref12_Lets.l0]
      rw [if_pos (by omega), if_pos (by omega), h1, wrap_succ h3 (by omega)]
      simp only [if_neg hr0]
    · refine Ev.bind (rcovers_ev c.f0 p) ?_
      cases c1 : coversB c.f0 p
      · exact ifneg (by simp) (Ev.now _)
      refine ifpos rfl ?_
      by_cases c2 : Go.bits .and .i64 c.f1 r = 0
      · exact ifneg (fun h => (bit_iff hr g1 g2).1 h c2) (Ev.now _)
      refine ifpos ((bit_iff hr g1 g2).2 c2) ?_
      by_cases c3 : now > c.f2
      · exact ifpos (by omega) (Ev.now _)
      · exact absurd hc (by simp only [letC, c1, c2, c3]; simp)
  · refine Ev.step (f := fun _ => some true) (fun k => ?_) (Ev.now _)
    simp only [strongroomref12_Lets.l0]
    rw [if_neg (by omega)]
theorem rletsT_ev (r : Int) (p : ByteArray) (now t n : Int) (l : List SC) (s : ByteArray) : Ev (fun k => strongroomref12_Lets.j0 k r p now true t n l s) false :=
  Ev.step (f := fun _ => some false) (fun k => by simp only [strongroomref12_Lets.j0]; rw [if_pos trivial]) (Ev.now _)
theorem rletsM_ev (r : Int) (hr : rightB r = true) (p : ByteArray) (now t n : Int) (l : List SC) (s : ByteArray) : Ev (fun k => (strongroomref12_May.f k t n l s).bind fun x => strongroomref12_Lets.j0 k r p now (!x) t n l s) (mayB t n l s && l.all (letC r p now)) := by
  refine Ev.bind (rmay_ev t n l s) ?_
  cases hm : mayB t n l s
  · exact rletsT_ev r p now t n l s
  · have hl := mayB_facts hm
    refine Ev.step (fun k => ?_) (rletsL_ev r hr p now t n l s hl.2.2.2 (by omega))
    simp only [strongroomref12_Lets.j0]
    rw [if_neg (by simp)]
theorem rletsP_ev (r : Int) (hr : rightB r = true) (p : ByteArray) (now t n : Int) (l : List SC) (s : ByteArray) : Ev (fun k => (strongroomref05_Place.f k p).bind fun y => if y = true then (strongroomref12_May.f k t n l s).bind fun x => strongroomref12_Lets.j0 k r p now (!x) t n l s else strongroomref12_Lets.j0 k r p now true t n l s) (placeB p && (mayB t n l s && l.all (letC r p now))) := by
  refine Ev.bind (rplace_ev p) ?_
  cases placeB p
  · exact ifneg (by simp) (rletsT_ev r p now t n l s)
  · exact ifpos rfl (rletsM_ev r hr p now t n l s)
theorem rlets_ev (t n : Int) (l : List SC) (s : ByteArray) (r : Int) (p : ByteArray) (now : Int) : Ev (fun k => strongroomref12_Lets.f k t n l s r p now) (letsB t n l s r p now) := by
  simp only [strongroomref12_Lets.f]
  cases hr : rightB r
  · have h : ¬ (r = 1 ∨ r = 2 ∨ r = 4) := fun h => by rw [(rightB_iff r).2 h] at hr; cases hr
    rw [letsB, hr, Bool.false_and]
    refine ifneg (fun e => h (Or.inl e)) ?_
    refine ifneg (fun e => h (Or.inr (Or.inl e))) ?_
    refine ifneg (fun e => h (Or.inr (Or.inr e))) ?_
    exact rletsT_ev r p now t n l s
  · rw [letsB, hr, Bool.true_and]
    have hP := rletsP_ev r hr p now t n l s
    by_cases h1 : r = 1
    · exact ifpos h1 hP
    refine ifneg h1 ?_
    by_cases h2 : r = 2
    · exact ifpos h2 hP
    refine ifneg h2 ?_
    exact ifpos (by have := (rightB_iff r).1 hr; omega) hP
theorem rpmeet_ev (a b : ByteArray) : Ev (fun k => strongroomref05_Meet.f k a b) (match meetP a b with | some q => (q, true) | none => (⟨#[]⟩, false)) := by
  simp only [strongroomref05_Meet.f]
  refine Ev.bind (rcovers_ev a b) ?_
  by_cases h : coversB a b = true
  · rw [show meetP a b = some b by unfold meetP; rw [if_pos h]]
    exact ifpos h (Ev.now _)
  refine ifneg h ?_
  refine Ev.bind (rcovers_ev b a) ?_
  by_cases h2 : coversB b a = true
  · rw [show meetP a b = some a by unfold meetP; rw [if_neg h, if_pos h2]]
    exact ifpos h2 (Ev.now _)
  rw [show meetP a b = none by unfold meetP; rw [if_neg h, if_neg h2]]
  exact ifneg h2 (Ev.now _)
theorem both_step (a b x y : Int) (hy : y ≤ 4) (h0 : ¬ y = 0) (r : Int) (h : Ev (fun k => strongroomref12_both.l0 k a b (if Int.tmod (wrap64 (Int.tdiv a y)) 2 = 1 then (if Int.tmod (wrap64 (Int.tdiv b y)) 2 = 1 then wrap64 (x + y) else x) else x) (wrap64 (y * 2))) r) : Ev (fun k => strongroomref12_both.l0 k a b x y) r := by
  refine Ev.step (fun k => ?_) h
  simp only [strongroomref12_both.l0]
  rw [if_pos hy, if_neg h0]
  split
  · split <;> rfl
  · rfl
def bit1 (a b x y : Int) : Int := if Int.tmod (wrap64 (Int.tdiv a y)) 2 = 1 then (if Int.tmod (wrap64 (Int.tdiv b y)) 2 = 1 then wrap64 (x + y) else x) else x
theorem both_is : ∀ a, a < 8 → ∀ b, b < 8 → bit1 ((a : Nat) : Int) ((b : Nat) : Int) (bit1 ((a : Nat) : Int) ((b : Nat) : Int) (bit1 ((a : Nat) : Int) ((b : Nat) : Int) 0 1) 2) 4 = Go.bits .and .i64 ((a : Nat) : Int) ((b : Nat) : Int) := by decide +kernel
theorem both_ev (a b : Int) (a0 : 0 ≤ a) (a1 : a ≤ 7) (b0 : 0 ≤ b) (b1 : b ≤ 7) : Ev (fun k => strongroomref12_both.f k a b) (Go.bits .and .i64 a b) := by
  have h := both_is a.toNat (by omega) b.toNat (by omega)
  rw [show ((a.toNat : Nat) : Int) = a by omega, show ((b.toNat : Nat) : Int) = b by omega] at h
  simp only [strongroomref12_both.f]
  refine both_step a b 0 1 (by decide) (by decide) _ ?_
  rw [show wrap64 (1 * 2) = 2 by decide +kernel]
  refine both_step a b (bit1 a b 0 1) 2 (by decide) (by decide) _ ?_
  rw [show wrap64 (2 * 2) = 4 by decide +kernel]
  refine both_step a b (bit1 a b (bit1 a b 0 1) 2) 4 (by decide) (by decide) _ ?_
  rw [show wrap64 (4 * 2) = 8 by decide +kernel]
  refine Ev.step (f := fun _ => some (Go.bits .and .i64 a b)) (fun k => ?_) (Ev.now _)
  rw [← h]
  simp only [strongroomref12_both.l0]
  rw [if_neg (by decide)]
  rfl
theorem rmeetLoop_ev (t n : Int) (l : List SC) (s : ByteArray) (hg : l.all goodC = true) (hn : l.length < 1000000) : ∀ (cs : List SC) (i : Nat) (m : SC), l.drop i = cs → i ≤ l.length → goodC m = true → Ev (fun k => strongroomref12_Meet.l0 k (i : Int) t n l s m.f0 m.f1 m.f2) (meetR (meetL m cs)) := by
  intro cs
  induction cs with
  | nil =>
    intro i m hd hi _
    have := drop_nil_len hd hi
    refine Ev.step (f := fun _ => some (m.f0, m.f1, m.f2, true)) (fun k => ?_) (Ev.now _)
    simp only [strongroomref12_Meet.l0]
    rw [if_neg (by omega)]
  | cons c cs ih =>
    intro i m hd hi hm
    obtain ⟨h1, h2, h3⟩ := rd_drop l i c cs hd
    have hc : goodC c = true := List.all_eq_true.1 hg c (List.mem_of_mem_drop (by rw [hd]; exact List.mem_cons_self ..))
    have gm := goodC_facts hm
    have gc := goodC_facts hc
    have hP := rpmeet_ev m.f0 c.f0
    refine Ev.step (f := fun k => (strongroomref05_Meet.f k m.f0 c.f0).bind fun b => if b.2 = true then (strongroomref12_both.f k m.f1 c.f1).bind fun x => strongroomref12_Meet.l0 k ((i + 1 : Nat) : Int) t n l s b.1 x (mn m.f2 c.f2) else some (⟨#[]⟩, 0, 0, false)) (fun k => ?_) ?_
    · simp only [strongroomref12_Meet.l0]
      rw [if_pos (by omega), if_pos (by omega), h1, wrap_succ h3 (by omega)]
      unfold mn
      by_cases hlt : c.f2 < m.f2
      · simp only [if_pos hlt]
      · simp only [if_neg hlt]
    · refine Ev.bind hP ?_
      simp only [meetL]
      cases hx : meetC m c with
      | none =>
        have hq : meetP m.f0 c.f0 = none := by
          cases hq : meetP m.f0 c.f0 with
          | none => rfl
          | some q => simp [meetC, hq] at hx
        rw [hq]
        exact ifneg (by simp) (Ev.now _)
      | some x =>
        obtain ⟨q, hq, rfl⟩ : ∃ q, meetP m.f0 c.f0 = some q ∧ (⟨q, Go.bits .and .i64 m.f1 c.f1, mn m.f2 c.f2⟩ : SC) = x := by
          simpa [meetC] using hx
        rw [hq]
        refine ifpos rfl ?_
        refine Ev.bind (both_ev m.f1 c.f1 gm.2.1 gm.2.2.1 gc.2.1 gc.2.2.1) ?_
        exact ih (i + 1) ⟨q, Go.bits .and .i64 m.f1 c.f1, mn m.f2 c.f2⟩ h2 h3 (meetC_good hm hc hx)
theorem rmeet_ev (t n : Int) (l : List SC) (s : ByteArray) : Ev (fun k => strongroomref12_Meet.f k t n l s) (meetR (if mayB t n l s = true then meetL m0C l else none)) := by
  simp only [strongroomref12_Meet.f]
  refine Ev.bind (rmay_ev t n l s) ?_
  cases hm : mayB t n l s
  · exact ifneg (by simp) (Ev.now _)
  · have hl := mayB_facts hm
    refine ifpos rfl ?_
    exact rmeetLoop_ev t n l s hl.2.2.2 (by omega) l 0 m0C rfl (Nat.zero_le _) m0C_good
/-- CapLets, of numbers and lists alone. -/
theorem CapLets (t n : Int) (l : List SC) (s : ByteArray) (r now : Int) (p : ByteArray) : ∃ k, strongroomlaw12_CapLets.f k t n l s r now p = some true := by
  refine Ev.rounds (g := fun k => strongroomlaw12_CapLets.f k t n l s r now p) ?_
  simp only [strongroomlaw12_CapLets.f]
  have hl3 := lives_ev'
  have hT : Ev (fun k => strongroomlaw12_CapLets.j0 k p r now true t n l s) true := by
    refine Ev.step (fun k => ?_) lives_ev'
    simp only [strongroomlaw12_CapLets.j0]
    rw [if_pos trivial]
  refine Ev.bind (small_ev t n l s) ?_
  cases hsm : smallB l s
  · exact ifneg (by simp) hT
  refine ifpos rfl ?_
  by_cases hp : p.size > 1000
  · rw [show decide ((p.size : Int) > 1000) = true from decide_eq_true (by omega)]
    exact hT
  rw [show decide ((p.size : Int) > 1000) = false from decide_eq_false (by omega)]
  refine Ev.step (f := fun k => (cap_Meet.f k t n l s).bind fun a => (strongroomref12_Meet.f k t n l s).bind fun b => (cap_Lets.f k t n l s r p now).bind fun x => (strongroomref12_Lets.f k t n l s r p now).bind fun y => if (x == y) = true then if (a.1.toList == b.1.toList && (a.2.1 == b.2.1 && (a.2.2.1 == b.2.2.1))) = true then if (a.2.2.2 == b.2.2.2) = true then (strongroomlaw12_lives.f k).bind fun t => some t else some false else some false else some false) (fun k => ?_) ?_
  · simp only [strongroomlaw12_CapLets.j0]
    rw [if_neg (by simp)]
  refine Ev.bind (meet_ev t n l s) ?_
  refine Ev.bind (rmeet_ev t n l s) ?_
  refine Ev.bind (lets_ev t n l s r p now) ?_
  refine Ev.bind (rlets_ev t n l s r p now) ?_
  refine ifpos (by simp) ?_
  refine ifpos (by simp) ?_
  exact ifpos (by simp) hl3

end Go.Proofs.YtedmkffepmcpaaaDoor.Pure
