/- The plain law of CapCodes: of numbers and lists alone. -/
import Derived.Test.YtedmkffepmcpaaaDoorHCapCodesx15
import Derived.Laws.BitsAllLaws
namespace Go.Proofs.YtedmkffepmcpaaaDoor.Pure
open Go.RowKit Go.Proofs.YtedmkffepmcpaaaDoorH.HCapCodes Go.Proofs.YtedmkffepmcpaaaDoorW.PrintWords Go.Proofs.YtedmkffepmcpaaaDoorW.PrintLast Go.Proofs.YtedmkffepmcpaaaDoorW.PrintMore

abbrev I (b : UInt8) : Int := (b.toNat : Int)
def putL (n : Nat) : List UInt8 := if n < 128 then [UInt8.ofNat n] else UInt8.ofNat (n % 128 + 128) :: putL (n / 128)
termination_by n
decreasing_by omega
theorem putL_small {n : Nat} (h : n < 128) : putL n = [UInt8.ofNat n] := by rw [putL, if_pos h]
theorem putL_big {n : Nat} (h : ¬ n < 128) : putL n = UInt8.ofNat (n % 128 + 128) :: putL (n / 128) := by rw [putL, if_neg h]
theorem putL_len : ∀ (k n : Nat), n < 128 ^ (k + 1) → (putL n).length ≤ k + 1
 | 0, n, h => by rw [putL_small (by simpa using h)]; simp
 | k + 1, n, h => by
  by_cases hn : n < 128
  ·rw [putL_small hn]; simp
  ·rw [putL_big hn, List.length_cons]
   have := putL_len k (n / 128) (by rw [Nat.div_lt_iff_lt_mul (by decide), ← Nat.pow_succ]; exact h)
   omega
theorem putL_ten {n : Nat} (h : n < 18446744073709551616) : (putL n).length ≤ 10 := putL_len 9 n (Nat.lt_trans h (by decide))
theorem or128 (n : Nat) : Go.bits .or .u8 ((n : Int) % 256) 128 = I (UInt8.ofNat (n % 128 + 128)) := by
 have h : ∀ m, m < 256 → Go.bits .or .u8 ((m : Nat) : Int) 128 = I (UInt8.ofNat (m % 128 + 128)) := by decide +kernel
 have h2 := h (n % 256) (Nat.mod_lt _ (by decide))
 rw [show ((n : Int) % 256) = ((n % 256 : Nat) : Int) by omega, h2, Nat.mod_mod_of_dvd n (by decide)]
theorem I_ofNat {n : Nat} (h : n < 256) : I (UInt8.ofNat n) = (n : Int) := by
 simp only [I, UInt8.toNat_ofNat']; omega
theorem mk_app (a b : List UInt8) : (⟨a.toArray⟩ : ByteArray) ++ ⟨b.toArray⟩ = ⟨(a ++ b).toArray⟩ := by
 apply ByteArray.ext
 simp [ByteArray.data_append]
theorem mk_size (a : List UInt8) : (⟨a.toArray⟩ : ByteArray).size = a.length := by simp [ByteArray.size]
theorem nums_mk (l : List UInt8) : strOfNums (l.map I) = ⟨l.toArray⟩ := by
 simp [strOfNums, I, Function.comp_def]
theorem bytes_mk (l : List UInt8) : bytesOf ⟨l.toArray⟩ = l.map I := by simp [bytesOf]
theorem u64_nat {n : Nat} (h : n < 18446744073709551616) : IntKind.u64.wrap (n : Int) = (n : Int) := by
 simp [IntKind.wrap, IntKind.bits, IntKind.signed]; omega
theorem ifpos {α : Type} {c : Prop} [Decidable c] {f g : Nat → Option α} {r : α} (h : c) (k : Ev f r) : Ev (fun n => if c then f n else g n) r := Ev.congr (fun _ => if_pos h) k
theorem ifneg {α : Type} {c : Prop} [Decidable c] {f g : Nat → Option α} {r : α} (h : ¬ c) (k : Ev g r) : Ev (fun n => if c then f n else g n) r := Ev.congr (fun _ => if_neg h) k
theorem mk_all (a : ByteArray) : ∃ l : List UInt8, a = ⟨l.toArray⟩ ∧ l.length = a.size := ⟨a.data.toList, rfl, rfl⟩
theorem lay_ev : ∀ (n : Nat) (l : List UInt8), l.length + (putL n).length < 140737488355328 → Ev (fun k => num_lay.l0 k (l.map I) (n : Int)) ((l ++ putL n).map I) := by
 intro n
 induction n using Nat.strongRecOn with
 | ind n ih =>
  intro l hl
  by_cases hn : n < 128
  ·rw [putL_small hn] at hl ⊢
   refine Ev.step (f := fun _ => some ((l ++ [UInt8.ofNat n]).map I)) (fun k => ?_) (Ev.now _)
   simp only [num_lay.l0]
   rw [if_neg (by omega), if_pos (by simp at hl ⊢; omega)]
   simp only [List.map_append, List.map_cons, List.map_nil, I_ofNat (show n < 256 by omega)]
   rw [show (n : Int) % 256 = (n : Int) by omega]
  ·rw [putL_big hn] at hl ⊢
   have h2 := ih (n / 128) (by omega) (l ++ [UInt8.ofNat (n % 128 + 128)]) (by simp at hl ⊢; omega)
   rw [show l ++ UInt8.ofNat (n % 128 + 128) :: putL (n / 128) = l ++ [UInt8.ofNat (n % 128 + 128)] ++ putL (n / 128) by simp]
   refine Ev.step (fun k => ?_) h2
   simp only [num_lay.l0]
   rw [if_pos (by omega), if_pos (by simp at hl ⊢; omega), or128, show (n : Int) / 128 = ((n / 128 : Nat) : Int) by omega]
   simp
theorem own_is (l : List Int) (h : l.length < 140737488355328) : num_own.f l = some l := by
 simp [num_own.f, h]
theorem put_ev (l : List UInt8) (n : Nat) (h : l.length + (putL n).length < 140737488355328) : Ev (fun k => num_Put.f k (l.map I) (n : Int)) ((l ++ putL n).map I) := by
 refine Ev.congr (f := fun k => (num_lay.l0 k (l.map I) (n : Int)).bind fun t => some t) (fun k => ?_) (Ev.bind (lay_ev n l h) (Ev.now _))
 simp only [num_Put.f, own_is _ (show (l.map I).length < 140737488355328 by simp; omega), Option.bind_some, num_lay.f]
theorem putText_ev (l s : List UInt8) (h : l.length + s.length + 10 < 140737488355328) (hs : s.length < 18446744073709551616) : Ev (fun k => num_PutText.f k (l.map I) ⟨s.toArray⟩) ((l ++ putL s.length ++ s).map I) := by
 have h10 := putL_ten hs
 refine Ev.congr (f := fun k => (num_lay.l0 k (l.map I) ((s.length : Nat) : Int)).bind fun t => if t.length + s.length < 140737488355328 then some (t ++ s.map I) else none) (fun k => ?_) (Ev.bind (lay_ev s.length l (by omega)) ?_)
 ·simp only [num_PutText.f, own_is _ (show (l.map I).length < 140737488355328 by simp; omega), Option.bind_some, num_lay.f, mk_size, bytes_mk, u64_nat hs]
 ·rw [if_pos (by simp; omega)]
  rw [← List.map_append]
  exact Ev.now _
theorem rput_ev : ∀ (n : Nat), n < 18446744073709551616 → Ev (fun k => strongroomref01_Put.f k (n : Int)) ⟨(putL n).toArray⟩ := by
 intro n
 induction n using Nat.strongRecOn with
 | ind n ih =>
  intro hb
  by_cases hn : n < 128
  ·rw [putL_small hn]
   refine Ev.step (f := fun _ => some (⟨[UInt8.ofNat n].toArray⟩ : ByteArray)) (fun k => ?_) (Ev.now _)
   simp only [strongroomref01_Put.f]
   rw [if_pos (by omega), ← nums_mk]
   simp only [List.map_cons, List.map_nil, I_ofNat (show n < 256 by omega)]
   rw [show (n : Int) % 256 = (n : Int) by omega]
  ·have h2 := ih (n / 128) (by omega) (by omega)
   have hl := putL_ten (n := n / 128) (by omega)
   rw [putL_big hn]
   refine Ev.step (f := fun k => (strongroomref01_Put.f k ((n / 128 : Nat) : Int)).bind fun t => if (⟨[UInt8.ofNat (n % 128 + 128)].toArray⟩ : ByteArray).size + t.size ≤ 9223372036854775807 then some (⟨[UInt8.ofNat (n % 128 + 128)].toArray⟩ ++ t) else none) (fun k => ?_) (Ev.bind h2 ?_)
   ·simp only [strongroomref01_Put.f]
    rw [if_neg (by omega), ← nums_mk]
    have e1 : Int.tmod (n : Int) 128 = ((n % 128 : Nat) : Int) := by rw [Int.tmod_eq_emod_of_nonneg (by omega)]; omega
    have e2 : Int.tdiv (n : Int) 128 = ((n / 128 : Nat) : Int) := by rw [Int.tdiv_eq_ediv_of_nonneg (by omega)]; omega
    rw [e1, e2, u64_nat (show n / 128 < 18446744073709551616 by omega), show ((n % 128 : Nat) : Int) + 128 = ((n % 128 + 128 : Nat) : Int) by omega, u64_nat (by omega)]
    simp only [Option.bind_some, List.map_cons, List.map_nil, I_ofNat (show n % 128 + 128 < 256 by omega)]
    rw [show ((n % 128 + 128 : Nat) : Int) % 256 = ((n % 128 + 128 : Nat) : Int) by omega]
   ·rw [if_pos (by rw [mk_size, mk_size]; simp; omega), mk_app]
    exact Ev.now _
theorem rtext_ev (s : List UInt8) (hs : s.length < 140737488355328) : Ev (fun k => strongroomref01_Text.f k ⟨s.toArray⟩) ⟨(putL s.length ++ s).toArray⟩ := by
 have h10 := putL_ten (n := s.length) (by omega)
 refine Ev.congr (f := fun k => (strongroomref01_Put.f k ((s.length : Nat) : Int)).bind fun t => if t.size + (⟨s.toArray⟩ : ByteArray).size ≤ 9223372036854775807 then some (t ++ ⟨s.toArray⟩) else none) (fun k => ?_) (Ev.bind (rput_ev s.length (by omega)) ?_)
 ·simp only [strongroomref01_Text.f, mk_size, u64_nat (show s.length < 18446744073709551616 by omega)]
 ·rw [if_pos (by rw [mk_size, mk_size]; omega), mk_app]
  exact Ev.now _
/-- does a place cover another one, in plain lists -/
def coverL (a p : List UInt8) : Bool := a == [] || (a ++ [47]).isPrefixOf (p ++ [47])
theorem stroke_prefix (a p : List UInt8) : (a ++ [47]) <+: (p ++ [47]) ↔ p = a ∨ (a ++ [47]) <+: p := by
 constructor
 ·intro h
  have hl := h.length_le
  simp at hl
  by_cases e : a.length = p.length
  ·left
   have := h.eq_of_length (by simp [e])
   exact (List.append_cancel_right this).symm
  ·right
   exact List.prefix_of_prefix_length_le h (List.prefix_append p [47]) (by simp; omega)
 ·rintro (rfl | h)
  ·exact List.prefix_refl _
  ·exact h.trans (List.prefix_append p [47])
theorem toList_data (s : ByteArray) : s.toList = s.data.toList := by rw [ByteArray.toList_eq]
abbrev SC := S35
/-- may a text be a place? -/
def placeB (a : ByteArray) : Bool := a.data.toList == [] || goodB a
/-- may a caveat be? -/
def goodC (c : SC) : Bool := placeB c.f0 && (decide (0 ≤ c.f1) && (decide (c.f1 ≤ 7) && (decide (0 ≤ c.f2) && decide (c.f2 ≤ 1099511627776))))
theorem place_is (a : ByteArray) : path_Place.f a = some (placeB a) := by
 simp only [path_Place.f, path_Good.f, placeB, toList_data]
 by_cases h : a.data.toList = []
 ·rw [if_pos h, h]; rfl
 ·rw [if_neg h, show (a.data.toList == []) = false from beq_eq_false_iff_ne.2 h]; rfl
theorem cgood_is (p : ByteArray) (r u : Int) : cap_good.f p r u = some (goodC ⟨p, r, u⟩) := by
 simp only [cap_good.f, place_is, Option.bind_some, goodC]
 cases placeB p
 ·rfl
 ·by_cases h1 : 0 ≤ r
  ·by_cases h2 : r ≤ 7
   ·by_cases h3 : 0 ≤ u
    ·simp [h1, h2, h3]
    ·simp [h1, h2, h3]
   ·simp [h1, h2]
  ·simp [h1]
theorem goodB_le {a : ByteArray} (h : goodB a = true) : a.size ≤ 32 := by
 simp [goodB] at h; omega
theorem placeB_le {a : ByteArray} (h : placeB a = true) : a.size ≤ 32 := by
 rcases Bool.or_eq_true_iff.1 h with h | h
 ·have h0 : a.data.toList = [] := beq_iff_eq.1 h
  have : a.size = a.data.toList.length := rfl
  rw [this, h0]; simp
 ·exact goodB_le h
theorem goodC_facts {c : SC} (h : goodC c = true) : placeB c.f0 = true ∧ 0 ≤ c.f1 ∧ c.f1 ≤ 7 ∧ 0 ≤ c.f2 ∧ c.f2 ≤ 1099511627776 := by
 simp only [goodC, Bool.and_eq_true, decide_eq_true_eq] at h
 exact h
def knownB (t n : Int) : Bool := decide (1 ≤ t) && (decide (t ≤ 8) && (decide (0 ≤ n) && decide (n ≤ 1073741824)))
theorem known_is (t n : Int) : cap_known.f t n = some (knownB t n) := by
 simp only [cap_known.f, knownB]
 by_cases h1 : 1 ≤ t
 ·by_cases h2 : t ≤ 8
  ·by_cases h3 : 0 ≤ n
   ·simp [h1, h2, h3]
   ·simp [h1, h2, h3]
  ·simp [h1, h2]
 ·simp [h1]
theorem knownB_facts {t n : Int} (h : knownB t n = true) : 1 ≤ t ∧ t ≤ 8 ∧ 0 ≤ n ∧ n ≤ 1073741824 := by
 simp only [knownB, Bool.and_eq_true, decide_eq_true_eq] at h
 exact h
/-- may a token be? -/
def mayB (t n : Int) (l : List SC) (s : ByteArray) : Bool := knownB t n && (decide (l.length ≤ 8) && (decide (s.size = 32) && l.all goodC))
theorem rd_drop (l : List SC) (i : Nat) (c : SC) (cs : List SC) (h : l.drop i = c :: cs) : rd_T35 l (i : Int) = c ∧ l.drop (i + 1) = cs ∧ i < l.length := by
 have hlt : i < l.length := by
  rcases Nat.lt_or_ge i l.length with g | g
  ·exact g
  ·rw [List.drop_eq_nil_of_le g] at h; cases h
 have hp : l[i]? = some c := by
  have := congrArg List.head? h
  simpa [List.head?_drop] using this
 refine ⟨?_, ?_, hlt⟩
 ·simp [rd_T35, List.getD_eq_getElem?_getD, hp]
 ·have := congrArg List.tail h
  simpa [List.tail_drop] using this
theorem drop_nil_len {α : Type} {l : List α} {i : Nat} (h : l.drop i = []) (hi : i ≤ l.length) : i = l.length := by
 have := congrArg List.length h
 simp at this; omega
theorem wrap_succ {i n : Nat} (h : i < n) (hn : n < 1000000000000) : wrap64 ((i : Int) + 1) = ((i + 1 : Nat) : Int) := by unfold wrap64; omega
/-- the bytes of a caveat -/
def capB (c : SC) : List UInt8 := putL c.f0.data.toList.length ++ c.f0.data.toList ++ putL c.f1.toNat ++ putL c.f2.toNat
def firstL (t n : Int) : List UInt8 := putL t.toNat ++ putL n.toNat
theorem put_ev' (l : List UInt8) (n : Int) (h0 : 0 ≤ n) (h1 : n < 9223372036854775808) (h : l.length < 1000000) : Ev (fun k => num_Put.f k (l.map I) (IntKind.u64.wrap n)) ((l ++ putL n.toNat).map I) := by
 have h10 := putL_ten (n := n.toNat) (by omega)
 have := put_ev l n.toNat (by omega)
 rw [show ((n.toNat : Nat) : Int) = n by omega] at this
 have e : IntKind.u64.wrap n = n := by
  have := u64_nat (n := n.toNat) (by omega)
  rwa [show ((n.toNat : Nat) : Int) = n by omega] at this
 rw [e]
 exact this
theorem bytes_ev (c : SC) (h : goodC c = true) : Ev (fun k => cap_bytes.f k c.f0 c.f1 c.f2) ((capB c).map I) := by
 obtain ⟨h0, h1, h2, h3, h4⟩ := goodC_facts h
 have hs := placeB_le h0
 obtain ⟨s, hs2, hsl⟩ := mk_all c.f0
 have e1 := putText_ev [] s (by simp; omega) (by omega)
 have h10 := putL_ten (n := s.length) (by omega)
 have h11 := putL_ten (n := c.f1.toNat) (by omega)
 have e2 := put_ev' ([] ++ putL s.length ++ s) c.f1 h1 (by omega) (by simp only [List.length_append, List.length_nil]; omega)
 have e3 := put_ev' ([] ++ putL s.length ++ s ++ putL c.f1.toNat) c.f2 h3 (by omega) (by simp only [List.length_append, List.length_nil]; omega)
 have e : (capB c).map I = ([] ++ putL s.length ++ s ++ putL c.f1.toNat ++ putL c.f2.toNat).map I := by rw [capB, hs2]; rfl
 rw [e]
 simp only [cap_bytes.f, hs2]
 refine Ev.bind e1 ?_
 refine Ev.bind e2 ?_
 exact Ev.bind e3 (Ev.now _)
theorem capB_len {c : SC} (h : goodC c = true) : (capB c).length ≤ 100 := by
 obtain ⟨h0, h1, h2, h3, h4⟩ := goodC_facts h
 have hs := placeB_le h0
 have hsz : c.f0.data.toList.length = c.f0.size := rfl
 have a := putL_ten (n := c.f0.data.toList.length) (by omega)
 have b := putL_ten (n := c.f1.toNat) (by omega)
 have d := putL_ten (n := c.f2.toNat) (by omega)
 simp only [capB, List.length_append]; omega
theorem first_ev (t n : Int) (h : knownB t n = true) : Ev (fun k => cap_first.f k t n) ⟨(firstL t n).toArray⟩ := by
 obtain ⟨h1, h2, h3, h4⟩ := knownB_facts h
 have h10 := putL_ten (n := t.toNat) (by omega)
 have e1 := put_ev' [] t (by omega) (by omega) (by simp)
 have e2 := put_ev' ([] ++ putL t.toNat) n h3 (by omega) (by simp only [List.length_append, List.length_nil]; omega)
 simp only [cap_first.f]
 refine Ev.bind e1 ?_
 refine Ev.bind e2 ?_
 rw [← nums_mk]
 exact Ev.now _
theorem firstL_len {t n : Int} (h : knownB t n = true) : (firstL t n).length ≤ 20 := by
 obtain ⟨h1, h2, h3, h4⟩ := knownB_facts h
 have a := putL_ten (n := t.toNat) (by omega)
 have b := putL_ten (n := n.toNat) (by omega)
 simp only [firstL, List.length_append]; omega
theorem seal_is (n m : List UInt8) (h1 : n.length ≤ 549755813888) (h2 : m.length ≤ 274877906944) : macSealF ⟨n.toArray⟩ ⟨m.toArray⟩ = some ⟨(sealB n m).toArray⟩ := by
 unfold macSealF
 rw [if_pos ⟨by rw [mk_size]; exact h1, by rw [mk_size]; exact h2⟩]
/-- the seal of a token with these caveats, out of the seal of the one without -/
def keyL (s : List UInt8) : List SC → List UInt8
 | [] => s
 | c :: l => keyL (sealB s (capB c)) l
theorem all_loop {α : Type} (l : List α) (P : α → Bool) (F : Nat → Int → Option Bool)
  (ht : ∀ i c cs, l.drop i = c :: cs → P c = true → ∀ r, Ev (fun k => F k ((i + 1 : Nat) : Int)) r → Ev (fun k => F k (i : Int)) r)
  (hf : ∀ i c cs, l.drop i = c :: cs → P c = false → Ev (fun k => F k (i : Int)) false)
  (he : Ev (fun k => F k ((l.length : Nat) : Int)) true) : ∀ (cs : List α) (i : Nat), l.drop i = cs → i ≤ l.length → Ev (fun k => F k (i : Int)) (cs.all P) := by
 intro cs
 induction cs with
 | nil =>
  intro i hd hi
  rw [drop_nil_len hd hi]
  exact he
 | cons c cs ih =>
  intro i hd hi
  have hlt : i < l.length := by
   rcases Nat.lt_or_ge i l.length with g | g
   ·exact g
   ·rw [List.drop_eq_nil_of_le g] at hd; cases hd
  have hd2 : l.drop (i + 1) = cs := by
   have := congrArg List.tail hd
   simpa [List.tail_drop] using this
  cases hc : P c
  ·rw [List.all_cons, hc]; exact hf i c cs hd hc
  ·rw [List.all_cons, hc]; exact ht i c cs hd hc _ (ih (i + 1) hd2 hlt)
theorem bt_mk (s : List UInt8) (i : Nat) (h : i < s.length) : bt ⟨s.toArray⟩ (i : Int) = I (s.getD i 0) := by
 have hs : i < (⟨s.toArray⟩ : ByteArray).size := by rw [mk_size]; exact h
 simp only [bt, Int.toNat_natCast, hs, dite_true, I]
 simp [List.getD_eq_getElem?_getD, h]
 rfl
theorem mayT_ev (t n : Int) (l : List SC) (s : ByteArray) : Ev (fun k => cap_May.j0 k true t n l s) false :=
 Ev.step (f := fun _ => some false) (fun k => by simp only [cap_May.j0]; rw [if_pos trivial]) (Ev.now false)
theorem mayL_ev (l : List SC) (hn : l.length < 1000000) : Ev (fun k => cap_May.l0 k l (l.length : Int) 0) (l.all goodC) := by
 refine all_loop l goodC (fun k i => cap_May.l0 k l (l.length : Int) i) (fun i c cs hd hc r hr => ?_) (fun i c cs hd hc => ?_) ?_ l 0 rfl (Nat.zero_le _)
 ·obtain ⟨h1, h2, h3⟩ := rd_drop l i c cs hd
  refine Ev.step (fun k => ?_) hr
  simp only [cap_May.l0]
  rw [if_pos (by omega), if_pos (by omega), if_pos (by omega), h1, cgood_is, Option.bind_some, if_pos hc, wrap_succ h3 (by omega)]
 ·obtain ⟨h1, h2, h3⟩ := rd_drop l i c cs hd
  refine Ev.step (f := fun _ => some false) (fun k => ?_) (Ev.now _)
  simp only [cap_May.l0]
  rw [if_pos (by omega), if_pos (by omega), if_pos (by omega), h1, cgood_is, Option.bind_some, if_neg (by rw [show goodC ⟨c.f0, c.f1, c.f2⟩ = false from hc]; simp)]
 ·refine Ev.step (f := fun _ => some true) (fun k => ?_) (Ev.now _)
  simp only [cap_May.l0]
  rw [if_neg (by omega)]
theorem may_ev (t n : Int) (l : List SC) (s : ByteArray) : Ev (fun k => cap_May.f k t n l s) (mayB t n l s) := by
 unfold mayB
 cases hk : knownB t n
 ·refine Ev.congr (fun k => ?_) (mayT_ev t n l s)
  simp only [cap_May.f, known_is, hk, Option.bind_some]
  rw [if_neg (by simp)]
 by_cases hl : l.length ≤ 8
 ·by_cases hs : s.size = 32
  ·rw [show decide (l.length ≤ 8) = true from decide_eq_true hl, show decide (s.size = 32) = true from decide_eq_true hs]
   refine Ev.congr (g := fun k => cap_May.f k t n l s) (fun k => ?_) (Ev.step (g := fun k => cap_May.j0 k false t n l s) (fun k => ?_) (mayL_ev l (by omega)))
   ·simp only [cap_May.f, known_is, hk, Option.bind_some]
    rw [if_pos trivial, if_neg (by omega), show ((s.size : Int) != 32) = false by simp [hs]]
   ·simp only [cap_May.j0]
    rw [if_neg (by simp)]
  ·rw [show decide (l.length ≤ 8) = true from decide_eq_true hl, show decide (s.size = 32) = false from decide_eq_false hs]
   refine Ev.congr (fun k => ?_) (mayT_ev t n l s)
   simp only [cap_May.f, known_is, hk, Option.bind_some]
   rw [if_pos trivial, if_neg (by omega), show ((s.size : Int) != 32) = true by simp; omega]
 ·rw [show decide (l.length ≤ 8) = false from decide_eq_false hl]
  refine Ev.congr (fun k => ?_) (mayT_ev t n l s)
  simp only [cap_May.f, known_is, hk, Option.bind_some]
  rw [if_pos trivial, if_pos (by omega)]
theorem mayB_facts {t n : Int} {l : List SC} {s : ByteArray} (h : mayB t n l s = true) : knownB t n = true ∧ l.length ≤ 8 ∧ s.size = 32 ∧ l.all goodC = true := by
 simp only [mayB, Bool.and_eq_true, decide_eq_true_eq] at h
 exact h
/-- the seal of a token of no caveats -/
def sealF (s : List UInt8) (t n : Int) : List UInt8 := sealB s (firstL t n)
theorem mint_ev (s : List UInt8) (t n : Int) (hs : s.length ≤ 1000) (h : knownB t n = true) : Ev (fun k => cap_Mint.f k ⟨s.toArray⟩ t n) (t, n, [], ⟨(sealF s t n).toArray⟩, 0) := by
 have hl := firstL_len h
 simp only [cap_Mint.f, known_is, h, Option.bind_some, if_true]
 refine Ev.bind (first_ev t n h) ?_
 simp only [mac_Seal.f, seal_is s (firstL t n) (by omega) (by omega), Option.bind_some]
 exact Ev.now _
theorem narrow_ev (t n : Int) (l : List SC) (s : List UInt8) (c : SC) (hm : mayB t n l ⟨s.toArray⟩ = true) (hc : goodC c = true) (hl : l.length < 8) : Ev (fun k => cap_Narrow.f k t n l ⟨s.toArray⟩ c.f0 c.f1 c.f2) (t, n, l ++ [c], ⟨(sealB s (capB c)).toArray⟩, 0) := by
 have hs := (mayB_facts hm).2.2.1
 rw [mk_size] at hs
 have hb := capB_len hc
 simp only [cap_Narrow.f, cgood_is, Option.bind_some]
 refine Ev.bind (may_ev t n l _) ?_
 simp only [hm, if_true, show goodC ⟨c.f0, c.f1, c.f2⟩ = true from hc, Bool.not_true]
 refine Ev.step (f := fun k => (cap_bytes.f k c.f0 c.f1 c.f2).bind fun x => (mac_Seal.f ⟨s.toArray⟩ (strOfNums x)).bind fun y => some (t, n, l ++ [c], y, 0)) (fun k => ?_) ?_
 ·simp only [cap_Narrow.j0, Option.bind_some, List.nil_append]
  rw [if_neg (by simp), if_neg (by omega), if_pos (by simp; omega), if_pos (by simp; omega)]
 ·refine Ev.bind (bytes_ev c hc) ?_
  simp only [nums_mk, mac_Seal.f, seal_is s (capB c) (by omega) (by omega), Option.bind_some]
  exact Ev.now _
theorem u8_or' (x y : UInt8) : Go.bits .or .u8 (I x) (I y) = I (x ||| y) := by
 simp only [I]; rw [Go.u8_or_nat _ _ x.toNat_lt y.toNat_lt, UInt8.toNat_or]
theorem u8_xor' (x y : UInt8) : Go.bits .xor .u8 (I x) (I y) = I (x ^^^ y) := by
 simp only [I]; rw [Go.u8_xor_nat _ _ x.toNat_lt y.toNat_lt, UInt8.toNat_xor]
theorem or_xor_zero (d a b : UInt8) : ((d ||| (a ^^^ b)) == 0) = ((d == 0) && (a == b)) := by
 rw [Bool.eq_iff_iff, Bool.and_eq_true, beq_iff_eq, beq_iff_eq, beq_iff_eq]
 constructor
 ·intro h
  obtain ⟨h2, h3⟩ := UInt8.or_eq_zero_iff.1 h
  exact ⟨h2, UInt8.xor_eq_zero_iff.1 h3⟩
 ·rintro ⟨rfl, rfl⟩
  simp
theorem I_zero (d : UInt8) : (I d == 0) = (d == 0) := by
 rw [Bool.eq_iff_iff, beq_iff_eq, beq_iff_eq]
 constructor
 ·intro h
  have : d.toNat = 0 := by simp only [I] at h; omega
  exact UInt8.toNat.inj this
 ·rintro rfl; rfl
theorem check1_ev (key s : List UInt8) (hk : key.length = 32) (hs : s.length = 32) (a b : Int) (l : List SC) : ∀ (m i : Nat) (d : UInt8), i + m = 32 → Ev (fun k => cap_Check.l1 k ⟨key.toArray⟩ (I d) 32 (i : Int) a b l ⟨s.toArray⟩) ((d == 0) && (key.drop i == s.drop i)) := by
 intro m
 induction m with
 | zero =>
  intro i d hi
  rw [List.drop_eq_nil_of_le (by omega), List.drop_eq_nil_of_le (by omega)]
  refine Ev.step (f := fun _ => some (d == 0 && ([] == ([] : List UInt8)))) (fun k => ?_) (Ev.now _)
  simp only [cap_Check.l1]
  rw [if_neg (by omega), I_zero]
  simp
 | succ m ih =>
  intro i d hi
  have h1 : i < key.length := by omega
  have h2 : i < s.length := by omega
  have e1 : key.drop i = key.getD i 0 :: key.drop (i + 1) := by rw [List.drop_eq_getElem_cons h1, List.getD_eq_getElem?_getD, List.getElem?_eq_getElem h1]; rfl
  have e2 : s.drop i = s.getD i 0 :: s.drop (i + 1) := by rw [List.drop_eq_getElem_cons h2, List.getD_eq_getElem?_getD, List.getElem?_eq_getElem h2]; rfl
  have h := ih (i + 1) (d ||| (key.getD i 0 ^^^ s.getD i 0)) (by omega)
  rw [or_xor_zero] at h
  rw [e1, e2, List.cons_beq_cons, ← Bool.and_assoc]
  refine Ev.step (fun k => ?_) h
  simp only [cap_Check.l1, mk_size]
  rw [if_pos (by omega), if_pos (by omega), if_pos (by omega), if_pos (by omega), bt_mk _ _ h1, bt_mk _ _ h2, u8_xor', u8_or', wrap_succ (n := 32) (by omega) (by omega)]
theorem check0_ev (l : List SC) (s : List UInt8) (hl : l.length ≤ 8) (hg : l.all goodC = true) (hs : s.length = 32) (a b : Int) (l0 : List SC) : ∀ (cs : List SC) (i : Nat) (key : List UInt8), l.drop i = cs → i ≤ l.length → key.length = 32 → Ev (fun k => cap_Check.l0 k ⟨key.toArray⟩ l (l.length : Int) (i : Int) a b l0 ⟨s.toArray⟩) (keyL key cs == s) := by
 intro cs
 induction cs with
 | nil =>
  intro i key hd hi hk
  have := drop_nil_len hd hi
  have h1 := check1_ev key s hk hs a b l0 32 0 0 rfl
  simp only [List.drop_zero, beq_self_eq_true, Bool.true_and] at h1
  refine Ev.step (fun k => ?_) h1
  simp only [cap_Check.l0, mk_size, hk]
  rw [if_neg (by omega)]
  rfl
 | cons c cs ih =>
  intro i key hd hi hk
  obtain ⟨h1, h2, h3⟩ := rd_drop l i c cs hd
  have hc : goodC c = true := List.all_eq_true.1 hg c (List.mem_of_mem_drop (by rw [hd]; exact List.mem_cons_self ..))
  have hb := capB_len hc
  have h := ih (i + 1) (sealB key (capB c)) h2 h3 (seal_length _ _)
  refine Ev.step (f := fun k => (cap_bytes.f k c.f0 c.f1 c.f2).bind fun x => (mac_Seal.f ⟨key.toArray⟩ (strOfNums x)).bind fun y => cap_Check.l0 k y l (l.length : Int) ((i + 1 : Nat) : Int) a b l0 ⟨s.toArray⟩) (fun k => ?_) ?_
  ·simp only [cap_Check.l0]
   rw [if_pos (by omega), if_pos (by omega), if_pos (by omega), h1, wrap_succ h3 (by omega)]
  ·refine Ev.bind (bytes_ev c hc) ?_
   simp only [nums_mk, mac_Seal.f, seal_is key (capB c) (by omega) (by omega), Option.bind_some]
   exact h
theorem check_ev (sec : List UInt8) (t n : Int) (l : List SC) (s : List UInt8) (hsec : sec.length ≤ 1000) : Ev (fun k => cap_Check.f k ⟨sec.toArray⟩ t n l ⟨s.toArray⟩) (mayB t n l ⟨s.toArray⟩ && (keyL (sealF sec t n) l == s)) := by
 simp only [cap_Check.f]
 refine Ev.bind (may_ev t n l _) ?_
 cases hm : mayB t n l ⟨s.toArray⟩
 ·simp only [Bool.false_eq_true, if_false, Bool.false_and]
  exact Ev.now _
 ·obtain ⟨h1, h2, h3, h4⟩ := mayB_facts hm
  rw [mk_size] at h3
  have hf := firstL_len h1
  simp only [if_true, Bool.true_and]
  refine Ev.bind (first_ev t n h1) ?_
  simp only [mac_Seal.f, seal_is sec (firstL t n) (by omega) (by omega), Option.bind_some]
  exact check0_ev l s h2 h4 h3 t n l l 0 (sealF sec t n) rfl (Nat.zero_le _) (seal_length _ _)
theorem hasPrefix_is (a b : ByteArray) : strings_HasPrefix.f a b = some (b.data.toList.isPrefixOf a.data.toList) := by
 have ha : a.size = a.data.toList.length := rfl
 have hb : b.size = b.data.toList.length := rfl
 simp only [strings_HasPrefix.f, stringslite_HasPrefix.f]
 by_cases h : b.size ≤ a.size
 ·rw [if_pos (by omega), if_pos (by omega), if_pos (by omega)]
  simp only [Option.bind_some, toList_data, Int.toNat_natCast]
  congr 1
  rw [Bool.eq_iff_iff, beq_iff_eq, List.isPrefixOf_iff_prefix]
  have e : (a.extract 0 b.size).data.toList = a.data.toList.take b.size := by
   rw [ByteArray.data_extract, Array.toList_extract]
   simp [List.extract_eq_take_drop]
  rw [e, List.prefix_iff_eq_take, hb]
  exact eq_comm
 ·rw [if_neg (by omega)]
  simp only [Option.bind_some]
  congr 1
  symm
  rw [Bool.eq_false_iff, Ne, List.isPrefixOf_iff_prefix]
  intro hp
  have := hp.length_le
  omega
def coversB (a p : ByteArray) : Bool := placeB a && (placeB p && coverL a.data.toList p.data.toList)
theorem covers_is (a p : ByteArray) : path_Covers.f a p = some (coversB a p) := by
 simp only [path_Covers.f, place_is, Option.bind_some, coversB, coverL]
 cases ha : placeB a
 ·simp
 cases hp : placeB p
 ·simp
 have hs := placeB_le ha
 simp only [if_true, Bool.true_and, toList_data]
 by_cases h0 : a.data.toList = []
 ·rw [if_pos h0, h0]; rfl
 rw [if_neg h0, show (a.data.toList == []) = false from beq_eq_false_iff_ne.2 h0, Bool.false_or]
 by_cases h1 : p.data.toList = a.data.toList
 ·rw [if_pos h1, h1]
  congr 1
  symm
  rw [List.isPrefixOf_iff_prefix]
  exact List.prefix_refl _
 rw [if_neg h1, if_pos (by omega), hasPrefix_is]
 simp only [Option.bind_some]
 congr 1
 rw [Bool.eq_iff_iff, List.isPrefixOf_iff_prefix, List.isPrefixOf_iff_prefix, stroke_prefix]
 rw [show (a ++ (⟨#[47]⟩ : ByteArray)).data.toList = a.data.toList ++ [47] by rw [ByteArray.data_append]; simp]
 constructor
 ·exact Or.inr
 ·rintro (h | h)
  ·exact absurd h h1
  ·exact h
/-- does a caveat let something -/
def letC (r : Int) (p : ByteArray) (now : Int) (c : SC) : Bool := coversB c.f0 p && (!decide (Go.bits .and .i64 c.f1 r = 0) && !decide (now > c.f2))
def rightB (r : Int) : Bool := decide (r = 1) || (decide (r = 2) || decide (r = 4))
theorem letsL_ev (r : Int) (p : ByteArray) (now : Int) (l : List SC) (hn : l.length < 1000000) : Ev (fun k => cap_Lets.l0 k r p now l (l.length : Int) 0) (l.all (letC r p now)) := by
 refine all_loop l (letC r p now) (fun k i => cap_Lets.l0 k r p now l (l.length : Int) i) (fun i c cs hd hc R hr => ?_) (fun i c cs hd hc => ?_) ?_ l 0 rfl (Nat.zero_le _)
 ·obtain ⟨h1, h2, h3⟩ := rd_drop l i c cs hd
  simp only [letC, Bool.and_eq_true, Bool.not_eq_true', decide_eq_false_iff_not] at hc
  obtain ⟨c1, c2, c3⟩ := hc
  refine Ev.step (fun k => ?_) hr
  simp only [cap_Lets.l0]
  rw [if_pos (by omega), if_pos (by omega), if_pos (by omega), h1, covers_is, Option.bind_some, if_pos c1, if_neg c2, if_neg c3, wrap_succ h3 (by omega)]
 ·obtain ⟨h1, h2, h3⟩ := rd_drop l i c cs hd
  refine Ev.step (f := fun _ => some false) (fun k => ?_) (Ev.now _)
  simp only [cap_Lets.l0]
  rw [if_pos (by omega), if_pos (by omega), if_pos (by omega), h1, covers_is, Option.bind_some]
  by_cases c1 : coversB c.f0 p = true
  ·rw [if_pos c1]
   by_cases c2 : Go.bits .and .i64 c.f1 r = 0
   ·rw [if_pos c2]
   ·rw [if_neg c2]
    by_cases c3 : now > c.f2
    ·rw [if_pos c3]
    ·exact absurd hc (by simp only [letC, c1, c2, c3]; simp)
  ·rw [if_neg c1]
 ·refine Ev.step (f := fun _ => some true) (fun k => ?_) (Ev.now _)
  simp only [cap_Lets.l0]
  rw [if_neg (by omega)]
def letsB (t n : Int) (l : List SC) (s : ByteArray) (r : Int) (p : ByteArray) (now : Int) : Bool := rightB r && (placeB p && (mayB t n l s && l.all (letC r p now)))
theorem letsT_ev (r : Int) (p : ByteArray) (now t n : Int) (l : List SC) (s : ByteArray) : Ev (fun k => cap_Lets.j0 k r p now true t n l s) false :=
 Ev.step (f := fun _ => some false) (fun k => by simp only [cap_Lets.j0]; rw [if_pos trivial]) (Ev.now _)
theorem letsM_ev (r : Int) (p : ByteArray) (now t n : Int) (l : List SC) (s : ByteArray) : Ev (fun k => (cap_May.f k t n l s).bind fun x => cap_Lets.j0 k r p now (!x) t n l s) (mayB t n l s && l.all (letC r p now)) := by
 refine Ev.bind (may_ev t n l s) ?_
 cases hm : mayB t n l s
 ·exact letsT_ev r p now t n l s
 ·have hl := (mayB_facts hm).2.1
  refine Ev.step (fun k => ?_) (letsL_ev r p now l (by omega))
  simp only [cap_Lets.j0]
  rw [if_neg (by simp)]
theorem lets_ev (t n : Int) (l : List SC) (s : ByteArray) (r : Int) (p : ByteArray) (now : Int) : Ev (fun k => cap_Lets.f k t n l s r p now) (letsB t n l s r p now) := by
 simp only [cap_Lets.f, place_is, Option.bind_some, letsB, rightB]
 by_cases h1 : r = 1
 ·rw [show decide (r = 1) = true from decide_eq_true h1, Bool.true_or, Bool.true_and]
  simp only [if_pos h1]
  cases placeB p
  ·simp only [Bool.false_eq_true, if_false, Bool.false_and]; exact letsT_ev r p now t n l s
  ·simp only [if_true, Bool.true_and]; exact letsM_ev r p now t n l s
 by_cases h2 : r = 2
 ·rw [show decide (r = 1) = false from decide_eq_false h1, show decide (r = 2) = true from decide_eq_true h2, Bool.false_or, Bool.true_or, Bool.true_and]
  simp only [if_neg h1, if_pos h2]
  cases placeB p
  ·simp only [Bool.false_eq_true, if_false, Bool.false_and]; exact letsT_ev r p now t n l s
  ·simp only [if_true, Bool.true_and]; exact letsM_ev r p now t n l s
 by_cases h4 : r = 4
 ·rw [show decide (r = 1) = false from decide_eq_false h1, show decide (r = 2) = false from decide_eq_false h2, show decide (r = 4) = true from decide_eq_true h4, Bool.false_or, Bool.false_or, Bool.true_and]
  simp only [if_neg h1, if_neg h2, if_pos h4]
  cases placeB p
  ·simp only [Bool.false_eq_true, if_false, Bool.false_and]; exact letsT_ev r p now t n l s
  ·simp only [if_true, Bool.true_and]; exact letsM_ev r p now t n l s
 rw [show decide (r = 1) = false from decide_eq_false h1, show decide (r = 2) = false from decide_eq_false h2, show decide (r = 4) = false from decide_eq_false h4, Bool.false_or, Bool.false_or, Bool.false_and]
 simp only [if_neg h1, if_neg h2, if_neg h4]
 exact letsT_ev r p now t n l s
theorem rput' (n : Int) (h0 : 0 ≤ n) (h1 : n < 9223372036854775808) : Ev (fun k => strongroomref01_Put.f k (IntKind.u64.wrap n)) ⟨(putL n.toNat).toArray⟩ := by
 have := rput_ev n.toNat (by omega)
 rw [show ((n.toNat : Nat) : Int) = n by omega] at this
 have e : IntKind.u64.wrap n = n := by
  have := u64_nat (n := n.toNat) (by omega)
  rwa [show ((n.toNat : Nat) : Int) = n by omega] at this
 rw [e]
 exact this
theorem rbytes_ev (c : SC) (h : goodC c = true) : Ev (fun k => strongroomref12_Bytes.f k c.f0 c.f1 c.f2) ⟨(capB c).toArray⟩ := by
 obtain ⟨h0, h1, h2, h3, h4⟩ := goodC_facts h
 have hs := placeB_le h0
 obtain ⟨s, hs2, hsl⟩ := mk_all c.f0
 have h9 := putL_ten (n := s.length) (by omega)
 have h10 := putL_ten (n := c.f1.toNat) (by omega)
 have h11 := putL_ten (n := c.f2.toNat) (by omega)
 have e : capB c = putL s.length ++ s ++ putL c.f1.toNat ++ putL c.f2.toNat := by rw [capB, hs2]
 rw [e]
 simp only [strongroomref12_Bytes.f, hs2]
 refine Ev.bind (rtext_ev s (by omega)) ?_
 refine Ev.bind (rput' c.f1 h1 (by omega)) ?_
 refine ifpos (by simp only [mk_size, List.length_append]; omega) ?_
 refine Ev.bind (rput' c.f2 h3 (by omega)) ?_
 refine ifpos (by simp only [mk_size, mk_app, List.length_append]; omega) ?_
 simp only [mk_app]
 exact Ev.now _
theorem head_ev (t n : Int) (h : knownB t n = true) : Ev (fun k => strongroomref12_head.f k t n) ⟨(firstL t n).toArray⟩ := by
 obtain ⟨h1, h2, h3, h4⟩ := knownB_facts h
 have a := putL_ten (n := t.toNat) (by omega)
 have b := putL_ten (n := n.toNat) (by omega)
 simp only [strongroomref12_head.f, firstL]
 refine Ev.bind (rput' t (by omega) (by omega)) ?_
 refine Ev.bind (rput' n h3 (by omega)) ?_
 refine ifpos (by simp only [mk_size]; omega) ?_
 simp only [mk_app]
 exact Ev.now _
theorem sameL_ev (t n : Int) (l : List SC) (s : ByteArray) (hl : l.length < 1000000) : ∀ (d i : Nat), i + d = l.length → Ev (fun k => strongroomref12_Same.l0 k (i : Int) t n l s t n l s) true := by
 intro d
 induction d with
 | zero =>
  intro i hi
  refine Ev.step (f := fun _ => some true) (fun k => ?_) (Ev.now _)
  simp only [strongroomref12_Same.l0]
  rw [if_neg (by omega)]
 | succ d ih =>
  intro i hi
  refine Ev.step (fun k => ?_) (ih (i + 1) (by omega))
  simp only [strongroomref12_Same.l0]
  rw [if_pos (by omega), if_pos (by omega), if_pos (by omega), if_neg (by simp), wrap_succ (n := l.length) (by omega) (by omega)]
theorem same_ev (t n : Int) (l : List SC) (s : ByteArray) (hl : l.length < 1000000) : Ev (fun k => strongroomref12_Same.f k t n l s t n l s) true := by
 simp only [strongroomref12_Same.f, if_true]
 refine Ev.step (fun k => ?_) (sameL_ev t n l s hl l.length 0 (by omega))
 simp only [strongroomref12_Same.j0]
 rw [if_neg (by simp)]
 rfl
abbrev cE : SC := ⟨⟨#[97]⟩, 1, 9⟩
theorem cE_good : goodC cE = true := by decide +kernel
theorem lives_ev : Ev (fun k => strongroomlaw12_lives.f k) true := by
 have hk : knownB 1 5 = true := by decide
 have hm : mayB 1 5 [] ⟨(sealF [115] 1 5).toArray⟩ = true := by
  simp only [mayB, hk, mk_size, sealF, seal_length]; decide
 have hm2 : mayB 1 5 [cE] ⟨(sealB (sealF [115] 1 5) (capB cE)).toArray⟩ = true := by
  simp only [mayB, hk, mk_size, seal_length, List.all_cons, cE_good]; decide
 have nr := narrow_ev 1 5 [] (sealF [115] 1 5) cE hm cE_good (by decide)
 have l1 := lets_ev 1 5 [cE] ⟨(sealB (sealF [115] 1 5) (capB cE)).toArray⟩ 1 ⟨#[97, 47, 98]⟩ 9
 rw [show letsB 1 5 [cE] ⟨(sealB (sealF [115] 1 5) (capB cE)).toArray⟩ 1 ⟨#[97, 47, 98]⟩ 9 = true by rw [letsB, hm2]; decide +kernel] at l1
 have l2 := lets_ev 1 5 [cE] ⟨(sealB (sealF [115] 1 5) (capB cE)).toArray⟩ 2 ⟨#[97]⟩ 9
 rw [show letsB 1 5 [cE] ⟨(sealB (sealF [115] 1 5) (capB cE)).toArray⟩ 2 ⟨#[97]⟩ 9 = false by rw [letsB, hm2]; decide +kernel] at l2
 have l3 := lets_ev 1 5 [cE] ⟨(sealB (sealF [115] 1 5) (capB cE)).toArray⟩ 1 ⟨#[98]⟩ 9
 rw [show letsB 1 5 [cE] ⟨(sealB (sealF [115] 1 5) (capB cE)).toArray⟩ 1 ⟨#[98]⟩ 9 = false by rw [letsB, hm2]; decide +kernel] at l3
 have l4 := lets_ev 1 5 [cE] ⟨(sealB (sealF [115] 1 5) (capB cE)).toArray⟩ 1 ⟨#[97]⟩ 10
 rw [show letsB 1 5 [cE] ⟨(sealB (sealF [115] 1 5) (capB cE)).toArray⟩ 1 ⟨#[97]⟩ 10 = false by rw [letsB, hm2]; decide +kernel] at l4
 have ch := check_ev [115] 1 5 [cE] (sealB (sealF [115] 1 5) (capB cE)) (by decide)
 rw [hm2, show keyL (sealF [115] 1 5) [cE] = sealB (sealF [115] 1 5) (capB cE) from rfl, beq_self_eq_true, Bool.and_true] at ch
 simp only [strongroomlaw12_lives.f]
 refine Ev.bind (mint_ev [115] 1 5 (by decide) hk) ?_
 refine Ev.bind nr ?_
 refine ifpos rfl ?_
 refine ifpos rfl ?_
 refine Ev.bind l1 ?_
 refine ifpos rfl ?_
 refine Ev.bind l2 ?_
 refine ifneg (by simp) ?_
 refine Ev.bind l3 ?_
 refine ifneg (by simp) ?_
 refine Ev.bind l4 ?_
 refine ifneg (by simp) ?_
 exact Ev.bind ch (Ev.now _)
theorem lives_ev' : Ev (fun k => (strongroomlaw12_lives.f k).bind fun t => some t) true := Ev.bind lives_ev (Ev.now _)
/-- a text cut at its strokes -/
def cutL : List UInt8 → List (List UInt8)
 | [] => [[]]
 | b :: l => if b = 47 then [] :: cutL l else match cutL l with
  | [] => [[b]]
  | h :: t => (b :: h) :: t
theorem cutL_ne : ∀ l : List UInt8, cutL l ≠ []
 | [] => by simp [cutL]
 | b :: l => by
  unfold cutL
  split
  ·simp
  ·cases h : cutL l <;> simp
theorem splitK_ne (b : UInt8) (l : List UInt8) (h : b ≠ 47) (k : Nat) : Go.Lib.splitK [47] 0 k (b :: l) = match Go.Lib.splitK [47] 0 k l with
  | [] => [[b]]
  | x :: t => (b :: x) :: t := by
 cases k with
 | zero => rfl
 | succ k =>
  have hp : ([47] : List UInt8).isPrefixOf (b :: l) = false := by simp [List.isPrefixOf, Ne.symm h]
  have hix : Go.Lib.index (b :: l) [47] = if Go.Lib.index l [47] == -1 then -1 else Go.Lib.index l [47] + 1 := by rw [Go.Lib.index, hp]; simp
  by_cases hm : Go.Lib.index l [47] = -1
  ·simp only [Go.Lib.splitK, hix, hm]
   rfl
  ·have hge := Go.Lib.index_ge l [47]
   have hm2 : (Go.Lib.index l [47] == -1) = false := beq_eq_false_iff_ne.2 hm
   have hm3 : (Go.Lib.index l [47] + 1 == -1) = false := beq_eq_false_iff_ne.2 (by omega)
   simp only [Go.Lib.splitK, hix, hm2, hm3, Bool.false_eq_true, if_false]
   have e : (Go.Lib.index l [47] + 1).toNat = (Go.Lib.index l [47]).toNat + 1 := by omega
   rw [e]
   simp
theorem splitK_cutL : ∀ l : List UInt8, Go.Lib.splitK [47] 0 (Go.Lib.count l [47]) l = cutL l
 | [] => by rw [Go.Lib.count_miss (by simp [Go.Lib.index])]; rfl
 | b :: l => by
  by_cases h : b = 47
  ·subst h
   have hix : Go.Lib.index (47 :: l) [47] = 0 := by rw [Go.Lib.index]; simp [List.isPrefixOf]
   rw [Go.Lib.count_cons_eq, Nat.add_comm]
   simp only [Go.Lib.splitK, hix]
   rw [if_neg (by decide)]
   simp only [cutL, if_true, ← splitK_cutL l]
   rfl
  ·rw [Go.Lib.count_cons_ne b 47 l h, splitK_ne b l h, splitK_cutL l]
   simp only [cutL, if_neg h]
theorem pieces_data (s : ByteArray) : (pieces s).map (·.data.toList) = cutL s.data.toList := by
 rw [pieces, Go.Lib.splitB_data]
 exact splitK_cutL s.data.toList
/-- is a text a path, in plain lists -/
def goodL (s : List UInt8) : Bool := decide (1 ≤ s.length) && decide (s.length ≤ 32) && (cutL s).all nameB
theorem goodB_goodL (s : ByteArray) : goodB s = goodL s.data.toList := by
 unfold goodB goodL
 rw [← pieces_data, List.all_map]
 rfl
/-- the same cut, with what stands ahead -/
def cutG : List UInt8 → List UInt8 → List (List UInt8)
 | cur, [] => [cur]
 | cur, b :: l => if b = 47 then cur :: cutG [] l else cutG (cur ++ [b]) l
theorem cutG_eq : ∀ (l cur : List UInt8), cutG cur l = match cutL l with | [] => [cur] | h :: t => (cur ++ h) :: t
 | [], cur => by simp [cutG, cutL]
 | b :: l, cur => by
  unfold cutG cutL
  by_cases h : b = 47
  ·rw [if_pos h, if_pos h, cutG_eq l []]
   cases hc : cutL l with
   | nil => exact absurd hc (cutL_ne l)
   | cons x t => simp
  ·rw [if_neg h, if_neg h, cutG_eq l (cur ++ [b])]
   cases hc : cutL l with
   | nil => simp
   | cons x t => simp
theorem cutG_nil (l : List UInt8) : cutG [] l = cutL l := by
 rw [cutG_eq]
 cases hc : cutL l with
 | nil => exact absurd hc (cutL_ne l)
 | cons x t => simp
abbrev mkB (p : List UInt8) : ByteArray := ⟨p.toArray⟩
theorem extract_mk (s : List UInt8) (a b : Nat) : (⟨s.toArray⟩ : ByteArray).extract a b = mkB ((s.drop a).take (b - a)) := by
 apply ByteArray.ext
 rw [ByteArray.data_extract]
 simp [List.extract_eq_take_drop]
theorem drop_cons_facts {α : Type} {l : List α} {i : Nat} {c : α} {cs : List α} (h : l.drop i = c :: cs) : l[i]? = some c ∧ l.drop (i + 1) = cs ∧ i < l.length := by
 have hlt : i < l.length := by
  rcases Nat.lt_or_ge i l.length with g | g
  ·exact g
  ·rw [List.drop_eq_nil_of_le g] at h; cases h
 refine ⟨?_, ?_, hlt⟩
 ·have := congrArg List.head? h
  simpa [List.head?_drop] using this
 ·have := congrArg List.tail h
  simpa [List.tail_drop] using this
theorem getD_of {l : List UInt8} {i : Nat} {c : UInt8} (h : l[i]? = some c) : l.getD i 0 = c := by rw [List.getD_eq_getElem?_getD, h]; rfl
theorem take_piece {s : List UInt8} {f i : Nat} {b : UInt8} (hf : f ≤ i) (hb : s[i]? = some b) : (s.drop f).take (i + 1 - f) = (s.drop f).take (i - f) ++ [b] := by
 rw [show i + 1 - f = (i - f) + 1 by omega, List.take_add_one, List.getElem?_drop, show f + (i - f) = i by omega, hb]; rfl
theorem cut_loop (s : List UInt8) (hs : s.length < 1000000) : ∀ (rest : List UInt8) (i f : Nat) (acc : List ByteArray), s.drop i = rest → f ≤ i → i ≤ s.length → acc.length ≤ i → Ev (fun k => strongroomref05_Cut.l0 k ⟨s.toArray⟩ acc (f : Int) (i : Int)) (acc ++ (cutG ((s.drop f).take (i - f)) rest).map mkB) := by
 intro rest
 induction rest with
 | nil =>
  intro i f acc hd hf hi ha
  have hl := drop_nil_len hd hi
  refine Ev.step (f := fun k => strongroomref05_Cut.l0 k ⟨s.toArray⟩ (acc ++ [mkB ((s.drop f).take (i - f))]) (wrap64 ((i : Int) + 1)) (wrap64 ((i : Int) + 1))) (fun k => ?_) (Ev.step (f := fun _ => some (acc ++ [mkB ((s.drop f).take (i - f))])) (fun k => ?_) (Ev.now _))
  ·simp only [strongroomref05_Cut.l0, mk_size]
   rw [if_pos (by omega), if_pos (by omega), if_pos (by omega), if_pos (by omega), if_pos (by omega), Int.toNat_natCast, Int.toNat_natCast, extract_mk]
  ·simp only [strongroomref05_Cut.l0, mk_size]
   rw [if_neg (by unfold wrap64; omega)]
 | cons b rest ih =>
  intro i f acc hd hf hi ha
  obtain ⟨h1, h2, h3⟩ := drop_cons_facts hd
  have hb : bt ⟨s.toArray⟩ (i : Int) = I b := by rw [bt_mk s i h3, getD_of h1]
  have hw := wrap_succ h3 (by omega)
  by_cases h47 : b = 47
  ·have h := ih (i + 1) (i + 1) (acc ++ [mkB ((s.drop f).take (i - f))]) h2 (Nat.le_refl _) h3 (by simp; omega)
   rw [Nat.sub_self, List.take_zero] at h
   rw [cutG, if_pos h47, List.map_cons]
   rw [List.append_assoc, List.singleton_append] at h
   refine Ev.step (fun k => ?_) h
   simp only [strongroomref05_Cut.l0, mk_size]
   rw [if_pos (by omega), if_neg (by omega), if_pos (by omega), if_pos (by omega), hb, if_pos (by rw [h47]; rfl), if_pos (by omega), if_pos (by omega), if_pos (by omega), Int.toNat_natCast, Int.toNat_natCast, extract_mk, hw]
  ·have h := ih (i + 1) f acc h2 (by omega) h3 (by omega)
   rw [take_piece hf h1] at h
   rw [cutG, if_neg h47]
   refine Ev.step (fun k => ?_) h
   simp only [strongroomref05_Cut.l0, mk_size]
   rw [if_pos (by omega), if_neg (by omega), if_pos (by omega), if_pos (by omega), hb, if_neg (by intro h; exact h47 (UInt8.toNat.inj (show b.toNat = 47 by simp only [I] at h; omega))), hw]
theorem cut_ev (s : List UInt8) (hs : s.length < 1000000) : Ev (fun k => strongroomref05_Cut.f k ⟨s.toArray⟩) ((cutL s).map mkB) := by
 simp only [strongroomref05_Cut.f]
 have h := cut_loop s hs s 0 0 [] rfl (Nat.le_refl _) (Nat.zero_le _) (Nat.zero_le _)
 simp only [Nat.sub_self, List.take_zero, List.nil_append, cutG_nil] at h
 exact h
theorem nameJ_t (s : ByteArray) : Ev (fun k => strongroomref05_Name.j0 k s true) false :=
 Ev.step (f := fun _ => some false) (fun k => by simp only [strongroomref05_Name.j0]; rw [if_pos trivial]) (Ev.now _)
theorem nameLoop_ev (s : List UInt8) (hs : s.length < 1000000) : Ev (fun k => strongroomref05_Name.l0 k ⟨s.toArray⟩ 0) (s.all okB) := by
 refine all_loop s okB (fun k i => strongroomref05_Name.l0 k ⟨s.toArray⟩ i) (fun i c cs hd hc r hr => ?_) (fun i c cs hd hc => ?_) ?_ s 0 rfl (Nat.zero_le _)
 ·obtain ⟨h1, h2, h3⟩ := drop_cons_facts hd
  have hb : bt ⟨s.toArray⟩ (i : Int) = I c := by rw [bt_mk s i h3, getD_of h1]
  rw [okB_okI] at hc
  have hk := okI_true hc
  refine Ev.step (fun k => ?_) hr
  simp only [strongroomref05_Name.l0, mk_size, hb]
  rw [if_pos (by omega), if_pos (by omega), wrap_succ h3 (by omega)]
  generalize strongroomref05_Name.l0 k ⟨s.toArray⟩ ((i + 1 : Nat) : Int) = X
  simp only [I]
  repeat' split
  all_goals first | rfl | (exfalso; omega)
 ·obtain ⟨h1, h2, h3⟩ := drop_cons_facts hd
  have hb : bt ⟨s.toArray⟩ (i : Int) = I c := by rw [bt_mk s i h3, getD_of h1]
  rw [okB_okI] at hc
  have hk := okI_false hc
  refine Ev.step (f := fun _ => some false) (fun k => ?_) (Ev.now _)
  simp only [strongroomref05_Name.l0, mk_size, hb]
  rw [if_pos (by omega), if_pos (by omega), wrap_succ h3 (by omega)]
  generalize strongroomref05_Name.l0 k ⟨s.toArray⟩ ((i + 1 : Nat) : Int) = X
  simp only [I]
  repeat' split
  all_goals first | rfl | (exfalso; omega)
 ·refine Ev.step (f := fun _ => some true) (fun k => ?_) (Ev.now _)
  simp only [strongroomref05_Name.l0, mk_size]
  rw [if_neg (by omega)]
theorem rname_ev (s : List UInt8) (hs : s.length < 1000000) : Ev (fun k => strongroomref05_Name.f k ⟨s.toArray⟩) (nameB s) := by
 simp only [strongroomref05_Name.f, toList_data, mk_size]
 by_cases h0 : s = []
 ·refine ifpos h0 ?_
  subst h0
  exact nameJ_t _
 refine ifneg h0 ?_
 have hl : 1 ≤ s.length := by
  rcases s with _ | ⟨b, s⟩
  ·exact absurd rfl h0
  ·simp
 by_cases h1 : 12 < s.length
 ·refine ifpos (by omega) ?_
  rw [show nameB s = false by rw [nameB, show decide (s.length ≤ 12) = false from decide_eq_false (by omega)]; simp]
  exact nameJ_t _
 refine ifneg (by omega) ?_
 by_cases h2 : s = [46]
 ·refine ifpos h2 ?_
  subst h2
  exact nameJ_t _
 refine ifneg h2 ?_
 by_cases h3 : s = [46, 46]
 ·subst h3
  exact nameJ_t _
 rw [show ((s.toArray).toList == [46, 46]) = false from beq_eq_false_iff_ne.2 h3]
 rw [show nameB s = s.all okB by
  rw [nameB, show decide (1 ≤ s.length) = true from decide_eq_true hl, show decide (s.length ≤ 12) = true from decide_eq_true (by omega), show (s == [46]) = false from beq_eq_false_iff_ne.2 h2, show (s == [46, 46]) = false from beq_eq_false_iff_ne.2 h3]; rfl]
 refine Ev.step (fun k => ?_) (nameLoop_ev s hs)
 simp only [strongroomref05_Name.j0]
 rw [if_neg (by simp)]
theorem cutL_len : ∀ (l : List UInt8), (cutL l).length ≤ l.length + 1
 | [] => by simp [cutL]
 | b :: l => by
  have ih := cutL_len l
  unfold cutL
  split
  ·simp; omega
  ·cases hc : cutL l with
   | nil => simp
   | cons x t => rw [hc] at ih; simp at ih ⊢; omega
theorem cutL_piece : ∀ (l : List UInt8) (x : List UInt8), x ∈ cutL l → x.length ≤ l.length
 | [], x, h => by simp [cutL] at h; simp [h]
 | b :: l, x, h => by
  unfold cutL at h
  split at h
  ·rcases List.mem_cons.1 h with rfl | h
   ·simp
   ·have := cutL_piece l x h; simp; omega
  ·cases hc : cutL l with
   | nil => rw [hc] at h; simp at h; simp [h]
   | cons y t =>
    rw [hc] at h
    rcases List.mem_cons.1 h with rfl | h
    ·have := cutL_piece l y (by rw [hc]; simp); simp; omega
    ·have := cutL_piece l x (by rw [hc]; simp [h]); simp; omega
theorem rgood_ev (s : List UInt8) : Ev (fun k => strongroomref05_Good.f k ⟨s.toArray⟩) (goodB ⟨s.toArray⟩) := by
 rw [goodB_goodL]
 show Ev _ (goodL s)
 simp only [strongroomref05_Good.f, mk_size]
 by_cases h : 32 < s.length
 ·refine ifpos (by omega) ?_
  rw [show goodL s = false by rw [goodL, show decide (s.length ≤ 32) = false from decide_eq_false (by omega)]; simp]
  exact Ev.now _
 refine ifneg (by omega) ?_
 refine Ev.bind (cut_ev s (by omega)) ?_
 have hlen := cutL_len s
 have key : goodL s = (cutL s).all nameB := by
  rw [goodL, show decide (s.length ≤ 32) = true from decide_eq_true (by omega)]
  rcases s with _ | ⟨b, s⟩
  ·rfl
  ·simp
 rw [key]
 refine all_loop (cutL s) nameB (fun k i => strongroomref05_Good.l0 k ((cutL s).map mkB) i) (fun i c cs hd hc r hr => ?_) (fun i c cs hd hc => ?_) ?_ (cutL s) 0 rfl (Nat.zero_le _)
 ·obtain ⟨h1, h2, h3⟩ := drop_cons_facts hd
  have hcl := cutL_piece s c (List.mem_of_getElem? h1)
  have hrd : rdOf ByteArray.empty ((cutL s).map mkB) (i : Int) = mkB c := by simp [rdOf, List.getD_eq_getElem?_getD, h1]
  refine Ev.step (f := fun k => (strongroomref05_Name.f k (mkB c)).bind fun t => if t = true then strongroomref05_Good.l0 k ((cutL s).map mkB) ((i + 1 : Nat) : Int) else some false) (fun k => ?_) ?_
  ·simp only [strongroomref05_Good.l0, List.length_map, hrd]
   rw [if_pos (by omega), if_pos (by omega), wrap_succ h3 (by omega)]
  ·refine Ev.bind (rname_ev c (by omega)) ?_
   exact ifpos hc hr
 ·obtain ⟨h1, h2, h3⟩ := drop_cons_facts hd
  have hcl := cutL_piece s c (List.mem_of_getElem? h1)
  have hrd : rdOf ByteArray.empty ((cutL s).map mkB) (i : Int) = mkB c := by simp [rdOf, List.getD_eq_getElem?_getD, h1]
  refine Ev.step (f := fun k => (strongroomref05_Name.f k (mkB c)).bind fun t => if t = true then strongroomref05_Good.l0 k ((cutL s).map mkB) ((i + 1 : Nat) : Int) else some false) (fun k => ?_) ?_
  ·simp only [strongroomref05_Good.l0, List.length_map, hrd]
   rw [if_pos (by omega), if_pos (by omega), wrap_succ h3 (by omega)]
  ·refine Ev.bind (rname_ev c (by omega)) ?_
   exact ifneg (by rw [hc]; simp) (Ev.now _)
 ·refine Ev.step (f := fun _ => some true) (fun k => ?_) (Ev.now _)
  simp only [strongroomref05_Good.l0, List.length_map]
  rw [if_neg (by omega)]
theorem rgood_ev' (p : ByteArray) : Ev (fun k => strongroomref05_Good.f k p) (goodB p) := rgood_ev p.data.toList
theorem rplace_ev (p : ByteArray) : Ev (fun k => strongroomref05_Place.f k p) (placeB p) := by
 simp only [strongroomref05_Place.f, toList_data, placeB]
 by_cases h : p.data.toList = []
 ·refine ifpos h ?_
  rw [h]
  exact Ev.now _
 ·refine ifneg h ?_
  rw [show (p.data.toList == []) = false from beq_eq_false_iff_ne.2 h, Bool.false_or]
  exact Ev.bind (rgood_ev' p) (Ev.now _)
theorem rcgood_ev (c : SC) : Ev (fun k => strongroomref12_Good.f k c.f0 c.f1 c.f2) (goodC c) := by
 simp only [strongroomref12_Good.f, goodC]
 refine Ev.bind (rplace_ev c.f0) ?_
 cases placeB c.f0
 ·exact ifneg (by simp) (Ev.now _)
 refine ifpos rfl ?_
 by_cases h1 : 0 ≤ c.f1
 ·refine ifpos h1 ?_
  by_cases h2 : c.f1 ≤ 7
  ·refine ifpos h2 ?_
   by_cases h3 : 0 ≤ c.f2
   ·refine ifpos h3 ?_
    rw [show decide (0 ≤ c.f1) = true from decide_eq_true h1, show decide (c.f1 ≤ 7) = true from decide_eq_true h2, show decide (0 ≤ c.f2) = true from decide_eq_true h3]
    exact Ev.now _
   ·refine ifneg h3 ?_
    rw [show decide (0 ≤ c.f2) = false from decide_eq_false h3]
    simp only [Bool.false_and, Bool.and_false]
    exact Ev.now _
  ·refine ifneg h2 ?_
   rw [show decide (c.f1 ≤ 7) = false from decide_eq_false h2]
   simp only [Bool.false_and, Bool.and_false]
   exact Ev.now _
 ·refine ifneg h1 ?_
  rw [show decide (0 ≤ c.f1) = false from decide_eq_false h1]
  simp only [Bool.false_and, Bool.and_false]
  exact Ev.now _
theorem rmayT_ev (t n : Int) (l : List SC) (s : ByteArray) : Ev (fun k => strongroomref12_May.j0 k true t n l s) false :=
 Ev.step (f := fun _ => some false) (fun k => by simp only [strongroomref12_May.j0]; rw [if_pos trivial]) (Ev.now false)
theorem rmayL_ev (t n : Int) (l : List SC) (s : ByteArray) (hn : l.length < 1000000) : Ev (fun k => strongroomref12_May.l0 k 0 t n l s) (l.all goodC) := by
 refine all_loop l goodC (fun k i => strongroomref12_May.l0 k i t n l s) (fun i c cs hd hc r hr => ?_) (fun i c cs hd hc => ?_) ?_ l 0 rfl (Nat.zero_le _)
 ·obtain ⟨h1, h2, h3⟩ := rd_drop l i c cs hd
  refine Ev.step (f := fun k => (strongroomref12_Good.f k c.f0 c.f1 c.f2).bind fun x => if x = true then strongroomref12_May.l0 k ((i + 1 : Nat) : Int) t n l s else some false) (fun k => ?_) ?_
  ·simp only [strongroomref12_May.l0]
   rw [if_pos (by omega), if_pos (by omega), h1, wrap_succ h3 (by omega)]
  ·exact Ev.bind (rcgood_ev c) (ifpos hc hr)
 ·obtain ⟨h1, h2, h3⟩ := rd_drop l i c cs hd
  refine Ev.step (f := fun k => (strongroomref12_Good.f k c.f0 c.f1 c.f2).bind fun x => if x = true then strongroomref12_May.l0 k ((i + 1 : Nat) : Int) t n l s else some false) (fun k => ?_) ?_
  ·simp only [strongroomref12_May.l0]
   rw [if_pos (by omega), if_pos (by omega), h1, wrap_succ h3 (by omega)]
  ·exact Ev.bind (rcgood_ev c) (ifneg (by rw [hc]; simp) (Ev.now _))
 ·refine Ev.step (f := fun _ => some true) (fun k => ?_) (Ev.now _)
  simp only [strongroomref12_May.l0]
  rw [if_neg (by omega)]
theorem rknown_is' (t n : Int) : strongroomref12_Known.f t n = some (knownB t n) := known_is t n
theorem rmay_ev (t n : Int) (l : List SC) (s : ByteArray) : Ev (fun k => strongroomref12_May.f k t n l s) (mayB t n l s) := by
 simp only [strongroomref12_May.f, rknown_is', Option.bind_some]
 unfold mayB
 cases hk : knownB t n
 ·exact ifneg (by simp) (rmayT_ev t n l s)
 refine ifpos rfl ?_
 by_cases hl : l.length ≤ 8
 ·refine ifneg (by omega) ?_
  rw [show decide (l.length ≤ 8) = true from decide_eq_true hl]
  by_cases hs : s.size = 32
  ·rw [show decide (s.size = 32) = true from decide_eq_true hs, show ((s.size : Int) != 32) = false by simp [hs]]
   refine Ev.step (fun k => ?_) (rmayL_ev t n l s (by omega))
   simp only [strongroomref12_May.j0]
   rw [if_neg (by simp)]
  ·rw [show decide (s.size = 32) = false from decide_eq_false hs, show ((s.size : Int) != 32) = true by simp; omega]
   exact rmayT_ev t n l s
 ·refine ifpos (by omega) ?_
  rw [show decide (l.length ≤ 8) = false from decide_eq_false hl]
  exact rmayT_ev t n l s
/-- is a token so small that it is gone through -/
def smallB (l : List SC) (s : ByteArray) : Bool := decide (l.length ≤ 40) && (decide (s.size ≤ 1000) && l.all fun c => decide (c.f0.size ≤ 1000))
theorem smallT_ev (t n : Int) (l : List SC) (s : ByteArray) : Ev (fun k => strongroomlaw12_small.j0 k true t n l s) false :=
 Ev.step (f := fun _ => some false) (fun k => by simp only [strongroomlaw12_small.j0]; rw [if_pos trivial]) (Ev.now false)
theorem small_ev (t n : Int) (l : List SC) (s : ByteArray) : Ev (fun k => strongroomlaw12_small.f k t n l s) (smallB l s) := by
 simp only [strongroomlaw12_small.f]
 unfold smallB
 by_cases hl : l.length ≤ 40
 ·refine ifneg (by omega) ?_
  rw [show decide (l.length ≤ 40) = true from decide_eq_true hl]
  by_cases hs : s.size ≤ 1000
  ·rw [show decide (s.size ≤ 1000) = true from decide_eq_true hs, show decide ((s.size : Int) > 1000) = false from decide_eq_false (by omega)]
   refine Ev.step (f := fun k => strongroomlaw12_small.l0 k 0 t n l s) (fun k => ?_) ?_
   ·simp only [strongroomlaw12_small.j0]
    rw [if_neg (by simp)]
   refine all_loop l (fun c => decide (c.f0.size ≤ 1000)) (fun k i => strongroomlaw12_small.l0 k i t n l s) (fun i c cs hd hc r hr => ?_) (fun i c cs hd hc => ?_) ?_ l 0 rfl (Nat.zero_le _)
   ·obtain ⟨h1, h2, h3⟩ := rd_drop l i c cs hd
    have hc2 : c.f0.size ≤ 1000 := of_decide_eq_true hc
    refine Ev.step (fun k => ?_) hr
    simp only [strongroomlaw12_small.l0]
    rw [if_pos (by omega), if_pos (by omega), h1, if_neg (by omega), wrap_succ h3 (by omega)]
   ·obtain ⟨h1, h2, h3⟩ := rd_drop l i c cs hd
    have hc2 : ¬ c.f0.size ≤ 1000 := of_decide_eq_false hc
    refine Ev.step (f := fun _ => some false) (fun k => ?_) (Ev.now _)
    simp only [strongroomlaw12_small.l0]
    rw [if_pos (by omega), if_pos (by omega), h1, if_pos (by omega)]
   ·refine Ev.step (f := fun _ => some true) (fun k => ?_) (Ev.now _)
    simp only [strongroomlaw12_small.l0]
    rw [if_neg (by omega)]
  ·rw [show decide (s.size ≤ 1000) = false from decide_eq_false hs, show decide ((s.size : Int) > 1000) = true from decide_eq_true (by omega)]
   exact smallT_ev t n l s
 ·refine ifpos (by omega) ?_
  rw [show decide (l.length ≤ 40) = false from decide_eq_false hl]
  exact smallT_ev t n l s
/-- a number at a place: what it is and what place is behind it, or what is amiss -/
def getR (pl : Nat) : Nat → Nat → Nat → List UInt8 → Int × Int × Int
 | 0, _, _, _ => (0, 0, 4)
 | _ + 1, _, _, [] => (0, 0, 3)
 | f + 1, acc, i, x :: t => if x.toNat < 128 then (if (x.toNat = 0 ∧ 0 < i) ∨ (i = 9 ∧ 1 < x.toNat) then (0, 0, 4) else (((acc + x.toNat * 128 ^ i : Nat) : Int), ((pl + i + 1 : Nat) : Int), 0)) else getR pl f (acc + x.toNat % 128 * 128 ^ i) (i + 1) t
def getB (b : List UInt8) (pl : Int) : Int × Int × Int := if pl < 0 ∨ pl > (b.length : Int) then (0, 0, 9) else getR pl.toNat 10 0 0 (b.drop pl.toNat)
theorem pow_le9 {i : Nat} (h : i ≤ 9) : 128 ^ i ≤ 9223372036854775808 := Nat.le_trans (Nat.pow_le_pow_right (by decide) h) (by decide)
theorem mul_le9 {i x : Nat} (hi : i ≤ 9) (hx : x < 128) (h9 : i = 9 → x ≤ 1) : x * 128 ^ i ≤ 9223372036854775808 := by
 by_cases h : i = 9
 ·have := h9 h
  subst h
  exact Nat.le_trans (Nat.mul_le_mul_right _ this) (by decide)
 ·have h1 : 128 ^ i ≤ 128 ^ 8 := Nat.pow_le_pow_right (by decide) (by omega)
  exact Nat.le_trans (Nat.mul_le_mul (show x ≤ 128 by omega) h1) (by decide)
theorem acc_next {acc i x : Nat} (ha : acc < 128 ^ i) (hx : x < 128) : acc + x * 128 ^ i < 128 ^ (i + 1) := by
 have : x * 128 ^ i ≤ 127 * 128 ^ i := Nat.mul_le_mul_right _ (by omega)
 rw [Nat.pow_succ]
 omega
theorem w7 {i : Nat} (hi : i ≤ 9) : wrap64 (7 * (i : Int)) = ((7 * i : Nat) : Int) := by unfold wrap64; omega
theorem shl_get {i x : Nat} (hi : i ≤ 9) (hx : x < 128) (h9 : i = 9 → x ≤ 1) : shl .u64 (x : Int) (wrap64 (7 * (i : Int))) = ((x * 128 ^ i : Nat) : Int) := by
 have hw : wrap64 (7 * (i : Int)) = ((7 * i : Nat) : Int) := by unfold wrap64; omega
 have hm := mul_le9 hi hx h9
 have hp : (128 : Nat) ^ i = 2 ^ (7 * i) := by rw [Nat.pow_mul]
 rw [hw]
 unfold shl
 rw [show min ((7 * i : Nat) : Int).toNat IntKind.u64.bits = 7 * i from by simp only [Int.toNat_natCast, show IntKind.u64.bits = 64 from rfl]; omega, ← u64_nat (show x * 128 ^ i < 18446744073709551616 by omega), hp]
 congr 1
theorem or_get {acc i x : Nat} (hi : i ≤ 9) (ha : acc < 128 ^ i) (hx : x < 128) (h9 : i = 9 → x ≤ 1) : Go.bits .or .u64 (acc : Int) (shl .u64 (x : Int) (wrap64 (7 * (i : Int)))) = ((acc + x * 128 ^ i : Nat) : Int) := by
 have hm := mul_le9 hi hx h9
 have hl := pow_le9 hi
 rw [shl_get hi hx h9, Go.u64_or_nat _ _ (by omega) (by omega), Nat.or_comm]
 have hp : (128 : Nat) ^ i = 2 ^ (7 * i) := by rw [Nat.pow_mul]
 rw [hp] at ha ⊢
 rw [Go.nat_join (7 * i) _ _ (Nat.mul_mod_left _ _) ha, Nat.add_comm]
theorem and127 {x : Nat} (h : x < 256) : Go.bits .and .u8 (x : Int) 127 = ((x % 128 : Nat) : Int) := by
 have h2 : ∀ m, m < 256 → Go.bits .and .u8 ((m : Nat) : Int) 127 = ((m % 128 : Nat) : Int) := by decide +kernel
 exact h2 x h
theorem rd_I {b : List UInt8} {j : Nat} {x : UInt8} (h : b[j]? = some x) : rd (b.map I) (j : Int) = ((x.toNat : Nat) : Int) := by
 simp [rd, List.getD_eq_getElem?_getD, h]
theorem bt_I {b : List UInt8} {j : Nat} {x : UInt8} (h : b[j]? = some x) : bt ⟨b.toArray⟩ (j : Int) = ((x.toNat : Nat) : Int) := by
 obtain ⟨hl, e⟩ := List.getElem?_eq_some_iff.1 h
 rw [bt_mk b j hl, List.getD_eq_getElem?_getD, h]
 rfl
set_option maxHeartbeats 4000000 in
theorem getP_ev (b : List UInt8) (pl : Nat) (hb : b.length < 1000000000000) : ∀ (f i acc : Nat), i + f = 10 → pl + i ≤ b.length → acc < 128 ^ i → Ev (fun k => num_Get.l0 k (b.map I) (pl : Int) (acc : Int) (i : Int)) (getR pl f acc i (b.drop (pl + i))) := by
 intro f
 induction f with
 | zero =>
  intro i acc hi hp ha
  refine Ev.step (f := fun _ => some (0, 0, 4)) (fun k => ?_) (Ev.now _)
  simp only [num_Get.l0]
  rw [if_neg (by omega)]
 | succ f ih =>
  intro i acc hi hp ha
  have hw : Aside0 (wrap64 ((pl : Int) + (i : Int)) = ((pl + i : Nat) : Int)) := ⟨by unfold wrap64; omega⟩
  have h7 : Aside0 ((0 : Int) ≤ wrap64 (7 * (i : Int))) := ⟨by rw [w7 (by omega)]; omega⟩
  cases hd : b.drop (pl + i) with
  | nil =>
   have := drop_nil_len hd hp
   refine Ev.step (f := fun _ => some (0, 0, 3)) (fun k => ?_) (Ev.now _)
   simp only [num_Get.l0, hw.out, List.length_map]
   rw [if_pos (by omega), if_pos (by omega)]
  | cons x t =>
   obtain ⟨g1, g2, g3⟩ := drop_cons_facts hd
   have hx := x.toNat_lt
   have hr := Aside0.mk (rd_I g1)
   have hu : Aside0 (IntKind.u64.wrap ((x.toNat : Nat) : Int) = ((x.toNat : Nat) : Int)) := ⟨u64_nat (by omega)⟩
   have hk : Aside0 (wrap64 (((pl + i : Nat) : Int) + 1) = ((pl + i + 1 : Nat) : Int)) := ⟨by unfold wrap64; omega⟩
   rw [getR]
   by_cases h1 : x.toNat < 128
   ·rw [if_pos h1]
    by_cases h2 : (x.toNat = 0 ∧ 0 < i) ∨ (i = 9 ∧ 1 < x.toNat)
    ·rw [if_pos h2]
     refine Ev.step (f := fun _ => some (0, 0, 4)) (fun k => ?_) (Ev.now _)
     simp only [num_Get.l0, hw.out, List.length_map, hr.out]
     rw [if_pos (by omega), if_neg (by omega), if_pos (by omega), if_pos (by omega), if_pos (by omega)]
     by_cases h0 : x.toNat = 0
     ·rw [if_pos (by omega), if_pos (by omega)]
     ·rw [if_neg (by omega), if_pos (by omega), if_pos (by omega)]
    ·rw [if_neg h2]
     have ho := Aside0.mk (or_get (acc := acc) (x := x.toNat) (show i ≤ 9 by omega) ha h1 (by omega))
     refine Ev.step (f := fun _ => some (((acc + x.toNat * 128 ^ i : Nat) : Int), ((pl + i + 1 : Nat) : Int), 0)) (fun k => ?_) (Ev.now _)
     simp only [num_Get.l0, hw.out, List.length_map, hr.out, hu.out, ho.out, hk.out]
     rw [if_pos (by omega), if_neg (by omega), if_pos (by omega), if_pos (by omega), if_pos (by omega)]
     by_cases h0 : x.toNat = 0
     ·rw [if_pos (by omega), if_neg (by omega), if_neg (by omega), if_pos h7.out]
     ·rw [if_neg (by omega)]
      by_cases h9 : i = 9
      ·rw [if_pos (by omega), if_neg (by omega), if_pos h7.out]
      ·rw [if_neg (by omega), if_pos h7.out]
   ·rw [if_neg h1]
    have hwi : Aside0 (wrap64 ((i : Int) + 1) = ((i + 1 : Nat) : Int)) := ⟨by unfold wrap64; omega⟩
    have hm : x.toNat % 128 < 128 := Nat.mod_lt _ (by decide)
    have hum : Aside0 (IntKind.u64.wrap ((x.toNat % 128 : Nat) : Int) = ((x.toNat % 128 : Nat) : Int)) := ⟨u64_nat (by omega)⟩
    by_cases h9 : i = 9
    ·obtain rfl : f = 0 := by omega
     rw [getR]
     refine Ev.step (fun k => ?_) (Ev.step (g := fun k => num_Get.l0 k (b.map I) (pl : Int) (Go.bits .or .u64 (acc : Int) (shl .u64 ((x.toNat % 128 : Nat) : Int) (wrap64 (7 * (i : Int))))) ((i + 1 : Nat) : Int)) (f := fun _ => some (0, 0, 4)) (fun k => ?_) (Ev.now _))
     ·simp only [num_Get.l0, hw.out, List.length_map, hr.out, and127 hx, hum.out, hwi.out]
      rw [if_pos (by omega), if_neg (by omega), if_pos (by omega), if_pos (by omega), if_neg (by omega), if_pos h7.out]
     ·simp only [num_Get.l0]
      rw [if_neg (by omega)]
    ·have ho.out := or_get (acc := acc) (x := x.toNat % 128) (show i ≤ 9 by omega) ha hm (by omega)
     have next := ih (i + 1) (acc + x.toNat % 128 * 128 ^ i) (by omega) (by omega) (acc_next ha hm)
     rw [show pl + (i + 1) = pl + i + 1 by omega, g2] at next
     refine Ev.step (fun k => ?_) next
     simp only [num_Get.l0, hw.out, List.length_map, hr.out, and127 hx, hum.out, hwi.out, ho.out]
     rw [if_pos (by omega), if_neg (by omega), if_pos (by omega), if_pos (by omega), if_neg (by omega), if_pos h7.out]
theorem get_ev (b : List UInt8) (pl : Int) (hb : b.length < 1000000000000) : Ev (fun k => num_Get.f k (b.map I) pl) (getB b pl) := by
 have hT : Ev (fun k => num_Get.j0 k (b.map I) pl true) (0, 0, 9) := by
  refine Ev.step (f := fun _ => some (0, 0, 9)) (fun k => ?_) (Ev.now _)
  simp only [num_Get.j0]
  rw [if_pos trivial]
 simp only [num_Get.f, getB, List.length_map]
 by_cases h0 : pl < 0
 ·rw [if_pos (Or.inl h0)]
  exact ifpos h0 hT
 refine ifneg h0 ?_
 by_cases h1 : pl > (b.length : Int)
 ·rw [if_pos (Or.inr h1), decide_eq_true h1]
  exact hT
 rw [if_neg (by omega), decide_eq_false h1]
 obtain ⟨n, rfl⟩ := Int.eq_ofNat_of_zero_le (show 0 ≤ pl by omega)
 refine Ev.step (fun k => ?_) (getP_ev b n hb 10 0 0 rfl (by omega) (by simp))
 simp only [num_Get.j0]
 rw [if_neg (by simp)]
 rfl
set_option maxHeartbeats 4000000 in
theorem getX_ev (b : List UInt8) (pl : Nat) (hb : b.length < 1000000000000) : ∀ (f i acc : Nat), i + f = 10 → pl + i ≤ b.length → acc < 128 ^ i → Ev (fun k => strongroomref01_Get.l0 k ⟨b.toArray⟩ (pl : Int) (acc : Int) (IntKind.u64.wrap ((128 ^ i : Nat) : Int)) (i : Int)) (getR pl f acc i (b.drop (pl + i))) := by
 intro f
 induction f with
 | zero =>
  intro i acc hi hp ha
  refine Ev.step (f := fun _ => some (0, 0, 4)) (fun k => ?_) (Ev.now _)
  simp only [strongroomref01_Get.l0]
  rw [if_neg (by omega)]
 | succ f ih =>
  intro i acc hi hp ha
  have hpw := pow_le9 (show i ≤ 9 by omega)
  have hw : Aside0 (wrap64 ((pl : Int) + (i : Int)) = ((pl + i : Nat) : Int)) := ⟨by unfold wrap64; omega⟩
  have hs : Aside0 (wrap64 ((b.length : Int) - (pl : Int)) = ((b.length - pl : Nat) : Int)) := ⟨by unfold wrap64; omega⟩
  have hP : Aside0 (IntKind.u64.wrap ((128 ^ i : Nat) : Int) = ((128 ^ i : Nat) : Int)) := ⟨u64_nat (by omega)⟩
  rw [hP.out]
  cases hd : b.drop (pl + i) with
  | nil =>
   have := drop_nil_len hd hp
   refine Ev.step (f := fun _ => some (0, 0, 3)) (fun k => ?_) (Ev.now _)
   simp only [strongroomref01_Get.l0, hw.out, hs.out, mk_size]
   rw [if_pos (by omega), if_pos (by omega)]
  | cons x t =>
   obtain ⟨g1, g2, g3⟩ := drop_cons_facts hd
   have hx := x.toNat_lt
   have hr := Aside0.mk (bt_I g1)
   have hu : Aside0 (IntKind.u64.wrap ((x.toNat : Nat) : Int) = ((x.toNat : Nat) : Int)) := ⟨u64_nat (by omega)⟩
   have hk : Aside0 (wrap64 (((pl + i : Nat) : Int) + 1) = ((pl + i + 1 : Nat) : Int)) := ⟨by unfold wrap64; omega⟩
   have hm : x.toNat % 128 < 128 := Nat.mod_lt _ (by decide)
   have htm : Aside0 (Int.tmod ((x.toNat : Nat) : Int) 128 = ((x.toNat % 128 : Nat) : Int)) := ⟨by rw [Int.tmod_eq_emod_of_nonneg (by omega)]; omega⟩
   have hj : ∀ r, Ev (fun k => strongroomref01_Get.j2 k ⟨b.toArray⟩ (pl : Int) (acc : Int) ((128 ^ i : Nat) : Int) (i : Int) ((x.toNat : Nat) : Int) (decide (i = 9) && decide (x.toNat ≠ 1))) r → Ev (fun k => strongroomref01_Get.l0 k ⟨b.toArray⟩ (pl : Int) (acc : Int) ((128 ^ i : Nat) : Int) (i : Int)) r := fun r h => by
    refine Ev.step (fun k => ?_) h
    simp only [strongroomref01_Get.l0, hw.out, hs.out, mk_size, hr.out, hu.out]
    rw [if_pos (by omega), if_neg (by omega), if_pos (by omega), if_pos (by omega)]
    by_cases h9 : i = 9
    ·rw [if_pos (by omega), decide_eq_true h9, Bool.true_and]
     congr 1
     rw [bne, Bool.eq_iff_iff, decide_eq_true_eq, Bool.not_eq_true', beq_eq_false_iff_ne]
     omega
    ·rw [if_neg (by omega), decide_eq_false h9, Bool.false_and]
   refine hj _ ?_
   rw [getR]
   by_cases hbad : i = 9 ∧ x.toNat ≠ 1
   ·have e : (if x.toNat < 128 then (if (x.toNat = 0 ∧ 0 < i) ∨ (i = 9 ∧ 1 < x.toNat) then ((0 : Int), (0 : Int), (4 : Int)) else (((acc + x.toNat * 128 ^ i : Nat) : Int), ((pl + i + 1 : Nat) : Int), 0)) else getR pl f (acc + x.toNat % 128 * 128 ^ i) (i + 1) t) = (0, 0, 4) := by
     by_cases h1 : x.toNat < 128
     ·rw [if_pos h1, if_pos (by omega)]
     ·obtain rfl : f = 0 := by omega
      rw [if_neg h1, getR]
    rw [e, decide_eq_true hbad.1, decide_eq_true hbad.2]
    refine Ev.step (f := fun _ => some (0, 0, 4)) (fun k => ?_) (Ev.now _)
    simp only [strongroomref01_Get.j2]
    rw [if_pos (show (true && true) = true from rfl)]
   have hf : (decide (i = 9) && decide (x.toNat ≠ 1)) = false := by
    by_cases h9 : i = 9
    ·rw [decide_eq_false (show ¬ x.toNat ≠ 1 from fun h => hbad ⟨h9, h⟩), Bool.and_false]
    ·rw [decide_eq_false h9, Bool.false_and]
   rw [hf]
   have hm9 : i = 9 → x.toNat % 128 ≤ 1 := fun h => by
    have : x.toNat = 1 := Classical.not_not.1 fun h' => hbad ⟨h, h'⟩
    omega
   have hmul := mul_le9 (show i ≤ 9 by omega) hm hm9
   have hnext := acc_next ha hm
   have hv : Aside0 (IntKind.u64.wrap ((acc : Int) + IntKind.u64.wrap (((x.toNat % 128 : Nat) : Int) * ((128 ^ i : Nat) : Int))) = ((acc + x.toNat % 128 * 128 ^ i : Nat) : Int)) := ⟨by rw [← Int.natCast_mul, u64_nat (by omega), ← Int.natCast_add, u64_nat (by omega)]⟩
   by_cases h1 : x.toNat < 128
   ·rw [if_pos h1]
    have e1 : x.toNat % 128 = x.toNat := Nat.mod_eq_of_lt h1
    by_cases h2 : x.toNat = 0 ∧ 0 < i
    ·rw [if_pos (Or.inl h2)]
     refine Ev.step (f := fun _ => some (0, 0, 4)) (fun k => ?_) (Ev.now _)
     simp only [strongroomref01_Get.j2]
     rw [if_neg (by simp), if_pos (by omega), if_pos (by omega), if_pos (by omega)]
    ·rw [if_neg (by omega)]
     have hv0 := hv.out
     rw [e1] at hv0
     replace hv := Aside0.mk hv0
     clear hv0
     refine Ev.step (f := fun _ => some (((acc + x.toNat * 128 ^ i : Nat) : Int), ((pl + i + 1 : Nat) : Int), 0)) (fun k => ?_) (Ev.now _)
     simp only [strongroomref01_Get.j2, htm.out, e1, hw.out, hk.out, hv.out]
     rw [if_neg (by simp), if_pos (by omega)]
     by_cases h0 : x.toNat = 0
     ·rw [if_pos (by omega), if_neg (by omega)]
     ·rw [if_neg (by omega)]
   ·rw [if_neg h1]
    have hwi : Aside0 (wrap64 ((i : Int) + 1) = ((i + 1 : Nat) : Int)) := ⟨by unfold wrap64; omega⟩
    have next := ih (i + 1) (acc + x.toNat % 128 * 128 ^ i) (by omega) (by omega) hnext
    rw [show pl + (i + 1) = pl + i + 1 by omega, g2, show ((128 ^ (i + 1) : Nat) : Int) = ((128 ^ i : Nat) : Int) * 128 by rw [Nat.pow_succ, Int.natCast_mul]; rfl] at next
    refine Ev.step (fun k => ?_) next
    simp only [strongroomref01_Get.j2, htm.out, hv.out, hwi.out]
    rw [if_neg (by simp), if_neg (by omega)]
theorem rget_ev (b : List UInt8) (pl : Int) (hb : b.length < 1000000000000) : Ev (fun k => strongroomref01_Get.f k ⟨b.toArray⟩ pl) (getB b pl) := by
 have hT : Ev (fun k => strongroomref01_Get.j0 k ⟨b.toArray⟩ pl true) (0, 0, 9) := by
  refine Ev.step (f := fun _ => some (0, 0, 9)) (fun k => ?_) (Ev.now _)
  simp only [strongroomref01_Get.j0]
  rw [if_pos trivial]
 simp only [strongroomref01_Get.f, getB, mk_size]
 by_cases h0 : pl < 0
 ·rw [if_pos (Or.inl h0)]
  exact ifpos h0 hT
 refine ifneg h0 ?_
 by_cases h1 : pl > (b.length : Int)
 ·rw [if_pos (Or.inr h1), decide_eq_true h1]
  exact hT
 rw [if_neg (by omega), decide_eq_false h1]
 obtain ⟨n, rfl⟩ := Int.eq_ofNat_of_zero_le (show 0 ≤ pl by omega)
 refine Ev.step (fun k => ?_) (getX_ev b n hb 10 0 0 rfl (by omega) (by simp))
 simp only [strongroomref01_Get.j0]
 rw [if_neg (by simp)]
 rfl
/-- a text at a place: what it is and what place is behind it, or what is amiss -/
def textB (b : List UInt8) (pl : Int) (most : Nat) : ByteArray × Int × Int :=
 if (getB b pl).2.2 = 0 then (if (getB b pl).1 > (most : Int) then (⟨#[]⟩, 0, 2) else if (getB b pl).1 > (b.length : Int) - (getB b pl).2.1 then (⟨#[]⟩, 0, 3) else (⟨((b.drop (getB b pl).2.1.toNat).take (getB b pl).1.toNat).toArray⟩, (getB b pl).2.1 + (getB b pl).1, 0)) else (⟨#[]⟩, 0, (getB b pl).2.2)
theorem getR_facts (pl : Nat) : ∀ (f acc i : Nat) (l : List UInt8), i + f = 10 → acc < 128 ^ i → 0 ≤ (getR pl f acc i l).1 ∧ (getR pl f acc i l).1 < 18446744073709551616 ∧ 0 ≤ (getR pl f acc i l).2.1 ∧ (getR pl f acc i l).2.1 ≤ ((pl + i + l.length : Nat) : Int)
 | 0, _, _, _, _, _ => by simp [getR]; omega
 | f + 1, _, _, [], _, _ => by simp [getR]; omega
 | f + 1, acc, i, x :: t, hi, ha => by
  rw [getR]
  by_cases h1 : x.toNat < 128
  ·rw [if_pos h1]
   by_cases h2 : (x.toNat = 0 ∧ 0 < i) ∨ (i = 9 ∧ 1 < x.toNat)
   ·rw [if_pos h2]; simp; omega
   ·rw [if_neg h2]
    have hm := mul_le9 (show i ≤ 9 by omega) h1 (by omega)
    have hl := pow_le9 (show i ≤ 9 by omega)
    refine ⟨by simp only; omega, by simp only; omega, by simp only; omega, ?_⟩
    simp only [List.length_cons]; omega
  ·rw [if_neg h1]
   have hm : x.toNat % 128 < 128 := Nat.mod_lt _ (by decide)
   have := getR_facts pl f (acc + x.toNat % 128 * 128 ^ i) (i + 1) t (by omega) (acc_next ha hm)
   rw [List.length_cons, show pl + i + (t.length + 1) = pl + (i + 1) + t.length by omega]
   exact this
theorem getB_facts (b : List UInt8) (pl : Int) : 0 ≤ (getB b pl).1 ∧ (getB b pl).1 < 18446744073709551616 ∧ 0 ≤ (getB b pl).2.1 ∧ (getB b pl).2.1 ≤ (b.length : Int) := by
 unfold getB
 by_cases h : pl < 0 ∨ pl > (b.length : Int)
 ·rw [if_pos h]; simp
 ·rw [if_neg h]
  have := getR_facts pl.toNat 10 0 0 (b.drop pl.toNat) rfl (by simp)
  rw [List.length_drop] at this
  refine ⟨this.1, this.2.1, this.2.2.1, ?_⟩
  have h4 := this.2.2.2
  omega
theorem text_ev (b : List UInt8) (pl : Int) (most : Nat) (hb : b.length < 1000000000000) (hm : most < 1000000) : Ev (fun k => num_GetText.f k (b.map I) pl (most : Int)) (textB b pl most) := by
 obtain ⟨g1, g2, g3, g4⟩ := getB_facts b pl
 have hg := get_ev b pl hb
 simp only [num_GetText.f, List.length_map]
 refine Ev.bind hg ?_
 unfold textB
 revert g1 g2 g3 g4
 generalize (getB b pl).1 = n
 generalize (getB b pl).2.1 = k
 generalize (getB b pl).2.2 = e
 intro g1 g2 g3 g4
 by_cases he : e = 0
 ·rw [if_pos he, if_pos he]
  have hmx : IntKind.u64.wrap (mx (most : Int) 0) = (most : Int) := by
   rw [show mx (most : Int) 0 = (most : Int) by unfold mx; split <;> omega]
   exact u64_nat (by omega)
  have hs : IntKind.u64.wrap (wrap64 ((b.length : Int) - k)) = (b.length : Int) - k := by
   rw [show wrap64 ((b.length : Int) - k) = (b.length : Int) - k by unfold wrap64; omega]
   obtain ⟨m, hm⟩ := Int.eq_ofNat_of_zero_le (show 0 ≤ (b.length : Int) - k by omega)
   rw [hm]
   exact u64_nat (by omega)
  simp only [hmx, hs]
  by_cases h1 : n > (most : Int)
  ·rw [if_pos h1, if_pos h1]
   exact Ev.now _
  rw [if_neg h1, if_neg h1]
  by_cases h2 : n > (b.length : Int) - k
  ·rw [if_pos h2, if_pos h2]
   exact Ev.now _
  rw [if_neg h2, if_neg h2]
  have hw : wrap64 (k + wrap64 n) = k + n := by
   rw [show wrap64 n = n by unfold wrap64; omega]
   unfold wrap64; omega
  simp only [hw]
  rw [if_pos (by omega), if_pos (by omega), if_pos (by omega)]
  have hl : strOfNums (((b.map I).take (k + n).toNat).drop k.toNat) = ⟨((b.drop k.toNat).take n.toNat).toArray⟩ := by
   rw [← List.map_take, ← List.map_drop, nums_mk, List.drop_take]
   congr 3
   omega
  rw [hl]
  exact Ev.now _
 ·rw [if_neg he, if_neg he]
  exact Ev.now _
theorem rtextG_ev (b : List UInt8) (pl : Int) (most : Nat) (hb : b.length < 1000000000000) (hm : most < 1000000) : Ev (fun k => strongroomref01_GetText.f k ⟨b.toArray⟩ pl (most : Int)) (textB b pl most) := by
 obtain ⟨g1, g2, g3, g4⟩ := getB_facts b pl
 have hg := rget_ev b pl hb
 simp only [strongroomref01_GetText.f]
 refine Ev.bind hg ?_
 unfold textB
 revert g1 g2 g3 g4
 generalize (getB b pl).1 = n
 generalize (getB b pl).2.1 = k
 generalize (getB b pl).2.2 = e
 intro g1 g2 g3 g4
 by_cases he : e = 0
 ·rw [if_pos he]
  refine ifpos he (ifneg (by omega) ?_)
  have hmx : IntKind.u64.wrap (most : Int) = (most : Int) := u64_nat (by omega)
  have hs : IntKind.u64.wrap (wrap64 ((b.length : Int) - k)) = (b.length : Int) - k := by
   rw [show wrap64 ((b.length : Int) - k) = (b.length : Int) - k by unfold wrap64; omega]
   obtain ⟨m, hm⟩ := Int.eq_ofNat_of_zero_le (show 0 ≤ (b.length : Int) - k by omega)
   rw [hm]
   exact u64_nat (by omega)
  have go : ∀ r, (∀ m : Nat, strongroomref01_GetText.j0 (m + 1) ⟨b.toArray⟩ (most : Int) n k = some r) → Ev (fun m => strongroomref01_GetText.j0 m ⟨b.toArray⟩ (most : Int) n k) r := fun r h => Ev.step (f := fun _ => some r) h (Ev.now _)
  refine go _ (fun m => ?_)
  simp only [strongroomref01_GetText.j0, hmx, mk_size, hs]
  by_cases h1 : n > (most : Int)
  ·rw [if_pos h1, if_pos h1]
  rw [if_neg h1, if_neg h1]
  by_cases h2 : n > (b.length : Int) - k
  ·rw [if_pos h2, if_pos h2]
  rw [if_neg h2, if_neg h2]
  have hw : wrap64 (k + wrap64 n) = k + n := by
   rw [show wrap64 n = n by unfold wrap64; omega]
   unfold wrap64; omega
  rw [hw, if_pos (by omega), if_pos (by omega), if_pos (by omega)]
  rw [extract_mk]
  congr 5
  omega
 ·rw [if_neg he]
  exact ifneg he (Ev.now _)
/-- a number as a token has it, at a place -/
def numB (b : List UInt8) (pl : Int) : Int × Int × Int := (mn (getB b pl).1 4611686018427387904, (getB b pl).2.1, (getB b pl).2.2)
theorem mn_wrap {n : Int} (h : 0 ≤ n) : wrap64 (mn n 4611686018427387904) = mn n 4611686018427387904 := by
 unfold mn wrap64
 split <;> omega
theorem number_ev (b : List UInt8) (pl : Int) (hb : b.length < 1000000000000) : Ev (fun k => cap_reader_number.f k (b.map I) pl 0) (numB b pl) := by
 have hf := (getB_facts b pl).1
 simp only [cap_reader_number.f]
 refine ifpos trivial (Ev.bind (get_ev b pl hb) ?_)
 rw [mn_wrap hf]
 exact Ev.now _
theorem number_err (l : List Int) (pl e : Int) (he : e ≠ 0) : Ev (fun k => cap_reader_number.f k l pl e) (0, pl, e) := by
 simp only [cap_reader_number.f]
 exact ifneg he (Ev.now _)
theorem rnumber_ev (b : List UInt8) (pl : Int) (hb : b.length < 1000000000000) : Ev (fun k => strongroomref12_number.f k ⟨b.toArray⟩ pl) (numB b pl) := by
 have hf := (getB_facts b pl).1
 have hg := rget_ev b pl hb
 simp only [strongroomref12_number.f]
 refine Ev.bind hg ?_
 unfold numB
 revert hf
 generalize (getB b pl).1 = n
 intro hf
 by_cases h : n > 4611686018427387904
 ·rw [if_pos h, show mn n 4611686018427387904 = 4611686018427387904 by unfold mn; split <;> omega]
  exact Ev.now _
 ·rw [if_neg h, show wrap64 n = mn n 4611686018427387904 by unfold mn wrap64; split <;> omega]
  exact Ev.now _
theorem rtext12_ev (b : List UInt8) (pl : Int) (hb : b.length < 1000000000000) : Ev (fun k => cap_reader_text.f k (b.map I) pl 0 32) (textB b pl 32) := by
 simp only [cap_reader_text.f]
 exact ifpos trivial (Ev.bind (text_ev b pl 32 hb (by omega)) (Ev.now _))
theorem text_err (l : List Int) (pl e m : Int) (he : e ≠ 0) : Ev (fun k => cap_reader_text.f k l pl e m) (⟨#[]⟩, pl, e) := by
 simp only [cap_reader_text.f]
 exact ifneg he (Ev.now _)
abbrev TokR := Int × Int × List SC × ByteArray × Int × Int
def noTok (e : Int) : TokR := (0, 0, [], ⟨#[]⟩, 0, e)
/-- the caveats and the seal of a token, from a place on -/
def decL (b : List UInt8) (t n : Int) : Nat → Int → List SC → TokR
 | 0, pl, acc => if (textB b pl 32).2.2 = 0 then (if mayB t n acc (textB b pl 32).1 = true then (t, n, acc, (textB b pl 32).1, (textB b pl 32).2.1, 0) else noTok 4) else noTok (textB b pl 32).2.2
 | m + 1, pl, acc => if (textB b pl 32).2.2 = 0 then (if (numB b (textB b pl 32).2.1).2.2 = 0 then (if (numB b (numB b (textB b pl 32).2.1).2.1).2.2 = 0 then decL b t n m (numB b (numB b (textB b pl 32).2.1).2.1).2.1 (acc ++ [⟨(textB b pl 32).1, (numB b (textB b pl 32).2.1).1, (numB b (numB b (textB b pl 32).2.1).2.1).1⟩])
   else noTok (numB b (numB b (textB b pl 32).2.1).2.1).2.2) else noTok (numB b (textB b pl 32).2.1).2.2) else noTok (textB b pl 32).2.2
def decB (b : List UInt8) (pl : Int) : TokR :=
 if (numB b pl).2.2 = 0 then (if (numB b (numB b pl).2.1).2.2 = 0 then (if (numB b (numB b (numB b pl).2.1).2.1).2.2 = 0 then (if (numB b (numB b (numB b pl).2.1).2.1).1 > 8 then noTok 4 else decL b (numB b pl).1 (numB b (numB b pl).2.1).1 (numB b (numB b (numB b pl).2.1).2.1).1.toNat (numB b (numB b (numB b pl).2.1).2.1).2.1 [])
  else noTok (numB b (numB b (numB b pl).2.1).2.1).2.2) else noTok (numB b (numB b pl).2.1).2.2) else noTok (numB b pl).2.2
theorem dec_j4 (l : List Int) (pl e t n : Int) (acc : List SC) (s : ByteArray) (he : e ≠ 0) : Ev (fun k => cap_Decode.j4 k false l pl e t n acc s) (noTok e) := by
 refine Ev.step (f := fun _ => some (noTok e)) (fun k => ?_) (Ev.now _)
 simp only [cap_Decode.j4]
 rw [if_neg (by simp), if_neg he]
 rfl
theorem dec_err (l : List Int) (many i pl e t n : Int) (acc : List SC) (s : ByteArray) (he : e ≠ 0) : Ev (fun k => cap_Decode.l0 k many i l pl e t n acc s) (noTok e) := by
 have hj : Ev (fun k => cap_Decode.j3 k many i false l pl e t n acc s) (noTok e) := by
  refine Ev.step (f := fun k => (cap_reader_text.f k l pl e 32).bind fun bt => if bt.2.2 = 0 then ((cap_May.f k t n acc bt.1).bind fun x => cap_Decode.j4 k (!x) l bt.2.1 bt.2.2 t n acc bt.1) else cap_Decode.j4 k false l bt.2.1 bt.2.2 t n acc bt.1) (fun k => ?_) (Ev.bind (text_err l pl e 32 he) (ifneg he (dec_j4 l pl e t n acc _ he)))
  simp only [cap_Decode.j3]
  rw [if_neg (by simp)]
 refine Ev.step (fun k => ?_) hj
 simp only [cap_Decode.l0]
 rw [beq_eq_false_iff_ne.2 he]
 split <;> rfl
theorem decP_ev (b : List UInt8) (t n : Int) (hb : b.length < 1000000000000) (many : Nat) (hm : many ≤ 8) : ∀ (m i : Nat) (pl : Int) (acc : List SC), i + m = many → acc.length = i → Ev (fun k => cap_Decode.l0 k (many : Int) (i : Int) (b.map I) pl 0 t n acc ⟨#[]⟩) (decL b t n m pl acc) := by
 intro m
 induction m with
 | zero =>
  intro i pl acc hi ha
  have hj : Ev (fun k => cap_Decode.j3 k (many : Int) (i : Int) false (b.map I) pl 0 t n acc ⟨#[]⟩) (decL b t n 0 pl acc) := by
   refine Ev.step (f := fun k => (cap_reader_text.f k (b.map I) pl 0 32).bind fun bt => if bt.2.2 = 0 then ((cap_May.f k t n acc bt.1).bind fun x => cap_Decode.j4 k (!x) (b.map I) bt.2.1 bt.2.2 t n acc bt.1) else cap_Decode.j4 k false (b.map I) bt.2.1 bt.2.2 t n acc bt.1) (fun k => ?_) (Ev.bind (rtext12_ev b pl hb) ?_)
   ·simp only [cap_Decode.j3]
    rw [if_neg (by simp)]
   rw [decL]
   by_cases he : (textB b pl 32).2.2 = 0
   ·rw [if_pos he]
    refine ifpos he (Ev.bind (may_ev t n acc _) ?_)
    cases hy : mayB t n acc (textB b pl 32).1
    ·refine Ev.step (f := fun _ => some (noTok 4)) (fun k => ?_) (by simpa using Ev.now _)
     simp only [cap_Decode.j4]
     rw [if_pos (show (!false) = true from rfl), if_neg (by decide)]
     rfl
    ·refine Ev.step (f := fun _ => some (t, n, acc, (textB b pl 32).1, (textB b pl 32).2.1, 0)) (fun k => ?_) (by simpa using Ev.now _)
     simp only [cap_Decode.j4]
     rw [if_neg (by simp), if_pos he]
   ·rw [if_neg he]
    exact ifneg he (dec_j4 _ _ _ _ _ _ _ he)
  refine Ev.step (fun k => ?_) hj
  simp only [cap_Decode.l0]
  rw [if_neg (by omega)]
 | succ m ih =>
  intro i pl acc hi ha
  have hwi : wrap64 ((i : Int) + 1) = ((i + 1 : Nat) : Int) := wrap_succ (n := 100) (by omega) (by omega)
  refine Ev.step (f := fun k => cap_Decode.j3 k (many : Int) (i : Int) true (b.map I) pl 0 t n acc ⟨#[]⟩) (fun k => ?_) ?_
  ·simp only [cap_Decode.l0]
   rw [if_pos (by omega)]
   rfl
  refine Ev.step (f := fun k => (cap_reader_text.f k (b.map I) pl 0 32).bind fun x => (cap_reader_number.f k (b.map I) x.2.1 x.2.2).bind fun y => (cap_reader_number.f k (b.map I) y.2.1 y.2.2).bind fun z => cap_Decode.l0 k (many : Int) ((i + 1 : Nat) : Int) (b.map I) z.2.1 z.2.2 t n (acc ++ [⟨x.1, y.1, z.1⟩]) ⟨#[]⟩) (fun k => ?_) ?_
  ·simp only [cap_Decode.j3]
   rw [if_pos trivial]
   simp only [if_pos (show acc.length < 4398046511104 by omega), hwi]
  rw [decL]
  refine Ev.bind (rtext12_ev b pl hb) ?_
  by_cases h1 : (textB b pl 32).2.2 = 0
  ·rw [if_pos h1, h1]
   refine Ev.bind (number_ev b _ hb) ?_
   by_cases h2 : (numB b (textB b pl 32).2.1).2.2 = 0
   ·rw [if_pos h2, h2]
    refine Ev.bind (number_ev b _ hb) ?_
    by_cases h3 : (numB b (numB b (textB b pl 32).2.1).2.1).2.2 = 0
    ·rw [if_pos h3, h3]
     exact ih (i + 1) _ _ (by omega) (by simp [ha])
    ·rw [if_neg h3]
     exact dec_err _ _ _ _ _ _ _ _ _ h3
   ·rw [if_neg h2]
    exact Ev.bind (number_err _ _ _ h2) (dec_err _ _ _ _ _ _ _ _ _ h2)
  ·rw [if_neg h1]
   exact Ev.bind (number_err _ _ _ h1) (Ev.bind (number_err _ _ _ h1) (dec_err _ _ _ _ _ _ _ _ _ h1))
theorem numB_facts (b : List UInt8) (pl : Int) : 0 ≤ (numB b pl).1 ∧ (numB b pl).1 ≤ 4611686018427387904 ∧ 0 ≤ (numB b pl).2.1 ∧ (numB b pl).2.1 ≤ (b.length : Int) := by
 obtain ⟨g1, g2, g3, g4⟩ := getB_facts b pl
 unfold numB
 refine ⟨?_, ?_, g3, g4⟩ <;> simp only <;> unfold mn <;> split <;> omega
theorem decode_ev (b : List UInt8) (pl : Int) (hb : b.length < 1000000000000) : Ev (fun k => cap_Decode.f k (b.map I) pl) (decB b pl) := by
 have go : ∀ (l : List Int) (many at_ e t n : Int) (x : Bool) (r : TokR), Ev (fun k => cap_Decode.l0 k many 0 l at_ (if x = true then 4 else e) t n [] ⟨#[]⟩) r → Ev (fun k => cap_Decode.j0 k many x l at_ e t n ⟨#[]⟩) r := fun l many at_ e t n x r h => by
  refine Ev.step (f := fun k => cap_Decode.j1 k many l at_ (if x = true then 4 else e) t n ⟨#[]⟩) (fun k => ?_) (Ev.step (fun k => ?_) h)
  ·simp only [cap_Decode.j0]
   cases x <;> rfl
  ·simp only [cap_Decode.j1]
 simp only [cap_Decode.f]
 refine Ev.bind (number_ev b pl hb) ?_
 unfold decB
 by_cases h1 : (numB b pl).2.2 = 0
 ·rw [if_pos h1, h1]
  refine Ev.bind (number_ev b _ hb) ?_
  by_cases h2 : (numB b (numB b pl).2.1).2.2 = 0
  ·rw [if_pos h2, h2]
   refine Ev.bind (number_ev b _ hb) ?_
   by_cases h3 : (numB b (numB b (numB b pl).2.1).2.1).2.2 = 0
   ·rw [if_pos h3]
    refine ifpos h3 (go _ _ _ _ _ _ _ _ ?_)
    have hf := (numB_facts b (numB b (numB b pl).2.1).2.1).1
    by_cases h4 : (numB b (numB b (numB b pl).2.1).2.1).1 > 8
    ·rw [if_pos h4, decide_eq_true h4]
     exact dec_err _ _ _ _ 4 _ _ _ _ (by decide)
    ·rw [if_neg h4, decide_eq_false h4, h3]
     have := decP_ev b (numB b pl).1 (numB b (numB b pl).2.1).1 hb (numB b (numB b (numB b pl).2.1).2.1).1.toNat (by omega) (numB b (numB b (numB b pl).2.1).2.1).1.toNat 0 (numB b (numB b (numB b pl).2.1).2.1).2.1 [] (by omega) rfl
     rw [show (((numB b (numB b (numB b pl).2.1).2.1).1.toNat : Nat) : Int) = (numB b (numB b (numB b pl).2.1).2.1).1 by omega] at this
     exact this
   ·rw [if_neg h3]
    exact ifneg h3 (go _ _ _ _ _ _ _ _ (dec_err _ _ _ _ _ _ _ _ _ (by simpa using h3)))
  ·rw [if_neg h2]
   refine Ev.bind (number_err _ _ _ h2) ?_
   exact ifneg h2 (go _ _ _ _ _ _ _ _ (dec_err _ _ _ _ _ _ _ _ _ (by simpa using h2)))
 ·rw [if_neg h1]
  refine Ev.bind (number_err _ _ _ h1) (Ev.bind (number_err _ _ _ h1) ?_)
  exact ifneg h1 (go _ _ _ _ _ _ _ _ (dec_err _ _ _ _ _ _ _ _ _ (by simpa using h1)))
theorem rtextD_ev (b : List UInt8) (pl : Int) (hb : b.length < 1000000000000) : Ev (fun k => strongroomref01_GetText.f k ⟨b.toArray⟩ pl 32) (textB b pl 32) := rtextG_ev b pl 32 hb (by omega)
theorem decX_ev (b : List UInt8) (t n : Int) (hb : b.length < 1000000000000) (many : Nat) (hm : many ≤ 8) : ∀ (m i : Nat) (pl : Int) (acc : List SC), i + m = many → acc.length = i → Ev (fun k => strongroomref12_Decode.l0 k ⟨b.toArray⟩ pl (many : Int) (i : Int) 0 0 ⟨#[]⟩ t n acc ⟨#[]⟩) (decL b t n m pl acc) := by
 intro m
 induction m with
 | zero =>
  intro i pl acc hi ha
  refine Ev.step (f := fun k => (strongroomref01_GetText.f k ⟨b.toArray⟩ pl 32).bind fun bt => if bt.2.2 = 0 then ((strongroomref12_May.f k t n acc bt.1).bind fun x => if x = true then some (t, n, acc, bt.1, bt.2.1, 0) else some (noTok 4)) else some (noTok bt.2.2)) (fun k => ?_) (Ev.bind (rtextD_ev b pl hb) ?_)
  ·simp only [strongroomref12_Decode.l0]
   rw [if_neg (by omega)]
   rfl
  rw [decL]
  by_cases he : (textB b pl 32).2.2 = 0
  ·rw [if_pos he]
   refine ifpos he (Ev.bind (rmay_ev t n acc _) ?_)
   cases hy : mayB t n acc (textB b pl 32).1
   ·exact ifneg (by simp) (by simpa using Ev.now _)
   ·exact ifpos rfl (by simpa using Ev.now _)
  ·rw [if_neg he]
   exact ifneg he (Ev.now _)
 | succ m ih =>
  intro i pl acc hi ha
  have hwi : wrap64 ((i : Int) + 1) = ((i + 1 : Nat) : Int) := wrap_succ (n := 100) (by omega) (by omega)
  refine Ev.step (f := fun k => (strongroomref01_GetText.f k ⟨b.toArray⟩ pl 32).bind fun x => if x.2.2 = 0 then ((strongroomref12_number.f k ⟨b.toArray⟩ x.2.1).bind fun y => if y.2.2 = 0 then ((strongroomref12_number.f k ⟨b.toArray⟩ y.2.1).bind fun z => if z.2.2 = 0 then strongroomref12_Decode.l0 k ⟨b.toArray⟩ z.2.1 (many : Int) ((i + 1 : Nat) : Int) 0 0 ⟨#[]⟩ t n (acc ++ [⟨x.1, y.1, z.1⟩]) ⟨#[]⟩ else some (noTok z.2.2)) else some (noTok y.2.2)) else some (noTok x.2.2)) (fun k => ?_) ?_
  ·simp only [strongroomref12_Decode.l0]
   rw [if_pos (by omega)]
   simp only [if_pos (show acc.length < 4398046511104 by omega), hwi]
   rfl
  rw [decL]
  refine Ev.bind (rtextD_ev b pl hb) ?_
  by_cases h1 : (textB b pl 32).2.2 = 0
  ·rw [if_pos h1]
   refine ifpos h1 (Ev.bind (rnumber_ev b _ hb) ?_)
   by_cases h2 : (numB b (textB b pl 32).2.1).2.2 = 0
   ·rw [if_pos h2]
    refine ifpos h2 (Ev.bind (rnumber_ev b _ hb) ?_)
    by_cases h3 : (numB b (numB b (textB b pl 32).2.1).2.1).2.2 = 0
    ·rw [if_pos h3]
     exact ifpos h3 (ih (i + 1) _ _ (by omega) (by simp [ha]))
    ·rw [if_neg h3]
     exact ifneg h3 (Ev.now _)
   ·rw [if_neg h2]
    exact ifneg h2 (Ev.now _)
  ·rw [if_neg h1]
   exact ifneg h1 (Ev.now _)
theorem rdecode_ev (b : List UInt8) (pl : Int) (hb : b.length < 1000000000000) : Ev (fun k => strongroomref12_Decode.f k ⟨b.toArray⟩ pl) (decB b pl) := by
 simp only [strongroomref12_Decode.f]
 refine Ev.bind (rnumber_ev b pl hb) ?_
 unfold decB
 by_cases h1 : (numB b pl).2.2 = 0
 ·rw [if_pos h1]
  refine ifpos h1 (Ev.bind (rnumber_ev b _ hb) ?_)
  by_cases h2 : (numB b (numB b pl).2.1).2.2 = 0
  ·rw [if_pos h2]
   refine ifpos h2 (Ev.bind (rnumber_ev b _ hb) ?_)
   by_cases h3 : (numB b (numB b (numB b pl).2.1).2.1).2.2 = 0
   ·rw [if_pos h3]
    refine ifpos h3 ?_
    have hf := (numB_facts b (numB b (numB b pl).2.1).2.1).1
    by_cases h4 : (numB b (numB b (numB b pl).2.1).2.1).1 > 8
    ·rw [if_pos h4]
     exact ifpos h4 (Ev.now _)
    ·rw [if_neg h4]
     refine ifneg h4 ?_
     have := decX_ev b (numB b pl).1 (numB b (numB b pl).2.1).1 hb (numB b (numB b (numB b pl).2.1).2.1).1.toNat (by omega) (numB b (numB b (numB b pl).2.1).2.1).1.toNat 0 (numB b (numB b (numB b pl).2.1).2.1).2.1 [] (by omega) rfl
     rw [show (((numB b (numB b (numB b pl).2.1).2.1).1.toNat : Nat) : Int) = (numB b (numB b (numB b pl).2.1).2.1).1 by omega] at this
     exact this
   ·rw [if_neg h3]
    exact ifneg h3 (Ev.now _)
  ·rw [if_neg h2]
   exact ifneg h2 (Ev.now _)
 ·rw [if_neg h1]
  exact ifneg h1 (Ev.now _)
theorem getR_put (pl : Nat) : ∀ (f i acc n : Nat) (post : List UInt8), i + f = 10 → n * 128 ^ i < 18446744073709551616 → (0 < i → 0 < n) → getR pl f acc i (putL n ++ post) = (((acc + n * 128 ^ i : Nat) : Int), ((pl + i + (putL n).length : Nat) : Int), 0)
 | 0, i, acc, n, post, hi, hn, h0 => by
  obtain rfl : i = 10 := by omega
  have h1 : 128 ^ 10 ≤ n * 128 ^ 10 := Nat.le_mul_of_pos_left _ (h0 (by omega))
  have h2 : (18446744073709551616 : Nat) ≤ 128 ^ 10 := by decide
  omega
 | f + 1, i, acc, n, post, hi, hn, h0 => by
  by_cases h : n < 128
  ·rw [putL_small h, List.cons_append, getR]
   have hx : (UInt8.ofNat n).toNat = n := by rw [UInt8.toNat_ofNat']; omega
   rw [hx, if_pos h, if_neg]
   ·rfl
   ·rintro (⟨h1, h2⟩ | ⟨h1, h2⟩)
    ·have := h0 h2; omega
    ·subst h1
     have h3 : 2 * 128 ^ 9 ≤ n * 128 ^ 9 := Nat.mul_le_mul_right _ h2
     have h4 : (18446744073709551616 : Nat) ≤ 2 * 128 ^ 9 := by decide
     omega
  ·have hx : (UInt8.ofNat (n % 128 + 128)).toNat = n % 128 + 128 := by rw [UInt8.toNat_ofNat']; omega
   have e : n * 128 ^ i = n % 128 * 128 ^ i + n / 128 * 128 ^ (i + 1) := by
    rw [Nat.pow_succ, Nat.mul_comm (128 ^ i) 128, ← Nat.mul_assoc, ← Nat.add_mul]
    congr 1
    omega
   have ih := getR_put pl f (i + 1) (acc + n % 128 * 128 ^ i) (n / 128) post (by omega) (by omega) (fun _ => by omega)
   rw [putL_big h, List.cons_append, getR, hx, if_neg (by omega), show (n % 128 + 128) % 128 = n % 128 by omega, ih, e, List.length_cons]
   rw [show acc + n % 128 * 128 ^ i + n / 128 * 128 ^ (i + 1) = acc + (n % 128 * 128 ^ i + n / 128 * 128 ^ (i + 1)) by omega, show pl + (i + 1) + (putL (n / 128)).length = pl + i + ((putL (n / 128)).length + 1) by omega]
theorem getB_put (pre post : List UInt8) (n : Nat) (hn : n < 18446744073709551616) : getB (pre ++ (putL n ++ post)) (pre.length : Int) = ((n : Int), ((pre.length + (putL n).length : Nat) : Int), 0) := by
 unfold getB
 rw [if_neg (by rw [List.length_append]; omega), Int.toNat_natCast, List.drop_left, getR_put pre.length 10 0 0 n post rfl (by simpa using hn) (by omega)]
 simp
theorem numB_put (pre post : List UInt8) (n : Nat) (hn : n ≤ 4611686018427387904) : numB (pre ++ (putL n ++ post)) (pre.length : Int) = ((n : Int), ((pre.length + (putL n).length : Nat) : Int), 0) := by
 unfold numB
 rw [getB_put pre post n (by omega)]
 rw [show mn (n : Int) 4611686018427387904 = (n : Int) by unfold mn; split <;> omega]
theorem textB_put (pre post s : List UInt8) (most : Nat) (hs : s.length ≤ most) (hm : most < 1000000) : textB (pre ++ ((putL s.length ++ s) ++ post)) (pre.length : Int) most = (⟨s.toArray⟩, ((pre.length + (putL s.length ++ s).length : Nat) : Int), 0) := by
 unfold textB
 rw [List.append_assoc, getB_put pre (s ++ post) s.length (by omega)]
 simp only
 rw [if_pos trivial, if_neg (by omega), if_neg (by simp only [List.length_append]; omega), Int.toNat_natCast, Int.toNat_natCast]
 rw [show pre ++ (putL s.length ++ (s ++ post)) = (pre ++ putL s.length) ++ (s ++ post) by simp, show pre.length + (putL s.length).length = (pre ++ putL s.length).length by simp, List.drop_left, List.take_left]
 simp only [List.length_append]
 congr 2
 omega
theorem decL_put (b : List UInt8) (t n : Int) (s post : List UInt8) (hs : s.length = 32) : ∀ (l acc : List SC) (pre : List UInt8), b = pre ++ ((l.flatMap capB ++ (putL s.length ++ s)) ++ post) → l.all goodC = true → mayB t n (acc ++ l) ⟨s.toArray⟩ = true →
  decL b t n l.length (pre.length : Int) acc = (t, n, acc ++ l, ⟨s.toArray⟩, ((pre.length + (l.flatMap capB ++ (putL s.length ++ s)).length : Nat) : Int), 0)
 | [], acc, pre, hb, _, hm => by
  have h1 := textB_put pre post s 32 (by omega) (by omega)
  rw [List.length_nil, decL, hb]
  simp only [List.flatMap_nil, List.nil_append, List.append_nil] at hm ⊢
  rw [h1]
  simp only [hm, if_true]
 | c :: l, acc, pre, hb, hg, hm => by
  rw [List.all_cons, Bool.and_eq_true] at hg
  obtain ⟨g1, g2, g3, g4, g5⟩ := goodC_facts hg.1
  have g6 := placeB_le g1
  have g7 : c.f0.data.toList.length = c.f0.size := rfl
  have h1 := textB_put pre (putL c.f1.toNat ++ (putL c.f2.toNat ++ ((l.flatMap capB ++ (putL s.length ++ s)) ++ post))) c.f0.data.toList 32 (by omega) (by omega)
  have h2 := numB_put (pre ++ (putL c.f0.data.toList.length ++ c.f0.data.toList)) (putL c.f2.toNat ++ ((l.flatMap capB ++ (putL s.length ++ s)) ++ post)) c.f1.toNat (by omega)
  have h3 := numB_put (pre ++ (putL c.f0.data.toList.length ++ c.f0.data.toList) ++ putL c.f1.toNat) ((l.flatMap capB ++ (putL s.length ++ s)) ++ post) c.f2.toNat (by omega)
  have e1 : b = pre ++ ((putL c.f0.data.toList.length ++ c.f0.data.toList) ++ (putL c.f1.toNat ++ (putL c.f2.toNat ++ ((l.flatMap capB ++ (putL s.length ++ s)) ++ post)))) := by rw [hb]; simp [capB]
  have e2 : b = (pre ++ (putL c.f0.data.toList.length ++ c.f0.data.toList)) ++ (putL c.f1.toNat ++ (putL c.f2.toNat ++ ((l.flatMap capB ++ (putL s.length ++ s)) ++ post))) := by rw [hb]; simp [capB]
  have e3 : b = (pre ++ (putL c.f0.data.toList.length ++ c.f0.data.toList) ++ putL c.f1.toNat) ++ (putL c.f2.toNat ++ ((l.flatMap capB ++ (putL s.length ++ s)) ++ post)) := by rw [hb]; simp [capB]
  rw [← e1] at h1
  rw [← e2] at h2
  rw [← e3] at h3
  have l1 : ((pre.length + (putL c.f0.data.toList.length ++ c.f0.data.toList).length : Nat) : Int) = ((pre ++ (putL c.f0.data.toList.length ++ c.f0.data.toList)).length : Int) := by simp only [List.length_append]
  have l2 : (((pre ++ (putL c.f0.data.toList.length ++ c.f0.data.toList)).length + (putL c.f1.toNat).length : Nat) : Int) = ((pre ++ (putL c.f0.data.toList.length ++ c.f0.data.toList) ++ putL c.f1.toNat).length : Int) := by simp only [List.length_append]
  have ih := decL_put b t n s post hs l (acc ++ [c]) (pre ++ capB c) (by rw [hb]; simp) hg.2 (by rw [List.append_assoc]; exact hm)
  have l3 : (((pre ++ (putL c.f0.data.toList.length ++ c.f0.data.toList) ++ putL c.f1.toNat).length + (putL c.f2.toNat).length : Nat) : Int) = ((pre ++ capB c).length : Int) := by simp only [capB, List.length_append]; omega
  rw [List.length_cons, decL, h1]
  simp only [l1, h2, l2, h3, l3, if_true]
  have ec : (⟨⟨c.f0.data.toList.toArray⟩, ((c.f1.toNat : Nat) : Int), ((c.f2.toNat : Nat) : Int)⟩ : SC) = c := by
   rw [show ((c.f1.toNat : Nat) : Int) = c.f1 by omega, show ((c.f2.toNat : Nat) : Int) = c.f2 by omega]
  have l4 : (((pre ++ capB c).length + (l.flatMap capB ++ (putL s.length ++ s)).length : Nat) : Int) = ((pre.length + ((c :: l).flatMap capB ++ (putL s.length ++ s)).length : Nat) : Int) := by simp only [List.flatMap_cons, List.length_append]; omega
  rw [ec, ih, List.append_assoc, l4]
  rfl
/-- a token's bytes -/
def encL (t n : Int) (l : List SC) (s : List UInt8) : List UInt8 := firstL t n ++ putL l.length ++ (l.flatMap capB ++ (putL s.length ++ s))
theorem decB_put (pre post : List UInt8) (t n : Int) (l : List SC) (s : List UInt8) (hm : mayB t n l ⟨s.toArray⟩ = true) : decB (pre ++ (encL t n l s ++ post)) (pre.length : Int) = (t, n, l, ⟨s.toArray⟩, ((pre.length + (encL t n l s).length : Nat) : Int), 0) := by
 obtain ⟨m1, m2, m3, m4⟩ := mayB_facts hm
 rw [mk_size] at m3
 obtain ⟨k1, k2, k3, k4⟩ := knownB_facts m1
 generalize hb : pre ++ (encL t n l s ++ post) = b
 have h1 := numB_put pre (putL n.toNat ++ (putL l.length ++ ((l.flatMap capB ++ (putL s.length ++ s)) ++ post))) t.toNat (by omega)
 have h2 := numB_put (pre ++ putL t.toNat) (putL l.length ++ ((l.flatMap capB ++ (putL s.length ++ s)) ++ post)) n.toNat (by omega)
 have h3 := numB_put (pre ++ putL t.toNat ++ putL n.toNat) ((l.flatMap capB ++ (putL s.length ++ s)) ++ post) l.length (by omega)
 rw [show pre ++ (putL t.toNat ++ (putL n.toNat ++ (putL l.length ++ ((l.flatMap capB ++ (putL s.length ++ s)) ++ post)))) = b by rw [← hb]; simp [encL, firstL]] at h1
 rw [show pre ++ putL t.toNat ++ (putL n.toNat ++ (putL l.length ++ ((l.flatMap capB ++ (putL s.length ++ s)) ++ post))) = b by rw [← hb]; simp [encL, firstL]] at h2
 rw [show pre ++ putL t.toNat ++ putL n.toNat ++ (putL l.length ++ ((l.flatMap capB ++ (putL s.length ++ s)) ++ post)) = b by rw [← hb]; simp [encL, firstL]] at h3
 have l1 : ((pre.length + (putL t.toNat).length : Nat) : Int) = ((pre ++ putL t.toNat).length : Int) := by simp only [List.length_append]
 have l2 : (((pre ++ putL t.toNat).length + (putL n.toNat).length : Nat) : Int) = ((pre ++ putL t.toNat ++ putL n.toNat).length : Int) := by simp only [List.length_append]
 have l3 : (((pre ++ putL t.toNat ++ putL n.toNat).length + (putL l.length).length : Nat) : Int) = ((pre ++ putL t.toNat ++ putL n.toNat ++ putL l.length).length : Int) := by simp only [List.length_append]
 have hd := decL_put b t n s post m3 l [] (pre ++ putL t.toNat ++ putL n.toNat ++ putL l.length) (by rw [← hb]; simp [encL, firstL]) m4 (by simpa using hm)
 unfold decB
 rw [h1]
 simp only [l1, h2, l2, h3, l3, if_true, Int.toNat_natCast]
 rw [if_neg (by omega), show ((t.toNat : Nat) : Int) = t by omega, show ((n.toNat : Nat) : Int) = n by omega, hd]
 simp only [List.nil_append]
 congr 5
 simp [encL, firstL]
 omega
theorem encP_ev (l : List SC) (t n : Int) (s : List UInt8) (hs : s.length = 32) (hl : l.length ≤ 8) (hg : l.all goodC = true) : ∀ (cs : List SC) (i : Nat) (acc : List UInt8), l.drop i = cs → i ≤ l.length → acc.length + 100 * cs.length ≤ 100000 →
  Ev (fun k => cap_Encode.l0 k (acc.map I) l (l.length : Int) (i : Int) t n l ⟨s.toArray⟩) ((acc ++ (cs.flatMap capB ++ (putL s.length ++ s))).map I, 0) := by
 intro cs
 induction cs with
 | nil =>
  intro i acc hd hi ha
  have := drop_nil_len hd hi
  refine Ev.step (f := fun k => (num_PutText.f k (acc.map I) ⟨s.toArray⟩).bind fun x => some (x, 0)) (fun k => ?_) (Ev.bind (putText_ev acc s (by simp at ha; omega) (by omega)) ?_)
  ·simp only [cap_Encode.l0]
   rw [if_neg (by omega)]
  ·simp only [List.flatMap_nil, List.nil_append, List.append_assoc]
   exact Ev.now _
 | cons c cs ih =>
  intro i acc hd hi ha
  obtain ⟨h1, h2, h3⟩ := rd_drop l i c cs hd
  simp only [List.length_cons] at ha
  have hgc : goodC c = true := List.all_eq_true.1 hg c (List.mem_of_mem_drop (show c ∈ l.drop i by rw [hd]; exact List.mem_cons_self))
  have hc := capB_len hgc
  have next := ih (i + 1) (acc ++ capB c) h2 h3 (by rw [List.length_append]; omega)
  refine Ev.step (f := fun k => (cap_bytes.f k c.f0 c.f1 c.f2).bind fun x => if (acc.map I).length + x.length < 140737488355328 then cap_Encode.l0 k (acc.map I ++ x) l (l.length : Int) ((i + 1 : Nat) : Int) t n l ⟨s.toArray⟩ else none) (fun k => ?_) ?_
  ·simp only [cap_Encode.l0]
   rw [if_pos (by omega), if_pos (by omega), if_pos (by omega), h1, wrap_succ h3 (by omega)]
  refine Ev.bind (bytes_ev c hgc) (ifpos (by simp only [List.length_map]; omega) ?_)
  rw [← List.map_append]
  simpa [List.flatMap_cons, List.append_assoc] using next
theorem encode_ev (t n : Int) (l : List SC) (s : List UInt8) (hm : mayB t n l ⟨s.toArray⟩ = true) : Ev (fun k => cap_Encode.f k t n l ⟨s.toArray⟩) ((encL t n l s).map I, 0) := by
 obtain ⟨m1, m2, m3, m4⟩ := mayB_facts hm
 rw [mk_size] at m3
 have hf := firstL_len m1
 have hp := putL_ten (n := l.length) (by omega)
 simp only [cap_Encode.f]
 refine Ev.bind (may_ev t n l _) (ifpos hm (Ev.bind (first_ev t n m1) (ifpos (by rw [mk_size]; omega) ?_)))
 refine Ev.bind (put_ev' (firstL t n) (l.length : Int) (by omega) (by omega) (by omega)) ?_
 have := encP_ev l t n s m3 m2 m4 l 0 (firstL t n ++ putL (l.length : Int).toNat) rfl (by omega) (by rw [List.length_append, Int.toNat_natCast]; omega)
 simpa [encL] using this
theorem encode_no (t n : Int) (l : List SC) (s : ByteArray) (hm : mayB t n l s = false) : Ev (fun k => cap_Encode.f k t n l s) ([], 1) := by
 simp only [cap_Encode.f]
 refine Ev.bind (may_ev t n l s) ?_
 exact ifneg (by rw [hm]; simp) (Ev.now _)
theorem encX_ev (l : List SC) (t n : Int) (s : List UInt8) (hs : s.length = 32) (hl : l.length ≤ 8) (hg : l.all goodC = true) : ∀ (cs : List SC) (i : Nat) (acc : List UInt8), l.drop i = cs → i ≤ l.length → acc.length + 100 * cs.length ≤ 100000 →
  Ev (fun k => strongroomref12_Encode.l0 k ⟨acc.toArray⟩ (i : Int) t n l ⟨s.toArray⟩) ⟨(acc ++ (cs.flatMap capB ++ (putL s.length ++ s))).toArray⟩ := by
 intro cs
 have hp := putL_ten (n := s.length) (by omega)
 induction cs with
 | nil =>
  intro i acc hd hi ha
  have := drop_nil_len hd hi
  simp only [List.length_nil] at ha
  refine Ev.step (f := fun k => (strongroomref01_Text.f k ⟨s.toArray⟩).bind fun x => if (⟨acc.toArray⟩ : ByteArray).size + x.size ≤ 9223372036854775807 then some (⟨acc.toArray⟩ ++ x) else none) (fun k => ?_) (Ev.bind (rtext_ev s (by omega)) (ifpos (by simp only [mk_size, List.length_append]; omega) ?_))
  ·simp only [strongroomref12_Encode.l0]
   rw [if_neg (by omega)]
  ·rw [mk_app, List.flatMap_nil, List.nil_append]
   exact Ev.now _
 | cons c cs ih =>
  intro i acc hd hi ha
  obtain ⟨h1, h2, h3⟩ := rd_drop l i c cs hd
  simp only [List.length_cons] at ha
  have hgc : goodC c = true := List.all_eq_true.1 hg c (List.mem_of_mem_drop (show c ∈ l.drop i by rw [hd]; exact List.mem_cons_self))
  have hc := capB_len hgc
  have next := ih (i + 1) (acc ++ capB c) h2 h3 (by rw [List.length_append]; omega)
  refine Ev.step (f := fun k => (strongroomref12_Bytes.f k c.f0 c.f1 c.f2).bind fun x => if (⟨acc.toArray⟩ : ByteArray).size + x.size ≤ 9223372036854775807 then strongroomref12_Encode.l0 k (⟨acc.toArray⟩ ++ x) ((i + 1 : Nat) : Int) t n l ⟨s.toArray⟩ else none) (fun k => ?_) ?_
  ·simp only [strongroomref12_Encode.l0]
   rw [if_pos (by omega), if_pos (by omega), h1, wrap_succ h3 (by omega)]
  refine Ev.bind (rbytes_ev c hgc) (ifpos (by simp only [mk_size]; omega) ?_)
  rw [mk_app]
  simpa [List.flatMap_cons, List.append_assoc] using next
theorem rencode_ev (t n : Int) (l : List SC) (s : List UInt8) (hm : mayB t n l ⟨s.toArray⟩ = true) : Ev (fun k => strongroomref12_Encode.f k t n l ⟨s.toArray⟩) ⟨(encL t n l s).toArray⟩ := by
 obtain ⟨m1, m2, m3, m4⟩ := mayB_facts hm
 rw [mk_size] at m3
 have hf := firstL_len m1
 have hp := putL_ten (n := l.length) (by omega)
 simp only [strongroomref12_Encode.f]
 refine Ev.bind (head_ev t n m1) (Ev.bind (rput' (l.length : Int) (by omega) (by omega)) (ifpos (by simp only [mk_size, Int.toNat_natCast]; omega) ?_))
 rw [mk_app]
 have := encX_ev l t n s m3 m2 m4 l 0 (firstL t n ++ putL (l.length : Int).toNat) rfl (by omega) (by rw [List.length_append, Int.toNat_natCast]; omega)
 simpa [encL] using this
theorem sameSelf_ev (R : TokR) (hl : R.2.2.1.length < 1000000) : Ev (fun k => strongroomref12_Same.f k R.1 R.2.1 R.2.2.1 R.2.2.2.1 R.1 R.2.1 R.2.2.1 R.2.2.2.1) true := same_ev _ _ _ _ hl
theorem decL_len (b : List UInt8) (t n : Int) : ∀ (m : Nat) (pl : Int) (acc : List SC), (decL b t n m pl acc).2.2.1.length ≤ acc.length + m
 | 0, pl, acc => by
  rw [decL]
  split
  ·split
   ·simp
   ·simp [noTok]
  ·simp [noTok]
 | m + 1, pl, acc => by
  rw [decL]
  split
  ·split
   ·split
    ·refine Nat.le_trans (decL_len b t n m _ _) ?_
     rw [List.length_append]; simp; omega
    ·simp [noTok]
   ·simp [noTok]
  ·simp [noTok]
theorem decB_len (b : List UInt8) (pl : Int) : (decB b pl).2.2.1.length ≤ 8 := by
 unfold decB
 split
 ·split
  ·split
   ·split
    ·simp [noTok]
    ·rename_i h
     refine Nat.le_trans (decL_len _ _ _ _ _ _) ?_
     rw [List.length_nil]; omega
   ·simp [noTok]
  ·simp [noTok]
 ·simp [noTok]
/-- CapCodes, of numbers and lists alone (raw: bytes). -/
theorem CapCodes (t n : Int) (l : List SC) (s : ByteArray) (raw : List UInt8) (pl : Int) : ∃ k, strongroomlaw12_CapCodes.f k t n l s (raw.map I) pl = some true := by
 refine Ev.rounds (g := fun k => strongroomlaw12_CapCodes.f k t n l s (raw.map I) pl) ?_
 have hT : Ev (fun k => strongroomlaw12_CapCodes.j0 k (raw.map I) pl true t n l s) true := by
  refine Ev.step (fun k => ?_) lives_ev'
  simp only [strongroomlaw12_CapCodes.j0]
  rw [if_pos trivial]
 simp only [strongroomlaw12_CapCodes.f, List.length_map]
 refine Ev.bind (small_ev t n l s) ?_
 cases hs : smallB l s
 ·exact ifneg (by simp) hT
 refine ifpos rfl ?_
 by_cases hr : (raw.length : Int) > 5000
 ·rw [decide_eq_true hr]; exact hT
 rw [decide_eq_false hr]
 have hb : raw.length < 1000000000000 := by omega
 have hd := decB_len raw pl
 refine Ev.step (f := fun k => (cap_Decode.f k (raw.map I) pl).bind fun x => (strongroomref12_Decode.f k ⟨raw.toArray⟩ pl).bind fun y => (strongroomref12_Same.f k x.1 x.2.1 x.2.2.1 x.2.2.2.1 y.1 y.2.1 y.2.2.1 y.2.2.2.1).bind fun z => if z = true then (if x.2.2.2.2.1 = y.2.2.2.2.1 then strongroomlaw12_CapCodes.j1 k (raw.map I) (x.2.2.2.2.2 != y.2.2.2.2.2) t n l s else strongroomlaw12_CapCodes.j1 k (raw.map I) true t n l s) else strongroomlaw12_CapCodes.j1 k (raw.map I) true t n l s) (fun k => ?_) ?_
 ·simp only [strongroomlaw12_CapCodes.j0, nums_mk]
  rw [if_neg (by simp)]
 refine Ev.bind (decode_ev raw pl hb) (Ev.bind (rdecode_ev raw pl hb) (Ev.bind (sameSelf_ev _ (by omega)) (ifpos rfl (ifpos rfl ?_))))
 rw [bne_self_eq_false]
 obtain ⟨u, rfl, hu⟩ := mk_all s
 cases hm : mayB t n l ⟨u.toArray⟩
 ·apply Ev.step (fun k => by simp only [strongroomlaw12_CapCodes.j1]; rw [if_neg (by simp)])
  refine Ev.bind (encode_no t n l _ hm) (Ev.bind (rmay_ev t n l _) ?_)
  exact ifneg (by rw [hm]; simp) (ifpos (by simp) (ifpos rfl lives_ev'))
 ·obtain ⟨m1, m2, m3, m4⟩ := mayB_facts hm
  have hlen : (encL t n l u).length ≤ 2000 := by
   rw [mk_size] at m3
   have hf := firstL_len m1
   have hp := putL_ten (n := l.length) (by omega)
   have hq := putL_ten (n := u.length) (by omega)
   have hc : ∀ cs : List SC, cs.all goodC = true → (cs.flatMap capB).length ≤ 100 * cs.length := by
    intro cs
    induction cs with
    | nil => simp
    | cons c cs ih =>
     intro h
     rw [List.all_cons, Bool.and_eq_true] at h
     have := capB_len h.1
     have := ih h.2
     rw [List.flatMap_cons, List.length_append, List.length_cons]
     omega
   have := hc l m4
   simp only [encL, List.length_append]
   omega
  apply Ev.step (fun k => by simp only [strongroomlaw12_CapCodes.j1]; rw [if_neg (by simp)])
  refine Ev.bind (encode_ev t n l u hm) (Ev.bind (rmay_ev t n l _) (ifpos hm ?_))
  simp only [Option.bind_some, List.nil_append, List.length_nil, List.length_map, List.length_append]
  refine ifpos (by omega) (ifpos (by omega) (ifpos (by omega) ?_))
  have he : List.map I raw ++ List.map I (encL t n l u) ++ List.map I raw = (raw ++ (encL t n l u ++ raw)).map I := by simp
  rw [he]
  have hb2 : (raw ++ (encL t n l u ++ raw)).length < 1000000000000 := by simp only [List.length_append]; omega
  refine Ev.bind (decode_ev (raw ++ (encL t n l u ++ raw)) (raw.length : Int) hb2) ?_
  rw [decB_put raw raw t n l u hm]
  refine ifpos (by first | trivial | rfl) (Ev.bind (rencode_ev t n l u hm) (ifpos (by rw [nums_mk]) (ifpos (by first | trivial | rfl) (Ev.bind (same_ev t n l _ (by omega)) (ifpos (by first | trivial | rfl) (ifpos ?_ lives_ev'))))))
  simp only
  unfold wrap64
  omega

end Go.Proofs.YtedmkffepmcpaaaDoor.Pure
