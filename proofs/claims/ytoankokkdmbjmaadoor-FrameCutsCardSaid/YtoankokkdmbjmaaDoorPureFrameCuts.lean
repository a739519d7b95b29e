/- The plain law of FrameCuts: of numbers and lists alone. -/
import Derived.Test.YtoankokkdmbjmaaDoorHFrameCutsx5
import Derived.Test.YtoankokkdmbjmaaDoorHFrameCutsx6
import Derived.Test.YtoankokkdmbjmaaDoorHFrameCutsx8
import Derived.Test.YtoankokkdmbjmaaDoorHFrameCutsx9
import Derived.Test.YtoankokkdmbjmaaDoorHFrameCutsx14
import Derived.Laws.BitsAllLaws
namespace Go.Proofs.YtoankokkdmbjmaaDoor.Pure
open Go.RowKit Go.Proofs.YtoankokkdmbjmaaDoorH.HFrameCuts Go.Proofs.YtoankokkdmbjmaaDoorW.PrintWords Go.Proofs.YtoankokkdmbjmaaDoorW.PrintLast Go.Proofs.YtoankokkdmbjmaaDoorW.PrintMore
set_option linter.unusedVariables false
set_option linter.unusedSimpArgs false
abbrev I (b : UInt8) : Int := (b.toNat : Int)
def putL (n : Nat) : List UInt8 := if n < 128 then [UInt8.ofNat n] else UInt8.ofNat (n % 128 + 128) :: putL (n / 128)
termination_by n
decreasing_by omega
theorem putL_small {n : Nat} (h : n < 128) : putL n = [UInt8.ofNat n] := by rw [putL, if_pos h]
theorem putL_big {n : Nat} (h : ¬ n < 128) : putL n = UInt8.ofNat (n % 128 + 128) :: putL (n / 128) := by rw [putL, if_neg h]
theorem putL_len : ∀ (k n : Nat), n < 128 ^ (k + 1) → (putL n).length ≤ k + 1
 | 0, n, h => by rw [putL_small (by simpa using h)]; simp
 | k + 1, n, h => by
  by_cases hn : n < 128
  ·rw [putL_small hn]; simp
  ·rw [putL_big hn, List.length_cons]
   have := putL_len k (n / 128) (by rw [Nat.div_lt_iff_lt_mul (by decide), ← Nat.pow_succ]; exact h)
   omega
theorem putL_ten {n : Nat} (h : n < 18446744073709551616) : (putL n).length ≤ 10 := putL_len 9 n (Nat.lt_trans h (by decide))
theorem or128 (n : Nat) : Go.bits .or .u8 ((n : Int) % 256) 128 = I (UInt8.ofNat (n % 128 + 128)) := by
 have h : ∀ m, m < 256 → Go.bits .or .u8 ((m : Nat) : Int) 128 = I (UInt8.ofNat (m % 128 + 128)) := by decide +kernel
 have h2 := h (n % 256) (Nat.mod_lt _ (by decide))
 rw [show ((n : Int) % 256) = ((n % 256 : Nat) : Int) by omega, h2, Nat.mod_mod_of_dvd n (by decide)]
theorem I_ofNat {n : Nat} (h : n < 256) : I (UInt8.ofNat n) = (n : Int) := by
 simp only [I, UInt8.toNat_ofNat']; omega
theorem mk_app (a b : List UInt8) : (⟨a.toArray⟩ : ByteArray) ++ ⟨b.toArray⟩ = ⟨(a ++ b).toArray⟩ := by
 apply ByteArray.ext
 simp [ByteArray.data_append]
theorem mk_size (a : List UInt8) : (⟨a.toArray⟩ : ByteArray).size = a.length := by simp [ByteArray.size]
theorem nums_mk (l : List UInt8) : strOfNums (l.map I) = ⟨l.toArray⟩ := by
 simp [strOfNums, I, Function.comp_def]
theorem bytes_mk (l : List UInt8) : bytesOf ⟨l.toArray⟩ = l.map I := by simp [bytesOf]
theorem u64_nat {n : Nat} (h : n < 18446744073709551616) : IntKind.u64.wrap (n : Int) = (n : Int) := by
 simp [IntKind.wrap, IntKind.bits, IntKind.signed]; omega
theorem ifpos {α : Type} {c : Prop} [Decidable c] {f g : Nat → Option α} {r : α} (h : c) (k : Ev f r) : Ev (fun n => if c then f n else g n) r := Ev.congr (fun _ => if_pos h) k
theorem ifneg {α : Type} {c : Prop} [Decidable c] {f g : Nat → Option α} {r : α} (h : ¬ c) (k : Ev g r) : Ev (fun n => if c then f n else g n) r := Ev.congr (fun _ => if_neg h) k
theorem mk_all (a : ByteArray) : ∃ l : List UInt8, a = ⟨l.toArray⟩ ∧ l.length = a.size := ⟨a.data.toList, rfl, rfl⟩
theorem lay_ev : ∀ (n : Nat) (l : List UInt8), l.length + (putL n).length < 140737488355328 → Ev (fun k => num_lay.l0 k (l.map I) (n : Int)) ((l ++ putL n).map I) := by
 intro n
 induction n using Nat.strongRecOn with
 | ind n ih =>
  intro l hl
  by_cases hn : n < 128
  ·rw [putL_small hn] at hl ⊢
   refine Ev.step (f := fun _ => some ((l ++ [UInt8.ofNat n]).map I)) (fun k => ?_) (Ev.now _)
   simp only [num_lay.l0]
   rw [if_neg (by omega), if_pos (by simp at hl ⊢; omega)]
   simp only [List.map_append, List.map_cons, List.map_nil, I_ofNat (show n < 256 by omega)]
   rw [show (n : Int) % 256 = (n : Int) by omega]
  ·rw [putL_big hn] at hl ⊢
   have h2 := ih (n / 128) (by omega) (l ++ [UInt8.ofNat (n % 128 + 128)]) (by simp at hl ⊢; omega)
   rw [show l ++ UInt8.ofNat (n % 128 + 128) :: putL (n / 128) = l ++ [UInt8.ofNat (n % 128 + 128)] ++ putL (n / 128) by simp]
   refine Ev.step (fun k => ?_) h2
   simp only [num_lay.l0]
   rw [if_pos (by omega), if_pos (by simp at hl ⊢; omega), or128, show (n : Int) / 128 = ((n / 128 : Nat) : Int) by omega]
   simp
theorem own_is (l : List Int) (h : l.length < 140737488355328) : num_own.f l = some l := by
 simp [num_own.f, h]
theorem put_ev (l : List UInt8) (n : Nat) (h : l.length + (putL n).length < 140737488355328) : Ev (fun k => num_Put.f k (l.map I) (n : Int)) ((l ++ putL n).map I) := by
 refine Ev.congr (f := fun k => (num_lay.l0 k (l.map I) (n : Int)).bind fun t => some t) (fun k => ?_) (Ev.bind (lay_ev n l h) (Ev.now _))
 simp only [num_Put.f, own_is _ (show (l.map I).length < 140737488355328 by simp; omega), Option.bind_some, num_lay.f]
theorem putText_ev (l s : List UInt8) (h : l.length + s.length + 10 < 140737488355328) (hs : s.length < 18446744073709551616) : Ev (fun k => num_PutText.f k (l.map I) ⟨s.toArray⟩) ((l ++ putL s.length ++ s).map I) := by
 have h10 := putL_ten hs
 refine Ev.congr (f := fun k => (num_lay.l0 k (l.map I) ((s.length : Nat) : Int)).bind fun t => if t.length + s.length < 140737488355328 then some (t ++ s.map I) else none) (fun k => ?_) (Ev.bind (lay_ev s.length l (by omega)) ?_)
 ·simp only [num_PutText.f, own_is _ (show (l.map I).length < 140737488355328 by simp; omega), Option.bind_some, num_lay.f, mk_size, bytes_mk, u64_nat hs]
 ·rw [if_pos (by simp; omega)]
  rw [← List.map_append]
  exact Ev.now _
theorem toList_data (s : ByteArray) : s.toList = s.data.toList := by rw [ByteArray.toList_eq]
abbrev SC := S91
/-- may a text be a place? -/
def placeB (a : ByteArray) : Bool := a.data.toList == [] || goodB a
/-- may a caveat be? -/
def goodC (c : SC) : Bool := placeB c.f0 && (decide (0 ≤ c.f1) && (decide (c.f1 ≤ 7) && (decide (0 ≤ c.f2) && decide (c.f2 ≤ 1099511627776))))
theorem place_is (a : ByteArray) : path_Place.f a = some (placeB a) := by
 simp only [path_Place.f, path_Good.f, placeB, toList_data]
 by_cases h : a.data.toList = []
 ·rw [if_pos h, h]; rfl
 ·rw [if_neg h, show (a.data.toList == []) = false from beq_eq_false_iff_ne.2 h]; rfl
theorem cgood_is (p : ByteArray) (r u : Int) : cap_good.f p r u = some (goodC ⟨p, r, u⟩) := by
 simp only [cap_good.f, place_is, Option.bind_some, goodC]
 cases placeB p
 ·rfl
 ·by_cases h1 : 0 ≤ r
  ·by_cases h2 : r ≤ 7
   ·by_cases h3 : 0 ≤ u
    ·simp [h1, h2, h3]
    ·simp [h1, h2, h3]
   ·simp [h1, h2]
  ·simp [h1]
theorem goodB_le {a : ByteArray} (h : goodB a = true) : a.size ≤ 32 := by
 simp [goodB] at h; omega
theorem placeB_le {a : ByteArray} (h : placeB a = true) : a.size ≤ 32 := by
 rcases Bool.or_eq_true_iff.1 h with h | h
 ·have h0 : a.data.toList = [] := beq_iff_eq.1 h
  have : a.size = a.data.toList.length := rfl
  rw [this, h0]; simp
 ·exact goodB_le h
theorem goodC_facts {c : SC} (h : goodC c = true) : placeB c.f0 = true ∧ 0 ≤ c.f1 ∧ c.f1 ≤ 7 ∧ 0 ≤ c.f2 ∧ c.f2 ≤ 1099511627776 := by
 simp only [goodC, Bool.and_eq_true, decide_eq_true_eq] at h
 exact h
def knownB (t n : Int) : Bool := decide (1 ≤ t) && (decide (t ≤ 8) && (decide (0 ≤ n) && decide (n ≤ 1073741824)))
theorem known_is (t n : Int) : cap_known.f t n = some (knownB t n) := by
 simp only [cap_known.f, knownB]
 by_cases h1 : 1 ≤ t
 ·by_cases h2 : t ≤ 8
  ·by_cases h3 : 0 ≤ n
   ·simp [h1, h2, h3]
   ·simp [h1, h2, h3]
  ·simp [h1, h2]
 ·simp [h1]
theorem knownB_facts {t n : Int} (h : knownB t n = true) : 1 ≤ t ∧ t ≤ 8 ∧ 0 ≤ n ∧ n ≤ 1073741824 := by
 simp only [knownB, Bool.and_eq_true, decide_eq_true_eq] at h
 exact h
/-- may a token be? -/
def mayB (t n : Int) (l : List SC) (s : ByteArray) : Bool := knownB t n && (decide (l.length ≤ 8) && (decide (s.size = 32) && l.all goodC))
theorem rd_drop (l : List SC) (i : Nat) (c : SC) (cs : List SC) (h : l.drop i = c :: cs) : rd_T91 l (i : Int) = c ∧ l.drop (i + 1) = cs ∧ i < l.length := by
 have hlt : i < l.length := by
  rcases Nat.lt_or_ge i l.length with g | g
  ·exact g
  ·rw [List.drop_eq_nil_of_le g] at h; cases h
 have hp : l[i]? = some c := by
  have := congrArg List.head? h
  simpa [List.head?_drop] using this
 refine ⟨?_, ?_, hlt⟩
 ·simp [rd_T91, List.getD_eq_getElem?_getD, hp]
 ·have := congrArg List.tail h
  simpa [List.tail_drop] using this
theorem drop_nil_len {α : Type} {l : List α} {i : Nat} (h : l.drop i = []) (hi : i ≤ l.length) : i = l.length := by
 have := congrArg List.length h
 simp at this; omega
theorem wrap_succ {i n : Nat} (h : i < n) (hn : n < 1000000000000) : wrap64 ((i : Int) + 1) = ((i + 1 : Nat) : Int) := by unfold wrap64; omega
/-- the bytes of a caveat -/
def capB (c : SC) : List UInt8 := putL c.f0.data.toList.length ++ c.f0.data.toList ++ putL c.f1.toNat ++ putL c.f2.toNat
def firstL (t n : Int) : List UInt8 := putL t.toNat ++ putL n.toNat
theorem put_ev' (l : List UInt8) (n : Int) (h0 : 0 ≤ n) (h1 : n < 9223372036854775808) (h : l.length < 1000000) : Ev (fun k => num_Put.f k (l.map I) (IntKind.u64.wrap n)) ((l ++ putL n.toNat).map I) := by
 have h10 := putL_ten (n := n.toNat) (by omega)
 have := put_ev l n.toNat (by omega)
 rw [show ((n.toNat : Nat) : Int) = n by omega] at this
 have e : IntKind.u64.wrap n = n := by
  have := u64_nat (n := n.toNat) (by omega)
  rwa [show ((n.toNat : Nat) : Int) = n by omega] at this
 rw [e]
 exact this
theorem bytes_ev (c : SC) (h : goodC c = true) : Ev (fun k => cap_bytes.f k c.f0 c.f1 c.f2) ((capB c).map I) := by
 obtain ⟨h0, h1, h2, h3, h4⟩ := goodC_facts h
 have hs := placeB_le h0
 obtain ⟨s, hs2, hsl⟩ := mk_all c.f0
 have e1 := putText_ev [] s (by simp; omega) (by omega)
 have h10 := putL_ten (n := s.length) (by omega)
 have h11 := putL_ten (n := c.f1.toNat) (by omega)
 have e2 := put_ev' ([] ++ putL s.length ++ s) c.f1 h1 (by omega) (by simp only [List.length_append, List.length_nil]; omega)
 have e3 := put_ev' ([] ++ putL s.length ++ s ++ putL c.f1.toNat) c.f2 h3 (by omega) (by simp only [List.length_append, List.length_nil]; omega)
 have e : (capB c).map I = ([] ++ putL s.length ++ s ++ putL c.f1.toNat ++ putL c.f2.toNat).map I := by rw [capB, hs2]; rfl
 rw [e]
 simp only [cap_bytes.f, hs2]
 refine Ev.bind e1 ?_
 refine Ev.bind e2 ?_
 exact Ev.bind e3 (Ev.now _)
theorem capB_len {c : SC} (h : goodC c = true) : (capB c).length ≤ 100 := by
 obtain ⟨h0, h1, h2, h3, h4⟩ := goodC_facts h
 have hs := placeB_le h0
 have hsz : c.f0.data.toList.length = c.f0.size := rfl
 have a := putL_ten (n := c.f0.data.toList.length) (by omega)
 have b := putL_ten (n := c.f1.toNat) (by omega)
 have d := putL_ten (n := c.f2.toNat) (by omega)
 simp only [capB, List.length_append]; omega
theorem first_ev (t n : Int) (h : knownB t n = true) : Ev (fun k => cap_first.f k t n) ⟨(firstL t n).toArray⟩ := by
 obtain ⟨h1, h2, h3, h4⟩ := knownB_facts h
 have h10 := putL_ten (n := t.toNat) (by omega)
 have e1 := put_ev' [] t (by omega) (by omega) (by simp)
 have e2 := put_ev' ([] ++ putL t.toNat) n h3 (by omega) (by simp only [List.length_append, List.length_nil]; omega)
 simp only [cap_first.f]
 refine Ev.bind e1 ?_
 refine Ev.bind e2 ?_
 rw [← nums_mk]
 exact Ev.now _
theorem firstL_len {t n : Int} (h : knownB t n = true) : (firstL t n).length ≤ 20 := by
 obtain ⟨h1, h2, h3, h4⟩ := knownB_facts h
 have a := putL_ten (n := t.toNat) (by omega)
 have b := putL_ten (n := n.toNat) (by omega)
 simp only [firstL, List.length_append]; omega
theorem all_loop {α : Type} (l : List α) (P : α → Bool) (F : Nat → Int → Option Bool)
  (ht : ∀ i c cs, l.drop i = c :: cs → P c = true → ∀ r, Ev (fun k => F k ((i + 1 : Nat) : Int)) r → Ev (fun k => F k (i : Int)) r)
  (hf : ∀ i c cs, l.drop i = c :: cs → P c = false → Ev (fun k => F k (i : Int)) false)
  (he : Ev (fun k => F k ((l.length : Nat) : Int)) true) : ∀ (cs : List α) (i : Nat), l.drop i = cs → i ≤ l.length → Ev (fun k => F k (i : Int)) (cs.all P) := by
 intro cs
 induction cs with
 | nil =>
  intro i hd hi
  rw [drop_nil_len hd hi]
  exact he
 | cons c cs ih =>
  intro i hd hi
  have hlt : i < l.length := by
   rcases Nat.lt_or_ge i l.length with g | g
   ·exact g
   ·rw [List.drop_eq_nil_of_le g] at hd; cases hd
  have hd2 : l.drop (i + 1) = cs := by
   have := congrArg List.tail hd
   simpa [List.tail_drop] using this
  cases hc : P c
  ·rw [List.all_cons, hc]; exact hf i c cs hd hc
  ·rw [List.all_cons, hc]; exact ht i c cs hd hc _ (ih (i + 1) hd2 hlt)
theorem mayT_ev (t n : Int) (l : List SC) (s : ByteArray) : Ev (fun k => cap_May.j0 k true t n l s) false :=
 Ev.step (f := fun _ => some false) (fun k => by simp only [cap_May.j0]; rw [if_pos trivial]) (Ev.now false)
theorem mayL_ev (l : List SC) (hn : l.length < 1000000) : Ev (fun k => cap_May.l0 k l (l.length : Int) 0) (l.all goodC) := by
 refine all_loop l goodC (fun k i => cap_May.l0 k l (l.length : Int) i) (fun i c cs hd hc r hr => ?_) (fun i c cs hd hc => ?_) ?_ l 0 rfl (Nat.zero_le _)
 ·obtain ⟨h1, h2, h3⟩ := rd_drop l i c cs hd
  refine Ev.step (fun k => ?_) hr
  simp only [cap_May.l0]
  rw [if_pos (by omega), if_pos (by omega), if_pos (by omega), h1, cgood_is, Option.bind_some, if_pos hc, wrap_succ h3 (by omega)]
 ·obtain ⟨h1, h2, h3⟩ := rd_drop l i c cs hd
  refine Ev.step (f := fun _ => some false) (fun k => ?_) (Ev.now _)
  simp only [cap_May.l0]
  rw [if_pos (by omega), if_pos (by omega), if_pos (by omega), h1, cgood_is, Option.bind_some, if_neg (by rw [show goodC ⟨c.f0, c.f1, c.f2⟩ = false from hc]; simp)]
 ·refine Ev.step (f := fun _ => some true) (fun k => ?_) (Ev.now _)
  simp only [cap_May.l0]
  rw [if_neg (by omega)]
theorem may_ev (t n : Int) (l : List SC) (s : ByteArray) : Ev (fun k => cap_May.f k t n l s) (mayB t n l s) := by
 unfold mayB
 cases hk : knownB t n
 ·refine Ev.congr (fun k => ?_) (mayT_ev t n l s)
  simp only [cap_May.f, known_is, hk, Option.bind_some]
  rw [if_neg (by simp)]
 by_cases hl : l.length ≤ 8
 ·by_cases hs : s.size = 32
  ·rw [show decide (l.length ≤ 8) = true from decide_eq_true hl, show decide (s.size = 32) = true from decide_eq_true hs]
   refine Ev.congr (g := fun k => cap_May.f k t n l s) (fun k => ?_) (Ev.step (g := fun k => cap_May.j0 k false t n l s) (fun k => ?_) (mayL_ev l (by omega)))
   ·simp only [cap_May.f, known_is, hk, Option.bind_some]
    rw [if_pos trivial, if_neg (by omega), show ((s.size : Int) != 32) = false by simp [hs]]
   ·simp only [cap_May.j0]
    rw [if_neg (by simp)]
  ·rw [show decide (l.length ≤ 8) = true from decide_eq_true hl, show decide (s.size = 32) = false from decide_eq_false hs]
   refine Ev.congr (fun k => ?_) (mayT_ev t n l s)
   simp only [cap_May.f, known_is, hk, Option.bind_some]
   rw [if_pos trivial, if_neg (by omega), show ((s.size : Int) != 32) = true by simp; omega]
 ·rw [show decide (l.length ≤ 8) = false from decide_eq_false hl]
  refine Ev.congr (fun k => ?_) (mayT_ev t n l s)
  simp only [cap_May.f, known_is, hk, Option.bind_some]
  rw [if_pos trivial, if_pos (by omega)]
theorem mayB_facts {t n : Int} {l : List SC} {s : ByteArray} (h : mayB t n l s = true) : knownB t n = true ∧ l.length ≤ 8 ∧ s.size = 32 ∧ l.all goodC = true := by
 simp only [mayB, Bool.and_eq_true, decide_eq_true_eq] at h
 exact h
theorem drop_cons_facts {α : Type} {l : List α} {i : Nat} {c : α} {cs : List α} (h : l.drop i = c :: cs) : l[i]? = some c ∧ l.drop (i + 1) = cs ∧ i < l.length := by
 have hlt : i < l.length := by
  rcases Nat.lt_or_ge i l.length with g | g
  ·exact g
  ·rw [List.drop_eq_nil_of_le g] at h; cases h
 refine ⟨?_, ?_, hlt⟩
 ·have := congrArg List.head? h
  simpa [List.head?_drop] using this
 ·have := congrArg List.tail h
  simpa [List.tail_drop] using this
abbrev mkB (p : List UInt8) : ByteArray := ⟨p.toArray⟩
/-- a token's bytes -/
def encL (t n : Int) (l : List SC) (s : List UInt8) : List UInt8 := firstL t n ++ putL l.length ++ (l.flatMap capB ++ (putL s.length ++ s))
theorem encP_ev (l : List SC) (t n : Int) (s : List UInt8) (hs : s.length = 32) (hl : l.length ≤ 8) (hg : l.all goodC = true) : ∀ (cs : List SC) (i : Nat) (acc : List UInt8), l.drop i = cs → i ≤ l.length → acc.length + 100 * cs.length ≤ 100000 →
  Ev (fun k => cap_Encode.l0 k (acc.map I) l (l.length : Int) (i : Int) t n l ⟨s.toArray⟩) ((acc ++ (cs.flatMap capB ++ (putL s.length ++ s))).map I, 0) := by
 intro cs
 induction cs with
 | nil =>
  intro i acc hd hi ha
  have := drop_nil_len hd hi
  refine Ev.step (f := fun k => (num_PutText.f k (acc.map I) ⟨s.toArray⟩).bind fun x => some (x, 0)) (fun k => ?_) (Ev.bind (putText_ev acc s (by simp at ha; omega) (by omega)) ?_)
  ·simp only [cap_Encode.l0]
   rw [if_neg (by omega)]
  ·simp only [List.flatMap_nil, List.nil_append, List.append_assoc]
   exact Ev.now _
 | cons c cs ih =>
  intro i acc hd hi ha
  obtain ⟨h1, h2, h3⟩ := rd_drop l i c cs hd
  simp only [List.length_cons] at ha
  have hgc : goodC c = true := List.all_eq_true.1 hg c (List.mem_of_mem_drop (show c ∈ l.drop i by rw [hd]; exact List.mem_cons_self))
  have hc := capB_len hgc
  have next := ih (i + 1) (acc ++ capB c) h2 h3 (by rw [List.length_append]; omega)
  refine Ev.step (f := fun k => (cap_bytes.f k c.f0 c.f1 c.f2).bind fun x => if (acc.map I).length + x.length < 140737488355328 then cap_Encode.l0 k (acc.map I ++ x) l (l.length : Int) ((i + 1 : Nat) : Int) t n l ⟨s.toArray⟩ else none) (fun k => ?_) ?_
  ·simp only [cap_Encode.l0]
   rw [if_pos (by omega), if_pos (by omega), if_pos (by omega), h1, wrap_succ h3 (by omega)]
  refine Ev.bind (bytes_ev c hgc) (ifpos (by simp only [List.length_map]; omega) ?_)
  rw [← List.map_append]
  simpa [List.flatMap_cons, List.append_assoc] using next
theorem encode_ev (t n : Int) (l : List SC) (s : List UInt8) (hm : mayB t n l ⟨s.toArray⟩ = true) : Ev (fun k => cap_Encode.f k t n l ⟨s.toArray⟩) ((encL t n l s).map I, 0) := by
 obtain ⟨m1, m2, m3, m4⟩ := mayB_facts hm
 rw [mk_size] at m3
 have hf := firstL_len m1
 have hp := putL_ten (n := l.length) (by omega)
 simp only [cap_Encode.f]
 refine Ev.bind (may_ev t n l _) (ifpos hm (Ev.bind (first_ev t n m1) (ifpos (by rw [mk_size]; omega) ?_)))
 refine Ev.bind (put_ev' (firstL t n) (l.length : Int) (by omega) (by omega) (by omega)) ?_
 have := encP_ev l t n s m3 m2 m4 l 0 (firstL t n ++ putL (l.length : Int).toNat) rfl (by omega) (by rw [List.length_append, Int.toNat_natCast]; omega)
 simpa [encL] using this
theorem ite_ev {α : Type} {c : Prop} [Decidable c] {f g : Nat → Option α} {r : α} (h1 : c → Ev f r) (h2 : ¬ c → Ev g r) : Ev (fun n => if c then f n else g n) r := by
 by_cases h : c
 ·exact ifpos h (h1 h)
 ·exact ifneg h (h2 h)
theorem ite_now {α : Type} {f : Nat → Option α} {a b : α} {d : Prop} [Decidable d] (h1 : d → Ev f a) (h2 : ¬ d → Ev f b) : Ev f (if d then a else b) := by
 by_cases h : d
 ·rw [if_pos h]; exact h1 h
 ·rw [if_neg h]; exact h2 h
theorem toList_nil (s : ByteArray) : (s.toList = ([] : List UInt8)) ↔ s.size = 0 := by
 rw [toList_data, ← List.length_eq_zero_iff]; exact Iff.rfl
theorem within_is (a b c : Int) : frame_within.f a b c = some (decide (b ≤ a ∧ a ≤ c)) := by
 unfold frame_within.f
 by_cases h : a ≥ b
 ·rw [if_pos h]; congr 1; simp only [decide_eq_decide]; omega
 ·rw [if_neg h, decide_eq_false (by omega)]
theorem either_is (s : ByteArray) (n : Int) : frame_either.f s n = some (decide (s.size = 0 ∨ (s.size : Int) = n)) := by
 simp only [frame_either.f, toList_nil]
 by_cases h : s.size = 0
 ·rw [if_pos h, decide_eq_true (Or.inl h)]
 ·rw [if_neg h]; congr 1
  rw [Bool.eq_iff_iff, decide_eq_true_eq, beq_iff_eq]; omega
/-- may a sign, a span, an entry be -/
def signOk (x : S65) : Bool := decide (x.f1.size = 16)
def spanOk (x : S74) : Bool := decide (0 ≤ x.f0 ∧ x.f0 ≤ 128 ∧ 0 ≤ x.f1 ∧ x.f1 ≤ 128)
def entOk (x : S67) : Bool := decide (1 ≤ x.f0 ∧ x.f0 ≤ 2147483648 ∧ 0 ≤ x.f1 ∧ x.f1 ≤ 1099511627776 ∧ 0 ≤ x.f2 ∧ x.f2 ≤ 100 ∧ x.f3.size ≤ 32 ∧ 0 ≤ x.f4 ∧ x.f4 ≤ 100)
theorem ent_is (x : S67) : frame_entryFits.f x.f0 x.f1 x.f2 x.f3 x.f4 = some (entOk x) := by
 simp only [frame_entryFits.f, within_is, Option.bind_some, decide_eq_true_eq, entOk]
 repeat' split
 all_goals (congr 1; first | (simp only [decide_eq_decide]; omega) | (symm; exact decide_eq_false (by omega)))
theorem all_loopG {α β : Type} (l : List α) (P : α → Bool) (rt rf : β) (F : Nat → Int → Option β)
  (ht : ∀ i c cs, l.drop i = c :: cs → P c = true → ∀ r, Ev (fun k => F k ((i + 1 : Nat) : Int)) r → Ev (fun k => F k (i : Int)) r)
  (hf : ∀ i c cs, l.drop i = c :: cs → P c = false → Ev (fun k => F k (i : Int)) rf)
  (he : Ev (fun k => F k ((l.length : Nat) : Int)) rt) : ∀ (cs : List α) (i : Nat), l.drop i = cs → i ≤ l.length → Ev (fun k => F k (i : Int)) (if cs.all P = true then rt else rf) := by
 intro cs
 induction cs with
 | nil =>
  intro i hd hi
  rw [drop_nil_len hd hi]
  exact he
 | cons c cs ih =>
  intro i hd hi
  obtain ⟨_, hd2, hlt⟩ := drop_cons_facts hd
  cases hc : P c
  ·rw [List.all_cons, hc, Bool.false_and, if_neg (by simp)]; exact hf i c cs hd hc
  ·rw [List.all_cons, hc, Bool.true_and]; exact ht i c cs hd hc _ (ih (i + 1) hd2 hlt)
theorem rd65_at {l : List S65} {i : Nat} {c : S65} {cs : List S65} (h : l.drop i = c :: cs) : rd_T65 l (i : Int) = c := by
 simp [rd_T65, List.getD_eq_getElem?_getD, (drop_cons_facts h).1]
theorem rd74_at {l : List S74} {i : Nat} {c : S74} {cs : List S74} (h : l.drop i = c :: cs) : rd_T74 l (i : Int) = c := by
 simp [rd_T74, List.getD_eq_getElem?_getD, (drop_cons_facts h).1]
theorem rd67_at {l : List S67} {i : Nat} {c : S67} {cs : List S67} (h : l.drop i = c :: cs) : rd_T67 l (i : Int) = c := by
 simp [rd_T67, List.getD_eq_getElem?_getD, (drop_cons_facts h).1]
theorem rdS_at {l : List ByteArray} {i : Nat} {c : ByteArray} {cs : List ByteArray} (h : l.drop i = c :: cs) : rdOf ByteArray.empty l (i : Int) = c := by
 simp [rdOf, List.getD_eq_getElem?_getD, (drop_cons_facts h).1]
/-- may the lists of a reply be -/
def listsB (ps : List ByteArray) (sg : List S65) (sp : List S74) (es : List S67) (r : Bool) : Bool := if ps.all goodB = true then (if sg.all signOk = true then (if sp.all spanOk = true then (if es.all entOk = true then r else false) else false) else false) else false
section
variable (a0 a1 a2 : Int) (ps : List ByteArray) (d s : ByteArray) (sg : List S65) (sp : List S74) (nn : ByteArray) (es : List S67) (u al : Int)
theorem list3_ev (hl : es.length < 1000) : Ev (fun k => frame_listsFit.l3 k es (es.length : Int) 0) (if es.all entOk = true then true else false) := by
 refine all_loopG es entOk true false (fun k i => frame_listsFit.l3 k es (es.length : Int) i) (fun i c cs hd hc r hr => ?_) (fun i c cs hd hc => ?_) ?_ es 0 rfl (Nat.zero_le _)
 ·have hlt := (drop_cons_facts hd).2.2
  refine Ev.step (fun k => ?_) hr
  simp only [frame_listsFit.l3, rd67_at hd, ent_is, Option.bind_some]
  rw [if_pos (by omega), if_pos (by omega), if_pos (by omega), if_pos hc, wrap_succ hlt (by omega)]
 ·have hlt := (drop_cons_facts hd).2.2
  refine Ev.step (f := fun _ => some false) (fun k => ?_) (Ev.now _)
  simp only [frame_listsFit.l3, rd67_at hd, ent_is, Option.bind_some]
  rw [if_pos (by omega), if_pos (by omega), if_pos (by omega), if_neg (by simp [hc])]
 ·refine Ev.step (f := fun _ => some true) (fun k => ?_) (Ev.now _)
  simp only [frame_listsFit.l3]
  rw [if_neg (by omega)]
theorem list2_ev (hp : sp.length < 1000) (hl : es.length < 1000) : Ev (fun k => frame_listsFit.l2 k sp (sp.length : Int) 0 a0 a1 a2 ps d s sg sp nn es u al) (if sp.all spanOk = true then (if es.all entOk = true then true else false) else false) := by
 refine all_loopG sp spanOk _ false (fun k i => frame_listsFit.l2 k sp (sp.length : Int) i a0 a1 a2 ps d s sg sp nn es u al) (fun i c cs hd hc r hr => ?_) (fun i c cs hd hc => ?_) ?_ sp 0 rfl (Nat.zero_le _)
 ·have hlt := (drop_cons_facts hd).2.2
  refine Ev.step (fun k => ?_) hr
  simp only [spanOk, decide_eq_true_eq] at hc
  simp only [frame_listsFit.l2, rd74_at hd, within_is, Option.bind_some, decide_eq_true_eq]
  rw [if_pos (by omega), if_pos (by omega), if_pos (by omega), if_pos (by omega), if_pos (by omega), wrap_succ hlt (by omega)]
 ·have hlt := (drop_cons_facts hd).2.2
  refine Ev.step (f := fun _ => some false) (fun k => ?_) (Ev.now _)
  simp only [spanOk, decide_eq_false_iff_not] at hc
  simp only [frame_listsFit.l2, rd74_at hd, within_is, Option.bind_some, decide_eq_true_eq]
  rw [if_pos (by omega), if_pos (by omega), if_pos (by omega)]
  by_cases h : 0 ≤ c.f0 ∧ c.f0 ≤ 128
  ·rw [if_pos h, if_neg (by omega)]
  ·rw [if_neg h]
 ·refine Ev.step (fun k => ?_) (list3_ev es hl)
  simp only [frame_listsFit.l2]
  rw [if_neg (by omega)]
theorem list1_ev (hg : sg.length < 10000) (hp : sp.length < 1000) (hl : es.length < 1000) : Ev (fun k => frame_listsFit.l1 k sg (sg.length : Int) 0 a0 a1 a2 ps d s sg sp nn es u al) (if sg.all signOk = true then (if sp.all spanOk = true then (if es.all entOk = true then true else false) else false) else false) := by
 refine all_loopG sg signOk _ false (fun k i => frame_listsFit.l1 k sg (sg.length : Int) i a0 a1 a2 ps d s sg sp nn es u al) (fun i c cs hd hc r hr => ?_) (fun i c cs hd hc => ?_) ?_ sg 0 rfl (Nat.zero_le _)
 ·have hlt := (drop_cons_facts hd).2.2
  refine Ev.step (fun k => ?_) hr
  simp only [signOk, decide_eq_true_eq] at hc
  simp only [frame_listsFit.l1, rd65_at hd]
  rw [if_pos (by omega), if_pos (by omega), if_pos (by omega), if_pos (by omega), wrap_succ hlt (by omega)]
 ·have hlt := (drop_cons_facts hd).2.2
  refine Ev.step (f := fun _ => some false) (fun k => ?_) (Ev.now _)
  simp only [signOk, decide_eq_false_iff_not] at hc
  simp only [frame_listsFit.l1, rd65_at hd]
  rw [if_pos (by omega), if_pos (by omega), if_pos (by omega), if_neg (by omega)]
 ·refine Ev.step (fun k => ?_) (list2_ev a0 a1 a2 ps d s sg sp nn es u al hp hl)
  simp only [frame_listsFit.l1]
  rw [if_neg (by omega)]
theorem list0_ev (hs : ps.length < 1000) (hg : sg.length < 10000) (hp : sp.length < 1000) (hl : es.length < 1000) : Ev (fun k => frame_listsFit.l0 k ps (ps.length : Int) 0 a0 a1 a2 ps d s sg sp nn es u al) (listsB ps sg sp es true) := by
 refine all_loopG ps goodB _ false (fun k i => frame_listsFit.l0 k ps (ps.length : Int) i a0 a1 a2 ps d s sg sp nn es u al) (fun i c cs hd hc r hr => ?_) (fun i c cs hd hc => ?_) ?_ ps 0 rfl (Nat.zero_le _)
 ·have hlt := (drop_cons_facts hd).2.2
  refine Ev.step (fun k => ?_) hr
  simp only [frame_listsFit.l0, rdS_at hd, path_Good.f, Option.bind_some]
  rw [if_pos (by omega), if_pos (by omega), if_pos (by omega), if_pos hc, wrap_succ hlt (by omega)]
 ·have hlt := (drop_cons_facts hd).2.2
  refine Ev.step (f := fun _ => some false) (fun k => ?_) (Ev.now _)
  simp only [frame_listsFit.l0, rdS_at hd, path_Good.f, Option.bind_some]
  rw [if_pos (by omega), if_pos (by omega), if_pos (by omega), if_neg (by simp [hc])]
 ·refine Ev.step (fun k => ?_) (list1_ev a0 a1 a2 ps d s sg sp nn es u al hg hp hl)
  simp only [frame_listsFit.l0]
  rw [if_neg (by omega)]
/-- are the numbers, the short texts and the lengths within what they may be -/
def headP : Prop := (0 ≤ a0 ∧ a0 ≤ 3 ∧ 0 ≤ a1 ∧ a1 ≤ 2147483648 ∧ 0 ≤ a2 ∧ a2 ≤ 100) ∧ (ps.length ≤ 64 ∧ d.size ≤ 1024 ∧ (s.size = 0 ∨ s.size = 32) ∧ sg.length ≤ 1024 ∧ sp.length ≤ 4 ∧ (nn.size = 0 ∨ nn.size = 12) ∧ es.length ≤ 8)
def lastP : Prop := 0 ≤ u ∧ u ≤ 2097152 ∧ 0 ≤ al ∧ al ≤ 2097152
instance : Decidable (headP a0 a1 a2 ps d s sg sp nn es) := by unfold headP; infer_instance
instance : Decidable (lastP u al) := by unfold lastP; infer_instance
/-- may a reply be -/
def fitsB : Bool := if headP a0 a1 a2 ps d s sg sp nn es then listsB ps sg sp es (decide (lastP u al)) else false
theorem listsB_false : listsB ps sg sp es false = false := by
 unfold listsB; repeat' split
 all_goals rfl
theorem listsFit_ev (hs : ps.length < 1000) (hg : sg.length < 10000) (hp : sp.length < 1000) (hl : es.length < 1000) : Ev (fun k => frame_listsFit.f k a0 a1 a2 ps d s sg sp nn es u al) (if ps.length ≤ 64 ∧ sg.length ≤ 1024 ∧ sp.length ≤ 4 ∧ es.length ≤ 8 then listsB ps sg sp es true else false) := by
 have hj : ∀ b : Bool, (b = true ↔ ¬ (ps.length ≤ 64 ∧ sg.length ≤ 1024 ∧ sp.length ≤ 4 ∧ es.length ≤ 8)) → Ev (fun k => frame_listsFit.j0 k b a0 a1 a2 ps d s sg sp nn es u al) (if ps.length ≤ 64 ∧ sg.length ≤ 1024 ∧ sp.length ≤ 4 ∧ es.length ≤ 8 then listsB ps sg sp es true else false) := by
  intro b hb
  refine ite_now (fun h => ?_) (fun h => ?_)
  ·refine Ev.step (fun k => ?_) (list0_ev a0 a1 a2 ps d s sg sp nn es u al hs hg hp hl)
   simp only [frame_listsFit.j0]
   rw [if_neg (by rw [hb]; exact fun h' => h' h)]
  ·refine Ev.step (f := fun _ => some false) (fun k => ?_) (Ev.now _)
   simp only [frame_listsFit.j0]
   rw [if_pos (hb.2 h)]
 simp only [frame_listsFit.f]
 repeat' refine ite_ev (fun _ => ?_) (fun _ => ?_)
 all_goals (refine hj _ ?_; first | (simp only [decide_eq_true_eq]; omega) | (simp only [true_iff]; omega))
theorem fits_ev (hs : ps.length < 1000) (hg : sg.length < 10000) (hp : sp.length < 1000) (hl : es.length < 1000) : Ev (fun k => frame_Fits.f k a0 a1 a2 ps d s sg sp nn es u al) (fitsB a0 a1 a2 ps d s sg sp nn es u al) := by
 simp only [frame_Fits.f, within_is, either_is, Option.bind_some, decide_eq_true_eq, fitsB]
 refine ite_now (fun h => ?_) (fun h => ?_)
 ·simp only [headP] at h
  refine ifpos (by omega) (ifpos (by omega) (ifpos (by omega) (ifpos (by omega) (ifpos (by omega) (ifpos (by omega) ?_)))))
  by_cases hla : lastP u al
  ·rw [decide_eq_true hla]
   simp only [lastP] at hla
   refine ifpos (by omega) (ifpos (by omega) (Ev.bind (listsFit_ev a0 a1 a2 ps d s sg sp nn es u al hs hg hp hl) ?_))
   rw [if_pos (by omega)]
   exact Ev.now _
  ·rw [decide_eq_false hla, listsB_false]
   simp only [lastP] at hla
   refine ite_ev (fun _ => ite_ev (fun _ => ?_) (fun _ => Ev.now _)) (fun _ => Ev.now _)
   omega
 ·simp only [headP] at h
  repeat' refine ite_ev (fun _ => ?_) (fun _ => ?_)
  all_goals first | exact Ev.now _ | skip
  refine Ev.bind (listsFit_ev a0 a1 a2 ps d s sg sp nn es u al hs hg hp hl) ?_
  rw [if_neg (by omega)]
  exact Ev.now _
end
/-- the bytes of a text, a sign, a span, an entry -/
def textL (s : ByteArray) : List UInt8 := putL s.size ++ s.data.toList
def signL (x : S65) : List UInt8 := putL x.f0.toNat ++ textL x.f1
def spanL (x : S74) : List UInt8 := putL x.f0.toNat ++ putL x.f1.toNat
def entL (x : S67) : List UInt8 := putL x.f0.toNat ++ (putL x.f1.toNat ++ (putL x.f2.toNat ++ (textL x.f3 ++ putL x.f4.toNat)))
def signP (x : S65) : Prop := x.f1.size = 16 ∧ 0 ≤ x.f0 ∧ x.f0 < 4294967296
def spanP (x : S74) : Prop := 0 ≤ x.f0 ∧ x.f0 ≤ 128 ∧ 0 ≤ x.f1 ∧ x.f1 ≤ 128
def entP (x : S67) : Prop := 1 ≤ x.f0 ∧ x.f0 ≤ 2147483648 ∧ 0 ≤ x.f1 ∧ x.f1 ≤ 1099511627776 ∧ 0 ≤ x.f2 ∧ x.f2 ≤ 100 ∧ x.f3.size ≤ 32 ∧ 0 ≤ x.f4 ∧ x.f4 ≤ 100
def pathP (x : ByteArray) : Prop := x.size ≤ 32
theorem dlen (s : ByteArray) : s.data.toList.length = s.size := rfl
theorem putL_one {n : Nat} (h : n < 128) : (putL n).length = 1 := by rw [putL_small h]; rfl
theorem textL_len {s : ByteArray} (h : s.size < 18446744073709551616) : (textL s).length ≤ s.size + 10 := by
 have := putL_ten h
 simp only [textL, List.length_append, dlen]; omega
theorem path_len {x : ByteArray} (h : pathP x) : (textL x).length ≤ 42 := by
 have := textL_len (s := x) (by unfold pathP at h; omega)
 unfold pathP at h; omega
theorem sign_len {x : S65} (h : signP x) : (signL x).length ≤ 22 := by
 obtain ⟨h1, h2, h3⟩ := h
 have e5 : (128 : Nat) ^ (4 + 1) = 34359738368 := by decide
 have h4 := putL_len 4 x.f0.toNat (by omega)
 have h5 := putL_one (n := x.f1.size) (by omega)
 simp only [signL, textL, List.length_append, dlen]; omega
theorem span_len {x : S74} (h : spanP x) : (spanL x).length ≤ 20 := by
 obtain ⟨h1, h2, h3, h4⟩ := h
 have h5 := putL_ten (n := x.f0.toNat) (by omega)
 have h6 := putL_ten (n := x.f1.toNat) (by omega)
 simp only [spanL, List.length_append]; omega
theorem ent_len {x : S67} (h : entP x) : (entL x).length ≤ 82 := by
 obtain ⟨h1, h2, h3, h4, h5, h6, h7, h8, h9⟩ := h
 have g1 := putL_ten (n := x.f0.toNat) (by omega)
 have g2 := putL_ten (n := x.f1.toNat) (by omega)
 have g3 := putL_ten (n := x.f2.toNat) (by omega)
 have g4 := putL_ten (n := x.f4.toNat) (by omega)
 have g5 := textL_len (s := x.f3) (by omega)
 simp only [entL, List.length_append]; omega
theorem flat_len {α : Type} (f : α → List UInt8) (c : Nat) : ∀ l : List α, (∀ x ∈ l, (f x).length ≤ c) → (l.flatMap f).length ≤ c * l.length
 | [], _ => by simp
 | x :: l, h => by
  have h1 := h x (by simp)
  have h2 := flat_len f c l (fun y hy => h y (by simp [hy]))
  rw [List.flatMap_cons, List.length_append, List.length_cons, Nat.mul_add]; omega
theorem app_loop {α β : Type} (l : List α) (f : α → List UInt8) (ok : α → Prop) (M : Nat) (F : Nat → List UInt8 → Int → Option β) (G : List UInt8 → β)
  (hs : ∀ i x cs acc, l.drop i = x :: cs → ok x → acc.length < M → ∀ r, Ev (fun k => F k (acc ++ f x) ((i + 1 : Nat) : Int)) r → Ev (fun k => F k acc (i : Int)) r)
  (he : ∀ acc, acc.length < M → Ev (fun k => F k acc ((l.length : Nat) : Int)) (G acc)) :
  ∀ (cs : List α) (i : Nat) (acc : List UInt8), l.drop i = cs → i ≤ l.length → (∀ x ∈ cs, ok x ∧ (f x).length ≤ 100) → acc.length + 100 * cs.length < M → Ev (fun k => F k acc (i : Int)) (G (acc ++ cs.flatMap f)) := by
 intro cs
 induction cs with
 | nil =>
  intro i acc hd hi hx hl
  rw [drop_nil_len hd hi, List.flatMap_nil, List.append_nil]
  exact he acc (by omega)
 | cons c cs ih =>
  intro i acc hd hi hx hl
  obtain ⟨_, hd2, hlt⟩ := drop_cons_facts hd
  obtain ⟨h1, h2⟩ := hx c (by simp)
  rw [List.length_cons] at hl
  have := ih (i + 1) (acc ++ f c) hd2 hlt (fun x hx' => hx x (by simp [hx'])) (by rw [List.length_append]; omega)
  rw [List.append_assoc] at this
  exact hs i c cs acc hd h1 (by omega) _ this
theorem rdI_at {l : List Int} {i : Nat} {c : Int} {cs : List Int} (h : l.drop i = c :: cs) : rd l (i : Int) = c := by
 simp [rd, List.getD_eq_getElem?_getD, (drop_cons_facts h).1]
theorem u64_int {n : Int} (h0 : 0 ≤ n) (h1 : n < 18446744073709551616) : IntKind.u64.wrap n = ((n.toNat : Nat) : Int) := by
 have := u64_nat (n := n.toNat) (by omega)
 rw [show ((n.toNat : Nat) : Int) = n by omega] at this ⊢
 exact this
theorem fput_ev (ns : List Int) (hl : ns.length < 100) (hn : ∀ n ∈ ns, 0 ≤ n ∧ n < 18446744073709551616) (acc : List UInt8) (h : acc.length < 100000000) : Ev (fun k => frame_put.f k (acc.map I) ns) ((acc ++ ns.flatMap fun n => putL n.toNat).map I) := by
 refine app_loop ns (fun n => putL n.toNat) (fun n => 0 ≤ n ∧ n < 18446744073709551616) 1000000000 (fun k acc i => frame_put.l0 k (acc.map I) ns (ns.length : Int) i) (fun acc => acc.map I) (fun i x cs acc hd hx ha r hr => ?_) (fun acc ha => ?_) ns 0 acc rfl (Nat.zero_le _) (fun n hm => ⟨hn n hm, ?_⟩) (by omega)
 ·have hlt := (drop_cons_facts hd).2.2
  have h10 := putL_ten (n := x.toNat) (by omega)
  refine Ev.step (f := fun k => (num_Put.f k (acc.map I) ((x.toNat : Nat) : Int)).bind fun t => frame_put.l0 k t ns (ns.length : Int) ((i + 1 : Nat) : Int)) (fun k => ?_) (Ev.bind (put_ev acc x.toNat (by omega)) hr)
  simp only [frame_put.l0, rdI_at hd]
  rw [if_pos (by omega), if_pos (by omega), if_pos (by omega), u64_int hx.1 hx.2, wrap_succ hlt (by omega)]
 ·refine Ev.step (f := fun _ => some (acc.map I)) (fun k => ?_) (Ev.now _)
  simp only [frame_put.l0]
  rw [if_neg (by omega)]
 ·have := hn n hm
  have h10 := putL_ten (n := n.toNat) (by omega)
  show (putL n.toNat).length ≤ 100
  omega
theorem ptext_ev (s : ByteArray) (acc : List UInt8) (h : acc.length < 100000000) (hs : s.size < 100000000) : Ev (fun k => num_PutText.f k (acc.map I) s) ((acc ++ textL s).map I) := by
 have := putText_ev acc s.data.toList (by rw [dlen]; omega) (by rw [dlen]; omega)
 rw [List.append_assoc] at this
 exact this
theorem plist_ev (ps : List ByteArray) (hp : ∀ p ∈ ps, pathP p) (hl : ps.length < 1000) (acc : List UInt8) (h : acc.length < 1000000) : Ev (fun k => num_PutList.f k (acc.map I) ps) ((acc ++ (putL ps.length ++ ps.flatMap textL)).map I) := by
 have h10 := putL_ten (n := ps.length) (by omega)
 simp only [num_PutList.f, own_is _ (show (acc.map I).length < 140737488355328 by simp; omega), Option.bind_some, num_lay.f]
 rw [show IntKind.u64.wrap (ps.length : Int) = ((ps.length : Nat) : Int) from u64_nat (by omega)]
 refine Ev.bind (lay_ev ps.length acc (by omega)) ?_
 rw [← List.append_assoc]
 refine app_loop ps textL pathP 10000000 (fun k acc i => num_PutList.l0 k (acc.map I) ps (ps.length : Int) i) (fun acc => acc.map I) (fun i x cs acc hd hx ha r hr => ?_) (fun acc ha => ?_) ps 0 (acc ++ putL ps.length) rfl (Nat.zero_le _) (fun x hx => ⟨hp x hx, Nat.le_trans (path_len (hp x hx)) (by decide)⟩) (by rw [List.length_append]; omega)
 ·have hlt := (drop_cons_facts hd).2.2
  have hx' := hx
  unfold pathP at hx'
  have h11 := putL_ten (n := x.size) (by omega)
  refine Ev.step (f := fun k => (num_lay.l0 k (acc.map I) ((x.size : Nat) : Int)).bind fun t => if t.length + x.size < 140737488355328 then num_PutList.l0 k (t ++ bytesOf x) ps (ps.length : Int) ((i + 1 : Nat) : Int) else none) (fun k => ?_) (Ev.bind (lay_ev x.size acc (by omega)) ?_)
  ·simp only [num_PutList.l0, rdS_at hd, num_lay.f]
   rw [if_pos (by omega), if_pos (by omega), if_pos (by omega), show IntKind.u64.wrap (x.size : Int) = ((x.size : Nat) : Int) from u64_nat (by omega), wrap_succ hlt (by omega)]
  ·refine ifpos (by rw [List.length_map, List.length_append]; omega) ?_
   rw [show (acc ++ putL x.size).map I ++ bytesOf x = (acc ++ textL x).map I by
    rw [textL, show bytesOf x = x.data.toList.map I from bytes_mk x.data.toList, ← List.map_append, List.append_assoc]]
   exact hr
 ·refine Ev.step (f := fun _ => some (acc.map I)) (fun k => ?_) (Ev.now _)
  simp only [num_PutList.l0]
  rw [if_neg (by omega)]
section
variable (a0 a1 a2 : Int) (ps : List ByteArray) (d s : ByteArray) (sg : List S65) (sp : List S74) (nn : ByteArray) (es : List S67) (u al : Int)
/-- the bytes behind the entries, the spans, the signs -/
def tail2 (u al : Int) : List UInt8 := putL u.toNat ++ putL al.toNat
def tail1 : List UInt8 := textL nn ++ (putL es.length ++ (es.flatMap entL ++ tail2 u al))
def tail0 : List UInt8 := putL sp.length ++ (sp.flatMap spanL ++ tail1 nn es u al)
/-- a reply's bytes -/
def replyL : List UInt8 := 2 :: (putL a0.toNat ++ (putL a1.toNat ++ (putL a2.toNat ++ (putL ps.length ++ (ps.flatMap textL ++ (textL d ++ (textL s ++ (putL sg.length ++ (sg.flatMap signL ++ tail0 sp nn es u al)))))))))
/-- what a reply that may be has -/
structure FitP : Prop where
 h0 : 0 ≤ a0 ∧ a0 ≤ 3
 h1 : 0 ≤ a1 ∧ a1 ≤ 2147483648
 h2 : 0 ≤ a2 ∧ a2 ≤ 100
 p : ps.length ≤ 64 ∧ ∀ x ∈ ps, pathP x
 d : d.size ≤ 1024
 s : s.size = 0 ∨ s.size = 32
 g : sg.length ≤ 1024 ∧ ∀ x ∈ sg, signP x
 n : sp.length ≤ 4 ∧ ∀ x ∈ sp, spanP x
 o : nn.size = 0 ∨ nn.size = 12
 e : es.length ≤ 8 ∧ ∀ x ∈ es, entP x
 u : 0 ≤ u ∧ u ≤ 2097152
 a : 0 ≤ al ∧ al ≤ 2097152
theorem reply2_ev (H : FitP a0 a1 a2 ps d s sg sp nn es u al) (acc : List UInt8) (h : acc.length < 4000000) : Ev (fun k => frame_Reply.l2 k (acc.map I) es (es.length : Int) 0 a0 a1 a2 ps d s sg sp nn es u al) ((acc ++ (es.flatMap entL ++ tail2 u al)).map I, 0) := by
 have he := H.e
 rw [← List.append_assoc]
 refine app_loop es entL entP 5000000 (fun k acc i => frame_Reply.l2 k (acc.map I) es (es.length : Int) i a0 a1 a2 ps d s sg sp nn es u al) (fun acc => ((acc ++ tail2 u al).map I, 0)) (fun i x cs acc hd hx ha r hr => ?_) (fun acc ha => ?_) es 0 acc rfl (Nat.zero_le _) (fun x hx => ⟨he.2 x hx, Nat.le_trans (ent_len (he.2 x hx)) (by decide)⟩) (by omega)
 ·have hlt := (drop_cons_facts hd).2.2
  have g5 := textL_len (s := x.f3) (by have := hx.2.2.2.2.2.2.1; omega)
  obtain ⟨h1, h2, h3, h4, h5, h6, h7, h8, h9⟩ := hx
  have g1 := putL_ten (n := x.f0.toNat) (by omega)
  have g2 := putL_ten (n := x.f1.toNat) (by omega)
  have g3 := putL_ten (n := x.f2.toNat) (by omega)
  have e1 := fput_ev [x.f0, x.f1, x.f2] (by simp) (by simp; omega) acc (by omega)
  have e2 := ptext_ev x.f3 (acc ++ [x.f0, x.f1, x.f2].flatMap fun n => putL n.toNat) (by simp [List.flatMap_cons]; omega) (by omega)
  have e3 := fput_ev [x.f4] (by simp) (by simp; omega) (acc ++ ([x.f0, x.f1, x.f2].flatMap fun n => putL n.toNat) ++ textL x.f3) (by simp [List.flatMap_cons]; omega)
  have ee : acc ++ ([x.f0, x.f1, x.f2].flatMap fun n => putL n.toNat) ++ textL x.f3 ++ ([x.f4].flatMap fun n => putL n.toNat) = acc ++ entL x := by simp [List.flatMap_cons, entL]
  rw [ee] at e3
  refine Ev.step (f := fun k => (frame_put.f k (acc.map I) [x.f0, x.f1, x.f2]).bind fun t => (num_PutText.f k t x.f3).bind fun t2 => (frame_put.f k t2 [x.f4]).bind fun t3 => frame_Reply.l2 k t3 es (es.length : Int) ((i + 1 : Nat) : Int) a0 a1 a2 ps d s sg sp nn es u al) (fun k => ?_) (Ev.bind e1 (Ev.bind e2 (Ev.bind e3 hr)))
  simp only [frame_Reply.l2, rd67_at hd]
  rw [if_pos (by omega), if_pos (by omega), if_pos (by omega), wrap_succ hlt (by omega)]
 ·have hu := H.u
  have ha2 := H.a
  have e1 := fput_ev [u, al] (by simp) (by simp; omega) acc (by omega)
  refine Ev.step (f := fun k => (frame_put.f k (acc.map I) [u, al]).bind fun t => some (t, 0)) (fun k => ?_) (Ev.bind e1 ?_)
  ·simp only [frame_Reply.l2]
   rw [if_neg (by omega)]
  ·rw [show (acc ++ [u, al].flatMap fun n => putL n.toNat) = acc ++ tail2 u al by simp [List.flatMap_cons, tail2]]
   exact Ev.now _
theorem reply1_ev (H : FitP a0 a1 a2 ps d s sg sp nn es u al) (acc : List UInt8) (h : acc.length < 3000000) : Ev (fun k => frame_Reply.l1 k (acc.map I) sp (sp.length : Int) 0 a0 a1 a2 ps d s sg sp nn es u al) ((acc ++ (sp.flatMap spanL ++ tail1 nn es u al)).map I, 0) := by
 have he := H.n
 rw [← List.append_assoc]
 refine app_loop sp spanL spanP 3900000 (fun k acc i => frame_Reply.l1 k (acc.map I) sp (sp.length : Int) i a0 a1 a2 ps d s sg sp nn es u al) (fun acc => ((acc ++ tail1 nn es u al).map I, 0)) (fun i x cs acc hd hx ha r hr => ?_) (fun acc ha => ?_) sp 0 acc rfl (Nat.zero_le _) (fun x hx => ⟨he.2 x hx, Nat.le_trans (span_len (he.2 x hx)) (by decide)⟩) (by omega)
 ·have hlt := (drop_cons_facts hd).2.2
  obtain ⟨h1, h2, h3, h4⟩ := hx
  have e1 := fput_ev [x.f0, x.f1] (by simp) (by simp; omega) acc (by omega)
  rw [show (acc ++ [x.f0, x.f1].flatMap fun n => putL n.toNat) = acc ++ spanL x by simp [List.flatMap_cons, spanL]] at e1
  refine Ev.step (f := fun k => (frame_put.f k (acc.map I) [x.f0, x.f1]).bind fun t => frame_Reply.l1 k t sp (sp.length : Int) ((i + 1 : Nat) : Int) a0 a1 a2 ps d s sg sp nn es u al) (fun k => ?_) (Ev.bind e1 hr)
  simp only [frame_Reply.l1, rd74_at hd]
  rw [if_pos (by omega), if_pos (by omega), if_pos (by omega), wrap_succ hlt (by omega)]
 ·have ho := H.o
  have hh := H.e
  have g1 := textL_len (s := nn) (by omega)
  have g2 := putL_ten (n := es.length) (by omega)
  have e1 := ptext_ev nn acc (by omega) (by omega)
  have e2 := fput_ev [(es.length : Int)] (by simp) (by simp; omega) (acc ++ textL nn) (by rw [List.length_append]; omega)
  rw [show (acc ++ textL nn ++ [(es.length : Int)].flatMap fun n => putL n.toNat) = acc ++ textL nn ++ putL es.length by simp [List.flatMap_cons]] at e2
  have e3 := reply2_ev a0 a1 a2 ps d s sg sp nn es u al H (acc ++ textL nn ++ putL es.length) (by simp; omega)
  rw [show acc ++ textL nn ++ putL es.length ++ (es.flatMap entL ++ tail2 u al) = acc ++ tail1 nn es u al by simp [tail1]] at e3
  refine Ev.step (f := fun k => (num_PutText.f k (acc.map I) nn).bind fun t => (frame_put.f k t [(es.length : Int)]).bind fun t2 => frame_Reply.l2 k t2 es (es.length : Int) 0 a0 a1 a2 ps d s sg sp nn es u al) (fun k => ?_) (Ev.bind e1 (Ev.bind e2 e3))
  simp only [frame_Reply.l1]
  rw [if_neg (by omega)]
theorem reply0_ev (H : FitP a0 a1 a2 ps d s sg sp nn es u al) (acc : List UInt8) (h : acc.length < 2000000) : Ev (fun k => frame_Reply.l0 k (acc.map I) sg (sg.length : Int) 0 a0 a1 a2 ps d s sg sp nn es u al) ((acc ++ (sg.flatMap signL ++ tail0 sp nn es u al)).map I, 0) := by
 have he := H.g
 rw [← List.append_assoc]
 refine app_loop sg signL signP 2900000 (fun k acc i => frame_Reply.l0 k (acc.map I) sg (sg.length : Int) i a0 a1 a2 ps d s sg sp nn es u al) (fun acc => ((acc ++ tail0 sp nn es u al).map I, 0)) (fun i x cs acc hd hx ha r hr => ?_) (fun acc ha => ?_) sg 0 acc rfl (Nat.zero_le _) (fun x hx => ⟨he.2 x hx, Nat.le_trans (sign_len (he.2 x hx)) (by decide)⟩) (by omega)
 ·have hlt := (drop_cons_facts hd).2.2
  obtain ⟨h1, h2, h3⟩ := hx
  have g1 := putL_ten (n := x.f0.toNat) (by omega)
  have e1 := put_ev acc x.f0.toNat (by omega)
  have e2 := ptext_ev x.f1 (acc ++ putL x.f0.toNat) (by rw [List.length_append]; omega) (by omega)
  rw [show acc ++ putL x.f0.toNat ++ textL x.f1 = acc ++ signL x by simp [signL]] at e2
  refine Ev.step (f := fun k => (num_Put.f k (acc.map I) ((x.f0.toNat : Nat) : Int)).bind fun t => (num_PutText.f k t x.f1).bind fun t2 => frame_Reply.l0 k t2 sg (sg.length : Int) ((i + 1 : Nat) : Int) a0 a1 a2 ps d s sg sp nn es u al) (fun k => ?_) (Ev.bind e1 (Ev.bind e2 hr))
  simp only [frame_Reply.l0, rd65_at hd]
  rw [if_pos (by omega), if_pos (by omega), if_pos (by omega), u64_int h2 (by omega), wrap_succ hlt (by omega)]
 ·have hh := H.n
  have g2 := putL_ten (n := sp.length) (by omega)
  have e2 := fput_ev [(sp.length : Int)] (by simp) (by simp; omega) acc (by omega)
  rw [show (acc ++ [(sp.length : Int)].flatMap fun n => putL n.toNat) = acc ++ putL sp.length by simp [List.flatMap_cons]] at e2
  have e3 := reply1_ev a0 a1 a2 ps d s sg sp nn es u al H (acc ++ putL sp.length) (by simp; omega)
  rw [show acc ++ putL sp.length ++ (sp.flatMap spanL ++ tail1 nn es u al) = acc ++ tail0 sp nn es u al by simp [tail0]] at e3
  refine Ev.step (f := fun k => (frame_put.f k (acc.map I) [(sp.length : Int)]).bind fun t => frame_Reply.l1 k t sp (sp.length : Int) 0 a0 a1 a2 ps d s sg sp nn es u al) (fun k => ?_) (Ev.bind e2 e3)
  simp only [frame_Reply.l0]
  rw [if_neg (by omega)]
theorem paths_len (H : FitP a0 a1 a2 ps d s sg sp nn es u al) : (ps.flatMap textL).length ≤ 42 * 64 := by
 have h1 := flat_len textL 42 ps (fun x hx => path_len (H.p.2 x hx))
 have := H.p.1
 omega
theorem reply_ev (H : FitP a0 a1 a2 ps d s sg sp nn es u al) (hf : Ev (fun k => frame_Fits.f k a0 a1 a2 ps d s sg sp nn es u al) true) : Ev (fun k => frame_Reply.f k a0 a1 a2 ps d s sg sp nn es u al) ((replyL a0 a1 a2 ps d s sg sp nn es u al).map I, 0) := by
 have h0 := H.h0
 have h1 := H.h1
 have h2 := H.h2
 have hd := H.d
 have hs := H.s
 have hg := H.g.1
 have hp := H.p.1
 have gp := paths_len a0 a1 a2 ps d s sg sp nn es u al H
 have g0 := putL_ten (n := a0.toNat) (by omega)
 have g1 := putL_ten (n := a1.toNat) (by omega)
 have g2 := putL_ten (n := a2.toNat) (by omega)
 have g3 := putL_ten (n := ps.length) (by omega)
 have g4 := textL_len (s := d) (by omega)
 have g5 := textL_len (s := s) (by omega)
 have g6 := putL_ten (n := sg.length) (by omega)
 have e1 := fput_ev [a0, a1, a2] (by simp) (by simp; omega) [2] (by simp)
 rw [show ([2] ++ [a0, a1, a2].flatMap fun n => putL n.toNat) = [2] ++ (putL a0.toNat ++ (putL a1.toNat ++ putL a2.toNat)) by simp [List.flatMap_cons]] at e1
 have e2 := plist_ev ps H.p.2 (by omega) ([2] ++ (putL a0.toNat ++ (putL a1.toNat ++ putL a2.toNat))) (by simp; omega)
 generalize hA : [2] ++ (putL a0.toNat ++ (putL a1.toNat ++ putL a2.toNat)) = A at e1 e2
 have hAl : A.length < 100 := by rw [← hA]; simp; omega
 have e3 := ptext_ev d (A ++ (putL ps.length ++ ps.flatMap textL)) (by simp only [List.length_append]; omega) (by omega)
 have e4 := ptext_ev s (A ++ (putL ps.length ++ ps.flatMap textL) ++ textL d) (by simp only [List.length_append]; omega) (by omega)
 have e5 := fput_ev [(sg.length : Int)] (by simp) (by simp; omega) (A ++ (putL ps.length ++ ps.flatMap textL) ++ textL d ++ textL s) (by simp only [List.length_append]; omega)
 rw [show ([(sg.length : Int)].flatMap fun n => putL n.toNat) = putL sg.length by simp [List.flatMap_cons]] at e5
 have e6 := reply0_ev a0 a1 a2 ps d s sg sp nn es u al H (A ++ (putL ps.length ++ ps.flatMap textL) ++ textL d ++ textL s ++ putL sg.length) (by simp only [List.length_append]; omega)
 rw [show A ++ (putL ps.length ++ ps.flatMap textL) ++ textL d ++ textL s ++ putL sg.length ++ (sg.flatMap signL ++ tail0 sp nn es u al) = replyL a0 a1 a2 ps d s sg sp nn es u al by rw [← hA]; simp [replyL]] at e6
 simp only [frame_Reply.f]
 exact Ev.bind hf (ifpos rfl (Ev.bind e1 (Ev.bind e2 (Ev.bind e3 (Ev.bind e4 (Ev.bind e5 e6))))))
end
/-- a number at a place: what it is and what place is behind it, or what is amiss -/
def getR (pl : Nat) : Nat → Nat → Nat → List UInt8 → Int × Int × Int
 | 0, _, _, _ => (0, 0, 4)
 | _ + 1, _, _, [] => (0, 0, 3)
 | f + 1, acc, i, x :: t => if x.toNat < 128 then (if (x.toNat = 0 ∧ 0 < i) ∨ (i = 9 ∧ 1 < x.toNat) then (0, 0, 4) else (((acc + x.toNat * 128 ^ i : Nat) : Int), ((pl + i + 1 : Nat) : Int), 0)) else getR pl f (acc + x.toNat % 128 * 128 ^ i) (i + 1) t
def getB (b : List UInt8) (pl : Int) : Int × Int × Int := if pl < 0 ∨ pl > (b.length : Int) then (0, 0, 9) else getR pl.toNat 10 0 0 (b.drop pl.toNat)
theorem pow_le9 {i : Nat} (h : i ≤ 9) : 128 ^ i ≤ 9223372036854775808 := Nat.le_trans (Nat.pow_le_pow_right (by decide) h) (by decide)
theorem mul_le9 {i x : Nat} (hi : i ≤ 9) (hx : x < 128) (h9 : i = 9 → x ≤ 1) : x * 128 ^ i ≤ 9223372036854775808 := by
 by_cases h : i = 9
 ·have := h9 h
  subst h
  exact Nat.le_trans (Nat.mul_le_mul_right _ this) (by decide)
 ·have h1 : 128 ^ i ≤ 128 ^ 8 := Nat.pow_le_pow_right (by decide) (by omega)
  exact Nat.le_trans (Nat.mul_le_mul (show x ≤ 128 by omega) h1) (by decide)
theorem acc_next {acc i x : Nat} (ha : acc < 128 ^ i) (hx : x < 128) : acc + x * 128 ^ i < 128 ^ (i + 1) := by
 have : x * 128 ^ i ≤ 127 * 128 ^ i := Nat.mul_le_mul_right _ (by omega)
 rw [Nat.pow_succ]
 omega
theorem w7 {i : Nat} (hi : i ≤ 9) : wrap64 (7 * (i : Int)) = ((7 * i : Nat) : Int) := by unfold wrap64; omega
theorem shl_get {i x : Nat} (hi : i ≤ 9) (hx : x < 128) (h9 : i = 9 → x ≤ 1) : shl .u64 (x : Int) (wrap64 (7 * (i : Int))) = ((x * 128 ^ i : Nat) : Int) := by
 have hw : wrap64 (7 * (i : Int)) = ((7 * i : Nat) : Int) := by unfold wrap64; omega
 have hm := mul_le9 hi hx h9
 have hp : (128 : Nat) ^ i = 2 ^ (7 * i) := by rw [Nat.pow_mul]
 rw [hw]
 unfold shl
 rw [show min ((7 * i : Nat) : Int).toNat IntKind.u64.bits = 7 * i from by simp only [Int.toNat_natCast, show IntKind.u64.bits = 64 from rfl]; omega, ← u64_nat (show x * 128 ^ i < 18446744073709551616 by omega), hp]
 congr 1
theorem or_get {acc i x : Nat} (hi : i ≤ 9) (ha : acc < 128 ^ i) (hx : x < 128) (h9 : i = 9 → x ≤ 1) : Go.bits .or .u64 (acc : Int) (shl .u64 (x : Int) (wrap64 (7 * (i : Int)))) = ((acc + x * 128 ^ i : Nat) : Int) := by
 have hm := mul_le9 hi hx h9
 have hl := pow_le9 hi
 rw [shl_get hi hx h9, Go.u64_or_nat _ _ (by omega) (by omega), Nat.or_comm]
 have hp : (128 : Nat) ^ i = 2 ^ (7 * i) := by rw [Nat.pow_mul]
 rw [hp] at ha ⊢
 rw [Go.nat_join (7 * i) _ _ (Nat.mul_mod_left _ _) ha, Nat.add_comm]
theorem and127 {x : Nat} (h : x < 256) : Go.bits .and .u8 (x : Int) 127 = ((x % 128 : Nat) : Int) := by
 have h2 : ∀ m, m < 256 → Go.bits .and .u8 ((m : Nat) : Int) 127 = ((m % 128 : Nat) : Int) := by decide +kernel
 exact h2 x h
theorem rd_I {b : List UInt8} {j : Nat} {x : UInt8} (h : b[j]? = some x) : rd (b.map I) (j : Int) = ((x.toNat : Nat) : Int) := by
 simp [rd, List.getD_eq_getElem?_getD, h]
set_option maxHeartbeats 4000000 in
theorem getP_ev (b : List UInt8) (pl : Nat) (hb : b.length < 1000000000000) : ∀ (f i acc : Nat), i + f = 10 → pl + i ≤ b.length → acc < 128 ^ i → Ev (fun k => num_Get.l0 k (b.map I) (pl : Int) (acc : Int) (i : Int)) (getR pl f acc i (b.drop (pl + i))) := by
 intro f
 induction f with
 | zero =>
  intro i acc hi hp ha
  refine Ev.step (f := fun _ => some (0, 0, 4)) (fun k => ?_) (Ev.now _)
  simp only [num_Get.l0]
  rw [if_neg (by omega)]
 | succ f ih =>
  intro i acc hi hp ha
  have hw : Aside0 (wrap64 ((pl : Int) + (i : Int)) = ((pl + i : Nat) : Int)) := ⟨by unfold wrap64; omega⟩
  have h7 : Aside0 ((0 : Int) ≤ wrap64 (7 * (i : Int))) := ⟨by rw [w7 (by omega)]; omega⟩
  cases hd : b.drop (pl + i) with
  | nil =>
   have := drop_nil_len hd hp
   refine Ev.step (f := fun _ => some (0, 0, 3)) (fun k => ?_) (Ev.now _)
   simp only [num_Get.l0, hw.out, List.length_map]
   rw [if_pos (by omega), if_pos (by omega)]
  | cons x t =>
   obtain ⟨g1, g2, g3⟩ := drop_cons_facts hd
   have hx := x.toNat_lt
   have hr := Aside0.mk (rd_I g1)
   have hu : Aside0 (IntKind.u64.wrap ((x.toNat : Nat) : Int) = ((x.toNat : Nat) : Int)) := ⟨u64_nat (by omega)⟩
   have hk : Aside0 (wrap64 (((pl + i : Nat) : Int) + 1) = ((pl + i + 1 : Nat) : Int)) := ⟨by unfold wrap64; omega⟩
   rw [getR]
   by_cases h1 : x.toNat < 128
   ·rw [if_pos h1]
    by_cases h2 : (x.toNat = 0 ∧ 0 < i) ∨ (i = 9 ∧ 1 < x.toNat)
    ·rw [if_pos h2]
     refine Ev.step (f := fun k => num_Get.j2 k (pl : Int) (acc : Int) (i : Int) ((x.toNat : Nat) : Int) true) (fun k => ?_) (Ev.step (f := fun _ => some (0, 0, 4)) (fun k => ?_) (Ev.now _))
     ·simp only [num_Get.l0, hw.out, List.length_map, hr.out]
      rw [if_pos (by omega), if_neg (by omega), if_pos (by omega), if_pos (by omega), if_pos (by omega)]
      by_cases h0 : x.toNat = 0
      ·rw [if_pos (by omega), if_pos (by omega)]
      ·rw [if_neg (by omega), if_pos (by omega), decide_eq_true (by omega)]
     ·simp only [num_Get.j2]
      rw [if_pos trivial]
    ·rw [if_neg h2]
     have ho := Aside0.mk (or_get (acc := acc) (x := x.toNat) (show i ≤ 9 by omega) ha h1 (by omega))
     refine Ev.step (f := fun k => num_Get.j2 k (pl : Int) (acc : Int) (i : Int) ((x.toNat : Nat) : Int) false) (fun k => ?_) (Ev.step (f := fun _ => some (((acc + x.toNat * 128 ^ i : Nat) : Int), ((pl + i + 1 : Nat) : Int), 0)) (fun k => ?_) (Ev.now _))
     ·simp only [num_Get.l0, hw.out, List.length_map, hr.out]
      rw [if_pos (by omega), if_neg (by omega), if_pos (by omega), if_pos (by omega), if_pos (by omega)]
      by_cases h0 : x.toNat = 0
      ·rw [if_pos (by omega), if_neg (by omega), if_neg (by omega)]
      ·rw [if_neg (by omega)]
       by_cases h9 : i = 9
       ·rw [if_pos (by omega), decide_eq_false (by omega)]
       ·rw [if_neg (by omega)]
     ·simp only [num_Get.j2, hw.out, hu.out, ho.out, hk.out]
      rw [if_neg (by simp), if_pos h7.out]
   ·rw [if_neg h1]
    have hwi : Aside0 (wrap64 ((i : Int) + 1) = ((i + 1 : Nat) : Int)) := ⟨by unfold wrap64; omega⟩
    have hm : x.toNat % 128 < 128 := Nat.mod_lt _ (by decide)
    have hum : Aside0 (IntKind.u64.wrap ((x.toNat % 128 : Nat) : Int) = ((x.toNat % 128 : Nat) : Int)) := ⟨u64_nat (by omega)⟩
    by_cases h9 : i = 9
    ·obtain rfl : f = 0 := by omega
     rw [getR]
     refine Ev.step (fun k => ?_) (Ev.step (g := fun k => num_Get.l0 k (b.map I) (pl : Int) (Go.bits .or .u64 (acc : Int) (shl .u64 ((x.toNat % 128 : Nat) : Int) (wrap64 (7 * (i : Int))))) ((i + 1 : Nat) : Int)) (f := fun _ => some (0, 0, 4)) (fun k => ?_) (Ev.now _))
     ·simp only [num_Get.l0, hw.out, List.length_map, hr.out, and127 hx, hum.out, hwi.out]
      rw [if_pos (by omega), if_neg (by omega), if_pos (by omega), if_pos (by omega), if_neg (by omega), if_pos h7.out]
     ·simp only [num_Get.l0]
      rw [if_neg (by omega)]
    ·have ho.out := or_get (acc := acc) (x := x.toNat % 128) (show i ≤ 9 by omega) ha hm (by omega)
     have next := ih (i + 1) (acc + x.toNat % 128 * 128 ^ i) (by omega) (by omega) (acc_next ha hm)
     rw [show pl + (i + 1) = pl + i + 1 by omega, g2] at next
     refine Ev.step (fun k => ?_) next
     simp only [num_Get.l0, hw.out, List.length_map, hr.out, and127 hx, hum.out, hwi.out, ho.out]
     rw [if_pos (by omega), if_neg (by omega), if_pos (by omega), if_pos (by omega), if_neg (by omega), if_pos h7.out]
theorem get_ev (b : List UInt8) (pl : Int) (hb : b.length < 1000000000000) : Ev (fun k => num_Get.f k (b.map I) pl) (getB b pl) := by
 have hT : Ev (fun k => num_Get.j0 k (b.map I) pl true) (0, 0, 9) := by
  refine Ev.step (f := fun _ => some (0, 0, 9)) (fun k => ?_) (Ev.now _)
  simp only [num_Get.j0]
  rw [if_pos trivial]
 simp only [num_Get.f, getB, List.length_map]
 by_cases h0 : pl < 0
 ·rw [if_pos (Or.inl h0)]
  exact ifpos h0 hT
 refine ifneg h0 ?_
 by_cases h1 : pl > (b.length : Int)
 ·rw [if_pos (Or.inr h1), decide_eq_true h1]
  exact hT
 rw [if_neg (by omega), decide_eq_false h1]
 obtain ⟨n, rfl⟩ := Int.eq_ofNat_of_zero_le (show 0 ≤ pl by omega)
 refine Ev.step (fun k => ?_) (getP_ev b n hb 10 0 0 rfl (by omega) (by simp))
 simp only [num_Get.j0]
 rw [if_neg (by simp)]
 rfl
/-- a text at a place: what it is and what place is behind it, or what is amiss -/
def textB (b : List UInt8) (pl : Int) (most : Nat) : ByteArray × Int × Int :=
 if (getB b pl).2.2 = 0 then (if (getB b pl).1 > (most : Int) then (⟨#[]⟩, 0, 2) else if (getB b pl).1 > (b.length : Int) - (getB b pl).2.1 then (⟨#[]⟩, 0, 3) else (⟨((b.drop (getB b pl).2.1.toNat).take (getB b pl).1.toNat).toArray⟩, (getB b pl).2.1 + (getB b pl).1, 0)) else (⟨#[]⟩, 0, (getB b pl).2.2)
theorem getR_facts (pl : Nat) : ∀ (f acc i : Nat) (l : List UInt8), i + f = 10 → acc < 128 ^ i → 0 ≤ (getR pl f acc i l).1 ∧ (getR pl f acc i l).1 < 18446744073709551616 ∧ 0 ≤ (getR pl f acc i l).2.1 ∧ (getR pl f acc i l).2.1 ≤ ((pl + i + l.length : Nat) : Int)
 | 0, _, _, _, _, _ => by simp [getR]; omega
 | f + 1, _, _, [], _, _ => by simp [getR]; omega
 | f + 1, acc, i, x :: t, hi, ha => by
  rw [getR]
  by_cases h1 : x.toNat < 128
  ·rw [if_pos h1]
   by_cases h2 : (x.toNat = 0 ∧ 0 < i) ∨ (i = 9 ∧ 1 < x.toNat)
   ·rw [if_pos h2]; simp; omega
   ·rw [if_neg h2]
    have hm := mul_le9 (show i ≤ 9 by omega) h1 (by omega)
    have hl := pow_le9 (show i ≤ 9 by omega)
    refine ⟨by simp only; omega, by simp only; omega, by simp only; omega, ?_⟩
    simp only [List.length_cons]; omega
  ·rw [if_neg h1]
   have hm : x.toNat % 128 < 128 := Nat.mod_lt _ (by decide)
   have := getR_facts pl f (acc + x.toNat % 128 * 128 ^ i) (i + 1) t (by omega) (acc_next ha hm)
   rw [List.length_cons, show pl + i + (t.length + 1) = pl + (i + 1) + t.length by omega]
   exact this
theorem getB_facts (b : List UInt8) (pl : Int) : 0 ≤ (getB b pl).1 ∧ (getB b pl).1 < 18446744073709551616 ∧ 0 ≤ (getB b pl).2.1 ∧ (getB b pl).2.1 ≤ (b.length : Int) := by
 unfold getB
 by_cases h : pl < 0 ∨ pl > (b.length : Int)
 ·rw [if_pos h]; simp
 ·rw [if_neg h]
  have := getR_facts pl.toNat 10 0 0 (b.drop pl.toNat) rfl (by simp)
  rw [List.length_drop] at this
  refine ⟨this.1, this.2.1, this.2.2.1, ?_⟩
  have h4 := this.2.2.2
  omega
theorem text_ev (b : List UInt8) (pl : Int) (most : Nat) (hb : b.length < 1000000000000) (hm : most < 1000000) : Ev (fun k => num_GetText.f k (b.map I) pl (most : Int)) (textB b pl most) := by
 obtain ⟨g1, g2, g3, g4⟩ := getB_facts b pl
 have hg := get_ev b pl hb
 simp only [num_GetText.f, List.length_map]
 refine Ev.bind hg ?_
 unfold textB
 revert g1 g2 g3 g4
 generalize (getB b pl).1 = n
 generalize (getB b pl).2.1 = k
 generalize (getB b pl).2.2 = e
 intro g1 g2 g3 g4
 by_cases he : e = 0
 ·rw [if_pos he, if_pos he]
  have hmx : IntKind.u64.wrap (mx (most : Int) 0) = (most : Int) := by
   rw [show mx (most : Int) 0 = (most : Int) by unfold mx; split <;> omega]
   exact u64_nat (by omega)
  have hs : IntKind.u64.wrap (wrap64 ((b.length : Int) - k)) = (b.length : Int) - k := by
   rw [show wrap64 ((b.length : Int) - k) = (b.length : Int) - k by unfold wrap64; omega]
   obtain ⟨m, hm⟩ := Int.eq_ofNat_of_zero_le (show 0 ≤ (b.length : Int) - k by omega)
   rw [hm]
   exact u64_nat (by omega)
  simp only [hmx, hs]
  by_cases h1 : n > (most : Int)
  ·rw [if_pos h1, if_pos h1]
   exact Ev.now _
  rw [if_neg h1, if_neg h1]
  by_cases h2 : n > (b.length : Int) - k
  ·rw [if_pos h2, if_pos h2]
   exact Ev.now _
  rw [if_neg h2, if_neg h2]
  have hw : wrap64 (k + wrap64 n) = k + n := by
   rw [show wrap64 n = n by unfold wrap64; omega]
   unfold wrap64; omega
  simp only [hw]
  rw [if_pos (by omega), if_pos (by omega), if_pos (by omega)]
  have hl : strOfNums (((b.map I).take (k + n).toNat).drop k.toNat) = ⟨((b.drop k.toNat).take n.toNat).toArray⟩ := by
   rw [← List.map_take, ← List.map_drop, nums_mk, List.drop_take]
   congr 3
   omega
  rw [hl]
  exact Ev.now _
 ·rw [if_neg he, if_neg he]
  exact Ev.now _
theorem getR_put (pl : Nat) : ∀ (f i acc n : Nat) (post : List UInt8), i + f = 10 → n * 128 ^ i < 18446744073709551616 → (0 < i → 0 < n) → getR pl f acc i (putL n ++ post) = (((acc + n * 128 ^ i : Nat) : Int), ((pl + i + (putL n).length : Nat) : Int), 0)
 | 0, i, acc, n, post, hi, hn, h0 => by
  obtain rfl : i = 10 := by omega
  have h1 : 128 ^ 10 ≤ n * 128 ^ 10 := Nat.le_mul_of_pos_left _ (h0 (by omega))
  have h2 : (18446744073709551616 : Nat) ≤ 128 ^ 10 := by decide
  omega
 | f + 1, i, acc, n, post, hi, hn, h0 => by
  by_cases h : n < 128
  ·rw [putL_small h, List.cons_append, getR]
   have hx : (UInt8.ofNat n).toNat = n := by rw [UInt8.toNat_ofNat']; omega
   rw [hx, if_pos h, if_neg]
   ·rfl
   ·rintro (⟨h1, h2⟩ | ⟨h1, h2⟩)
    ·have := h0 h2; omega
    ·subst h1
     have h3 : 2 * 128 ^ 9 ≤ n * 128 ^ 9 := Nat.mul_le_mul_right _ h2
     have h4 : (18446744073709551616 : Nat) ≤ 2 * 128 ^ 9 := by decide
     omega
  ·have hx : (UInt8.ofNat (n % 128 + 128)).toNat = n % 128 + 128 := by rw [UInt8.toNat_ofNat']; omega
   have e : n * 128 ^ i = n % 128 * 128 ^ i + n / 128 * 128 ^ (i + 1) := by
    rw [Nat.pow_succ, Nat.mul_comm (128 ^ i) 128, ← Nat.mul_assoc, ← Nat.add_mul]
    congr 1
    omega
   have ih := getR_put pl f (i + 1) (acc + n % 128 * 128 ^ i) (n / 128) post (by omega) (by omega) (fun _ => by omega)
   rw [putL_big h, List.cons_append, getR, hx, if_neg (by omega), show (n % 128 + 128) % 128 = n % 128 by omega, ih, e, List.length_cons]
   rw [show acc + n % 128 * 128 ^ i + n / 128 * 128 ^ (i + 1) = acc + (n % 128 * 128 ^ i + n / 128 * 128 ^ (i + 1)) by omega, show pl + (i + 1) + (putL (n / 128)).length = pl + i + ((putL (n / 128)).length + 1) by omega]
theorem getB_put (pre post : List UInt8) (n : Nat) (hn : n < 18446744073709551616) : getB (pre ++ (putL n ++ post)) (pre.length : Int) = ((n : Int), ((pre.length + (putL n).length : Nat) : Int), 0) := by
 unfold getB
 rw [if_neg (by rw [List.length_append]; omega), Int.toNat_natCast, List.drop_left, getR_put pre.length 10 0 0 n post rfl (by simpa using hn) (by omega)]
 simp
theorem textB_put (pre post s : List UInt8) (most : Nat) (hs : s.length ≤ most) (hm : most < 1000000) : textB (pre ++ ((putL s.length ++ s) ++ post)) (pre.length : Int) most = (⟨s.toArray⟩, ((pre.length + (putL s.length ++ s).length : Nat) : Int), 0) := by
 unfold textB
 rw [List.append_assoc, getB_put pre (s ++ post) s.length (by omega)]
 simp only
 rw [if_pos trivial, if_neg (by omega), if_neg (by simp only [List.length_append]; omega), Int.toNat_natCast, Int.toNat_natCast]
 rw [show pre ++ (putL s.length ++ (s ++ post)) = (pre ++ putL s.length) ++ (s ++ post) by simp, show pre.length + (putL s.length).length = (pre ++ putL s.length).length by simp, List.drop_left, List.take_left]
 simp only [List.length_append]
 congr 2
 omega
section
variable (a0 a1 a2 : Int) (ps : List ByteArray) (d s : ByteArray) (sg : List S65) (sp : List S74) (nn : ByteArray) (es : List S67) (u al : Int)
theorem lit2_ev (hl : es.length < 1000) : Ev (fun k => strongroomlaw25_little.l2 k 0 a0 a1 a2 ps d s sg sp nn es u al) (if (es.all fun x => decide (x.f3.size ≤ 200)) = true then true else false) := by
 refine all_loopG es (fun x => decide (x.f3.size ≤ 200)) true false (fun k i => strongroomlaw25_little.l2 k i a0 a1 a2 ps d s sg sp nn es u al) (fun i c cs hd hc r hr => ?_) (fun i c cs hd hc => ?_) ?_ es 0 rfl (Nat.zero_le _)
 ·have hlt := (drop_cons_facts hd).2.2
  simp only [decide_eq_true_eq] at hc
  refine Ev.step (fun k => ?_) hr
  simp only [strongroomlaw25_little.l2, rd67_at hd]
  rw [if_pos (by omega), if_pos (by omega), if_neg (by omega), wrap_succ hlt (by omega)]
 ·have hlt := (drop_cons_facts hd).2.2
  simp only [decide_eq_false_iff_not] at hc
  refine Ev.step (f := fun _ => some false) (fun k => ?_) (Ev.now _)
  simp only [strongroomlaw25_little.l2, rd67_at hd]
  rw [if_pos (by omega), if_pos (by omega), if_pos (by omega)]
 ·refine Ev.step (f := fun _ => some true) (fun k => ?_) (Ev.now _)
  simp only [strongroomlaw25_little.l2]
  rw [if_neg (by omega)]
theorem lit1_ev (hg : sg.length < 10000) (hl : es.length < 1000) : ∃ v, Ev (fun k => strongroomlaw25_little.l1 k 0 a0 a1 a2 ps d s sg sp nn es u al) v := by
 refine ⟨_, all_loopG sg (fun x => decide (x.f1.size ≤ 100)) (if (es.all fun x => decide (x.f3.size ≤ 200)) = true then true else false) false (fun k i => strongroomlaw25_little.l1 k i a0 a1 a2 ps d s sg sp nn es u al) (fun i c cs hd hc r hr => ?_) (fun i c cs hd hc => ?_) ?_ sg 0 rfl (Nat.zero_le _)⟩
 ·have hlt := (drop_cons_facts hd).2.2
  simp only [decide_eq_true_eq] at hc
  refine Ev.step (fun k => ?_) hr
  simp only [strongroomlaw25_little.l1, rd65_at hd]
  rw [if_pos (by omega), if_pos (by omega), if_neg (by omega), wrap_succ hlt (by omega)]
 ·have hlt := (drop_cons_facts hd).2.2
  simp only [decide_eq_false_iff_not] at hc
  refine Ev.step (f := fun _ => some false) (fun k => ?_) (Ev.now _)
  simp only [strongroomlaw25_little.l1, rd65_at hd]
  rw [if_pos (by omega), if_pos (by omega), if_pos (by omega)]
 ·refine Ev.step (fun k => ?_) (lit2_ev a0 a1 a2 ps d s sg sp nn es u al hl)
  simp only [strongroomlaw25_little.l1]
  rw [if_neg (by omega)]
theorem lit0_ev (hs : ps.length < 1000) (hg : sg.length < 10000) (hl : es.length < 1000) : ∃ v, Ev (fun k => strongroomlaw25_little.l0 k 0 a0 a1 a2 ps d s sg sp nn es u al) v := by
 obtain ⟨v, hv⟩ := lit1_ev a0 a1 a2 ps d s sg sp nn es u al hg hl
 refine ⟨_, all_loopG ps (fun x => decide (x.size ≤ 200)) v false (fun k i => strongroomlaw25_little.l0 k i a0 a1 a2 ps d s sg sp nn es u al) (fun i c cs hd hc r hr => ?_) (fun i c cs hd hc => ?_) ?_ ps 0 rfl (Nat.zero_le _)⟩
 ·have hlt := (drop_cons_facts hd).2.2
  simp only [decide_eq_true_eq] at hc
  refine Ev.step (fun k => ?_) hr
  simp only [strongroomlaw25_little.l0, rdS_at hd]
  rw [if_pos (by omega), if_pos (by omega), if_neg (by omega), wrap_succ hlt (by omega)]
 ·have hlt := (drop_cons_facts hd).2.2
  simp only [decide_eq_false_iff_not] at hc
  refine Ev.step (f := fun _ => some false) (fun k => ?_) (Ev.now _)
  simp only [strongroomlaw25_little.l0, rdS_at hd]
  rw [if_pos (by omega), if_pos (by omega), if_pos (by omega)]
 ·refine Ev.step (fun k => ?_) hv
  simp only [strongroomlaw25_little.l0]
  rw [if_neg (by omega)]
theorem little_ev : ∃ v, Ev (fun k => strongroomlaw25_little.f k a0 a1 a2 ps d s sg sp nn es u al) v ∧ (v = true → ps.length < 1000 ∧ sg.length < 10000 ∧ sp.length < 1000 ∧ es.length < 1000) := by
 have hjt : Ev (fun k => strongroomlaw25_little.j0 k true a0 a1 a2 ps d s sg sp nn es u al) false := by
  refine Ev.step (f := fun _ => some false) (fun k => ?_) (Ev.now _)
  simp only [strongroomlaw25_little.j0]
  rw [if_pos trivial]
 by_cases hb : ps.length ≤ 100 ∧ d.size ≤ 2000 ∧ s.size ≤ 200 ∧ sg.length ≤ 1100 ∧ sp.length ≤ 40 ∧ nn.size ≤ 200 ∧ es.length ≤ 40
 ·obtain ⟨v, hv⟩ := lit0_ev a0 a1 a2 ps d s sg sp nn es u al (by omega) (by omega) (by omega)
  refine ⟨v, ?_, fun _ => by omega⟩
  simp only [strongroomlaw25_little.f]
  refine ifneg (by omega) (ifneg (by omega) (ifneg (by omega) (ifneg (by omega) (ifneg (by omega) (ifneg (by omega) ?_)))))
  rw [decide_eq_false (by omega)]
  refine Ev.step (fun k => ?_) hv
  simp only [strongroomlaw25_little.j0]
  rw [if_neg (by simp)]
 ·refine ⟨false, ?_, fun h => by cases h⟩
  simp only [strongroomlaw25_little.f]
  repeat' refine ite_ev (fun _ => ?_) (fun _ => ?_)
  all_goals first | exact hjt | (rw [decide_eq_true (by omega)]; exact hjt)
theorem fitP_of (hw : ∀ x ∈ sg, 0 ≤ x.f0 ∧ x.f0 < 4294967296) (h : fitsB a0 a1 a2 ps d s sg sp nn es u al = true) : FitP a0 a1 a2 ps d s sg sp nn es u al := by
 unfold fitsB at h
 by_cases hh : headP a0 a1 a2 ps d s sg sp nn es
 ·rw [if_pos hh] at h
  unfold listsB at h
  by_cases h1 : ps.all goodB = true
  ·by_cases h2 : sg.all signOk = true
   ·by_cases h3 : sp.all spanOk = true
    ·by_cases h4 : es.all entOk = true
     ·rw [if_pos h1, if_pos h2, if_pos h3, if_pos h4, decide_eq_true_eq] at h
      simp only [headP] at hh
      simp only [lastP] at h
      rw [List.all_eq_true] at h1 h2 h3 h4
      exact ⟨by omega, by omega, by omega, ⟨by omega, fun x hx => goodB_le (h1 x hx)⟩, by omega, by omega, ⟨by omega, fun x hx => ⟨by have := h2 x hx; simp only [signOk, decide_eq_true_eq] at this; exact this, hw x hx⟩⟩, ⟨by omega, fun x hx => by have := h3 x hx; simp only [spanOk, decide_eq_true_eq] at this; exact this⟩, by omega, ⟨by omega, fun x hx => by have := h4 x hx; simp only [entOk, decide_eq_true_eq] at this; exact this⟩, by omega, by omega⟩
     ·rw [if_pos h1, if_pos h2, if_pos h3, if_neg h4] at h; cases h
    ·rw [if_pos h1, if_pos h2, if_neg h3] at h; cases h
   ·rw [if_pos h1, if_neg h2] at h; cases h
  ·rw [if_neg h1] at h; cases h
 ·rw [if_neg hh] at h; cases h
end
theorem lives_ev : Ev (fun k => strongroomlaw25_lives.f k) true := by
 have hz : (⟨#[]⟩ : ByteArray).size = 0 := rfl
 have hb : fitsB 1 2 0 [] ⟨#[]⟩ ⟨#[]⟩ [] [] ⟨#[]⟩ [] 0 0 = true := by
  unfold fitsB
  rw [if_pos (by simp [headP, hz]), decide_eq_true (by simp [lastP])]
  rfl
 have hf := fits_ev 1 2 0 [] ⟨#[]⟩ ⟨#[]⟩ [] [] ⟨#[]⟩ [] 0 0 (by simp) (by simp) (by simp) (by simp)
 rw [hb] at hf
 have H := fitP_of 1 2 0 [] ⟨#[]⟩ ⟨#[]⟩ [] [] ⟨#[]⟩ [] 0 0 (by simp) hb
 have hr := reply_ev 1 2 0 [] ⟨#[]⟩ ⟨#[]⟩ [] [] ⟨#[]⟩ [] 0 0 H hf
 have h0 : putL 0 = [0] := putL_small (by omega)
 have hl : replyL 1 2 0 [] ⟨#[]⟩ ⟨#[]⟩ [] [] ⟨#[]⟩ [] 0 0 = [2, 1, 2, 0, 0, 0, 0, 0, 0, 0, 0, 0, 0] := by
  have h1 : putL 1 = [1] := putL_small (by omega)
  have h2 : putL 2 = [2] := putL_small (by omega)
  have ht : textL ⟨#[]⟩ = [0] := by rw [textL, hz, h0]; rfl
  simp [replyL, tail0, tail1, tail2, h0, h1, h2, ht]
 rw [hl] at hr
 simp only [strongroomlaw25_lives.f]
 refine Ev.bind hr (ifpos rfl (ifpos (by omega) ?_))
 simp only [Option.bind_some]
 rw [show strOfNums (List.replicate 10 0) = mkB (List.replicate 10 0) from nums_mk (List.replicate 10 0), nums_mk, show (⟨#[2, 1, 2]⟩ : ByteArray) = mkB [2, 1, 2] from rfl, mk_app]
 refine ifpos (by rw [mk_size]; simp) ?_
 simp only [toList_data]
 exact Ev.now _
/-- a reader of bytes: from a place, and what was amiss, to what it read, the next place, and what is amiss -/
abbrev Rd (ε α : Type) := List UInt8 → Int → ε → α × Int × ε
section
variable {ε : Type} {g0 : ε} {α β : Type}
/-- what is amiss stays -/
def Stick (g0 : ε) (p : Rd ε α) : Prop := ∀ b at_ e, e ≠ g0 → (p b at_ e).2.2 ≠ g0
/-- bytes behind change nothing of what was read well -/
def Ext (g0 : ε) (p : Rd ε α) : Prop := ∀ b c at_, (p b at_ g0).2.2 = g0 → p (b ++ c) at_ g0 = p b at_ g0
/-- bytes that tell x are read as x -/
def Back (g0 : ε) (p : Rd ε α) (f : α → List UInt8) (ok : α → Prop) : Prop := ∀ pre post x, ok x → p (pre ++ (f x ++ post)) (pre.length : Int) g0 = (x, ((pre.length + (f x).length : Nat) : Int), g0)
/-- what was read well, and may be, tells the bytes -/
def Canon (g0 : ε) (p : Rd ε α) (f : α → List UInt8) (ok : α → Prop) : Prop := ∀ pre tail x a', p (pre ++ tail) (pre.length : Int) g0 = (x, a', g0) → ok x → ∃ post, tail = f x ++ post ∧ a' = ((pre.length + (f x).length : Nat) : Int)
def bindP (p : Rd ε α) (f : α → Rd ε β) : Rd ε β := fun b at_ e => f (p b at_ e).1 b (p b at_ e).2.1 (p b at_ e).2.2
def retP (x : α) : Rd ε α := fun _ at_ e => (x, at_, e)
theorem Stick.bind {p : Rd ε α} {f : α → Rd ε β} (hp : Stick g0 p) (hf : ∀ x, Stick g0 (f x)) : Stick g0 (bindP p f) := fun b at_ e h => hf _ b _ _ (hp b at_ e h)
theorem Stick.ret (x : α) : Stick g0 (retP (ε := ε) x) := fun _ _ _ h => h
theorem Ext.ret (x : α) : Ext g0 (retP (ε := ε) x) := fun _ _ _ _ => rfl
theorem Ext.bind {p : Rd ε α} {f : α → Rd ε β} (hp : Ext g0 p) (hs : ∀ x, Stick g0 (f x)) (hf : ∀ x, Ext g0 (f x)) : Ext g0 (bindP p f) := by
 intro b c at_ h
 have h1 : (p b at_ g0).2.2 = g0 := Classical.byContradiction fun hn => hs _ b _ _ hn h
 unfold bindP at h ⊢
 rw [hp b c at_ h1]
 rw [h1] at h ⊢
 exact hf _ b c _ h
/-- n things, one after the other -/
def accP (p : Rd ε α) : Nat → Rd ε (List α)
 | 0 => retP []
 | n + 1 => bindP (accP p n) fun l => bindP p fun x => retP (l ++ [x])
theorem accP_stick {p : Rd ε α} (hp : Stick g0 p) : ∀ n, Stick g0 (accP p n)
 | 0 => Stick.ret _
 | n + 1 => (accP_stick hp n).bind fun _ => hp.bind fun _ => Stick.ret _
theorem accP_ext {p : Rd ε α} (hs : Stick g0 p) (hp : Ext g0 p) : ∀ n, Ext g0 (accP p n)
 | 0 => Ext.ret _
 | n + 1 => (accP_ext hs hp n).bind (fun _ => hs.bind fun _ => Stick.ret _) fun _ => hp.bind (fun _ => Stick.ret _) fun _ => Ext.ret _
theorem accP_succ (p : Rd ε α) (n : Nat) (b : List UInt8) (at_ : Int) (e : ε) : accP p (n + 1) b at_ e = ((accP p n b at_ e).1 ++ [(p b (accP p n b at_ e).2.1 (accP p n b at_ e).2.2).1], (p b (accP p n b at_ e).2.1 (accP p n b at_ e).2.2).2.1, (p b (accP p n b at_ e).2.1 (accP p n b at_ e).2.2).2.2) := rfl
theorem snoc_ind {P : List α → Prop} (h0 : P []) (hs : ∀ l x, P l → P (l ++ [x])) (l : List α) : P l := by
 have h : ∀ r : List α, P r.reverse := by
  intro r
  induction r with
  | nil => exact h0
  | cons x r ih => rw [List.reverse_cons]; exact hs _ _ ih
 have := h l.reverse
 rwa [List.reverse_reverse] at this
theorem accP_back {p : Rd ε α} {f : α → List UInt8} {ok : α → Prop} (hp : Back g0 p f ok) (pre : List UInt8) : ∀ (l : List α) (post : List UInt8), (∀ x ∈ l, ok x) → accP p l.length (pre ++ (l.flatMap f ++ post)) (pre.length : Int) g0 = (l, ((pre.length + (l.flatMap f).length : Nat) : Int), g0) := by
 intro l
 induction l using snoc_ind with
 | h0 => intro post _; simp [accP, retP]
 | hs l x ih =>
  intro post hx
  have e : pre ++ ((l ++ [x]).flatMap f ++ post) = pre ++ (l.flatMap f ++ (f x ++ post)) := by simp [List.flatMap_append]
  rw [e, List.length_append, show l.length + [x].length = l.length + 1 from rfl, accP_succ, ih (f x ++ post) (fun y hy => hx y (by simp [hy]))]
  have h1 := hp (pre ++ l.flatMap f) post x (hx x (by simp))
  rw [List.append_assoc, List.length_append] at h1
  rw [h1]
  simp only [List.flatMap_append, List.length_append, List.flatMap_cons, List.flatMap_nil, List.append_nil, Prod.mk.injEq, true_and, and_true]
  omega
/-- what was read well so far has bytes that are all there -/
theorem Back.bind {p : Rd ε α} {f : α → List UInt8} {ok : α → Prop} (hp : Back g0 p f ok) (k : α → Rd ε β) (pre post : List UInt8) (x : α) (h : ok x) : bindP p k (pre ++ (f x ++ post)) (pre.length : Int) g0 = k x ((pre ++ f x) ++ post) ((pre ++ f x).length : Int) g0 := by
 unfold bindP
 rw [hp pre post x h, List.append_assoc, List.length_append]
theorem Canon.bind {p : Rd ε α} {f : α → List UInt8} {ok : α → Prop} (hp : Canon g0 p f ok) (k : α → Rd ε β) (hs : ∀ x, Stick g0 (k x)) {pre tail : List UInt8} {y : β} {a' : Int} (h : bindP p k (pre ++ tail) (pre.length : Int) g0 = (y, a', g0)) :
  ∃ x, (p (pre ++ tail) (pre.length : Int) g0).1 = x ∧ (ok x → ∃ post, tail = f x ++ post ∧ k x ((pre ++ f x) ++ post) ((pre ++ f x).length : Int) g0 = (y, a', g0)) := by
 rcases hr : p (pre ++ tail) (pre.length : Int) g0 with ⟨x, a1, e1⟩
 unfold bindP at h
 rw [hr] at h
 have he : g0 = e1 := (Classical.byContradiction fun hn => hs x _ _ _ hn (by rw [h]) : e1 = g0).symm
 subst he
 refine ⟨x, rfl, fun hx => ?_⟩
 obtain ⟨post, ht, ha⟩ := hp pre tail x a1 hr hx
 subst ha ht
 refine ⟨post, rfl, ?_⟩
 rw [List.append_assoc, List.length_append]
 exact h
end
theorem getR_ext (pl : Nat) (c : List UInt8) : ∀ (f acc i : Nat) (l : List UInt8), (getR pl f acc i l).2.2 = 0 → getR pl f acc i (l ++ c) = getR pl f acc i l
 | 0, _, _, _, h => by simp [getR] at h
 | f + 1, _, _, [], h => by simp [getR] at h
 | f + 1, acc, i, x :: t, h => by
  rw [List.cons_append]
  simp only [getR] at h ⊢
  by_cases h1 : x.toNat < 128
  ·rw [if_pos h1, if_pos h1]
  ·rw [if_neg h1] at h ⊢
   rw [if_neg h1]
   exact getR_ext pl c f _ _ t h
theorem getB_ext (b c : List UInt8) (pl : Int) (h : (getB b pl).2.2 = 0) : getB (b ++ c) pl = getB b pl := by
 unfold getB at h ⊢
 by_cases h1 : pl < 0 ∨ pl > (b.length : Int)
 ·rw [if_pos h1] at h; simp at h
 ·rw [if_neg h1] at h ⊢
  rw [if_neg (by rw [List.length_append]; omega), List.drop_append_of_le_length (by omega)]
  exact getR_ext _ c 10 0 0 _ h
theorem textB_ext (b c : List UInt8) (pl : Int) (most : Nat) (h : (textB b pl most).2.2 = 0) : textB (b ++ c) pl most = textB b pl most := by
 have hf := getB_facts b pl
 unfold textB at h ⊢
 by_cases h0 : (getB b pl).2.2 = 0
 ·rw [getB_ext b c pl h0]
  rw [if_pos h0] at h ⊢
  rw [if_pos h0]
  by_cases h1 : (getB b pl).1 > (most : Int)
  ·rw [if_pos h1] at h; simp at h
  ·rw [if_neg h1] at h ⊢
   rw [if_neg h1]
   by_cases h2 : (getB b pl).1 > (b.length : Int) - (getB b pl).2.1
   ·rw [if_pos h2] at h; simp at h
   ·rw [if_neg h2, if_neg (by rw [List.length_append]; omega)]
    rw [List.drop_append_of_le_length (by omega), List.take_append_of_le_length (by rw [List.length_drop]; omega)]
 ·rw [if_neg h0] at h; exact absurd h h0
/-- a number, a text, a count: what a reader of frames reads -/
def numP : Rd Bool Int := fun b at_ e => if e = true then (0, at_, true) else if (getB b at_).2.2 = 0 then (if 4611686018427387904 < (getB b at_).1 then 4611686018427387904 else (getB b at_).1, (getB b at_).2.1, false) else (0, at_, true)
def textP (most : Nat) : Rd Bool ByteArray := fun b at_ e => if e = true then (⟨#[]⟩, at_, true) else if (textB b at_ most).2.2 = 0 then ((textB b at_ most).1, (textB b at_ most).2.1, false) else (⟨#[]⟩, at_, true)
def manyP (most : Int) : Rd Bool Int := fun b at_ e => if (numP b at_ e).1 > most then (0, (numP b at_ e).2.1, true) else numP b at_ e
theorem numP_stick : Stick false numP := fun b at_ e h => by
 have : e = true := by cases e <;> simp_all
 subst this; simp [numP]
theorem textP_stick (m : Nat) : Stick false (textP m) := fun b at_ e h => by
 have : e = true := by cases e <;> simp_all
 subst this; simp [textP]
theorem numP_ext : Ext false numP := fun b c at_ h => by
 simp only [numP, Bool.false_eq_true, if_false] at h ⊢
 by_cases h0 : (getB b at_).2.2 = 0
 ·rw [getB_ext b c at_ h0]
 ·rw [if_neg h0] at h; simp at h
theorem textP_ext (m : Nat) : Ext false (textP m) := fun b c at_ h => by
 simp only [textP, Bool.false_eq_true, if_false] at h ⊢
 by_cases h0 : (textB b at_ m).2.2 = 0
 ·rw [textB_ext b c at_ m h0]
 ·rw [if_neg h0] at h; simp at h
theorem manyP_stick (m : Int) : Stick false (manyP m) := fun b at_ e h => by
 unfold manyP
 split
 ·simp
 ·exact numP_stick b at_ e h
theorem manyP_ext (m : Int) : Ext false (manyP m) := fun b c at_ h => by
 unfold manyP at h ⊢
 by_cases h1 : (numP b at_ false).1 > m
 ·rw [if_pos h1] at h; simp at h
 ·rw [if_neg h1] at h
  rw [numP_ext b c at_ h]
def okN (n : Int) : Prop := 0 ≤ n ∧ n < 4611686018427387904
theorem numP_back : Back false numP (fun n => putL n.toNat) okN := fun pre post n ⟨h0, hn⟩ => by
 have hg := getB_put pre post n.toNat (by omega)
 simp only [numP, Bool.false_eq_true, if_false, hg, if_true]
 rw [if_neg (by omega)]
 congr 1; omega
theorem textP_back (m : Nat) (hm : m < 1000000) : Back false (textP m) textL (fun s => s.size ≤ m) := fun pre post s hs => by
 have hg : textB (pre ++ (textL s ++ post)) (pre.length : Int) m = (s, ((pre.length + (textL s).length : Nat) : Int), 0) := textB_put pre post s.data.toList m hs hm
 simp only [textP, Bool.false_eq_true, if_false, hg, if_true]
theorem manyP_back (m : Int) (hm : m < 1000000) : Back false (manyP m) (fun n => putL n.toNat) (fun n => 0 ≤ n ∧ n ≤ m) := fun pre post n ⟨h0, hn⟩ => by
 have := numP_back pre post n ⟨h0, by omega⟩
 simp only [manyP, this]
 rw [if_neg (by omega)]
/-- the readers of frames are the plain ones -/
theorem numP_ev (b : List UInt8) (hb : b.length < 1000000000000) (a : Int) (e : Bool) : Ev (fun k => frame_reader_number.f k (b.map I) a e) (numP b a e) := by
 have hg := get_ev b a hb
 have hf := getB_facts b a
 simp only [frame_reader_number.f]
 refine Ev.bind hg ?_
 unfold numP
 cases e
 ·rw [if_neg Bool.false_ne_true, if_neg Bool.false_ne_true]
  refine ite_now (fun h => ifpos h ?_) (fun h => ifneg h (Ev.now _))
  rw [show wrap64 (mn (getB b a).1 4611686018427387904) = (if 4611686018427387904 < (getB b a).1 then 4611686018427387904 else (getB b a).1) by
   unfold mn wrap64
   split <;> omega]
  exact Ev.now _
 ·rw [if_pos rfl, if_pos rfl]
  exact Ev.now _
theorem textP_ev (b : List UInt8) (hb : b.length < 1000000000000) (m : Nat) (hm : m < 1000000) (a : Int) (e : Bool) : Ev (fun k => frame_reader_text.f k (b.map I) a e (m : Int)) (textP m b a e) := by
 have hg := text_ev b a m hb hm
 simp only [frame_reader_text.f]
 refine Ev.bind hg ?_
 unfold textP
 cases e
 ·rw [if_neg Bool.false_ne_true, if_neg Bool.false_ne_true]
  exact ite_now (fun h => ifpos h (Ev.now _)) (fun h => ifneg h (Ev.now _))
 ·rw [if_pos rfl, if_pos rfl]
  exact Ev.now _
theorem manyP_ev (b : List UInt8) (hb : b.length < 1000000000000) (m : Int) (a : Int) (e : Bool) : Ev (fun k => frame_reader_many.f k (b.map I) a e m) (manyP m b a e) := by
 simp only [frame_reader_many.f]
 refine Ev.bind (numP_ev b hb a e) ?_
 unfold manyP
 exact ite_now (fun h => ifpos h (Ev.now _)) (fun h => ifneg h (Ev.now _))
theorem accS_ev {α : Type} (b : List UInt8) (st : Nat → Int → Bool → Option (α × Int × Bool)) (p : Rd Bool α) (h : ∀ a e, Ev (fun k => st k a e) (p b a e)) (a : Int) (e : Bool) : ∀ n, Ev (fun k => accS (st k) a e n) (accP p n b a e)
 | 0 => Ev.now _
 | n + 1 => by
  rw [accP_succ]
  simp only [accS]
  exact Ev.bind (accS_ev b st p h a e n) (Ev.bind (h _ _) (Ev.now _))
/-- a sign, a span, an entry -/
def signP_ : Rd Bool S65 := fun b a e => (⟨(numP b a e).1 % 4294967296, (textP 16 b (numP b a e).2.1 (if (numP b a e).2.2 = true then true else decide (4294967296 ≤ (numP b a e).1))).1⟩, (textP 16 b (numP b a e).2.1 (if (numP b a e).2.2 = true then true else decide (4294967296 ≤ (numP b a e).1))).2)
def spanP_ : Rd Bool S74 := bindP numP fun x => bindP numP fun y => retP ⟨x, y⟩
def entP_ : Rd Bool S67 := bindP numP fun x => bindP numP fun y => bindP numP fun z => bindP (textP 32) fun s => bindP numP fun u => retP ⟨x, y, z, s, u⟩
theorem sign_ev_ (b : List UInt8) (hb : b.length < 1000000000000) (a : Int) (e : Bool) : Ev (fun k => rpSign k (b.map I) a e) (signP_ b a e) := by
 simp only [rpSign]
 exact Ev.bind (numP_ev b hb a e) (Ev.bind (textP_ev b hb 16 (by omega) _ _) (Ev.now _))
theorem span_ev_ (b : List UInt8) (hb : b.length < 1000000000000) (a : Int) (e : Bool) : Ev (fun k => rpSpan k (b.map I) a e) (spanP_ b a e) := by
 simp only [rpSpan]
 exact Ev.bind (numP_ev b hb a e) (Ev.bind (numP_ev b hb _ _) (Ev.now _))
theorem ent_ev_ (b : List UInt8) (hb : b.length < 1000000000000) (a : Int) (e : Bool) : Ev (fun k => rpEnt k (b.map I) a e) (entP_ b a e) := by
 simp only [rpEnt]
 exact Ev.bind (numP_ev b hb a e) (Ev.bind (numP_ev b hb _ _) (Ev.bind (numP_ev b hb _ _) (Ev.bind (textP_ev b hb 32 (by omega) _ _) (Ev.bind (numP_ev b hb _ _) (Ev.now _)))))
/-- a whole reply -/
def repP : Rd Bool (Int × Int × Int × List ByteArray × ByteArray × ByteArray × List S65 × List S74 × ByteArray × List S67 × Int × Int) :=
 bindP numP fun n1 => bindP numP fun n2 => bindP numP fun n3 => bindP (manyP 64) fun c1 => bindP (accP (textP 32) c1.toNat) fun ps => bindP (textP 1024) fun d => bindP (textP 32) fun s => bindP (manyP 1024) fun c2 => bindP (accP signP_ c2.toNat) fun sg =>
 bindP (manyP 4) fun c3 => bindP (accP spanP_ c3.toNat) fun sp => bindP (textP 12) fun no => bindP (manyP 8) fun c4 => bindP (accP entP_ c4.toNat) fun es => bindP numP fun u => bindP numP fun al => retP (n1, n2, n3, ps, d, s, sg, sp, no, es, u, al)
theorem rpAll_ev (b : List UInt8) (hb : b.length < 1000000000000) (a : Int) (e : Bool) : Ev (fun k => rpAll k (b.map I) a e) (repP b a e) := by
 simp only [rpAll]
 refine Ev.bind (numP_ev b hb a e) (Ev.bind (numP_ev b hb _ _) (Ev.bind (numP_ev b hb _ _) (Ev.bind (manyP_ev b hb 64 _ _) ?_)))
 refine Ev.bind (accS_ev b (fun k => rpPath k (b.map I)) (textP 32) (fun a e => textP_ev b hb 32 (by omega) a e) _ _ _) (Ev.bind (textP_ev b hb 1024 (by omega) _ _) (Ev.bind (textP_ev b hb 32 (by omega) _ _) (Ev.bind (manyP_ev b hb 1024 _ _) ?_)))
 refine Ev.bind (accS_ev b (fun k => rpSign k (b.map I)) signP_ (sign_ev_ b hb) _ _ _) (Ev.bind (manyP_ev b hb 4 _ _) ?_)
 refine Ev.bind (accS_ev b (fun k => rpSpan k (b.map I)) spanP_ (span_ev_ b hb) _ _ _) (Ev.bind (textP_ev b hb 12 (by omega) _ _) (Ev.bind (manyP_ev b hb 8 _ _) ?_))
 exact Ev.bind (accS_ev b (fun k => rpEnt k (b.map I)) entP_ (ent_ev_ b hb) _ _ _) (Ev.bind (numP_ev b hb _ _) (Ev.bind (numP_ev b hb _ _) (Ev.now _)))
theorem signP_stick : Stick false signP_ := fun b a e h => by
 refine textP_stick 16 b _ _ ?_
 have := numP_stick b a e h
 cases h1 : (numP b a e).2.2
 ·exact absurd h1 this
 ·simp
theorem signP_ext : Ext false signP_ := fun b c a h => by
 unfold signP_ at h ⊢
 have h1 : (if (numP b a false).2.2 = true then true else decide (4294967296 ≤ (numP b a false).1)) = false := by
  refine Classical.byContradiction fun hn => textP_stick 16 b (numP b a false).2.1 _ hn h
 have h2 : (numP b a false).2.2 = false := by
  cases h3 : (numP b a false).2.2
  ·rfl
  ·rw [h3] at h1; simp at h1
 rw [numP_ext b c a h2]
 rw [h1] at h ⊢
 rw [textP_ext 16 b c _ h]
theorem spanP_stick : Stick false spanP_ := numP_stick.bind fun _ => numP_stick.bind fun _ => Stick.ret _
theorem spanP_ext : Ext false spanP_ := numP_ext.bind (fun _ => numP_stick.bind fun _ => Stick.ret _) fun _ => numP_ext.bind (fun _ => Stick.ret _) fun _ => Ext.ret _
theorem entP_stick : Stick false entP_ := numP_stick.bind fun _ => numP_stick.bind fun _ => numP_stick.bind fun _ => (textP_stick 32).bind fun _ => numP_stick.bind fun _ => Stick.ret _
theorem entP_ext : Ext false entP_ := numP_ext.bind (fun _ => numP_stick.bind fun _ => numP_stick.bind fun _ => (textP_stick 32).bind fun _ => numP_stick.bind fun _ => Stick.ret _) fun _ => numP_ext.bind (fun _ => numP_stick.bind fun _ => (textP_stick 32).bind fun _ => numP_stick.bind fun _ => Stick.ret _) fun _ =>
 numP_ext.bind (fun _ => (textP_stick 32).bind fun _ => numP_stick.bind fun _ => Stick.ret _) fun _ => (textP_ext 32).bind (fun _ => numP_stick.bind fun _ => Stick.ret _) fun _ => numP_ext.bind (fun _ => Stick.ret _) fun _ => Ext.ret _
/-- both: what is amiss stays, and bytes behind change nothing -/
def SE {α : Type} (p : Rd Bool α) : Prop := Stick false p ∧ Ext false p
theorem SE.bind {α β : Type} {p : Rd Bool α} {f : α → Rd Bool β} (hp : SE p) (hf : ∀ x, SE (f x)) : SE (bindP p f) := ⟨hp.1.bind fun x => (hf x).1, hp.2.bind (fun x => (hf x).1) fun x => (hf x).2⟩
theorem SE.ret {α : Type} (x : α) : SE (retP (ε := Bool) x) := ⟨Stick.ret _, Ext.ret _⟩
theorem SE.acc {α : Type} {p : Rd Bool α} (h : SE p) (n : Nat) : SE (accP p n) := ⟨accP_stick h.1 n, accP_ext h.1 h.2 n⟩
theorem numSE : SE numP := ⟨numP_stick, numP_ext⟩
theorem textSE (m : Nat) : SE (textP m) := ⟨textP_stick m, textP_ext m⟩
theorem manySE (m : Int) : SE (manyP m) := ⟨manyP_stick m, manyP_ext m⟩
theorem repSE : SE repP :=
 numSE.bind fun _ => numSE.bind fun _ => numSE.bind fun _ => (manySE _).bind fun _ => ((textSE _).acc _).bind fun _ => (textSE _).bind fun _ => (textSE _).bind fun _ => (manySE _).bind fun _ => (SE.acc ⟨signP_stick, signP_ext⟩ _).bind fun _ =>
 (manySE _).bind fun _ => (SE.acc ⟨spanP_stick, spanP_ext⟩ _).bind fun _ => (textSE _).bind fun _ => (manySE _).bind fun _ => (SE.acc ⟨entP_stick, entP_ext⟩ _).bind fun _ => numSE.bind fun _ => numSE.bind fun _ => SE.ret _
theorem accP_Back {ε : Type} {g0 : ε} {α : Type} {p : Rd ε α} {f : α → List UInt8} {ok : α → Prop} (hp : Back g0 p f ok) (n : Nat) : Back g0 (accP p n) (fun l => l.flatMap f) (fun l => l.length = n ∧ ∀ x ∈ l, ok x) := by
 intro pre post l hl
 rw [← hl.1]
 exact accP_back hp pre l post hl.2
theorem signP_back : Back false signP_ signL signP := by
 intro pre post x ⟨h1, h2, h3⟩
 have hn := numP_back pre (textL x.f1 ++ post) x.f0 ⟨h2, by omega⟩
 have ht := textP_back 16 (by omega) (pre ++ putL x.f0.toNat) post x.f1 (by omega)
 unfold signP_
 rw [signL, List.append_assoc, hn]
 simp only [Bool.false_eq_true, if_false]
 rw [decide_eq_false (by omega)]
 rw [List.append_assoc, List.length_append] at ht
 rw [ht]
 refine Prod.ext ?_ (Prod.ext ?_ rfl)
 ·show (⟨x.f0 % 4294967296, x.f1⟩ : S65) = x
  rw [show x.f0 % 4294967296 = x.f0 by omega]
 ·simp only [List.length_append]; omega
theorem spanP_back : Back false spanP_ spanL spanP := by
 intro pre post x ⟨h1, h2, h3, h4⟩
 unfold spanP_
 rw [spanL, List.append_assoc, Back.bind numP_back _ pre _ x.f0 ⟨h1, by omega⟩, Back.bind numP_back _ (pre ++ putL x.f0.toNat) _ x.f1 ⟨h3, by omega⟩]
 simp only [retP, List.length_append, List.append_assoc, Nat.add_assoc]
theorem entP_back : Back false entP_ entL entP := by
 intro pre post x ⟨h1, h2, h3, h4, h5, h6, h7, h8, h9⟩
 unfold entP_
 simp only [entL, List.append_assoc]
 rw [Back.bind numP_back _ pre _ x.f0 ⟨by omega, by omega⟩, Back.bind numP_back _ _ _ x.f1 ⟨by omega, by omega⟩, Back.bind numP_back _ _ _ x.f2 ⟨by omega, by omega⟩, Back.bind (textP_back 32 (by omega)) _ _ _ x.f3 h7, Back.bind numP_back _ _ _ x.f4 ⟨by omega, by omega⟩]
 simp only [retP, List.length_append, Nat.add_assoc]
section
variable (a0 a1 a2 : Int) (ps : List ByteArray) (d s : ByteArray) (sg : List S65) (sp : List S74) (nn : ByteArray) (es : List S67) (u al : Int)
/-- a reply's bytes are read as it -/
theorem repP_back (H : FitP a0 a1 a2 ps d s sg sp nn es u al) : repP (replyL a0 a1 a2 ps d s sg sp nn es u al) 1 false = ((a0, a1, a2, ps, d, s, sg, sp, nn, es, u, al), ((replyL a0 a1 a2 ps d s sg sp nn es u al).length : Int), false) := by
 obtain ⟨h0, h1, h2, ⟨hp1, hp2⟩, hd, hs, ⟨hg1, hg2⟩, ⟨hn1, hn2⟩, ho, ⟨he1, he2⟩, hu, ha⟩ := H
 have hL : replyL a0 a1 a2 ps d s sg sp nn es u al = [2] ++ (putL a0.toNat ++ (putL a1.toNat ++ (putL a2.toNat ++ (putL (ps.length : Int).toNat ++ (ps.flatMap textL ++ (textL d ++ (textL s ++ (putL (sg.length : Int).toNat ++ (sg.flatMap signL ++ (putL (sp.length : Int).toNat ++ (sp.flatMap spanL ++ (textL nn ++ (putL (es.length : Int).toNat ++ (es.flatMap entL ++ (putL u.toNat ++ (putL al.toNat ++ [])))))))))))))))) := by
  simp only [replyL, tail0, tail1, tail2, Int.toNat_natCast, List.append_nil]; rfl
 rw [hL]
 show repP _ ((([2] : List UInt8).length : Nat) : Int) false = _
 unfold repP
 rw [Back.bind numP_back _ _ _ a0 ⟨by omega, by omega⟩, Back.bind numP_back _ _ _ a1 ⟨by omega, by omega⟩, Back.bind numP_back _ _ _ a2 ⟨by omega, by omega⟩,
  Back.bind (manyP_back 64 (by omega)) _ _ _ (ps.length : Int) ⟨by omega, by omega⟩, Back.bind (accP_Back (textP_back 32 (by omega)) (ps.length : Int).toNat) _ _ _ ps ⟨by omega, hp2⟩, Back.bind (textP_back 1024 (by omega)) _ _ _ d hd, Back.bind (textP_back 32 (by omega)) _ _ _ s (by omega),
  Back.bind (manyP_back 1024 (by omega)) _ _ _ (sg.length : Int) ⟨by omega, by omega⟩, Back.bind (accP_Back signP_back (sg.length : Int).toNat) _ _ _ sg ⟨by omega, hg2⟩, Back.bind (manyP_back 4 (by omega)) _ _ _ (sp.length : Int) ⟨by omega, by omega⟩, Back.bind (accP_Back spanP_back (sp.length : Int).toNat) _ _ _ sp ⟨by omega, hn2⟩,
  Back.bind (textP_back 12 (by omega)) _ _ _ nn (by omega), Back.bind (manyP_back 8 (by omega)) _ _ _ (es.length : Int) ⟨by omega, by omega⟩, Back.bind (accP_Back entP_back (es.length : Int).toNat) _ _ _ es ⟨by omega, he2⟩, Back.bind numP_back _ _ _ u ⟨by omega, by omega⟩, Back.bind numP_back _ _ _ al ⟨by omega, by omega⟩]
 simp only [retP, List.length_append, Nat.add_assoc, List.length_nil, Nat.add_zero]
/-- cut, or with something behind, they are none -/
theorem replyL_len (H : FitP a0 a1 a2 ps d s sg sp nn es u al) : (replyL a0 a1 a2 ps d s sg sp nn es u al).length < 60000 := by
 obtain ⟨h0, h1, h2, ⟨hp1, hp2⟩, hd, hs, ⟨hg1, hg2⟩, ⟨hn1, hn2⟩, ho, ⟨he1, he2⟩, hu, ha⟩ := H
 have f1 := flat_len textL 42 ps (fun x hx => path_len (hp2 x hx))
 have f2 := flat_len signL 22 sg (fun x hx => sign_len (hg2 x hx))
 have f3 := flat_len spanL 20 sp (fun x hx => span_len (hn2 x hx))
 have f4 := flat_len entL 82 es (fun x hx => ent_len (he2 x hx))
 have t1 := textL_len (s := d) (by omega)
 have t2 := textL_len (s := s) (by omega)
 have t3 := textL_len (s := nn) (by omega)
 have p0 := putL_ten (n := a0.toNat) (by omega)
 have p1 := putL_ten (n := a1.toNat) (by omega)
 have p2 := putL_ten (n := a2.toNat) (by omega)
 have p3 := putL_ten (n := ps.length) (by omega)
 have p4 := putL_ten (n := sg.length) (by omega)
 have p5 := putL_ten (n := sp.length) (by omega)
 have p6 := putL_ten (n := es.length) (by omega)
 have p7 := putL_ten (n := u.toNat) (by omega)
 have p8 := putL_ten (n := al.toNat) (by omega)
 simp only [replyL, tail0, tail1, tail2, List.length_cons, List.length_append]
 omega
theorem begun_cons (x : UInt8) (l : List UInt8) (y : Int) : frame_begun.f ((x :: l).map I) y = some ((x :: l).map I, 1, I x != y) := by
 unfold frame_begun.f
 rw [if_neg (by simp only [List.length_map, List.length_cons]; omega), if_pos (by simp only [List.length_map, List.length_cons]; omega)]
 rfl
theorem begun_nil (y : Int) : frame_begun.f (([] : List UInt8).map I) y = some (([] : List UInt8).map I, 1, true) := rfl
/-- bytes that are read well, but not to their end, or not at all, are no reply -/
theorem readRep_no (b : List UInt8) (hb : b.length ≤ 65536) (h : b = [] ∨ ∃ l, b = 2 :: l ∧ ((repP b 1 false).2.2 = true ∨ (repP b 1 false).2.1 ≠ (b.length : Int))) : Ev (fun k => frame_ReadReply.f k (b.map I)) (repZ 4) := by
 have hl : ¬ (((b.map I).length : Nat) : Int) > 65536 := by rw [List.length_map]; omega
 simp only [frame_ReadReply.f]
 refine ifneg hl ?_
 rcases h with rfl | ⟨l, rfl, h⟩
 ·rw [begun_nil]
  simp only [Option.bind_some]
  have hr := rpAll_ev [] (by simp) 1 true
  refine Ev.bind hr ?_
  have : (repP [] 1 true).2.2 = true := by
   have := repSE.1 [] 1 true (by simp)
   cases h2 : (repP [] 1 true).2.2
   ·exact absurd h2 this
   ·rfl
  exact ifpos this (Ev.now _)
 ·rw [begun_cons]
  simp only [Option.bind_some]
  rw [show (I 2 != 2) = false from rfl]
  refine Ev.bind (rpAll_ev (2 :: l) (by omega) 1 false) ?_
  rcases h with h | h
  ·exact ifpos h (Ev.now _)
  ·refine ite_ev (fun _ => Ev.now _) (fun _ => ifneg (by rw [List.length_map]; exact h) (Ev.now _))
theorem cut_reply (H : FitP a0 a1 a2 ps d s sg sp nn es u al) (j : Nat) (hj : j < (replyL a0 a1 a2 ps d s sg sp nn es u al).length) : Ev (fun k => frame_ReadReply.f k (((replyL a0 a1 a2 ps d s sg sp nn es u al).map I).take j)) (repZ 4) := by
 have hlen := replyL_len a0 a1 a2 ps d s sg sp nn es u al H
 have hB := repP_back a0 a1 a2 ps d s sg sp nn es u al H
 rw [← List.map_take]
 have hz : ∃ t, replyL a0 a1 a2 ps d s sg sp nn es u al = 2 :: t := ⟨_, rfl⟩
 generalize replyL a0 a1 a2 ps d s sg sp nn es u al = L at *
 obtain ⟨t, rfl⟩ := hz
 refine readRep_no _ (by rw [List.length_take]; omega) ?_
 cases j with
 | zero => exact .inl rfl
 | succ j =>
  refine .inr ⟨t.take j, rfl, ?_⟩
  rw [List.take_succ_cons]
  cases hx : (repP (2 :: t.take j) 1 false).2.2
  ·right
   have he := repSE.2 (2 :: t.take j) (t.drop j) 1 hx
   rw [List.cons_append, List.take_append_drop, hB] at he
   rw [← he]
   simp only [List.length_cons, List.length_take] at hj ⊢
   omega
  ·exact .inl rfl
theorem more_reply (H : FitP a0 a1 a2 ps d s sg sp nn es u al) (y : UInt8) : Ev (fun k => frame_ReadReply.f k ((replyL a0 a1 a2 ps d s sg sp nn es u al ++ [y]).map I)) (repZ 4) := by
 have hlen := replyL_len a0 a1 a2 ps d s sg sp nn es u al H
 have hB := repP_back a0 a1 a2 ps d s sg sp nn es u al H
 have hz : ∃ t, replyL a0 a1 a2 ps d s sg sp nn es u al = 2 :: t := ⟨_, rfl⟩
 generalize replyL a0 a1 a2 ps d s sg sp nn es u al = L at *
 refine readRep_no _ (by rw [List.length_append, List.length_singleton]; omega) ?_
 obtain ⟨t, rfl⟩ := hz
 refine .inr ⟨t ++ [y], rfl, .inr ?_⟩
 have he := repSE.2 (2 :: t) [y] 1 (by rw [hB])
 rw [hB] at he
 rw [he]
 simp only [List.length_append, List.length_cons, List.length_nil]
 omega
end
/-- a number, a text of a token's reader -/
def numC : Rd Int Int := fun b a e => if e = 0 then (if 4611686018427387904 < (getB b a).1 then 4611686018427387904 else (getB b a).1, (getB b a).2.1, (getB b a).2.2) else (0, a, e)
def textC (m : Nat) : Rd Int ByteArray := fun b a e => if e = 0 then textB b a m else (⟨#[]⟩, a, e)
def failC (c : Int) : Rd Int Unit := fun _ a e => ((), a, if e = 0 ∧ 8 < c then 4 else e)
theorem numC_ev (b : List UInt8) (hb : b.length < 1000000000000) (a : Int) (e : Int) : Ev (fun k => cap_reader_number.f k (b.map I) a e) (numC b a e) := by
 have hf := getB_facts b a
 simp only [cap_reader_number.f]
 unfold numC
 refine ite_now (fun h => ifpos h ?_) (fun h => ifneg h (Ev.now _))
 refine Ev.bind (get_ev b a hb) ?_
 rw [show wrap64 (mn (getB b a).1 4611686018427387904) = (if 4611686018427387904 < (getB b a).1 then 4611686018427387904 else (getB b a).1) by
  unfold mn wrap64
  split <;> omega]
 exact Ev.now _
theorem textC_ev (b : List UInt8) (hb : b.length < 1000000000000) (m : Nat) (hm : m < 1000000) (a : Int) (e : Int) : Ev (fun k => cap_reader_text.f k (b.map I) a e (m : Int)) (textC m b a e) := by
 simp only [cap_reader_text.f]
 unfold textC
 refine ite_now (fun h => ifpos h ?_) (fun h => ifneg h (Ev.now _))
 exact Ev.bind (text_ev b a m hb hm) (Ev.now _)
theorem numC_stick : Stick (0 : Int) numC := fun b a e h => by unfold numC; rw [if_neg h]; exact h
theorem textC_stick (m : Nat) : Stick (0 : Int) (textC m) := fun b a e h => by unfold textC; rw [if_neg h]; exact h
theorem failC_stick (c : Int) : Stick (0 : Int) (failC c) := fun b a e h => by unfold failC; simp only; rw [if_neg (fun q => h q.1)]; exact h
theorem numC_ext : Ext (0 : Int) numC := fun b c a h => by
 unfold numC at h ⊢
 rw [if_pos rfl] at h
 rw [if_pos rfl, if_pos rfl, getB_ext b c a h]
theorem textC_ext (m : Nat) : Ext (0 : Int) (textC m) := fun b c a h => by
 unfold textC at h ⊢
 rw [if_pos rfl] at h
 rw [if_pos rfl, if_pos rfl, textB_ext b c a m h]
theorem failC_ext (c : Int) : Ext (0 : Int) (failC c) := fun _ _ _ _ => rfl
def SC0 {α : Type} (p : Rd Int α) : Prop := Stick (0 : Int) p ∧ Ext (0 : Int) p
theorem SC0.bind {α β : Type} {p : Rd Int α} {f : α → Rd Int β} (hp : SC0 p) (hf : ∀ x, SC0 (f x)) : SC0 (bindP p f) := ⟨hp.1.bind fun x => (hf x).1, hp.2.bind (fun x => (hf x).1) fun x => (hf x).2⟩
theorem SC0.ret {α : Type} (x : α) : SC0 (retP (ε := Int) x) := ⟨Stick.ret _, Ext.ret _⟩
theorem SC0.acc {α : Type} {p : Rd Int α} (h : SC0 p) (n : Nat) : SC0 (accP p n) := ⟨accP_stick h.1 n, accP_ext h.1 h.2 n⟩
theorem numSC : SC0 numC := ⟨numC_stick, numC_ext⟩
theorem textSC (m : Nat) : SC0 (textC m) := ⟨textC_stick m, textC_ext m⟩
def capP_ : Rd Int SC := bindP (textC 32) fun p => bindP numC fun r => bindP numC fun u => retP ⟨p, r, u⟩
theorem capSC : SC0 capP_ := (textSC 32).bind fun _ => numSC.bind fun _ => numSC.bind fun _ => SC0.ret _
def tokP : Rd Int (Int × Int × List SC × ByteArray) := bindP numC fun a => bindP numC fun b => bindP numC fun c => bindP (failC c) fun _ => bindP (accP capP_ c.toNat) fun t => bindP (textC 32) fun s => retP (a, b, t, s)
theorem tokSC : SC0 tokP := numSC.bind fun _ => numSC.bind fun _ => numSC.bind fun c => SC0.bind ⟨failC_stick c, failC_ext c⟩ fun _ => (capSC.acc _).bind fun _ => (textSC 32).bind fun _ => SC0.ret _
/-- a token at a place of bytes -/
def decR (b : List UInt8) (a : Int) : TokR := if (tokP b a 0).2.2 = 0 then (if mayB (tokP b a 0).1.1 (tokP b a 0).1.2.1 (tokP b a 0).1.2.2.1 (tokP b a 0).1.2.2.2 = true then ((tokP b a 0).1.1, (tokP b a 0).1.2.1, (tokP b a 0).1.2.2.1, (tokP b a 0).1.2.2.2, (tokP b a 0).2.1, 0) else tokZ 4) else tokZ (tokP b a 0).2.2
theorem capAcc_ev (b : List UInt8) (hb : b.length < 1000000000000) (a e : Int) : ∀ n, Ev (fun k => capAcc k (b.map I) a e n) (accP capP_ n b a e)
 | 0 => Ev.now _
 | n + 1 => by
  rw [accP_succ]
  simp only [capAcc]
  exact Ev.bind (capAcc_ev b hb a e n) (Ev.bind (textC_ev b hb 32 (by omega) _ _) (Ev.bind (numC_ev b hb _ _) (Ev.bind (numC_ev b hb _ _) (Ev.now _))))
theorem dec_ev (b : List UInt8) (hb : b.length < 1000000000000) (a : Int) : Ev (fun k => cap_Decode.f k (b.map I) a) (decR b a) := by
 simp only [cap_Decode.f]
 refine Ev.bind (numC_ev b hb a 0) (Ev.bind (numC_ev b hb _ _) (Ev.bind (numC_ev b hb _ _) (Ev.bind (capAcc_ev b hb _ _ _) (Ev.bind (textC_ev b hb 32 (by omega) _ _) ?_))))
 unfold decR
 refine ite_now (fun h => ifpos h ?_) (fun h => ifneg h (Ev.now _))
 refine Ev.bind (may_ev _ _ _ _) ?_
 exact ite_now (fun h => ifpos h (Ev.now _)) (fun h => ifneg h (Ev.now _))
theorem decR_ext (b c : List UInt8) (a : Int) (h : (decR b a).2.2.2.2.2 = 0) : decR (b ++ c) a = decR b a := by
 by_cases h0 : (tokP b a 0).2.2 = 0
 ·have e := tokSC.2 b c a h0
  unfold decR
  rw [e]
 ·unfold decR at h
  rw [if_neg h0] at h
  exact absurd h h0
theorem numC_back : Back (0 : Int) numC (fun n => putL n.toNat) okN := fun pre post n ⟨h0, hn⟩ => by
 have hg := getB_put pre post n.toNat (by omega)
 unfold numC
 rw [if_pos rfl, hg, if_neg (by simp only; omega)]
 refine Prod.ext ?_ rfl
 simp only; omega
theorem textC_back (m : Nat) (hm : m < 1000000) : Back (0 : Int) (textC m) textL (fun s => s.size ≤ m) := fun pre post s hs => by
 have hg : textB (pre ++ (textL s ++ post)) (pre.length : Int) m = (s, ((pre.length + (textL s).length : Nat) : Int), 0) := textB_put pre post s.data.toList m hs hm
 unfold textC
 rw [if_pos rfl, hg]
theorem capP_back : Back (0 : Int) capP_ capB (fun c => goodC c = true) := fun pre post c hc => by
 obtain ⟨g1, g2, g3, g4, g5⟩ := goodC_facts hc
 have hz := placeB_le g1
 unfold capP_
 rw [show capB c ++ post = textL c.f0 ++ (putL c.f1.toNat ++ (putL c.f2.toNat ++ post)) by simp [capB, textL, List.append_assoc]]
 rw [Back.bind (textC_back 32 (by omega)) _ _ _ c.f0 hz, Back.bind numC_back _ _ _ c.f1 ⟨by omega, by omega⟩, Back.bind numC_back _ _ _ c.f2 ⟨by omega, by omega⟩]
 simp only [retP]
 refine Prod.ext rfl (Prod.ext ?_ rfl)
 simp only [List.length_append, capB, textL]
 simp only [dlen]
 omega
theorem tokP_back (pre post : List UInt8) (t n : Int) (l : List SC) (s : List UInt8) (hm : mayB t n l ⟨s.toArray⟩ = true) : tokP (pre ++ (encL t n l s ++ post)) (pre.length : Int) 0 = ((t, n, l, ⟨s.toArray⟩), ((pre.length + (encL t n l s).length : Nat) : Int), 0) := by
 obtain ⟨m1, m2, m3, m4⟩ := mayB_facts hm
 obtain ⟨k1, k2, k3, k4⟩ := knownB_facts m1
 have he : encL t n l s ++ post = putL t.toNat ++ (putL n.toNat ++ (putL (l.length : Int).toNat ++ (l.flatMap capB ++ (textL ⟨s.toArray⟩ ++ post)))) := by
  simp only [encL, firstL, textL, mk_size, Int.toNat_natCast, List.append_assoc]
 have hlen : (encL t n l s).length = (putL t.toNat).length + (putL n.toNat).length + (putL (l.length : Int).toNat).length + (l.flatMap capB).length + (textL ⟨s.toArray⟩).length := by
  simp only [encL, firstL, textL, mk_size, Int.toNat_natCast, List.length_append]; omega
 unfold tokP
 rw [he, Back.bind numC_back _ _ _ t ⟨by omega, by omega⟩, Back.bind numC_back _ _ _ n ⟨by omega, by omega⟩, Back.bind numC_back _ _ _ (l.length : Int) ⟨by omega, by omega⟩]
 rw [show ∀ (f : Unit → Rd Int (Int × Int × List SC × ByteArray)) b a, bindP (failC (l.length : Int)) f b a 0 = f () b a 0 from fun f b a => by unfold bindP failC; simp only; rw [if_neg (fun q => by omega)]]
 rw [Back.bind (accP_Back capP_back (l.length : Int).toNat) _ _ _ l ⟨by omega, fun x hx => List.all_eq_true.1 m4 x hx⟩, Back.bind (textC_back 32 (by omega)) _ _ _ ⟨s.toArray⟩ (by omega)]
 simp only [retP]
 refine Prod.ext rfl (Prod.ext ?_ rfl)
 simp only [hlen, List.length_append]
 omega
theorem decR_back (pre post : List UInt8) (t n : Int) (l : List SC) (s : List UInt8) (hm : mayB t n l ⟨s.toArray⟩ = true) : decR (pre ++ (encL t n l s ++ post)) (pre.length : Int) = (t, n, l, ⟨s.toArray⟩, ((pre.length + (encL t n l s).length : Nat) : Int), 0) := by
 unfold decR
 rw [tokP_back pre post t n l s hm, if_pos rfl, if_pos hm]
/-- the pieces that n more numbers tell, at a place, behind those that are there -/
def dL (b : List UInt8) : Nat → Int → List S119 → List S119 × Int
 | 0, a, acc => if a = (b.length : Int) then (if acc.length ≤ 1024 ∧ pcsOk false acc = true then (acc, 0) else ([], 4)) else ([], 4)
 | n + 1, a, acc => if (getB b a).2.2 = 0 then (if Go.bits .and .u64 (getB b a).1 1 = 1 then dL b n (getB b a).2.1 (acc ++ [⟨true, (getB b a).1 / 2, ⟨#[]⟩⟩]) else if (getB b a).1 / 2 > (b.length : Int) - (getB b a).2.1 then ([], 4) else dL b n ((getB b a).2.1 + (getB b a).1 / 2) (acc ++ [⟨false, 0, ⟨((b.drop (getB b a).2.1.toNat).take ((getB b a).1 / 2).toNat).toArray⟩⟩])) else ([], 4)
def decD (b : List UInt8) : List S119 × Int := if b.length > 65536 then ([], 2) else if (getB b 0).2.2 = 0 then (if (getB b 0).1 > 1024 then ([], 4) else dL b (getB b 0).1.toNat (getB b 0).2.1 []) else ([], 4)
theorem dL_ev (b : List UInt8) (hb : b.length ≤ 65536) (many : Nat) (hm : many ≤ 1024) : ∀ (n i : Nat) (a : Int) (acc : List S119), i + n = many → acc.length ≤ i → Ev (fun k => delta_Decode.l0 k (b.map I) a acc (many : Int) (i : Int)) (dL b n a acc) := by
 intro n
 induction n with
 | zero =>
  intro i a acc hi ha
  rw [dL]
  refine Ev.step (f := fun _ => if a = (b.length : Int) then (if acc.length ≤ 1024 ∧ pcsOk false acc = true then some (acc, 0) else some ([], 4)) else some ([], 4)) (fun k => ?_) ?_
  ·simp only [delta_Decode.l0]
   rw [if_neg (by omega), List.length_map]
   refine ite_congr rfl (fun _ => ?_) (fun _ => rfl)
   simp only [delta_Check.f, Option.bind_some]
   by_cases h : acc.length ≤ 1024 ∧ pcsOk false acc = true
   ·rw [if_pos h, if_pos h, if_pos rfl]
   ·rw [if_neg h, if_neg h, if_neg (by decide)]
  ·refine ite_now (fun h => ifpos h ?_) (fun h => ifneg h (Ev.now _))
   exact ite_now (fun h => ifpos h (Ev.now _)) (fun h => ifneg h (Ev.now _))
 | succ n ih =>
  intro i a acc hi ha
  have hf := getB_facts b a
  have hw : IntKind.u64.wrap ((i : Int) + 1) = ((i + 1 : Nat) : Int) := by rw [show ((i : Int) + 1) = ((i + 1 : Nat) : Int) by omega]; exact u64_nat (by omega)
  rw [dL]
  refine Ev.step (f := fun k => (num_Get.f k (b.map I) a).bind fun g => if g.2.2 = 0 then (if Go.bits .and .u64 g.1 1 = 1 then delta_Decode.l0 k (b.map I) g.2.1 (acc ++ [⟨true, wrap64 (g.1 / 2), ⟨#[]⟩⟩]) (many : Int) ((i + 1 : Nat) : Int) else if g.1 / 2 > IntKind.u64.wrap (wrap64 ((b.length : Int) - g.2.1)) then some ([], 4) else if 0 ≤ g.2.1 then (if g.2.1 ≤ wrap64 (g.2.1 + wrap64 (g.1 / 2)) then (if wrap64 (g.2.1 + wrap64 (g.1 / 2)) ≤ (b.length : Int) then delta_Decode.l0 k (b.map I) (wrap64 (g.2.1 + wrap64 (g.1 / 2))) (acc ++ [⟨false, 0, strOfNums (((b.map I).take (wrap64 (g.2.1 + wrap64 (g.1 / 2))).toNat).drop g.2.1.toNat)⟩]) (many : Int) ((i + 1 : Nat) : Int) else none) else none) else none) else some ([], 4)) (fun k => ?_) (Ev.bind (get_ev b a (by omega)) ?_)
  ·simp only [delta_Decode.l0]
   rw [if_pos (by omega), hw, List.length_map]
   simp only [if_pos (show acc.length < 4398046511104 by omega)]
  ·revert hf
   generalize (getB b a).1 = g
   generalize (getB b a).2.1 = p
   generalize (getB b a).2.2 = e
   intro ⟨f1, f2, f3, f4⟩
   have h1 : wrap64 (g / 2) = g / 2 := by unfold wrap64; omega
   refine ite_now (fun h => ifpos h ?_) (fun h => ifneg h (Ev.now _))
   simp only [h1]
   refine ite_now (fun h => ifpos h (ih (i + 1) _ _ (by omega) (by simp; omega))) (fun h => ifneg h ?_)
   have h2 : IntKind.u64.wrap (wrap64 ((b.length : Int) - p)) = (b.length : Int) - p := by
    rw [show wrap64 ((b.length : Int) - p) = (b.length : Int) - p by unfold wrap64; omega]
    obtain ⟨m, hm⟩ := Int.eq_ofNat_of_zero_le (show 0 ≤ (b.length : Int) - p by omega)
    rw [hm]
    exact u64_nat (by omega)
   rw [h2]
   refine ite_now (fun h => ifpos h (Ev.now _)) (fun h => ifneg h ?_)
   have h3 : wrap64 (p + g / 2) = p + g / 2 := by unfold wrap64; omega
   simp only [h3]
   refine ifpos f3 (ifpos (by omega) (ifpos (by omega) ?_))
   have hl : strOfNums (((b.map I).take (p + g / 2).toNat).drop p.toNat) = ⟨((b.drop p.toNat).take (g / 2).toNat).toArray⟩ := by
    rw [← List.map_take, ← List.map_drop, nums_mk, List.drop_take]
    congr 3
    omega
   rw [hl]
   exact ih (i + 1) _ _ (by omega) (by simp; omega)
theorem decD_ev (b : List UInt8) : Ev (fun k => delta_Decode.f k (b.map I)) (decD b) := by
 simp only [delta_Decode.f, decD, List.length_map]
 refine ite_now (fun h => ifpos (by omega) (Ev.now _)) (fun h => ifneg (by omega) ?_)
 have hf := getB_facts b 0
 have hT : ∀ x y, Ev (fun k => delta_Decode.j0 k (b.map I) x y true) ([], 4) := fun x y => Ev.step (f := fun _ => some ([], 4)) (fun k => by simp only [delta_Decode.j0]; rw [if_pos trivial]) (Ev.now _)
 refine Ev.bind (get_ev b 0 (by omega)) ?_
 refine ite_now (fun h => ifpos h ?_) (fun h => ifneg h (hT _ _))
 by_cases h2 : (getB b 0).1 > 1024
 ·rw [if_pos h2, decide_eq_true h2]
  exact hT _ _
 ·rw [if_neg h2, decide_eq_false h2]
  obtain ⟨m, hm⟩ := Int.eq_ofNat_of_zero_le hf.1
  rw [hm, Int.toNat_natCast]
  refine Ev.step (fun k => ?_) (dL_ev b (by omega) m (by omega) m 0 (getB b 0).2.1 [] (by omega) (by simp))
  simp only [delta_Decode.j0]
  rw [if_neg (by simp)]
  rfl
/-- may a request's path, its other texts, itself be -/
def pathB_ (k : Int) (p : ByteArray) : Bool := if k = 1 ∨ k = 3 ∨ k = 13 then placeB p else if k = 10 ∨ k = 11 ∨ k = 5 ∨ k = 6 ∨ k = 14 then p.toList == [] else goodB p
def dataB (k : Int) (d : ByteArray) : Bool := if k = 4 then ((decD d.data.toList).2 == 0) else txData k d
def textsB_ (k : Int) (a b c d : ByteArray) : Bool := txTo k a && (txName k b && (txSum k c && dataB k d))
theorem texts_ev (k0 s q t n : Int) (l : List SC) (se p a b c d : ByteArray) (hd : d.size ≤ 1000000) : Ev (fun k => frame_textsRight.f k k0 s q t n l se p a b c d) (textsB_ k0 a b c d) := by
 simp only [frame_textsRight.f, textsB_, dataB]
 by_cases h : k0 = 4
 ·rw [if_pos h]
  refine ifpos h (ifpos (by omega) (Ev.bind (decD_ev d.data.toList) (Ev.now _)))
 ·rw [if_neg h]
  exact ifneg h (Ev.now _)
theorem path_ev (k0 s q t n : Int) (l : List SC) (se p a b c d : ByteArray) : Ev (fun k => frame_pathRight.f k k0 s q t n l se p a b c d) (pathB_ k0 p) := by
 have hj1 : ∀ x : Bool, (x = true ↔ (k0 = 10 ∨ k0 = 11 ∨ k0 = 5 ∨ k0 = 6 ∨ k0 = 14)) → Ev (fun k => frame_pathRight.j1 k x k0 s q t n l se p a b c d) (if k0 = 10 ∨ k0 = 11 ∨ k0 = 5 ∨ k0 = 6 ∨ k0 = 14 then p.toList == [] else goodB p) := by
  intro x hx
  refine Ev.step (f := fun _ => if x = true then some (p.toList == []) else some (goodB p)) (fun k => ?_) ?_
  ·simp only [frame_pathRight.j1, path_Good.f, Option.bind_some]
  ·refine ite_now (fun h => ifpos (hx.2 h) (Ev.now _)) (fun h => ifneg (fun q => h (hx.1 q)) (Ev.now _))
 have hj0 : ∀ x : Bool, (x = true ↔ (k0 = 1 ∨ k0 = 3 ∨ k0 = 13)) → Ev (fun k => frame_pathRight.j0 k k0 x k0 s q t n l se p a b c d) (pathB_ k0 p) := by
  intro x hx
  unfold pathB_
  refine ite_now (fun h => ?_) (fun h => ?_)
  ·refine Ev.step (f := fun _ => some (placeB p)) (fun k => ?_) (Ev.now _)
   simp only [frame_pathRight.j0]
   rw [if_pos (hx.2 h), place_is]; rfl
  ·refine Ev.step (f := fun k => if k0 = 10 then frame_pathRight.j1 k (k0 == 10) k0 s q t n l se p a b c d else if k0 = 11 then frame_pathRight.j1 k (k0 == 11) k0 s q t n l se p a b c d else if k0 = 5 then frame_pathRight.j1 k (k0 == 5) k0 s q t n l se p a b c d else if k0 = 6 then frame_pathRight.j1 k (k0 == 6) k0 s q t n l se p a b c d else frame_pathRight.j1 k (k0 == 14) k0 s q t n l se p a b c d) (fun k => ?_) ?_
   ·simp only [frame_pathRight.j0]
    rw [if_neg (fun q => h (hx.1 q))]
   ·refine ite_ev (fun h1 => hj1 _ ?_) (fun h1 => ite_ev (fun h2 => hj1 _ ?_) (fun h2 => ite_ev (fun h3 => hj1 _ ?_) (fun h3 => ite_ev (fun h4 => hj1 _ ?_) (fun h4 => hj1 _ ?_))))
    all_goals (rw [beq_iff_eq]; omega)
 simp only [frame_pathRight.f]
 refine ite_ev (fun h1 => hj0 _ ?_) (fun h1 => ite_ev (fun h2 => hj0 _ ?_) (fun h2 => hj0 _ ?_))
 all_goals (rw [beq_iff_eq]; omega)
def rightB_ (k s q t n : Int) (l : List SC) (se p a b c d : ByteArray) : Bool := decide (0 < k ∧ k < 15 ∧ 0 ≤ s ∧ s ≤ 3 ∧ 1 ≤ q ∧ q ≤ 2147483648) && (mayB t n l se && (pathB_ k p && textsB_ k a b c d))
theorem right_ev (k0 s q t n : Int) (l : List SC) (se p a b c d : ByteArray) (hd : d.size ≤ 1000000) : Ev (fun k => frame_Right.f k k0 s q t n l se p a b c d) (rightB_ k0 s q t n l se p a b c d) := by
 simp only [frame_Right.f, within_is, Option.bind_some]
 have hF : ∀ {X : Prop} [Decidable X], ¬ X → (decide X && (mayB t n l se && (pathB_ k0 p && textsB_ k0 a b c d))) = false := fun h => by rw [decide_eq_false h]; rfl
 unfold rightB_
 refine ite_ev (fun h1 => ite_ev (fun h2 => ite_ev (fun h3 => ite_ev (fun h4 => Ev.bind (may_ev t n l se) ?_) (fun h4 => ?_)) (fun h3 => ?_)) (fun h2 => ?_)) (fun h1 => ?_)
 ·simp only [decide_eq_true_eq] at h3 h4
  rw [decide_eq_true ⟨by omega, h2, h3.1, h3.2, h4.1, h4.2⟩, Bool.true_and]
  cases hm : mayB t n l se
  ·exact ifneg Bool.false_ne_true (Ev.now _)
  refine ifpos rfl (Ev.bind (path_ev k0 s q t n l se p a b c d) ?_)
  cases hp : pathB_ k0 p
  ·exact ifneg Bool.false_ne_true (Ev.now _)
  exact ifpos rfl (Ev.bind (texts_ev k0 s q t n l se p a b c d hd) (Ev.now _))
 all_goals
  rw [hF (by simp_all <;> omega)]
  exact Ev.now _
/-- a request's bytes -/
def reqL (k s q t n : Int) (l : List SC) (se p a b c d : ByteArray) : List UInt8 := [1] ++ (putL k.toNat ++ (putL s.toNat ++ (putL q.toNat ++ (encL t n l se.data.toList ++ (textL p ++ (textL a ++ (textL b ++ (textL c ++ (textL d ++ [])))))))))
theorem rq1_ev (ns : List Int) (acc : List UInt8) (x : Int) (i : Nat) (hx : ns[i]? = some x) (h0 : 0 ≤ x) (h1 : x < 9223372036854775808) (ha : acc.length < 1000000) (hn : ns.length < 1000) {r : List Int} (h : Ev (fun k => rqPut.l0 k ((acc ++ putL x.toNat).map I) ns ((i + 1 : Nat) : Int)) r) : Ev (fun k => rqPut.l0 k (acc.map I) ns (i : Int)) r := by
 obtain ⟨hi, he⟩ := List.getElem?_eq_some_iff.1 hx
 refine Ev.step (f := fun k => (num_Put.f k (acc.map I) (IntKind.u64.wrap x)).bind fun t => rqPut.l0 k t ns ((i + 1 : Nat) : Int)) (fun k => ?_) (Ev.bind (put_ev' acc x h0 h1 ha) h)
 simp only [rqPut.l0]
 rw [if_pos (by omega), show rd ns (i : Int) = x by simp [rd, List.getD_eq_getElem?_getD, hx], wrap_succ hi (by omega)]
theorem rqPut_ev (k s q : Int) (hk : 0 ≤ k ∧ k < 1000000) (hs : 0 ≤ s ∧ s < 1000000) (hq : 0 ≤ q ∧ q < 9000000000) : Ev (fun j => rqPut.f j [1] [k, s, q]) (([1] ++ (putL k.toNat ++ (putL s.toNat ++ putL q.toNat))).map I) := by
 have h1 := putL_ten (n := k.toNat) (by omega)
 have h2 := putL_ten (n := s.toNat) (by omega)
 simp only [rqPut.f]
 refine ifneg (by simp) ?_
 refine rq1_ev [k, s, q] [1] k 0 rfl (by omega) (by omega) (by simp) (by simp) ?_
 refine rq1_ev [k, s, q] ([1] ++ putL k.toNat) s 1 rfl (by omega) (by omega) (by simp; omega) (by simp) ?_
 refine rq1_ev [k, s, q] ([1] ++ putL k.toNat ++ putL s.toNat) q 2 rfl (by omega) (by omega) (by simp; omega) (by simp) ?_
 refine Ev.step (f := fun _ => some (([1] ++ putL k.toNat ++ putL s.toNat ++ putL q.toNat).map I)) (fun j => ?_) ?_
 ·simp only [rqPut.l0]
  rw [if_neg (by simp)]
 ·simp only [List.append_assoc]
  exact Ev.now _
theorem putTexts_ev : ∀ (ts : List ByteArray) (acc : List UInt8), acc.length + 4000 * ts.length < 1000000 → (∀ x ∈ ts, x.size ≤ 3000) → Ev (fun k => putTexts k ts (acc.map I)) ((acc ++ ts.flatMap textL).map I)
 | [], acc, _, _ => by simp only [putTexts, List.flatMap_nil, List.append_nil]; exact Ev.now _
 | s :: ts, acc, ha, hs => by
  have h1 := hs s (by simp)
  have h2 := textL_len (s := s) (by omega)
  simp only [List.length_cons] at ha
  simp only [putTexts]
  refine Ev.bind (ptext_ev s acc (by omega) (by omega)) ?_
  have := putTexts_ev ts (acc ++ textL s) (by rw [List.length_append]; omega) (fun x hx => hs x (by simp [hx]))
  rw [List.append_assoc] at this
  simpa [List.flatMap_cons] using this
theorem encL_len {t n : Int} {l : List SC} {s : List UInt8} (hm : mayB t n l ⟨s.toArray⟩ = true) : (encL t n l s).length ≤ 1000 := by
 obtain ⟨m1, m2, m3, m4⟩ := mayB_facts hm
 rw [mk_size] at m3
 have h1 := firstL_len m1
 have h2 := putL_ten (n := l.length) (by omega)
 have h3 := putL_ten (n := s.length) (by omega)
 have h4 := flat_len capB 100 l (fun x hx => capB_len (List.all_eq_true.1 m4 x hx))
 simp only [encL, List.length_append]
 omega
structure SmQ (se p a b c d : ByteArray) : Prop where
 p : p.size ≤ 200
 a : a.size ≤ 200
 b : b.size ≤ 200
 c : c.size ≤ 200
 d : d.size ≤ 3000
theorem rightB_facts {k s q t n : Int} {l : List SC} {se p a b c d : ByteArray} (h : rightB_ k s q t n l se p a b c d = true) : (0 < k ∧ k < 15 ∧ 0 ≤ s ∧ s ≤ 3 ∧ 1 ≤ q ∧ q ≤ 2147483648) ∧ mayB t n l se = true := by
 simp only [rightB_, Bool.and_eq_true, decide_eq_true_eq] at h
 exact ⟨h.1, h.2.1⟩
theorem request_ev (k s q t n : Int) (l : List SC) (se p a b c d : ByteArray) (H : SmQ se p a b c d) : Ev (fun j => frame_Request.f j k s q t n l se p a b c d) (if rightB_ k s q t n l se p a b c d = true then ((reqL k s q t n l se p a b c d).map I, 0) else ([], 1)) := by
 simp only [frame_Request.f]
 refine Ev.bind (right_ev k s q t n l se p a b c d (by have := H.d; omega)) ?_
 refine ite_now (fun h => ifpos h ?_) (fun h => ifneg h (Ev.now _))
 obtain ⟨h1, hm⟩ := rightB_facts h
 have he := encode_ev t n l se.data.toList hm
 have hl := encL_len (s := se.data.toList) hm
 have p1 := putL_ten (n := k.toNat) (by omega)
 have p2 := putL_ten (n := s.toNat) (by omega)
 have p3 := putL_ten (n := q.toNat) (by omega)
 refine Ev.bind (rqPut_ev k s q ⟨by omega, by omega⟩ ⟨by omega, by omega⟩ ⟨by omega, by omega⟩) (Ev.bind he (ifpos rfl (ifpos (by simp only [List.length_map, List.length_append, List.length_cons, List.length_nil]; omega) ?_)))
 have hp := putTexts_ev [p, a, b, c, d] (([1] ++ (putL k.toNat ++ (putL s.toNat ++ putL q.toNat))) ++ encL t n l se.data.toList) (by simp only [List.length_append, List.length_cons, List.length_nil]; omega) (fun x hx => by
  have := H.p; have := H.a; have := H.b; have := H.c; have := H.d
  simp only [List.mem_cons, List.not_mem_nil, or_false] at hx
  rcases hx with rfl | rfl | rfl | rfl | rfl <;> omega)
 rw [← List.map_append]
 refine Ev.bind hp ?_
 have e : ([1] ++ (putL k.toNat ++ (putL s.toNat ++ putL q.toNat))) ++ encL t n l se.data.toList ++ [p, a, b, c, d].flatMap textL = reqL k s q t n l se p a b c d := by
  simp only [reqL, List.flatMap_cons, List.flatMap_nil, List.append_assoc]
 rw [e]
 exact Ev.now _
theorem reqL_len {k s q t n : Int} {l : List SC} {se p a b c d : ByteArray} (H : SmQ se p a b c d) (h : rightB_ k s q t n l se p a b c d = true) : (reqL k s q t n l se p a b c d).length < 60000 := by
 obtain ⟨h1, hm⟩ := rightB_facts h
 have hl := encL_len (s := se.data.toList) hm
 have p1 := putL_ten (n := k.toNat) (by omega)
 have p2 := putL_ten (n := s.toNat) (by omega)
 have p3 := putL_ten (n := q.toNat) (by omega)
 have t1 := textL_len (s := p) (by have := H.p; omega)
 have t2 := textL_len (s := a) (by have := H.a; omega)
 have t3 := textL_len (s := b) (by have := H.b; omega)
 have t4 := textL_len (s := c) (by have := H.c; omega)
 have t5 := textL_len (s := d) (by have := H.d; omega)
 have := H.p; have := H.a; have := H.b; have := H.c; have := H.d
 simp only [reqL, List.length_append, List.length_cons, List.length_nil]
 omega
/-- a request's reading ahead of Right: what is read and where it ends, or none -/
def num3P : Rd Bool (Int × Int × Int) := bindP numP fun x => bindP numP fun y => bindP numP fun z => retP (x, y, z)
def reqR (b : List UInt8) : Option ((Int × Int × Int) × TokR × List ByteArray × Int) :=
 if (num3P b 1 false).2.2 = true then none else if (decR b (num3P b 1 false).2.1).2.2.2.2.2 = 0 then
  (if (accP (textP 65536) 5 b (decR b (num3P b 1 false).2.1).2.2.2.2.1 false).2.2 = true then none else some ((num3P b 1 false).1, decR b (num3P b 1 false).2.1, (accP (textP 65536) 5 b (decR b (num3P b 1 false).2.1).2.2.2.2.1 false).1, (accP (textP 65536) 5 b (decR b (num3P b 1 false).2.1).2.2.2.2.1 false).2.1)) else none
theorem num3SE : SE num3P := numSE.bind fun _ => numSE.bind fun _ => numSE.bind fun _ => SE.ret _
theorem reqR_ext (b c : List UInt8) {x : (Int × Int × Int) × TokR × List ByteArray × Int} (h : reqR b = some x) : reqR (b ++ c) = some x := by
 unfold reqR at h
 by_cases h1 : (num3P b 1 false).2.2 = true
 ·rw [if_pos h1] at h; cases h
 ·have e1 := num3SE.2 b c 1 (by simpa using h1)
  rw [if_neg h1] at h
  by_cases h2 : (decR b (num3P b 1 false).2.1).2.2.2.2.2 = 0
  ·rw [if_pos h2] at h
   have e2 := decR_ext b c _ h2
   by_cases h3 : (accP (textP 65536) 5 b (decR b (num3P b 1 false).2.1).2.2.2.2.1 false).2.2 = true
   ·rw [if_pos h3] at h; cases h
   ·have e3 := ((textSE 65536).acc 5).2 b c (decR b (num3P b 1 false).2.1).2.2.2.2.1 (by simpa using h3)
    rw [if_neg h3] at h
    unfold reqR
    rw [e1, if_neg h1, e2, if_pos h2, e3, if_neg h3]
    exact h
  ·rw [if_neg h2] at h; cases h
theorem rdTexts_ev (b : List UInt8) (hb : b.length < 1000000000000) (a : Int) (e : Bool) : ∀ n, Ev (fun k => rdTexts k (b.map I) n a e) (accP (textP 65536) n b a e)
 | 0 => Ev.now _
 | n + 1 => by
  rw [accP_succ]
  simp only [rdTexts]
  exact Ev.bind (rdTexts_ev b hb a e n) (Ev.bind (textP_ev b hb 65536 (by omega) _ _) (Ev.now _))
/-- bytes that are read well, but not to their end, or not at all, are no request -/
theorem readReq_no (b : List UInt8) (hb : b.length ≤ 65536) (h : b = [] ∨ ∃ l, b = 1 :: l ∧ ∀ x, reqR b = some x → x.2.2.2 ≠ (b.length : Int)) : Ev (fun k => frame_ReadRequest.f k (b.map I)) (reqZ 4) := by
 have hl : ¬ (((b.map I).length : Nat) : Int) > 65536 := by rw [List.length_map]; omega
 simp only [frame_ReadRequest.f]
 refine ifneg hl ?_
 rcases h with rfl | ⟨l, rfl, h⟩
 ·rw [begun_nil]
  simp only [Option.bind_some]
  refine Ev.bind (numP_ev [] (by simp) 1 true) (Ev.bind (numP_ev [] (by simp) _ _) (Ev.bind (numP_ev [] (by simp) _ _) (ifpos rfl (Ev.now _))))
 ·rw [begun_cons]
  simp only [Option.bind_some]
  rw [show (I 1 != 1) = false from rfl]
  generalize hbb : (1 :: l : List UInt8) = b at *
  have hb' : b.length < 1000000000000 := by omega
  refine Ev.bind (numP_ev b hb' 1 false) (Ev.bind (numP_ev b hb' _ _) (Ev.bind (numP_ev b hb' _ _) ?_))
  have e3 : num3P b 1 false = (((numP b 1 false).1, (numP b (numP b 1 false).2.1 (numP b 1 false).2.2).1, (numP b (numP b (numP b 1 false).2.1 (numP b 1 false).2.2).2.1 (numP b (numP b 1 false).2.1 (numP b 1 false).2.2).2.2).1), (numP b (numP b (numP b 1 false).2.1 (numP b 1 false).2.2).2.1 (numP b (numP b 1 false).2.1 (numP b 1 false).2.2).2.2).2) := rfl
  unfold reqR at h
  rw [e3] at h
  simp only at h
  generalize (numP b (numP b (numP b 1 false).2.1 (numP b 1 false).2.2).2.1 (numP b (numP b 1 false).2.1 (numP b 1 false).2.2).2.2) = z at h ⊢
  refine ite_ev (fun _ => Ev.now _) (fun h1 => ?_)
  rw [if_neg h1] at h
  refine Ev.bind (dec_ev b hb' z.2.1) (ite_ev (fun h2 => ?_) (fun _ => Ev.now _))
  rw [if_pos h2] at h
  refine Ev.bind (rdTexts_ev b hb' _ _ 5) (ite_ev (fun _ => Ev.now _) (fun h3 => ?_))
  rw [if_neg h3] at h
  exact ifneg (by rw [List.length_map]; exact h _ rfl) (Ev.now _)
theorem reqR_back {k s q t n : Int} {l : List SC} {se p a b c d : ByteArray} (H : SmQ se p a b c d) (h : rightB_ k s q t n l se p a b c d = true) : ∃ x, reqR (reqL k s q t n l se p a b c d) = some x ∧ x.2.2.2 = ((reqL k s q t n l se p a b c d).length : Int) := by
 obtain ⟨h1, hm⟩ := rightB_facts h
 have hm' : mayB t n l ⟨se.data.toList.toArray⟩ = true := hm
 have e3 : num3P (reqL k s q t n l se p a b c d) 1 false = ((k, s, q), ((([1] ++ putL k.toNat) ++ putL s.toNat ++ putL q.toNat).length : Int), false) := by
  show num3P _ ((([1] : List UInt8).length : Nat) : Int) false = _
  unfold num3P reqL
  rw [Back.bind numP_back _ _ _ k ⟨by omega, by omega⟩, Back.bind numP_back _ _ _ s ⟨by omega, by omega⟩, Back.bind numP_back _ _ _ q ⟨by omega, by omega⟩]
  rfl
 have e0 : reqL k s q t n l se p a b c d = (([1] ++ putL k.toNat) ++ putL s.toNat ++ putL q.toNat) ++ (encL t n l se.data.toList ++ (([p, a, b, c, d] : List ByteArray).flatMap textL ++ [])) := by
  simp only [reqL, List.flatMap_cons, List.flatMap_nil, List.append_assoc, List.append_nil]
 have e4 := decR_back (([1] ++ putL k.toNat) ++ putL s.toNat ++ putL q.toNat) (([p, a, b, c, d] : List ByteArray).flatMap textL ++ []) t n l se.data.toList hm'
 rw [← e0] at e4
 have e5 := accP_back (textP_back 65536 (by omega)) ((([1] ++ putL k.toNat) ++ putL s.toNat ++ putL q.toNat) ++ encL t n l se.data.toList) [p, a, b, c, d] [] (fun x hx => by
  have := H.p; have := H.a; have := H.b; have := H.c; have := H.d
  simp only [List.mem_cons, List.not_mem_nil, or_false] at hx
  show x.size ≤ 65536
  rcases hx with rfl | rfl | rfl | rfl | rfl <;> omega)
 rw [List.append_assoc, ← e0, List.length_append] at e5
 have hlen : (reqL k s q t n l se p a b c d).length = ((([1] ++ putL k.toNat) ++ putL s.toNat ++ putL q.toNat).length + (encL t n l se.data.toList).length + (([p, a, b, c, d] : List ByteArray).flatMap textL).length) := by
  rw [e0]; simp only [List.length_append, List.length_nil]; omega
 refine ⟨((k, s, q), (t, n, l, ⟨se.data.toList.toArray⟩, ((((([1] ++ putL k.toNat) ++ putL s.toNat ++ putL q.toNat).length + (encL t n l se.data.toList).length : Nat)) : Int), 0), [p, a, b, c, d], ((reqL k s q t n l se p a b c d).length : Int)), ?_, rfl⟩
 unfold reqR
 rw [e3]
 simp only [Bool.false_eq_true, if_false]
 rw [e4]
 simp only [if_true]
 rw [show (5 : Nat) = ([p, a, b, c, d] : List ByteArray).length from rfl, e5]
 simp only [Bool.false_eq_true, if_false]
 rw [hlen]
theorem cut_req {k s q t n : Int} {l : List SC} {se p a b c d : ByteArray} (H : SmQ se p a b c d) (h : rightB_ k s q t n l se p a b c d = true) (j : Nat) (hj : j < (reqL k s q t n l se p a b c d).length) : Ev (fun i => frame_ReadRequest.f i (((reqL k s q t n l se p a b c d).map I).take j)) (reqZ 4) := by
 have hlen := reqL_len H h
 obtain ⟨x, hB, hx⟩ := reqR_back H h
 rw [← List.map_take]
 have hz : ∃ t', reqL k s q t n l se p a b c d = 1 :: t' := ⟨_, rfl⟩
 generalize reqL k s q t n l se p a b c d = L at *
 obtain ⟨t', rfl⟩ := hz
 refine readReq_no _ (by rw [List.length_take]; omega) ?_
 cases j with
 | zero => exact .inl rfl
 | succ j =>
  refine .inr ⟨t'.take j, rfl, fun y hy => ?_⟩
  rw [List.take_succ_cons] at hy ⊢
  have he := reqR_ext (1 :: t'.take j) (t'.drop j) hy
  rw [List.cons_append, List.take_append_drop, hB] at he
  obtain rfl := Option.some.inj he
  rw [hx]
  simp only [List.length_cons, List.length_take] at hj ⊢
  omega
theorem more_req {k s q t n : Int} {l : List SC} {se p a b c d : ByteArray} (H : SmQ se p a b c d) (h : rightB_ k s q t n l se p a b c d = true) (y : UInt8) : Ev (fun i => frame_ReadRequest.f i ((reqL k s q t n l se p a b c d ++ [y]).map I)) (reqZ 4) := by
 have hlen := reqL_len H h
 obtain ⟨x, hB, hx⟩ := reqR_back H h
 have hz : ∃ t', reqL k s q t n l se p a b c d = 1 :: t' := ⟨_, rfl⟩
 generalize reqL k s q t n l se p a b c d = L at *
 refine readReq_no _ (by rw [List.length_append, List.length_singleton]; omega) ?_
 obtain ⟨t', rfl⟩ := hz
 refine .inr ⟨t' ++ [y], rfl, fun z hz => ?_⟩
 have he := reqR_ext (1 :: t') [y] hB
 rw [he] at hz
 obtain rfl := Option.some.inj hz
 rw [hx]
 simp only [List.length_append, List.length_cons, List.length_nil]
 omega
/-- is a request so small that it is gone through -/
theorem small_ev (k s q t n : Int) (l : List SC) (se p a b c d : ByteArray) : ∃ v, Ev (fun i => strongroomlaw25_small.f i k s q t n l se p a b c d) v ∧ (v = true → SmQ se p a b c d) := by
 have hT : Ev (fun i => strongroomlaw25_small.j0 i true k s q t n l se p a b c d) false := Ev.step (f := fun _ => some false) (fun i => by simp only [strongroomlaw25_small.j0]; rw [if_pos trivial]) (Ev.now _)
 by_cases h1 : l.length ≤ 40 ∧ se.size ≤ 200 ∧ p.size ≤ 200 ∧ a.size ≤ 200 ∧ b.size ≤ 200 ∧ c.size ≤ 200 ∧ d.size ≤ 3000
 ·obtain ⟨h1, h2, h3, h4, h5, h6, h7⟩ := h1
  refine ⟨if (l.all fun x => decide (x.f0.size ≤ 200)) = true then true else false, ?_, fun _ => ⟨h3, h4, h5, h6, h7⟩⟩
  simp only [strongroomlaw25_small.f]
  refine ifneg (by omega) (ifneg (by omega) (ifneg (by omega) (ifneg (by omega) (ifneg (by omega) (ifneg (by omega) ?_)))))
  rw [decide_eq_false (by omega)]
  refine Ev.step (f := fun i => strongroomlaw25_small.l0 i 0 k s q t n l se p a b c d) (fun i => by simp only [strongroomlaw25_small.j0]; rw [if_neg Bool.false_ne_true]) ?_
  refine all_loopG l (fun x => decide (x.f0.size ≤ 200)) true false (fun k_ i => strongroomlaw25_small.l0 k_ i k s q t n l se p a b c d) (fun i c' cs hd hc r hr => ?_) (fun i c' cs hd hc => ?_) ?_ l 0 rfl (Nat.zero_le _)
  ·obtain ⟨r1, _, hlt⟩ := rd_drop l i c' cs hd
   simp only [decide_eq_true_eq] at hc
   refine Ev.step (fun k_ => ?_) hr
   simp only [strongroomlaw25_small.l0, r1]
   rw [if_pos (by omega), if_pos (by omega), if_neg (by omega), wrap_succ hlt (by omega)]
  ·obtain ⟨r1, _, hlt⟩ := rd_drop l i c' cs hd
   simp only [decide_eq_false_iff_not] at hc
   refine Ev.step (f := fun _ => some false) (fun k_ => ?_) (Ev.now _)
   simp only [strongroomlaw25_small.l0, r1]
   rw [if_pos (by omega), if_pos (by omega), if_pos (by omega)]
  ·refine Ev.step (f := fun _ => some true) (fun k_ => ?_) (Ev.now _)
   simp only [strongroomlaw25_small.l0]
   rw [if_neg (by omega)]
 ·refine ⟨false, ?_, fun h => by cases h⟩
  simp only [strongroomlaw25_small.f]
  refine ite_ev (fun _ => hT) (fun g1 => ite_ev (fun _ => hT) (fun g2 => ite_ev (fun _ => hT) (fun g3 => ite_ev (fun _ => hT) (fun g4 => ite_ev (fun _ => hT) (fun g5 => ite_ev (fun _ => hT) (fun g6 => ?_))))))
  rw [decide_eq_true (by omega)]
  exact hT
theorem reply_any (a0 a1 a2 : Int) (ps : List ByteArray) (d s : ByteArray) (sg : List S65) (sp : List S74) (nn : ByteArray) (es : List S67) (u al : Int) (hw : ∀ x ∈ sg, 0 ≤ x.f0 ∧ x.f0 < 4294967296) (h : ps.length < 1000 ∧ sg.length < 10000 ∧ sp.length < 1000 ∧ es.length < 1000) :
  (Ev (fun k => frame_Reply.f k a0 a1 a2 ps d s sg sp nn es u al) ([], 1)) ∨ (FitP a0 a1 a2 ps d s sg sp nn es u al ∧ Ev (fun k => frame_Reply.f k a0 a1 a2 ps d s sg sp nn es u al) ((replyL a0 a1 a2 ps d s sg sp nn es u al).map I, 0)) := by
 obtain ⟨b1, b2, b3, b4⟩ := h
 have hf := fits_ev a0 a1 a2 ps d s sg sp nn es u al b1 b2 b3 b4
 cases hB : fitsB a0 a1 a2 ps d s sg sp nn es u al
 ·rw [hB] at hf
  left
  simp only [frame_Reply.f]
  exact Ev.bind hf (ifneg (by simp) (Ev.now _))
 ·have H := fitP_of a0 a1 a2 ps d s sg sp nn es u al hw hB
  rw [hB] at hf
  exact .inr ⟨H, reply_ev a0 a1 a2 ps d s sg sp nn es u al H hf⟩
theorem ev_imp {α : Type} {p : Prop} {g : Nat → Option α} {r : α} (h : p → Ev g r) : ∃ K, ∀ k, K ≤ k → p → g k = some r := by
 by_cases hp : p
 ·obtain ⟨K, h⟩ := h hp
  exact ⟨K, fun k hk _ => h k hk⟩
 ·exact ⟨0, fun _ _ h => absurd h hp⟩
theorem FrameCuts (k s q t n : Int) (l : List SC) (se p a b c d : ByteArray) (a0 a1 a2 : Int) (ps : List ByteArray) (d' s' : ByteArray) (sg : List S65) (sp : List S74) (nn : ByteArray) (es : List S67) (u al : Int) (n0 n1 : Int) (hw : ∀ x ∈ sg, 0 ≤ x.f0 ∧ x.f0 < 4294967296) :
  ∃ (i : Nat) (sm li : Bool) (x y : List Int) (ex ey : Int), strongroomlaw25_lives.f i = some true ∧ strongroomlaw25_small.f i k s q t n l se p a b c d = some sm
   ∧ (sm = true → strongroomlaw25_little.f i a0 a1 a2 ps d' s' sg sp nn es u al = some li)
   ∧ (sm = true → li = true → frame_Request.f i k s q t n l se p a b c d = some (x, ex))
   ∧ (sm = true → li = true → frame_Reply.f i a0 a1 a2 ps d' s' sg sp nn es u al = some (y, ey))
   ∧ (x.length < 1000000 ∧ y.length < 1000000)
   ∧ (ex = 0 → frame_ReadRequest.f i (x ++ [n1 % 256]) = some (reqZ 4))
   ∧ (ex = 0 → 0 ≤ n0 → n0 < x.length → frame_ReadRequest.f i (x.take n0.toNat) = some (reqZ 4))
   ∧ (ey = 0 → frame_ReadReply.f i (y ++ [n1 % 256]) = some (repZ 4))
   ∧ (ey = 0 → 0 ≤ n0 → n0 < y.length → frame_ReadReply.f i (y.take n0.toNat) = some (repZ 4)) := by
 have hy : [n1 % 256] = [UInt8.ofNat (n1 % 256).toNat].map I := by
  rw [List.map_cons, List.map_nil, I_ofNat (by omega)]
  congr 1; omega
 rw [hy]
 obtain ⟨sm, es1, fs1⟩ := small_ev k s q t n l se p a b c d
 obtain ⟨li, es2, fs2⟩ := little_ev a0 a1 a2 ps d' s' sg sp nn es u al
 obtain ⟨x, ex, h3, hx, h5, h6⟩ : ∃ (x : List Int) (ex : Int), (sm = true → Ev (fun i => frame_Request.f i k s q t n l se p a b c d) (x, ex)) ∧ x.length < 1000000
   ∧ (ex = 0 → Ev (fun i => frame_ReadRequest.f i (x ++ [UInt8.ofNat (n1 % 256).toNat].map I)) (reqZ 4))
   ∧ (ex = 0 ∧ 0 ≤ n0 ∧ n0 < x.length → Ev (fun i => frame_ReadRequest.f i (x.take n0.toNat)) (reqZ 4)) := by
  by_cases hs : sm = true
  ·have hr := request_ev k s q t n l se p a b c d (fs1 hs)
   by_cases hB : rightB_ k s q t n l se p a b c d = true
   ·rw [if_pos hB] at hr
    have hl := reqL_len (fs1 hs) hB
    refine ⟨_, _, fun _ => hr, by rw [List.length_map]; omega, fun _ => ?_, fun ⟨_, h0, h1⟩ => cut_req (fs1 hs) hB n0.toNat (by rw [List.length_map] at h1; omega)⟩
    have := more_req (fs1 hs) hB (UInt8.ofNat (n1 % 256).toNat)
    rwa [List.map_append] at this
   ·rw [if_neg hB] at hr
    exact ⟨_, _, fun _ => hr, by simp, fun h => absurd h (by omega), fun ⟨h, _⟩ => absurd h (by omega)⟩
  ·exact ⟨[], 1, fun h => absurd h hs, by simp, fun h => absurd h (by omega), fun ⟨h, _⟩ => absurd h (by omega)⟩
 obtain ⟨y, ey, h4, hyl, h7, h8⟩ : ∃ (y : List Int) (ey : Int), (li = true → Ev (fun i => frame_Reply.f i a0 a1 a2 ps d' s' sg sp nn es u al) (y, ey)) ∧ y.length < 1000000
   ∧ (ey = 0 → Ev (fun i => frame_ReadReply.f i (y ++ [UInt8.ofNat (n1 % 256).toNat].map I)) (repZ 4))
   ∧ (ey = 0 ∧ 0 ≤ n0 ∧ n0 < y.length → Ev (fun i => frame_ReadReply.f i (y.take n0.toNat)) (repZ 4)) := by
  by_cases hs : li = true
  ·rcases reply_any a0 a1 a2 ps d' s' sg sp nn es u al hw (fs2 hs) with hr | ⟨H, hr⟩
   ·exact ⟨_, _, fun _ => hr, by simp, fun h => absurd h (by omega), fun ⟨h, _⟩ => absurd h (by omega)⟩
   ·have hl := replyL_len a0 a1 a2 ps d' s' sg sp nn es u al H
    refine ⟨_, _, fun _ => hr, by rw [List.length_map]; omega, fun _ => ?_, fun ⟨_, h0, h1⟩ => cut_reply a0 a1 a2 ps d' s' sg sp nn es u al H n0.toNat (by rw [List.length_map] at h1; omega)⟩
    have := more_reply a0 a1 a2 ps d' s' sg sp nn es u al H (UInt8.ofNat (n1 % 256).toNat)
    rwa [List.map_append] at this
  ·exact ⟨[], 1, fun h => absurd h hs, by simp, fun h => absurd h (by omega), fun ⟨h, _⟩ => absurd h (by omega)⟩
 obtain ⟨k0, e0⟩ := lives_ev
 obtain ⟨k1, e1⟩ := es1
 obtain ⟨k2, e2⟩ := es2
 obtain ⟨k3, e3⟩ := ev_imp h3
 obtain ⟨k4, e4⟩ := ev_imp h4
 obtain ⟨k5, e5⟩ := ev_imp h5
 obtain ⟨k6, e6⟩ := ev_imp h6
 obtain ⟨k7, e7⟩ := ev_imp h7
 obtain ⟨k8, e8⟩ := ev_imp h8
 exact ⟨k0 + k1 + k2 + k3 + k4 + k5 + k6 + k7 + k8, sm, li, x, y, ex, ey, e0 _ (by omega), e1 _ (by omega), fun _ => e2 _ (by omega), fun h _ => e3 _ (by omega) h, fun _ h => e4 _ (by omega) h, ⟨hx, hyl⟩,
  fun h => e5 _ (by omega) h, fun h h' h'' => e6 _ (by omega) ⟨h, h', h''⟩, fun h => e7 _ (by omega) h, fun h h' h'' => e8 _ (by omega) ⟨h, h', h''⟩⟩

end Go.Proofs.YtoankokkdmbjmaaDoor.Pure
