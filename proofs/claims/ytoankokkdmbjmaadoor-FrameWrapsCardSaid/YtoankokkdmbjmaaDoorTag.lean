/- The walks of cipher's keys and tag. -/
import Derived.Test.YtoankokkdmbjmaaDoorHi
import Derived.Test.YtoankokkdmbjmaaDoorApp
import Derived.Test.YtoankokkdmbjmaaDoorJb
import Derived.Laws.Concat
namespace Go.Proofs.YtoankokkdmbjmaaDoor
open Go.RowKit Go.Lib

/-- "strongroom seal" -/
def sealLab : List UInt8 := [115, 116, 114, 111, 110, 103, 114, 111, 111, 109, 32, 115, 101, 97, 108]
def kdf (secret : List UInt8) : List UInt8 := dout secret sealLab 2
def key1 (secret : List UInt8) : List UInt8 := (kdf secret).take 32
def key2 (secret : List UInt8) : List UInt8 := (kdf secret).drop 32
theorem kdf_length (secret : List UInt8) : (kdf secret).length = 64 := dout_length _ _ 2
theorem key1_length (secret : List UInt8) : (key1 secret).length = 32 := by simp [key1, kdf_length]
theorem key2_length (secret : List UInt8) : (key2 secret).length = 32 := by simp [key2, kdf_length]

/-- the first i of a number's eight bytes, the lowest first -/
def le8 (n i : Nat) : List UInt8 := (List.range i).map fun j => UInt8.ofNat (n / 2 ^ (8 * j))
theorem le8_succ (n i : Nat) : le8 n (i + 1) = le8 n i ++ [UInt8.ofNat (n / 2 ^ (8 * i))] := by
  unfold le8; rw [List.range_succ, List.map_append]; rfl
theorem le8_length (n i : Nat) : (le8 n i).length = i := by simp [le8]
def tagM (nonce lab hidden : List UInt8) : List UInt8 := nonce ++ le8 lab.length 8 ++ lab ++ hidden
def tagP (key nonce lab hidden : List UInt8) : List UInt8 := (sealB key (tagM nonce lab hidden)).take 16
theorem tagP_length (key nonce lab hidden : List UInt8) : (tagP key nonce lab hidden).length = 16 := by simp [tagP, seal_length]

theorem extract_mk (l : List UInt8) (a b : Nat) : (ByteArray.mk l.toArray).extract a b = ⟨((l.take b).drop a).toArray⟩ := by
  apply ByteArray.ext
  simp [ByteArray.data_extract, List.drop_take]

set_option maxRecDepth 100000 in
set_option maxHeartbeats 2000000 in
theorem keys_any (secret : List UInt8) (w : World) (hk : secret.length ≤ 1099511627776) :
    Calls Tryd.prog 90 #[.string ⟨secret.toArray⟩] w fun e w' => e = .returned (.tuple #[.string ⟨(key1 secret).toArray⟩, .string ⟨(key2 secret).toArray⟩]) ∧ Below w.heap.size w w' := by
  go_enter Tryd.func90, Tryd.ntmps90
  go_wp2_with fail
  refine (derive_any secret sealLab _ hk (by decide)).mono ?_
  rintro e w1 ⟨rfl, hl1⟩
  have Hl1 := Lib.hid hl1
  clear hl1
  obtain ⟨K, hK⟩ : ∃ K, K = dout secret sealLab 2 := ⟨_, rfl⟩
  rw [← hK]
  have hKl : K.length = 64 := by rw [hK]; exact kdf_length secret
  have hl1 : (32 : Int) ≤ (K.length : Int) := by omega
  have HK := Lib.hid hK
  have HKl := Lib.hid hKl
  clear hK hKl
  go_wp2_with fail
  go_quiet (fail)
  go_wp2_with fail
  rw [extract_mk, extract_mk]
  go_ret2
  refine ⟨?_, below_drewN' Hl1.out _⟩
  have e1 : key1 secret = (K.take 32).drop 0 := by rw [HK.out]; rfl
  have e2 : key2 secret = (K.take K.length).drop 32 := by rw [List.take_of_length_le (Nat.le_refl _), HK.out]; rfl
  rw [e1, e2]
  rfl

theorem new_cells (w : World) (t : TypeId) (cs : Array Value) (l : List UInt8) (h : cs = (bv l).toArray) : ∀ j u, (bv l)[j]? = some u → (w.alloc (.cells cs t)).cell? ((⟨w.heap.size, 0, none⟩ : Addr).add j) = some u := by
  subst h
  intro j u hu
  have hadd : (⟨w.heap.size, 0, none⟩ : Addr).add j = ⟨w.heap.size, j, none⟩ := by unfold Addr.add; split <;> simp_all
  rw [hadd, World.cell?_alloc_mark w _ t (0, 0) j]
  simpa using hu
theorem le8_cell (n j : Nat) : (#[.int .u8 ((n : Int) / 2 ^ (8 * j) % 256)] : Array Value) = (bv [UInt8.ofNat (n / 2 ^ (8 * j))]).toArray := by
  have : (n : Int) / 2 ^ (8 * j) % 256 = I8 (UInt8.ofNat (n / 2 ^ (8 * j))) := by
    rw [← I8_mod, Int.natCast_emod, Int.natCast_ediv, Int.natCast_pow]; rfl
  rw [this]; rfl

set_option maxRecDepth 100000 in
set_option maxHeartbeats 2000000 in
theorem tag_any (key nonce lab hidden : List UInt8) (w : World) (hk : key.length ≤ 1099511627776) (hn : nonce.length ≤ 1000000) (hl : lab.length ≤ 1000000) (hh : hidden.length ≤ 1000000) :
    Calls Tryd.prog 92 #[.string ⟨key.toArray⟩, .string ⟨nonce.toArray⟩, .string ⟨lab.toArray⟩, .string ⟨hidden.toArray⟩] w fun e w' => e = .returned (.string ⟨(tagP key nonce lab hidden).toArray⟩) ∧ Below w.heap.size w w' := by
  have Hn := Lib.hid hn
  have Hl := Lib.hid hl
  have Hh := Lib.hid hh
  clear hn hl hh
  go_enter Tryd.func92, Tryd.ntmps92
  go_wp2_with fail
  refine abs_world ?_
  intro w1 hw1
  have hm1 : OwnM w1 w.heap.size (.slice (some ⟨w.heap.size, 0, none⟩) nonce.length (bcap w nonce)) nonce := by rw [hw1]; exact OwnM.bw w nonce (by have := Hn.out; omega)
  have hb1 : Below w.heap.size w w1 := by rw [hw1]; exact bw_below w nonce
  have Hm1 := Lib.hid hm1
  have Hb1 := Lib.hid hb1
  clear hw1 hm1 hb1
  go_loopw [9, 13] (fun b i wr => ∃ j : Nat, i = .int .i64 j ∧ j ≤ 8 ∧ OwnM wr w.heap.size b (nonce ++ le8 lab.length j) ∧ Below w.heap.size w wr) (fun _ i _ => 8 - (intOf i).toNat)
  case atStart => exact ⟨0, rfl, by omega, by have := Hm1.out; simpa [le8] using this, Hb1.out⟩
  case round =>
    obtain ⟨j, rfl, hj, hm, hb⟩ := hrel
    obtain ⟨g, cap, hv⟩ := hm.form
    subst hv
    have Hm := Lib.hid hm
    have Hb := Lib.hid hb
    clear hm hb
    obtain ⟨L, hL⟩ : ∃ L, L = nonce ++ le8 lab.length j := ⟨_, rfl⟩
    rw [← hL] at Hm ⊢
    have HL := Lib.hid hL
    clear hL
    obtain ⟨ln, hln⟩ : ∃ ln, ln = lab.length := ⟨_, rfl⟩
    have Hln := Lib.hid hln
    by_cases h8 : j < 8
    · have hd : decide ((j : Int) < 8) = true := by simp; omega
      have hc := le8_cell ln j
      rw [hln] at hc
      have Hc := Lib.hid hc
      clear hc hln
      go_wp2_with (at_builtin; refine wpList_appM rfl (.tmp 16) (.tmp 23) rfl w.heap.size (.slice (some ⟨g, 0, none⟩) L.length cap) L rfl (Hm.out.alloc _) [UInt8.ofNat (lab.length / 2 ^ (8 * j))] 1 rfl ⟨wr.heap.size, 0, none⟩ 1 rfl (new_cells _ _ _ _ Hc.out) (by rw [HL.out, List.length_append, le8_length]; have := Hn.out; simp; omega) (by have := Hb.out.size; simp; omega) ?_; intro v1 w2 hm2 hg2)
      have hrep : L ++ [UInt8.ofNat (lab.length / 2 ^ (8 * j))] = nonce ++ le8 lab.length (j + 1) := by rw [HL.out, List.append_assoc, ← le8_succ]
      rw [hrep] at hm2
      go_roundw
      case rel => exact ⟨j + 1, by go_num, by omega, hm2, below_appM (Hb.out.alloc Hb.out.size _) (Hm.out.alloc _) hg2 (Nat.le_refl _) (Nat.le_trans Hb.out.size (by simp))⟩
      case measure => simp [intOf]; omega
    · have hd : decide ((j : Int) < 8) = false := by simp; omega
      have hj8 : j = 8 := by omega
      have hLl : L.length = nonce.length + 8 := by rw [HL.out, hj8, List.length_append, le8_length]
      have HLl := Lib.hid hLl
      have Hj := Lib.hid hj8
      clear hLl hj8 hln
      go_wp2_with (first
        | (at_builtin; refine wpList_appM_str rfl (.tmp 26) (.tmp 27) rfl w.heap.size (.slice (some ⟨g, 0, none⟩) L.length cap) L rfl Hm.out lab rfl (by have := HLl.out; have := Hn.out; have := Hl.out; omega) Hb.out.size ?_; intro v1 w2 hm2 hg2; have hb2 := below_appM Hb.out Hm.out hg2 (Nat.le_refl _) Hb.out.size; have Hm2 := Lib.hid hm2; have Hb2 := Lib.hid hb2; clear hm2 hg2 hb2)
        | (at_builtin; refine wpList_appM_str rfl (.tmp 28) (.tmp 29) rfl w.heap.size v1 (L ++ lab) rfl Hm2.out hidden rfl (by have := HLl.out; have := Hn.out; have := Hl.out; have := Hh.out; rw [List.length_append]; omega) Hb2.out.size ?_; intro v3 w3 hm3 hg3; have hb3 := below_appM Hb2.out Hm2.out hg3 (Nat.le_refl _) Hb2.out.size; have hs3 := hm3.string; have Hm3 := Lib.hid hm3; have Hb3 := Lib.hid hb3; clear hm3 hg3 hb3))
      refine (seal_any key (L ++ (lab ++ hidden)) _ hk (by have := HLl.out; have := Hn.out; have := Hl.out; have := Hh.out; rw [List.length_append, List.length_append]; omega)).mono ?_
      rintro e w4 ⟨rfl, hl4⟩
      obtain ⟨D, hD⟩ : ∃ D, D = sealB key (L ++ (lab ++ hidden)) := ⟨_, rfl⟩
      rw [← hD]
      have hDl : D.length = 32 := by rw [hD, seal_length]
      have hD16 : (16 : Int) ≤ (D.length : Int) := by omega
      have hB := Hb3.out.trans (hl4.mono Hb3.out.size)
      have HD := Lib.hid hD
      have HB := Lib.hid hB
      clear hD hl4 hB hDl
      go_wp2_with fail
      rw [extract_mk]
      go_ret
      refine ⟨?_, HB.out⟩
      have e1 : tagP key nonce lab hidden = (D.take 16).drop 0 := by
        rw [HD.out, HL.out, Hj.out]
        simp [tagP, tagM]
      rw [e1]
      rfl
end Go.Proofs.YtoankokkdmbjmaaDoor
