/- frame.Wrap and Unwrap, and the reference's, in the print's form. -/
import Derived.Test.YtoankokkdmbjmaaDoorRo
import Derived.Test.YtoankokkdmbjmaaDoorWq
namespace Go.Proofs.YtoankokkdmbjmaaDoor
open Go.RowKit Go.Lib
set_option linter.unusedSimpArgs false
set_option linter.unusedVariables false

abbrev frLab : List UInt8 := [115, 116, 114, 111, 110, 103, 114, 111, 111, 109, 32, 102, 114, 97, 109, 101]
theorem kn_dec (t y n : Int) : kn t y n ↔ ((1 ≤ t ∧ t ≤ 8) ∧ (0 ≤ y ∧ y ≤ 1) ∧ (0 ≤ n ∧ n ≤ 4611686018427387904)) := Iff.rfl
set_option maxHeartbeats 1000000 in
theorem wrap_yes (secret text : List UInt8) (t y n : Int) (w : World) (h : kn t y n) (hs : secret.length ≤ 1000) (ht : text.length ≤ 65000) :
    Calls Tryd.prog 26 #[.string ⟨secret.toArray⟩, .int .i64 t, .int .i64 y, .int .i64 n, .string ⟨text.toArray⟩] w fun e w' => e = .returned (.tuple #[.string ⟨(sealP secret (nonB y t n) frLab text).toArray⟩, .int .i64 0]) ∧ Below w.heap.size w w' := by
  have H := Lib.hid h
  have Hs := Lib.hid hs
  have Ht := Lib.hid ht
  clear h hs ht
  go_enter Tryd.func26, Tryd.ntmps26
  go_wp2_with fail
  refine (known_yes t y n _ H.out).mono ?_
  rintro e w' ⟨rfl, rfl⟩
  go_wp2_with fail
  refine (nonceOf_any t y n _ H.out).mono ?_
  rintro e w1 ⟨rfl, hl1⟩
  have Hl1 := Lib.hid hl1
  clear hl1
  go_wp2_with fail
  refine (cseal_any secret (nonB y t n) frLab text _ (by have := Hs.out; omega) (nonB_length y t n) (by decide) (by have := Ht.out; omega)).mono ?_
  rintro e w2 ⟨rfl, hl2⟩
  have Hl2 := Lib.hid hl2
  clear hl2
  go_wp2_with fail
  go_ret2
  exact ⟨rfl, Hl1.out.trans (Hl2.out.mono Hl1.out.size)⟩
theorem wrap_no (secret text : List UInt8) (t y n : Int) (w : World) (h : ¬ kn t y n) :
    Calls Tryd.prog 26 #[.string ⟨secret.toArray⟩, .int .i64 t, .int .i64 y, .int .i64 n, .string ⟨text.toArray⟩] w fun e w' => e = .returned (.tuple #[.string ⟨#[]⟩, .int .i64 1]) ∧ Below w.heap.size w w' := by
  have H := Lib.hid h
  clear h
  go_enter Tryd.func26, Tryd.ntmps26
  go_wp2_with fail
  refine (known_no t y n _ H.out).mono ?_
  rintro e w' ⟨rfl, rfl⟩
  go_wp2_with fail
  go_ret2
  exact ⟨rfl, Below.refl _ _⟩
set_option maxHeartbeats 1000000 in
theorem rwrap_yes (secret text : List UInt8) (t y n : Int) (w : World) (h : kn t y n) (hs : secret.length ≤ 1000) (ht : text.length ≤ 65000) :
    Calls Tryd.prog 27 #[.string ⟨secret.toArray⟩, .int .i64 t, .int .i64 y, .int .i64 n, .string ⟨text.toArray⟩] w fun e w' => e = .returned (.tuple #[.string ⟨(sealP secret (nonB y t n) frLab text).toArray⟩, .int .i64 0]) ∧ Below w.heap.size w w' := by
  have H := Lib.hid h
  have Hs := Lib.hid hs
  have Ht := Lib.hid ht
  clear h hs ht
  go_enter Tryd.func27, Tryd.ntmps27
  go_wp2_with fail
  refine (rknown_yes t y n _ H.out).mono ?_
  rintro e w' ⟨rfl, rfl⟩
  go_wp2_with fail
  refine (rnonce_any t y n _ H.out).mono ?_
  rintro e w1 ⟨rfl, hl1⟩
  have Hl1 := Lib.hid hl1
  clear hl1
  go_wp2_with fail
  refine (rcseal_any secret (nonB y t n) frLab text _ (by have := Hs.out; omega) (nonB_length y t n) (by decide) (by have := Ht.out; omega)).mono ?_
  rintro e w2 ⟨rfl, hl2⟩
  have Hl2 := Lib.hid hl2
  clear hl2
  go_wp2_with fail
  go_ret2
  exact ⟨rfl, Hl1.out.trans (Hl2.out.mono Hl1.out.size)⟩
theorem rwrap_no (secret text : List UInt8) (t y n : Int) (w : World) (h : ¬ kn t y n) :
    Calls Tryd.prog 27 #[.string ⟨secret.toArray⟩, .int .i64 t, .int .i64 y, .int .i64 n, .string ⟨text.toArray⟩] w fun e w' => e = .returned (.tuple #[.string ⟨#[]⟩, .int .i64 1]) ∧ Below w.heap.size w w' := by
  have H := Lib.hid h
  clear h
  go_enter Tryd.func27, Tryd.ntmps27
  go_wp2_with fail
  refine (rknown_no t y n _ H.out).mono ?_
  rintro e w' ⟨rfl, rfl⟩
  go_wp2_with fail
  go_ret2
  exact ⟨rfl, Below.refl _ _⟩
/-- what a sealed text is opened as -/
def unP (secret nonce sl : List UInt8) : List UInt8 × Int := if sl.length < 16 then ([], 3) else openP secret nonce frLab sl
set_option maxHeartbeats 1000000 in
theorem unwrap_yes (secret text : List UInt8) (t y n : Int) (w : World) (h : kn t y n) (hs : secret.length ≤ 1000) (ht : text.length ≤ 65000) :
    Calls Tryd.prog 28 #[.string ⟨secret.toArray⟩, .int .i64 t, .int .i64 y, .int .i64 n, .string ⟨text.toArray⟩] w fun e w' => e = .returned (.tuple #[.string ⟨(unP secret (nonB y t n) text).1.toArray⟩, .int .i64 (unP secret (nonB y t n) text).2]) ∧ Below w.heap.size w w' := by
  by_cases h16 : text.length < 16
  · rw [show unP secret (nonB y t n) text = ([], 3) from if_pos h16]
    have H := Lib.hid h
    have Hs := Lib.hid hs
    have Ht := Lib.hid ht
    have H16 := Lib.hid h16
    clear h hs ht h16
    go_enter Tryd.func28, Tryd.ntmps28
    go_wp2_with fail
    refine (known_yes t y n _ H.out).mono ?_
    rintro e w' ⟨rfl, rfl⟩
    go_wp2_with fail
    refine (nonceOf_any t y n _ H.out).mono ?_
    rintro e w1 ⟨rfl, hl1⟩
    have Hl1 := Lib.hid hl1
    clear hl1
    go_wp2_with fail
    refine (copen_end secret (nonB y t n) frLab text _ (nonB_length y t n) (by decide) H16.out).mono ?_
    rintro e w2 ⟨rfl, rfl⟩
    go_wp2_with fail
    go_ret2
    exact ⟨rfl, Hl1.out⟩
  · rw [show unP secret (nonB y t n) text = openP secret (nonB y t n) frLab text from if_neg h16]
    have H := Lib.hid h
    have Hs := Lib.hid hs
    have Ht := Lib.hid ht
    have H16 := Lib.hid h16
    clear h hs ht h16
    go_enter Tryd.func28, Tryd.ntmps28
    go_wp2_with fail
    refine (known_yes t y n _ H.out).mono ?_
    rintro e w' ⟨rfl, rfl⟩
    go_wp2_with fail
    refine (nonceOf_any t y n _ H.out).mono ?_
    rintro e w1 ⟨rfl, hl1⟩
    have Hl1 := Lib.hid hl1
    clear hl1
    go_wp2_with fail
    refine (copen_any secret (nonB y t n) frLab text _ (by have := Hs.out; omega) (nonB_length y t n) (by decide) (by have := H16.out; omega) (by have := Ht.out; omega)).mono ?_
    rintro e w2 ⟨rfl, hl2⟩
    have Hl2 := Lib.hid hl2
    clear hl2
    go_wp2_with fail
    go_ret2
    exact ⟨rfl, Hl1.out.trans (Hl2.out.mono Hl1.out.size)⟩
theorem unwrap_no (secret text : List UInt8) (t y n : Int) (w : World) (h : ¬ kn t y n) :
    Calls Tryd.prog 28 #[.string ⟨secret.toArray⟩, .int .i64 t, .int .i64 y, .int .i64 n, .string ⟨text.toArray⟩] w fun e w' => e = .returned (.tuple #[.string ⟨#[]⟩, .int .i64 1]) ∧ Below w.heap.size w w' := by
  have H := Lib.hid h
  clear h
  go_enter Tryd.func28, Tryd.ntmps28
  go_wp2_with fail
  refine (known_no t y n _ H.out).mono ?_
  rintro e w' ⟨rfl, rfl⟩
  go_wp2_with fail
  go_ret2
  exact ⟨rfl, Below.refl _ _⟩
set_option maxHeartbeats 1000000 in
theorem runwrap_yes (secret text : List UInt8) (t y n : Int) (w : World) (h : kn t y n) (hs : secret.length ≤ 1000) (ht : text.length ≤ 65000) :
    Calls Tryd.prog 29 #[.string ⟨secret.toArray⟩, .int .i64 t, .int .i64 y, .int .i64 n, .string ⟨text.toArray⟩] w fun e w' => e = .returned (.tuple #[.string ⟨(unP secret (nonB y t n) text).1.toArray⟩, .int .i64 (unP secret (nonB y t n) text).2]) ∧ Below w.heap.size w w' := by
  by_cases h16 : text.length < 16
  · rw [show unP secret (nonB y t n) text = ([], 3) from if_pos h16]
    have H := Lib.hid h
    have Hs := Lib.hid hs
    have Ht := Lib.hid ht
    have H16 := Lib.hid h16
    clear h hs ht h16
    go_enter Tryd.func29, Tryd.ntmps29
    go_wp2_with fail
    refine (rknown_yes t y n _ H.out).mono ?_
    rintro e w' ⟨rfl, rfl⟩
    go_wp2_with fail
    refine (rnonce_any t y n _ H.out).mono ?_
    rintro e w1 ⟨rfl, hl1⟩
    have Hl1 := Lib.hid hl1
    clear hl1
    go_wp2_with fail
    refine (ropen_end secret (nonB y t n) frLab text _ (nonB_length y t n) (by decide) H16.out).mono ?_
    rintro e w2 ⟨rfl, rfl⟩
    go_wp2_with fail
    go_ret2
    exact ⟨rfl, Hl1.out⟩
  · rw [show unP secret (nonB y t n) text = openP secret (nonB y t n) frLab text from if_neg h16]
    have H := Lib.hid h
    have Hs := Lib.hid hs
    have Ht := Lib.hid ht
    have H16 := Lib.hid h16
    clear h hs ht h16
    go_enter Tryd.func29, Tryd.ntmps29
    go_wp2_with fail
    refine (rknown_yes t y n _ H.out).mono ?_
    rintro e w' ⟨rfl, rfl⟩
    go_wp2_with fail
    refine (rnonce_any t y n _ H.out).mono ?_
    rintro e w1 ⟨rfl, hl1⟩
    have Hl1 := Lib.hid hl1
    clear hl1
    go_wp2_with fail
    refine (ropen_any secret (nonB y t n) frLab text _ (by have := Hs.out; omega) (nonB_length y t n) (by decide) (by have := H16.out; omega) (by have := Ht.out; omega)).mono ?_
    rintro e w2 ⟨rfl, hl2⟩
    have Hl2 := Lib.hid hl2
    clear hl2
    go_wp2_with fail
    go_ret2
    exact ⟨rfl, Hl1.out.trans (Hl2.out.mono Hl1.out.size)⟩
theorem runwrap_no (secret text : List UInt8) (t y n : Int) (w : World) (h : ¬ kn t y n) :
    Calls Tryd.prog 29 #[.string ⟨secret.toArray⟩, .int .i64 t, .int .i64 y, .int .i64 n, .string ⟨text.toArray⟩] w fun e w' => e = .returned (.tuple #[.string ⟨#[]⟩, .int .i64 1]) ∧ Below w.heap.size w w' := by
  have H := Lib.hid h
  clear h
  go_enter Tryd.func29, Tryd.ntmps29
  go_wp2_with fail
  refine (rknown_no t y n _ H.out).mono ?_
  rintro e w' ⟨rfl, rfl⟩
  go_wp2_with fail
  go_ret2
  exact ⟨rfl, Below.refl _ _⟩
/-! in the print's form -/
def wrapF (a0 : ByteArray) (a1 a2 a3 : Int) (a4 : ByteArray) : Option (ByteArray × Int) :=
  if a0.size ≤ 1000 ∧ a4.size ≤ 65000 then (if (1 ≤ a1 ∧ a1 ≤ 8) ∧ (0 ≤ a2 ∧ a2 ≤ 1) ∧ (0 ≤ a3 ∧ a3 ≤ 4611686018427387904) then some (⟨(sealP a0.data.toList (nonB a2 a1 a3) frLab a4.data.toList).toArray⟩, 0) else some (⟨#[]⟩, 1)) else none
def unwrapF (a0 : ByteArray) (a1 a2 a3 : Int) (a4 : ByteArray) : Option (ByteArray × Int) :=
  if a0.size ≤ 1000 ∧ a4.size ≤ 65000 then (if (1 ≤ a1 ∧ a1 ≤ 8) ∧ (0 ≤ a2 ∧ a2 ≤ 1) ∧ (0 ≤ a3 ∧ a3 ≤ 4611686018427387904) then some (⟨(unP a0.data.toList (nonB a2 a1 a3) a4.data.toList).1.toArray⟩, (unP a0.data.toList (nonB a2 a1 a3) a4.data.toList).2) else some (⟨#[]⟩, 1)) else none
theorem wrapF_post {f : FuncId} {a0 a4 : ByteArray} {a1 a2 a3 : Int} {r1 : ByteArray} {r2 : Int} {w : World} (h : wrapF a0 a1 a2 a3 a4 = some (r1, r2))
    (hy : ∀ s x : List UInt8, kn a1 a2 a3 → s.length ≤ 1000 → x.length ≤ 65000 → Calls Tryd.prog f #[.string ⟨s.toArray⟩, .int .i64 a1, .int .i64 a2, .int .i64 a3, .string ⟨x.toArray⟩] w fun e w' => e = .returned (.tuple #[.string ⟨(sealP s (nonB a2 a1 a3) frLab x).toArray⟩, .int .i64 0]) ∧ Below w.heap.size w w')
    (hn : ∀ s x : List UInt8, ¬ kn a1 a2 a3 → Calls Tryd.prog f #[.string ⟨s.toArray⟩, .int .i64 a1, .int .i64 a2, .int .i64 a3, .string ⟨x.toArray⟩] w fun e w' => e = .returned (.tuple #[.string ⟨#[]⟩, .int .i64 1]) ∧ Below w.heap.size w w') :
    Calls Tryd.prog f #[.string a0, .int .i64 a1, .int .i64 a2, .int .i64 a3, .string a4] w fun e w' => e = .returned (.tuple #[.string r1, .int .i64 r2]) ∧ Below w.heap.size w w' := by
  unfold wrapF at h
  split at h
  · rename_i hz
    split at h
    · rename_i hk
      have := Option.some.inj h
      obtain ⟨rfl, rfl⟩ := Prod.mk.inj this
      exact hy a0.data.toList a4.data.toList hk hz.1 hz.2
    · rename_i hk
      have := Option.some.inj h
      obtain ⟨rfl, rfl⟩ := Prod.mk.inj this
      exact hn a0.data.toList a4.data.toList hk
  · cases h
theorem unwrapF_post {f : FuncId} {a0 a4 : ByteArray} {a1 a2 a3 : Int} {r1 : ByteArray} {r2 : Int} {w : World} (h : unwrapF a0 a1 a2 a3 a4 = some (r1, r2))
    (hy : ∀ s x : List UInt8, kn a1 a2 a3 → s.length ≤ 1000 → x.length ≤ 65000 → Calls Tryd.prog f #[.string ⟨s.toArray⟩, .int .i64 a1, .int .i64 a2, .int .i64 a3, .string ⟨x.toArray⟩] w fun e w' => e = .returned (.tuple #[.string ⟨(unP s (nonB a2 a1 a3) x).1.toArray⟩, .int .i64 (unP s (nonB a2 a1 a3) x).2]) ∧ Below w.heap.size w w')
    (hn : ∀ s x : List UInt8, ¬ kn a1 a2 a3 → Calls Tryd.prog f #[.string ⟨s.toArray⟩, .int .i64 a1, .int .i64 a2, .int .i64 a3, .string ⟨x.toArray⟩] w fun e w' => e = .returned (.tuple #[.string ⟨#[]⟩, .int .i64 1]) ∧ Below w.heap.size w w') :
    Calls Tryd.prog f #[.string a0, .int .i64 a1, .int .i64 a2, .int .i64 a3, .string a4] w fun e w' => e = .returned (.tuple #[.string r1, .int .i64 r2]) ∧ Below w.heap.size w w' := by
  unfold unwrapF at h
  split at h
  · rename_i hz
    split at h
    · rename_i hk
      have := Option.some.inj h
      obtain ⟨rfl, rfl⟩ := Prod.mk.inj this
      exact hy a0.data.toList a4.data.toList hk hz.1 hz.2
    · rename_i hk
      have := Option.some.inj h
      obtain ⟨rfl, rfl⟩ := Prod.mk.inj this
      exact hn a0.data.toList a4.data.toList hk
  · cases h
theorem open_own (s : List UInt8) (t y n : Int) (x : List UInt8) : unP s (nonB y t n) (sealP s (nonB y t n) frLab x) = (x, 0) := by
  rw [unP, if_neg (by rw [sealP_length]; omega), open_seal]

end Go.Proofs.YtoankokkdmbjmaaDoor
