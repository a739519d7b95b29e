-- PRINTED by print.py (a twelfth state) out of the translation. Not trusted: Lean checks it.
import Derived.Test.YtoankokkdmbjmaaDoorHFrameRepliesx0
import Derived.Test.YtoankokkdmbjmaaDoorHFrameRepliesx6
import Derived.Test.YtoankokkdmbjmaaDoorHFrameRepliesx13
namespace Go.Proofs.YtoankokkdmbjmaaDoorH.HFrameReplies
open Go.RowKit Go.Proofs.YtoankokkdmbjmaaDoorW.PrintWords Go.Proofs.YtoankokkdmbjmaaDoorW.PrintLast Go.Proofs.YtoankokkdmbjmaaDoorW.PrintMore
attribute [local go_sem] max2_int min2_int max_two min_two max_three min_three max_four min_four   -- for this text's walks alone
set_option linter.unusedVariables false
set_option linter.unusedSimpArgs false

/-! ### frame_ReadReply: function 16 -/
mutual
def frame_ReadReply.l0 : Nat → List Int → Int → Int → List Int → Int → Bool → Int → Int → Int → List ByteArray → ByteArray → ByteArray → ByteArray → Int → Int → Option (Int × Int × Int × List ByteArray × ByteArray × ByteArray × (List (S65)) × (List (S74)) × ByteArray × (List (S67)) × Int × Int × Int)
 | 0, _, _, _, _, _, _, _, _, _, _, _, _, _, _, _ => none
 | k + 1, x0, x22, x23, x298000, x298001, x298002, x308000, x308001, x308002, x308003, x308004, x308005, x308008, x308010, x308011 => if x23 < x22 then ((frame_reader_text.f k x298000 x298001 x298002 32).bind fun bt311 => (if x308003.length < 8796093022208 then (frame_ReadReply.l0 k x0 x22 (wrap64 (x23 + 1)) x298000 bt311.2.1 bt311.2.2 x308000 x308001 x308002 (x308003 ++ [bt311.1]) x308004 x308005 x308008 x308010 x308011) else (none))) else ((frame_reader_text.f k x298000 x298001 x298002 1024).bind fun bt317 => ((frame_reader_text.f k x298000 bt317.2.1 bt317.2.2 32).bind fun bt320 => ((frame_reader_many.f k x298000 bt320.2.1 bt320.2.2 1024).bind fun bt323 => (frame_ReadReply.l1 k x0 bt323.1 0 x298000 bt323.2.1 bt323.2.2 x308000 x308001 x308002 x308003 bt317.1 bt320.1 ([] : List (S65)) x308008 x308010 x308011))))
def frame_ReadReply.l1 : Nat → List Int → Int → Int → List Int → Int → Bool → Int → Int → Int → List ByteArray → ByteArray → ByteArray → List (S65) → ByteArray → Int → Int → Option (Int × Int × Int × List ByteArray × ByteArray × ByteArray × (List (S65)) × (List (S74)) × ByteArray × (List (S67)) × Int × Int × Int)
 | 0, _, _, _, _, _, _, _, _, _, _, _, _, _, _, _, _ => none
 | k + 1, x0, x40, x41, x298000, x298001, x298002, x308000, x308001, x308002, x308003, x308004, x308005, x308006, x308008, x308010, x308011 => if x41 < x40 then ((frame_reader_number.f k x298000 x298001 x298002).bind fun bt326 => (if bt326.2.2 = true then ((frame_reader_text.f k x298000 bt326.2.1 true 16).bind fun bt329 => (if x308006.length < 5864062014805 then (frame_ReadReply.l1 k x0 x40 (wrap64 (x41 + 1)) x298000 bt329.2.1 bt329.2.2 x308000 x308001 x308002 x308003 x308004 x308005 (x308006 ++ [(⟨(bt326.1) % 4294967296, bt329.1⟩ : S65)]) x308008 x308010 x308011) else (none))) else ((frame_reader_text.f k x298000 bt326.2.1 (decide (bt326.1 ≥ 4294967296)) 16).bind fun bt335 => (if x308006.length < 5864062014805 then (frame_ReadReply.l1 k x0 x40 (wrap64 (x41 + 1)) x298000 bt335.2.1 bt335.2.2 x308000 x308001 x308002 x308003 x308004 x308005 (x308006 ++ [(⟨(bt326.1) % 4294967296, bt335.1⟩ : S65)]) x308008 x308010 x308011) else (none))))) else ((frame_reader_many.f k x298000 x298001 x298002 4).bind fun bt341 => (frame_ReadReply.l2 k x0 bt341.1 0 x298000 bt341.2.1 bt341.2.2 x308000 x308001 x308002 x308003 x308004 x308005 x308006 ([] : List (S74)) x308008 x308010 x308011))
def frame_ReadReply.l2 : Nat → List Int → Int → Int → List Int → Int → Bool → Int → Int → Int → List ByteArray → ByteArray → ByteArray → List (S65) → List (S74) → ByteArray → Int → Int → Option (Int × Int × Int × List ByteArray × ByteArray × ByteArray × (List (S65)) × (List (S74)) × ByteArray × (List (S67)) × Int × Int × Int)
 | 0, _, _, _, _, _, _, _, _, _, _, _, _, _, _, _, _, _ => none
 | k + 1, x0, x68, x69, x298000, x298001, x298002, x308000, x308001, x308002, x308003, x308004, x308005, x308006, x308007, x308008, x308010, x308011 => if x69 < x68 then ((frame_reader_number.f k x298000 x298001 x298002).bind fun bt344 => ((frame_reader_number.f k x298000 bt344.2.1 bt344.2.2).bind fun bt347 => (if x308007.length < 8796093022208 then (frame_ReadReply.l2 k x0 x68 (wrap64 (x69 + 1)) x298000 bt347.2.1 bt347.2.2 x308000 x308001 x308002 x308003 x308004 x308005 x308006 (x308007 ++ [(⟨bt344.1, bt347.1⟩ : S74)]) x308008 x308010 x308011) else (none)))) else ((frame_reader_text.f k x298000 x298001 x298002 12).bind fun bt353 => ((frame_reader_many.f k x298000 bt353.2.1 bt353.2.2 8).bind fun bt356 => (frame_ReadReply.l3 k x0 bt356.1 0 x298000 bt356.2.1 bt356.2.2 x308000 x308001 x308002 x308003 x308004 x308005 x308006 x308007 bt353.1 ([] : List (S67)) x308010 x308011)))
def frame_ReadReply.l3 : Nat → List Int → Int → Int → List Int → Int → Bool → Int → Int → Int → List ByteArray → ByteArray → ByteArray → List (S65) → List (S74) → ByteArray → List (S67) → Int → Int → Option (Int × Int × Int × List ByteArray × ByteArray × ByteArray × (List (S65)) × (List (S74)) × ByteArray × (List (S67)) × Int × Int × Int)
 | 0, _, _, _, _, _, _, _, _, _, _, _, _, _, _, _, _, _, _ => none
 | k + 1, x0, x86, x87, x298000, x298001, x298002, x308000, x308001, x308002, x308003, x308004, x308005, x308006, x308007, x308008, x308009, x308010, x308011 => if x87 < x86 then ((frame_reader_number.f k x298000 x298001 x298002).bind fun bt359 => ((frame_reader_number.f k x298000 bt359.2.1 bt359.2.2).bind fun bt362 => ((frame_reader_number.f k x298000 bt362.2.1 bt362.2.2).bind fun bt365 => ((frame_reader_text.f k x298000 bt365.2.1 bt365.2.2 32).bind fun bt369 => ((frame_reader_number.f k x298000 bt369.2.1 bt369.2.2).bind fun bt372 => (if x308009.length < 2932031007402 then (frame_ReadReply.l3 k x0 x86 (wrap64 (x87 + 1)) x298000 bt372.2.1 bt372.2.2 x308000 x308001 x308002 x308003 x308004 x308005 x308006 x308007 x308008 (x308009 ++ [(⟨bt359.1, bt362.1, bt365.1, bt369.1, bt372.1⟩ : S67)]) x308010 x308011) else (none))))))) else ((frame_reader_number.f k x298000 x298001 x298002).bind fun bt378 => ((frame_reader_number.f k x298000 bt378.2.1 bt378.2.2).bind fun bt381 => (if bt381.2.2 = true then (frame_ReadReply.j4 k true x308000 x308001 x308002 x308003 x308004 x308005 x308006 x308007 x308008 x308009 bt378.1 bt381.1) else (if bt381.2.1 = (x0.length : Int) then ((frame_Fits.f k x308000 x308001 x308002 x308003 x308004 x308005 x308006 x308007 x308008 x308009 bt378.1 bt381.1).bind fun t384 => (frame_ReadReply.j4 k (!t384) x308000 x308001 x308002 x308003 x308004 x308005 x308006 x308007 x308008 x308009 bt378.1 bt381.1)) else (frame_ReadReply.j4 k true x308000 x308001 x308002 x308003 x308004 x308005 x308006 x308007 x308008 x308009 bt378.1 bt381.1)))))
def frame_ReadReply.j4 : Nat → Bool → Int → Int → Int → List ByteArray → ByteArray → ByteArray → List (S65) → List (S74) → ByteArray → List (S67) → Int → Int → Option (Int × Int × Int × List ByteArray × ByteArray × ByteArray × (List (S65)) × (List (S74)) × ByteArray × (List (S67)) × Int × Int × Int)
 | 0, _, _, _, _, _, _, _, _, _, _, _, _, _ => none
 | k + 1, x132, x308000, x308001, x308002, x308003, x308004, x308005, x308006, x308007, x308008, x308009, x308010, x308011 => if x132 = true then (some (0, 0, 0, ([] : List ByteArray), (⟨#[]⟩ : ByteArray), (⟨#[]⟩ : ByteArray), ([] : List (S65)), ([] : List (S74)), (⟨#[]⟩ : ByteArray), ([] : List (S67)), 0, 0, 4)) else (some (x308000, x308001, x308002, x308003, x308004, x308005, x308006, x308007, x308008, x308009, x308010, x308011, 0))
end
def frame_ReadReply.f (k : Nat) (l0 : List Int) : Option (Int × Int × Int × List ByteArray × ByteArray × ByteArray × (List (S65)) × (List (S74)) × ByteArray × (List (S67)) × Int × Int × Int) := if (l0.length : Int) > 65536 then (some (0, 0, 0, ([] : List ByteArray), (⟨#[]⟩ : ByteArray), (⟨#[]⟩ : ByteArray), ([] : List (S65)), ([] : List (S74)), (⟨#[]⟩ : ByteArray), ([] : List (S67)), 0, 0, 2)) else ((frame_begun.f l0 2).bind fun bt294 => ((frame_reader_number.f k bt294.1 bt294.2.1 bt294.2.2).bind fun bt298 => ((frame_reader_number.f k bt294.1 bt298.2.1 bt298.2.2).bind fun bt301 => ((frame_reader_number.f k bt294.1 bt301.2.1 bt301.2.2).bind fun bt304 => ((frame_reader_many.f k bt294.1 bt304.2.1 bt304.2.2 64).bind fun bt308 => (frame_ReadReply.l0 k l0 bt308.1 0 bt294.1 bt308.2.1 bt308.2.2 bt298.1 bt301.1 bt304.1 ([] : List ByteArray) (⟨#[]⟩ : ByteArray) (⟨#[]⟩ : ByteArray) (⟨#[]⟩ : ByteArray) 0 0))))))
theorem frame_ReadReply.mono_l : ∀ k, (∀ y0 y1 y2 y3 y4 y5 y6 y7 y8 y9 y10 y11 y12 y13 y14, LeO (frame_ReadReply.l0 k y0 y1 y2 y3 y4 y5 y6 y7 y8 y9 y10 y11 y12 y13 y14) (frame_ReadReply.l0 (k + 1) y0 y1 y2 y3 y4 y5 y6 y7 y8 y9 y10 y11 y12 y13 y14)) ∧ (∀ y0 y1 y2 y3 y4 y5 y6 y7 y8 y9 y10 y11 y12 y13 y14 y15, LeO (frame_ReadReply.l1 k y0 y1 y2 y3 y4 y5 y6 y7 y8 y9 y10 y11 y12 y13 y14 y15) (frame_ReadReply.l1 (k + 1) y0 y1 y2 y3 y4 y5 y6 y7 y8 y9 y10 y11 y12 y13 y14 y15)) ∧ (∀ y0 y1 y2 y3 y4 y5 y6 y7 y8 y9 y10 y11 y12 y13 y14 y15 y16, LeO (frame_ReadReply.l2 k y0 y1 y2 y3 y4 y5 y6 y7 y8 y9 y10 y11 y12 y13 y14 y15 y16) (frame_ReadReply.l2 (k + 1) y0 y1 y2 y3 y4 y5 y6 y7 y8 y9 y10 y11 y12 y13 y14 y15 y16)) ∧ (∀ y0 y1 y2 y3 y4 y5 y6 y7 y8 y9 y10 y11 y12 y13 y14 y15 y16 y17, LeO (frame_ReadReply.l3 k y0 y1 y2 y3 y4 y5 y6 y7 y8 y9 y10 y11 y12 y13 y14 y15 y16 y17) (frame_ReadReply.l3 (k + 1) y0 y1 y2 y3 y4 y5 y6 y7 y8 y9 y10 y11 y12 y13 y14 y15 y16 y17)) ∧ (∀ y0 y1 y2 y3 y4 y5 y6 y7 y8 y9 y10 y11 y12, LeO (frame_ReadReply.j4 k y0 y1 y2 y3 y4 y5 y6 y7 y8 y9 y10 y11 y12) (frame_ReadReply.j4 (k + 1) y0 y1 y2 y3 y4 y5 y6 y7 y8 y9 y10 y11 y12))
 | 0 => ⟨fun _ _ _ _ _ _ _ _ _ _ _ _ _ _ _ r h => by simp [frame_ReadReply.l0] at h, fun _ _ _ _ _ _ _ _ _ _ _ _ _ _ _ _ r h => by simp [frame_ReadReply.l1] at h, fun _ _ _ _ _ _ _ _ _ _ _ _ _ _ _ _ _ r h => by simp [frame_ReadReply.l2] at h, fun _ _ _ _ _ _ _ _ _ _ _ _ _ _ _ _ _ _ r h => by simp [frame_ReadReply.l3] at h, fun _ _ _ _ _ _ _ _ _ _ _ _ _ r h => by simp [frame_ReadReply.j4] at h⟩
 | k + 1 => by
  obtain ⟨ih0, ih1, ih2, ih3, ih4⟩ := frame_ReadReply.mono_l k
  refine ⟨?_, ?_, ?_, ?_, ?_⟩
  ·intro y0 y1 y2 y3 y4 y5 y6 y7 y8 y9 y10 y11 y12 y13 y14
   unfold frame_ReadReply.l0
   repeat' first
   | (with_reducible exact ih0 _ _ _ _ _ _ _ _ _ _ _ _ _ _ _)
   | (with_reducible exact ih1 _ _ _ _ _ _ _ _ _ _ _ _ _ _ _ _)
   | (with_reducible exact ih2 _ _ _ _ _ _ _ _ _ _ _ _ _ _ _ _ _)
   | (with_reducible exact ih3 _ _ _ _ _ _ _ _ _ _ _ _ _ _ _ _ _ _)
   | (with_reducible exact ih4 _ _ _ _ _ _ _ _ _ _ _ _ _)
   | (with_reducible exact frame_Fits.mono _ _ _ _ _ _ _ _ _ _ _ _ _)
   | (with_reducible exact frame_reader_many.mono _ _ _ _ _)
   | (with_reducible exact frame_reader_number.mono _ _ _ _)
   | (with_reducible exact frame_reader_text.mono _ _ _ _ _)
   | (with_reducible exact LeO.refl _)
   | (with_reducible exact LeO.none _)
   | (with_reducible refine LeO.ite ?_ ?_)
   | (with_reducible refine LeO.bind ?_ (fun _ => ?_))
   | exact ih0 _ _ _ _ _ _ _ _ _ _ _ _ _ _ _
   | exact ih1 _ _ _ _ _ _ _ _ _ _ _ _ _ _ _ _
   | exact ih2 _ _ _ _ _ _ _ _ _ _ _ _ _ _ _ _ _
   | exact ih3 _ _ _ _ _ _ _ _ _ _ _ _ _ _ _ _ _ _
   | exact ih4 _ _ _ _ _ _ _ _ _ _ _ _ _
   | exact frame_Fits.mono _ _ _ _ _ _ _ _ _ _ _ _ _
   | exact frame_reader_many.mono _ _ _ _ _
   | exact frame_reader_number.mono _ _ _ _
   | exact frame_reader_text.mono _ _ _ _ _
   | exact LeO.none _
   | refine LeO.ite ?_ ?_
   | refine LeO.bind ?_ (fun _ => ?_)
  ·intro y0 y1 y2 y3 y4 y5 y6 y7 y8 y9 y10 y11 y12 y13 y14 y15
   unfold frame_ReadReply.l1
   repeat' first
   | (with_reducible exact ih0 _ _ _ _ _ _ _ _ _ _ _ _ _ _ _)
   | (with_reducible exact ih1 _ _ _ _ _ _ _ _ _ _ _ _ _ _ _ _)
   | (with_reducible exact ih2 _ _ _ _ _ _ _ _ _ _ _ _ _ _ _ _ _)
   | (with_reducible exact ih3 _ _ _ _ _ _ _ _ _ _ _ _ _ _ _ _ _ _)
   | (with_reducible exact ih4 _ _ _ _ _ _ _ _ _ _ _ _ _)
   | (with_reducible exact frame_Fits.mono _ _ _ _ _ _ _ _ _ _ _ _ _)
   | (with_reducible exact frame_reader_many.mono _ _ _ _ _)
   | (with_reducible exact frame_reader_number.mono _ _ _ _)
   | (with_reducible exact frame_reader_text.mono _ _ _ _ _)
   | (with_reducible exact LeO.refl _)
   | (with_reducible exact LeO.none _)
   | (with_reducible refine LeO.ite ?_ ?_)
   | (with_reducible refine LeO.bind ?_ (fun _ => ?_))
   | exact ih0 _ _ _ _ _ _ _ _ _ _ _ _ _ _ _
   | exact ih1 _ _ _ _ _ _ _ _ _ _ _ _ _ _ _ _
   | exact ih2 _ _ _ _ _ _ _ _ _ _ _ _ _ _ _ _ _
   | exact ih3 _ _ _ _ _ _ _ _ _ _ _ _ _ _ _ _ _ _
   | exact ih4 _ _ _ _ _ _ _ _ _ _ _ _ _
   | exact frame_Fits.mono _ _ _ _ _ _ _ _ _ _ _ _ _
   | exact frame_reader_many.mono _ _ _ _ _
   | exact frame_reader_number.mono _ _ _ _
   | exact frame_reader_text.mono _ _ _ _ _
   | exact LeO.none _
   | refine LeO.ite ?_ ?_
   | refine LeO.bind ?_ (fun _ => ?_)
  ·intro y0 y1 y2 y3 y4 y5 y6 y7 y8 y9 y10 y11 y12 y13 y14 y15 y16
   unfold frame_ReadReply.l2
   repeat' first
   | (with_reducible exact ih0 _ _ _ _ _ _ _ _ _ _ _ _ _ _ _)
   | (with_reducible exact ih1 _ _ _ _ _ _ _ _ _ _ _ _ _ _ _ _)
   | (with_reducible exact ih2 _ _ _ _ _ _ _ _ _ _ _ _ _ _ _ _ _)
   | (with_reducible exact ih3 _ _ _ _ _ _ _ _ _ _ _ _ _ _ _ _ _ _)
   | (with_reducible exact ih4 _ _ _ _ _ _ _ _ _ _ _ _ _)
   | (with_reducible exact frame_Fits.mono _ _ _ _ _ _ _ _ _ _ _ _ _)
   | (with_reducible exact frame_reader_many.mono _ _ _ _ _)
   | (with_reducible exact frame_reader_number.mono _ _ _ _)
   | (with_reducible exact frame_reader_text.mono _ _ _ _ _)
   | (with_reducible exact LeO.refl _)
   | (with_reducible exact LeO.none _)
   | (with_reducible refine LeO.ite ?_ ?_)
   | (with_reducible refine LeO.bind ?_ (fun _ => ?_))
   | exact ih0 _ _ _ _ _ _ _ _ _ _ _ _ _ _ _
   | exact ih1 _ _ _ _ _ _ _ _ _ _ _ _ _ _ _ _
   | exact ih2 _ _ _ _ _ _ _ _ _ _ _ _ _ _ _ _ _
   | exact ih3 _ _ _ _ _ _ _ _ _ _ _ _ _ _ _ _ _ _
   | exact ih4 _ _ _ _ _ _ _ _ _ _ _ _ _
   | exact frame_Fits.mono _ _ _ _ _ _ _ _ _ _ _ _ _
   | exact frame_reader_many.mono _ _ _ _ _
   | exact frame_reader_number.mono _ _ _ _
   | exact frame_reader_text.mono _ _ _ _ _
   | exact LeO.none _
   | refine LeO.ite ?_ ?_
   | refine LeO.bind ?_ (fun _ => ?_)
  ·intro y0 y1 y2 y3 y4 y5 y6 y7 y8 y9 y10 y11 y12 y13 y14 y15 y16 y17
   unfold frame_ReadReply.l3
   repeat' first
   | (with_reducible exact ih0 _ _ _ _ _ _ _ _ _ _ _ _ _ _ _)
   | (with_reducible exact ih1 _ _ _ _ _ _ _ _ _ _ _ _ _ _ _ _)
   | (with_reducible exact ih2 _ _ _ _ _ _ _ _ _ _ _ _ _ _ _ _ _)
   | (with_reducible exact ih3 _ _ _ _ _ _ _ _ _ _ _ _ _ _ _ _ _ _)
   | (with_reducible exact ih4 _ _ _ _ _ _ _ _ _ _ _ _ _)
   | (with_reducible exact frame_Fits.mono _ _ _ _ _ _ _ _ _ _ _ _ _)
   | (with_reducible exact frame_reader_many.mono _ _ _ _ _)
   | (with_reducible exact frame_reader_number.mono _ _ _ _)
   | (with_reducible exact frame_reader_text.mono _ _ _ _ _)
   | (with_reducible exact LeO.refl _)
   | (with_reducible exact LeO.none _)
   | (with_reducible refine LeO.ite ?_ ?_)
   | (with_reducible refine LeO.bind ?_ (fun _ => ?_))
   | exact ih0 _ _ _ _ _ _ _ _ _ _ _ _ _ _ _
   | exact ih1 _ _ _ _ _ _ _ _ _ _ _ _ _ _ _ _
   | exact ih2 _ _ _ _ _ _ _ _ _ _ _ _ _ _ _ _ _
   | exact ih3 _ _ _ _ _ _ _ _ _ _ _ _ _ _ _ _ _ _
   | exact ih4 _ _ _ _ _ _ _ _ _ _ _ _ _
   | exact frame_Fits.mono _ _ _ _ _ _ _ _ _ _ _ _ _
   | exact frame_reader_many.mono _ _ _ _ _
   | exact frame_reader_number.mono _ _ _ _
   | exact frame_reader_text.mono _ _ _ _ _
   | exact LeO.none _
   | refine LeO.ite ?_ ?_
   | refine LeO.bind ?_ (fun _ => ?_)
  ·intro y0 y1 y2 y3 y4 y5 y6 y7 y8 y9 y10 y11 y12
   unfold frame_ReadReply.j4
   repeat' first
   | (with_reducible exact ih0 _ _ _ _ _ _ _ _ _ _ _ _ _ _ _)
   | (with_reducible exact ih1 _ _ _ _ _ _ _ _ _ _ _ _ _ _ _ _)
   | (with_reducible exact ih2 _ _ _ _ _ _ _ _ _ _ _ _ _ _ _ _ _)
   | (with_reducible exact ih3 _ _ _ _ _ _ _ _ _ _ _ _ _ _ _ _ _ _)
   | (with_reducible exact ih4 _ _ _ _ _ _ _ _ _ _ _ _ _)
   | (with_reducible exact frame_Fits.mono _ _ _ _ _ _ _ _ _ _ _ _ _)
   | (with_reducible exact frame_reader_many.mono _ _ _ _ _)
   | (with_reducible exact frame_reader_number.mono _ _ _ _)
   | (with_reducible exact frame_reader_text.mono _ _ _ _ _)
   | (with_reducible exact LeO.refl _)
   | (with_reducible exact LeO.none _)
   | (with_reducible refine LeO.ite ?_ ?_)
   | (with_reducible refine LeO.bind ?_ (fun _ => ?_))
   | exact ih0 _ _ _ _ _ _ _ _ _ _ _ _ _ _ _
   | exact ih1 _ _ _ _ _ _ _ _ _ _ _ _ _ _ _ _
   | exact ih2 _ _ _ _ _ _ _ _ _ _ _ _ _ _ _ _ _
   | exact ih3 _ _ _ _ _ _ _ _ _ _ _ _ _ _ _ _ _ _
   | exact ih4 _ _ _ _ _ _ _ _ _ _ _ _ _
   | exact frame_Fits.mono _ _ _ _ _ _ _ _ _ _ _ _ _
   | exact frame_reader_many.mono _ _ _ _ _
   | exact frame_reader_number.mono _ _ _ _
   | exact frame_reader_text.mono _ _ _ _ _
   | exact LeO.none _
   | refine LeO.ite ?_ ?_
   | refine LeO.bind ?_ (fun _ => ?_)
theorem frame_ReadReply.mono : ∀ a0 k, LeO (frame_ReadReply.f k a0) (frame_ReadReply.f (k + 1) a0) := by
 intro a0 k
 obtain ⟨ih0, ih1, ih2, ih3, ih4⟩ := frame_ReadReply.mono_l k
 unfold frame_ReadReply.f
 repeat' first
   | (with_reducible exact ih0 _ _ _ _ _ _ _ _ _ _ _ _ _ _ _)
   | (with_reducible exact ih1 _ _ _ _ _ _ _ _ _ _ _ _ _ _ _ _)
   | (with_reducible exact ih2 _ _ _ _ _ _ _ _ _ _ _ _ _ _ _ _ _)
   | (with_reducible exact ih3 _ _ _ _ _ _ _ _ _ _ _ _ _ _ _ _ _ _)
   | (with_reducible exact ih4 _ _ _ _ _ _ _ _ _ _ _ _ _)
   | (with_reducible exact frame_Fits.mono _ _ _ _ _ _ _ _ _ _ _ _ _)
   | (with_reducible exact frame_reader_many.mono _ _ _ _ _)
   | (with_reducible exact frame_reader_number.mono _ _ _ _)
   | (with_reducible exact frame_reader_text.mono _ _ _ _ _)
   | (with_reducible exact LeO.refl _)
   | (with_reducible exact LeO.none _)
   | (with_reducible refine LeO.ite ?_ ?_)
   | (with_reducible refine LeO.bind ?_ (fun _ => ?_))
   | exact ih0 _ _ _ _ _ _ _ _ _ _ _ _ _ _ _
   | exact ih1 _ _ _ _ _ _ _ _ _ _ _ _ _ _ _ _
   | exact ih2 _ _ _ _ _ _ _ _ _ _ _ _ _ _ _ _ _
   | exact ih3 _ _ _ _ _ _ _ _ _ _ _ _ _ _ _ _ _ _
   | exact ih4 _ _ _ _ _ _ _ _ _ _ _ _ _
   | exact frame_Fits.mono _ _ _ _ _ _ _ _ _ _ _ _ _
   | exact frame_reader_many.mono _ _ _ _ _
   | exact frame_reader_number.mono _ _ _ _
   | exact frame_reader_text.mono _ _ _ _ _
   | exact LeO.none _
   | refine LeO.ite ?_ ?_
   | refine LeO.bind ?_ (fun _ => ?_)
def frame_ReadReply.T7 : Bool × List (List Nat × List Nat) := (true, [([], []), ([0], [0]), ([], []), ([2], [2]), ([3], [3]), ([1, 4, 3], [1, 4]), ([0, 1, 2, 3, 4, 5], []), ([6, 5, 5, 0, 1, 2, 3, 4, 5], [5, 6])])
def frame_ReadReply.B7 : List Nat := [0, 1, 0, 4, 12, 31, 63, 127]
theorem frame_ReadReply.tab7 : rtab .any (opsOf Tryd.f16 7) = frame_ReadReply.T7 := by kernel_rfl
theorem frame_ReadReply.bits7 : waitsOk frame_ReadReply.T7.2 frame_ReadReply.B7 = true := by kernel_rfl
def frame_ReadReply.T14 : Bool × List (List Nat × List Nat) := (true, [([], []), ([0], [0]), ([], []), ([2], [2]), ([], []), ([4], [4]), ([3, 5], [3, 5]), ([6], [6]), ([1, 7, 5], [1, 7]), ([0, 1, 2, 3, 4, 5, 6, 7, 8], []), ([9, 8, 8, 0, 1, 2, 3, 4, 5, 6, 7, 8], [8, 9])])
def frame_ReadReply.B14 : List Nat := [0, 1, 0, 4, 0, 16, 60, 124, 255, 511, 1023]
theorem frame_ReadReply.tab14 : rtab .any (opsOf Tryd.f16 14) = frame_ReadReply.T14 := by kernel_rfl
theorem frame_ReadReply.bits14 : waitsOk frame_ReadReply.T14.2 frame_ReadReply.B14 = true := by kernel_rfl
def frame_ReadReply.T18 : Bool × List (List Nat × List Nat) := (true, [([], []), ([0], [0]), ([], []), ([2], [2]), ([], []), ([4, 3], [4]), ([3, 5], [3, 5]), ([6], [6]), ([1, 7, 5], [1, 7]), ([0, 1, 2, 3, 4, 5, 6, 7, 8], []), ([9, 8, 8, 0, 1, 2, 3, 4, 5, 6, 7, 8], [8, 9])])
def frame_ReadReply.B18 : List Nat := [0, 1, 0, 4, 0, 28, 60, 124, 255, 511, 1023]
theorem frame_ReadReply.tab18 : rtab .any (opsOf Tryd.f16 18) = frame_ReadReply.T18 := by kernel_rfl
theorem frame_ReadReply.bits18 : waitsOk frame_ReadReply.T18.2 frame_ReadReply.B18 = true := by kernel_rfl
set_option maxHeartbeats 8000000 in
set_option maxRecDepth 100000 in
theorem frame_ReadReply.calls (k : Nat) (A0 : Option Addr) (c0 : Nat) (l0 : List Int) (r1 : Int) (r2 : Int) (r3 : Int) (r4 : List ByteArray) (r5 : ByteArray) (r6 : ByteArray) (r7 : List (S65)) (r8 : List (S74)) (r9 : ByteArray) (r10 : List (S67)) (r11 : Int) (r12 : Int) (r13 : Int) (w : World) (hr0 : Kd.C (Kd.int .u8) w A0 l0.length l0) (hc0 : l0.length ≤ c0) (h : frame_ReadReply.f k l0 = some (r1, r2, r3, r4, r5, r6, r7, r8, r9, r10, r11, r12, r13)) :
  Calls Tryd.prog 16 #[.slice A0 l0.length c0] w fun e w' => ∃ v3_ v6_ v7_ v9_ : Value, e = .returned (.tuple #[.agg #[.int .i64 r1, .int .i64 r2, .int .i64 r3, v3_, .string r5, .string r6, v6_, v7_, .string r9, v9_, .int .i64 r11, .int .i64 r12], .int .i64 r13]) ∧ Kd.R Kd.string 9 w' w.heap.size (fun _ => True) v3_ r4 ∧ Kd.R k65 65 w' w.heap.size (fun _ => True) v6_ r7 ∧ Kd.R k74 74 w' w.heap.size (fun _ => True) v7_ r8 ∧ Kd.R k67 67 w' w.heap.size (fun _ => True) v9_ r10 ∧ Below w.heap.size w w' := by
 have hu34 := Tryd.underlying34
 have hu65 := Tryd.underlying65
 have hu74 := Tryd.underlying74
 have hu67 := Tryd.underlying67
 have HR0 := Aside0.mk hr0
 have HC0 := Aside0.mk hc0
 clear hr0 hc0
 have HB := Aside0.mk (Below.refl w.heap.size w)
 have H : (if (l0.length : Int) > 65536 then (some (0, 0, 0, ([] : List ByteArray), (⟨#[]⟩ : ByteArray), (⟨#[]⟩ : ByteArray), ([] : List (S65)), ([] : List (S74)), (⟨#[]⟩ : ByteArray), ([] : List (S67)), 0, 0, 2)) else ((frame_begun.f l0 2).bind fun bt294 => ((frame_reader_number.f k bt294.1 bt294.2.1 bt294.2.2).bind fun bt298 => ((frame_reader_number.f k bt294.1 bt298.2.1 bt298.2.2).bind fun bt301 => ((frame_reader_number.f k bt294.1 bt301.2.1 bt301.2.2).bind fun bt304 => ((frame_reader_many.f k bt294.1 bt304.2.1 bt304.2.2 64).bind fun bt308 => (frame_ReadReply.l0 k l0 bt308.1 0 bt294.1 bt308.2.1 bt308.2.2 bt298.1 bt301.1 bt304.1 ([] : List ByteArray) (⟨#[]⟩ : ByteArray) (⟨#[]⟩ : ByteArray) (⟨#[]⟩ : ByteArray) 0 0))))))) = some (r1, r2, r3, r4, r5, r6, r7, r8, r9, r10, r11, r12, r13) := h
 clear h
 by_cases c2 : (l0.length : Int) > 65536
 ·rw [if_pos c2] at H
  have c2b0 : decide (65536 < (l0.length : Int)) = true := decide_eq_true c2
  have c2b1 : decide (65536 < l0.length) = true := decide_eq_true (by omega)
  clear c2
  simp only [Option.some.injEq, Prod.mk.injEq] at H
  obtain ⟨rfl, rfl, rfl, rfl, rfl, rfl, rfl, rfl, rfl, rfl, rfl, rfl, rfl⟩ := H
  go_enter Tryd.func16, Tryd.ntmps16
  go_wp2_with (first | ((with_reducible refine gate_dst (N := 2) rfl ?_); (try (refine gate_guard (by rfl) ?_; dsimp only)); refine box_event ?hg (N := 2) ?hd (cs := #[.int .i64 0, .int .i64 0, .int .i64 0, .slice none 0 0, .string (⟨#[]⟩ : ByteArray), .string (⟨#[]⟩ : ByteArray), .slice none 0 0, .slice none 0 0, .string (⟨#[]⟩ : ByteArray), .slice none 0 0, .int .i64 0, .int .i64 0]) (t := 34) ?hr ?_; (case hd => rfl); (case hg => rfl); (case hr => first | (go_simp; done) | (go_simp; rfl)); intro gb293 hg w3 hbox hb; have BK293 := Aside0.mk (hbox); have GW293 := Aside0.mk ((by rw [hg]; exact (below_size m15_) : w.heap.size ≤ gb293)); have GE293 := Aside0.mk ((by rw [hg]; exact (below_size m15_) : w.heap.size ≤ gb293)); replace HB := Aside0.mk (below_step m15_ hb); clear hb hbox hg; obtain ⟨hcz4_0, hcz4_1, hcz4_2, hcz4_3, hcz4_4, hcz4_5, hcz4_6, hcz4_7, hcz4_8, hcz4_9, hcz4_10, hcz4_11⟩ := bc12_ BK293.out; obtain ⟨hfz4_0, hfz4_1, hfz4_2, hfz4_3, hfz4_4, hfz4_5, hfz4_6, hfz4_7, hfz4_8, hfz4_9, hfz4_10, hfz4_11⟩ := bf12_ BK293.out))
  refine bodyPost_ret (results_ct rfl _ _ gb293 34 #[.int .i64 0, .int .i64 0, .int .i64 0, .slice none 0 0, .string (⟨#[]⟩ : ByteArray), .string (⟨#[]⟩ : ByteArray), .slice none 0 0, .slice none 0 0, .string (⟨#[]⟩ : ByteArray), .slice none 0 0, .int .i64 0, .int .i64 0] (0, 0) _ rfl (by refine bD_ ?_; refine blk_put (cs := #[.int .i64 0, .int .i64 0, .int .i64 0, .slice none 0 0, .string (⟨#[]⟩ : ByteArray), .string (⟨#[]⟩ : ByteArray), .slice none 0 0, .slice none 0 0, .string (⟨#[]⟩ : ByteArray), .slice none 0 0, .int .i64 0, .int .i64 0]) ?_ 11 _ rfl; refine bD_ ?_; refine blk_put (cs := #[.int .i64 0, .int .i64 0, .int .i64 0, .slice none 0 0, .string (⟨#[]⟩ : ByteArray), .string (⟨#[]⟩ : ByteArray), .slice none 0 0, .slice none 0 0, .string (⟨#[]⟩ : ByteArray), .slice none 0 0, .int .i64 0, .int .i64 0]) ?_ 10 _ rfl; refine bD_ ?_; refine blk_put (cs := #[.int .i64 0, .int .i64 0, .int .i64 0, .slice none 0 0, .string (⟨#[]⟩ : ByteArray), .string (⟨#[]⟩ : ByteArray), .slice none 0 0, .slice none 0 0, .string (⟨#[]⟩ : ByteArray), .slice none 0 0, .int .i64 0, .int .i64 0]) ?_ 9 _ rfl; refine bD_ ?_; refine blk_put (cs := #[.int .i64 0, .int .i64 0, .int .i64 0, .slice none 0 0, .string (⟨#[]⟩ : ByteArray), .string (⟨#[]⟩ : ByteArray), .slice none 0 0, .slice none 0 0, .string (⟨#[]⟩ : ByteArray), .slice none 0 0, .int .i64 0, .int .i64 0]) ?_ 8 _ rfl; refine bD_ ?_; refine blk_put (cs := #[.int .i64 0, .int .i64 0, .int .i64 0, .slice none 0 0, .string (⟨#[]⟩ : ByteArray), .string (⟨#[]⟩ : ByteArray), .slice none 0 0, .slice none 0 0, .string (⟨#[]⟩ : ByteArray), .slice none 0 0, .int .i64 0, .int .i64 0]) ?_ 7 _ rfl; refine bD_ ?_; refine blk_put (cs := #[.int .i64 0, .int .i64 0, .int .i64 0, .slice none 0 0, .string (⟨#[]⟩ : ByteArray), .string (⟨#[]⟩ : ByteArray), .slice none 0 0, .slice none 0 0, .string (⟨#[]⟩ : ByteArray), .slice none 0 0, .int .i64 0, .int .i64 0]) ?_ 6 _ rfl; refine bD_ ?_; refine blk_put (cs := #[.int .i64 0, .int .i64 0, .int .i64 0, .slice none 0 0, .string (⟨#[]⟩ : ByteArray), .string (⟨#[]⟩ : ByteArray), .slice none 0 0, .slice none 0 0, .string (⟨#[]⟩ : ByteArray), .slice none 0 0, .int .i64 0, .int .i64 0]) ?_ 5 _ rfl; refine bD_ ?_; refine blk_put (cs := #[.int .i64 0, .int .i64 0, .int .i64 0, .slice none 0 0, .string (⟨#[]⟩ : ByteArray), .string (⟨#[]⟩ : ByteArray), .slice none 0 0, .slice none 0 0, .string (⟨#[]⟩ : ByteArray), .slice none 0 0, .int .i64 0, .int .i64 0]) ?_ 4 _ rfl; refine bD_ ?_; refine blk_put (cs := #[.int .i64 0, .int .i64 0, .int .i64 0, .slice none 0 0, .string (⟨#[]⟩ : ByteArray), .string (⟨#[]⟩ : ByteArray), .slice none 0 0, .slice none 0 0, .string (⟨#[]⟩ : ByteArray), .slice none 0 0, .int .i64 0, .int .i64 0]) ?_ 3 _ rfl; refine bD_ ?_; refine blk_put (cs := #[.int .i64 0, .int .i64 0, .int .i64 0, .slice none 0 0, .string (⟨#[]⟩ : ByteArray), .string (⟨#[]⟩ : ByteArray), .slice none 0 0, .slice none 0 0, .string (⟨#[]⟩ : ByteArray), .slice none 0 0, .int .i64 0, .int .i64 0]) ?_ 2 _ rfl; refine bD_ ?_; refine blk_put (cs := #[.int .i64 0, .int .i64 0, .int .i64 0, .slice none 0 0, .string (⟨#[]⟩ : ByteArray), .string (⟨#[]⟩ : ByteArray), .slice none 0 0, .slice none 0 0, .string (⟨#[]⟩ : ByteArray), .slice none 0 0, .int .i64 0, .int .i64 0]) ?_ 1 _ rfl; refine bD_ ?_; refine blk_put (cs := #[.int .i64 0, .int .i64 0, .int .i64 0, .slice none 0 0, .string (⟨#[]⟩ : ByteArray), .string (⟨#[]⟩ : ByteArray), .slice none 0 0, .slice none 0 0, .string (⟨#[]⟩ : ByteArray), .slice none 0 0, .int .i64 0, .int .i64 0]) ?_ 0 _ rfl; refine bD_ ?_; exact BK293.out) Tryd.underlying34 rfl (by kernel_rfl)) rfl ?_
  exact ⟨_, _, _, _, by first | rfl | (simp [errW_none, errW_some] <;> rfl) | (simp [*, errW_none, errW_some] <;> rfl), by first | exact Kd.R_nil _ _ _ _ _ | exact Kd.N_nil _ _ _ _ _ | exact Kd.V_nil _ _ _ _ _ | exact Kd.Q_nil _ _ _ _ _ | exact Kd.S_nil _ _ _ _ _, by first | exact Kd.R_nil _ _ _ _ _ | exact Kd.N_nil _ _ _ _ _ | exact Kd.V_nil _ _ _ _ _ | exact Kd.Q_nil _ _ _ _ _ | exact Kd.S_nil _ _ _ _ _, by first | exact Kd.R_nil _ _ _ _ _ | exact Kd.N_nil _ _ _ _ _ | exact Kd.V_nil _ _ _ _ _ | exact Kd.Q_nil _ _ _ _ _ | exact Kd.S_nil _ _ _ _ _, by first | exact Kd.R_nil _ _ _ _ _ | exact Kd.N_nil _ _ _ _ _ | exact Kd.V_nil _ _ _ _ _ | exact Kd.Q_nil _ _ _ _ _ | exact Kd.S_nil _ _ _ _ _, by repeat (first | (with_reducible first | exact HB.out | apply below_alloc | apply pw_below_drewN | apply below_drew1 | refine below_set ?_ GE293.out) | exact HB.out)⟩
 rw [if_neg c2] at H
 have c2b0 : decide (65536 < (l0.length : Int)) = false := decide_eq_false c2
 have c2b1 : decide (65536 < l0.length) = false := decide_eq_false (by omega)
 clear c2
 replace H := Option.bind_eq_some_iff.mp H
 obtain ⟨⟨t294, t295, t296⟩, A50, H⟩ := H
 try dsimp only at H
 have A5 := Aside0.mk A50
 clear A50
 replace H := Option.bind_eq_some_iff.mp H
 obtain ⟨⟨t298, t299, t300⟩, A60, H⟩ := H
 try dsimp only at H
 have A6 := Aside0.mk A60
 clear A60
 replace H := Option.bind_eq_some_iff.mp H
 obtain ⟨⟨t301, t302, t303⟩, A70, H⟩ := H
 try dsimp only at H
 have A7 := Aside0.mk A70
 clear A70
 replace H := Option.bind_eq_some_iff.mp H
 obtain ⟨⟨t304, t305, t306⟩, A80, H⟩ := H
 try dsimp only at H
 have A8 := Aside0.mk A80
 clear A80
 replace H := Option.bind_eq_some_iff.mp H
 obtain ⟨⟨t308, t309, t310⟩, A90, H⟩ := H
 try dsimp only at H
 have A9 := Aside0.mk A90
 clear A90
 have H' := Aside0.mk H
 clear H
 go_enter Tryd.func16, Tryd.ntmps16
 go_wp2_with (first | ((with_reducible refine gate_dst (N := 2) rfl ?_); (try (refine gate_guard (by rfl) ?_; dsimp only)); refine box_event ?hg (N := 2) ?hd (cs := #[.int .i64 0, .int .i64 0, .int .i64 0, .slice none 0 0, .string (⟨#[]⟩ : ByteArray), .string (⟨#[]⟩ : ByteArray), .slice none 0 0, .slice none 0 0, .string (⟨#[]⟩ : ByteArray), .slice none 0 0, .int .i64 0, .int .i64 0]) (t := 34) ?hr ?_; (case hd => rfl); (case hg => rfl); (case hr => first | (go_simp; done) | (go_simp; rfl)); intro gb293 hg w10 hbox hb; have BK293 := Aside0.mk (hbox); have GW293 := Aside0.mk ((by rw [hg]; exact (below_size m15_) : w.heap.size ≤ gb293)); have GE293 := Aside0.mk ((by rw [hg]; exact (below_size m15_) : w.heap.size ≤ gb293)); replace HB := Aside0.mk (below_step m15_ hb); clear hb hbox hg) | ((with_reducible refine gate_callee (f := 39) rfl ?_); refine goesL_ (some 13) rfl rfl Tryd.func39 (by kernel_rfl) rfl #[.slice A0 l0.length c0, .int .u8 2] rfl m14_ ?_; (with_reducible refine (frame_begun.calls _ _ l0 2 t294 t295 t296 w _ ?side1 ?side2 ?side3 A5.out).mono ?_); (case side1 => repeat (first | (with_reducible first | exact HB.out | apply below_alloc | apply pw_below_drewN | apply below_drew1 | refine below_set ?_ GE293.out) | exact HB.out)); (case side2 => exact HR0.out); (case side3 => exact HC0.out); rintro e w11 ⟨g297, rfl, hi, hb, hb2⟩; refine ⟨_, rfl, ?_⟩; replace HB := Aside0.mk (hb); have HI297 := Aside0.mk (hi); have NB297_293 := Aside0.mk (IsS85.ne_blk hi (blk_below (g := gb293) (o := .cells #[.int .i64 0, .int .i64 0, .int .i64 0, .slice none 0 0, .string (⟨#[]⟩ : ByteArray), .string (⟨#[]⟩ : ByteArray), .slice none 0 0, .slice none 0 0, .string (⟨#[]⟩ : ByteArray), .slice none 0 0, .int .i64 0, .int .i64 0] 34 (0, 0)) m17_ hb2) (by decide)); have NB293_297 := Aside0.mk (Ne.symm (IsS85.ne_blk hi (blk_below (g := gb293) (o := .cells #[.int .i64 0, .int .i64 0, .int .i64 0, .slice none 0 0, .string (⟨#[]⟩ : ByteArray), .string (⟨#[]⟩ : ByteArray), .slice none 0 0, .slice none 0 0, .string (⟨#[]⟩ : ByteArray), .slice none 0 0, .int .i64 0, .int .i64 0] 34 (0, 0)) m17_ hb2) (by decide))); replace BK293 := Aside0.mk (blk_below (g := gb293) (o := .cells #[.int .i64 0, .int .i64 0, .int .i64 0, .slice none 0 0, .string (⟨#[]⟩ : ByteArray), .string (⟨#[]⟩ : ByteArray), .slice none 0 0, .slice none 0 0, .string (⟨#[]⟩ : ByteArray), .slice none 0 0, .int .i64 0, .int .i64 0] 34 (0, 0)) m17_ hb2); (try clear hb hb2 hi)) | ((with_reducible refine gate_callee (f := 40) rfl ?_); refine goesL_ (some 15) rfl rfl Tryd.func40 (by kernel_rfl) rfl #[.pointer (some ⟨g297, 0, none⟩)] rfl m14_ ?_; (with_reducible refine (frame_reader_number.calls k g297 t294 t295 t296 t298 t299 t300 w _ ?side1 ?side2 A6.out).mono ?_); (case side1 => repeat (first | (with_reducible first | exact HI297.out | apply IsS85.alloc | apply IsS85.drewN | apply IsS85.drew | apply IsS85.set_1 | apply IsS85.set_2 | refine IsS85.far ?_ NB297_293.out _) | exact HI297.out)); (case side2 => repeat (first | (with_reducible first | exact HB.out | apply below_alloc | apply pw_below_drewN | apply below_drew1 | refine below_set ?_ (IsS85.ge HI297.out) | refine below_set ?_ GE293.out) | exact HB.out)); rintro e w12 ⟨rfl, hi, hb, hk⟩; refine ⟨_, rfl, ?_⟩; replace BK293 := Aside0.mk (KeepBut.blk hk (g' := gb293) (o := .cells #[.int .i64 0, .int .i64 0, .int .i64 0, .slice none 0 0, .string (⟨#[]⟩ : ByteArray), .string (⟨#[]⟩ : ByteArray), .slice none 0 0, .slice none 0 0, .string (⟨#[]⟩ : ByteArray), .slice none 0 0, .int .i64 0, .int .i64 0] 34 (0, 0)) m17_ NB293_297.out (by simp)); replace HI297 := Aside0.mk (hi); replace HB := Aside0.mk (hb); (try clear hb hk hi)) | ((with_reducible refine gate_callee (f := 40) rfl ?_); refine goesL_ (some 17) rfl rfl Tryd.func40 (by kernel_rfl) rfl #[.pointer (some ⟨g297, 0, none⟩)] rfl m14_ ?_; (with_reducible refine (frame_reader_number.calls k g297 t294 t299 t300 t301 t302 t303 w _ ?side1 ?side2 A7.out).mono ?_); (case side1 => repeat (first | (with_reducible first | exact HI297.out | apply IsS85.alloc | apply IsS85.drewN | apply IsS85.drew | apply IsS85.set_1 | apply IsS85.set_2 | refine IsS85.far ?_ NB297_293.out _) | exact HI297.out)); (case side2 => repeat (first | (with_reducible first | exact HB.out | apply below_alloc | apply pw_below_drewN | apply below_drew1 | refine below_set ?_ (IsS85.ge HI297.out) | refine below_set ?_ GE293.out) | exact HB.out)); rintro e w13 ⟨rfl, hi, hb, hk⟩; refine ⟨_, rfl, ?_⟩; replace BK293 := Aside0.mk (KeepBut.blk hk (g' := gb293) (o := .cells #[.int .i64 0, .int .i64 0, .int .i64 0, .slice none 0 0, .string (⟨#[]⟩ : ByteArray), .string (⟨#[]⟩ : ByteArray), .slice none 0 0, .slice none 0 0, .string (⟨#[]⟩ : ByteArray), .slice none 0 0, .int .i64 0, .int .i64 0] 34 (0, 0)) m17_ NB293_297.out (by simp)); replace HI297 := Aside0.mk (hi); replace HB := Aside0.mk (hb); (try clear hb hk hi)) | ((with_reducible refine gate_callee (f := 40) rfl ?_); refine goesL_ (some 19) rfl rfl Tryd.func40 (by kernel_rfl) rfl #[.pointer (some ⟨g297, 0, none⟩)] rfl m14_ ?_; (with_reducible refine (frame_reader_number.calls k g297 t294 t302 t303 t304 t305 t306 w _ ?side1 ?side2 A8.out).mono ?_); (case side1 => repeat (first | (with_reducible first | exact HI297.out | apply IsS85.alloc | apply IsS85.drewN | apply IsS85.drew | apply IsS85.set_1 | apply IsS85.set_2 | refine IsS85.far ?_ NB297_293.out _) | exact HI297.out)); (case side2 => repeat (first | (with_reducible first | exact HB.out | apply below_alloc | apply pw_below_drewN | apply below_drew1 | refine below_set ?_ (IsS85.ge HI297.out) | refine below_set ?_ GE293.out) | exact HB.out)); rintro e w14 ⟨rfl, hi, hb, hk⟩; refine ⟨_, rfl, ?_⟩; replace BK293 := Aside0.mk (KeepBut.blk hk (g' := gb293) (o := .cells #[.int .i64 0, .int .i64 0, .int .i64 0, .slice none 0 0, .string (⟨#[]⟩ : ByteArray), .string (⟨#[]⟩ : ByteArray), .slice none 0 0, .slice none 0 0, .string (⟨#[]⟩ : ByteArray), .slice none 0 0, .int .i64 0, .int .i64 0] 34 (0, 0)) m17_ NB293_297.out (by simp)); replace HI297 := Aside0.mk (hi); replace HB := Aside0.mk (hb); (try clear hb hk hi)) | ((with_reducible refine gate_dst (N := 5) rfl ?_); (try (refine gate_guard (by rfl) ?_; dsimp only)); refine box_event ?hg (N := 5) ?hd (cs := #[.int .i64 0, .int .i64 0, .int .i64 0, .slice none 0 0, .string (⟨#[]⟩ : ByteArray), .string (⟨#[]⟩ : ByteArray), .slice none 0 0, .slice none 0 0, .string (⟨#[]⟩ : ByteArray), .slice none 0 0, .int .i64 0, .int .i64 0]) (t := 34) ?hr ?_; (case hd => rfl); (case hg => rfl); (case hr => first | (go_simp; done) | (go_simp; rfl)); intro gb307 hg w15 hbox hb; have BK307 := Aside0.mk (hbox); have GW307 := Aside0.mk ((by rw [hg]; exact (below_size m2_) : w.heap.size ≤ gb307)); have GE307 := Aside0.mk ((by rw [hg]; exact (below_size m2_) : w.heap.size ≤ gb307)); replace HB := Aside0.mk (below_step m2_ hb); have NB293_307 := Aside0.mk ((by rw [hg]; exact Nat.ne_of_lt (blk_lt (g := gb293) (o := .cells #[.int .i64 0, .int .i64 0, .int .i64 0, .slice none 0 0, .string (⟨#[]⟩ : ByteArray), .string (⟨#[]⟩ : ByteArray), .slice none 0 0, .slice none 0 0, .string (⟨#[]⟩ : ByteArray), .slice none 0 0, .int .i64 0, .int .i64 0] 34 (0, 0)) m17_) : gb293 ≠ gb307)); have NB307_293 := Aside0.mk ((by rw [hg]; exact Nat.ne_of_gt (blk_lt (g := gb293) (o := .cells #[.int .i64 0, .int .i64 0, .int .i64 0, .slice none 0 0, .string (⟨#[]⟩ : ByteArray), .string (⟨#[]⟩ : ByteArray), .slice none 0 0, .slice none 0 0, .string (⟨#[]⟩ : ByteArray), .slice none 0 0, .int .i64 0, .int .i64 0] 34 (0, 0)) m17_) : gb307 ≠ gb293)); replace BK293 := Aside0.mk (blk_below (g := gb293) (o := .cells #[.int .i64 0, .int .i64 0, .int .i64 0, .slice none 0 0, .string (⟨#[]⟩ : ByteArray), .string (⟨#[]⟩ : ByteArray), .slice none 0 0, .slice none 0 0, .string (⟨#[]⟩ : ByteArray), .slice none 0 0, .int .i64 0, .int .i64 0] 34 (0, 0)) m17_ hb); have NB297_307 := Aside0.mk ((by rw [hg]; exact Nat.ne_of_lt (IsS85.lt (show IsS85 w _ g297 t294 t305 t306 from by repeat (first | (with_reducible first | exact HI297.out | apply IsS85.alloc | apply IsS85.drewN | apply IsS85.drew | apply IsS85.set_1 | apply IsS85.set_2 | refine IsS85.far ?_ NB297_293.out _) | exact HI297.out))) : g297 ≠ gb307)); have NB307_297 := Aside0.mk ((by rw [hg]; exact Nat.ne_of_gt (IsS85.lt (show IsS85 w _ g297 t294 t305 t306 from by repeat (first | (with_reducible first | exact HI297.out | apply IsS85.alloc | apply IsS85.drewN | apply IsS85.drew | apply IsS85.set_1 | apply IsS85.set_2 | refine IsS85.far ?_ NB297_293.out _) | exact HI297.out))) : gb307 ≠ g297)); replace HI297 := Aside0.mk (IsS85.below (by repeat (first | (with_reducible first | exact HI297.out | apply IsS85.alloc | apply IsS85.drewN | apply IsS85.drew | apply IsS85.set_1 | apply IsS85.set_2 | refine IsS85.far ?_ NB297_293.out _) | exact HI297.out)) hb); clear hb hbox hg; have hnb16 := NB307_293.out; have hnc16 := NB293_307.out; have hnb17 := NB307_297.out; have hnc17 := NB297_307.out; obtain ⟨hcz18_0, hcz18_1, hcz18_2, hcz18_3, hcz18_4, hcz18_5, hcz18_6, hcz18_7, hcz18_8, hcz18_9, hcz18_10, hcz18_11⟩ := bc12_ BK307.out; obtain ⟨hfz18_0, hfz18_1, hfz18_2, hfz18_3, hfz18_4, hfz18_5, hfz18_6, hfz18_7, hfz18_8, hfz18_9, hfz18_10, hfz18_11⟩ := bf12_ BK307.out) | ((with_reducible refine gate_callee (f := 41) rfl ?_); refine goesL_ (some 22) rfl rfl Tryd.func41 (by kernel_rfl) rfl #[.pointer (some ⟨g297, 0, none⟩), .int .i64 64] rfl m14_ ?_; (with_reducible refine (frame_reader_many.calls k g297 t294 t305 t306 64 t308 t309 t310 w _ ?side1 ?side2 A9.out).mono ?_); (case side1 => repeat (first | (with_reducible first | exact HI297.out | apply IsS85.alloc | apply IsS85.drewN | apply IsS85.drew | apply IsS85.set_1 | apply IsS85.set_2 | refine IsS85.far ?_ NB297_293.out _ | refine IsS85.far ?_ NB297_307.out _) | exact HI297.out)); (case side2 => repeat (first | (with_reducible first | exact HB.out | apply below_alloc | apply pw_below_drewN | apply below_drew1 | refine below_set ?_ (IsS85.ge HI297.out) | refine below_set ?_ GE293.out | refine below_set ?_ GE307.out) | exact HB.out)); rintro e w19 ⟨rfl, hi, hb, hk⟩; refine ⟨_, rfl, ?_⟩; replace BK293 := Aside0.mk (KeepBut.blk hk (g' := gb293) (o := .cells #[.int .i64 0, .int .i64 0, .int .i64 0, .slice none 0 0, .string (⟨#[]⟩ : ByteArray), .string (⟨#[]⟩ : ByteArray), .slice none 0 0, .slice none 0 0, .string (⟨#[]⟩ : ByteArray), .slice none 0 0, .int .i64 0, .int .i64 0] 34 (0, 0)) (by refine bD_ ?_; refine blk_far ?_ NB293_307.out _; refine bD_ ?_; refine blk_far ?_ NB293_307.out _; refine bD_ ?_; refine blk_far ?_ NB293_307.out _; refine bD_ ?_; refine blk_far ?_ NB293_307.out _; refine bD_ ?_; refine blk_far ?_ NB293_307.out _; refine bD_ ?_; refine blk_far ?_ NB293_307.out _; refine bD_ ?_; refine blk_far ?_ NB293_307.out _; refine bD_ ?_; refine blk_far ?_ NB293_307.out _; refine bD_ ?_; refine blk_far ?_ NB293_307.out _; refine bD_ ?_; refine blk_far ?_ NB293_307.out _; refine bD_ ?_; refine blk_far ?_ NB293_307.out _; refine bD_ ?_; refine blk_far ?_ NB293_307.out _; refine bD_ ?_; exact BK293.out) NB293_297.out (by simp)); replace BK307 := Aside0.mk (KeepBut.blk hk (g' := gb307) (o := .cells #[.int .i64 t298, .int .i64 t301, .int .i64 t304, .slice none 0 0, .string (⟨#[]⟩ : ByteArray), .string (⟨#[]⟩ : ByteArray), .slice none 0 0, .slice none 0 0, .string (⟨#[]⟩ : ByteArray), .slice none 0 0, .int .i64 0, .int .i64 0] 34 (0, 0)) (by refine bD_ ?_; refine blk_put (cs := #[.int .i64 t298, .int .i64 t301, .int .i64 t304, .slice none 0 0, .string (⟨#[]⟩ : ByteArray), .string (⟨#[]⟩ : ByteArray), .slice none 0 0, .slice none 0 0, .string (⟨#[]⟩ : ByteArray), .slice none 0 0, .int .i64 0, .int .i64 0]) ?_ 11 _ rfl; refine bD_ ?_; refine blk_put (cs := #[.int .i64 t298, .int .i64 t301, .int .i64 t304, .slice none 0 0, .string (⟨#[]⟩ : ByteArray), .string (⟨#[]⟩ : ByteArray), .slice none 0 0, .slice none 0 0, .string (⟨#[]⟩ : ByteArray), .slice none 0 0, .int .i64 0, .int .i64 0]) ?_ 10 _ rfl; refine bD_ ?_; refine blk_put (cs := #[.int .i64 t298, .int .i64 t301, .int .i64 t304, .slice none 0 0, .string (⟨#[]⟩ : ByteArray), .string (⟨#[]⟩ : ByteArray), .slice none 0 0, .slice none 0 0, .string (⟨#[]⟩ : ByteArray), .slice none 0 0, .int .i64 0, .int .i64 0]) ?_ 9 _ rfl; refine bD_ ?_; refine blk_put (cs := #[.int .i64 t298, .int .i64 t301, .int .i64 t304, .slice none 0 0, .string (⟨#[]⟩ : ByteArray), .string (⟨#[]⟩ : ByteArray), .slice none 0 0, .slice none 0 0, .string (⟨#[]⟩ : ByteArray), .slice none 0 0, .int .i64 0, .int .i64 0]) ?_ 8 _ rfl; refine bD_ ?_; refine blk_put (cs := #[.int .i64 t298, .int .i64 t301, .int .i64 t304, .slice none 0 0, .string (⟨#[]⟩ : ByteArray), .string (⟨#[]⟩ : ByteArray), .slice none 0 0, .slice none 0 0, .string (⟨#[]⟩ : ByteArray), .slice none 0 0, .int .i64 0, .int .i64 0]) ?_ 7 _ rfl; refine bD_ ?_; refine blk_put (cs := #[.int .i64 t298, .int .i64 t301, .int .i64 t304, .slice none 0 0, .string (⟨#[]⟩ : ByteArray), .string (⟨#[]⟩ : ByteArray), .slice none 0 0, .slice none 0 0, .string (⟨#[]⟩ : ByteArray), .slice none 0 0, .int .i64 0, .int .i64 0]) ?_ 6 _ rfl; refine bD_ ?_; refine blk_put (cs := #[.int .i64 t298, .int .i64 t301, .int .i64 t304, .slice none 0 0, .string (⟨#[]⟩ : ByteArray), .string (⟨#[]⟩ : ByteArray), .slice none 0 0, .slice none 0 0, .string (⟨#[]⟩ : ByteArray), .slice none 0 0, .int .i64 0, .int .i64 0]) ?_ 5 _ rfl; refine bD_ ?_; refine blk_put (cs := #[.int .i64 t298, .int .i64 t301, .int .i64 t304, .slice none 0 0, .string (⟨#[]⟩ : ByteArray), .string (⟨#[]⟩ : ByteArray), .slice none 0 0, .slice none 0 0, .string (⟨#[]⟩ : ByteArray), .slice none 0 0, .int .i64 0, .int .i64 0]) ?_ 4 _ rfl; refine bD_ ?_; refine blk_put (cs := #[.int .i64 t298, .int .i64 t301, .int .i64 t304, .slice none 0 0, .string (⟨#[]⟩ : ByteArray), .string (⟨#[]⟩ : ByteArray), .slice none 0 0, .slice none 0 0, .string (⟨#[]⟩ : ByteArray), .slice none 0 0, .int .i64 0, .int .i64 0]) ?_ 3 _ rfl; refine bD_ ?_; refine blk_put (cs := #[.int .i64 t298, .int .i64 t301, .int .i64 0, .slice none 0 0, .string (⟨#[]⟩ : ByteArray), .string (⟨#[]⟩ : ByteArray), .slice none 0 0, .slice none 0 0, .string (⟨#[]⟩ : ByteArray), .slice none 0 0, .int .i64 0, .int .i64 0]) ?_ 2 _ rfl; refine bD_ ?_; refine blk_put (cs := #[.int .i64 t298, .int .i64 0, .int .i64 0, .slice none 0 0, .string (⟨#[]⟩ : ByteArray), .string (⟨#[]⟩ : ByteArray), .slice none 0 0, .slice none 0 0, .string (⟨#[]⟩ : ByteArray), .slice none 0 0, .int .i64 0, .int .i64 0]) ?_ 1 _ rfl; refine bD_ ?_; refine blk_put (cs := #[.int .i64 0, .int .i64 0, .int .i64 0, .slice none 0 0, .string (⟨#[]⟩ : ByteArray), .string (⟨#[]⟩ : ByteArray), .slice none 0 0, .slice none 0 0, .string (⟨#[]⟩ : ByteArray), .slice none 0 0, .int .i64 0, .int .i64 0]) ?_ 0 _ rfl; refine bD_ ?_; exact BK307.out) NB307_297.out (by simp)); replace HB := Aside0.mk (hb); replace HI297 := Aside0.mk (hi); (try clear hb hk hi)))
 go_loopg [23] k (fun kq v23 w' => ∃ (x23_1 : Int) (x298001_1 : Int) (x298002_1 : Bool) (x308003_1 : List ByteArray) (u308003 : Value), v23 = .int .i64 x23_1 ∧ Aside0 (frame_ReadReply.l0 kq l0 t308 x23_1 t294 x298001_1 x298002_1 t298 t301 t304 x308003_1 (⟨#[]⟩ : ByteArray) (⟨#[]⟩ : ByteArray) (⟨#[]⟩ : ByteArray) 0 0 = some (r1, r2, r3, r4, r5, r6, r7, r8, r9, r10, r11, r12, r13)) ∧ Aside0 (kq ≤ k) ∧ Aside0 (Kd.R Kd.string 9 w' w.heap.size (fun _ => True) u308003 x308003_1) ∧ Aside0 (w'.heap[gb293]? = some (.cells #[.int .i64 0, .int .i64 0, .int .i64 0, (.slice none 0 0), .string (⟨#[]⟩ : ByteArray), .string (⟨#[]⟩ : ByteArray), (.slice none 0 0), (.slice none 0 0), .string (⟨#[]⟩ : ByteArray), (.slice none 0 0), .int .i64 0, .int .i64 0] 34 (0, 0))) ∧ Aside0 (w'.heap[gb307]? = some (.cells #[.int .i64 t298, .int .i64 t301, .int .i64 t304, u308003, .string (⟨#[]⟩ : ByteArray), .string (⟨#[]⟩ : ByteArray), (.slice none 0 0), (.slice none 0 0), .string (⟨#[]⟩ : ByteArray), (.slice none 0 0), .int .i64 0, .int .i64 0] 34 (0, 0))) ∧ Aside0 (IsS85 w w' g297 t294 x298001_1 x298002_1) ∧ Aside0 (Below w.heap.size w w'))
 case atStart => exact ⟨(0), (t309), (t310), (([] : List ByteArray)), (.slice none 0 0), m39_, H', ⟨Nat.le_refl _⟩, ⟨by first | exact Kd.R_nil _ _ _ _ _ | exact Kd.N_nil _ _ _ _ _ | exact Kd.V_nil _ _ _ _ _ | exact Kd.Q_nil _ _ _ _ _ | exact Kd.S_nil _ _ _ _ _⟩, ⟨by refine bD_ ?_; exact BK293.out⟩, ⟨by refine bD_ ?_; exact BK307.out⟩, ⟨m41_⟩, ⟨m42_⟩⟩
 clear H'
 try clear c2b0; try clear c2b1; try clear hcz18_0; try clear hcz18_1; try clear hcz18_10; try clear hcz18_11; try clear hcz18_2; try clear hcz18_3; try clear hcz18_4; try clear hcz18_5; try clear hcz18_6; try clear hcz18_7; try clear hcz18_8; try clear hcz18_9; try clear hfz18_0; try clear hfz18_1; try clear hfz18_10; try clear hfz18_11; try clear hfz18_2; try clear hfz18_3; try clear hfz18_4; try clear hfz18_5; try clear hfz18_6; try clear hfz18_7; try clear hfz18_8; try clear hfz18_9
 obtain ⟨x23_1, x298001_1, x298002_1, x308003_1, u308003, rfl, HA, HK1, HO_308003, BK293, BK307, HI297, HB⟩ := hrel
 cases gk with
 | zero => exact absurd HA.out (by simp [frame_ReadReply.l0])
 | succ k1 =>
  have H := HA.out
  clear HA
  simp only [frame_ReadReply.l0] at H
  by_cases c20 : x23_1 < t308
  ·rw [if_pos c20] at H
   have c20b0 : decide (x23_1 < t308) = true := decide_eq_true c20
   clear c20
   replace H := Option.bind_eq_some_iff.mp H
   obtain ⟨⟨t311, t312, t313⟩, A210, H⟩ := H
   try dsimp only at H
   have A21 := Aside0.mk A210
   clear A210
   by_cases c22 : x308003_1.length < 8796093022208
   case neg =>
    rw [if_neg c22] at H
    exact absurd H (by simp)
   rw [if_pos c22] at H
   have LMc22 := Aside0.mk c22
   clear c22
   obtain ⟨y314, hy314⟩ : ∃ y_ : List ByteArray, y_ = (x308003_1 ++ [t311]) := ⟨_, rfl⟩
   replace H : (frame_ReadReply.l0 k1 l0 t308 (wrap64 (x23_1 + 1)) t294 t312 t313 t298 t301 t304 y314 (⟨#[]⟩ : ByteArray) (⟨#[]⟩ : ByteArray) (⟨#[]⟩ : ByteArray) 0 0) = some (r1, r2, r3, r4, r5, r6, r7, r8, r9, r10, r11, r12, r13) := by first | (rw [hy314]; with_reducible exact H) | (have H2_ := (Option.bind_some _ _).symm.trans H; rw [hy314]; with_reducible exact H2_) | (have H2_ := (Option.bind_some _ _).symm.trans H; with_reducible exact H2_) | with_reducible exact H | (rw [hy314]; exact H) | exact H
   have Ny314 := Aside0.mk hy314
   clear hy314
   have H' := Aside0.mk H
   clear H
   try go_wp2
   replace HO_308003 := Aside0.mk (Kd.R_drew HO_308003.out)
   replace BK293 := Aside0.mk (blk_drew BK293.out)
   replace BK307 := Aside0.mk (blk_drew BK307.out)
   replace HI297 := Aside0.mk (IsS85.drew HI297.out)
   replace HB := Aside0.mk (below_drew1 HB.out)
   refine start_ (n := 8) (S := fun w' => w'.cell? ⟨gb307, 0, none⟩ = some (.int .i64 t298) ∧ w'.cell? ⟨gb307, 1, none⟩ = some (.int .i64 t301) ∧ w'.cell? ⟨gb307, 2, none⟩ = some (.int .i64 t304) ∧ w'.cell? ⟨gb307, 3, none⟩ = some (u308003) ∧ w'.cell? ⟨gb307, 4, none⟩ = some (.string (⟨#[]⟩ : ByteArray)) ∧ w'.cell? ⟨gb307, 5, none⟩ = some (.string (⟨#[]⟩ : ByteArray)) ∧ w'.cell? ⟨gb307, 6, none⟩ = some (.slice none 0 0) ∧ w'.cell? ⟨gb307, 7, none⟩ = some (.slice none 0 0) ∧ w'.cell? ⟨gb307, 8, none⟩ = some (.string (⟨#[]⟩ : ByteArray)) ∧ w'.cell? ⟨gb307, 9, none⟩ = some (.slice none 0 0) ∧ w'.cell? ⟨gb307, 10, none⟩ = some (.int .i64 0) ∧ w'.cell? ⟨gb307, 11, none⟩ = some (.int .i64 0)) (ds := [7]) (Ra_ [0, 8]) (by kernel_rfl) rfl rfl ⟨(blk_cell BK307.out 0).trans rfl, (blk_cell BK307.out 1).trans rfl, (blk_cell BK307.out 2).trans rfl, (blk_cell BK307.out 3).trans rfl, (blk_cell BK307.out 4).trans rfl, (blk_cell BK307.out 5).trans rfl, (blk_cell BK307.out 6).trans rfl, (blk_cell BK307.out 7).trans rfl, (blk_cell BK307.out 8).trans rfl, (blk_cell BK307.out 9).trans rfl, (blk_cell BK307.out 10).trans rfl, (blk_cell BK307.out 11).trans rfl⟩ (fun hHeld => ?_); refine with_tabW frame_ReadReply.tab7 frame_ReadReply.bits7 (fun HT_ HW_ => ?_)
   generalize wr.drew = w23 at HO_308003 BK293 BK307 HI297 HB hHeld ⊢
   refine pI_ 0 (some 25) (Ra_ [1, 7]) (h := ?_)
   refine pI_ 2 (some 27) (Ra_ [1, 1, 1, 5]) (h := ?_)
   refine tI12_ 1 (some 26) (Ra_ [3, 5]) (h := ?_)
   refine one_ (i := 3) (N := some 28) (Ra_ [4, 4]) rfl rfl (one_of HT_.out (by kernel_rfl)) (by decide) (fun K hK => ?_)
   refine goes_ Tryd.func42 (by kernel_rfl) rfl #[.pointer (some ⟨g297, 0, none⟩), .int .i64 32] (by rfl) rfl rfl m14_ ?_
   with_reducible refine (frame_reader_text.calls k1 g297 t294 x298001_1 x298002_1 32 t311 t312 t313 w _ ?side1 ?side2 A21.out).mono ?_
   (case side1 => repeat (first | (with_reducible first | exact HI297.out | apply IsS85.alloc | apply IsS85.drewN | apply IsS85.drew | apply IsS85.set_1 | apply IsS85.set_2 | refine IsS85.far ?_ NB297_293.out _ | refine IsS85.far ?_ NB297_307.out _) | exact HI297.out))
   (case side2 => repeat (first | (with_reducible first | exact HB.out | apply below_alloc | apply pw_below_drewN | apply below_drew1 | refine below_set ?_ (IsS85.ge HI297.out) | refine below_set ?_ GE293.out | refine below_set ?_ GE307.out) | exact HB.out))
   rintro e w24 ⟨rfl, hi, hb, hk⟩
   refine ⟨_, rfl, ?_⟩
   replace HO_308003 := Aside0.mk (Kd.R_mono (Kd.R_keep (IsS85.apart (show IsS85 w _ g297 t294 x298001_1 x298002_1 from m41_) m25_ (by decide)) hk (fun _ h => h.2)) (fun _ h => h.1))
   replace BK293 := Aside0.mk (KeepBut.blk hk (g' := gb293) (o := .cells #[.int .i64 0, .int .i64 0, .int .i64 0, .slice none 0 0, .string (⟨#[]⟩ : ByteArray), .string (⟨#[]⟩ : ByteArray), .slice none 0 0, .slice none 0 0, .string (⟨#[]⟩ : ByteArray), .slice none 0 0, .int .i64 0, .int .i64 0] 34 (0, 0)) m17_ NB293_297.out (by simp))
   replace BK307 := Aside0.mk (KeepBut.blk hk (g' := gb307) (o := .cells #[.int .i64 t298, .int .i64 t301, .int .i64 t304, u308003, .string (⟨#[]⟩ : ByteArray), .string (⟨#[]⟩ : ByteArray), .slice none 0 0, .slice none 0 0, .string (⟨#[]⟩ : ByteArray), .slice none 0 0, .int .i64 0, .int .i64 0] 34 (0, 0)) m18_ NB307_297.out (by simp))
   replace HI297 := Aside0.mk (hi)
   replace HB := Aside0.mk (hb)
   (try clear hb hk hi)
   refine hK.out _ _ ⟨(blk_cell BK307.out 0).trans rfl, (blk_cell BK307.out 1).trans rfl, (blk_cell BK307.out 2).trans rfl, (blk_cell BK307.out 3).trans rfl, (blk_cell BK307.out 4).trans rfl, (blk_cell BK307.out 5).trans rfl, (blk_cell BK307.out 6).trans rfl, (blk_cell BK307.out 7).trans rfl, (blk_cell BK307.out 8).trans rfl, (blk_cell BK307.out 9).trans rfl, (blk_cell BK307.out 10).trans rfl, (blk_cell BK307.out 11).trans rfl⟩ (fun hHeld => ?_)
   clear hK K
   refine norm_ (a' := ?_) ?_ ?_
   rotate_left
   ·show Act.put _ (some 28) _ = _
    simp only [Act.put, sA_, sB_, sC_, i64_w, i32_w]
    rfl
   refine one_ (i := 4) (N := some 29) (Ra_ [5, 3]) rfl rfl (one_of HT_.out (by kernel_rfl)) (by decide) (fun K hK => ?_)
   refine value_ (w1 := ?_) (v := ?_) (by rfl) rfl ?_ ?_
   rotate_left 2
   ·go_simp
    constructor
    ·rfl
    rfl
   refine hK.out _ _ ⟨(blk_cell (blk_alloc BK307.out _) 0).trans rfl, (blk_cell (blk_alloc BK307.out _) 1).trans rfl, (blk_cell (blk_alloc BK307.out _) 2).trans rfl, (blk_cell (blk_alloc BK307.out _) 3).trans rfl, (blk_cell (blk_alloc BK307.out _) 4).trans rfl, (blk_cell (blk_alloc BK307.out _) 5).trans rfl, (blk_cell (blk_alloc BK307.out _) 6).trans rfl, (blk_cell (blk_alloc BK307.out _) 7).trans rfl, (blk_cell (blk_alloc BK307.out _) 8).trans rfl, (blk_cell (blk_alloc BK307.out _) 9).trans rfl, (blk_cell (blk_alloc BK307.out _) 10).trans rfl, (blk_cell (blk_alloc BK307.out _) 11).trans rfl⟩ (fun hHeld => ?_)
   clear hK K
   refine norm_ (a' := ?_) ?_ ?_
   rotate_left
   ·show Act.put _ (some 29) _ = _
    simp only [Act.put, sA_, sB_, sC_, i64_w, i32_w]
    rfl
   refine one_ (i := 5) (N := some 30) (Ra_ [6, 2]) rfl rfl (one_of HT_.out (by kernel_rfl)) (by decide) (fun K hK => ?_)
   refine Kd.R_append_step Kd.string (w0 := w) w.heap.size (by rfl) (.tmp 26) (.tmp 29) 29 9 (.string ⟨#[]⟩) 16 rfl Tryd.underlying29 info9 rfl (by decide) (by omega) u308003 x308003_1 t311 [.string t311] (fun _ => True) (fun _ => False) rfl rfl ?aP (fun _ hk => hk.elim) ?aF ?aO ?aB ?aS ?aL ?_
   (case aP => exact rfl)
   (case aB => exact m1_)
   (case aF => exact (fun _ _ => trivial))
   (case aO => exact m25_)
   (case aS => exact (below_size m1_))
   (case aL => have := LMc22.out; omega)
   intro v315 w25 ho hb hg hat
   rw [← Ny314.out] at ho
   have n0_ := Aside0.mk (blk_grown (g := gb293) (o := .cells #[.int .i64 0, .int .i64 0, .int .i64 0, .slice none 0 0, .string (⟨#[]⟩ : ByteArray), .string (⟨#[]⟩ : ByteArray), .slice none 0 0, .slice none 0 0, .string (⟨#[]⟩ : ByteArray), .slice none 0 0, .int .i64 0, .int .i64 0] 34 (0, 0)) m17_ hg (Kd.R_ne HO_308003.out BK293.out (by decide)))
   have n1_ := Aside0.mk (blk_grown (g := gb307) (o := .cells #[.int .i64 t298, .int .i64 t301, .int .i64 t304, u308003, .string (⟨#[]⟩ : ByteArray), .string (⟨#[]⟩ : ByteArray), .slice none 0 0, .slice none 0 0, .string (⟨#[]⟩ : ByteArray), .slice none 0 0, .int .i64 0, .int .i64 0] 34 (0, 0)) m18_ hg (Kd.R_ne HO_308003.out BK307.out (by decide)))
   have n2_ := Aside0.mk (IsS85.grown m0_ hg (IsS85.own_ne HI297.out HO_308003.out (by decide)))
   have n3_ := Aside0.mk (hb)
   have n4_ := Aside0.mk (ho)
   clear BK293 BK307 HI297 HB HO_308003
   have BK293 := n0_
   have BK307 := n1_
   have HI297 := n2_
   have HB := n3_
   have HO316 := n4_
   clear n0_ n1_ n2_ n3_ n4_ ho hb hg hat
   obtain ⟨Ao26, co26, eo26⟩ := Kd.R_slice HO316.out
   (first | subst eo26 | (injection eo26 with f1_ f2_ f3_; have f4_ := f1_.symm; have f5_ := f3_.symm; clear f1_ f2_ f3_; subst f4_; subst f5_))
   refine hK.out _ _ ⟨(blk_cell BK307.out 0).trans rfl, (blk_cell BK307.out 1).trans rfl, (blk_cell BK307.out 2).trans rfl, (blk_cell BK307.out 3).trans rfl, (blk_cell BK307.out 4).trans rfl, (blk_cell BK307.out 5).trans rfl, (blk_cell BK307.out 6).trans rfl, (blk_cell BK307.out 7).trans rfl, (blk_cell BK307.out 8).trans rfl, (blk_cell BK307.out 9).trans rfl, (blk_cell BK307.out 10).trans rfl, (blk_cell BK307.out 11).trans rfl⟩ (fun hHeld => ?_)
   clear hK K
   refine norm_ (a' := ?_) ?_ ?_
   rotate_left
   ·show Act.put _ (some 30) _ = _
    simp only [Act.put, sA_, sB_, sC_, i64_w, i32_w]
    rfl
   refine pI_ 6 (some 31) (Ra_ [7, 1]) (h := ?_)
   refine last_ (i := 7) (N := none) (Ra_ [8]) rfl rfl (one_of HT_.out (by kernel_rfl)) (by decide) (fun K hK => ?_)
   have hs27 : w25.cell? ⟨gb307, 3, none⟩ = some (u308003) := (blk_cell BK307.out 3).trans rfl
   have hfs27 := blk_frozen BK307.out 3
   have hns27_0 := NB293_307.out
   have hms27_0 := NB307_293.out
   refine skip_ (w1 := ?_) (by rfl) rfl ?_ ?_
   rotate_left
   ·go_simp
    rfl
   refine hK.out _ _ ?_
   clear hK K
   refine done_ (done_of HT_.out (by kernel_rfl)) ?_
   try go_wp2
   go_roundg k1
   case measure => have := HK1.out; omega
   case rel => exact ⟨(wrap64 (x23_1 + 1)), (t312), (t313), (y314), (.slice Ao26 y314.length co26), m39_, H', ⟨by have := HK1.out; omega⟩, ⟨by refine rD_ ?_; exact Kd.R_mono (Kd.R_far (p := ⟨gb307, 3, none⟩) (Kd.R_types HO316.out BK307.out (by decide)) (fun _ hk => hk.2) (.slice Ao26 y314.length co26)) (fun _ hk => trivial)⟩, ⟨by refine bD_ ?_; refine blk_far ?_ NB293_307.out _; refine bD_ ?_; exact BK293.out⟩, ⟨by refine bD_ ?_; refine blk_put (cs := #[.int .i64 t298, .int .i64 t301, .int .i64 t304, u308003, .string (⟨#[]⟩ : ByteArray), .string (⟨#[]⟩ : ByteArray), .slice none 0 0, .slice none 0 0, .string (⟨#[]⟩ : ByteArray), .slice none 0 0, .int .i64 0, .int .i64 0]) ?_ 3 _ rfl; refine bD_ ?_; exact BK307.out⟩, ⟨m41_⟩, ⟨m42_⟩⟩
  rw [if_neg c20] at H
  have c20b0 : decide (x23_1 < t308) = false := decide_eq_false c20
  clear c20
  replace H := Option.bind_eq_some_iff.mp H
  obtain ⟨⟨t317, t318, t319⟩, A280, H⟩ := H
  try dsimp only at H
  have A28 := Aside0.mk A280
  clear A280
  replace H := Option.bind_eq_some_iff.mp H
  obtain ⟨⟨t320, t321, t322⟩, A290, H⟩ := H
  try dsimp only at H
  have A29 := Aside0.mk A290
  clear A290
  replace H := Option.bind_eq_some_iff.mp H
  obtain ⟨⟨t323, t324, t325⟩, A300, H⟩ := H
  try dsimp only at H
  have A30 := Aside0.mk A300
  clear A300
  have H' := Aside0.mk H
  clear H
  go_wp2_with (first | ((with_reducible refine gate_callee (f := 42) rfl ?_); refine goesL_ (some 34) rfl rfl Tryd.func42 (by kernel_rfl) rfl #[.pointer (some ⟨g297, 0, none⟩), .int .i64 1024] rfl m14_ ?_; (with_reducible refine (frame_reader_text.calls k1 g297 t294 x298001_1 x298002_1 1024 t317 t318 t319 w _ ?side1 ?side2 A28.out).mono ?_); (case side1 => repeat (first | (with_reducible first | exact HI297.out | apply IsS85.alloc | apply IsS85.drewN | apply IsS85.drew | apply IsS85.set_1 | apply IsS85.set_2 | refine IsS85.far ?_ NB297_293.out _ | refine IsS85.far ?_ NB297_307.out _) | exact HI297.out)); (case side2 => repeat (first | (with_reducible first | exact HB.out | apply below_alloc | apply pw_below_drewN | apply below_drew1 | refine below_set ?_ (IsS85.ge HI297.out) | refine below_set ?_ GE293.out | refine below_set ?_ GE307.out) | exact HB.out)); rintro e w31 ⟨rfl, hi, hb, hk⟩; refine ⟨_, rfl, ?_⟩; replace HO_308003 := Aside0.mk (Kd.R_mono (Kd.R_keep (IsS85.apart (show IsS85 w _ g297 t294 x298001_1 x298002_1 from m41_) m25_ (by decide)) hk (fun _ h => h.2)) (fun _ h => h.1)); replace BK293 := Aside0.mk (KeepBut.blk hk (g' := gb293) (o := .cells #[.int .i64 0, .int .i64 0, .int .i64 0, .slice none 0 0, .string (⟨#[]⟩ : ByteArray), .string (⟨#[]⟩ : ByteArray), .slice none 0 0, .slice none 0 0, .string (⟨#[]⟩ : ByteArray), .slice none 0 0, .int .i64 0, .int .i64 0] 34 (0, 0)) m17_ NB293_297.out (by simp)); replace BK307 := Aside0.mk (KeepBut.blk hk (g' := gb307) (o := .cells #[.int .i64 t298, .int .i64 t301, .int .i64 t304, u308003, .string (⟨#[]⟩ : ByteArray), .string (⟨#[]⟩ : ByteArray), .slice none 0 0, .slice none 0 0, .string (⟨#[]⟩ : ByteArray), .slice none 0 0, .int .i64 0, .int .i64 0] 34 (0, 0)) m18_ NB307_297.out (by simp)); replace HI297 := Aside0.mk (hi); replace HB := Aside0.mk (hb); (try clear hb hk hi)) | ((with_reducible refine gate_callee (f := 42) rfl ?_); refine goesL_ (some 36) rfl rfl Tryd.func42 (by kernel_rfl) rfl #[.pointer (some ⟨g297, 0, none⟩), .int .i64 32] rfl m14_ ?_; (with_reducible refine (frame_reader_text.calls k1 g297 t294 t318 t319 32 t320 t321 t322 w _ ?side1 ?side2 A29.out).mono ?_); (case side1 => repeat (first | (with_reducible first | exact HI297.out | apply IsS85.alloc | apply IsS85.drewN | apply IsS85.drew | apply IsS85.set_1 | apply IsS85.set_2 | refine IsS85.far ?_ NB297_293.out _ | refine IsS85.far ?_ NB297_307.out _) | exact HI297.out)); (case side2 => repeat (first | (with_reducible first | exact HB.out | apply below_alloc | apply pw_below_drewN | apply below_drew1 | refine below_set ?_ (IsS85.ge HI297.out) | refine below_set ?_ GE293.out | refine below_set ?_ GE307.out) | exact HB.out)); rintro e w32 ⟨rfl, hi, hb, hk⟩; refine ⟨_, rfl, ?_⟩; replace HO_308003 := Aside0.mk (Kd.R_mono (Kd.R_keep (IsS85.apart (show IsS85 w _ g297 t294 t318 t319 from m41_) m25_ (by decide)) hk (fun _ h => h.2)) (fun _ h => h.1)); replace BK293 := Aside0.mk (KeepBut.blk hk (g' := gb293) (o := .cells #[.int .i64 0, .int .i64 0, .int .i64 0, .slice none 0 0, .string (⟨#[]⟩ : ByteArray), .string (⟨#[]⟩ : ByteArray), .slice none 0 0, .slice none 0 0, .string (⟨#[]⟩ : ByteArray), .slice none 0 0, .int .i64 0, .int .i64 0] 34 (0, 0)) m17_ NB293_297.out (by simp)); replace BK307 := Aside0.mk (KeepBut.blk hk (g' := gb307) (o := .cells #[.int .i64 t298, .int .i64 t301, .int .i64 t304, u308003, .string (⟨#[]⟩ : ByteArray), .string (⟨#[]⟩ : ByteArray), .slice none 0 0, .slice none 0 0, .string (⟨#[]⟩ : ByteArray), .slice none 0 0, .int .i64 0, .int .i64 0] 34 (0, 0)) m18_ NB307_297.out (by simp)); replace HI297 := Aside0.mk (hi); replace HB := Aside0.mk (hb); (try clear hb hk hi); have hnb33 := NB307_293.out; have hnc33 := NB293_307.out; have hnb34 := NB307_297.out; have hnc34 := NB297_307.out; obtain ⟨hcz35_0, hcz35_1, hcz35_2, hcz35_3, hcz35_4, hcz35_5, hcz35_6, hcz35_7, hcz35_8, hcz35_9, hcz35_10, hcz35_11⟩ := bc12_ BK307.out; obtain ⟨hfz35_0, hfz35_1, hfz35_2, hfz35_3, hfz35_4, hfz35_5, hfz35_6, hfz35_7, hfz35_8, hfz35_9, hfz35_10, hfz35_11⟩ := bf12_ BK307.out) | ((with_reducible refine gate_callee (f := 41) rfl ?_); refine goesL_ (some 40) rfl rfl Tryd.func41 (by kernel_rfl) rfl #[.pointer (some ⟨g297, 0, none⟩), .int .i64 1024] rfl m14_ ?_; (with_reducible refine (frame_reader_many.calls k1 g297 t294 t321 t322 1024 t323 t324 t325 w _ ?side1 ?side2 A30.out).mono ?_); (case side1 => repeat (first | (with_reducible first | exact HI297.out | apply IsS85.alloc | apply IsS85.drewN | apply IsS85.drew | apply IsS85.set_1 | apply IsS85.set_2 | refine IsS85.far ?_ NB297_293.out _ | refine IsS85.far ?_ NB297_307.out _) | exact HI297.out)); (case side2 => repeat (first | (with_reducible first | exact HB.out | apply below_alloc | apply pw_below_drewN | apply below_drew1 | refine below_set ?_ (IsS85.ge HI297.out) | refine below_set ?_ GE293.out | refine below_set ?_ GE307.out) | exact HB.out)); rintro e w36 ⟨rfl, hi, hb, hk⟩; refine ⟨_, rfl, ?_⟩; replace HO_308003 := Aside0.mk (Kd.R_mono (Kd.R_keep (IsS85.apart (show IsS85 w _ g297 t294 t321 t322 from m41_) (by refine rD_ ?_; exact (Kd.R_mono (Kd.R_far (p := ⟨gb307, 5, none⟩) (Kd.R_far (p := ⟨gb307, 4, none⟩) (Kd.R_types HO_308003.out BK307.out (by decide)) (fun _ hk => hk.2) (.string t317)) (fun _ hk => hk.2) (.string t320)) (fun _ h_ => h_.1))) (by decide)) hk (fun _ h => h.2)) (fun _ h => h.1)); replace BK293 := Aside0.mk (KeepBut.blk hk (g' := gb293) (o := .cells #[.int .i64 0, .int .i64 0, .int .i64 0, .slice none 0 0, .string (⟨#[]⟩ : ByteArray), .string (⟨#[]⟩ : ByteArray), .slice none 0 0, .slice none 0 0, .string (⟨#[]⟩ : ByteArray), .slice none 0 0, .int .i64 0, .int .i64 0] 34 (0, 0)) (by refine bD_ ?_; refine blk_far ?_ NB293_307.out _; refine bD_ ?_; refine blk_far ?_ NB293_307.out _; refine bD_ ?_; exact BK293.out) NB293_297.out (by simp)); replace BK307 := Aside0.mk (KeepBut.blk hk (g' := gb307) (o := .cells #[.int .i64 t298, .int .i64 t301, .int .i64 t304, u308003, .string t317, .string t320, .slice none 0 0, .slice none 0 0, .string (⟨#[]⟩ : ByteArray), .slice none 0 0, .int .i64 0, .int .i64 0] 34 (0, 0)) (by refine bD_ ?_; refine blk_put (cs := #[.int .i64 t298, .int .i64 t301, .int .i64 t304, u308003, .string t317, .string (⟨#[]⟩ : ByteArray), .slice none 0 0, .slice none 0 0, .string (⟨#[]⟩ : ByteArray), .slice none 0 0, .int .i64 0, .int .i64 0]) ?_ 5 _ rfl; refine bD_ ?_; refine blk_put (cs := #[.int .i64 t298, .int .i64 t301, .int .i64 t304, u308003, .string (⟨#[]⟩ : ByteArray), .string (⟨#[]⟩ : ByteArray), .slice none 0 0, .slice none 0 0, .string (⟨#[]⟩ : ByteArray), .slice none 0 0, .int .i64 0, .int .i64 0]) ?_ 4 _ rfl; refine bD_ ?_; exact BK307.out) NB307_297.out (by simp)); replace HB := Aside0.mk (hb); replace HI297 := Aside0.mk (hi); (try clear hb hk hi)))
  go_loopg [41] k1 (fun kq v41 w' => ∃ (x41_2 : Int) (x298001_2 : Int) (x298002_2 : Bool) (x308006_2 : List (S65)) (u308006 : Value), v41 = .int .i64 x41_2 ∧ Aside0 (frame_ReadReply.l1 kq l0 t323 x41_2 t294 x298001_2 x298002_2 t298 t301 t304 x308003_1 t317 t320 x308006_2 (⟨#[]⟩ : ByteArray) 0 0 = some (r1, r2, r3, r4, r5, r6, r7, r8, r9, r10, r11, r12, r13)) ∧ Aside0 (kq ≤ k1) ∧ Aside0 (Kd.R Kd.string 9 w' w.heap.size (fun _ => True) u308003 x308003_1) ∧ Aside0 (Kd.R k65 65 w' w.heap.size (fun _ => True) u308006 x308006_2) ∧ Aside0 (w'.heap[gb293]? = some (.cells #[.int .i64 0, .int .i64 0, .int .i64 0, (.slice none 0 0), .string (⟨#[]⟩ : ByteArray), .string (⟨#[]⟩ : ByteArray), (.slice none 0 0), (.slice none 0 0), .string (⟨#[]⟩ : ByteArray), (.slice none 0 0), .int .i64 0, .int .i64 0] 34 (0, 0))) ∧ Aside0 (w'.heap[gb307]? = some (.cells #[.int .i64 t298, .int .i64 t301, .int .i64 t304, u308003, .string t317, .string t320, u308006, (.slice none 0 0), .string (⟨#[]⟩ : ByteArray), (.slice none 0 0), .int .i64 0, .int .i64 0] 34 (0, 0))) ∧ Aside0 (IsS85 w w' g297 t294 x298001_2 x298002_2) ∧ Aside0 (Below w.heap.size w w'))
  case atStart => exact ⟨(0), (t324), (t325), (([] : List (S65))), (.slice none 0 0), m39_, H', ⟨Nat.le_refl _⟩, ⟨by refine rD_ ?_; exact HO_308003.out⟩, ⟨by first | exact Kd.R_nil _ _ _ _ _ | exact Kd.N_nil _ _ _ _ _ | exact Kd.V_nil _ _ _ _ _ | exact Kd.Q_nil _ _ _ _ _ | exact Kd.S_nil _ _ _ _ _⟩, ⟨by refine bD_ ?_; exact BK293.out⟩, ⟨by refine bD_ ?_; exact BK307.out⟩, ⟨m41_⟩, ⟨m42_⟩⟩
  clear H'
  try clear c20b0; try clear hcz35_0; try clear hcz35_1; try clear hcz35_10; try clear hcz35_11; try clear hcz35_2; try clear hcz35_3; try clear hcz35_4; try clear hcz35_5; try clear hcz35_6; try clear hcz35_7; try clear hcz35_8; try clear hcz35_9; try clear hfz35_0; try clear hfz35_1; try clear hfz35_10; try clear hfz35_11; try clear hfz35_2; try clear hfz35_3; try clear hfz35_4; try clear hfz35_5; try clear hfz35_6; try clear hfz35_7; try clear hfz35_8; try clear hfz35_9
  obtain ⟨x41_2, x298001_2, x298002_2, x308006_2, u308006, rfl, HA, HK2, HO_308003, HO_308006, BK293, BK307, HI297, HB⟩ := hrel
  cases gk with
  | zero => exact absurd HA.out (by simp [frame_ReadReply.l1])
  | succ k2 =>
   have H := HA.out
   clear HA
   simp only [frame_ReadReply.l1] at H
   by_cases c37 : x41_2 < t323
   ·rw [if_pos c37] at H
    have c37b0 : decide (x41_2 < t323) = true := decide_eq_true c37
    clear c37
    replace H := Option.bind_eq_some_iff.mp H
    obtain ⟨⟨t326, t327, t328⟩, A380, H⟩ := H
    try dsimp only at H
    have A38 := Aside0.mk A380
    clear A380
    by_cases c39 : t328 = true
    ·subst c39
     rw [if_pos rfl] at H
     replace H := Option.bind_eq_some_iff.mp H
     obtain ⟨⟨t329, t330, t331⟩, A400, H⟩ := H
     try dsimp only at H
     have A40 := Aside0.mk A400
     clear A400
     by_cases c41 : x308006_2.length < 5864062014805
     case neg =>
      rw [if_neg c41] at H
      exact absurd H (by simp)
     rw [if_pos c41] at H
     have LMc41 := Aside0.mk c41
     clear c41
     obtain ⟨y332, hy332⟩ : ∃ y_ : List (S65), y_ = (x308006_2 ++ [(⟨(t326) % 4294967296, t329⟩ : S65)]) := ⟨_, rfl⟩
     replace H : (frame_ReadReply.l1 k2 l0 t323 (wrap64 (x41_2 + 1)) t294 t330 t331 t298 t301 t304 x308003_1 t317 t320 y332 (⟨#[]⟩ : ByteArray) 0 0) = some (r1, r2, r3, r4, r5, r6, r7, r8, r9, r10, r11, r12, r13) := by first | (rw [hy332]; with_reducible exact H) | (have H2_ := (Option.bind_some _ _).symm.trans H; rw [hy332]; with_reducible exact H2_) | (have H2_ := (Option.bind_some _ _).symm.trans H; with_reducible exact H2_) | with_reducible exact H | (rw [hy332]; exact H) | exact H
     have Ny332 := Aside0.mk hy332
     clear hy332
     have H' := Aside0.mk H
     clear H
     try go_wp2_with (first | ((with_reducible refine gate_callee (f := 40) rfl ?_); refine goesL_ (some 44) rfl rfl Tryd.func40 (by kernel_rfl) rfl #[.pointer (some ⟨g297, 0, none⟩)] rfl m14_ ?_; (with_reducible refine (frame_reader_number.calls k2 g297 t294 x298001_2 x298002_2 t326 t327 true w _ ?side1 ?side2 A38.out).mono ?_); (case side1 => repeat (first | (with_reducible first | exact HI297.out | apply IsS85.alloc | apply IsS85.drewN | apply IsS85.drew | apply IsS85.set_1 | apply IsS85.set_2 | refine IsS85.far ?_ NB297_293.out _ | refine IsS85.far ?_ NB297_307.out _) | exact HI297.out)); (case side2 => repeat (first | (with_reducible first | exact HB.out | apply below_alloc | apply pw_below_drewN | apply below_drew1 | refine below_set ?_ (IsS85.ge HI297.out) | refine below_set ?_ GE293.out | refine below_set ?_ GE307.out) | exact HB.out)); rintro e w42 ⟨rfl, hi, hb, hk⟩; refine ⟨_, rfl, ?_⟩; replace HO_308003 := Aside0.mk (Kd.R_mono (Kd.R_keep (IsS85.apart (show IsS85 w _ g297 t294 x298001_2 x298002_2 from m41_) m25_ (by decide)) hk (fun _ h => h.2)) (fun _ h => h.1)); replace HO_308006 := Aside0.mk (Kd.R_mono (Kd.R_keep (IsS85.apart (show IsS85 w _ g297 t294 x298001_2 x298002_2 from m41_) m26_ (by decide)) hk (fun _ h => h.2)) (fun _ h => h.1)); replace BK293 := Aside0.mk (KeepBut.blk hk (g' := gb293) (o := .cells #[.int .i64 0, .int .i64 0, .int .i64 0, .slice none 0 0, .string (⟨#[]⟩ : ByteArray), .string (⟨#[]⟩ : ByteArray), .slice none 0 0, .slice none 0 0, .string (⟨#[]⟩ : ByteArray), .slice none 0 0, .int .i64 0, .int .i64 0] 34 (0, 0)) m17_ NB293_297.out (by simp)); replace BK307 := Aside0.mk (KeepBut.blk hk (g' := gb307) (o := .cells #[.int .i64 t298, .int .i64 t301, .int .i64 t304, u308003, .string t317, .string t320, u308006, .slice none 0 0, .string (⟨#[]⟩ : ByteArray), .slice none 0 0, .int .i64 0, .int .i64 0] 34 (0, 0)) m18_ NB307_297.out (by simp)); replace HI297 := Aside0.mk (hi); replace HB := Aside0.mk (hb); (try clear hb hk hi); obtain ⟨ASz43_0, cSz43_0, HGz43, hgz43, HSz43_0⟩ := HI297.out; have hcz43_0 := cellS85_0 HGz43; have hcz43_1 := cellS85_1 HGz43; have hcz43_2 := cellS85_2 HGz43; have hfz43_1 := blk_frozen HGz43 1; have hfz43_2 := blk_frozen HGz43 2; clear HGz43 hgz43))
     have n0_ : Aside0 (Kd.R Kd.string 9 (w42.setCell ⟨g297, 2, none⟩ (.bool true)) w.heap.size (fun _ => True) u308003 x308003_1) := ⟨by refine rD_ ?_; exact Kd.R_mono (Kd.R_far (p := ⟨g297, 2, none⟩) (IsS85.apart HI297.out HO_308003.out (by decide)) (fun _ hk => hk.2) (.bool true)) (fun _ hk => trivial)⟩
     have n1_ : Aside0 (Kd.R k65 65 (w42.setCell ⟨g297, 2, none⟩ (.bool true)) w.heap.size (fun _ => True) u308006 x308006_2) := ⟨by refine rD_ ?_; exact Kd.R_mono (Kd.R_far (p := ⟨g297, 2, none⟩) (IsS85.apart HI297.out HO_308006.out (by decide)) (fun _ hk => hk.2) (.bool true)) (fun _ hk => trivial)⟩
     have n2_ : Aside0 ((w42.setCell ⟨g297, 2, none⟩ (.bool true)).heap[gb293]? = some (.cells #[.int .i64 0, .int .i64 0, .int .i64 0, .slice none 0 0, .string (⟨#[]⟩ : ByteArray), .string (⟨#[]⟩ : ByteArray), .slice none 0 0, .slice none 0 0, .string (⟨#[]⟩ : ByteArray), .slice none 0 0, .int .i64 0, .int .i64 0] 34 (0, 0))) := ⟨by refine bD_ ?_; refine blk_far ?_ NB293_297.out _; refine bD_ ?_; exact BK293.out⟩
     have n3_ : Aside0 ((w42.setCell ⟨g297, 2, none⟩ (.bool true)).heap[gb307]? = some (.cells #[.int .i64 t298, .int .i64 t301, .int .i64 t304, u308003, .string t317, .string t320, u308006, .slice none 0 0, .string (⟨#[]⟩ : ByteArray), .slice none 0 0, .int .i64 0, .int .i64 0] 34 (0, 0))) := ⟨by refine bD_ ?_; refine blk_far ?_ NB307_297.out _; refine bD_ ?_; exact BK307.out⟩
     have n4_ : Aside0 (IsS85 w (w42.setCell ⟨g297, 2, none⟩ (.bool true)) g297 t294 t327 true) := ⟨m41_⟩
     have n5_ : Aside0 (Below w.heap.size w (w42.setCell ⟨g297, 2, none⟩ (.bool true))) := ⟨m42_⟩
     (try clear HO_308003)
     (try clear HO_308006)
     (try clear BK293)
     (try clear BK307)
     (try clear HI297)
     (try clear HB)
     generalize (w42.setCell ⟨g297, 2, none⟩ (.bool true)) = w44 at n0_ n1_ n2_ n3_ n4_ n5_ ⊢
     have HO_308003 := n0_
     have HO_308006 := n1_
     have BK293 := n2_
     have BK307 := n3_
     have HI297 := n4_
     have HB := n5_
     clear n0_ n1_ n2_ n3_ n4_ n5_
     replace HO_308003 := Aside0.mk (Kd.R_drew HO_308003.out)
     replace HO_308006 := Aside0.mk (Kd.R_drew HO_308006.out)
     replace BK293 := Aside0.mk (blk_drew BK293.out)
     replace BK307 := Aside0.mk (blk_drew BK307.out)
     replace HI297 := Aside0.mk (IsS85.drew HI297.out)
     replace HB := Aside0.mk (below_drew1 HB.out)
     refine start_ (n := 11) (S := fun w' => w'.cell? ⟨gb307, 0, none⟩ = some (.int .i64 t298) ∧ w'.cell? ⟨gb307, 1, none⟩ = some (.int .i64 t301) ∧ w'.cell? ⟨gb307, 2, none⟩ = some (.int .i64 t304) ∧ w'.cell? ⟨gb307, 3, none⟩ = some (u308003) ∧ w'.cell? ⟨gb307, 4, none⟩ = some (.string t317) ∧ w'.cell? ⟨gb307, 5, none⟩ = some (.string t320) ∧ w'.cell? ⟨gb307, 6, none⟩ = some (u308006) ∧ w'.cell? ⟨gb307, 7, none⟩ = some (.slice none 0 0) ∧ w'.cell? ⟨gb307, 8, none⟩ = some (.string (⟨#[]⟩ : ByteArray)) ∧ w'.cell? ⟨gb307, 9, none⟩ = some (.slice none 0 0) ∧ w'.cell? ⟨gb307, 10, none⟩ = some (.int .i64 0) ∧ w'.cell? ⟨gb307, 11, none⟩ = some (.int .i64 0)) (ds := [10]) (Ra_ [0, 11]) (by kernel_rfl) rfl rfl ⟨(blk_cell BK307.out 0).trans rfl, (blk_cell BK307.out 1).trans rfl, (blk_cell BK307.out 2).trans rfl, (blk_cell BK307.out 3).trans rfl, (blk_cell BK307.out 4).trans rfl, (blk_cell BK307.out 5).trans rfl, (blk_cell BK307.out 6).trans rfl, (blk_cell BK307.out 7).trans rfl, (blk_cell BK307.out 8).trans rfl, (blk_cell BK307.out 9).trans rfl, (blk_cell BK307.out 10).trans rfl, (blk_cell BK307.out 11).trans rfl⟩ (fun hHeld => ?_); refine with_tabW frame_ReadReply.tab14 frame_ReadReply.bits14 (fun HT_ HW_ => ?_)
     generalize w44.drew = w45 at HO_308003 HO_308006 BK293 BK307 HI297 HB hHeld ⊢
     refine pI_ 0 (some 56) (Ra_ [1, 10]) (h := ?_)
     refine pI_ 2 (some 58) (Ra_ [1, 1, 1, 8]) (h := ?_)
     refine pI_ 3 (some 59) (Ra_ [1, 1, 2, 7]) (h := ?_)
     refine pI_ 4 (some 60) (Ra_ [1, 1, 3, 6]) (h := ?_)
     refine tI12_ 1 (some 57) (Ra_ [5, 6]) (h := ?_)
     refine one_ (i := 5) (N := some 61) (Ra_ [6, 5]) rfl rfl (one_of HT_.out (by kernel_rfl)) (by decide) (fun K hK => ?_)
     refine goes_ Tryd.func42 (by kernel_rfl) rfl #[.pointer (some ⟨g297, 0, none⟩), .int .i64 16] (by rfl) rfl rfl m14_ ?_
     with_reducible refine (frame_reader_text.calls k2 g297 t294 t327 true 16 t329 t330 t331 w _ ?side1 ?side2 A40.out).mono ?_
     (case side1 => repeat (first | (with_reducible first | exact HI297.out | apply IsS85.alloc | apply IsS85.drewN | apply IsS85.drew | apply IsS85.set_1 | apply IsS85.set_2 | refine IsS85.far ?_ NB297_293.out _ | refine IsS85.far ?_ NB297_307.out _) | exact HI297.out))
     (case side2 => repeat (first | (with_reducible first | exact HB.out | apply below_alloc | apply pw_below_drewN | apply below_drew1 | refine below_set ?_ (IsS85.ge HI297.out) | refine below_set ?_ GE293.out | refine below_set ?_ GE307.out) | exact HB.out))
     rintro e w46 ⟨rfl, hi, hb, hk⟩
     refine ⟨_, rfl, ?_⟩
     replace HO_308003 := Aside0.mk (Kd.R_mono (Kd.R_keep (IsS85.apart (show IsS85 w _ g297 t294 t327 true from m41_) m25_ (by decide)) hk (fun _ h => h.2)) (fun _ h => h.1))
     replace HO_308006 := Aside0.mk (Kd.R_mono (Kd.R_keep (IsS85.apart (show IsS85 w _ g297 t294 t327 true from m41_) m26_ (by decide)) hk (fun _ h => h.2)) (fun _ h => h.1))
     replace BK293 := Aside0.mk (KeepBut.blk hk (g' := gb293) (o := .cells #[.int .i64 0, .int .i64 0, .int .i64 0, .slice none 0 0, .string (⟨#[]⟩ : ByteArray), .string (⟨#[]⟩ : ByteArray), .slice none 0 0, .slice none 0 0, .string (⟨#[]⟩ : ByteArray), .slice none 0 0, .int .i64 0, .int .i64 0] 34 (0, 0)) m17_ NB293_297.out (by simp))
     replace BK307 := Aside0.mk (KeepBut.blk hk (g' := gb307) (o := .cells #[.int .i64 t298, .int .i64 t301, .int .i64 t304, u308003, .string t317, .string t320, u308006, .slice none 0 0, .string (⟨#[]⟩ : ByteArray), .slice none 0 0, .int .i64 0, .int .i64 0] 34 (0, 0)) m18_ NB307_297.out (by simp))
     replace HI297 := Aside0.mk (hi)
     replace HB := Aside0.mk (hb)
     (try clear hb hk hi)
     refine hK.out _ _ ⟨(blk_cell BK307.out 0).trans rfl, (blk_cell BK307.out 1).trans rfl, (blk_cell BK307.out 2).trans rfl, (blk_cell BK307.out 3).trans rfl, (blk_cell BK307.out 4).trans rfl, (blk_cell BK307.out 5).trans rfl, (blk_cell BK307.out 6).trans rfl, (blk_cell BK307.out 7).trans rfl, (blk_cell BK307.out 8).trans rfl, (blk_cell BK307.out 9).trans rfl, (blk_cell BK307.out 10).trans rfl, (blk_cell BK307.out 11).trans rfl⟩ (fun hHeld => ?_)
     clear hK K
     refine norm_ (a' := ?_) ?_ ?_
     rotate_left
     ·show Act.put _ (some 61) _ = _
      simp only [Act.put, sA_, sB_, sC_, i64_w, i32_w]
      rfl
     refine pI_ 6 (some 62) (Ra_ [7, 4]) (h := ?_)
     refine one_ (i := 7) (N := some 63) (Ra_ [8, 3]) rfl rfl (one_of HT_.out (by kernel_rfl)) (by decide) (fun K hK => ?_)
     refine value_ (w1 := ?_) (v := ?_) (by rfl) rfl ?_ ?_
     rotate_left 2
     ·go_simp
      constructor
      ·rfl
      rfl
     refine hK.out _ _ ⟨(blk_cell (blk_alloc BK307.out _) 0).trans rfl, (blk_cell (blk_alloc BK307.out _) 1).trans rfl, (blk_cell (blk_alloc BK307.out _) 2).trans rfl, (blk_cell (blk_alloc BK307.out _) 3).trans rfl, (blk_cell (blk_alloc BK307.out _) 4).trans rfl, (blk_cell (blk_alloc BK307.out _) 5).trans rfl, (blk_cell (blk_alloc BK307.out _) 6).trans rfl, (blk_cell (blk_alloc BK307.out _) 7).trans rfl, (blk_cell (blk_alloc BK307.out _) 8).trans rfl, (blk_cell (blk_alloc BK307.out _) 9).trans rfl, (blk_cell (blk_alloc BK307.out _) 10).trans rfl, (blk_cell (blk_alloc BK307.out _) 11).trans rfl⟩ (fun hHeld => ?_)
     clear hK K
     refine norm_ (a' := ?_) ?_ ?_
     rotate_left
     ·show Act.put _ (some 63) _ = _
      simp only [Act.put, sA_, sB_, sC_, i64_w, i32_w]
      rfl
     refine one_ (i := 8) (N := some 64) (Ra_ [9, 2]) rfl rfl (one_of HT_.out (by kernel_rfl)) (by decide) (fun K hK => ?_)
     refine Kd.R_append_step k65 (w0 := w) w.heap.size (by rfl) (.tmp 57) (.tmp 63) 30 65 (.agg #[(.int .u32 0), (.string ⟨#[]⟩)]) 24 rfl Tryd.underlying30 info65 rfl (by decide) (by omega) u308006 x308006_2 (⟨(t326) % 4294967296, t329⟩ : S65) [.int .u32 ((t326) % 4294967296), .string t329] (fun _ => True) (fun _ => False) rfl rfl ?aP (fun _ hk => hk.elim) ?aF ?aO ?aB ?aS ?aL ?_
     (case aP => exact k65_mkM _ _ _ (⟨(t326) % 4294967296, t329⟩ : S65))
     (case aB => exact m1_)
     (case aF => exact (fun _ _ => trivial))
     (case aO => exact m26_)
     (case aS => exact (below_size m1_))
     (case aL => have := LMc41.out; omega)
     intro v333 w47 ho hb hg hat
     rw [← Ny332.out] at ho
     have n0_ := Aside0.mk (Kd.R_over' m25_ (Kd.R_typed m26_) (by decide) hg)
     have n1_ := Aside0.mk (blk_grown (g := gb293) (o := .cells #[.int .i64 0, .int .i64 0, .int .i64 0, .slice none 0 0, .string (⟨#[]⟩ : ByteArray), .string (⟨#[]⟩ : ByteArray), .slice none 0 0, .slice none 0 0, .string (⟨#[]⟩ : ByteArray), .slice none 0 0, .int .i64 0, .int .i64 0] 34 (0, 0)) m17_ hg (Kd.R_ne HO_308006.out BK293.out (by decide)))
     have n2_ := Aside0.mk (blk_grown (g := gb307) (o := .cells #[.int .i64 t298, .int .i64 t301, .int .i64 t304, u308003, .string t317, .string t320, u308006, .slice none 0 0, .string (⟨#[]⟩ : ByteArray), .slice none 0 0, .int .i64 0, .int .i64 0] 34 (0, 0)) m18_ hg (Kd.R_ne HO_308006.out BK307.out (by decide)))
     have n3_ := Aside0.mk (IsS85.grown m0_ hg (IsS85.own_ne HI297.out HO_308006.out (by decide)))
     have n4_ := Aside0.mk (hb)
     have n5_ := Aside0.mk (ho)
     clear HO_308003 BK293 BK307 HI297 HB HO_308006
     have HO_308003 := n0_
     have BK293 := n1_
     have BK307 := n2_
     have HI297 := n3_
     have HB := n4_
     have HO334 := n5_
     clear n0_ n1_ n2_ n3_ n4_ n5_ ho hb hg hat
     obtain ⟨Ao48, co48, eo48⟩ := Kd.R_slice HO334.out
     (first | subst eo48 | (injection eo48 with f1_ f2_ f3_; have f4_ := f1_.symm; have f5_ := f3_.symm; clear f1_ f2_ f3_; subst f4_; subst f5_))
     refine hK.out _ _ ⟨(blk_cell BK307.out 0).trans rfl, (blk_cell BK307.out 1).trans rfl, (blk_cell BK307.out 2).trans rfl, (blk_cell BK307.out 3).trans rfl, (blk_cell BK307.out 4).trans rfl, (blk_cell BK307.out 5).trans rfl, (blk_cell BK307.out 6).trans rfl, (blk_cell BK307.out 7).trans rfl, (blk_cell BK307.out 8).trans rfl, (blk_cell BK307.out 9).trans rfl, (blk_cell BK307.out 10).trans rfl, (blk_cell BK307.out 11).trans rfl⟩ (fun hHeld => ?_)
     clear hK K
     refine norm_ (a' := ?_) ?_ ?_
     rotate_left
     ·show Act.put _ (some 64) _ = _
      simp only [Act.put, sA_, sB_, sC_, i64_w, i32_w]
      rfl
     refine pI_ 9 (some 65) (Ra_ [10, 1]) (h := ?_)
     refine last_ (i := 10) (N := none) (Ra_ [11]) rfl rfl (one_of HT_.out (by kernel_rfl)) (by decide) (fun K hK => ?_)
     have hs49 : w47.cell? ⟨gb307, 6, none⟩ = some (u308006) := (blk_cell BK307.out 6).trans rfl
     have hfs49 := blk_frozen BK307.out 6
     have hns49_0 := NB293_307.out
     have hms49_0 := NB307_293.out
     refine skip_ (w1 := ?_) (by rfl) rfl ?_ ?_
     rotate_left
     ·go_simp
      rfl
     refine hK.out _ _ ?_
     clear hK K
     refine done_ (done_of HT_.out (by kernel_rfl)) ?_
     try go_wp2
     go_roundg k2
     case measure => have := HK1.out; have := HK2.out; omega
     case rel => exact ⟨(wrap64 (x41_2 + 1)), (t330), (t331), (y332), (.slice Ao48 y332.length co48), m39_, H', ⟨by have := HK1.out; have := HK2.out; omega⟩, ⟨by refine rD_ ?_; exact Kd.R_mono (Kd.R_far (p := ⟨gb307, 6, none⟩) (Kd.R_types HO_308003.out BK307.out (by decide)) (fun _ hk => hk.2) (.slice Ao48 y332.length co48)) (fun _ hk => trivial)⟩, ⟨by refine rD_ ?_; exact Kd.R_mono (Kd.R_far (p := ⟨gb307, 6, none⟩) (Kd.R_types HO334.out BK307.out (by decide)) (fun _ hk => hk.2) (.slice Ao48 y332.length co48)) (fun _ hk => trivial)⟩, ⟨by refine bD_ ?_; refine blk_far ?_ NB293_307.out _; refine bD_ ?_; exact BK293.out⟩, ⟨by refine bD_ ?_; refine blk_put (cs := #[.int .i64 t298, .int .i64 t301, .int .i64 t304, u308003, .string t317, .string t320, u308006, .slice none 0 0, .string (⟨#[]⟩ : ByteArray), .slice none 0 0, .int .i64 0, .int .i64 0]) ?_ 6 _ rfl; refine bD_ ?_; exact BK307.out⟩, ⟨m41_⟩, ⟨m42_⟩⟩
    replace c39 := Bool.eq_false_iff.mpr c39
    subst c39
    rw [if_neg Bool.false_ne_true] at H
    replace H := Option.bind_eq_some_iff.mp H
    obtain ⟨⟨t335, t336, t337⟩, A500, H⟩ := H
    try dsimp only at H
    have A50 := Aside0.mk A500
    clear A500
    by_cases c51 : x308006_2.length < 5864062014805
    case neg =>
     rw [if_neg c51] at H
     exact absurd H (by simp)
    rw [if_pos c51] at H
    have LMc51 := Aside0.mk c51
    clear c51
    obtain ⟨y338, hy338⟩ : ∃ y_ : List (S65), y_ = (x308006_2 ++ [(⟨(t326) % 4294967296, t335⟩ : S65)]) := ⟨_, rfl⟩
    replace H : (frame_ReadReply.l1 k2 l0 t323 (wrap64 (x41_2 + 1)) t294 t336 t337 t298 t301 t304 x308003_1 t317 t320 y338 (⟨#[]⟩ : ByteArray) 0 0) = some (r1, r2, r3, r4, r5, r6, r7, r8, r9, r10, r11, r12, r13) := by first | (rw [hy338]; with_reducible exact H) | (have H2_ := (Option.bind_some _ _).symm.trans H; rw [hy338]; with_reducible exact H2_) | (have H2_ := (Option.bind_some _ _).symm.trans H; with_reducible exact H2_) | with_reducible exact H | (rw [hy338]; exact H) | exact H
    have Ny338 := Aside0.mk hy338
    clear hy338
    have H' := Aside0.mk H
    clear H
    try go_wp2_with (first | ((with_reducible refine gate_callee (f := 40) rfl ?_); refine goesL_ (some 44) rfl rfl Tryd.func40 (by kernel_rfl) rfl #[.pointer (some ⟨g297, 0, none⟩)] rfl m14_ ?_; (with_reducible refine (frame_reader_number.calls k2 g297 t294 x298001_2 x298002_2 t326 t327 false w _ ?side1 ?side2 A38.out).mono ?_); (case side1 => repeat (first | (with_reducible first | exact HI297.out | apply IsS85.alloc | apply IsS85.drewN | apply IsS85.drew | apply IsS85.set_1 | apply IsS85.set_2 | refine IsS85.far ?_ NB297_293.out _ | refine IsS85.far ?_ NB297_307.out _) | exact HI297.out)); (case side2 => repeat (first | (with_reducible first | exact HB.out | apply below_alloc | apply pw_below_drewN | apply below_drew1 | refine below_set ?_ (IsS85.ge HI297.out) | refine below_set ?_ GE293.out | refine below_set ?_ GE307.out) | exact HB.out)); rintro e w52 ⟨rfl, hi, hb, hk⟩; refine ⟨_, rfl, ?_⟩; replace HO_308003 := Aside0.mk (Kd.R_mono (Kd.R_keep (IsS85.apart (show IsS85 w _ g297 t294 x298001_2 x298002_2 from m41_) m25_ (by decide)) hk (fun _ h => h.2)) (fun _ h => h.1)); replace HO_308006 := Aside0.mk (Kd.R_mono (Kd.R_keep (IsS85.apart (show IsS85 w _ g297 t294 x298001_2 x298002_2 from m41_) m26_ (by decide)) hk (fun _ h => h.2)) (fun _ h => h.1)); replace BK293 := Aside0.mk (KeepBut.blk hk (g' := gb293) (o := .cells #[.int .i64 0, .int .i64 0, .int .i64 0, .slice none 0 0, .string (⟨#[]⟩ : ByteArray), .string (⟨#[]⟩ : ByteArray), .slice none 0 0, .slice none 0 0, .string (⟨#[]⟩ : ByteArray), .slice none 0 0, .int .i64 0, .int .i64 0] 34 (0, 0)) m17_ NB293_297.out (by simp)); replace BK307 := Aside0.mk (KeepBut.blk hk (g' := gb307) (o := .cells #[.int .i64 t298, .int .i64 t301, .int .i64 t304, u308003, .string t317, .string t320, u308006, .slice none 0 0, .string (⟨#[]⟩ : ByteArray), .slice none 0 0, .int .i64 0, .int .i64 0] 34 (0, 0)) m18_ NB307_297.out (by simp)); replace HI297 := Aside0.mk (hi); replace HB := Aside0.mk (hb); (try clear hb hk hi); obtain ⟨ASz53_0, cSz53_0, HGz53, hgz53, HSz53_0⟩ := HI297.out; have hcz53_0 := cellS85_0 HGz53; have hcz53_1 := cellS85_1 HGz53; have hcz53_2 := cellS85_2 HGz53; have hfz53_1 := blk_frozen HGz53 1; have hfz53_2 := blk_frozen HGz53 2; clear HGz53 hgz53))
    have n0_ : Aside0 (Kd.R Kd.string 9 (w52.setCell ⟨g297, 2, none⟩ (.bool (decide (t326 ≥ 4294967296)))) w.heap.size (fun _ => True) u308003 x308003_1) := ⟨by refine rD_ ?_; exact Kd.R_mono (Kd.R_far (p := ⟨g297, 2, none⟩) (IsS85.apart HI297.out HO_308003.out (by decide)) (fun _ hk => hk.2) (.bool (decide (t326 ≥ 4294967296)))) (fun _ hk => trivial)⟩
    have n1_ : Aside0 (Kd.R k65 65 (w52.setCell ⟨g297, 2, none⟩ (.bool (decide (t326 ≥ 4294967296)))) w.heap.size (fun _ => True) u308006 x308006_2) := ⟨by refine rD_ ?_; exact Kd.R_mono (Kd.R_far (p := ⟨g297, 2, none⟩) (IsS85.apart HI297.out HO_308006.out (by decide)) (fun _ hk => hk.2) (.bool (decide (t326 ≥ 4294967296)))) (fun _ hk => trivial)⟩
    have n2_ : Aside0 ((w52.setCell ⟨g297, 2, none⟩ (.bool (decide (t326 ≥ 4294967296)))).heap[gb293]? = some (.cells #[.int .i64 0, .int .i64 0, .int .i64 0, .slice none 0 0, .string (⟨#[]⟩ : ByteArray), .string (⟨#[]⟩ : ByteArray), .slice none 0 0, .slice none 0 0, .string (⟨#[]⟩ : ByteArray), .slice none 0 0, .int .i64 0, .int .i64 0] 34 (0, 0))) := ⟨by refine bD_ ?_; refine blk_far ?_ NB293_297.out _; refine bD_ ?_; exact BK293.out⟩
    have n3_ : Aside0 ((w52.setCell ⟨g297, 2, none⟩ (.bool (decide (t326 ≥ 4294967296)))).heap[gb307]? = some (.cells #[.int .i64 t298, .int .i64 t301, .int .i64 t304, u308003, .string t317, .string t320, u308006, .slice none 0 0, .string (⟨#[]⟩ : ByteArray), .slice none 0 0, .int .i64 0, .int .i64 0] 34 (0, 0))) := ⟨by refine bD_ ?_; refine blk_far ?_ NB307_297.out _; refine bD_ ?_; exact BK307.out⟩
    have n4_ : Aside0 (IsS85 w (w52.setCell ⟨g297, 2, none⟩ (.bool (decide (t326 ≥ 4294967296)))) g297 t294 t327 (decide (t326 ≥ 4294967296))) := ⟨m41_⟩
    have n5_ : Aside0 (Below w.heap.size w (w52.setCell ⟨g297, 2, none⟩ (.bool (decide (t326 ≥ 4294967296))))) := ⟨m42_⟩
    (try clear HO_308003)
    (try clear HO_308006)
    (try clear BK293)
    (try clear BK307)
    (try clear HI297)
    (try clear HB)
    generalize (w52.setCell ⟨g297, 2, none⟩ (.bool (decide (t326 ≥ 4294967296)))) = w54 at n0_ n1_ n2_ n3_ n4_ n5_ ⊢
    have HO_308003 := n0_
    have HO_308006 := n1_
    have BK293 := n2_
    have BK307 := n3_
    have HI297 := n4_
    have HB := n5_
    clear n0_ n1_ n2_ n3_ n4_ n5_
    replace HO_308003 := Aside0.mk (Kd.R_drew HO_308003.out)
    replace HO_308006 := Aside0.mk (Kd.R_drew HO_308006.out)
    replace BK293 := Aside0.mk (blk_drew BK293.out)
    replace BK307 := Aside0.mk (blk_drew BK307.out)
    replace HI297 := Aside0.mk (IsS85.drew HI297.out)
    replace HB := Aside0.mk (below_drew1 HB.out)
    refine start_ (n := 11) (S := fun w' => w'.cell? ⟨gb307, 0, none⟩ = some (.int .i64 t298) ∧ w'.cell? ⟨gb307, 1, none⟩ = some (.int .i64 t301) ∧ w'.cell? ⟨gb307, 2, none⟩ = some (.int .i64 t304) ∧ w'.cell? ⟨gb307, 3, none⟩ = some (u308003) ∧ w'.cell? ⟨gb307, 4, none⟩ = some (.string t317) ∧ w'.cell? ⟨gb307, 5, none⟩ = some (.string t320) ∧ w'.cell? ⟨gb307, 6, none⟩ = some (u308006) ∧ w'.cell? ⟨gb307, 7, none⟩ = some (.slice none 0 0) ∧ w'.cell? ⟨gb307, 8, none⟩ = some (.string (⟨#[]⟩ : ByteArray)) ∧ w'.cell? ⟨gb307, 9, none⟩ = some (.slice none 0 0) ∧ w'.cell? ⟨gb307, 10, none⟩ = some (.int .i64 0) ∧ w'.cell? ⟨gb307, 11, none⟩ = some (.int .i64 0)) (ds := [10]) (Ra_ [0, 11]) (by kernel_rfl) rfl rfl ⟨(blk_cell BK307.out 0).trans rfl, (blk_cell BK307.out 1).trans rfl, (blk_cell BK307.out 2).trans rfl, (blk_cell BK307.out 3).trans rfl, (blk_cell BK307.out 4).trans rfl, (blk_cell BK307.out 5).trans rfl, (blk_cell BK307.out 6).trans rfl, (blk_cell BK307.out 7).trans rfl, (blk_cell BK307.out 8).trans rfl, (blk_cell BK307.out 9).trans rfl, (blk_cell BK307.out 10).trans rfl, (blk_cell BK307.out 11).trans rfl⟩ (fun hHeld => ?_); refine with_tabW frame_ReadReply.tab14 frame_ReadReply.bits14 (fun HT_ HW_ => ?_)
    generalize w54.drew = w55 at HO_308003 HO_308006 BK293 BK307 HI297 HB hHeld ⊢
    refine pI_ 0 (some 56) (Ra_ [1, 10]) (h := ?_)
    refine pI_ 2 (some 58) (Ra_ [1, 1, 1, 8]) (h := ?_)
    refine pI_ 3 (some 59) (Ra_ [1, 1, 2, 7]) (h := ?_)
    refine pI_ 4 (some 60) (Ra_ [1, 1, 3, 6]) (h := ?_)
    refine tI12_ 1 (some 57) (Ra_ [5, 6]) (h := ?_)
    refine one_ (i := 5) (N := some 61) (Ra_ [6, 5]) rfl rfl (one_of HT_.out (by kernel_rfl)) (by decide) (fun K hK => ?_)
    refine goes_ Tryd.func42 (by kernel_rfl) rfl #[.pointer (some ⟨g297, 0, none⟩), .int .i64 16] (by rfl) rfl rfl m14_ ?_
    with_reducible refine (frame_reader_text.calls k2 g297 t294 t327 (decide (t326 ≥ 4294967296)) 16 t335 t336 t337 w _ ?side1 ?side2 A50.out).mono ?_
    (case side1 => repeat (first | (with_reducible first | exact HI297.out | apply IsS85.alloc | apply IsS85.drewN | apply IsS85.drew | apply IsS85.set_1 | apply IsS85.set_2 | refine IsS85.far ?_ NB297_293.out _ | refine IsS85.far ?_ NB297_307.out _) | exact HI297.out))
    (case side2 => repeat (first | (with_reducible first | exact HB.out | apply below_alloc | apply pw_below_drewN | apply below_drew1 | refine below_set ?_ (IsS85.ge HI297.out) | refine below_set ?_ GE293.out | refine below_set ?_ GE307.out) | exact HB.out))
    rintro e w56 ⟨rfl, hi, hb, hk⟩
    refine ⟨_, rfl, ?_⟩
    replace HO_308003 := Aside0.mk (Kd.R_mono (Kd.R_keep (IsS85.apart (show IsS85 w _ g297 t294 t327 (decide (t326 ≥ 4294967296)) from m41_) m25_ (by decide)) hk (fun _ h => h.2)) (fun _ h => h.1))
    replace HO_308006 := Aside0.mk (Kd.R_mono (Kd.R_keep (IsS85.apart (show IsS85 w _ g297 t294 t327 (decide (t326 ≥ 4294967296)) from m41_) m26_ (by decide)) hk (fun _ h => h.2)) (fun _ h => h.1))
    replace BK293 := Aside0.mk (KeepBut.blk hk (g' := gb293) (o := .cells #[.int .i64 0, .int .i64 0, .int .i64 0, .slice none 0 0, .string (⟨#[]⟩ : ByteArray), .string (⟨#[]⟩ : ByteArray), .slice none 0 0, .slice none 0 0, .string (⟨#[]⟩ : ByteArray), .slice none 0 0, .int .i64 0, .int .i64 0] 34 (0, 0)) m17_ NB293_297.out (by simp))
    replace BK307 := Aside0.mk (KeepBut.blk hk (g' := gb307) (o := .cells #[.int .i64 t298, .int .i64 t301, .int .i64 t304, u308003, .string t317, .string t320, u308006, .slice none 0 0, .string (⟨#[]⟩ : ByteArray), .slice none 0 0, .int .i64 0, .int .i64 0] 34 (0, 0)) m18_ NB307_297.out (by simp))
    replace HI297 := Aside0.mk (hi)
    replace HB := Aside0.mk (hb)
    (try clear hb hk hi)
    refine hK.out _ _ ⟨(blk_cell BK307.out 0).trans rfl, (blk_cell BK307.out 1).trans rfl, (blk_cell BK307.out 2).trans rfl, (blk_cell BK307.out 3).trans rfl, (blk_cell BK307.out 4).trans rfl, (blk_cell BK307.out 5).trans rfl, (blk_cell BK307.out 6).trans rfl, (blk_cell BK307.out 7).trans rfl, (blk_cell BK307.out 8).trans rfl, (blk_cell BK307.out 9).trans rfl, (blk_cell BK307.out 10).trans rfl, (blk_cell BK307.out 11).trans rfl⟩ (fun hHeld => ?_)
    clear hK K
    refine norm_ (a' := ?_) ?_ ?_
    rotate_left
    ·show Act.put _ (some 61) _ = _
     simp only [Act.put, sA_, sB_, sC_, i64_w, i32_w]
     rfl
    refine pI_ 6 (some 62) (Ra_ [7, 4]) (h := ?_)
    refine one_ (i := 7) (N := some 63) (Ra_ [8, 3]) rfl rfl (one_of HT_.out (by kernel_rfl)) (by decide) (fun K hK => ?_)
    refine value_ (w1 := ?_) (v := ?_) (by rfl) rfl ?_ ?_
    rotate_left 2
    ·go_simp
     constructor
     ·rfl
     rfl
    refine hK.out _ _ ⟨(blk_cell (blk_alloc BK307.out _) 0).trans rfl, (blk_cell (blk_alloc BK307.out _) 1).trans rfl, (blk_cell (blk_alloc BK307.out _) 2).trans rfl, (blk_cell (blk_alloc BK307.out _) 3).trans rfl, (blk_cell (blk_alloc BK307.out _) 4).trans rfl, (blk_cell (blk_alloc BK307.out _) 5).trans rfl, (blk_cell (blk_alloc BK307.out _) 6).trans rfl, (blk_cell (blk_alloc BK307.out _) 7).trans rfl, (blk_cell (blk_alloc BK307.out _) 8).trans rfl, (blk_cell (blk_alloc BK307.out _) 9).trans rfl, (blk_cell (blk_alloc BK307.out _) 10).trans rfl, (blk_cell (blk_alloc BK307.out _) 11).trans rfl⟩ (fun hHeld => ?_)
    clear hK K
    refine norm_ (a' := ?_) ?_ ?_
    rotate_left
    ·show Act.put _ (some 63) _ = _
     simp only [Act.put, sA_, sB_, sC_, i64_w, i32_w]
     rfl
    refine one_ (i := 8) (N := some 64) (Ra_ [9, 2]) rfl rfl (one_of HT_.out (by kernel_rfl)) (by decide) (fun K hK => ?_)
    refine Kd.R_append_step k65 (w0 := w) w.heap.size (by rfl) (.tmp 57) (.tmp 63) 30 65 (.agg #[(.int .u32 0), (.string ⟨#[]⟩)]) 24 rfl Tryd.underlying30 info65 rfl (by decide) (by omega) u308006 x308006_2 (⟨(t326) % 4294967296, t335⟩ : S65) [.int .u32 ((t326) % 4294967296), .string t335] (fun _ => True) (fun _ => False) rfl rfl ?aP (fun _ hk => hk.elim) ?aF ?aO ?aB ?aS ?aL ?_
    (case aP => exact k65_mkM _ _ _ (⟨(t326) % 4294967296, t335⟩ : S65))
    (case aB => exact m1_)
    (case aF => exact (fun _ _ => trivial))
    (case aO => exact m26_)
    (case aS => exact (below_size m1_))
    (case aL => have := LMc51.out; omega)
    intro v339 w57 ho hb hg hat
    rw [← Ny338.out] at ho
    have n0_ := Aside0.mk (Kd.R_over' m25_ (Kd.R_typed m26_) (by decide) hg)
    have n1_ := Aside0.mk (blk_grown (g := gb293) (o := .cells #[.int .i64 0, .int .i64 0, .int .i64 0, .slice none 0 0, .string (⟨#[]⟩ : ByteArray), .string (⟨#[]⟩ : ByteArray), .slice none 0 0, .slice none 0 0, .string (⟨#[]⟩ : ByteArray), .slice none 0 0, .int .i64 0, .int .i64 0] 34 (0, 0)) m17_ hg (Kd.R_ne HO_308006.out BK293.out (by decide)))
    have n2_ := Aside0.mk (blk_grown (g := gb307) (o := .cells #[.int .i64 t298, .int .i64 t301, .int .i64 t304, u308003, .string t317, .string t320, u308006, .slice none 0 0, .string (⟨#[]⟩ : ByteArray), .slice none 0 0, .int .i64 0, .int .i64 0] 34 (0, 0)) m18_ hg (Kd.R_ne HO_308006.out BK307.out (by decide)))
    have n3_ := Aside0.mk (IsS85.grown m0_ hg (IsS85.own_ne HI297.out HO_308006.out (by decide)))
    have n4_ := Aside0.mk (hb)
    have n5_ := Aside0.mk (ho)
    clear HO_308003 BK293 BK307 HI297 HB HO_308006
    have HO_308003 := n0_
    have BK293 := n1_
    have BK307 := n2_
    have HI297 := n3_
    have HB := n4_
    have HO340 := n5_
    clear n0_ n1_ n2_ n3_ n4_ n5_ ho hb hg hat
    obtain ⟨Ao58, co58, eo58⟩ := Kd.R_slice HO340.out
    (first | subst eo58 | (injection eo58 with f1_ f2_ f3_; have f4_ := f1_.symm; have f5_ := f3_.symm; clear f1_ f2_ f3_; subst f4_; subst f5_))
    refine hK.out _ _ ⟨(blk_cell BK307.out 0).trans rfl, (blk_cell BK307.out 1).trans rfl, (blk_cell BK307.out 2).trans rfl, (blk_cell BK307.out 3).trans rfl, (blk_cell BK307.out 4).trans rfl, (blk_cell BK307.out 5).trans rfl, (blk_cell BK307.out 6).trans rfl, (blk_cell BK307.out 7).trans rfl, (blk_cell BK307.out 8).trans rfl, (blk_cell BK307.out 9).trans rfl, (blk_cell BK307.out 10).trans rfl, (blk_cell BK307.out 11).trans rfl⟩ (fun hHeld => ?_)
    clear hK K
    refine norm_ (a' := ?_) ?_ ?_
    rotate_left
    ·show Act.put _ (some 64) _ = _
     simp only [Act.put, sA_, sB_, sC_, i64_w, i32_w]
     rfl
    refine pI_ 9 (some 65) (Ra_ [10, 1]) (h := ?_)
    refine last_ (i := 10) (N := none) (Ra_ [11]) rfl rfl (one_of HT_.out (by kernel_rfl)) (by decide) (fun K hK => ?_)
    have hs59 : w57.cell? ⟨gb307, 6, none⟩ = some (u308006) := (blk_cell BK307.out 6).trans rfl
    have hfs59 := blk_frozen BK307.out 6
    have hns59_0 := NB293_307.out
    have hms59_0 := NB307_293.out
    refine skip_ (w1 := ?_) (by rfl) rfl ?_ ?_
    rotate_left
    ·go_simp
     rfl
    refine hK.out _ _ ?_
    clear hK K
    refine done_ (done_of HT_.out (by kernel_rfl)) ?_
    try go_wp2
    go_roundg k2
    case measure => have := HK1.out; have := HK2.out; omega
    case rel => exact ⟨(wrap64 (x41_2 + 1)), (t336), (t337), (y338), (.slice Ao58 y338.length co58), m39_, H', ⟨by have := HK1.out; have := HK2.out; omega⟩, ⟨by refine rD_ ?_; exact Kd.R_mono (Kd.R_far (p := ⟨gb307, 6, none⟩) (Kd.R_types HO_308003.out BK307.out (by decide)) (fun _ hk => hk.2) (.slice Ao58 y338.length co58)) (fun _ hk => trivial)⟩, ⟨by refine rD_ ?_; exact Kd.R_mono (Kd.R_far (p := ⟨gb307, 6, none⟩) (Kd.R_types HO340.out BK307.out (by decide)) (fun _ hk => hk.2) (.slice Ao58 y338.length co58)) (fun _ hk => trivial)⟩, ⟨by refine bD_ ?_; refine blk_far ?_ NB293_307.out _; refine bD_ ?_; exact BK293.out⟩, ⟨by refine bD_ ?_; refine blk_put (cs := #[.int .i64 t298, .int .i64 t301, .int .i64 t304, u308003, .string t317, .string t320, u308006, .slice none 0 0, .string (⟨#[]⟩ : ByteArray), .slice none 0 0, .int .i64 0, .int .i64 0]) ?_ 6 _ rfl; refine bD_ ?_; exact BK307.out⟩, ⟨m41_⟩, ⟨m42_⟩⟩
   rw [if_neg c37] at H
   have c37b0 : decide (x41_2 < t323) = false := decide_eq_false c37
   clear c37
   replace H := Option.bind_eq_some_iff.mp H
   obtain ⟨⟨t341, t342, t343⟩, A600, H⟩ := H
   try dsimp only at H
   have A60 := Aside0.mk A600
   clear A600
   have H' := Aside0.mk H
   clear H
   go_wp2_with (first | ((with_reducible refine gate_callee (f := 41) rfl ?_); refine goesL_ (some 68) rfl rfl Tryd.func41 (by kernel_rfl) rfl #[.pointer (some ⟨g297, 0, none⟩), .int .i64 4] rfl m14_ ?_; (with_reducible refine (frame_reader_many.calls k2 g297 t294 x298001_2 x298002_2 4 t341 t342 t343 w _ ?side1 ?side2 A60.out).mono ?_); (case side1 => repeat (first | (with_reducible first | exact HI297.out | apply IsS85.alloc | apply IsS85.drewN | apply IsS85.drew | apply IsS85.set_1 | apply IsS85.set_2 | refine IsS85.far ?_ NB297_293.out _ | refine IsS85.far ?_ NB297_307.out _) | exact HI297.out)); (case side2 => repeat (first | (with_reducible first | exact HB.out | apply below_alloc | apply pw_below_drewN | apply below_drew1 | refine below_set ?_ (IsS85.ge HI297.out) | refine below_set ?_ GE293.out | refine below_set ?_ GE307.out) | exact HB.out)); rintro e w61 ⟨rfl, hi, hb, hk⟩; refine ⟨_, rfl, ?_⟩; replace HO_308003 := Aside0.mk (Kd.R_mono (Kd.R_keep (IsS85.apart (show IsS85 w _ g297 t294 x298001_2 x298002_2 from m41_) m25_ (by decide)) hk (fun _ h => h.2)) (fun _ h => h.1)); replace HO_308006 := Aside0.mk (Kd.R_mono (Kd.R_keep (IsS85.apart (show IsS85 w _ g297 t294 x298001_2 x298002_2 from m41_) m26_ (by decide)) hk (fun _ h => h.2)) (fun _ h => h.1)); replace BK293 := Aside0.mk (KeepBut.blk hk (g' := gb293) (o := .cells #[.int .i64 0, .int .i64 0, .int .i64 0, .slice none 0 0, .string (⟨#[]⟩ : ByteArray), .string (⟨#[]⟩ : ByteArray), .slice none 0 0, .slice none 0 0, .string (⟨#[]⟩ : ByteArray), .slice none 0 0, .int .i64 0, .int .i64 0] 34 (0, 0)) m17_ NB293_297.out (by simp)); replace BK307 := Aside0.mk (KeepBut.blk hk (g' := gb307) (o := .cells #[.int .i64 t298, .int .i64 t301, .int .i64 t304, u308003, .string t317, .string t320, u308006, .slice none 0 0, .string (⟨#[]⟩ : ByteArray), .slice none 0 0, .int .i64 0, .int .i64 0] 34 (0, 0)) m18_ NB307_297.out (by simp)); replace HI297 := Aside0.mk (hi); replace HB := Aside0.mk (hb); (try clear hb hk hi)))
   go_loopg [69] k2 (fun kq v69 w' => ∃ (x69_3 : Int) (x298001_3 : Int) (x298002_3 : Bool) (x308007_3 : List (S74)) (u308007 : Value), v69 = .int .i64 x69_3 ∧ Aside0 (frame_ReadReply.l2 kq l0 t341 x69_3 t294 x298001_3 x298002_3 t298 t301 t304 x308003_1 t317 t320 x308006_2 x308007_3 (⟨#[]⟩ : ByteArray) 0 0 = some (r1, r2, r3, r4, r5, r6, r7, r8, r9, r10, r11, r12, r13)) ∧ Aside0 (kq ≤ k2) ∧ Aside0 (Kd.R Kd.string 9 w' w.heap.size (fun _ => True) u308003 x308003_1) ∧ Aside0 (Kd.R k65 65 w' w.heap.size (fun _ => True) u308006 x308006_2) ∧ Aside0 (Kd.R k74 74 w' w.heap.size (fun _ => True) u308007 x308007_3) ∧ Aside0 (w'.heap[gb293]? = some (.cells #[.int .i64 0, .int .i64 0, .int .i64 0, (.slice none 0 0), .string (⟨#[]⟩ : ByteArray), .string (⟨#[]⟩ : ByteArray), (.slice none 0 0), (.slice none 0 0), .string (⟨#[]⟩ : ByteArray), (.slice none 0 0), .int .i64 0, .int .i64 0] 34 (0, 0))) ∧ Aside0 (w'.heap[gb307]? = some (.cells #[.int .i64 t298, .int .i64 t301, .int .i64 t304, u308003, .string t317, .string t320, u308006, u308007, .string (⟨#[]⟩ : ByteArray), (.slice none 0 0), .int .i64 0, .int .i64 0] 34 (0, 0))) ∧ Aside0 (IsS85 w w' g297 t294 x298001_3 x298002_3) ∧ Aside0 (Below w.heap.size w w'))
   case atStart => exact ⟨(0), (t342), (t343), (([] : List (S74))), (.slice none 0 0), m39_, H', ⟨Nat.le_refl _⟩, ⟨by refine rD_ ?_; exact HO_308003.out⟩, ⟨by refine rD_ ?_; exact HO_308006.out⟩, ⟨by first | exact Kd.R_nil _ _ _ _ _ | exact Kd.N_nil _ _ _ _ _ | exact Kd.V_nil _ _ _ _ _ | exact Kd.Q_nil _ _ _ _ _ | exact Kd.S_nil _ _ _ _ _⟩, ⟨by refine bD_ ?_; exact BK293.out⟩, ⟨by refine bD_ ?_; exact BK307.out⟩, ⟨m41_⟩, ⟨m42_⟩⟩
   clear H'
   try clear c37b0
   obtain ⟨x69_3, x298001_3, x298002_3, x308007_3, u308007, rfl, HA, HK3, HO_308003, HO_308006, HO_308007, BK293, BK307, HI297, HB⟩ := hrel
   cases gk with
   | zero => exact absurd HA.out (by simp [frame_ReadReply.l2])
   | succ k3 =>
    have H := HA.out
    clear HA
    simp only [frame_ReadReply.l2] at H
    by_cases c62 : x69_3 < t341
    ·rw [if_pos c62] at H
     have c62b0 : decide (x69_3 < t341) = true := decide_eq_true c62
     clear c62
     replace H := Option.bind_eq_some_iff.mp H
     obtain ⟨⟨t344, t345, t346⟩, A630, H⟩ := H
     try dsimp only at H
     have A63 := Aside0.mk A630
     clear A630
     replace H := Option.bind_eq_some_iff.mp H
     obtain ⟨⟨t347, t348, t349⟩, A640, H⟩ := H
     try dsimp only at H
     have A64 := Aside0.mk A640
     clear A640
     by_cases c65 : x308007_3.length < 8796093022208
     case neg =>
      rw [if_neg c65] at H
      exact absurd H (by simp)
     rw [if_pos c65] at H
     have LMc65 := Aside0.mk c65
     clear c65
     obtain ⟨y350, hy350⟩ : ∃ y_ : List (S74), y_ = (x308007_3 ++ [(⟨t344, t347⟩ : S74)]) := ⟨_, rfl⟩
     replace H : (frame_ReadReply.l2 k3 l0 t341 (wrap64 (x69_3 + 1)) t294 t348 t349 t298 t301 t304 x308003_1 t317 t320 x308006_2 y350 (⟨#[]⟩ : ByteArray) 0 0) = some (r1, r2, r3, r4, r5, r6, r7, r8, r9, r10, r11, r12, r13) := by first | (rw [hy350]; with_reducible exact H) | (have H2_ := (Option.bind_some _ _).symm.trans H; rw [hy350]; with_reducible exact H2_) | (have H2_ := (Option.bind_some _ _).symm.trans H; with_reducible exact H2_) | with_reducible exact H | (rw [hy350]; exact H) | exact H
     have Ny350 := Aside0.mk hy350
     clear hy350
     have H' := Aside0.mk H
     clear H
     try go_wp2
     replace HO_308003 := Aside0.mk (Kd.R_drew HO_308003.out)
     replace HO_308006 := Aside0.mk (Kd.R_drew HO_308006.out)
     replace HO_308007 := Aside0.mk (Kd.R_drew HO_308007.out)
     replace BK293 := Aside0.mk (blk_drew BK293.out)
     replace BK307 := Aside0.mk (blk_drew BK307.out)
     replace HI297 := Aside0.mk (IsS85.drew HI297.out)
     replace HB := Aside0.mk (below_drew1 HB.out)
     refine start_ (n := 11) (S := fun w' => w'.cell? ⟨gb307, 0, none⟩ = some (.int .i64 t298) ∧ w'.cell? ⟨gb307, 1, none⟩ = some (.int .i64 t301) ∧ w'.cell? ⟨gb307, 2, none⟩ = some (.int .i64 t304) ∧ w'.cell? ⟨gb307, 3, none⟩ = some (u308003) ∧ w'.cell? ⟨gb307, 4, none⟩ = some (.string t317) ∧ w'.cell? ⟨gb307, 5, none⟩ = some (.string t320) ∧ w'.cell? ⟨gb307, 6, none⟩ = some (u308006) ∧ w'.cell? ⟨gb307, 7, none⟩ = some (u308007) ∧ w'.cell? ⟨gb307, 8, none⟩ = some (.string (⟨#[]⟩ : ByteArray)) ∧ w'.cell? ⟨gb307, 9, none⟩ = some (.slice none 0 0) ∧ w'.cell? ⟨gb307, 10, none⟩ = some (.int .i64 0) ∧ w'.cell? ⟨gb307, 11, none⟩ = some (.int .i64 0)) (ds := [10]) (Ra_ [0, 11]) (by kernel_rfl) rfl rfl ⟨(blk_cell BK307.out 0).trans rfl, (blk_cell BK307.out 1).trans rfl, (blk_cell BK307.out 2).trans rfl, (blk_cell BK307.out 3).trans rfl, (blk_cell BK307.out 4).trans rfl, (blk_cell BK307.out 5).trans rfl, (blk_cell BK307.out 6).trans rfl, (blk_cell BK307.out 7).trans rfl, (blk_cell BK307.out 8).trans rfl, (blk_cell BK307.out 9).trans rfl, (blk_cell BK307.out 10).trans rfl, (blk_cell BK307.out 11).trans rfl⟩ (fun hHeld => ?_); refine with_tabW frame_ReadReply.tab18 frame_ReadReply.bits18 (fun HT_ HW_ => ?_)
     generalize wr.drew = w66 at HO_308003 HO_308006 HO_308007 BK293 BK307 HI297 HB hHeld ⊢
     refine pI_ 0 (some 71) (Ra_ [1, 10]) (h := ?_)
     refine pI_ 2 (some 73) (Ra_ [1, 1, 1, 8]) (h := ?_)
     refine pI_ 4 (some 75) (Ra_ [1, 1, 1, 1, 1, 6]) (h := ?_)
     refine tI12_ 1 (some 72) (Ra_ [3, 1, 1, 6]) (h := ?_)
     refine one_ (i := 3) (N := some 74) (Ra_ [5, 6]) rfl rfl (one_of HT_.out (by kernel_rfl)) (by decide) (fun K hK => ?_)
     refine goes_ Tryd.func40 (by kernel_rfl) rfl #[.pointer (some ⟨g297, 0, none⟩)] (by rfl) rfl rfl m14_ ?_
     with_reducible refine (frame_reader_number.calls k3 g297 t294 x298001_3 x298002_3 t344 t345 t346 w _ ?side1 ?side2 A63.out).mono ?_
     (case side1 => repeat (first | (with_reducible first | exact HI297.out | apply IsS85.alloc | apply IsS85.drewN | apply IsS85.drew | apply IsS85.set_1 | apply IsS85.set_2 | refine IsS85.far ?_ NB297_293.out _ | refine IsS85.far ?_ NB297_307.out _) | exact HI297.out))
     (case side2 => repeat (first | (with_reducible first | exact HB.out | apply below_alloc | apply pw_below_drewN | apply below_drew1 | refine below_set ?_ (IsS85.ge HI297.out) | refine below_set ?_ GE293.out | refine below_set ?_ GE307.out) | exact HB.out))
     rintro e w67 ⟨rfl, hi, hb, hk⟩
     refine ⟨_, rfl, ?_⟩
     replace HO_308003 := Aside0.mk (Kd.R_mono (Kd.R_keep (IsS85.apart (show IsS85 w _ g297 t294 x298001_3 x298002_3 from m41_) m25_ (by decide)) hk (fun _ h => h.2)) (fun _ h => h.1))
     replace HO_308006 := Aside0.mk (Kd.R_mono (Kd.R_keep (IsS85.apart (show IsS85 w _ g297 t294 x298001_3 x298002_3 from m41_) m26_ (by decide)) hk (fun _ h => h.2)) (fun _ h => h.1))
     replace HO_308007 := Aside0.mk (Kd.R_mono (Kd.R_keep (IsS85.apart (show IsS85 w _ g297 t294 x298001_3 x298002_3 from m41_) m27_ (by decide)) hk (fun _ h => h.2)) (fun _ h => h.1))
     replace BK293 := Aside0.mk (KeepBut.blk hk (g' := gb293) (o := .cells #[.int .i64 0, .int .i64 0, .int .i64 0, .slice none 0 0, .string (⟨#[]⟩ : ByteArray), .string (⟨#[]⟩ : ByteArray), .slice none 0 0, .slice none 0 0, .string (⟨#[]⟩ : ByteArray), .slice none 0 0, .int .i64 0, .int .i64 0] 34 (0, 0)) m17_ NB293_297.out (by simp))
     replace BK307 := Aside0.mk (KeepBut.blk hk (g' := gb307) (o := .cells #[.int .i64 t298, .int .i64 t301, .int .i64 t304, u308003, .string t317, .string t320, u308006, u308007, .string (⟨#[]⟩ : ByteArray), .slice none 0 0, .int .i64 0, .int .i64 0] 34 (0, 0)) m18_ NB307_297.out (by simp))
     replace HI297 := Aside0.mk (hi)
     replace HB := Aside0.mk (hb)
     (try clear hb hk hi)
     refine hK.out _ _ ⟨(blk_cell BK307.out 0).trans rfl, (blk_cell BK307.out 1).trans rfl, (blk_cell BK307.out 2).trans rfl, (blk_cell BK307.out 3).trans rfl, (blk_cell BK307.out 4).trans rfl, (blk_cell BK307.out 5).trans rfl, (blk_cell BK307.out 6).trans rfl, (blk_cell BK307.out 7).trans rfl, (blk_cell BK307.out 8).trans rfl, (blk_cell BK307.out 9).trans rfl, (blk_cell BK307.out 10).trans rfl, (blk_cell BK307.out 11).trans rfl⟩ (fun hHeld => ?_)
     clear hK K
     refine norm_ (a' := ?_) ?_ ?_
     rotate_left
     ·show Act.put _ (some 74) _ = _
      simp only [Act.put, sA_, sB_, sC_, i64_w, i32_w]
      rfl
     refine one_ (i := 5) (N := some 76) (Ra_ [6, 5]) rfl rfl (one_of HT_.out (by kernel_rfl)) (by decide) (fun K hK => ?_)
     refine goes_ Tryd.func40 (by kernel_rfl) rfl #[.pointer (some ⟨g297, 0, none⟩)] (by rfl) rfl rfl m14_ ?_
     with_reducible refine (frame_reader_number.calls k3 g297 t294 t345 t346 t347 t348 t349 w _ ?side1 ?side2 A64.out).mono ?_
     (case side1 => repeat (first | (with_reducible first | exact HI297.out | apply IsS85.alloc | apply IsS85.drewN | apply IsS85.drew | apply IsS85.set_1 | apply IsS85.set_2 | refine IsS85.far ?_ NB297_293.out _ | refine IsS85.far ?_ NB297_307.out _) | exact HI297.out))
     (case side2 => repeat (first | (with_reducible first | exact HB.out | apply below_alloc | apply pw_below_drewN | apply below_drew1 | refine below_set ?_ (IsS85.ge HI297.out) | refine below_set ?_ GE293.out | refine below_set ?_ GE307.out) | exact HB.out))
     rintro e w68 ⟨rfl, hi, hb, hk⟩
     refine ⟨_, rfl, ?_⟩
     replace HO_308003 := Aside0.mk (Kd.R_mono (Kd.R_keep (IsS85.apart (show IsS85 w _ g297 t294 t345 t346 from m41_) m25_ (by decide)) hk (fun _ h => h.2)) (fun _ h => h.1))
     replace HO_308006 := Aside0.mk (Kd.R_mono (Kd.R_keep (IsS85.apart (show IsS85 w _ g297 t294 t345 t346 from m41_) m26_ (by decide)) hk (fun _ h => h.2)) (fun _ h => h.1))
     replace HO_308007 := Aside0.mk (Kd.R_mono (Kd.R_keep (IsS85.apart (show IsS85 w _ g297 t294 t345 t346 from m41_) m27_ (by decide)) hk (fun _ h => h.2)) (fun _ h => h.1))
     replace BK293 := Aside0.mk (KeepBut.blk hk (g' := gb293) (o := .cells #[.int .i64 0, .int .i64 0, .int .i64 0, .slice none 0 0, .string (⟨#[]⟩ : ByteArray), .string (⟨#[]⟩ : ByteArray), .slice none 0 0, .slice none 0 0, .string (⟨#[]⟩ : ByteArray), .slice none 0 0, .int .i64 0, .int .i64 0] 34 (0, 0)) m17_ NB293_297.out (by simp))
     replace BK307 := Aside0.mk (KeepBut.blk hk (g' := gb307) (o := .cells #[.int .i64 t298, .int .i64 t301, .int .i64 t304, u308003, .string t317, .string t320, u308006, u308007, .string (⟨#[]⟩ : ByteArray), .slice none 0 0, .int .i64 0, .int .i64 0] 34 (0, 0)) m18_ NB307_297.out (by simp))
     replace HI297 := Aside0.mk (hi)
     replace HB := Aside0.mk (hb)
     (try clear hb hk hi)
     refine hK.out _ _ ⟨(blk_cell BK307.out 0).trans rfl, (blk_cell BK307.out 1).trans rfl, (blk_cell BK307.out 2).trans rfl, (blk_cell BK307.out 3).trans rfl, (blk_cell BK307.out 4).trans rfl, (blk_cell BK307.out 5).trans rfl, (blk_cell BK307.out 6).trans rfl, (blk_cell BK307.out 7).trans rfl, (blk_cell BK307.out 8).trans rfl, (blk_cell BK307.out 9).trans rfl, (blk_cell BK307.out 10).trans rfl, (blk_cell BK307.out 11).trans rfl⟩ (fun hHeld => ?_)
     clear hK K
     refine norm_ (a' := ?_) ?_ ?_
     rotate_left
     ·show Act.put _ (some 76) _ = _
      simp only [Act.put, sA_, sB_, sC_, i64_w, i32_w]
      rfl
     refine pI_ 6 (some 77) (Ra_ [7, 4]) (h := ?_)
     refine one_ (i := 7) (N := some 78) (Ra_ [8, 3]) rfl rfl (one_of HT_.out (by kernel_rfl)) (by decide) (fun K hK => ?_)
     refine value_ (w1 := ?_) (v := ?_) (by rfl) rfl ?_ ?_
     rotate_left 2
     ·go_simp
      constructor
      ·rfl
      rfl
     refine hK.out _ _ ⟨(blk_cell (blk_alloc BK307.out _) 0).trans rfl, (blk_cell (blk_alloc BK307.out _) 1).trans rfl, (blk_cell (blk_alloc BK307.out _) 2).trans rfl, (blk_cell (blk_alloc BK307.out _) 3).trans rfl, (blk_cell (blk_alloc BK307.out _) 4).trans rfl, (blk_cell (blk_alloc BK307.out _) 5).trans rfl, (blk_cell (blk_alloc BK307.out _) 6).trans rfl, (blk_cell (blk_alloc BK307.out _) 7).trans rfl, (blk_cell (blk_alloc BK307.out _) 8).trans rfl, (blk_cell (blk_alloc BK307.out _) 9).trans rfl, (blk_cell (blk_alloc BK307.out _) 10).trans rfl, (blk_cell (blk_alloc BK307.out _) 11).trans rfl⟩ (fun hHeld => ?_)
     clear hK K
     refine norm_ (a' := ?_) ?_ ?_
     rotate_left
     ·show Act.put _ (some 78) _ = _
      simp only [Act.put, sA_, sB_, sC_, i64_w, i32_w]
      rfl
     refine one_ (i := 8) (N := some 79) (Ra_ [9, 2]) rfl rfl (one_of HT_.out (by kernel_rfl)) (by decide) (fun K hK => ?_)
     refine Kd.R_append_step k74 (w0 := w) w.heap.size (by rfl) (.tmp 72) (.tmp 78) 31 74 (.agg #[(.int .i64 0), (.int .i64 0)]) 16 rfl Tryd.underlying31 info74 rfl (by decide) (by omega) u308007 x308007_3 (⟨t344, t347⟩ : S74) [.int .i64 t344, .int .i64 t347] (fun _ => True) (fun _ => False) rfl rfl ?aP (fun _ hk => hk.elim) ?aF ?aO ?aB ?aS ?aL ?_
     (case aP => exact k74_mkM _ _ _ (⟨t344, t347⟩ : S74))
     (case aB => exact m1_)
     (case aF => exact (fun _ _ => trivial))
     (case aO => exact m27_)
     (case aS => exact (below_size m1_))
     (case aL => have := LMc65.out; omega)
     intro v351 w69 ho hb hg hat
     rw [← Ny350.out] at ho
     have n0_ := Aside0.mk (Kd.R_over' m25_ (Kd.R_typed m27_) (by decide) hg)
     have n1_ := Aside0.mk (Kd.R_over' m26_ (Kd.R_typed m27_) (by decide) hg)
     have n2_ := Aside0.mk (blk_grown (g := gb293) (o := .cells #[.int .i64 0, .int .i64 0, .int .i64 0, .slice none 0 0, .string (⟨#[]⟩ : ByteArray), .string (⟨#[]⟩ : ByteArray), .slice none 0 0, .slice none 0 0, .string (⟨#[]⟩ : ByteArray), .slice none 0 0, .int .i64 0, .int .i64 0] 34 (0, 0)) m17_ hg (Kd.R_ne HO_308007.out BK293.out (by decide)))
     have n3_ := Aside0.mk (blk_grown (g := gb307) (o := .cells #[.int .i64 t298, .int .i64 t301, .int .i64 t304, u308003, .string t317, .string t320, u308006, u308007, .string (⟨#[]⟩ : ByteArray), .slice none 0 0, .int .i64 0, .int .i64 0] 34 (0, 0)) m18_ hg (Kd.R_ne HO_308007.out BK307.out (by decide)))
     have n4_ := Aside0.mk (IsS85.grown m0_ hg (IsS85.own_ne HI297.out HO_308007.out (by decide)))
     have n5_ := Aside0.mk (hb)
     have n6_ := Aside0.mk (ho)
     clear HO_308003 HO_308006 BK293 BK307 HI297 HB HO_308007
     have HO_308003 := n0_
     have HO_308006 := n1_
     have BK293 := n2_
     have BK307 := n3_
     have HI297 := n4_
     have HB := n5_
     have HO352 := n6_
     clear n0_ n1_ n2_ n3_ n4_ n5_ n6_ ho hb hg hat
     obtain ⟨Ao70, co70, eo70⟩ := Kd.R_slice HO352.out
     (first | subst eo70 | (injection eo70 with f1_ f2_ f3_; have f4_ := f1_.symm; have f5_ := f3_.symm; clear f1_ f2_ f3_; subst f4_; subst f5_))
     refine hK.out _ _ ⟨(blk_cell BK307.out 0).trans rfl, (blk_cell BK307.out 1).trans rfl, (blk_cell BK307.out 2).trans rfl, (blk_cell BK307.out 3).trans rfl, (blk_cell BK307.out 4).trans rfl, (blk_cell BK307.out 5).trans rfl, (blk_cell BK307.out 6).trans rfl, (blk_cell BK307.out 7).trans rfl, (blk_cell BK307.out 8).trans rfl, (blk_cell BK307.out 9).trans rfl, (blk_cell BK307.out 10).trans rfl, (blk_cell BK307.out 11).trans rfl⟩ (fun hHeld => ?_)
     clear hK K
     refine norm_ (a' := ?_) ?_ ?_
     rotate_left
     ·show Act.put _ (some 79) _ = _
      simp only [Act.put, sA_, sB_, sC_, i64_w, i32_w]
      rfl
     refine pI_ 9 (some 80) (Ra_ [10, 1]) (h := ?_)
     refine last_ (i := 10) (N := none) (Ra_ [11]) rfl rfl (one_of HT_.out (by kernel_rfl)) (by decide) (fun K hK => ?_)
     have hs71 : w69.cell? ⟨gb307, 7, none⟩ = some (u308007) := (blk_cell BK307.out 7).trans rfl
     have hfs71 := blk_frozen BK307.out 7
     have hns71_0 := NB293_307.out
     have hms71_0 := NB307_293.out
     refine skip_ (w1 := ?_) (by rfl) rfl ?_ ?_
     rotate_left
     ·go_simp
      rfl
     refine hK.out _ _ ?_
     clear hK K
     refine done_ (done_of HT_.out (by kernel_rfl)) ?_
     try go_wp2
     go_roundg k3
     case measure => have := HK1.out; have := HK2.out; have := HK3.out; omega
     case rel => exact ⟨(wrap64 (x69_3 + 1)), (t348), (t349), (y350), (.slice Ao70 y350.length co70), m39_, H', ⟨by have := HK1.out; have := HK2.out; have := HK3.out; omega⟩, ⟨by refine rD_ ?_; exact Kd.R_mono (Kd.R_far (p := ⟨gb307, 7, none⟩) (Kd.R_types HO_308003.out BK307.out (by decide)) (fun _ hk => hk.2) (.slice Ao70 y350.length co70)) (fun _ hk => trivial)⟩, ⟨by refine rD_ ?_; exact Kd.R_mono (Kd.R_far (p := ⟨gb307, 7, none⟩) (Kd.R_types HO_308006.out BK307.out (by decide)) (fun _ hk => hk.2) (.slice Ao70 y350.length co70)) (fun _ hk => trivial)⟩, ⟨by refine rD_ ?_; exact Kd.R_mono (Kd.R_far (p := ⟨gb307, 7, none⟩) (Kd.R_types HO352.out BK307.out (by decide)) (fun _ hk => hk.2) (.slice Ao70 y350.length co70)) (fun _ hk => trivial)⟩, ⟨by refine bD_ ?_; refine blk_far ?_ NB293_307.out _; refine bD_ ?_; exact BK293.out⟩, ⟨by refine bD_ ?_; refine blk_put (cs := #[.int .i64 t298, .int .i64 t301, .int .i64 t304, u308003, .string t317, .string t320, u308006, u308007, .string (⟨#[]⟩ : ByteArray), .slice none 0 0, .int .i64 0, .int .i64 0]) ?_ 7 _ rfl; refine bD_ ?_; exact BK307.out⟩, ⟨m41_⟩, ⟨m42_⟩⟩
    rw [if_neg c62] at H
    have c62b0 : decide (x69_3 < t341) = false := decide_eq_false c62
    clear c62
    replace H := Option.bind_eq_some_iff.mp H
    obtain ⟨⟨t353, t354, t355⟩, A720, H⟩ := H
    try dsimp only at H
    have A72 := Aside0.mk A720
    clear A720
    replace H := Option.bind_eq_some_iff.mp H
    obtain ⟨⟨t356, t357, t358⟩, A730, H⟩ := H
    try dsimp only at H
    have A73 := Aside0.mk A730
    clear A730
    have H' := Aside0.mk H
    clear H
    go_wp2_with (first | ((with_reducible refine gate_callee (f := 42) rfl ?_); refine goesL_ (some 83) rfl rfl Tryd.func42 (by kernel_rfl) rfl #[.pointer (some ⟨g297, 0, none⟩), .int .i64 12] rfl m14_ ?_; (with_reducible refine (frame_reader_text.calls k3 g297 t294 x298001_3 x298002_3 12 t353 t354 t355 w _ ?side1 ?side2 A72.out).mono ?_); (case side1 => repeat (first | (with_reducible first | exact HI297.out | apply IsS85.alloc | apply IsS85.drewN | apply IsS85.drew | apply IsS85.set_1 | apply IsS85.set_2 | refine IsS85.far ?_ NB297_293.out _ | refine IsS85.far ?_ NB297_307.out _) | exact HI297.out)); (case side2 => repeat (first | (with_reducible first | exact HB.out | apply below_alloc | apply pw_below_drewN | apply below_drew1 | refine below_set ?_ (IsS85.ge HI297.out) | refine below_set ?_ GE293.out | refine below_set ?_ GE307.out) | exact HB.out)); rintro e w74 ⟨rfl, hi, hb, hk⟩; refine ⟨_, rfl, ?_⟩; replace HO_308003 := Aside0.mk (Kd.R_mono (Kd.R_keep (IsS85.apart (show IsS85 w _ g297 t294 x298001_3 x298002_3 from m41_) m25_ (by decide)) hk (fun _ h => h.2)) (fun _ h => h.1)); replace HO_308006 := Aside0.mk (Kd.R_mono (Kd.R_keep (IsS85.apart (show IsS85 w _ g297 t294 x298001_3 x298002_3 from m41_) m26_ (by decide)) hk (fun _ h => h.2)) (fun _ h => h.1)); replace HO_308007 := Aside0.mk (Kd.R_mono (Kd.R_keep (IsS85.apart (show IsS85 w _ g297 t294 x298001_3 x298002_3 from m41_) m27_ (by decide)) hk (fun _ h => h.2)) (fun _ h => h.1)); replace BK293 := Aside0.mk (KeepBut.blk hk (g' := gb293) (o := .cells #[.int .i64 0, .int .i64 0, .int .i64 0, .slice none 0 0, .string (⟨#[]⟩ : ByteArray), .string (⟨#[]⟩ : ByteArray), .slice none 0 0, .slice none 0 0, .string (⟨#[]⟩ : ByteArray), .slice none 0 0, .int .i64 0, .int .i64 0] 34 (0, 0)) m17_ NB293_297.out (by simp)); replace BK307 := Aside0.mk (KeepBut.blk hk (g' := gb307) (o := .cells #[.int .i64 t298, .int .i64 t301, .int .i64 t304, u308003, .string t317, .string t320, u308006, u308007, .string (⟨#[]⟩ : ByteArray), .slice none 0 0, .int .i64 0, .int .i64 0] 34 (0, 0)) m18_ NB307_297.out (by simp)); replace HI297 := Aside0.mk (hi); replace HB := Aside0.mk (hb); (try clear hb hk hi); have hnb75 := NB307_293.out; have hnc75 := NB293_307.out; have hnb76 := NB307_297.out; have hnc76 := NB297_307.out; obtain ⟨hcz77_0, hcz77_1, hcz77_2, hcz77_3, hcz77_4, hcz77_5, hcz77_6, hcz77_7, hcz77_8, hcz77_9, hcz77_10, hcz77_11⟩ := bc12_ BK307.out; obtain ⟨hfz77_0, hfz77_1, hfz77_2, hfz77_3, hfz77_4, hfz77_5, hfz77_6, hfz77_7, hfz77_8, hfz77_9, hfz77_10, hfz77_11⟩ := bf12_ BK307.out) | ((with_reducible refine gate_callee (f := 41) rfl ?_); refine goesL_ (some 86) rfl rfl Tryd.func41 (by kernel_rfl) rfl #[.pointer (some ⟨g297, 0, none⟩), .int .i64 8] rfl m14_ ?_; (with_reducible refine (frame_reader_many.calls k3 g297 t294 t354 t355 8 t356 t357 t358 w _ ?side1 ?side2 A73.out).mono ?_); (case side1 => repeat (first | (with_reducible first | exact HI297.out | apply IsS85.alloc | apply IsS85.drewN | apply IsS85.drew | apply IsS85.set_1 | apply IsS85.set_2 | refine IsS85.far ?_ NB297_293.out _ | refine IsS85.far ?_ NB297_307.out _) | exact HI297.out)); (case side2 => repeat (first | (with_reducible first | exact HB.out | apply below_alloc | apply pw_below_drewN | apply below_drew1 | refine below_set ?_ (IsS85.ge HI297.out) | refine below_set ?_ GE293.out | refine below_set ?_ GE307.out) | exact HB.out)); rintro e w78 ⟨rfl, hi, hb, hk⟩; refine ⟨_, rfl, ?_⟩; replace HO_308003 := Aside0.mk (Kd.R_mono (Kd.R_keep (IsS85.apart (show IsS85 w _ g297 t294 t354 t355 from m41_) (by refine rD_ ?_; exact (Kd.R_mono (Kd.R_far (p := ⟨gb307, 8, none⟩) (Kd.R_types HO_308003.out BK307.out (by decide)) (fun _ hk => hk.2) (.string t353)) (fun _ h_ => h_.1))) (by decide)) hk (fun _ h => h.2)) (fun _ h => h.1)); replace HO_308006 := Aside0.mk (Kd.R_mono (Kd.R_keep (IsS85.apart (show IsS85 w _ g297 t294 t354 t355 from m41_) (by refine rD_ ?_; exact (Kd.R_mono (Kd.R_far (p := ⟨gb307, 8, none⟩) (Kd.R_types HO_308006.out BK307.out (by decide)) (fun _ hk => hk.2) (.string t353)) (fun _ h_ => h_.1))) (by decide)) hk (fun _ h => h.2)) (fun _ h => h.1)); replace HO_308007 := Aside0.mk (Kd.R_mono (Kd.R_keep (IsS85.apart (show IsS85 w _ g297 t294 t354 t355 from m41_) (by refine rD_ ?_; exact (Kd.R_mono (Kd.R_far (p := ⟨gb307, 8, none⟩) (Kd.R_types HO_308007.out BK307.out (by decide)) (fun _ hk => hk.2) (.string t353)) (fun _ h_ => h_.1))) (by decide)) hk (fun _ h => h.2)) (fun _ h => h.1)); replace BK293 := Aside0.mk (KeepBut.blk hk (g' := gb293) (o := .cells #[.int .i64 0, .int .i64 0, .int .i64 0, .slice none 0 0, .string (⟨#[]⟩ : ByteArray), .string (⟨#[]⟩ : ByteArray), .slice none 0 0, .slice none 0 0, .string (⟨#[]⟩ : ByteArray), .slice none 0 0, .int .i64 0, .int .i64 0] 34 (0, 0)) (by refine bD_ ?_; refine blk_far ?_ NB293_307.out _; refine bD_ ?_; exact BK293.out) NB293_297.out (by simp)); replace BK307 := Aside0.mk (KeepBut.blk hk (g' := gb307) (o := .cells #[.int .i64 t298, .int .i64 t301, .int .i64 t304, u308003, .string t317, .string t320, u308006, u308007, .string t353, .slice none 0 0, .int .i64 0, .int .i64 0] 34 (0, 0)) (by refine bD_ ?_; refine blk_put (cs := #[.int .i64 t298, .int .i64 t301, .int .i64 t304, u308003, .string t317, .string t320, u308006, u308007, .string (⟨#[]⟩ : ByteArray), .slice none 0 0, .int .i64 0, .int .i64 0]) ?_ 8 _ rfl; refine bD_ ?_; exact BK307.out) NB307_297.out (by simp)); replace HB := Aside0.mk (hb); replace HI297 := Aside0.mk (hi); (try clear hb hk hi)))
    go_loopg [87] k3 (fun kq v87 w' => ∃ (x87_4 : Int) (x298001_4 : Int) (x298002_4 : Bool) (x308009_4 : List (S67)) (u308009 : Value), v87 = .int .i64 x87_4 ∧ Aside0 (frame_ReadReply.l3 kq l0 t356 x87_4 t294 x298001_4 x298002_4 t298 t301 t304 x308003_1 t317 t320 x308006_2 x308007_3 t353 x308009_4 0 0 = some (r1, r2, r3, r4, r5, r6, r7, r8, r9, r10, r11, r12, r13)) ∧ Aside0 (kq ≤ k3) ∧ Aside0 (Kd.R Kd.string 9 w' w.heap.size (fun _ => True) u308003 x308003_1) ∧ Aside0 (Kd.R k65 65 w' w.heap.size (fun _ => True) u308006 x308006_2) ∧ Aside0 (Kd.R k74 74 w' w.heap.size (fun _ => True) u308007 x308007_3) ∧ Aside0 (Kd.R k67 67 w' w.heap.size (fun _ => True) u308009 x308009_4) ∧ Aside0 (w'.heap[gb293]? = some (.cells #[.int .i64 0, .int .i64 0, .int .i64 0, (.slice none 0 0), .string (⟨#[]⟩ : ByteArray), .string (⟨#[]⟩ : ByteArray), (.slice none 0 0), (.slice none 0 0), .string (⟨#[]⟩ : ByteArray), (.slice none 0 0), .int .i64 0, .int .i64 0] 34 (0, 0))) ∧ Aside0 (w'.heap[gb307]? = some (.cells #[.int .i64 t298, .int .i64 t301, .int .i64 t304, u308003, .string t317, .string t320, u308006, u308007, .string t353, u308009, .int .i64 0, .int .i64 0] 34 (0, 0))) ∧ Aside0 (IsS85 w w' g297 t294 x298001_4 x298002_4) ∧ Aside0 (Below w.heap.size w w'))
    case atStart => exact ⟨(0), (t357), (t358), (([] : List (S67))), (.slice none 0 0), m39_, H', ⟨Nat.le_refl _⟩, ⟨by refine rD_ ?_; exact HO_308003.out⟩, ⟨by refine rD_ ?_; exact HO_308006.out⟩, ⟨by refine rD_ ?_; exact HO_308007.out⟩, ⟨by first | exact Kd.R_nil _ _ _ _ _ | exact Kd.N_nil _ _ _ _ _ | exact Kd.V_nil _ _ _ _ _ | exact Kd.Q_nil _ _ _ _ _ | exact Kd.S_nil _ _ _ _ _⟩, ⟨by refine bD_ ?_; exact BK293.out⟩, ⟨by refine bD_ ?_; exact BK307.out⟩, ⟨m41_⟩, ⟨m42_⟩⟩
    clear H'
    try clear c62b0; try clear hcz77_0; try clear hcz77_1; try clear hcz77_10; try clear hcz77_11; try clear hcz77_2; try clear hcz77_3; try clear hcz77_4; try clear hcz77_5; try clear hcz77_6; try clear hcz77_7; try clear hcz77_8; try clear hcz77_9; try clear hfz77_0; try clear hfz77_1; try clear hfz77_10; try clear hfz77_11; try clear hfz77_2; try clear hfz77_3; try clear hfz77_4; try clear hfz77_5; try clear hfz77_6; try clear hfz77_7; try clear hfz77_8; try clear hfz77_9
    obtain ⟨x87_4, x298001_4, x298002_4, x308009_4, u308009, rfl, HA, HK4, HO_308003, HO_308006, HO_308007, HO_308009, BK293, BK307, HI297, HB⟩ := hrel
    cases gk with
    | zero => exact absurd HA.out (by simp [frame_ReadReply.l3])
    | succ k4 =>
     have H := HA.out
     clear HA
     simp only [frame_ReadReply.l3] at H
     by_cases c79 : x87_4 < t356
     ·rw [if_pos c79] at H
      have c79b0 : decide (x87_4 < t356) = true := decide_eq_true c79
      clear c79
      replace H := Option.bind_eq_some_iff.mp H
      obtain ⟨⟨t359, t360, t361⟩, A800, H⟩ := H
      try dsimp only at H
      have A80 := Aside0.mk A800
      clear A800
      replace H := Option.bind_eq_some_iff.mp H
      obtain ⟨⟨t362, t363, t364⟩, A810, H⟩ := H
      try dsimp only at H
      have A81 := Aside0.mk A810
      clear A810
      replace H := Option.bind_eq_some_iff.mp H
      obtain ⟨⟨t365, t366, t367⟩, A820, H⟩ := H
      try dsimp only at H
      have A82 := Aside0.mk A820
      clear A820
      replace H := Option.bind_eq_some_iff.mp H
      obtain ⟨⟨t369, t370, t371⟩, A830, H⟩ := H
      try dsimp only at H
      have A83 := Aside0.mk A830
      clear A830
      replace H := Option.bind_eq_some_iff.mp H
      obtain ⟨⟨t372, t373, t374⟩, A840, H⟩ := H
      try dsimp only at H
      have A84 := Aside0.mk A840
      clear A840
      by_cases c85 : x308009_4.length < 2932031007402
      case neg =>
       rw [if_neg c85] at H
       exact absurd H (by simp)
      rw [if_pos c85] at H
      have LMc85 := Aside0.mk c85
      clear c85
      obtain ⟨y375, hy375⟩ : ∃ y_ : List (S67), y_ = (x308009_4 ++ [(⟨t359, t362, t365, t369, t372⟩ : S67)]) := ⟨_, rfl⟩
      replace H : (frame_ReadReply.l3 k4 l0 t356 (wrap64 (x87_4 + 1)) t294 t373 t374 t298 t301 t304 x308003_1 t317 t320 x308006_2 x308007_3 t353 y375 0 0) = some (r1, r2, r3, r4, r5, r6, r7, r8, r9, r10, r11, r12, r13) := by first | (rw [hy375]; with_reducible exact H) | (have H2_ := (Option.bind_some _ _).symm.trans H; rw [hy375]; with_reducible exact H2_) | (have H2_ := (Option.bind_some _ _).symm.trans H; with_reducible exact H2_) | with_reducible exact H | (rw [hy375]; exact H) | exact H
      have Ny375 := Aside0.mk hy375
      clear hy375
      have H' := Aside0.mk H
      clear H
      go_wp2_with (first | ((with_reducible refine gate_callee (f := 40) rfl ?_); refine goesL_ (some 90) rfl rfl Tryd.func40 (by kernel_rfl) rfl #[.pointer (some ⟨g297, 0, none⟩)] rfl m14_ ?_; (with_reducible refine (frame_reader_number.calls k4 g297 t294 x298001_4 x298002_4 t359 t360 t361 w _ ?side1 ?side2 A80.out).mono ?_); (case side1 => repeat (first | (with_reducible first | exact HI297.out | apply IsS85.alloc | apply IsS85.drewN | apply IsS85.drew | apply IsS85.set_1 | apply IsS85.set_2 | refine IsS85.far ?_ NB297_293.out _ | refine IsS85.far ?_ NB297_307.out _) | exact HI297.out)); (case side2 => repeat (first | (with_reducible first | exact HB.out | apply below_alloc | apply pw_below_drewN | apply below_drew1 | refine below_set ?_ (IsS85.ge HI297.out) | refine below_set ?_ GE293.out | refine below_set ?_ GE307.out) | exact HB.out)); rintro e w86 ⟨rfl, hi, hb, hk⟩; refine ⟨_, rfl, ?_⟩; replace HO_308003 := Aside0.mk (Kd.R_mono (Kd.R_keep (IsS85.apart (show IsS85 w _ g297 t294 x298001_4 x298002_4 from m41_) m25_ (by decide)) hk (fun _ h => h.2)) (fun _ h => h.1)); replace HO_308006 := Aside0.mk (Kd.R_mono (Kd.R_keep (IsS85.apart (show IsS85 w _ g297 t294 x298001_4 x298002_4 from m41_) m26_ (by decide)) hk (fun _ h => h.2)) (fun _ h => h.1)); replace HO_308007 := Aside0.mk (Kd.R_mono (Kd.R_keep (IsS85.apart (show IsS85 w _ g297 t294 x298001_4 x298002_4 from m41_) m27_ (by decide)) hk (fun _ h => h.2)) (fun _ h => h.1)); replace HO_308009 := Aside0.mk (Kd.R_mono (Kd.R_keep (IsS85.apart (show IsS85 w _ g297 t294 x298001_4 x298002_4 from m41_) m28_ (by decide)) hk (fun _ h => h.2)) (fun _ h => h.1)); replace BK293 := Aside0.mk (KeepBut.blk hk (g' := gb293) (o := .cells #[.int .i64 0, .int .i64 0, .int .i64 0, .slice none 0 0, .string (⟨#[]⟩ : ByteArray), .string (⟨#[]⟩ : ByteArray), .slice none 0 0, .slice none 0 0, .string (⟨#[]⟩ : ByteArray), .slice none 0 0, .int .i64 0, .int .i64 0] 34 (0, 0)) m17_ NB293_297.out (by simp)); replace BK307 := Aside0.mk (KeepBut.blk hk (g' := gb307) (o := .cells #[.int .i64 t298, .int .i64 t301, .int .i64 t304, u308003, .string t317, .string t320, u308006, u308007, .string t353, u308009, .int .i64 0, .int .i64 0] 34 (0, 0)) m18_ NB307_297.out (by simp)); replace HI297 := Aside0.mk (hi); replace HB := Aside0.mk (hb); (try clear hb hk hi)) | ((with_reducible refine gate_callee (f := 40) rfl ?_); refine goesL_ (some 92) rfl rfl Tryd.func40 (by kernel_rfl) rfl #[.pointer (some ⟨g297, 0, none⟩)] rfl m14_ ?_; (with_reducible refine (frame_reader_number.calls k4 g297 t294 t360 t361 t362 t363 t364 w _ ?side1 ?side2 A81.out).mono ?_); (case side1 => repeat (first | (with_reducible first | exact HI297.out | apply IsS85.alloc | apply IsS85.drewN | apply IsS85.drew | apply IsS85.set_1 | apply IsS85.set_2 | refine IsS85.far ?_ NB297_293.out _ | refine IsS85.far ?_ NB297_307.out _) | exact HI297.out)); (case side2 => repeat (first | (with_reducible first | exact HB.out | apply below_alloc | apply pw_below_drewN | apply below_drew1 | refine below_set ?_ (IsS85.ge HI297.out) | refine below_set ?_ GE293.out | refine below_set ?_ GE307.out) | exact HB.out)); rintro e w87 ⟨rfl, hi, hb, hk⟩; refine ⟨_, rfl, ?_⟩; replace HO_308003 := Aside0.mk (Kd.R_mono (Kd.R_keep (IsS85.apart (show IsS85 w _ g297 t294 t360 t361 from m41_) m25_ (by decide)) hk (fun _ h => h.2)) (fun _ h => h.1)); replace HO_308006 := Aside0.mk (Kd.R_mono (Kd.R_keep (IsS85.apart (show IsS85 w _ g297 t294 t360 t361 from m41_) m26_ (by decide)) hk (fun _ h => h.2)) (fun _ h => h.1)); replace HO_308007 := Aside0.mk (Kd.R_mono (Kd.R_keep (IsS85.apart (show IsS85 w _ g297 t294 t360 t361 from m41_) m27_ (by decide)) hk (fun _ h => h.2)) (fun _ h => h.1)); replace HO_308009 := Aside0.mk (Kd.R_mono (Kd.R_keep (IsS85.apart (show IsS85 w _ g297 t294 t360 t361 from m41_) m28_ (by decide)) hk (fun _ h => h.2)) (fun _ h => h.1)); replace BK293 := Aside0.mk (KeepBut.blk hk (g' := gb293) (o := .cells #[.int .i64 0, .int .i64 0, .int .i64 0, .slice none 0 0, .string (⟨#[]⟩ : ByteArray), .string (⟨#[]⟩ : ByteArray), .slice none 0 0, .slice none 0 0, .string (⟨#[]⟩ : ByteArray), .slice none 0 0, .int .i64 0, .int .i64 0] 34 (0, 0)) m17_ NB293_297.out (by simp)); replace BK307 := Aside0.mk (KeepBut.blk hk (g' := gb307) (o := .cells #[.int .i64 t298, .int .i64 t301, .int .i64 t304, u308003, .string t317, .string t320, u308006, u308007, .string t353, u308009, .int .i64 0, .int .i64 0] 34 (0, 0)) m18_ NB307_297.out (by simp)); replace HI297 := Aside0.mk (hi); replace HB := Aside0.mk (hb); (try clear hb hk hi)) | ((with_reducible refine gate_callee (f := 40) rfl ?_); refine goesL_ (some 94) rfl rfl Tryd.func40 (by kernel_rfl) rfl #[.pointer (some ⟨g297, 0, none⟩)] rfl m14_ ?_; (with_reducible refine (frame_reader_number.calls k4 g297 t294 t363 t364 t365 t366 t367 w _ ?side1 ?side2 A82.out).mono ?_); (case side1 => repeat (first | (with_reducible first | exact HI297.out | apply IsS85.alloc | apply IsS85.drewN | apply IsS85.drew | apply IsS85.set_1 | apply IsS85.set_2 | refine IsS85.far ?_ NB297_293.out _ | refine IsS85.far ?_ NB297_307.out _) | exact HI297.out)); (case side2 => repeat (first | (with_reducible first | exact HB.out | apply below_alloc | apply pw_below_drewN | apply below_drew1 | refine below_set ?_ (IsS85.ge HI297.out) | refine below_set ?_ GE293.out | refine below_set ?_ GE307.out) | exact HB.out)); rintro e w88 ⟨rfl, hi, hb, hk⟩; refine ⟨_, rfl, ?_⟩; replace HO_308003 := Aside0.mk (Kd.R_mono (Kd.R_keep (IsS85.apart (show IsS85 w _ g297 t294 t363 t364 from m41_) m25_ (by decide)) hk (fun _ h => h.2)) (fun _ h => h.1)); replace HO_308006 := Aside0.mk (Kd.R_mono (Kd.R_keep (IsS85.apart (show IsS85 w _ g297 t294 t363 t364 from m41_) m26_ (by decide)) hk (fun _ h => h.2)) (fun _ h => h.1)); replace HO_308007 := Aside0.mk (Kd.R_mono (Kd.R_keep (IsS85.apart (show IsS85 w _ g297 t294 t363 t364 from m41_) m27_ (by decide)) hk (fun _ h => h.2)) (fun _ h => h.1)); replace HO_308009 := Aside0.mk (Kd.R_mono (Kd.R_keep (IsS85.apart (show IsS85 w _ g297 t294 t363 t364 from m41_) m28_ (by decide)) hk (fun _ h => h.2)) (fun _ h => h.1)); replace BK293 := Aside0.mk (KeepBut.blk hk (g' := gb293) (o := .cells #[.int .i64 0, .int .i64 0, .int .i64 0, .slice none 0 0, .string (⟨#[]⟩ : ByteArray), .string (⟨#[]⟩ : ByteArray), .slice none 0 0, .slice none 0 0, .string (⟨#[]⟩ : ByteArray), .slice none 0 0, .int .i64 0, .int .i64 0] 34 (0, 0)) m17_ NB293_297.out (by simp)); replace BK307 := Aside0.mk (KeepBut.blk hk (g' := gb307) (o := .cells #[.int .i64 t298, .int .i64 t301, .int .i64 t304, u308003, .string t317, .string t320, u308006, u308007, .string t353, u308009, .int .i64 0, .int .i64 0] 34 (0, 0)) m18_ NB307_297.out (by simp)); replace HI297 := Aside0.mk (hi); replace HB := Aside0.mk (hb); (try clear hb hk hi)) | ((with_reducible refine gate_dst (N := 7) rfl ?_); (try (refine gate_guard (by rfl) ?_; dsimp only)); refine box_event ?hg (N := 7) ?hd (cs := #[.int .i64 0, .int .i64 0, .int .i64 0, .string (⟨#[]⟩ : ByteArray), .int .i64 0]) (t := 67) ?hr ?_; (case hd => rfl); (case hg => rfl); (case hr => first | (go_simp; done) | (go_simp; rfl)); intro gb368 hg w89 hbox hb; replace HO_308003 := Aside0.mk (Kd.R_below m25_ hb); replace HO_308006 := Aside0.mk (Kd.R_below m26_ hb); replace HO_308007 := Aside0.mk (Kd.R_below m27_ hb); replace HO_308009 := Aside0.mk (Kd.R_below (Kd.R_elderB m28_ gb368 (Nat.le_of_eq hg.symm)) hb); have BK368 := Aside0.mk (hbox); have GW368 := Aside0.mk ((by rw [hg]; exact (below_size m1_) : w.heap.size ≤ gb368)); have GE368 := Aside0.mk ((by rw [hg]; exact (below_size m1_) : w.heap.size ≤ gb368)); replace HB := Aside0.mk (below_step m1_ hb); have NB293_368 := Aside0.mk ((by rw [hg]; exact Nat.ne_of_lt (blk_lt (g := gb293) (o := .cells #[.int .i64 0, .int .i64 0, .int .i64 0, .slice none 0 0, .string (⟨#[]⟩ : ByteArray), .string (⟨#[]⟩ : ByteArray), .slice none 0 0, .slice none 0 0, .string (⟨#[]⟩ : ByteArray), .slice none 0 0, .int .i64 0, .int .i64 0] 34 (0, 0)) m17_) : gb293 ≠ gb368)); have NB368_293 := Aside0.mk ((by rw [hg]; exact Nat.ne_of_gt (blk_lt (g := gb293) (o := .cells #[.int .i64 0, .int .i64 0, .int .i64 0, .slice none 0 0, .string (⟨#[]⟩ : ByteArray), .string (⟨#[]⟩ : ByteArray), .slice none 0 0, .slice none 0 0, .string (⟨#[]⟩ : ByteArray), .slice none 0 0, .int .i64 0, .int .i64 0] 34 (0, 0)) m17_) : gb368 ≠ gb293)); replace BK293 := Aside0.mk (blk_below (g := gb293) (o := .cells #[.int .i64 0, .int .i64 0, .int .i64 0, .slice none 0 0, .string (⟨#[]⟩ : ByteArray), .string (⟨#[]⟩ : ByteArray), .slice none 0 0, .slice none 0 0, .string (⟨#[]⟩ : ByteArray), .slice none 0 0, .int .i64 0, .int .i64 0] 34 (0, 0)) m17_ hb); have NB307_368 := Aside0.mk ((by rw [hg]; exact Nat.ne_of_lt (blk_lt (g := gb307) (o := .cells #[.int .i64 t298, .int .i64 t301, .int .i64 t304, u308003, .string t317, .string t320, u308006, u308007, .string t353, u308009, .int .i64 0, .int .i64 0] 34 (0, 0)) m18_) : gb307 ≠ gb368)); have NB368_307 := Aside0.mk ((by rw [hg]; exact Nat.ne_of_gt (blk_lt (g := gb307) (o := .cells #[.int .i64 t298, .int .i64 t301, .int .i64 t304, u308003, .string t317, .string t320, u308006, u308007, .string t353, u308009, .int .i64 0, .int .i64 0] 34 (0, 0)) m18_) : gb368 ≠ gb307)); replace BK307 := Aside0.mk (blk_below m18_ hb); have NB297_368 := Aside0.mk ((by rw [hg]; exact Nat.ne_of_lt (IsS85.lt (show IsS85 w _ g297 t294 t366 t367 from m41_)) : g297 ≠ gb368)); have NB368_297 := Aside0.mk ((by rw [hg]; exact Nat.ne_of_gt (IsS85.lt (show IsS85 w _ g297 t294 t366 t367 from m41_)) : gb368 ≠ g297)); replace HI297 := Aside0.mk (IsS85.below m0_ hb); clear hb hbox hg; have hnb90 := NB368_293.out; have hnc90 := NB293_368.out; have hnb91 := NB368_307.out; have hnc91 := NB307_368.out; have hnb92 := NB368_297.out; have hnc92 := NB297_368.out; obtain ⟨hcz93_0, hcz93_1, hcz93_2, hcz93_3, hcz93_4⟩ := bc5_ BK368.out; obtain ⟨hfz93_0, hfz93_1, hfz93_2, hfz93_3, hfz93_4⟩ := bf5_ BK368.out) | ((with_reducible refine gate_callee (f := 42) rfl ?_); refine goesL_ (some 97) rfl rfl Tryd.func42 (by kernel_rfl) rfl #[.pointer (some ⟨g297, 0, none⟩), .int .i64 32] rfl m14_ ?_; (with_reducible refine (frame_reader_text.calls k4 g297 t294 t366 t367 32 t369 t370 t371 w _ ?side1 ?side2 A83.out).mono ?_); (case side1 => repeat (first | (with_reducible first | exact HI297.out | apply IsS85.alloc | apply IsS85.drewN | apply IsS85.drew | apply IsS85.set_1 | apply IsS85.set_2 | refine IsS85.far ?_ NB297_293.out _ | refine IsS85.far ?_ NB297_307.out _ | refine IsS85.far ?_ NB297_368.out _) | exact HI297.out)); (case side2 => repeat (first | (with_reducible first | exact HB.out | apply below_alloc | apply pw_below_drewN | apply below_drew1 | refine below_set ?_ (IsS85.ge HI297.out) | refine below_set ?_ GE293.out | refine below_set ?_ GE307.out | refine below_set ?_ GE368.out) | exact HB.out)); rintro e w94 ⟨rfl, hi, hb, hk⟩; refine ⟨_, rfl, ?_⟩; replace HO_308003 := Aside0.mk (Kd.R_mono (Kd.R_keep (IsS85.apart (show IsS85 w _ g297 t294 t366 t367 from m40_) (by refine rD_ ?_; exact (Kd.R_mono (Kd.R_far (p := ⟨gb368, 4, none⟩) (Kd.R_far (p := ⟨gb368, 3, none⟩) (Kd.R_far (p := ⟨gb368, 2, none⟩) (Kd.R_far (p := ⟨gb368, 1, none⟩) (Kd.R_far (p := ⟨gb368, 0, none⟩) (Kd.R_types HO_308003.out BK368.out (by decide)) (fun _ hk => hk.2) (.int .i64 t359)) (fun _ hk => hk.2) (.int .i64 t362)) (fun _ hk => hk.2) (.int .i64 t365)) (fun _ hk => hk.2) (.string (⟨#[]⟩ : ByteArray))) (fun _ hk => hk.2) (.int .i64 0)) (fun _ h_ => h_.1))) (by decide)) hk (fun _ h => h.2)) (fun _ h => h.1)); replace HO_308006 := Aside0.mk (Kd.R_mono (Kd.R_keep (IsS85.apart (show IsS85 w _ g297 t294 t366 t367 from m40_) (by refine rD_ ?_; exact (Kd.R_mono (Kd.R_far (p := ⟨gb368, 4, none⟩) (Kd.R_far (p := ⟨gb368, 3, none⟩) (Kd.R_far (p := ⟨gb368, 2, none⟩) (Kd.R_far (p := ⟨gb368, 1, none⟩) (Kd.R_far (p := ⟨gb368, 0, none⟩) (Kd.R_types HO_308006.out BK368.out (by decide)) (fun _ hk => hk.2) (.int .i64 t359)) (fun _ hk => hk.2) (.int .i64 t362)) (fun _ hk => hk.2) (.int .i64 t365)) (fun _ hk => hk.2) (.string (⟨#[]⟩ : ByteArray))) (fun _ hk => hk.2) (.int .i64 0)) (fun _ h_ => h_.1))) (by decide)) hk (fun _ h => h.2)) (fun _ h => h.1)); replace HO_308007 := Aside0.mk (Kd.R_mono (Kd.R_keep (IsS85.apart (show IsS85 w _ g297 t294 t366 t367 from m40_) (by refine rD_ ?_; exact (Kd.R_mono (Kd.R_far (p := ⟨gb368, 4, none⟩) (Kd.R_far (p := ⟨gb368, 3, none⟩) (Kd.R_far (p := ⟨gb368, 2, none⟩) (Kd.R_far (p := ⟨gb368, 1, none⟩) (Kd.R_far (p := ⟨gb368, 0, none⟩) (Kd.R_types HO_308007.out BK368.out (by decide)) (fun _ hk => hk.2) (.int .i64 t359)) (fun _ hk => hk.2) (.int .i64 t362)) (fun _ hk => hk.2) (.int .i64 t365)) (fun _ hk => hk.2) (.string (⟨#[]⟩ : ByteArray))) (fun _ hk => hk.2) (.int .i64 0)) (fun _ h_ => h_.1))) (by decide)) hk (fun _ h => h.2)) (fun _ h => h.1)); replace HO_308009 := Aside0.mk (Kd.R_mono (Kd.R_keep (IsS85.apart (show IsS85 w _ g297 t294 t366 t367 from m40_) (by refine rD_ ?_; exact (Kd.R_mono (Kd.R_far (p := ⟨gb368, 4, none⟩) (Kd.R_far (p := ⟨gb368, 3, none⟩) (Kd.R_far (p := ⟨gb368, 2, none⟩) (Kd.R_far (p := ⟨gb368, 1, none⟩) (Kd.R_far (p := ⟨gb368, 0, none⟩) (Kd.R_mono HO_308009.out (fun k_ hk => (⟨hk, hk.2⟩ : _ ∧ k_ ≠ gb368))) (fun _ hk => hk.2) (.int .i64 t359)) (fun _ hk => hk.2) (.int .i64 t362)) (fun _ hk => hk.2) (.int .i64 t365)) (fun _ hk => hk.2) (.string (⟨#[]⟩ : ByteArray))) (fun _ hk => hk.2) (.int .i64 0)) (fun _ h_ => h_.1))) (by decide)) hk (fun _ h => h.2)) (fun _ h => h.1)); replace BK293 := Aside0.mk (KeepBut.blk hk (g' := gb293) (o := .cells #[.int .i64 0, .int .i64 0, .int .i64 0, .slice none 0 0, .string (⟨#[]⟩ : ByteArray), .string (⟨#[]⟩ : ByteArray), .slice none 0 0, .slice none 0 0, .string (⟨#[]⟩ : ByteArray), .slice none 0 0, .int .i64 0, .int .i64 0] 34 (0, 0)) (by refine bD_ ?_; refine blk_far ?_ NB293_368.out _; refine bD_ ?_; refine blk_far ?_ NB293_368.out _; refine bD_ ?_; refine blk_far ?_ NB293_368.out _; refine bD_ ?_; refine blk_far ?_ NB293_368.out _; refine bD_ ?_; refine blk_far ?_ NB293_368.out _; refine bD_ ?_; exact BK293.out) NB293_297.out (by simp)); replace BK307 := Aside0.mk (KeepBut.blk hk (g' := gb307) (o := .cells #[.int .i64 t298, .int .i64 t301, .int .i64 t304, u308003, .string t317, .string t320, u308006, u308007, .string t353, u308009, .int .i64 0, .int .i64 0] 34 (0, 0)) (by refine bD_ ?_; refine blk_far ?_ NB307_368.out _; refine bD_ ?_; refine blk_far ?_ NB307_368.out _; refine bD_ ?_; refine blk_far ?_ NB307_368.out _; refine bD_ ?_; refine blk_far ?_ NB307_368.out _; refine bD_ ?_; refine blk_far ?_ NB307_368.out _; refine bD_ ?_; exact BK307.out) NB307_297.out (by simp)); replace BK368 := Aside0.mk (KeepBut.blk hk (g' := gb368) (o := .cells #[.int .i64 t359, .int .i64 t362, .int .i64 t365, .string (⟨#[]⟩ : ByteArray), .int .i64 0] 67 (0, 0)) (by refine bD_ ?_; refine blk_put (cs := #[.int .i64 t359, .int .i64 t362, .int .i64 t365, .string (⟨#[]⟩ : ByteArray), .int .i64 0]) ?_ 4 _ rfl; refine bD_ ?_; refine blk_put (cs := #[.int .i64 t359, .int .i64 t362, .int .i64 t365, .string (⟨#[]⟩ : ByteArray), .int .i64 0]) ?_ 3 _ rfl; refine bD_ ?_; refine blk_put (cs := #[.int .i64 t359, .int .i64 t362, .int .i64 0, .string (⟨#[]⟩ : ByteArray), .int .i64 0]) ?_ 2 _ rfl; refine bD_ ?_; refine blk_put (cs := #[.int .i64 t359, .int .i64 0, .int .i64 0, .string (⟨#[]⟩ : ByteArray), .int .i64 0]) ?_ 1 _ rfl; refine bD_ ?_; refine blk_put (cs := #[.int .i64 0, .int .i64 0, .int .i64 0, .string (⟨#[]⟩ : ByteArray), .int .i64 0]) ?_ 0 _ rfl; refine bD_ ?_; exact BK368.out) NB368_297.out (by simp)); replace HB := Aside0.mk (hb); replace HI297 := Aside0.mk (hi); (try clear hb hk hi); obtain ⟨hcz95_0, hcz95_1, hcz95_2, hcz95_3, hcz95_4⟩ := bc5_ BK368.out; obtain ⟨hfz95_0, hfz95_1, hfz95_2, hfz95_3, hfz95_4⟩ := bf5_ BK368.out) | ((with_reducible refine gate_callee (f := 40) rfl ?_); refine goesL_ (some 100) rfl rfl Tryd.func40 (by kernel_rfl) rfl #[.pointer (some ⟨g297, 0, none⟩)] rfl m14_ ?_; (with_reducible refine (frame_reader_number.calls k4 g297 t294 t370 t371 t372 t373 t374 w _ ?side1 ?side2 A84.out).mono ?_); (case side1 => repeat (first | (with_reducible first | exact HI297.out | apply IsS85.alloc | apply IsS85.drewN | apply IsS85.drew | apply IsS85.set_1 | apply IsS85.set_2 | refine IsS85.far ?_ NB297_293.out _ | refine IsS85.far ?_ NB297_307.out _ | refine IsS85.far ?_ NB297_368.out _) | exact HI297.out)); (case side2 => repeat (first | (with_reducible first | exact HB.out | apply below_alloc | apply pw_below_drewN | apply below_drew1 | refine below_set ?_ (IsS85.ge HI297.out) | refine below_set ?_ GE293.out | refine below_set ?_ GE307.out | refine below_set ?_ GE368.out) | exact HB.out)); rintro e w96 ⟨rfl, hi, hb, hk⟩; refine ⟨_, rfl, ?_⟩; replace HO_308003 := Aside0.mk (Kd.R_mono (Kd.R_keep (IsS85.apart (show IsS85 w _ g297 t294 t370 t371 from m40_) (by refine rD_ ?_; exact (Kd.R_mono (Kd.R_far (p := ⟨gb368, 3, none⟩) (Kd.R_types HO_308003.out BK368.out (by decide)) (fun _ hk => hk.2) (.string t369)) (fun _ h_ => h_.1))) (by decide)) hk (fun _ h => h.2)) (fun _ h => h.1)); replace HO_308006 := Aside0.mk (Kd.R_mono (Kd.R_keep (IsS85.apart (show IsS85 w _ g297 t294 t370 t371 from m40_) (by refine rD_ ?_; exact (Kd.R_mono (Kd.R_far (p := ⟨gb368, 3, none⟩) (Kd.R_types HO_308006.out BK368.out (by decide)) (fun _ hk => hk.2) (.string t369)) (fun _ h_ => h_.1))) (by decide)) hk (fun _ h => h.2)) (fun _ h => h.1)); replace HO_308007 := Aside0.mk (Kd.R_mono (Kd.R_keep (IsS85.apart (show IsS85 w _ g297 t294 t370 t371 from m40_) (by refine rD_ ?_; exact (Kd.R_mono (Kd.R_far (p := ⟨gb368, 3, none⟩) (Kd.R_types HO_308007.out BK368.out (by decide)) (fun _ hk => hk.2) (.string t369)) (fun _ h_ => h_.1))) (by decide)) hk (fun _ h => h.2)) (fun _ h => h.1)); replace HO_308009 := Aside0.mk (Kd.R_mono (Kd.R_keep (IsS85.apart (show IsS85 w _ g297 t294 t370 t371 from m40_) (by refine rD_ ?_; exact (Kd.R_mono (Kd.R_far (p := ⟨gb368, 3, none⟩) (Kd.R_mono HO_308009.out (fun k_ hk => (⟨hk, hk.2⟩ : _ ∧ k_ ≠ gb368))) (fun _ hk => hk.2) (.string t369)) (fun _ h_ => h_.1))) (by decide)) hk (fun _ h => h.2)) (fun _ h => h.1)); replace BK293 := Aside0.mk (KeepBut.blk hk (g' := gb293) (o := .cells #[.int .i64 0, .int .i64 0, .int .i64 0, .slice none 0 0, .string (⟨#[]⟩ : ByteArray), .string (⟨#[]⟩ : ByteArray), .slice none 0 0, .slice none 0 0, .string (⟨#[]⟩ : ByteArray), .slice none 0 0, .int .i64 0, .int .i64 0] 34 (0, 0)) (by refine bD_ ?_; refine blk_far ?_ NB293_368.out _; refine bD_ ?_; exact BK293.out) NB293_297.out (by simp)); replace BK307 := Aside0.mk (KeepBut.blk hk (g' := gb307) (o := .cells #[.int .i64 t298, .int .i64 t301, .int .i64 t304, u308003, .string t317, .string t320, u308006, u308007, .string t353, u308009, .int .i64 0, .int .i64 0] 34 (0, 0)) (by refine bD_ ?_; refine blk_far ?_ NB307_368.out _; refine bD_ ?_; exact BK307.out) NB307_297.out (by simp)); replace BK368 := Aside0.mk (KeepBut.blk hk (g' := gb368) (o := .cells #[.int .i64 t359, .int .i64 t362, .int .i64 t365, .string t369, .int .i64 0] 67 (0, 0)) (by refine bD_ ?_; refine blk_put (cs := #[.int .i64 t359, .int .i64 t362, .int .i64 t365, .string (⟨#[]⟩ : ByteArray), .int .i64 0]) ?_ 3 _ rfl; refine bD_ ?_; exact BK368.out) NB368_297.out (by simp)); replace HB := Aside0.mk (hb); replace HI297 := Aside0.mk (hi); (try clear hb hk hi); obtain ⟨hcz97_0, hcz97_1, hcz97_2, hcz97_3, hcz97_4⟩ := bc5_ BK368.out; obtain ⟨hfz97_0, hfz97_1, hfz97_2, hfz97_3, hfz97_4⟩ := bf5_ BK368.out; have hnb98 := NB307_293.out; have hnc98 := NB293_307.out; have hnb99 := NB307_297.out; have hnc99 := NB297_307.out; obtain ⟨hcz100_0, hcz100_1, hcz100_2, hcz100_3, hcz100_4, hcz100_5, hcz100_6, hcz100_7, hcz100_8, hcz100_9, hcz100_10, hcz100_11⟩ := bc12_ BK307.out; obtain ⟨hfz100_0, hfz100_1, hfz100_2, hfz100_3, hfz100_4, hfz100_5, hfz100_6, hfz100_7, hfz100_8, hfz100_9, hfz100_10, hfz100_11⟩ := bf12_ BK307.out) | ((with_reducible refine gate_builtin (b := .append) (xs := #[.tmp 103, .tmp 105]) rfl ?_); (try (refine gate_guard (by rfl) ?_; dsimp only)); at_builtin; refine Kd.R_append k67 (w0 := w) w.heap.size rfl (.tmp 103) (.tmp 105) 32 67 (.agg #[(.int .i64 0), (.int .i64 0), (.int .i64 0), (.string ⟨#[]⟩), (.int .i64 0)]) 48 rfl Tryd.underlying32 info67 rfl (by decide) (by omega) u308009 x308009_4 (⟨t359, t362, t365, t369, t372⟩ : S67) [.int .i64 t359, .int .i64 t362, .int .i64 t365, .string t369, .int .i64 t372] (fun k_ => k_ ≠ gb368) (fun _ => False) rfl (by first | (go_simp; done) | (go_simp; rfl)) ?aP (fun _ hk => hk.elim) ?aF ?aO ?aB ?aS ?aL ?_; (case aP => exact k67_mkM _ _ _ (⟨t359, t362, t365, t369, t372⟩ : S67)); (case aB => exact (by repeat (first | (with_reducible first | exact HB.out | apply below_alloc | apply pw_below_drewN | apply below_drew1 | refine below_set ?_ (IsS85.ge HI297.out) | refine below_set ?_ GE293.out | refine below_set ?_ GE307.out | refine below_set ?_ GE368.out) | exact HB.out))); (case aF => exact (fun k_ hk => Kd.freshB (g := gb368) (o := .cells #[.int .i64 t359, .int .i64 t362, .int .i64 t365, .string t369, .int .i64 t372] 67 (0, 0)) (by refine bD_ ?_; refine blk_put (cs := #[.int .i64 t359, .int .i64 t362, .int .i64 t365, .string t369, .int .i64 0]) ?_ 4 _ rfl; refine bD_ ?_; exact BK368.out) k_ hk)); (case aO => exact (by refine rD_ ?_; exact Kd.R_mono (Kd.R_far (p := ⟨gb368, 4, none⟩) (Kd.R_mono HO_308009.out (fun k_ hk => (⟨hk, hk.2⟩ : _ ∧ k_ ≠ gb368))) (fun _ hk => hk.2) (.int .i64 t372)) (fun _ hk => hk.1.2))); (case aS => exact (below_size (by repeat (first | (with_reducible first | exact HB.out | apply below_alloc | apply pw_below_drewN | apply below_drew1 | refine below_set ?_ (IsS85.ge HI297.out) | refine below_set ?_ GE293.out | refine below_set ?_ GE307.out | refine below_set ?_ GE368.out) | exact HB.out)))); (case aL => have := LMc85.out; omega); intro v376 w101 ho hb hg hat; rw [← Ny375.out] at ho; replace HO_308003 := Aside0.mk (Kd.R_over' (by refine rD_ ?_; exact (Kd.R_mono (Kd.R_far (p := ⟨gb368, 4, none⟩) (Kd.R_types HO_308003.out BK368.out (by decide)) (fun _ hk => hk.2) (.int .i64 t372)) (fun _ h_ => h_.1))) (Kd.R_typed (by refine rD_ ?_; exact (Kd.R_mono (Kd.R_far (p := ⟨gb368, 4, none⟩) (Kd.R_mono HO_308009.out (fun k_ hk => (⟨hk, hk.2⟩ : _ ∧ k_ ≠ gb368))) (fun _ hk => hk.2) (.int .i64 t372)) (fun _ h_ => h_.1)))) (by decide) hg); replace HO_308006 := Aside0.mk (Kd.R_over' (by refine rD_ ?_; exact (Kd.R_mono (Kd.R_far (p := ⟨gb368, 4, none⟩) (Kd.R_types HO_308006.out BK368.out (by decide)) (fun _ hk => hk.2) (.int .i64 t372)) (fun _ h_ => h_.1))) (Kd.R_typed (by refine rD_ ?_; exact (Kd.R_mono (Kd.R_far (p := ⟨gb368, 4, none⟩) (Kd.R_mono HO_308009.out (fun k_ hk => (⟨hk, hk.2⟩ : _ ∧ k_ ≠ gb368))) (fun _ hk => hk.2) (.int .i64 t372)) (fun _ h_ => h_.1)))) (by decide) hg); replace HO_308007 := Aside0.mk (Kd.R_over' (by refine rD_ ?_; exact (Kd.R_mono (Kd.R_far (p := ⟨gb368, 4, none⟩) (Kd.R_types HO_308007.out BK368.out (by decide)) (fun _ hk => hk.2) (.int .i64 t372)) (fun _ h_ => h_.1))) (Kd.R_typed (by refine rD_ ?_; exact (Kd.R_mono (Kd.R_far (p := ⟨gb368, 4, none⟩) (Kd.R_mono HO_308009.out (fun k_ hk => (⟨hk, hk.2⟩ : _ ∧ k_ ≠ gb368))) (fun _ hk => hk.2) (.int .i64 t372)) (fun _ h_ => h_.1)))) (by decide) hg); replace BK293 := Aside0.mk (blk_grown (g := gb293) (o := .cells #[.int .i64 0, .int .i64 0, .int .i64 0, .slice none 0 0, .string (⟨#[]⟩ : ByteArray), .string (⟨#[]⟩ : ByteArray), .slice none 0 0, .slice none 0 0, .string (⟨#[]⟩ : ByteArray), .slice none 0 0, .int .i64 0, .int .i64 0] 34 (0, 0)) (by refine bD_ ?_; refine blk_far ?_ NB293_368.out _; refine bD_ ?_; exact BK293.out) hg (Kd.R_ne HO_308009.out BK293.out (by decide))); replace BK307 := Aside0.mk (blk_grown (g := gb307) (o := .cells #[.int .i64 t298, .int .i64 t301, .int .i64 t304, u308003, .string t317, .string t320, u308006, u308007, .string t353, u308009, .int .i64 0, .int .i64 0] 34 (0, 0)) (by refine bD_ ?_; refine blk_far ?_ NB307_368.out _; refine bD_ ?_; exact BK307.out) hg (Kd.R_ne HO_308009.out BK307.out (by decide))); replace HI297 := Aside0.mk (IsS85.grown (show IsS85 w _ g297 t294 t373 t374 from by repeat (first | (with_reducible first | exact HI297.out | apply IsS85.alloc | apply IsS85.drewN | apply IsS85.drew | apply IsS85.set_1 | apply IsS85.set_2 | refine IsS85.far ?_ NB297_293.out _ | refine IsS85.far ?_ NB297_307.out _ | refine IsS85.far ?_ NB297_368.out _) | exact HI297.out)) hg (IsS85.own_ne HI297.out HO_308009.out (by decide))); replace BK368 := Aside0.mk (blk_grown (g := gb368) (o := .cells #[.int .i64 t359, .int .i64 t362, .int .i64 t365, .string t369, .int .i64 t372] 67 (0, 0)) (by refine bD_ ?_; refine blk_put (cs := #[.int .i64 t359, .int .i64 t362, .int .i64 t365, .string t369, .int .i64 0]) ?_ 4 _ rfl; refine bD_ ?_; exact BK368.out) hg (Kd.R_away HO_308009.out (fun _ hk => hk.2))); replace HB := Aside0.mk (hb); have HO377 := Aside0.mk (ho); clear HO_308009; clear ho hb hg hat; obtain ⟨Ao102, co102, eo102⟩ := Kd.R_slice HO377.out; subst eo102; obtain ⟨hcz103_0, hcz103_1, hcz103_2, hcz103_3, hcz103_4, hcz103_5, hcz103_6, hcz103_7, hcz103_8, hcz103_9, hcz103_10, hcz103_11⟩ := bc12_ BK307.out; obtain ⟨hfz103_0, hfz103_1, hfz103_2, hfz103_3, hfz103_4, hfz103_5, hfz103_6, hfz103_7, hfz103_8, hfz103_9, hfz103_10, hfz103_11⟩ := bf12_ BK307.out))
      go_roundg k4
      case measure => have := HK1.out; have := HK2.out; have := HK3.out; have := HK4.out; omega
      case rel => exact ⟨(wrap64 (x87_4 + 1)), (t373), (t374), (y375), (.slice Ao102 y375.length co102), m39_, H', ⟨by have := HK1.out; have := HK2.out; have := HK3.out; have := HK4.out; omega⟩, ⟨by refine rD_ ?_; exact Kd.R_mono (Kd.R_far (p := ⟨gb307, 9, none⟩) (Kd.R_types HO_308003.out BK307.out (by decide)) (fun _ hk => hk.2) (.slice Ao102 y375.length co102)) (fun _ hk => trivial)⟩, ⟨by refine rD_ ?_; exact Kd.R_mono (Kd.R_far (p := ⟨gb307, 9, none⟩) (Kd.R_types HO_308006.out BK307.out (by decide)) (fun _ hk => hk.2) (.slice Ao102 y375.length co102)) (fun _ hk => trivial)⟩, ⟨by refine rD_ ?_; exact Kd.R_mono (Kd.R_far (p := ⟨gb307, 9, none⟩) (Kd.R_types HO_308007.out BK307.out (by decide)) (fun _ hk => hk.2) (.slice Ao102 y375.length co102)) (fun _ hk => trivial)⟩, ⟨by refine rD_ ?_; exact Kd.R_mono (Kd.R_far (p := ⟨gb307, 9, none⟩) (Kd.R_types HO377.out BK307.out (by decide)) (fun _ hk => hk.2) (.slice Ao102 y375.length co102)) (fun _ hk => trivial)⟩, ⟨by refine bD_ ?_; refine blk_far ?_ NB293_307.out _; refine bD_ ?_; exact BK293.out⟩, ⟨by refine bD_ ?_; refine blk_put (cs := #[.int .i64 t298, .int .i64 t301, .int .i64 t304, u308003, .string t317, .string t320, u308006, u308007, .string t353, u308009, .int .i64 0, .int .i64 0]) ?_ 9 _ rfl; refine bD_ ?_; exact BK307.out⟩, ⟨m40_⟩, ⟨by repeat (first | (with_reducible first | exact HB.out | apply below_alloc | apply pw_below_drewN | apply below_drew1 | refine below_set ?_ (IsS85.ge HI297.out) | refine below_set ?_ GE293.out | refine below_set ?_ GE307.out | refine below_set ?_ GE368.out) | exact HB.out)⟩⟩
     rw [if_neg c79] at H
     have c79b0 : decide (x87_4 < t356) = false := decide_eq_false c79
     clear c79
     replace H := Option.bind_eq_some_iff.mp H
     obtain ⟨⟨t378, t379, t380⟩, A1040, H⟩ := H
     try dsimp only at H
     have A104 := Aside0.mk A1040
     clear A1040
     replace H := Option.bind_eq_some_iff.mp H
     obtain ⟨⟨t381, t382, t383⟩, A1050, H⟩ := H
     try dsimp only at H
     have A105 := Aside0.mk A1050
     clear A1050
     have HC106 := Aside0.mk H
     clear H
     go_upto_region 29 with (first | ((with_reducible refine gate_callee (f := 40) rfl ?_); refine goesL_ (some 110) rfl rfl Tryd.func40 (by kernel_rfl) rfl #[.pointer (some ⟨g297, 0, none⟩)] rfl m14_ ?_; (with_reducible refine (frame_reader_number.calls k4 g297 t294 x298001_4 x298002_4 t378 t379 t380 w _ ?side1 ?side2 A104.out).mono ?_); (case side1 => repeat (first | (with_reducible first | exact HI297.out | apply IsS85.alloc | apply IsS85.drewN | apply IsS85.drew | apply IsS85.set_1 | apply IsS85.set_2 | refine IsS85.far ?_ NB297_293.out _ | refine IsS85.far ?_ NB297_307.out _) | exact HI297.out)); (case side2 => repeat (first | (with_reducible first | exact HB.out | apply below_alloc | apply pw_below_drewN | apply below_drew1 | refine below_set ?_ (IsS85.ge HI297.out) | refine below_set ?_ GE293.out | refine below_set ?_ GE307.out) | exact HB.out)); rintro e w107 ⟨rfl, hi, hb, hk⟩; refine ⟨_, rfl, ?_⟩; replace HO_308003 := Aside0.mk (Kd.R_mono (Kd.R_keep (IsS85.apart (show IsS85 w _ g297 t294 x298001_4 x298002_4 from m41_) m25_ (by decide)) hk (fun _ h => h.2)) (fun _ h => h.1)); replace HO_308006 := Aside0.mk (Kd.R_mono (Kd.R_keep (IsS85.apart (show IsS85 w _ g297 t294 x298001_4 x298002_4 from m41_) m26_ (by decide)) hk (fun _ h => h.2)) (fun _ h => h.1)); replace HO_308007 := Aside0.mk (Kd.R_mono (Kd.R_keep (IsS85.apart (show IsS85 w _ g297 t294 x298001_4 x298002_4 from m41_) m27_ (by decide)) hk (fun _ h => h.2)) (fun _ h => h.1)); replace HO_308009 := Aside0.mk (Kd.R_mono (Kd.R_keep (IsS85.apart (show IsS85 w _ g297 t294 x298001_4 x298002_4 from m41_) m28_ (by decide)) hk (fun _ h => h.2)) (fun _ h => h.1)); replace BK293 := Aside0.mk (KeepBut.blk hk (g' := gb293) (o := .cells #[.int .i64 0, .int .i64 0, .int .i64 0, .slice none 0 0, .string (⟨#[]⟩ : ByteArray), .string (⟨#[]⟩ : ByteArray), .slice none 0 0, .slice none 0 0, .string (⟨#[]⟩ : ByteArray), .slice none 0 0, .int .i64 0, .int .i64 0] 34 (0, 0)) m17_ NB293_297.out (by simp)); replace BK307 := Aside0.mk (KeepBut.blk hk (g' := gb307) (o := .cells #[.int .i64 t298, .int .i64 t301, .int .i64 t304, u308003, .string t317, .string t320, u308006, u308007, .string t353, u308009, .int .i64 0, .int .i64 0] 34 (0, 0)) m18_ NB307_297.out (by simp)); replace HI297 := Aside0.mk (hi); replace HB := Aside0.mk (hb); (try clear hb hk hi)) | ((with_reducible refine gate_callee (f := 40) rfl ?_); refine goesL_ (some 112) rfl rfl Tryd.func40 (by kernel_rfl) rfl #[.pointer (some ⟨g297, 0, none⟩)] rfl m14_ ?_; (with_reducible refine (frame_reader_number.calls k4 g297 t294 t379 t380 t381 t382 t383 w _ ?side1 ?side2 A105.out).mono ?_); (case side1 => repeat (first | (with_reducible first | exact HI297.out | apply IsS85.alloc | apply IsS85.drewN | apply IsS85.drew | apply IsS85.set_1 | apply IsS85.set_2 | refine IsS85.far ?_ NB297_293.out _ | refine IsS85.far ?_ NB297_307.out _) | exact HI297.out)); (case side2 => repeat (first | (with_reducible first | exact HB.out | apply below_alloc | apply pw_below_drewN | apply below_drew1 | refine below_set ?_ (IsS85.ge HI297.out) | refine below_set ?_ GE293.out | refine below_set ?_ GE307.out) | exact HB.out)); rintro e w108 ⟨rfl, hi, hb, hk⟩; refine ⟨_, rfl, ?_⟩; replace HO_308003 := Aside0.mk (Kd.R_mono (Kd.R_keep (IsS85.apart (show IsS85 w _ g297 t294 t379 t380 from m41_) m25_ (by decide)) hk (fun _ h => h.2)) (fun _ h => h.1)); replace HO_308006 := Aside0.mk (Kd.R_mono (Kd.R_keep (IsS85.apart (show IsS85 w _ g297 t294 t379 t380 from m41_) m26_ (by decide)) hk (fun _ h => h.2)) (fun _ h => h.1)); replace HO_308007 := Aside0.mk (Kd.R_mono (Kd.R_keep (IsS85.apart (show IsS85 w _ g297 t294 t379 t380 from m41_) m27_ (by decide)) hk (fun _ h => h.2)) (fun _ h => h.1)); replace HO_308009 := Aside0.mk (Kd.R_mono (Kd.R_keep (IsS85.apart (show IsS85 w _ g297 t294 t379 t380 from m41_) m28_ (by decide)) hk (fun _ h => h.2)) (fun _ h => h.1)); replace BK293 := Aside0.mk (KeepBut.blk hk (g' := gb293) (o := .cells #[.int .i64 0, .int .i64 0, .int .i64 0, .slice none 0 0, .string (⟨#[]⟩ : ByteArray), .string (⟨#[]⟩ : ByteArray), .slice none 0 0, .slice none 0 0, .string (⟨#[]⟩ : ByteArray), .slice none 0 0, .int .i64 0, .int .i64 0] 34 (0, 0)) m17_ NB293_297.out (by simp)); replace BK307 := Aside0.mk (KeepBut.blk hk (g' := gb307) (o := .cells #[.int .i64 t298, .int .i64 t301, .int .i64 t304, u308003, .string t317, .string t320, u308006, u308007, .string t353, u308009, .int .i64 0, .int .i64 0] 34 (0, 0)) m18_ NB307_297.out (by simp)); replace HI297 := Aside0.mk (hi); replace HB := Aside0.mk (hb); (try clear hb hk hi); have hnb109 := NB307_293.out; have hnc109 := NB293_307.out; have hnb110 := NB307_297.out; have hnc110 := NB297_307.out; obtain ⟨hcz111_0, hcz111_1, hcz111_2, hcz111_3, hcz111_4, hcz111_5, hcz111_6, hcz111_7, hcz111_8, hcz111_9, hcz111_10, hcz111_11⟩ := bc12_ BK307.out; obtain ⟨hfz111_0, hfz111_1, hfz111_2, hfz111_3, hfz111_4, hfz111_5, hfz111_6, hfz111_7, hfz111_8, hfz111_9, hfz111_10, hfz111_11⟩ := bf12_ BK307.out))
     (try simp only [Act.put, List.setIfInBounds_toArray, List.set_cons_zero, List.set_cons_succ])
     go_cut [132] (fun v132 wc => ∃ (kq : Nat) (x132_105 : Bool), v132 = .bool x132_105 ∧ Aside0 (frame_ReadReply.j4 kq x132_105 t298 t301 t304 x308003_1 t317 t320 x308006_2 x308007_3 t353 x308009_4 t378 t381 = some (r1, r2, r3, r4, r5, r6, r7, r8, r9, r10, r11, r12, r13)) ∧ Aside0 (kq ≤ k4) ∧ Aside0 (Kd.R Kd.string 9 wc w.heap.size (fun _ => True) u308003 x308003_1) ∧ Aside0 (Kd.R k65 65 wc w.heap.size (fun _ => True) u308006 x308006_2) ∧ Aside0 (Kd.R k74 74 wc w.heap.size (fun _ => True) u308007 x308007_3) ∧ Aside0 (Kd.R k67 67 wc w.heap.size (fun _ => True) u308009 x308009_4) ∧ Aside0 (wc.heap[gb293]? = some (.cells #[.int .i64 0, .int .i64 0, .int .i64 0, (.slice none 0 0), .string (⟨#[]⟩ : ByteArray), .string (⟨#[]⟩ : ByteArray), (.slice none 0 0), (.slice none 0 0), .string (⟨#[]⟩ : ByteArray), (.slice none 0 0), .int .i64 0, .int .i64 0] 34 (0, 0))) ∧ Aside0 (wc.heap[gb307]? = some (.cells #[.int .i64 t298, .int .i64 t301, .int .i64 t304, u308003, .string t317, .string t320, u308006, u308007, .string t353, u308009, .int .i64 t378, .int .i64 t381] 34 (0, 0))) ∧ Aside0 (Below w.heap.size w wc))
     case first =>
      have H := HC106.out
      clear HC106
      by_cases c112 : t383 = true
      ·subst c112
       rw [if_pos rfl] at H
       have H' := Aside0.mk H
       clear H
       obtain ⟨ASz113_0, cSz113_0, HGz113, hgz113, HSz113_0⟩ := HI297.out
       have hcz113_0 := cellS85_0 HGz113
       have hcz113_1 := cellS85_1 HGz113
       have hcz113_2 := cellS85_2 HGz113
       have hfz113_1 := blk_frozen HGz113 1
       have hfz113_2 := blk_frozen HGz113 2
       clear HGz113 hgz113
       go_wp2
       go_meet
       case rel => exact ⟨_, (true), m39_, H', ⟨by have := HK1.out; have := HK2.out; have := HK3.out; have := HK4.out; first | omega | exact Nat.le_refl _⟩, ⟨by refine rD_ ?_; exact Kd.R_mono (Kd.R_far (p := ⟨gb307, 11, none⟩) (Kd.R_far (p := ⟨gb307, 10, none⟩) (Kd.R_types HO_308003.out BK307.out (by decide)) (fun _ hk => hk.2) (.int .i64 t378)) (fun _ hk => hk.2) (.int .i64 t381)) (fun _ hk => trivial)⟩, ⟨by refine rD_ ?_; exact Kd.R_mono (Kd.R_far (p := ⟨gb307, 11, none⟩) (Kd.R_far (p := ⟨gb307, 10, none⟩) (Kd.R_types HO_308006.out BK307.out (by decide)) (fun _ hk => hk.2) (.int .i64 t378)) (fun _ hk => hk.2) (.int .i64 t381)) (fun _ hk => trivial)⟩, ⟨by refine rD_ ?_; exact Kd.R_mono (Kd.R_far (p := ⟨gb307, 11, none⟩) (Kd.R_far (p := ⟨gb307, 10, none⟩) (Kd.R_types HO_308007.out BK307.out (by decide)) (fun _ hk => hk.2) (.int .i64 t378)) (fun _ hk => hk.2) (.int .i64 t381)) (fun _ hk => trivial)⟩, ⟨by refine rD_ ?_; exact Kd.R_mono (Kd.R_far (p := ⟨gb307, 11, none⟩) (Kd.R_far (p := ⟨gb307, 10, none⟩) (Kd.R_types HO_308009.out BK307.out (by decide)) (fun _ hk => hk.2) (.int .i64 t378)) (fun _ hk => hk.2) (.int .i64 t381)) (fun _ hk => trivial)⟩, ⟨by refine bD_ ?_; refine blk_far ?_ NB293_307.out _; refine bD_ ?_; refine blk_far ?_ NB293_307.out _; refine bD_ ?_; exact BK293.out⟩, ⟨by refine bD_ ?_; refine blk_put (cs := #[.int .i64 t298, .int .i64 t301, .int .i64 t304, u308003, .string t317, .string t320, u308006, u308007, .string t353, u308009, .int .i64 t378, .int .i64 0]) ?_ 11 _ rfl; refine bD_ ?_; refine blk_put (cs := #[.int .i64 t298, .int .i64 t301, .int .i64 t304, u308003, .string t317, .string t320, u308006, u308007, .string t353, u308009, .int .i64 0, .int .i64 0]) ?_ 10 _ rfl; refine bD_ ?_; exact BK307.out⟩, ⟨m42_⟩⟩
      replace c112 := Bool.eq_false_iff.mpr c112
      subst c112
      rw [if_neg Bool.false_ne_true] at H
      by_cases c114 : t382 = (l0.length : Int)
      case neg =>
       rw [if_neg c114] at H
       have c114b0 : (t382 == (l0.length : Int)) = false := beq_eq_false_iff_ne.mpr c114
       have c114b1 : (t382 != (l0.length : Int)) = true := bne_iff_ne.mpr c114
       (first | rw [c114b0] | (simp only [i64_w, i32_w]; rw [c114b0]) | skip)
       have H' := Aside0.mk H
       clear H
       obtain ⟨ASz125_0, cSz125_0, HGz125, hgz125, HSz125_0⟩ := HI297.out
       have hcz125_0 := cellS85_0 HGz125
       have hcz125_1 := cellS85_1 HGz125
       have hcz125_2 := cellS85_2 HGz125
       have hfz125_1 := blk_frozen HGz125 1
       have hfz125_2 := blk_frozen HGz125 2
       clear HGz125 hgz125
       go_wp2
       go_meet
       case rel => exact ⟨_, (true), m39_, H', ⟨by have := HK1.out; have := HK2.out; have := HK3.out; have := HK4.out; first | omega | exact Nat.le_refl _⟩, ⟨by refine rD_ ?_; exact Kd.R_mono (Kd.R_far (p := ⟨gb307, 11, none⟩) (Kd.R_far (p := ⟨gb307, 10, none⟩) (Kd.R_types HO_308003.out BK307.out (by decide)) (fun _ hk => hk.2) (.int .i64 t378)) (fun _ hk => hk.2) (.int .i64 t381)) (fun _ hk => trivial)⟩, ⟨by refine rD_ ?_; exact Kd.R_mono (Kd.R_far (p := ⟨gb307, 11, none⟩) (Kd.R_far (p := ⟨gb307, 10, none⟩) (Kd.R_types HO_308006.out BK307.out (by decide)) (fun _ hk => hk.2) (.int .i64 t378)) (fun _ hk => hk.2) (.int .i64 t381)) (fun _ hk => trivial)⟩, ⟨by refine rD_ ?_; exact Kd.R_mono (Kd.R_far (p := ⟨gb307, 11, none⟩) (Kd.R_far (p := ⟨gb307, 10, none⟩) (Kd.R_types HO_308007.out BK307.out (by decide)) (fun _ hk => hk.2) (.int .i64 t378)) (fun _ hk => hk.2) (.int .i64 t381)) (fun _ hk => trivial)⟩, ⟨by refine rD_ ?_; exact Kd.R_mono (Kd.R_far (p := ⟨gb307, 11, none⟩) (Kd.R_far (p := ⟨gb307, 10, none⟩) (Kd.R_types HO_308009.out BK307.out (by decide)) (fun _ hk => hk.2) (.int .i64 t378)) (fun _ hk => hk.2) (.int .i64 t381)) (fun _ hk => trivial)⟩, ⟨by refine bD_ ?_; refine blk_far ?_ NB293_307.out _; refine bD_ ?_; refine blk_far ?_ NB293_307.out _; refine bD_ ?_; exact BK293.out⟩, ⟨by refine bD_ ?_; refine blk_put (cs := #[.int .i64 t298, .int .i64 t301, .int .i64 t304, u308003, .string t317, .string t320, u308006, u308007, .string t353, u308009, .int .i64 t378, .int .i64 0]) ?_ 11 _ rfl; refine bD_ ?_; refine blk_put (cs := #[.int .i64 t298, .int .i64 t301, .int .i64 t304, u308003, .string t317, .string t320, u308006, u308007, .string t353, u308009, .int .i64 0, .int .i64 0]) ?_ 10 _ rfl; refine bD_ ?_; exact BK307.out⟩, ⟨m42_⟩⟩
      rw [if_pos c114] at H
      have c114b0 : (t382 == (l0.length : Int)) = true := beq_iff_eq.mpr c114
      have c114b1 : (t382 != (l0.length : Int)) = false := bne_eq_false_iff_eq.mpr c114
      clear c114
      (first | rw [c114b0] | (simp only [i64_w, i32_w]; rw [c114b0]) | skip)
      replace H := Option.bind_eq_some_iff.mp H
      obtain ⟨t384, A1150, H⟩ := H
      try dsimp only at H
      have A115 := Aside0.mk A1150
      clear A1150
      have H' := Aside0.mk H
      clear H
      obtain ⟨ASz116_0, cSz116_0, HGz116, hgz116, HSz116_0⟩ := HI297.out
      have hcz116_0 := cellS85_0 HGz116
      have hcz116_1 := cellS85_1 HGz116
      have hcz116_2 := cellS85_2 HGz116
      have hfz116_1 := blk_frozen HGz116 1
      have hfz116_2 := blk_frozen HGz116 2
      clear HGz116 hgz116
      have hnb117 := NB307_293.out
      have hnc117 := NB293_307.out
      have hnb118 := NB307_297.out
      have hnc118 := NB297_307.out
      obtain ⟨hcz119_0, hcz119_1, hcz119_2, hcz119_3, hcz119_4, hcz119_5, hcz119_6, hcz119_7, hcz119_8, hcz119_9, hcz119_10, hcz119_11⟩ := bc12_ BK307.out
      obtain ⟨hfz119_0, hfz119_1, hfz119_2, hfz119_3, hfz119_4, hfz119_5, hfz119_6, hfz119_7, hfz119_8, hfz119_9, hfz119_10, hfz119_11⟩ := bf12_ BK307.out
      obtain ⟨Ao120, co120, eo120⟩ := Kd.R_slice HO_308003.out
      subst eo120
      obtain ⟨Ao121, co121, eo121⟩ := Kd.R_slice HO_308006.out
      subst eo121
      obtain ⟨Ao122, co122, eo122⟩ := Kd.R_slice HO_308007.out
      subst eo122
      obtain ⟨Ao123, co123, eo123⟩ := Kd.R_slice HO_308009.out
      subst eo123
      go_wp2_with (first | (go_at_call 15; (with_reducible refine (frame_Fits.calls k4 t298 t301 t304 _ _ x308003_1 t317 t320 _ _ x308006_2 _ _ x308007_3 t353 _ _ x308009_4 t378 t381 t384 _ ?side1 ?side2 ?side3 ?side4 ?side5 ?side6 ?side7 ?side8 A115.out).mono ?_); (case side1 => refine (Kd.R_reads' (e := 9) (base := w.heap.size) (ok := fun k_ => True) (n := x308003_1.length) (c := co120) ?_).2.2; exact (by refine rD_ ?_; exact (Kd.R_mono (Kd.R_far (p := ⟨gb307, 11, none⟩) (Kd.R_far (p := ⟨gb307, 10, none⟩) (Kd.R_types HO_308003.out BK307.out (by decide)) (fun _ hk => hk.2) (.int .i64 t378)) (fun _ hk => hk.2) (.int .i64 t381)) (fun _ h_ => h_.1)))); (case side2 => exact (Kd.R_reads' HO_308003.out).2.1); (case side3 => refine (Kd.R_reads' (e := 65) (base := w.heap.size) (ok := fun k_ => True) (n := x308006_2.length) (c := co121) ?_).2.2; exact (by refine rD_ ?_; exact (Kd.R_mono (Kd.R_far (p := ⟨gb307, 11, none⟩) (Kd.R_far (p := ⟨gb307, 10, none⟩) (Kd.R_types HO_308006.out BK307.out (by decide)) (fun _ hk => hk.2) (.int .i64 t378)) (fun _ hk => hk.2) (.int .i64 t381)) (fun _ h_ => h_.1)))); (case side4 => exact (Kd.R_reads' HO_308006.out).2.1); (case side5 => refine (Kd.R_reads' (e := 74) (base := w.heap.size) (ok := fun k_ => True) (n := x308007_3.length) (c := co122) ?_).2.2; exact (by refine rD_ ?_; exact (Kd.R_mono (Kd.R_far (p := ⟨gb307, 11, none⟩) (Kd.R_far (p := ⟨gb307, 10, none⟩) (Kd.R_types HO_308007.out BK307.out (by decide)) (fun _ hk => hk.2) (.int .i64 t378)) (fun _ hk => hk.2) (.int .i64 t381)) (fun _ h_ => h_.1)))); (case side6 => exact (Kd.R_reads' HO_308007.out).2.1); (case side7 => refine (Kd.R_reads' (e := 67) (base := w.heap.size) (ok := fun k_ => True) (n := x308009_4.length) (c := co123) ?_).2.2; exact (by refine rD_ ?_; exact (Kd.R_mono (Kd.R_far (p := ⟨gb307, 11, none⟩) (Kd.R_far (p := ⟨gb307, 10, none⟩) (Kd.R_types HO_308009.out BK307.out (by decide)) (fun _ hk => hk.2) (.int .i64 t378)) (fun _ hk => hk.2) (.int .i64 t381)) (fun _ h_ => h_.1)))); (case side8 => exact (Kd.R_reads' HO_308009.out).2.1); rintro e w124 ⟨rfl, hb⟩; replace HO_308003 := Aside0.mk (Kd.R_below (by refine rD_ ?_; exact (Kd.R_mono (Kd.R_far (p := ⟨gb307, 11, none⟩) (Kd.R_far (p := ⟨gb307, 10, none⟩) (Kd.R_types HO_308003.out BK307.out (by decide)) (fun _ hk => hk.2) (.int .i64 t378)) (fun _ hk => hk.2) (.int .i64 t381)) (fun _ h_ => h_.1))) hb); replace HO_308006 := Aside0.mk (Kd.R_below (by refine rD_ ?_; exact (Kd.R_mono (Kd.R_far (p := ⟨gb307, 11, none⟩) (Kd.R_far (p := ⟨gb307, 10, none⟩) (Kd.R_types HO_308006.out BK307.out (by decide)) (fun _ hk => hk.2) (.int .i64 t378)) (fun _ hk => hk.2) (.int .i64 t381)) (fun _ h_ => h_.1))) hb); replace HO_308007 := Aside0.mk (Kd.R_below (by refine rD_ ?_; exact (Kd.R_mono (Kd.R_far (p := ⟨gb307, 11, none⟩) (Kd.R_far (p := ⟨gb307, 10, none⟩) (Kd.R_types HO_308007.out BK307.out (by decide)) (fun _ hk => hk.2) (.int .i64 t378)) (fun _ hk => hk.2) (.int .i64 t381)) (fun _ h_ => h_.1))) hb); replace HO_308009 := Aside0.mk (Kd.R_below (by refine rD_ ?_; exact (Kd.R_mono (Kd.R_far (p := ⟨gb307, 11, none⟩) (Kd.R_far (p := ⟨gb307, 10, none⟩) (Kd.R_types HO_308009.out BK307.out (by decide)) (fun _ hk => hk.2) (.int .i64 t378)) (fun _ hk => hk.2) (.int .i64 t381)) (fun _ h_ => h_.1))) hb); replace BK293 := Aside0.mk (blk_below (g := gb293) (o := .cells #[.int .i64 0, .int .i64 0, .int .i64 0, .slice none 0 0, .string (⟨#[]⟩ : ByteArray), .string (⟨#[]⟩ : ByteArray), .slice none 0 0, .slice none 0 0, .string (⟨#[]⟩ : ByteArray), .slice none 0 0, .int .i64 0, .int .i64 0] 34 (0, 0)) (by refine bD_ ?_; refine blk_far ?_ NB293_307.out _; refine bD_ ?_; refine blk_far ?_ NB293_307.out _; refine bD_ ?_; exact BK293.out) hb); replace BK307 := Aside0.mk (blk_below (g := gb307) (o := .cells #[.int .i64 t298, .int .i64 t301, .int .i64 t304, .slice Ao120 x308003_1.length co120, .string t317, .string t320, .slice Ao121 x308006_2.length co121, .slice Ao122 x308007_3.length co122, .string t353, .slice Ao123 x308009_4.length co123, .int .i64 t378, .int .i64 t381] 34 (0, 0)) (by refine bD_ ?_; refine blk_put (cs := #[.int .i64 t298, .int .i64 t301, .int .i64 t304, .slice Ao120 x308003_1.length co120, .string t317, .string t320, .slice Ao121 x308006_2.length co121, .slice Ao122 x308007_3.length co122, .string t353, .slice Ao123 x308009_4.length co123, .int .i64 t378, .int .i64 0]) ?_ 11 _ rfl; refine bD_ ?_; refine blk_put (cs := #[.int .i64 t298, .int .i64 t301, .int .i64 t304, .slice Ao120 x308003_1.length co120, .string t317, .string t320, .slice Ao121 x308006_2.length co121, .slice Ao122 x308007_3.length co122, .string t353, .slice Ao123 x308009_4.length co123, .int .i64 0, .int .i64 0]) ?_ 10 _ rfl; refine bD_ ?_; exact BK307.out) hb); replace HB := Aside0.mk (below_step m1_ hb); replace HI297 := Aside0.mk (IsS85.below (show IsS85 w ((w108.setCell ⟨gb307, 10, none⟩ (.int .i64 t378)).setCell ⟨gb307, 11, none⟩ (.int .i64 t381)) g297 t294 t382 false from m41_) hb); (try clear hb)))
      go_meet
      case rel => exact ⟨_, (!t384), m39_, H', ⟨by have := HK1.out; have := HK2.out; have := HK3.out; have := HK4.out; first | omega | exact Nat.le_refl _⟩, ⟨by refine rD_ ?_; exact HO_308003.out⟩, ⟨by refine rD_ ?_; exact HO_308006.out⟩, ⟨by refine rD_ ?_; exact HO_308007.out⟩, ⟨by refine rD_ ?_; exact HO_308009.out⟩, ⟨by refine bD_ ?_; exact BK293.out⟩, ⟨by refine bD_ ?_; exact BK307.out⟩, ⟨m42_⟩⟩
     clear HC106
     try clear c79b0; try clear hcz111_0; try clear hcz111_1; try clear hcz111_10; try clear hcz111_11; try clear hcz111_2; try clear hcz111_3; try clear hcz111_4; try clear hcz111_5; try clear hcz111_6; try clear hcz111_7; try clear hcz111_8; try clear hcz111_9; try clear hfz111_0; try clear hfz111_1; try clear hfz111_10; try clear hfz111_11; try clear hfz111_2; try clear hfz111_3; try clear hfz111_4; try clear hfz111_5; try clear hfz111_6; try clear hfz111_7; try clear hfz111_8; try clear hfz111_9
     obtain ⟨kq, x132_105, rfl, HA, HJ105, HO_308003, HO_308006, HO_308007, HO_308009, BK293, BK307, HB⟩ := hcut
     cases kq with
     | zero => exact absurd HA.out (by simp [frame_ReadReply.j4])
     | succ kj105 =>
      have H := HA.out
      clear HA
      simp only [frame_ReadReply.j4] at H
      by_cases c126 : x132_105 = true
      ·subst c126
       rw [if_pos rfl] at H
       simp only [Option.some.injEq, Prod.mk.injEq] at H
       obtain ⟨rfl, rfl, rfl, rfl, rfl, rfl, rfl, rfl, rfl, rfl, rfl, rfl, rfl⟩ := H
       have hnb127 := NB293_307.out
       have hnc127 := NB307_293.out
       obtain ⟨hcz128_0, hcz128_1, hcz128_2, hcz128_3, hcz128_4, hcz128_5, hcz128_6, hcz128_7, hcz128_8, hcz128_9, hcz128_10, hcz128_11⟩ := bc12_ BK293.out
       obtain ⟨hfz128_0, hfz128_1, hfz128_2, hfz128_3, hfz128_4, hfz128_5, hfz128_6, hfz128_7, hfz128_8, hfz128_9, hfz128_10, hfz128_11⟩ := bf12_ BK293.out
       go_wp2
       refine bodyPost_ret (results_ct rfl _ _ gb293 34 #[.int .i64 0, .int .i64 0, .int .i64 0, .slice none 0 0, .string (⟨#[]⟩ : ByteArray), .string (⟨#[]⟩ : ByteArray), .slice none 0 0, .slice none 0 0, .string (⟨#[]⟩ : ByteArray), .slice none 0 0, .int .i64 0, .int .i64 0] (0, 0) _ rfl (by refine bD_ ?_; refine blk_put (cs := #[.int .i64 0, .int .i64 0, .int .i64 0, .slice none 0 0, .string (⟨#[]⟩ : ByteArray), .string (⟨#[]⟩ : ByteArray), .slice none 0 0, .slice none 0 0, .string (⟨#[]⟩ : ByteArray), .slice none 0 0, .int .i64 0, .int .i64 0]) ?_ 11 _ rfl; refine bD_ ?_; refine blk_put (cs := #[.int .i64 0, .int .i64 0, .int .i64 0, .slice none 0 0, .string (⟨#[]⟩ : ByteArray), .string (⟨#[]⟩ : ByteArray), .slice none 0 0, .slice none 0 0, .string (⟨#[]⟩ : ByteArray), .slice none 0 0, .int .i64 0, .int .i64 0]) ?_ 10 _ rfl; refine bD_ ?_; refine blk_put (cs := #[.int .i64 0, .int .i64 0, .int .i64 0, .slice none 0 0, .string (⟨#[]⟩ : ByteArray), .string (⟨#[]⟩ : ByteArray), .slice none 0 0, .slice none 0 0, .string (⟨#[]⟩ : ByteArray), .slice none 0 0, .int .i64 0, .int .i64 0]) ?_ 9 _ rfl; refine bD_ ?_; refine blk_put (cs := #[.int .i64 0, .int .i64 0, .int .i64 0, .slice none 0 0, .string (⟨#[]⟩ : ByteArray), .string (⟨#[]⟩ : ByteArray), .slice none 0 0, .slice none 0 0, .string (⟨#[]⟩ : ByteArray), .slice none 0 0, .int .i64 0, .int .i64 0]) ?_ 8 _ rfl; refine bD_ ?_; refine blk_put (cs := #[.int .i64 0, .int .i64 0, .int .i64 0, .slice none 0 0, .string (⟨#[]⟩ : ByteArray), .string (⟨#[]⟩ : ByteArray), .slice none 0 0, .slice none 0 0, .string (⟨#[]⟩ : ByteArray), .slice none 0 0, .int .i64 0, .int .i64 0]) ?_ 7 _ rfl; refine bD_ ?_; refine blk_put (cs := #[.int .i64 0, .int .i64 0, .int .i64 0, .slice none 0 0, .string (⟨#[]⟩ : ByteArray), .string (⟨#[]⟩ : ByteArray), .slice none 0 0, .slice none 0 0, .string (⟨#[]⟩ : ByteArray), .slice none 0 0, .int .i64 0, .int .i64 0]) ?_ 6 _ rfl; refine bD_ ?_; refine blk_put (cs := #[.int .i64 0, .int .i64 0, .int .i64 0, .slice none 0 0, .string (⟨#[]⟩ : ByteArray), .string (⟨#[]⟩ : ByteArray), .slice none 0 0, .slice none 0 0, .string (⟨#[]⟩ : ByteArray), .slice none 0 0, .int .i64 0, .int .i64 0]) ?_ 5 _ rfl; refine bD_ ?_; refine blk_put (cs := #[.int .i64 0, .int .i64 0, .int .i64 0, .slice none 0 0, .string (⟨#[]⟩ : ByteArray), .string (⟨#[]⟩ : ByteArray), .slice none 0 0, .slice none 0 0, .string (⟨#[]⟩ : ByteArray), .slice none 0 0, .int .i64 0, .int .i64 0]) ?_ 4 _ rfl; refine bD_ ?_; refine blk_put (cs := #[.int .i64 0, .int .i64 0, .int .i64 0, .slice none 0 0, .string (⟨#[]⟩ : ByteArray), .string (⟨#[]⟩ : ByteArray), .slice none 0 0, .slice none 0 0, .string (⟨#[]⟩ : ByteArray), .slice none 0 0, .int .i64 0, .int .i64 0]) ?_ 3 _ rfl; refine bD_ ?_; refine blk_put (cs := #[.int .i64 0, .int .i64 0, .int .i64 0, .slice none 0 0, .string (⟨#[]⟩ : ByteArray), .string (⟨#[]⟩ : ByteArray), .slice none 0 0, .slice none 0 0, .string (⟨#[]⟩ : ByteArray), .slice none 0 0, .int .i64 0, .int .i64 0]) ?_ 2 _ rfl; refine bD_ ?_; refine blk_put (cs := #[.int .i64 0, .int .i64 0, .int .i64 0, .slice none 0 0, .string (⟨#[]⟩ : ByteArray), .string (⟨#[]⟩ : ByteArray), .slice none 0 0, .slice none 0 0, .string (⟨#[]⟩ : ByteArray), .slice none 0 0, .int .i64 0, .int .i64 0]) ?_ 1 _ rfl; refine bD_ ?_; refine blk_put (cs := #[.int .i64 0, .int .i64 0, .int .i64 0, .slice none 0 0, .string (⟨#[]⟩ : ByteArray), .string (⟨#[]⟩ : ByteArray), .slice none 0 0, .slice none 0 0, .string (⟨#[]⟩ : ByteArray), .slice none 0 0, .int .i64 0, .int .i64 0]) ?_ 0 _ rfl; refine bD_ ?_; exact BK293.out) Tryd.underlying34 rfl (by kernel_rfl)) rfl ?_
       exact ⟨_, _, _, _, by first | rfl | (simp [errW_none, errW_some] <;> rfl) | (simp [*, errW_none, errW_some] <;> rfl), by first | exact Kd.R_nil _ _ _ _ _ | exact Kd.N_nil _ _ _ _ _ | exact Kd.V_nil _ _ _ _ _ | exact Kd.Q_nil _ _ _ _ _ | exact Kd.S_nil _ _ _ _ _, by first | exact Kd.R_nil _ _ _ _ _ | exact Kd.N_nil _ _ _ _ _ | exact Kd.V_nil _ _ _ _ _ | exact Kd.Q_nil _ _ _ _ _ | exact Kd.S_nil _ _ _ _ _, by first | exact Kd.R_nil _ _ _ _ _ | exact Kd.N_nil _ _ _ _ _ | exact Kd.V_nil _ _ _ _ _ | exact Kd.Q_nil _ _ _ _ _ | exact Kd.S_nil _ _ _ _ _, by first | exact Kd.R_nil _ _ _ _ _ | exact Kd.N_nil _ _ _ _ _ | exact Kd.V_nil _ _ _ _ _ | exact Kd.Q_nil _ _ _ _ _ | exact Kd.S_nil _ _ _ _ _, by repeat (first | (with_reducible first | exact HB.out | apply below_alloc | apply pw_below_drewN | apply below_drew1 | refine below_set ?_ GE293.out | refine below_set ?_ GE307.out) | exact HB.out)⟩
      replace c126 := Bool.eq_false_iff.mpr c126
      subst c126
      rw [if_neg Bool.false_ne_true] at H
      simp only [Option.some.injEq, Prod.mk.injEq] at H
      obtain ⟨rfl, rfl, rfl, rfl, rfl, rfl, rfl, rfl, rfl, rfl, rfl, rfl, rfl⟩ := H
      have hnb129 := NB307_293.out
      have hnc129 := NB293_307.out
      obtain ⟨hcz130_0, hcz130_1, hcz130_2, hcz130_3, hcz130_4, hcz130_5, hcz130_6, hcz130_7, hcz130_8, hcz130_9, hcz130_10, hcz130_11⟩ := bc12_ BK307.out
      obtain ⟨hfz130_0, hfz130_1, hfz130_2, hfz130_3, hfz130_4, hfz130_5, hfz130_6, hfz130_7, hfz130_8, hfz130_9, hfz130_10, hfz130_11⟩ := bf12_ BK307.out
      obtain ⟨hcz131_0, hcz131_1, hcz131_2, hcz131_3, hcz131_4, hcz131_5, hcz131_6, hcz131_7, hcz131_8, hcz131_9, hcz131_10, hcz131_11⟩ := bc12_ BK293.out
      obtain ⟨hfz131_0, hfz131_1, hfz131_2, hfz131_3, hfz131_4, hfz131_5, hfz131_6, hfz131_7, hfz131_8, hfz131_9, hfz131_10, hfz131_11⟩ := bf12_ BK293.out
      obtain ⟨Ao132, co132, eo132⟩ := Kd.R_slice HO_308003.out
      subst eo132
      obtain ⟨Ao133, co133, eo133⟩ := Kd.R_slice HO_308006.out
      subst eo133
      obtain ⟨Ao134, co134, eo134⟩ := Kd.R_slice HO_308007.out
      subst eo134
      obtain ⟨Ao135, co135, eo135⟩ := Kd.R_slice HO_308009.out
      subst eo135
      go_wp2
      refine bodyPost_ret (results_ct rfl _ _ gb293 34 #[.int .i64 t298, .int .i64 t301, .int .i64 t304, .slice Ao132 x308003_1.length co132, .string t317, .string t320, .slice Ao133 x308006_2.length co133, .slice Ao134 x308007_3.length co134, .string t353, .slice Ao135 x308009_4.length co135, .int .i64 t378, .int .i64 t381] (0, 0) _ rfl (by refine bD_ ?_; refine blk_put (cs := #[.int .i64 t298, .int .i64 t301, .int .i64 t304, .slice Ao132 x308003_1.length co132, .string t317, .string t320, .slice Ao133 x308006_2.length co133, .slice Ao134 x308007_3.length co134, .string t353, .slice Ao135 x308009_4.length co135, .int .i64 t378, .int .i64 0]) ?_ 11 _ rfl; refine bD_ ?_; refine blk_put (cs := #[.int .i64 t298, .int .i64 t301, .int .i64 t304, .slice Ao132 x308003_1.length co132, .string t317, .string t320, .slice Ao133 x308006_2.length co133, .slice Ao134 x308007_3.length co134, .string t353, .slice Ao135 x308009_4.length co135, .int .i64 0, .int .i64 0]) ?_ 10 _ rfl; refine bD_ ?_; refine blk_put (cs := #[.int .i64 t298, .int .i64 t301, .int .i64 t304, .slice Ao132 x308003_1.length co132, .string t317, .string t320, .slice Ao133 x308006_2.length co133, .slice Ao134 x308007_3.length co134, .string t353, .slice none 0 0, .int .i64 0, .int .i64 0]) ?_ 9 _ rfl; refine bD_ ?_; refine blk_put (cs := #[.int .i64 t298, .int .i64 t301, .int .i64 t304, .slice Ao132 x308003_1.length co132, .string t317, .string t320, .slice Ao133 x308006_2.length co133, .slice Ao134 x308007_3.length co134, .string (⟨#[]⟩ : ByteArray), .slice none 0 0, .int .i64 0, .int .i64 0]) ?_ 8 _ rfl; refine bD_ ?_; refine blk_put (cs := #[.int .i64 t298, .int .i64 t301, .int .i64 t304, .slice Ao132 x308003_1.length co132, .string t317, .string t320, .slice Ao133 x308006_2.length co133, .slice none 0 0, .string (⟨#[]⟩ : ByteArray), .slice none 0 0, .int .i64 0, .int .i64 0]) ?_ 7 _ rfl; refine bD_ ?_; refine blk_put (cs := #[.int .i64 t298, .int .i64 t301, .int .i64 t304, .slice Ao132 x308003_1.length co132, .string t317, .string t320, .slice none 0 0, .slice none 0 0, .string (⟨#[]⟩ : ByteArray), .slice none 0 0, .int .i64 0, .int .i64 0]) ?_ 6 _ rfl; refine bD_ ?_; refine blk_put (cs := #[.int .i64 t298, .int .i64 t301, .int .i64 t304, .slice Ao132 x308003_1.length co132, .string t317, .string (⟨#[]⟩ : ByteArray), .slice none 0 0, .slice none 0 0, .string (⟨#[]⟩ : ByteArray), .slice none 0 0, .int .i64 0, .int .i64 0]) ?_ 5 _ rfl; refine bD_ ?_; refine blk_put (cs := #[.int .i64 t298, .int .i64 t301, .int .i64 t304, .slice Ao132 x308003_1.length co132, .string (⟨#[]⟩ : ByteArray), .string (⟨#[]⟩ : ByteArray), .slice none 0 0, .slice none 0 0, .string (⟨#[]⟩ : ByteArray), .slice none 0 0, .int .i64 0, .int .i64 0]) ?_ 4 _ rfl; refine bD_ ?_; refine blk_put (cs := #[.int .i64 t298, .int .i64 t301, .int .i64 t304, .slice none 0 0, .string (⟨#[]⟩ : ByteArray), .string (⟨#[]⟩ : ByteArray), .slice none 0 0, .slice none 0 0, .string (⟨#[]⟩ : ByteArray), .slice none 0 0, .int .i64 0, .int .i64 0]) ?_ 3 _ rfl; refine bD_ ?_; refine blk_put (cs := #[.int .i64 t298, .int .i64 t301, .int .i64 0, .slice none 0 0, .string (⟨#[]⟩ : ByteArray), .string (⟨#[]⟩ : ByteArray), .slice none 0 0, .slice none 0 0, .string (⟨#[]⟩ : ByteArray), .slice none 0 0, .int .i64 0, .int .i64 0]) ?_ 2 _ rfl; refine bD_ ?_; refine blk_put (cs := #[.int .i64 t298, .int .i64 0, .int .i64 0, .slice none 0 0, .string (⟨#[]⟩ : ByteArray), .string (⟨#[]⟩ : ByteArray), .slice none 0 0, .slice none 0 0, .string (⟨#[]⟩ : ByteArray), .slice none 0 0, .int .i64 0, .int .i64 0]) ?_ 1 _ rfl; refine bD_ ?_; refine blk_put (cs := #[.int .i64 0, .int .i64 0, .int .i64 0, .slice none 0 0, .string (⟨#[]⟩ : ByteArray), .string (⟨#[]⟩ : ByteArray), .slice none 0 0, .slice none 0 0, .string (⟨#[]⟩ : ByteArray), .slice none 0 0, .int .i64 0, .int .i64 0]) ?_ 0 _ rfl; refine bD_ ?_; exact BK293.out) Tryd.underlying34 rfl (by kernel_rfl)) rfl ?_
      exact ⟨_, _, _, _, by first | rfl | (simp [errW_none, errW_some] <;> rfl) | (simp [*, errW_none, errW_some] <;> rfl), by refine rD_ ?_; exact Kd.R_mono (Kd.R_far (p := ⟨gb293, 11, none⟩) (Kd.R_far (p := ⟨gb293, 10, none⟩) (Kd.R_far (p := ⟨gb293, 9, none⟩) (Kd.R_far (p := ⟨gb293, 8, none⟩) (Kd.R_far (p := ⟨gb293, 7, none⟩) (Kd.R_far (p := ⟨gb293, 6, none⟩) (Kd.R_far (p := ⟨gb293, 5, none⟩) (Kd.R_far (p := ⟨gb293, 4, none⟩) (Kd.R_far (p := ⟨gb293, 3, none⟩) (Kd.R_far (p := ⟨gb293, 2, none⟩) (Kd.R_far (p := ⟨gb293, 1, none⟩) (Kd.R_far (p := ⟨gb293, 0, none⟩) (Kd.R_types HO_308003.out BK293.out (by decide)) (fun _ hk => hk.2) (.int .i64 t298)) (fun _ hk => hk.2) (.int .i64 t301)) (fun _ hk => hk.2) (.int .i64 t304)) (fun _ hk => hk.2) (.slice Ao132 x308003_1.length co132)) (fun _ hk => hk.2) (.string t317)) (fun _ hk => hk.2) (.string t320)) (fun _ hk => hk.2) (.slice Ao133 x308006_2.length co133)) (fun _ hk => hk.2) (.slice Ao134 x308007_3.length co134)) (fun _ hk => hk.2) (.string t353)) (fun _ hk => hk.2) (.slice Ao135 x308009_4.length co135)) (fun _ hk => hk.2) (.int .i64 t378)) (fun _ hk => hk.2) (.int .i64 t381)) (fun _ hk => trivial), by refine rD_ ?_; exact Kd.R_mono (Kd.R_far (p := ⟨gb293, 11, none⟩) (Kd.R_far (p := ⟨gb293, 10, none⟩) (Kd.R_far (p := ⟨gb293, 9, none⟩) (Kd.R_far (p := ⟨gb293, 8, none⟩) (Kd.R_far (p := ⟨gb293, 7, none⟩) (Kd.R_far (p := ⟨gb293, 6, none⟩) (Kd.R_far (p := ⟨gb293, 5, none⟩) (Kd.R_far (p := ⟨gb293, 4, none⟩) (Kd.R_far (p := ⟨gb293, 3, none⟩) (Kd.R_far (p := ⟨gb293, 2, none⟩) (Kd.R_far (p := ⟨gb293, 1, none⟩) (Kd.R_far (p := ⟨gb293, 0, none⟩) (Kd.R_types HO_308006.out BK293.out (by decide)) (fun _ hk => hk.2) (.int .i64 t298)) (fun _ hk => hk.2) (.int .i64 t301)) (fun _ hk => hk.2) (.int .i64 t304)) (fun _ hk => hk.2) (.slice Ao132 x308003_1.length co132)) (fun _ hk => hk.2) (.string t317)) (fun _ hk => hk.2) (.string t320)) (fun _ hk => hk.2) (.slice Ao133 x308006_2.length co133)) (fun _ hk => hk.2) (.slice Ao134 x308007_3.length co134)) (fun _ hk => hk.2) (.string t353)) (fun _ hk => hk.2) (.slice Ao135 x308009_4.length co135)) (fun _ hk => hk.2) (.int .i64 t378)) (fun _ hk => hk.2) (.int .i64 t381)) (fun _ hk => trivial), by refine rD_ ?_; exact Kd.R_mono (Kd.R_far (p := ⟨gb293, 11, none⟩) (Kd.R_far (p := ⟨gb293, 10, none⟩) (Kd.R_far (p := ⟨gb293, 9, none⟩) (Kd.R_far (p := ⟨gb293, 8, none⟩) (Kd.R_far (p := ⟨gb293, 7, none⟩) (Kd.R_far (p := ⟨gb293, 6, none⟩) (Kd.R_far (p := ⟨gb293, 5, none⟩) (Kd.R_far (p := ⟨gb293, 4, none⟩) (Kd.R_far (p := ⟨gb293, 3, none⟩) (Kd.R_far (p := ⟨gb293, 2, none⟩) (Kd.R_far (p := ⟨gb293, 1, none⟩) (Kd.R_far (p := ⟨gb293, 0, none⟩) (Kd.R_types HO_308007.out BK293.out (by decide)) (fun _ hk => hk.2) (.int .i64 t298)) (fun _ hk => hk.2) (.int .i64 t301)) (fun _ hk => hk.2) (.int .i64 t304)) (fun _ hk => hk.2) (.slice Ao132 x308003_1.length co132)) (fun _ hk => hk.2) (.string t317)) (fun _ hk => hk.2) (.string t320)) (fun _ hk => hk.2) (.slice Ao133 x308006_2.length co133)) (fun _ hk => hk.2) (.slice Ao134 x308007_3.length co134)) (fun _ hk => hk.2) (.string t353)) (fun _ hk => hk.2) (.slice Ao135 x308009_4.length co135)) (fun _ hk => hk.2) (.int .i64 t378)) (fun _ hk => hk.2) (.int .i64 t381)) (fun _ hk => trivial), by refine rD_ ?_; exact Kd.R_mono (Kd.R_far (p := ⟨gb293, 11, none⟩) (Kd.R_far (p := ⟨gb293, 10, none⟩) (Kd.R_far (p := ⟨gb293, 9, none⟩) (Kd.R_far (p := ⟨gb293, 8, none⟩) (Kd.R_far (p := ⟨gb293, 7, none⟩) (Kd.R_far (p := ⟨gb293, 6, none⟩) (Kd.R_far (p := ⟨gb293, 5, none⟩) (Kd.R_far (p := ⟨gb293, 4, none⟩) (Kd.R_far (p := ⟨gb293, 3, none⟩) (Kd.R_far (p := ⟨gb293, 2, none⟩) (Kd.R_far (p := ⟨gb293, 1, none⟩) (Kd.R_far (p := ⟨gb293, 0, none⟩) (Kd.R_types HO_308009.out BK293.out (by decide)) (fun _ hk => hk.2) (.int .i64 t298)) (fun _ hk => hk.2) (.int .i64 t301)) (fun _ hk => hk.2) (.int .i64 t304)) (fun _ hk => hk.2) (.slice Ao132 x308003_1.length co132)) (fun _ hk => hk.2) (.string t317)) (fun _ hk => hk.2) (.string t320)) (fun _ hk => hk.2) (.slice Ao133 x308006_2.length co133)) (fun _ hk => hk.2) (.slice Ao134 x308007_3.length co134)) (fun _ hk => hk.2) (.string t353)) (fun _ hk => hk.2) (.slice Ao135 x308009_4.length co135)) (fun _ hk => hk.2) (.int .i64 t378)) (fun _ hk => hk.2) (.int .i64 t381)) (fun _ hk => trivial), by repeat (first | (with_reducible first | exact HB.out | apply below_alloc | apply pw_below_drewN | apply below_drew1 | refine below_set ?_ GE293.out | refine below_set ?_ GE307.out) | exact HB.out)⟩

end Go.Proofs.YtoankokkdmbjmaaDoorH.HFrameReplies
