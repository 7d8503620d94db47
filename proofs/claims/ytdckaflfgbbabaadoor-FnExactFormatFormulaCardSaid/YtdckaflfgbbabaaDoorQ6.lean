-- written by a program of this session (a turned copy of the kit's print) out of the translation
-- squeezed
-- compact
import Derived.Test.YtdckaflfgbbabaaDoorQ0
import Derived.Test.YtdckaflfgbbabaaDoorQ5
namespace Go.Proofs.YtdckaflfgbbabaaDoor.Q
open Go.RowKit Go.Proofs.YtdckaflfgbbabaaDoorW.PrintWords Go.Proofs.YtdckaflfgbbabaaDoorW.PrintLast Go.Proofs.YtdckaflfgbbabaaDoorW.PrintMore
attribute [local go_sem] max2_int min2_int max_two min_two max_three min_three max_four min_four   -- for this text's walks alone
set_option linter.unusedVariables false
set_option linter.unusedSimpArgs false

/-! ### spec_l16Text: function 13 -/
def spec_l16Text.f : Nat → List (S33) → Int → Option (ByteArray)
 | 0, _, _ => none
 | k + 1, l0, a1 => if 0 ≤ a1 then (if a1 < (l0.length : Int) then (if ((rd_T33 l0 a1).f0) = 1 then ((spec_FormatInt.f k ((rd_T33 l0 a1).f1)).bind fun t152 => (if 1 + t152.size ≤ 9223372036854775807 then ((spec_FormatInt.f k ((rd_T33 l0 a1).f2)).bind fun t153 => (if ((⟨#[61]⟩ : ByteArray) ++ t152).size + t153.size ≤ 9223372036854775807 then (some (((⟨#[61]⟩ : ByteArray) ++ t152) ++ t153)) else (none))) else (none))) else (if ((rd_T33 l0 a1).f0) = 2 then ((spec_FormatInt.f k ((rd_T33 l0 a1).f1)).bind fun t154 => (if 1 + t154.size ≤ 9223372036854775807 then ((spec_FormatInt.f k ((rd_T33 l0 a1).f2)).bind fun t155 => (if ((⟨#[60]⟩ : ByteArray) ++ t154).size + t155.size ≤ 9223372036854775807 then (some (((⟨#[60]⟩ : ByteArray) ++ t154) ++ t155)) else (none))) else (none))) else (if ((rd_T33 l0 a1).f0) = 3 then ((spec_FormatInt.f k ((rd_T33 l0 a1).f1)).bind fun t156 => (if 1 + t156.size ≤ 9223372036854775807 then ((spec_FormatInt.f k ((rd_T33 l0 a1).f2)).bind fun t157 => (if ((⟨#[43]⟩ : ByteArray) ++ t156).size + t157.size ≤ 9223372036854775807 then ((spec_FormatInt.f k ((rd_T33 l0 a1).f3)).bind fun t158 => (if (((⟨#[43]⟩ : ByteArray) ++ t156) ++ t157).size + t158.size ≤ 9223372036854775807 then (some ((((⟨#[43]⟩ : ByteArray) ++ t156) ++ t157) ++ t158)) else (none))) else (none))) else (none))) else (if ((rd_T33 l0 a1).f0) = 4 then ((spec_FormatInt.f k ((rd_T33 l0 a1).f1)).bind fun t159 => (if 1 + t159.size ≤ 9223372036854775807 then ((spec_FormatInt.f k ((rd_T33 l0 a1).f2)).bind fun t160 => (if ((⟨#[35]⟩ : ByteArray) ++ t159).size + t160.size ≤ 9223372036854775807 then (if (((⟨#[35]⟩ : ByteArray) ++ t159) ++ t160).size + 1 ≤ 9223372036854775807 then (some ((((⟨#[35]⟩ : ByteArray) ++ t159) ++ t160) ++ (⟨#[46]⟩ : ByteArray))) else (none)) else (none))) else (none))) else (if ((rd_T33 l0 a1).f0) = 5 then ((spec_FormatInt.f k ((rd_T33 l0 a1).f1)).bind fun t161 => (if 1 + t161.size ≤ 9223372036854775807 then ((spec_FormatInt.f k ((rd_T33 l0 a1).f2)).bind fun t162 => (if ((⟨#[83]⟩ : ByteArray) ++ t161).size + t162.size ≤ 9223372036854775807 then (some (((⟨#[83]⟩ : ByteArray) ++ t161) ++ t162)) else (none))) else (none))) else (if ((rd_T33 l0 a1).f0) = 6 then ((spec_l16Text.f k l0 ((rd_T33 l0 a1).f1)).bind fun t163 => (if 1 + t163.size ≤ 9223372036854775807 then (some ((⟨#[33]⟩ : ByteArray) ++ t163)) else (none))) else (if ((rd_T33 l0 a1).f0) = 7 then ((spec_l16Text.f k l0 ((rd_T33 l0 a1).f1)).bind fun t164 => (if 1 + t164.size ≤ 9223372036854775807 then ((spec_l16Text.f k l0 ((rd_T33 l0 a1).f2)).bind fun t165 => (if ((⟨#[38]⟩ : ByteArray) ++ t164).size + t165.size ≤ 9223372036854775807 then (some (((⟨#[38]⟩ : ByteArray) ++ t164) ++ t165)) else (none))) else (none))) else (if ((rd_T33 l0 a1).f0) = 8 then ((spec_l16Text.f k l0 ((rd_T33 l0 a1).f1)).bind fun t166 => (if 1 + t166.size ≤ 9223372036854775807 then ((spec_l16Text.f k l0 ((rd_T33 l0 a1).f2)).bind fun t167 => (if ((⟨#[124]⟩ : ByteArray) ++ t166).size + t167.size ≤ 9223372036854775807 then (some (((⟨#[124]⟩ : ByteArray) ++ t166) ++ t167)) else (none))) else (none))) else (if ((rd_T33 l0 a1).f0) = 9 then ((spec_FormatInt.f k ((rd_T33 l0 a1).f1)).bind fun t168 => (if 1 + t168.size ≤ 9223372036854775807 then ((spec_l16Text.f k l0 ((rd_T33 l0 a1).f2)).bind fun t169 => (if ((⟨#[69]⟩ : ByteArray) ++ t168).size + t169.size ≤ 9223372036854775807 then (some (((⟨#[69]⟩ : ByteArray) ++ t168) ++ t169)) else (none))) else (none))) else ((spec_FormatInt.f k ((rd_T33 l0 a1).f1)).bind fun t170 => (if 1 + t170.size ≤ 9223372036854775807 then ((spec_l16Text.f k l0 ((rd_T33 l0 a1).f2)).bind fun t171 => (if ((⟨#[65]⟩ : ByteArray) ++ t170).size + t171.size ≤ 9223372036854775807 then (some (((⟨#[65]⟩ : ByteArray) ++ t170) ++ t171)) else (none))) else (none)))))))))))) else (none)) else (none)
theorem spec_l16Text.mono_l : ∀ k, (∀ y0 y1, LeO (spec_l16Text.f k y0 y1) (spec_l16Text.f (k + 1) y0 y1))
 | 0 => fun _ _ r h => by simp [spec_l16Text.f] at h
 | k + 1 => by
  have ih0 := spec_l16Text.mono_l k
  ·intro y0 y1
   unfold spec_l16Text.f
   repeat' first
   | (with_reducible exact ih0 _ _)
   | (with_reducible exact spec_FormatInt.mono _ _)
   | (with_reducible exact LeO.refl _)
   | (with_reducible exact LeO.none _)
   | (with_reducible refine LeO.ite ?_ ?_)
   | (with_reducible refine LeO.bind ?_ (fun _ => ?_))
   | exact ih0 _ _
   | exact spec_FormatInt.mono _ _
   | exact LeO.none _
   | refine LeO.ite ?_ ?_
   | refine LeO.bind ?_ (fun _ => ?_)
theorem spec_l16Text.mono : ∀ a0 a1 k, LeO (spec_l16Text.f k a0 a1) (spec_l16Text.f (k + 1) a0 a1) := by
 intro a0 a1 k
 have ih0 := spec_l16Text.mono_l k
 exact ih0 a0 a1
def spec_l16Text.T4 : Bool × List (List Nat × List Nat) := (true, [([], []), ([0], [0]), ([1], [1]), ([2], [2]), ([], []), ([4], [4]), ([5, 2], [5]), ([3, 6], [3, 6]), ([7, 6, 0, 1, 2, 3, 4, 5, 6, 7], [7])])
def spec_l16Text.B4 : List Nat := [0, 1, 3, 7, 0, 16, 55, 127, 255]
theorem spec_l16Text.tab4 : rtab .any (opsOf Tryd.f13 4) = spec_l16Text.T4 := by kernel_rfl
theorem spec_l16Text.bits4 : waitsOk spec_l16Text.T4.2 spec_l16Text.B4 = true := by kernel_rfl
def spec_l16Text.T6 : Bool × List (List Nat × List Nat) := (true, [([], []), ([0], [0]), ([1], [1]), ([2], [2]), ([], []), ([4], [4]), ([5, 2], [5]), ([3, 6], [3, 6]), ([7, 6, 0, 1, 2, 3, 4, 5, 6, 7], [7])])
def spec_l16Text.B6 : List Nat := [0, 1, 3, 7, 0, 16, 55, 127, 255]
theorem spec_l16Text.tab6 : rtab .any (opsOf Tryd.f13 6) = spec_l16Text.T6 := by kernel_rfl
theorem spec_l16Text.bits6 : waitsOk spec_l16Text.T6.2 spec_l16Text.B6 = true := by kernel_rfl
def spec_l16Text.T8 : Bool × List (List Nat × List Nat) := (true, [([], []), ([0], [0]), ([1], [1]), ([2], [2]), ([], []), ([4], [4]), ([5, 2], [5]), ([3, 6], [3, 6]), ([], []), ([8], [8]), ([9, 6], [9]), ([7, 10], [7, 10]), ([11, 10, 0, 1, 2, 3, 4, 5, 6, 7, 8, 9, 10, 11], [11])])
def spec_l16Text.B8 : List Nat := [0, 1, 3, 7, 0, 16, 55, 127, 0, 256, 887, 2047, 4095]
theorem spec_l16Text.tab8 : rtab .any (opsOf Tryd.f13 8) = spec_l16Text.T8 := by kernel_rfl
theorem spec_l16Text.bits8 : waitsOk spec_l16Text.T8.2 spec_l16Text.B8 = true := by kernel_rfl
def spec_l16Text.T10 : Bool × List (List Nat × List Nat) := (true, [([], []), ([0], [0]), ([1], [1]), ([2], [2]), ([], []), ([4], [4]), ([5, 2], [5]), ([3, 6], [3, 6]), ([7], [7]), ([8, 6, 0, 1, 2, 3, 4, 5, 6, 7, 8], [8])])
def spec_l16Text.B10 : List Nat := [0, 1, 3, 7, 0, 16, 55, 127, 255, 511]
theorem spec_l16Text.tab10 : rtab .any (opsOf Tryd.f13 10) = spec_l16Text.T10 := by kernel_rfl
theorem spec_l16Text.bits10 : waitsOk spec_l16Text.T10.2 spec_l16Text.B10 = true := by kernel_rfl
def spec_l16Text.T12 : Bool × List (List Nat × List Nat) := (true, [([], []), ([0], [0]), ([1], [1]), ([2], [2]), ([], []), ([4], [4]), ([5, 2], [5]), ([3, 6], [3, 6]), ([7, 6, 0, 1, 2, 3, 4, 5, 6, 7], [7])])
def spec_l16Text.B12 : List Nat := [0, 1, 3, 7, 0, 16, 55, 127, 255]
theorem spec_l16Text.tab12 : rtab .any (opsOf Tryd.f13 12) = spec_l16Text.T12 := by kernel_rfl
theorem spec_l16Text.bits12 : waitsOk spec_l16Text.T12.2 spec_l16Text.B12 = true := by kernel_rfl
def spec_l16Text.T16 : Bool × List (List Nat × List Nat) := (true, [([], []), ([], []), ([1], [1]), ([0, 2], [0, 2]), ([3], [3]), ([], []), ([], []), ([6], [6]), ([5, 7, 3], [5, 7]), ([4, 8], [4, 8]), ([9, 8, 0, 1, 2, 3, 4, 5, 6, 7, 8, 9], [9])])
def spec_l16Text.B16 : List Nat := [0, 0, 2, 7, 15, 0, 0, 64, 239, 511, 1023]
theorem spec_l16Text.tab16 : rtab .any (opsOf Tryd.f13 16) = spec_l16Text.T16 := by kernel_rfl
theorem spec_l16Text.bits16 : waitsOk spec_l16Text.T16.2 spec_l16Text.B16 = true := by kernel_rfl
def spec_l16Text.T18 : Bool × List (List Nat × List Nat) := (true, [([], []), ([], []), ([1], [1]), ([0, 2], [0, 2]), ([3], [3]), ([], []), ([], []), ([6], [6]), ([5, 7, 3], [5, 7]), ([4, 8], [4, 8]), ([9, 8, 0, 1, 2, 3, 4, 5, 6, 7, 8, 9], [9])])
def spec_l16Text.B18 : List Nat := [0, 0, 2, 7, 15, 0, 0, 64, 239, 511, 1023]
theorem spec_l16Text.tab18 : rtab .any (opsOf Tryd.f13 18) = spec_l16Text.T18 := by kernel_rfl
theorem spec_l16Text.bits18 : waitsOk spec_l16Text.T18.2 spec_l16Text.B18 = true := by kernel_rfl
def spec_l16Text.T20 : Bool × List (List Nat × List Nat) := (true, [([], []), ([0], [0]), ([1], [1]), ([2], [2]), ([], []), ([], []), ([5], [5]), ([4, 6, 2], [4, 6]), ([3, 7], [3, 7]), ([8, 7, 0, 1, 2, 3, 4, 5, 6, 7, 8], [8])])
def spec_l16Text.B20 : List Nat := [0, 1, 3, 7, 0, 0, 32, 119, 255, 511]
theorem spec_l16Text.tab20 : rtab .any (opsOf Tryd.f13 20) = spec_l16Text.T20 := by kernel_rfl
theorem spec_l16Text.bits20 : waitsOk spec_l16Text.T20.2 spec_l16Text.B20 = true := by kernel_rfl
def spec_l16Text.T21 : Bool × List (List Nat × List Nat) := (true, [([], []), ([0], [0]), ([1], [1]), ([2], [2]), ([], []), ([], []), ([5], [5]), ([4, 6, 2], [4, 6]), ([3, 7], [3, 7]), ([8, 7, 0, 1, 2, 3, 4, 5, 6, 7, 8], [8])])
def spec_l16Text.B21 : List Nat := [0, 1, 3, 7, 0, 0, 32, 119, 255, 511]
theorem spec_l16Text.tab21 : rtab .any (opsOf Tryd.f13 21) = spec_l16Text.T21 := by kernel_rfl
theorem spec_l16Text.bits21 : waitsOk spec_l16Text.T21.2 spec_l16Text.B21 = true := by kernel_rfl
set_option maxHeartbeats 8000000 in
set_option maxRecDepth 100000 in
theorem spec_l16Text.calls (k : Nat) : ∀ (A0 : Option Addr) (c0 : Nat) (l0 : List (S33)) (a1 : Int) (r : ByteArray) (w : World) (hr0 : Kd.C k33 w A0 l0.length l0) (hc0 : l0.length ≤ c0) (h : spec_l16Text.f k l0 a1 = some r),
  Calls Tryd.prog 13 #[.slice A0 l0.length c0, .int .i64 a1] w fun e w' => e = .returned (.string r) ∧ Below w.heap.size w w' := by
 induction k using Nat.strongRecOn with
 | _ k ih =>
 intro A0 c0 l0 a1 r w hr0 hc0 h
 cases k with
 | zero => exact absurd h (by simp [spec_l16Text.f])
 | succ k =>
 simp only [spec_l16Text.f] at h
 have hu33 := Tryd.underlying33
 have HR0 := yA hr0
 have HC0 := yA hc0
 clear hr0 hc0
 have HB := yA (zV w.heap.size w)
 have H : (if 0 ≤ a1 then (if a1 < (l0.length : Int) then (if ((rd_T33 l0 a1).f0) = 1 then ((spec_FormatInt.f k ((rd_T33 l0 a1).f1)).bind fun t152 => (if 1 + t152.size ≤ 9223372036854775807 then ((spec_FormatInt.f k ((rd_T33 l0 a1).f2)).bind fun t153 => (if ((⟨#[61]⟩ : ByteArray) ++ t152).size + t153.size ≤ 9223372036854775807 then (some (((⟨#[61]⟩ : ByteArray) ++ t152) ++ t153)) else (none))) else (none))) else (if ((rd_T33 l0 a1).f0) = 2 then ((spec_FormatInt.f k ((rd_T33 l0 a1).f1)).bind fun t154 => (if 1 + t154.size ≤ 9223372036854775807 then ((spec_FormatInt.f k ((rd_T33 l0 a1).f2)).bind fun t155 => (if ((⟨#[60]⟩ : ByteArray) ++ t154).size + t155.size ≤ 9223372036854775807 then (some (((⟨#[60]⟩ : ByteArray) ++ t154) ++ t155)) else (none))) else (none))) else (if ((rd_T33 l0 a1).f0) = 3 then ((spec_FormatInt.f k ((rd_T33 l0 a1).f1)).bind fun t156 => (if 1 + t156.size ≤ 9223372036854775807 then ((spec_FormatInt.f k ((rd_T33 l0 a1).f2)).bind fun t157 => (if ((⟨#[43]⟩ : ByteArray) ++ t156).size + t157.size ≤ 9223372036854775807 then ((spec_FormatInt.f k ((rd_T33 l0 a1).f3)).bind fun t158 => (if (((⟨#[43]⟩ : ByteArray) ++ t156) ++ t157).size + t158.size ≤ 9223372036854775807 then (some ((((⟨#[43]⟩ : ByteArray) ++ t156) ++ t157) ++ t158)) else (none))) else (none))) else (none))) else (if ((rd_T33 l0 a1).f0) = 4 then ((spec_FormatInt.f k ((rd_T33 l0 a1).f1)).bind fun t159 => (if 1 + t159.size ≤ 9223372036854775807 then ((spec_FormatInt.f k ((rd_T33 l0 a1).f2)).bind fun t160 => (if ((⟨#[35]⟩ : ByteArray) ++ t159).size + t160.size ≤ 9223372036854775807 then (if (((⟨#[35]⟩ : ByteArray) ++ t159) ++ t160).size + 1 ≤ 9223372036854775807 then (some ((((⟨#[35]⟩ : ByteArray) ++ t159) ++ t160) ++ (⟨#[46]⟩ : ByteArray))) else (none)) else (none))) else (none))) else (if ((rd_T33 l0 a1).f0) = 5 then ((spec_FormatInt.f k ((rd_T33 l0 a1).f1)).bind fun t161 => (if 1 + t161.size ≤ 9223372036854775807 then ((spec_FormatInt.f k ((rd_T33 l0 a1).f2)).bind fun t162 => (if ((⟨#[83]⟩ : ByteArray) ++ t161).size + t162.size ≤ 9223372036854775807 then (some (((⟨#[83]⟩ : ByteArray) ++ t161) ++ t162)) else (none))) else (none))) else (if ((rd_T33 l0 a1).f0) = 6 then ((spec_l16Text.f k l0 ((rd_T33 l0 a1).f1)).bind fun t163 => (if 1 + t163.size ≤ 9223372036854775807 then (some ((⟨#[33]⟩ : ByteArray) ++ t163)) else (none))) else (if ((rd_T33 l0 a1).f0) = 7 then ((spec_l16Text.f k l0 ((rd_T33 l0 a1).f1)).bind fun t164 => (if 1 + t164.size ≤ 9223372036854775807 then ((spec_l16Text.f k l0 ((rd_T33 l0 a1).f2)).bind fun t165 => (if ((⟨#[38]⟩ : ByteArray) ++ t164).size + t165.size ≤ 9223372036854775807 then (some (((⟨#[38]⟩ : ByteArray) ++ t164) ++ t165)) else (none))) else (none))) else (if ((rd_T33 l0 a1).f0) = 8 then ((spec_l16Text.f k l0 ((rd_T33 l0 a1).f1)).bind fun t166 => (if 1 + t166.size ≤ 9223372036854775807 then ((spec_l16Text.f k l0 ((rd_T33 l0 a1).f2)).bind fun t167 => (if ((⟨#[124]⟩ : ByteArray) ++ t166).size + t167.size ≤ 9223372036854775807 then (some (((⟨#[124]⟩ : ByteArray) ++ t166) ++ t167)) else (none))) else (none))) else (if ((rd_T33 l0 a1).f0) = 9 then ((spec_FormatInt.f k ((rd_T33 l0 a1).f1)).bind fun t168 => (if 1 + t168.size ≤ 9223372036854775807 then ((spec_l16Text.f k l0 ((rd_T33 l0 a1).f2)).bind fun t169 => (if ((⟨#[69]⟩ : ByteArray) ++ t168).size + t169.size ≤ 9223372036854775807 then (some (((⟨#[69]⟩ : ByteArray) ++ t168) ++ t169)) else (none))) else (none))) else ((spec_FormatInt.f k ((rd_T33 l0 a1).f1)).bind fun t170 => (if 1 + t170.size ≤ 9223372036854775807 then ((spec_l16Text.f k l0 ((rd_T33 l0 a1).f2)).bind fun t171 => (if ((⟨#[65]⟩ : ByteArray) ++ t170).size + t171.size ≤ 9223372036854775807 then (some (((⟨#[65]⟩ : ByteArray) ++ t170) ++ t171)) else (none))) else (none)))))))))))) else (none)) else (none)) = some r := h
 clear h
 by_cases c3 : 0 ≤ a1
 ·rw [if_pos c3] at H
  have c3b0 : decide (0 ≤ a1) = true := zH c3
  clear c3
  by_cases c4 : a1 < (l0.length : Int)
  ·rw [if_pos c4] at H
   have c4b0 : decide (a1 < (l0.length : Int)) = true := zH c4
   clear c4
   by_cases c5 : ((rd_T33 l0 a1).f0) = 1
   ·rw [if_pos c5] at H
    have c5b0 : (((rd_T33 l0 a1).f0) == 1) = true := beq_iff_eq.mpr c5
    have c5b1 : (((rd_T33 l0 a1).f0) != 1) = false := bne_eq_false_iff_eq.mpr c5
    clear c5
    replace H := Option.bind_eq_some_iff.mp H
    obtain ⟨t152, A60, H⟩ := H
    replace H : (if 1 + t152.size ≤ 9223372036854775807 then ((spec_FormatInt.f k ((rd_T33 l0 a1).f2)).bind fun t153 => (if ((⟨#[61]⟩ : ByteArray) ++ t152).size + t153.size ≤ 9223372036854775807 then (some (((⟨#[61]⟩ : ByteArray) ++ t152) ++ t153)) else (none))) else (none)) = some r := H
    have A6 := yA A60
    clear A60
    by_cases c7 : 1 + t152.size ≤ 9223372036854775807
    ·rw [if_pos c7] at H
     have c7b0 := eq_true c7
     have c7b1 : decide (1 + t152.size ≤ 9223372036854775807) = true := zH c7
     try have c7b2 : (9223372036854775807 < 1 + t152.size) = False := eq_false (Nat.not_lt.2 c7)
     try (have c7b4_ := c7; simp [show ∀ b_ : UInt8, (⟨#[b_]⟩ : ByteArray).size = 1 from fun _ => rfl, show (⟨#[32, 61, 60, 43, 35, 83, 33, 38, 124, 69, 65]⟩ : ByteArray).size = 11 from rfl] at c7b4_; have c7b3_ := eq_false (Nat.not_lt.2 c7b4_))
     try (have c7b5_ := c7; simp only [ByteArray.size_append, ByteArray.size_extract, show ∀ b_ : UInt8, (⟨#[b_]⟩ : ByteArray).size = 1 from fun _ => rfl, show (⟨#[32, 61, 60, 43, 35, 83, 33, 38, 124, 69, 65]⟩ : ByteArray).size = 11 from rfl] at c7b5_; have c7b6_ := eq_false (Nat.not_lt.2 c7b5_))
     replace H := Option.bind_eq_some_iff.mp H
     obtain ⟨t153, A80, H⟩ := H
     replace H : (if ((⟨#[61]⟩ : ByteArray) ++ t152).size + t153.size ≤ 9223372036854775807 then (some (((⟨#[61]⟩ : ByteArray) ++ t152) ++ t153)) else (none)) = some r := H
     have A8 := yA A80
     clear A80
     by_cases c9 : ((⟨#[61]⟩ : ByteArray) ++ t152).size + t153.size ≤ 9223372036854775807
     ·rw [if_pos c9] at H
      have c9b0 := eq_true c9
      have c9b1 : decide (((⟨#[61]⟩ : ByteArray) ++ t152).size + t153.size ≤ 9223372036854775807) = true := zH c9
      try have c9b2 : (9223372036854775807 < ((⟨#[61]⟩ : ByteArray) ++ t152).size + t153.size) = False := eq_false (Nat.not_lt.2 c9)
      try (have c9b4_ := c9; simp [show ∀ b_ : UInt8, (⟨#[b_]⟩ : ByteArray).size = 1 from fun _ => rfl, show (⟨#[32, 61, 60, 43, 35, 83, 33, 38, 124, 69, 65]⟩ : ByteArray).size = 11 from rfl] at c9b4_; have c9b3_ := eq_false (Nat.not_lt.2 c9b4_))
      try (have c9b5_ := c9; simp only [ByteArray.size_append, ByteArray.size_extract, show ∀ b_ : UInt8, (⟨#[b_]⟩ : ByteArray).size = 1 from fun _ => rfl, show (⟨#[32, 61, 60, 43, 35, 83, 33, 38, 124, 69, 65]⟩ : ByteArray).size = 11 from rfl] at c9b5_; have c9b6_ := eq_false (Nat.not_lt.2 c9b5_))
      obtain rfl := zU H
      have p150 : 0 ≤ (a1 : Int) := zG (by first | (with_reducible assumption) | assumption)
      have q150 : a1 < (l0.length : Int) := zG (by first | (with_reducible assumption) | assumption)
      obtain ⟨ad150, e150, hx150_0, hx150_1, hx150_2, hx150_3⟩ := at_T33 HR0.out a1 p150 q150
      cases e150
      replace p150 := eq_true p150
      replace q150 := eq_true q150
      go_enter Tryd.func13, Tryd.ntmps13
      try go_wp2_with (first | ((with_reducible refine gate_dst (N := 5) rfl ?_); refine box_event ?hg (N := 5) ?hd (cs := #[.int .i64 0, .int .i64 0, .int .i64 0, .int .i64 0]) (t := 33) ?hr ?_; (case hd => rfl); (case hg => rfl); (case hr => first | (go_simp; done) | (go_simp; rfl)); intro gb151 hg w10 hbox hb; have n0_ := yA (zD (mB HB.out) hb); have n1_ := yA (hbox); have n2_ := yA ((by rw [hg]; exact (yX (mB HB.out)) : w.heap.size ≤ gb151)); have n3_ := yA ((by rw [hg]; exact (yX (mB HB.out)) : w.heap.size ≤ gb151)); clear HB; have HB := n0_; have BK151 := n1_; have GW151 := n2_; have GE151 := n3_; clear n0_ n1_ n2_ n3_; clear hb hbox hg; have hcz11_0 : w10.cell? ⟨gb151, 0, none⟩ = some (.int .i64 0) := (yV BK151.out 0).trans rfl; have hcz11_1 : w10.cell? ⟨gb151, 1, none⟩ = some (.int .i64 0) := (yV BK151.out 1).trans rfl; have hcz11_2 : w10.cell? ⟨gb151, 2, none⟩ = some (.int .i64 0) := (yV BK151.out 2).trans rfl; have hcz11_3 : w10.cell? ⟨gb151, 3, none⟩ = some (.int .i64 0) := (yV BK151.out 3).trans rfl; have hfz11_0 := yW BK151.out 0; have hfz11_1 := yW BK151.out 1; have hfz11_2 := yW BK151.out 2; have hfz11_3 := yW BK151.out 3))
      have n0_ : Aside0 (((((w10.setCell ⟨gb151, 0, none⟩ (.int .i64 ((rd_T33 l0 a1).f0))).setCell ⟨gb151, 1, none⟩ (.int .i64 ((rd_T33 l0 a1).f1))).setCell ⟨gb151, 2, none⟩ (.int .i64 ((rd_T33 l0 a1).f2))).setCell ⟨gb151, 3, none⟩ (.int .i64 ((rd_T33 l0 a1).f3))).heap[gb151]? = some (.cells #[.int .i64 ((rd_T33 l0 a1).f0), .int .i64 ((rd_T33 l0 a1).f1), .int .i64 ((rd_T33 l0 a1).f2), .int .i64 ((rd_T33 l0 a1).f3)] 33 (0, 0))) := ⟨by (with_reducible repeat (first | refine yS ?_ _ | refine yT ?_ | refine yR ?_ _)); refine blk_put (cs := #[.int .i64 ((rd_T33 l0 a1).f0), .int .i64 ((rd_T33 l0 a1).f1), .int .i64 ((rd_T33 l0 a1).f2), .int .i64 0]) ?_ 3 _ rfl; (with_reducible repeat (first | refine yS ?_ _ | refine yT ?_ | refine yR ?_ _)); refine blk_put (cs := #[.int .i64 ((rd_T33 l0 a1).f0), .int .i64 ((rd_T33 l0 a1).f1), .int .i64 0, .int .i64 0]) ?_ 2 _ rfl; (with_reducible repeat (first | refine yS ?_ _ | refine yT ?_ | refine yR ?_ _)); refine blk_put (cs := #[.int .i64 ((rd_T33 l0 a1).f0), .int .i64 0, .int .i64 0, .int .i64 0]) ?_ 1 _ rfl; (with_reducible repeat (first | refine yS ?_ _ | refine yT ?_ | refine yR ?_ _)); refine blk_put (cs := #[.int .i64 0, .int .i64 0, .int .i64 0, .int .i64 0]) ?_ 0 _ rfl; (with_reducible repeat (first | refine yS ?_ _ | refine yT ?_ | refine yR ?_ _)); exact BK151.out⟩
      have n1_ : Aside0 (Below w.heap.size w ((((w10.setCell ⟨gb151, 0, none⟩ (.int .i64 ((rd_T33 l0 a1).f0))).setCell ⟨gb151, 1, none⟩ (.int .i64 ((rd_T33 l0 a1).f1))).setCell ⟨gb151, 2, none⟩ (.int .i64 ((rd_T33 l0 a1).f2))).setCell ⟨gb151, 3, none⟩ (.int .i64 ((rd_T33 l0 a1).f3)))) := ⟨by repeat (first | (with_reducible first | exact HB.out | apply yO | apply yN | apply yP | refine yQ ?_ GE151.out) | exact HB.out)⟩
      (try clear BK151)
      (try clear HB)
      generalize ((((w10.setCell ⟨gb151, 0, none⟩ (.int .i64 ((rd_T33 l0 a1).f0))).setCell ⟨gb151, 1, none⟩ (.int .i64 ((rd_T33 l0 a1).f1))).setCell ⟨gb151, 2, none⟩ (.int .i64 ((rd_T33 l0 a1).f2))).setCell ⟨gb151, 3, none⟩ (.int .i64 ((rd_T33 l0 a1).f3))) = w12 at n0_ n1_ ⊢
      have BK151 := n0_
      have HB := n1_
      clear n0_ n1_
      have n0_ := yA (yT BK151.out)
      have n1_ := yA (yP HB.out)
      clear BK151
      clear HB
      have BK151 := n0_
      have HB := n1_
      clear n0_ n1_
      refine start_ (n := 9) (S := fun w' => w'.cell? ⟨gb151, 0, none⟩ = some (.int .i64 ((rd_T33 l0 a1).f0)) ∧ w'.cell? ⟨gb151, 1, none⟩ = some (.int .i64 ((rd_T33 l0 a1).f1)) ∧ w'.cell? ⟨gb151, 2, none⟩ = some (.int .i64 ((rd_T33 l0 a1).f2)) ∧ w'.cell? ⟨gb151, 3, none⟩ = some (.int .i64 ((rd_T33 l0 a1).f3))) (ds := []) #[false, false, false, false, false, false, false, false, false] (by kernel_rfl) rfl rfl ⟨(yV BK151.out 0).trans rfl, (yV BK151.out 1).trans rfl, (yV BK151.out 2).trans rfl, (yV BK151.out 3).trans rfl⟩ (fun hHeld => ?_); refine with_tabW spec_l16Text.tab4 spec_l16Text.bits4 (fun HT_ HW_ => ?_)
      generalize w12.drew = w13 at BK151 HB hHeld ⊢
      refine pure_ (i := 0) (N := some 14) (v := ?_) (a' := ?_) #[true, false, false, false, false, false, false, false, false] rfl rfl (any_of HT_.out (by kernel_rfl)) (fun _ _ _ h => h) (Or.inl ⟨by rfl, ?_⟩) ?_ ?_
      rotate_left
      ·intro w'
       go_simp
       with_reducible rfl
      rotate_left
      ·simp only [Act.put, zA, zB, zC, i64_w, i32_w]
       rfl
      refine pure_ (i := 4) (N := some 18) (v := ?_) (a' := ?_) #[true, false, false, false, true, false, false, false, false] rfl rfl (any_of HT_.out (by kernel_rfl)) (fun _ _ _ h => h) (Or.inl ⟨by rfl, ?_⟩) ?_ ?_
      rotate_left
      ·intro w'
       go_simp
       with_reducible rfl
      rotate_left
      ·simp only [Act.put, zA, zB, zC, i64_w, i32_w]
       rfl
      refine take_ (i := 1) (N := some 15) (v := ?_) (a' := ?_) #[true, true, false, false, true, false, false, false, false] rfl rfl (take_ofW HT_.out HW_.out (by kernel_rfl)) (fun _ _ _ h => h) (Or.inl ⟨by rfl, ?_⟩) hHeld ?_ ?_
      rotate_left
      ·rintro w' ⟨s0, s1, s2, s3⟩
       go_simp
       with_reducible rfl
      rotate_left
      ·simp only [Act.put, zA, zB, zC, i64_w, i32_w]
       rfl
      refine take_ (i := 5) (N := some 19) (v := ?_) (a' := ?_) #[true, true, false, false, true, true, false, false, false] rfl rfl (take_ofW HT_.out HW_.out (by kernel_rfl)) (fun _ _ _ h => h) (Or.inl ⟨by rfl, ?_⟩) hHeld ?_ ?_
      rotate_left
      ·rintro w' ⟨s0, s1, s2, s3⟩
       go_simp
       with_reducible rfl
      rotate_left
      ·simp only [Act.put, zA, zB, zC, i64_w, i32_w]
       rfl
      refine one_ (i := 2) (N := some 16) #[true, true, true, false, true, true, false, false, false] rfl rfl (one_of HT_.out (by kernel_rfl)) (by decide) (fun K hK => ?_)
      refine goes_ Tryd.func21 (by kernel_rfl) rfl #[.int .i64 ((rd_T33 l0 a1).f1)] (by rfl) rfl rfl (by (try simp only [zI, zJ, zK]); first | done | rfl | (simp only [zL, zM]; rfl)) ?_
      with_reducible refine (spec_FormatInt.calls k ((rd_T33 l0 a1).f1) t152 _ A6.out).mono ?_
      rintro e w14 ⟨rfl, hb⟩
      refine ⟨_, rfl, ?_⟩
      have n0_ := yA (yU (mK BK151.out) hb)
      have n1_ := yA (zD (by with_reducible repeat first | exact HB.out | apply yO | apply yN | apply yP | refine yQ ?_ GE151.out) hb)
      clear BK151
      clear HB
      have BK151 := n0_
      have HB := n1_
      clear n0_ n1_
      (try clear hb)
      (try clear hb2)
      (try clear hk)
      (try clear hi)
      refine hK.out _ _ ⟨(yV BK151.out 0).trans rfl, (yV BK151.out 1).trans rfl, (yV BK151.out 2).trans rfl, (yV BK151.out 3).trans rfl⟩ (fun hHeld => ?_)
      clear hK K
      refine norm_ (a' := ?_) ?_ ?_
      rotate_left
      ·show Act.put _ (some 16) _ = _
       simp only [Act.put, zA, zB, zC, i64_w, i32_w]
       rfl
      refine pure_ (i := 3) (N := some 17) (v := ?_) (a' := ?_) #[true, true, true, true, true, true, false, false, false] rfl rfl (any_of HT_.out (by kernel_rfl)) (fun _ _ _ h => h) (Or.inl ⟨by rfl, ?_⟩) ?_ ?_
      rotate_left
      ·intro w'
       go_simp
       with_reducible rfl
      rotate_left
      ·simp only [Act.put, zA, zB, zC, i64_w, i32_w]
       rfl
      refine one_ (i := 6) (N := some 20) #[true, true, true, true, true, true, true, false, false] rfl rfl (one_of HT_.out (by kernel_rfl)) (by decide) (fun K hK => ?_)
      refine goes_ Tryd.func21 (by kernel_rfl) rfl #[.int .i64 ((rd_T33 l0 a1).f2)] (by rfl) rfl rfl (by (try simp only [zI, zJ, zK]); first | done | rfl | (simp only [zL, zM]; rfl)) ?_
      with_reducible refine (spec_FormatInt.calls k ((rd_T33 l0 a1).f2) t153 _ A8.out).mono ?_
      rintro e w15 ⟨rfl, hb⟩
      refine ⟨_, rfl, ?_⟩
      have n0_ := yA (yU (mK BK151.out) hb)
      have n1_ := yA (zD (by with_reducible repeat first | exact HB.out | apply yO | apply yN | apply yP | refine yQ ?_ GE151.out) hb)
      clear BK151
      clear HB
      have BK151 := n0_
      have HB := n1_
      clear n0_ n1_
      (try clear hb)
      (try clear hb2)
      (try clear hk)
      (try clear hi)
      refine hK.out _ _ ⟨(yV BK151.out 0).trans rfl, (yV BK151.out 1).trans rfl, (yV BK151.out 2).trans rfl, (yV BK151.out 3).trans rfl⟩ (fun hHeld => ?_)
      clear hK K
      refine norm_ (a' := ?_) ?_ ?_
      rotate_left
      ·show Act.put _ (some 20) _ = _
       simp only [Act.put, zA, zB, zC, i64_w, i32_w]
       rfl
      refine pure_ (i := 7) (N := some 21) (v := ?_) (a' := ?_) #[true, true, true, true, true, true, true, true, false] rfl rfl (any_of HT_.out (by kernel_rfl)) (fun _ _ _ h => h) (Or.inl ⟨by rfl, ?_⟩) ?_ ?_
      rotate_left
      ·intro w'
       go_simp
       with_reducible rfl
      rotate_left
      ·simp only [Act.put, zA, zB, zC, i64_w, i32_w]
       rfl
      refine pure_ (i := 8) (N := some 4) (v := ?_) (a' := ?_) #[true, true, true, true, true, true, true, true, true] rfl rfl (any_of HT_.out (by kernel_rfl)) (fun _ _ _ h => h) (Or.inl ⟨by rfl, ?_⟩) ?_ ?_
      rotate_left
      ·intro w'
       go_simp
       with_reducible rfl
      rotate_left
      ·simp only [Act.put, zA, zB, zC, i64_w, i32_w]
       rfl
      refine done_ (done_of HT_.out (by kernel_rfl)) ?_
      try go_wp2
      go_ret
      exact ⟨by first | rfl | (simp [errW_none, errW_some] <;> rfl) | (simp [*, errW_none, errW_some] <;> rfl), by repeat (first | (with_reducible first | exact HB.out | apply yO | apply yN | apply yP | refine yQ ?_ GE151.out) | exact HB.out)⟩
     ·rw [if_neg c9] at H
      exact absurd H (by simp)
    ·rw [if_neg c7] at H
     exact absurd H (by simp)
   ·rw [if_neg c5] at H
    have c5b0 : (((rd_T33 l0 a1).f0) == 1) = false := beq_eq_false_iff_ne.mpr c5
    have c5b1 : (((rd_T33 l0 a1).f0) != 1) = true := bne_iff_ne.mpr c5
    by_cases c16 : ((rd_T33 l0 a1).f0) = 2
    ·rw [if_pos c16] at H
     have c16b0 : (((rd_T33 l0 a1).f0) == 2) = true := beq_iff_eq.mpr c16
     have c16b1 : (((rd_T33 l0 a1).f0) != 2) = false := bne_eq_false_iff_eq.mpr c16
     clear c16
     replace H := Option.bind_eq_some_iff.mp H
     obtain ⟨t154, A170, H⟩ := H
     replace H : (if 1 + t154.size ≤ 9223372036854775807 then ((spec_FormatInt.f k ((rd_T33 l0 a1).f2)).bind fun t155 => (if ((⟨#[60]⟩ : ByteArray) ++ t154).size + t155.size ≤ 9223372036854775807 then (some (((⟨#[60]⟩ : ByteArray) ++ t154) ++ t155)) else (none))) else (none)) = some r := H
     have A17 := yA A170
     clear A170
     by_cases c18 : 1 + t154.size ≤ 9223372036854775807
     ·rw [if_pos c18] at H
      have c18b0 := eq_true c18
      have c18b1 : decide (1 + t154.size ≤ 9223372036854775807) = true := zH c18
      try have c18b2 : (9223372036854775807 < 1 + t154.size) = False := eq_false (Nat.not_lt.2 c18)
      try (have c18b4_ := c18; simp [show ∀ b_ : UInt8, (⟨#[b_]⟩ : ByteArray).size = 1 from fun _ => rfl, show (⟨#[32, 61, 60, 43, 35, 83, 33, 38, 124, 69, 65]⟩ : ByteArray).size = 11 from rfl] at c18b4_; have c18b3_ := eq_false (Nat.not_lt.2 c18b4_))
      try (have c18b5_ := c18; simp only [ByteArray.size_append, ByteArray.size_extract, show ∀ b_ : UInt8, (⟨#[b_]⟩ : ByteArray).size = 1 from fun _ => rfl, show (⟨#[32, 61, 60, 43, 35, 83, 33, 38, 124, 69, 65]⟩ : ByteArray).size = 11 from rfl] at c18b5_; have c18b6_ := eq_false (Nat.not_lt.2 c18b5_))
      replace H := Option.bind_eq_some_iff.mp H
      obtain ⟨t155, A190, H⟩ := H
      replace H : (if ((⟨#[60]⟩ : ByteArray) ++ t154).size + t155.size ≤ 9223372036854775807 then (some (((⟨#[60]⟩ : ByteArray) ++ t154) ++ t155)) else (none)) = some r := H
      have A19 := yA A190
      clear A190
      by_cases c20 : ((⟨#[60]⟩ : ByteArray) ++ t154).size + t155.size ≤ 9223372036854775807
      ·rw [if_pos c20] at H
       have c20b0 := eq_true c20
       have c20b1 : decide (((⟨#[60]⟩ : ByteArray) ++ t154).size + t155.size ≤ 9223372036854775807) = true := zH c20
       try have c20b2 : (9223372036854775807 < ((⟨#[60]⟩ : ByteArray) ++ t154).size + t155.size) = False := eq_false (Nat.not_lt.2 c20)
       try (have c20b4_ := c20; simp [show ∀ b_ : UInt8, (⟨#[b_]⟩ : ByteArray).size = 1 from fun _ => rfl, show (⟨#[32, 61, 60, 43, 35, 83, 33, 38, 124, 69, 65]⟩ : ByteArray).size = 11 from rfl] at c20b4_; have c20b3_ := eq_false (Nat.not_lt.2 c20b4_))
       try (have c20b5_ := c20; simp only [ByteArray.size_append, ByteArray.size_extract, show ∀ b_ : UInt8, (⟨#[b_]⟩ : ByteArray).size = 1 from fun _ => rfl, show (⟨#[32, 61, 60, 43, 35, 83, 33, 38, 124, 69, 65]⟩ : ByteArray).size = 11 from rfl] at c20b5_; have c20b6_ := eq_false (Nat.not_lt.2 c20b5_))
       obtain rfl := zU H
       have p150 : 0 ≤ (a1 : Int) := zG (by first | (with_reducible assumption) | assumption)
       have q150 : a1 < (l0.length : Int) := zG (by first | (with_reducible assumption) | assumption)
       obtain ⟨ad150, e150, hx150_0, hx150_1, hx150_2, hx150_3⟩ := at_T33 HR0.out a1 p150 q150
       cases e150
       replace p150 := eq_true p150
       replace q150 := eq_true q150
       go_enter Tryd.func13, Tryd.ntmps13
       try go_wp2_with (first | ((with_reducible refine gate_dst (N := 5) rfl ?_); refine box_event ?hg (N := 5) ?hd (cs := #[.int .i64 0, .int .i64 0, .int .i64 0, .int .i64 0]) (t := 33) ?hr ?_; (case hd => rfl); (case hg => rfl); (case hr => first | (go_simp; done) | (go_simp; rfl)); intro gb151 hg w21 hbox hb; have n0_ := yA (zD (mB HB.out) hb); have n1_ := yA (hbox); have n2_ := yA ((by rw [hg]; exact (yX (mB HB.out)) : w.heap.size ≤ gb151)); have n3_ := yA ((by rw [hg]; exact (yX (mB HB.out)) : w.heap.size ≤ gb151)); clear HB; have HB := n0_; have BK151 := n1_; have GW151 := n2_; have GE151 := n3_; clear n0_ n1_ n2_ n3_; clear hb hbox hg; have hcz22_0 : w21.cell? ⟨gb151, 0, none⟩ = some (.int .i64 0) := (yV BK151.out 0).trans rfl; have hcz22_1 : w21.cell? ⟨gb151, 1, none⟩ = some (.int .i64 0) := (yV BK151.out 1).trans rfl; have hcz22_2 : w21.cell? ⟨gb151, 2, none⟩ = some (.int .i64 0) := (yV BK151.out 2).trans rfl; have hcz22_3 : w21.cell? ⟨gb151, 3, none⟩ = some (.int .i64 0) := (yV BK151.out 3).trans rfl; have hfz22_0 := yW BK151.out 0; have hfz22_1 := yW BK151.out 1; have hfz22_2 := yW BK151.out 2; have hfz22_3 := yW BK151.out 3))
       have n0_ : Aside0 (((((w21.setCell ⟨gb151, 0, none⟩ (.int .i64 ((rd_T33 l0 a1).f0))).setCell ⟨gb151, 1, none⟩ (.int .i64 ((rd_T33 l0 a1).f1))).setCell ⟨gb151, 2, none⟩ (.int .i64 ((rd_T33 l0 a1).f2))).setCell ⟨gb151, 3, none⟩ (.int .i64 ((rd_T33 l0 a1).f3))).heap[gb151]? = some (.cells #[.int .i64 ((rd_T33 l0 a1).f0), .int .i64 ((rd_T33 l0 a1).f1), .int .i64 ((rd_T33 l0 a1).f2), .int .i64 ((rd_T33 l0 a1).f3)] 33 (0, 0))) := ⟨by (with_reducible repeat (first | refine yS ?_ _ | refine yT ?_ | refine yR ?_ _)); refine blk_put (cs := #[.int .i64 ((rd_T33 l0 a1).f0), .int .i64 ((rd_T33 l0 a1).f1), .int .i64 ((rd_T33 l0 a1).f2), .int .i64 0]) ?_ 3 _ rfl; (with_reducible repeat (first | refine yS ?_ _ | refine yT ?_ | refine yR ?_ _)); refine blk_put (cs := #[.int .i64 ((rd_T33 l0 a1).f0), .int .i64 ((rd_T33 l0 a1).f1), .int .i64 0, .int .i64 0]) ?_ 2 _ rfl; (with_reducible repeat (first | refine yS ?_ _ | refine yT ?_ | refine yR ?_ _)); refine blk_put (cs := #[.int .i64 ((rd_T33 l0 a1).f0), .int .i64 0, .int .i64 0, .int .i64 0]) ?_ 1 _ rfl; (with_reducible repeat (first | refine yS ?_ _ | refine yT ?_ | refine yR ?_ _)); refine blk_put (cs := #[.int .i64 0, .int .i64 0, .int .i64 0, .int .i64 0]) ?_ 0 _ rfl; (with_reducible repeat (first | refine yS ?_ _ | refine yT ?_ | refine yR ?_ _)); exact BK151.out⟩
       have n1_ : Aside0 (Below w.heap.size w ((((w21.setCell ⟨gb151, 0, none⟩ (.int .i64 ((rd_T33 l0 a1).f0))).setCell ⟨gb151, 1, none⟩ (.int .i64 ((rd_T33 l0 a1).f1))).setCell ⟨gb151, 2, none⟩ (.int .i64 ((rd_T33 l0 a1).f2))).setCell ⟨gb151, 3, none⟩ (.int .i64 ((rd_T33 l0 a1).f3)))) := ⟨by repeat (first | (with_reducible first | exact HB.out | apply yO | apply yN | apply yP | refine yQ ?_ GE151.out) | exact HB.out)⟩
       (try clear BK151)
       (try clear HB)
       generalize ((((w21.setCell ⟨gb151, 0, none⟩ (.int .i64 ((rd_T33 l0 a1).f0))).setCell ⟨gb151, 1, none⟩ (.int .i64 ((rd_T33 l0 a1).f1))).setCell ⟨gb151, 2, none⟩ (.int .i64 ((rd_T33 l0 a1).f2))).setCell ⟨gb151, 3, none⟩ (.int .i64 ((rd_T33 l0 a1).f3))) = w23 at n0_ n1_ ⊢
       have BK151 := n0_
       have HB := n1_
       clear n0_ n1_
       have n0_ := yA (yT BK151.out)
       have n1_ := yA (yP HB.out)
       clear BK151
       clear HB
       have BK151 := n0_
       have HB := n1_
       clear n0_ n1_
       refine start_ (n := 9) (S := fun w' => w'.cell? ⟨gb151, 0, none⟩ = some (.int .i64 ((rd_T33 l0 a1).f0)) ∧ w'.cell? ⟨gb151, 1, none⟩ = some (.int .i64 ((rd_T33 l0 a1).f1)) ∧ w'.cell? ⟨gb151, 2, none⟩ = some (.int .i64 ((rd_T33 l0 a1).f2)) ∧ w'.cell? ⟨gb151, 3, none⟩ = some (.int .i64 ((rd_T33 l0 a1).f3))) (ds := []) #[false, false, false, false, false, false, false, false, false] (by kernel_rfl) rfl rfl ⟨(yV BK151.out 0).trans rfl, (yV BK151.out 1).trans rfl, (yV BK151.out 2).trans rfl, (yV BK151.out 3).trans rfl⟩ (fun hHeld => ?_); refine with_tabW spec_l16Text.tab6 spec_l16Text.bits6 (fun HT_ HW_ => ?_)
       generalize w23.drew = w24 at BK151 HB hHeld ⊢
       refine pure_ (i := 0) (N := some 24) (v := ?_) (a' := ?_) #[true, false, false, false, false, false, false, false, false] rfl rfl (any_of HT_.out (by kernel_rfl)) (fun _ _ _ h => h) (Or.inl ⟨by rfl, ?_⟩) ?_ ?_
       rotate_left
       ·intro w'
        go_simp
        with_reducible rfl
       rotate_left
       ·simp only [Act.put, zA, zB, zC, i64_w, i32_w]
        rfl
       refine pure_ (i := 4) (N := some 28) (v := ?_) (a' := ?_) #[true, false, false, false, true, false, false, false, false] rfl rfl (any_of HT_.out (by kernel_rfl)) (fun _ _ _ h => h) (Or.inl ⟨by rfl, ?_⟩) ?_ ?_
       rotate_left
       ·intro w'
        go_simp
        with_reducible rfl
       rotate_left
       ·simp only [Act.put, zA, zB, zC, i64_w, i32_w]
        rfl
       refine take_ (i := 1) (N := some 25) (v := ?_) (a' := ?_) #[true, true, false, false, true, false, false, false, false] rfl rfl (take_ofW HT_.out HW_.out (by kernel_rfl)) (fun _ _ _ h => h) (Or.inl ⟨by rfl, ?_⟩) hHeld ?_ ?_
       rotate_left
       ·rintro w' ⟨s0, s1, s2, s3⟩
        go_simp
        with_reducible rfl
       rotate_left
       ·simp only [Act.put, zA, zB, zC, i64_w, i32_w]
        rfl
       refine take_ (i := 5) (N := some 29) (v := ?_) (a' := ?_) #[true, true, false, false, true, true, false, false, false] rfl rfl (take_ofW HT_.out HW_.out (by kernel_rfl)) (fun _ _ _ h => h) (Or.inl ⟨by rfl, ?_⟩) hHeld ?_ ?_
       rotate_left
       ·rintro w' ⟨s0, s1, s2, s3⟩
        go_simp
        with_reducible rfl
       rotate_left
       ·simp only [Act.put, zA, zB, zC, i64_w, i32_w]
        rfl
       refine one_ (i := 2) (N := some 26) #[true, true, true, false, true, true, false, false, false] rfl rfl (one_of HT_.out (by kernel_rfl)) (by decide) (fun K hK => ?_)
       refine goes_ Tryd.func21 (by kernel_rfl) rfl #[.int .i64 ((rd_T33 l0 a1).f1)] (by rfl) rfl rfl (by (try simp only [zI, zJ, zK]); first | done | rfl | (simp only [zL, zM]; rfl)) ?_
       with_reducible refine (spec_FormatInt.calls k ((rd_T33 l0 a1).f1) t154 _ A17.out).mono ?_
       rintro e w25 ⟨rfl, hb⟩
       refine ⟨_, rfl, ?_⟩
       have n0_ := yA (yU (mK BK151.out) hb)
       have n1_ := yA (zD (by with_reducible repeat first | exact HB.out | apply yO | apply yN | apply yP | refine yQ ?_ GE151.out) hb)
       clear BK151
       clear HB
       have BK151 := n0_
       have HB := n1_
       clear n0_ n1_
       (try clear hb)
       (try clear hb2)
       (try clear hk)
       (try clear hi)
       refine hK.out _ _ ⟨(yV BK151.out 0).trans rfl, (yV BK151.out 1).trans rfl, (yV BK151.out 2).trans rfl, (yV BK151.out 3).trans rfl⟩ (fun hHeld => ?_)
       clear hK K
       refine norm_ (a' := ?_) ?_ ?_
       rotate_left
       ·show Act.put _ (some 26) _ = _
        simp only [Act.put, zA, zB, zC, i64_w, i32_w]
        rfl
       refine pure_ (i := 3) (N := some 27) (v := ?_) (a' := ?_) #[true, true, true, true, true, true, false, false, false] rfl rfl (any_of HT_.out (by kernel_rfl)) (fun _ _ _ h => h) (Or.inl ⟨by rfl, ?_⟩) ?_ ?_
       rotate_left
       ·intro w'
        go_simp
        with_reducible rfl
       rotate_left
       ·simp only [Act.put, zA, zB, zC, i64_w, i32_w]
        rfl
       refine one_ (i := 6) (N := some 30) #[true, true, true, true, true, true, true, false, false] rfl rfl (one_of HT_.out (by kernel_rfl)) (by decide) (fun K hK => ?_)
       refine goes_ Tryd.func21 (by kernel_rfl) rfl #[.int .i64 ((rd_T33 l0 a1).f2)] (by rfl) rfl rfl (by (try simp only [zI, zJ, zK]); first | done | rfl | (simp only [zL, zM]; rfl)) ?_
       with_reducible refine (spec_FormatInt.calls k ((rd_T33 l0 a1).f2) t155 _ A19.out).mono ?_
       rintro e w26 ⟨rfl, hb⟩
       refine ⟨_, rfl, ?_⟩
       have n0_ := yA (yU (mK BK151.out) hb)
       have n1_ := yA (zD (by with_reducible repeat first | exact HB.out | apply yO | apply yN | apply yP | refine yQ ?_ GE151.out) hb)
       clear BK151
       clear HB
       have BK151 := n0_
       have HB := n1_
       clear n0_ n1_
       (try clear hb)
       (try clear hb2)
       (try clear hk)
       (try clear hi)
       refine hK.out _ _ ⟨(yV BK151.out 0).trans rfl, (yV BK151.out 1).trans rfl, (yV BK151.out 2).trans rfl, (yV BK151.out 3).trans rfl⟩ (fun hHeld => ?_)
       clear hK K
       refine norm_ (a' := ?_) ?_ ?_
       rotate_left
       ·show Act.put _ (some 30) _ = _
        simp only [Act.put, zA, zB, zC, i64_w, i32_w]
        rfl
       refine pure_ (i := 7) (N := some 31) (v := ?_) (a' := ?_) #[true, true, true, true, true, true, true, true, false] rfl rfl (any_of HT_.out (by kernel_rfl)) (fun _ _ _ h => h) (Or.inl ⟨by rfl, ?_⟩) ?_ ?_
       rotate_left
       ·intro w'
        go_simp
        with_reducible rfl
       rotate_left
       ·simp only [Act.put, zA, zB, zC, i64_w, i32_w]
        rfl
       refine pure_ (i := 8) (N := some 4) (v := ?_) (a' := ?_) #[true, true, true, true, true, true, true, true, true] rfl rfl (any_of HT_.out (by kernel_rfl)) (fun _ _ _ h => h) (Or.inl ⟨by rfl, ?_⟩) ?_ ?_
       rotate_left
       ·intro w'
        go_simp
        with_reducible rfl
       rotate_left
       ·simp only [Act.put, zA, zB, zC, i64_w, i32_w]
        rfl
       refine done_ (done_of HT_.out (by kernel_rfl)) ?_
       try go_wp2
       go_ret
       exact ⟨by first | rfl | (simp [errW_none, errW_some] <;> rfl) | (simp [*, errW_none, errW_some] <;> rfl), by repeat (first | (with_reducible first | exact HB.out | apply yO | apply yN | apply yP | refine yQ ?_ GE151.out) | exact HB.out)⟩
      ·rw [if_neg c20] at H
       exact absurd H (by simp)
     ·rw [if_neg c18] at H
      exact absurd H (by simp)
    ·rw [if_neg c16] at H
     have c16b0 : (((rd_T33 l0 a1).f0) == 2) = false := beq_eq_false_iff_ne.mpr c16
     have c16b1 : (((rd_T33 l0 a1).f0) != 2) = true := bne_iff_ne.mpr c16
     by_cases c27 : ((rd_T33 l0 a1).f0) = 3
     ·rw [if_pos c27] at H
      have c27b0 : (((rd_T33 l0 a1).f0) == 3) = true := beq_iff_eq.mpr c27
      have c27b1 : (((rd_T33 l0 a1).f0) != 3) = false := bne_eq_false_iff_eq.mpr c27
      clear c27
      replace H := Option.bind_eq_some_iff.mp H
      obtain ⟨t156, A280, H⟩ := H
      replace H : (if 1 + t156.size ≤ 9223372036854775807 then ((spec_FormatInt.f k ((rd_T33 l0 a1).f2)).bind fun t157 => (if ((⟨#[43]⟩ : ByteArray) ++ t156).size + t157.size ≤ 9223372036854775807 then ((spec_FormatInt.f k ((rd_T33 l0 a1).f3)).bind fun t158 => (if (((⟨#[43]⟩ : ByteArray) ++ t156) ++ t157).size + t158.size ≤ 9223372036854775807 then (some ((((⟨#[43]⟩ : ByteArray) ++ t156) ++ t157) ++ t158)) else (none))) else (none))) else (none)) = some r := H
      have A28 := yA A280
      clear A280
      by_cases c29 : 1 + t156.size ≤ 9223372036854775807
      ·rw [if_pos c29] at H
       have c29b0 := eq_true c29
       have c29b1 : decide (1 + t156.size ≤ 9223372036854775807) = true := zH c29
       try have c29b2 : (9223372036854775807 < 1 + t156.size) = False := eq_false (Nat.not_lt.2 c29)
       try (have c29b4_ := c29; simp [show ∀ b_ : UInt8, (⟨#[b_]⟩ : ByteArray).size = 1 from fun _ => rfl, show (⟨#[32, 61, 60, 43, 35, 83, 33, 38, 124, 69, 65]⟩ : ByteArray).size = 11 from rfl] at c29b4_; have c29b3_ := eq_false (Nat.not_lt.2 c29b4_))
       try (have c29b5_ := c29; simp only [ByteArray.size_append, ByteArray.size_extract, show ∀ b_ : UInt8, (⟨#[b_]⟩ : ByteArray).size = 1 from fun _ => rfl, show (⟨#[32, 61, 60, 43, 35, 83, 33, 38, 124, 69, 65]⟩ : ByteArray).size = 11 from rfl] at c29b5_; have c29b6_ := eq_false (Nat.not_lt.2 c29b5_))
       replace H := Option.bind_eq_some_iff.mp H
       obtain ⟨t157, A300, H⟩ := H
       replace H : (if ((⟨#[43]⟩ : ByteArray) ++ t156).size + t157.size ≤ 9223372036854775807 then ((spec_FormatInt.f k ((rd_T33 l0 a1).f3)).bind fun t158 => (if (((⟨#[43]⟩ : ByteArray) ++ t156) ++ t157).size + t158.size ≤ 9223372036854775807 then (some ((((⟨#[43]⟩ : ByteArray) ++ t156) ++ t157) ++ t158)) else (none))) else (none)) = some r := H
       have A30 := yA A300
       clear A300
       by_cases c31 : ((⟨#[43]⟩ : ByteArray) ++ t156).size + t157.size ≤ 9223372036854775807
       ·rw [if_pos c31] at H
        have c31b0 := eq_true c31
        have c31b1 : decide (((⟨#[43]⟩ : ByteArray) ++ t156).size + t157.size ≤ 9223372036854775807) = true := zH c31
        try have c31b2 : (9223372036854775807 < ((⟨#[43]⟩ : ByteArray) ++ t156).size + t157.size) = False := eq_false (Nat.not_lt.2 c31)
        try (have c31b4_ := c31; simp [show ∀ b_ : UInt8, (⟨#[b_]⟩ : ByteArray).size = 1 from fun _ => rfl, show (⟨#[32, 61, 60, 43, 35, 83, 33, 38, 124, 69, 65]⟩ : ByteArray).size = 11 from rfl] at c31b4_; have c31b3_ := eq_false (Nat.not_lt.2 c31b4_))
        try (have c31b5_ := c31; simp only [ByteArray.size_append, ByteArray.size_extract, show ∀ b_ : UInt8, (⟨#[b_]⟩ : ByteArray).size = 1 from fun _ => rfl, show (⟨#[32, 61, 60, 43, 35, 83, 33, 38, 124, 69, 65]⟩ : ByteArray).size = 11 from rfl] at c31b5_; have c31b6_ := eq_false (Nat.not_lt.2 c31b5_))
        replace H := Option.bind_eq_some_iff.mp H
        obtain ⟨t158, A320, H⟩ := H
        replace H : (if (((⟨#[43]⟩ : ByteArray) ++ t156) ++ t157).size + t158.size ≤ 9223372036854775807 then (some ((((⟨#[43]⟩ : ByteArray) ++ t156) ++ t157) ++ t158)) else (none)) = some r := H
        have A32 := yA A320
        clear A320
        by_cases c33 : (((⟨#[43]⟩ : ByteArray) ++ t156) ++ t157).size + t158.size ≤ 9223372036854775807
        ·rw [if_pos c33] at H
         have c33b0 := eq_true c33
         have c33b1 : decide ((((⟨#[43]⟩ : ByteArray) ++ t156) ++ t157).size + t158.size ≤ 9223372036854775807) = true := zH c33
         try have c33b2 : (9223372036854775807 < (((⟨#[43]⟩ : ByteArray) ++ t156) ++ t157).size + t158.size) = False := eq_false (Nat.not_lt.2 c33)
         try (have c33b4_ := c33; simp [show ∀ b_ : UInt8, (⟨#[b_]⟩ : ByteArray).size = 1 from fun _ => rfl, show (⟨#[32, 61, 60, 43, 35, 83, 33, 38, 124, 69, 65]⟩ : ByteArray).size = 11 from rfl] at c33b4_; have c33b3_ := eq_false (Nat.not_lt.2 c33b4_))
         try (have c33b5_ := c33; simp only [ByteArray.size_append, ByteArray.size_extract, show ∀ b_ : UInt8, (⟨#[b_]⟩ : ByteArray).size = 1 from fun _ => rfl, show (⟨#[32, 61, 60, 43, 35, 83, 33, 38, 124, 69, 65]⟩ : ByteArray).size = 11 from rfl] at c33b5_; have c33b6_ := eq_false (Nat.not_lt.2 c33b5_))
         obtain rfl := zU H
         have p150 : 0 ≤ (a1 : Int) := zG (by first | (with_reducible assumption) | assumption)
         have q150 : a1 < (l0.length : Int) := zG (by first | (with_reducible assumption) | assumption)
         obtain ⟨ad150, e150, hx150_0, hx150_1, hx150_2, hx150_3⟩ := at_T33 HR0.out a1 p150 q150
         cases e150
         replace p150 := eq_true p150
         replace q150 := eq_true q150
         go_enter Tryd.func13, Tryd.ntmps13
         try go_wp2_with (first | ((with_reducible refine gate_dst (N := 5) rfl ?_); refine box_event ?hg (N := 5) ?hd (cs := #[.int .i64 0, .int .i64 0, .int .i64 0, .int .i64 0]) (t := 33) ?hr ?_; (case hd => rfl); (case hg => rfl); (case hr => first | (go_simp; done) | (go_simp; rfl)); intro gb151 hg w34 hbox hb; have n0_ := yA (zD (mB HB.out) hb); have n1_ := yA (hbox); have n2_ := yA ((by rw [hg]; exact (yX (mB HB.out)) : w.heap.size ≤ gb151)); have n3_ := yA ((by rw [hg]; exact (yX (mB HB.out)) : w.heap.size ≤ gb151)); clear HB; have HB := n0_; have BK151 := n1_; have GW151 := n2_; have GE151 := n3_; clear n0_ n1_ n2_ n3_; clear hb hbox hg; have hcz35_0 : w34.cell? ⟨gb151, 0, none⟩ = some (.int .i64 0) := (yV BK151.out 0).trans rfl; have hcz35_1 : w34.cell? ⟨gb151, 1, none⟩ = some (.int .i64 0) := (yV BK151.out 1).trans rfl; have hcz35_2 : w34.cell? ⟨gb151, 2, none⟩ = some (.int .i64 0) := (yV BK151.out 2).trans rfl; have hcz35_3 : w34.cell? ⟨gb151, 3, none⟩ = some (.int .i64 0) := (yV BK151.out 3).trans rfl; have hfz35_0 := yW BK151.out 0; have hfz35_1 := yW BK151.out 1; have hfz35_2 := yW BK151.out 2; have hfz35_3 := yW BK151.out 3))
         have n0_ : Aside0 (((((w34.setCell ⟨gb151, 0, none⟩ (.int .i64 ((rd_T33 l0 a1).f0))).setCell ⟨gb151, 1, none⟩ (.int .i64 ((rd_T33 l0 a1).f1))).setCell ⟨gb151, 2, none⟩ (.int .i64 ((rd_T33 l0 a1).f2))).setCell ⟨gb151, 3, none⟩ (.int .i64 ((rd_T33 l0 a1).f3))).heap[gb151]? = some (.cells #[.int .i64 ((rd_T33 l0 a1).f0), .int .i64 ((rd_T33 l0 a1).f1), .int .i64 ((rd_T33 l0 a1).f2), .int .i64 ((rd_T33 l0 a1).f3)] 33 (0, 0))) := ⟨by (with_reducible repeat (first | refine yS ?_ _ | refine yT ?_ | refine yR ?_ _)); refine blk_put (cs := #[.int .i64 ((rd_T33 l0 a1).f0), .int .i64 ((rd_T33 l0 a1).f1), .int .i64 ((rd_T33 l0 a1).f2), .int .i64 0]) ?_ 3 _ rfl; (with_reducible repeat (first | refine yS ?_ _ | refine yT ?_ | refine yR ?_ _)); refine blk_put (cs := #[.int .i64 ((rd_T33 l0 a1).f0), .int .i64 ((rd_T33 l0 a1).f1), .int .i64 0, .int .i64 0]) ?_ 2 _ rfl; (with_reducible repeat (first | refine yS ?_ _ | refine yT ?_ | refine yR ?_ _)); refine blk_put (cs := #[.int .i64 ((rd_T33 l0 a1).f0), .int .i64 0, .int .i64 0, .int .i64 0]) ?_ 1 _ rfl; (with_reducible repeat (first | refine yS ?_ _ | refine yT ?_ | refine yR ?_ _)); refine blk_put (cs := #[.int .i64 0, .int .i64 0, .int .i64 0, .int .i64 0]) ?_ 0 _ rfl; (with_reducible repeat (first | refine yS ?_ _ | refine yT ?_ | refine yR ?_ _)); exact BK151.out⟩
         have n1_ : Aside0 (Below w.heap.size w ((((w34.setCell ⟨gb151, 0, none⟩ (.int .i64 ((rd_T33 l0 a1).f0))).setCell ⟨gb151, 1, none⟩ (.int .i64 ((rd_T33 l0 a1).f1))).setCell ⟨gb151, 2, none⟩ (.int .i64 ((rd_T33 l0 a1).f2))).setCell ⟨gb151, 3, none⟩ (.int .i64 ((rd_T33 l0 a1).f3)))) := ⟨by repeat (first | (with_reducible first | exact HB.out | apply yO | apply yN | apply yP | refine yQ ?_ GE151.out) | exact HB.out)⟩
         (try clear BK151)
         (try clear HB)
         generalize ((((w34.setCell ⟨gb151, 0, none⟩ (.int .i64 ((rd_T33 l0 a1).f0))).setCell ⟨gb151, 1, none⟩ (.int .i64 ((rd_T33 l0 a1).f1))).setCell ⟨gb151, 2, none⟩ (.int .i64 ((rd_T33 l0 a1).f2))).setCell ⟨gb151, 3, none⟩ (.int .i64 ((rd_T33 l0 a1).f3))) = w36 at n0_ n1_ ⊢
         have BK151 := n0_
         have HB := n1_
         clear n0_ n1_
         have n0_ := yA (yT BK151.out)
         have n1_ := yA (yP HB.out)
         clear BK151
         clear HB
         have BK151 := n0_
         have HB := n1_
         clear n0_ n1_
         refine start_ (n := 13) (S := fun w' => w'.cell? ⟨gb151, 0, none⟩ = some (.int .i64 ((rd_T33 l0 a1).f0)) ∧ w'.cell? ⟨gb151, 1, none⟩ = some (.int .i64 ((rd_T33 l0 a1).f1)) ∧ w'.cell? ⟨gb151, 2, none⟩ = some (.int .i64 ((rd_T33 l0 a1).f2)) ∧ w'.cell? ⟨gb151, 3, none⟩ = some (.int .i64 ((rd_T33 l0 a1).f3))) (ds := []) #[false, false, false, false, false, false, false, false, false, false, false, false, false] (by kernel_rfl) rfl rfl ⟨(yV BK151.out 0).trans rfl, (yV BK151.out 1).trans rfl, (yV BK151.out 2).trans rfl, (yV BK151.out 3).trans rfl⟩ (fun hHeld => ?_); refine with_tabW spec_l16Text.tab8 spec_l16Text.bits8 (fun HT_ HW_ => ?_)
         generalize w36.drew = w37 at BK151 HB hHeld ⊢
         refine pure_ (i := 0) (N := some 34) (v := ?_) (a' := ?_) #[true, false, false, false, false, false, false, false, false, false, false, false, false] rfl rfl (any_of HT_.out (by kernel_rfl)) (fun _ _ _ h => h) (Or.inl ⟨by rfl, ?_⟩) ?_ ?_
         rotate_left
         ·intro w'
          go_simp
          with_reducible rfl
         rotate_left
         ·simp only [Act.put, zA, zB, zC, i64_w, i32_w]
          rfl
         refine pure_ (i := 4) (N := some 38) (v := ?_) (a' := ?_) #[true, false, false, false, true, false, false, false, false, false, false, false, false] rfl rfl (any_of HT_.out (by kernel_rfl)) (fun _ _ _ h => h) (Or.inl ⟨by rfl, ?_⟩) ?_ ?_
         rotate_left
         ·intro w'
          go_simp
          with_reducible rfl
         rotate_left
         ·simp only [Act.put, zA, zB, zC, i64_w, i32_w]
          rfl
         refine pure_ (i := 8) (N := some 42) (v := ?_) (a' := ?_) #[true, false, false, false, true, false, false, false, true, false, false, false, false] rfl rfl (any_of HT_.out (by kernel_rfl)) (fun _ _ _ h => h) (Or.inl ⟨by rfl, ?_⟩) ?_ ?_
         rotate_left
         ·intro w'
          go_simp
          with_reducible rfl
         rotate_left
         ·simp only [Act.put, zA, zB, zC, i64_w, i32_w]
          rfl
         refine take_ (i := 1) (N := some 35) (v := ?_) (a' := ?_) #[true, true, false, false, true, false, false, false, true, false, false, false, false] rfl rfl (take_ofW HT_.out HW_.out (by kernel_rfl)) (fun _ _ _ h => h) (Or.inl ⟨by rfl, ?_⟩) hHeld ?_ ?_
         rotate_left
         ·rintro w' ⟨s0, s1, s2, s3⟩
          go_simp
          with_reducible rfl
         rotate_left
         ·simp only [Act.put, zA, zB, zC, i64_w, i32_w]
          rfl
         refine take_ (i := 5) (N := some 39) (v := ?_) (a' := ?_) #[true, true, false, false, true, true, false, false, true, false, false, false, false] rfl rfl (take_ofW HT_.out HW_.out (by kernel_rfl)) (fun _ _ _ h => h) (Or.inl ⟨by rfl, ?_⟩) hHeld ?_ ?_
         rotate_left
         ·rintro w' ⟨s0, s1, s2, s3⟩
          go_simp
          with_reducible rfl
         rotate_left
         ·simp only [Act.put, zA, zB, zC, i64_w, i32_w]
          rfl
         refine take_ (i := 9) (N := some 43) (v := ?_) (a' := ?_) #[true, true, false, false, true, true, false, false, true, true, false, false, false] rfl rfl (take_ofW HT_.out HW_.out (by kernel_rfl)) (fun _ _ _ h => h) (Or.inl ⟨by rfl, ?_⟩) hHeld ?_ ?_
         rotate_left
         ·rintro w' ⟨s0, s1, s2, s3⟩
          go_simp
          with_reducible rfl
         rotate_left
         ·simp only [Act.put, zA, zB, zC, i64_w, i32_w]
          rfl
         refine one_ (i := 2) (N := some 36) #[true, true, true, false, true, true, false, false, true, true, false, false, false] rfl rfl (one_of HT_.out (by kernel_rfl)) (by decide) (fun K hK => ?_)
         refine goes_ Tryd.func21 (by kernel_rfl) rfl #[.int .i64 ((rd_T33 l0 a1).f1)] (by rfl) rfl rfl (by (try simp only [zI, zJ, zK]); first | done | rfl | (simp only [zL, zM]; rfl)) ?_
         with_reducible refine (spec_FormatInt.calls k ((rd_T33 l0 a1).f1) t156 _ A28.out).mono ?_
         rintro e w38 ⟨rfl, hb⟩
         refine ⟨_, rfl, ?_⟩
         have n0_ := yA (yU (mK BK151.out) hb)
         have n1_ := yA (zD (by with_reducible repeat first | exact HB.out | apply yO | apply yN | apply yP | refine yQ ?_ GE151.out) hb)
         clear BK151
         clear HB
         have BK151 := n0_
         have HB := n1_
         clear n0_ n1_
         (try clear hb)
         (try clear hb2)
         (try clear hk)
         (try clear hi)
         refine hK.out _ _ ⟨(yV BK151.out 0).trans rfl, (yV BK151.out 1).trans rfl, (yV BK151.out 2).trans rfl, (yV BK151.out 3).trans rfl⟩ (fun hHeld => ?_)
         clear hK K
         refine norm_ (a' := ?_) ?_ ?_
         rotate_left
         ·show Act.put _ (some 36) _ = _
          simp only [Act.put, zA, zB, zC, i64_w, i32_w]
          rfl
         refine pure_ (i := 3) (N := some 37) (v := ?_) (a' := ?_) #[true, true, true, true, true, true, false, false, true, true, false, false, false] rfl rfl (any_of HT_.out (by kernel_rfl)) (fun _ _ _ h => h) (Or.inl ⟨by rfl, ?_⟩) ?_ ?_
         rotate_left
         ·intro w'
          go_simp
          with_reducible rfl
         rotate_left
         ·simp only [Act.put, zA, zB, zC, i64_w, i32_w]
          rfl
         refine one_ (i := 6) (N := some 40) #[true, true, true, true, true, true, true, false, true, true, false, false, false] rfl rfl (one_of HT_.out (by kernel_rfl)) (by decide) (fun K hK => ?_)
         refine goes_ Tryd.func21 (by kernel_rfl) rfl #[.int .i64 ((rd_T33 l0 a1).f2)] (by rfl) rfl rfl (by (try simp only [zI, zJ, zK]); first | done | rfl | (simp only [zL, zM]; rfl)) ?_
         with_reducible refine (spec_FormatInt.calls k ((rd_T33 l0 a1).f2) t157 _ A30.out).mono ?_
         rintro e w39 ⟨rfl, hb⟩
         refine ⟨_, rfl, ?_⟩
         have n0_ := yA (yU (mK BK151.out) hb)
         have n1_ := yA (zD (by with_reducible repeat first | exact HB.out | apply yO | apply yN | apply yP | refine yQ ?_ GE151.out) hb)
         clear BK151
         clear HB
         have BK151 := n0_
         have HB := n1_
         clear n0_ n1_
         (try clear hb)
         (try clear hb2)
         (try clear hk)
         (try clear hi)
         refine hK.out _ _ ⟨(yV BK151.out 0).trans rfl, (yV BK151.out 1).trans rfl, (yV BK151.out 2).trans rfl, (yV BK151.out 3).trans rfl⟩ (fun hHeld => ?_)
         clear hK K
         refine norm_ (a' := ?_) ?_ ?_
         rotate_left
         ·show Act.put _ (some 40) _ = _
          simp only [Act.put, zA, zB, zC, i64_w, i32_w]
          rfl
         refine pure_ (i := 7) (N := some 41) (v := ?_) (a' := ?_) #[true, true, true, true, true, true, true, true, true, true, false, false, false] rfl rfl (any_of HT_.out (by kernel_rfl)) (fun _ _ _ h => h) (Or.inl ⟨by rfl, ?_⟩) ?_ ?_
         rotate_left
         ·intro w'
          go_simp
          with_reducible rfl
         rotate_left
         ·simp only [Act.put, zA, zB, zC, i64_w, i32_w]
          rfl
         refine one_ (i := 10) (N := some 44) #[true, true, true, true, true, true, true, true, true, true, true, false, false] rfl rfl (one_of HT_.out (by kernel_rfl)) (by decide) (fun K hK => ?_)
         refine goes_ Tryd.func21 (by kernel_rfl) rfl #[.int .i64 ((rd_T33 l0 a1).f3)] (by rfl) rfl rfl (by (try simp only [zI, zJ, zK]); first | done | rfl | (simp only [zL, zM]; rfl)) ?_
         with_reducible refine (spec_FormatInt.calls k ((rd_T33 l0 a1).f3) t158 _ A32.out).mono ?_
         rintro e w40 ⟨rfl, hb⟩
         refine ⟨_, rfl, ?_⟩
         have n0_ := yA (yU (mK BK151.out) hb)
         have n1_ := yA (zD (by with_reducible repeat first | exact HB.out | apply yO | apply yN | apply yP | refine yQ ?_ GE151.out) hb)
         clear BK151
         clear HB
         have BK151 := n0_
         have HB := n1_
         clear n0_ n1_
         (try clear hb)
         (try clear hb2)
         (try clear hk)
         (try clear hi)
         refine hK.out _ _ ⟨(yV BK151.out 0).trans rfl, (yV BK151.out 1).trans rfl, (yV BK151.out 2).trans rfl, (yV BK151.out 3).trans rfl⟩ (fun hHeld => ?_)
         clear hK K
         refine norm_ (a' := ?_) ?_ ?_
         rotate_left
         ·show Act.put _ (some 44) _ = _
          simp only [Act.put, zA, zB, zC, i64_w, i32_w]
          rfl
         refine pure_ (i := 11) (N := some 45) (v := ?_) (a' := ?_) #[true, true, true, true, true, true, true, true, true, true, true, true, false] rfl rfl (any_of HT_.out (by kernel_rfl)) (fun _ _ _ h => h) (Or.inl ⟨by rfl, ?_⟩) ?_ ?_
         rotate_left
         ·intro w'
          go_simp
          with_reducible rfl
         rotate_left
         ·simp only [Act.put, zA, zB, zC, i64_w, i32_w]
          rfl
         refine pure_ (i := 12) (N := some 4) (v := ?_) (a' := ?_) #[true, true, true, true, true, true, true, true, true, true, true, true, true] rfl rfl (any_of HT_.out (by kernel_rfl)) (fun _ _ _ h => h) (Or.inl ⟨by rfl, ?_⟩) ?_ ?_
         rotate_left
         ·intro w'
          go_simp
          with_reducible rfl
         rotate_left
         ·simp only [Act.put, zA, zB, zC, i64_w, i32_w]
          rfl
         refine done_ (done_of HT_.out (by kernel_rfl)) ?_
         try go_wp2
         go_ret
         exact ⟨by first | rfl | (simp [errW_none, errW_some] <;> rfl) | (simp [*, errW_none, errW_some] <;> rfl), by repeat (first | (with_reducible first | exact HB.out | apply yO | apply yN | apply yP | refine yQ ?_ GE151.out) | exact HB.out)⟩
        ·rw [if_neg c33] at H
         exact absurd H (by simp)
       ·rw [if_neg c31] at H
        exact absurd H (by simp)
      ·rw [if_neg c29] at H
       exact absurd H (by simp)
     ·rw [if_neg c27] at H
      have c27b0 : (((rd_T33 l0 a1).f0) == 3) = false := beq_eq_false_iff_ne.mpr c27
      have c27b1 : (((rd_T33 l0 a1).f0) != 3) = true := bne_iff_ne.mpr c27
      by_cases c41 : ((rd_T33 l0 a1).f0) = 4
      ·rw [if_pos c41] at H
       have c41b0 : (((rd_T33 l0 a1).f0) == 4) = true := beq_iff_eq.mpr c41
       have c41b1 : (((rd_T33 l0 a1).f0) != 4) = false := bne_eq_false_iff_eq.mpr c41
       clear c41
       replace H := Option.bind_eq_some_iff.mp H
       obtain ⟨t159, A420, H⟩ := H
       replace H : (if 1 + t159.size ≤ 9223372036854775807 then ((spec_FormatInt.f k ((rd_T33 l0 a1).f2)).bind fun t160 => (if ((⟨#[35]⟩ : ByteArray) ++ t159).size + t160.size ≤ 9223372036854775807 then (if (((⟨#[35]⟩ : ByteArray) ++ t159) ++ t160).size + 1 ≤ 9223372036854775807 then (some ((((⟨#[35]⟩ : ByteArray) ++ t159) ++ t160) ++ (⟨#[46]⟩ : ByteArray))) else (none)) else (none))) else (none)) = some r := H
       have A42 := yA A420
       clear A420
       by_cases c43 : 1 + t159.size ≤ 9223372036854775807
       ·rw [if_pos c43] at H
        have c43b0 := eq_true c43
        have c43b1 : decide (1 + t159.size ≤ 9223372036854775807) = true := zH c43
        try have c43b2 : (9223372036854775807 < 1 + t159.size) = False := eq_false (Nat.not_lt.2 c43)
        try (have c43b4_ := c43; simp [show ∀ b_ : UInt8, (⟨#[b_]⟩ : ByteArray).size = 1 from fun _ => rfl, show (⟨#[32, 61, 60, 43, 35, 83, 33, 38, 124, 69, 65]⟩ : ByteArray).size = 11 from rfl] at c43b4_; have c43b3_ := eq_false (Nat.not_lt.2 c43b4_))
        try (have c43b5_ := c43; simp only [ByteArray.size_append, ByteArray.size_extract, show ∀ b_ : UInt8, (⟨#[b_]⟩ : ByteArray).size = 1 from fun _ => rfl, show (⟨#[32, 61, 60, 43, 35, 83, 33, 38, 124, 69, 65]⟩ : ByteArray).size = 11 from rfl] at c43b5_; have c43b6_ := eq_false (Nat.not_lt.2 c43b5_))
        replace H := Option.bind_eq_some_iff.mp H
        obtain ⟨t160, A440, H⟩ := H
        replace H : (if ((⟨#[35]⟩ : ByteArray) ++ t159).size + t160.size ≤ 9223372036854775807 then (if (((⟨#[35]⟩ : ByteArray) ++ t159) ++ t160).size + 1 ≤ 9223372036854775807 then (some ((((⟨#[35]⟩ : ByteArray) ++ t159) ++ t160) ++ (⟨#[46]⟩ : ByteArray))) else (none)) else (none)) = some r := H
        have A44 := yA A440
        clear A440
        by_cases c45 : ((⟨#[35]⟩ : ByteArray) ++ t159).size + t160.size ≤ 9223372036854775807
        ·rw [if_pos c45] at H
         have c45b0 := eq_true c45
         have c45b1 : decide (((⟨#[35]⟩ : ByteArray) ++ t159).size + t160.size ≤ 9223372036854775807) = true := zH c45
         try have c45b2 : (9223372036854775807 < ((⟨#[35]⟩ : ByteArray) ++ t159).size + t160.size) = False := eq_false (Nat.not_lt.2 c45)
         try (have c45b4_ := c45; simp [show ∀ b_ : UInt8, (⟨#[b_]⟩ : ByteArray).size = 1 from fun _ => rfl, show (⟨#[32, 61, 60, 43, 35, 83, 33, 38, 124, 69, 65]⟩ : ByteArray).size = 11 from rfl] at c45b4_; have c45b3_ := eq_false (Nat.not_lt.2 c45b4_))
         try (have c45b5_ := c45; simp only [ByteArray.size_append, ByteArray.size_extract, show ∀ b_ : UInt8, (⟨#[b_]⟩ : ByteArray).size = 1 from fun _ => rfl, show (⟨#[32, 61, 60, 43, 35, 83, 33, 38, 124, 69, 65]⟩ : ByteArray).size = 11 from rfl] at c45b5_; have c45b6_ := eq_false (Nat.not_lt.2 c45b5_))
         by_cases c46 : (((⟨#[35]⟩ : ByteArray) ++ t159) ++ t160).size + 1 ≤ 9223372036854775807
         ·rw [if_pos c46] at H
          have c46b0 := eq_true c46
          have c46b1 : decide ((((⟨#[35]⟩ : ByteArray) ++ t159) ++ t160).size + 1 ≤ 9223372036854775807) = true := zH c46
          try have c46b2 : (9223372036854775807 < (((⟨#[35]⟩ : ByteArray) ++ t159) ++ t160).size + 1) = False := eq_false (Nat.not_lt.2 c46)
          try (have c46b4_ := c46; simp [show ∀ b_ : UInt8, (⟨#[b_]⟩ : ByteArray).size = 1 from fun _ => rfl, show (⟨#[32, 61, 60, 43, 35, 83, 33, 38, 124, 69, 65]⟩ : ByteArray).size = 11 from rfl] at c46b4_; have c46b3_ := eq_false (Nat.not_lt.2 c46b4_))
          try (have c46b5_ := c46; simp only [ByteArray.size_append, ByteArray.size_extract, show ∀ b_ : UInt8, (⟨#[b_]⟩ : ByteArray).size = 1 from fun _ => rfl, show (⟨#[32, 61, 60, 43, 35, 83, 33, 38, 124, 69, 65]⟩ : ByteArray).size = 11 from rfl] at c46b5_; have c46b6_ := eq_false (Nat.not_lt.2 c46b5_))
          obtain rfl := zU H
          have p150 : 0 ≤ (a1 : Int) := zG (by first | (with_reducible assumption) | assumption)
          have q150 : a1 < (l0.length : Int) := zG (by first | (with_reducible assumption) | assumption)
          obtain ⟨ad150, e150, hx150_0, hx150_1, hx150_2, hx150_3⟩ := at_T33 HR0.out a1 p150 q150
          cases e150
          replace p150 := eq_true p150
          replace q150 := eq_true q150
          go_enter Tryd.func13, Tryd.ntmps13
          try go_wp2_with (first | ((with_reducible refine gate_dst (N := 5) rfl ?_); refine box_event ?hg (N := 5) ?hd (cs := #[.int .i64 0, .int .i64 0, .int .i64 0, .int .i64 0]) (t := 33) ?hr ?_; (case hd => rfl); (case hg => rfl); (case hr => first | (go_simp; done) | (go_simp; rfl)); intro gb151 hg w47 hbox hb; have n0_ := yA (zD (mB HB.out) hb); have n1_ := yA (hbox); have n2_ := yA ((by rw [hg]; exact (yX (mB HB.out)) : w.heap.size ≤ gb151)); have n3_ := yA ((by rw [hg]; exact (yX (mB HB.out)) : w.heap.size ≤ gb151)); clear HB; have HB := n0_; have BK151 := n1_; have GW151 := n2_; have GE151 := n3_; clear n0_ n1_ n2_ n3_; clear hb hbox hg; have hcz48_0 : w47.cell? ⟨gb151, 0, none⟩ = some (.int .i64 0) := (yV BK151.out 0).trans rfl; have hcz48_1 : w47.cell? ⟨gb151, 1, none⟩ = some (.int .i64 0) := (yV BK151.out 1).trans rfl; have hcz48_2 : w47.cell? ⟨gb151, 2, none⟩ = some (.int .i64 0) := (yV BK151.out 2).trans rfl; have hcz48_3 : w47.cell? ⟨gb151, 3, none⟩ = some (.int .i64 0) := (yV BK151.out 3).trans rfl; have hfz48_0 := yW BK151.out 0; have hfz48_1 := yW BK151.out 1; have hfz48_2 := yW BK151.out 2; have hfz48_3 := yW BK151.out 3))
          have n0_ : Aside0 (((((w47.setCell ⟨gb151, 0, none⟩ (.int .i64 ((rd_T33 l0 a1).f0))).setCell ⟨gb151, 1, none⟩ (.int .i64 ((rd_T33 l0 a1).f1))).setCell ⟨gb151, 2, none⟩ (.int .i64 ((rd_T33 l0 a1).f2))).setCell ⟨gb151, 3, none⟩ (.int .i64 ((rd_T33 l0 a1).f3))).heap[gb151]? = some (.cells #[.int .i64 ((rd_T33 l0 a1).f0), .int .i64 ((rd_T33 l0 a1).f1), .int .i64 ((rd_T33 l0 a1).f2), .int .i64 ((rd_T33 l0 a1).f3)] 33 (0, 0))) := ⟨by (with_reducible repeat (first | refine yS ?_ _ | refine yT ?_ | refine yR ?_ _)); refine blk_put (cs := #[.int .i64 ((rd_T33 l0 a1).f0), .int .i64 ((rd_T33 l0 a1).f1), .int .i64 ((rd_T33 l0 a1).f2), .int .i64 0]) ?_ 3 _ rfl; (with_reducible repeat (first | refine yS ?_ _ | refine yT ?_ | refine yR ?_ _)); refine blk_put (cs := #[.int .i64 ((rd_T33 l0 a1).f0), .int .i64 ((rd_T33 l0 a1).f1), .int .i64 0, .int .i64 0]) ?_ 2 _ rfl; (with_reducible repeat (first | refine yS ?_ _ | refine yT ?_ | refine yR ?_ _)); refine blk_put (cs := #[.int .i64 ((rd_T33 l0 a1).f0), .int .i64 0, .int .i64 0, .int .i64 0]) ?_ 1 _ rfl; (with_reducible repeat (first | refine yS ?_ _ | refine yT ?_ | refine yR ?_ _)); refine blk_put (cs := #[.int .i64 0, .int .i64 0, .int .i64 0, .int .i64 0]) ?_ 0 _ rfl; (with_reducible repeat (first | refine yS ?_ _ | refine yT ?_ | refine yR ?_ _)); exact BK151.out⟩
          have n1_ : Aside0 (Below w.heap.size w ((((w47.setCell ⟨gb151, 0, none⟩ (.int .i64 ((rd_T33 l0 a1).f0))).setCell ⟨gb151, 1, none⟩ (.int .i64 ((rd_T33 l0 a1).f1))).setCell ⟨gb151, 2, none⟩ (.int .i64 ((rd_T33 l0 a1).f2))).setCell ⟨gb151, 3, none⟩ (.int .i64 ((rd_T33 l0 a1).f3)))) := ⟨by repeat (first | (with_reducible first | exact HB.out | apply yO | apply yN | apply yP | refine yQ ?_ GE151.out) | exact HB.out)⟩
          (try clear BK151)
          (try clear HB)
          generalize ((((w47.setCell ⟨gb151, 0, none⟩ (.int .i64 ((rd_T33 l0 a1).f0))).setCell ⟨gb151, 1, none⟩ (.int .i64 ((rd_T33 l0 a1).f1))).setCell ⟨gb151, 2, none⟩ (.int .i64 ((rd_T33 l0 a1).f2))).setCell ⟨gb151, 3, none⟩ (.int .i64 ((rd_T33 l0 a1).f3))) = w49 at n0_ n1_ ⊢
          have BK151 := n0_
          have HB := n1_
          clear n0_ n1_
          have n0_ := yA (yT BK151.out)
          have n1_ := yA (yP HB.out)
          clear BK151
          clear HB
          have BK151 := n0_
          have HB := n1_
          clear n0_ n1_
          refine start_ (n := 10) (S := fun w' => w'.cell? ⟨gb151, 0, none⟩ = some (.int .i64 ((rd_T33 l0 a1).f0)) ∧ w'.cell? ⟨gb151, 1, none⟩ = some (.int .i64 ((rd_T33 l0 a1).f1)) ∧ w'.cell? ⟨gb151, 2, none⟩ = some (.int .i64 ((rd_T33 l0 a1).f2)) ∧ w'.cell? ⟨gb151, 3, none⟩ = some (.int .i64 ((rd_T33 l0 a1).f3))) (ds := []) #[false, false, false, false, false, false, false, false, false, false] (by kernel_rfl) rfl rfl ⟨(yV BK151.out 0).trans rfl, (yV BK151.out 1).trans rfl, (yV BK151.out 2).trans rfl, (yV BK151.out 3).trans rfl⟩ (fun hHeld => ?_); refine with_tabW spec_l16Text.tab10 spec_l16Text.bits10 (fun HT_ HW_ => ?_)
          generalize w49.drew = w50 at BK151 HB hHeld ⊢
          refine pure_ (i := 0) (N := some 48) (v := ?_) (a' := ?_) #[true, false, false, false, false, false, false, false, false, false] rfl rfl (any_of HT_.out (by kernel_rfl)) (fun _ _ _ h => h) (Or.inl ⟨by rfl, ?_⟩) ?_ ?_
          rotate_left
          ·intro w'
           go_simp
           with_reducible rfl
          rotate_left
          ·simp only [Act.put, zA, zB, zC, i64_w, i32_w]
           rfl
          refine pure_ (i := 4) (N := some 52) (v := ?_) (a' := ?_) #[true, false, false, false, true, false, false, false, false, false] rfl rfl (any_of HT_.out (by kernel_rfl)) (fun _ _ _ h => h) (Or.inl ⟨by rfl, ?_⟩) ?_ ?_
          rotate_left
          ·intro w'
           go_simp
           with_reducible rfl
          rotate_left
          ·simp only [Act.put, zA, zB, zC, i64_w, i32_w]
           rfl
          refine take_ (i := 1) (N := some 49) (v := ?_) (a' := ?_) #[true, true, false, false, true, false, false, false, false, false] rfl rfl (take_ofW HT_.out HW_.out (by kernel_rfl)) (fun _ _ _ h => h) (Or.inl ⟨by rfl, ?_⟩) hHeld ?_ ?_
          rotate_left
          ·rintro w' ⟨s0, s1, s2, s3⟩
           go_simp
           with_reducible rfl
          rotate_left
          ·simp only [Act.put, zA, zB, zC, i64_w, i32_w]
           rfl
          refine take_ (i := 5) (N := some 53) (v := ?_) (a' := ?_) #[true, true, false, false, true, true, false, false, false, false] rfl rfl (take_ofW HT_.out HW_.out (by kernel_rfl)) (fun _ _ _ h => h) (Or.inl ⟨by rfl, ?_⟩) hHeld ?_ ?_
          rotate_left
          ·rintro w' ⟨s0, s1, s2, s3⟩
           go_simp
           with_reducible rfl
          rotate_left
          ·simp only [Act.put, zA, zB, zC, i64_w, i32_w]
           rfl
          refine one_ (i := 2) (N := some 50) #[true, true, true, false, true, true, false, false, false, false] rfl rfl (one_of HT_.out (by kernel_rfl)) (by decide) (fun K hK => ?_)
          refine goes_ Tryd.func21 (by kernel_rfl) rfl #[.int .i64 ((rd_T33 l0 a1).f1)] (by rfl) rfl rfl (by (try simp only [zI, zJ, zK]); first | done | rfl | (simp only [zL, zM]; rfl)) ?_
          with_reducible refine (spec_FormatInt.calls k ((rd_T33 l0 a1).f1) t159 _ A42.out).mono ?_
          rintro e w51 ⟨rfl, hb⟩
          refine ⟨_, rfl, ?_⟩
          have n0_ := yA (yU (mK BK151.out) hb)
          have n1_ := yA (zD (by with_reducible repeat first | exact HB.out | apply yO | apply yN | apply yP | refine yQ ?_ GE151.out) hb)
          clear BK151
          clear HB
          have BK151 := n0_
          have HB := n1_
          clear n0_ n1_
          (try clear hb)
          (try clear hb2)
          (try clear hk)
          (try clear hi)
          refine hK.out _ _ ⟨(yV BK151.out 0).trans rfl, (yV BK151.out 1).trans rfl, (yV BK151.out 2).trans rfl, (yV BK151.out 3).trans rfl⟩ (fun hHeld => ?_)
          clear hK K
          refine norm_ (a' := ?_) ?_ ?_
          rotate_left
          ·show Act.put _ (some 50) _ = _
           simp only [Act.put, zA, zB, zC, i64_w, i32_w]
           rfl
          refine pure_ (i := 3) (N := some 51) (v := ?_) (a' := ?_) #[true, true, true, true, true, true, false, false, false, false] rfl rfl (any_of HT_.out (by kernel_rfl)) (fun _ _ _ h => h) (Or.inl ⟨by rfl, ?_⟩) ?_ ?_
          rotate_left
          ·intro w'
           go_simp
           with_reducible rfl
          rotate_left
          ·simp only [Act.put, zA, zB, zC, i64_w, i32_w]
           rfl
          refine one_ (i := 6) (N := some 54) #[true, true, true, true, true, true, true, false, false, false] rfl rfl (one_of HT_.out (by kernel_rfl)) (by decide) (fun K hK => ?_)
          refine goes_ Tryd.func21 (by kernel_rfl) rfl #[.int .i64 ((rd_T33 l0 a1).f2)] (by rfl) rfl rfl (by (try simp only [zI, zJ, zK]); first | done | rfl | (simp only [zL, zM]; rfl)) ?_
          with_reducible refine (spec_FormatInt.calls k ((rd_T33 l0 a1).f2) t160 _ A44.out).mono ?_
          rintro e w52 ⟨rfl, hb⟩
          refine ⟨_, rfl, ?_⟩
          have n0_ := yA (yU (mK BK151.out) hb)
          have n1_ := yA (zD (by with_reducible repeat first | exact HB.out | apply yO | apply yN | apply yP | refine yQ ?_ GE151.out) hb)
          clear BK151
          clear HB
          have BK151 := n0_
          have HB := n1_
          clear n0_ n1_
          (try clear hb)
          (try clear hb2)
          (try clear hk)
          (try clear hi)
          refine hK.out _ _ ⟨(yV BK151.out 0).trans rfl, (yV BK151.out 1).trans rfl, (yV BK151.out 2).trans rfl, (yV BK151.out 3).trans rfl⟩ (fun hHeld => ?_)
          clear hK K
          refine norm_ (a' := ?_) ?_ ?_
          rotate_left
          ·show Act.put _ (some 54) _ = _
           simp only [Act.put, zA, zB, zC, i64_w, i32_w]
           rfl
          refine pure_ (i := 7) (N := some 55) (v := ?_) (a' := ?_) #[true, true, true, true, true, true, true, true, false, false] rfl rfl (any_of HT_.out (by kernel_rfl)) (fun _ _ _ h => h) (Or.inl ⟨by rfl, ?_⟩) ?_ ?_
          rotate_left
          ·intro w'
           go_simp
           with_reducible rfl
          rotate_left
          ·simp only [Act.put, zA, zB, zC, i64_w, i32_w]
           rfl
          refine pure_ (i := 8) (N := some 56) (v := ?_) (a' := ?_) #[true, true, true, true, true, true, true, true, true, false] rfl rfl (any_of HT_.out (by kernel_rfl)) (fun _ _ _ h => h) (Or.inl ⟨by rfl, ?_⟩) ?_ ?_
          rotate_left
          ·intro w'
           go_simp
           with_reducible rfl
          rotate_left
          ·simp only [Act.put, zA, zB, zC, i64_w, i32_w]
           rfl
          refine pure_ (i := 9) (N := some 4) (v := ?_) (a' := ?_) #[true, true, true, true, true, true, true, true, true, true] rfl rfl (any_of HT_.out (by kernel_rfl)) (fun _ _ _ h => h) (Or.inl ⟨by rfl, ?_⟩) ?_ ?_
          rotate_left
          ·intro w'
           go_simp
           with_reducible rfl
          rotate_left
          ·simp only [Act.put, zA, zB, zC, i64_w, i32_w]
           rfl
          refine done_ (done_of HT_.out (by kernel_rfl)) ?_
          try go_wp2
          go_ret
          exact ⟨by first | rfl | (simp [errW_none, errW_some] <;> rfl) | (simp [*, errW_none, errW_some] <;> rfl), by repeat (first | (with_reducible first | exact HB.out | apply yO | apply yN | apply yP | refine yQ ?_ GE151.out) | exact HB.out)⟩
         ·rw [if_neg c46] at H
          exact absurd H (by simp)
        ·rw [if_neg c45] at H
         exact absurd H (by simp)
       ·rw [if_neg c43] at H
        exact absurd H (by simp)
      ·rw [if_neg c41] at H
       have c41b0 : (((rd_T33 l0 a1).f0) == 4) = false := beq_eq_false_iff_ne.mpr c41
       have c41b1 : (((rd_T33 l0 a1).f0) != 4) = true := bne_iff_ne.mpr c41
       by_cases c53 : ((rd_T33 l0 a1).f0) = 5
       ·rw [if_pos c53] at H
        have c53b0 : (((rd_T33 l0 a1).f0) == 5) = true := beq_iff_eq.mpr c53
        have c53b1 : (((rd_T33 l0 a1).f0) != 5) = false := bne_eq_false_iff_eq.mpr c53
        clear c53
        replace H := Option.bind_eq_some_iff.mp H
        obtain ⟨t161, A540, H⟩ := H
        replace H : (if 1 + t161.size ≤ 9223372036854775807 then ((spec_FormatInt.f k ((rd_T33 l0 a1).f2)).bind fun t162 => (if ((⟨#[83]⟩ : ByteArray) ++ t161).size + t162.size ≤ 9223372036854775807 then (some (((⟨#[83]⟩ : ByteArray) ++ t161) ++ t162)) else (none))) else (none)) = some r := H
        have A54 := yA A540
        clear A540
        by_cases c55 : 1 + t161.size ≤ 9223372036854775807
        ·rw [if_pos c55] at H
         have c55b0 := eq_true c55
         have c55b1 : decide (1 + t161.size ≤ 9223372036854775807) = true := zH c55
         try have c55b2 : (9223372036854775807 < 1 + t161.size) = False := eq_false (Nat.not_lt.2 c55)
         try (have c55b4_ := c55; simp [show ∀ b_ : UInt8, (⟨#[b_]⟩ : ByteArray).size = 1 from fun _ => rfl, show (⟨#[32, 61, 60, 43, 35, 83, 33, 38, 124, 69, 65]⟩ : ByteArray).size = 11 from rfl] at c55b4_; have c55b3_ := eq_false (Nat.not_lt.2 c55b4_))
         try (have c55b5_ := c55; simp only [ByteArray.size_append, ByteArray.size_extract, show ∀ b_ : UInt8, (⟨#[b_]⟩ : ByteArray).size = 1 from fun _ => rfl, show (⟨#[32, 61, 60, 43, 35, 83, 33, 38, 124, 69, 65]⟩ : ByteArray).size = 11 from rfl] at c55b5_; have c55b6_ := eq_false (Nat.not_lt.2 c55b5_))
         replace H := Option.bind_eq_some_iff.mp H
         obtain ⟨t162, A560, H⟩ := H
         replace H : (if ((⟨#[83]⟩ : ByteArray) ++ t161).size + t162.size ≤ 9223372036854775807 then (some (((⟨#[83]⟩ : ByteArray) ++ t161) ++ t162)) else (none)) = some r := H
         have A56 := yA A560
         clear A560
         by_cases c57 : ((⟨#[83]⟩ : ByteArray) ++ t161).size + t162.size ≤ 9223372036854775807
         ·rw [if_pos c57] at H
          have c57b0 := eq_true c57
          have c57b1 : decide (((⟨#[83]⟩ : ByteArray) ++ t161).size + t162.size ≤ 9223372036854775807) = true := zH c57
          try have c57b2 : (9223372036854775807 < ((⟨#[83]⟩ : ByteArray) ++ t161).size + t162.size) = False := eq_false (Nat.not_lt.2 c57)
          try (have c57b4_ := c57; simp [show ∀ b_ : UInt8, (⟨#[b_]⟩ : ByteArray).size = 1 from fun _ => rfl, show (⟨#[32, 61, 60, 43, 35, 83, 33, 38, 124, 69, 65]⟩ : ByteArray).size = 11 from rfl] at c57b4_; have c57b3_ := eq_false (Nat.not_lt.2 c57b4_))
          try (have c57b5_ := c57; simp only [ByteArray.size_append, ByteArray.size_extract, show ∀ b_ : UInt8, (⟨#[b_]⟩ : ByteArray).size = 1 from fun _ => rfl, show (⟨#[32, 61, 60, 43, 35, 83, 33, 38, 124, 69, 65]⟩ : ByteArray).size = 11 from rfl] at c57b5_; have c57b6_ := eq_false (Nat.not_lt.2 c57b5_))
          obtain rfl := zU H
          have p150 : 0 ≤ (a1 : Int) := zG (by first | (with_reducible assumption) | assumption)
          have q150 : a1 < (l0.length : Int) := zG (by first | (with_reducible assumption) | assumption)
          obtain ⟨ad150, e150, hx150_0, hx150_1, hx150_2, hx150_3⟩ := at_T33 HR0.out a1 p150 q150
          cases e150
          replace p150 := eq_true p150
          replace q150 := eq_true q150
          go_enter Tryd.func13, Tryd.ntmps13
          try go_wp2_with (first | ((with_reducible refine gate_dst (N := 5) rfl ?_); refine box_event ?hg (N := 5) ?hd (cs := #[.int .i64 0, .int .i64 0, .int .i64 0, .int .i64 0]) (t := 33) ?hr ?_; (case hd => rfl); (case hg => rfl); (case hr => first | (go_simp; done) | (go_simp; rfl)); intro gb151 hg w58 hbox hb; have n0_ := yA (zD (mB HB.out) hb); have n1_ := yA (hbox); have n2_ := yA ((by rw [hg]; exact (yX (mB HB.out)) : w.heap.size ≤ gb151)); have n3_ := yA ((by rw [hg]; exact (yX (mB HB.out)) : w.heap.size ≤ gb151)); clear HB; have HB := n0_; have BK151 := n1_; have GW151 := n2_; have GE151 := n3_; clear n0_ n1_ n2_ n3_; clear hb hbox hg; have hcz59_0 : w58.cell? ⟨gb151, 0, none⟩ = some (.int .i64 0) := (yV BK151.out 0).trans rfl; have hcz59_1 : w58.cell? ⟨gb151, 1, none⟩ = some (.int .i64 0) := (yV BK151.out 1).trans rfl; have hcz59_2 : w58.cell? ⟨gb151, 2, none⟩ = some (.int .i64 0) := (yV BK151.out 2).trans rfl; have hcz59_3 : w58.cell? ⟨gb151, 3, none⟩ = some (.int .i64 0) := (yV BK151.out 3).trans rfl; have hfz59_0 := yW BK151.out 0; have hfz59_1 := yW BK151.out 1; have hfz59_2 := yW BK151.out 2; have hfz59_3 := yW BK151.out 3))
          have n0_ : Aside0 (((((w58.setCell ⟨gb151, 0, none⟩ (.int .i64 ((rd_T33 l0 a1).f0))).setCell ⟨gb151, 1, none⟩ (.int .i64 ((rd_T33 l0 a1).f1))).setCell ⟨gb151, 2, none⟩ (.int .i64 ((rd_T33 l0 a1).f2))).setCell ⟨gb151, 3, none⟩ (.int .i64 ((rd_T33 l0 a1).f3))).heap[gb151]? = some (.cells #[.int .i64 ((rd_T33 l0 a1).f0), .int .i64 ((rd_T33 l0 a1).f1), .int .i64 ((rd_T33 l0 a1).f2), .int .i64 ((rd_T33 l0 a1).f3)] 33 (0, 0))) := ⟨by (with_reducible repeat (first | refine yS ?_ _ | refine yT ?_ | refine yR ?_ _)); refine blk_put (cs := #[.int .i64 ((rd_T33 l0 a1).f0), .int .i64 ((rd_T33 l0 a1).f1), .int .i64 ((rd_T33 l0 a1).f2), .int .i64 0]) ?_ 3 _ rfl; (with_reducible repeat (first | refine yS ?_ _ | refine yT ?_ | refine yR ?_ _)); refine blk_put (cs := #[.int .i64 ((rd_T33 l0 a1).f0), .int .i64 ((rd_T33 l0 a1).f1), .int .i64 0, .int .i64 0]) ?_ 2 _ rfl; (with_reducible repeat (first | refine yS ?_ _ | refine yT ?_ | refine yR ?_ _)); refine blk_put (cs := #[.int .i64 ((rd_T33 l0 a1).f0), .int .i64 0, .int .i64 0, .int .i64 0]) ?_ 1 _ rfl; (with_reducible repeat (first | refine yS ?_ _ | refine yT ?_ | refine yR ?_ _)); refine blk_put (cs := #[.int .i64 0, .int .i64 0, .int .i64 0, .int .i64 0]) ?_ 0 _ rfl; (with_reducible repeat (first | refine yS ?_ _ | refine yT ?_ | refine yR ?_ _)); exact BK151.out⟩
          have n1_ : Aside0 (Below w.heap.size w ((((w58.setCell ⟨gb151, 0, none⟩ (.int .i64 ((rd_T33 l0 a1).f0))).setCell ⟨gb151, 1, none⟩ (.int .i64 ((rd_T33 l0 a1).f1))).setCell ⟨gb151, 2, none⟩ (.int .i64 ((rd_T33 l0 a1).f2))).setCell ⟨gb151, 3, none⟩ (.int .i64 ((rd_T33 l0 a1).f3)))) := ⟨by repeat (first | (with_reducible first | exact HB.out | apply yO | apply yN | apply yP | refine yQ ?_ GE151.out) | exact HB.out)⟩
          (try clear BK151)
          (try clear HB)
          generalize ((((w58.setCell ⟨gb151, 0, none⟩ (.int .i64 ((rd_T33 l0 a1).f0))).setCell ⟨gb151, 1, none⟩ (.int .i64 ((rd_T33 l0 a1).f1))).setCell ⟨gb151, 2, none⟩ (.int .i64 ((rd_T33 l0 a1).f2))).setCell ⟨gb151, 3, none⟩ (.int .i64 ((rd_T33 l0 a1).f3))) = w60 at n0_ n1_ ⊢
          have BK151 := n0_
          have HB := n1_
          clear n0_ n1_
          have n0_ := yA (yT BK151.out)
          have n1_ := yA (yP HB.out)
          clear BK151
          clear HB
          have BK151 := n0_
          have HB := n1_
          clear n0_ n1_
          refine start_ (n := 9) (S := fun w' => w'.cell? ⟨gb151, 0, none⟩ = some (.int .i64 ((rd_T33 l0 a1).f0)) ∧ w'.cell? ⟨gb151, 1, none⟩ = some (.int .i64 ((rd_T33 l0 a1).f1)) ∧ w'.cell? ⟨gb151, 2, none⟩ = some (.int .i64 ((rd_T33 l0 a1).f2)) ∧ w'.cell? ⟨gb151, 3, none⟩ = some (.int .i64 ((rd_T33 l0 a1).f3))) (ds := []) #[false, false, false, false, false, false, false, false, false] (by kernel_rfl) rfl rfl ⟨(yV BK151.out 0).trans rfl, (yV BK151.out 1).trans rfl, (yV BK151.out 2).trans rfl, (yV BK151.out 3).trans rfl⟩ (fun hHeld => ?_); refine with_tabW spec_l16Text.tab12 spec_l16Text.bits12 (fun HT_ HW_ => ?_)
          generalize w60.drew = w61 at BK151 HB hHeld ⊢
          refine pure_ (i := 0) (N := some 59) (v := ?_) (a' := ?_) #[true, false, false, false, false, false, false, false, false] rfl rfl (any_of HT_.out (by kernel_rfl)) (fun _ _ _ h => h) (Or.inl ⟨by rfl, ?_⟩) ?_ ?_
          rotate_left
          ·intro w'
           go_simp
           with_reducible rfl
          rotate_left
          ·simp only [Act.put, zA, zB, zC, i64_w, i32_w]
           rfl
          refine pure_ (i := 4) (N := some 63) (v := ?_) (a' := ?_) #[true, false, false, false, true, false, false, false, false] rfl rfl (any_of HT_.out (by kernel_rfl)) (fun _ _ _ h => h) (Or.inl ⟨by rfl, ?_⟩) ?_ ?_
          rotate_left
          ·intro w'
           go_simp
           with_reducible rfl
          rotate_left
          ·simp only [Act.put, zA, zB, zC, i64_w, i32_w]
           rfl
          refine take_ (i := 1) (N := some 60) (v := ?_) (a' := ?_) #[true, true, false, false, true, false, false, false, false] rfl rfl (take_ofW HT_.out HW_.out (by kernel_rfl)) (fun _ _ _ h => h) (Or.inl ⟨by rfl, ?_⟩) hHeld ?_ ?_
          rotate_left
          ·rintro w' ⟨s0, s1, s2, s3⟩
           go_simp
           with_reducible rfl
          rotate_left
          ·simp only [Act.put, zA, zB, zC, i64_w, i32_w]
           rfl
          refine take_ (i := 5) (N := some 64) (v := ?_) (a' := ?_) #[true, true, false, false, true, true, false, false, false] rfl rfl (take_ofW HT_.out HW_.out (by kernel_rfl)) (fun _ _ _ h => h) (Or.inl ⟨by rfl, ?_⟩) hHeld ?_ ?_
          rotate_left
          ·rintro w' ⟨s0, s1, s2, s3⟩
           go_simp
           with_reducible rfl
          rotate_left
          ·simp only [Act.put, zA, zB, zC, i64_w, i32_w]
           rfl
          refine one_ (i := 2) (N := some 61) #[true, true, true, false, true, true, false, false, false] rfl rfl (one_of HT_.out (by kernel_rfl)) (by decide) (fun K hK => ?_)
          refine goes_ Tryd.func21 (by kernel_rfl) rfl #[.int .i64 ((rd_T33 l0 a1).f1)] (by rfl) rfl rfl (by (try simp only [zI, zJ, zK]); first | done | rfl | (simp only [zL, zM]; rfl)) ?_
          with_reducible refine (spec_FormatInt.calls k ((rd_T33 l0 a1).f1) t161 _ A54.out).mono ?_
          rintro e w62 ⟨rfl, hb⟩
          refine ⟨_, rfl, ?_⟩
          have n0_ := yA (yU (mK BK151.out) hb)
          have n1_ := yA (zD (by with_reducible repeat first | exact HB.out | apply yO | apply yN | apply yP | refine yQ ?_ GE151.out) hb)
          clear BK151
          clear HB
          have BK151 := n0_
          have HB := n1_
          clear n0_ n1_
          (try clear hb)
          (try clear hb2)
          (try clear hk)
          (try clear hi)
          refine hK.out _ _ ⟨(yV BK151.out 0).trans rfl, (yV BK151.out 1).trans rfl, (yV BK151.out 2).trans rfl, (yV BK151.out 3).trans rfl⟩ (fun hHeld => ?_)
          clear hK K
          refine norm_ (a' := ?_) ?_ ?_
          rotate_left
          ·show Act.put _ (some 61) _ = _
           simp only [Act.put, zA, zB, zC, i64_w, i32_w]
           rfl
          refine pure_ (i := 3) (N := some 62) (v := ?_) (a' := ?_) #[true, true, true, true, true, true, false, false, false] rfl rfl (any_of HT_.out (by kernel_rfl)) (fun _ _ _ h => h) (Or.inl ⟨by rfl, ?_⟩) ?_ ?_
          rotate_left
          ·intro w'
           go_simp
           with_reducible rfl
          rotate_left
          ·simp only [Act.put, zA, zB, zC, i64_w, i32_w]
           rfl
          refine one_ (i := 6) (N := some 65) #[true, true, true, true, true, true, true, false, false] rfl rfl (one_of HT_.out (by kernel_rfl)) (by decide) (fun K hK => ?_)
          refine goes_ Tryd.func21 (by kernel_rfl) rfl #[.int .i64 ((rd_T33 l0 a1).f2)] (by rfl) rfl rfl (by (try simp only [zI, zJ, zK]); first | done | rfl | (simp only [zL, zM]; rfl)) ?_
          with_reducible refine (spec_FormatInt.calls k ((rd_T33 l0 a1).f2) t162 _ A56.out).mono ?_
          rintro e w63 ⟨rfl, hb⟩
          refine ⟨_, rfl, ?_⟩
          have n0_ := yA (yU (mK BK151.out) hb)
          have n1_ := yA (zD (by with_reducible repeat first | exact HB.out | apply yO | apply yN | apply yP | refine yQ ?_ GE151.out) hb)
          clear BK151
          clear HB
          have BK151 := n0_
          have HB := n1_
          clear n0_ n1_
          (try clear hb)
          (try clear hb2)
          (try clear hk)
          (try clear hi)
          refine hK.out _ _ ⟨(yV BK151.out 0).trans rfl, (yV BK151.out 1).trans rfl, (yV BK151.out 2).trans rfl, (yV BK151.out 3).trans rfl⟩ (fun hHeld => ?_)
          clear hK K
          refine norm_ (a' := ?_) ?_ ?_
          rotate_left
          ·show Act.put _ (some 65) _ = _
           simp only [Act.put, zA, zB, zC, i64_w, i32_w]
           rfl
          refine pure_ (i := 7) (N := some 66) (v := ?_) (a' := ?_) #[true, true, true, true, true, true, true, true, false] rfl rfl (any_of HT_.out (by kernel_rfl)) (fun _ _ _ h => h) (Or.inl ⟨by rfl, ?_⟩) ?_ ?_
          rotate_left
          ·intro w'
           go_simp
           with_reducible rfl
          rotate_left
          ·simp only [Act.put, zA, zB, zC, i64_w, i32_w]
           rfl
          refine pure_ (i := 8) (N := some 4) (v := ?_) (a' := ?_) #[true, true, true, true, true, true, true, true, true] rfl rfl (any_of HT_.out (by kernel_rfl)) (fun _ _ _ h => h) (Or.inl ⟨by rfl, ?_⟩) ?_ ?_
          rotate_left
          ·intro w'
           go_simp
           with_reducible rfl
          rotate_left
          ·simp only [Act.put, zA, zB, zC, i64_w, i32_w]
           rfl
          refine done_ (done_of HT_.out (by kernel_rfl)) ?_
          try go_wp2
          go_ret
          exact ⟨by first | rfl | (simp [errW_none, errW_some] <;> rfl) | (simp [*, errW_none, errW_some] <;> rfl), by repeat (first | (with_reducible first | exact HB.out | apply yO | apply yN | apply yP | refine yQ ?_ GE151.out) | exact HB.out)⟩
         ·rw [if_neg c57] at H
          exact absurd H (by simp)
        ·rw [if_neg c55] at H
         exact absurd H (by simp)
       ·rw [if_neg c53] at H
        have c53b0 : (((rd_T33 l0 a1).f0) == 5) = false := beq_eq_false_iff_ne.mpr c53
        have c53b1 : (((rd_T33 l0 a1).f0) != 5) = true := bne_iff_ne.mpr c53
        by_cases c64 : ((rd_T33 l0 a1).f0) = 6
        ·rw [if_pos c64] at H
         have c64b0 : (((rd_T33 l0 a1).f0) == 6) = true := beq_iff_eq.mpr c64
         have c64b1 : (((rd_T33 l0 a1).f0) != 6) = false := bne_eq_false_iff_eq.mpr c64
         clear c64
         replace H := Option.bind_eq_some_iff.mp H
         obtain ⟨t163, A650, H⟩ := H
         replace H : (if 1 + t163.size ≤ 9223372036854775807 then (some ((⟨#[33]⟩ : ByteArray) ++ t163)) else (none)) = some r := H
         have A65 := yA A650
         clear A650
         by_cases c66 : 1 + t163.size ≤ 9223372036854775807
         ·rw [if_pos c66] at H
          have c66b0 := eq_true c66
          have c66b1 : decide (1 + t163.size ≤ 9223372036854775807) = true := zH c66
          try have c66b2 : (9223372036854775807 < 1 + t163.size) = False := eq_false (Nat.not_lt.2 c66)
          try (have c66b4_ := c66; simp [show ∀ b_ : UInt8, (⟨#[b_]⟩ : ByteArray).size = 1 from fun _ => rfl, show (⟨#[32, 61, 60, 43, 35, 83, 33, 38, 124, 69, 65]⟩ : ByteArray).size = 11 from rfl] at c66b4_; have c66b3_ := eq_false (Nat.not_lt.2 c66b4_))
          try (have c66b5_ := c66; simp only [ByteArray.size_append, ByteArray.size_extract, show ∀ b_ : UInt8, (⟨#[b_]⟩ : ByteArray).size = 1 from fun _ => rfl, show (⟨#[32, 61, 60, 43, 35, 83, 33, 38, 124, 69, 65]⟩ : ByteArray).size = 11 from rfl] at c66b5_; have c66b6_ := eq_false (Nat.not_lt.2 c66b5_))
          obtain rfl := zU H
          have p150 : 0 ≤ (a1 : Int) := zG (by first | (with_reducible assumption) | assumption)
          have q150 : a1 < (l0.length : Int) := zG (by first | (with_reducible assumption) | assumption)
          obtain ⟨ad150, e150, hx150_0, hx150_1, hx150_2, hx150_3⟩ := at_T33 HR0.out a1 p150 q150
          cases e150
          replace p150 := eq_true p150
          replace q150 := eq_true q150
          go_enter Tryd.func13, Tryd.ntmps13
          go_wp2_with (first | ((with_reducible refine gate_dst (N := 5) rfl ?_); refine box_event ?hg (N := 5) ?hd (cs := #[.int .i64 0, .int .i64 0, .int .i64 0, .int .i64 0]) (t := 33) ?hr ?_; (case hd => rfl); (case hg => rfl); (case hr => first | (go_simp; done) | (go_simp; rfl)); intro gb151 hg w67 hbox hb; have n0_ := yA (zD (mB HB.out) hb); have n1_ := yA (hbox); have n2_ := yA ((by rw [hg]; exact (yX (mB HB.out)) : w.heap.size ≤ gb151)); have n3_ := yA ((by rw [hg]; exact (yX (mB HB.out)) : w.heap.size ≤ gb151)); clear HB; have HB := n0_; have BK151 := n1_; have GW151 := n2_; have GE151 := n3_; clear n0_ n1_ n2_ n3_; clear hb hbox hg; have hcz68_0 : w67.cell? ⟨gb151, 0, none⟩ = some (.int .i64 0) := (yV BK151.out 0).trans rfl; have hcz68_1 : w67.cell? ⟨gb151, 1, none⟩ = some (.int .i64 0) := (yV BK151.out 1).trans rfl; have hcz68_2 : w67.cell? ⟨gb151, 2, none⟩ = some (.int .i64 0) := (yV BK151.out 2).trans rfl; have hcz68_3 : w67.cell? ⟨gb151, 3, none⟩ = some (.int .i64 0) := (yV BK151.out 3).trans rfl; have hfz68_0 := yW BK151.out 0; have hfz68_1 := yW BK151.out 1; have hfz68_2 := yW BK151.out 2; have hfz68_3 := yW BK151.out 3) | ((with_reducible refine zS (f := 13) rfl ?_); refine goesL_ (some 72) rfl rfl Tryd.func13 (by kernel_rfl) rfl #[.slice (some ad150) l0.length c0, .int .i64 ((rd_T33 l0 a1).f1)] rfl (by (try simp only [zI, zJ, zK]); first | done | rfl | (simp only [zL, zM]; rfl)) ?_; (with_reducible refine (ih k (by omega) _ _ l0 ((rd_T33 l0 a1).f1) t163 _ ?side1 ?side2 A65.out).mono ?_); (case side1 => exact yM HR0.out (by with_reducible repeat first | exact HB.out | apply yO | apply yN | apply yP | refine yQ ?_ GE151.out)); (case side2 => exact HC0.out); rintro e w69 ⟨rfl, hb⟩; refine ⟨_, rfl, ?_⟩; have n0_ := yA (yU (g := gb151) (o := .cells #[.int .i64 ((rd_T33 l0 a1).f0), .int .i64 ((rd_T33 l0 a1).f1), .int .i64 ((rd_T33 l0 a1).f2), .int .i64 ((rd_T33 l0 a1).f3)] 33 (0, 0)) (by (with_reducible repeat (first | refine yS ?_ _ | refine yT ?_ | refine yR ?_ _)); refine blk_put (cs := #[.int .i64 ((rd_T33 l0 a1).f0), .int .i64 ((rd_T33 l0 a1).f1), .int .i64 ((rd_T33 l0 a1).f2), .int .i64 0]) ?_ 3 _ rfl; (with_reducible repeat (first | refine yS ?_ _ | refine yT ?_ | refine yR ?_ _)); refine blk_put (cs := #[.int .i64 ((rd_T33 l0 a1).f0), .int .i64 ((rd_T33 l0 a1).f1), .int .i64 0, .int .i64 0]) ?_ 2 _ rfl; (with_reducible repeat (first | refine yS ?_ _ | refine yT ?_ | refine yR ?_ _)); refine blk_put (cs := #[.int .i64 ((rd_T33 l0 a1).f0), .int .i64 0, .int .i64 0, .int .i64 0]) ?_ 1 _ rfl; (with_reducible repeat (first | refine yS ?_ _ | refine yT ?_ | refine yR ?_ _)); refine blk_put (cs := #[.int .i64 0, .int .i64 0, .int .i64 0, .int .i64 0]) ?_ 0 _ rfl; (with_reducible repeat (first | refine yS ?_ _ | refine yT ?_ | refine yR ?_ _)); exact BK151.out) hb); have n1_ := yA (zD (by with_reducible repeat first | exact HB.out | apply yO | apply yN | apply yP | refine yQ ?_ GE151.out) hb); clear BK151; clear HB; have BK151 := n0_; have HB := n1_; clear n0_ n1_; (try clear hb); (try clear hb2); (try clear hk); (try clear hi)))
          go_ret
          exact ⟨by first | rfl | (simp [errW_none, errW_some] <;> rfl) | (simp [*, errW_none, errW_some] <;> rfl), by repeat (first | (with_reducible first | exact HB.out | apply yO | apply yN | apply yP | refine yQ ?_ GE151.out) | exact HB.out)⟩
         ·rw [if_neg c66] at H
          exact absurd H (by simp)
        ·rw [if_neg c64] at H
         have c64b0 : (((rd_T33 l0 a1).f0) == 6) = false := beq_eq_false_iff_ne.mpr c64
         have c64b1 : (((rd_T33 l0 a1).f0) != 6) = true := bne_iff_ne.mpr c64
         by_cases c70 : ((rd_T33 l0 a1).f0) = 7
         ·rw [if_pos c70] at H
          have c70b0 : (((rd_T33 l0 a1).f0) == 7) = true := beq_iff_eq.mpr c70
          have c70b1 : (((rd_T33 l0 a1).f0) != 7) = false := bne_eq_false_iff_eq.mpr c70
          clear c70
          replace H := Option.bind_eq_some_iff.mp H
          obtain ⟨t164, A710, H⟩ := H
          replace H : (if 1 + t164.size ≤ 9223372036854775807 then ((spec_l16Text.f k l0 ((rd_T33 l0 a1).f2)).bind fun t165 => (if ((⟨#[38]⟩ : ByteArray) ++ t164).size + t165.size ≤ 9223372036854775807 then (some (((⟨#[38]⟩ : ByteArray) ++ t164) ++ t165)) else (none))) else (none)) = some r := H
          have A71 := yA A710
          clear A710
          by_cases c72 : 1 + t164.size ≤ 9223372036854775807
          ·rw [if_pos c72] at H
           have c72b0 := eq_true c72
           have c72b1 : decide (1 + t164.size ≤ 9223372036854775807) = true := zH c72
           try have c72b2 : (9223372036854775807 < 1 + t164.size) = False := eq_false (Nat.not_lt.2 c72)
           try (have c72b4_ := c72; simp [show ∀ b_ : UInt8, (⟨#[b_]⟩ : ByteArray).size = 1 from fun _ => rfl, show (⟨#[32, 61, 60, 43, 35, 83, 33, 38, 124, 69, 65]⟩ : ByteArray).size = 11 from rfl] at c72b4_; have c72b3_ := eq_false (Nat.not_lt.2 c72b4_))
           try (have c72b5_ := c72; simp only [ByteArray.size_append, ByteArray.size_extract, show ∀ b_ : UInt8, (⟨#[b_]⟩ : ByteArray).size = 1 from fun _ => rfl, show (⟨#[32, 61, 60, 43, 35, 83, 33, 38, 124, 69, 65]⟩ : ByteArray).size = 11 from rfl] at c72b5_; have c72b6_ := eq_false (Nat.not_lt.2 c72b5_))
           replace H := Option.bind_eq_some_iff.mp H
           obtain ⟨t165, A730, H⟩ := H
           replace H : (if ((⟨#[38]⟩ : ByteArray) ++ t164).size + t165.size ≤ 9223372036854775807 then (some (((⟨#[38]⟩ : ByteArray) ++ t164) ++ t165)) else (none)) = some r := H
           have A73 := yA A730
           clear A730
           by_cases c74 : ((⟨#[38]⟩ : ByteArray) ++ t164).size + t165.size ≤ 9223372036854775807
           ·rw [if_pos c74] at H
            have c74b0 := eq_true c74
            have c74b1 : decide (((⟨#[38]⟩ : ByteArray) ++ t164).size + t165.size ≤ 9223372036854775807) = true := zH c74
            try have c74b2 : (9223372036854775807 < ((⟨#[38]⟩ : ByteArray) ++ t164).size + t165.size) = False := eq_false (Nat.not_lt.2 c74)
            try (have c74b4_ := c74; simp [show ∀ b_ : UInt8, (⟨#[b_]⟩ : ByteArray).size = 1 from fun _ => rfl, show (⟨#[32, 61, 60, 43, 35, 83, 33, 38, 124, 69, 65]⟩ : ByteArray).size = 11 from rfl] at c74b4_; have c74b3_ := eq_false (Nat.not_lt.2 c74b4_))
            try (have c74b5_ := c74; simp only [ByteArray.size_append, ByteArray.size_extract, show ∀ b_ : UInt8, (⟨#[b_]⟩ : ByteArray).size = 1 from fun _ => rfl, show (⟨#[32, 61, 60, 43, 35, 83, 33, 38, 124, 69, 65]⟩ : ByteArray).size = 11 from rfl] at c74b5_; have c74b6_ := eq_false (Nat.not_lt.2 c74b5_))
            obtain rfl := zU H
            have p150 : 0 ≤ (a1 : Int) := zG (by first | (with_reducible assumption) | assumption)
            have q150 : a1 < (l0.length : Int) := zG (by first | (with_reducible assumption) | assumption)
            obtain ⟨ad150, e150, hx150_0, hx150_1, hx150_2, hx150_3⟩ := at_T33 HR0.out a1 p150 q150
            cases e150
            replace p150 := eq_true p150
            replace q150 := eq_true q150
            go_enter Tryd.func13, Tryd.ntmps13
            try go_wp2_with (first | ((with_reducible refine gate_dst (N := 5) rfl ?_); refine box_event ?hg (N := 5) ?hd (cs := #[.int .i64 0, .int .i64 0, .int .i64 0, .int .i64 0]) (t := 33) ?hr ?_; (case hd => rfl); (case hg => rfl); (case hr => first | (go_simp; done) | (go_simp; rfl)); intro gb151 hg w75 hbox hb; have n0_ := yA (zD (mB HB.out) hb); have n1_ := yA (hbox); have n2_ := yA ((by rw [hg]; exact (yX (mB HB.out)) : w.heap.size ≤ gb151)); have n3_ := yA ((by rw [hg]; exact (yX (mB HB.out)) : w.heap.size ≤ gb151)); clear HB; have HB := n0_; have BK151 := n1_; have GW151 := n2_; have GE151 := n3_; clear n0_ n1_ n2_ n3_; clear hb hbox hg; have hcz76_0 : w75.cell? ⟨gb151, 0, none⟩ = some (.int .i64 0) := (yV BK151.out 0).trans rfl; have hcz76_1 : w75.cell? ⟨gb151, 1, none⟩ = some (.int .i64 0) := (yV BK151.out 1).trans rfl; have hcz76_2 : w75.cell? ⟨gb151, 2, none⟩ = some (.int .i64 0) := (yV BK151.out 2).trans rfl; have hcz76_3 : w75.cell? ⟨gb151, 3, none⟩ = some (.int .i64 0) := (yV BK151.out 3).trans rfl; have hfz76_0 := yW BK151.out 0; have hfz76_1 := yW BK151.out 1; have hfz76_2 := yW BK151.out 2; have hfz76_3 := yW BK151.out 3))
            have n0_ : Aside0 (((((w75.setCell ⟨gb151, 0, none⟩ (.int .i64 ((rd_T33 l0 a1).f0))).setCell ⟨gb151, 1, none⟩ (.int .i64 ((rd_T33 l0 a1).f1))).setCell ⟨gb151, 2, none⟩ (.int .i64 ((rd_T33 l0 a1).f2))).setCell ⟨gb151, 3, none⟩ (.int .i64 ((rd_T33 l0 a1).f3))).heap[gb151]? = some (.cells #[.int .i64 ((rd_T33 l0 a1).f0), .int .i64 ((rd_T33 l0 a1).f1), .int .i64 ((rd_T33 l0 a1).f2), .int .i64 ((rd_T33 l0 a1).f3)] 33 (0, 0))) := ⟨by (with_reducible repeat (first | refine yS ?_ _ | refine yT ?_ | refine yR ?_ _)); refine blk_put (cs := #[.int .i64 ((rd_T33 l0 a1).f0), .int .i64 ((rd_T33 l0 a1).f1), .int .i64 ((rd_T33 l0 a1).f2), .int .i64 0]) ?_ 3 _ rfl; (with_reducible repeat (first | refine yS ?_ _ | refine yT ?_ | refine yR ?_ _)); refine blk_put (cs := #[.int .i64 ((rd_T33 l0 a1).f0), .int .i64 ((rd_T33 l0 a1).f1), .int .i64 0, .int .i64 0]) ?_ 2 _ rfl; (with_reducible repeat (first | refine yS ?_ _ | refine yT ?_ | refine yR ?_ _)); refine blk_put (cs := #[.int .i64 ((rd_T33 l0 a1).f0), .int .i64 0, .int .i64 0, .int .i64 0]) ?_ 1 _ rfl; (with_reducible repeat (first | refine yS ?_ _ | refine yT ?_ | refine yR ?_ _)); refine blk_put (cs := #[.int .i64 0, .int .i64 0, .int .i64 0, .int .i64 0]) ?_ 0 _ rfl; (with_reducible repeat (first | refine yS ?_ _ | refine yT ?_ | refine yR ?_ _)); exact BK151.out⟩
            have n1_ : Aside0 (Below w.heap.size w ((((w75.setCell ⟨gb151, 0, none⟩ (.int .i64 ((rd_T33 l0 a1).f0))).setCell ⟨gb151, 1, none⟩ (.int .i64 ((rd_T33 l0 a1).f1))).setCell ⟨gb151, 2, none⟩ (.int .i64 ((rd_T33 l0 a1).f2))).setCell ⟨gb151, 3, none⟩ (.int .i64 ((rd_T33 l0 a1).f3)))) := ⟨by repeat (first | (with_reducible first | exact HB.out | apply yO | apply yN | apply yP | refine yQ ?_ GE151.out) | exact HB.out)⟩
            (try clear BK151)
            (try clear HB)
            generalize ((((w75.setCell ⟨gb151, 0, none⟩ (.int .i64 ((rd_T33 l0 a1).f0))).setCell ⟨gb151, 1, none⟩ (.int .i64 ((rd_T33 l0 a1).f1))).setCell ⟨gb151, 2, none⟩ (.int .i64 ((rd_T33 l0 a1).f2))).setCell ⟨gb151, 3, none⟩ (.int .i64 ((rd_T33 l0 a1).f3))) = w77 at n0_ n1_ ⊢
            have BK151 := n0_
            have HB := n1_
            clear n0_ n1_
            have n0_ := yA (yT BK151.out)
            have n1_ := yA (yP HB.out)
            clear BK151
            clear HB
            have BK151 := n0_
            have HB := n1_
            clear n0_ n1_
            refine start_ (n := 11) (S := fun w' => w'.cell? ⟨gb151, 0, none⟩ = some (.int .i64 ((rd_T33 l0 a1).f0)) ∧ w'.cell? ⟨gb151, 1, none⟩ = some (.int .i64 ((rd_T33 l0 a1).f1)) ∧ w'.cell? ⟨gb151, 2, none⟩ = some (.int .i64 ((rd_T33 l0 a1).f2)) ∧ w'.cell? ⟨gb151, 3, none⟩ = some (.int .i64 ((rd_T33 l0 a1).f3))) (ds := []) #[false, false, false, false, false, false, false, false, false, false, false] (by kernel_rfl) rfl rfl ⟨(yV BK151.out 0).trans rfl, (yV BK151.out 1).trans rfl, (yV BK151.out 2).trans rfl, (yV BK151.out 3).trans rfl⟩ (fun hHeld => ?_); refine with_tabW spec_l16Text.tab16 spec_l16Text.bits16 (fun HT_ HW_ => ?_)
            generalize w77.drew = w78 at BK151 HB hHeld ⊢
            refine pure_ (i := 0) (N := some 76) (v := ?_) (a' := ?_) #[true, false, false, false, false, false, false, false, false, false, false] rfl rfl (any_of HT_.out (by kernel_rfl)) (fun _ _ _ h => h) (Or.inl ⟨by rfl, ?_⟩) ?_ ?_
            rotate_left
            ·intro w'
             go_simp
             with_reducible rfl
            rotate_left
            ·simp only [Act.put, zA, zB, zC, i64_w, i32_w]
             rfl
            refine pure_ (i := 1) (N := some 77) (v := ?_) (a' := ?_) #[true, true, false, false, false, false, false, false, false, false, false] rfl rfl (any_of HT_.out (by kernel_rfl)) (fun _ _ _ h => h) (Or.inl ⟨by rfl, ?_⟩) ?_ ?_
            rotate_left
            ·intro w'
             go_simp
             with_reducible rfl
            rotate_left
            ·simp only [Act.put, zA, zB, zC, i64_w, i32_w]
             rfl
            refine pure_ (i := 5) (N := some 81) (v := ?_) (a' := ?_) #[true, true, false, false, false, true, false, false, false, false, false] rfl rfl (any_of HT_.out (by kernel_rfl)) (fun _ _ _ h => h) (Or.inl ⟨by rfl, ?_⟩) ?_ ?_
            rotate_left
            ·intro w'
             go_simp
             with_reducible rfl
            rotate_left
            ·simp only [Act.put, zA, zB, zC, i64_w, i32_w]
             rfl
            refine pure_ (i := 6) (N := some 82) (v := ?_) (a' := ?_) #[true, true, false, false, false, true, true, false, false, false, false] rfl rfl (any_of HT_.out (by kernel_rfl)) (fun _ _ _ h => h) (Or.inl ⟨by rfl, ?_⟩) ?_ ?_
            rotate_left
            ·intro w'
             go_simp
             with_reducible rfl
            rotate_left
            ·simp only [Act.put, zA, zB, zC, i64_w, i32_w]
             rfl
            refine take_ (i := 2) (N := some 78) (v := ?_) (a' := ?_) #[true, true, true, false, false, true, true, false, false, false, false] rfl rfl (take_ofW HT_.out HW_.out (by kernel_rfl)) (fun _ _ _ h => h) (Or.inl ⟨by rfl, ?_⟩) hHeld ?_ ?_
            rotate_left
            ·rintro w' ⟨s0, s1, s2, s3⟩
             go_simp
             with_reducible rfl
            rotate_left
            ·simp only [Act.put, zA, zB, zC, i64_w, i32_w]
             rfl
            refine take_ (i := 7) (N := some 83) (v := ?_) (a' := ?_) #[true, true, true, false, false, true, true, true, false, false, false] rfl rfl (take_ofW HT_.out HW_.out (by kernel_rfl)) (fun _ _ _ h => h) (Or.inl ⟨by rfl, ?_⟩) hHeld ?_ ?_
            rotate_left
            ·rintro w' ⟨s0, s1, s2, s3⟩
             go_simp
             with_reducible rfl
            rotate_left
            ·simp only [Act.put, zA, zB, zC, i64_w, i32_w]
             rfl
            refine one_ (i := 3) (N := some 79) #[true, true, true, true, false, true, true, true, false, false, false] rfl rfl (one_of HT_.out (by kernel_rfl)) (by decide) (fun K hK => ?_)
            refine goes_ Tryd.func13 (by kernel_rfl) rfl #[.slice (some ad150) l0.length c0, .int .i64 ((rd_T33 l0 a1).f1)] (by rfl) rfl rfl (by (try simp only [zI, zJ, zK]); first | done | rfl | (simp only [zL, zM]; rfl)) ?_
            with_reducible refine (ih k (by omega) _ _ l0 ((rd_T33 l0 a1).f1) t164 _ ?side1 ?side2 A71.out).mono ?_
            (case side1 => exact mC (yM HR0.out HB.out))
            (case side2 => exact HC0.out)
            rintro e w79 ⟨rfl, hb⟩
            refine ⟨_, rfl, ?_⟩
            have n0_ := yA (yU (mK BK151.out) hb)
            have n1_ := yA (zD (by with_reducible repeat first | exact HB.out | apply yO | apply yN | apply yP | refine yQ ?_ GE151.out) hb)
            clear BK151
            clear HB
            have BK151 := n0_
            have HB := n1_
            clear n0_ n1_
            (try clear hb)
            (try clear hb2)
            (try clear hk)
            (try clear hi)
            refine hK.out _ _ ⟨(yV BK151.out 0).trans rfl, (yV BK151.out 1).trans rfl, (yV BK151.out 2).trans rfl, (yV BK151.out 3).trans rfl⟩ (fun hHeld => ?_)
            clear hK K
            refine norm_ (a' := ?_) ?_ ?_
            rotate_left
            ·show Act.put _ (some 79) _ = _
             simp only [Act.put, zA, zB, zC, i64_w, i32_w]
             rfl
            refine pure_ (i := 4) (N := some 80) (v := ?_) (a' := ?_) #[true, true, true, true, true, true, true, true, false, false, false] rfl rfl (any_of HT_.out (by kernel_rfl)) (fun _ _ _ h => h) (Or.inl ⟨by rfl, ?_⟩) ?_ ?_
            rotate_left
            ·intro w'
             go_simp
             with_reducible rfl
            rotate_left
            ·simp only [Act.put, zA, zB, zC, i64_w, i32_w]
             rfl
            refine one_ (i := 8) (N := some 84) #[true, true, true, true, true, true, true, true, true, false, false] rfl rfl (one_of HT_.out (by kernel_rfl)) (by decide) (fun K hK => ?_)
            refine goes_ Tryd.func13 (by kernel_rfl) rfl #[.slice (some ad150) l0.length c0, .int .i64 ((rd_T33 l0 a1).f2)] (by rfl) rfl rfl (by (try simp only [zI, zJ, zK]); first | done | rfl | (simp only [zL, zM]; rfl)) ?_
            with_reducible refine (ih k (by omega) _ _ l0 ((rd_T33 l0 a1).f2) t165 _ ?side1 ?side2 A73.out).mono ?_
            (case side1 => exact mC (yM HR0.out HB.out))
            (case side2 => exact HC0.out)
            rintro e w80 ⟨rfl, hb⟩
            refine ⟨_, rfl, ?_⟩
            have n0_ := yA (yU (mK BK151.out) hb)
            have n1_ := yA (zD (by with_reducible repeat first | exact HB.out | apply yO | apply yN | apply yP | refine yQ ?_ GE151.out) hb)
            clear BK151
            clear HB
            have BK151 := n0_
            have HB := n1_
            clear n0_ n1_
            (try clear hb)
            (try clear hb2)
            (try clear hk)
            (try clear hi)
            refine hK.out _ _ ⟨(yV BK151.out 0).trans rfl, (yV BK151.out 1).trans rfl, (yV BK151.out 2).trans rfl, (yV BK151.out 3).trans rfl⟩ (fun hHeld => ?_)
            clear hK K
            refine norm_ (a' := ?_) ?_ ?_
            rotate_left
            ·show Act.put _ (some 84) _ = _
             simp only [Act.put, zA, zB, zC, i64_w, i32_w]
             rfl
            refine pure_ (i := 9) (N := some 85) (v := ?_) (a' := ?_) #[true, true, true, true, true, true, true, true, true, true, false] rfl rfl (any_of HT_.out (by kernel_rfl)) (fun _ _ _ h => h) (Or.inl ⟨by rfl, ?_⟩) ?_ ?_
            rotate_left
            ·intro w'
             go_simp
             with_reducible rfl
            rotate_left
            ·simp only [Act.put, zA, zB, zC, i64_w, i32_w]
             rfl
            refine pure_ (i := 10) (N := some 4) (v := ?_) (a' := ?_) #[true, true, true, true, true, true, true, true, true, true, true] rfl rfl (any_of HT_.out (by kernel_rfl)) (fun _ _ _ h => h) (Or.inl ⟨by rfl, ?_⟩) ?_ ?_
            rotate_left
            ·intro w'
             go_simp
             with_reducible rfl
            rotate_left
            ·simp only [Act.put, zA, zB, zC, i64_w, i32_w]
             rfl
            refine done_ (done_of HT_.out (by kernel_rfl)) ?_
            try go_wp2
            go_ret
            exact ⟨by first | rfl | (simp [errW_none, errW_some] <;> rfl) | (simp [*, errW_none, errW_some] <;> rfl), by repeat (first | (with_reducible first | exact HB.out | apply yO | apply yN | apply yP | refine yQ ?_ GE151.out) | exact HB.out)⟩
           ·rw [if_neg c74] at H
            exact absurd H (by simp)
          ·rw [if_neg c72] at H
           exact absurd H (by simp)
         ·rw [if_neg c70] at H
          have c70b0 : (((rd_T33 l0 a1).f0) == 7) = false := beq_eq_false_iff_ne.mpr c70
          have c70b1 : (((rd_T33 l0 a1).f0) != 7) = true := bne_iff_ne.mpr c70
          by_cases c81 : ((rd_T33 l0 a1).f0) = 8
          ·rw [if_pos c81] at H
           have c81b0 : (((rd_T33 l0 a1).f0) == 8) = true := beq_iff_eq.mpr c81
           have c81b1 : (((rd_T33 l0 a1).f0) != 8) = false := bne_eq_false_iff_eq.mpr c81
           clear c81
           replace H := Option.bind_eq_some_iff.mp H
           obtain ⟨t166, A820, H⟩ := H
           replace H : (if 1 + t166.size ≤ 9223372036854775807 then ((spec_l16Text.f k l0 ((rd_T33 l0 a1).f2)).bind fun t167 => (if ((⟨#[124]⟩ : ByteArray) ++ t166).size + t167.size ≤ 9223372036854775807 then (some (((⟨#[124]⟩ : ByteArray) ++ t166) ++ t167)) else (none))) else (none)) = some r := H
           have A82 := yA A820
           clear A820
           by_cases c83 : 1 + t166.size ≤ 9223372036854775807
           ·rw [if_pos c83] at H
            have c83b0 := eq_true c83
            have c83b1 : decide (1 + t166.size ≤ 9223372036854775807) = true := zH c83
            try have c83b2 : (9223372036854775807 < 1 + t166.size) = False := eq_false (Nat.not_lt.2 c83)
            try (have c83b4_ := c83; simp [show ∀ b_ : UInt8, (⟨#[b_]⟩ : ByteArray).size = 1 from fun _ => rfl, show (⟨#[32, 61, 60, 43, 35, 83, 33, 38, 124, 69, 65]⟩ : ByteArray).size = 11 from rfl] at c83b4_; have c83b3_ := eq_false (Nat.not_lt.2 c83b4_))
            try (have c83b5_ := c83; simp only [ByteArray.size_append, ByteArray.size_extract, show ∀ b_ : UInt8, (⟨#[b_]⟩ : ByteArray).size = 1 from fun _ => rfl, show (⟨#[32, 61, 60, 43, 35, 83, 33, 38, 124, 69, 65]⟩ : ByteArray).size = 11 from rfl] at c83b5_; have c83b6_ := eq_false (Nat.not_lt.2 c83b5_))
            replace H := Option.bind_eq_some_iff.mp H
            obtain ⟨t167, A840, H⟩ := H
            replace H : (if ((⟨#[124]⟩ : ByteArray) ++ t166).size + t167.size ≤ 9223372036854775807 then (some (((⟨#[124]⟩ : ByteArray) ++ t166) ++ t167)) else (none)) = some r := H
            have A84 := yA A840
            clear A840
            by_cases c85 : ((⟨#[124]⟩ : ByteArray) ++ t166).size + t167.size ≤ 9223372036854775807
            ·rw [if_pos c85] at H
             have c85b0 := eq_true c85
             have c85b1 : decide (((⟨#[124]⟩ : ByteArray) ++ t166).size + t167.size ≤ 9223372036854775807) = true := zH c85
             try have c85b2 : (9223372036854775807 < ((⟨#[124]⟩ : ByteArray) ++ t166).size + t167.size) = False := eq_false (Nat.not_lt.2 c85)
             try (have c85b4_ := c85; simp [show ∀ b_ : UInt8, (⟨#[b_]⟩ : ByteArray).size = 1 from fun _ => rfl, show (⟨#[32, 61, 60, 43, 35, 83, 33, 38, 124, 69, 65]⟩ : ByteArray).size = 11 from rfl] at c85b4_; have c85b3_ := eq_false (Nat.not_lt.2 c85b4_))
             try (have c85b5_ := c85; simp only [ByteArray.size_append, ByteArray.size_extract, show ∀ b_ : UInt8, (⟨#[b_]⟩ : ByteArray).size = 1 from fun _ => rfl, show (⟨#[32, 61, 60, 43, 35, 83, 33, 38, 124, 69, 65]⟩ : ByteArray).size = 11 from rfl] at c85b5_; have c85b6_ := eq_false (Nat.not_lt.2 c85b5_))
             obtain rfl := zU H
             have p150 : 0 ≤ (a1 : Int) := zG (by first | (with_reducible assumption) | assumption)
             have q150 : a1 < (l0.length : Int) := zG (by first | (with_reducible assumption) | assumption)
             obtain ⟨ad150, e150, hx150_0, hx150_1, hx150_2, hx150_3⟩ := at_T33 HR0.out a1 p150 q150
             cases e150
             replace p150 := eq_true p150
             replace q150 := eq_true q150
             go_enter Tryd.func13, Tryd.ntmps13
             try go_wp2_with (first | ((with_reducible refine gate_dst (N := 5) rfl ?_); refine box_event ?hg (N := 5) ?hd (cs := #[.int .i64 0, .int .i64 0, .int .i64 0, .int .i64 0]) (t := 33) ?hr ?_; (case hd => rfl); (case hg => rfl); (case hr => first | (go_simp; done) | (go_simp; rfl)); intro gb151 hg w86 hbox hb; have n0_ := yA (zD (mB HB.out) hb); have n1_ := yA (hbox); have n2_ := yA ((by rw [hg]; exact (yX (mB HB.out)) : w.heap.size ≤ gb151)); have n3_ := yA ((by rw [hg]; exact (yX (mB HB.out)) : w.heap.size ≤ gb151)); clear HB; have HB := n0_; have BK151 := n1_; have GW151 := n2_; have GE151 := n3_; clear n0_ n1_ n2_ n3_; clear hb hbox hg; have hcz87_0 : w86.cell? ⟨gb151, 0, none⟩ = some (.int .i64 0) := (yV BK151.out 0).trans rfl; have hcz87_1 : w86.cell? ⟨gb151, 1, none⟩ = some (.int .i64 0) := (yV BK151.out 1).trans rfl; have hcz87_2 : w86.cell? ⟨gb151, 2, none⟩ = some (.int .i64 0) := (yV BK151.out 2).trans rfl; have hcz87_3 : w86.cell? ⟨gb151, 3, none⟩ = some (.int .i64 0) := (yV BK151.out 3).trans rfl; have hfz87_0 := yW BK151.out 0; have hfz87_1 := yW BK151.out 1; have hfz87_2 := yW BK151.out 2; have hfz87_3 := yW BK151.out 3))
             have n0_ : Aside0 (((((w86.setCell ⟨gb151, 0, none⟩ (.int .i64 ((rd_T33 l0 a1).f0))).setCell ⟨gb151, 1, none⟩ (.int .i64 ((rd_T33 l0 a1).f1))).setCell ⟨gb151, 2, none⟩ (.int .i64 ((rd_T33 l0 a1).f2))).setCell ⟨gb151, 3, none⟩ (.int .i64 ((rd_T33 l0 a1).f3))).heap[gb151]? = some (.cells #[.int .i64 ((rd_T33 l0 a1).f0), .int .i64 ((rd_T33 l0 a1).f1), .int .i64 ((rd_T33 l0 a1).f2), .int .i64 ((rd_T33 l0 a1).f3)] 33 (0, 0))) := ⟨by (with_reducible repeat (first | refine yS ?_ _ | refine yT ?_ | refine yR ?_ _)); refine blk_put (cs := #[.int .i64 ((rd_T33 l0 a1).f0), .int .i64 ((rd_T33 l0 a1).f1), .int .i64 ((rd_T33 l0 a1).f2), .int .i64 0]) ?_ 3 _ rfl; (with_reducible repeat (first | refine yS ?_ _ | refine yT ?_ | refine yR ?_ _)); refine blk_put (cs := #[.int .i64 ((rd_T33 l0 a1).f0), .int .i64 ((rd_T33 l0 a1).f1), .int .i64 0, .int .i64 0]) ?_ 2 _ rfl; (with_reducible repeat (first | refine yS ?_ _ | refine yT ?_ | refine yR ?_ _)); refine blk_put (cs := #[.int .i64 ((rd_T33 l0 a1).f0), .int .i64 0, .int .i64 0, .int .i64 0]) ?_ 1 _ rfl; (with_reducible repeat (first | refine yS ?_ _ | refine yT ?_ | refine yR ?_ _)); refine blk_put (cs := #[.int .i64 0, .int .i64 0, .int .i64 0, .int .i64 0]) ?_ 0 _ rfl; (with_reducible repeat (first | refine yS ?_ _ | refine yT ?_ | refine yR ?_ _)); exact BK151.out⟩
             have n1_ : Aside0 (Below w.heap.size w ((((w86.setCell ⟨gb151, 0, none⟩ (.int .i64 ((rd_T33 l0 a1).f0))).setCell ⟨gb151, 1, none⟩ (.int .i64 ((rd_T33 l0 a1).f1))).setCell ⟨gb151, 2, none⟩ (.int .i64 ((rd_T33 l0 a1).f2))).setCell ⟨gb151, 3, none⟩ (.int .i64 ((rd_T33 l0 a1).f3)))) := ⟨by repeat (first | (with_reducible first | exact HB.out | apply yO | apply yN | apply yP | refine yQ ?_ GE151.out) | exact HB.out)⟩
             (try clear BK151)
             (try clear HB)
             generalize ((((w86.setCell ⟨gb151, 0, none⟩ (.int .i64 ((rd_T33 l0 a1).f0))).setCell ⟨gb151, 1, none⟩ (.int .i64 ((rd_T33 l0 a1).f1))).setCell ⟨gb151, 2, none⟩ (.int .i64 ((rd_T33 l0 a1).f2))).setCell ⟨gb151, 3, none⟩ (.int .i64 ((rd_T33 l0 a1).f3))) = w88 at n0_ n1_ ⊢
             have BK151 := n0_
             have HB := n1_
             clear n0_ n1_
             have n0_ := yA (yT BK151.out)
             have n1_ := yA (yP HB.out)
             clear BK151
             clear HB
             have BK151 := n0_
             have HB := n1_
             clear n0_ n1_
             refine start_ (n := 11) (S := fun w' => w'.cell? ⟨gb151, 0, none⟩ = some (.int .i64 ((rd_T33 l0 a1).f0)) ∧ w'.cell? ⟨gb151, 1, none⟩ = some (.int .i64 ((rd_T33 l0 a1).f1)) ∧ w'.cell? ⟨gb151, 2, none⟩ = some (.int .i64 ((rd_T33 l0 a1).f2)) ∧ w'.cell? ⟨gb151, 3, none⟩ = some (.int .i64 ((rd_T33 l0 a1).f3))) (ds := []) #[false, false, false, false, false, false, false, false, false, false, false] (by kernel_rfl) rfl rfl ⟨(yV BK151.out 0).trans rfl, (yV BK151.out 1).trans rfl, (yV BK151.out 2).trans rfl, (yV BK151.out 3).trans rfl⟩ (fun hHeld => ?_); refine with_tabW spec_l16Text.tab18 spec_l16Text.bits18 (fun HT_ HW_ => ?_)
             generalize w88.drew = w89 at BK151 HB hHeld ⊢
             refine pure_ (i := 0) (N := some 88) (v := ?_) (a' := ?_) #[true, false, false, false, false, false, false, false, false, false, false] rfl rfl (any_of HT_.out (by kernel_rfl)) (fun _ _ _ h => h) (Or.inl ⟨by rfl, ?_⟩) ?_ ?_
             rotate_left
             ·intro w'
              go_simp
              with_reducible rfl
             rotate_left
             ·simp only [Act.put, zA, zB, zC, i64_w, i32_w]
              rfl
             refine pure_ (i := 1) (N := some 89) (v := ?_) (a' := ?_) #[true, true, false, false, false, false, false, false, false, false, false] rfl rfl (any_of HT_.out (by kernel_rfl)) (fun _ _ _ h => h) (Or.inl ⟨by rfl, ?_⟩) ?_ ?_
             rotate_left
             ·intro w'
              go_simp
              with_reducible rfl
             rotate_left
             ·simp only [Act.put, zA, zB, zC, i64_w, i32_w]
              rfl
             refine pure_ (i := 5) (N := some 93) (v := ?_) (a' := ?_) #[true, true, false, false, false, true, false, false, false, false, false] rfl rfl (any_of HT_.out (by kernel_rfl)) (fun _ _ _ h => h) (Or.inl ⟨by rfl, ?_⟩) ?_ ?_
             rotate_left
             ·intro w'
              go_simp
              with_reducible rfl
             rotate_left
             ·simp only [Act.put, zA, zB, zC, i64_w, i32_w]
              rfl
             refine pure_ (i := 6) (N := some 94) (v := ?_) (a' := ?_) #[true, true, false, false, false, true, true, false, false, false, false] rfl rfl (any_of HT_.out (by kernel_rfl)) (fun _ _ _ h => h) (Or.inl ⟨by rfl, ?_⟩) ?_ ?_
             rotate_left
             ·intro w'
              go_simp
              with_reducible rfl
             rotate_left
             ·simp only [Act.put, zA, zB, zC, i64_w, i32_w]
              rfl
             refine take_ (i := 2) (N := some 90) (v := ?_) (a' := ?_) #[true, true, true, false, false, true, true, false, false, false, false] rfl rfl (take_ofW HT_.out HW_.out (by kernel_rfl)) (fun _ _ _ h => h) (Or.inl ⟨by rfl, ?_⟩) hHeld ?_ ?_
             rotate_left
             ·rintro w' ⟨s0, s1, s2, s3⟩
              go_simp
              with_reducible rfl
             rotate_left
             ·simp only [Act.put, zA, zB, zC, i64_w, i32_w]
              rfl
             refine take_ (i := 7) (N := some 95) (v := ?_) (a' := ?_) #[true, true, true, false, false, true, true, true, false, false, false] rfl rfl (take_ofW HT_.out HW_.out (by kernel_rfl)) (fun _ _ _ h => h) (Or.inl ⟨by rfl, ?_⟩) hHeld ?_ ?_
             rotate_left
             ·rintro w' ⟨s0, s1, s2, s3⟩
              go_simp
              with_reducible rfl
             rotate_left
             ·simp only [Act.put, zA, zB, zC, i64_w, i32_w]
              rfl
             refine one_ (i := 3) (N := some 91) #[true, true, true, true, false, true, true, true, false, false, false] rfl rfl (one_of HT_.out (by kernel_rfl)) (by decide) (fun K hK => ?_)
             refine goes_ Tryd.func13 (by kernel_rfl) rfl #[.slice (some ad150) l0.length c0, .int .i64 ((rd_T33 l0 a1).f1)] (by rfl) rfl rfl (by (try simp only [zI, zJ, zK]); first | done | rfl | (simp only [zL, zM]; rfl)) ?_
             with_reducible refine (ih k (by omega) _ _ l0 ((rd_T33 l0 a1).f1) t166 _ ?side1 ?side2 A82.out).mono ?_
             (case side1 => exact mC (yM HR0.out HB.out))
             (case side2 => exact HC0.out)
             rintro e w90 ⟨rfl, hb⟩
             refine ⟨_, rfl, ?_⟩
             have n0_ := yA (yU (mK BK151.out) hb)
             have n1_ := yA (zD (by with_reducible repeat first | exact HB.out | apply yO | apply yN | apply yP | refine yQ ?_ GE151.out) hb)
             clear BK151
             clear HB
             have BK151 := n0_
             have HB := n1_
             clear n0_ n1_
             (try clear hb)
             (try clear hb2)
             (try clear hk)
             (try clear hi)
             refine hK.out _ _ ⟨(yV BK151.out 0).trans rfl, (yV BK151.out 1).trans rfl, (yV BK151.out 2).trans rfl, (yV BK151.out 3).trans rfl⟩ (fun hHeld => ?_)
             clear hK K
             refine norm_ (a' := ?_) ?_ ?_
             rotate_left
             ·show Act.put _ (some 91) _ = _
              simp only [Act.put, zA, zB, zC, i64_w, i32_w]
              rfl
             refine pure_ (i := 4) (N := some 92) (v := ?_) (a' := ?_) #[true, true, true, true, true, true, true, true, false, false, false] rfl rfl (any_of HT_.out (by kernel_rfl)) (fun _ _ _ h => h) (Or.inl ⟨by rfl, ?_⟩) ?_ ?_
             rotate_left
             ·intro w'
              go_simp
              with_reducible rfl
             rotate_left
             ·simp only [Act.put, zA, zB, zC, i64_w, i32_w]
              rfl
             refine one_ (i := 8) (N := some 96) #[true, true, true, true, true, true, true, true, true, false, false] rfl rfl (one_of HT_.out (by kernel_rfl)) (by decide) (fun K hK => ?_)
             refine goes_ Tryd.func13 (by kernel_rfl) rfl #[.slice (some ad150) l0.length c0, .int .i64 ((rd_T33 l0 a1).f2)] (by rfl) rfl rfl (by (try simp only [zI, zJ, zK]); first | done | rfl | (simp only [zL, zM]; rfl)) ?_
             with_reducible refine (ih k (by omega) _ _ l0 ((rd_T33 l0 a1).f2) t167 _ ?side1 ?side2 A84.out).mono ?_
             (case side1 => exact mC (yM HR0.out HB.out))
             (case side2 => exact HC0.out)
             rintro e w91 ⟨rfl, hb⟩
             refine ⟨_, rfl, ?_⟩
             have n0_ := yA (yU (mK BK151.out) hb)
             have n1_ := yA (zD (by with_reducible repeat first | exact HB.out | apply yO | apply yN | apply yP | refine yQ ?_ GE151.out) hb)
             clear BK151
             clear HB
             have BK151 := n0_
             have HB := n1_
             clear n0_ n1_
             (try clear hb)
             (try clear hb2)
             (try clear hk)
             (try clear hi)
             refine hK.out _ _ ⟨(yV BK151.out 0).trans rfl, (yV BK151.out 1).trans rfl, (yV BK151.out 2).trans rfl, (yV BK151.out 3).trans rfl⟩ (fun hHeld => ?_)
             clear hK K
             refine norm_ (a' := ?_) ?_ ?_
             rotate_left
             ·show Act.put _ (some 96) _ = _
              simp only [Act.put, zA, zB, zC, i64_w, i32_w]
              rfl
             refine pure_ (i := 9) (N := some 97) (v := ?_) (a' := ?_) #[true, true, true, true, true, true, true, true, true, true, false] rfl rfl (any_of HT_.out (by kernel_rfl)) (fun _ _ _ h => h) (Or.inl ⟨by rfl, ?_⟩) ?_ ?_
             rotate_left
             ·intro w'
              go_simp
              with_reducible rfl
             rotate_left
             ·simp only [Act.put, zA, zB, zC, i64_w, i32_w]
              rfl
             refine pure_ (i := 10) (N := some 4) (v := ?_) (a' := ?_) #[true, true, true, true, true, true, true, true, true, true, true] rfl rfl (any_of HT_.out (by kernel_rfl)) (fun _ _ _ h => h) (Or.inl ⟨by rfl, ?_⟩) ?_ ?_
             rotate_left
             ·intro w'
              go_simp
              with_reducible rfl
             rotate_left
             ·simp only [Act.put, zA, zB, zC, i64_w, i32_w]
              rfl
             refine done_ (done_of HT_.out (by kernel_rfl)) ?_
             try go_wp2
             go_ret
             exact ⟨by first | rfl | (simp [errW_none, errW_some] <;> rfl) | (simp [*, errW_none, errW_some] <;> rfl), by repeat (first | (with_reducible first | exact HB.out | apply yO | apply yN | apply yP | refine yQ ?_ GE151.out) | exact HB.out)⟩
            ·rw [if_neg c85] at H
             exact absurd H (by simp)
           ·rw [if_neg c83] at H
            exact absurd H (by simp)
          ·rw [if_neg c81] at H
           have c81b0 : (((rd_T33 l0 a1).f0) == 8) = false := beq_eq_false_iff_ne.mpr c81
           have c81b1 : (((rd_T33 l0 a1).f0) != 8) = true := bne_iff_ne.mpr c81
           by_cases c92 : ((rd_T33 l0 a1).f0) = 9
           ·rw [if_pos c92] at H
            have c92b0 : (((rd_T33 l0 a1).f0) == 9) = true := beq_iff_eq.mpr c92
            have c92b1 : (((rd_T33 l0 a1).f0) != 9) = false := bne_eq_false_iff_eq.mpr c92
            clear c92
            replace H := Option.bind_eq_some_iff.mp H
            obtain ⟨t168, A930, H⟩ := H
            replace H : (if 1 + t168.size ≤ 9223372036854775807 then ((spec_l16Text.f k l0 ((rd_T33 l0 a1).f2)).bind fun t169 => (if ((⟨#[69]⟩ : ByteArray) ++ t168).size + t169.size ≤ 9223372036854775807 then (some (((⟨#[69]⟩ : ByteArray) ++ t168) ++ t169)) else (none))) else (none)) = some r := H
            have A93 := yA A930
            clear A930
            by_cases c94 : 1 + t168.size ≤ 9223372036854775807
            ·rw [if_pos c94] at H
             have c94b0 := eq_true c94
             have c94b1 : decide (1 + t168.size ≤ 9223372036854775807) = true := zH c94
             try have c94b2 : (9223372036854775807 < 1 + t168.size) = False := eq_false (Nat.not_lt.2 c94)
             try (have c94b4_ := c94; simp [show ∀ b_ : UInt8, (⟨#[b_]⟩ : ByteArray).size = 1 from fun _ => rfl, show (⟨#[32, 61, 60, 43, 35, 83, 33, 38, 124, 69, 65]⟩ : ByteArray).size = 11 from rfl] at c94b4_; have c94b3_ := eq_false (Nat.not_lt.2 c94b4_))
             try (have c94b5_ := c94; simp only [ByteArray.size_append, ByteArray.size_extract, show ∀ b_ : UInt8, (⟨#[b_]⟩ : ByteArray).size = 1 from fun _ => rfl, show (⟨#[32, 61, 60, 43, 35, 83, 33, 38, 124, 69, 65]⟩ : ByteArray).size = 11 from rfl] at c94b5_; have c94b6_ := eq_false (Nat.not_lt.2 c94b5_))
             replace H := Option.bind_eq_some_iff.mp H
             obtain ⟨t169, A950, H⟩ := H
             replace H : (if ((⟨#[69]⟩ : ByteArray) ++ t168).size + t169.size ≤ 9223372036854775807 then (some (((⟨#[69]⟩ : ByteArray) ++ t168) ++ t169)) else (none)) = some r := H
             have A95 := yA A950
             clear A950
             by_cases c96 : ((⟨#[69]⟩ : ByteArray) ++ t168).size + t169.size ≤ 9223372036854775807
             ·rw [if_pos c96] at H
              have c96b0 := eq_true c96
              have c96b1 : decide (((⟨#[69]⟩ : ByteArray) ++ t168).size + t169.size ≤ 9223372036854775807) = true := zH c96
              try have c96b2 : (9223372036854775807 < ((⟨#[69]⟩ : ByteArray) ++ t168).size + t169.size) = False := eq_false (Nat.not_lt.2 c96)
              try (have c96b4_ := c96; simp [show ∀ b_ : UInt8, (⟨#[b_]⟩ : ByteArray).size = 1 from fun _ => rfl, show (⟨#[32, 61, 60, 43, 35, 83, 33, 38, 124, 69, 65]⟩ : ByteArray).size = 11 from rfl] at c96b4_; have c96b3_ := eq_false (Nat.not_lt.2 c96b4_))
              try (have c96b5_ := c96; simp only [ByteArray.size_append, ByteArray.size_extract, show ∀ b_ : UInt8, (⟨#[b_]⟩ : ByteArray).size = 1 from fun _ => rfl, show (⟨#[32, 61, 60, 43, 35, 83, 33, 38, 124, 69, 65]⟩ : ByteArray).size = 11 from rfl] at c96b5_; have c96b6_ := eq_false (Nat.not_lt.2 c96b5_))
              obtain rfl := zU H
              have p150 : 0 ≤ (a1 : Int) := zG (by first | (with_reducible assumption) | assumption)
              have q150 : a1 < (l0.length : Int) := zG (by first | (with_reducible assumption) | assumption)
              obtain ⟨ad150, e150, hx150_0, hx150_1, hx150_2, hx150_3⟩ := at_T33 HR0.out a1 p150 q150
              cases e150
              replace p150 := eq_true p150
              replace q150 := eq_true q150
              go_enter Tryd.func13, Tryd.ntmps13
              try go_wp2_with (first | ((with_reducible refine gate_dst (N := 5) rfl ?_); refine box_event ?hg (N := 5) ?hd (cs := #[.int .i64 0, .int .i64 0, .int .i64 0, .int .i64 0]) (t := 33) ?hr ?_; (case hd => rfl); (case hg => rfl); (case hr => first | (go_simp; done) | (go_simp; rfl)); intro gb151 hg w97 hbox hb; have n0_ := yA (zD (mB HB.out) hb); have n1_ := yA (hbox); have n2_ := yA ((by rw [hg]; exact (yX (mB HB.out)) : w.heap.size ≤ gb151)); have n3_ := yA ((by rw [hg]; exact (yX (mB HB.out)) : w.heap.size ≤ gb151)); clear HB; have HB := n0_; have BK151 := n1_; have GW151 := n2_; have GE151 := n3_; clear n0_ n1_ n2_ n3_; clear hb hbox hg; have hcz98_0 : w97.cell? ⟨gb151, 0, none⟩ = some (.int .i64 0) := (yV BK151.out 0).trans rfl; have hcz98_1 : w97.cell? ⟨gb151, 1, none⟩ = some (.int .i64 0) := (yV BK151.out 1).trans rfl; have hcz98_2 : w97.cell? ⟨gb151, 2, none⟩ = some (.int .i64 0) := (yV BK151.out 2).trans rfl; have hcz98_3 : w97.cell? ⟨gb151, 3, none⟩ = some (.int .i64 0) := (yV BK151.out 3).trans rfl; have hfz98_0 := yW BK151.out 0; have hfz98_1 := yW BK151.out 1; have hfz98_2 := yW BK151.out 2; have hfz98_3 := yW BK151.out 3))
              have n0_ : Aside0 (((((w97.setCell ⟨gb151, 0, none⟩ (.int .i64 ((rd_T33 l0 a1).f0))).setCell ⟨gb151, 1, none⟩ (.int .i64 ((rd_T33 l0 a1).f1))).setCell ⟨gb151, 2, none⟩ (.int .i64 ((rd_T33 l0 a1).f2))).setCell ⟨gb151, 3, none⟩ (.int .i64 ((rd_T33 l0 a1).f3))).heap[gb151]? = some (.cells #[.int .i64 ((rd_T33 l0 a1).f0), .int .i64 ((rd_T33 l0 a1).f1), .int .i64 ((rd_T33 l0 a1).f2), .int .i64 ((rd_T33 l0 a1).f3)] 33 (0, 0))) := ⟨by (with_reducible repeat (first | refine yS ?_ _ | refine yT ?_ | refine yR ?_ _)); refine blk_put (cs := #[.int .i64 ((rd_T33 l0 a1).f0), .int .i64 ((rd_T33 l0 a1).f1), .int .i64 ((rd_T33 l0 a1).f2), .int .i64 0]) ?_ 3 _ rfl; (with_reducible repeat (first | refine yS ?_ _ | refine yT ?_ | refine yR ?_ _)); refine blk_put (cs := #[.int .i64 ((rd_T33 l0 a1).f0), .int .i64 ((rd_T33 l0 a1).f1), .int .i64 0, .int .i64 0]) ?_ 2 _ rfl; (with_reducible repeat (first | refine yS ?_ _ | refine yT ?_ | refine yR ?_ _)); refine blk_put (cs := #[.int .i64 ((rd_T33 l0 a1).f0), .int .i64 0, .int .i64 0, .int .i64 0]) ?_ 1 _ rfl; (with_reducible repeat (first | refine yS ?_ _ | refine yT ?_ | refine yR ?_ _)); refine blk_put (cs := #[.int .i64 0, .int .i64 0, .int .i64 0, .int .i64 0]) ?_ 0 _ rfl; (with_reducible repeat (first | refine yS ?_ _ | refine yT ?_ | refine yR ?_ _)); exact BK151.out⟩
              have n1_ : Aside0 (Below w.heap.size w ((((w97.setCell ⟨gb151, 0, none⟩ (.int .i64 ((rd_T33 l0 a1).f0))).setCell ⟨gb151, 1, none⟩ (.int .i64 ((rd_T33 l0 a1).f1))).setCell ⟨gb151, 2, none⟩ (.int .i64 ((rd_T33 l0 a1).f2))).setCell ⟨gb151, 3, none⟩ (.int .i64 ((rd_T33 l0 a1).f3)))) := ⟨by repeat (first | (with_reducible first | exact HB.out | apply yO | apply yN | apply yP | refine yQ ?_ GE151.out) | exact HB.out)⟩
              (try clear BK151)
              (try clear HB)
              generalize ((((w97.setCell ⟨gb151, 0, none⟩ (.int .i64 ((rd_T33 l0 a1).f0))).setCell ⟨gb151, 1, none⟩ (.int .i64 ((rd_T33 l0 a1).f1))).setCell ⟨gb151, 2, none⟩ (.int .i64 ((rd_T33 l0 a1).f2))).setCell ⟨gb151, 3, none⟩ (.int .i64 ((rd_T33 l0 a1).f3))) = w99 at n0_ n1_ ⊢
              have BK151 := n0_
              have HB := n1_
              clear n0_ n1_
              have n0_ := yA (yT BK151.out)
              have n1_ := yA (yP HB.out)
              clear BK151
              clear HB
              have BK151 := n0_
              have HB := n1_
              clear n0_ n1_
              refine start_ (n := 10) (S := fun w' => w'.cell? ⟨gb151, 0, none⟩ = some (.int .i64 ((rd_T33 l0 a1).f0)) ∧ w'.cell? ⟨gb151, 1, none⟩ = some (.int .i64 ((rd_T33 l0 a1).f1)) ∧ w'.cell? ⟨gb151, 2, none⟩ = some (.int .i64 ((rd_T33 l0 a1).f2)) ∧ w'.cell? ⟨gb151, 3, none⟩ = some (.int .i64 ((rd_T33 l0 a1).f3))) (ds := []) #[false, false, false, false, false, false, false, false, false, false] (by kernel_rfl) rfl rfl ⟨(yV BK151.out 0).trans rfl, (yV BK151.out 1).trans rfl, (yV BK151.out 2).trans rfl, (yV BK151.out 3).trans rfl⟩ (fun hHeld => ?_); refine with_tabW spec_l16Text.tab20 spec_l16Text.bits20 (fun HT_ HW_ => ?_)
              generalize w99.drew = w100 at BK151 HB hHeld ⊢
              refine pure_ (i := 0) (N := some 100) (v := ?_) (a' := ?_) #[true, false, false, false, false, false, false, false, false, false] rfl rfl (any_of HT_.out (by kernel_rfl)) (fun _ _ _ h => h) (Or.inl ⟨by rfl, ?_⟩) ?_ ?_
              rotate_left
              ·intro w'
               go_simp
               with_reducible rfl
              rotate_left
              ·simp only [Act.put, zA, zB, zC, i64_w, i32_w]
               rfl
              refine pure_ (i := 4) (N := some 104) (v := ?_) (a' := ?_) #[true, false, false, false, true, false, false, false, false, false] rfl rfl (any_of HT_.out (by kernel_rfl)) (fun _ _ _ h => h) (Or.inl ⟨by rfl, ?_⟩) ?_ ?_
              rotate_left
              ·intro w'
               go_simp
               with_reducible rfl
              rotate_left
              ·simp only [Act.put, zA, zB, zC, i64_w, i32_w]
               rfl
              refine pure_ (i := 5) (N := some 105) (v := ?_) (a' := ?_) #[true, false, false, false, true, true, false, false, false, false] rfl rfl (any_of HT_.out (by kernel_rfl)) (fun _ _ _ h => h) (Or.inl ⟨by rfl, ?_⟩) ?_ ?_
              rotate_left
              ·intro w'
               go_simp
               with_reducible rfl
              rotate_left
              ·simp only [Act.put, zA, zB, zC, i64_w, i32_w]
               rfl
              refine take_ (i := 1) (N := some 101) (v := ?_) (a' := ?_) #[true, true, false, false, true, true, false, false, false, false] rfl rfl (take_ofW HT_.out HW_.out (by kernel_rfl)) (fun _ _ _ h => h) (Or.inl ⟨by rfl, ?_⟩) hHeld ?_ ?_
              rotate_left
              ·rintro w' ⟨s0, s1, s2, s3⟩
               go_simp
               with_reducible rfl
              rotate_left
              ·simp only [Act.put, zA, zB, zC, i64_w, i32_w]
               rfl
              refine take_ (i := 6) (N := some 106) (v := ?_) (a' := ?_) #[true, true, false, false, true, true, true, false, false, false] rfl rfl (take_ofW HT_.out HW_.out (by kernel_rfl)) (fun _ _ _ h => h) (Or.inl ⟨by rfl, ?_⟩) hHeld ?_ ?_
              rotate_left
              ·rintro w' ⟨s0, s1, s2, s3⟩
               go_simp
               with_reducible rfl
              rotate_left
              ·simp only [Act.put, zA, zB, zC, i64_w, i32_w]
               rfl
              refine one_ (i := 2) (N := some 102) #[true, true, true, false, true, true, true, false, false, false] rfl rfl (one_of HT_.out (by kernel_rfl)) (by decide) (fun K hK => ?_)
              refine goes_ Tryd.func21 (by kernel_rfl) rfl #[.int .i64 ((rd_T33 l0 a1).f1)] (by rfl) rfl rfl (by (try simp only [zI, zJ, zK]); first | done | rfl | (simp only [zL, zM]; rfl)) ?_
              with_reducible refine (spec_FormatInt.calls k ((rd_T33 l0 a1).f1) t168 _ A93.out).mono ?_
              rintro e w101 ⟨rfl, hb⟩
              refine ⟨_, rfl, ?_⟩
              have n0_ := yA (yU (mK BK151.out) hb)
              have n1_ := yA (zD (by with_reducible repeat first | exact HB.out | apply yO | apply yN | apply yP | refine yQ ?_ GE151.out) hb)
              clear BK151
              clear HB
              have BK151 := n0_
              have HB := n1_
              clear n0_ n1_
              (try clear hb)
              (try clear hb2)
              (try clear hk)
              (try clear hi)
              refine hK.out _ _ ⟨(yV BK151.out 0).trans rfl, (yV BK151.out 1).trans rfl, (yV BK151.out 2).trans rfl, (yV BK151.out 3).trans rfl⟩ (fun hHeld => ?_)
              clear hK K
              refine norm_ (a' := ?_) ?_ ?_
              rotate_left
              ·show Act.put _ (some 102) _ = _
               simp only [Act.put, zA, zB, zC, i64_w, i32_w]
               rfl
              refine pure_ (i := 3) (N := some 103) (v := ?_) (a' := ?_) #[true, true, true, true, true, true, true, false, false, false] rfl rfl (any_of HT_.out (by kernel_rfl)) (fun _ _ _ h => h) (Or.inl ⟨by rfl, ?_⟩) ?_ ?_
              rotate_left
              ·intro w'
               go_simp
               with_reducible rfl
              rotate_left
              ·simp only [Act.put, zA, zB, zC, i64_w, i32_w]
               rfl
              refine one_ (i := 7) (N := some 107) #[true, true, true, true, true, true, true, true, false, false] rfl rfl (one_of HT_.out (by kernel_rfl)) (by decide) (fun K hK => ?_)
              refine goes_ Tryd.func13 (by kernel_rfl) rfl #[.slice (some ad150) l0.length c0, .int .i64 ((rd_T33 l0 a1).f2)] (by rfl) rfl rfl (by (try simp only [zI, zJ, zK]); first | done | rfl | (simp only [zL, zM]; rfl)) ?_
              with_reducible refine (ih k (by omega) _ _ l0 ((rd_T33 l0 a1).f2) t169 _ ?side1 ?side2 A95.out).mono ?_
              (case side1 => exact mC (yM HR0.out HB.out))
              (case side2 => exact HC0.out)
              rintro e w102 ⟨rfl, hb⟩
              refine ⟨_, rfl, ?_⟩
              have n0_ := yA (yU (mK BK151.out) hb)
              have n1_ := yA (zD (by with_reducible repeat first | exact HB.out | apply yO | apply yN | apply yP | refine yQ ?_ GE151.out) hb)
              clear BK151
              clear HB
              have BK151 := n0_
              have HB := n1_
              clear n0_ n1_
              (try clear hb)
              (try clear hb2)
              (try clear hk)
              (try clear hi)
              refine hK.out _ _ ⟨(yV BK151.out 0).trans rfl, (yV BK151.out 1).trans rfl, (yV BK151.out 2).trans rfl, (yV BK151.out 3).trans rfl⟩ (fun hHeld => ?_)
              clear hK K
              refine norm_ (a' := ?_) ?_ ?_
              rotate_left
              ·show Act.put _ (some 107) _ = _
               simp only [Act.put, zA, zB, zC, i64_w, i32_w]
               rfl
              refine pure_ (i := 8) (N := some 108) (v := ?_) (a' := ?_) #[true, true, true, true, true, true, true, true, true, false] rfl rfl (any_of HT_.out (by kernel_rfl)) (fun _ _ _ h => h) (Or.inl ⟨by rfl, ?_⟩) ?_ ?_
              rotate_left
              ·intro w'
               go_simp
               with_reducible rfl
              rotate_left
              ·simp only [Act.put, zA, zB, zC, i64_w, i32_w]
               rfl
              refine pure_ (i := 9) (N := some 4) (v := ?_) (a' := ?_) #[true, true, true, true, true, true, true, true, true, true] rfl rfl (any_of HT_.out (by kernel_rfl)) (fun _ _ _ h => h) (Or.inl ⟨by rfl, ?_⟩) ?_ ?_
              rotate_left
              ·intro w'
               go_simp
               with_reducible rfl
              rotate_left
              ·simp only [Act.put, zA, zB, zC, i64_w, i32_w]
               rfl
              refine done_ (done_of HT_.out (by kernel_rfl)) ?_
              try go_wp2
              go_ret
              exact ⟨by first | rfl | (simp [errW_none, errW_some] <;> rfl) | (simp [*, errW_none, errW_some] <;> rfl), by repeat (first | (with_reducible first | exact HB.out | apply yO | apply yN | apply yP | refine yQ ?_ GE151.out) | exact HB.out)⟩
             ·rw [if_neg c96] at H
              exact absurd H (by simp)
            ·rw [if_neg c94] at H
             exact absurd H (by simp)
           ·rw [if_neg c92] at H
            have c92b0 : (((rd_T33 l0 a1).f0) == 9) = false := beq_eq_false_iff_ne.mpr c92
            have c92b1 : (((rd_T33 l0 a1).f0) != 9) = true := bne_iff_ne.mpr c92
            replace H := Option.bind_eq_some_iff.mp H
            obtain ⟨t170, A1030, H⟩ := H
            replace H : (if 1 + t170.size ≤ 9223372036854775807 then ((spec_l16Text.f k l0 ((rd_T33 l0 a1).f2)).bind fun t171 => (if ((⟨#[65]⟩ : ByteArray) ++ t170).size + t171.size ≤ 9223372036854775807 then (some (((⟨#[65]⟩ : ByteArray) ++ t170) ++ t171)) else (none))) else (none)) = some r := H
            have A103 := yA A1030
            clear A1030
            by_cases c104 : 1 + t170.size ≤ 9223372036854775807
            ·rw [if_pos c104] at H
             have c104b0 := eq_true c104
             have c104b1 : decide (1 + t170.size ≤ 9223372036854775807) = true := zH c104
             try have c104b2 : (9223372036854775807 < 1 + t170.size) = False := eq_false (Nat.not_lt.2 c104)
             try (have c104b4_ := c104; simp [show ∀ b_ : UInt8, (⟨#[b_]⟩ : ByteArray).size = 1 from fun _ => rfl, show (⟨#[32, 61, 60, 43, 35, 83, 33, 38, 124, 69, 65]⟩ : ByteArray).size = 11 from rfl] at c104b4_; have c104b3_ := eq_false (Nat.not_lt.2 c104b4_))
             try (have c104b5_ := c104; simp only [ByteArray.size_append, ByteArray.size_extract, show ∀ b_ : UInt8, (⟨#[b_]⟩ : ByteArray).size = 1 from fun _ => rfl, show (⟨#[32, 61, 60, 43, 35, 83, 33, 38, 124, 69, 65]⟩ : ByteArray).size = 11 from rfl] at c104b5_; have c104b6_ := eq_false (Nat.not_lt.2 c104b5_))
             replace H := Option.bind_eq_some_iff.mp H
             obtain ⟨t171, A1050, H⟩ := H
             replace H : (if ((⟨#[65]⟩ : ByteArray) ++ t170).size + t171.size ≤ 9223372036854775807 then (some (((⟨#[65]⟩ : ByteArray) ++ t170) ++ t171)) else (none)) = some r := H
             have A105 := yA A1050
             clear A1050
             by_cases c106 : ((⟨#[65]⟩ : ByteArray) ++ t170).size + t171.size ≤ 9223372036854775807
             ·rw [if_pos c106] at H
              have c106b0 := eq_true c106
              have c106b1 : decide (((⟨#[65]⟩ : ByteArray) ++ t170).size + t171.size ≤ 9223372036854775807) = true := zH c106
              try have c106b2 : (9223372036854775807 < ((⟨#[65]⟩ : ByteArray) ++ t170).size + t171.size) = False := eq_false (Nat.not_lt.2 c106)
              try (have c106b4_ := c106; simp [show ∀ b_ : UInt8, (⟨#[b_]⟩ : ByteArray).size = 1 from fun _ => rfl, show (⟨#[32, 61, 60, 43, 35, 83, 33, 38, 124, 69, 65]⟩ : ByteArray).size = 11 from rfl] at c106b4_; have c106b3_ := eq_false (Nat.not_lt.2 c106b4_))
              try (have c106b5_ := c106; simp only [ByteArray.size_append, ByteArray.size_extract, show ∀ b_ : UInt8, (⟨#[b_]⟩ : ByteArray).size = 1 from fun _ => rfl, show (⟨#[32, 61, 60, 43, 35, 83, 33, 38, 124, 69, 65]⟩ : ByteArray).size = 11 from rfl] at c106b5_; have c106b6_ := eq_false (Nat.not_lt.2 c106b5_))
              obtain rfl := zU H
              have p150 : 0 ≤ (a1 : Int) := zG (by first | (with_reducible assumption) | assumption)
              have q150 : a1 < (l0.length : Int) := zG (by first | (with_reducible assumption) | assumption)
              obtain ⟨ad150, e150, hx150_0, hx150_1, hx150_2, hx150_3⟩ := at_T33 HR0.out a1 p150 q150
              cases e150
              replace p150 := eq_true p150
              replace q150 := eq_true q150
              go_enter Tryd.func13, Tryd.ntmps13
              try go_wp2_with (first | ((with_reducible refine gate_dst (N := 5) rfl ?_); refine box_event ?hg (N := 5) ?hd (cs := #[.int .i64 0, .int .i64 0, .int .i64 0, .int .i64 0]) (t := 33) ?hr ?_; (case hd => rfl); (case hg => rfl); (case hr => first | (go_simp; done) | (go_simp; rfl)); intro gb151 hg w107 hbox hb; have n0_ := yA (zD (mB HB.out) hb); have n1_ := yA (hbox); have n2_ := yA ((by rw [hg]; exact (yX (mB HB.out)) : w.heap.size ≤ gb151)); have n3_ := yA ((by rw [hg]; exact (yX (mB HB.out)) : w.heap.size ≤ gb151)); clear HB; have HB := n0_; have BK151 := n1_; have GW151 := n2_; have GE151 := n3_; clear n0_ n1_ n2_ n3_; clear hb hbox hg; have hcz108_0 : w107.cell? ⟨gb151, 0, none⟩ = some (.int .i64 0) := (yV BK151.out 0).trans rfl; have hcz108_1 : w107.cell? ⟨gb151, 1, none⟩ = some (.int .i64 0) := (yV BK151.out 1).trans rfl; have hcz108_2 : w107.cell? ⟨gb151, 2, none⟩ = some (.int .i64 0) := (yV BK151.out 2).trans rfl; have hcz108_3 : w107.cell? ⟨gb151, 3, none⟩ = some (.int .i64 0) := (yV BK151.out 3).trans rfl; have hfz108_0 := yW BK151.out 0; have hfz108_1 := yW BK151.out 1; have hfz108_2 := yW BK151.out 2; have hfz108_3 := yW BK151.out 3))
              have n0_ : Aside0 (((((w107.setCell ⟨gb151, 0, none⟩ (.int .i64 ((rd_T33 l0 a1).f0))).setCell ⟨gb151, 1, none⟩ (.int .i64 ((rd_T33 l0 a1).f1))).setCell ⟨gb151, 2, none⟩ (.int .i64 ((rd_T33 l0 a1).f2))).setCell ⟨gb151, 3, none⟩ (.int .i64 ((rd_T33 l0 a1).f3))).heap[gb151]? = some (.cells #[.int .i64 ((rd_T33 l0 a1).f0), .int .i64 ((rd_T33 l0 a1).f1), .int .i64 ((rd_T33 l0 a1).f2), .int .i64 ((rd_T33 l0 a1).f3)] 33 (0, 0))) := ⟨by (with_reducible repeat (first | refine yS ?_ _ | refine yT ?_ | refine yR ?_ _)); refine blk_put (cs := #[.int .i64 ((rd_T33 l0 a1).f0), .int .i64 ((rd_T33 l0 a1).f1), .int .i64 ((rd_T33 l0 a1).f2), .int .i64 0]) ?_ 3 _ rfl; (with_reducible repeat (first | refine yS ?_ _ | refine yT ?_ | refine yR ?_ _)); refine blk_put (cs := #[.int .i64 ((rd_T33 l0 a1).f0), .int .i64 ((rd_T33 l0 a1).f1), .int .i64 0, .int .i64 0]) ?_ 2 _ rfl; (with_reducible repeat (first | refine yS ?_ _ | refine yT ?_ | refine yR ?_ _)); refine blk_put (cs := #[.int .i64 ((rd_T33 l0 a1).f0), .int .i64 0, .int .i64 0, .int .i64 0]) ?_ 1 _ rfl; (with_reducible repeat (first | refine yS ?_ _ | refine yT ?_ | refine yR ?_ _)); refine blk_put (cs := #[.int .i64 0, .int .i64 0, .int .i64 0, .int .i64 0]) ?_ 0 _ rfl; (with_reducible repeat (first | refine yS ?_ _ | refine yT ?_ | refine yR ?_ _)); exact BK151.out⟩
              have n1_ : Aside0 (Below w.heap.size w ((((w107.setCell ⟨gb151, 0, none⟩ (.int .i64 ((rd_T33 l0 a1).f0))).setCell ⟨gb151, 1, none⟩ (.int .i64 ((rd_T33 l0 a1).f1))).setCell ⟨gb151, 2, none⟩ (.int .i64 ((rd_T33 l0 a1).f2))).setCell ⟨gb151, 3, none⟩ (.int .i64 ((rd_T33 l0 a1).f3)))) := ⟨by repeat (first | (with_reducible first | exact HB.out | apply yO | apply yN | apply yP | refine yQ ?_ GE151.out) | exact HB.out)⟩
              (try clear BK151)
              (try clear HB)
              generalize ((((w107.setCell ⟨gb151, 0, none⟩ (.int .i64 ((rd_T33 l0 a1).f0))).setCell ⟨gb151, 1, none⟩ (.int .i64 ((rd_T33 l0 a1).f1))).setCell ⟨gb151, 2, none⟩ (.int .i64 ((rd_T33 l0 a1).f2))).setCell ⟨gb151, 3, none⟩ (.int .i64 ((rd_T33 l0 a1).f3))) = w109 at n0_ n1_ ⊢
              have BK151 := n0_
              have HB := n1_
              clear n0_ n1_
              have n0_ := yA (yT BK151.out)
              have n1_ := yA (yP HB.out)
              clear BK151
              clear HB
              have BK151 := n0_
              have HB := n1_
              clear n0_ n1_
              refine start_ (n := 10) (S := fun w' => w'.cell? ⟨gb151, 0, none⟩ = some (.int .i64 ((rd_T33 l0 a1).f0)) ∧ w'.cell? ⟨gb151, 1, none⟩ = some (.int .i64 ((rd_T33 l0 a1).f1)) ∧ w'.cell? ⟨gb151, 2, none⟩ = some (.int .i64 ((rd_T33 l0 a1).f2)) ∧ w'.cell? ⟨gb151, 3, none⟩ = some (.int .i64 ((rd_T33 l0 a1).f3))) (ds := []) #[false, false, false, false, false, false, false, false, false, false] (by kernel_rfl) rfl rfl ⟨(yV BK151.out 0).trans rfl, (yV BK151.out 1).trans rfl, (yV BK151.out 2).trans rfl, (yV BK151.out 3).trans rfl⟩ (fun hHeld => ?_); refine with_tabW spec_l16Text.tab21 spec_l16Text.bits21 (fun HT_ HW_ => ?_)
              generalize w109.drew = w110 at BK151 HB hHeld ⊢
              refine pure_ (i := 0) (N := some 109) (v := ?_) (a' := ?_) #[true, false, false, false, false, false, false, false, false, false] rfl rfl (any_of HT_.out (by kernel_rfl)) (fun _ _ _ h => h) (Or.inl ⟨by rfl, ?_⟩) ?_ ?_
              rotate_left
              ·intro w'
               go_simp
               with_reducible rfl
              rotate_left
              ·simp only [Act.put, zA, zB, zC, i64_w, i32_w]
               rfl
              refine pure_ (i := 4) (N := some 113) (v := ?_) (a' := ?_) #[true, false, false, false, true, false, false, false, false, false] rfl rfl (any_of HT_.out (by kernel_rfl)) (fun _ _ _ h => h) (Or.inl ⟨by rfl, ?_⟩) ?_ ?_
              rotate_left
              ·intro w'
               go_simp
               with_reducible rfl
              rotate_left
              ·simp only [Act.put, zA, zB, zC, i64_w, i32_w]
               rfl
              refine pure_ (i := 5) (N := some 114) (v := ?_) (a' := ?_) #[true, false, false, false, true, true, false, false, false, false] rfl rfl (any_of HT_.out (by kernel_rfl)) (fun _ _ _ h => h) (Or.inl ⟨by rfl, ?_⟩) ?_ ?_
              rotate_left
              ·intro w'
               go_simp
               with_reducible rfl
              rotate_left
              ·simp only [Act.put, zA, zB, zC, i64_w, i32_w]
               rfl
              refine take_ (i := 1) (N := some 110) (v := ?_) (a' := ?_) #[true, true, false, false, true, true, false, false, false, false] rfl rfl (take_ofW HT_.out HW_.out (by kernel_rfl)) (fun _ _ _ h => h) (Or.inl ⟨by rfl, ?_⟩) hHeld ?_ ?_
              rotate_left
              ·rintro w' ⟨s0, s1, s2, s3⟩
               go_simp
               with_reducible rfl
              rotate_left
              ·simp only [Act.put, zA, zB, zC, i64_w, i32_w]
               rfl
              refine take_ (i := 6) (N := some 115) (v := ?_) (a' := ?_) #[true, true, false, false, true, true, true, false, false, false] rfl rfl (take_ofW HT_.out HW_.out (by kernel_rfl)) (fun _ _ _ h => h) (Or.inl ⟨by rfl, ?_⟩) hHeld ?_ ?_
              rotate_left
              ·rintro w' ⟨s0, s1, s2, s3⟩
               go_simp
               with_reducible rfl
              rotate_left
              ·simp only [Act.put, zA, zB, zC, i64_w, i32_w]
               rfl
              refine one_ (i := 2) (N := some 111) #[true, true, true, false, true, true, true, false, false, false] rfl rfl (one_of HT_.out (by kernel_rfl)) (by decide) (fun K hK => ?_)
              refine goes_ Tryd.func21 (by kernel_rfl) rfl #[.int .i64 ((rd_T33 l0 a1).f1)] (by rfl) rfl rfl (by (try simp only [zI, zJ, zK]); first | done | rfl | (simp only [zL, zM]; rfl)) ?_
              with_reducible refine (spec_FormatInt.calls k ((rd_T33 l0 a1).f1) t170 _ A103.out).mono ?_
              rintro e w111 ⟨rfl, hb⟩
              refine ⟨_, rfl, ?_⟩
              have n0_ := yA (yU (mK BK151.out) hb)
              have n1_ := yA (zD (by with_reducible repeat first | exact HB.out | apply yO | apply yN | apply yP | refine yQ ?_ GE151.out) hb)
              clear BK151
              clear HB
              have BK151 := n0_
              have HB := n1_
              clear n0_ n1_
              (try clear hb)
              (try clear hb2)
              (try clear hk)
              (try clear hi)
              refine hK.out _ _ ⟨(yV BK151.out 0).trans rfl, (yV BK151.out 1).trans rfl, (yV BK151.out 2).trans rfl, (yV BK151.out 3).trans rfl⟩ (fun hHeld => ?_)
              clear hK K
              refine norm_ (a' := ?_) ?_ ?_
              rotate_left
              ·show Act.put _ (some 111) _ = _
               simp only [Act.put, zA, zB, zC, i64_w, i32_w]
               rfl
              refine pure_ (i := 3) (N := some 112) (v := ?_) (a' := ?_) #[true, true, true, true, true, true, true, false, false, false] rfl rfl (any_of HT_.out (by kernel_rfl)) (fun _ _ _ h => h) (Or.inl ⟨by rfl, ?_⟩) ?_ ?_
              rotate_left
              ·intro w'
               go_simp
               with_reducible rfl
              rotate_left
              ·simp only [Act.put, zA, zB, zC, i64_w, i32_w]
               rfl
              refine one_ (i := 7) (N := some 116) #[true, true, true, true, true, true, true, true, false, false] rfl rfl (one_of HT_.out (by kernel_rfl)) (by decide) (fun K hK => ?_)
              refine goes_ Tryd.func13 (by kernel_rfl) rfl #[.slice (some ad150) l0.length c0, .int .i64 ((rd_T33 l0 a1).f2)] (by rfl) rfl rfl (by (try simp only [zI, zJ, zK]); first | done | rfl | (simp only [zL, zM]; rfl)) ?_
              with_reducible refine (ih k (by omega) _ _ l0 ((rd_T33 l0 a1).f2) t171 _ ?side1 ?side2 A105.out).mono ?_
              (case side1 => exact mC (yM HR0.out HB.out))
              (case side2 => exact HC0.out)
              rintro e w112 ⟨rfl, hb⟩
              refine ⟨_, rfl, ?_⟩
              have n0_ := yA (yU (mK BK151.out) hb)
              have n1_ := yA (zD (by with_reducible repeat first | exact HB.out | apply yO | apply yN | apply yP | refine yQ ?_ GE151.out) hb)
              clear BK151
              clear HB
              have BK151 := n0_
              have HB := n1_
              clear n0_ n1_
              (try clear hb)
              (try clear hb2)
              (try clear hk)
              (try clear hi)
              refine hK.out _ _ ⟨(yV BK151.out 0).trans rfl, (yV BK151.out 1).trans rfl, (yV BK151.out 2).trans rfl, (yV BK151.out 3).trans rfl⟩ (fun hHeld => ?_)
              clear hK K
              refine norm_ (a' := ?_) ?_ ?_
              rotate_left
              ·show Act.put _ (some 116) _ = _
               simp only [Act.put, zA, zB, zC, i64_w, i32_w]
               rfl
              refine pure_ (i := 8) (N := some 117) (v := ?_) (a' := ?_) #[true, true, true, true, true, true, true, true, true, false] rfl rfl (any_of HT_.out (by kernel_rfl)) (fun _ _ _ h => h) (Or.inl ⟨by rfl, ?_⟩) ?_ ?_
              rotate_left
              ·intro w'
               go_simp
               with_reducible rfl
              rotate_left
              ·simp only [Act.put, zA, zB, zC, i64_w, i32_w]
               rfl
              refine pure_ (i := 9) (N := some 4) (v := ?_) (a' := ?_) #[true, true, true, true, true, true, true, true, true, true] rfl rfl (any_of HT_.out (by kernel_rfl)) (fun _ _ _ h => h) (Or.inl ⟨by rfl, ?_⟩) ?_ ?_
              rotate_left
              ·intro w'
               go_simp
               with_reducible rfl
              rotate_left
              ·simp only [Act.put, zA, zB, zC, i64_w, i32_w]
               rfl
              refine done_ (done_of HT_.out (by kernel_rfl)) ?_
              try go_wp2
              go_ret
              exact ⟨by first | rfl | (simp [errW_none, errW_some] <;> rfl) | (simp [*, errW_none, errW_some] <;> rfl), by repeat (first | (with_reducible first | exact HB.out | apply yO | apply yN | apply yP | refine yQ ?_ GE151.out) | exact HB.out)⟩
             ·rw [if_neg c106] at H
              exact absurd H (by simp)
            ·rw [if_neg c104] at H
             exact absurd H (by simp)
  ·rw [if_neg c4] at H
   exact absurd H (by simp)
 ·rw [if_neg c3] at H
  exact absurd H (by simp)

end Go.Proofs.YtdckaflfgbbabaaDoor.Q
