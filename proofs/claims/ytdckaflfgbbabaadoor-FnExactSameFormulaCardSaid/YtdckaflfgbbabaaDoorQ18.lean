-- written by a program of this session (a turned copy of the kit's print) out of the translation
-- squeezed
-- compact
import Derived.Test.YtdckaflfgbbabaaDoorQ0
import Derived.Test.YtdckaflfgbbabaaDoorQ17
namespace Go.Proofs.YtdckaflfgbbabaaDoor.Q
open Go.RowKit Go.Proofs.YtdckaflfgbbabaaDoorW.PrintWords Go.Proofs.YtdckaflfgbbabaaDoorW.PrintLast Go.Proofs.YtdckaflfgbbabaaDoorW.PrintMore
attribute [local go_sem] max2_int min2_int max_two min_two max_three min_three max_four min_four   -- for this text's walks alone
set_option linter.unusedVariables false
set_option linter.unusedSimpArgs false

/-! ### impl_text: function 16 -/
mutual
def impl_text.j0 : Nat → List (S33) → ByteArray → Int → Bool → Int → Int → Int → Int → Option (ByteArray)
 | 0, _, _, _, _, _, _, _, _ => none
 | k + 1, x0, x6, x18, x19, x247000, x247001, x247002, x247003 => if x19 = true then ((impl_FormatInt.f x247001).bind fun t247 => (if x6.size + t247.size ≤ 9223372036854775807 then ((impl_FormatInt.f x247002).bind fun t248 => (if (x6 ++ t247).size + t248.size ≤ 9223372036854775807 then (some ((x6 ++ t247) ++ t248)) else (none))) else (none))) else (if x18 = 3 then ((impl_FormatInt.f x247001).bind fun t249 => (if x6.size + t249.size ≤ 9223372036854775807 then ((impl_FormatInt.f x247002).bind fun t250 => (if (x6 ++ t249).size + t250.size ≤ 9223372036854775807 then ((impl_FormatInt.f x247003).bind fun t251 => (if ((x6 ++ t249) ++ t250).size + t251.size ≤ 9223372036854775807 then (some (((x6 ++ t249) ++ t250) ++ t251)) else (none))) else (none))) else (none))) else (if x18 = 4 then ((impl_FormatInt.f x247001).bind fun t252 => (if x6.size + t252.size ≤ 9223372036854775807 then ((impl_FormatInt.f x247002).bind fun t253 => (if (x6 ++ t252).size + t253.size ≤ 9223372036854775807 then (if ((x6 ++ t252) ++ t253).size + 1 ≤ 9223372036854775807 then (some (((x6 ++ t252) ++ t253) ++ (⟨#[46]⟩ : ByteArray))) else (none)) else (none))) else (none))) else (if x18 = 6 then ((impl_text.f k x0 x247001).bind fun t254 => (if x6.size + t254.size ≤ 9223372036854775807 then (some (x6 ++ t254)) else (none))) else (if x18 = 7 then (impl_text.j1 k x0 x6 (x18 == 7) x247000 x247001 x247002 x247003) else (impl_text.j1 k x0 x6 (x18 == 8) x247000 x247001 x247002 x247003)))))
def impl_text.j1 : Nat → List (S33) → ByteArray → Bool → Int → Int → Int → Int → Option (ByteArray)
 | 0, _, _, _, _, _, _, _ => none
 | k + 1, x0, x6, x67, x247000, x247001, x247002, x247003 => if x67 = true then ((impl_text.f k x0 x247001).bind fun t255 => (if x6.size + t255.size ≤ 9223372036854775807 then ((impl_text.f k x0 x247002).bind fun t256 => (if (x6 ++ t255).size + t256.size ≤ 9223372036854775807 then (some ((x6 ++ t255) ++ t256)) else (none))) else (none))) else ((impl_FormatInt.f x247001).bind fun t257 => (if x6.size + t257.size ≤ 9223372036854775807 then ((impl_text.f k x0 x247002).bind fun t258 => (if (x6 ++ t257).size + t258.size ≤ 9223372036854775807 then (some ((x6 ++ t257) ++ t258)) else (none))) else (none)))
def impl_text.f : Nat → List (S33) → Int → Option (ByteArray)
 | 0, _, _ => none
 | k + 1, l0, a1 => if 0 ≤ a1 then (if a1 < (l0.length : Int) then (if 0 ≤ ((rd_T33 l0 a1).f0) then (if ((rd_T33 l0 a1).f0) ≤ (wrap64 (((rd_T33 l0 a1).f0) + 1)) then (if (wrap64 (((rd_T33 l0 a1).f0) + 1)) ≤ 11 then (if ((rd_T33 l0 a1).f0) = 1 then (impl_text.j0 k l0 ((⟨#[32, 61, 60, 43, 35, 83, 33, 38, 124, 69, 65]⟩ : ByteArray).extract (((rd_T33 l0 a1).f0) : Int).toNat ((wrap64 (((rd_T33 l0 a1).f0) + 1)) : Int).toNat) ((rd_T33 l0 a1).f0) (((rd_T33 l0 a1).f0) == 1) ((rd_T33 l0 a1).f0) ((rd_T33 l0 a1).f1) ((rd_T33 l0 a1).f2) ((rd_T33 l0 a1).f3)) else (if ((rd_T33 l0 a1).f0) = 2 then (impl_text.j0 k l0 ((⟨#[32, 61, 60, 43, 35, 83, 33, 38, 124, 69, 65]⟩ : ByteArray).extract (((rd_T33 l0 a1).f0) : Int).toNat ((wrap64 (((rd_T33 l0 a1).f0) + 1)) : Int).toNat) ((rd_T33 l0 a1).f0) (((rd_T33 l0 a1).f0) == 2) ((rd_T33 l0 a1).f0) ((rd_T33 l0 a1).f1) ((rd_T33 l0 a1).f2) ((rd_T33 l0 a1).f3)) else (impl_text.j0 k l0 ((⟨#[32, 61, 60, 43, 35, 83, 33, 38, 124, 69, 65]⟩ : ByteArray).extract (((rd_T33 l0 a1).f0) : Int).toNat ((wrap64 (((rd_T33 l0 a1).f0) + 1)) : Int).toNat) ((rd_T33 l0 a1).f0) (((rd_T33 l0 a1).f0) == 5) ((rd_T33 l0 a1).f0) ((rd_T33 l0 a1).f1) ((rd_T33 l0 a1).f2) ((rd_T33 l0 a1).f3)))) else (none)) else (none)) else (none)) else (none)) else (none)
end
theorem impl_text.mono_l : ∀ k, (∀ y0 y1, LeO (impl_text.f k y0 y1) (impl_text.f (k + 1) y0 y1)) ∧ (∀ y0 y1 y2 y3 y4 y5 y6 y7, LeO (impl_text.j0 k y0 y1 y2 y3 y4 y5 y6 y7) (impl_text.j0 (k + 1) y0 y1 y2 y3 y4 y5 y6 y7)) ∧ (∀ y0 y1 y2 y3 y4 y5 y6, LeO (impl_text.j1 k y0 y1 y2 y3 y4 y5 y6) (impl_text.j1 (k + 1) y0 y1 y2 y3 y4 y5 y6))
 | 0 => ⟨fun _ _ r h => by simp [impl_text.f] at h, fun _ _ _ _ _ _ _ _ r h => by simp [impl_text.j0] at h, fun _ _ _ _ _ _ _ r h => by simp [impl_text.j1] at h⟩
 | k + 1 => by
  obtain ⟨ih0, ih1, ih2⟩ := impl_text.mono_l k
  refine ⟨?_, ?_, ?_⟩
  ·intro y0 y1
   unfold impl_text.f
   repeat' first
   | (with_reducible exact ih0 _ _)
   | (with_reducible exact ih1 _ _ _ _ _ _ _ _)
   | (with_reducible exact ih2 _ _ _ _ _ _ _)
   | (with_reducible exact LeO.refl _)
   | (with_reducible exact LeO.none _)
   | (with_reducible refine LeO.ite ?_ ?_)
   | (with_reducible refine LeO.bind ?_ (fun _ => ?_))
   | exact ih0 _ _
   | exact ih1 _ _ _ _ _ _ _ _
   | exact ih2 _ _ _ _ _ _ _
   | exact LeO.none _
   | refine LeO.ite ?_ ?_
   | refine LeO.bind ?_ (fun _ => ?_)
  ·intro y0 y1 y2 y3 y4 y5 y6 y7
   unfold impl_text.j0
   repeat' first
   | (with_reducible exact ih0 _ _)
   | (with_reducible exact ih1 _ _ _ _ _ _ _ _)
   | (with_reducible exact ih2 _ _ _ _ _ _ _)
   | (with_reducible exact LeO.refl _)
   | (with_reducible exact LeO.none _)
   | (with_reducible refine LeO.ite ?_ ?_)
   | (with_reducible refine LeO.bind ?_ (fun _ => ?_))
   | exact ih0 _ _
   | exact ih1 _ _ _ _ _ _ _ _
   | exact ih2 _ _ _ _ _ _ _
   | exact LeO.none _
   | refine LeO.ite ?_ ?_
   | refine LeO.bind ?_ (fun _ => ?_)
  ·intro y0 y1 y2 y3 y4 y5 y6
   unfold impl_text.j1
   repeat' first
   | (with_reducible exact ih0 _ _)
   | (with_reducible exact ih1 _ _ _ _ _ _ _ _)
   | (with_reducible exact ih2 _ _ _ _ _ _ _)
   | (with_reducible exact LeO.refl _)
   | (with_reducible exact LeO.none _)
   | (with_reducible refine LeO.ite ?_ ?_)
   | (with_reducible refine LeO.bind ?_ (fun _ => ?_))
   | exact ih0 _ _
   | exact ih1 _ _ _ _ _ _ _ _
   | exact ih2 _ _ _ _ _ _ _
   | exact LeO.none _
   | refine LeO.ite ?_ ?_
   | refine LeO.bind ?_ (fun _ => ?_)
theorem impl_text.mono : ∀ a0 a1 k, LeO (impl_text.f k a0 a1) (impl_text.f (k + 1) a0 a1) := by
 intro a0 a1 k
 obtain ⟨ih0, ih1, ih2⟩ := impl_text.mono_l k
 exact ih0 a0 a1
def impl_text.T7 : Bool × List (List Nat × List Nat) := (true, [([], []), ([], []), ([1], [1]), ([2], [2]), ([0, 3], [0, 3]), ([], []), ([5], [5]), ([6, 3], [6]), ([4, 7], [4, 7]), ([8, 7, 0, 1, 2, 3, 4, 5, 6, 7, 8], [8])])
def impl_text.B7 : List Nat := [0, 0, 2, 6, 15, 0, 32, 110, 255, 511]
theorem impl_text.tab7 : rtab .any (opsOf Tryd.f16 7) = impl_text.T7 := by kernel_rfl
theorem impl_text.bits7 : waitsOk impl_text.T7.2 impl_text.B7 = true := by kernel_rfl
def impl_text.T9 : Bool × List (List Nat × List Nat) := (true, [([], []), ([], []), ([1], [1]), ([2], [2]), ([0, 3], [0, 3]), ([], []), ([5], [5]), ([6, 3], [6]), ([4, 7], [4, 7]), ([], []), ([9], [9]), ([10, 7], [10]), ([8, 11], [8, 11]), ([12, 11, 0, 1, 2, 3, 4, 5, 6, 7, 8, 9, 10, 11, 12], [12])])
def impl_text.B9 : List Nat := [0, 0, 2, 6, 15, 0, 32, 110, 255, 0, 512, 1774, 4095, 8191]
theorem impl_text.tab9 : rtab .any (opsOf Tryd.f16 9) = impl_text.T9 := by kernel_rfl
theorem impl_text.bits9 : waitsOk impl_text.T9.2 impl_text.B9 = true := by kernel_rfl
def impl_text.T11 : Bool × List (List Nat × List Nat) := (true, [([], []), ([], []), ([1], [1]), ([2], [2]), ([0, 3], [0, 3]), ([], []), ([5], [5]), ([6, 3], [6]), ([4, 7], [4, 7]), ([8], [8]), ([9, 7, 0, 1, 2, 3, 4, 5, 6, 7, 8, 9], [9])])
def impl_text.B11 : List Nat := [0, 0, 2, 6, 15, 0, 32, 110, 255, 511, 1023]
theorem impl_text.tab11 : rtab .any (opsOf Tryd.f16 11) = impl_text.T11 := by kernel_rfl
theorem impl_text.bits11 : waitsOk impl_text.T11.2 impl_text.B11 = true := by kernel_rfl
def impl_text.T16 : Bool × List (List Nat × List Nat) := (true, [([], []), ([], []), ([], []), ([2], [2]), ([1, 3], [1, 3]), ([0, 4], [0, 4]), ([], []), ([], []), ([7], [7]), ([6, 8, 4], [6, 8]), ([5, 9], [5, 9]), ([10, 9, 0, 1, 2, 3, 4, 5, 6, 7, 8, 9, 10], [10])])
def impl_text.B16 : List Nat := [0, 0, 0, 4, 14, 31, 0, 0, 128, 478, 1023, 2047]
theorem impl_text.tab16 : rtab .any (opsOf Tryd.f16 16) = impl_text.T16 := by kernel_rfl
theorem impl_text.bits16 : waitsOk impl_text.T16.2 impl_text.B16 = true := by kernel_rfl
def impl_text.T17 : Bool × List (List Nat × List Nat) := (true, [([], []), ([], []), ([1], [1]), ([2], [2]), ([0, 3], [0, 3]), ([], []), ([], []), ([6], [6]), ([5, 7, 3], [5, 7]), ([4, 8], [4, 8]), ([9, 8, 0, 1, 2, 3, 4, 5, 6, 7, 8, 9], [9])])
def impl_text.B17 : List Nat := [0, 0, 2, 6, 15, 0, 0, 64, 238, 511, 1023]
theorem impl_text.tab17 : rtab .any (opsOf Tryd.f16 17) = impl_text.T17 := by kernel_rfl
theorem impl_text.bits17 : waitsOk impl_text.T17.2 impl_text.B17 = true := by kernel_rfl
set_option maxHeartbeats 8000000 in
set_option maxRecDepth 100000 in
theorem impl_text.calls (k : Nat) : ∀ (A0 : Option Addr) (c0 : Nat) (l0 : List (S33)) (a1 : Int) (r : ByteArray) (w : World) (hr0 : Kd.C k33 w A0 l0.length l0) (hc0 : l0.length ≤ c0) (h : impl_text.f k l0 a1 = some r) (ht_ : TabAt w := by first | exact HTAB.out | (exact TabAt.below HTAB.out (mB HB.out))),
  Calls Tryd.prog 16 #[.slice A0 l0.length c0, .int .i64 a1] w fun e w' => e = .returned (.string r) ∧ Below w.heap.size w w' := by
 induction k using Nat.strongRecOn with
 | _ k ih =>
 intro A0 c0 l0 a1 r w hr0 hc0 h ht_
 have HTAB := yA ht_
 clear ht_
 cases k with
 | zero => exact absurd h (by simp [impl_text.f])
 | succ k =>
 simp only [impl_text.f] at h
 have hu33 := Tryd.underlying33
 have HR0 := yA hr0
 have HC0 := yA hc0
 clear hr0 hc0
 have HB := yA (zV w.heap.size w)
 have H : (if 0 ≤ a1 then (if a1 < (l0.length : Int) then (if 0 ≤ ((rd_T33 l0 a1).f0) then (if ((rd_T33 l0 a1).f0) ≤ (wrap64 (((rd_T33 l0 a1).f0) + 1)) then (if (wrap64 (((rd_T33 l0 a1).f0) + 1)) ≤ 11 then (if ((rd_T33 l0 a1).f0) = 1 then (impl_text.j0 k l0 ((⟨#[32, 61, 60, 43, 35, 83, 33, 38, 124, 69, 65]⟩ : ByteArray).extract (((rd_T33 l0 a1).f0) : Int).toNat ((wrap64 (((rd_T33 l0 a1).f0) + 1)) : Int).toNat) ((rd_T33 l0 a1).f0) (((rd_T33 l0 a1).f0) == 1) ((rd_T33 l0 a1).f0) ((rd_T33 l0 a1).f1) ((rd_T33 l0 a1).f2) ((rd_T33 l0 a1).f3)) else (if ((rd_T33 l0 a1).f0) = 2 then (impl_text.j0 k l0 ((⟨#[32, 61, 60, 43, 35, 83, 33, 38, 124, 69, 65]⟩ : ByteArray).extract (((rd_T33 l0 a1).f0) : Int).toNat ((wrap64 (((rd_T33 l0 a1).f0) + 1)) : Int).toNat) ((rd_T33 l0 a1).f0) (((rd_T33 l0 a1).f0) == 2) ((rd_T33 l0 a1).f0) ((rd_T33 l0 a1).f1) ((rd_T33 l0 a1).f2) ((rd_T33 l0 a1).f3)) else (impl_text.j0 k l0 ((⟨#[32, 61, 60, 43, 35, 83, 33, 38, 124, 69, 65]⟩ : ByteArray).extract (((rd_T33 l0 a1).f0) : Int).toNat ((wrap64 (((rd_T33 l0 a1).f0) + 1)) : Int).toNat) ((rd_T33 l0 a1).f0) (((rd_T33 l0 a1).f0) == 5) ((rd_T33 l0 a1).f0) ((rd_T33 l0 a1).f1) ((rd_T33 l0 a1).f2) ((rd_T33 l0 a1).f3)))) else (none)) else (none)) else (none)) else (none)) else (none)) = some r := h
 clear h
 by_cases c3 : 0 ≤ a1
 ·rw [if_pos c3] at H
  have c3b0 : decide (0 ≤ a1) = true := zH c3
  clear c3
  by_cases c4 : a1 < (l0.length : Int)
  ·rw [if_pos c4] at H
   have c4b0 : decide (a1 < (l0.length : Int)) = true := zH c4
   clear c4
   by_cases c5 : 0 ≤ ((rd_T33 l0 a1).f0)
   ·rw [if_pos c5] at H
    have c5b0 := eq_true c5
    have c5b1 : decide (0 ≤ ((rd_T33 l0 a1).f0)) = true := zH c5
    clear c5
    by_cases c6 : ((rd_T33 l0 a1).f0) ≤ (wrap64 (((rd_T33 l0 a1).f0) + 1))
    ·rw [if_pos c6] at H
     have c6b0 := eq_true c6
     have c6b1 : decide (((rd_T33 l0 a1).f0) ≤ (wrap64 (((rd_T33 l0 a1).f0) + 1))) = true := zH c6
     by_cases c7 : (wrap64 (((rd_T33 l0 a1).f0) + 1)) ≤ 11
     ·rw [if_pos c7] at H
      have c7b0 := eq_true c7
      have c7b1 : decide ((wrap64 (((rd_T33 l0 a1).f0) + 1)) ≤ 11) = true := zH c7
      have HC8 := yA H
      clear H
      have p245 : 0 ≤ (a1 : Int) := zG (by first | (with_reducible assumption) | assumption)
      have q245 : a1 < (l0.length : Int) := zG (by first | (with_reducible assumption) | assumption)
      obtain ⟨ad245, e245, hx245_0, hx245_1, hx245_2, hx245_3⟩ := at_T33 HR0.out a1 p245 q245
      cases e245
      replace p245 := eq_true p245
      replace q245 := eq_true q245
      go_enter Tryd.func16, Tryd.ntmps16
      go_upto_if 19 with (first | ((with_reducible refine gate_dst (N := 5) rfl ?_); refine box_event ?hg (N := 5) ?hd (cs := #[.int .i64 0, .int .i64 0, .int .i64 0, .int .i64 0]) (t := 33) ?hr ?_; (case hd => rfl); (case hg => rfl); (case hr => first | (go_simp; done) | (go_simp; rfl)); intro gb246 hg w9 hbox hb; have n0_ := yA (zD (mB HB.out) hb); have n1_ := yA (hbox); have n2_ := yA ((by rw [hg]; exact (yX (mB HB.out)) : w.heap.size ≤ gb246)); have n3_ := yA ((by rw [hg]; exact (yX (mB HB.out)) : w.heap.size ≤ gb246)); clear HB; have HB := n0_; have BK246 := n1_; have GW246 := n2_; have GE246 := n3_; clear n0_ n1_ n2_ n3_; clear hb hbox hg; have hcz10_0 : w9.cell? ⟨gb246, 0, none⟩ = some (.int .i64 0) := (yV BK246.out 0).trans rfl; have hcz10_1 : w9.cell? ⟨gb246, 1, none⟩ = some (.int .i64 0) := (yV BK246.out 1).trans rfl; have hcz10_2 : w9.cell? ⟨gb246, 2, none⟩ = some (.int .i64 0) := (yV BK246.out 2).trans rfl; have hcz10_3 : w9.cell? ⟨gb246, 3, none⟩ = some (.int .i64 0) := (yV BK246.out 3).trans rfl; have hfz10_0 := yW BK246.out 0; have hfz10_1 := yW BK246.out 1; have hfz10_2 := yW BK246.out 2; have hfz10_3 := yW BK246.out 3))
      (try simp only [Act.put, zA, zB, zC])
      go_cut [19] (fun v19 wc => ∃ (kq : Nat) (x19_7 : Bool), v19 = .bool x19_7 ∧ Aside0 (impl_text.j0 kq l0 ((⟨#[32, 61, 60, 43, 35, 83, 33, 38, 124, 69, 65]⟩ : ByteArray).extract (((rd_T33 l0 a1).f0) : Int).toNat ((wrap64 (((rd_T33 l0 a1).f0) + 1)) : Int).toNat) ((rd_T33 l0 a1).f0) x19_7 ((rd_T33 l0 a1).f0) ((rd_T33 l0 a1).f1) ((rd_T33 l0 a1).f2) ((rd_T33 l0 a1).f3) = some r) ∧ Aside0 (kq ≤ k) ∧ Aside0 (wc.heap[gb246]? = some (.cells #[.int .i64 ((rd_T33 l0 a1).f0), .int .i64 ((rd_T33 l0 a1).f1), .int .i64 ((rd_T33 l0 a1).f2), .int .i64 ((rd_T33 l0 a1).f3)] 33 (0, 0))) ∧ Aside0 (Below w.heap.size w wc))
      case first =>
       have H := HC8.out
       clear HC8
       by_cases c11 : ((rd_T33 l0 a1).f0) = 1
       ·rw [if_pos c11] at H
        have c11b0 : (((rd_T33 l0 a1).f0) == 1) = true := beq_iff_eq.mpr c11
        have c11b1 : (((rd_T33 l0 a1).f0) != 1) = false := bne_eq_false_iff_eq.mpr c11
        clear c11
        (first | rw [c11b0] | (simp only [i64_w, i32_w]; rw [c11b0]) | skip)
        have H' := yA H
        clear H
        go_wp2
        go_meet
        case rel => exact ⟨_, ((((rd_T33 l0 a1).f0) == 1)), (by first | rfl | (simp; done) | (simp [*]; done)), H', ⟨by first | omega | exact zT _⟩, ⟨by (with_reducible repeat (first | refine yS ?_ _ | refine yT ?_ | refine yR ?_ _)); refine blk_put (cs := #[.int .i64 ((rd_T33 l0 a1).f0), .int .i64 ((rd_T33 l0 a1).f1), .int .i64 ((rd_T33 l0 a1).f2), .int .i64 0]) ?_ 3 _ rfl; (with_reducible repeat (first | refine yS ?_ _ | refine yT ?_ | refine yR ?_ _)); refine blk_put (cs := #[.int .i64 ((rd_T33 l0 a1).f0), .int .i64 ((rd_T33 l0 a1).f1), .int .i64 0, .int .i64 0]) ?_ 2 _ rfl; (with_reducible repeat (first | refine yS ?_ _ | refine yT ?_ | refine yR ?_ _)); refine blk_put (cs := #[.int .i64 ((rd_T33 l0 a1).f0), .int .i64 0, .int .i64 0, .int .i64 0]) ?_ 1 _ rfl; (with_reducible repeat (first | refine yS ?_ _ | refine yT ?_ | refine yR ?_ _)); refine blk_put (cs := #[.int .i64 0, .int .i64 0, .int .i64 0, .int .i64 0]) ?_ 0 _ rfl; (with_reducible repeat (first | refine yS ?_ _ | refine yT ?_ | refine yR ?_ _)); exact BK246.out⟩, ⟨by repeat (first | (with_reducible first | exact HB.out | apply yO | apply yN | apply yP | refine yQ ?_ GE246.out) | exact HB.out)⟩⟩
       ·rw [if_neg c11] at H
        have c11b0 : (((rd_T33 l0 a1).f0) == 1) = false := beq_eq_false_iff_ne.mpr c11
        have c11b1 : (((rd_T33 l0 a1).f0) != 1) = true := bne_iff_ne.mpr c11
        (first | rw [c11b0] | (simp only [i64_w, i32_w]; rw [c11b0]) | skip)
        by_cases c12 : ((rd_T33 l0 a1).f0) = 2
        ·rw [if_pos c12] at H
         have c12b0 : (((rd_T33 l0 a1).f0) == 2) = true := beq_iff_eq.mpr c12
         have c12b1 : (((rd_T33 l0 a1).f0) != 2) = false := bne_eq_false_iff_eq.mpr c12
         clear c12
         have H' := yA H
         clear H
         go_wp2
         go_meet
         case rel => exact ⟨_, ((((rd_T33 l0 a1).f0) == 2)), (by first | rfl | (simp; done) | (simp [*]; done)), H', ⟨by first | omega | exact zT _⟩, ⟨by (with_reducible repeat (first | refine yS ?_ _ | refine yT ?_ | refine yR ?_ _)); refine blk_put (cs := #[.int .i64 ((rd_T33 l0 a1).f0), .int .i64 ((rd_T33 l0 a1).f1), .int .i64 ((rd_T33 l0 a1).f2), .int .i64 0]) ?_ 3 _ rfl; (with_reducible repeat (first | refine yS ?_ _ | refine yT ?_ | refine yR ?_ _)); refine blk_put (cs := #[.int .i64 ((rd_T33 l0 a1).f0), .int .i64 ((rd_T33 l0 a1).f1), .int .i64 0, .int .i64 0]) ?_ 2 _ rfl; (with_reducible repeat (first | refine yS ?_ _ | refine yT ?_ | refine yR ?_ _)); refine blk_put (cs := #[.int .i64 ((rd_T33 l0 a1).f0), .int .i64 0, .int .i64 0, .int .i64 0]) ?_ 1 _ rfl; (with_reducible repeat (first | refine yS ?_ _ | refine yT ?_ | refine yR ?_ _)); refine blk_put (cs := #[.int .i64 0, .int .i64 0, .int .i64 0, .int .i64 0]) ?_ 0 _ rfl; (with_reducible repeat (first | refine yS ?_ _ | refine yT ?_ | refine yR ?_ _)); exact BK246.out⟩, ⟨by repeat (first | (with_reducible first | exact HB.out | apply yO | apply yN | apply yP | refine yQ ?_ GE246.out) | exact HB.out)⟩⟩
        ·rw [if_neg c12] at H
         have c12b0 : (((rd_T33 l0 a1).f0) == 2) = false := beq_eq_false_iff_ne.mpr c12
         have c12b1 : (((rd_T33 l0 a1).f0) != 2) = true := bne_iff_ne.mpr c12
         have H' := yA H
         clear H
         go_wp2
         go_meet
         case rel => exact ⟨_, ((((rd_T33 l0 a1).f0) == 5)), (by first | rfl | (simp; done) | (simp [*]; done)), H', ⟨by first | omega | exact zT _⟩, ⟨by (with_reducible repeat (first | refine yS ?_ _ | refine yT ?_ | refine yR ?_ _)); refine blk_put (cs := #[.int .i64 ((rd_T33 l0 a1).f0), .int .i64 ((rd_T33 l0 a1).f1), .int .i64 ((rd_T33 l0 a1).f2), .int .i64 0]) ?_ 3 _ rfl; (with_reducible repeat (first | refine yS ?_ _ | refine yT ?_ | refine yR ?_ _)); refine blk_put (cs := #[.int .i64 ((rd_T33 l0 a1).f0), .int .i64 ((rd_T33 l0 a1).f1), .int .i64 0, .int .i64 0]) ?_ 2 _ rfl; (with_reducible repeat (first | refine yS ?_ _ | refine yT ?_ | refine yR ?_ _)); refine blk_put (cs := #[.int .i64 ((rd_T33 l0 a1).f0), .int .i64 0, .int .i64 0, .int .i64 0]) ?_ 1 _ rfl; (with_reducible repeat (first | refine yS ?_ _ | refine yT ?_ | refine yR ?_ _)); refine blk_put (cs := #[.int .i64 0, .int .i64 0, .int .i64 0, .int .i64 0]) ?_ 0 _ rfl; (with_reducible repeat (first | refine yS ?_ _ | refine yT ?_ | refine yR ?_ _)); exact BK246.out⟩, ⟨by repeat (first | (with_reducible first | exact HB.out | apply yO | apply yN | apply yP | refine yQ ?_ GE246.out) | exact HB.out)⟩⟩
      case rest =>
       clear HC8
       try clear c1
       try clear p2
       try clear q2
       try clear hx2
       try clear c3
       try clear c3b0
       try clear c4
       try clear c4b0
       try clear c5
       try clear c5b0
       try clear c5b1
       try clear c6
       try clear c6b0
       try clear c6b1
       try clear p6
       try clear c7
       try clear c7b0
       try clear c7b1
       try clear c11
       try clear c11b0
       try clear c11b1
       try clear c12
       try clear c12b0
       try clear c12b1
       try clear hcz10_0
       try clear hcz10_1
       try clear hcz10_2
       try clear hcz10_3
       try clear hfz10_0
       try clear hfz10_1
       try clear hfz10_2
       try clear hfz10_3
       try clear hx245_0
       try clear hx245_1
       try clear hx245_2
       try clear hx245_3
       try clear p245
       try clear q245
       obtain ⟨kq, x19_7, rfl, HA, HJ7, BK246, HB⟩ := hcut
       cases kq with
       | zero => exact absurd HA.out (by simp [impl_text.j0])
       | succ kj7 =>
        have H := HA.out
        clear HA
        simp only [impl_text.j0] at H
        by_cases c13 : x19_7 = true
        ·subst c13
         have H1 : ((impl_FormatInt.f ((rd_T33 l0 a1).f1)).bind fun t247 => (if ((⟨#[32, 61, 60, 43, 35, 83, 33, 38, 124, 69, 65]⟩ : ByteArray).extract (((rd_T33 l0 a1).f0) : Int).toNat ((wrap64 (((rd_T33 l0 a1).f0) + 1)) : Int).toNat).size + t247.size ≤ 9223372036854775807 then ((impl_FormatInt.f ((rd_T33 l0 a1).f2)).bind fun t248 => (if (((⟨#[32, 61, 60, 43, 35, 83, 33, 38, 124, 69, 65]⟩ : ByteArray).extract (((rd_T33 l0 a1).f0) : Int).toNat ((wrap64 (((rd_T33 l0 a1).f0) + 1)) : Int).toNat) ++ t247).size + t248.size ≤ 9223372036854775807 then (some ((((⟨#[32, 61, 60, 43, 35, 83, 33, 38, 124, 69, 65]⟩ : ByteArray).extract (((rd_T33 l0 a1).f0) : Int).toNat ((wrap64 (((rd_T33 l0 a1).f0) + 1)) : Int).toNat) ++ t247) ++ t248)) else (none))) else (none))) = some r := by rw [if_pos rfl] at H; exact H
         clear H
         have H := H1
         clear H1
         replace H := Option.bind_eq_some_iff.mp H
         obtain ⟨t247, A140, H⟩ := H
         replace H : (if ((⟨#[32, 61, 60, 43, 35, 83, 33, 38, 124, 69, 65]⟩ : ByteArray).extract (((rd_T33 l0 a1).f0) : Int).toNat ((wrap64 (((rd_T33 l0 a1).f0) + 1)) : Int).toNat).size + t247.size ≤ 9223372036854775807 then ((impl_FormatInt.f ((rd_T33 l0 a1).f2)).bind fun t248 => (if (((⟨#[32, 61, 60, 43, 35, 83, 33, 38, 124, 69, 65]⟩ : ByteArray).extract (((rd_T33 l0 a1).f0) : Int).toNat ((wrap64 (((rd_T33 l0 a1).f0) + 1)) : Int).toNat) ++ t247).size + t248.size ≤ 9223372036854775807 then (some ((((⟨#[32, 61, 60, 43, 35, 83, 33, 38, 124, 69, 65]⟩ : ByteArray).extract (((rd_T33 l0 a1).f0) : Int).toNat ((wrap64 (((rd_T33 l0 a1).f0) + 1)) : Int).toNat) ++ t247) ++ t248)) else (none))) else (none)) = some r := H
         have A14 := yA A140
         clear A140
         by_cases c15 : ((⟨#[32, 61, 60, 43, 35, 83, 33, 38, 124, 69, 65]⟩ : ByteArray).extract (((rd_T33 l0 a1).f0) : Int).toNat ((wrap64 (((rd_T33 l0 a1).f0) + 1)) : Int).toNat).size + t247.size ≤ 9223372036854775807
         ·rw [if_pos c15] at H
          have c15b0 := eq_true c15
          have c15b1 : decide (((⟨#[32, 61, 60, 43, 35, 83, 33, 38, 124, 69, 65]⟩ : ByteArray).extract (((rd_T33 l0 a1).f0) : Int).toNat ((wrap64 (((rd_T33 l0 a1).f0) + 1)) : Int).toNat).size + t247.size ≤ 9223372036854775807) = true := zH c15
          try have c15b2 : (9223372036854775807 < ((⟨#[32, 61, 60, 43, 35, 83, 33, 38, 124, 69, 65]⟩ : ByteArray).extract (((rd_T33 l0 a1).f0) : Int).toNat ((wrap64 (((rd_T33 l0 a1).f0) + 1)) : Int).toNat).size + t247.size) = False := eq_false (Nat.not_lt.2 c15)
          try (have c15b4_ := c15; simp [show ∀ b_ : UInt8, (⟨#[b_]⟩ : ByteArray).size = 1 from fun _ => rfl, show (⟨#[32, 61, 60, 43, 35, 83, 33, 38, 124, 69, 65]⟩ : ByteArray).size = 11 from rfl] at c15b4_; have c15b3_ := eq_false (Nat.not_lt.2 c15b4_))
          try (have c15b5_ := c15; simp only [ByteArray.size_append, ByteArray.size_extract, show ∀ b_ : UInt8, (⟨#[b_]⟩ : ByteArray).size = 1 from fun _ => rfl, show (⟨#[32, 61, 60, 43, 35, 83, 33, 38, 124, 69, 65]⟩ : ByteArray).size = 11 from rfl] at c15b5_; have c15b6_ := eq_false (Nat.not_lt.2 c15b5_))
          replace H := Option.bind_eq_some_iff.mp H
          obtain ⟨t248, A160, H⟩ := H
          replace H : (if (((⟨#[32, 61, 60, 43, 35, 83, 33, 38, 124, 69, 65]⟩ : ByteArray).extract (((rd_T33 l0 a1).f0) : Int).toNat ((wrap64 (((rd_T33 l0 a1).f0) + 1)) : Int).toNat) ++ t247).size + t248.size ≤ 9223372036854775807 then (some ((((⟨#[32, 61, 60, 43, 35, 83, 33, 38, 124, 69, 65]⟩ : ByteArray).extract (((rd_T33 l0 a1).f0) : Int).toNat ((wrap64 (((rd_T33 l0 a1).f0) + 1)) : Int).toNat) ++ t247) ++ t248)) else (none)) = some r := H
          have A16 := yA A160
          clear A160
          by_cases c17 : (((⟨#[32, 61, 60, 43, 35, 83, 33, 38, 124, 69, 65]⟩ : ByteArray).extract (((rd_T33 l0 a1).f0) : Int).toNat ((wrap64 (((rd_T33 l0 a1).f0) + 1)) : Int).toNat) ++ t247).size + t248.size ≤ 9223372036854775807
          ·rw [if_pos c17] at H
           have c17b0 := eq_true c17
           have c17b1 : decide ((((⟨#[32, 61, 60, 43, 35, 83, 33, 38, 124, 69, 65]⟩ : ByteArray).extract (((rd_T33 l0 a1).f0) : Int).toNat ((wrap64 (((rd_T33 l0 a1).f0) + 1)) : Int).toNat) ++ t247).size + t248.size ≤ 9223372036854775807) = true := zH c17
           try have c17b2 : (9223372036854775807 < (((⟨#[32, 61, 60, 43, 35, 83, 33, 38, 124, 69, 65]⟩ : ByteArray).extract (((rd_T33 l0 a1).f0) : Int).toNat ((wrap64 (((rd_T33 l0 a1).f0) + 1)) : Int).toNat) ++ t247).size + t248.size) = False := eq_false (Nat.not_lt.2 c17)
           try (have c17b4_ := c17; simp [show ∀ b_ : UInt8, (⟨#[b_]⟩ : ByteArray).size = 1 from fun _ => rfl, show (⟨#[32, 61, 60, 43, 35, 83, 33, 38, 124, 69, 65]⟩ : ByteArray).size = 11 from rfl] at c17b4_; have c17b3_ := eq_false (Nat.not_lt.2 c17b4_))
           try (have c17b5_ := c17; simp only [ByteArray.size_append, ByteArray.size_extract, show ∀ b_ : UInt8, (⟨#[b_]⟩ : ByteArray).size = 1 from fun _ => rfl, show (⟨#[32, 61, 60, 43, 35, 83, 33, 38, 124, 69, 65]⟩ : ByteArray).size = 11 from rfl] at c17b5_; have c17b6_ := eq_false (Nat.not_lt.2 c17b5_))
           obtain rfl := zU H
           try go_wp2
           have n0_ := yA (yT BK246.out)
           have n1_ := yA (yP HB.out)
           clear BK246
           clear HB
           have BK246 := n0_
           have HB := n1_
           clear n0_ n1_
           refine start_ (n := 10) (S := fun w' => w'.cell? ⟨gb246, 0, none⟩ = some (.int .i64 ((rd_T33 l0 a1).f0)) ∧ w'.cell? ⟨gb246, 1, none⟩ = some (.int .i64 ((rd_T33 l0 a1).f1)) ∧ w'.cell? ⟨gb246, 2, none⟩ = some (.int .i64 ((rd_T33 l0 a1).f2)) ∧ w'.cell? ⟨gb246, 3, none⟩ = some (.int .i64 ((rd_T33 l0 a1).f3))) (ds := []) #[false, false, false, false, false, false, false, false, false, false] (by kernel_rfl) rfl rfl ⟨(yV BK246.out 0).trans rfl, (yV BK246.out 1).trans rfl, (yV BK246.out 2).trans rfl, (yV BK246.out 3).trans rfl⟩ (fun hHeld => ?_); refine with_tabW impl_text.tab7 impl_text.bits7 (fun HT_ HW_ => ?_)
           generalize wc.drew = w18 at BK246 HB hHeld ⊢
           refine pure_ (i := 0) (N := some 23) (v := ?_) (a' := ?_) #[true, false, false, false, false, false, false, false, false, false] rfl rfl (any_of HT_.out (by kernel_rfl)) (fun _ _ _ h => h) (Or.inl ⟨by rfl, ?_⟩) ?_ ?_
           rotate_left
           ·intro w'
            go_simp
            with_reducible rfl
           rotate_left
           ·simp only [Act.put, zA, zB, zC, i64_w, i32_w]
            rfl
           refine pure_ (i := 1) (N := some 24) (v := ?_) (a' := ?_) #[true, true, false, false, false, false, false, false, false, false] rfl rfl (any_of HT_.out (by kernel_rfl)) (fun _ _ _ h => h) (Or.inl ⟨by rfl, ?_⟩) ?_ ?_
           rotate_left
           ·intro w'
            go_simp
            with_reducible rfl
           rotate_left
           ·simp only [Act.put, zA, zB, zC, i64_w, i32_w]
            rfl
           refine pure_ (i := 5) (N := some 28) (v := ?_) (a' := ?_) #[true, true, false, false, false, true, false, false, false, false] rfl rfl (any_of HT_.out (by kernel_rfl)) (fun _ _ _ h => h) (Or.inl ⟨by rfl, ?_⟩) ?_ ?_
           rotate_left
           ·intro w'
            go_simp
            with_reducible rfl
           rotate_left
           ·simp only [Act.put, zA, zB, zC, i64_w, i32_w]
            rfl
           refine take_ (i := 2) (N := some 25) (v := ?_) (a' := ?_) #[true, true, true, false, false, true, false, false, false, false] rfl rfl (take_ofW HT_.out HW_.out (by kernel_rfl)) (fun _ _ _ h => h) (Or.inl ⟨by rfl, ?_⟩) hHeld ?_ ?_
           rotate_left
           ·rintro w' ⟨s0, s1, s2, s3⟩
            go_simp
            with_reducible rfl
           rotate_left
           ·simp only [Act.put, zA, zB, zC, i64_w, i32_w]
            rfl
           refine take_ (i := 6) (N := some 29) (v := ?_) (a' := ?_) #[true, true, true, false, false, true, true, false, false, false] rfl rfl (take_ofW HT_.out HW_.out (by kernel_rfl)) (fun _ _ _ h => h) (Or.inl ⟨by rfl, ?_⟩) hHeld ?_ ?_
           rotate_left
           ·rintro w' ⟨s0, s1, s2, s3⟩
            go_simp
            with_reducible rfl
           rotate_left
           ·simp only [Act.put, zA, zB, zC, i64_w, i32_w]
            rfl
           refine one_ (i := 3) (N := some 26) #[true, true, true, true, false, true, true, false, false, false] rfl rfl (one_of HT_.out (by kernel_rfl)) (by decide) (fun K hK => ?_)
           refine goes_ Tryd.func23 (by kernel_rfl) rfl #[.int .i64 ((rd_T33 l0 a1).f1)] (by rfl) rfl rfl (by (try simp only [zI, zJ, zK]); first | done | rfl | (simp only [zL, zM]; rfl)) ?_
           with_reducible refine (impl_FormatInt.calls ((rd_T33 l0 a1).f1) t247 _ A14.out).mono ?_
           rintro e w19 ⟨rfl, hb⟩
           refine ⟨_, rfl, ?_⟩
           have n0_ := yA (yU (mK BK246.out) hb)
           have n1_ := yA (zD (by with_reducible repeat first | exact HB.out | apply yO | apply yN | apply yP | refine yQ ?_ GE246.out) hb)
           clear BK246
           clear HB
           have BK246 := n0_
           have HB := n1_
           clear n0_ n1_
           (try clear hb)
           (try clear hb2)
           (try clear hk)
           (try clear hi)
           refine hK.out _ _ ⟨(yV BK246.out 0).trans rfl, (yV BK246.out 1).trans rfl, (yV BK246.out 2).trans rfl, (yV BK246.out 3).trans rfl⟩ (fun hHeld => ?_)
           clear hK K
           refine norm_ (a' := ?_) ?_ ?_
           rotate_left
           ·show Act.put _ (some 26) _ = _
            simp only [Act.put, zA, zB, zC, i64_w, i32_w]
            rfl
           refine pure_ (i := 4) (N := some 27) (v := ?_) (a' := ?_) #[true, true, true, true, true, true, true, false, false, false] rfl rfl (any_of HT_.out (by kernel_rfl)) (fun _ _ _ h => h) (Or.inl ⟨by rfl, ?_⟩) ?_ ?_
           rotate_left
           ·intro w'
            go_simp
            with_reducible rfl
           rotate_left
           ·simp only [Act.put, zA, zB, zC, i64_w, i32_w]
            rfl
           refine one_ (i := 7) (N := some 30) #[true, true, true, true, true, true, true, true, false, false] rfl rfl (one_of HT_.out (by kernel_rfl)) (by decide) (fun K hK => ?_)
           refine goes_ Tryd.func23 (by kernel_rfl) rfl #[.int .i64 ((rd_T33 l0 a1).f2)] (by rfl) rfl rfl (by (try simp only [zI, zJ, zK]); first | done | rfl | (simp only [zL, zM]; rfl)) ?_
           with_reducible refine (impl_FormatInt.calls ((rd_T33 l0 a1).f2) t248 _ A16.out).mono ?_
           rintro e w20 ⟨rfl, hb⟩
           refine ⟨_, rfl, ?_⟩
           have n0_ := yA (yU (mK BK246.out) hb)
           have n1_ := yA (zD (by with_reducible repeat first | exact HB.out | apply yO | apply yN | apply yP | refine yQ ?_ GE246.out) hb)
           clear BK246
           clear HB
           have BK246 := n0_
           have HB := n1_
           clear n0_ n1_
           (try clear hb)
           (try clear hb2)
           (try clear hk)
           (try clear hi)
           refine hK.out _ _ ⟨(yV BK246.out 0).trans rfl, (yV BK246.out 1).trans rfl, (yV BK246.out 2).trans rfl, (yV BK246.out 3).trans rfl⟩ (fun hHeld => ?_)
           clear hK K
           refine norm_ (a' := ?_) ?_ ?_
           rotate_left
           ·show Act.put _ (some 30) _ = _
            simp only [Act.put, zA, zB, zC, i64_w, i32_w]
            rfl
           refine pure_ (i := 8) (N := some 31) (v := ?_) (a' := ?_) #[true, true, true, true, true, true, true, true, true, false] rfl rfl (any_of HT_.out (by kernel_rfl)) (fun _ _ _ h => h) (Or.inl ⟨by rfl, ?_⟩) ?_ ?_
           rotate_left
           ·intro w'
            go_simp
            with_reducible rfl
           rotate_left
           ·simp only [Act.put, zA, zB, zC, i64_w, i32_w]
            rfl
           refine pure_ (i := 9) (N := some 4) (v := ?_) (a' := ?_) #[true, true, true, true, true, true, true, true, true, true] rfl rfl (any_of HT_.out (by kernel_rfl)) (fun _ _ _ h => h) (Or.inl ⟨by rfl, ?_⟩) ?_ ?_
           rotate_left
           ·intro w'
            go_simp
            with_reducible rfl
           rotate_left
           ·simp only [Act.put, zA, zB, zC, i64_w, i32_w]
            rfl
           refine done_ (done_of HT_.out (by kernel_rfl)) ?_
           try go_wp2
           go_ret
           exact ⟨by first | rfl | (simp [errW_none, errW_some] <;> rfl) | (simp [*, errW_none, errW_some] <;> rfl), by repeat (first | (with_reducible first | exact HB.out | apply yO | apply yN | apply yP | refine yQ ?_ GE246.out) | exact HB.out)⟩
          ·rw [if_neg c17] at H
           exact absurd H (by simp)
         ·rw [if_neg c15] at H
          exact absurd H (by simp)
        ·replace c13 := Bool.eq_false_iff.mpr c13
         subst c13
         have H1 : (if ((rd_T33 l0 a1).f0) = 3 then ((impl_FormatInt.f ((rd_T33 l0 a1).f1)).bind fun t249 => (if ((⟨#[32, 61, 60, 43, 35, 83, 33, 38, 124, 69, 65]⟩ : ByteArray).extract (((rd_T33 l0 a1).f0) : Int).toNat ((wrap64 (((rd_T33 l0 a1).f0) + 1)) : Int).toNat).size + t249.size ≤ 9223372036854775807 then ((impl_FormatInt.f ((rd_T33 l0 a1).f2)).bind fun t250 => (if (((⟨#[32, 61, 60, 43, 35, 83, 33, 38, 124, 69, 65]⟩ : ByteArray).extract (((rd_T33 l0 a1).f0) : Int).toNat ((wrap64 (((rd_T33 l0 a1).f0) + 1)) : Int).toNat) ++ t249).size + t250.size ≤ 9223372036854775807 then ((impl_FormatInt.f ((rd_T33 l0 a1).f3)).bind fun t251 => (if ((((⟨#[32, 61, 60, 43, 35, 83, 33, 38, 124, 69, 65]⟩ : ByteArray).extract (((rd_T33 l0 a1).f0) : Int).toNat ((wrap64 (((rd_T33 l0 a1).f0) + 1)) : Int).toNat) ++ t249) ++ t250).size + t251.size ≤ 9223372036854775807 then (some (((((⟨#[32, 61, 60, 43, 35, 83, 33, 38, 124, 69, 65]⟩ : ByteArray).extract (((rd_T33 l0 a1).f0) : Int).toNat ((wrap64 (((rd_T33 l0 a1).f0) + 1)) : Int).toNat) ++ t249) ++ t250) ++ t251)) else (none))) else (none))) else (none))) else (if ((rd_T33 l0 a1).f0) = 4 then ((impl_FormatInt.f ((rd_T33 l0 a1).f1)).bind fun t252 => (if ((⟨#[32, 61, 60, 43, 35, 83, 33, 38, 124, 69, 65]⟩ : ByteArray).extract (((rd_T33 l0 a1).f0) : Int).toNat ((wrap64 (((rd_T33 l0 a1).f0) + 1)) : Int).toNat).size + t252.size ≤ 9223372036854775807 then ((impl_FormatInt.f ((rd_T33 l0 a1).f2)).bind fun t253 => (if (((⟨#[32, 61, 60, 43, 35, 83, 33, 38, 124, 69, 65]⟩ : ByteArray).extract (((rd_T33 l0 a1).f0) : Int).toNat ((wrap64 (((rd_T33 l0 a1).f0) + 1)) : Int).toNat) ++ t252).size + t253.size ≤ 9223372036854775807 then (if ((((⟨#[32, 61, 60, 43, 35, 83, 33, 38, 124, 69, 65]⟩ : ByteArray).extract (((rd_T33 l0 a1).f0) : Int).toNat ((wrap64 (((rd_T33 l0 a1).f0) + 1)) : Int).toNat) ++ t252) ++ t253).size + 1 ≤ 9223372036854775807 then (some (((((⟨#[32, 61, 60, 43, 35, 83, 33, 38, 124, 69, 65]⟩ : ByteArray).extract (((rd_T33 l0 a1).f0) : Int).toNat ((wrap64 (((rd_T33 l0 a1).f0) + 1)) : Int).toNat) ++ t252) ++ t253) ++ (⟨#[46]⟩ : ByteArray))) else (none)) else (none))) else (none))) else (if ((rd_T33 l0 a1).f0) = 6 then ((impl_text.f kj7 l0 ((rd_T33 l0 a1).f1)).bind fun t254 => (if ((⟨#[32, 61, 60, 43, 35, 83, 33, 38, 124, 69, 65]⟩ : ByteArray).extract (((rd_T33 l0 a1).f0) : Int).toNat ((wrap64 (((rd_T33 l0 a1).f0) + 1)) : Int).toNat).size + t254.size ≤ 9223372036854775807 then (some (((⟨#[32, 61, 60, 43, 35, 83, 33, 38, 124, 69, 65]⟩ : ByteArray).extract (((rd_T33 l0 a1).f0) : Int).toNat ((wrap64 (((rd_T33 l0 a1).f0) + 1)) : Int).toNat) ++ t254)) else (none))) else (if ((rd_T33 l0 a1).f0) = 7 then (impl_text.j1 kj7 l0 ((⟨#[32, 61, 60, 43, 35, 83, 33, 38, 124, 69, 65]⟩ : ByteArray).extract (((rd_T33 l0 a1).f0) : Int).toNat ((wrap64 (((rd_T33 l0 a1).f0) + 1)) : Int).toNat) (((rd_T33 l0 a1).f0) == 7) ((rd_T33 l0 a1).f0) ((rd_T33 l0 a1).f1) ((rd_T33 l0 a1).f2) ((rd_T33 l0 a1).f3)) else (impl_text.j1 kj7 l0 ((⟨#[32, 61, 60, 43, 35, 83, 33, 38, 124, 69, 65]⟩ : ByteArray).extract (((rd_T33 l0 a1).f0) : Int).toNat ((wrap64 (((rd_T33 l0 a1).f0) + 1)) : Int).toNat) (((rd_T33 l0 a1).f0) == 8) ((rd_T33 l0 a1).f0) ((rd_T33 l0 a1).f1) ((rd_T33 l0 a1).f2) ((rd_T33 l0 a1).f3)))))) = some r := by rw [if_neg (show ¬ (false = true) by decide)] at H; exact H
         clear H
         have H := H1
         clear H1
         by_cases c21 : ((rd_T33 l0 a1).f0) = 3
         ·rw [if_pos c21] at H
          have c21b0 : (((rd_T33 l0 a1).f0) == 3) = true := beq_iff_eq.mpr c21
          have c21b1 : (((rd_T33 l0 a1).f0) != 3) = false := bne_eq_false_iff_eq.mpr c21
          clear c21
          replace H := Option.bind_eq_some_iff.mp H
          obtain ⟨t249, A220, H⟩ := H
          replace H : (if ((⟨#[32, 61, 60, 43, 35, 83, 33, 38, 124, 69, 65]⟩ : ByteArray).extract (((rd_T33 l0 a1).f0) : Int).toNat ((wrap64 (((rd_T33 l0 a1).f0) + 1)) : Int).toNat).size + t249.size ≤ 9223372036854775807 then ((impl_FormatInt.f ((rd_T33 l0 a1).f2)).bind fun t250 => (if (((⟨#[32, 61, 60, 43, 35, 83, 33, 38, 124, 69, 65]⟩ : ByteArray).extract (((rd_T33 l0 a1).f0) : Int).toNat ((wrap64 (((rd_T33 l0 a1).f0) + 1)) : Int).toNat) ++ t249).size + t250.size ≤ 9223372036854775807 then ((impl_FormatInt.f ((rd_T33 l0 a1).f3)).bind fun t251 => (if ((((⟨#[32, 61, 60, 43, 35, 83, 33, 38, 124, 69, 65]⟩ : ByteArray).extract (((rd_T33 l0 a1).f0) : Int).toNat ((wrap64 (((rd_T33 l0 a1).f0) + 1)) : Int).toNat) ++ t249) ++ t250).size + t251.size ≤ 9223372036854775807 then (some (((((⟨#[32, 61, 60, 43, 35, 83, 33, 38, 124, 69, 65]⟩ : ByteArray).extract (((rd_T33 l0 a1).f0) : Int).toNat ((wrap64 (((rd_T33 l0 a1).f0) + 1)) : Int).toNat) ++ t249) ++ t250) ++ t251)) else (none))) else (none))) else (none)) = some r := H
          have A22 := yA A220
          clear A220
          by_cases c23 : ((⟨#[32, 61, 60, 43, 35, 83, 33, 38, 124, 69, 65]⟩ : ByteArray).extract (((rd_T33 l0 a1).f0) : Int).toNat ((wrap64 (((rd_T33 l0 a1).f0) + 1)) : Int).toNat).size + t249.size ≤ 9223372036854775807
          ·rw [if_pos c23] at H
           have c23b0 := eq_true c23
           have c23b1 : decide (((⟨#[32, 61, 60, 43, 35, 83, 33, 38, 124, 69, 65]⟩ : ByteArray).extract (((rd_T33 l0 a1).f0) : Int).toNat ((wrap64 (((rd_T33 l0 a1).f0) + 1)) : Int).toNat).size + t249.size ≤ 9223372036854775807) = true := zH c23
           try have c23b2 : (9223372036854775807 < ((⟨#[32, 61, 60, 43, 35, 83, 33, 38, 124, 69, 65]⟩ : ByteArray).extract (((rd_T33 l0 a1).f0) : Int).toNat ((wrap64 (((rd_T33 l0 a1).f0) + 1)) : Int).toNat).size + t249.size) = False := eq_false (Nat.not_lt.2 c23)
           try (have c23b4_ := c23; simp [show ∀ b_ : UInt8, (⟨#[b_]⟩ : ByteArray).size = 1 from fun _ => rfl, show (⟨#[32, 61, 60, 43, 35, 83, 33, 38, 124, 69, 65]⟩ : ByteArray).size = 11 from rfl] at c23b4_; have c23b3_ := eq_false (Nat.not_lt.2 c23b4_))
           try (have c23b5_ := c23; simp only [ByteArray.size_append, ByteArray.size_extract, show ∀ b_ : UInt8, (⟨#[b_]⟩ : ByteArray).size = 1 from fun _ => rfl, show (⟨#[32, 61, 60, 43, 35, 83, 33, 38, 124, 69, 65]⟩ : ByteArray).size = 11 from rfl] at c23b5_; have c23b6_ := eq_false (Nat.not_lt.2 c23b5_))
           replace H := Option.bind_eq_some_iff.mp H
           obtain ⟨t250, A240, H⟩ := H
           replace H : (if (((⟨#[32, 61, 60, 43, 35, 83, 33, 38, 124, 69, 65]⟩ : ByteArray).extract (((rd_T33 l0 a1).f0) : Int).toNat ((wrap64 (((rd_T33 l0 a1).f0) + 1)) : Int).toNat) ++ t249).size + t250.size ≤ 9223372036854775807 then ((impl_FormatInt.f ((rd_T33 l0 a1).f3)).bind fun t251 => (if ((((⟨#[32, 61, 60, 43, 35, 83, 33, 38, 124, 69, 65]⟩ : ByteArray).extract (((rd_T33 l0 a1).f0) : Int).toNat ((wrap64 (((rd_T33 l0 a1).f0) + 1)) : Int).toNat) ++ t249) ++ t250).size + t251.size ≤ 9223372036854775807 then (some (((((⟨#[32, 61, 60, 43, 35, 83, 33, 38, 124, 69, 65]⟩ : ByteArray).extract (((rd_T33 l0 a1).f0) : Int).toNat ((wrap64 (((rd_T33 l0 a1).f0) + 1)) : Int).toNat) ++ t249) ++ t250) ++ t251)) else (none))) else (none)) = some r := H
           have A24 := yA A240
           clear A240
           by_cases c25 : (((⟨#[32, 61, 60, 43, 35, 83, 33, 38, 124, 69, 65]⟩ : ByteArray).extract (((rd_T33 l0 a1).f0) : Int).toNat ((wrap64 (((rd_T33 l0 a1).f0) + 1)) : Int).toNat) ++ t249).size + t250.size ≤ 9223372036854775807
           ·rw [if_pos c25] at H
            have c25b0 := eq_true c25
            have c25b1 : decide ((((⟨#[32, 61, 60, 43, 35, 83, 33, 38, 124, 69, 65]⟩ : ByteArray).extract (((rd_T33 l0 a1).f0) : Int).toNat ((wrap64 (((rd_T33 l0 a1).f0) + 1)) : Int).toNat) ++ t249).size + t250.size ≤ 9223372036854775807) = true := zH c25
            try have c25b2 : (9223372036854775807 < (((⟨#[32, 61, 60, 43, 35, 83, 33, 38, 124, 69, 65]⟩ : ByteArray).extract (((rd_T33 l0 a1).f0) : Int).toNat ((wrap64 (((rd_T33 l0 a1).f0) + 1)) : Int).toNat) ++ t249).size + t250.size) = False := eq_false (Nat.not_lt.2 c25)
            try (have c25b4_ := c25; simp [show ∀ b_ : UInt8, (⟨#[b_]⟩ : ByteArray).size = 1 from fun _ => rfl, show (⟨#[32, 61, 60, 43, 35, 83, 33, 38, 124, 69, 65]⟩ : ByteArray).size = 11 from rfl] at c25b4_; have c25b3_ := eq_false (Nat.not_lt.2 c25b4_))
            try (have c25b5_ := c25; simp only [ByteArray.size_append, ByteArray.size_extract, show ∀ b_ : UInt8, (⟨#[b_]⟩ : ByteArray).size = 1 from fun _ => rfl, show (⟨#[32, 61, 60, 43, 35, 83, 33, 38, 124, 69, 65]⟩ : ByteArray).size = 11 from rfl] at c25b5_; have c25b6_ := eq_false (Nat.not_lt.2 c25b5_))
            replace H := Option.bind_eq_some_iff.mp H
            obtain ⟨t251, A260, H⟩ := H
            replace H : (if ((((⟨#[32, 61, 60, 43, 35, 83, 33, 38, 124, 69, 65]⟩ : ByteArray).extract (((rd_T33 l0 a1).f0) : Int).toNat ((wrap64 (((rd_T33 l0 a1).f0) + 1)) : Int).toNat) ++ t249) ++ t250).size + t251.size ≤ 9223372036854775807 then (some (((((⟨#[32, 61, 60, 43, 35, 83, 33, 38, 124, 69, 65]⟩ : ByteArray).extract (((rd_T33 l0 a1).f0) : Int).toNat ((wrap64 (((rd_T33 l0 a1).f0) + 1)) : Int).toNat) ++ t249) ++ t250) ++ t251)) else (none)) = some r := H
            have A26 := yA A260
            clear A260
            by_cases c27 : ((((⟨#[32, 61, 60, 43, 35, 83, 33, 38, 124, 69, 65]⟩ : ByteArray).extract (((rd_T33 l0 a1).f0) : Int).toNat ((wrap64 (((rd_T33 l0 a1).f0) + 1)) : Int).toNat) ++ t249) ++ t250).size + t251.size ≤ 9223372036854775807
            ·rw [if_pos c27] at H
             have c27b0 := eq_true c27
             have c27b1 : decide (((((⟨#[32, 61, 60, 43, 35, 83, 33, 38, 124, 69, 65]⟩ : ByteArray).extract (((rd_T33 l0 a1).f0) : Int).toNat ((wrap64 (((rd_T33 l0 a1).f0) + 1)) : Int).toNat) ++ t249) ++ t250).size + t251.size ≤ 9223372036854775807) = true := zH c27
             try have c27b2 : (9223372036854775807 < ((((⟨#[32, 61, 60, 43, 35, 83, 33, 38, 124, 69, 65]⟩ : ByteArray).extract (((rd_T33 l0 a1).f0) : Int).toNat ((wrap64 (((rd_T33 l0 a1).f0) + 1)) : Int).toNat) ++ t249) ++ t250).size + t251.size) = False := eq_false (Nat.not_lt.2 c27)
             try (have c27b4_ := c27; simp [show ∀ b_ : UInt8, (⟨#[b_]⟩ : ByteArray).size = 1 from fun _ => rfl, show (⟨#[32, 61, 60, 43, 35, 83, 33, 38, 124, 69, 65]⟩ : ByteArray).size = 11 from rfl] at c27b4_; have c27b3_ := eq_false (Nat.not_lt.2 c27b4_))
             try (have c27b5_ := c27; simp only [ByteArray.size_append, ByteArray.size_extract, show ∀ b_ : UInt8, (⟨#[b_]⟩ : ByteArray).size = 1 from fun _ => rfl, show (⟨#[32, 61, 60, 43, 35, 83, 33, 38, 124, 69, 65]⟩ : ByteArray).size = 11 from rfl] at c27b5_; have c27b6_ := eq_false (Nat.not_lt.2 c27b5_))
             obtain rfl := zU H
             try go_wp2
             have n0_ := yA (yT BK246.out)
             have n1_ := yA (yP HB.out)
             clear BK246
             clear HB
             have BK246 := n0_
             have HB := n1_
             clear n0_ n1_
             refine start_ (n := 14) (S := fun w' => w'.cell? ⟨gb246, 0, none⟩ = some (.int .i64 ((rd_T33 l0 a1).f0)) ∧ w'.cell? ⟨gb246, 1, none⟩ = some (.int .i64 ((rd_T33 l0 a1).f1)) ∧ w'.cell? ⟨gb246, 2, none⟩ = some (.int .i64 ((rd_T33 l0 a1).f2)) ∧ w'.cell? ⟨gb246, 3, none⟩ = some (.int .i64 ((rd_T33 l0 a1).f3))) (ds := []) #[false, false, false, false, false, false, false, false, false, false, false, false, false, false] (by kernel_rfl) rfl rfl ⟨(yV BK246.out 0).trans rfl, (yV BK246.out 1).trans rfl, (yV BK246.out 2).trans rfl, (yV BK246.out 3).trans rfl⟩ (fun hHeld => ?_); refine with_tabW impl_text.tab9 impl_text.bits9 (fun HT_ HW_ => ?_)
             generalize wc.drew = w28 at BK246 HB hHeld ⊢
             refine pure_ (i := 0) (N := some 34) (v := ?_) (a' := ?_) #[true, false, false, false, false, false, false, false, false, false, false, false, false, false] rfl rfl (any_of HT_.out (by kernel_rfl)) (fun _ _ _ h => h) (Or.inl ⟨by rfl, ?_⟩) ?_ ?_
             rotate_left
             ·intro w'
              go_simp
              with_reducible rfl
             rotate_left
             ·simp only [Act.put, zA, zB, zC, i64_w, i32_w]
              rfl
             refine pure_ (i := 1) (N := some 35) (v := ?_) (a' := ?_) #[true, true, false, false, false, false, false, false, false, false, false, false, false, false] rfl rfl (any_of HT_.out (by kernel_rfl)) (fun _ _ _ h => h) (Or.inl ⟨by rfl, ?_⟩) ?_ ?_
             rotate_left
             ·intro w'
              go_simp
              with_reducible rfl
             rotate_left
             ·simp only [Act.put, zA, zB, zC, i64_w, i32_w]
              rfl
             refine pure_ (i := 5) (N := some 39) (v := ?_) (a' := ?_) #[true, true, false, false, false, true, false, false, false, false, false, false, false, false] rfl rfl (any_of HT_.out (by kernel_rfl)) (fun _ _ _ h => h) (Or.inl ⟨by rfl, ?_⟩) ?_ ?_
             rotate_left
             ·intro w'
              go_simp
              with_reducible rfl
             rotate_left
             ·simp only [Act.put, zA, zB, zC, i64_w, i32_w]
              rfl
             refine pure_ (i := 9) (N := some 43) (v := ?_) (a' := ?_) #[true, true, false, false, false, true, false, false, false, true, false, false, false, false] rfl rfl (any_of HT_.out (by kernel_rfl)) (fun _ _ _ h => h) (Or.inl ⟨by rfl, ?_⟩) ?_ ?_
             rotate_left
             ·intro w'
              go_simp
              with_reducible rfl
             rotate_left
             ·simp only [Act.put, zA, zB, zC, i64_w, i32_w]
              rfl
             refine take_ (i := 2) (N := some 36) (v := ?_) (a' := ?_) #[true, true, true, false, false, true, false, false, false, true, false, false, false, false] rfl rfl (take_ofW HT_.out HW_.out (by kernel_rfl)) (fun _ _ _ h => h) (Or.inl ⟨by rfl, ?_⟩) hHeld ?_ ?_
             rotate_left
             ·rintro w' ⟨s0, s1, s2, s3⟩
              go_simp
              with_reducible rfl
             rotate_left
             ·simp only [Act.put, zA, zB, zC, i64_w, i32_w]
              rfl
             refine take_ (i := 6) (N := some 40) (v := ?_) (a' := ?_) #[true, true, true, false, false, true, true, false, false, true, false, false, false, false] rfl rfl (take_ofW HT_.out HW_.out (by kernel_rfl)) (fun _ _ _ h => h) (Or.inl ⟨by rfl, ?_⟩) hHeld ?_ ?_
             rotate_left
             ·rintro w' ⟨s0, s1, s2, s3⟩
              go_simp
              with_reducible rfl
             rotate_left
             ·simp only [Act.put, zA, zB, zC, i64_w, i32_w]
              rfl
             refine take_ (i := 10) (N := some 44) (v := ?_) (a' := ?_) #[true, true, true, false, false, true, true, false, false, true, true, false, false, false] rfl rfl (take_ofW HT_.out HW_.out (by kernel_rfl)) (fun _ _ _ h => h) (Or.inl ⟨by rfl, ?_⟩) hHeld ?_ ?_
             rotate_left
             ·rintro w' ⟨s0, s1, s2, s3⟩
              go_simp
              with_reducible rfl
             rotate_left
             ·simp only [Act.put, zA, zB, zC, i64_w, i32_w]
              rfl
             refine one_ (i := 3) (N := some 37) #[true, true, true, true, false, true, true, false, false, true, true, false, false, false] rfl rfl (one_of HT_.out (by kernel_rfl)) (by decide) (fun K hK => ?_)
             refine goes_ Tryd.func23 (by kernel_rfl) rfl #[.int .i64 ((rd_T33 l0 a1).f1)] (by rfl) rfl rfl (by (try simp only [zI, zJ, zK]); first | done | rfl | (simp only [zL, zM]; rfl)) ?_
             with_reducible refine (impl_FormatInt.calls ((rd_T33 l0 a1).f1) t249 _ A22.out).mono ?_
             rintro e w29 ⟨rfl, hb⟩
             refine ⟨_, rfl, ?_⟩
             have n0_ := yA (yU (mK BK246.out) hb)
             have n1_ := yA (zD (by with_reducible repeat first | exact HB.out | apply yO | apply yN | apply yP | refine yQ ?_ GE246.out) hb)
             clear BK246
             clear HB
             have BK246 := n0_
             have HB := n1_
             clear n0_ n1_
             (try clear hb)
             (try clear hb2)
             (try clear hk)
             (try clear hi)
             refine hK.out _ _ ⟨(yV BK246.out 0).trans rfl, (yV BK246.out 1).trans rfl, (yV BK246.out 2).trans rfl, (yV BK246.out 3).trans rfl⟩ (fun hHeld => ?_)
             clear hK K
             refine norm_ (a' := ?_) ?_ ?_
             rotate_left
             ·show Act.put _ (some 37) _ = _
              simp only [Act.put, zA, zB, zC, i64_w, i32_w]
              rfl
             refine pure_ (i := 4) (N := some 38) (v := ?_) (a' := ?_) #[true, true, true, true, true, true, true, false, false, true, true, false, false, false] rfl rfl (any_of HT_.out (by kernel_rfl)) (fun _ _ _ h => h) (Or.inl ⟨by rfl, ?_⟩) ?_ ?_
             rotate_left
             ·intro w'
              go_simp
              with_reducible rfl
             rotate_left
             ·simp only [Act.put, zA, zB, zC, i64_w, i32_w]
              rfl
             refine one_ (i := 7) (N := some 41) #[true, true, true, true, true, true, true, true, false, true, true, false, false, false] rfl rfl (one_of HT_.out (by kernel_rfl)) (by decide) (fun K hK => ?_)
             refine goes_ Tryd.func23 (by kernel_rfl) rfl #[.int .i64 ((rd_T33 l0 a1).f2)] (by rfl) rfl rfl (by (try simp only [zI, zJ, zK]); first | done | rfl | (simp only [zL, zM]; rfl)) ?_
             with_reducible refine (impl_FormatInt.calls ((rd_T33 l0 a1).f2) t250 _ A24.out).mono ?_
             rintro e w30 ⟨rfl, hb⟩
             refine ⟨_, rfl, ?_⟩
             have n0_ := yA (yU (mK BK246.out) hb)
             have n1_ := yA (zD (by with_reducible repeat first | exact HB.out | apply yO | apply yN | apply yP | refine yQ ?_ GE246.out) hb)
             clear BK246
             clear HB
             have BK246 := n0_
             have HB := n1_
             clear n0_ n1_
             (try clear hb)
             (try clear hb2)
             (try clear hk)
             (try clear hi)
             refine hK.out _ _ ⟨(yV BK246.out 0).trans rfl, (yV BK246.out 1).trans rfl, (yV BK246.out 2).trans rfl, (yV BK246.out 3).trans rfl⟩ (fun hHeld => ?_)
             clear hK K
             refine norm_ (a' := ?_) ?_ ?_
             rotate_left
             ·show Act.put _ (some 41) _ = _
              simp only [Act.put, zA, zB, zC, i64_w, i32_w]
              rfl
             refine pure_ (i := 8) (N := some 42) (v := ?_) (a' := ?_) #[true, true, true, true, true, true, true, true, true, true, true, false, false, false] rfl rfl (any_of HT_.out (by kernel_rfl)) (fun _ _ _ h => h) (Or.inl ⟨by rfl, ?_⟩) ?_ ?_
             rotate_left
             ·intro w'
              go_simp
              with_reducible rfl
             rotate_left
             ·simp only [Act.put, zA, zB, zC, i64_w, i32_w]
              rfl
             refine one_ (i := 11) (N := some 45) #[true, true, true, true, true, true, true, true, true, true, true, true, false, false] rfl rfl (one_of HT_.out (by kernel_rfl)) (by decide) (fun K hK => ?_)
             refine goes_ Tryd.func23 (by kernel_rfl) rfl #[.int .i64 ((rd_T33 l0 a1).f3)] (by rfl) rfl rfl (by (try simp only [zI, zJ, zK]); first | done | rfl | (simp only [zL, zM]; rfl)) ?_
             with_reducible refine (impl_FormatInt.calls ((rd_T33 l0 a1).f3) t251 _ A26.out).mono ?_
             rintro e w31 ⟨rfl, hb⟩
             refine ⟨_, rfl, ?_⟩
             have n0_ := yA (yU (mK BK246.out) hb)
             have n1_ := yA (zD (by with_reducible repeat first | exact HB.out | apply yO | apply yN | apply yP | refine yQ ?_ GE246.out) hb)
             clear BK246
             clear HB
             have BK246 := n0_
             have HB := n1_
             clear n0_ n1_
             (try clear hb)
             (try clear hb2)
             (try clear hk)
             (try clear hi)
             refine hK.out _ _ ⟨(yV BK246.out 0).trans rfl, (yV BK246.out 1).trans rfl, (yV BK246.out 2).trans rfl, (yV BK246.out 3).trans rfl⟩ (fun hHeld => ?_)
             clear hK K
             refine norm_ (a' := ?_) ?_ ?_
             rotate_left
             ·show Act.put _ (some 45) _ = _
              simp only [Act.put, zA, zB, zC, i64_w, i32_w]
              rfl
             refine pure_ (i := 12) (N := some 46) (v := ?_) (a' := ?_) #[true, true, true, true, true, true, true, true, true, true, true, true, true, false] rfl rfl (any_of HT_.out (by kernel_rfl)) (fun _ _ _ h => h) (Or.inl ⟨by rfl, ?_⟩) ?_ ?_
             rotate_left
             ·intro w'
              go_simp
              with_reducible rfl
             rotate_left
             ·simp only [Act.put, zA, zB, zC, i64_w, i32_w]
              rfl
             refine pure_ (i := 13) (N := some 4) (v := ?_) (a' := ?_) #[true, true, true, true, true, true, true, true, true, true, true, true, true, true] rfl rfl (any_of HT_.out (by kernel_rfl)) (fun _ _ _ h => h) (Or.inl ⟨by rfl, ?_⟩) ?_ ?_
             rotate_left
             ·intro w'
              go_simp
              with_reducible rfl
             rotate_left
             ·simp only [Act.put, zA, zB, zC, i64_w, i32_w]
              rfl
             refine done_ (done_of HT_.out (by kernel_rfl)) ?_
             try go_wp2
             go_ret
             exact ⟨by first | rfl | (simp [errW_none, errW_some] <;> rfl) | (simp [*, errW_none, errW_some] <;> rfl), by repeat (first | (with_reducible first | exact HB.out | apply yO | apply yN | apply yP | refine yQ ?_ GE246.out) | exact HB.out)⟩
            ·rw [if_neg c27] at H
             exact absurd H (by simp)
           ·rw [if_neg c25] at H
            exact absurd H (by simp)
          ·rw [if_neg c23] at H
           exact absurd H (by simp)
         ·rw [if_neg c21] at H
          have c21b0 : (((rd_T33 l0 a1).f0) == 3) = false := beq_eq_false_iff_ne.mpr c21
          have c21b1 : (((rd_T33 l0 a1).f0) != 3) = true := bne_iff_ne.mpr c21
          by_cases c32 : ((rd_T33 l0 a1).f0) = 4
          ·rw [if_pos c32] at H
           have c32b0 : (((rd_T33 l0 a1).f0) == 4) = true := beq_iff_eq.mpr c32
           have c32b1 : (((rd_T33 l0 a1).f0) != 4) = false := bne_eq_false_iff_eq.mpr c32
           clear c32
           replace H := Option.bind_eq_some_iff.mp H
           obtain ⟨t252, A330, H⟩ := H
           replace H : (if ((⟨#[32, 61, 60, 43, 35, 83, 33, 38, 124, 69, 65]⟩ : ByteArray).extract (((rd_T33 l0 a1).f0) : Int).toNat ((wrap64 (((rd_T33 l0 a1).f0) + 1)) : Int).toNat).size + t252.size ≤ 9223372036854775807 then ((impl_FormatInt.f ((rd_T33 l0 a1).f2)).bind fun t253 => (if (((⟨#[32, 61, 60, 43, 35, 83, 33, 38, 124, 69, 65]⟩ : ByteArray).extract (((rd_T33 l0 a1).f0) : Int).toNat ((wrap64 (((rd_T33 l0 a1).f0) + 1)) : Int).toNat) ++ t252).size + t253.size ≤ 9223372036854775807 then (if ((((⟨#[32, 61, 60, 43, 35, 83, 33, 38, 124, 69, 65]⟩ : ByteArray).extract (((rd_T33 l0 a1).f0) : Int).toNat ((wrap64 (((rd_T33 l0 a1).f0) + 1)) : Int).toNat) ++ t252) ++ t253).size + 1 ≤ 9223372036854775807 then (some (((((⟨#[32, 61, 60, 43, 35, 83, 33, 38, 124, 69, 65]⟩ : ByteArray).extract (((rd_T33 l0 a1).f0) : Int).toNat ((wrap64 (((rd_T33 l0 a1).f0) + 1)) : Int).toNat) ++ t252) ++ t253) ++ (⟨#[46]⟩ : ByteArray))) else (none)) else (none))) else (none)) = some r := H
           have A33 := yA A330
           clear A330
           by_cases c34 : ((⟨#[32, 61, 60, 43, 35, 83, 33, 38, 124, 69, 65]⟩ : ByteArray).extract (((rd_T33 l0 a1).f0) : Int).toNat ((wrap64 (((rd_T33 l0 a1).f0) + 1)) : Int).toNat).size + t252.size ≤ 9223372036854775807
           ·rw [if_pos c34] at H
            have c34b0 := eq_true c34
            have c34b1 : decide (((⟨#[32, 61, 60, 43, 35, 83, 33, 38, 124, 69, 65]⟩ : ByteArray).extract (((rd_T33 l0 a1).f0) : Int).toNat ((wrap64 (((rd_T33 l0 a1).f0) + 1)) : Int).toNat).size + t252.size ≤ 9223372036854775807) = true := zH c34
            try have c34b2 : (9223372036854775807 < ((⟨#[32, 61, 60, 43, 35, 83, 33, 38, 124, 69, 65]⟩ : ByteArray).extract (((rd_T33 l0 a1).f0) : Int).toNat ((wrap64 (((rd_T33 l0 a1).f0) + 1)) : Int).toNat).size + t252.size) = False := eq_false (Nat.not_lt.2 c34)
            try (have c34b4_ := c34; simp [show ∀ b_ : UInt8, (⟨#[b_]⟩ : ByteArray).size = 1 from fun _ => rfl, show (⟨#[32, 61, 60, 43, 35, 83, 33, 38, 124, 69, 65]⟩ : ByteArray).size = 11 from rfl] at c34b4_; have c34b3_ := eq_false (Nat.not_lt.2 c34b4_))
            try (have c34b5_ := c34; simp only [ByteArray.size_append, ByteArray.size_extract, show ∀ b_ : UInt8, (⟨#[b_]⟩ : ByteArray).size = 1 from fun _ => rfl, show (⟨#[32, 61, 60, 43, 35, 83, 33, 38, 124, 69, 65]⟩ : ByteArray).size = 11 from rfl] at c34b5_; have c34b6_ := eq_false (Nat.not_lt.2 c34b5_))
            replace H := Option.bind_eq_some_iff.mp H
            obtain ⟨t253, A350, H⟩ := H
            replace H : (if (((⟨#[32, 61, 60, 43, 35, 83, 33, 38, 124, 69, 65]⟩ : ByteArray).extract (((rd_T33 l0 a1).f0) : Int).toNat ((wrap64 (((rd_T33 l0 a1).f0) + 1)) : Int).toNat) ++ t252).size + t253.size ≤ 9223372036854775807 then (if ((((⟨#[32, 61, 60, 43, 35, 83, 33, 38, 124, 69, 65]⟩ : ByteArray).extract (((rd_T33 l0 a1).f0) : Int).toNat ((wrap64 (((rd_T33 l0 a1).f0) + 1)) : Int).toNat) ++ t252) ++ t253).size + 1 ≤ 9223372036854775807 then (some (((((⟨#[32, 61, 60, 43, 35, 83, 33, 38, 124, 69, 65]⟩ : ByteArray).extract (((rd_T33 l0 a1).f0) : Int).toNat ((wrap64 (((rd_T33 l0 a1).f0) + 1)) : Int).toNat) ++ t252) ++ t253) ++ (⟨#[46]⟩ : ByteArray))) else (none)) else (none)) = some r := H
            have A35 := yA A350
            clear A350
            by_cases c36 : (((⟨#[32, 61, 60, 43, 35, 83, 33, 38, 124, 69, 65]⟩ : ByteArray).extract (((rd_T33 l0 a1).f0) : Int).toNat ((wrap64 (((rd_T33 l0 a1).f0) + 1)) : Int).toNat) ++ t252).size + t253.size ≤ 9223372036854775807
            ·rw [if_pos c36] at H
             have c36b0 := eq_true c36
             have c36b1 : decide ((((⟨#[32, 61, 60, 43, 35, 83, 33, 38, 124, 69, 65]⟩ : ByteArray).extract (((rd_T33 l0 a1).f0) : Int).toNat ((wrap64 (((rd_T33 l0 a1).f0) + 1)) : Int).toNat) ++ t252).size + t253.size ≤ 9223372036854775807) = true := zH c36
             try have c36b2 : (9223372036854775807 < (((⟨#[32, 61, 60, 43, 35, 83, 33, 38, 124, 69, 65]⟩ : ByteArray).extract (((rd_T33 l0 a1).f0) : Int).toNat ((wrap64 (((rd_T33 l0 a1).f0) + 1)) : Int).toNat) ++ t252).size + t253.size) = False := eq_false (Nat.not_lt.2 c36)
             try (have c36b4_ := c36; simp [show ∀ b_ : UInt8, (⟨#[b_]⟩ : ByteArray).size = 1 from fun _ => rfl, show (⟨#[32, 61, 60, 43, 35, 83, 33, 38, 124, 69, 65]⟩ : ByteArray).size = 11 from rfl] at c36b4_; have c36b3_ := eq_false (Nat.not_lt.2 c36b4_))
             try (have c36b5_ := c36; simp only [ByteArray.size_append, ByteArray.size_extract, show ∀ b_ : UInt8, (⟨#[b_]⟩ : ByteArray).size = 1 from fun _ => rfl, show (⟨#[32, 61, 60, 43, 35, 83, 33, 38, 124, 69, 65]⟩ : ByteArray).size = 11 from rfl] at c36b5_; have c36b6_ := eq_false (Nat.not_lt.2 c36b5_))
             by_cases c37 : ((((⟨#[32, 61, 60, 43, 35, 83, 33, 38, 124, 69, 65]⟩ : ByteArray).extract (((rd_T33 l0 a1).f0) : Int).toNat ((wrap64 (((rd_T33 l0 a1).f0) + 1)) : Int).toNat) ++ t252) ++ t253).size + 1 ≤ 9223372036854775807
             ·rw [if_pos c37] at H
              have c37b0 := eq_true c37
              have c37b1 : decide (((((⟨#[32, 61, 60, 43, 35, 83, 33, 38, 124, 69, 65]⟩ : ByteArray).extract (((rd_T33 l0 a1).f0) : Int).toNat ((wrap64 (((rd_T33 l0 a1).f0) + 1)) : Int).toNat) ++ t252) ++ t253).size + 1 ≤ 9223372036854775807) = true := zH c37
              try have c37b2 : (9223372036854775807 < ((((⟨#[32, 61, 60, 43, 35, 83, 33, 38, 124, 69, 65]⟩ : ByteArray).extract (((rd_T33 l0 a1).f0) : Int).toNat ((wrap64 (((rd_T33 l0 a1).f0) + 1)) : Int).toNat) ++ t252) ++ t253).size + 1) = False := eq_false (Nat.not_lt.2 c37)
              try (have c37b4_ := c37; simp [show ∀ b_ : UInt8, (⟨#[b_]⟩ : ByteArray).size = 1 from fun _ => rfl, show (⟨#[32, 61, 60, 43, 35, 83, 33, 38, 124, 69, 65]⟩ : ByteArray).size = 11 from rfl] at c37b4_; have c37b3_ := eq_false (Nat.not_lt.2 c37b4_))
              try (have c37b5_ := c37; simp only [ByteArray.size_append, ByteArray.size_extract, show ∀ b_ : UInt8, (⟨#[b_]⟩ : ByteArray).size = 1 from fun _ => rfl, show (⟨#[32, 61, 60, 43, 35, 83, 33, 38, 124, 69, 65]⟩ : ByteArray).size = 11 from rfl] at c37b5_; have c37b6_ := eq_false (Nat.not_lt.2 c37b5_))
              obtain rfl := zU H
              try go_wp2
              have n0_ := yA (yT BK246.out)
              have n1_ := yA (yP HB.out)
              clear BK246
              clear HB
              have BK246 := n0_
              have HB := n1_
              clear n0_ n1_
              refine start_ (n := 11) (S := fun w' => w'.cell? ⟨gb246, 0, none⟩ = some (.int .i64 ((rd_T33 l0 a1).f0)) ∧ w'.cell? ⟨gb246, 1, none⟩ = some (.int .i64 ((rd_T33 l0 a1).f1)) ∧ w'.cell? ⟨gb246, 2, none⟩ = some (.int .i64 ((rd_T33 l0 a1).f2)) ∧ w'.cell? ⟨gb246, 3, none⟩ = some (.int .i64 ((rd_T33 l0 a1).f3))) (ds := []) #[false, false, false, false, false, false, false, false, false, false, false] (by kernel_rfl) rfl rfl ⟨(yV BK246.out 0).trans rfl, (yV BK246.out 1).trans rfl, (yV BK246.out 2).trans rfl, (yV BK246.out 3).trans rfl⟩ (fun hHeld => ?_); refine with_tabW impl_text.tab11 impl_text.bits11 (fun HT_ HW_ => ?_)
              generalize wc.drew = w38 at BK246 HB hHeld ⊢
              refine pure_ (i := 0) (N := some 49) (v := ?_) (a' := ?_) #[true, false, false, false, false, false, false, false, false, false, false] rfl rfl (any_of HT_.out (by kernel_rfl)) (fun _ _ _ h => h) (Or.inl ⟨by rfl, ?_⟩) ?_ ?_
              rotate_left
              ·intro w'
               go_simp
               with_reducible rfl
              rotate_left
              ·simp only [Act.put, zA, zB, zC, i64_w, i32_w]
               rfl
              refine pure_ (i := 1) (N := some 50) (v := ?_) (a' := ?_) #[true, true, false, false, false, false, false, false, false, false, false] rfl rfl (any_of HT_.out (by kernel_rfl)) (fun _ _ _ h => h) (Or.inl ⟨by rfl, ?_⟩) ?_ ?_
              rotate_left
              ·intro w'
               go_simp
               with_reducible rfl
              rotate_left
              ·simp only [Act.put, zA, zB, zC, i64_w, i32_w]
               rfl
              refine pure_ (i := 5) (N := some 54) (v := ?_) (a' := ?_) #[true, true, false, false, false, true, false, false, false, false, false] rfl rfl (any_of HT_.out (by kernel_rfl)) (fun _ _ _ h => h) (Or.inl ⟨by rfl, ?_⟩) ?_ ?_
              rotate_left
              ·intro w'
               go_simp
               with_reducible rfl
              rotate_left
              ·simp only [Act.put, zA, zB, zC, i64_w, i32_w]
               rfl
              refine take_ (i := 2) (N := some 51) (v := ?_) (a' := ?_) #[true, true, true, false, false, true, false, false, false, false, false] rfl rfl (take_ofW HT_.out HW_.out (by kernel_rfl)) (fun _ _ _ h => h) (Or.inl ⟨by rfl, ?_⟩) hHeld ?_ ?_
              rotate_left
              ·rintro w' ⟨s0, s1, s2, s3⟩
               go_simp
               with_reducible rfl
              rotate_left
              ·simp only [Act.put, zA, zB, zC, i64_w, i32_w]
               rfl
              refine take_ (i := 6) (N := some 55) (v := ?_) (a' := ?_) #[true, true, true, false, false, true, true, false, false, false, false] rfl rfl (take_ofW HT_.out HW_.out (by kernel_rfl)) (fun _ _ _ h => h) (Or.inl ⟨by rfl, ?_⟩) hHeld ?_ ?_
              rotate_left
              ·rintro w' ⟨s0, s1, s2, s3⟩
               go_simp
               with_reducible rfl
              rotate_left
              ·simp only [Act.put, zA, zB, zC, i64_w, i32_w]
               rfl
              refine one_ (i := 3) (N := some 52) #[true, true, true, true, false, true, true, false, false, false, false] rfl rfl (one_of HT_.out (by kernel_rfl)) (by decide) (fun K hK => ?_)
              refine goes_ Tryd.func23 (by kernel_rfl) rfl #[.int .i64 ((rd_T33 l0 a1).f1)] (by rfl) rfl rfl (by (try simp only [zI, zJ, zK]); first | done | rfl | (simp only [zL, zM]; rfl)) ?_
              with_reducible refine (impl_FormatInt.calls ((rd_T33 l0 a1).f1) t252 _ A33.out).mono ?_
              rintro e w39 ⟨rfl, hb⟩
              refine ⟨_, rfl, ?_⟩
              have n0_ := yA (yU (mK BK246.out) hb)
              have n1_ := yA (zD (by with_reducible repeat first | exact HB.out | apply yO | apply yN | apply yP | refine yQ ?_ GE246.out) hb)
              clear BK246
              clear HB
              have BK246 := n0_
              have HB := n1_
              clear n0_ n1_
              (try clear hb)
              (try clear hb2)
              (try clear hk)
              (try clear hi)
              refine hK.out _ _ ⟨(yV BK246.out 0).trans rfl, (yV BK246.out 1).trans rfl, (yV BK246.out 2).trans rfl, (yV BK246.out 3).trans rfl⟩ (fun hHeld => ?_)
              clear hK K
              refine norm_ (a' := ?_) ?_ ?_
              rotate_left
              ·show Act.put _ (some 52) _ = _
               simp only [Act.put, zA, zB, zC, i64_w, i32_w]
               rfl
              refine pure_ (i := 4) (N := some 53) (v := ?_) (a' := ?_) #[true, true, true, true, true, true, true, false, false, false, false] rfl rfl (any_of HT_.out (by kernel_rfl)) (fun _ _ _ h => h) (Or.inl ⟨by rfl, ?_⟩) ?_ ?_
              rotate_left
              ·intro w'
               go_simp
               with_reducible rfl
              rotate_left
              ·simp only [Act.put, zA, zB, zC, i64_w, i32_w]
               rfl
              refine one_ (i := 7) (N := some 56) #[true, true, true, true, true, true, true, true, false, false, false] rfl rfl (one_of HT_.out (by kernel_rfl)) (by decide) (fun K hK => ?_)
              refine goes_ Tryd.func23 (by kernel_rfl) rfl #[.int .i64 ((rd_T33 l0 a1).f2)] (by rfl) rfl rfl (by (try simp only [zI, zJ, zK]); first | done | rfl | (simp only [zL, zM]; rfl)) ?_
              with_reducible refine (impl_FormatInt.calls ((rd_T33 l0 a1).f2) t253 _ A35.out).mono ?_
              rintro e w40 ⟨rfl, hb⟩
              refine ⟨_, rfl, ?_⟩
              have n0_ := yA (yU (mK BK246.out) hb)
              have n1_ := yA (zD (by with_reducible repeat first | exact HB.out | apply yO | apply yN | apply yP | refine yQ ?_ GE246.out) hb)
              clear BK246
              clear HB
              have BK246 := n0_
              have HB := n1_
              clear n0_ n1_
              (try clear hb)
              (try clear hb2)
              (try clear hk)
              (try clear hi)
              refine hK.out _ _ ⟨(yV BK246.out 0).trans rfl, (yV BK246.out 1).trans rfl, (yV BK246.out 2).trans rfl, (yV BK246.out 3).trans rfl⟩ (fun hHeld => ?_)
              clear hK K
              refine norm_ (a' := ?_) ?_ ?_
              rotate_left
              ·show Act.put _ (some 56) _ = _
               simp only [Act.put, zA, zB, zC, i64_w, i32_w]
               rfl
              refine pure_ (i := 8) (N := some 57) (v := ?_) (a' := ?_) #[true, true, true, true, true, true, true, true, true, false, false] rfl rfl (any_of HT_.out (by kernel_rfl)) (fun _ _ _ h => h) (Or.inl ⟨by rfl, ?_⟩) ?_ ?_
              rotate_left
              ·intro w'
               go_simp
               with_reducible rfl
              rotate_left
              ·simp only [Act.put, zA, zB, zC, i64_w, i32_w]
               rfl
              refine pure_ (i := 9) (N := some 58) (v := ?_) (a' := ?_) #[true, true, true, true, true, true, true, true, true, true, false] rfl rfl (any_of HT_.out (by kernel_rfl)) (fun _ _ _ h => h) (Or.inl ⟨by rfl, ?_⟩) ?_ ?_
              rotate_left
              ·intro w'
               go_simp
               with_reducible rfl
              rotate_left
              ·simp only [Act.put, zA, zB, zC, i64_w, i32_w]
               rfl
              refine pure_ (i := 10) (N := some 4) (v := ?_) (a' := ?_) #[true, true, true, true, true, true, true, true, true, true, true] rfl rfl (any_of HT_.out (by kernel_rfl)) (fun _ _ _ h => h) (Or.inl ⟨by rfl, ?_⟩) ?_ ?_
              rotate_left
              ·intro w'
               go_simp
               with_reducible rfl
              rotate_left
              ·simp only [Act.put, zA, zB, zC, i64_w, i32_w]
               rfl
              refine done_ (done_of HT_.out (by kernel_rfl)) ?_
              try go_wp2
              go_ret
              exact ⟨by first | rfl | (simp [errW_none, errW_some] <;> rfl) | (simp [*, errW_none, errW_some] <;> rfl), by repeat (first | (with_reducible first | exact HB.out | apply yO | apply yN | apply yP | refine yQ ?_ GE246.out) | exact HB.out)⟩
             ·rw [if_neg c37] at H
              exact absurd H (by simp)
            ·rw [if_neg c36] at H
             exact absurd H (by simp)
           ·rw [if_neg c34] at H
            exact absurd H (by simp)
          ·rw [if_neg c32] at H
           have c32b0 : (((rd_T33 l0 a1).f0) == 4) = false := beq_eq_false_iff_ne.mpr c32
           have c32b1 : (((rd_T33 l0 a1).f0) != 4) = true := bne_iff_ne.mpr c32
           by_cases c41 : ((rd_T33 l0 a1).f0) = 6
           ·rw [if_pos c41] at H
            have c41b0 : (((rd_T33 l0 a1).f0) == 6) = true := beq_iff_eq.mpr c41
            have c41b1 : (((rd_T33 l0 a1).f0) != 6) = false := bne_eq_false_iff_eq.mpr c41
            clear c41
            replace H := Option.bind_eq_some_iff.mp H
            obtain ⟨t254, A420, H⟩ := H
            replace H : (if ((⟨#[32, 61, 60, 43, 35, 83, 33, 38, 124, 69, 65]⟩ : ByteArray).extract (((rd_T33 l0 a1).f0) : Int).toNat ((wrap64 (((rd_T33 l0 a1).f0) + 1)) : Int).toNat).size + t254.size ≤ 9223372036854775807 then (some (((⟨#[32, 61, 60, 43, 35, 83, 33, 38, 124, 69, 65]⟩ : ByteArray).extract (((rd_T33 l0 a1).f0) : Int).toNat ((wrap64 (((rd_T33 l0 a1).f0) + 1)) : Int).toNat) ++ t254)) else (none)) = some r := H
            have A42 := yA A420
            clear A420
            by_cases c43 : ((⟨#[32, 61, 60, 43, 35, 83, 33, 38, 124, 69, 65]⟩ : ByteArray).extract (((rd_T33 l0 a1).f0) : Int).toNat ((wrap64 (((rd_T33 l0 a1).f0) + 1)) : Int).toNat).size + t254.size ≤ 9223372036854775807
            ·rw [if_pos c43] at H
             have c43b0 := eq_true c43
             have c43b1 : decide (((⟨#[32, 61, 60, 43, 35, 83, 33, 38, 124, 69, 65]⟩ : ByteArray).extract (((rd_T33 l0 a1).f0) : Int).toNat ((wrap64 (((rd_T33 l0 a1).f0) + 1)) : Int).toNat).size + t254.size ≤ 9223372036854775807) = true := zH c43
             try have c43b2 : (9223372036854775807 < ((⟨#[32, 61, 60, 43, 35, 83, 33, 38, 124, 69, 65]⟩ : ByteArray).extract (((rd_T33 l0 a1).f0) : Int).toNat ((wrap64 (((rd_T33 l0 a1).f0) + 1)) : Int).toNat).size + t254.size) = False := eq_false (Nat.not_lt.2 c43)
             try (have c43b4_ := c43; simp [show ∀ b_ : UInt8, (⟨#[b_]⟩ : ByteArray).size = 1 from fun _ => rfl, show (⟨#[32, 61, 60, 43, 35, 83, 33, 38, 124, 69, 65]⟩ : ByteArray).size = 11 from rfl] at c43b4_; have c43b3_ := eq_false (Nat.not_lt.2 c43b4_))
             try (have c43b5_ := c43; simp only [ByteArray.size_append, ByteArray.size_extract, show ∀ b_ : UInt8, (⟨#[b_]⟩ : ByteArray).size = 1 from fun _ => rfl, show (⟨#[32, 61, 60, 43, 35, 83, 33, 38, 124, 69, 65]⟩ : ByteArray).size = 11 from rfl] at c43b5_; have c43b6_ := eq_false (Nat.not_lt.2 c43b5_))
             obtain rfl := zU H
             have hcz44_0 : wc.cell? ⟨gb246, 0, none⟩ = some (.int .i64 ((rd_T33 l0 a1).f0)) := (yV BK246.out 0).trans rfl
             have hcz44_1 : wc.cell? ⟨gb246, 1, none⟩ = some (.int .i64 ((rd_T33 l0 a1).f1)) := (yV BK246.out 1).trans rfl
             have hcz44_2 : wc.cell? ⟨gb246, 2, none⟩ = some (.int .i64 ((rd_T33 l0 a1).f2)) := (yV BK246.out 2).trans rfl
             have hcz44_3 : wc.cell? ⟨gb246, 3, none⟩ = some (.int .i64 ((rd_T33 l0 a1).f3)) := (yV BK246.out 3).trans rfl
             have hfz44_0 := yW BK246.out 0
             have hfz44_1 := yW BK246.out 1
             have hfz44_2 := yW BK246.out 2
             have hfz44_3 := yW BK246.out 3
             go_wp2_with (first | ((with_reducible refine zS (f := 16) rfl ?_); refine goesL_ (some 65) rfl rfl Tryd.func16 (by kernel_rfl) rfl #[.slice (some ad245) l0.length c0, .int .i64 ((rd_T33 l0 a1).f1)] rfl (by (try simp only [zI, zJ, zK]); first | done | rfl | (simp only [zL, zM]; rfl)) ?_; (with_reducible refine (ih kj7 (by have := HJ7.out; omega) _ _ l0 ((rd_T33 l0 a1).f1) t254 _ ?side1 ?side2 A42.out).mono ?_); (case side1 => exact mC (yM HR0.out HB.out)); (case side2 => exact HC0.out); rintro e w45 ⟨rfl, hb⟩; refine ⟨_, rfl, ?_⟩; have n0_ := yA (yU (mK BK246.out) hb); have n1_ := yA (zD (by with_reducible repeat first | exact HB.out | apply yO | apply yN | apply yP | refine yQ ?_ GE246.out) hb); clear BK246; clear HB; have BK246 := n0_; have HB := n1_; clear n0_ n1_; (try clear hb); (try clear hb2); (try clear hk); (try clear hi)))
             go_ret
             exact ⟨by first | rfl | (simp [errW_none, errW_some] <;> rfl) | (simp [*, errW_none, errW_some] <;> rfl), by repeat (first | (with_reducible first | exact HB.out | apply yO | apply yN | apply yP | refine yQ ?_ GE246.out) | exact HB.out)⟩
            ·rw [if_neg c43] at H
             exact absurd H (by simp)
           ·rw [if_neg c41] at H
            have c41b0 : (((rd_T33 l0 a1).f0) == 6) = false := beq_eq_false_iff_ne.mpr c41
            have c41b1 : (((rd_T33 l0 a1).f0) != 6) = true := bne_iff_ne.mpr c41
            have HC46 := yA H
            clear H
            go_upto_if 67 with (fail)
            go_cut [67] (fun v67 wc => ∃ (kq : Nat) (x67_45 : Bool), v67 = .bool x67_45 ∧ Aside0 (impl_text.j1 kq l0 ((⟨#[32, 61, 60, 43, 35, 83, 33, 38, 124, 69, 65]⟩ : ByteArray).extract (((rd_T33 l0 a1).f0) : Int).toNat ((wrap64 (((rd_T33 l0 a1).f0) + 1)) : Int).toNat) x67_45 ((rd_T33 l0 a1).f0) ((rd_T33 l0 a1).f1) ((rd_T33 l0 a1).f2) ((rd_T33 l0 a1).f3) = some r) ∧ Aside0 (kq ≤ kj7) ∧ Aside0 (wc.heap[gb246]? = some (.cells #[.int .i64 ((rd_T33 l0 a1).f0), .int .i64 ((rd_T33 l0 a1).f1), .int .i64 ((rd_T33 l0 a1).f2), .int .i64 ((rd_T33 l0 a1).f3)] 33 (0, 0))) ∧ Aside0 (Below w.heap.size w wc))
            case first =>
             have H := HC46.out
             clear HC46
             by_cases c47 : ((rd_T33 l0 a1).f0) = 7
             ·rw [if_pos c47] at H
              have c47b0 : (((rd_T33 l0 a1).f0) == 7) = true := beq_iff_eq.mpr c47
              have c47b1 : (((rd_T33 l0 a1).f0) != 7) = false := bne_eq_false_iff_eq.mpr c47
              clear c47
              (first | rw [c47b0] | (simp only [i64_w, i32_w]; rw [c47b0]) | skip)
              have H' := yA H
              clear H
              go_wp2
              go_meet
              case rel => exact ⟨_, ((((rd_T33 l0 a1).f0) == 7)), (by first | rfl | (simp; done) | (simp [*]; done)), H', ⟨by have := HJ7.out; first | omega | exact zT _⟩, ⟨by (with_reducible repeat (first | refine yS ?_ _ | refine yT ?_ | refine yR ?_ _)); exact BK246.out⟩, ⟨by repeat (first | (with_reducible first | exact HB.out | apply yO | apply yN | apply yP | refine yQ ?_ GE246.out) | exact HB.out)⟩⟩
             ·rw [if_neg c47] at H
              have c47b0 : (((rd_T33 l0 a1).f0) == 7) = false := beq_eq_false_iff_ne.mpr c47
              have c47b1 : (((rd_T33 l0 a1).f0) != 7) = true := bne_iff_ne.mpr c47
              (first | rw [c47b0] | (simp only [i64_w, i32_w]; rw [c47b0]) | skip)
              have H' := yA H
              clear H
              go_wp2
              go_meet
              case rel => exact ⟨_, ((((rd_T33 l0 a1).f0) == 8)), (by first | rfl | (simp; done) | (simp [*]; done)), H', ⟨by have := HJ7.out; first | omega | exact zT _⟩, ⟨by (with_reducible repeat (first | refine yS ?_ _ | refine yT ?_ | refine yR ?_ _)); exact BK246.out⟩, ⟨by repeat (first | (with_reducible first | exact HB.out | apply yO | apply yN | apply yP | refine yQ ?_ GE246.out) | exact HB.out)⟩⟩
            case rest =>
             clear HC46
             try clear c1
             try clear c2
             try clear p2
             try clear c3
             try clear c4
             try clear p6
             try clear c13
             try clear c15
             try clear c15b0
             try clear c15b1
             try clear c15b2
             try clear c16
             try clear c17
             try clear c17b0
             try clear c17b1
             try clear c17b2
             try clear c21
             try clear c21b0
             try clear c21b1
             try clear c23
             try clear c23b0
             try clear c23b1
             try clear c23b2
             try clear c25
             try clear c25b0
             try clear c25b1
             try clear c25b2
             try clear c27
             try clear c27b0
             try clear c27b1
             try clear c27b2
             try clear c32
             try clear c32b0
             try clear c32b1
             try clear c34
             try clear c34b0
             try clear c34b1
             try clear c34b2
             try clear c36
             try clear c36b0
             try clear c36b1
             try clear c36b2
             try clear c37
             try clear c37b0
             try clear c37b1
             try clear c37b2
             try clear c41
             try clear c41b0
             try clear c41b1
             try clear c43
             try clear c43b0
             try clear c43b1
             try clear c43b2
             try clear c47
             try clear c47b0
             try clear c47b1
             try clear hcz44_0
             try clear hcz44_1
             try clear hcz44_2
             try clear hcz44_3
             try clear hfz44_0
             try clear hfz44_1
             try clear hfz44_2
             try clear hfz44_3
             obtain ⟨kq, x67_45, rfl, HA, HJ45, BK246, HB⟩ := hcut
             cases kq with
             | zero => exact absurd HA.out (by simp [impl_text.j1])
             | succ kj45 =>
              have H := HA.out
              clear HA
              simp only [impl_text.j1] at H
              by_cases c48 : x67_45 = true
              ·subst c48
               have H1 : ((impl_text.f kj45 l0 ((rd_T33 l0 a1).f1)).bind fun t255 => (if ((⟨#[32, 61, 60, 43, 35, 83, 33, 38, 124, 69, 65]⟩ : ByteArray).extract (((rd_T33 l0 a1).f0) : Int).toNat ((wrap64 (((rd_T33 l0 a1).f0) + 1)) : Int).toNat).size + t255.size ≤ 9223372036854775807 then ((impl_text.f kj45 l0 ((rd_T33 l0 a1).f2)).bind fun t256 => (if (((⟨#[32, 61, 60, 43, 35, 83, 33, 38, 124, 69, 65]⟩ : ByteArray).extract (((rd_T33 l0 a1).f0) : Int).toNat ((wrap64 (((rd_T33 l0 a1).f0) + 1)) : Int).toNat) ++ t255).size + t256.size ≤ 9223372036854775807 then (some ((((⟨#[32, 61, 60, 43, 35, 83, 33, 38, 124, 69, 65]⟩ : ByteArray).extract (((rd_T33 l0 a1).f0) : Int).toNat ((wrap64 (((rd_T33 l0 a1).f0) + 1)) : Int).toNat) ++ t255) ++ t256)) else (none))) else (none))) = some r := by rw [if_pos rfl] at H; exact H
               clear H
               have H := H1
               clear H1
               replace H := Option.bind_eq_some_iff.mp H
               obtain ⟨t255, A490, H⟩ := H
               replace H : (if ((⟨#[32, 61, 60, 43, 35, 83, 33, 38, 124, 69, 65]⟩ : ByteArray).extract (((rd_T33 l0 a1).f0) : Int).toNat ((wrap64 (((rd_T33 l0 a1).f0) + 1)) : Int).toNat).size + t255.size ≤ 9223372036854775807 then ((impl_text.f kj45 l0 ((rd_T33 l0 a1).f2)).bind fun t256 => (if (((⟨#[32, 61, 60, 43, 35, 83, 33, 38, 124, 69, 65]⟩ : ByteArray).extract (((rd_T33 l0 a1).f0) : Int).toNat ((wrap64 (((rd_T33 l0 a1).f0) + 1)) : Int).toNat) ++ t255).size + t256.size ≤ 9223372036854775807 then (some ((((⟨#[32, 61, 60, 43, 35, 83, 33, 38, 124, 69, 65]⟩ : ByteArray).extract (((rd_T33 l0 a1).f0) : Int).toNat ((wrap64 (((rd_T33 l0 a1).f0) + 1)) : Int).toNat) ++ t255) ++ t256)) else (none))) else (none)) = some r := H
               have A49 := yA A490
               clear A490
               by_cases c50 : ((⟨#[32, 61, 60, 43, 35, 83, 33, 38, 124, 69, 65]⟩ : ByteArray).extract (((rd_T33 l0 a1).f0) : Int).toNat ((wrap64 (((rd_T33 l0 a1).f0) + 1)) : Int).toNat).size + t255.size ≤ 9223372036854775807
               ·rw [if_pos c50] at H
                have c50b0 := eq_true c50
                have c50b1 : decide (((⟨#[32, 61, 60, 43, 35, 83, 33, 38, 124, 69, 65]⟩ : ByteArray).extract (((rd_T33 l0 a1).f0) : Int).toNat ((wrap64 (((rd_T33 l0 a1).f0) + 1)) : Int).toNat).size + t255.size ≤ 9223372036854775807) = true := zH c50
                try have c50b2 : (9223372036854775807 < ((⟨#[32, 61, 60, 43, 35, 83, 33, 38, 124, 69, 65]⟩ : ByteArray).extract (((rd_T33 l0 a1).f0) : Int).toNat ((wrap64 (((rd_T33 l0 a1).f0) + 1)) : Int).toNat).size + t255.size) = False := eq_false (Nat.not_lt.2 c50)
                try (have c50b4_ := c50; simp [show ∀ b_ : UInt8, (⟨#[b_]⟩ : ByteArray).size = 1 from fun _ => rfl, show (⟨#[32, 61, 60, 43, 35, 83, 33, 38, 124, 69, 65]⟩ : ByteArray).size = 11 from rfl] at c50b4_; have c50b3_ := eq_false (Nat.not_lt.2 c50b4_))
                try (have c50b5_ := c50; simp only [ByteArray.size_append, ByteArray.size_extract, show ∀ b_ : UInt8, (⟨#[b_]⟩ : ByteArray).size = 1 from fun _ => rfl, show (⟨#[32, 61, 60, 43, 35, 83, 33, 38, 124, 69, 65]⟩ : ByteArray).size = 11 from rfl] at c50b5_; have c50b6_ := eq_false (Nat.not_lt.2 c50b5_))
                replace H := Option.bind_eq_some_iff.mp H
                obtain ⟨t256, A510, H⟩ := H
                replace H : (if (((⟨#[32, 61, 60, 43, 35, 83, 33, 38, 124, 69, 65]⟩ : ByteArray).extract (((rd_T33 l0 a1).f0) : Int).toNat ((wrap64 (((rd_T33 l0 a1).f0) + 1)) : Int).toNat) ++ t255).size + t256.size ≤ 9223372036854775807 then (some ((((⟨#[32, 61, 60, 43, 35, 83, 33, 38, 124, 69, 65]⟩ : ByteArray).extract (((rd_T33 l0 a1).f0) : Int).toNat ((wrap64 (((rd_T33 l0 a1).f0) + 1)) : Int).toNat) ++ t255) ++ t256)) else (none)) = some r := H
                have A51 := yA A510
                clear A510
                by_cases c52 : (((⟨#[32, 61, 60, 43, 35, 83, 33, 38, 124, 69, 65]⟩ : ByteArray).extract (((rd_T33 l0 a1).f0) : Int).toNat ((wrap64 (((rd_T33 l0 a1).f0) + 1)) : Int).toNat) ++ t255).size + t256.size ≤ 9223372036854775807
                ·rw [if_pos c52] at H
                 have c52b0 := eq_true c52
                 have c52b1 : decide ((((⟨#[32, 61, 60, 43, 35, 83, 33, 38, 124, 69, 65]⟩ : ByteArray).extract (((rd_T33 l0 a1).f0) : Int).toNat ((wrap64 (((rd_T33 l0 a1).f0) + 1)) : Int).toNat) ++ t255).size + t256.size ≤ 9223372036854775807) = true := zH c52
                 try have c52b2 : (9223372036854775807 < (((⟨#[32, 61, 60, 43, 35, 83, 33, 38, 124, 69, 65]⟩ : ByteArray).extract (((rd_T33 l0 a1).f0) : Int).toNat ((wrap64 (((rd_T33 l0 a1).f0) + 1)) : Int).toNat) ++ t255).size + t256.size) = False := eq_false (Nat.not_lt.2 c52)
                 try (have c52b4_ := c52; simp [show ∀ b_ : UInt8, (⟨#[b_]⟩ : ByteArray).size = 1 from fun _ => rfl, show (⟨#[32, 61, 60, 43, 35, 83, 33, 38, 124, 69, 65]⟩ : ByteArray).size = 11 from rfl] at c52b4_; have c52b3_ := eq_false (Nat.not_lt.2 c52b4_))
                 try (have c52b5_ := c52; simp only [ByteArray.size_append, ByteArray.size_extract, show ∀ b_ : UInt8, (⟨#[b_]⟩ : ByteArray).size = 1 from fun _ => rfl, show (⟨#[32, 61, 60, 43, 35, 83, 33, 38, 124, 69, 65]⟩ : ByteArray).size = 11 from rfl] at c52b5_; have c52b6_ := eq_false (Nat.not_lt.2 c52b5_))
                 obtain rfl := zU H
                 try go_wp2
                 have n0_ := yA (yT BK246.out)
                 have n1_ := yA (yP HB.out)
                 clear BK246
                 clear HB
                 have BK246 := n0_
                 have HB := n1_
                 clear n0_ n1_
                 refine start_ (n := 12) (S := fun w' => w'.cell? ⟨gb246, 0, none⟩ = some (.int .i64 ((rd_T33 l0 a1).f0)) ∧ w'.cell? ⟨gb246, 1, none⟩ = some (.int .i64 ((rd_T33 l0 a1).f1)) ∧ w'.cell? ⟨gb246, 2, none⟩ = some (.int .i64 ((rd_T33 l0 a1).f2)) ∧ w'.cell? ⟨gb246, 3, none⟩ = some (.int .i64 ((rd_T33 l0 a1).f3))) (ds := []) #[false, false, false, false, false, false, false, false, false, false, false, false] (by kernel_rfl) rfl rfl ⟨(yV BK246.out 0).trans rfl, (yV BK246.out 1).trans rfl, (yV BK246.out 2).trans rfl, (yV BK246.out 3).trans rfl⟩ (fun hHeld => ?_); refine with_tabW impl_text.tab16 impl_text.bits16 (fun HT_ HW_ => ?_)
                 generalize wc.drew = w53 at BK246 HB hHeld ⊢
                 refine pure_ (i := 0) (N := some 70) (v := ?_) (a' := ?_) #[true, false, false, false, false, false, false, false, false, false, false, false] rfl rfl (any_of HT_.out (by kernel_rfl)) (fun _ _ _ h => h) (Or.inl ⟨by rfl, ?_⟩) ?_ ?_
                 rotate_left
                 ·intro w'
                  go_simp
                  with_reducible rfl
                 rotate_left
                 ·simp only [Act.put, zA, zB, zC, i64_w, i32_w]
                  rfl
                 refine pure_ (i := 1) (N := some 71) (v := ?_) (a' := ?_) #[true, true, false, false, false, false, false, false, false, false, false, false] rfl rfl (any_of HT_.out (by kernel_rfl)) (fun _ _ _ h => h) (Or.inl ⟨by rfl, ?_⟩) ?_ ?_
                 rotate_left
                 ·intro w'
                  go_simp
                  with_reducible rfl
                 rotate_left
                 ·simp only [Act.put, zA, zB, zC, i64_w, i32_w]
                  rfl
                 refine pure_ (i := 2) (N := some 72) (v := ?_) (a' := ?_) #[true, true, true, false, false, false, false, false, false, false, false, false] rfl rfl (any_of HT_.out (by kernel_rfl)) (fun _ _ _ h => h) (Or.inl ⟨by rfl, ?_⟩) ?_ ?_
                 rotate_left
                 ·intro w'
                  go_simp
                  with_reducible rfl
                 rotate_left
                 ·simp only [Act.put, zA, zB, zC, i64_w, i32_w]
                  rfl
                 refine pure_ (i := 6) (N := some 76) (v := ?_) (a' := ?_) #[true, true, true, false, false, false, true, false, false, false, false, false] rfl rfl (any_of HT_.out (by kernel_rfl)) (fun _ _ _ h => h) (Or.inl ⟨by rfl, ?_⟩) ?_ ?_
                 rotate_left
                 ·intro w'
                  go_simp
                  with_reducible rfl
                 rotate_left
                 ·simp only [Act.put, zA, zB, zC, i64_w, i32_w]
                  rfl
                 refine pure_ (i := 7) (N := some 77) (v := ?_) (a' := ?_) #[true, true, true, false, false, false, true, true, false, false, false, false] rfl rfl (any_of HT_.out (by kernel_rfl)) (fun _ _ _ h => h) (Or.inl ⟨by rfl, ?_⟩) ?_ ?_
                 rotate_left
                 ·intro w'
                  go_simp
                  with_reducible rfl
                 rotate_left
                 ·simp only [Act.put, zA, zB, zC, i64_w, i32_w]
                  rfl
                 refine take_ (i := 3) (N := some 73) (v := ?_) (a' := ?_) #[true, true, true, true, false, false, true, true, false, false, false, false] rfl rfl (take_ofW HT_.out HW_.out (by kernel_rfl)) (fun _ _ _ h => h) (Or.inl ⟨by rfl, ?_⟩) hHeld ?_ ?_
                 rotate_left
                 ·rintro w' ⟨s0, s1, s2, s3⟩
                  go_simp
                  with_reducible rfl
                 rotate_left
                 ·simp only [Act.put, zA, zB, zC, i64_w, i32_w]
                  rfl
                 refine take_ (i := 8) (N := some 78) (v := ?_) (a' := ?_) #[true, true, true, true, false, false, true, true, true, false, false, false] rfl rfl (take_ofW HT_.out HW_.out (by kernel_rfl)) (fun _ _ _ h => h) (Or.inl ⟨by rfl, ?_⟩) hHeld ?_ ?_
                 rotate_left
                 ·rintro w' ⟨s0, s1, s2, s3⟩
                  go_simp
                  with_reducible rfl
                 rotate_left
                 ·simp only [Act.put, zA, zB, zC, i64_w, i32_w]
                  rfl
                 refine one_ (i := 4) (N := some 74) #[true, true, true, true, true, false, true, true, true, false, false, false] rfl rfl (one_of HT_.out (by kernel_rfl)) (by decide) (fun K hK => ?_)
                 refine goes_ Tryd.func16 (by kernel_rfl) rfl #[.slice (some ad245) l0.length c0, .int .i64 ((rd_T33 l0 a1).f1)] (by rfl) rfl rfl (by (try simp only [zI, zJ, zK]); first | done | rfl | (simp only [zL, zM]; rfl)) ?_
                 with_reducible refine (ih kj45 (by have := HJ7.out; have := HJ45.out; omega) _ _ l0 ((rd_T33 l0 a1).f1) t255 _ ?side1 ?side2 A49.out).mono ?_
                 (case side1 => exact mC (yM HR0.out HB.out))
                 (case side2 => exact HC0.out)
                 rintro e w54 ⟨rfl, hb⟩
                 refine ⟨_, rfl, ?_⟩
                 have n0_ := yA (yU (mK BK246.out) hb)
                 have n1_ := yA (zD (by with_reducible repeat first | exact HB.out | apply yO | apply yN | apply yP | refine yQ ?_ GE246.out) hb)
                 clear BK246
                 clear HB
                 have BK246 := n0_
                 have HB := n1_
                 clear n0_ n1_
                 (try clear hb)
                 (try clear hb2)
                 (try clear hk)
                 (try clear hi)
                 refine hK.out _ _ ⟨(yV BK246.out 0).trans rfl, (yV BK246.out 1).trans rfl, (yV BK246.out 2).trans rfl, (yV BK246.out 3).trans rfl⟩ (fun hHeld => ?_)
                 clear hK K
                 refine norm_ (a' := ?_) ?_ ?_
                 rotate_left
                 ·show Act.put _ (some 74) _ = _
                  simp only [Act.put, zA, zB, zC, i64_w, i32_w]
                  rfl
                 refine pure_ (i := 5) (N := some 75) (v := ?_) (a' := ?_) #[true, true, true, true, true, true, true, true, true, false, false, false] rfl rfl (any_of HT_.out (by kernel_rfl)) (fun _ _ _ h => h) (Or.inl ⟨by rfl, ?_⟩) ?_ ?_
                 rotate_left
                 ·intro w'
                  go_simp
                  with_reducible rfl
                 rotate_left
                 ·simp only [Act.put, zA, zB, zC, i64_w, i32_w]
                  rfl
                 refine one_ (i := 9) (N := some 79) #[true, true, true, true, true, true, true, true, true, true, false, false] rfl rfl (one_of HT_.out (by kernel_rfl)) (by decide) (fun K hK => ?_)
                 refine goes_ Tryd.func16 (by kernel_rfl) rfl #[.slice (some ad245) l0.length c0, .int .i64 ((rd_T33 l0 a1).f2)] (by rfl) rfl rfl (by (try simp only [zI, zJ, zK]); first | done | rfl | (simp only [zL, zM]; rfl)) ?_
                 with_reducible refine (ih kj45 (by have := HJ7.out; have := HJ45.out; omega) _ _ l0 ((rd_T33 l0 a1).f2) t256 _ ?side1 ?side2 A51.out).mono ?_
                 (case side1 => exact mC (yM HR0.out HB.out))
                 (case side2 => exact HC0.out)
                 rintro e w55 ⟨rfl, hb⟩
                 refine ⟨_, rfl, ?_⟩
                 have n0_ := yA (yU (mK BK246.out) hb)
                 have n1_ := yA (zD (by with_reducible repeat first | exact HB.out | apply yO | apply yN | apply yP | refine yQ ?_ GE246.out) hb)
                 clear BK246
                 clear HB
                 have BK246 := n0_
                 have HB := n1_
                 clear n0_ n1_
                 (try clear hb)
                 (try clear hb2)
                 (try clear hk)
                 (try clear hi)
                 refine hK.out _ _ ⟨(yV BK246.out 0).trans rfl, (yV BK246.out 1).trans rfl, (yV BK246.out 2).trans rfl, (yV BK246.out 3).trans rfl⟩ (fun hHeld => ?_)
                 clear hK K
                 refine norm_ (a' := ?_) ?_ ?_
                 rotate_left
                 ·show Act.put _ (some 79) _ = _
                  simp only [Act.put, zA, zB, zC, i64_w, i32_w]
                  rfl
                 refine pure_ (i := 10) (N := some 80) (v := ?_) (a' := ?_) #[true, true, true, true, true, true, true, true, true, true, true, false] rfl rfl (any_of HT_.out (by kernel_rfl)) (fun _ _ _ h => h) (Or.inl ⟨by rfl, ?_⟩) ?_ ?_
                 rotate_left
                 ·intro w'
                  go_simp
                  with_reducible rfl
                 rotate_left
                 ·simp only [Act.put, zA, zB, zC, i64_w, i32_w]
                  rfl
                 refine pure_ (i := 11) (N := some 4) (v := ?_) (a' := ?_) #[true, true, true, true, true, true, true, true, true, true, true, true] rfl rfl (any_of HT_.out (by kernel_rfl)) (fun _ _ _ h => h) (Or.inl ⟨by rfl, ?_⟩) ?_ ?_
                 rotate_left
                 ·intro w'
                  go_simp
                  with_reducible rfl
                 rotate_left
                 ·simp only [Act.put, zA, zB, zC, i64_w, i32_w]
                  rfl
                 refine done_ (done_of HT_.out (by kernel_rfl)) ?_
                 try go_wp2
                 go_ret
                 exact ⟨by first | rfl | (simp [errW_none, errW_some] <;> rfl) | (simp [*, errW_none, errW_some] <;> rfl), by repeat (first | (with_reducible first | exact HB.out | apply yO | apply yN | apply yP | refine yQ ?_ GE246.out) | exact HB.out)⟩
                ·rw [if_neg c52] at H
                 exact absurd H (by simp)
               ·rw [if_neg c50] at H
                exact absurd H (by simp)
              ·replace c48 := Bool.eq_false_iff.mpr c48
               subst c48
               have H1 : ((impl_FormatInt.f ((rd_T33 l0 a1).f1)).bind fun t257 => (if ((⟨#[32, 61, 60, 43, 35, 83, 33, 38, 124, 69, 65]⟩ : ByteArray).extract (((rd_T33 l0 a1).f0) : Int).toNat ((wrap64 (((rd_T33 l0 a1).f0) + 1)) : Int).toNat).size + t257.size ≤ 9223372036854775807 then ((impl_text.f kj45 l0 ((rd_T33 l0 a1).f2)).bind fun t258 => (if (((⟨#[32, 61, 60, 43, 35, 83, 33, 38, 124, 69, 65]⟩ : ByteArray).extract (((rd_T33 l0 a1).f0) : Int).toNat ((wrap64 (((rd_T33 l0 a1).f0) + 1)) : Int).toNat) ++ t257).size + t258.size ≤ 9223372036854775807 then (some ((((⟨#[32, 61, 60, 43, 35, 83, 33, 38, 124, 69, 65]⟩ : ByteArray).extract (((rd_T33 l0 a1).f0) : Int).toNat ((wrap64 (((rd_T33 l0 a1).f0) + 1)) : Int).toNat) ++ t257) ++ t258)) else (none))) else (none))) = some r := by rw [if_neg (show ¬ (false = true) by decide)] at H; exact H
               clear H
               have H := H1
               clear H1
               replace H := Option.bind_eq_some_iff.mp H
               obtain ⟨t257, A560, H⟩ := H
               replace H : (if ((⟨#[32, 61, 60, 43, 35, 83, 33, 38, 124, 69, 65]⟩ : ByteArray).extract (((rd_T33 l0 a1).f0) : Int).toNat ((wrap64 (((rd_T33 l0 a1).f0) + 1)) : Int).toNat).size + t257.size ≤ 9223372036854775807 then ((impl_text.f kj45 l0 ((rd_T33 l0 a1).f2)).bind fun t258 => (if (((⟨#[32, 61, 60, 43, 35, 83, 33, 38, 124, 69, 65]⟩ : ByteArray).extract (((rd_T33 l0 a1).f0) : Int).toNat ((wrap64 (((rd_T33 l0 a1).f0) + 1)) : Int).toNat) ++ t257).size + t258.size ≤ 9223372036854775807 then (some ((((⟨#[32, 61, 60, 43, 35, 83, 33, 38, 124, 69, 65]⟩ : ByteArray).extract (((rd_T33 l0 a1).f0) : Int).toNat ((wrap64 (((rd_T33 l0 a1).f0) + 1)) : Int).toNat) ++ t257) ++ t258)) else (none))) else (none)) = some r := H
               have A56 := yA A560
               clear A560
               by_cases c57 : ((⟨#[32, 61, 60, 43, 35, 83, 33, 38, 124, 69, 65]⟩ : ByteArray).extract (((rd_T33 l0 a1).f0) : Int).toNat ((wrap64 (((rd_T33 l0 a1).f0) + 1)) : Int).toNat).size + t257.size ≤ 9223372036854775807
               ·rw [if_pos c57] at H
                have c57b0 := eq_true c57
                have c57b1 : decide (((⟨#[32, 61, 60, 43, 35, 83, 33, 38, 124, 69, 65]⟩ : ByteArray).extract (((rd_T33 l0 a1).f0) : Int).toNat ((wrap64 (((rd_T33 l0 a1).f0) + 1)) : Int).toNat).size + t257.size ≤ 9223372036854775807) = true := zH c57
                try have c57b2 : (9223372036854775807 < ((⟨#[32, 61, 60, 43, 35, 83, 33, 38, 124, 69, 65]⟩ : ByteArray).extract (((rd_T33 l0 a1).f0) : Int).toNat ((wrap64 (((rd_T33 l0 a1).f0) + 1)) : Int).toNat).size + t257.size) = False := eq_false (Nat.not_lt.2 c57)
                try (have c57b4_ := c57; simp [show ∀ b_ : UInt8, (⟨#[b_]⟩ : ByteArray).size = 1 from fun _ => rfl, show (⟨#[32, 61, 60, 43, 35, 83, 33, 38, 124, 69, 65]⟩ : ByteArray).size = 11 from rfl] at c57b4_; have c57b3_ := eq_false (Nat.not_lt.2 c57b4_))
                try (have c57b5_ := c57; simp only [ByteArray.size_append, ByteArray.size_extract, show ∀ b_ : UInt8, (⟨#[b_]⟩ : ByteArray).size = 1 from fun _ => rfl, show (⟨#[32, 61, 60, 43, 35, 83, 33, 38, 124, 69, 65]⟩ : ByteArray).size = 11 from rfl] at c57b5_; have c57b6_ := eq_false (Nat.not_lt.2 c57b5_))
                replace H := Option.bind_eq_some_iff.mp H
                obtain ⟨t258, A580, H⟩ := H
                replace H : (if (((⟨#[32, 61, 60, 43, 35, 83, 33, 38, 124, 69, 65]⟩ : ByteArray).extract (((rd_T33 l0 a1).f0) : Int).toNat ((wrap64 (((rd_T33 l0 a1).f0) + 1)) : Int).toNat) ++ t257).size + t258.size ≤ 9223372036854775807 then (some ((((⟨#[32, 61, 60, 43, 35, 83, 33, 38, 124, 69, 65]⟩ : ByteArray).extract (((rd_T33 l0 a1).f0) : Int).toNat ((wrap64 (((rd_T33 l0 a1).f0) + 1)) : Int).toNat) ++ t257) ++ t258)) else (none)) = some r := H
                have A58 := yA A580
                clear A580
                by_cases c59 : (((⟨#[32, 61, 60, 43, 35, 83, 33, 38, 124, 69, 65]⟩ : ByteArray).extract (((rd_T33 l0 a1).f0) : Int).toNat ((wrap64 (((rd_T33 l0 a1).f0) + 1)) : Int).toNat) ++ t257).size + t258.size ≤ 9223372036854775807
                ·rw [if_pos c59] at H
                 have c59b0 := eq_true c59
                 have c59b1 : decide ((((⟨#[32, 61, 60, 43, 35, 83, 33, 38, 124, 69, 65]⟩ : ByteArray).extract (((rd_T33 l0 a1).f0) : Int).toNat ((wrap64 (((rd_T33 l0 a1).f0) + 1)) : Int).toNat) ++ t257).size + t258.size ≤ 9223372036854775807) = true := zH c59
                 try have c59b2 : (9223372036854775807 < (((⟨#[32, 61, 60, 43, 35, 83, 33, 38, 124, 69, 65]⟩ : ByteArray).extract (((rd_T33 l0 a1).f0) : Int).toNat ((wrap64 (((rd_T33 l0 a1).f0) + 1)) : Int).toNat) ++ t257).size + t258.size) = False := eq_false (Nat.not_lt.2 c59)
                 try (have c59b4_ := c59; simp [show ∀ b_ : UInt8, (⟨#[b_]⟩ : ByteArray).size = 1 from fun _ => rfl, show (⟨#[32, 61, 60, 43, 35, 83, 33, 38, 124, 69, 65]⟩ : ByteArray).size = 11 from rfl] at c59b4_; have c59b3_ := eq_false (Nat.not_lt.2 c59b4_))
                 try (have c59b5_ := c59; simp only [ByteArray.size_append, ByteArray.size_extract, show ∀ b_ : UInt8, (⟨#[b_]⟩ : ByteArray).size = 1 from fun _ => rfl, show (⟨#[32, 61, 60, 43, 35, 83, 33, 38, 124, 69, 65]⟩ : ByteArray).size = 11 from rfl] at c59b5_; have c59b6_ := eq_false (Nat.not_lt.2 c59b5_))
                 obtain rfl := zU H
                 try go_wp2
                 have n0_ := yA (yT BK246.out)
                 have n1_ := yA (yP HB.out)
                 clear BK246
                 clear HB
                 have BK246 := n0_
                 have HB := n1_
                 clear n0_ n1_
                 refine start_ (n := 11) (S := fun w' => w'.cell? ⟨gb246, 0, none⟩ = some (.int .i64 ((rd_T33 l0 a1).f0)) ∧ w'.cell? ⟨gb246, 1, none⟩ = some (.int .i64 ((rd_T33 l0 a1).f1)) ∧ w'.cell? ⟨gb246, 2, none⟩ = some (.int .i64 ((rd_T33 l0 a1).f2)) ∧ w'.cell? ⟨gb246, 3, none⟩ = some (.int .i64 ((rd_T33 l0 a1).f3))) (ds := []) #[false, false, false, false, false, false, false, false, false, false, false] (by kernel_rfl) rfl rfl ⟨(yV BK246.out 0).trans rfl, (yV BK246.out 1).trans rfl, (yV BK246.out 2).trans rfl, (yV BK246.out 3).trans rfl⟩ (fun hHeld => ?_); refine with_tabW impl_text.tab17 impl_text.bits17 (fun HT_ HW_ => ?_)
                 generalize wc.drew = w60 at BK246 HB hHeld ⊢
                 refine pure_ (i := 0) (N := some 81) (v := ?_) (a' := ?_) #[true, false, false, false, false, false, false, false, false, false, false] rfl rfl (any_of HT_.out (by kernel_rfl)) (fun _ _ _ h => h) (Or.inl ⟨by rfl, ?_⟩) ?_ ?_
                 rotate_left
                 ·intro w'
                  go_simp
                  with_reducible rfl
                 rotate_left
                 ·simp only [Act.put, zA, zB, zC, i64_w, i32_w]
                  rfl
                 refine pure_ (i := 1) (N := some 82) (v := ?_) (a' := ?_) #[true, true, false, false, false, false, false, false, false, false, false] rfl rfl (any_of HT_.out (by kernel_rfl)) (fun _ _ _ h => h) (Or.inl ⟨by rfl, ?_⟩) ?_ ?_
                 rotate_left
                 ·intro w'
                  go_simp
                  with_reducible rfl
                 rotate_left
                 ·simp only [Act.put, zA, zB, zC, i64_w, i32_w]
                  rfl
                 refine pure_ (i := 5) (N := some 86) (v := ?_) (a' := ?_) #[true, true, false, false, false, true, false, false, false, false, false] rfl rfl (any_of HT_.out (by kernel_rfl)) (fun _ _ _ h => h) (Or.inl ⟨by rfl, ?_⟩) ?_ ?_
                 rotate_left
                 ·intro w'
                  go_simp
                  with_reducible rfl
                 rotate_left
                 ·simp only [Act.put, zA, zB, zC, i64_w, i32_w]
                  rfl
                 refine pure_ (i := 6) (N := some 87) (v := ?_) (a' := ?_) #[true, true, false, false, false, true, true, false, false, false, false] rfl rfl (any_of HT_.out (by kernel_rfl)) (fun _ _ _ h => h) (Or.inl ⟨by rfl, ?_⟩) ?_ ?_
                 rotate_left
                 ·intro w'
                  go_simp
                  with_reducible rfl
                 rotate_left
                 ·simp only [Act.put, zA, zB, zC, i64_w, i32_w]
                  rfl
                 refine take_ (i := 2) (N := some 83) (v := ?_) (a' := ?_) #[true, true, true, false, false, true, true, false, false, false, false] rfl rfl (take_ofW HT_.out HW_.out (by kernel_rfl)) (fun _ _ _ h => h) (Or.inl ⟨by rfl, ?_⟩) hHeld ?_ ?_
                 rotate_left
                 ·rintro w' ⟨s0, s1, s2, s3⟩
                  go_simp
                  with_reducible rfl
                 rotate_left
                 ·simp only [Act.put, zA, zB, zC, i64_w, i32_w]
                  rfl
                 refine take_ (i := 7) (N := some 88) (v := ?_) (a' := ?_) #[true, true, true, false, false, true, true, true, false, false, false] rfl rfl (take_ofW HT_.out HW_.out (by kernel_rfl)) (fun _ _ _ h => h) (Or.inl ⟨by rfl, ?_⟩) hHeld ?_ ?_
                 rotate_left
                 ·rintro w' ⟨s0, s1, s2, s3⟩
                  go_simp
                  with_reducible rfl
                 rotate_left
                 ·simp only [Act.put, zA, zB, zC, i64_w, i32_w]
                  rfl
                 refine one_ (i := 3) (N := some 84) #[true, true, true, true, false, true, true, true, false, false, false] rfl rfl (one_of HT_.out (by kernel_rfl)) (by decide) (fun K hK => ?_)
                 refine goes_ Tryd.func23 (by kernel_rfl) rfl #[.int .i64 ((rd_T33 l0 a1).f1)] (by rfl) rfl rfl (by (try simp only [zI, zJ, zK]); first | done | rfl | (simp only [zL, zM]; rfl)) ?_
                 with_reducible refine (impl_FormatInt.calls ((rd_T33 l0 a1).f1) t257 _ A56.out).mono ?_
                 rintro e w61 ⟨rfl, hb⟩
                 refine ⟨_, rfl, ?_⟩
                 have n0_ := yA (yU (mK BK246.out) hb)
                 have n1_ := yA (zD (by with_reducible repeat first | exact HB.out | apply yO | apply yN | apply yP | refine yQ ?_ GE246.out) hb)
                 clear BK246
                 clear HB
                 have BK246 := n0_
                 have HB := n1_
                 clear n0_ n1_
                 (try clear hb)
                 (try clear hb2)
                 (try clear hk)
                 (try clear hi)
                 refine hK.out _ _ ⟨(yV BK246.out 0).trans rfl, (yV BK246.out 1).trans rfl, (yV BK246.out 2).trans rfl, (yV BK246.out 3).trans rfl⟩ (fun hHeld => ?_)
                 clear hK K
                 refine norm_ (a' := ?_) ?_ ?_
                 rotate_left
                 ·show Act.put _ (some 84) _ = _
                  simp only [Act.put, zA, zB, zC, i64_w, i32_w]
                  rfl
                 refine pure_ (i := 4) (N := some 85) (v := ?_) (a' := ?_) #[true, true, true, true, true, true, true, true, false, false, false] rfl rfl (any_of HT_.out (by kernel_rfl)) (fun _ _ _ h => h) (Or.inl ⟨by rfl, ?_⟩) ?_ ?_
                 rotate_left
                 ·intro w'
                  go_simp
                  with_reducible rfl
                 rotate_left
                 ·simp only [Act.put, zA, zB, zC, i64_w, i32_w]
                  rfl
                 refine one_ (i := 8) (N := some 89) #[true, true, true, true, true, true, true, true, true, false, false] rfl rfl (one_of HT_.out (by kernel_rfl)) (by decide) (fun K hK => ?_)
                 refine goes_ Tryd.func16 (by kernel_rfl) rfl #[.slice (some ad245) l0.length c0, .int .i64 ((rd_T33 l0 a1).f2)] (by rfl) rfl rfl (by (try simp only [zI, zJ, zK]); first | done | rfl | (simp only [zL, zM]; rfl)) ?_
                 with_reducible refine (ih kj45 (by have := HJ7.out; have := HJ45.out; omega) _ _ l0 ((rd_T33 l0 a1).f2) t258 _ ?side1 ?side2 A58.out).mono ?_
                 (case side1 => exact mC (yM HR0.out HB.out))
                 (case side2 => exact HC0.out)
                 rintro e w62 ⟨rfl, hb⟩
                 refine ⟨_, rfl, ?_⟩
                 have n0_ := yA (yU (mK BK246.out) hb)
                 have n1_ := yA (zD (by with_reducible repeat first | exact HB.out | apply yO | apply yN | apply yP | refine yQ ?_ GE246.out) hb)
                 clear BK246
                 clear HB
                 have BK246 := n0_
                 have HB := n1_
                 clear n0_ n1_
                 (try clear hb)
                 (try clear hb2)
                 (try clear hk)
                 (try clear hi)
                 refine hK.out _ _ ⟨(yV BK246.out 0).trans rfl, (yV BK246.out 1).trans rfl, (yV BK246.out 2).trans rfl, (yV BK246.out 3).trans rfl⟩ (fun hHeld => ?_)
                 clear hK K
                 refine norm_ (a' := ?_) ?_ ?_
                 rotate_left
                 ·show Act.put _ (some 89) _ = _
                  simp only [Act.put, zA, zB, zC, i64_w, i32_w]
                  rfl
                 refine pure_ (i := 9) (N := some 90) (v := ?_) (a' := ?_) #[true, true, true, true, true, true, true, true, true, true, false] rfl rfl (any_of HT_.out (by kernel_rfl)) (fun _ _ _ h => h) (Or.inl ⟨by rfl, ?_⟩) ?_ ?_
                 rotate_left
                 ·intro w'
                  go_simp
                  with_reducible rfl
                 rotate_left
                 ·simp only [Act.put, zA, zB, zC, i64_w, i32_w]
                  rfl
                 refine pure_ (i := 10) (N := some 4) (v := ?_) (a' := ?_) #[true, true, true, true, true, true, true, true, true, true, true] rfl rfl (any_of HT_.out (by kernel_rfl)) (fun _ _ _ h => h) (Or.inl ⟨by rfl, ?_⟩) ?_ ?_
                 rotate_left
                 ·intro w'
                  go_simp
                  with_reducible rfl
                 rotate_left
                 ·simp only [Act.put, zA, zB, zC, i64_w, i32_w]
                  rfl
                 refine done_ (done_of HT_.out (by kernel_rfl)) ?_
                 try go_wp2
                 go_ret
                 exact ⟨by first | rfl | (simp [errW_none, errW_some] <;> rfl) | (simp [*, errW_none, errW_some] <;> rfl), by repeat (first | (with_reducible first | exact HB.out | apply yO | apply yN | apply yP | refine yQ ?_ GE246.out) | exact HB.out)⟩
                ·rw [if_neg c59] at H
                 exact absurd H (by simp)
               ·rw [if_neg c57] at H
                exact absurd H (by simp)
     ·rw [if_neg c7] at H
      exact absurd H (by simp)
    ·rw [if_neg c6] at H
     exact absurd H (by simp)
   ·rw [if_neg c5] at H
    exact absurd H (by simp)
  ·rw [if_neg c4] at H
   exact absurd H (by simp)
 ·rw [if_neg c3] at H
  exact absurd H (by simp)

end Go.Proofs.YtdckaflfgbbabaaDoor.Q
