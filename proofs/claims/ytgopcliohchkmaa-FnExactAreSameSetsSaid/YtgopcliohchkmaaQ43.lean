-- written by a program of this session (a turned copy of the kit's print) out of the translation
-- squeezed
-- compact
import Derived.Test.YtgopcliohchkmaaQ0
import Derived.Test.YtgopcliohchkmaaQ42
namespace Go.Proofs.Ytgopcliohchkmaa.Q
open Go.RowKit Go.Proofs.YtgopcliohchkmaaW.PrintWords Go.Proofs.YtgopcliohchkmaaW.PrintLast Go.Proofs.YtgopcliohchkmaaW.PrintMore
attribute [local go_sem] max2_int min2_int max_two min_two max_three min_three max_four min_four   -- for this text's walks alone
set_option linter.unusedVariables false
set_option linter.unusedSimpArgs false

/-! ### impl_Relation_isAll: function 66 -/
def impl_Relation_isAll.l0 : Nat → Bool → List Int → Int → Int → Int → Int → List (List Int) → List Bool → Option (Bool)
 | 0, _, _, _, _, _, _, _, _ => none
 | k + 1, x1, x9, x10, x11, x398000, x398001, x398002, x398003 => if x11 < x10 then (if 0 ≤ x11 then (if x11 < (x9.length : Int) then (if 0 ≤ (rd x9 x11) then (if (rd x9 x11) < (x398003.length : Int) then (if ((rdOf false x398003 (rd x9 x11)) != x1) = true then (some false) else (impl_Relation_isAll.l0 k x1 x9 x10 (wrap64 (x11 + 1)) x398000 x398001 x398002 x398003)) else (none)) else (none)) else (none)) else (none)) else (some true)
def impl_Relation_isAll.f (k : Nat) (a0_0 : Int) (a0_1 : Int) (l0_2 : List (List Int)) (l0_3 : List Bool) (a1 : Bool) : Option (Bool) := (impl_reached.f k l0_2).bind fun t398 => (impl_Relation_isAll.l0 k a1 t398 (t398.length : Int) 0 a0_0 a0_1 l0_2 l0_3)
theorem impl_Relation_isAll.mono_l : ∀ k, (∀ y0 y1 y2 y3 y4 y5 y6 y7, LeO (impl_Relation_isAll.l0 k y0 y1 y2 y3 y4 y5 y6 y7) (impl_Relation_isAll.l0 (k + 1) y0 y1 y2 y3 y4 y5 y6 y7))
 | 0 => fun _ _ _ _ _ _ _ _ r h => by simp [impl_Relation_isAll.l0] at h
 | k + 1 => by
  have ih0 := impl_Relation_isAll.mono_l k
  ·intro y0 y1 y2 y3 y4 y5 y6 y7
   unfold impl_Relation_isAll.l0
   repeat' first
   | (with_reducible exact ih0 _ _ _ _ _ _ _ _)
   | (with_reducible exact impl_reached.mono _ _)
   | (with_reducible exact LeO.refl _)
   | (with_reducible exact LeO.none _)
   | (with_reducible refine LeO.ite ?_ ?_)
   | (with_reducible refine LeO.bind ?_ (fun _ => ?_))
   | exact ih0 _ _ _ _ _ _ _ _
   | exact impl_reached.mono _ _
   | exact LeO.none _
   | refine LeO.ite ?_ ?_
   | refine LeO.bind ?_ (fun _ => ?_)
theorem impl_Relation_isAll.mono : ∀ a0 a1 a2 a3 a4 k, LeO (impl_Relation_isAll.f k a0 a1 a2 a3 a4) (impl_Relation_isAll.f (k + 1) a0 a1 a2 a3 a4) := by
 intro a0 a1 a2 a3 a4 k
 have ih0 := impl_Relation_isAll.mono_l k
 unfold impl_Relation_isAll.f
 repeat' first
   | (with_reducible exact ih0 _ _ _ _ _ _ _ _)
   | (with_reducible exact impl_reached.mono _ _)
   | (with_reducible exact LeO.refl _)
   | (with_reducible exact LeO.none _)
   | (with_reducible refine LeO.ite ?_ ?_)
   | (with_reducible refine LeO.bind ?_ (fun _ => ?_))
   | exact ih0 _ _ _ _ _ _ _ _
   | exact impl_reached.mono _ _
   | exact LeO.none _
   | refine LeO.ite ?_ ?_
   | refine LeO.bind ?_ (fun _ => ?_)
set_option maxHeartbeats 8000000 in
set_option maxRecDepth 100000 in
theorem impl_Relation_isAll.calls (k : Nat) (a0_0 : Int) (a0_1 : Int) (A0_2 : Option Addr) (c0_2 : Nat) (l0_2 : List (List Int)) (A0_3 : Option Addr) (c0_3 : Nat) (l0_3 : List Bool) (a1 : Bool) (r : Bool) (w : World) (hr0_2 : Kd.C (Kd.slice 3 (Kd.int .i64)) w A0_2 l0_2.length l0_2) (hc0_2 : l0_2.length ≤ c0_2) (hr0_3 : Kd.C Kd.bool w A0_3 l0_3.length l0_3) (hc0_3 : l0_3.length ≤ c0_3) (h : impl_Relation_isAll.f k a0_0 a0_1 l0_2 l0_3 a1 = some r) :
  Calls Try.prog 66 #[.agg #[.int .i64 a0_0, .int .i64 a0_1, .slice A0_2 l0_2.length c0_2, .slice A0_3 l0_3.length c0_3], .bool a1] w fun e w' => e = .returned (.bool r) ∧ Below w.heap.size w w' := by
 have hu25 := Try.underlying25
 have HR0_2 := yA hr0_2
 have HC0_2 := yA hc0_2
 clear hr0_2 hc0_2
 have HR0_3 := yA hr0_3
 have HC0_3 := yA hc0_3
 clear hr0_3 hc0_3
 have HB := yA (zV w.heap.size w)
 have H : ((impl_reached.f k l0_2).bind fun t398 => (impl_Relation_isAll.l0 k a1 t398 (t398.length : Int) 0 a0_0 a0_1 l0_2 l0_3)) = some r := h
 clear h
 replace H := Option.bind_eq_some_iff.mp H
 obtain ⟨t398, A30, H⟩ := H
 replace H : (impl_Relation_isAll.l0 k a1 t398 (t398.length : Int) 0 a0_0 a0_1 l0_2 l0_3) = some r := H
 have A3 := yA A30
 clear A30
 have H' := yA H
 clear H
 go_enter Try.func66, Try.ntmps66
 go_wp2_with (first | ((with_reducible refine gate_dst (N := 2) rfl ?_); refine box_event ?hg (N := 2) ?hd (cs := #[.int .i64 a0_0, .int .i64 a0_1, .slice A0_2 l0_2.length c0_2, .slice A0_3 l0_3.length c0_3]) (t := 25) ?hr ?_; (case hd => rfl); (case hg => rfl); (case hr => first | (go_simp; done) | (go_simp; rfl)); intro gb397 hg w4 hbox hb; have n0_ := yA (zD (mB HB.out) hb); have n1_ := yA (hbox); have n2_ := yA ((by rw [hg]; exact (yX (mB HB.out)) : w.heap.size ≤ gb397)); have n3_ := yA ((by rw [hg]; exact (yX (mB HB.out)) : w.heap.size ≤ gb397)); clear HB; have HB := n0_; have BK397 := n1_; have GW397 := n2_; have GE397 := n3_; clear n0_ n1_ n2_ n3_; clear hb hbox hg; have hcz5_0 : w4.cell? ⟨gb397, 0, none⟩ = some (.int .i64 a0_0) := (yV BK397.out 0).trans rfl; have hcz5_1 : w4.cell? ⟨gb397, 1, none⟩ = some (.int .i64 a0_1) := (yV BK397.out 1).trans rfl; have hcz5_2 : w4.cell? ⟨gb397, 2, none⟩ = some (.slice A0_2 l0_2.length c0_2) := (yV BK397.out 2).trans rfl; have hcz5_3 : w4.cell? ⟨gb397, 3, none⟩ = some (.slice A0_3 l0_3.length c0_3) := (yV BK397.out 3).trans rfl; have hfz5_0 := yW BK397.out 0; have hfz5_1 := yW BK397.out 1; have hfz5_2 := yW BK397.out 2; have hfz5_3 := yW BK397.out 3) | ((with_reducible refine zS (f := 94) rfl ?_); refine goesL_ (some 9) rfl rfl Try.func94 (by kernel_rfl) rfl #[.slice A0_2 l0_2.length c0_2] rfl (by (try simp only [zI, zJ, zK]); first | done | rfl | (simp only [zL, zM]; rfl)) ?_; (with_reducible refine (impl_reached.calls k _ _ l0_2 t398 _ ?side1 ?side2 A3.out).mono ?_); (case side1 => exact mC (yM HR0_2.out HB.out)); (case side2 => exact HC0_2.out); rintro e w6 ⟨v399, rfl, ho0, hb⟩; refine ⟨_, rfl, ?_⟩; have n0_ := yA (Kd.R_lower ho0 (yX (by with_reducible repeat first | exact HB.out | apply yO | apply yN | apply yP | refine yQ ?_ GE397.out))); have n1_ := yA (yU (mK BK397.out) hb); have n2_ := yA (zD (by with_reducible repeat first | exact HB.out | apply yO | apply yN | apply yP | refine yQ ?_ GE397.out) hb); clear BK397; clear HB; have HO400 := n0_; have BK397 := n1_; have HB := n2_; clear n0_ n1_ n2_; (try clear hb); (try clear hb2); (try clear hk); (try clear hi); (try clear ho0); obtain ⟨Ao7, co7, eo7⟩ := Kd.R_slice HO400.out; subst eo7))
 go_loopg [11] k (fun kq v11 w' => ∃ (x11_1 : Int), v11 = .int .i64 x11_1 ∧ Aside0 (impl_Relation_isAll.l0 kq a1 t398 (t398.length : Int) x11_1 a0_0 a0_1 l0_2 l0_3 = some r) ∧ Aside0 (kq ≤ k) ∧ Aside0 (Kd.R (Kd.int .i64) 3 w' w.heap.size (fun _ => True) (.slice Ao7 t398.length co7) t398) ∧ Aside0 (w'.heap[gb397]? = some (.cells #[.int .i64 a0_0, .int .i64 a0_1, (.slice A0_2 l0_2.length c0_2), (.slice A0_3 l0_3.length c0_3)] 25 (0, 0))) ∧ Aside0 (Below w.heap.size w w'))
 case atStart => exact ⟨(0), (by first | rfl | (simp; done) | (simp [*]; done)), H', ⟨zT _⟩, ⟨by (with_reducible repeat (first | apply yB | apply yC | apply yD)); exact HO400.out⟩, ⟨by (with_reducible repeat (first | refine yS ?_ _ | refine yT ?_ | refine yR ?_ _)); exact BK397.out⟩, ⟨by repeat (first | (with_reducible first | exact HB.out | apply yO | apply yN | apply yP | refine yQ ?_ GE397.out) | exact HB.out)⟩⟩
 case round =>
  clear H'
  try clear p2
  try clear c6
  try clear hcz5_0
  try clear hcz5_1
  try clear hcz5_2
  try clear hcz5_3
  try clear hfz5_0
  try clear hfz5_1
  try clear hfz5_2
  try clear hfz5_3
  obtain ⟨x11_1, rfl, HA, HK1, HO_9, BK397, HB⟩ := hrel
  cases gk with
  | zero => exact absurd HA.out (by simp [impl_Relation_isAll.l0])
  | succ k1 =>
   have H := HA.out
   clear HA
   simp only [impl_Relation_isAll.l0] at H
   by_cases c8 : x11_1 < (t398.length : Int)
   ·rw [if_pos c8] at H
    have c8b0 : decide (x11_1 < (t398.length : Int)) = true := zH c8
    clear c8
    by_cases c9 : 0 ≤ x11_1
    ·rw [if_pos c9] at H
     have c9b0 : decide (0 ≤ x11_1) = true := zH c9
     clear c9
     by_cases c10 : x11_1 < (t398.length : Int)
     ·rw [if_pos c10] at H
      have c10b0 : decide (x11_1 < (t398.length : Int)) = true := zH c10
      clear c10
      by_cases c11 : 0 ≤ (rd t398 x11_1)
      ·rw [if_pos c11] at H
       have c11b0 : decide (0 ≤ (rd t398 x11_1)) = true := zH c11
       clear c11
       by_cases c12 : (rd t398 x11_1) < (l0_3.length : Int)
       ·rw [if_pos c12] at H
        have c12b0 : decide ((rd t398 x11_1) < (l0_3.length : Int)) = true := zH c12
        clear c12
        by_cases c13 : ((rdOf false l0_3 (rd t398 x11_1)) != a1) = true
        ·rw [if_pos c13] at H
         have c13b0 : ((rdOf false l0_3 (rd t398 x11_1)) != a1) = true := c13
         (try (have c13b1 : decide ((rdOf false l0_3 (rd t398 x11_1)) = a1) = false := by simpa using c13))
         (try (have c13b2 : ((rdOf false l0_3 (rd t398 x11_1)) == a1) = false := by simpa using c13))
         (try (have c13b3 : ¬ ((rdOf false l0_3 (rd t398 x11_1)) = a1) := by simpa using c13))
         clear c13
         obtain rfl := zU H
         have p401 : 0 ≤ (x11_1 : Int) := zG (by first | (with_reducible assumption) | assumption)
         have q401 : x11_1 < (t398.length : Int) := zG (by first | (with_reducible assumption) | assumption)
         obtain ⟨ad401, e401, hx401_0⟩ := Kd.at_int (zN HO_9.out).2.2 x11_1 p401 q401
         cases e401
         replace p401 := eq_true p401
         replace q401 := eq_true q401
         have hcz14_0 : wr.cell? ⟨gb397, 0, none⟩ = some (.int .i64 a0_0) := (yV BK397.out 0).trans rfl
         have hcz14_1 : wr.cell? ⟨gb397, 1, none⟩ = some (.int .i64 a0_1) := (yV BK397.out 1).trans rfl
         have hcz14_2 : wr.cell? ⟨gb397, 2, none⟩ = some (.slice A0_2 l0_2.length c0_2) := (yV BK397.out 2).trans rfl
         have hcz14_3 : wr.cell? ⟨gb397, 3, none⟩ = some (.slice A0_3 l0_3.length c0_3) := (yV BK397.out 3).trans rfl
         have hfz14_0 := yW BK397.out 0
         have hfz14_1 := yW BK397.out 1
         have hfz14_2 := yW BK397.out 2
         have hfz14_3 := yW BK397.out 3
         have p402 : 0 ≤ ((rd t398 x11_1) : Int) := zG (by first | (with_reducible assumption) | assumption)
         have q402 : (rd t398 x11_1) < (l0_3.length : Int) := zG (by first | (with_reducible assumption) | assumption)
         obtain ⟨ad402, e402, hx402_0⟩ := Kd.at_bool HR0_3.out (rd t398 x11_1) p402 q402
         cases e402
         try replace hx402_0 := (HB.out.cell (zE w _ hx402_0)).trans hx402_0
         replace p402 := eq_true p402
         replace q402 := eq_true q402
         go_wp2
         go_ret
         exact ⟨by first | rfl | (simp [errW_none, errW_some] <;> rfl) | (simp [*, errW_none, errW_some] <;> rfl), by repeat (first | (with_reducible first | exact HB.out | apply yO | apply yN | apply yP | refine yQ ?_ GE397.out) | exact HB.out)⟩
        ·rw [if_neg c13] at H
         have c13b0 : ((rdOf false l0_3 (rd t398 x11_1)) != a1) = false := by simpa using c13
         (try (have c13b1 : decide ((rdOf false l0_3 (rd t398 x11_1)) = a1) = true := by simpa using c13))
         (try (have c13b2 : ((rdOf false l0_3 (rd t398 x11_1)) == a1) = true := by simpa using c13))
         clear c13
         have H' := yA H
         clear H
         have p401 : 0 ≤ (x11_1 : Int) := zG (by first | (with_reducible assumption) | assumption)
         have q401 : x11_1 < (t398.length : Int) := zG (by first | (with_reducible assumption) | assumption)
         obtain ⟨ad401, e401, hx401_0⟩ := Kd.at_int (zN HO_9.out).2.2 x11_1 p401 q401
         cases e401
         replace p401 := eq_true p401
         replace q401 := eq_true q401
         have hcz15_0 : wr.cell? ⟨gb397, 0, none⟩ = some (.int .i64 a0_0) := (yV BK397.out 0).trans rfl
         have hcz15_1 : wr.cell? ⟨gb397, 1, none⟩ = some (.int .i64 a0_1) := (yV BK397.out 1).trans rfl
         have hcz15_2 : wr.cell? ⟨gb397, 2, none⟩ = some (.slice A0_2 l0_2.length c0_2) := (yV BK397.out 2).trans rfl
         have hcz15_3 : wr.cell? ⟨gb397, 3, none⟩ = some (.slice A0_3 l0_3.length c0_3) := (yV BK397.out 3).trans rfl
         have hfz15_0 := yW BK397.out 0
         have hfz15_1 := yW BK397.out 1
         have hfz15_2 := yW BK397.out 2
         have hfz15_3 := yW BK397.out 3
         have p402 : 0 ≤ ((rd t398 x11_1) : Int) := zG (by first | (with_reducible assumption) | assumption)
         have q402 : (rd t398 x11_1) < (l0_3.length : Int) := zG (by first | (with_reducible assumption) | assumption)
         obtain ⟨ad402, e402, hx402_0⟩ := Kd.at_bool HR0_3.out (rd t398 x11_1) p402 q402
         cases e402
         try replace hx402_0 := (HB.out.cell (zE w _ hx402_0)).trans hx402_0
         replace p402 := eq_true p402
         replace q402 := eq_true q402
         go_wp2
         go_roundg k1
         case measure => have := HK1.out; omega
         case rel => exact ⟨(wrap64 (x11_1 + 1)), (by first | rfl | (simp; done) | (simp [*]; done)), H', ⟨by have := HK1.out; omega⟩, ⟨by (with_reducible repeat (first | apply yB | apply yC | apply yD)); exact HO_9.out⟩, ⟨by (with_reducible repeat (first | refine yS ?_ _ | refine yT ?_ | refine yR ?_ _)); exact BK397.out⟩, ⟨by repeat (first | (with_reducible first | exact HB.out | apply yO | apply yN | apply yP | refine yQ ?_ GE397.out) | exact HB.out)⟩⟩
       ·rw [if_neg c12] at H
        exact absurd H (by simp)
      ·rw [if_neg c11] at H
       exact absurd H (by simp)
     ·rw [if_neg c10] at H
      exact absurd H (by simp)
    ·rw [if_neg c9] at H
     exact absurd H (by simp)
   ·rw [if_neg c8] at H
    have c8b0 : decide (x11_1 < (t398.length : Int)) = false := decide_eq_false c8
    clear c8
    obtain rfl := zU H
    go_wp2
    go_ret
    exact ⟨by first | rfl | (simp [errW_none, errW_some] <;> rfl) | (simp [*, errW_none, errW_some] <;> rfl), by repeat (first | (with_reducible first | exact HB.out | apply yO | apply yN | apply yP | refine yQ ?_ GE397.out) | exact HB.out)⟩

end Go.Proofs.Ytgopcliohchkmaa.Q
