-- written by a program of this session (a turned copy of the kit's print) out of the translation
-- squeezed
-- compact
import Derived.Test.YtdckaflfgbbabaaQ0
namespace Go.Proofs.Ytdckaflfgbbabaa.Q
open Go.RowKit Go.Proofs.YtdckaflfgbbabaaW.PrintWords Go.Proofs.YtdckaflfgbbabaaW.PrintLast Go.Proofs.YtdckaflfgbbabaaW.PrintMore
attribute [local go_sem] max2_int min2_int max_two min_two max_three min_three max_four min_four   -- for this text's walks alone
set_option linter.unusedVariables false
set_option linter.unusedSimpArgs false

/-! ### impl_Sequence_after: function 77 -/
def impl_Sequence_after.l0 : Nat → Int → List Int → Int → Int → Int → List (List Int) → List Int → Option (Int)
 | 0, _, _, _, _, _, _, _ => none
 | k + 1, x5, x8, x9, x10, x689000, x689001, x689002 => if x10 < x9 then (if 0 ≤ x10 then (if x10 < (x8.length : Int) then (if 0 ≤ x5 then (if x5 < (x689001.length : Int) then (if 0 ≤ (rd x8 x10) then (if (rd x8 x10) < ((rd_L5 x689001 x5).length : Int) then (impl_Sequence_after.l0 k (rd (rd_L5 x689001 x5) (rd x8 x10)) x8 x9 (wrap64 (x10 + 1)) x689000 x689001 x689002) else (none)) else (none)) else (none)) else (none)) else (none)) else (none)) else (some x5)
def impl_Sequence_after.f (k : Nat) (a0_0 : Int) (l0_1 : List (List Int)) (l0_2 : List Int) (l1 : List Int) : Option (Int) := impl_Sequence_after.l0 k 0 l1 (l1.length : Int) 0 a0_0 l0_1 l0_2
theorem impl_Sequence_after.mono_l : ∀ k, (∀ y0 y1 y2 y3 y4 y5 y6, LeO (impl_Sequence_after.l0 k y0 y1 y2 y3 y4 y5 y6) (impl_Sequence_after.l0 (k + 1) y0 y1 y2 y3 y4 y5 y6))
 | 0 => fun _ _ _ _ _ _ _ r h => by simp [impl_Sequence_after.l0] at h
 | k + 1 => by
  have ih0 := impl_Sequence_after.mono_l k
  ·intro y0 y1 y2 y3 y4 y5 y6; unfold impl_Sequence_after.l0
   repeat' first
   | (with_reducible exact ih0 _ _ _ _ _ _ _)
   | (with_reducible exact LeO.refl _)
   | (with_reducible exact LeO.none _)
   | (with_reducible refine LeO.ite ?_ ?_)
   | (with_reducible refine LeO.bind ?_ (fun _ => ?_))
   | exact ih0 _ _ _ _ _ _ _
   | exact LeO.none _
   | refine LeO.ite ?_ ?_
   | refine LeO.bind ?_ (fun _ => ?_)
theorem impl_Sequence_after.mono : ∀ a0 a1 a2 a3 k, LeO (impl_Sequence_after.f k a0 a1 a2 a3) (impl_Sequence_after.f (k + 1) a0 a1 a2 a3) := by
 intro a0 a1 a2 a3 k; have ih0 := impl_Sequence_after.mono_l k; unfold impl_Sequence_after.f
 repeat' first
   | (with_reducible exact ih0 _ _ _ _ _ _ _)
   | (with_reducible exact LeO.refl _)
   | (with_reducible exact LeO.none _)
   | (with_reducible refine LeO.ite ?_ ?_)
   | (with_reducible refine LeO.bind ?_ (fun _ => ?_))
   | exact ih0 _ _ _ _ _ _ _
   | exact LeO.none _
   | refine LeO.ite ?_ ?_
   | refine LeO.bind ?_ (fun _ => ?_)
set_option maxHeartbeats 8000000 in
set_option maxRecDepth 100000 in
theorem impl_Sequence_after.calls (k : Nat) (a0_0 : Int) (A0_1 : Option Addr) (c0_1 : Nat) (l0_1 : List (List Int)) (A0_2 : Option Addr) (c0_2 : Nat) (l0_2 : List Int) (A1 : Option Addr) (c1 : Nat) (l1 : List Int) (r : Int) (w : World) (hr0_1 : Kd.C (Kd.slice 3 (Kd.int .i64)) w A0_1 l0_1.length l0_1) (hc0_1 : l0_1.length ≤ c0_1) (hr0_2 : Kd.C (Kd.int .i64) w A0_2 l0_2.length l0_2) (hc0_2 : l0_2.length ≤ c0_2) (hr1 : Kd.C (Kd.int .i64) w A1 l1.length l1) (hc1 : l1.length ≤ c1) (h : impl_Sequence_after.f k a0_0 l0_1 l0_2 l1 = some r) :
  Calls Try.prog 77 #[.agg #[.int .i64 a0_0, .slice A0_1 l0_1.length c0_1, .slice A0_2 l0_2.length c0_2], .slice A1 l1.length c1] w fun e w' => e = .returned (.int .i64 r) ∧ Below w.heap.size w w' := by
 have hu42 := Try.underlying42; have HR0_1 := yA hr0_1; have HC0_1 := yA hc0_1; clear hr0_1 hc0_1; have HR0_2 := yA hr0_2; have HC0_2 := yA hc0_2; clear hr0_2 hc0_2; have HR1 := yA hr1; have HC1 := yA hc1; clear hr1 hc1; have HB := yA (zV w.heap.size w); have H : (impl_Sequence_after.l0 k 0 l1 (l1.length : Int) 0 a0_0 l0_1 l0_2) = some r := h; clear h; have H' := yA H; clear H; go_enter Try.func77, Try.ntmps77; go_wp2_with (first | ((with_reducible refine gate_dst (N := 2) rfl ?_); refine box_event ?hg (N := 2) ?hd (cs := #[.int .i64 a0_0, .slice A0_1 l0_1.length c0_1, .slice A0_2 l0_2.length c0_2]) (t := 42) ?hr ?_; (case hd => rfl); (case hg => rfl); (case hr => first | (go_simp; done) | (go_simp; rfl)); intro gb688 hg w3 hbox hb; have n0_ := yA (zD (mB HB.out) hb); have n1_ := yA (hbox); have n2_ := yA ((by rw [hg]; exact (yX (mB HB.out)) : w.heap.size ≤ gb688)); have n3_ := yA ((by rw [hg]; exact (yX (mB HB.out)) : w.heap.size ≤ gb688)); clear HB; have HB := n0_; have BK688 := n1_; have GW688 := n2_; have GE688 := n3_; clear n0_ n1_ n2_ n3_; clear hb hbox hg))
 go_loopg [5, 10] k (fun kq v5 v10 w' => ∃ (x5_1 : Int) (x10_1 : Int), v5 = .int .i64 x5_1 ∧ v10 = .int .i64 x10_1 ∧ Aside0 (impl_Sequence_after.l0 kq x5_1 l1 (l1.length : Int) x10_1 a0_0 l0_1 l0_2 = some r) ∧ Aside0 (kq ≤ k) ∧ Aside0 (w'.heap[gb688]? = some (.cells #[.int .i64 a0_0, (.slice A0_1 l0_1.length c0_1), (.slice A0_2 l0_2.length c0_2)] 42 (0, 0))) ∧ Aside0 (Below w.heap.size w w'))
 case atStart => exact ⟨(0), (0), (by first | rfl | (simp; done) | (simp [*]; done)), (by first | rfl | (simp; done) | (simp [*]; done)), H', ⟨zT _⟩, ⟨by (with_reducible repeat (first | refine yS ?_ _ | refine yT ?_ | refine yR ?_ _)); exact BK688.out⟩, ⟨by repeat (first | (with_reducible first | exact HB.out | apply yO | apply yN | apply yP | refine yQ ?_ GE688.out) | exact HB.out)⟩⟩
 case round =>
  clear H'; try clear c1
  try clear p2
  obtain ⟨x5_1, x10_1, rfl, rfl, HA, HK1, BK688, HB⟩ := hrel; cases gk with
  | zero => exact absurd HA.out (by simp [impl_Sequence_after.l0])
  | succ k1 =>
   have H := HA.out; clear HA; simp only [impl_Sequence_after.l0] at H; by_cases c4 : x10_1 < (l1.length : Int)
   ·rw [if_pos c4] at H; have c4b0 : decide (x10_1 < (l1.length : Int)) = true := zH c4; clear c4; by_cases c5 : 0 ≤ x10_1
    ·rw [if_pos c5] at H; have c5b0 : decide (0 ≤ x10_1) = true := zH c5; clear c5; by_cases c6 : x10_1 < (l1.length : Int)
     ·rw [if_pos c6] at H; have c6b0 : decide (x10_1 < (l1.length : Int)) = true := zH c6; clear c6; by_cases c7 : 0 ≤ x5_1
      ·rw [if_pos c7] at H; have c7b0 : decide (0 ≤ x5_1) = true := zH c7; clear c7; by_cases c8 : x5_1 < (l0_1.length : Int)
       ·rw [if_pos c8] at H; have c8b0 : decide (x5_1 < (l0_1.length : Int)) = true := zH c8; clear c8; by_cases c9 : 0 ≤ (rd l1 x10_1)
        ·rw [if_pos c9] at H; have c9b0 : decide (0 ≤ (rd l1 x10_1)) = true := zH c9; clear c9; by_cases c10 : (rd l1 x10_1) < ((rd_L5 l0_1 x5_1).length : Int)
         ·rw [if_pos c10] at H; have c10b0 : decide ((rd l1 x10_1) < ((rd_L5 l0_1 x5_1).length : Int)) = true := zH c10; clear c10; have H' := yA H; clear H; have p689 : 0 ≤ (x10_1 : Int) := zG (by first | (with_reducible assumption) | assumption); have q689 : x10_1 < (l1.length : Int) := zG (by first | (with_reducible assumption) | assumption); obtain ⟨ad689, e689, hx689_0⟩ := Kd.at_int HR1.out x10_1 p689 q689; cases e689; try replace hx689_0 := (HB.out.cell (zE w _ hx689_0)).trans hx689_0
          replace p689 := eq_true p689; replace q689 := eq_true q689; have hcz11_0 : wr.cell? ⟨gb688, 0, none⟩ = some (.int .i64 a0_0) := (yV BK688.out 0).trans rfl; have hcz11_1 : wr.cell? ⟨gb688, 1, none⟩ = some (.slice A0_1 l0_1.length c0_1) := (yV BK688.out 1).trans rfl; have hcz11_2 : wr.cell? ⟨gb688, 2, none⟩ = some (.slice A0_2 l0_2.length c0_2) := (yV BK688.out 2).trans rfl; have hfz11_0 := yW BK688.out 0; have hfz11_1 := yW BK688.out 1; have hfz11_2 := yW BK688.out 2; have p690 : 0 ≤ (x5_1 : Int) := zG (by first | (with_reducible assumption) | assumption); have q690 : x5_1 < (l0_1.length : Int) := zG (by first | (with_reducible assumption) | assumption); obtain ⟨ad690, A690_0, c690_0, e690, hx690_0, hl690_0, hi690_0⟩ := at_L5 HR0_1.out x5_1 p690 q690; cases e690; try replace hx690_0 := (HB.out.cell (zE w _ hx690_0)).trans hx690_0
          have HR690_0 := yA hi690_0; have HC690_0 := yA hl690_0; clear hi690_0 hl690_0; replace p690 := eq_true p690; replace q690 := eq_true q690; have p691 : 0 ≤ ((rd l1 x10_1) : Int) := zG (by first | (with_reducible assumption) | assumption); have q691 : (rd l1 x10_1) < ((rd_L5 l0_1 x5_1).length : Int) := zG (by first | (with_reducible assumption) | assumption); obtain ⟨ad691, e691, hx691_0⟩ := Kd.at_int HR690_0.out (rd l1 x10_1) p691 q691; cases e691; try replace hx691_0 := (HB.out.cell (zE w _ hx691_0)).trans hx691_0
          replace p691 := eq_true p691; replace q691 := eq_true q691; go_wp2; go_roundg k1
          case measure => have := HK1.out; omega
          case rel => exact ⟨(rd (rd_L5 l0_1 x5_1) (rd l1 x10_1)), (wrap64 (x10_1 + 1)), (by first | rfl | (simp; done) | (simp [*]; done)), (by first | rfl | (simp; done) | (simp [*]; done)), H', ⟨by have := HK1.out; omega⟩, ⟨by (with_reducible repeat (first | refine yS ?_ _ | refine yT ?_ | refine yR ?_ _)); exact BK688.out⟩, ⟨by repeat (first | (with_reducible first | exact HB.out | apply yO | apply yN | apply yP | refine yQ ?_ GE688.out) | exact HB.out)⟩⟩
         rw [if_neg c10] at H; exact absurd H (by simp)
        rw [if_neg c9] at H; exact absurd H (by simp)
       rw [if_neg c8] at H; exact absurd H (by simp)
      rw [if_neg c7] at H; exact absurd H (by simp)
     rw [if_neg c6] at H; exact absurd H (by simp)
    rw [if_neg c5] at H; exact absurd H (by simp)
   rw [if_neg c4] at H; have c4b0 : decide (x10_1 < (l1.length : Int)) = false := decide_eq_false c4; clear c4; obtain rfl := zU H; go_wp2; go_ret; exact ⟨by first | rfl | (simp [errW_none, errW_some] <;> rfl) | (simp [*, errW_none, errW_some] <;> rfl), by repeat (first | (with_reducible first | exact HB.out | apply yO | apply yN | apply yP | refine yQ ?_ GE688.out) | exact HB.out)⟩

end Go.Proofs.Ytdckaflfgbbabaa.Q
