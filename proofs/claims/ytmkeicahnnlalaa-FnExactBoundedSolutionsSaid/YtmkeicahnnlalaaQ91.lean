-- written by a program of this session
-- squeezed
-- compact
-- shrunk
import Derived.Test.YtmkeicahnnlalaaQ0
namespace Go.Proofs.Ytmkeicahnnlalaa.Q
open Go.RowKit Go.Proofs.YtmkeicahnnlalaaW.PrintWords Go.Proofs.YtmkeicahnnlalaaW.PrintLast Go.Proofs.YtmkeicahnnlalaaW.PrintMore
set_option linter.unusedVariables false
set_option linter.unusedSimpArgs false

/-! ### impl_Sequence_after: function 132 -/
def impl_Sequence_after.l0 : Nat → Int → List Int → Int → Int → Int → List (List Int) → List Int → Option (Int)
 | 0, _, _, _, _, _, _, _ => none
 | k + 1, x5, x8, x9, x10, x1057000, x1057001, x1057002 => if x10 < x9 then (if 0 ≤ x10 then (if x10 < (x8.length : Int) then (if 0 ≤ x5 then (if x5 < (x1057001.length : Int) then (if 0 ≤ (rd x8 x10) then (if (rd x8 x10) < ((rd_L1 x1057001 x5).length : Int) then (impl_Sequence_after.l0 k (rd (rd_L1 x1057001 x5) (rd x8 x10)) x8 x9 (wrap64 (x10 + 1)) x1057000 x1057001 x1057002) else (none)) else (none)) else (none)) else (none)) else (none)) else (none)) else (some x5)
def impl_Sequence_after.f (k : Nat) (a0_0 : Int) (l0_1 : List (List Int)) (l0_2 : List Int) (l1 : List Int) : Option (Int) := impl_Sequence_after.l0 k 0 l1 (l1.length : Int) 0 a0_0 l0_1 l0_2
theorem impl_Sequence_after.mono_l : ∀ k, (∀ y0 y1 y2 y3 y4 y5 y6, LeO (impl_Sequence_after.l0 k y0 y1 y2 y3 y4 y5 y6) (impl_Sequence_after.l0 (k + 1) y0 y1 y2 y3 y4 y5 y6))
 | 0 => fun _ _ _ _ _ _ _ r h => by simp [impl_Sequence_after.l0] at h
 | k + 1 => by
  have ih0 := impl_Sequence_after.mono_l k
  intros
  unfold impl_Sequence_after.l0
  repeat' (with_reducible first | exact ih0 _ _ _ _ _ _ _ | exact LeO.refl _ | exact LeO.none _ | refine LeO.ite ?_ ?_ | refine LeO.bind ?_ fun _ => ?_)
theorem impl_Sequence_after.mono : ∀ a0 a1 a2 a3 k, LeO (impl_Sequence_after.f k a0 a1 a2 a3) (impl_Sequence_after.f (k + 1) a0 a1 a2 a3) := by
 intro a0 a1 a2 a3 k
 have ih0 := impl_Sequence_after.mono_l k
 unfold impl_Sequence_after.f
 repeat' (with_reducible first | exact ih0 _ _ _ _ _ _ _ | exact LeO.refl _ | exact LeO.none _ | refine LeO.ite ?_ ?_ | refine LeO.bind ?_ fun _ => ?_)
set_option maxHeartbeats 8000000 in
set_option maxRecDepth 100000 in
theorem impl_Sequence_after.calls (k : Nat) (a0_0 : Int) (A0_1 : Option Addr) (c0_1 : Nat) (l0_1 : List (List Int)) (A0_2 : Option Addr) (c0_2 : Nat) (l0_2 : List Int) (A1 : Option Addr) (c1 : Nat) (l1 : List Int) (r : Int) (w : World) (hr0_1 : Kd.C (Kd.slice 3 (Kd.int .i64)) w A0_1 l0_1.length l0_1) (hc0_1 : l0_1.length ≤ c0_1) (hr0_2 : Kd.C (Kd.int .i64) w A0_2 l0_2.length l0_2) (hc0_2 : l0_2.length ≤ c0_2) (hr1 : Kd.C (Kd.int .i64) w A1 l1.length l1) (hc1 : l1.length ≤ c1) (h : impl_Sequence_after.f k a0_0 l0_1 l0_2 l1 = some r) :
  Calls Try.prog 132 #[.agg #[.int .i64 a0_0, .slice A0_1 l0_1.length c0_1, .slice A0_2 l0_2.length c0_2], .slice A1 l1.length c1] w fun e w' => e = .returned (.int .i64 r) ∧ Below w.heap.size w w' := by
 have hu32 := Try.underlying32
 have HR0_1 := yA hr0_1
 have HC0_1 := yA hc0_1
 clear hr0_1 hc0_1
 have HR0_2 := yA hr0_2
 have HC0_2 := yA hc0_2
 clear hr0_2 hc0_2
 have HR1 := yA hr1
 have HC1 := yA hc1
 clear hr1 hc1
 have HB := yA (zV w.heap.size w)
 have H : (impl_Sequence_after.l0 k 0 l1 (l1.length : Int) 0 a0_0 l0_1 l0_2) = some r := h
 clear h
 have H' := yA H
 clear H
 go_enter Try.func132, Try.ntmps132
 go_wp2_with (first | ((with_reducible refine gate_dst (N := 2) rfl ?_); refine box_event ?hg (N := 2) ?hd (cs := #[.int .i64 a0_0, .slice A0_1 l0_1.length c0_1, .slice A0_2 l0_2.length c0_2]) (t := 32) ?hr ?_; (case hd => rfl); (case hg => rfl); (case hr => first | (go_simp; done) | (go_simp; rfl)); intro gb1056 hg w3 hbox hb; have BK1056 := yA (hbox); have GW1056 := yA ((by rw [hg]; exact (yX (mB HB.out)) : w.heap.size ≤ gb1056)); have GE1056 := yA ((by rw [hg]; exact (yX (mB HB.out)) : w.heap.size ≤ gb1056)); replace HB := yA (zD (mB HB.out) hb); clear hb hbox hg))
 go_loopg [5, 10] k (fun kq v5 v10 w' => ∃ (x5_1 : Int) (x10_1 : Int), v5 = .int .i64 x5_1 ∧ v10 = .int .i64 x10_1 ∧ Aside0 (impl_Sequence_after.l0 kq x5_1 l1 (l1.length : Int) x10_1 a0_0 l0_1 l0_2 = some r) ∧ Aside0 (kq ≤ k) ∧ Aside0 (w'.heap[gb1056]? = some (.cells #[.int .i64 a0_0, (.slice A0_1 l0_1.length c0_1), (.slice A0_2 l0_2.length c0_2)] 32 (0, 0))) ∧ Aside0 (Below w.heap.size w w'))
 case atStart => exact ⟨(0), (0), (by first | rfl | (simp; done) | (simp [*]; done)), (by first | rfl | (simp; done) | (simp [*]; done)), H', ⟨zT _⟩, ⟨mK BK1056.out⟩, ⟨by repeat (first | (with_reducible first | exact HB.out | apply yO | apply yN | apply yP | refine yQ ?_ GE1056.out) | exact HB.out)⟩⟩
 case round =>
  clear H'
  (try clear c1);(try clear p2)
  obtain ⟨x5_1, x10_1, rfl, rfl, HA, HK1, BK1056, HB⟩ := hrel
  cases gk with
  | zero => exact absurd HA.out (by simp [impl_Sequence_after.l0])
  | succ k1 =>
   have H := HA.out
   clear HA
   simp only [impl_Sequence_after.l0] at H
   by_cases c4 : x10_1 < (l1.length : Int)
   ·rw [if_pos c4] at H
    have c4b0 : decide (x10_1 < (l1.length : Int)) = true := zH c4
    clear c4
    obtain ⟨c5, H⟩ := iP H
    have c5b0 : decide (0 ≤ x10_1) = true := zH c5
    clear c5
    obtain ⟨c6, H⟩ := iP H
    have c6b0 : decide (x10_1 < (l1.length : Int)) = true := zH c6
    clear c6
    obtain ⟨c7, H⟩ := iP H
    have c7b0 : decide (0 ≤ x5_1) = true := zH c7
    clear c7
    obtain ⟨c8, H⟩ := iP H
    have c8b0 : decide (x5_1 < (l0_1.length : Int)) = true := zH c8
    clear c8
    obtain ⟨c9, H⟩ := iP H
    have c9b0 : decide (0 ≤ (rd l1 x10_1)) = true := zH c9
    clear c9
    obtain ⟨c10, H⟩ := iP H
    have c10b0 : decide ((rd l1 x10_1) < ((rd_L1 l0_1 x5_1).length : Int)) = true := zH c10
    clear c10
    have H' := yA H
    clear H
    have p1057 : 0 ≤ (x10_1 : Int) := zG (by assumption)
    have q1057 : x10_1 < (l1.length : Int) := zG (by assumption)
    obtain ⟨ad1057, e1057, hx1057_0⟩ := Kd.at_int HR1.out x10_1 p1057 q1057
    cases e1057
    try replace hx1057_0 := (HB.out.cell (zE w _ hx1057_0)).trans hx1057_0
    replace p1057 := eq_true p1057
    replace q1057 := eq_true q1057
    obtain ⟨hcz11_0, hcz11_1, hcz11_2⟩ := cz3 BK1056.out
    obtain ⟨hfz11_0, hfz11_1, hfz11_2⟩ := fz3 BK1056.out
    have p1058 : 0 ≤ (x5_1 : Int) := zG (by assumption)
    have q1058 : x5_1 < (l0_1.length : Int) := zG (by assumption)
    obtain ⟨ad1058, A1058_0, c1058_0, e1058, hx1058_0, hl1058_0, hi1058_0⟩ := at_L1 HR0_1.out x5_1 p1058 q1058
    cases e1058
    try replace hx1058_0 := (HB.out.cell (zE w _ hx1058_0)).trans hx1058_0
    have HR1058_0 := yA hi1058_0
    have HC1058_0 := yA hl1058_0
    clear hi1058_0 hl1058_0
    replace p1058 := eq_true p1058
    replace q1058 := eq_true q1058
    have p1059 : 0 ≤ ((rd l1 x10_1) : Int) := zG (by assumption)
    have q1059 : (rd l1 x10_1) < ((rd_L1 l0_1 x5_1).length : Int) := zG (by assumption)
    obtain ⟨ad1059, e1059, hx1059_0⟩ := Kd.at_int HR1058_0.out (rd l1 x10_1) p1059 q1059
    cases e1059
    try replace hx1059_0 := (HB.out.cell (zE w _ hx1059_0)).trans hx1059_0
    replace p1059 := eq_true p1059
    replace q1059 := eq_true q1059
    go_wp2
    go_roundg k1
    case measure => have := HK1.out; omega
    case rel => exact ⟨(rd (rd_L1 l0_1 x5_1) (rd l1 x10_1)), (wrap64 (x10_1 + 1)), (by first | rfl | (simp; done) | (simp [*]; done)), (by first | rfl | (simp; done) | (simp [*]; done)), H', ⟨by have := HK1.out; omega⟩, ⟨mK BK1056.out⟩, ⟨by repeat (first | (with_reducible first | exact HB.out | apply yO | apply yN | apply yP | refine yQ ?_ GE1056.out) | exact HB.out)⟩⟩
   ·rw [if_neg c4] at H
    have c4b0 : decide (x10_1 < (l1.length : Int)) = false := decide_eq_false c4
    clear c4
    obtain rfl := zU H
    go_wp2
    go_ret
    exact ⟨by first | rfl | (simp [errW_none, errW_some] <;> rfl) | (simp [*, errW_none, errW_some] <;> rfl), by repeat (first | (with_reducible first | exact HB.out | apply yO | apply yN | apply yP | refine yQ ?_ GE1056.out) | exact HB.out)⟩

end Go.Proofs.Ytmkeicahnnlalaa.Q
