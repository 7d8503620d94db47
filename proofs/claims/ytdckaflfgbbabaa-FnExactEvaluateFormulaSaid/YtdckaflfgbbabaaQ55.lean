-- written by a program of this session (a turned copy of the kit's print) out of the translation
-- squeezed
-- compact
import Derived.Test.YtdckaflfgbbabaaQ0
import Derived.Test.YtdckaflfgbbabaaQ11
namespace Go.Proofs.Ytdckaflfgbbabaa.Q
open Go.RowKit Go.Proofs.YtdckaflfgbbabaaW.PrintWords Go.Proofs.YtdckaflfgbbabaaW.PrintLast Go.Proofs.YtdckaflfgbbabaaW.PrintMore
attribute [local go_sem] max2_int min2_int max_two min_two max_three min_three max_four min_four   -- for this text's walks alone
set_option linter.unusedVariables false
set_option linter.unusedSimpArgs false

/-! ### spec_IsSequence: function 61 -/
mutual
def spec_IsSequence.l0 : Nat → Int → Int → List (List Int) → List Int → Option (Bool)
 | 0, _, _, _, _ => none
 | k + 1, x3, x585000, x585001, x585002 => if x3 < (x585001.length : Int) then (if 0 ≤ x3 then (if ((rd_L5 x585001 x3).length : Int) = x585000 then (spec_IsSequence.l1 k x3 0 x585000 x585001 x585002) else (some false)) else (none)) else (spec_IsSequence.l2 k 0 x585000 x585001 x585002)
def spec_IsSequence.l1 : Nat → Int → Int → Int → List (List Int) → List Int → Option (Bool)
 | 0, _, _, _, _, _ => none
 | k + 1, x3, x4, x585000, x585001, x585002 => if 0 ≤ x3 then (if x3 < (x585001.length : Int) then (if x4 < ((rd_L5 x585001 x3).length : Int) then (if 0 ≤ x4 then (if (rd (rd_L5 x585001 x3) x4) < 0 then (some false) else (if (rd (rd_L5 x585001 x3) x4) ≥ (x585001.length : Int) then (some false) else (spec_IsSequence.l1 k x3 (wrap64 (x4 + 1)) x585000 x585001 x585002))) else (none)) else (spec_IsSequence.l0 k (wrap64 (x3 + 1)) x585000 x585001 x585002)) else (none)) else (none)
def spec_IsSequence.l2 : Nat → Int → Int → List (List Int) → List Int → Option (Bool)
 | 0, _, _, _, _ => none
 | k + 1, x5, x585000, x585001, x585002 => if x5 < (x585002.length : Int) then (if 0 ≤ x5 then ((spec_l1In.f (rd x585002 x5) 0 3).bind fun t592 => (if t592 = true then (spec_IsSequence.l2 k (wrap64 (x5 + 1)) x585000 x585001 x585002) else (some false))) else (none)) else ((spec_l1In.f x585000 2 4).bind fun t593 => (if t593 = true then ((spec_l1In.f (x585001.length : Int) 1 16).bind fun t594 => (if t594 = true then (some ((x585002.length : Int) == (x585001.length : Int))) else (some false))) else (some false)))
end
def spec_IsSequence.f (k : Nat) (a0_0 : Int) (l0_1 : List (List Int)) (l0_2 : List Int) : Option (Bool) := spec_IsSequence.l0 k 0 a0_0 l0_1 l0_2
theorem spec_IsSequence.mono_l : ∀ k, (∀ y0 y1 y2 y3, LeO (spec_IsSequence.l0 k y0 y1 y2 y3) (spec_IsSequence.l0 (k + 1) y0 y1 y2 y3)) ∧ (∀ y0 y1 y2 y3 y4, LeO (spec_IsSequence.l1 k y0 y1 y2 y3 y4) (spec_IsSequence.l1 (k + 1) y0 y1 y2 y3 y4)) ∧ (∀ y0 y1 y2 y3, LeO (spec_IsSequence.l2 k y0 y1 y2 y3) (spec_IsSequence.l2 (k + 1) y0 y1 y2 y3))
 | 0 => ⟨fun _ _ _ _ r h => by simp [spec_IsSequence.l0] at h, fun _ _ _ _ _ r h => by simp [spec_IsSequence.l1] at h, fun _ _ _ _ r h => by simp [spec_IsSequence.l2] at h⟩
 | k + 1 => by
  obtain ⟨ih0, ih1, ih2⟩ := spec_IsSequence.mono_l k; refine ⟨?_, ?_, ?_⟩
  ·intro y0 y1 y2 y3; unfold spec_IsSequence.l0
   repeat' first
   | (with_reducible exact ih0 _ _ _ _)
   | (with_reducible exact ih1 _ _ _ _ _)
   | (with_reducible exact ih2 _ _ _ _)
   | (with_reducible exact LeO.refl _)
   | (with_reducible exact LeO.none _)
   | (with_reducible refine LeO.ite ?_ ?_)
   | (with_reducible refine LeO.bind ?_ (fun _ => ?_))
   | exact ih0 _ _ _ _
   | exact ih1 _ _ _ _ _
   | exact ih2 _ _ _ _
   | exact LeO.none _
   | refine LeO.ite ?_ ?_
   | refine LeO.bind ?_ (fun _ => ?_)
  ·intro y0 y1 y2 y3 y4; unfold spec_IsSequence.l1
   repeat' first
   | (with_reducible exact ih0 _ _ _ _)
   | (with_reducible exact ih1 _ _ _ _ _)
   | (with_reducible exact ih2 _ _ _ _)
   | (with_reducible exact LeO.refl _)
   | (with_reducible exact LeO.none _)
   | (with_reducible refine LeO.ite ?_ ?_)
   | (with_reducible refine LeO.bind ?_ (fun _ => ?_))
   | exact ih0 _ _ _ _
   | exact ih1 _ _ _ _ _
   | exact ih2 _ _ _ _
   | exact LeO.none _
   | refine LeO.ite ?_ ?_
   | refine LeO.bind ?_ (fun _ => ?_)
  ·intro y0 y1 y2 y3; unfold spec_IsSequence.l2
   repeat' first
   | (with_reducible exact ih0 _ _ _ _)
   | (with_reducible exact ih1 _ _ _ _ _)
   | (with_reducible exact ih2 _ _ _ _)
   | (with_reducible exact LeO.refl _)
   | (with_reducible exact LeO.none _)
   | (with_reducible refine LeO.ite ?_ ?_)
   | (with_reducible refine LeO.bind ?_ (fun _ => ?_))
   | exact ih0 _ _ _ _
   | exact ih1 _ _ _ _ _
   | exact ih2 _ _ _ _
   | exact LeO.none _
   | refine LeO.ite ?_ ?_
   | refine LeO.bind ?_ (fun _ => ?_)
theorem spec_IsSequence.mono : ∀ a0 a1 a2 k, LeO (spec_IsSequence.f k a0 a1 a2) (spec_IsSequence.f (k + 1) a0 a1 a2) := by
 intro a0 a1 a2 k; obtain ⟨ih0, ih1, ih2⟩ := spec_IsSequence.mono_l k; unfold spec_IsSequence.f
 repeat' first
   | (with_reducible exact ih0 _ _ _ _)
   | (with_reducible exact ih1 _ _ _ _ _)
   | (with_reducible exact ih2 _ _ _ _)
   | (with_reducible exact LeO.refl _)
   | (with_reducible exact LeO.none _)
   | (with_reducible refine LeO.ite ?_ ?_)
   | (with_reducible refine LeO.bind ?_ (fun _ => ?_))
   | exact ih0 _ _ _ _
   | exact ih1 _ _ _ _ _
   | exact ih2 _ _ _ _
   | exact LeO.none _
   | refine LeO.ite ?_ ?_
   | refine LeO.bind ?_ (fun _ => ?_)
set_option maxHeartbeats 8000000 in
set_option maxRecDepth 100000 in
theorem spec_IsSequence.calls (k : Nat) (a0_0 : Int) (A0_1 : Option Addr) (c0_1 : Nat) (l0_1 : List (List Int)) (A0_2 : Option Addr) (c0_2 : Nat) (l0_2 : List Int) (r : Bool) (w : World) (hr0_1 : Kd.C (Kd.slice 3 (Kd.int .i64)) w A0_1 l0_1.length l0_1) (hc0_1 : l0_1.length ≤ c0_1) (hr0_2 : Kd.C (Kd.int .i64) w A0_2 l0_2.length l0_2) (hc0_2 : l0_2.length ≤ c0_2) (h : spec_IsSequence.f k a0_0 l0_1 l0_2 = some r) :
  Calls Try.prog 61 #[.agg #[.int .i64 a0_0, .slice A0_1 l0_1.length c0_1, .slice A0_2 l0_2.length c0_2]] w fun e w' => e = .returned (.bool r) ∧ Below w.heap.size w w' := by
 have hu42 := Try.underlying42; have HR0_1 := yA hr0_1; have HC0_1 := yA hc0_1; clear hr0_1 hc0_1; have HR0_2 := yA hr0_2; have HC0_2 := yA hc0_2; clear hr0_2 hc0_2; have HB := yA (zV w.heap.size w); have H : (spec_IsSequence.l0 k 0 a0_0 l0_1 l0_2) = some r := h; clear h; have H' := yA H; clear H; go_enter Try.func61, Try.ntmps61; go_wp2_with (first | ((with_reducible refine gate_dst (N := 1) rfl ?_); refine box_event ?hg (N := 1) ?hd (cs := #[.int .i64 a0_0, .slice A0_1 l0_1.length c0_1, .slice A0_2 l0_2.length c0_2]) (t := 42) ?hr ?_; (case hd => rfl); (case hg => rfl); (case hr => first | (go_simp; done) | (go_simp; rfl)); intro gb584 hg w2 hbox hb; have n0_ := yA (zD (mB HB.out) hb); have n1_ := yA (hbox); have n2_ := yA ((by rw [hg]; exact (yX (mB HB.out)) : w.heap.size ≤ gb584)); have n3_ := yA ((by rw [hg]; exact (yX (mB HB.out)) : w.heap.size ≤ gb584)); clear HB; have HB := n0_; have BK584 := n1_; have GW584 := n2_; have GE584 := n3_; clear n0_ n1_ n2_ n3_; clear hb hbox hg))
 repeat (go_quiet (first | ((with_reducible refine gate_dst (N := 1) rfl ?_); refine box_event ?hg (N := 1) ?hd (cs := #[.int .i64 a0_0, .slice A0_1 l0_1.length c0_1, .slice A0_2 l0_2.length c0_2]) (t := 42) ?hr ?_; (case hd => rfl); (case hg => rfl); (case hr => first | (go_simp; done) | (go_simp; rfl)); intro gb584 hg w2 hbox hb; have n0_ := yA (zD (mB HB.out) hb); have n1_ := yA (hbox); have n2_ := yA ((by rw [hg]; exact (yX (mB HB.out)) : w.heap.size ≤ gb584)); have n3_ := yA ((by rw [hg]; exact (yX (mB HB.out)) : w.heap.size ≤ gb584)); clear HB; have HB := n0_; have BK584 := n1_; have GW584 := n2_; have GE584 := n3_; clear n0_ n1_ n2_ n3_; clear hb hbox hg)); try go_wp2_with (first | ((with_reducible refine gate_dst (N := 1) rfl ?_); refine box_event ?hg (N := 1) ?hd (cs := #[.int .i64 a0_0, .slice A0_1 l0_1.length c0_1, .slice A0_2 l0_2.length c0_2]) (t := 42) ?hr ?_; (case hd => rfl); (case hg => rfl); (case hr => first | (go_simp; done) | (go_simp; rfl)); intro gb584 hg w2 hbox hb; have n0_ := yA (zD (mB HB.out) hb); have n1_ := yA (hbox); have n2_ := yA ((by rw [hg]; exact (yX (mB HB.out)) : w.heap.size ≤ gb584)); have n3_ := yA ((by rw [hg]; exact (yX (mB HB.out)) : w.heap.size ≤ gb584)); clear HB; have HB := n0_; have BK584 := n1_; have GW584 := n2_; have GE584 := n3_; clear n0_ n1_ n2_ n3_; clear hb hbox hg)))
 go_loopg [3] k (fun kq v3 w' => ∃ (x3_1 : Int), v3 = .int .i64 x3_1 ∧ Aside0 (spec_IsSequence.l0 kq x3_1 a0_0 l0_1 l0_2 = some r) ∧ Aside0 (kq ≤ k) ∧ Aside0 (w'.heap[gb584]? = some (.cells #[.int .i64 a0_0, (.slice A0_1 l0_1.length c0_1), (.slice A0_2 l0_2.length c0_2)] 42 (0, 0))) ∧ Aside0 (Below w.heap.size w w'))
 case atStart => exact ⟨(0), (by first | rfl | (simp; done) | (simp [*]; done)), H', ⟨zT _⟩, ⟨by (with_reducible repeat (first | refine yS ?_ _ | refine yT ?_ | refine yR ?_ _)); exact BK584.out⟩, ⟨by repeat (first | (with_reducible first | exact HB.out | apply yO | apply yN | apply yP | refine yQ ?_ GE584.out) | exact HB.out)⟩⟩
 case round =>
  clear H'; try clear p2
  obtain ⟨x3_1, rfl, HA, HK1, BK584, HB⟩ := hrel; cases gk with
  | zero => exact absurd HA.out (by simp [spec_IsSequence.l0])
  | succ k1 =>
   have H := HA.out; clear HA; simp only [spec_IsSequence.l0] at H; by_cases c3 : x3_1 < (l0_1.length : Int)
   ·rw [if_pos c3] at H; have c3b0 : decide (x3_1 < (l0_1.length : Int)) = true := zH c3; clear c3; by_cases c4 : 0 ≤ x3_1
    ·rw [if_pos c4] at H; have c4b0 : decide (0 ≤ x3_1) = true := zH c4; clear c4; by_cases c5 : ((rd_L5 l0_1 x3_1).length : Int) = a0_0
     ·rw [if_pos c5] at H; have c5b0 : (((rd_L5 l0_1 x3_1).length : Int) == a0_0) = true := beq_iff_eq.mpr c5; have c5b1 : (((rd_L5 l0_1 x3_1).length : Int) != a0_0) = false := bne_eq_false_iff_eq.mpr c5; clear c5; have H' := yA H; clear H; have hcz6_0 : wr.cell? ⟨gb584, 0, none⟩ = some (.int .i64 a0_0) := (yV BK584.out 0).trans rfl; have hcz6_1 : wr.cell? ⟨gb584, 1, none⟩ = some (.slice A0_1 l0_1.length c0_1) := (yV BK584.out 1).trans rfl; have hcz6_2 : wr.cell? ⟨gb584, 2, none⟩ = some (.slice A0_2 l0_2.length c0_2) := (yV BK584.out 2).trans rfl; have hfz6_0 := yW BK584.out 0; have hfz6_1 := yW BK584.out 1; have hfz6_2 := yW BK584.out 2; have p585 : 0 ≤ (x3_1 : Int) := zG (by first | (with_reducible assumption) | assumption); have q585 : x3_1 < (l0_1.length : Int) := zG (by first | (with_reducible assumption) | assumption); obtain ⟨ad585, A585_0, c585_0, e585, hx585_0, hl585_0, hi585_0⟩ := at_L5 HR0_1.out x3_1 p585 q585; cases e585; try replace hx585_0 := (HB.out.cell (zE w _ hx585_0)).trans hx585_0
      have HR585_0 := yA hi585_0; have HC585_0 := yA hl585_0; clear hi585_0 hl585_0; replace p585 := eq_true p585; replace q585 := eq_true q585; go_wp2; repeat (go_quiet (fail); try go_wp2)
      go_loopg [4] k1 (fun kq v4 w' => ∃ (x4_2 : Int), v4 = .int .i64 x4_2 ∧ Aside0 (spec_IsSequence.l1 kq x3_1 x4_2 a0_0 l0_1 l0_2 = some r) ∧ Aside0 (kq ≤ k1) ∧ Aside0 (w'.heap[gb584]? = some (.cells #[.int .i64 a0_0, (.slice (some ad585) l0_1.length c0_1), (.slice A0_2 l0_2.length c0_2)] 42 (0, 0))) ∧ Aside0 (Below w.heap.size w w'))
      case atStart => exact ⟨(0), (by first | rfl | (simp; done) | (simp [*]; done)), H', ⟨zT _⟩, ⟨by (with_reducible repeat (first | refine yS ?_ _ | refine yT ?_ | refine yR ?_ _)); exact BK584.out⟩, ⟨by repeat (first | (with_reducible first | exact HB.out | apply yO | apply yN | apply yP | refine yQ ?_ GE584.out) | exact HB.out)⟩⟩
      case round =>
       clear H'; try clear p2
       try clear c3
       try clear c3b0
       try clear c4
       try clear c4b0
       try clear c5
       try clear c5b0
       try clear c5b1
       try clear p5
       try clear q5
       try clear hx5
       try clear c6
       try clear hcz6_0
       try clear hcz6_1
       try clear hcz6_2
       try clear hfz6_0
       try clear hfz6_1
       try clear hfz6_2
       try clear hx585_0
       try clear p2
       try clear p585
       try clear q585
       obtain ⟨x4_2, rfl, HA, HK2, BK584, HB⟩ := hrel; cases gk with
       | zero => exact absurd HA.out (by simp [spec_IsSequence.l1])
       | succ k2 =>
        have H := HA.out; clear HA; simp only [spec_IsSequence.l1] at H; by_cases c7 : 0 ≤ x3_1
        ·rw [if_pos c7] at H; have c7b0 : decide (0 ≤ x3_1) = true := zH c7; clear c7; by_cases c8 : x3_1 < (l0_1.length : Int)
         ·rw [if_pos c8] at H; have c8b0 : decide (x3_1 < (l0_1.length : Int)) = true := zH c8; clear c8; by_cases c9 : x4_2 < ((rd_L5 l0_1 x3_1).length : Int)
          ·rw [if_pos c9] at H; have c9b0 : decide (x4_2 < ((rd_L5 l0_1 x3_1).length : Int)) = true := zH c9; clear c9; by_cases c10 : 0 ≤ x4_2
           ·rw [if_pos c10] at H; have c10b0 : decide (0 ≤ x4_2) = true := zH c10; clear c10; by_cases c11 : (rd (rd_L5 l0_1 x3_1) x4_2) < 0
            ·rw [if_pos c11] at H; have c11b0 : decide ((rd (rd_L5 l0_1 x3_1) x4_2) < 0) = true := zH c11; clear c11; obtain rfl := zU H; have hcz12_0 : wr.cell? ⟨gb584, 0, none⟩ = some (.int .i64 a0_0) := (yV BK584.out 0).trans rfl; have hcz12_1 : wr.cell? ⟨gb584, 1, none⟩ = some (.slice (some ad585) l0_1.length c0_1) := (yV BK584.out 1).trans rfl; have hcz12_2 : wr.cell? ⟨gb584, 2, none⟩ = some (.slice A0_2 l0_2.length c0_2) := (yV BK584.out 2).trans rfl; have hfz12_0 := yW BK584.out 0; have hfz12_1 := yW BK584.out 1; have hfz12_2 := yW BK584.out 2; have p586 : 0 ≤ (x3_1 : Int) := zG (by first | (with_reducible assumption) | assumption); have q586 : x3_1 < (l0_1.length : Int) := zG (by first | (with_reducible assumption) | assumption); obtain ⟨ad586, A586_0, c586_0, e586, hx586_0, hl586_0, hi586_0⟩ := at_L5 HR0_1.out x3_1 p586 q586; obtain rfl : ad585 = ad586 := (by injection e586); try replace hx586_0 := (HB.out.cell (zE w _ hx586_0)).trans hx586_0
             have HR586_0 := yA hi586_0; have HC586_0 := yA hl586_0; clear hi586_0 hl586_0; replace p586 := eq_true p586; replace q586 := eq_true q586; have p587 : 0 ≤ (x3_1 : Int) := zG (by first | (with_reducible assumption) | assumption); have q587 : x3_1 < (l0_1.length : Int) := zG (by first | (with_reducible assumption) | assumption); obtain ⟨ad587, A587_0, c587_0, e587, hx587_0, hl587_0, hi587_0⟩ := at_L5 HR0_1.out x3_1 p587 q587; obtain rfl : ad585 = ad587 := (by injection e587); try replace hx587_0 := (HB.out.cell (zE w _ hx587_0)).trans hx587_0
             have HR587_0 := yA hi587_0; have HC587_0 := yA hl587_0; clear hi587_0 hl587_0; replace p587 := eq_true p587; replace q587 := eq_true q587; have ea_ := zU (hx586_0.symm.trans hx587_0); injection ea_ with ea_ en_ ec_
             subst ea_; subst ec_; clear en_; have p588 : 0 ≤ (x4_2 : Int) := zG (by first | (with_reducible assumption) | assumption); have q588 : x4_2 < ((rd_L5 l0_1 x3_1).length : Int) := zG (by first | (with_reducible assumption) | assumption); obtain ⟨ad588, e588, hx588_0⟩ := Kd.at_int HR587_0.out x4_2 p588 q588; cases e588; try replace hx588_0 := (HB.out.cell (zE w _ hx588_0)).trans hx588_0
             replace p588 := eq_true p588; replace q588 := eq_true q588; go_wp2; repeat (go_quiet (fail); try go_wp2)
             go_ret; exact ⟨by first | rfl | (simp [errW_none, errW_some] <;> rfl) | (simp [*, errW_none, errW_some] <;> rfl), by repeat (first | (with_reducible first | exact HB.out | apply yO | apply yN | apply yP | refine yQ ?_ GE584.out) | exact HB.out)⟩
            rw [if_neg c11] at H; have c11b0 : decide ((rd (rd_L5 l0_1 x3_1) x4_2) < 0) = false := decide_eq_false c11; clear c11; by_cases c13 : (rd (rd_L5 l0_1 x3_1) x4_2) ≥ (l0_1.length : Int)
            ·rw [if_pos c13] at H; have c13b0 : decide ((l0_1.length : Int) ≤ (rd (rd_L5 l0_1 x3_1) x4_2)) = true := zH c13; clear c13; obtain rfl := zU H; have hcz14_0 : wr.cell? ⟨gb584, 0, none⟩ = some (.int .i64 a0_0) := (yV BK584.out 0).trans rfl; have hcz14_1 : wr.cell? ⟨gb584, 1, none⟩ = some (.slice (some ad585) l0_1.length c0_1) := (yV BK584.out 1).trans rfl; have hcz14_2 : wr.cell? ⟨gb584, 2, none⟩ = some (.slice A0_2 l0_2.length c0_2) := (yV BK584.out 2).trans rfl; have hfz14_0 := yW BK584.out 0; have hfz14_1 := yW BK584.out 1; have hfz14_2 := yW BK584.out 2; have p586 : 0 ≤ (x3_1 : Int) := zG (by first | (with_reducible assumption) | assumption); have q586 : x3_1 < (l0_1.length : Int) := zG (by first | (with_reducible assumption) | assumption); obtain ⟨ad586, A586_0, c586_0, e586, hx586_0, hl586_0, hi586_0⟩ := at_L5 HR0_1.out x3_1 p586 q586; obtain rfl : ad585 = ad586 := (by injection e586); try replace hx586_0 := (HB.out.cell (zE w _ hx586_0)).trans hx586_0
             have HR586_0 := yA hi586_0; have HC586_0 := yA hl586_0; clear hi586_0 hl586_0; replace p586 := eq_true p586; replace q586 := eq_true q586; have p587 : 0 ≤ (x3_1 : Int) := zG (by first | (with_reducible assumption) | assumption); have q587 : x3_1 < (l0_1.length : Int) := zG (by first | (with_reducible assumption) | assumption); obtain ⟨ad587, A587_0, c587_0, e587, hx587_0, hl587_0, hi587_0⟩ := at_L5 HR0_1.out x3_1 p587 q587; obtain rfl : ad585 = ad587 := (by injection e587); try replace hx587_0 := (HB.out.cell (zE w _ hx587_0)).trans hx587_0
             have HR587_0 := yA hi587_0; have HC587_0 := yA hl587_0; clear hi587_0 hl587_0; replace p587 := eq_true p587; replace q587 := eq_true q587; have ea_ := zU (hx586_0.symm.trans hx587_0); injection ea_ with ea_ en_ ec_
             subst ea_; subst ec_; clear en_; have p588 : 0 ≤ (x4_2 : Int) := zG (by first | (with_reducible assumption) | assumption); have q588 : x4_2 < ((rd_L5 l0_1 x3_1).length : Int) := zG (by first | (with_reducible assumption) | assumption); obtain ⟨ad588, e588, hx588_0⟩ := Kd.at_int HR587_0.out x4_2 p588 q588; cases e588; try replace hx588_0 := (HB.out.cell (zE w _ hx588_0)).trans hx588_0
             replace p588 := eq_true p588; replace q588 := eq_true q588; have p589 : 0 ≤ (x3_1 : Int) := zG (by first | (with_reducible assumption) | assumption); have q589 : x3_1 < (l0_1.length : Int) := zG (by first | (with_reducible assumption) | assumption); obtain ⟨ad589, A589_0, c589_0, e589, hx589_0, hl589_0, hi589_0⟩ := at_L5 HR0_1.out x3_1 p589 q589; obtain rfl : ad585 = ad589 := (by injection e589); try replace hx589_0 := (HB.out.cell (zE w _ hx589_0)).trans hx589_0
             have HR589_0 := yA hi589_0; have HC589_0 := yA hl589_0; clear hi589_0 hl589_0; replace p589 := eq_true p589; replace q589 := eq_true q589; have ea_ := zU (hx586_0.symm.trans hx589_0); injection ea_ with ea_ en_ ec_
             subst ea_; subst ec_; clear en_; have p590 : 0 ≤ (x4_2 : Int) := zG (by first | (with_reducible assumption) | assumption); have q590 : x4_2 < ((rd_L5 l0_1 x3_1).length : Int) := zG (by first | (with_reducible assumption) | assumption); obtain ⟨ad590, e590, hx590_0⟩ := Kd.at_int HR589_0.out x4_2 p590 q590; cases e590; try replace hx590_0 := (HB.out.cell (zE w _ hx590_0)).trans hx590_0
             replace p590 := eq_true p590; replace q590 := eq_true q590; go_wp2; repeat (go_quiet (fail); try go_wp2)
             go_ret; exact ⟨by first | rfl | (simp [errW_none, errW_some] <;> rfl) | (simp [*, errW_none, errW_some] <;> rfl), by repeat (first | (with_reducible first | exact HB.out | apply yO | apply yN | apply yP | refine yQ ?_ GE584.out) | exact HB.out)⟩
            rw [if_neg c13] at H; have c13b0 : decide ((l0_1.length : Int) ≤ (rd (rd_L5 l0_1 x3_1) x4_2)) = false := decide_eq_false c13; clear c13; have H' := yA H; clear H; have hcz15_0 : wr.cell? ⟨gb584, 0, none⟩ = some (.int .i64 a0_0) := (yV BK584.out 0).trans rfl; have hcz15_1 : wr.cell? ⟨gb584, 1, none⟩ = some (.slice (some ad585) l0_1.length c0_1) := (yV BK584.out 1).trans rfl; have hcz15_2 : wr.cell? ⟨gb584, 2, none⟩ = some (.slice A0_2 l0_2.length c0_2) := (yV BK584.out 2).trans rfl; have hfz15_0 := yW BK584.out 0; have hfz15_1 := yW BK584.out 1; have hfz15_2 := yW BK584.out 2; have p586 : 0 ≤ (x3_1 : Int) := zG (by first | (with_reducible assumption) | assumption); have q586 : x3_1 < (l0_1.length : Int) := zG (by first | (with_reducible assumption) | assumption); obtain ⟨ad586, A586_0, c586_0, e586, hx586_0, hl586_0, hi586_0⟩ := at_L5 HR0_1.out x3_1 p586 q586; obtain rfl : ad585 = ad586 := (by injection e586); try replace hx586_0 := (HB.out.cell (zE w _ hx586_0)).trans hx586_0
            have HR586_0 := yA hi586_0; have HC586_0 := yA hl586_0; clear hi586_0 hl586_0; replace p586 := eq_true p586; replace q586 := eq_true q586; have p587 : 0 ≤ (x3_1 : Int) := zG (by first | (with_reducible assumption) | assumption); have q587 : x3_1 < (l0_1.length : Int) := zG (by first | (with_reducible assumption) | assumption); obtain ⟨ad587, A587_0, c587_0, e587, hx587_0, hl587_0, hi587_0⟩ := at_L5 HR0_1.out x3_1 p587 q587; obtain rfl : ad585 = ad587 := (by injection e587); try replace hx587_0 := (HB.out.cell (zE w _ hx587_0)).trans hx587_0
            have HR587_0 := yA hi587_0; have HC587_0 := yA hl587_0; clear hi587_0 hl587_0; replace p587 := eq_true p587; replace q587 := eq_true q587; have ea_ := zU (hx586_0.symm.trans hx587_0); injection ea_ with ea_ en_ ec_
            subst ea_; subst ec_; clear en_; have p588 : 0 ≤ (x4_2 : Int) := zG (by first | (with_reducible assumption) | assumption); have q588 : x4_2 < ((rd_L5 l0_1 x3_1).length : Int) := zG (by first | (with_reducible assumption) | assumption); obtain ⟨ad588, e588, hx588_0⟩ := Kd.at_int HR587_0.out x4_2 p588 q588; cases e588; try replace hx588_0 := (HB.out.cell (zE w _ hx588_0)).trans hx588_0
            replace p588 := eq_true p588; replace q588 := eq_true q588; have p589 : 0 ≤ (x3_1 : Int) := zG (by first | (with_reducible assumption) | assumption); have q589 : x3_1 < (l0_1.length : Int) := zG (by first | (with_reducible assumption) | assumption); obtain ⟨ad589, A589_0, c589_0, e589, hx589_0, hl589_0, hi589_0⟩ := at_L5 HR0_1.out x3_1 p589 q589; obtain rfl : ad585 = ad589 := (by injection e589); try replace hx589_0 := (HB.out.cell (zE w _ hx589_0)).trans hx589_0
            have HR589_0 := yA hi589_0; have HC589_0 := yA hl589_0; clear hi589_0 hl589_0; replace p589 := eq_true p589; replace q589 := eq_true q589; have ea_ := zU (hx586_0.symm.trans hx589_0); injection ea_ with ea_ en_ ec_
            subst ea_; subst ec_; clear en_; have p590 : 0 ≤ (x4_2 : Int) := zG (by first | (with_reducible assumption) | assumption); have q590 : x4_2 < ((rd_L5 l0_1 x3_1).length : Int) := zG (by first | (with_reducible assumption) | assumption); obtain ⟨ad590, e590, hx590_0⟩ := Kd.at_int HR589_0.out x4_2 p590 q590; cases e590; try replace hx590_0 := (HB.out.cell (zE w _ hx590_0)).trans hx590_0
            replace p590 := eq_true p590; replace q590 := eq_true q590; go_wp2; repeat (go_quiet (fail); try go_wp2)
            go_roundg k2
            case measure => have := HK1.out; have := HK2.out; omega
            case rel => exact ⟨(wrap64 (x4_2 + 1)), (by first | rfl | (simp; done) | (simp [*]; done)), H', ⟨by have := HK1.out; have := HK2.out; omega⟩, ⟨by (with_reducible repeat (first | refine yS ?_ _ | refine yT ?_ | refine yR ?_ _)); exact BK584.out⟩, ⟨by repeat (first | (with_reducible first | exact HB.out | apply yO | apply yN | apply yP | refine yQ ?_ GE584.out) | exact HB.out)⟩⟩
           rw [if_neg c10] at H; exact absurd H (by simp)
          rw [if_neg c9] at H; have c9b0 : decide (x4_2 < ((rd_L5 l0_1 x3_1).length : Int)) = false := decide_eq_false c9; clear c9; have H' := yA H; clear H; have hcz16_0 : wr.cell? ⟨gb584, 0, none⟩ = some (.int .i64 a0_0) := (yV BK584.out 0).trans rfl; have hcz16_1 : wr.cell? ⟨gb584, 1, none⟩ = some (.slice (some ad585) l0_1.length c0_1) := (yV BK584.out 1).trans rfl; have hcz16_2 : wr.cell? ⟨gb584, 2, none⟩ = some (.slice A0_2 l0_2.length c0_2) := (yV BK584.out 2).trans rfl; have hfz16_0 := yW BK584.out 0; have hfz16_1 := yW BK584.out 1; have hfz16_2 := yW BK584.out 2; have p586 : 0 ≤ (x3_1 : Int) := zG (by first | (with_reducible assumption) | assumption); have q586 : x3_1 < (l0_1.length : Int) := zG (by first | (with_reducible assumption) | assumption); obtain ⟨ad586, A586_0, c586_0, e586, hx586_0, hl586_0, hi586_0⟩ := at_L5 HR0_1.out x3_1 p586 q586; obtain rfl : ad585 = ad586 := (by injection e586); try replace hx586_0 := (HB.out.cell (zE w _ hx586_0)).trans hx586_0
          have HR586_0 := yA hi586_0; have HC586_0 := yA hl586_0; clear hi586_0 hl586_0; replace p586 := eq_true p586; replace q586 := eq_true q586; go_wp2; repeat (go_quiet (fail); try go_wp2)
          go_roundg k2
          case measure => have := HK1.out; have := HK2.out; omega
          case rel => exact ⟨(wrap64 (x3_1 + 1)), (by first | rfl | (simp; done) | (simp [*]; done)), H', ⟨by have := HK1.out; have := HK2.out; omega⟩, ⟨by (with_reducible repeat (first | refine yS ?_ _ | refine yT ?_ | refine yR ?_ _)); exact BK584.out⟩, ⟨by repeat (first | (with_reducible first | exact HB.out | apply yO | apply yN | apply yP | refine yQ ?_ GE584.out) | exact HB.out)⟩⟩
         rw [if_neg c8] at H; exact absurd H (by simp)
        rw [if_neg c7] at H; exact absurd H (by simp)
     rw [if_neg c5] at H; have c5b0 : (((rd_L5 l0_1 x3_1).length : Int) == a0_0) = false := beq_eq_false_iff_ne.mpr c5; have c5b1 : (((rd_L5 l0_1 x3_1).length : Int) != a0_0) = true := bne_iff_ne.mpr c5; obtain rfl := zU H; have hcz17_0 : wr.cell? ⟨gb584, 0, none⟩ = some (.int .i64 a0_0) := (yV BK584.out 0).trans rfl; have hcz17_1 : wr.cell? ⟨gb584, 1, none⟩ = some (.slice A0_1 l0_1.length c0_1) := (yV BK584.out 1).trans rfl; have hcz17_2 : wr.cell? ⟨gb584, 2, none⟩ = some (.slice A0_2 l0_2.length c0_2) := (yV BK584.out 2).trans rfl; have hfz17_0 := yW BK584.out 0; have hfz17_1 := yW BK584.out 1; have hfz17_2 := yW BK584.out 2; have p585 : 0 ≤ (x3_1 : Int) := zG (by first | (with_reducible assumption) | assumption); have q585 : x3_1 < (l0_1.length : Int) := zG (by first | (with_reducible assumption) | assumption); obtain ⟨ad585, A585_0, c585_0, e585, hx585_0, hl585_0, hi585_0⟩ := at_L5 HR0_1.out x3_1 p585 q585; cases e585; try replace hx585_0 := (HB.out.cell (zE w _ hx585_0)).trans hx585_0
     have HR585_0 := yA hi585_0; have HC585_0 := yA hl585_0; clear hi585_0 hl585_0; replace p585 := eq_true p585; replace q585 := eq_true q585; go_wp2; repeat (go_quiet (fail); try go_wp2)
     go_ret; exact ⟨by first | rfl | (simp [errW_none, errW_some] <;> rfl) | (simp [*, errW_none, errW_some] <;> rfl), by repeat (first | (with_reducible first | exact HB.out | apply yO | apply yN | apply yP | refine yQ ?_ GE584.out) | exact HB.out)⟩
    rw [if_neg c4] at H; exact absurd H (by simp)
   rw [if_neg c3] at H; have c3b0 : decide (x3_1 < (l0_1.length : Int)) = false := decide_eq_false c3; clear c3; have H' := yA H; clear H; have hcz18_0 : wr.cell? ⟨gb584, 0, none⟩ = some (.int .i64 a0_0) := (yV BK584.out 0).trans rfl; have hcz18_1 : wr.cell? ⟨gb584, 1, none⟩ = some (.slice A0_1 l0_1.length c0_1) := (yV BK584.out 1).trans rfl; have hcz18_2 : wr.cell? ⟨gb584, 2, none⟩ = some (.slice A0_2 l0_2.length c0_2) := (yV BK584.out 2).trans rfl; have hfz18_0 := yW BK584.out 0; have hfz18_1 := yW BK584.out 1; have hfz18_2 := yW BK584.out 2; go_wp2; repeat (go_quiet (fail); try go_wp2)
   go_loopg [5] k1 (fun kq v5 w' => ∃ (x5_2 : Int), v5 = .int .i64 x5_2 ∧ Aside0 (spec_IsSequence.l2 kq x5_2 a0_0 l0_1 l0_2 = some r) ∧ Aside0 (kq ≤ k1) ∧ Aside0 (w'.heap[gb584]? = some (.cells #[.int .i64 a0_0, (.slice A0_1 l0_1.length c0_1), (.slice A0_2 l0_2.length c0_2)] 42 (0, 0))) ∧ Aside0 (Below w.heap.size w w'))
   case atStart => exact ⟨(0), (by first | rfl | (simp; done) | (simp [*]; done)), H', ⟨zT _⟩, ⟨by (with_reducible repeat (first | refine yS ?_ _ | refine yT ?_ | refine yR ?_ _)); exact BK584.out⟩, ⟨by repeat (first | (with_reducible first | exact HB.out | apply yO | apply yN | apply yP | refine yQ ?_ GE584.out) | exact HB.out)⟩⟩
   case round =>
    clear H'; try clear c1
    try clear p2
    try clear c3
    try clear c3b0
    try clear c4
    try clear c4b0
    try clear c5
    try clear c5b0
    try clear c5b1
    try clear p5
    try clear q5
    try clear hx5
    try clear c6
    try clear p6
    try clear c7
    try clear c7b0
    try clear c8
    try clear c8b0
    try clear c9
    try clear c9b0
    try clear c10
    try clear c10b0
    try clear c11
    try clear c11b0
    try clear c13
    try clear c13b0
    try clear hcz12_0
    try clear hcz12_1
    try clear hcz12_2
    try clear hcz14_0
    try clear hcz14_1
    try clear hcz14_2
    try clear hcz15_0
    try clear hcz15_1
    try clear hcz15_2
    try clear hcz16_0
    try clear hcz16_1
    try clear hcz16_2
    try clear hcz17_0
    try clear hcz17_1
    try clear hcz17_2
    try clear hcz18_0
    try clear hcz18_1
    try clear hcz18_2
    try clear hcz6_0
    try clear hcz6_1
    try clear hcz6_2
    try clear hfz12_0
    try clear hfz12_1
    try clear hfz12_2
    try clear hfz14_0
    try clear hfz14_1
    try clear hfz14_2
    try clear hfz15_0
    try clear hfz15_1
    try clear hfz15_2
    try clear hfz16_0
    try clear hfz16_1
    try clear hfz16_2
    try clear hfz17_0
    try clear hfz17_1
    try clear hfz17_2
    try clear hfz18_0
    try clear hfz18_1
    try clear hfz18_2
    try clear hfz6_0
    try clear hfz6_1
    try clear hfz6_2
    try clear hx585_0
    try clear hx586_0
    try clear hx587_0
    try clear hx588_0
    try clear hx589_0
    try clear hx590_0
    try clear p2
    try clear p5
    try clear p585
    try clear p586
    try clear p587
    try clear p588
    try clear p589
    try clear p590
    try clear q5
    try clear q585
    try clear q586
    try clear q587
    try clear q588
    try clear q589
    try clear q590
    obtain ⟨x5_2, rfl, HA, HK2, BK584, HB⟩ := hrel; cases gk with
    | zero => exact absurd HA.out (by simp [spec_IsSequence.l2])
    | succ k2 =>
     have H := HA.out; clear HA; simp only [spec_IsSequence.l2] at H; by_cases c19 : x5_2 < (l0_2.length : Int)
     ·rw [if_pos c19] at H; have c19b0 : decide (x5_2 < (l0_2.length : Int)) = true := zH c19; clear c19; by_cases c20 : 0 ≤ x5_2
      ·rw [if_pos c20] at H; have c20b0 : decide (0 ≤ x5_2) = true := zH c20; clear c20; replace H := Option.bind_eq_some_iff.mp H; obtain ⟨t592, A210, H⟩ := H; replace H : (if t592 = true then (spec_IsSequence.l2 k2 (wrap64 (x5_2 + 1)) a0_0 l0_1 l0_2) else (some false)) = some r := H; have A21 := yA A210; clear A210; by_cases c22 : t592 = true
       ·subst c22; have H1 : (spec_IsSequence.l2 k2 (wrap64 (x5_2 + 1)) a0_0 l0_1 l0_2) = some r := by rw [if_pos rfl] at H; exact H
        clear H; have H := H1; clear H1; have H' := yA H; clear H; have hcz23_0 : wr.cell? ⟨gb584, 0, none⟩ = some (.int .i64 a0_0) := (yV BK584.out 0).trans rfl; have hcz23_1 : wr.cell? ⟨gb584, 1, none⟩ = some (.slice A0_1 l0_1.length c0_1) := (yV BK584.out 1).trans rfl; have hcz23_2 : wr.cell? ⟨gb584, 2, none⟩ = some (.slice A0_2 l0_2.length c0_2) := (yV BK584.out 2).trans rfl; have hfz23_0 := yW BK584.out 0; have hfz23_1 := yW BK584.out 1; have hfz23_2 := yW BK584.out 2; have p591 : 0 ≤ (x5_2 : Int) := zG (by first | (with_reducible assumption) | assumption); have q591 : x5_2 < (l0_2.length : Int) := zG (by first | (with_reducible assumption) | assumption); obtain ⟨ad591, e591, hx591_0⟩ := Kd.at_int HR0_2.out x5_2 p591 q591; cases e591; try replace hx591_0 := (HB.out.cell (zE w _ hx591_0)).trans hx591_0
        replace p591 := eq_true p591; replace q591 := eq_true q591; go_wp2_with (first | (go_at_call 49; (with_reducible refine (spec_l1In.calls (rd l0_2 x5_2) 0 3 true _ A21.out).mono ?_); rintro e w' ⟨rfl, ⟨nd, rfl⟩⟩; (try first | exact ⟨rfl, _, World.drewN_drewN _ _ _⟩ | exact ⟨rfl, _, Eq.trans (World.drewN_drewN _ _ _) (congrArg (World.drewN _) (Nat.add_assoc _ _ _))⟩)))
        repeat (go_quiet (first | (go_at_call 49; (with_reducible refine (spec_l1In.calls (rd l0_2 x5_2) 0 3 true _ A21.out).mono ?_); rintro e w' ⟨rfl, ⟨nd, rfl⟩⟩; (try first | exact ⟨rfl, _, World.drewN_drewN _ _ _⟩ | exact ⟨rfl, _, Eq.trans (World.drewN_drewN _ _ _) (congrArg (World.drewN _) (Nat.add_assoc _ _ _))⟩))); try go_wp2_with (first | (go_at_call 49; (with_reducible refine (spec_l1In.calls (rd l0_2 x5_2) 0 3 true _ A21.out).mono ?_); rintro e w' ⟨rfl, ⟨nd, rfl⟩⟩; (try first | exact ⟨rfl, _, World.drewN_drewN _ _ _⟩ | exact ⟨rfl, _, Eq.trans (World.drewN_drewN _ _ _) (congrArg (World.drewN _) (Nat.add_assoc _ _ _))⟩))))
        go_roundg k2
        case measure => have := HK1.out; have := HK2.out; omega
        case rel => exact ⟨(wrap64 (x5_2 + 1)), (by first | rfl | (simp; done) | (simp [*]; done)), H', ⟨by have := HK1.out; have := HK2.out; omega⟩, ⟨by (with_reducible repeat (first | refine yS ?_ _ | refine yT ?_ | refine yR ?_ _)); exact BK584.out⟩, ⟨by repeat (first | (with_reducible first | exact HB.out | apply yO | apply yN | apply yP | refine yQ ?_ GE584.out) | exact HB.out)⟩⟩
       replace c22 := Bool.eq_false_iff.mpr c22; subst c22; have H1 : (some false) = some r := by rw [if_neg (show ¬ (false = true) by decide)] at H; exact H
       clear H; have H := H1; clear H1; obtain rfl := zU H; have hcz24_0 : wr.cell? ⟨gb584, 0, none⟩ = some (.int .i64 a0_0) := (yV BK584.out 0).trans rfl; have hcz24_1 : wr.cell? ⟨gb584, 1, none⟩ = some (.slice A0_1 l0_1.length c0_1) := (yV BK584.out 1).trans rfl; have hcz24_2 : wr.cell? ⟨gb584, 2, none⟩ = some (.slice A0_2 l0_2.length c0_2) := (yV BK584.out 2).trans rfl; have hfz24_0 := yW BK584.out 0; have hfz24_1 := yW BK584.out 1; have hfz24_2 := yW BK584.out 2; have p591 : 0 ≤ (x5_2 : Int) := zG (by first | (with_reducible assumption) | assumption); have q591 : x5_2 < (l0_2.length : Int) := zG (by first | (with_reducible assumption) | assumption); obtain ⟨ad591, e591, hx591_0⟩ := Kd.at_int HR0_2.out x5_2 p591 q591; cases e591; try replace hx591_0 := (HB.out.cell (zE w _ hx591_0)).trans hx591_0
       replace p591 := eq_true p591; replace q591 := eq_true q591; go_wp2_with (first | (go_at_call 49; (with_reducible refine (spec_l1In.calls (rd l0_2 x5_2) 0 3 false _ A21.out).mono ?_); rintro e w' ⟨rfl, ⟨nd, rfl⟩⟩; (try first | exact ⟨rfl, _, World.drewN_drewN _ _ _⟩ | exact ⟨rfl, _, Eq.trans (World.drewN_drewN _ _ _) (congrArg (World.drewN _) (Nat.add_assoc _ _ _))⟩)))
       repeat (go_quiet (first | (go_at_call 49; (with_reducible refine (spec_l1In.calls (rd l0_2 x5_2) 0 3 false _ A21.out).mono ?_); rintro e w' ⟨rfl, ⟨nd, rfl⟩⟩; (try first | exact ⟨rfl, _, World.drewN_drewN _ _ _⟩ | exact ⟨rfl, _, Eq.trans (World.drewN_drewN _ _ _) (congrArg (World.drewN _) (Nat.add_assoc _ _ _))⟩))); try go_wp2_with (first | (go_at_call 49; (with_reducible refine (spec_l1In.calls (rd l0_2 x5_2) 0 3 false _ A21.out).mono ?_); rintro e w' ⟨rfl, ⟨nd, rfl⟩⟩; (try first | exact ⟨rfl, _, World.drewN_drewN _ _ _⟩ | exact ⟨rfl, _, Eq.trans (World.drewN_drewN _ _ _) (congrArg (World.drewN _) (Nat.add_assoc _ _ _))⟩))))
       go_ret; exact ⟨by first | rfl | (simp [errW_none, errW_some] <;> rfl) | (simp [*, errW_none, errW_some] <;> rfl), by repeat (first | (with_reducible first | exact HB.out | apply yO | apply yN | apply yP | refine yQ ?_ GE584.out) | exact HB.out)⟩
      rw [if_neg c20] at H; exact absurd H (by simp)
     rw [if_neg c19] at H; have c19b0 : decide (x5_2 < (l0_2.length : Int)) = false := decide_eq_false c19; clear c19; replace H := Option.bind_eq_some_iff.mp H; obtain ⟨t593, A250, H⟩ := H; replace H : (if t593 = true then ((spec_l1In.f (l0_1.length : Int) 1 16).bind fun t594 => (if t594 = true then (some ((l0_2.length : Int) == (l0_1.length : Int))) else (some false))) else (some false)) = some r := H; have A25 := yA A250; clear A250; by_cases c26 : t593 = true
     ·subst c26; have H1 : ((spec_l1In.f (l0_1.length : Int) 1 16).bind fun t594 => (if t594 = true then (some ((l0_2.length : Int) == (l0_1.length : Int))) else (some false))) = some r := by rw [if_pos rfl] at H; exact H
      clear H; have H := H1; clear H1; replace H := Option.bind_eq_some_iff.mp H; obtain ⟨t594, A270, H⟩ := H; replace H : (if t594 = true then (some ((l0_2.length : Int) == (l0_1.length : Int))) else (some false)) = some r := H; have A27 := yA A270; clear A270; by_cases c28 : t594 = true
      ·subst c28; have H1 : (some ((l0_2.length : Int) == (l0_1.length : Int))) = some r := by rw [if_pos rfl] at H; exact H
       clear H; have H := H1; clear H1; obtain rfl := zU H; have hcz29_0 : wr.cell? ⟨gb584, 0, none⟩ = some (.int .i64 a0_0) := (yV BK584.out 0).trans rfl; have hcz29_1 : wr.cell? ⟨gb584, 1, none⟩ = some (.slice A0_1 l0_1.length c0_1) := (yV BK584.out 1).trans rfl; have hcz29_2 : wr.cell? ⟨gb584, 2, none⟩ = some (.slice A0_2 l0_2.length c0_2) := (yV BK584.out 2).trans rfl; have hfz29_0 := yW BK584.out 0; have hfz29_1 := yW BK584.out 1; have hfz29_2 := yW BK584.out 2; go_wp2_with (first | (go_at_call 49; (with_reducible refine (spec_l1In.calls a0_0 2 4 true _ A25.out).mono ?_); rintro e w' ⟨rfl, ⟨nd, rfl⟩⟩; (try first | exact ⟨rfl, _, World.drewN_drewN _ _ _⟩ | exact ⟨rfl, _, Eq.trans (World.drewN_drewN _ _ _) (congrArg (World.drewN _) (Nat.add_assoc _ _ _))⟩)) | (go_at_call 49; (with_reducible refine (spec_l1In.calls (l0_1.length : Int) 1 16 true _ A27.out).mono ?_); rintro e w' ⟨rfl, ⟨nd, rfl⟩⟩; (try first | exact ⟨rfl, _, World.drewN_drewN _ _ _⟩ | exact ⟨rfl, _, Eq.trans (World.drewN_drewN _ _ _) (congrArg (World.drewN _) (Nat.add_assoc _ _ _))⟩)))
       repeat (go_quiet (first | (go_at_call 49; (with_reducible refine (spec_l1In.calls a0_0 2 4 true _ A25.out).mono ?_); rintro e w' ⟨rfl, ⟨nd, rfl⟩⟩; (try first | exact ⟨rfl, _, World.drewN_drewN _ _ _⟩ | exact ⟨rfl, _, Eq.trans (World.drewN_drewN _ _ _) (congrArg (World.drewN _) (Nat.add_assoc _ _ _))⟩)) | (go_at_call 49; (with_reducible refine (spec_l1In.calls (l0_1.length : Int) 1 16 true _ A27.out).mono ?_); rintro e w' ⟨rfl, ⟨nd, rfl⟩⟩; (try first | exact ⟨rfl, _, World.drewN_drewN _ _ _⟩ | exact ⟨rfl, _, Eq.trans (World.drewN_drewN _ _ _) (congrArg (World.drewN _) (Nat.add_assoc _ _ _))⟩))); try go_wp2_with (first | (go_at_call 49; (with_reducible refine (spec_l1In.calls a0_0 2 4 true _ A25.out).mono ?_); rintro e w' ⟨rfl, ⟨nd, rfl⟩⟩; (try first | exact ⟨rfl, _, World.drewN_drewN _ _ _⟩ | exact ⟨rfl, _, Eq.trans (World.drewN_drewN _ _ _) (congrArg (World.drewN _) (Nat.add_assoc _ _ _))⟩)) | (go_at_call 49; (with_reducible refine (spec_l1In.calls (l0_1.length : Int) 1 16 true _ A27.out).mono ?_); rintro e w' ⟨rfl, ⟨nd, rfl⟩⟩; (try first | exact ⟨rfl, _, World.drewN_drewN _ _ _⟩ | exact ⟨rfl, _, Eq.trans (World.drewN_drewN _ _ _) (congrArg (World.drewN _) (Nat.add_assoc _ _ _))⟩))))
       go_ret; exact ⟨by first | rfl | (simp [errW_none, errW_some] <;> rfl) | (simp [*, errW_none, errW_some] <;> rfl), by repeat (first | (with_reducible first | exact HB.out | apply yO | apply yN | apply yP | refine yQ ?_ GE584.out) | exact HB.out)⟩
      replace c28 := Bool.eq_false_iff.mpr c28; subst c28; have H1 : (some false) = some r := by rw [if_neg (show ¬ (false = true) by decide)] at H; exact H
      clear H; have H := H1; clear H1; obtain rfl := zU H; have hcz30_0 : wr.cell? ⟨gb584, 0, none⟩ = some (.int .i64 a0_0) := (yV BK584.out 0).trans rfl; have hcz30_1 : wr.cell? ⟨gb584, 1, none⟩ = some (.slice A0_1 l0_1.length c0_1) := (yV BK584.out 1).trans rfl; have hcz30_2 : wr.cell? ⟨gb584, 2, none⟩ = some (.slice A0_2 l0_2.length c0_2) := (yV BK584.out 2).trans rfl; have hfz30_0 := yW BK584.out 0; have hfz30_1 := yW BK584.out 1; have hfz30_2 := yW BK584.out 2; go_wp2_with (first | (go_at_call 49; (with_reducible refine (spec_l1In.calls a0_0 2 4 true _ A25.out).mono ?_); rintro e w' ⟨rfl, ⟨nd, rfl⟩⟩; (try first | exact ⟨rfl, _, World.drewN_drewN _ _ _⟩ | exact ⟨rfl, _, Eq.trans (World.drewN_drewN _ _ _) (congrArg (World.drewN _) (Nat.add_assoc _ _ _))⟩)) | (go_at_call 49; (with_reducible refine (spec_l1In.calls (l0_1.length : Int) 1 16 false _ A27.out).mono ?_); rintro e w' ⟨rfl, ⟨nd, rfl⟩⟩; (try first | exact ⟨rfl, _, World.drewN_drewN _ _ _⟩ | exact ⟨rfl, _, Eq.trans (World.drewN_drewN _ _ _) (congrArg (World.drewN _) (Nat.add_assoc _ _ _))⟩)))
      repeat (go_quiet (first | (go_at_call 49; (with_reducible refine (spec_l1In.calls a0_0 2 4 true _ A25.out).mono ?_); rintro e w' ⟨rfl, ⟨nd, rfl⟩⟩; (try first | exact ⟨rfl, _, World.drewN_drewN _ _ _⟩ | exact ⟨rfl, _, Eq.trans (World.drewN_drewN _ _ _) (congrArg (World.drewN _) (Nat.add_assoc _ _ _))⟩)) | (go_at_call 49; (with_reducible refine (spec_l1In.calls (l0_1.length : Int) 1 16 false _ A27.out).mono ?_); rintro e w' ⟨rfl, ⟨nd, rfl⟩⟩; (try first | exact ⟨rfl, _, World.drewN_drewN _ _ _⟩ | exact ⟨rfl, _, Eq.trans (World.drewN_drewN _ _ _) (congrArg (World.drewN _) (Nat.add_assoc _ _ _))⟩))); try go_wp2_with (first | (go_at_call 49; (with_reducible refine (spec_l1In.calls a0_0 2 4 true _ A25.out).mono ?_); rintro e w' ⟨rfl, ⟨nd, rfl⟩⟩; (try first | exact ⟨rfl, _, World.drewN_drewN _ _ _⟩ | exact ⟨rfl, _, Eq.trans (World.drewN_drewN _ _ _) (congrArg (World.drewN _) (Nat.add_assoc _ _ _))⟩)) | (go_at_call 49; (with_reducible refine (spec_l1In.calls (l0_1.length : Int) 1 16 false _ A27.out).mono ?_); rintro e w' ⟨rfl, ⟨nd, rfl⟩⟩; (try first | exact ⟨rfl, _, World.drewN_drewN _ _ _⟩ | exact ⟨rfl, _, Eq.trans (World.drewN_drewN _ _ _) (congrArg (World.drewN _) (Nat.add_assoc _ _ _))⟩))))
      go_ret; exact ⟨by first | rfl | (simp [errW_none, errW_some] <;> rfl) | (simp [*, errW_none, errW_some] <;> rfl), by repeat (first | (with_reducible first | exact HB.out | apply yO | apply yN | apply yP | refine yQ ?_ GE584.out) | exact HB.out)⟩
     replace c26 := Bool.eq_false_iff.mpr c26; subst c26; have H1 : (some false) = some r := by rw [if_neg (show ¬ (false = true) by decide)] at H; exact H
     clear H; have H := H1; clear H1; obtain rfl := zU H; have hcz31_0 : wr.cell? ⟨gb584, 0, none⟩ = some (.int .i64 a0_0) := (yV BK584.out 0).trans rfl; have hcz31_1 : wr.cell? ⟨gb584, 1, none⟩ = some (.slice A0_1 l0_1.length c0_1) := (yV BK584.out 1).trans rfl; have hcz31_2 : wr.cell? ⟨gb584, 2, none⟩ = some (.slice A0_2 l0_2.length c0_2) := (yV BK584.out 2).trans rfl; have hfz31_0 := yW BK584.out 0; have hfz31_1 := yW BK584.out 1; have hfz31_2 := yW BK584.out 2; go_wp2_with (first | (go_at_call 49; (with_reducible refine (spec_l1In.calls a0_0 2 4 false _ A25.out).mono ?_); rintro e w' ⟨rfl, ⟨nd, rfl⟩⟩; (try first | exact ⟨rfl, _, World.drewN_drewN _ _ _⟩ | exact ⟨rfl, _, Eq.trans (World.drewN_drewN _ _ _) (congrArg (World.drewN _) (Nat.add_assoc _ _ _))⟩)))
     repeat (go_quiet (first | (go_at_call 49; (with_reducible refine (spec_l1In.calls a0_0 2 4 false _ A25.out).mono ?_); rintro e w' ⟨rfl, ⟨nd, rfl⟩⟩; (try first | exact ⟨rfl, _, World.drewN_drewN _ _ _⟩ | exact ⟨rfl, _, Eq.trans (World.drewN_drewN _ _ _) (congrArg (World.drewN _) (Nat.add_assoc _ _ _))⟩))); try go_wp2_with (first | (go_at_call 49; (with_reducible refine (spec_l1In.calls a0_0 2 4 false _ A25.out).mono ?_); rintro e w' ⟨rfl, ⟨nd, rfl⟩⟩; (try first | exact ⟨rfl, _, World.drewN_drewN _ _ _⟩ | exact ⟨rfl, _, Eq.trans (World.drewN_drewN _ _ _) (congrArg (World.drewN _) (Nat.add_assoc _ _ _))⟩))))
     go_ret; exact ⟨by first | rfl | (simp [errW_none, errW_some] <;> rfl) | (simp [*, errW_none, errW_some] <;> rfl), by repeat (first | (with_reducible first | exact HB.out | apply yO | apply yN | apply yP | refine yQ ?_ GE584.out) | exact HB.out)⟩

end Go.Proofs.Ytdckaflfgbbabaa.Q
