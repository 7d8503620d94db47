-- written by a program of this session
-- squeezed
-- compact
-- shrunk
import Derived.Test.YtmkeicahnnlalaaQ0
import Derived.Test.YtmkeicahnnlalaaQ4
namespace Go.Proofs.Ytmkeicahnnlalaa.Q
open Go.RowKit Go.Proofs.YtmkeicahnnlalaaW.PrintWords Go.Proofs.YtmkeicahnnlalaaW.PrintLast Go.Proofs.YtmkeicahnnlalaaW.PrintMore
set_option linter.unusedVariables false
set_option linter.unusedSimpArgs false

/-! ### spec_IsSequence: function 92 -/
mutual
def spec_IsSequence.l0 : Nat → Int → Int → List (List Int) → List Int → Option (Bool)
 | 0, _, _, _, _ => none
 | k + 1, x3, x107000, x107001, x107002 => if x3 < (x107001.length : Int) then (if 0 ≤ x3 then (if ((rd_L1 x107001 x3).length : Int) = x107000 then (spec_IsSequence.l1 k x3 0 x107000 x107001 x107002) else (some false)) else (none)) else (spec_IsSequence.l2 k 0 x107000 x107001 x107002)
def spec_IsSequence.l1 : Nat → Int → Int → Int → List (List Int) → List Int → Option (Bool)
 | 0, _, _, _, _, _ => none
 | k + 1, x3, x4, x107000, x107001, x107002 => if 0 ≤ x3 then (if x3 < (x107001.length : Int) then (if x4 < ((rd_L1 x107001 x3).length : Int) then (if 0 ≤ x4 then (if (rd (rd_L1 x107001 x3) x4) < 0 then (some false) else (if (rd (rd_L1 x107001 x3) x4) ≥ (x107001.length : Int) then (some false) else (spec_IsSequence.l1 k x3 (wrap64 (x4 + 1)) x107000 x107001 x107002))) else (none)) else (spec_IsSequence.l0 k (wrap64 (x3 + 1)) x107000 x107001 x107002)) else (none)) else (none)
def spec_IsSequence.l2 : Nat → Int → Int → List (List Int) → List Int → Option (Bool)
 | 0, _, _, _, _ => none
 | k + 1, x5, x107000, x107001, x107002 => if x5 < (x107002.length : Int) then (if 0 ≤ x5 then ((spec_l1In.f (rd x107002 x5) 0 3).bind fun t114 => (if t114 = true then (spec_IsSequence.l2 k (wrap64 (x5 + 1)) x107000 x107001 x107002) else (some false))) else (none)) else ((spec_l1In.f x107000 2 4).bind fun t115 => (if t115 = true then ((spec_l1In.f (x107001.length : Int) 1 16).bind fun t116 => (if t116 = true then (some ((x107002.length : Int) == (x107001.length : Int))) else (some false))) else (some false)))
end
def spec_IsSequence.f (k : Nat) (a0_0 : Int) (l0_1 : List (List Int)) (l0_2 : List Int) : Option (Bool) := spec_IsSequence.l0 k 0 a0_0 l0_1 l0_2
theorem spec_IsSequence.mono_l : ∀ k, (∀ y0 y1 y2 y3, LeO (spec_IsSequence.l0 k y0 y1 y2 y3) (spec_IsSequence.l0 (k + 1) y0 y1 y2 y3)) ∧ (∀ y0 y1 y2 y3 y4, LeO (spec_IsSequence.l1 k y0 y1 y2 y3 y4) (spec_IsSequence.l1 (k + 1) y0 y1 y2 y3 y4)) ∧ (∀ y0 y1 y2 y3, LeO (spec_IsSequence.l2 k y0 y1 y2 y3) (spec_IsSequence.l2 (k + 1) y0 y1 y2 y3))
 | 0 => ⟨fun _ _ _ _ r h => by simp [spec_IsSequence.l0] at h, fun _ _ _ _ _ r h => by simp [spec_IsSequence.l1] at h, fun _ _ _ _ r h => by simp [spec_IsSequence.l2] at h⟩
 | k + 1 => by
  obtain ⟨ih0, ih1, ih2⟩ := spec_IsSequence.mono_l k
  refine ⟨?_, ?_, ?_⟩ <;> intros <;> first | unfold spec_IsSequence.l0 | unfold spec_IsSequence.l1 | unfold spec_IsSequence.l2
  all_goals repeat' (with_reducible first | exact ih0 _ _ _ _ | exact ih1 _ _ _ _ _ | exact ih2 _ _ _ _ | exact LeO.refl _ | exact LeO.none _ | refine LeO.ite ?_ ?_ | refine LeO.bind ?_ fun _ => ?_)
theorem spec_IsSequence.mono : ∀ a0 a1 a2 k, LeO (spec_IsSequence.f k a0 a1 a2) (spec_IsSequence.f (k + 1) a0 a1 a2) := by
 intro a0 a1 a2 k
 obtain ⟨ih0, ih1, ih2⟩ := spec_IsSequence.mono_l k
 unfold spec_IsSequence.f
 repeat' (with_reducible first | exact ih0 _ _ _ _ | exact ih1 _ _ _ _ _ | exact ih2 _ _ _ _ | exact LeO.refl _ | exact LeO.none _ | refine LeO.ite ?_ ?_ | refine LeO.bind ?_ fun _ => ?_)
set_option maxHeartbeats 8000000 in
set_option maxRecDepth 100000 in
theorem spec_IsSequence.calls (k : Nat) (a0_0 : Int) (A0_1 : Option Addr) (c0_1 : Nat) (l0_1 : List (List Int)) (A0_2 : Option Addr) (c0_2 : Nat) (l0_2 : List Int) (r : Bool) (w : World) (hr0_1 : Kd.C (Kd.slice 3 (Kd.int .i64)) w A0_1 l0_1.length l0_1) (hc0_1 : l0_1.length ≤ c0_1) (hr0_2 : Kd.C (Kd.int .i64) w A0_2 l0_2.length l0_2) (hc0_2 : l0_2.length ≤ c0_2) (h : spec_IsSequence.f k a0_0 l0_1 l0_2 = some r) :
  Calls Try.prog 92 #[.agg #[.int .i64 a0_0, .slice A0_1 l0_1.length c0_1, .slice A0_2 l0_2.length c0_2]] w fun e w' => e = .returned (.bool r) ∧ Below w.heap.size w w' := by
 have hu32 := Try.underlying32
 have HR0_1 := yA hr0_1
 have HC0_1 := yA hc0_1
 clear hr0_1 hc0_1
 have HR0_2 := yA hr0_2
 have HC0_2 := yA hc0_2
 clear hr0_2 hc0_2
 have HB := yA (zV w.heap.size w)
 have H : (spec_IsSequence.l0 k 0 a0_0 l0_1 l0_2) = some r := h
 clear h
 have H' := yA H
 clear H
 go_enter Try.func92, Try.ntmps92
 go_wp2_with (first | ((with_reducible refine gate_dst (N := 1) rfl ?_); refine box_event ?hg (N := 1) ?hd (cs := #[.int .i64 a0_0, .slice A0_1 l0_1.length c0_1, .slice A0_2 l0_2.length c0_2]) (t := 32) ?hr ?_; (case hd => rfl); (case hg => rfl); (case hr => first | (go_simp; done) | (go_simp; rfl)); intro gb106 hg w2 hbox hb; have BK106 := yA (hbox); have GW106 := yA ((by rw [hg]; exact (yX (mB HB.out)) : w.heap.size ≤ gb106)); have GE106 := yA ((by rw [hg]; exact (yX (mB HB.out)) : w.heap.size ≤ gb106)); replace HB := yA (zD (mB HB.out) hb); clear hb hbox hg))
 repeat (go_quiet (first | ((with_reducible refine gate_dst (N := 1) rfl ?_); refine box_event ?hg (N := 1) ?hd (cs := #[.int .i64 a0_0, .slice A0_1 l0_1.length c0_1, .slice A0_2 l0_2.length c0_2]) (t := 32) ?hr ?_; (case hd => rfl); (case hg => rfl); (case hr => first | (go_simp; done) | (go_simp; rfl)); intro gb106 hg w2 hbox hb; have BK106 := yA (hbox); have GW106 := yA ((by rw [hg]; exact (yX (mB HB.out)) : w.heap.size ≤ gb106)); have GE106 := yA ((by rw [hg]; exact (yX (mB HB.out)) : w.heap.size ≤ gb106)); replace HB := yA (zD (mB HB.out) hb); clear hb hbox hg)); try go_wp2_with (first | ((with_reducible refine gate_dst (N := 1) rfl ?_); refine box_event ?hg (N := 1) ?hd (cs := #[.int .i64 a0_0, .slice A0_1 l0_1.length c0_1, .slice A0_2 l0_2.length c0_2]) (t := 32) ?hr ?_; (case hd => rfl); (case hg => rfl); (case hr => first | (go_simp; done) | (go_simp; rfl)); intro gb106 hg w2 hbox hb; have BK106 := yA (hbox); have GW106 := yA ((by rw [hg]; exact (yX (mB HB.out)) : w.heap.size ≤ gb106)); have GE106 := yA ((by rw [hg]; exact (yX (mB HB.out)) : w.heap.size ≤ gb106)); replace HB := yA (zD (mB HB.out) hb); clear hb hbox hg)))
 go_loopg [3] k (fun kq v3 w' => ∃ (x3_1 : Int), v3 = .int .i64 x3_1 ∧ Aside0 (spec_IsSequence.l0 kq x3_1 a0_0 l0_1 l0_2 = some r) ∧ Aside0 (kq ≤ k) ∧ Aside0 (w'.heap[gb106]? = some (.cells #[.int .i64 a0_0, (.slice A0_1 l0_1.length c0_1), (.slice A0_2 l0_2.length c0_2)] 32 (0, 0))) ∧ Aside0 (Below w.heap.size w w'))
 case atStart => exact ⟨(0), (by first | rfl | (simp; done) | (simp [*]; done)), H', ⟨zT _⟩, ⟨mK BK106.out⟩, ⟨by repeat (first | (with_reducible first | exact HB.out | apply yO | apply yN | apply yP | refine yQ ?_ GE106.out) | exact HB.out)⟩⟩
 case round =>
  clear H'
  try clear p2
  obtain ⟨x3_1, rfl, HA, HK1, BK106, HB⟩ := hrel
  cases gk with
  | zero => exact absurd HA.out (by simp [spec_IsSequence.l0])
  | succ k1 =>
   have H := HA.out
   clear HA
   simp only [spec_IsSequence.l0] at H
   by_cases c3 : x3_1 < (l0_1.length : Int)
   ·rw [if_pos c3] at H
    have c3b0 : decide (x3_1 < (l0_1.length : Int)) = true := zH c3
    clear c3
    obtain ⟨c4, H⟩ := iP H
    have c4b0 : decide (0 ≤ x3_1) = true := zH c4
    clear c4
    by_cases c5 : ((rd_L1 l0_1 x3_1).length : Int) = a0_0
    ·rw [if_pos c5] at H
     have c5b0 : (((rd_L1 l0_1 x3_1).length : Int) == a0_0) = true := beq_iff_eq.mpr c5
     have c5b1 : (((rd_L1 l0_1 x3_1).length : Int) != a0_0) = false := bne_eq_false_iff_eq.mpr c5
     clear c5
     have H' := yA H
     clear H
     obtain ⟨hcz6_0, hcz6_1, hcz6_2⟩ := cz3 BK106.out
     obtain ⟨hfz6_0, hfz6_1, hfz6_2⟩ := fz3 BK106.out
     have p107 : 0 ≤ (x3_1 : Int) := zG (by assumption)
     have q107 : x3_1 < (l0_1.length : Int) := zG (by assumption)
     obtain ⟨ad107, A107_0, c107_0, e107, hx107_0, hl107_0, hi107_0⟩ := at_L1 HR0_1.out x3_1 p107 q107
     cases e107
     try replace hx107_0 := (HB.out.cell (zE w _ hx107_0)).trans hx107_0
     have HR107_0 := yA hi107_0
     have HC107_0 := yA hl107_0
     clear hi107_0 hl107_0
     replace p107 := eq_true p107
     replace q107 := eq_true q107
     go_wp2
     repeat (go_quiet (fail); try go_wp2)
     go_loopg [4] k1 (fun kq v4 w' => ∃ (x4_2 : Int), v4 = .int .i64 x4_2 ∧ Aside0 (spec_IsSequence.l1 kq x3_1 x4_2 a0_0 l0_1 l0_2 = some r) ∧ Aside0 (kq ≤ k1) ∧ Aside0 (w'.heap[gb106]? = some (.cells #[.int .i64 a0_0, (.slice (some ad107) l0_1.length c0_1), (.slice A0_2 l0_2.length c0_2)] 32 (0, 0))) ∧ Aside0 (Below w.heap.size w w'))
     case atStart => exact ⟨(0), (by first | rfl | (simp; done) | (simp [*]; done)), H', ⟨zT _⟩, ⟨mK BK106.out⟩, ⟨by repeat (first | (with_reducible first | exact HB.out | apply yO | apply yN | apply yP | refine yQ ?_ GE106.out) | exact HB.out)⟩⟩
     case round =>
      clear H'
      (try clear c1);(try clear p1);(try clear q1);(try clear hx1);(try clear p2);(try clear c3);(try clear c3b0);(try clear c4);(try clear c4b0);(try clear c5);(try clear c5b0);(try clear c5b1);(try clear hcz6_0);(try clear hcz6_1);(try clear hcz6_2);(try clear hfz6_0);(try clear hfz6_1);(try clear hfz6_2);(try clear hx107_0);(try clear p107);(try clear p2);(try clear q107)
      obtain ⟨x4_2, rfl, HA, HK2, BK106, HB⟩ := hrel
      cases gk with
      | zero => exact absurd HA.out (by simp [spec_IsSequence.l1])
      | succ k2 =>
       have H := HA.out
       clear HA
       simp only [spec_IsSequence.l1] at H
       obtain ⟨c7, H⟩ := iP H
       have c7b0 : decide (0 ≤ x3_1) = true := zH c7
       clear c7
       obtain ⟨c8, H⟩ := iP H
       have c8b0 : decide (x3_1 < (l0_1.length : Int)) = true := zH c8
       clear c8
       by_cases c9 : x4_2 < ((rd_L1 l0_1 x3_1).length : Int)
       ·rw [if_pos c9] at H
        have c9b0 : decide (x4_2 < ((rd_L1 l0_1 x3_1).length : Int)) = true := zH c9
        clear c9
        obtain ⟨c10, H⟩ := iP H
        have c10b0 : decide (0 ≤ x4_2) = true := zH c10
        clear c10
        by_cases c11 : (rd (rd_L1 l0_1 x3_1) x4_2) < 0
        ·rw [if_pos c11] at H
         have c11b0 : decide ((rd (rd_L1 l0_1 x3_1) x4_2) < 0) = true := zH c11
         clear c11
         obtain rfl := zU H
         obtain ⟨hcz12_0, hcz12_1, hcz12_2⟩ := cz3 BK106.out
         obtain ⟨hfz12_0, hfz12_1, hfz12_2⟩ := fz3 BK106.out
         have p108 : 0 ≤ (x3_1 : Int) := zG (by assumption)
         have q108 : x3_1 < (l0_1.length : Int) := zG (by assumption)
         obtain ⟨ad108, A108_0, c108_0, e108, hx108_0, hl108_0, hi108_0⟩ := at_L1 HR0_1.out x3_1 p108 q108
         obtain rfl : ad107 = ad108 := (by injection e108)
         try replace hx108_0 := (HB.out.cell (zE w _ hx108_0)).trans hx108_0
         have HR108_0 := yA hi108_0
         have HC108_0 := yA hl108_0
         clear hi108_0 hl108_0
         replace p108 := eq_true p108
         replace q108 := eq_true q108
         have p109 : 0 ≤ (x3_1 : Int) := zG (by assumption)
         have q109 : x3_1 < (l0_1.length : Int) := zG (by assumption)
         obtain ⟨ad109, A109_0, c109_0, e109, hx109_0, hl109_0, hi109_0⟩ := at_L1 HR0_1.out x3_1 p109 q109
         obtain rfl : ad107 = ad109 := (by injection e109)
         try replace hx109_0 := (HB.out.cell (zE w _ hx109_0)).trans hx109_0
         have HR109_0 := yA hi109_0
         have HC109_0 := yA hl109_0
         clear hi109_0 hl109_0
         replace p109 := eq_true p109
         replace q109 := eq_true q109
         have ea_ := zU (hx108_0.symm.trans hx109_0)
         injection ea_ with ea_ en_ ec_
         subst ea_
         subst ec_
         clear en_
         have p110 : 0 ≤ (x4_2 : Int) := zG (by assumption)
         have q110 : x4_2 < ((rd_L1 l0_1 x3_1).length : Int) := zG (by assumption)
         obtain ⟨ad110, e110, hx110_0⟩ := Kd.at_int HR109_0.out x4_2 p110 q110
         cases e110
         try replace hx110_0 := (HB.out.cell (zE w _ hx110_0)).trans hx110_0
         replace p110 := eq_true p110
         replace q110 := eq_true q110
         go_wp2
         repeat (go_quiet (fail); try go_wp2)
         go_ret
         exact ⟨by first | rfl | (simp [errW_none, errW_some] <;> rfl) | (simp [*, errW_none, errW_some] <;> rfl), by repeat (first | (with_reducible first | exact HB.out | apply yO | apply yN | apply yP | refine yQ ?_ GE106.out) | exact HB.out)⟩
        ·rw [if_neg c11] at H
         have c11b0 : decide ((rd (rd_L1 l0_1 x3_1) x4_2) < 0) = false := decide_eq_false c11
         clear c11
         by_cases c13 : (rd (rd_L1 l0_1 x3_1) x4_2) ≥ (l0_1.length : Int)
         ·rw [if_pos c13] at H
          have c13b0 : decide ((l0_1.length : Int) ≤ (rd (rd_L1 l0_1 x3_1) x4_2)) = true := zH c13
          clear c13
          obtain rfl := zU H
          obtain ⟨hcz14_0, hcz14_1, hcz14_2⟩ := cz3 BK106.out
          obtain ⟨hfz14_0, hfz14_1, hfz14_2⟩ := fz3 BK106.out
          have p108 : 0 ≤ (x3_1 : Int) := zG (by assumption)
          have q108 : x3_1 < (l0_1.length : Int) := zG (by assumption)
          obtain ⟨ad108, A108_0, c108_0, e108, hx108_0, hl108_0, hi108_0⟩ := at_L1 HR0_1.out x3_1 p108 q108
          obtain rfl : ad107 = ad108 := (by injection e108)
          try replace hx108_0 := (HB.out.cell (zE w _ hx108_0)).trans hx108_0
          have HR108_0 := yA hi108_0
          have HC108_0 := yA hl108_0
          clear hi108_0 hl108_0
          replace p108 := eq_true p108
          replace q108 := eq_true q108
          have p109 : 0 ≤ (x3_1 : Int) := zG (by assumption)
          have q109 : x3_1 < (l0_1.length : Int) := zG (by assumption)
          obtain ⟨ad109, A109_0, c109_0, e109, hx109_0, hl109_0, hi109_0⟩ := at_L1 HR0_1.out x3_1 p109 q109
          obtain rfl : ad107 = ad109 := (by injection e109)
          try replace hx109_0 := (HB.out.cell (zE w _ hx109_0)).trans hx109_0
          have HR109_0 := yA hi109_0
          have HC109_0 := yA hl109_0
          clear hi109_0 hl109_0
          replace p109 := eq_true p109
          replace q109 := eq_true q109
          have ea_ := zU (hx108_0.symm.trans hx109_0)
          injection ea_ with ea_ en_ ec_
          subst ea_
          subst ec_
          clear en_
          have p110 : 0 ≤ (x4_2 : Int) := zG (by assumption)
          have q110 : x4_2 < ((rd_L1 l0_1 x3_1).length : Int) := zG (by assumption)
          obtain ⟨ad110, e110, hx110_0⟩ := Kd.at_int HR109_0.out x4_2 p110 q110
          cases e110
          try replace hx110_0 := (HB.out.cell (zE w _ hx110_0)).trans hx110_0
          replace p110 := eq_true p110
          replace q110 := eq_true q110
          have p111 : 0 ≤ (x3_1 : Int) := zG (by assumption)
          have q111 : x3_1 < (l0_1.length : Int) := zG (by assumption)
          obtain ⟨ad111, A111_0, c111_0, e111, hx111_0, hl111_0, hi111_0⟩ := at_L1 HR0_1.out x3_1 p111 q111
          obtain rfl : ad107 = ad111 := (by injection e111)
          try replace hx111_0 := (HB.out.cell (zE w _ hx111_0)).trans hx111_0
          have HR111_0 := yA hi111_0
          have HC111_0 := yA hl111_0
          clear hi111_0 hl111_0
          replace p111 := eq_true p111
          replace q111 := eq_true q111
          have ea_ := zU (hx108_0.symm.trans hx111_0)
          injection ea_ with ea_ en_ ec_
          subst ea_
          subst ec_
          clear en_
          have p112 : 0 ≤ (x4_2 : Int) := zG (by assumption)
          have q112 : x4_2 < ((rd_L1 l0_1 x3_1).length : Int) := zG (by assumption)
          obtain ⟨ad112, e112, hx112_0⟩ := Kd.at_int HR111_0.out x4_2 p112 q112
          cases e112
          try replace hx112_0 := (HB.out.cell (zE w _ hx112_0)).trans hx112_0
          replace p112 := eq_true p112
          replace q112 := eq_true q112
          go_wp2
          repeat (go_quiet (fail); try go_wp2)
          go_ret
          exact ⟨by first | rfl | (simp [errW_none, errW_some] <;> rfl) | (simp [*, errW_none, errW_some] <;> rfl), by repeat (first | (with_reducible first | exact HB.out | apply yO | apply yN | apply yP | refine yQ ?_ GE106.out) | exact HB.out)⟩
         ·rw [if_neg c13] at H
          have c13b0 : decide ((l0_1.length : Int) ≤ (rd (rd_L1 l0_1 x3_1) x4_2)) = false := decide_eq_false c13
          clear c13
          have H' := yA H
          clear H
          obtain ⟨hcz15_0, hcz15_1, hcz15_2⟩ := cz3 BK106.out
          obtain ⟨hfz15_0, hfz15_1, hfz15_2⟩ := fz3 BK106.out
          have p108 : 0 ≤ (x3_1 : Int) := zG (by assumption)
          have q108 : x3_1 < (l0_1.length : Int) := zG (by assumption)
          obtain ⟨ad108, A108_0, c108_0, e108, hx108_0, hl108_0, hi108_0⟩ := at_L1 HR0_1.out x3_1 p108 q108
          obtain rfl : ad107 = ad108 := (by injection e108)
          try replace hx108_0 := (HB.out.cell (zE w _ hx108_0)).trans hx108_0
          have HR108_0 := yA hi108_0
          have HC108_0 := yA hl108_0
          clear hi108_0 hl108_0
          replace p108 := eq_true p108
          replace q108 := eq_true q108
          have p109 : 0 ≤ (x3_1 : Int) := zG (by assumption)
          have q109 : x3_1 < (l0_1.length : Int) := zG (by assumption)
          obtain ⟨ad109, A109_0, c109_0, e109, hx109_0, hl109_0, hi109_0⟩ := at_L1 HR0_1.out x3_1 p109 q109
          obtain rfl : ad107 = ad109 := (by injection e109)
          try replace hx109_0 := (HB.out.cell (zE w _ hx109_0)).trans hx109_0
          have HR109_0 := yA hi109_0
          have HC109_0 := yA hl109_0
          clear hi109_0 hl109_0
          replace p109 := eq_true p109
          replace q109 := eq_true q109
          have ea_ := zU (hx108_0.symm.trans hx109_0)
          injection ea_ with ea_ en_ ec_
          subst ea_
          subst ec_
          clear en_
          have p110 : 0 ≤ (x4_2 : Int) := zG (by assumption)
          have q110 : x4_2 < ((rd_L1 l0_1 x3_1).length : Int) := zG (by assumption)
          obtain ⟨ad110, e110, hx110_0⟩ := Kd.at_int HR109_0.out x4_2 p110 q110
          cases e110
          try replace hx110_0 := (HB.out.cell (zE w _ hx110_0)).trans hx110_0
          replace p110 := eq_true p110
          replace q110 := eq_true q110
          have p111 : 0 ≤ (x3_1 : Int) := zG (by assumption)
          have q111 : x3_1 < (l0_1.length : Int) := zG (by assumption)
          obtain ⟨ad111, A111_0, c111_0, e111, hx111_0, hl111_0, hi111_0⟩ := at_L1 HR0_1.out x3_1 p111 q111
          obtain rfl : ad107 = ad111 := (by injection e111)
          try replace hx111_0 := (HB.out.cell (zE w _ hx111_0)).trans hx111_0
          have HR111_0 := yA hi111_0
          have HC111_0 := yA hl111_0
          clear hi111_0 hl111_0
          replace p111 := eq_true p111
          replace q111 := eq_true q111
          have ea_ := zU (hx108_0.symm.trans hx111_0)
          injection ea_ with ea_ en_ ec_
          subst ea_
          subst ec_
          clear en_
          have p112 : 0 ≤ (x4_2 : Int) := zG (by assumption)
          have q112 : x4_2 < ((rd_L1 l0_1 x3_1).length : Int) := zG (by assumption)
          obtain ⟨ad112, e112, hx112_0⟩ := Kd.at_int HR111_0.out x4_2 p112 q112
          cases e112
          try replace hx112_0 := (HB.out.cell (zE w _ hx112_0)).trans hx112_0
          replace p112 := eq_true p112
          replace q112 := eq_true q112
          go_wp2
          repeat (go_quiet (fail); try go_wp2)
          go_roundg k2
          case measure => have := HK1.out; have := HK2.out; omega
          case rel => exact ⟨(wrap64 (x4_2 + 1)), (by first | rfl | (simp; done) | (simp [*]; done)), H', ⟨by have := HK1.out; have := HK2.out; omega⟩, ⟨mK BK106.out⟩, ⟨by repeat (first | (with_reducible first | exact HB.out | apply yO | apply yN | apply yP | refine yQ ?_ GE106.out) | exact HB.out)⟩⟩
       ·rw [if_neg c9] at H
        have c9b0 : decide (x4_2 < ((rd_L1 l0_1 x3_1).length : Int)) = false := decide_eq_false c9
        clear c9
        have H' := yA H
        clear H
        obtain ⟨hcz16_0, hcz16_1, hcz16_2⟩ := cz3 BK106.out
        obtain ⟨hfz16_0, hfz16_1, hfz16_2⟩ := fz3 BK106.out
        have p108 : 0 ≤ (x3_1 : Int) := zG (by assumption)
        have q108 : x3_1 < (l0_1.length : Int) := zG (by assumption)
        obtain ⟨ad108, A108_0, c108_0, e108, hx108_0, hl108_0, hi108_0⟩ := at_L1 HR0_1.out x3_1 p108 q108
        obtain rfl : ad107 = ad108 := (by injection e108)
        try replace hx108_0 := (HB.out.cell (zE w _ hx108_0)).trans hx108_0
        have HR108_0 := yA hi108_0
        have HC108_0 := yA hl108_0
        clear hi108_0 hl108_0
        replace p108 := eq_true p108
        replace q108 := eq_true q108
        go_wp2
        repeat (go_quiet (fail); try go_wp2)
        go_roundg k2
        case measure => have := HK1.out; have := HK2.out; omega
        case rel => exact ⟨(wrap64 (x3_1 + 1)), (by first | rfl | (simp; done) | (simp [*]; done)), H', ⟨by have := HK1.out; have := HK2.out; omega⟩, ⟨mK BK106.out⟩, ⟨by repeat (first | (with_reducible first | exact HB.out | apply yO | apply yN | apply yP | refine yQ ?_ GE106.out) | exact HB.out)⟩⟩
    ·rw [if_neg c5] at H
     have c5b0 : (((rd_L1 l0_1 x3_1).length : Int) == a0_0) = false := beq_eq_false_iff_ne.mpr c5
     have c5b1 : (((rd_L1 l0_1 x3_1).length : Int) != a0_0) = true := bne_iff_ne.mpr c5
     obtain rfl := zU H
     obtain ⟨hcz17_0, hcz17_1, hcz17_2⟩ := cz3 BK106.out
     obtain ⟨hfz17_0, hfz17_1, hfz17_2⟩ := fz3 BK106.out
     have p107 : 0 ≤ (x3_1 : Int) := zG (by assumption)
     have q107 : x3_1 < (l0_1.length : Int) := zG (by assumption)
     obtain ⟨ad107, A107_0, c107_0, e107, hx107_0, hl107_0, hi107_0⟩ := at_L1 HR0_1.out x3_1 p107 q107
     cases e107
     try replace hx107_0 := (HB.out.cell (zE w _ hx107_0)).trans hx107_0
     have HR107_0 := yA hi107_0
     have HC107_0 := yA hl107_0
     clear hi107_0 hl107_0
     replace p107 := eq_true p107
     replace q107 := eq_true q107
     go_wp2
     repeat (go_quiet (fail); try go_wp2)
     go_ret
     exact ⟨by first | rfl | (simp [errW_none, errW_some] <;> rfl) | (simp [*, errW_none, errW_some] <;> rfl), by repeat (first | (with_reducible first | exact HB.out | apply yO | apply yN | apply yP | refine yQ ?_ GE106.out) | exact HB.out)⟩
   ·rw [if_neg c3] at H
    have c3b0 : decide (x3_1 < (l0_1.length : Int)) = false := decide_eq_false c3
    clear c3
    have H' := yA H
    clear H
    obtain ⟨hcz18_0, hcz18_1, hcz18_2⟩ := cz3 BK106.out
    obtain ⟨hfz18_0, hfz18_1, hfz18_2⟩ := fz3 BK106.out
    go_wp2
    repeat (go_quiet (fail); try go_wp2)
    go_loopg [5] k1 (fun kq v5 w' => ∃ (x5_2 : Int), v5 = .int .i64 x5_2 ∧ Aside0 (spec_IsSequence.l2 kq x5_2 a0_0 l0_1 l0_2 = some r) ∧ Aside0 (kq ≤ k1) ∧ Aside0 (w'.heap[gb106]? = some (.cells #[.int .i64 a0_0, (.slice A0_1 l0_1.length c0_1), (.slice A0_2 l0_2.length c0_2)] 32 (0, 0))) ∧ Aside0 (Below w.heap.size w w'))
    case atStart => exact ⟨(0), (by first | rfl | (simp; done) | (simp [*]; done)), H', ⟨zT _⟩, ⟨mK BK106.out⟩, ⟨by repeat (first | (with_reducible first | exact HB.out | apply yO | apply yN | apply yP | refine yQ ?_ GE106.out) | exact HB.out)⟩⟩
    case round =>
     clear H'
     (try clear c1);(try clear p1);(try clear q1);(try clear hx1);(try clear p2);(try clear c3);(try clear c3b0);(try clear c4);(try clear c4b0);(try clear c5);(try clear c5b0);(try clear c5b1);(try clear p6);(try clear c7);(try clear c7b0);(try clear c8);(try clear c8b0);(try clear c9);(try clear c9b0);(try clear c10);(try clear c10b0);(try clear p10);(try clear q10);(try clear hx10);(try clear c11);(try clear c11b0);(try clear p11);(try clear q11);(try clear hx11);(try clear c13);(try clear c13b0);(try clear hcz12_0);(try clear hcz12_1);(try clear hcz12_2);(try clear hcz14_0);(try clear hcz14_1);(try clear hcz14_2);(try clear hcz15_0);(try clear hcz15_1);(try clear hcz15_2);(try clear hcz16_0);(try clear hcz16_1);(try clear hcz16_2);(try clear hcz17_0);(try clear hcz17_1);(try clear hcz17_2);(try clear hcz18_0);(try clear hcz18_1);(try clear hcz18_2);(try clear hcz6_0);(try clear hcz6_1);(try clear hcz6_2);(try clear hfz12_0);(try clear hfz12_1);(try clear hfz12_2);(try clear hfz14_0);(try clear hfz14_1);(try clear hfz14_2);(try clear hfz15_0);(try clear hfz15_1);(try clear hfz15_2);(try clear hfz16_0);(try clear hfz16_1);(try clear hfz16_2);(try clear hfz17_0);(try clear hfz17_1);(try clear hfz17_2);(try clear hfz18_0);(try clear hfz18_1);(try clear hfz18_2);(try clear hfz6_0);(try clear hfz6_1);(try clear hfz6_2);(try clear hx107_0);(try clear hx108_0);(try clear hx109_0);(try clear hx110_0);(try clear hx111_0);(try clear hx112_0);(try clear p1);(try clear p107);(try clear p108);(try clear p109);(try clear p110);(try clear p111);(try clear p112);(try clear p2);(try clear q1);(try clear q107);(try clear q108);(try clear q109);(try clear q110);(try clear q111);(try clear q112)
     obtain ⟨x5_2, rfl, HA, HK2, BK106, HB⟩ := hrel
     cases gk with
     | zero => exact absurd HA.out (by simp [spec_IsSequence.l2])
     | succ k2 =>
      have H := HA.out
      clear HA
      simp only [spec_IsSequence.l2] at H
      by_cases c19 : x5_2 < (l0_2.length : Int)
      ·rw [if_pos c19] at H
       have c19b0 : decide (x5_2 < (l0_2.length : Int)) = true := zH c19
       clear c19
       obtain ⟨c20, H⟩ := iP H
       have c20b0 : decide (0 ≤ x5_2) = true := zH c20
       clear c20
       obtain ⟨t114, A21, H⟩ := bE H
       by_cases c22 : t114 = true
       ·subst c22
        replace H := iT H
        have H' := yA H
        clear H
        obtain ⟨hcz23_0, hcz23_1, hcz23_2⟩ := cz3 BK106.out
        obtain ⟨hfz23_0, hfz23_1, hfz23_2⟩ := fz3 BK106.out
        have p113 : 0 ≤ (x5_2 : Int) := zG (by assumption)
        have q113 : x5_2 < (l0_2.length : Int) := zG (by assumption)
        obtain ⟨ad113, e113, hx113_0⟩ := Kd.at_int HR0_2.out x5_2 p113 q113
        cases e113
        try replace hx113_0 := (HB.out.cell (zE w _ hx113_0)).trans hx113_0
        replace p113 := eq_true p113
        replace q113 := eq_true q113
        go_wp2_with (first | (go_at_call 39; (with_reducible refine (spec_l1In.calls (rd l0_2 x5_2) 0 3 true _ A21.out).mono ?_); rintro e w' ⟨rfl, ⟨nd, rfl⟩⟩; (try first | exact ⟨rfl, _, World.drewN_drewN _ _ _⟩ | exact ⟨rfl, _, Eq.trans (World.drewN_drewN _ _ _) (congrArg (World.drewN _) (Nat.add_assoc _ _ _))⟩)))
        repeat (go_quiet (first | (go_at_call 39; (with_reducible refine (spec_l1In.calls (rd l0_2 x5_2) 0 3 true _ A21.out).mono ?_); rintro e w' ⟨rfl, ⟨nd, rfl⟩⟩; (try first | exact ⟨rfl, _, World.drewN_drewN _ _ _⟩ | exact ⟨rfl, _, Eq.trans (World.drewN_drewN _ _ _) (congrArg (World.drewN _) (Nat.add_assoc _ _ _))⟩))); try go_wp2_with (first | (go_at_call 39; (with_reducible refine (spec_l1In.calls (rd l0_2 x5_2) 0 3 true _ A21.out).mono ?_); rintro e w' ⟨rfl, ⟨nd, rfl⟩⟩; (try first | exact ⟨rfl, _, World.drewN_drewN _ _ _⟩ | exact ⟨rfl, _, Eq.trans (World.drewN_drewN _ _ _) (congrArg (World.drewN _) (Nat.add_assoc _ _ _))⟩))))
        go_roundg k2
        case measure => have := HK1.out; have := HK2.out; omega
        case rel => exact ⟨(wrap64 (x5_2 + 1)), (by first | rfl | (simp; done) | (simp [*]; done)), H', ⟨by have := HK1.out; have := HK2.out; omega⟩, ⟨mK BK106.out⟩, ⟨by repeat (first | (with_reducible first | exact HB.out | apply yO | apply yN | apply yP | refine yQ ?_ GE106.out) | exact HB.out)⟩⟩
       ·replace c22 := Bool.eq_false_iff.mpr c22
        subst c22
        replace H := iF H
        obtain rfl := zU H
        obtain ⟨hcz24_0, hcz24_1, hcz24_2⟩ := cz3 BK106.out
        obtain ⟨hfz24_0, hfz24_1, hfz24_2⟩ := fz3 BK106.out
        have p113 : 0 ≤ (x5_2 : Int) := zG (by assumption)
        have q113 : x5_2 < (l0_2.length : Int) := zG (by assumption)
        obtain ⟨ad113, e113, hx113_0⟩ := Kd.at_int HR0_2.out x5_2 p113 q113
        cases e113
        try replace hx113_0 := (HB.out.cell (zE w _ hx113_0)).trans hx113_0
        replace p113 := eq_true p113
        replace q113 := eq_true q113
        go_wp2_with (first | (go_at_call 39; (with_reducible refine (spec_l1In.calls (rd l0_2 x5_2) 0 3 false _ A21.out).mono ?_); rintro e w' ⟨rfl, ⟨nd, rfl⟩⟩; (try first | exact ⟨rfl, _, World.drewN_drewN _ _ _⟩ | exact ⟨rfl, _, Eq.trans (World.drewN_drewN _ _ _) (congrArg (World.drewN _) (Nat.add_assoc _ _ _))⟩)))
        repeat (go_quiet (first | (go_at_call 39; (with_reducible refine (spec_l1In.calls (rd l0_2 x5_2) 0 3 false _ A21.out).mono ?_); rintro e w' ⟨rfl, ⟨nd, rfl⟩⟩; (try first | exact ⟨rfl, _, World.drewN_drewN _ _ _⟩ | exact ⟨rfl, _, Eq.trans (World.drewN_drewN _ _ _) (congrArg (World.drewN _) (Nat.add_assoc _ _ _))⟩))); try go_wp2_with (first | (go_at_call 39; (with_reducible refine (spec_l1In.calls (rd l0_2 x5_2) 0 3 false _ A21.out).mono ?_); rintro e w' ⟨rfl, ⟨nd, rfl⟩⟩; (try first | exact ⟨rfl, _, World.drewN_drewN _ _ _⟩ | exact ⟨rfl, _, Eq.trans (World.drewN_drewN _ _ _) (congrArg (World.drewN _) (Nat.add_assoc _ _ _))⟩))))
        go_ret
        exact ⟨by first | rfl | (simp [errW_none, errW_some] <;> rfl) | (simp [*, errW_none, errW_some] <;> rfl), by repeat (first | (with_reducible first | exact HB.out | apply yO | apply yN | apply yP | refine yQ ?_ GE106.out) | exact HB.out)⟩
      ·rw [if_neg c19] at H
       have c19b0 : decide (x5_2 < (l0_2.length : Int)) = false := decide_eq_false c19
       clear c19
       obtain ⟨t115, A25, H⟩ := bE H
       by_cases c26 : t115 = true
       ·subst c26
        replace H := iT H
        obtain ⟨t116, A27, H⟩ := bE H
        by_cases c28 : t116 = true
        ·subst c28
         replace H := iT H
         obtain rfl := zU H
         obtain ⟨hcz29_0, hcz29_1, hcz29_2⟩ := cz3 BK106.out
         obtain ⟨hfz29_0, hfz29_1, hfz29_2⟩ := fz3 BK106.out
         go_wp2_with (first | (go_at_call 39; (with_reducible refine (spec_l1In.calls a0_0 2 4 true _ A25.out).mono ?_); rintro e w' ⟨rfl, ⟨nd, rfl⟩⟩; (try first | exact ⟨rfl, _, World.drewN_drewN _ _ _⟩ | exact ⟨rfl, _, Eq.trans (World.drewN_drewN _ _ _) (congrArg (World.drewN _) (Nat.add_assoc _ _ _))⟩)) | (go_at_call 39; (with_reducible refine (spec_l1In.calls (l0_1.length : Int) 1 16 true _ A27.out).mono ?_); rintro e w' ⟨rfl, ⟨nd, rfl⟩⟩; (try first | exact ⟨rfl, _, World.drewN_drewN _ _ _⟩ | exact ⟨rfl, _, Eq.trans (World.drewN_drewN _ _ _) (congrArg (World.drewN _) (Nat.add_assoc _ _ _))⟩)))
         repeat (go_quiet (first | (go_at_call 39; (with_reducible refine (spec_l1In.calls a0_0 2 4 true _ A25.out).mono ?_); rintro e w' ⟨rfl, ⟨nd, rfl⟩⟩; (try first | exact ⟨rfl, _, World.drewN_drewN _ _ _⟩ | exact ⟨rfl, _, Eq.trans (World.drewN_drewN _ _ _) (congrArg (World.drewN _) (Nat.add_assoc _ _ _))⟩)) | (go_at_call 39; (with_reducible refine (spec_l1In.calls (l0_1.length : Int) 1 16 true _ A27.out).mono ?_); rintro e w' ⟨rfl, ⟨nd, rfl⟩⟩; (try first | exact ⟨rfl, _, World.drewN_drewN _ _ _⟩ | exact ⟨rfl, _, Eq.trans (World.drewN_drewN _ _ _) (congrArg (World.drewN _) (Nat.add_assoc _ _ _))⟩))); try go_wp2_with (first | (go_at_call 39; (with_reducible refine (spec_l1In.calls a0_0 2 4 true _ A25.out).mono ?_); rintro e w' ⟨rfl, ⟨nd, rfl⟩⟩; (try first | exact ⟨rfl, _, World.drewN_drewN _ _ _⟩ | exact ⟨rfl, _, Eq.trans (World.drewN_drewN _ _ _) (congrArg (World.drewN _) (Nat.add_assoc _ _ _))⟩)) | (go_at_call 39; (with_reducible refine (spec_l1In.calls (l0_1.length : Int) 1 16 true _ A27.out).mono ?_); rintro e w' ⟨rfl, ⟨nd, rfl⟩⟩; (try first | exact ⟨rfl, _, World.drewN_drewN _ _ _⟩ | exact ⟨rfl, _, Eq.trans (World.drewN_drewN _ _ _) (congrArg (World.drewN _) (Nat.add_assoc _ _ _))⟩))))
         go_ret
         exact ⟨by first | rfl | (simp [errW_none, errW_some] <;> rfl) | (simp [*, errW_none, errW_some] <;> rfl), by repeat (first | (with_reducible first | exact HB.out | apply yO | apply yN | apply yP | refine yQ ?_ GE106.out) | exact HB.out)⟩
        ·replace c28 := Bool.eq_false_iff.mpr c28
         subst c28
         replace H := iF H
         obtain rfl := zU H
         obtain ⟨hcz30_0, hcz30_1, hcz30_2⟩ := cz3 BK106.out
         obtain ⟨hfz30_0, hfz30_1, hfz30_2⟩ := fz3 BK106.out
         go_wp2_with (first | (go_at_call 39; (with_reducible refine (spec_l1In.calls a0_0 2 4 true _ A25.out).mono ?_); rintro e w' ⟨rfl, ⟨nd, rfl⟩⟩; (try first | exact ⟨rfl, _, World.drewN_drewN _ _ _⟩ | exact ⟨rfl, _, Eq.trans (World.drewN_drewN _ _ _) (congrArg (World.drewN _) (Nat.add_assoc _ _ _))⟩)) | (go_at_call 39; (with_reducible refine (spec_l1In.calls (l0_1.length : Int) 1 16 false _ A27.out).mono ?_); rintro e w' ⟨rfl, ⟨nd, rfl⟩⟩; (try first | exact ⟨rfl, _, World.drewN_drewN _ _ _⟩ | exact ⟨rfl, _, Eq.trans (World.drewN_drewN _ _ _) (congrArg (World.drewN _) (Nat.add_assoc _ _ _))⟩)))
         repeat (go_quiet (first | (go_at_call 39; (with_reducible refine (spec_l1In.calls a0_0 2 4 true _ A25.out).mono ?_); rintro e w' ⟨rfl, ⟨nd, rfl⟩⟩; (try first | exact ⟨rfl, _, World.drewN_drewN _ _ _⟩ | exact ⟨rfl, _, Eq.trans (World.drewN_drewN _ _ _) (congrArg (World.drewN _) (Nat.add_assoc _ _ _))⟩)) | (go_at_call 39; (with_reducible refine (spec_l1In.calls (l0_1.length : Int) 1 16 false _ A27.out).mono ?_); rintro e w' ⟨rfl, ⟨nd, rfl⟩⟩; (try first | exact ⟨rfl, _, World.drewN_drewN _ _ _⟩ | exact ⟨rfl, _, Eq.trans (World.drewN_drewN _ _ _) (congrArg (World.drewN _) (Nat.add_assoc _ _ _))⟩))); try go_wp2_with (first | (go_at_call 39; (with_reducible refine (spec_l1In.calls a0_0 2 4 true _ A25.out).mono ?_); rintro e w' ⟨rfl, ⟨nd, rfl⟩⟩; (try first | exact ⟨rfl, _, World.drewN_drewN _ _ _⟩ | exact ⟨rfl, _, Eq.trans (World.drewN_drewN _ _ _) (congrArg (World.drewN _) (Nat.add_assoc _ _ _))⟩)) | (go_at_call 39; (with_reducible refine (spec_l1In.calls (l0_1.length : Int) 1 16 false _ A27.out).mono ?_); rintro e w' ⟨rfl, ⟨nd, rfl⟩⟩; (try first | exact ⟨rfl, _, World.drewN_drewN _ _ _⟩ | exact ⟨rfl, _, Eq.trans (World.drewN_drewN _ _ _) (congrArg (World.drewN _) (Nat.add_assoc _ _ _))⟩))))
         go_ret
         exact ⟨by first | rfl | (simp [errW_none, errW_some] <;> rfl) | (simp [*, errW_none, errW_some] <;> rfl), by repeat (first | (with_reducible first | exact HB.out | apply yO | apply yN | apply yP | refine yQ ?_ GE106.out) | exact HB.out)⟩
       ·replace c26 := Bool.eq_false_iff.mpr c26
        subst c26
        replace H := iF H
        obtain rfl := zU H
        obtain ⟨hcz31_0, hcz31_1, hcz31_2⟩ := cz3 BK106.out
        obtain ⟨hfz31_0, hfz31_1, hfz31_2⟩ := fz3 BK106.out
        go_wp2_with (first | (go_at_call 39; (with_reducible refine (spec_l1In.calls a0_0 2 4 false _ A25.out).mono ?_); rintro e w' ⟨rfl, ⟨nd, rfl⟩⟩; (try first | exact ⟨rfl, _, World.drewN_drewN _ _ _⟩ | exact ⟨rfl, _, Eq.trans (World.drewN_drewN _ _ _) (congrArg (World.drewN _) (Nat.add_assoc _ _ _))⟩)))
        repeat (go_quiet (first | (go_at_call 39; (with_reducible refine (spec_l1In.calls a0_0 2 4 false _ A25.out).mono ?_); rintro e w' ⟨rfl, ⟨nd, rfl⟩⟩; (try first | exact ⟨rfl, _, World.drewN_drewN _ _ _⟩ | exact ⟨rfl, _, Eq.trans (World.drewN_drewN _ _ _) (congrArg (World.drewN _) (Nat.add_assoc _ _ _))⟩))); try go_wp2_with (first | (go_at_call 39; (with_reducible refine (spec_l1In.calls a0_0 2 4 false _ A25.out).mono ?_); rintro e w' ⟨rfl, ⟨nd, rfl⟩⟩; (try first | exact ⟨rfl, _, World.drewN_drewN _ _ _⟩ | exact ⟨rfl, _, Eq.trans (World.drewN_drewN _ _ _) (congrArg (World.drewN _) (Nat.add_assoc _ _ _))⟩))))
        go_ret
        exact ⟨by first | rfl | (simp [errW_none, errW_some] <;> rfl) | (simp [*, errW_none, errW_some] <;> rfl), by repeat (first | (with_reducible first | exact HB.out | apply yO | apply yN | apply yP | refine yQ ?_ GE106.out) | exact HB.out)⟩

end Go.Proofs.Ytmkeicahnnlalaa.Q
