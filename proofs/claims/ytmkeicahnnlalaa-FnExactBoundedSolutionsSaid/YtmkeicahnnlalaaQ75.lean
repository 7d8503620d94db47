-- written by a program of this session
-- squeezed
-- compact
-- shrunk
import Derived.Test.YtmkeicahnnlalaaQ0
import Derived.Test.YtmkeicahnnlalaaQ5
import Derived.Test.YtmkeicahnnlalaaQ74
namespace Go.Proofs.Ytmkeicahnnlalaa.Q
open Go.RowKit Go.Proofs.YtmkeicahnnlalaaW.PrintWords Go.Proofs.YtmkeicahnnlalaaW.PrintLast Go.Proofs.YtmkeicahnnlalaaW.PrintMore
set_option linter.unusedVariables false
set_option linter.unusedSimpArgs false

/-! ### spec_StateAfter: function 128 -/
mutual
def spec_StateAfter.j0 : Nat → List Int → Bool → Int → List (List Int) → List Int → Option (Int)
 | 0, _, _, _, _, _ => none
 | k + 1, x1, x16, x901000, x901001, x901002 => if x16 = true then (some (-1)) else (spec_StateAfter.l0 k x1 0 0 x901000 x901001 x901002)
def spec_StateAfter.l0 : Nat → List Int → Int → Int → Int → List (List Int) → List Int → Option (Int)
 | 0, _, _, _, _, _, _ => none
 | k + 1, x1, x5, x6, x901000, x901001, x901002 => if x6 < (x1.length : Int) then (if 0 ≤ x5 then (if x5 < (x901001.length : Int) then (if 0 ≤ x6 then (if 0 ≤ (rd x1 x6) then (if (rd x1 x6) < ((rd_L1 x901001 x5).length : Int) then (spec_StateAfter.l0 k x1 (rd (rd_L1 x901001 x5) (rd x1 x6)) (wrap64 (x6 + 1)) x901000 x901001 x901002) else (none)) else (none)) else (none)) else (none)) else (none)) else (some x5)
end
def spec_StateAfter.f (k : Nat) (a0_0 : Int) (l0_1 : List (List Int)) (l0_2 : List Int) (l1 : List Int) : Option (Int) := (spec_IsSequence.f k a0_0 l0_1 l0_2).bind fun t901 => (if t901 = true then ((spec_AreDigits.f k l1 a0_0).bind fun t902 => (spec_StateAfter.j0 k l1 (!t902) a0_0 l0_1 l0_2)) else (spec_StateAfter.j0 k l1 true a0_0 l0_1 l0_2))
theorem spec_StateAfter.mono_l : ∀ k, (∀ y0 y1 y2 y3 y4, LeO (spec_StateAfter.j0 k y0 y1 y2 y3 y4) (spec_StateAfter.j0 (k + 1) y0 y1 y2 y3 y4)) ∧ (∀ y0 y1 y2 y3 y4 y5, LeO (spec_StateAfter.l0 k y0 y1 y2 y3 y4 y5) (spec_StateAfter.l0 (k + 1) y0 y1 y2 y3 y4 y5))
 | 0 => ⟨fun _ _ _ _ _ r h => by simp [spec_StateAfter.j0] at h, fun _ _ _ _ _ _ r h => by simp [spec_StateAfter.l0] at h⟩
 | k + 1 => by
  obtain ⟨ih0, ih1⟩ := spec_StateAfter.mono_l k
  refine ⟨?_, ?_⟩ <;> intros <;> first | unfold spec_StateAfter.j0 | unfold spec_StateAfter.l0
  all_goals repeat' (with_reducible first | exact ih0 _ _ _ _ _ | exact ih1 _ _ _ _ _ _ | exact spec_AreDigits.mono _ _ _ | exact spec_IsSequence.mono _ _ _ _ | exact LeO.refl _ | exact LeO.none _ | refine LeO.ite ?_ ?_ | refine LeO.bind ?_ fun _ => ?_)
theorem spec_StateAfter.mono : ∀ a0 a1 a2 a3 k, LeO (spec_StateAfter.f k a0 a1 a2 a3) (spec_StateAfter.f (k + 1) a0 a1 a2 a3) := by
 intro a0 a1 a2 a3 k
 obtain ⟨ih0, ih1⟩ := spec_StateAfter.mono_l k
 unfold spec_StateAfter.f
 repeat' (with_reducible first | exact ih0 _ _ _ _ _ | exact ih1 _ _ _ _ _ _ | exact spec_AreDigits.mono _ _ _ | exact spec_IsSequence.mono _ _ _ _ | exact LeO.refl _ | exact LeO.none _ | refine LeO.ite ?_ ?_ | refine LeO.bind ?_ fun _ => ?_)
set_option maxHeartbeats 8000000 in
set_option maxRecDepth 100000 in
theorem spec_StateAfter.calls (k : Nat) (a0_0 : Int) (A0_1 : Option Addr) (c0_1 : Nat) (l0_1 : List (List Int)) (A0_2 : Option Addr) (c0_2 : Nat) (l0_2 : List Int) (A1 : Option Addr) (c1 : Nat) (l1 : List Int) (r : Int) (w : World) (hr0_1 : Kd.C (Kd.slice 3 (Kd.int .i64)) w A0_1 l0_1.length l0_1) (hc0_1 : l0_1.length ≤ c0_1) (hr0_2 : Kd.C (Kd.int .i64) w A0_2 l0_2.length l0_2) (hc0_2 : l0_2.length ≤ c0_2) (hr1 : Kd.C (Kd.int .i64) w A1 l1.length l1) (hc1 : l1.length ≤ c1) (h : spec_StateAfter.f k a0_0 l0_1 l0_2 l1 = some r) :
  Calls Try.prog 128 #[.agg #[.int .i64 a0_0, .slice A0_1 l0_1.length c0_1, .slice A0_2 l0_2.length c0_2], .slice A1 l1.length c1] w fun e w' => e = .returned (.int .i64 r) ∧ Below w.heap.size w w' := by
 have hu32 := Try.underlying32
 have HR0_1 := yA hr0_1
 have HC0_1 := yA hc0_1
 clear hr0_1 hc0_1
 have HR0_2 := yA hr0_2
 have HC0_2 := yA hc0_2
 clear hr0_2 hc0_2
 have HR1 := yA hr1
 have HC1 := yA hc1
 clear hr1 hc1
 have HB := yA (zV w.heap.size w)
 have H : ((spec_IsSequence.f k a0_0 l0_1 l0_2).bind fun t901 => (if t901 = true then ((spec_AreDigits.f k l1 a0_0).bind fun t902 => (spec_StateAfter.j0 k l1 (!t902) a0_0 l0_1 l0_2)) else (spec_StateAfter.j0 k l1 true a0_0 l0_1 l0_2))) = some r := h
 clear h
 have HC3 := yA H
 clear H
 go_enter Try.func128, Try.ntmps128
 go_upto_region 1 with (first | ((with_reducible refine gate_dst (N := 2) rfl ?_); refine box_event ?hg (N := 2) ?hd (cs := #[.int .i64 a0_0, .slice A0_1 l0_1.length c0_1, .slice A0_2 l0_2.length c0_2]) (t := 32) ?hr ?_; (case hd => rfl); (case hg => rfl); (case hr => first | (go_simp; done) | (go_simp; rfl)); intro gb900 hg w4 hbox hb; have BK900 := yA (hbox); have GW900 := yA ((by rw [hg]; exact (yX (mB HB.out)) : w.heap.size ≤ gb900)); have GE900 := yA ((by rw [hg]; exact (yX (mB HB.out)) : w.heap.size ≤ gb900)); replace HB := yA (zD (mB HB.out) hb); clear hb hbox hg))
 repeat (go_quiet (first | ((with_reducible refine gate_dst (N := 2) rfl ?_); refine box_event ?hg (N := 2) ?hd (cs := #[.int .i64 a0_0, .slice A0_1 l0_1.length c0_1, .slice A0_2 l0_2.length c0_2]) (t := 32) ?hr ?_; (case hd => rfl); (case hg => rfl); (case hr => first | (go_simp; done) | (go_simp; rfl)); intro gb900 hg w4 hbox hb; have BK900 := yA (hbox); have GW900 := yA ((by rw [hg]; exact (yX (mB HB.out)) : w.heap.size ≤ gb900)); have GE900 := yA ((by rw [hg]; exact (yX (mB HB.out)) : w.heap.size ≤ gb900)); replace HB := yA (zD (mB HB.out) hb); clear hb hbox hg)); go_upto_region 1 with (first | ((with_reducible refine gate_dst (N := 2) rfl ?_); refine box_event ?hg (N := 2) ?hd (cs := #[.int .i64 a0_0, .slice A0_1 l0_1.length c0_1, .slice A0_2 l0_2.length c0_2]) (t := 32) ?hr ?_; (case hd => rfl); (case hg => rfl); (case hr => first | (go_simp; done) | (go_simp; rfl)); intro gb900 hg w4 hbox hb; have BK900 := yA (hbox); have GW900 := yA ((by rw [hg]; exact (yX (mB HB.out)) : w.heap.size ≤ gb900)); have GE900 := yA ((by rw [hg]; exact (yX (mB HB.out)) : w.heap.size ≤ gb900)); replace HB := yA (zD (mB HB.out) hb); clear hb hbox hg)))
 (try simp only [Act.put, zA, zB, zC])
 go_cut [16] (fun v16 wc => ∃ (kq : Nat) (x16_2 : Bool), v16 = .bool x16_2 ∧ Aside0 (spec_StateAfter.j0 kq l1 x16_2 a0_0 l0_1 l0_2 = some r) ∧ Aside0 (kq ≤ k) ∧ Aside0 (wc.heap[gb900]? = some (.cells #[.int .i64 a0_0, (.slice A0_1 l0_1.length c0_1), (.slice A0_2 l0_2.length c0_2)] 32 (0, 0))) ∧ Aside0 (Below w.heap.size w wc))
 case first =>
  have H := HC3.out
  clear HC3
  obtain ⟨t901, A5, H⟩ := bE H
  by_cases c6 : t901 = true
  ·subst c6
   replace H := iT H
   obtain ⟨t902, A7, H⟩ := bE H
   have H' := yA H
   clear H
   obtain ⟨hcz8_0, hcz8_1, hcz8_2⟩ := cz3 BK900.out
   obtain ⟨hfz8_0, hfz8_1, hfz8_2⟩ := fz3 BK900.out
   go_wp2_with (first | (go_at_call 92; (with_reducible refine (spec_IsSequence.calls k a0_0 _ _ l0_1 _ _ l0_2 true _ ?side1 ?side2 ?side3 ?side4 A5.out).mono ?_); (case side1 => exact mC (yM HR0_1.out HB.out)); (case side2 => exact HC0_1.out); (case side3 => exact mC (yM HR0_2.out HB.out)); (case side4 => exact HC0_2.out); rintro e w9 ⟨rfl, hb⟩; replace BK900 := yA (yU (mK BK900.out) hb); replace HB := yA (zD (by with_reducible repeat first | exact HB.out | apply yO | apply yN | apply yP | refine yQ ?_ GE900.out) hb); (try clear hb); (try clear hb2); (try clear hk); (try clear hi); have hcz10_0 : w9.cell? ⟨gb900, 0, none⟩ = some (.int .i64 a0_0) := (yV BK900.out 0).trans rfl; have hcz10_1 : w9.cell? ⟨gb900, 1, none⟩ = some (.slice A0_1 l0_1.length c0_1) := (yV BK900.out 1).trans rfl; have hcz10_2 : w9.cell? ⟨gb900, 2, none⟩ = some (.slice A0_2 l0_2.length c0_2) := (yV BK900.out 2).trans rfl; have hfz10_0 := yW BK900.out 0; have hfz10_1 := yW BK900.out 1; have hfz10_2 := yW BK900.out 2) | (go_at_call 135; (with_reducible refine (spec_AreDigits.calls k _ _ l1 a0_0 t902 _ ?side1 ?side2 A7.out).mono ?_); (case side1 => exact mC (yM HR1.out HB.out)); (case side2 => exact HC1.out); rintro e w' ⟨rfl, ⟨nd, rfl⟩⟩; (try first | exact ⟨rfl, _, World.drewN_drewN _ _ _⟩ | exact ⟨rfl, _, Eq.trans (World.drewN_drewN _ _ _) (congrArg (World.drewN _) (Nat.add_assoc _ _ _))⟩)))
   repeat (go_quiet (first | (go_at_call 92; (with_reducible refine (spec_IsSequence.calls k a0_0 _ _ l0_1 _ _ l0_2 true _ ?side1 ?side2 ?side3 ?side4 A5.out).mono ?_); (case side1 => exact mC (yM HR0_1.out HB.out)); (case side2 => exact HC0_1.out); (case side3 => exact mC (yM HR0_2.out HB.out)); (case side4 => exact HC0_2.out); rintro e w9 ⟨rfl, hb⟩; replace BK900 := yA (yU (mK BK900.out) hb); replace HB := yA (zD (by with_reducible repeat first | exact HB.out | apply yO | apply yN | apply yP | refine yQ ?_ GE900.out) hb); (try clear hb); (try clear hb2); (try clear hk); (try clear hi); have hcz10_0 : w9.cell? ⟨gb900, 0, none⟩ = some (.int .i64 a0_0) := (yV BK900.out 0).trans rfl; have hcz10_1 : w9.cell? ⟨gb900, 1, none⟩ = some (.slice A0_1 l0_1.length c0_1) := (yV BK900.out 1).trans rfl; have hcz10_2 : w9.cell? ⟨gb900, 2, none⟩ = some (.slice A0_2 l0_2.length c0_2) := (yV BK900.out 2).trans rfl; have hfz10_0 := yW BK900.out 0; have hfz10_1 := yW BK900.out 1; have hfz10_2 := yW BK900.out 2) | (go_at_call 135; (with_reducible refine (spec_AreDigits.calls k _ _ l1 a0_0 t902 _ ?side1 ?side2 A7.out).mono ?_); (case side1 => exact mC (yM HR1.out HB.out)); (case side2 => exact HC1.out); rintro e w' ⟨rfl, ⟨nd, rfl⟩⟩; (try first | exact ⟨rfl, _, World.drewN_drewN _ _ _⟩ | exact ⟨rfl, _, Eq.trans (World.drewN_drewN _ _ _) (congrArg (World.drewN _) (Nat.add_assoc _ _ _))⟩))); try go_wp2_with (first | (go_at_call 92; (with_reducible refine (spec_IsSequence.calls k a0_0 _ _ l0_1 _ _ l0_2 true _ ?side1 ?side2 ?side3 ?side4 A5.out).mono ?_); (case side1 => exact mC (yM HR0_1.out HB.out)); (case side2 => exact HC0_1.out); (case side3 => exact mC (yM HR0_2.out HB.out)); (case side4 => exact HC0_2.out); rintro e w9 ⟨rfl, hb⟩; replace BK900 := yA (yU (mK BK900.out) hb); replace HB := yA (zD (by with_reducible repeat first | exact HB.out | apply yO | apply yN | apply yP | refine yQ ?_ GE900.out) hb); (try clear hb); (try clear hb2); (try clear hk); (try clear hi); have hcz10_0 : w9.cell? ⟨gb900, 0, none⟩ = some (.int .i64 a0_0) := (yV BK900.out 0).trans rfl; have hcz10_1 : w9.cell? ⟨gb900, 1, none⟩ = some (.slice A0_1 l0_1.length c0_1) := (yV BK900.out 1).trans rfl; have hcz10_2 : w9.cell? ⟨gb900, 2, none⟩ = some (.slice A0_2 l0_2.length c0_2) := (yV BK900.out 2).trans rfl; have hfz10_0 := yW BK900.out 0; have hfz10_1 := yW BK900.out 1; have hfz10_2 := yW BK900.out 2) | (go_at_call 135; (with_reducible refine (spec_AreDigits.calls k _ _ l1 a0_0 t902 _ ?side1 ?side2 A7.out).mono ?_); (case side1 => exact mC (yM HR1.out HB.out)); (case side2 => exact HC1.out); rintro e w' ⟨rfl, ⟨nd, rfl⟩⟩; (try first | exact ⟨rfl, _, World.drewN_drewN _ _ _⟩ | exact ⟨rfl, _, Eq.trans (World.drewN_drewN _ _ _) (congrArg (World.drewN _) (Nat.add_assoc _ _ _))⟩))))
   go_meet
   case rel => exact ⟨_, (!t902), (by first | rfl | (simp; done) | (simp [*]; done)), H', ⟨by first | omega | exact zT _⟩, ⟨mK BK900.out⟩, ⟨by repeat (first | (with_reducible first | exact HB.out | apply yO | apply yN | apply yP | refine yQ ?_ GE900.out) | exact HB.out)⟩⟩
  ·replace c6 := Bool.eq_false_iff.mpr c6
   subst c6
   replace H := iF H
   have H' := yA H
   clear H
   obtain ⟨hcz11_0, hcz11_1, hcz11_2⟩ := cz3 BK900.out
   obtain ⟨hfz11_0, hfz11_1, hfz11_2⟩ := fz3 BK900.out
   go_wp2_with (first | (go_at_call 92; (with_reducible refine (spec_IsSequence.calls k a0_0 _ _ l0_1 _ _ l0_2 false _ ?side1 ?side2 ?side3 ?side4 A5.out).mono ?_); (case side1 => exact mC (yM HR0_1.out HB.out)); (case side2 => exact HC0_1.out); (case side3 => exact mC (yM HR0_2.out HB.out)); (case side4 => exact HC0_2.out); rintro e w12 ⟨rfl, hb⟩; replace BK900 := yA (yU (mK BK900.out) hb); replace HB := yA (zD (by with_reducible repeat first | exact HB.out | apply yO | apply yN | apply yP | refine yQ ?_ GE900.out) hb); (try clear hb); (try clear hb2); (try clear hk); (try clear hi)))
   repeat (go_quiet (first | (go_at_call 92; (with_reducible refine (spec_IsSequence.calls k a0_0 _ _ l0_1 _ _ l0_2 false _ ?side1 ?side2 ?side3 ?side4 A5.out).mono ?_); (case side1 => exact mC (yM HR0_1.out HB.out)); (case side2 => exact HC0_1.out); (case side3 => exact mC (yM HR0_2.out HB.out)); (case side4 => exact HC0_2.out); rintro e w12 ⟨rfl, hb⟩; replace BK900 := yA (yU (mK BK900.out) hb); replace HB := yA (zD (by with_reducible repeat first | exact HB.out | apply yO | apply yN | apply yP | refine yQ ?_ GE900.out) hb); (try clear hb); (try clear hb2); (try clear hk); (try clear hi))); try go_wp2_with (first | (go_at_call 92; (with_reducible refine (spec_IsSequence.calls k a0_0 _ _ l0_1 _ _ l0_2 false _ ?side1 ?side2 ?side3 ?side4 A5.out).mono ?_); (case side1 => exact mC (yM HR0_1.out HB.out)); (case side2 => exact HC0_1.out); (case side3 => exact mC (yM HR0_2.out HB.out)); (case side4 => exact HC0_2.out); rintro e w12 ⟨rfl, hb⟩; replace BK900 := yA (yU (mK BK900.out) hb); replace HB := yA (zD (by with_reducible repeat first | exact HB.out | apply yO | apply yN | apply yP | refine yQ ?_ GE900.out) hb); (try clear hb); (try clear hb2); (try clear hk); (try clear hi))))
   go_meet
   case rel => exact ⟨_, (true), (by first | rfl | (simp; done) | (simp [*]; done)), H', ⟨by first | omega | exact zT _⟩, ⟨mK BK900.out⟩, ⟨by repeat (first | (with_reducible first | exact HB.out | apply yO | apply yN | apply yP | refine yQ ?_ GE900.out) | exact HB.out)⟩⟩
 case rest =>
  clear HC3
  (try clear c1);(try clear p2);(try clear c6);(try clear c12);(try clear hcz10_0);(try clear hcz10_1);(try clear hcz10_2);(try clear hcz11_0);(try clear hcz11_1);(try clear hcz11_2);(try clear hcz8_0);(try clear hcz8_1);(try clear hcz8_2);(try clear hfz10_0);(try clear hfz10_1);(try clear hfz10_2);(try clear hfz11_0);(try clear hfz11_1);(try clear hfz11_2);(try clear hfz8_0);(try clear hfz8_1);(try clear hfz8_2)
  obtain ⟨kq, x16_2, rfl, HA, HJ2, BK900, HB⟩ := hcut
  cases kq with
  | zero => exact absurd HA.out (by simp [spec_StateAfter.j0])
  | succ kj2 =>
   have H := HA.out
   clear HA
   simp only [spec_StateAfter.j0] at H
   by_cases c13 : x16_2 = true
   ·subst c13
    replace H := iT H
    obtain rfl := zU H
    go_wp2
    repeat (go_quiet (fail); try go_wp2)
    go_ret
    exact ⟨by first | rfl | (simp [errW_none, errW_some] <;> rfl) | (simp [*, errW_none, errW_some] <;> rfl), by repeat (first | (with_reducible first | exact HB.out | apply yO | apply yN | apply yP | refine yQ ?_ GE900.out) | exact HB.out)⟩
   ·replace c13 := Bool.eq_false_iff.mpr c13
    subst c13
    replace H := iF H
    have H' := yA H
    clear H
    go_wp2
    repeat (go_quiet (fail); try go_wp2)
    go_loopg [5, 6] kj2 (fun kq v5 v6 w' => ∃ (x5_2 : Int) (x6_2 : Int), v5 = .int .i64 x5_2 ∧ v6 = .int .i64 x6_2 ∧ Aside0 (spec_StateAfter.l0 kq l1 x5_2 x6_2 a0_0 l0_1 l0_2 = some r) ∧ Aside0 (kq ≤ kj2) ∧ Aside0 (w'.heap[gb900]? = some (.cells #[.int .i64 a0_0, (.slice A0_1 l0_1.length c0_1), (.slice A0_2 l0_2.length c0_2)] 32 (0, 0))) ∧ Aside0 (Below w.heap.size w w'))
    case atStart => exact ⟨(0), (0), (by first | rfl | (simp; done) | (simp [*]; done)), (by first | rfl | (simp; done) | (simp [*]; done)), H', ⟨zT _⟩, ⟨mK BK900.out⟩, ⟨by repeat (first | (with_reducible first | exact HB.out | apply yO | apply yN | apply yP | refine yQ ?_ GE900.out) | exact HB.out)⟩⟩
    case round =>
     clear H'
     (try clear c1);(try clear p2);(try clear c6);(try clear c12);(try clear c13);(try clear hcz10_0);(try clear hcz10_1);(try clear hcz10_2);(try clear hcz11_0);(try clear hcz11_1);(try clear hcz11_2);(try clear hcz8_0);(try clear hcz8_1);(try clear hcz8_2);(try clear hfz10_0);(try clear hfz10_1);(try clear hfz10_2);(try clear hfz11_0);(try clear hfz11_1);(try clear hfz11_2);(try clear hfz8_0);(try clear hfz8_1);(try clear hfz8_2);(try clear p2)
     obtain ⟨x5_2, x6_2, rfl, rfl, HA, HK2, BK900, HB⟩ := hrel
     cases gk with
     | zero => exact absurd HA.out (by simp [spec_StateAfter.l0])
     | succ k2 =>
      have H := HA.out
      clear HA
      simp only [spec_StateAfter.l0] at H
      by_cases c14 : x6_2 < (l1.length : Int)
      ·rw [if_pos c14] at H
       have c14b0 : decide (x6_2 < (l1.length : Int)) = true := zH c14
       clear c14
       obtain ⟨c15, H⟩ := iP H
       have c15b0 : decide (0 ≤ x5_2) = true := zH c15
       clear c15
       obtain ⟨c16, H⟩ := iP H
       have c16b0 : decide (x5_2 < (l0_1.length : Int)) = true := zH c16
       clear c16
       obtain ⟨c17, H⟩ := iP H
       have c17b0 : decide (0 ≤ x6_2) = true := zH c17
       clear c17
       obtain ⟨c18, H⟩ := iP H
       have c18b0 : decide (0 ≤ (rd l1 x6_2)) = true := zH c18
       clear c18
       obtain ⟨c19, H⟩ := iP H
       have c19b0 : decide ((rd l1 x6_2) < ((rd_L1 l0_1 x5_2).length : Int)) = true := zH c19
       clear c19
       have H' := yA H
       clear H
       obtain ⟨hcz20_0, hcz20_1, hcz20_2⟩ := cz3 BK900.out
       obtain ⟨hfz20_0, hfz20_1, hfz20_2⟩ := fz3 BK900.out
       have p903 : 0 ≤ (x5_2 : Int) := zG (by assumption)
       have q903 : x5_2 < (l0_1.length : Int) := zG (by assumption)
       obtain ⟨ad903, A903_0, c903_0, e903, hx903_0, hl903_0, hi903_0⟩ := at_L1 HR0_1.out x5_2 p903 q903
       cases e903
       try replace hx903_0 := (HB.out.cell (zE w _ hx903_0)).trans hx903_0
       have HR903_0 := yA hi903_0
       have HC903_0 := yA hl903_0
       clear hi903_0 hl903_0
       replace p903 := eq_true p903
       replace q903 := eq_true q903
       have p904 : 0 ≤ (x6_2 : Int) := zG (by assumption)
       have q904 : x6_2 < (l1.length : Int) := zG (by assumption)
       obtain ⟨ad904, e904, hx904_0⟩ := Kd.at_int HR1.out x6_2 p904 q904
       cases e904
       try replace hx904_0 := (HB.out.cell (zE w _ hx904_0)).trans hx904_0
       replace p904 := eq_true p904
       replace q904 := eq_true q904
       have p905 : 0 ≤ ((rd l1 x6_2) : Int) := zG (by assumption)
       have q905 : (rd l1 x6_2) < ((rd_L1 l0_1 x5_2).length : Int) := zG (by assumption)
       obtain ⟨ad905, e905, hx905_0⟩ := Kd.at_int HR903_0.out (rd l1 x6_2) p905 q905
       cases e905
       try replace hx905_0 := (HB.out.cell (zE w _ hx905_0)).trans hx905_0
       replace p905 := eq_true p905
       replace q905 := eq_true q905
       go_wp2
       repeat (go_quiet (fail); try go_wp2)
       go_roundg k2
       case measure => have := HJ2.out; have := HK2.out; omega
       case rel => exact ⟨(rd (rd_L1 l0_1 x5_2) (rd l1 x6_2)), (wrap64 (x6_2 + 1)), (by first | rfl | (simp; done) | (simp [*]; done)), (by first | rfl | (simp; done) | (simp [*]; done)), H', ⟨by have := HJ2.out; have := HK2.out; omega⟩, ⟨mK BK900.out⟩, ⟨by repeat (first | (with_reducible first | exact HB.out | apply yO | apply yN | apply yP | refine yQ ?_ GE900.out) | exact HB.out)⟩⟩
      ·rw [if_neg c14] at H
       have c14b0 : decide (x6_2 < (l1.length : Int)) = false := decide_eq_false c14
       clear c14
       obtain rfl := zU H
       go_wp2
       repeat (go_quiet (fail); try go_wp2)
       go_ret
       exact ⟨by first | rfl | (simp [errW_none, errW_some] <;> rfl) | (simp [*, errW_none, errW_some] <;> rfl), by repeat (first | (with_reducible first | exact HB.out | apply yO | apply yN | apply yP | refine yQ ?_ GE900.out) | exact HB.out)⟩

end Go.Proofs.Ytmkeicahnnlalaa.Q
