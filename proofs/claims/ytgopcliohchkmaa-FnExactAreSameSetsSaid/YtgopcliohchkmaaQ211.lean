-- written by a program of this session (a turned copy of the kit's print) out of the translation
-- compact
import Derived.Test.YtgopcliohchkmaaQ0
import Derived.Test.YtgopcliohchkmaaQ210
import Derived.Test.YtgopcliohchkmaaQ75
namespace Go.Proofs.Ytgopcliohchkmaa.Q
open Go.RowKit Go.Proofs.YtgopcliohchkmaaW.PrintWords Go.Proofs.YtgopcliohchkmaaW.PrintLast Go.Proofs.YtgopcliohchkmaaW.PrintMore
attribute [local go_sem] max2_int min2_int max_two min_two max_three min_three max_four min_four   -- for this text's walks alone
set_option linter.unusedVariables false
set_option linter.unusedSimpArgs false

/-! ### impl_SameRelation: function 83 -/
def impl_SameRelation.f (k : Nat) (a0_0 : Int) (a0_1 : Int) (l0_2 : List (List Int)) (l0_3 : List Bool) (a1_0 : Int) (a1_1 : Int) (l1_2 : List (List Int)) (l1_3 : List Bool) : Option (Bool) := if a0_0 = a1_0 then (if a0_1 = a1_1 then ((slices_EqualFunc_int_int_int_int.f k l0_2 l1_2).bind fun t303 => (if t303 = true then ((slices_Equal_bool_bool.f k l0_3 l1_3).bind fun t304 => (some t304)) else (some false))) else (some false)) else (some false)
theorem impl_SameRelation.mono : ∀ a0 a1 a2 a3 a4 a5 a6 a7 k, LeO (impl_SameRelation.f k a0 a1 a2 a3 a4 a5 a6 a7) (impl_SameRelation.f (k + 1) a0 a1 a2 a3 a4 a5 a6 a7) := by
 intro a0 a1 a2 a3 a4 a5 a6 a7 k
 unfold impl_SameRelation.f
 repeat' first
   | (with_reducible exact slices_EqualFunc_int_int_int_int.mono _ _ _)
   | (with_reducible exact slices_Equal_bool_bool.mono _ _ _)
   | (with_reducible exact LeO.refl _)
   | (with_reducible exact LeO.none _)
   | (with_reducible refine LeO.ite ?_ ?_)
   | (with_reducible refine LeO.bind ?_ (fun _ => ?_))
   | exact slices_EqualFunc_int_int_int_int.mono _ _ _
   | exact slices_Equal_bool_bool.mono _ _ _
   | exact LeO.none _
   | refine LeO.ite ?_ ?_
   | refine LeO.bind ?_ (fun _ => ?_)
set_option maxHeartbeats 8000000 in
set_option maxRecDepth 100000 in
theorem impl_SameRelation.calls (k : Nat) (a0_0 : Int) (a0_1 : Int) (A0_2 : Option Addr) (c0_2 : Nat) (l0_2 : List (List Int)) (A0_3 : Option Addr) (c0_3 : Nat) (l0_3 : List Bool) (a1_0 : Int) (a1_1 : Int) (A1_2 : Option Addr) (c1_2 : Nat) (l1_2 : List (List Int)) (A1_3 : Option Addr) (c1_3 : Nat) (l1_3 : List Bool) (r : Bool) (w : World) (hr0_2 : Kd.C (Kd.slice 3 (Kd.int .i64)) w A0_2 l0_2.length l0_2) (hc0_2 : l0_2.length ≤ c0_2) (hr0_3 : Kd.C Kd.bool w A0_3 l0_3.length l0_3) (hc0_3 : l0_3.length ≤ c0_3) (hr1_2 : Kd.C (Kd.slice 3 (Kd.int .i64)) w A1_2 l1_2.length l1_2) (hc1_2 : l1_2.length ≤ c1_2) (hr1_3 : Kd.C Kd.bool w A1_3 l1_3.length l1_3) (hc1_3 : l1_3.length ≤ c1_3) (h : impl_SameRelation.f k a0_0 a0_1 l0_2 l0_3 a1_0 a1_1 l1_2 l1_3 = some r) :
  Calls Try.prog 83 #[.agg #[.int .i64 a0_0, .int .i64 a0_1, .slice A0_2 l0_2.length c0_2, .slice A0_3 l0_3.length c0_3], .agg #[.int .i64 a1_0, .int .i64 a1_1, .slice A1_2 l1_2.length c1_2, .slice A1_3 l1_3.length c1_3]] w fun e w' => e = .returned (.bool r) ∧ Below w.heap.size w w' := by
 have hu25 := Try.underlying25
 have HR0_2 := yA hr0_2
 have HC0_2 := yA hc0_2
 clear hr0_2 hc0_2
 have HR0_3 := yA hr0_3
 have HC0_3 := yA hc0_3
 clear hr0_3 hc0_3
 have HR1_2 := yA hr1_2
 have HC1_2 := yA hc1_2
 clear hr1_2 hc1_2
 have HR1_3 := yA hr1_3
 have HC1_3 := yA hc1_3
 clear hr1_3 hc1_3
 have HB := yA (zV w.heap.size w)
 have H : (if a0_0 = a1_0 then (if a0_1 = a1_1 then ((slices_EqualFunc_int_int_int_int.f k l0_2 l1_2).bind fun t303 => (if t303 = true then ((slices_Equal_bool_bool.f k l0_3 l1_3).bind fun t304 => (some t304)) else (some false))) else (some false)) else (some false)) = some r := h
 clear h
 by_cases c3 : a0_0 = a1_0
 ·rw [if_pos c3] at H
  have c3b0 : (a0_0 == a1_0) = true := beq_iff_eq.mpr c3
  have c3b1 : (a0_0 != a1_0) = false := bne_eq_false_iff_eq.mpr c3
  clear c3
  by_cases c4 : a0_1 = a1_1
  ·rw [if_pos c4] at H
   have c4b0 : (a0_1 == a1_1) = true := beq_iff_eq.mpr c4
   have c4b1 : (a0_1 != a1_1) = false := bne_eq_false_iff_eq.mpr c4
   clear c4
   replace H := Option.bind_eq_some_iff.mp H
   obtain ⟨t303, A50, H⟩ := H
   replace H : (if t303 = true then ((slices_Equal_bool_bool.f k l0_3 l1_3).bind fun t304 => (some t304)) else (some false)) = some r := H
   have A5 := yA A50
   clear A50
   by_cases c6 : t303 = true
   ·subst c6
    have H1 : ((slices_Equal_bool_bool.f k l0_3 l1_3).bind fun t304 => (some t304)) = some r := by rw [if_pos rfl] at H; exact H
    clear H
    have H := H1
    clear H1
    replace H := Option.bind_eq_some_iff.mp H
    obtain ⟨t304, A70, H⟩ := H
    replace H : (some t304) = some r := H
    have A7 := yA A70
    clear A70
    obtain rfl := zU H
    go_enter Try.func83, Try.ntmps83
    go_wp2_with (first | ((with_reducible refine gate_dst (N := 2) rfl ?_); refine box_event ?hg (N := 2) ?hd (cs := #[.int .i64 a0_0, .int .i64 a0_1, .slice A0_2 l0_2.length c0_2, .slice A0_3 l0_3.length c0_3]) (t := 25) ?hr ?_; (case hd => rfl); (case hg => rfl); (case hr => first | (go_simp; done) | (go_simp; rfl)); intro gb301 hg w8 hbox hb; have n0_ := yA (zD (mB HB.out) hb); have n1_ := yA (hbox); have n2_ := yA ((by rw [hg]; exact (yX (mB HB.out)) : w.heap.size ≤ gb301)); have n3_ := yA ((by rw [hg]; exact (yX (mB HB.out)) : w.heap.size ≤ gb301)); clear HB; have HB := n0_; have BK301 := n1_; have GW301 := n2_; have GE301 := n3_; clear n0_ n1_ n2_ n3_; clear hb hbox hg) | ((with_reducible refine gate_dst (N := 3) rfl ?_); refine box_event ?hg (N := 3) ?hd (cs := #[.int .i64 a1_0, .int .i64 a1_1, .slice A1_2 l1_2.length c1_2, .slice A1_3 l1_3.length c1_3]) (t := 25) ?hr ?_; (case hd => rfl); (case hg => rfl); (case hr => first | (go_simp; done) | (go_simp; rfl)); intro gb302 hg w9 hbox hb; have n0_ := yA (yU (mK BK301.out) hb); have n1_ := yA (zD (by with_reducible repeat first | exact HB.out | apply yO | apply yN | apply yP | refine yQ ?_ GE301.out) hb); have n2_ := yA (hbox); have n3_ := yA ((by rw [hg]; exact (yX (by with_reducible repeat first | exact HB.out | apply yO | apply yN | apply yP | refine yQ ?_ GE301.out)) : w.heap.size ≤ gb302)); have n4_ := yA ((by rw [hg]; exact (yX (by with_reducible repeat first | exact HB.out | apply yO | apply yN | apply yP | refine yQ ?_ GE301.out)) : w.heap.size ≤ gb302)); have n5_ := yA ((by rw [hg]; exact Nat.ne_of_lt (zX (mK BK301.out)) : gb301 ≠ gb302)); have n6_ := yA ((by rw [hg]; exact Nat.ne_of_gt (zX (mK BK301.out)) : gb302 ≠ gb301)); clear BK301; clear HB; have BK301 := n0_; have HB := n1_; have BK302 := n2_; have GW302 := n3_; have GE302 := n4_; have NB301_302 := n5_; have NB302_301 := n6_; clear n0_ n1_ n2_ n3_ n4_ n5_ n6_; clear hb hbox hg; have hnb10 := NB301_302.out; have hnc10 := NB302_301.out; have hcz11_0 : w9.cell? ⟨gb301, 0, none⟩ = some (.int .i64 a0_0) := (yV BK301.out 0).trans rfl; have hcz11_1 : w9.cell? ⟨gb301, 1, none⟩ = some (.int .i64 a0_1) := (yV BK301.out 1).trans rfl; have hcz11_2 : w9.cell? ⟨gb301, 2, none⟩ = some (.slice A0_2 l0_2.length c0_2) := (yV BK301.out 2).trans rfl; have hcz11_3 : w9.cell? ⟨gb301, 3, none⟩ = some (.slice A0_3 l0_3.length c0_3) := (yV BK301.out 3).trans rfl; have hfz11_0 := yW BK301.out 0; have hfz11_1 := yW BK301.out 1; have hfz11_2 := yW BK301.out 2; have hfz11_3 := yW BK301.out 3; have hcz12_0 : w9.cell? ⟨gb302, 0, none⟩ = some (.int .i64 a1_0) := (yV BK302.out 0).trans rfl; have hcz12_1 : w9.cell? ⟨gb302, 1, none⟩ = some (.int .i64 a1_1) := (yV BK302.out 1).trans rfl; have hcz12_2 : w9.cell? ⟨gb302, 2, none⟩ = some (.slice A1_2 l1_2.length c1_2) := (yV BK302.out 2).trans rfl; have hcz12_3 : w9.cell? ⟨gb302, 3, none⟩ = some (.slice A1_3 l1_3.length c1_3) := (yV BK302.out 3).trans rfl; have hfz12_0 := yW BK302.out 0; have hfz12_1 := yW BK302.out 1; have hfz12_2 := yW BK302.out 2; have hfz12_3 := yW BK302.out 3) | (go_at_call 99; (with_reducible refine (slices_EqualFunc_int_int_int_int.calls k _ _ l0_2 _ _ l1_2 true _ ?side1 ?side2 ?side3 ?side4 A5.out).mono ?_); (case side1 => exact mC (yM HR0_2.out HB.out)); (case side2 => exact HC0_2.out); (case side3 => exact mC (yM HR1_2.out HB.out)); (case side4 => exact HC1_2.out); rintro e w' ⟨rfl, ⟨nd, rfl⟩⟩) | (go_at_call 101; (with_reducible refine (slices_Equal_bool_bool.calls k _ _ l0_3 _ _ l1_3 t304 _ ?side1 ?side2 ?side3 ?side4 A7.out).mono ?_); (case side1 => exact mC (yM HR0_3.out (by with_reducible repeat first | exact HB.out | apply yO | apply yN | apply yP | refine yQ ?_ GE301.out | refine yQ ?_ GE302.out))); (case side2 => exact HC0_3.out); (case side3 => exact mC (yM HR1_3.out (by with_reducible repeat first | exact HB.out | apply yO | apply yN | apply yP | refine yQ ?_ GE301.out | refine yQ ?_ GE302.out))); (case side4 => exact HC1_3.out); rintro e w' ⟨rfl, ⟨nd, rfl⟩⟩))
    go_ret
    exact ⟨by first | rfl | (simp [errW_none, errW_some] <;> rfl) | (simp [*, errW_none, errW_some] <;> rfl), by repeat (first | (with_reducible first | exact HB.out | apply yO | apply yN | apply yP | refine yQ ?_ GE301.out | refine yQ ?_ GE302.out) | exact HB.out)⟩
   ·replace c6 := Bool.eq_false_iff.mpr c6
    subst c6
    have H1 : (some false) = some r := by rw [if_neg (show ¬ (false = true) by decide)] at H; exact H
    clear H
    have H := H1
    clear H1
    obtain rfl := zU H
    go_enter Try.func83, Try.ntmps83
    go_wp2_with (first | ((with_reducible refine gate_dst (N := 2) rfl ?_); refine box_event ?hg (N := 2) ?hd (cs := #[.int .i64 a0_0, .int .i64 a0_1, .slice A0_2 l0_2.length c0_2, .slice A0_3 l0_3.length c0_3]) (t := 25) ?hr ?_; (case hd => rfl); (case hg => rfl); (case hr => first | (go_simp; done) | (go_simp; rfl)); intro gb301 hg w13 hbox hb; have n0_ := yA (zD (mB HB.out) hb); have n1_ := yA (hbox); have n2_ := yA ((by rw [hg]; exact (yX (mB HB.out)) : w.heap.size ≤ gb301)); have n3_ := yA ((by rw [hg]; exact (yX (mB HB.out)) : w.heap.size ≤ gb301)); clear HB; have HB := n0_; have BK301 := n1_; have GW301 := n2_; have GE301 := n3_; clear n0_ n1_ n2_ n3_; clear hb hbox hg) | ((with_reducible refine gate_dst (N := 3) rfl ?_); refine box_event ?hg (N := 3) ?hd (cs := #[.int .i64 a1_0, .int .i64 a1_1, .slice A1_2 l1_2.length c1_2, .slice A1_3 l1_3.length c1_3]) (t := 25) ?hr ?_; (case hd => rfl); (case hg => rfl); (case hr => first | (go_simp; done) | (go_simp; rfl)); intro gb302 hg w14 hbox hb; have n0_ := yA (yU (mK BK301.out) hb); have n1_ := yA (zD (by with_reducible repeat first | exact HB.out | apply yO | apply yN | apply yP | refine yQ ?_ GE301.out) hb); have n2_ := yA (hbox); have n3_ := yA ((by rw [hg]; exact (yX (by with_reducible repeat first | exact HB.out | apply yO | apply yN | apply yP | refine yQ ?_ GE301.out)) : w.heap.size ≤ gb302)); have n4_ := yA ((by rw [hg]; exact (yX (by with_reducible repeat first | exact HB.out | apply yO | apply yN | apply yP | refine yQ ?_ GE301.out)) : w.heap.size ≤ gb302)); have n5_ := yA ((by rw [hg]; exact Nat.ne_of_lt (zX (mK BK301.out)) : gb301 ≠ gb302)); have n6_ := yA ((by rw [hg]; exact Nat.ne_of_gt (zX (mK BK301.out)) : gb302 ≠ gb301)); clear BK301; clear HB; have BK301 := n0_; have HB := n1_; have BK302 := n2_; have GW302 := n3_; have GE302 := n4_; have NB301_302 := n5_; have NB302_301 := n6_; clear n0_ n1_ n2_ n3_ n4_ n5_ n6_; clear hb hbox hg; have hnb15 := NB301_302.out; have hnc15 := NB302_301.out; have hcz16_0 : w14.cell? ⟨gb301, 0, none⟩ = some (.int .i64 a0_0) := (yV BK301.out 0).trans rfl; have hcz16_1 : w14.cell? ⟨gb301, 1, none⟩ = some (.int .i64 a0_1) := (yV BK301.out 1).trans rfl; have hcz16_2 : w14.cell? ⟨gb301, 2, none⟩ = some (.slice A0_2 l0_2.length c0_2) := (yV BK301.out 2).trans rfl; have hcz16_3 : w14.cell? ⟨gb301, 3, none⟩ = some (.slice A0_3 l0_3.length c0_3) := (yV BK301.out 3).trans rfl; have hfz16_0 := yW BK301.out 0; have hfz16_1 := yW BK301.out 1; have hfz16_2 := yW BK301.out 2; have hfz16_3 := yW BK301.out 3; have hcz17_0 : w14.cell? ⟨gb302, 0, none⟩ = some (.int .i64 a1_0) := (yV BK302.out 0).trans rfl; have hcz17_1 : w14.cell? ⟨gb302, 1, none⟩ = some (.int .i64 a1_1) := (yV BK302.out 1).trans rfl; have hcz17_2 : w14.cell? ⟨gb302, 2, none⟩ = some (.slice A1_2 l1_2.length c1_2) := (yV BK302.out 2).trans rfl; have hcz17_3 : w14.cell? ⟨gb302, 3, none⟩ = some (.slice A1_3 l1_3.length c1_3) := (yV BK302.out 3).trans rfl; have hfz17_0 := yW BK302.out 0; have hfz17_1 := yW BK302.out 1; have hfz17_2 := yW BK302.out 2; have hfz17_3 := yW BK302.out 3) | (go_at_call 99; (with_reducible refine (slices_EqualFunc_int_int_int_int.calls k _ _ l0_2 _ _ l1_2 false _ ?side1 ?side2 ?side3 ?side4 A5.out).mono ?_); (case side1 => exact mC (yM HR0_2.out HB.out)); (case side2 => exact HC0_2.out); (case side3 => exact mC (yM HR1_2.out HB.out)); (case side4 => exact HC1_2.out); rintro e w' ⟨rfl, ⟨nd, rfl⟩⟩))
    go_ret
    exact ⟨by first | rfl | (simp [errW_none, errW_some] <;> rfl) | (simp [*, errW_none, errW_some] <;> rfl), by repeat (first | (with_reducible first | exact HB.out | apply yO | apply yN | apply yP | refine yQ ?_ GE301.out | refine yQ ?_ GE302.out) | exact HB.out)⟩
  ·rw [if_neg c4] at H
   have c4b0 : (a0_1 == a1_1) = false := beq_eq_false_iff_ne.mpr c4
   have c4b1 : (a0_1 != a1_1) = true := bne_iff_ne.mpr c4
   obtain rfl := zU H
   go_enter Try.func83, Try.ntmps83
   go_wp2_with (first | ((with_reducible refine gate_dst (N := 2) rfl ?_); refine box_event ?hg (N := 2) ?hd (cs := #[.int .i64 a0_0, .int .i64 a0_1, .slice A0_2 l0_2.length c0_2, .slice A0_3 l0_3.length c0_3]) (t := 25) ?hr ?_; (case hd => rfl); (case hg => rfl); (case hr => first | (go_simp; done) | (go_simp; rfl)); intro gb301 hg w18 hbox hb; have n0_ := yA (zD (mB HB.out) hb); have n1_ := yA (hbox); have n2_ := yA ((by rw [hg]; exact (yX (mB HB.out)) : w.heap.size ≤ gb301)); have n3_ := yA ((by rw [hg]; exact (yX (mB HB.out)) : w.heap.size ≤ gb301)); clear HB; have HB := n0_; have BK301 := n1_; have GW301 := n2_; have GE301 := n3_; clear n0_ n1_ n2_ n3_; clear hb hbox hg) | ((with_reducible refine gate_dst (N := 3) rfl ?_); refine box_event ?hg (N := 3) ?hd (cs := #[.int .i64 a1_0, .int .i64 a1_1, .slice A1_2 l1_2.length c1_2, .slice A1_3 l1_3.length c1_3]) (t := 25) ?hr ?_; (case hd => rfl); (case hg => rfl); (case hr => first | (go_simp; done) | (go_simp; rfl)); intro gb302 hg w19 hbox hb; have n0_ := yA (yU (mK BK301.out) hb); have n1_ := yA (zD (by with_reducible repeat first | exact HB.out | apply yO | apply yN | apply yP | refine yQ ?_ GE301.out) hb); have n2_ := yA (hbox); have n3_ := yA ((by rw [hg]; exact (yX (by with_reducible repeat first | exact HB.out | apply yO | apply yN | apply yP | refine yQ ?_ GE301.out)) : w.heap.size ≤ gb302)); have n4_ := yA ((by rw [hg]; exact (yX (by with_reducible repeat first | exact HB.out | apply yO | apply yN | apply yP | refine yQ ?_ GE301.out)) : w.heap.size ≤ gb302)); have n5_ := yA ((by rw [hg]; exact Nat.ne_of_lt (zX (mK BK301.out)) : gb301 ≠ gb302)); have n6_ := yA ((by rw [hg]; exact Nat.ne_of_gt (zX (mK BK301.out)) : gb302 ≠ gb301)); clear BK301; clear HB; have BK301 := n0_; have HB := n1_; have BK302 := n2_; have GW302 := n3_; have GE302 := n4_; have NB301_302 := n5_; have NB302_301 := n6_; clear n0_ n1_ n2_ n3_ n4_ n5_ n6_; clear hb hbox hg; have hnb20 := NB301_302.out; have hnc20 := NB302_301.out; have hcz21_0 : w19.cell? ⟨gb301, 0, none⟩ = some (.int .i64 a0_0) := (yV BK301.out 0).trans rfl; have hcz21_1 : w19.cell? ⟨gb301, 1, none⟩ = some (.int .i64 a0_1) := (yV BK301.out 1).trans rfl; have hcz21_2 : w19.cell? ⟨gb301, 2, none⟩ = some (.slice A0_2 l0_2.length c0_2) := (yV BK301.out 2).trans rfl; have hcz21_3 : w19.cell? ⟨gb301, 3, none⟩ = some (.slice A0_3 l0_3.length c0_3) := (yV BK301.out 3).trans rfl; have hfz21_0 := yW BK301.out 0; have hfz21_1 := yW BK301.out 1; have hfz21_2 := yW BK301.out 2; have hfz21_3 := yW BK301.out 3; have hcz22_0 : w19.cell? ⟨gb302, 0, none⟩ = some (.int .i64 a1_0) := (yV BK302.out 0).trans rfl; have hcz22_1 : w19.cell? ⟨gb302, 1, none⟩ = some (.int .i64 a1_1) := (yV BK302.out 1).trans rfl; have hcz22_2 : w19.cell? ⟨gb302, 2, none⟩ = some (.slice A1_2 l1_2.length c1_2) := (yV BK302.out 2).trans rfl; have hcz22_3 : w19.cell? ⟨gb302, 3, none⟩ = some (.slice A1_3 l1_3.length c1_3) := (yV BK302.out 3).trans rfl; have hfz22_0 := yW BK302.out 0; have hfz22_1 := yW BK302.out 1; have hfz22_2 := yW BK302.out 2; have hfz22_3 := yW BK302.out 3))
   go_ret
   exact ⟨by first | rfl | (simp [errW_none, errW_some] <;> rfl) | (simp [*, errW_none, errW_some] <;> rfl), by repeat (first | (with_reducible first | exact HB.out | apply yO | apply yN | apply yP | refine yQ ?_ GE301.out | refine yQ ?_ GE302.out) | exact HB.out)⟩
 ·rw [if_neg c3] at H
  have c3b0 : (a0_0 == a1_0) = false := beq_eq_false_iff_ne.mpr c3
  have c3b1 : (a0_0 != a1_0) = true := bne_iff_ne.mpr c3
  obtain rfl := zU H
  go_enter Try.func83, Try.ntmps83
  go_wp2_with (first | ((with_reducible refine gate_dst (N := 2) rfl ?_); refine box_event ?hg (N := 2) ?hd (cs := #[.int .i64 a0_0, .int .i64 a0_1, .slice A0_2 l0_2.length c0_2, .slice A0_3 l0_3.length c0_3]) (t := 25) ?hr ?_; (case hd => rfl); (case hg => rfl); (case hr => first | (go_simp; done) | (go_simp; rfl)); intro gb301 hg w23 hbox hb; have n0_ := yA (zD (mB HB.out) hb); have n1_ := yA (hbox); have n2_ := yA ((by rw [hg]; exact (yX (mB HB.out)) : w.heap.size ≤ gb301)); have n3_ := yA ((by rw [hg]; exact (yX (mB HB.out)) : w.heap.size ≤ gb301)); clear HB; have HB := n0_; have BK301 := n1_; have GW301 := n2_; have GE301 := n3_; clear n0_ n1_ n2_ n3_; clear hb hbox hg) | ((with_reducible refine gate_dst (N := 3) rfl ?_); refine box_event ?hg (N := 3) ?hd (cs := #[.int .i64 a1_0, .int .i64 a1_1, .slice A1_2 l1_2.length c1_2, .slice A1_3 l1_3.length c1_3]) (t := 25) ?hr ?_; (case hd => rfl); (case hg => rfl); (case hr => first | (go_simp; done) | (go_simp; rfl)); intro gb302 hg w24 hbox hb; have n0_ := yA (yU (mK BK301.out) hb); have n1_ := yA (zD (by with_reducible repeat first | exact HB.out | apply yO | apply yN | apply yP | refine yQ ?_ GE301.out) hb); have n2_ := yA (hbox); have n3_ := yA ((by rw [hg]; exact (yX (by with_reducible repeat first | exact HB.out | apply yO | apply yN | apply yP | refine yQ ?_ GE301.out)) : w.heap.size ≤ gb302)); have n4_ := yA ((by rw [hg]; exact (yX (by with_reducible repeat first | exact HB.out | apply yO | apply yN | apply yP | refine yQ ?_ GE301.out)) : w.heap.size ≤ gb302)); have n5_ := yA ((by rw [hg]; exact Nat.ne_of_lt (zX (mK BK301.out)) : gb301 ≠ gb302)); have n6_ := yA ((by rw [hg]; exact Nat.ne_of_gt (zX (mK BK301.out)) : gb302 ≠ gb301)); clear BK301; clear HB; have BK301 := n0_; have HB := n1_; have BK302 := n2_; have GW302 := n3_; have GE302 := n4_; have NB301_302 := n5_; have NB302_301 := n6_; clear n0_ n1_ n2_ n3_ n4_ n5_ n6_; clear hb hbox hg; have hnb25 := NB301_302.out; have hnc25 := NB302_301.out; have hcz26_0 : w24.cell? ⟨gb301, 0, none⟩ = some (.int .i64 a0_0) := (yV BK301.out 0).trans rfl; have hcz26_1 : w24.cell? ⟨gb301, 1, none⟩ = some (.int .i64 a0_1) := (yV BK301.out 1).trans rfl; have hcz26_2 : w24.cell? ⟨gb301, 2, none⟩ = some (.slice A0_2 l0_2.length c0_2) := (yV BK301.out 2).trans rfl; have hcz26_3 : w24.cell? ⟨gb301, 3, none⟩ = some (.slice A0_3 l0_3.length c0_3) := (yV BK301.out 3).trans rfl; have hfz26_0 := yW BK301.out 0; have hfz26_1 := yW BK301.out 1; have hfz26_2 := yW BK301.out 2; have hfz26_3 := yW BK301.out 3; have hcz27_0 : w24.cell? ⟨gb302, 0, none⟩ = some (.int .i64 a1_0) := (yV BK302.out 0).trans rfl; have hcz27_1 : w24.cell? ⟨gb302, 1, none⟩ = some (.int .i64 a1_1) := (yV BK302.out 1).trans rfl; have hcz27_2 : w24.cell? ⟨gb302, 2, none⟩ = some (.slice A1_2 l1_2.length c1_2) := (yV BK302.out 2).trans rfl; have hcz27_3 : w24.cell? ⟨gb302, 3, none⟩ = some (.slice A1_3 l1_3.length c1_3) := (yV BK302.out 3).trans rfl; have hfz27_0 := yW BK302.out 0; have hfz27_1 := yW BK302.out 1; have hfz27_2 := yW BK302.out 2; have hfz27_3 := yW BK302.out 3))
  go_ret
  exact ⟨by first | rfl | (simp [errW_none, errW_some] <;> rfl) | (simp [*, errW_none, errW_some] <;> rfl), by repeat (first | (with_reducible first | exact HB.out | apply yO | apply yN | apply yP | refine yQ ?_ GE301.out | refine yQ ?_ GE302.out) | exact HB.out)⟩

end Go.Proofs.Ytgopcliohchkmaa.Q
