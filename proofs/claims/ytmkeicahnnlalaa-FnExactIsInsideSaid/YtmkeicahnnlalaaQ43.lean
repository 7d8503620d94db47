-- written by a program of this session (a turned copy of the kit's print) out of the translation
-- squeezed
-- compact
import Derived.Test.YtmkeicahnnlalaaQ0
import Derived.Test.YtmkeicahnnlalaaQ2
import Derived.Test.YtmkeicahnnlalaaQ42
namespace Go.Proofs.Ytmkeicahnnlalaa.Q
open Go.RowKit Go.Proofs.YtmkeicahnnlalaaW.PrintWords Go.Proofs.YtmkeicahnnlalaaW.PrintLast Go.Proofs.YtmkeicahnnlalaaW.PrintMore
attribute [local go_sem] max2_int min2_int max_two min_two max_three min_three max_four min_four   -- for this text's walks alone
set_option linter.unusedVariables false
set_option linter.unusedSimpArgs false

/-! ### laws_szRelation: function 19 -/
def laws_szRelation.f (k : Nat) (a0_0 : Int) (a0_1 : Int) (l0_2 : List (List Int)) (l0_3 : List Bool) (a1 : Int) : Option (Int) := (laws_szIntSS.f k l0_2 a1).bind fun t475 => (if t475 < 0 then (some (-1)) else ((laws_szBoolS.f l0_3 t475).bind fun t476 => (if t476 < 0 then (some (-1)) else (some t476))))
theorem laws_szRelation.mono : ∀ a0 a1 a2 a3 a4 k, LeO (laws_szRelation.f k a0 a1 a2 a3 a4) (laws_szRelation.f (k + 1) a0 a1 a2 a3 a4) := by
 intro a0 a1 a2 a3 a4 k
 unfold laws_szRelation.f
 repeat' first
   | (with_reducible exact laws_szIntSS.mono _ _ _)
   | (with_reducible exact LeO.refl _)
   | (with_reducible exact LeO.none _)
   | (with_reducible refine LeO.ite ?_ ?_)
   | (with_reducible refine LeO.bind ?_ (fun _ => ?_))
   | exact laws_szIntSS.mono _ _ _
   | exact LeO.none _
   | refine LeO.ite ?_ ?_
   | refine LeO.bind ?_ (fun _ => ?_)
set_option maxHeartbeats 8000000 in
set_option maxRecDepth 100000 in
theorem laws_szRelation.calls (k : Nat) (a0_0 : Int) (a0_1 : Int) (A0_2 : Option Addr) (c0_2 : Nat) (l0_2 : List (List Int)) (A0_3 : Option Addr) (c0_3 : Nat) (l0_3 : List Bool) (a1 : Int) (r : Int) (w : World) (hr0_2 : Kd.C (Kd.slice 3 (Kd.int .i64)) w A0_2 l0_2.length l0_2) (hc0_2 : l0_2.length ≤ c0_2) (hr0_3 : Kd.C Kd.bool w A0_3 l0_3.length l0_3) (hc0_3 : l0_3.length ≤ c0_3) (h : laws_szRelation.f k a0_0 a0_1 l0_2 l0_3 a1 = some r) :
  Calls Try.prog 19 #[.agg #[.int .i64 a0_0, .int .i64 a0_1, .slice A0_2 l0_2.length c0_2, .slice A0_3 l0_3.length c0_3], .int .i64 a1] w fun e w' => e = .returned (.int .i64 r) ∧ Below w.heap.size w w' := by
 have hu39 := Try.underlying39
 have HR0_2 := yA hr0_2
 have HC0_2 := yA hc0_2
 clear hr0_2 hc0_2
 have HR0_3 := yA hr0_3
 have HC0_3 := yA hc0_3
 clear hr0_3 hc0_3
 have HB := yA (zV w.heap.size w)
 have H : ((laws_szIntSS.f k l0_2 a1).bind fun t475 => (if t475 < 0 then (some (-1)) else ((laws_szBoolS.f l0_3 t475).bind fun t476 => (if t476 < 0 then (some (-1)) else (some t476))))) = some r := h
 clear h
 replace H := Option.bind_eq_some_iff.mp H
 obtain ⟨t475, A30, H⟩ := H
 replace H : (if t475 < 0 then (some (-1)) else ((laws_szBoolS.f l0_3 t475).bind fun t476 => (if t476 < 0 then (some (-1)) else (some t476)))) = some r := H
 have A3 := yA A30
 clear A30
 by_cases c4 : t475 < 0
 ·rw [if_pos c4] at H
  have c4b0 : decide (t475 < 0) = true := zH c4
  clear c4
  obtain rfl := zU H
  go_enter Try.func19, Try.ntmps19
  go_wp2_with (first | ((with_reducible refine gate_dst (N := 2) rfl ?_); refine box_event ?hg (N := 2) ?hd (cs := #[.int .i64 a0_0, .int .i64 a0_1, .slice A0_2 l0_2.length c0_2, .slice A0_3 l0_3.length c0_3]) (t := 39) ?hr ?_; (case hd => rfl); (case hg => rfl); (case hr => first | (go_simp; done) | (go_simp; rfl)); intro gb474 hg w5 hbox hb; have n0_ := yA (zD (mB HB.out) hb); have n1_ := yA (hbox); have n2_ := yA ((by rw [hg]; exact (yX (mB HB.out)) : w.heap.size ≤ gb474)); have n3_ := yA ((by rw [hg]; exact (yX (mB HB.out)) : w.heap.size ≤ gb474)); clear HB; have HB := n0_; have BK474 := n1_; have GW474 := n2_; have GE474 := n3_; clear n0_ n1_ n2_ n3_; clear hb hbox hg; have hcz6_0 : w5.cell? ⟨gb474, 0, none⟩ = some (.int .i64 a0_0) := (yV BK474.out 0).trans rfl; have hcz6_1 : w5.cell? ⟨gb474, 1, none⟩ = some (.int .i64 a0_1) := (yV BK474.out 1).trans rfl; have hcz6_2 : w5.cell? ⟨gb474, 2, none⟩ = some (.slice A0_2 l0_2.length c0_2) := (yV BK474.out 2).trans rfl; have hcz6_3 : w5.cell? ⟨gb474, 3, none⟩ = some (.slice A0_3 l0_3.length c0_3) := (yV BK474.out 3).trans rfl; have hfz6_0 := yW BK474.out 0; have hfz6_1 := yW BK474.out 1; have hfz6_2 := yW BK474.out 2; have hfz6_3 := yW BK474.out 3) | ((with_reducible refine zS (f := 36) rfl ?_); refine goesL_ (some 8) rfl rfl Try.func36 (by kernel_rfl) rfl #[.slice A0_2 l0_2.length c0_2, .int .i64 a1] rfl (by (try simp only [zI, zJ, zK]); first | done | rfl | (simp only [zL, zM]; rfl)) ?_; (with_reducible refine (laws_szIntSS.calls k _ _ l0_2 a1 t475 _ ?side1 ?side2 A3.out).mono ?_); (case side1 => exact mC (yM HR0_2.out HB.out)); (case side2 => exact HC0_2.out); rintro e w' ⟨rfl, ⟨nd, rfl⟩⟩; refine ⟨_, rfl, ?_⟩))
  go_ret
  exact ⟨by first | rfl | (simp [errW_none, errW_some] <;> rfl) | (simp [*, errW_none, errW_some] <;> rfl), by repeat (first | (with_reducible first | exact HB.out | apply yO | apply yN | apply yP | refine yQ ?_ GE474.out) | exact HB.out)⟩
 ·rw [if_neg c4] at H
  have c4b0 : decide (t475 < 0) = false := decide_eq_false c4
  clear c4
  replace H := Option.bind_eq_some_iff.mp H
  obtain ⟨t476, A70, H⟩ := H
  replace H : (if t476 < 0 then (some (-1)) else (some t476)) = some r := H
  have A7 := yA A70
  clear A70
  by_cases c8 : t476 < 0
  ·rw [if_pos c8] at H
   have c8b0 : decide (t476 < 0) = true := zH c8
   clear c8
   obtain rfl := zU H
   go_enter Try.func19, Try.ntmps19
   go_wp2_with (first | ((with_reducible refine gate_dst (N := 2) rfl ?_); refine box_event ?hg (N := 2) ?hd (cs := #[.int .i64 a0_0, .int .i64 a0_1, .slice A0_2 l0_2.length c0_2, .slice A0_3 l0_3.length c0_3]) (t := 39) ?hr ?_; (case hd => rfl); (case hg => rfl); (case hr => first | (go_simp; done) | (go_simp; rfl)); intro gb474 hg w9 hbox hb; have n0_ := yA (zD (mB HB.out) hb); have n1_ := yA (hbox); have n2_ := yA ((by rw [hg]; exact (yX (mB HB.out)) : w.heap.size ≤ gb474)); have n3_ := yA ((by rw [hg]; exact (yX (mB HB.out)) : w.heap.size ≤ gb474)); clear HB; have HB := n0_; have BK474 := n1_; have GW474 := n2_; have GE474 := n3_; clear n0_ n1_ n2_ n3_; clear hb hbox hg; have hcz10_0 : w9.cell? ⟨gb474, 0, none⟩ = some (.int .i64 a0_0) := (yV BK474.out 0).trans rfl; have hcz10_1 : w9.cell? ⟨gb474, 1, none⟩ = some (.int .i64 a0_1) := (yV BK474.out 1).trans rfl; have hcz10_2 : w9.cell? ⟨gb474, 2, none⟩ = some (.slice A0_2 l0_2.length c0_2) := (yV BK474.out 2).trans rfl; have hcz10_3 : w9.cell? ⟨gb474, 3, none⟩ = some (.slice A0_3 l0_3.length c0_3) := (yV BK474.out 3).trans rfl; have hfz10_0 := yW BK474.out 0; have hfz10_1 := yW BK474.out 1; have hfz10_2 := yW BK474.out 2; have hfz10_3 := yW BK474.out 3) | ((with_reducible refine zS (f := 36) rfl ?_); refine goesL_ (some 8) rfl rfl Try.func36 (by kernel_rfl) rfl #[.slice A0_2 l0_2.length c0_2, .int .i64 a1] rfl (by (try simp only [zI, zJ, zK]); first | done | rfl | (simp only [zL, zM]; rfl)) ?_; (with_reducible refine (laws_szIntSS.calls k _ _ l0_2 a1 t475 _ ?side1 ?side2 A3.out).mono ?_); (case side1 => exact mC (yM HR0_2.out HB.out)); (case side2 => exact HC0_2.out); rintro e w' ⟨rfl, ⟨nd, rfl⟩⟩; refine ⟨_, rfl, ?_⟩) | ((with_reducible refine zS (f := 53) rfl ?_); refine goesL_ (some 14) rfl rfl Try.func53 (by kernel_rfl) rfl #[.slice A0_3 l0_3.length c0_3, .int .i64 t475] rfl (by (try simp only [zI, zJ, zK]); first | done | rfl | (simp only [zL, zM]; rfl)) ?_; (with_reducible refine (laws_szBoolS.calls _ _ l0_3 t475 t476 _ ?side1 ?side2 A7.out).mono ?_); (case side1 => exact mC (yM HR0_3.out (by with_reducible repeat first | exact HB.out | apply yO | apply yN | apply yP | refine yQ ?_ GE474.out))); (case side2 => exact HC0_3.out); rintro e w' ⟨rfl, ⟨nd, rfl⟩⟩; refine ⟨_, rfl, ?_⟩))
   go_ret
   exact ⟨by first | rfl | (simp [errW_none, errW_some] <;> rfl) | (simp [*, errW_none, errW_some] <;> rfl), by repeat (first | (with_reducible first | exact HB.out | apply yO | apply yN | apply yP | refine yQ ?_ GE474.out) | exact HB.out)⟩
  ·rw [if_neg c8] at H
   have c8b0 : decide (t476 < 0) = false := decide_eq_false c8
   clear c8
   obtain rfl := zU H
   go_enter Try.func19, Try.ntmps19
   go_wp2_with (first | ((with_reducible refine gate_dst (N := 2) rfl ?_); refine box_event ?hg (N := 2) ?hd (cs := #[.int .i64 a0_0, .int .i64 a0_1, .slice A0_2 l0_2.length c0_2, .slice A0_3 l0_3.length c0_3]) (t := 39) ?hr ?_; (case hd => rfl); (case hg => rfl); (case hr => first | (go_simp; done) | (go_simp; rfl)); intro gb474 hg w11 hbox hb; have n0_ := yA (zD (mB HB.out) hb); have n1_ := yA (hbox); have n2_ := yA ((by rw [hg]; exact (yX (mB HB.out)) : w.heap.size ≤ gb474)); have n3_ := yA ((by rw [hg]; exact (yX (mB HB.out)) : w.heap.size ≤ gb474)); clear HB; have HB := n0_; have BK474 := n1_; have GW474 := n2_; have GE474 := n3_; clear n0_ n1_ n2_ n3_; clear hb hbox hg; have hcz12_0 : w11.cell? ⟨gb474, 0, none⟩ = some (.int .i64 a0_0) := (yV BK474.out 0).trans rfl; have hcz12_1 : w11.cell? ⟨gb474, 1, none⟩ = some (.int .i64 a0_1) := (yV BK474.out 1).trans rfl; have hcz12_2 : w11.cell? ⟨gb474, 2, none⟩ = some (.slice A0_2 l0_2.length c0_2) := (yV BK474.out 2).trans rfl; have hcz12_3 : w11.cell? ⟨gb474, 3, none⟩ = some (.slice A0_3 l0_3.length c0_3) := (yV BK474.out 3).trans rfl; have hfz12_0 := yW BK474.out 0; have hfz12_1 := yW BK474.out 1; have hfz12_2 := yW BK474.out 2; have hfz12_3 := yW BK474.out 3) | ((with_reducible refine zS (f := 36) rfl ?_); refine goesL_ (some 8) rfl rfl Try.func36 (by kernel_rfl) rfl #[.slice A0_2 l0_2.length c0_2, .int .i64 a1] rfl (by (try simp only [zI, zJ, zK]); first | done | rfl | (simp only [zL, zM]; rfl)) ?_; (with_reducible refine (laws_szIntSS.calls k _ _ l0_2 a1 t475 _ ?side1 ?side2 A3.out).mono ?_); (case side1 => exact mC (yM HR0_2.out HB.out)); (case side2 => exact HC0_2.out); rintro e w' ⟨rfl, ⟨nd, rfl⟩⟩; refine ⟨_, rfl, ?_⟩) | ((with_reducible refine zS (f := 53) rfl ?_); refine goesL_ (some 14) rfl rfl Try.func53 (by kernel_rfl) rfl #[.slice A0_3 l0_3.length c0_3, .int .i64 t475] rfl (by (try simp only [zI, zJ, zK]); first | done | rfl | (simp only [zL, zM]; rfl)) ?_; (with_reducible refine (laws_szBoolS.calls _ _ l0_3 t475 t476 _ ?side1 ?side2 A7.out).mono ?_); (case side1 => exact mC (yM HR0_3.out (by with_reducible repeat first | exact HB.out | apply yO | apply yN | apply yP | refine yQ ?_ GE474.out))); (case side2 => exact HC0_3.out); rintro e w' ⟨rfl, ⟨nd, rfl⟩⟩; refine ⟨_, rfl, ?_⟩))
   go_ret
   exact ⟨by first | rfl | (simp [errW_none, errW_some] <;> rfl) | (simp [*, errW_none, errW_some] <;> rfl), by repeat (first | (with_reducible first | exact HB.out | apply yO | apply yN | apply yP | refine yQ ?_ GE474.out) | exact HB.out)⟩

end Go.Proofs.Ytmkeicahnnlalaa.Q
