-- written by a program of this session
-- squeezed
-- compact
-- shrunk
import Derived.Test.YtmkeicahnnlalaaQ0
import Derived.Test.YtmkeicahnnlalaaQ3
import Derived.Test.YtmkeicahnnlalaaQ16
import Derived.Test.YtmkeicahnnlalaaQ32
import Derived.Test.YtmkeicahnnlalaaQ66
import Derived.Test.YtmkeicahnnlalaaQ81
import Derived.Test.YtmkeicahnnlalaaQ83
import Derived.Test.YtmkeicahnnlalaaQ97
import Derived.Test.YtmkeicahnnlalaaQ99
namespace Go.Proofs.Ytmkeicahnnlalaa.Q
open Go.RowKit Go.Proofs.YtmkeicahnnlalaaW.PrintWords Go.Proofs.YtmkeicahnnlalaaW.PrintLast Go.Proofs.YtmkeicahnnlalaaW.PrintMore
set_option linter.unusedVariables false
set_option linter.unusedSimpArgs false

/-! ### laws_FnExactBoundedSolutions: function 7 -/
def laws_FnExactBoundedSolutions.f (k : Nat) (a0_0 : Int) (l0_1 : List (List Int)) (l0_2 : List Int) (l1 : List (S73)) (a2 : Int) : Option (Bool) := (laws_szSequence.f k a0_0 l0_1 l0_2 1048576).bind fun t1090 => (if t1090 < 0 then (some true) else ((laws_szNodeS.f l1 t1090).bind fun t1091 => (if t1091 < 0 then (some true) else ((laws_toSequence.f k a0_0 l0_1 l0_2).bind fun bt1092 => ((laws_toNodeS.f k l1).bind fun t1099 => ((spec_BoundedSolutions.f k bt1092.1 bt1092.2.1 bt1092.2.2 t1099 a2).bind fun t1102 => ((laws_toSequence.f k a0_0 l0_1 l0_2).bind fun bt1103 => ((laws_toNodeS.f k l1).bind fun t1111 => ((impl_BoundedSolutions.f k bt1103.1 bt1103.2.1 bt1103.2.2 t1111 a2).bind fun t1114 => (if t1114 = t1102 then ((laws_toSequence.f k a0_0 l0_1 l0_2).bind fun bt1115 => ((laws_eqSequence.f k bt1103.1 bt1103.2.1 bt1103.2.2 bt1115.1 bt1115.2.1 bt1115.2.2).bind fun t1122 => (if t1122 = true then ((laws_toNodeS.f k l1).bind fun t1123 => ((laws_eqNodeS.f k t1111 t1123).bind fun t1126 => (if t1126 = true then (some true) else (some false)))) else (some false)))) else (some false)))))))))))
theorem laws_FnExactBoundedSolutions.mono : ∀ a0 a1 a2 a3 a4 k, LeO (laws_FnExactBoundedSolutions.f k a0 a1 a2 a3 a4) (laws_FnExactBoundedSolutions.f (k + 1) a0 a1 a2 a3 a4) := by
 intro a0 a1 a2 a3 a4 k
 unfold laws_FnExactBoundedSolutions.f
 repeat' (with_reducible first | exact impl_BoundedSolutions.mono _ _ _ _ _ _ | exact laws_eqNodeS.mono _ _ _ | exact laws_eqSequence.mono _ _ _ _ _ _ _ | exact laws_szSequence.mono _ _ _ _ _ | exact laws_toNodeS.mono _ _ | exact laws_toSequence.mono _ _ _ _ | exact spec_BoundedSolutions.mono _ _ _ _ _ _ | exact LeO.refl _ | exact LeO.none _ | refine LeO.ite ?_ ?_ | refine LeO.bind ?_ fun _ => ?_)
set_option maxHeartbeats 8000000 in
set_option maxRecDepth 100000 in
theorem laws_FnExactBoundedSolutions.calls (k : Nat) (a0_0 : Int) (A0_1 : Option Addr) (c0_1 : Nat) (l0_1 : List (List Int)) (A0_2 : Option Addr) (c0_2 : Nat) (l0_2 : List Int) (A1 : Option Addr) (c1 : Nat) (l1 : List (S73)) (a2 : Int) (r : Bool) (hr_ : r = true) (w : World) (hr0_1 : Kd.C (Kd.slice 3 (Kd.int .i64)) w A0_1 l0_1.length l0_1) (hc0_1 : l0_1.length ≤ c0_1) (hr0_2 : Kd.C (Kd.int .i64) w A0_2 l0_2.length l0_2) (hc0_2 : l0_2.length ≤ c0_2) (hr1 : Kd.C k73 w A1 l1.length l1) (hc1 : l1.length ≤ c1) (h : laws_FnExactBoundedSolutions.f k a0_0 l0_1 l0_2 l1 a2 = some r) :
  Calls Try.prog 7 #[.agg #[.int .i64 a0_0, .slice A0_1 l0_1.length c0_1, .slice A0_2 l0_2.length c0_2], .slice A1 l1.length c1, .int .i64 a2] w fun e w' => e = .returned (.bool r) ∧ Below w.heap.size w w' := by
 have hu25 := Try.underlying25
 have hu32 := Try.underlying32
 have HR0_1 := yA hr0_1
 have HC0_1 := yA hc0_1
 clear hr0_1 hc0_1
 have HR0_2 := yA hr0_2
 have HC0_2 := yA hc0_2
 clear hr0_2 hc0_2
 have HR1 := yA hr1
 have HC1 := yA hc1
 clear hr1 hc1
 have HB := yA (zV w.heap.size w)
 have H : ((laws_szSequence.f k a0_0 l0_1 l0_2 1048576).bind fun t1090 => (if t1090 < 0 then (some true) else ((laws_szNodeS.f l1 t1090).bind fun t1091 => (if t1091 < 0 then (some true) else ((laws_toSequence.f k a0_0 l0_1 l0_2).bind fun bt1092 => ((laws_toNodeS.f k l1).bind fun t1099 => ((spec_BoundedSolutions.f k bt1092.1 bt1092.2.1 bt1092.2.2 t1099 a2).bind fun t1102 => ((laws_toSequence.f k a0_0 l0_1 l0_2).bind fun bt1103 => ((laws_toNodeS.f k l1).bind fun t1111 => ((impl_BoundedSolutions.f k bt1103.1 bt1103.2.1 bt1103.2.2 t1111 a2).bind fun t1114 => (if t1114 = t1102 then ((laws_toSequence.f k a0_0 l0_1 l0_2).bind fun bt1115 => ((laws_eqSequence.f k bt1103.1 bt1103.2.1 bt1103.2.2 bt1115.1 bt1115.2.1 bt1115.2.2).bind fun t1122 => (if t1122 = true then ((laws_toNodeS.f k l1).bind fun t1123 => ((laws_eqNodeS.f k t1111 t1123).bind fun t1126 => (if t1126 = true then (some true) else (some false)))) else (some false)))) else (some false)))))))))))) = some r := h
 clear h
 obtain ⟨t1090, A4, H⟩ := bE H
 by_cases c5 : t1090 < 0
 ·rw [if_pos c5] at H
  have c5b0 : decide (t1090 < 0) = true := zH c5
  clear c5
  obtain rfl := zU H
  go_enter Try.func7, Try.ntmps7
  go_wp2_with (first | ((with_reducible refine gate_dst (N := 3) rfl ?_); refine box_event ?hg (N := 3) ?hd (cs := #[.int .i64 a0_0, .slice A0_1 l0_1.length c0_1, .slice A0_2 l0_2.length c0_2]) (t := 25) ?hr ?_; (case hd => rfl); (case hg => rfl); (case hr => first | (go_simp; done) | (go_simp; rfl)); intro gb1089 hg w6 hbox hb; have BK1089 := yA (hbox); have GW1089 := yA ((by rw [hg]; exact (yX (mB HB.out)) : w.heap.size ≤ gb1089)); have GE1089 := yA ((by rw [hg]; exact (yX (mB HB.out)) : w.heap.size ≤ gb1089)); replace HB := yA (zD (mB HB.out) hb); clear hb hbox hg; have hcz7_0 : w6.cell? ⟨gb1089, 0, none⟩ = some (.int .i64 a0_0) := (yV BK1089.out 0).trans rfl; have hcz7_1 : w6.cell? ⟨gb1089, 1, none⟩ = some (.slice A0_1 l0_1.length c0_1) := (yV BK1089.out 1).trans rfl; have hcz7_2 : w6.cell? ⟨gb1089, 2, none⟩ = some (.slice A0_2 l0_2.length c0_2) := (yV BK1089.out 2).trans rfl; have hfz7_0 := yW BK1089.out 0; have hfz7_1 := yW BK1089.out 1; have hfz7_2 := yW BK1089.out 2) | ((with_reducible refine zS (f := 10) rfl ?_); refine goesL_ (some 14) rfl rfl Try.func10 (by kernel_rfl) rfl #[.agg #[.int .i64 a0_0, .slice A0_1 l0_1.length c0_1, .slice A0_2 l0_2.length c0_2], .int .i64 1048576] rfl (by (try simp only [zI, zJ, zK]); first | done | rfl | (simp only [zL, zM]; rfl)) ?_; (with_reducible refine (laws_szSequence.calls k a0_0 _ _ l0_1 _ _ l0_2 1048576 t1090 _ ?side1 ?side2 ?side3 ?side4 A4.out).mono ?_); (case side1 => exact mC (yM HR0_1.out HB.out)); (case side2 => exact HC0_1.out); (case side3 => exact mC (yM HR0_2.out HB.out)); (case side4 => exact HC0_2.out); rintro e w8 ⟨rfl, hb⟩; refine ⟨_, rfl, ?_⟩; replace BK1089 := yA (yU (mK BK1089.out) hb); replace HB := yA (zD (by with_reducible repeat first | exact HB.out | apply yO | apply yN | apply yP | refine yQ ?_ GE1089.out) hb); (try clear hb); (try clear hb2); (try clear hk); (try clear hi)))
  go_ret
  exact ⟨by first | rfl | (simp [errW_none, errW_some] <;> rfl) | (simp [*, errW_none, errW_some] <;> rfl), by repeat (first | (with_reducible first | exact HB.out | apply yO | apply yN | apply yP | refine yQ ?_ GE1089.out) | exact HB.out)⟩
 ·rw [if_neg c5] at H
  have c5b0 : decide (t1090 < 0) = false := decide_eq_false c5
  clear c5
  obtain ⟨t1091, A9, H⟩ := bE H
  by_cases c10 : t1091 < 0
  ·rw [if_pos c10] at H
   have c10b0 : decide (t1091 < 0) = true := zH c10
   clear c10
   obtain rfl := zU H
   go_enter Try.func7, Try.ntmps7
   go_wp2_with (first | ((with_reducible refine gate_dst (N := 3) rfl ?_); refine box_event ?hg (N := 3) ?hd (cs := #[.int .i64 a0_0, .slice A0_1 l0_1.length c0_1, .slice A0_2 l0_2.length c0_2]) (t := 25) ?hr ?_; (case hd => rfl); (case hg => rfl); (case hr => first | (go_simp; done) | (go_simp; rfl)); intro gb1089 hg w11 hbox hb; have BK1089 := yA (hbox); have GW1089 := yA ((by rw [hg]; exact (yX (mB HB.out)) : w.heap.size ≤ gb1089)); have GE1089 := yA ((by rw [hg]; exact (yX (mB HB.out)) : w.heap.size ≤ gb1089)); replace HB := yA (zD (mB HB.out) hb); clear hb hbox hg; have hcz12_0 : w11.cell? ⟨gb1089, 0, none⟩ = some (.int .i64 a0_0) := (yV BK1089.out 0).trans rfl; have hcz12_1 : w11.cell? ⟨gb1089, 1, none⟩ = some (.slice A0_1 l0_1.length c0_1) := (yV BK1089.out 1).trans rfl; have hcz12_2 : w11.cell? ⟨gb1089, 2, none⟩ = some (.slice A0_2 l0_2.length c0_2) := (yV BK1089.out 2).trans rfl; have hfz12_0 := yW BK1089.out 0; have hfz12_1 := yW BK1089.out 1; have hfz12_2 := yW BK1089.out 2) | ((with_reducible refine zS (f := 10) rfl ?_); refine goesL_ (some 14) rfl rfl Try.func10 (by kernel_rfl) rfl #[.agg #[.int .i64 a0_0, .slice A0_1 l0_1.length c0_1, .slice A0_2 l0_2.length c0_2], .int .i64 1048576] rfl (by (try simp only [zI, zJ, zK]); first | done | rfl | (simp only [zL, zM]; rfl)) ?_; (with_reducible refine (laws_szSequence.calls k a0_0 _ _ l0_1 _ _ l0_2 1048576 t1090 _ ?side1 ?side2 ?side3 ?side4 A4.out).mono ?_); (case side1 => exact mC (yM HR0_1.out HB.out)); (case side2 => exact HC0_1.out); (case side3 => exact mC (yM HR0_2.out HB.out)); (case side4 => exact HC0_2.out); rintro e w13 ⟨rfl, hb⟩; refine ⟨_, rfl, ?_⟩; replace BK1089 := yA (yU (mK BK1089.out) hb); replace HB := yA (zD (by with_reducible repeat first | exact HB.out | apply yO | apply yN | apply yP | refine yQ ?_ GE1089.out) hb); (try clear hb); (try clear hb2); (try clear hk); (try clear hi)) | ((with_reducible refine zS (f := 27) rfl ?_); refine goesL_ (some 19) rfl rfl Try.func27 (by kernel_rfl) rfl #[.slice A1 l1.length c1, .int .i64 t1090] rfl (by (try simp only [zI, zJ, zK]); first | done | rfl | (simp only [zL, zM]; rfl)) ?_; (with_reducible refine (laws_szNodeS.calls _ _ l1 t1090 t1091 _ ?side1 ?side2 A9.out).mono ?_); (case side1 => exact mC (yM HR1.out HB.out)); (case side2 => exact HC1.out); rintro e w' ⟨rfl, ⟨nd, rfl⟩⟩; refine ⟨_, rfl, ?_⟩))
   go_ret
   exact ⟨by first | rfl | (simp [errW_none, errW_some] <;> rfl) | (simp [*, errW_none, errW_some] <;> rfl), by repeat (first | (with_reducible first | exact HB.out | apply yO | apply yN | apply yP | refine yQ ?_ GE1089.out) | exact HB.out)⟩
  ·rw [if_neg c10] at H
   have c10b0 : decide (t1091 < 0) = false := decide_eq_false c10
   clear c10
   replace H := Option.bind_eq_some_iff.mp H
   obtain ⟨⟨t1092, t1093, t1096⟩, A140, H⟩ := H
   replace H : ((laws_toNodeS.f k l1).bind fun t1099 => ((spec_BoundedSolutions.f k t1092 t1093 t1096 t1099 a2).bind fun t1102 => ((laws_toSequence.f k a0_0 l0_1 l0_2).bind fun bt1103 => ((laws_toNodeS.f k l1).bind fun t1111 => ((impl_BoundedSolutions.f k bt1103.1 bt1103.2.1 bt1103.2.2 t1111 a2).bind fun t1114 => (if t1114 = t1102 then ((laws_toSequence.f k a0_0 l0_1 l0_2).bind fun bt1115 => ((laws_eqSequence.f k bt1103.1 bt1103.2.1 bt1103.2.2 bt1115.1 bt1115.2.1 bt1115.2.2).bind fun t1122 => (if t1122 = true then ((laws_toNodeS.f k l1).bind fun t1123 => ((laws_eqNodeS.f k t1111 t1123).bind fun t1126 => (if t1126 = true then (some true) else (some false)))) else (some false)))) else (some false))))))) = some r := H
   have A14 := yA A140
   clear A140
   obtain ⟨t1099, A15, H⟩ := bE H
   obtain ⟨t1102, A16, H⟩ := bE H
   replace H := Option.bind_eq_some_iff.mp H
   obtain ⟨⟨t1103, t1104, t1107⟩, A170, H⟩ := H
   replace H : ((laws_toNodeS.f k l1).bind fun t1111 => ((impl_BoundedSolutions.f k t1103 t1104 t1107 t1111 a2).bind fun t1114 => (if t1114 = t1102 then ((laws_toSequence.f k a0_0 l0_1 l0_2).bind fun bt1115 => ((laws_eqSequence.f k t1103 t1104 t1107 bt1115.1 bt1115.2.1 bt1115.2.2).bind fun t1122 => (if t1122 = true then ((laws_toNodeS.f k l1).bind fun t1123 => ((laws_eqNodeS.f k t1111 t1123).bind fun t1126 => (if t1126 = true then (some true) else (some false)))) else (some false)))) else (some false)))) = some r := H
   have A17 := yA A170
   clear A170
   obtain ⟨t1111, A18, H⟩ := bE H
   obtain ⟨t1114, A19, H⟩ := bE H
   by_cases c20 : t1114 = t1102
   ·rw [if_pos c20] at H
    have c20b0 : (t1114 == t1102) = true := beq_iff_eq.mpr c20
    have c20b1 : (t1114 != t1102) = false := bne_eq_false_iff_eq.mpr c20
    clear c20
    replace H := Option.bind_eq_some_iff.mp H
    obtain ⟨⟨t1115, t1116, t1119⟩, A210, H⟩ := H
    replace H : ((laws_eqSequence.f k t1103 t1104 t1107 t1115 t1116 t1119).bind fun t1122 => (if t1122 = true then ((laws_toNodeS.f k l1).bind fun t1123 => ((laws_eqNodeS.f k t1111 t1123).bind fun t1126 => (if t1126 = true then (some true) else (some false)))) else (some false))) = some r := H
    have A21 := yA A210
    clear A210
    obtain ⟨t1122, A22, H⟩ := bE H
    by_cases c23 : t1122 = true
    ·subst c23
     replace H := iT H
     obtain ⟨t1123, A24, H⟩ := bE H
     obtain ⟨t1126, A25, H⟩ := bE H
     by_cases c26 : t1126 = true
     ·subst c26
      replace H := iT H
      obtain rfl := zU H
      go_enter Try.func7, Try.ntmps7
      try go_wp2_with (first | ((with_reducible refine gate_dst (N := 3) rfl ?_); refine box_event ?hg (N := 3) ?hd (cs := #[.int .i64 a0_0, .slice A0_1 l0_1.length c0_1, .slice A0_2 l0_2.length c0_2]) (t := 25) ?hr ?_; (case hd => rfl); (case hg => rfl); (case hr => first | (go_simp; done) | (go_simp; rfl)); intro gb1089 hg w27 hbox hb; have BK1089 := yA (hbox); have GW1089 := yA ((by rw [hg]; exact (yX (mB HB.out)) : w.heap.size ≤ gb1089)); have GE1089 := yA ((by rw [hg]; exact (yX (mB HB.out)) : w.heap.size ≤ gb1089)); replace HB := yA (zD (mB HB.out) hb); clear hb hbox hg; have hcz28_0 : w27.cell? ⟨gb1089, 0, none⟩ = some (.int .i64 a0_0) := (yV BK1089.out 0).trans rfl; have hcz28_1 : w27.cell? ⟨gb1089, 1, none⟩ = some (.slice A0_1 l0_1.length c0_1) := (yV BK1089.out 1).trans rfl; have hcz28_2 : w27.cell? ⟨gb1089, 2, none⟩ = some (.slice A0_2 l0_2.length c0_2) := (yV BK1089.out 2).trans rfl; have hfz28_0 := yW BK1089.out 0; have hfz28_1 := yW BK1089.out 1; have hfz28_2 := yW BK1089.out 2) | ((with_reducible refine zS (f := 10) rfl ?_); refine goesL_ (some 14) rfl rfl Try.func10 (by kernel_rfl) rfl #[.agg #[.int .i64 a0_0, .slice A0_1 l0_1.length c0_1, .slice A0_2 l0_2.length c0_2], .int .i64 1048576] rfl (by (try simp only [zI, zJ, zK]); first | done | rfl | (simp only [zL, zM]; rfl)) ?_; (with_reducible refine (laws_szSequence.calls k a0_0 _ _ l0_1 _ _ l0_2 1048576 t1090 _ ?side1 ?side2 ?side3 ?side4 A4.out).mono ?_); (case side1 => exact mC (yM HR0_1.out HB.out)); (case side2 => exact HC0_1.out); (case side3 => exact mC (yM HR0_2.out HB.out)); (case side4 => exact HC0_2.out); rintro e w29 ⟨rfl, hb⟩; refine ⟨_, rfl, ?_⟩; replace BK1089 := yA (yU (mK BK1089.out) hb); replace HB := yA (zD (by with_reducible repeat first | exact HB.out | apply yO | apply yN | apply yP | refine yQ ?_ GE1089.out) hb); (try clear hb); (try clear hb2); (try clear hk); (try clear hi)) | ((with_reducible refine zS (f := 27) rfl ?_); refine goesL_ (some 19) rfl rfl Try.func27 (by kernel_rfl) rfl #[.slice A1 l1.length c1, .int .i64 t1090] rfl (by (try simp only [zI, zJ, zK]); first | done | rfl | (simp only [zL, zM]; rfl)) ?_; (with_reducible refine (laws_szNodeS.calls _ _ l1 t1090 t1091 _ ?side1 ?side2 A9.out).mono ?_); (case side1 => exact mC (yM HR1.out HB.out)); (case side2 => exact HC1.out); rintro e w' ⟨rfl, ⟨nd, rfl⟩⟩; refine ⟨_, rfl, ?_⟩; (try (rw [drewN_self w29]; generalize hq_ : World.drewN w29 _ = w29; have n0_ : Aside0 (w29.heap[gb1089]? = some (.cells #[.int .i64 a0_0, .slice A0_1 l0_1.length c0_1, .slice A0_2 l0_2.length c0_2] 25 (0, 0))) := ⟨by rw [← hq_]; exact (mK BK1089.out)⟩; have n1_ : Aside0 (Below w.heap.size w w29) := ⟨by rw [← hq_]; exact (by with_reducible repeat first | exact HB.out | apply yO | apply yN | apply yP | refine yQ ?_ GE1089.out)⟩; clear BK1089 HB hq_; have BK1089 := n0_; have HB := n1_; clear n0_ n1_)); have hcz30_0 : w29.cell? ⟨gb1089, 0, none⟩ = some (.int .i64 a0_0) := (yV BK1089.out 0).trans rfl; have hcz30_1 : w29.cell? ⟨gb1089, 1, none⟩ = some (.slice A0_1 l0_1.length c0_1) := (yV BK1089.out 1).trans rfl; have hcz30_2 : w29.cell? ⟨gb1089, 2, none⟩ = some (.slice A0_2 l0_2.length c0_2) := (yV BK1089.out 2).trans rfl; have hfz30_0 := yW BK1089.out 0; have hfz30_1 := yW BK1089.out 1; have hfz30_2 := yW BK1089.out 2) | ((with_reducible refine zS (f := 12) rfl ?_); refine goesL_ (some 23) rfl rfl Try.func12 (by kernel_rfl) rfl #[.agg #[.int .i64 a0_0, .slice A0_1 l0_1.length c0_1, .slice A0_2 l0_2.length c0_2]] rfl (by (try simp only [zI, zJ, zK]); first | done | rfl | (simp only [zL, zM]; rfl)) ?_; (with_reducible refine (laws_toSequence.calls k a0_0 _ _ l0_1 _ _ l0_2 t1092 t1093 t1096 _ ?side1 ?side2 ?side3 ?side4 A14.out).mono ?_); (case side1 => exact mC (yM HR0_1.out HB.out)); (case side2 => exact HC0_1.out); (case side3 => exact mC (yM HR0_2.out HB.out)); (case side4 => exact HC0_2.out); rintro e w31 ⟨v1094, v1097, rfl, ho0, ho1, hb⟩; refine ⟨_, rfl, ?_⟩; have HO1095 := yA (Kd.S_lower ho0 (yX (by with_reducible repeat first | exact HB.out | apply yO | apply yN | apply yP | refine yQ ?_ GE1089.out))); have HO1098 := yA (Kd.R_lower ho1 (yX (by with_reducible repeat first | exact HB.out | apply yO | apply yN | apply yP | refine yQ ?_ GE1089.out))); replace BK1089 := yA (yU (mK BK1089.out) hb); replace HB := yA (zD (by with_reducible repeat first | exact HB.out | apply yO | apply yN | apply yP | refine yQ ?_ GE1089.out) hb); (try clear hb); (try clear hb2); (try clear hk); (try clear hi); (try clear ho0); (try clear ho1)) | ((with_reducible refine zS (f := 29) rfl ?_); refine goesL_ (some 25) rfl rfl Try.func29 (by kernel_rfl) rfl #[.slice A1 l1.length c1] rfl (by (try simp only [zI, zJ, zK]); first | done | rfl | (simp only [zL, zM]; rfl)) ?_; (with_reducible refine (laws_toNodeS.calls k _ _ l1 t1099 _ ?side1 ?side2 A15.out).mono ?_); (case side1 => exact mC (yM HR1.out HB.out)); (case side2 => exact HC1.out); rintro e w32 ⟨v1100, rfl, ho0, hb⟩; refine ⟨_, rfl, ?_⟩; replace HO1095 := yA (yL (mS HO1095.out) hb); replace HO1098 := yA (yK (mR HO1098.out) hb); have HO1101 := yA (Kd.R_lower ho0 (yX (by with_reducible repeat first | exact HB.out | apply yO | apply yN | apply yP | refine yQ ?_ GE1089.out))); replace BK1089 := yA (yU (mK BK1089.out) hb); replace HB := yA (zD (by with_reducible repeat first | exact HB.out | apply yO | apply yN | apply yP | refine yQ ?_ GE1089.out) hb); (try clear hb); (try clear hb2); (try clear hk); (try clear hi); (try clear ho0); obtain ⟨Ao33, co33, eo33⟩ := Kd.S_slice HO1095.out; subst eo33; obtain ⟨Ao34, co34, eo34⟩ := Kd.R_slice HO1098.out; subst eo34; obtain ⟨Ao35, co35, eo35⟩ := Kd.R_slice HO1101.out; subst eo35) | ((with_reducible refine zS (f := 28) rfl ?_); refine goesL_ (some 27) rfl rfl Try.func28 (by kernel_rfl) rfl #[.agg #[.int .i64 t1092, .slice Ao33 t1093.length co33, .slice Ao34 t1096.length co34], .slice Ao35 t1099.length co35, .int .i64 a2] rfl (by (try simp only [zI, zJ, zK]); first | done | rfl | (simp only [zL, zM]; rfl)) ?_; (with_reducible refine (spec_BoundedSolutions.calls k t1092 _ _ t1093 _ _ t1096 _ _ t1099 a2 t1102 _ ?side1 ?side2 ?side3 ?side4 ?side5 ?side6 A16.out).mono ?_); (case side1 => exact mC ((Kd.S_reads' HO1095.out).2.2)); (case side2 => exact (Kd.S_reads' HO1095.out).2.1); (case side3 => exact mC ((zN HO1098.out).2.2)); (case side4 => exact (zN HO1098.out).2.1); (case side5 => exact mC ((zN HO1101.out).2.2)); (case side6 => exact (zN HO1101.out).2.1); rintro e w36 ⟨rfl, hb⟩; refine ⟨_, rfl, ?_⟩; replace HO1095 := yA (yL (mS HO1095.out) hb); replace HO1098 := yA (yK (mR HO1098.out) hb); replace HO1101 := yA (yK (mR HO1101.out) hb); replace BK1089 := yA (yU (mK BK1089.out) hb); replace HB := yA (zD (by with_reducible repeat first | exact HB.out | apply yO | apply yN | apply yP | refine yQ ?_ GE1089.out) hb); (try clear hb); (try clear hb2); (try clear hk); (try clear hi); have hcz37_0 : w36.cell? ⟨gb1089, 0, none⟩ = some (.int .i64 a0_0) := (yV BK1089.out 0).trans rfl; have hcz37_1 : w36.cell? ⟨gb1089, 1, none⟩ = some (.slice A0_1 l0_1.length c0_1) := (yV BK1089.out 1).trans rfl; have hcz37_2 : w36.cell? ⟨gb1089, 2, none⟩ = some (.slice A0_2 l0_2.length c0_2) := (yV BK1089.out 2).trans rfl; have hfz37_0 := yW BK1089.out 0; have hfz37_1 := yW BK1089.out 1; have hfz37_2 := yW BK1089.out 2) | ((with_reducible refine zS (f := 12) rfl ?_); refine goesL_ (some 29) rfl rfl Try.func12 (by kernel_rfl) rfl #[.agg #[.int .i64 a0_0, .slice A0_1 l0_1.length c0_1, .slice A0_2 l0_2.length c0_2]] rfl (by (try simp only [zI, zJ, zK]); first | done | rfl | (simp only [zL, zM]; rfl)) ?_; (with_reducible refine (laws_toSequence.calls k a0_0 _ _ l0_1 _ _ l0_2 t1103 t1104 t1107 _ ?side1 ?side2 ?side3 ?side4 A17.out).mono ?_); (case side1 => exact mC (yM HR0_1.out HB.out)); (case side2 => exact HC0_1.out); (case side3 => exact mC (yM HR0_2.out HB.out)); (case side4 => exact HC0_2.out); rintro e w38 ⟨v1105, v1108, rfl, ho0, ho1, hb⟩; refine ⟨_, rfl, ?_⟩; replace HO1101 := yA (yK (mR HO1101.out) hb); have HO1106 := yA (Kd.S_lower (Kd.S_new' (Kd.S_new' ho0 (Kd.S_lt (mS HO1095.out))) (yZ (mR HO1098.out))) (yX (by with_reducible repeat first | exact HB.out | apply yO | apply yN | apply yP | refine yQ ?_ GE1089.out))); replace HO1095 := yA (Kd.S_mono (Kd.S_told (Kd.S_told (Kd.S_old (mS HO1095.out) hb) (Kd.S_base ho0)) (yY ho1)) (fun _ h_ => h_.1)); have HO1109 := yA (Kd.R_lower (Kd.R_new' ho1 (yZ (mR HO1098.out))) (yX (by with_reducible repeat first | exact HB.out | apply yO | apply yN | apply yP | refine yQ ?_ GE1089.out))); replace HO1098 := yA (zO (mR HO1098.out) (yY ho1) hb); replace BK1089 := yA (yU (mK BK1089.out) hb); replace HB := yA (zD (by with_reducible repeat first | exact HB.out | apply yO | apply yN | apply yP | refine yQ ?_ GE1089.out) hb); (try clear hb); (try clear hb2); (try clear hk); (try clear hi); (try clear ho0); (try clear ho1)) | ((with_reducible refine gate_dst (N := 9) rfl ?_); refine box_event ?hg (N := 9) ?hd (cs := #[.int .i64 0, .slice none 0 0, .slice none 0 0]) (t := 32) ?hr ?_; (case hd => rfl); (case hg => rfl); (case hr => first | (go_simp; done) | (go_simp; rfl)); intro gb1110 hg w39 hbox hb; replace HO1095 := yA (yL (mS HO1095.out) hb); replace HO1098 := yA (yK (mR HO1098.out) hb); replace HO1101 := yA (yK (mR HO1101.out) hb); replace HO1106 := yA (yL (mS HO1106.out) hb); replace HO1109 := yA (yK (mR HO1109.out) hb); have BK1110 := yA (hbox); have GW1110 := yA ((by rw [hg]; exact (yX (by with_reducible repeat first | exact HB.out | apply yO | apply yN | apply yP | refine yQ ?_ GE1089.out)) : w.heap.size ≤ gb1110)); have GE1110 := yA ((by rw [hg]; exact (yX (by with_reducible repeat first | exact HB.out | apply yO | apply yN | apply yP | refine yQ ?_ GE1089.out)) : w.heap.size ≤ gb1110)); replace HB := yA (zD (by with_reducible repeat first | exact HB.out | apply yO | apply yN | apply yP | refine yQ ?_ GE1089.out) hb); have NB1089_1110 := yA ((by rw [hg]; exact Nat.ne_of_lt (zX (mK BK1089.out)) : gb1089 ≠ gb1110)); have NB1110_1089 := yA ((by rw [hg]; exact Nat.ne_of_gt (zX (mK BK1089.out)) : gb1110 ≠ gb1089)); replace BK1089 := yA (yU (mK BK1089.out) hb); clear hb hbox hg; have hnb40 := NB1110_1089.out; have hnc40 := NB1089_1110.out; have hcz41_0 : w39.cell? ⟨gb1110, 0, none⟩ = some (.int .i64 0) := (yV BK1110.out 0).trans rfl; have hcz41_1 : w39.cell? ⟨gb1110, 1, none⟩ = some (.slice none 0 0) := (yV BK1110.out 1).trans rfl; have hcz41_2 : w39.cell? ⟨gb1110, 2, none⟩ = some (.slice none 0 0) := (yV BK1110.out 2).trans rfl; have hfz41_0 := yW BK1110.out 0; have hfz41_1 := yW BK1110.out 1; have hfz41_2 := yW BK1110.out 2; obtain ⟨Ao42, co42, eo42⟩ := Kd.S_slice HO1106.out; subst eo42; obtain ⟨Ao43, co43, eo43⟩ := Kd.R_slice HO1109.out; subst eo43) | ((with_reducible refine zS (f := 29) rfl ?_); refine goesL_ (some 31) rfl rfl Try.func29 (by kernel_rfl) rfl #[.slice A1 l1.length c1] rfl (by (try simp only [zI, zJ, zK]); first | done | rfl | (simp only [zL, zM]; rfl)) ?_; (with_reducible refine (laws_toNodeS.calls k _ _ l1 t1111 _ ?side1 ?side2 A18.out).mono ?_); (case side1 => exact yM HR1.out (by with_reducible repeat first | exact HB.out | apply yO | apply yN | apply yP | refine yQ ?_ GE1089.out | refine yQ ?_ GE1110.out)); (case side2 => exact HC1.out); rintro e w44 ⟨v1112, rfl, ho0, hb⟩; refine ⟨_, rfl, ?_⟩; replace HO1095 := yA (yL (mS (Kd.S_mono (Kd.S_far (p := ⟨gb1110, 2, none⟩) (Kd.S_far (p := ⟨gb1110, 1, none⟩) (Kd.S_far (p := ⟨gb1110, 0, none⟩) (Kd.S_types HO1095.out BK1110.out (by decide)) (fun _ hk => hk.2) (.int .i64 t1103)) (fun _ hk => hk.2) (.slice Ao42 t1104.length co42)) (fun _ hk => hk.2) (.slice Ao43 t1107.length co43)) (fun _ h_ => h_.1))) hb); replace HO1098 := yA (yK (mR (zP (zQ (p := ⟨gb1110, 2, none⟩) (zQ (p := ⟨gb1110, 1, none⟩) (zQ (p := ⟨gb1110, 0, none⟩) (zR HO1098.out BK1110.out (by decide)) (fun _ hk => hk.2) (.int .i64 t1103)) (fun _ hk => hk.2) (.slice Ao42 t1104.length co42)) (fun _ hk => hk.2) (.slice Ao43 t1107.length co43)) (fun _ h_ => h_.1))) hb); replace HO1106 := yA (yL (mS (Kd.S_mono (Kd.S_far (p := ⟨gb1110, 2, none⟩) (Kd.S_far (p := ⟨gb1110, 1, none⟩) (Kd.S_far (p := ⟨gb1110, 0, none⟩) (Kd.S_types HO1106.out BK1110.out (by decide)) (fun _ hk => hk.2) (.int .i64 t1103)) (fun _ hk => hk.2) (.slice Ao42 t1104.length co42)) (fun _ hk => hk.2) (.slice Ao43 t1107.length co43)) (fun _ h_ => h_.1))) hb); replace HO1109 := yA (yK (mR (zP (zQ (p := ⟨gb1110, 2, none⟩) (zQ (p := ⟨gb1110, 1, none⟩) (zQ (p := ⟨gb1110, 0, none⟩) (zR HO1109.out BK1110.out (by decide)) (fun _ hk => hk.2) (.int .i64 t1103)) (fun _ hk => hk.2) (.slice Ao42 t1104.length co42)) (fun _ hk => hk.2) (.slice Ao43 t1107.length co43)) (fun _ h_ => h_.1))) hb); have HO1113 := yA (Kd.R_lower (Kd.R_new' ho0 (yZ (mR (zP (zQ (p := ⟨gb1110, 2, none⟩) (zQ (p := ⟨gb1110, 1, none⟩) (zQ (p := ⟨gb1110, 0, none⟩) (zR HO1101.out BK1110.out (by decide)) (fun _ hk => hk.2) (.int .i64 t1103)) (fun _ hk => hk.2) (.slice Ao42 t1104.length co42)) (fun _ hk => hk.2) (.slice Ao43 t1107.length co43)) (fun _ h_ => h_.1))))) (yX (by with_reducible repeat first | exact HB.out | apply yO | apply yN | apply yP | refine yQ ?_ GE1089.out | refine yQ ?_ GE1110.out))); replace HO1101 := yA (zO (mR (zP (zQ (p := ⟨gb1110, 2, none⟩) (zQ (p := ⟨gb1110, 1, none⟩) (zQ (p := ⟨gb1110, 0, none⟩) (zR HO1101.out BK1110.out (by decide)) (fun _ hk => hk.2) (.int .i64 t1103)) (fun _ hk => hk.2) (.slice Ao42 t1104.length co42)) (fun _ hk => hk.2) (.slice Ao43 t1107.length co43)) (fun _ h_ => h_.1))) (yY ho0) hb); replace BK1089 := yA (yU (g := gb1089) (o := .cells #[.int .i64 a0_0, .slice A0_1 l0_1.length c0_1, .slice A0_2 l0_2.length c0_2] 25 (0, 0)) (by (with_reducible repeat (first | refine yS ?_ _ | refine yT ?_ | refine yR ?_ _)); refine blk_far ?_ NB1089_1110.out _; (with_reducible repeat (first | refine yS ?_ _ | refine yT ?_ | refine yR ?_ _)); refine blk_far ?_ NB1089_1110.out _; (with_reducible repeat (first | refine yS ?_ _ | refine yT ?_ | refine yR ?_ _)); refine blk_far ?_ NB1089_1110.out _; (with_reducible repeat (first | refine yS ?_ _ | refine yT ?_ | refine yR ?_ _)); exact BK1089.out) hb); replace BK1110 := yA (yU (g := gb1110) (o := .cells #[.int .i64 t1103, .slice Ao42 t1104.length co42, .slice Ao43 t1107.length co43] 32 (0, 0)) (by (with_reducible repeat (first | refine yS ?_ _ | refine yT ?_ | refine yR ?_ _)); refine blk_put (cs := #[.int .i64 t1103, .slice Ao42 t1104.length co42, .slice none 0 0]) ?_ 2 _ rfl; (with_reducible repeat (first | refine yS ?_ _ | refine yT ?_ | refine yR ?_ _)); refine blk_put (cs := #[.int .i64 t1103, .slice none 0 0, .slice none 0 0]) ?_ 1 _ rfl; (with_reducible repeat (first | refine yS ?_ _ | refine yT ?_ | refine yR ?_ _)); refine blk_put (cs := #[.int .i64 0, .slice none 0 0, .slice none 0 0]) ?_ 0 _ rfl; (with_reducible repeat (first | refine yS ?_ _ | refine yT ?_ | refine yR ?_ _)); exact BK1110.out) hb); replace HB := yA (zD (by with_reducible repeat first | exact HB.out | apply yO | apply yN | apply yP | refine yQ ?_ GE1089.out | refine yQ ?_ GE1110.out) hb); (try clear hb); (try clear hb2); (try clear hk); (try clear hi); (try clear ho0); have hcz45_0 : w44.cell? ⟨gb1110, 0, none⟩ = some (.int .i64 t1103) := (yV BK1110.out 0).trans rfl; have hcz45_1 : w44.cell? ⟨gb1110, 1, none⟩ = some (.slice Ao42 t1104.length co42) := (yV BK1110.out 1).trans rfl; have hcz45_2 : w44.cell? ⟨gb1110, 2, none⟩ = some (.slice Ao43 t1107.length co43) := (yV BK1110.out 2).trans rfl; have hfz45_0 := yW BK1110.out 0; have hfz45_1 := yW BK1110.out 1; have hfz45_2 := yW BK1110.out 2; obtain ⟨Ao46, co46, eo46⟩ := Kd.R_slice HO1113.out; subst eo46) | ((with_reducible refine zS (f := 30) rfl ?_); refine goesL_ (some 35) rfl rfl Try.func30 (by kernel_rfl) rfl #[.agg #[.int .i64 t1103, .slice Ao42 t1104.length co42, .slice Ao43 t1107.length co43], .slice Ao46 t1111.length co46, .int .i64 a2] rfl (by (try simp only [zI, zJ, zK]); first | done | rfl | (simp only [zL, zM]; rfl)) ?_; (with_reducible refine (impl_BoundedSolutions.calls k t1103 _ _ t1104 _ _ t1107 _ _ t1111 a2 t1114 _ ?side1 ?side2 ?side3 ?side4 ?side5 ?side6 A19.out).mono ?_); (case side1 => exact mC ((Kd.S_reads' HO1106.out).2.2)); (case side2 => exact (Kd.S_reads' HO1106.out).2.1); (case side3 => exact mC ((zN HO1109.out).2.2)); (case side4 => exact (zN HO1109.out).2.1); (case side5 => exact mC ((zN HO1113.out).2.2)); (case side6 => exact (zN HO1113.out).2.1); rintro e w47 ⟨rfl, hb⟩; refine ⟨_, rfl, ?_⟩; replace HO1095 := yA (yL (mS HO1095.out) hb); replace HO1098 := yA (yK (mR HO1098.out) hb); replace HO1101 := yA (yK (mR HO1101.out) hb); replace HO1106 := yA (yL (mS HO1106.out) hb); replace HO1109 := yA (yK (mR HO1109.out) hb); replace HO1113 := yA (yK (mR HO1113.out) hb); replace BK1089 := yA (yU (mK BK1089.out) hb); replace BK1110 := yA (yU (mK BK1110.out) hb); replace HB := yA (zD (by with_reducible repeat first | exact HB.out | apply yO | apply yN | apply yP | refine yQ ?_ GE1089.out | refine yQ ?_ GE1110.out) hb); (try clear hb); (try clear hb2); (try clear hk); (try clear hi)))
      replace HO1095 := yA (yJ HO1095.out)
      replace HO1098 := yA (yD HO1098.out)
      replace HO1101 := yA (yD HO1101.out)
      replace HO1106 := yA (yJ HO1106.out)
      replace HO1109 := yA (yD HO1109.out)
      replace HO1113 := yA (yD HO1113.out)
      replace BK1089 := yA (yT BK1089.out)
      replace BK1110 := yA (yT BK1110.out)
      replace HB := yA (yP HB.out)
      refine start_ (n := 5) (S := fun w' => w'.cell? ⟨gb1110, 0, none⟩ = some (.int .i64 t1103) ∧ w'.cell? ⟨gb1110, 1, none⟩ = some (.slice Ao42 t1104.length co42) ∧ w'.cell? ⟨gb1110, 2, none⟩ = some (.slice Ao43 t1107.length co43) ∧ w'.cell? ⟨gb1089, 0, none⟩ = some (.int .i64 a0_0) ∧ w'.cell? ⟨gb1089, 1, none⟩ = some (.slice A0_1 l0_1.length c0_1) ∧ w'.cell? ⟨gb1089, 2, none⟩ = some (.slice A0_2 l0_2.length c0_2)) (ds := []) #[false, false, false, false, false] (by kernel_rfl) rfl rfl ⟨(yV BK1110.out 0).trans rfl, (yV BK1110.out 1).trans rfl, (yV BK1110.out 2).trans rfl, (yV BK1089.out 0).trans rfl, (yV BK1089.out 1).trans rfl, (yV BK1089.out 2).trans rfl⟩ (fun hHeld => ?_)
      generalize w47.drew = w48 at HO1095 HO1098 HO1101 HO1106 HO1109 HO1113 BK1089 BK1110 HB hHeld ⊢
      refine take_ (i := 0) (N := some 39) (v := ?_) (a' := ?_) #[true, false, false, false, false] rfl rfl (by kernel_rfl) (fun _ _ _ h => h) (Or.inl ⟨by rfl, ?_⟩) hHeld ?_ ?_
      rotate_left
      ·rintro w' ⟨s0, s1, s2, s3, s4, s5⟩
       go_simp
       with_reducible rfl
      rotate_left
      ·simp only [Act.put, zA, zB, zC, i64_w, i32_w]
       rfl
      refine take_ (i := 1) (N := some 40) (v := ?_) (a' := ?_) #[true, true, false, false, false] rfl rfl (by kernel_rfl) (fun _ _ _ h => h) (Or.inl ⟨by rfl, ?_⟩) hHeld ?_ ?_
      rotate_left
      ·rintro w' ⟨s0, s1, s2, s3, s4, s5⟩
       go_simp
       with_reducible rfl
      rotate_left
      ·simp only [Act.put, zA, zB, zC, i64_w, i32_w]
       rfl
      refine one_ (i := 2) (N := some 41) #[true, true, true, false, false] rfl rfl (by kernel_rfl) (by decide) (fun K hK => ?_)
      refine goes_ Try.func12 (by kernel_rfl) rfl #[.agg #[.int .i64 a0_0, .slice A0_1 l0_1.length c0_1, .slice A0_2 l0_2.length c0_2]] (by rfl) rfl rfl (by (try simp only [zI, zJ, zK]); first | done | rfl | (simp only [zL, zM]; rfl)) ?_
      with_reducible refine (laws_toSequence.calls k a0_0 _ _ l0_1 _ _ l0_2 t1115 t1116 t1119 _ ?side1 ?side2 ?side3 ?side4 A21.out).mono ?_
      (case side1 => exact mC (yM HR0_1.out HB.out))
      (case side2 => exact HC0_1.out)
      (case side3 => exact mC (yM HR0_2.out HB.out))
      (case side4 => exact HC0_2.out)
      rintro e w49 ⟨v1117, v1120, rfl, ho0, ho1, hb⟩
      refine ⟨_, rfl, ?_⟩
      replace HO1101 := yA (yK (mR HO1101.out) hb)
      replace HO1113 := yA (yK (mR HO1113.out) hb)
      have HO1118 := yA (Kd.S_lower (Kd.S_new' (Kd.S_new' (Kd.S_new' (Kd.S_new' ho0 (Kd.S_lt (mS HO1095.out))) (yZ (mR HO1098.out))) (Kd.S_lt (mS HO1106.out))) (yZ (mR HO1109.out))) (yX (by with_reducible repeat first | exact HB.out | apply yO | apply yN | apply yP | refine yQ ?_ GE1089.out | refine yQ ?_ GE1110.out)))
      replace HO1095 := yA (Kd.S_mono (Kd.S_told (Kd.S_told (Kd.S_old (mS HO1095.out) hb) (Kd.S_base ho0)) (yY ho1)) (fun _ h_ => h_.1))
      replace HO1106 := yA (Kd.S_mono (Kd.S_told (Kd.S_told (Kd.S_old (mS HO1106.out) hb) (Kd.S_base ho0)) (yY ho1)) (fun _ h_ => h_.1))
      have HO1121 := yA (Kd.R_lower (Kd.R_new' (Kd.R_new' ho1 (yZ (mR HO1098.out))) (yZ (mR HO1109.out))) (yX (by with_reducible repeat first | exact HB.out | apply yO | apply yN | apply yP | refine yQ ?_ GE1089.out | refine yQ ?_ GE1110.out)))
      replace HO1098 := yA (zO (mR HO1098.out) (yY ho1) hb)
      replace HO1109 := yA (zO (mR HO1109.out) (yY ho1) hb)
      replace BK1089 := yA (yU (mK BK1089.out) hb)
      replace BK1110 := yA (yU (mK BK1110.out) hb)
      replace HB := yA (zD (by with_reducible repeat first | exact HB.out | apply yO | apply yN | apply yP | refine yQ ?_ GE1089.out | refine yQ ?_ GE1110.out) hb)
      (try clear hb)
      (try clear hb2)
      (try clear hk)
      (try clear hi)
      (try clear ho0)
      (try clear ho1)
      obtain ⟨Ao50, co50, eo50⟩ := Kd.S_slice HO1118.out
      (first | subst eo50 | (injection eo50 with f1_ f2_ f3_; have f4_ := f1_.symm; have f5_ := f3_.symm; clear f1_ f2_ f3_; subst f4_; subst f5_))
      obtain ⟨Ao51, co51, eo51⟩ := Kd.R_slice HO1121.out
      (first | subst eo51 | (injection eo51 with f1_ f2_ f3_; have f4_ := f1_.symm; have f5_ := f3_.symm; clear f1_ f2_ f3_; subst f4_; subst f5_))
      refine hK.out _ _ ⟨(yV BK1110.out 0).trans rfl, (yV BK1110.out 1).trans rfl, (yV BK1110.out 2).trans rfl, (yV BK1089.out 0).trans rfl, (yV BK1089.out 1).trans rfl, (yV BK1089.out 2).trans rfl⟩ (fun hHeld => ?_)
      clear hK K
      refine norm_ (a' := ?_) ?_ ?_
      rotate_left
      ·show Act.put _ (some 41) _ = _
       simp only [Act.put, zA, zB, zC, i64_w, i32_w]
       rfl
      refine one_ (i := 3) (N := some 42) #[true, true, true, true, false] rfl rfl (by kernel_rfl) (by decide) (fun K hK => ?_)
      refine goes_ Try.func15 (by kernel_rfl) rfl #[.agg #[.int .i64 t1103, .slice Ao42 t1104.length co42, .slice Ao43 t1107.length co43], .agg #[.int .i64 t1115, .slice Ao50 t1116.length co50, .slice Ao51 t1119.length co51]] (by rfl) rfl rfl (by (try simp only [zI, zJ, zK]); first | done | rfl | (simp only [zL, zM]; rfl)) ?_
      with_reducible refine (laws_eqSequence.calls k t1103 _ _ t1104 _ _ t1107 t1115 _ _ t1116 _ _ t1119 true _ ?side1 ?side2 ?side3 ?side4 ?side5 ?side6 ?side7 ?side8 A22.out).mono ?_
      (case side1 => exact mC ((Kd.S_reads' HO1106.out).2.2))
      (case side2 => exact (Kd.S_reads' HO1106.out).2.1)
      (case side3 => exact mC ((zN HO1109.out).2.2))
      (case side4 => exact (zN HO1109.out).2.1)
      (case side5 => exact mC ((Kd.S_reads' HO1118.out).2.2))
      (case side6 => exact (Kd.S_reads' HO1118.out).2.1)
      (case side7 => exact mC ((zN HO1121.out).2.2))
      (case side8 => exact (zN HO1121.out).2.1)
      rintro e w52 ⟨rfl, hb⟩
      refine ⟨_, rfl, ?_⟩
      replace HO1095 := yA (yL (mS HO1095.out) hb)
      replace HO1098 := yA (yK (mR HO1098.out) hb)
      replace HO1101 := yA (yK (mR HO1101.out) hb)
      replace HO1106 := yA (yL (mS HO1106.out) hb)
      replace HO1109 := yA (yK (mR HO1109.out) hb)
      replace HO1113 := yA (yK (mR HO1113.out) hb)
      replace HO1118 := yA (yL (mS HO1118.out) hb)
      replace HO1121 := yA (yK (mR HO1121.out) hb)
      replace BK1089 := yA (yU (mK BK1089.out) hb)
      replace BK1110 := yA (yU (mK BK1110.out) hb)
      replace HB := yA (zD (by with_reducible repeat first | exact HB.out | apply yO | apply yN | apply yP | refine yQ ?_ GE1089.out | refine yQ ?_ GE1110.out) hb)
      (try clear hb)
      (try clear hb2)
      (try clear hk)
      (try clear hi)
      refine hK.out _ _ ⟨(yV BK1110.out 0).trans rfl, (yV BK1110.out 1).trans rfl, (yV BK1110.out 2).trans rfl, (yV BK1089.out 0).trans rfl, (yV BK1089.out 1).trans rfl, (yV BK1089.out 2).trans rfl⟩ (fun hHeld => ?_)
      clear hK K
      refine norm_ (a' := ?_) ?_ ?_
      rotate_left
      ·show Act.put _ (some 42) _ = _
       simp only [Act.put, zA, zB, zC, i64_w, i32_w]
       rfl
      refine pure_ (i := 4) (N := some 43) (v := ?_) (a' := ?_) #[true, true, true, true, true] rfl rfl (by kernel_rfl) (fun _ _ _ h => h) (Or.inl ⟨by rfl, ?_⟩) ?_ ?_
      rotate_left
      ·intro w'
       go_simp
       with_reducible rfl
      rotate_left
      ·simp only [Act.put, zA, zB, zC, i64_w, i32_w]
       rfl
      refine done_ (by kernel_rfl) ?_
      try go_wp2_with (first | ((with_reducible refine zS (f := 29) rfl ?_); refine goesL_ (some 46) rfl rfl Try.func29 (by kernel_rfl) rfl #[.slice A1 l1.length c1] rfl (by (try simp only [zI, zJ, zK]); first | done | rfl | (simp only [zL, zM]; rfl)) ?_; (with_reducible refine (laws_toNodeS.calls k _ _ l1 t1123 _ ?side1 ?side2 A24.out).mono ?_); (case side1 => exact mC (yM HR1.out HB.out)); (case side2 => exact HC1.out); rintro e w53 ⟨v1124, rfl, ho0, hb⟩; refine ⟨_, rfl, ?_⟩; replace HO1095 := yA (yL (mS HO1095.out) hb); replace HO1098 := yA (yK (mR HO1098.out) hb); replace HO1106 := yA (yL (mS HO1106.out) hb); replace HO1109 := yA (yK (mR HO1109.out) hb); replace HO1118 := yA (yL (mS HO1118.out) hb); replace HO1121 := yA (yK (mR HO1121.out) hb); have HO1125 := yA (Kd.R_lower (Kd.R_new' (Kd.R_new' ho0 (yZ (mR HO1101.out))) (yZ (mR HO1113.out))) (yX (by with_reducible repeat first | exact HB.out | apply yO | apply yN | apply yP | refine yQ ?_ GE1089.out | refine yQ ?_ GE1110.out))); replace HO1101 := yA (zO (mR HO1101.out) (yY ho0) hb); replace HO1113 := yA (zO (mR HO1113.out) (yY ho0) hb); replace BK1089 := yA (yU (mK BK1089.out) hb); replace BK1110 := yA (yU (mK BK1110.out) hb); replace HB := yA (zD (by with_reducible repeat first | exact HB.out | apply yO | apply yN | apply yP | refine yQ ?_ GE1089.out | refine yQ ?_ GE1110.out) hb); (try clear hb); (try clear hb2); (try clear hk); (try clear hi); (try clear ho0); obtain ⟨Ao54, co54, eo54⟩ := Kd.R_slice HO1125.out; subst eo54) | ((with_reducible refine zS (f := 31) rfl ?_); refine goesL_ (some 47) rfl rfl Try.func31 (by kernel_rfl) rfl #[.slice Ao46 t1111.length co46, .slice Ao54 t1123.length co54] rfl (by (try simp only [zI, zJ, zK]); first | done | rfl | (simp only [zL, zM]; rfl)) ?_; (with_reducible refine (laws_eqNodeS.calls k _ _ t1111 _ _ t1123 true _ ?side1 ?side2 ?side3 ?side4 A25.out).mono ?_); (case side1 => exact mC ((zN HO1113.out).2.2)); (case side2 => exact (zN HO1113.out).2.1); (case side3 => exact mC ((zN HO1125.out).2.2)); (case side4 => exact (zN HO1125.out).2.1); rintro e w55 ⟨rfl, hb⟩; refine ⟨_, rfl, ?_⟩; replace HO1095 := yA (yL (mS HO1095.out) hb); replace HO1098 := yA (yK (mR HO1098.out) hb); replace HO1101 := yA (yK (mR HO1101.out) hb); replace HO1106 := yA (yL (mS HO1106.out) hb); replace HO1109 := yA (yK (mR HO1109.out) hb); replace HO1113 := yA (yK (mR HO1113.out) hb); replace HO1118 := yA (yL (mS HO1118.out) hb); replace HO1121 := yA (yK (mR HO1121.out) hb); replace HO1125 := yA (yK (mR HO1125.out) hb); replace BK1089 := yA (yU (mK BK1089.out) hb); replace BK1110 := yA (yU (mK BK1110.out) hb); replace HB := yA (zD (by with_reducible repeat first | exact HB.out | apply yO | apply yN | apply yP | refine yQ ?_ GE1089.out | refine yQ ?_ GE1110.out) hb); (try clear hb); (try clear hb2); (try clear hk); (try clear hi)))
      go_ret
      exact ⟨by first | rfl | (simp [errW_none, errW_some] <;> rfl) | (simp [*, errW_none, errW_some] <;> rfl), by repeat (first | (with_reducible first | exact HB.out | apply yO | apply yN | apply yP | refine yQ ?_ GE1089.out | refine yQ ?_ GE1110.out) | exact HB.out)⟩
     ·replace c26 := Bool.eq_false_iff.mpr c26
      subst c26
      replace H := iF H
      obtain rfl := zU H
      cases hr_
    ·replace c23 := Bool.eq_false_iff.mpr c23
     subst c23
     replace H := iF H
     obtain rfl := zU H
     cases hr_
   ·rw [if_neg c20] at H
    have c20b0 : (t1114 == t1102) = false := beq_eq_false_iff_ne.mpr c20
    have c20b1 : (t1114 != t1102) = true := bne_iff_ne.mpr c20
    obtain rfl := zU H
    cases hr_
end Go.Proofs.Ytmkeicahnnlalaa.Q
