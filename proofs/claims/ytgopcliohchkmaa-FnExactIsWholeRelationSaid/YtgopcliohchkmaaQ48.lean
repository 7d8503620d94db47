-- written by a program of this session (a turned copy of the kit's print) out of the translation
-- squeezed
-- compact
import Derived.Test.YtgopcliohchkmaaQ0
import Derived.Test.YtgopcliohchkmaaQ10
import Derived.Test.YtgopcliohchkmaaQ28
import Derived.Test.YtgopcliohchkmaaQ40
import Derived.Test.YtgopcliohchkmaaQ46
import Derived.Test.YtgopcliohchkmaaQ47
namespace Go.Proofs.Ytgopcliohchkmaa.Q
open Go.RowKit Go.Proofs.YtgopcliohchkmaaW.PrintWords Go.Proofs.YtgopcliohchkmaaW.PrintLast Go.Proofs.YtgopcliohchkmaaW.PrintMore
attribute [local go_sem] max2_int min2_int max_two min_two max_three min_three max_four min_four   -- for this text's walks alone
set_option linter.unusedVariables false
set_option linter.unusedSimpArgs false

/-! ### laws_FnExactIsWholeRelation: function 6 -/
def laws_FnExactIsWholeRelation.f (k : Nat) (a0_0 : Int) (a0_1 : Int) (l0_2 : List (List Int)) (l0_3 : List Bool) : Option (Bool) := (laws_szRelation.f k a0_0 a0_1 l0_2 l0_3 1048576).bind fun t454 => (if t454 < 0 then (some true) else ((laws_toRelation.f k a0_0 a0_1 l0_2 l0_3).bind fun bt455 => ((spec_IsWholeRelation.f k bt455.1 bt455.2.1 bt455.2.2.1 bt455.2.2.2).bind fun t463 => ((laws_toRelation.f k a0_0 a0_1 l0_2 l0_3).bind fun bt464 => ((impl_IsWholeRelation.f k bt464.1 bt464.2.1 bt464.2.2.1 bt464.2.2.2).bind fun t473 => (if (t473 != t463) = true then (some false) else ((laws_toRelation.f k a0_0 a0_1 l0_2 l0_3).bind fun bt474 => ((laws_eqRelation.f k bt464.1 bt464.2.1 bt464.2.2.1 bt464.2.2.2 bt474.1 bt474.2.1 bt474.2.2.1 bt474.2.2.2).bind fun t482 => (if t482 = true then (some true) else (some false))))))))))
theorem laws_FnExactIsWholeRelation.mono : ∀ a0 a1 a2 a3 k, LeO (laws_FnExactIsWholeRelation.f k a0 a1 a2 a3) (laws_FnExactIsWholeRelation.f (k + 1) a0 a1 a2 a3) := by
 intro a0 a1 a2 a3 k
 unfold laws_FnExactIsWholeRelation.f
 repeat' first
   | (with_reducible exact impl_IsWholeRelation.mono _ _ _ _ _)
   | (with_reducible exact laws_eqRelation.mono _ _ _ _ _ _ _ _ _)
   | (with_reducible exact laws_szRelation.mono _ _ _ _ _ _)
   | (with_reducible exact laws_toRelation.mono _ _ _ _ _)
   | (with_reducible exact spec_IsWholeRelation.mono _ _ _ _ _)
   | (with_reducible exact LeO.refl _)
   | (with_reducible exact LeO.none _)
   | (with_reducible refine LeO.ite ?_ ?_)
   | (with_reducible refine LeO.bind ?_ (fun _ => ?_))
   | exact impl_IsWholeRelation.mono _ _ _ _ _
   | exact laws_eqRelation.mono _ _ _ _ _ _ _ _ _
   | exact laws_szRelation.mono _ _ _ _ _ _
   | exact laws_toRelation.mono _ _ _ _ _
   | exact spec_IsWholeRelation.mono _ _ _ _ _
   | exact LeO.none _
   | refine LeO.ite ?_ ?_
   | refine LeO.bind ?_ (fun _ => ?_)
set_option maxHeartbeats 8000000 in
set_option maxRecDepth 100000 in
theorem laws_FnExactIsWholeRelation.calls (k : Nat) (a0_0 : Int) (a0_1 : Int) (A0_2 : Option Addr) (c0_2 : Nat) (l0_2 : List (List Int)) (A0_3 : Option Addr) (c0_3 : Nat) (l0_3 : List Bool) (r : Bool) (w : World) (hr0_2 : Kd.C (Kd.slice 3 (Kd.int .i64)) w A0_2 l0_2.length l0_2) (hc0_2 : l0_2.length ≤ c0_2) (hr0_3 : Kd.C Kd.bool w A0_3 l0_3.length l0_3) (hc0_3 : l0_3.length ≤ c0_3) (h : laws_FnExactIsWholeRelation.f k a0_0 a0_1 l0_2 l0_3 = some r) :
  Calls Try.prog 6 #[.agg #[.int .i64 a0_0, .int .i64 a0_1, .slice A0_2 l0_2.length c0_2, .slice A0_3 l0_3.length c0_3]] w fun e w' => e = .returned (.bool r) ∧ Below w.heap.size w w' := by
 have hu33 := Try.underlying33
 have hu25 := Try.underlying25
 have HR0_2 := yA hr0_2
 have HC0_2 := yA hc0_2
 clear hr0_2 hc0_2
 have HR0_3 := yA hr0_3
 have HC0_3 := yA hc0_3
 clear hr0_3 hc0_3
 have HB := yA (zV w.heap.size w)
 have H : ((laws_szRelation.f k a0_0 a0_1 l0_2 l0_3 1048576).bind fun t454 => (if t454 < 0 then (some true) else ((laws_toRelation.f k a0_0 a0_1 l0_2 l0_3).bind fun bt455 => ((spec_IsWholeRelation.f k bt455.1 bt455.2.1 bt455.2.2.1 bt455.2.2.2).bind fun t463 => ((laws_toRelation.f k a0_0 a0_1 l0_2 l0_3).bind fun bt464 => ((impl_IsWholeRelation.f k bt464.1 bt464.2.1 bt464.2.2.1 bt464.2.2.2).bind fun t473 => (if (t473 != t463) = true then (some false) else ((laws_toRelation.f k a0_0 a0_1 l0_2 l0_3).bind fun bt474 => ((laws_eqRelation.f k bt464.1 bt464.2.1 bt464.2.2.1 bt464.2.2.2 bt474.1 bt474.2.1 bt474.2.2.1 bt474.2.2.2).bind fun t482 => (if t482 = true then (some true) else (some false))))))))))) = some r := h
 clear h
 replace H := Option.bind_eq_some_iff.mp H
 obtain ⟨t454, A20, H⟩ := H
 replace H : (if t454 < 0 then (some true) else ((laws_toRelation.f k a0_0 a0_1 l0_2 l0_3).bind fun bt455 => ((spec_IsWholeRelation.f k bt455.1 bt455.2.1 bt455.2.2.1 bt455.2.2.2).bind fun t463 => ((laws_toRelation.f k a0_0 a0_1 l0_2 l0_3).bind fun bt464 => ((impl_IsWholeRelation.f k bt464.1 bt464.2.1 bt464.2.2.1 bt464.2.2.2).bind fun t473 => (if (t473 != t463) = true then (some false) else ((laws_toRelation.f k a0_0 a0_1 l0_2 l0_3).bind fun bt474 => ((laws_eqRelation.f k bt464.1 bt464.2.1 bt464.2.2.1 bt464.2.2.2 bt474.1 bt474.2.1 bt474.2.2.1 bt474.2.2.2).bind fun t482 => (if t482 = true then (some true) else (some false)))))))))) = some r := H
 have A2 := yA A20
 clear A20
 by_cases c3 : t454 < 0
 ·rw [if_pos c3] at H
  have c3b0 : decide (t454 < 0) = true := zH c3
  clear c3
  obtain rfl := zU H
  go_enter Try.func6, Try.ntmps6
  go_wp2_with (first | ((with_reducible refine gate_dst (N := 1) rfl ?_); refine box_event ?hg (N := 1) ?hd (cs := #[.int .i64 a0_0, .int .i64 a0_1, .slice A0_2 l0_2.length c0_2, .slice A0_3 l0_3.length c0_3]) (t := 33) ?hr ?_; (case hd => rfl); (case hg => rfl); (case hr => first | (go_simp; done) | (go_simp; rfl)); intro gb453 hg w4 hbox hb; have n0_ := yA (zD (mB HB.out) hb); have n1_ := yA (hbox); have n2_ := yA ((by rw [hg]; exact (yX (mB HB.out)) : w.heap.size ≤ gb453)); have n3_ := yA ((by rw [hg]; exact (yX (mB HB.out)) : w.heap.size ≤ gb453)); clear HB; have HB := n0_; have BK453 := n1_; have GW453 := n2_; have GE453 := n3_; clear n0_ n1_ n2_ n3_; clear hb hbox hg; have hcz5_0 : w4.cell? ⟨gb453, 0, none⟩ = some (.int .i64 a0_0) := (yV BK453.out 0).trans rfl; have hcz5_1 : w4.cell? ⟨gb453, 1, none⟩ = some (.int .i64 a0_1) := (yV BK453.out 1).trans rfl; have hcz5_2 : w4.cell? ⟨gb453, 2, none⟩ = some (.slice A0_2 l0_2.length c0_2) := (yV BK453.out 2).trans rfl; have hcz5_3 : w4.cell? ⟨gb453, 3, none⟩ = some (.slice A0_3 l0_3.length c0_3) := (yV BK453.out 3).trans rfl; have hfz5_0 := yW BK453.out 0; have hfz5_1 := yW BK453.out 1; have hfz5_2 := yW BK453.out 2; have hfz5_3 := yW BK453.out 3) | ((with_reducible refine zS (f := 22) rfl ?_); refine goesL_ (some 9) rfl rfl Try.func22 (by kernel_rfl) rfl #[.agg #[.int .i64 a0_0, .int .i64 a0_1, .slice A0_2 l0_2.length c0_2, .slice A0_3 l0_3.length c0_3], .int .i64 1048576] rfl (by (try simp only [zI, zJ, zK]); first | done | rfl | (simp only [zL, zM]; rfl)) ?_; (with_reducible refine (laws_szRelation.calls k a0_0 a0_1 _ _ l0_2 _ _ l0_3 1048576 t454 _ ?side1 ?side2 ?side3 ?side4 A2.out).mono ?_); (case side1 => exact mC (yM HR0_2.out HB.out)); (case side2 => exact HC0_2.out); (case side3 => exact mC (yM HR0_3.out HB.out)); (case side4 => exact HC0_3.out); rintro e w6 ⟨rfl, hb⟩; refine ⟨_, rfl, ?_⟩; have n0_ := yA (yU (mK BK453.out) hb); have n1_ := yA (zD (by with_reducible repeat first | exact HB.out | apply yO | apply yN | apply yP | refine yQ ?_ GE453.out) hb); clear BK453; clear HB; have BK453 := n0_; have HB := n1_; clear n0_ n1_; (try clear hb); (try clear hb2); (try clear hk); (try clear hi)))
  go_ret
  exact ⟨by first | rfl | (simp [errW_none, errW_some] <;> rfl) | (simp [*, errW_none, errW_some] <;> rfl), by repeat (first | (with_reducible first | exact HB.out | apply yO | apply yN | apply yP | refine yQ ?_ GE453.out) | exact HB.out)⟩
 ·rw [if_neg c3] at H
  have c3b0 : decide (t454 < 0) = false := decide_eq_false c3
  clear c3
  replace H := Option.bind_eq_some_iff.mp H
  obtain ⟨⟨t455, t456, t457, t460⟩, A70, H⟩ := H
  replace H : ((spec_IsWholeRelation.f k t455 t456 t457 t460).bind fun t463 => ((laws_toRelation.f k a0_0 a0_1 l0_2 l0_3).bind fun bt464 => ((impl_IsWholeRelation.f k bt464.1 bt464.2.1 bt464.2.2.1 bt464.2.2.2).bind fun t473 => (if (t473 != t463) = true then (some false) else ((laws_toRelation.f k a0_0 a0_1 l0_2 l0_3).bind fun bt474 => ((laws_eqRelation.f k bt464.1 bt464.2.1 bt464.2.2.1 bt464.2.2.2 bt474.1 bt474.2.1 bt474.2.2.1 bt474.2.2.2).bind fun t482 => (if t482 = true then (some true) else (some false)))))))) = some r := H
  have A7 := yA A70
  clear A70
  replace H := Option.bind_eq_some_iff.mp H
  obtain ⟨t463, A80, H⟩ := H
  replace H : ((laws_toRelation.f k a0_0 a0_1 l0_2 l0_3).bind fun bt464 => ((impl_IsWholeRelation.f k bt464.1 bt464.2.1 bt464.2.2.1 bt464.2.2.2).bind fun t473 => (if (t473 != t463) = true then (some false) else ((laws_toRelation.f k a0_0 a0_1 l0_2 l0_3).bind fun bt474 => ((laws_eqRelation.f k bt464.1 bt464.2.1 bt464.2.2.1 bt464.2.2.2 bt474.1 bt474.2.1 bt474.2.2.1 bt474.2.2.2).bind fun t482 => (if t482 = true then (some true) else (some false))))))) = some r := H
  have A8 := yA A80
  clear A80
  replace H := Option.bind_eq_some_iff.mp H
  obtain ⟨⟨t464, t465, t466, t469⟩, A90, H⟩ := H
  replace H : ((impl_IsWholeRelation.f k t464 t465 t466 t469).bind fun t473 => (if (t473 != t463) = true then (some false) else ((laws_toRelation.f k a0_0 a0_1 l0_2 l0_3).bind fun bt474 => ((laws_eqRelation.f k t464 t465 t466 t469 bt474.1 bt474.2.1 bt474.2.2.1 bt474.2.2.2).bind fun t482 => (if t482 = true then (some true) else (some false)))))) = some r := H
  have A9 := yA A90
  clear A90
  replace H := Option.bind_eq_some_iff.mp H
  obtain ⟨t473, A100, H⟩ := H
  replace H : (if (t473 != t463) = true then (some false) else ((laws_toRelation.f k a0_0 a0_1 l0_2 l0_3).bind fun bt474 => ((laws_eqRelation.f k t464 t465 t466 t469 bt474.1 bt474.2.1 bt474.2.2.1 bt474.2.2.2).bind fun t482 => (if t482 = true then (some true) else (some false))))) = some r := H
  have A10 := yA A100
  clear A100
  by_cases c11 : (t473 != t463) = true
  ·rw [if_pos c11] at H
   have c11b0 : (t473 != t463) = true := c11
   (try (have c11b1 : decide (t473 = t463) = false := by simpa using c11))
   (try (have c11b2 : (t473 == t463) = false := by simpa using c11))
   (try (have c11b3 : ¬ (t473 = t463) := by simpa using c11))
   clear c11
   obtain rfl := zU H
   go_enter Try.func6, Try.ntmps6
   go_wp2_with (first | ((with_reducible refine gate_dst (N := 1) rfl ?_); refine box_event ?hg (N := 1) ?hd (cs := #[.int .i64 a0_0, .int .i64 a0_1, .slice A0_2 l0_2.length c0_2, .slice A0_3 l0_3.length c0_3]) (t := 33) ?hr ?_; (case hd => rfl); (case hg => rfl); (case hr => first | (go_simp; done) | (go_simp; rfl)); intro gb453 hg w12 hbox hb; have n0_ := yA (zD (mB HB.out) hb); have n1_ := yA (hbox); have n2_ := yA ((by rw [hg]; exact (yX (mB HB.out)) : w.heap.size ≤ gb453)); have n3_ := yA ((by rw [hg]; exact (yX (mB HB.out)) : w.heap.size ≤ gb453)); clear HB; have HB := n0_; have BK453 := n1_; have GW453 := n2_; have GE453 := n3_; clear n0_ n1_ n2_ n3_; clear hb hbox hg; have hcz13_0 : w12.cell? ⟨gb453, 0, none⟩ = some (.int .i64 a0_0) := (yV BK453.out 0).trans rfl; have hcz13_1 : w12.cell? ⟨gb453, 1, none⟩ = some (.int .i64 a0_1) := (yV BK453.out 1).trans rfl; have hcz13_2 : w12.cell? ⟨gb453, 2, none⟩ = some (.slice A0_2 l0_2.length c0_2) := (yV BK453.out 2).trans rfl; have hcz13_3 : w12.cell? ⟨gb453, 3, none⟩ = some (.slice A0_3 l0_3.length c0_3) := (yV BK453.out 3).trans rfl; have hfz13_0 := yW BK453.out 0; have hfz13_1 := yW BK453.out 1; have hfz13_2 := yW BK453.out 2; have hfz13_3 := yW BK453.out 3) | ((with_reducible refine zS (f := 22) rfl ?_); refine goesL_ (some 9) rfl rfl Try.func22 (by kernel_rfl) rfl #[.agg #[.int .i64 a0_0, .int .i64 a0_1, .slice A0_2 l0_2.length c0_2, .slice A0_3 l0_3.length c0_3], .int .i64 1048576] rfl (by (try simp only [zI, zJ, zK]); first | done | rfl | (simp only [zL, zM]; rfl)) ?_; (with_reducible refine (laws_szRelation.calls k a0_0 a0_1 _ _ l0_2 _ _ l0_3 1048576 t454 _ ?side1 ?side2 ?side3 ?side4 A2.out).mono ?_); (case side1 => exact mC (yM HR0_2.out HB.out)); (case side2 => exact HC0_2.out); (case side3 => exact mC (yM HR0_3.out HB.out)); (case side4 => exact HC0_3.out); rintro e w14 ⟨rfl, hb⟩; refine ⟨_, rfl, ?_⟩; have n0_ := yA (yU (mK BK453.out) hb); have n1_ := yA (zD (by with_reducible repeat first | exact HB.out | apply yO | apply yN | apply yP | refine yQ ?_ GE453.out) hb); clear BK453; clear HB; have BK453 := n0_; have HB := n1_; clear n0_ n1_; (try clear hb); (try clear hb2); (try clear hk); (try clear hi); have hcz15_0 : w14.cell? ⟨gb453, 0, none⟩ = some (.int .i64 a0_0) := (yV BK453.out 0).trans rfl; have hcz15_1 : w14.cell? ⟨gb453, 1, none⟩ = some (.int .i64 a0_1) := (yV BK453.out 1).trans rfl; have hcz15_2 : w14.cell? ⟨gb453, 2, none⟩ = some (.slice A0_2 l0_2.length c0_2) := (yV BK453.out 2).trans rfl; have hcz15_3 : w14.cell? ⟨gb453, 3, none⟩ = some (.slice A0_3 l0_3.length c0_3) := (yV BK453.out 3).trans rfl; have hfz15_0 := yW BK453.out 0; have hfz15_1 := yW BK453.out 1; have hfz15_2 := yW BK453.out 2; have hfz15_3 := yW BK453.out 3) | ((with_reducible refine zS (f := 24) rfl ?_); refine goesL_ (some 13) rfl rfl Try.func24 (by kernel_rfl) rfl #[.agg #[.int .i64 a0_0, .int .i64 a0_1, .slice A0_2 l0_2.length c0_2, .slice A0_3 l0_3.length c0_3]] rfl (by (try simp only [zI, zJ, zK]); first | done | rfl | (simp only [zL, zM]; rfl)) ?_; (with_reducible refine (laws_toRelation.calls k a0_0 a0_1 _ _ l0_2 _ _ l0_3 t455 t456 t457 t460 _ ?side1 ?side2 ?side3 ?side4 A7.out).mono ?_); (case side1 => exact mC (yM HR0_2.out HB.out)); (case side2 => exact HC0_2.out); (case side3 => exact mC (yM HR0_3.out HB.out)); (case side4 => exact HC0_3.out); rintro e w16 ⟨v458, v461, rfl, ho0, ho1, hb⟩; refine ⟨_, rfl, ?_⟩; have n0_ := yA (Kd.S_lower ho0 (yX (by with_reducible repeat first | exact HB.out | apply yO | apply yN | apply yP | refine yQ ?_ GE453.out))); have n1_ := yA (Kd.R_lower ho1 (yX (by with_reducible repeat first | exact HB.out | apply yO | apply yN | apply yP | refine yQ ?_ GE453.out))); have n2_ := yA (yU (mK BK453.out) hb); have n3_ := yA (zD (by with_reducible repeat first | exact HB.out | apply yO | apply yN | apply yP | refine yQ ?_ GE453.out) hb); clear BK453; clear HB; have HO459 := n0_; have HO462 := n1_; have BK453 := n2_; have HB := n3_; clear n0_ n1_ n2_ n3_; (try clear hb); (try clear hb2); (try clear hk); (try clear hi); (try clear ho0); (try clear ho1); obtain ⟨Ao17, co17, eo17⟩ := Kd.S_slice HO459.out; subst eo17; obtain ⟨Ao18, co18, eo18⟩ := Kd.R_slice HO462.out; subst eo18) | ((with_reducible refine zS (f := 26) rfl ?_); refine goesL_ (some 14) rfl rfl Try.func26 (by kernel_rfl) rfl #[.agg #[.int .i64 t455, .int .i64 t456, .slice Ao17 t457.length co17, .slice Ao18 t460.length co18]] rfl (by (try simp only [zI, zJ, zK]); first | done | rfl | (simp only [zL, zM]; rfl)) ?_; (with_reducible refine (spec_IsWholeRelation.calls k t455 t456 _ _ t457 _ _ t460 t463 _ ?side1 ?side2 ?side3 ?side4 A8.out).mono ?_); (case side1 => exact mC ((Kd.S_reads' HO459.out).2.2)); (case side2 => exact (Kd.S_reads' HO459.out).2.1); (case side3 => exact mC ((zN HO462.out).2.2)); (case side4 => exact (zN HO462.out).2.1); rintro e w19 ⟨rfl, hb⟩; refine ⟨_, rfl, ?_⟩; have n0_ := yA (yL (mS HO459.out) hb); have n1_ := yA (yK (mR HO462.out) hb); have n2_ := yA (yU (mK BK453.out) hb); have n3_ := yA (zD (by with_reducible repeat first | exact HB.out | apply yO | apply yN | apply yP | refine yQ ?_ GE453.out) hb); clear HO459; clear HO462; clear BK453; clear HB; have HO459 := n0_; have HO462 := n1_; have BK453 := n2_; have HB := n3_; clear n0_ n1_ n2_ n3_; (try clear hb); (try clear hb2); (try clear hk); (try clear hi); have hcz20_0 : w19.cell? ⟨gb453, 0, none⟩ = some (.int .i64 a0_0) := (yV BK453.out 0).trans rfl; have hcz20_1 : w19.cell? ⟨gb453, 1, none⟩ = some (.int .i64 a0_1) := (yV BK453.out 1).trans rfl; have hcz20_2 : w19.cell? ⟨gb453, 2, none⟩ = some (.slice A0_2 l0_2.length c0_2) := (yV BK453.out 2).trans rfl; have hcz20_3 : w19.cell? ⟨gb453, 3, none⟩ = some (.slice A0_3 l0_3.length c0_3) := (yV BK453.out 3).trans rfl; have hfz20_0 := yW BK453.out 0; have hfz20_1 := yW BK453.out 1; have hfz20_2 := yW BK453.out 2; have hfz20_3 := yW BK453.out 3) | ((with_reducible refine zS (f := 24) rfl ?_); refine goesL_ (some 16) rfl rfl Try.func24 (by kernel_rfl) rfl #[.agg #[.int .i64 a0_0, .int .i64 a0_1, .slice A0_2 l0_2.length c0_2, .slice A0_3 l0_3.length c0_3]] rfl (by (try simp only [zI, zJ, zK]); first | done | rfl | (simp only [zL, zM]; rfl)) ?_; (with_reducible refine (laws_toRelation.calls k a0_0 a0_1 _ _ l0_2 _ _ l0_3 t464 t465 t466 t469 _ ?side1 ?side2 ?side3 ?side4 A9.out).mono ?_); (case side1 => exact mC (yM HR0_2.out HB.out)); (case side2 => exact HC0_2.out); (case side3 => exact mC (yM HR0_3.out HB.out)); (case side4 => exact HC0_3.out); rintro e w21 ⟨v467, v470, rfl, ho0, ho1, hb⟩; refine ⟨_, rfl, ?_⟩; have n0_ := yA (Kd.S_elder' (mS HO459.out) (Kd.S_base ho0) hb); have n1_ := yA (zO (mR HO462.out) (yY ho1) hb); have n2_ := yA (Kd.S_lower (Kd.S_new' ho0 (Kd.S_lt (mS HO459.out))) (yX (by with_reducible repeat first | exact HB.out | apply yO | apply yN | apply yP | refine yQ ?_ GE453.out))); have n3_ := yA (Kd.R_lower (Kd.R_new' ho1 (yZ (mR HO462.out))) (yX (by with_reducible repeat first | exact HB.out | apply yO | apply yN | apply yP | refine yQ ?_ GE453.out))); have n4_ := yA (yU (mK BK453.out) hb); have n5_ := yA (zD (by with_reducible repeat first | exact HB.out | apply yO | apply yN | apply yP | refine yQ ?_ GE453.out) hb); clear HO459; clear HO462; clear BK453; clear HB; have HO459 := n0_; have HO462 := n1_; have HO468 := n2_; have HO471 := n3_; have BK453 := n4_; have HB := n5_; clear n0_ n1_ n2_ n3_ n4_ n5_; (try clear hb); (try clear hb2); (try clear hk); (try clear hi); (try clear ho0); (try clear ho1)) | ((with_reducible refine gate_dst (N := 5) rfl ?_); refine box_event ?hg (N := 5) ?hd (cs := #[.int .i64 0, .int .i64 0, .slice none 0 0, .slice none 0 0]) (t := 25) ?hr ?_; (case hd => rfl); (case hg => rfl); (case hr => first | (go_simp; done) | (go_simp; rfl)); intro gb472 hg w22 hbox hb; have n0_ := yA (yL (mS HO459.out) hb); have n1_ := yA (yK (mR HO462.out) hb); have n2_ := yA (yL (mS HO468.out) hb); have n3_ := yA (yK (mR HO471.out) hb); have n4_ := yA (yU (mK BK453.out) hb); have n5_ := yA (zD (by with_reducible repeat first | exact HB.out | apply yO | apply yN | apply yP | refine yQ ?_ GE453.out) hb); have n6_ := yA (hbox); have n7_ := yA ((by rw [hg]; exact (yX (by with_reducible repeat first | exact HB.out | apply yO | apply yN | apply yP | refine yQ ?_ GE453.out)) : w.heap.size ≤ gb472)); have n8_ := yA ((by rw [hg]; exact (yX (by with_reducible repeat first | exact HB.out | apply yO | apply yN | apply yP | refine yQ ?_ GE453.out)) : w.heap.size ≤ gb472)); have n9_ := yA ((by rw [hg]; exact Nat.ne_of_lt (zX (mK BK453.out)) : gb453 ≠ gb472)); have n10_ := yA ((by rw [hg]; exact Nat.ne_of_gt (zX (mK BK453.out)) : gb472 ≠ gb453)); clear HO459; clear HO462; clear HO468; clear HO471; clear BK453; clear HB; have HO459 := n0_; have HO462 := n1_; have HO468 := n2_; have HO471 := n3_; have BK453 := n4_; have HB := n5_; have BK472 := n6_; have GW472 := n7_; have GE472 := n8_; have NB453_472 := n9_; have NB472_453 := n10_; clear n0_ n1_ n2_ n3_ n4_ n5_ n6_ n7_ n8_ n9_ n10_; clear hb hbox hg; have hnb23 := NB472_453.out; have hnc23 := NB453_472.out; have hcz24_0 : w22.cell? ⟨gb472, 0, none⟩ = some (.int .i64 0) := (yV BK472.out 0).trans rfl; have hcz24_1 : w22.cell? ⟨gb472, 1, none⟩ = some (.int .i64 0) := (yV BK472.out 1).trans rfl; have hcz24_2 : w22.cell? ⟨gb472, 2, none⟩ = some (.slice none 0 0) := (yV BK472.out 2).trans rfl; have hcz24_3 : w22.cell? ⟨gb472, 3, none⟩ = some (.slice none 0 0) := (yV BK472.out 3).trans rfl; have hfz24_0 := yW BK472.out 0; have hfz24_1 := yW BK472.out 1; have hfz24_2 := yW BK472.out 2; have hfz24_3 := yW BK472.out 3; obtain ⟨Ao25, co25, eo25⟩ := Kd.S_slice HO468.out; subst eo25; obtain ⟨Ao26, co26, eo26⟩ := Kd.R_slice HO471.out; subst eo26) | ((with_reducible refine zS (f := 27) rfl ?_); refine goesL_ (some 18) rfl rfl Try.func27 (by kernel_rfl) rfl #[.agg #[.int .i64 t464, .int .i64 t465, .slice Ao25 t466.length co25, .slice Ao26 t469.length co26]] rfl (by (try simp only [zI, zJ, zK]); first | done | rfl | (simp only [zL, zM]; rfl)) ?_; (with_reducible refine (impl_IsWholeRelation.calls k t464 t465 _ _ t466 _ _ t469 t473 _ ?side1 ?side2 ?side3 ?side4 A10.out).mono ?_); (case side1 => refine (Kd.S_reads' (e := 38) (base := w.heap.size) (ok := fun k_ => (True ∧ some k_ ≠ (.slice Ao17 t457.length co17 : Value).ownBlock)) (n := t466.length) (c := co25) ?_).2.2; exact (mS (Kd.S_mono (Kd.S_far (p := ⟨gb472, 3, none⟩) (Kd.S_far (p := ⟨gb472, 2, none⟩) (Kd.S_far (p := ⟨gb472, 1, none⟩) (Kd.S_far (p := ⟨gb472, 0, none⟩) (Kd.S_types HO468.out BK472.out (by decide)) (fun _ hk => hk.2) (.int .i64 t464)) (fun _ hk => hk.2) (.int .i64 t465)) (fun _ hk => hk.2) (.slice Ao25 t466.length co25)) (fun _ hk => hk.2) (.slice Ao26 t469.length co26)) (fun _ h_ => h_.1)))); (case side2 => exact (Kd.S_reads' HO468.out).2.1); (case side3 => refine (zN (e := 4) (base := w.heap.size) (ok := fun k_ => (True ∧ some k_ ≠ (.slice Ao18 t460.length co18 : Value).ownBlock)) (n := t469.length) (c := co26) ?_).2.2; exact (mR (zP (zQ (p := ⟨gb472, 3, none⟩) (zQ (p := ⟨gb472, 2, none⟩) (zQ (p := ⟨gb472, 1, none⟩) (zQ (p := ⟨gb472, 0, none⟩) (zR HO471.out BK472.out (by decide)) (fun _ hk => hk.2) (.int .i64 t464)) (fun _ hk => hk.2) (.int .i64 t465)) (fun _ hk => hk.2) (.slice Ao25 t466.length co25)) (fun _ hk => hk.2) (.slice Ao26 t469.length co26)) (fun _ h_ => h_.1)))); (case side4 => exact (zN HO471.out).2.1); rintro e w27 ⟨rfl, hb⟩; refine ⟨_, rfl, ?_⟩; have n0_ := yA (yL (mS (Kd.S_mono (Kd.S_far (p := ⟨gb472, 3, none⟩) (Kd.S_far (p := ⟨gb472, 2, none⟩) (Kd.S_far (p := ⟨gb472, 1, none⟩) (Kd.S_far (p := ⟨gb472, 0, none⟩) (Kd.S_types HO459.out BK472.out (by decide)) (fun _ hk => hk.2) (.int .i64 t464)) (fun _ hk => hk.2) (.int .i64 t465)) (fun _ hk => hk.2) (.slice Ao25 t466.length co25)) (fun _ hk => hk.2) (.slice Ao26 t469.length co26)) (fun _ h_ => h_.1))) hb); have n1_ := yA (yK (mR (zP (zQ (p := ⟨gb472, 3, none⟩) (zQ (p := ⟨gb472, 2, none⟩) (zQ (p := ⟨gb472, 1, none⟩) (zQ (p := ⟨gb472, 0, none⟩) (zR HO462.out BK472.out (by decide)) (fun _ hk => hk.2) (.int .i64 t464)) (fun _ hk => hk.2) (.int .i64 t465)) (fun _ hk => hk.2) (.slice Ao25 t466.length co25)) (fun _ hk => hk.2) (.slice Ao26 t469.length co26)) (fun _ h_ => h_.1))) hb); have n2_ := yA (yL (mS (Kd.S_mono (Kd.S_far (p := ⟨gb472, 3, none⟩) (Kd.S_far (p := ⟨gb472, 2, none⟩) (Kd.S_far (p := ⟨gb472, 1, none⟩) (Kd.S_far (p := ⟨gb472, 0, none⟩) (Kd.S_types HO468.out BK472.out (by decide)) (fun _ hk => hk.2) (.int .i64 t464)) (fun _ hk => hk.2) (.int .i64 t465)) (fun _ hk => hk.2) (.slice Ao25 t466.length co25)) (fun _ hk => hk.2) (.slice Ao26 t469.length co26)) (fun _ h_ => h_.1))) hb); have n3_ := yA (yK (mR (zP (zQ (p := ⟨gb472, 3, none⟩) (zQ (p := ⟨gb472, 2, none⟩) (zQ (p := ⟨gb472, 1, none⟩) (zQ (p := ⟨gb472, 0, none⟩) (zR HO471.out BK472.out (by decide)) (fun _ hk => hk.2) (.int .i64 t464)) (fun _ hk => hk.2) (.int .i64 t465)) (fun _ hk => hk.2) (.slice Ao25 t466.length co25)) (fun _ hk => hk.2) (.slice Ao26 t469.length co26)) (fun _ h_ => h_.1))) hb); have n4_ := yA (yU (g := gb453) (o := .cells #[.int .i64 a0_0, .int .i64 a0_1, .slice A0_2 l0_2.length c0_2, .slice A0_3 l0_3.length c0_3] 33 (0, 0)) (by (with_reducible repeat (first | refine yS ?_ _ | refine yT ?_ | refine yR ?_ _)); refine blk_far ?_ NB453_472.out _; (with_reducible repeat (first | refine yS ?_ _ | refine yT ?_ | refine yR ?_ _)); refine blk_far ?_ NB453_472.out _; (with_reducible repeat (first | refine yS ?_ _ | refine yT ?_ | refine yR ?_ _)); refine blk_far ?_ NB453_472.out _; (with_reducible repeat (first | refine yS ?_ _ | refine yT ?_ | refine yR ?_ _)); refine blk_far ?_ NB453_472.out _; (with_reducible repeat (first | refine yS ?_ _ | refine yT ?_ | refine yR ?_ _)); exact BK453.out) hb); have n5_ := yA (yU (g := gb472) (o := .cells #[.int .i64 t464, .int .i64 t465, .slice Ao25 t466.length co25, .slice Ao26 t469.length co26] 25 (0, 0)) (by (with_reducible repeat (first | refine yS ?_ _ | refine yT ?_ | refine yR ?_ _)); refine blk_put (cs := #[.int .i64 t464, .int .i64 t465, .slice Ao25 t466.length co25, .slice none 0 0]) ?_ 3 _ rfl; (with_reducible repeat (first | refine yS ?_ _ | refine yT ?_ | refine yR ?_ _)); refine blk_put (cs := #[.int .i64 t464, .int .i64 t465, .slice none 0 0, .slice none 0 0]) ?_ 2 _ rfl; (with_reducible repeat (first | refine yS ?_ _ | refine yT ?_ | refine yR ?_ _)); refine blk_put (cs := #[.int .i64 t464, .int .i64 0, .slice none 0 0, .slice none 0 0]) ?_ 1 _ rfl; (with_reducible repeat (first | refine yS ?_ _ | refine yT ?_ | refine yR ?_ _)); refine blk_put (cs := #[.int .i64 0, .int .i64 0, .slice none 0 0, .slice none 0 0]) ?_ 0 _ rfl; (with_reducible repeat (first | refine yS ?_ _ | refine yT ?_ | refine yR ?_ _)); exact BK472.out) hb); have n6_ := yA (zD (by with_reducible repeat first | exact HB.out | apply yO | apply yN | apply yP | refine yQ ?_ GE453.out | refine yQ ?_ GE472.out) hb); clear HO459; clear HO462; clear HO468; clear HO471; clear BK453; clear BK472; clear HB; have HO459 := n0_; have HO462 := n1_; have HO468 := n2_; have HO471 := n3_; have BK453 := n4_; have BK472 := n5_; have HB := n6_; clear n0_ n1_ n2_ n3_ n4_ n5_ n6_; (try clear hb); (try clear hb2); (try clear hk); (try clear hi)))
   go_ret
   exact ⟨by first | rfl | (simp [errW_none, errW_some] <;> rfl) | (simp [*, errW_none, errW_some] <;> rfl), by repeat (first | (with_reducible first | exact HB.out | apply yO | apply yN | apply yP | refine yQ ?_ GE453.out | refine yQ ?_ GE472.out) | exact HB.out)⟩
  ·rw [if_neg c11] at H
   have c11b0 : (t473 != t463) = false := by simpa using c11
   (try (have c11b1 : decide (t473 = t463) = true := by simpa using c11))
   (try (have c11b2 : (t473 == t463) = true := by simpa using c11))
   clear c11
   replace H := Option.bind_eq_some_iff.mp H
   obtain ⟨⟨t474, t475, t476, t479⟩, A280, H⟩ := H
   replace H : ((laws_eqRelation.f k t464 t465 t466 t469 t474 t475 t476 t479).bind fun t482 => (if t482 = true then (some true) else (some false))) = some r := H
   have A28 := yA A280
   clear A280
   replace H := Option.bind_eq_some_iff.mp H
   obtain ⟨t482, A290, H⟩ := H
   replace H : (if t482 = true then (some true) else (some false)) = some r := H
   have A29 := yA A290
   clear A290
   by_cases c30 : t482 = true
   ·subst c30
    have H1 : (some true) = some r := by rw [if_pos rfl] at H; exact H
    clear H
    have H := H1
    clear H1
    obtain rfl := zU H
    go_enter Try.func6, Try.ntmps6
    try go_wp2_with (first | ((with_reducible refine gate_dst (N := 1) rfl ?_); refine box_event ?hg (N := 1) ?hd (cs := #[.int .i64 a0_0, .int .i64 a0_1, .slice A0_2 l0_2.length c0_2, .slice A0_3 l0_3.length c0_3]) (t := 33) ?hr ?_; (case hd => rfl); (case hg => rfl); (case hr => first | (go_simp; done) | (go_simp; rfl)); intro gb453 hg w31 hbox hb; have n0_ := yA (zD (mB HB.out) hb); have n1_ := yA (hbox); have n2_ := yA ((by rw [hg]; exact (yX (mB HB.out)) : w.heap.size ≤ gb453)); have n3_ := yA ((by rw [hg]; exact (yX (mB HB.out)) : w.heap.size ≤ gb453)); clear HB; have HB := n0_; have BK453 := n1_; have GW453 := n2_; have GE453 := n3_; clear n0_ n1_ n2_ n3_; clear hb hbox hg; have hcz32_0 : w31.cell? ⟨gb453, 0, none⟩ = some (.int .i64 a0_0) := (yV BK453.out 0).trans rfl; have hcz32_1 : w31.cell? ⟨gb453, 1, none⟩ = some (.int .i64 a0_1) := (yV BK453.out 1).trans rfl; have hcz32_2 : w31.cell? ⟨gb453, 2, none⟩ = some (.slice A0_2 l0_2.length c0_2) := (yV BK453.out 2).trans rfl; have hcz32_3 : w31.cell? ⟨gb453, 3, none⟩ = some (.slice A0_3 l0_3.length c0_3) := (yV BK453.out 3).trans rfl; have hfz32_0 := yW BK453.out 0; have hfz32_1 := yW BK453.out 1; have hfz32_2 := yW BK453.out 2; have hfz32_3 := yW BK453.out 3) | ((with_reducible refine zS (f := 22) rfl ?_); refine goesL_ (some 9) rfl rfl Try.func22 (by kernel_rfl) rfl #[.agg #[.int .i64 a0_0, .int .i64 a0_1, .slice A0_2 l0_2.length c0_2, .slice A0_3 l0_3.length c0_3], .int .i64 1048576] rfl (by (try simp only [zI, zJ, zK]); first | done | rfl | (simp only [zL, zM]; rfl)) ?_; (with_reducible refine (laws_szRelation.calls k a0_0 a0_1 _ _ l0_2 _ _ l0_3 1048576 t454 _ ?side1 ?side2 ?side3 ?side4 A2.out).mono ?_); (case side1 => exact mC (yM HR0_2.out HB.out)); (case side2 => exact HC0_2.out); (case side3 => exact mC (yM HR0_3.out HB.out)); (case side4 => exact HC0_3.out); rintro e w33 ⟨rfl, hb⟩; refine ⟨_, rfl, ?_⟩; have n0_ := yA (yU (mK BK453.out) hb); have n1_ := yA (zD (by with_reducible repeat first | exact HB.out | apply yO | apply yN | apply yP | refine yQ ?_ GE453.out) hb); clear BK453; clear HB; have BK453 := n0_; have HB := n1_; clear n0_ n1_; (try clear hb); (try clear hb2); (try clear hk); (try clear hi); have hcz34_0 : w33.cell? ⟨gb453, 0, none⟩ = some (.int .i64 a0_0) := (yV BK453.out 0).trans rfl; have hcz34_1 : w33.cell? ⟨gb453, 1, none⟩ = some (.int .i64 a0_1) := (yV BK453.out 1).trans rfl; have hcz34_2 : w33.cell? ⟨gb453, 2, none⟩ = some (.slice A0_2 l0_2.length c0_2) := (yV BK453.out 2).trans rfl; have hcz34_3 : w33.cell? ⟨gb453, 3, none⟩ = some (.slice A0_3 l0_3.length c0_3) := (yV BK453.out 3).trans rfl; have hfz34_0 := yW BK453.out 0; have hfz34_1 := yW BK453.out 1; have hfz34_2 := yW BK453.out 2; have hfz34_3 := yW BK453.out 3) | ((with_reducible refine zS (f := 24) rfl ?_); refine goesL_ (some 13) rfl rfl Try.func24 (by kernel_rfl) rfl #[.agg #[.int .i64 a0_0, .int .i64 a0_1, .slice A0_2 l0_2.length c0_2, .slice A0_3 l0_3.length c0_3]] rfl (by (try simp only [zI, zJ, zK]); first | done | rfl | (simp only [zL, zM]; rfl)) ?_; (with_reducible refine (laws_toRelation.calls k a0_0 a0_1 _ _ l0_2 _ _ l0_3 t455 t456 t457 t460 _ ?side1 ?side2 ?side3 ?side4 A7.out).mono ?_); (case side1 => exact mC (yM HR0_2.out HB.out)); (case side2 => exact HC0_2.out); (case side3 => exact mC (yM HR0_3.out HB.out)); (case side4 => exact HC0_3.out); rintro e w35 ⟨v458, v461, rfl, ho0, ho1, hb⟩; refine ⟨_, rfl, ?_⟩; have n0_ := yA (Kd.S_lower ho0 (yX (by with_reducible repeat first | exact HB.out | apply yO | apply yN | apply yP | refine yQ ?_ GE453.out))); have n1_ := yA (Kd.R_lower ho1 (yX (by with_reducible repeat first | exact HB.out | apply yO | apply yN | apply yP | refine yQ ?_ GE453.out))); have n2_ := yA (yU (mK BK453.out) hb); have n3_ := yA (zD (by with_reducible repeat first | exact HB.out | apply yO | apply yN | apply yP | refine yQ ?_ GE453.out) hb); clear BK453; clear HB; have HO459 := n0_; have HO462 := n1_; have BK453 := n2_; have HB := n3_; clear n0_ n1_ n2_ n3_; (try clear hb); (try clear hb2); (try clear hk); (try clear hi); (try clear ho0); (try clear ho1); obtain ⟨Ao36, co36, eo36⟩ := Kd.S_slice HO459.out; subst eo36; obtain ⟨Ao37, co37, eo37⟩ := Kd.R_slice HO462.out; subst eo37) | ((with_reducible refine zS (f := 26) rfl ?_); refine goesL_ (some 14) rfl rfl Try.func26 (by kernel_rfl) rfl #[.agg #[.int .i64 t455, .int .i64 t456, .slice Ao36 t457.length co36, .slice Ao37 t460.length co37]] rfl (by (try simp only [zI, zJ, zK]); first | done | rfl | (simp only [zL, zM]; rfl)) ?_; (with_reducible refine (spec_IsWholeRelation.calls k t455 t456 _ _ t457 _ _ t460 t463 _ ?side1 ?side2 ?side3 ?side4 A8.out).mono ?_); (case side1 => exact mC ((Kd.S_reads' HO459.out).2.2)); (case side2 => exact (Kd.S_reads' HO459.out).2.1); (case side3 => exact mC ((zN HO462.out).2.2)); (case side4 => exact (zN HO462.out).2.1); rintro e w38 ⟨rfl, hb⟩; refine ⟨_, rfl, ?_⟩; have n0_ := yA (yL (mS HO459.out) hb); have n1_ := yA (yK (mR HO462.out) hb); have n2_ := yA (yU (mK BK453.out) hb); have n3_ := yA (zD (by with_reducible repeat first | exact HB.out | apply yO | apply yN | apply yP | refine yQ ?_ GE453.out) hb); clear HO459; clear HO462; clear BK453; clear HB; have HO459 := n0_; have HO462 := n1_; have BK453 := n2_; have HB := n3_; clear n0_ n1_ n2_ n3_; (try clear hb); (try clear hb2); (try clear hk); (try clear hi); have hcz39_0 : w38.cell? ⟨gb453, 0, none⟩ = some (.int .i64 a0_0) := (yV BK453.out 0).trans rfl; have hcz39_1 : w38.cell? ⟨gb453, 1, none⟩ = some (.int .i64 a0_1) := (yV BK453.out 1).trans rfl; have hcz39_2 : w38.cell? ⟨gb453, 2, none⟩ = some (.slice A0_2 l0_2.length c0_2) := (yV BK453.out 2).trans rfl; have hcz39_3 : w38.cell? ⟨gb453, 3, none⟩ = some (.slice A0_3 l0_3.length c0_3) := (yV BK453.out 3).trans rfl; have hfz39_0 := yW BK453.out 0; have hfz39_1 := yW BK453.out 1; have hfz39_2 := yW BK453.out 2; have hfz39_3 := yW BK453.out 3) | ((with_reducible refine zS (f := 24) rfl ?_); refine goesL_ (some 16) rfl rfl Try.func24 (by kernel_rfl) rfl #[.agg #[.int .i64 a0_0, .int .i64 a0_1, .slice A0_2 l0_2.length c0_2, .slice A0_3 l0_3.length c0_3]] rfl (by (try simp only [zI, zJ, zK]); first | done | rfl | (simp only [zL, zM]; rfl)) ?_; (with_reducible refine (laws_toRelation.calls k a0_0 a0_1 _ _ l0_2 _ _ l0_3 t464 t465 t466 t469 _ ?side1 ?side2 ?side3 ?side4 A9.out).mono ?_); (case side1 => exact mC (yM HR0_2.out HB.out)); (case side2 => exact HC0_2.out); (case side3 => exact mC (yM HR0_3.out HB.out)); (case side4 => exact HC0_3.out); rintro e w40 ⟨v467, v470, rfl, ho0, ho1, hb⟩; refine ⟨_, rfl, ?_⟩; have n0_ := yA (Kd.S_elder' (mS HO459.out) (Kd.S_base ho0) hb); have n1_ := yA (zO (mR HO462.out) (yY ho1) hb); have n2_ := yA (Kd.S_lower (Kd.S_new' ho0 (Kd.S_lt (mS HO459.out))) (yX (by with_reducible repeat first | exact HB.out | apply yO | apply yN | apply yP | refine yQ ?_ GE453.out))); have n3_ := yA (Kd.R_lower (Kd.R_new' ho1 (yZ (mR HO462.out))) (yX (by with_reducible repeat first | exact HB.out | apply yO | apply yN | apply yP | refine yQ ?_ GE453.out))); have n4_ := yA (yU (mK BK453.out) hb); have n5_ := yA (zD (by with_reducible repeat first | exact HB.out | apply yO | apply yN | apply yP | refine yQ ?_ GE453.out) hb); clear HO459; clear HO462; clear BK453; clear HB; have HO459 := n0_; have HO462 := n1_; have HO468 := n2_; have HO471 := n3_; have BK453 := n4_; have HB := n5_; clear n0_ n1_ n2_ n3_ n4_ n5_; (try clear hb); (try clear hb2); (try clear hk); (try clear hi); (try clear ho0); (try clear ho1)) | ((with_reducible refine gate_dst (N := 5) rfl ?_); refine box_event ?hg (N := 5) ?hd (cs := #[.int .i64 0, .int .i64 0, .slice none 0 0, .slice none 0 0]) (t := 25) ?hr ?_; (case hd => rfl); (case hg => rfl); (case hr => first | (go_simp; done) | (go_simp; rfl)); intro gb472 hg w41 hbox hb; have n0_ := yA (yL (mS HO459.out) hb); have n1_ := yA (yK (mR HO462.out) hb); have n2_ := yA (yL (mS HO468.out) hb); have n3_ := yA (yK (mR HO471.out) hb); have n4_ := yA (yU (mK BK453.out) hb); have n5_ := yA (zD (by with_reducible repeat first | exact HB.out | apply yO | apply yN | apply yP | refine yQ ?_ GE453.out) hb); have n6_ := yA (hbox); have n7_ := yA ((by rw [hg]; exact (yX (by with_reducible repeat first | exact HB.out | apply yO | apply yN | apply yP | refine yQ ?_ GE453.out)) : w.heap.size ≤ gb472)); have n8_ := yA ((by rw [hg]; exact (yX (by with_reducible repeat first | exact HB.out | apply yO | apply yN | apply yP | refine yQ ?_ GE453.out)) : w.heap.size ≤ gb472)); have n9_ := yA ((by rw [hg]; exact Nat.ne_of_lt (zX (mK BK453.out)) : gb453 ≠ gb472)); have n10_ := yA ((by rw [hg]; exact Nat.ne_of_gt (zX (mK BK453.out)) : gb472 ≠ gb453)); clear HO459; clear HO462; clear HO468; clear HO471; clear BK453; clear HB; have HO459 := n0_; have HO462 := n1_; have HO468 := n2_; have HO471 := n3_; have BK453 := n4_; have HB := n5_; have BK472 := n6_; have GW472 := n7_; have GE472 := n8_; have NB453_472 := n9_; have NB472_453 := n10_; clear n0_ n1_ n2_ n3_ n4_ n5_ n6_ n7_ n8_ n9_ n10_; clear hb hbox hg; have hnb42 := NB472_453.out; have hnc42 := NB453_472.out; have hcz43_0 : w41.cell? ⟨gb472, 0, none⟩ = some (.int .i64 0) := (yV BK472.out 0).trans rfl; have hcz43_1 : w41.cell? ⟨gb472, 1, none⟩ = some (.int .i64 0) := (yV BK472.out 1).trans rfl; have hcz43_2 : w41.cell? ⟨gb472, 2, none⟩ = some (.slice none 0 0) := (yV BK472.out 2).trans rfl; have hcz43_3 : w41.cell? ⟨gb472, 3, none⟩ = some (.slice none 0 0) := (yV BK472.out 3).trans rfl; have hfz43_0 := yW BK472.out 0; have hfz43_1 := yW BK472.out 1; have hfz43_2 := yW BK472.out 2; have hfz43_3 := yW BK472.out 3; obtain ⟨Ao44, co44, eo44⟩ := Kd.S_slice HO468.out; subst eo44; obtain ⟨Ao45, co45, eo45⟩ := Kd.R_slice HO471.out; subst eo45) | ((with_reducible refine zS (f := 27) rfl ?_); refine goesL_ (some 18) rfl rfl Try.func27 (by kernel_rfl) rfl #[.agg #[.int .i64 t464, .int .i64 t465, .slice Ao44 t466.length co44, .slice Ao45 t469.length co45]] rfl (by (try simp only [zI, zJ, zK]); first | done | rfl | (simp only [zL, zM]; rfl)) ?_; (with_reducible refine (impl_IsWholeRelation.calls k t464 t465 _ _ t466 _ _ t469 t473 _ ?side1 ?side2 ?side3 ?side4 A10.out).mono ?_); (case side1 => refine (Kd.S_reads' (e := 38) (base := w.heap.size) (ok := fun k_ => (True ∧ some k_ ≠ (.slice Ao36 t457.length co36 : Value).ownBlock)) (n := t466.length) (c := co44) ?_).2.2; exact (mS (Kd.S_mono (Kd.S_far (p := ⟨gb472, 3, none⟩) (Kd.S_far (p := ⟨gb472, 2, none⟩) (Kd.S_far (p := ⟨gb472, 1, none⟩) (Kd.S_far (p := ⟨gb472, 0, none⟩) (Kd.S_types HO468.out BK472.out (by decide)) (fun _ hk => hk.2) (.int .i64 t464)) (fun _ hk => hk.2) (.int .i64 t465)) (fun _ hk => hk.2) (.slice Ao44 t466.length co44)) (fun _ hk => hk.2) (.slice Ao45 t469.length co45)) (fun _ h_ => h_.1)))); (case side2 => exact (Kd.S_reads' HO468.out).2.1); (case side3 => refine (zN (e := 4) (base := w.heap.size) (ok := fun k_ => (True ∧ some k_ ≠ (.slice Ao37 t460.length co37 : Value).ownBlock)) (n := t469.length) (c := co45) ?_).2.2; exact (mR (zP (zQ (p := ⟨gb472, 3, none⟩) (zQ (p := ⟨gb472, 2, none⟩) (zQ (p := ⟨gb472, 1, none⟩) (zQ (p := ⟨gb472, 0, none⟩) (zR HO471.out BK472.out (by decide)) (fun _ hk => hk.2) (.int .i64 t464)) (fun _ hk => hk.2) (.int .i64 t465)) (fun _ hk => hk.2) (.slice Ao44 t466.length co44)) (fun _ hk => hk.2) (.slice Ao45 t469.length co45)) (fun _ h_ => h_.1)))); (case side4 => exact (zN HO471.out).2.1); rintro e w46 ⟨rfl, hb⟩; refine ⟨_, rfl, ?_⟩; have n0_ := yA (yL (mS (Kd.S_mono (Kd.S_far (p := ⟨gb472, 3, none⟩) (Kd.S_far (p := ⟨gb472, 2, none⟩) (Kd.S_far (p := ⟨gb472, 1, none⟩) (Kd.S_far (p := ⟨gb472, 0, none⟩) (Kd.S_types HO459.out BK472.out (by decide)) (fun _ hk => hk.2) (.int .i64 t464)) (fun _ hk => hk.2) (.int .i64 t465)) (fun _ hk => hk.2) (.slice Ao44 t466.length co44)) (fun _ hk => hk.2) (.slice Ao45 t469.length co45)) (fun _ h_ => h_.1))) hb); have n1_ := yA (yK (mR (zP (zQ (p := ⟨gb472, 3, none⟩) (zQ (p := ⟨gb472, 2, none⟩) (zQ (p := ⟨gb472, 1, none⟩) (zQ (p := ⟨gb472, 0, none⟩) (zR HO462.out BK472.out (by decide)) (fun _ hk => hk.2) (.int .i64 t464)) (fun _ hk => hk.2) (.int .i64 t465)) (fun _ hk => hk.2) (.slice Ao44 t466.length co44)) (fun _ hk => hk.2) (.slice Ao45 t469.length co45)) (fun _ h_ => h_.1))) hb); have n2_ := yA (yL (mS (Kd.S_mono (Kd.S_far (p := ⟨gb472, 3, none⟩) (Kd.S_far (p := ⟨gb472, 2, none⟩) (Kd.S_far (p := ⟨gb472, 1, none⟩) (Kd.S_far (p := ⟨gb472, 0, none⟩) (Kd.S_types HO468.out BK472.out (by decide)) (fun _ hk => hk.2) (.int .i64 t464)) (fun _ hk => hk.2) (.int .i64 t465)) (fun _ hk => hk.2) (.slice Ao44 t466.length co44)) (fun _ hk => hk.2) (.slice Ao45 t469.length co45)) (fun _ h_ => h_.1))) hb); have n3_ := yA (yK (mR (zP (zQ (p := ⟨gb472, 3, none⟩) (zQ (p := ⟨gb472, 2, none⟩) (zQ (p := ⟨gb472, 1, none⟩) (zQ (p := ⟨gb472, 0, none⟩) (zR HO471.out BK472.out (by decide)) (fun _ hk => hk.2) (.int .i64 t464)) (fun _ hk => hk.2) (.int .i64 t465)) (fun _ hk => hk.2) (.slice Ao44 t466.length co44)) (fun _ hk => hk.2) (.slice Ao45 t469.length co45)) (fun _ h_ => h_.1))) hb); have n4_ := yA (yU (g := gb453) (o := .cells #[.int .i64 a0_0, .int .i64 a0_1, .slice A0_2 l0_2.length c0_2, .slice A0_3 l0_3.length c0_3] 33 (0, 0)) (by (with_reducible repeat (first | refine yS ?_ _ | refine yT ?_ | refine yR ?_ _)); refine blk_far ?_ NB453_472.out _; (with_reducible repeat (first | refine yS ?_ _ | refine yT ?_ | refine yR ?_ _)); refine blk_far ?_ NB453_472.out _; (with_reducible repeat (first | refine yS ?_ _ | refine yT ?_ | refine yR ?_ _)); refine blk_far ?_ NB453_472.out _; (with_reducible repeat (first | refine yS ?_ _ | refine yT ?_ | refine yR ?_ _)); refine blk_far ?_ NB453_472.out _; (with_reducible repeat (first | refine yS ?_ _ | refine yT ?_ | refine yR ?_ _)); exact BK453.out) hb); have n5_ := yA (yU (g := gb472) (o := .cells #[.int .i64 t464, .int .i64 t465, .slice Ao44 t466.length co44, .slice Ao45 t469.length co45] 25 (0, 0)) (by (with_reducible repeat (first | refine yS ?_ _ | refine yT ?_ | refine yR ?_ _)); refine blk_put (cs := #[.int .i64 t464, .int .i64 t465, .slice Ao44 t466.length co44, .slice none 0 0]) ?_ 3 _ rfl; (with_reducible repeat (first | refine yS ?_ _ | refine yT ?_ | refine yR ?_ _)); refine blk_put (cs := #[.int .i64 t464, .int .i64 t465, .slice none 0 0, .slice none 0 0]) ?_ 2 _ rfl; (with_reducible repeat (first | refine yS ?_ _ | refine yT ?_ | refine yR ?_ _)); refine blk_put (cs := #[.int .i64 t464, .int .i64 0, .slice none 0 0, .slice none 0 0]) ?_ 1 _ rfl; (with_reducible repeat (first | refine yS ?_ _ | refine yT ?_ | refine yR ?_ _)); refine blk_put (cs := #[.int .i64 0, .int .i64 0, .slice none 0 0, .slice none 0 0]) ?_ 0 _ rfl; (with_reducible repeat (first | refine yS ?_ _ | refine yT ?_ | refine yR ?_ _)); exact BK472.out) hb); have n6_ := yA (zD (by with_reducible repeat first | exact HB.out | apply yO | apply yN | apply yP | refine yQ ?_ GE453.out | refine yQ ?_ GE472.out) hb); clear HO459; clear HO462; clear HO468; clear HO471; clear BK453; clear BK472; clear HB; have HO459 := n0_; have HO462 := n1_; have HO468 := n2_; have HO471 := n3_; have BK453 := n4_; have BK472 := n5_; have HB := n6_; clear n0_ n1_ n2_ n3_ n4_ n5_ n6_; (try clear hb); (try clear hb2); (try clear hk); (try clear hi)))
    have n0_ := yA (yJ HO459.out)
    have n1_ := yA (yD HO462.out)
    have n2_ := yA (yJ HO468.out)
    have n3_ := yA (yD HO471.out)
    have n4_ := yA (yT BK453.out)
    have n5_ := yA (yT BK472.out)
    have n6_ := yA (yP HB.out)
    clear HO459
    clear HO462
    clear HO468
    clear HO471
    clear BK453
    clear BK472
    clear HB
    have HO459 := n0_
    have HO462 := n1_
    have HO468 := n2_
    have HO471 := n3_
    have BK453 := n4_
    have BK472 := n5_
    have HB := n6_
    clear n0_ n1_ n2_ n3_ n4_ n5_ n6_
    refine start_ (n := 5) (S := fun w' => w'.cell? ⟨gb472, 0, none⟩ = some (.int .i64 t464) ∧ w'.cell? ⟨gb472, 1, none⟩ = some (.int .i64 t465) ∧ w'.cell? ⟨gb472, 2, none⟩ = some (.slice Ao44 t466.length co44) ∧ w'.cell? ⟨gb472, 3, none⟩ = some (.slice Ao45 t469.length co45) ∧ w'.cell? ⟨gb453, 0, none⟩ = some (.int .i64 a0_0) ∧ w'.cell? ⟨gb453, 1, none⟩ = some (.int .i64 a0_1) ∧ w'.cell? ⟨gb453, 2, none⟩ = some (.slice A0_2 l0_2.length c0_2) ∧ w'.cell? ⟨gb453, 3, none⟩ = some (.slice A0_3 l0_3.length c0_3)) (ds := []) #[false, false, false, false, false] (by kernel_rfl) rfl rfl ⟨(yV BK472.out 0).trans rfl, (yV BK472.out 1).trans rfl, (yV BK472.out 2).trans rfl, (yV BK472.out 3).trans rfl, (yV BK453.out 0).trans rfl, (yV BK453.out 1).trans rfl, (yV BK453.out 2).trans rfl, (yV BK453.out 3).trans rfl⟩ (fun hHeld => ?_)
    generalize w46.drew = w47 at HO459 HO462 HO468 HO471 BK453 BK472 HB hHeld ⊢
    refine take_ (i := 0) (N := some 22) (v := ?_) (a' := ?_) #[true, false, false, false, false] rfl rfl (by kernel_rfl) (fun _ _ _ h => h) (Or.inl ⟨by rfl, ?_⟩) hHeld ?_ ?_
    rotate_left
    ·rintro w' ⟨s0, s1, s2, s3, s4, s5, s6, s7⟩
     go_simp
     with_reducible rfl
    rotate_left
    ·simp only [Act.put, zA, zB, zC, i64_w, i32_w]
     rfl
    refine take_ (i := 1) (N := some 23) (v := ?_) (a' := ?_) #[true, true, false, false, false] rfl rfl (by kernel_rfl) (fun _ _ _ h => h) (Or.inl ⟨by rfl, ?_⟩) hHeld ?_ ?_
    rotate_left
    ·rintro w' ⟨s0, s1, s2, s3, s4, s5, s6, s7⟩
     go_simp
     with_reducible rfl
    rotate_left
    ·simp only [Act.put, zA, zB, zC, i64_w, i32_w]
     rfl
    refine one_ (i := 2) (N := some 24) #[true, true, true, false, false] rfl rfl (by kernel_rfl) (by decide) (fun K hK => ?_)
    refine goes_ Try.func24 (by kernel_rfl) rfl #[.agg #[.int .i64 a0_0, .int .i64 a0_1, .slice A0_2 l0_2.length c0_2, .slice A0_3 l0_3.length c0_3]] (by rfl) rfl rfl (by (try simp only [zI, zJ, zK]); first | done | rfl | (simp only [zL, zM]; rfl)) ?_
    with_reducible refine (laws_toRelation.calls k a0_0 a0_1 _ _ l0_2 _ _ l0_3 t474 t475 t476 t479 _ ?side1 ?side2 ?side3 ?side4 A28.out).mono ?_
    (case side1 => exact mC (yM HR0_2.out HB.out))
    (case side2 => exact HC0_2.out)
    (case side3 => exact mC (yM HR0_3.out HB.out))
    (case side4 => exact HC0_3.out)
    rintro e w48 ⟨v477, v480, rfl, ho0, ho1, hb⟩
    refine ⟨_, rfl, ?_⟩
    have n0_ := yA (Kd.S_elder' (mS HO459.out) (Kd.S_base ho0) hb)
    have n1_ := yA (zO (mR HO462.out) (yY ho1) hb)
    have n2_ := yA (Kd.S_elder' (mS HO468.out) (Kd.S_base ho0) hb)
    have n3_ := yA (zO (mR HO471.out) (yY ho1) hb)
    have n4_ := yA (Kd.S_lower (Kd.S_new' (Kd.S_new' ho0 (Kd.S_lt (mS HO459.out))) (Kd.S_lt (mS HO468.out))) (yX (by with_reducible repeat first | exact HB.out | apply yO | apply yN | apply yP | refine yQ ?_ GE453.out | refine yQ ?_ GE472.out)))
    have n5_ := yA (Kd.R_lower (Kd.R_new' (Kd.R_new' ho1 (yZ (mR HO462.out))) (yZ (mR HO471.out))) (yX (by with_reducible repeat first | exact HB.out | apply yO | apply yN | apply yP | refine yQ ?_ GE453.out | refine yQ ?_ GE472.out)))
    have n6_ := yA (yU (mK BK453.out) hb)
    have n7_ := yA (yU (mK BK472.out) hb)
    have n8_ := yA (zD (by with_reducible repeat first | exact HB.out | apply yO | apply yN | apply yP | refine yQ ?_ GE453.out | refine yQ ?_ GE472.out) hb)
    clear HO459
    clear HO462
    clear HO468
    clear HO471
    clear BK453
    clear BK472
    clear HB
    have HO459 := n0_
    have HO462 := n1_
    have HO468 := n2_
    have HO471 := n3_
    have HO478 := n4_
    have HO481 := n5_
    have BK453 := n6_
    have BK472 := n7_
    have HB := n8_
    clear n0_ n1_ n2_ n3_ n4_ n5_ n6_ n7_ n8_
    (try clear hb)
    (try clear hb2)
    (try clear hk)
    (try clear hi)
    (try clear ho0)
    (try clear ho1)
    obtain ⟨Ao49, co49, eo49⟩ := Kd.S_slice HO478.out
    (first | subst eo49 | (injection eo49 with f1_ f2_ f3_; have f4_ := f1_.symm; have f5_ := f3_.symm; clear f1_ f2_ f3_; subst f4_; subst f5_))
    obtain ⟨Ao50, co50, eo50⟩ := Kd.R_slice HO481.out
    (first | subst eo50 | (injection eo50 with f1_ f2_ f3_; have f4_ := f1_.symm; have f5_ := f3_.symm; clear f1_ f2_ f3_; subst f4_; subst f5_))
    refine hK.out _ _ ⟨(yV BK472.out 0).trans rfl, (yV BK472.out 1).trans rfl, (yV BK472.out 2).trans rfl, (yV BK472.out 3).trans rfl, (yV BK453.out 0).trans rfl, (yV BK453.out 1).trans rfl, (yV BK453.out 2).trans rfl, (yV BK453.out 3).trans rfl⟩ (fun hHeld => ?_)
    clear hK K
    refine norm_ (a' := ?_) ?_ ?_
    rotate_left
    ·show Act.put _ (some 24) _ = _
     simp only [Act.put, zA, zB, zC, i64_w, i32_w]
     rfl
    refine one_ (i := 3) (N := some 25) #[true, true, true, true, false] rfl rfl (by kernel_rfl) (by decide) (fun K hK => ?_)
    refine goes_ Try.func17 (by kernel_rfl) rfl #[.agg #[.int .i64 t464, .int .i64 t465, .slice Ao44 t466.length co44, .slice Ao45 t469.length co45], .agg #[.int .i64 t474, .int .i64 t475, .slice Ao49 t476.length co49, .slice Ao50 t479.length co50]] (by rfl) rfl rfl (by (try simp only [zI, zJ, zK]); first | done | rfl | (simp only [zL, zM]; rfl)) ?_
    with_reducible refine (laws_eqRelation.calls k t464 t465 _ _ t466 _ _ t469 t474 t475 _ _ t476 _ _ t479 true _ ?side1 ?side2 ?side3 ?side4 ?side5 ?side6 ?side7 ?side8 A29.out).mono ?_
    (case side1 => exact mC ((Kd.S_reads' HO468.out).2.2))
    (case side2 => exact (Kd.S_reads' HO468.out).2.1)
    (case side3 => exact mC ((zN HO471.out).2.2))
    (case side4 => exact (zN HO471.out).2.1)
    (case side5 => exact mC ((Kd.S_reads' HO478.out).2.2))
    (case side6 => exact (Kd.S_reads' HO478.out).2.1)
    (case side7 => exact mC ((zN HO481.out).2.2))
    (case side8 => exact (zN HO481.out).2.1)
    rintro e w51 ⟨rfl, hb⟩
    refine ⟨_, rfl, ?_⟩
    have n0_ := yA (yL (mS HO459.out) hb)
    have n1_ := yA (yK (mR HO462.out) hb)
    have n2_ := yA (yL (mS HO468.out) hb)
    have n3_ := yA (yK (mR HO471.out) hb)
    have n4_ := yA (yL (mS HO478.out) hb)
    have n5_ := yA (yK (mR HO481.out) hb)
    have n6_ := yA (yU (mK BK453.out) hb)
    have n7_ := yA (yU (mK BK472.out) hb)
    have n8_ := yA (zD (by with_reducible repeat first | exact HB.out | apply yO | apply yN | apply yP | refine yQ ?_ GE453.out | refine yQ ?_ GE472.out) hb)
    clear HO459
    clear HO462
    clear HO468
    clear HO471
    clear HO478
    clear HO481
    clear BK453
    clear BK472
    clear HB
    have HO459 := n0_
    have HO462 := n1_
    have HO468 := n2_
    have HO471 := n3_
    have HO478 := n4_
    have HO481 := n5_
    have BK453 := n6_
    have BK472 := n7_
    have HB := n8_
    clear n0_ n1_ n2_ n3_ n4_ n5_ n6_ n7_ n8_
    (try clear hb)
    (try clear hb2)
    (try clear hk)
    (try clear hi)
    refine hK.out _ _ ⟨(yV BK472.out 0).trans rfl, (yV BK472.out 1).trans rfl, (yV BK472.out 2).trans rfl, (yV BK472.out 3).trans rfl, (yV BK453.out 0).trans rfl, (yV BK453.out 1).trans rfl, (yV BK453.out 2).trans rfl, (yV BK453.out 3).trans rfl⟩ (fun hHeld => ?_)
    clear hK K
    refine norm_ (a' := ?_) ?_ ?_
    rotate_left
    ·show Act.put _ (some 25) _ = _
     simp only [Act.put, zA, zB, zC, i64_w, i32_w]
     rfl
    refine pure_ (i := 4) (N := some 26) (v := ?_) (a' := ?_) #[true, true, true, true, true] rfl rfl (by kernel_rfl) (fun _ _ _ h => h) (Or.inl ⟨by rfl, ?_⟩) ?_ ?_
    rotate_left
    ·intro w'
     go_simp
     with_reducible rfl
    rotate_left
    ·simp only [Act.put, zA, zB, zC, i64_w, i32_w]
     rfl
    refine done_ (by kernel_rfl) ?_
    try go_wp2
    go_ret
    exact ⟨by first | rfl | (simp [errW_none, errW_some] <;> rfl) | (simp [*, errW_none, errW_some] <;> rfl), by repeat (first | (with_reducible first | exact HB.out | apply yO | apply yN | apply yP | refine yQ ?_ GE453.out | refine yQ ?_ GE472.out) | exact HB.out)⟩
   ·replace c30 := Bool.eq_false_iff.mpr c30
    subst c30
    have H1 : (some false) = some r := by rw [if_neg (show ¬ (false = true) by decide)] at H; exact H
    clear H
    have H := H1
    clear H1
    obtain rfl := zU H
    go_enter Try.func6, Try.ntmps6
    try go_wp2_with (first | ((with_reducible refine gate_dst (N := 1) rfl ?_); refine box_event ?hg (N := 1) ?hd (cs := #[.int .i64 a0_0, .int .i64 a0_1, .slice A0_2 l0_2.length c0_2, .slice A0_3 l0_3.length c0_3]) (t := 33) ?hr ?_; (case hd => rfl); (case hg => rfl); (case hr => first | (go_simp; done) | (go_simp; rfl)); intro gb453 hg w52 hbox hb; have n0_ := yA (zD (mB HB.out) hb); have n1_ := yA (hbox); have n2_ := yA ((by rw [hg]; exact (yX (mB HB.out)) : w.heap.size ≤ gb453)); have n3_ := yA ((by rw [hg]; exact (yX (mB HB.out)) : w.heap.size ≤ gb453)); clear HB; have HB := n0_; have BK453 := n1_; have GW453 := n2_; have GE453 := n3_; clear n0_ n1_ n2_ n3_; clear hb hbox hg; have hcz53_0 : w52.cell? ⟨gb453, 0, none⟩ = some (.int .i64 a0_0) := (yV BK453.out 0).trans rfl; have hcz53_1 : w52.cell? ⟨gb453, 1, none⟩ = some (.int .i64 a0_1) := (yV BK453.out 1).trans rfl; have hcz53_2 : w52.cell? ⟨gb453, 2, none⟩ = some (.slice A0_2 l0_2.length c0_2) := (yV BK453.out 2).trans rfl; have hcz53_3 : w52.cell? ⟨gb453, 3, none⟩ = some (.slice A0_3 l0_3.length c0_3) := (yV BK453.out 3).trans rfl; have hfz53_0 := yW BK453.out 0; have hfz53_1 := yW BK453.out 1; have hfz53_2 := yW BK453.out 2; have hfz53_3 := yW BK453.out 3) | ((with_reducible refine zS (f := 22) rfl ?_); refine goesL_ (some 9) rfl rfl Try.func22 (by kernel_rfl) rfl #[.agg #[.int .i64 a0_0, .int .i64 a0_1, .slice A0_2 l0_2.length c0_2, .slice A0_3 l0_3.length c0_3], .int .i64 1048576] rfl (by (try simp only [zI, zJ, zK]); first | done | rfl | (simp only [zL, zM]; rfl)) ?_; (with_reducible refine (laws_szRelation.calls k a0_0 a0_1 _ _ l0_2 _ _ l0_3 1048576 t454 _ ?side1 ?side2 ?side3 ?side4 A2.out).mono ?_); (case side1 => exact mC (yM HR0_2.out HB.out)); (case side2 => exact HC0_2.out); (case side3 => exact mC (yM HR0_3.out HB.out)); (case side4 => exact HC0_3.out); rintro e w54 ⟨rfl, hb⟩; refine ⟨_, rfl, ?_⟩; have n0_ := yA (yU (mK BK453.out) hb); have n1_ := yA (zD (by with_reducible repeat first | exact HB.out | apply yO | apply yN | apply yP | refine yQ ?_ GE453.out) hb); clear BK453; clear HB; have BK453 := n0_; have HB := n1_; clear n0_ n1_; (try clear hb); (try clear hb2); (try clear hk); (try clear hi); have hcz55_0 : w54.cell? ⟨gb453, 0, none⟩ = some (.int .i64 a0_0) := (yV BK453.out 0).trans rfl; have hcz55_1 : w54.cell? ⟨gb453, 1, none⟩ = some (.int .i64 a0_1) := (yV BK453.out 1).trans rfl; have hcz55_2 : w54.cell? ⟨gb453, 2, none⟩ = some (.slice A0_2 l0_2.length c0_2) := (yV BK453.out 2).trans rfl; have hcz55_3 : w54.cell? ⟨gb453, 3, none⟩ = some (.slice A0_3 l0_3.length c0_3) := (yV BK453.out 3).trans rfl; have hfz55_0 := yW BK453.out 0; have hfz55_1 := yW BK453.out 1; have hfz55_2 := yW BK453.out 2; have hfz55_3 := yW BK453.out 3) | ((with_reducible refine zS (f := 24) rfl ?_); refine goesL_ (some 13) rfl rfl Try.func24 (by kernel_rfl) rfl #[.agg #[.int .i64 a0_0, .int .i64 a0_1, .slice A0_2 l0_2.length c0_2, .slice A0_3 l0_3.length c0_3]] rfl (by (try simp only [zI, zJ, zK]); first | done | rfl | (simp only [zL, zM]; rfl)) ?_; (with_reducible refine (laws_toRelation.calls k a0_0 a0_1 _ _ l0_2 _ _ l0_3 t455 t456 t457 t460 _ ?side1 ?side2 ?side3 ?side4 A7.out).mono ?_); (case side1 => exact mC (yM HR0_2.out HB.out)); (case side2 => exact HC0_2.out); (case side3 => exact mC (yM HR0_3.out HB.out)); (case side4 => exact HC0_3.out); rintro e w56 ⟨v458, v461, rfl, ho0, ho1, hb⟩; refine ⟨_, rfl, ?_⟩; have n0_ := yA (Kd.S_lower ho0 (yX (by with_reducible repeat first | exact HB.out | apply yO | apply yN | apply yP | refine yQ ?_ GE453.out))); have n1_ := yA (Kd.R_lower ho1 (yX (by with_reducible repeat first | exact HB.out | apply yO | apply yN | apply yP | refine yQ ?_ GE453.out))); have n2_ := yA (yU (mK BK453.out) hb); have n3_ := yA (zD (by with_reducible repeat first | exact HB.out | apply yO | apply yN | apply yP | refine yQ ?_ GE453.out) hb); clear BK453; clear HB; have HO459 := n0_; have HO462 := n1_; have BK453 := n2_; have HB := n3_; clear n0_ n1_ n2_ n3_; (try clear hb); (try clear hb2); (try clear hk); (try clear hi); (try clear ho0); (try clear ho1); obtain ⟨Ao57, co57, eo57⟩ := Kd.S_slice HO459.out; subst eo57; obtain ⟨Ao58, co58, eo58⟩ := Kd.R_slice HO462.out; subst eo58) | ((with_reducible refine zS (f := 26) rfl ?_); refine goesL_ (some 14) rfl rfl Try.func26 (by kernel_rfl) rfl #[.agg #[.int .i64 t455, .int .i64 t456, .slice Ao57 t457.length co57, .slice Ao58 t460.length co58]] rfl (by (try simp only [zI, zJ, zK]); first | done | rfl | (simp only [zL, zM]; rfl)) ?_; (with_reducible refine (spec_IsWholeRelation.calls k t455 t456 _ _ t457 _ _ t460 t463 _ ?side1 ?side2 ?side3 ?side4 A8.out).mono ?_); (case side1 => exact mC ((Kd.S_reads' HO459.out).2.2)); (case side2 => exact (Kd.S_reads' HO459.out).2.1); (case side3 => exact mC ((zN HO462.out).2.2)); (case side4 => exact (zN HO462.out).2.1); rintro e w59 ⟨rfl, hb⟩; refine ⟨_, rfl, ?_⟩; have n0_ := yA (yL (mS HO459.out) hb); have n1_ := yA (yK (mR HO462.out) hb); have n2_ := yA (yU (mK BK453.out) hb); have n3_ := yA (zD (by with_reducible repeat first | exact HB.out | apply yO | apply yN | apply yP | refine yQ ?_ GE453.out) hb); clear HO459; clear HO462; clear BK453; clear HB; have HO459 := n0_; have HO462 := n1_; have BK453 := n2_; have HB := n3_; clear n0_ n1_ n2_ n3_; (try clear hb); (try clear hb2); (try clear hk); (try clear hi); have hcz60_0 : w59.cell? ⟨gb453, 0, none⟩ = some (.int .i64 a0_0) := (yV BK453.out 0).trans rfl; have hcz60_1 : w59.cell? ⟨gb453, 1, none⟩ = some (.int .i64 a0_1) := (yV BK453.out 1).trans rfl; have hcz60_2 : w59.cell? ⟨gb453, 2, none⟩ = some (.slice A0_2 l0_2.length c0_2) := (yV BK453.out 2).trans rfl; have hcz60_3 : w59.cell? ⟨gb453, 3, none⟩ = some (.slice A0_3 l0_3.length c0_3) := (yV BK453.out 3).trans rfl; have hfz60_0 := yW BK453.out 0; have hfz60_1 := yW BK453.out 1; have hfz60_2 := yW BK453.out 2; have hfz60_3 := yW BK453.out 3) | ((with_reducible refine zS (f := 24) rfl ?_); refine goesL_ (some 16) rfl rfl Try.func24 (by kernel_rfl) rfl #[.agg #[.int .i64 a0_0, .int .i64 a0_1, .slice A0_2 l0_2.length c0_2, .slice A0_3 l0_3.length c0_3]] rfl (by (try simp only [zI, zJ, zK]); first | done | rfl | (simp only [zL, zM]; rfl)) ?_; (with_reducible refine (laws_toRelation.calls k a0_0 a0_1 _ _ l0_2 _ _ l0_3 t464 t465 t466 t469 _ ?side1 ?side2 ?side3 ?side4 A9.out).mono ?_); (case side1 => exact mC (yM HR0_2.out HB.out)); (case side2 => exact HC0_2.out); (case side3 => exact mC (yM HR0_3.out HB.out)); (case side4 => exact HC0_3.out); rintro e w61 ⟨v467, v470, rfl, ho0, ho1, hb⟩; refine ⟨_, rfl, ?_⟩; have n0_ := yA (Kd.S_elder' (mS HO459.out) (Kd.S_base ho0) hb); have n1_ := yA (zO (mR HO462.out) (yY ho1) hb); have n2_ := yA (Kd.S_lower (Kd.S_new' ho0 (Kd.S_lt (mS HO459.out))) (yX (by with_reducible repeat first | exact HB.out | apply yO | apply yN | apply yP | refine yQ ?_ GE453.out))); have n3_ := yA (Kd.R_lower (Kd.R_new' ho1 (yZ (mR HO462.out))) (yX (by with_reducible repeat first | exact HB.out | apply yO | apply yN | apply yP | refine yQ ?_ GE453.out))); have n4_ := yA (yU (mK BK453.out) hb); have n5_ := yA (zD (by with_reducible repeat first | exact HB.out | apply yO | apply yN | apply yP | refine yQ ?_ GE453.out) hb); clear HO459; clear HO462; clear BK453; clear HB; have HO459 := n0_; have HO462 := n1_; have HO468 := n2_; have HO471 := n3_; have BK453 := n4_; have HB := n5_; clear n0_ n1_ n2_ n3_ n4_ n5_; (try clear hb); (try clear hb2); (try clear hk); (try clear hi); (try clear ho0); (try clear ho1)) | ((with_reducible refine gate_dst (N := 5) rfl ?_); refine box_event ?hg (N := 5) ?hd (cs := #[.int .i64 0, .int .i64 0, .slice none 0 0, .slice none 0 0]) (t := 25) ?hr ?_; (case hd => rfl); (case hg => rfl); (case hr => first | (go_simp; done) | (go_simp; rfl)); intro gb472 hg w62 hbox hb; have n0_ := yA (yL (mS HO459.out) hb); have n1_ := yA (yK (mR HO462.out) hb); have n2_ := yA (yL (mS HO468.out) hb); have n3_ := yA (yK (mR HO471.out) hb); have n4_ := yA (yU (mK BK453.out) hb); have n5_ := yA (zD (by with_reducible repeat first | exact HB.out | apply yO | apply yN | apply yP | refine yQ ?_ GE453.out) hb); have n6_ := yA (hbox); have n7_ := yA ((by rw [hg]; exact (yX (by with_reducible repeat first | exact HB.out | apply yO | apply yN | apply yP | refine yQ ?_ GE453.out)) : w.heap.size ≤ gb472)); have n8_ := yA ((by rw [hg]; exact (yX (by with_reducible repeat first | exact HB.out | apply yO | apply yN | apply yP | refine yQ ?_ GE453.out)) : w.heap.size ≤ gb472)); have n9_ := yA ((by rw [hg]; exact Nat.ne_of_lt (zX (mK BK453.out)) : gb453 ≠ gb472)); have n10_ := yA ((by rw [hg]; exact Nat.ne_of_gt (zX (mK BK453.out)) : gb472 ≠ gb453)); clear HO459; clear HO462; clear HO468; clear HO471; clear BK453; clear HB; have HO459 := n0_; have HO462 := n1_; have HO468 := n2_; have HO471 := n3_; have BK453 := n4_; have HB := n5_; have BK472 := n6_; have GW472 := n7_; have GE472 := n8_; have NB453_472 := n9_; have NB472_453 := n10_; clear n0_ n1_ n2_ n3_ n4_ n5_ n6_ n7_ n8_ n9_ n10_; clear hb hbox hg; have hnb63 := NB472_453.out; have hnc63 := NB453_472.out; have hcz64_0 : w62.cell? ⟨gb472, 0, none⟩ = some (.int .i64 0) := (yV BK472.out 0).trans rfl; have hcz64_1 : w62.cell? ⟨gb472, 1, none⟩ = some (.int .i64 0) := (yV BK472.out 1).trans rfl; have hcz64_2 : w62.cell? ⟨gb472, 2, none⟩ = some (.slice none 0 0) := (yV BK472.out 2).trans rfl; have hcz64_3 : w62.cell? ⟨gb472, 3, none⟩ = some (.slice none 0 0) := (yV BK472.out 3).trans rfl; have hfz64_0 := yW BK472.out 0; have hfz64_1 := yW BK472.out 1; have hfz64_2 := yW BK472.out 2; have hfz64_3 := yW BK472.out 3; obtain ⟨Ao65, co65, eo65⟩ := Kd.S_slice HO468.out; subst eo65; obtain ⟨Ao66, co66, eo66⟩ := Kd.R_slice HO471.out; subst eo66) | ((with_reducible refine zS (f := 27) rfl ?_); refine goesL_ (some 18) rfl rfl Try.func27 (by kernel_rfl) rfl #[.agg #[.int .i64 t464, .int .i64 t465, .slice Ao65 t466.length co65, .slice Ao66 t469.length co66]] rfl (by (try simp only [zI, zJ, zK]); first | done | rfl | (simp only [zL, zM]; rfl)) ?_; (with_reducible refine (impl_IsWholeRelation.calls k t464 t465 _ _ t466 _ _ t469 t473 _ ?side1 ?side2 ?side3 ?side4 A10.out).mono ?_); (case side1 => refine (Kd.S_reads' (e := 38) (base := w.heap.size) (ok := fun k_ => (True ∧ some k_ ≠ (.slice Ao57 t457.length co57 : Value).ownBlock)) (n := t466.length) (c := co65) ?_).2.2; exact (mS (Kd.S_mono (Kd.S_far (p := ⟨gb472, 3, none⟩) (Kd.S_far (p := ⟨gb472, 2, none⟩) (Kd.S_far (p := ⟨gb472, 1, none⟩) (Kd.S_far (p := ⟨gb472, 0, none⟩) (Kd.S_types HO468.out BK472.out (by decide)) (fun _ hk => hk.2) (.int .i64 t464)) (fun _ hk => hk.2) (.int .i64 t465)) (fun _ hk => hk.2) (.slice Ao65 t466.length co65)) (fun _ hk => hk.2) (.slice Ao66 t469.length co66)) (fun _ h_ => h_.1)))); (case side2 => exact (Kd.S_reads' HO468.out).2.1); (case side3 => refine (zN (e := 4) (base := w.heap.size) (ok := fun k_ => (True ∧ some k_ ≠ (.slice Ao58 t460.length co58 : Value).ownBlock)) (n := t469.length) (c := co66) ?_).2.2; exact (mR (zP (zQ (p := ⟨gb472, 3, none⟩) (zQ (p := ⟨gb472, 2, none⟩) (zQ (p := ⟨gb472, 1, none⟩) (zQ (p := ⟨gb472, 0, none⟩) (zR HO471.out BK472.out (by decide)) (fun _ hk => hk.2) (.int .i64 t464)) (fun _ hk => hk.2) (.int .i64 t465)) (fun _ hk => hk.2) (.slice Ao65 t466.length co65)) (fun _ hk => hk.2) (.slice Ao66 t469.length co66)) (fun _ h_ => h_.1)))); (case side4 => exact (zN HO471.out).2.1); rintro e w67 ⟨rfl, hb⟩; refine ⟨_, rfl, ?_⟩; have n0_ := yA (yL (mS (Kd.S_mono (Kd.S_far (p := ⟨gb472, 3, none⟩) (Kd.S_far (p := ⟨gb472, 2, none⟩) (Kd.S_far (p := ⟨gb472, 1, none⟩) (Kd.S_far (p := ⟨gb472, 0, none⟩) (Kd.S_types HO459.out BK472.out (by decide)) (fun _ hk => hk.2) (.int .i64 t464)) (fun _ hk => hk.2) (.int .i64 t465)) (fun _ hk => hk.2) (.slice Ao65 t466.length co65)) (fun _ hk => hk.2) (.slice Ao66 t469.length co66)) (fun _ h_ => h_.1))) hb); have n1_ := yA (yK (mR (zP (zQ (p := ⟨gb472, 3, none⟩) (zQ (p := ⟨gb472, 2, none⟩) (zQ (p := ⟨gb472, 1, none⟩) (zQ (p := ⟨gb472, 0, none⟩) (zR HO462.out BK472.out (by decide)) (fun _ hk => hk.2) (.int .i64 t464)) (fun _ hk => hk.2) (.int .i64 t465)) (fun _ hk => hk.2) (.slice Ao65 t466.length co65)) (fun _ hk => hk.2) (.slice Ao66 t469.length co66)) (fun _ h_ => h_.1))) hb); have n2_ := yA (yL (mS (Kd.S_mono (Kd.S_far (p := ⟨gb472, 3, none⟩) (Kd.S_far (p := ⟨gb472, 2, none⟩) (Kd.S_far (p := ⟨gb472, 1, none⟩) (Kd.S_far (p := ⟨gb472, 0, none⟩) (Kd.S_types HO468.out BK472.out (by decide)) (fun _ hk => hk.2) (.int .i64 t464)) (fun _ hk => hk.2) (.int .i64 t465)) (fun _ hk => hk.2) (.slice Ao65 t466.length co65)) (fun _ hk => hk.2) (.slice Ao66 t469.length co66)) (fun _ h_ => h_.1))) hb); have n3_ := yA (yK (mR (zP (zQ (p := ⟨gb472, 3, none⟩) (zQ (p := ⟨gb472, 2, none⟩) (zQ (p := ⟨gb472, 1, none⟩) (zQ (p := ⟨gb472, 0, none⟩) (zR HO471.out BK472.out (by decide)) (fun _ hk => hk.2) (.int .i64 t464)) (fun _ hk => hk.2) (.int .i64 t465)) (fun _ hk => hk.2) (.slice Ao65 t466.length co65)) (fun _ hk => hk.2) (.slice Ao66 t469.length co66)) (fun _ h_ => h_.1))) hb); have n4_ := yA (yU (g := gb453) (o := .cells #[.int .i64 a0_0, .int .i64 a0_1, .slice A0_2 l0_2.length c0_2, .slice A0_3 l0_3.length c0_3] 33 (0, 0)) (by (with_reducible repeat (first | refine yS ?_ _ | refine yT ?_ | refine yR ?_ _)); refine blk_far ?_ NB453_472.out _; (with_reducible repeat (first | refine yS ?_ _ | refine yT ?_ | refine yR ?_ _)); refine blk_far ?_ NB453_472.out _; (with_reducible repeat (first | refine yS ?_ _ | refine yT ?_ | refine yR ?_ _)); refine blk_far ?_ NB453_472.out _; (with_reducible repeat (first | refine yS ?_ _ | refine yT ?_ | refine yR ?_ _)); refine blk_far ?_ NB453_472.out _; (with_reducible repeat (first | refine yS ?_ _ | refine yT ?_ | refine yR ?_ _)); exact BK453.out) hb); have n5_ := yA (yU (g := gb472) (o := .cells #[.int .i64 t464, .int .i64 t465, .slice Ao65 t466.length co65, .slice Ao66 t469.length co66] 25 (0, 0)) (by (with_reducible repeat (first | refine yS ?_ _ | refine yT ?_ | refine yR ?_ _)); refine blk_put (cs := #[.int .i64 t464, .int .i64 t465, .slice Ao65 t466.length co65, .slice none 0 0]) ?_ 3 _ rfl; (with_reducible repeat (first | refine yS ?_ _ | refine yT ?_ | refine yR ?_ _)); refine blk_put (cs := #[.int .i64 t464, .int .i64 t465, .slice none 0 0, .slice none 0 0]) ?_ 2 _ rfl; (with_reducible repeat (first | refine yS ?_ _ | refine yT ?_ | refine yR ?_ _)); refine blk_put (cs := #[.int .i64 t464, .int .i64 0, .slice none 0 0, .slice none 0 0]) ?_ 1 _ rfl; (with_reducible repeat (first | refine yS ?_ _ | refine yT ?_ | refine yR ?_ _)); refine blk_put (cs := #[.int .i64 0, .int .i64 0, .slice none 0 0, .slice none 0 0]) ?_ 0 _ rfl; (with_reducible repeat (first | refine yS ?_ _ | refine yT ?_ | refine yR ?_ _)); exact BK472.out) hb); have n6_ := yA (zD (by with_reducible repeat first | exact HB.out | apply yO | apply yN | apply yP | refine yQ ?_ GE453.out | refine yQ ?_ GE472.out) hb); clear HO459; clear HO462; clear HO468; clear HO471; clear BK453; clear BK472; clear HB; have HO459 := n0_; have HO462 := n1_; have HO468 := n2_; have HO471 := n3_; have BK453 := n4_; have BK472 := n5_; have HB := n6_; clear n0_ n1_ n2_ n3_ n4_ n5_ n6_; (try clear hb); (try clear hb2); (try clear hk); (try clear hi)))
    have n0_ := yA (yJ HO459.out)
    have n1_ := yA (yD HO462.out)
    have n2_ := yA (yJ HO468.out)
    have n3_ := yA (yD HO471.out)
    have n4_ := yA (yT BK453.out)
    have n5_ := yA (yT BK472.out)
    have n6_ := yA (yP HB.out)
    clear HO459
    clear HO462
    clear HO468
    clear HO471
    clear BK453
    clear BK472
    clear HB
    have HO459 := n0_
    have HO462 := n1_
    have HO468 := n2_
    have HO471 := n3_
    have BK453 := n4_
    have BK472 := n5_
    have HB := n6_
    clear n0_ n1_ n2_ n3_ n4_ n5_ n6_
    refine start_ (n := 5) (S := fun w' => w'.cell? ⟨gb472, 0, none⟩ = some (.int .i64 t464) ∧ w'.cell? ⟨gb472, 1, none⟩ = some (.int .i64 t465) ∧ w'.cell? ⟨gb472, 2, none⟩ = some (.slice Ao65 t466.length co65) ∧ w'.cell? ⟨gb472, 3, none⟩ = some (.slice Ao66 t469.length co66) ∧ w'.cell? ⟨gb453, 0, none⟩ = some (.int .i64 a0_0) ∧ w'.cell? ⟨gb453, 1, none⟩ = some (.int .i64 a0_1) ∧ w'.cell? ⟨gb453, 2, none⟩ = some (.slice A0_2 l0_2.length c0_2) ∧ w'.cell? ⟨gb453, 3, none⟩ = some (.slice A0_3 l0_3.length c0_3)) (ds := []) #[false, false, false, false, false] (by kernel_rfl) rfl rfl ⟨(yV BK472.out 0).trans rfl, (yV BK472.out 1).trans rfl, (yV BK472.out 2).trans rfl, (yV BK472.out 3).trans rfl, (yV BK453.out 0).trans rfl, (yV BK453.out 1).trans rfl, (yV BK453.out 2).trans rfl, (yV BK453.out 3).trans rfl⟩ (fun hHeld => ?_)
    generalize w67.drew = w68 at HO459 HO462 HO468 HO471 BK453 BK472 HB hHeld ⊢
    refine take_ (i := 0) (N := some 22) (v := ?_) (a' := ?_) #[true, false, false, false, false] rfl rfl (by kernel_rfl) (fun _ _ _ h => h) (Or.inl ⟨by rfl, ?_⟩) hHeld ?_ ?_
    rotate_left
    ·rintro w' ⟨s0, s1, s2, s3, s4, s5, s6, s7⟩
     go_simp
     with_reducible rfl
    rotate_left
    ·simp only [Act.put, zA, zB, zC, i64_w, i32_w]
     rfl
    refine take_ (i := 1) (N := some 23) (v := ?_) (a' := ?_) #[true, true, false, false, false] rfl rfl (by kernel_rfl) (fun _ _ _ h => h) (Or.inl ⟨by rfl, ?_⟩) hHeld ?_ ?_
    rotate_left
    ·rintro w' ⟨s0, s1, s2, s3, s4, s5, s6, s7⟩
     go_simp
     with_reducible rfl
    rotate_left
    ·simp only [Act.put, zA, zB, zC, i64_w, i32_w]
     rfl
    refine one_ (i := 2) (N := some 24) #[true, true, true, false, false] rfl rfl (by kernel_rfl) (by decide) (fun K hK => ?_)
    refine goes_ Try.func24 (by kernel_rfl) rfl #[.agg #[.int .i64 a0_0, .int .i64 a0_1, .slice A0_2 l0_2.length c0_2, .slice A0_3 l0_3.length c0_3]] (by rfl) rfl rfl (by (try simp only [zI, zJ, zK]); first | done | rfl | (simp only [zL, zM]; rfl)) ?_
    with_reducible refine (laws_toRelation.calls k a0_0 a0_1 _ _ l0_2 _ _ l0_3 t474 t475 t476 t479 _ ?side1 ?side2 ?side3 ?side4 A28.out).mono ?_
    (case side1 => exact mC (yM HR0_2.out HB.out))
    (case side2 => exact HC0_2.out)
    (case side3 => exact mC (yM HR0_3.out HB.out))
    (case side4 => exact HC0_3.out)
    rintro e w69 ⟨v477, v480, rfl, ho0, ho1, hb⟩
    refine ⟨_, rfl, ?_⟩
    have n0_ := yA (Kd.S_elder' (mS HO459.out) (Kd.S_base ho0) hb)
    have n1_ := yA (zO (mR HO462.out) (yY ho1) hb)
    have n2_ := yA (Kd.S_elder' (mS HO468.out) (Kd.S_base ho0) hb)
    have n3_ := yA (zO (mR HO471.out) (yY ho1) hb)
    have n4_ := yA (Kd.S_lower (Kd.S_new' (Kd.S_new' ho0 (Kd.S_lt (mS HO459.out))) (Kd.S_lt (mS HO468.out))) (yX (by with_reducible repeat first | exact HB.out | apply yO | apply yN | apply yP | refine yQ ?_ GE453.out | refine yQ ?_ GE472.out)))
    have n5_ := yA (Kd.R_lower (Kd.R_new' (Kd.R_new' ho1 (yZ (mR HO462.out))) (yZ (mR HO471.out))) (yX (by with_reducible repeat first | exact HB.out | apply yO | apply yN | apply yP | refine yQ ?_ GE453.out | refine yQ ?_ GE472.out)))
    have n6_ := yA (yU (mK BK453.out) hb)
    have n7_ := yA (yU (mK BK472.out) hb)
    have n8_ := yA (zD (by with_reducible repeat first | exact HB.out | apply yO | apply yN | apply yP | refine yQ ?_ GE453.out | refine yQ ?_ GE472.out) hb)
    clear HO459
    clear HO462
    clear HO468
    clear HO471
    clear BK453
    clear BK472
    clear HB
    have HO459 := n0_
    have HO462 := n1_
    have HO468 := n2_
    have HO471 := n3_
    have HO478 := n4_
    have HO481 := n5_
    have BK453 := n6_
    have BK472 := n7_
    have HB := n8_
    clear n0_ n1_ n2_ n3_ n4_ n5_ n6_ n7_ n8_
    (try clear hb)
    (try clear hb2)
    (try clear hk)
    (try clear hi)
    (try clear ho0)
    (try clear ho1)
    obtain ⟨Ao70, co70, eo70⟩ := Kd.S_slice HO478.out
    (first | subst eo70 | (injection eo70 with f1_ f2_ f3_; have f4_ := f1_.symm; have f5_ := f3_.symm; clear f1_ f2_ f3_; subst f4_; subst f5_))
    obtain ⟨Ao71, co71, eo71⟩ := Kd.R_slice HO481.out
    (first | subst eo71 | (injection eo71 with f1_ f2_ f3_; have f4_ := f1_.symm; have f5_ := f3_.symm; clear f1_ f2_ f3_; subst f4_; subst f5_))
    refine hK.out _ _ ⟨(yV BK472.out 0).trans rfl, (yV BK472.out 1).trans rfl, (yV BK472.out 2).trans rfl, (yV BK472.out 3).trans rfl, (yV BK453.out 0).trans rfl, (yV BK453.out 1).trans rfl, (yV BK453.out 2).trans rfl, (yV BK453.out 3).trans rfl⟩ (fun hHeld => ?_)
    clear hK K
    refine norm_ (a' := ?_) ?_ ?_
    rotate_left
    ·show Act.put _ (some 24) _ = _
     simp only [Act.put, zA, zB, zC, i64_w, i32_w]
     rfl
    refine one_ (i := 3) (N := some 25) #[true, true, true, true, false] rfl rfl (by kernel_rfl) (by decide) (fun K hK => ?_)
    refine goes_ Try.func17 (by kernel_rfl) rfl #[.agg #[.int .i64 t464, .int .i64 t465, .slice Ao65 t466.length co65, .slice Ao66 t469.length co66], .agg #[.int .i64 t474, .int .i64 t475, .slice Ao70 t476.length co70, .slice Ao71 t479.length co71]] (by rfl) rfl rfl (by (try simp only [zI, zJ, zK]); first | done | rfl | (simp only [zL, zM]; rfl)) ?_
    with_reducible refine (laws_eqRelation.calls k t464 t465 _ _ t466 _ _ t469 t474 t475 _ _ t476 _ _ t479 false _ ?side1 ?side2 ?side3 ?side4 ?side5 ?side6 ?side7 ?side8 A29.out).mono ?_
    (case side1 => exact mC ((Kd.S_reads' HO468.out).2.2))
    (case side2 => exact (Kd.S_reads' HO468.out).2.1)
    (case side3 => exact mC ((zN HO471.out).2.2))
    (case side4 => exact (zN HO471.out).2.1)
    (case side5 => exact mC ((Kd.S_reads' HO478.out).2.2))
    (case side6 => exact (Kd.S_reads' HO478.out).2.1)
    (case side7 => exact mC ((zN HO481.out).2.2))
    (case side8 => exact (zN HO481.out).2.1)
    rintro e w72 ⟨rfl, hb⟩
    refine ⟨_, rfl, ?_⟩
    have n0_ := yA (yL (mS HO459.out) hb)
    have n1_ := yA (yK (mR HO462.out) hb)
    have n2_ := yA (yL (mS HO468.out) hb)
    have n3_ := yA (yK (mR HO471.out) hb)
    have n4_ := yA (yL (mS HO478.out) hb)
    have n5_ := yA (yK (mR HO481.out) hb)
    have n6_ := yA (yU (mK BK453.out) hb)
    have n7_ := yA (yU (mK BK472.out) hb)
    have n8_ := yA (zD (by with_reducible repeat first | exact HB.out | apply yO | apply yN | apply yP | refine yQ ?_ GE453.out | refine yQ ?_ GE472.out) hb)
    clear HO459
    clear HO462
    clear HO468
    clear HO471
    clear HO478
    clear HO481
    clear BK453
    clear BK472
    clear HB
    have HO459 := n0_
    have HO462 := n1_
    have HO468 := n2_
    have HO471 := n3_
    have HO478 := n4_
    have HO481 := n5_
    have BK453 := n6_
    have BK472 := n7_
    have HB := n8_
    clear n0_ n1_ n2_ n3_ n4_ n5_ n6_ n7_ n8_
    (try clear hb)
    (try clear hb2)
    (try clear hk)
    (try clear hi)
    refine hK.out _ _ ⟨(yV BK472.out 0).trans rfl, (yV BK472.out 1).trans rfl, (yV BK472.out 2).trans rfl, (yV BK472.out 3).trans rfl, (yV BK453.out 0).trans rfl, (yV BK453.out 1).trans rfl, (yV BK453.out 2).trans rfl, (yV BK453.out 3).trans rfl⟩ (fun hHeld => ?_)
    clear hK K
    refine norm_ (a' := ?_) ?_ ?_
    rotate_left
    ·show Act.put _ (some 25) _ = _
     simp only [Act.put, zA, zB, zC, i64_w, i32_w]
     rfl
    refine pure_ (i := 4) (N := some 26) (v := ?_) (a' := ?_) #[true, true, true, true, true] rfl rfl (by kernel_rfl) (fun _ _ _ h => h) (Or.inl ⟨by rfl, ?_⟩) ?_ ?_
    rotate_left
    ·intro w'
     go_simp
     with_reducible rfl
    rotate_left
    ·simp only [Act.put, zA, zB, zC, i64_w, i32_w]
     rfl
    refine done_ (by kernel_rfl) ?_
    try go_wp2
    go_ret
    exact ⟨by first | rfl | (simp [errW_none, errW_some] <;> rfl) | (simp [*, errW_none, errW_some] <;> rfl), by repeat (first | (with_reducible first | exact HB.out | apply yO | apply yN | apply yP | refine yQ ?_ GE453.out | refine yQ ?_ GE472.out) | exact HB.out)⟩

end Go.Proofs.Ytgopcliohchkmaa.Q
