-- written by a program of this session (a turned copy of the kit's print) out of the translation
-- squeezed
-- compact
import Derived.Test.YtgopcliohchkmaaQ0
import Derived.Test.YtgopcliohchkmaaQ10
import Derived.Test.YtgopcliohchkmaaQ28
import Derived.Test.YtgopcliohchkmaaQ36
import Derived.Test.YtgopcliohchkmaaQ40
import Derived.Test.YtgopcliohchkmaaQ44
namespace Go.Proofs.Ytgopcliohchkmaa.Q
open Go.RowKit Go.Proofs.YtgopcliohchkmaaW.PrintWords Go.Proofs.YtgopcliohchkmaaW.PrintLast Go.Proofs.YtgopcliohchkmaaW.PrintMore
attribute [local go_sem] max2_int min2_int max_two min_two max_three min_three max_four min_four   -- for this text's walks alone
set_option linter.unusedVariables false
set_option linter.unusedSimpArgs false

/-! ### laws_FnExactIsEmptyRelation: function 5 -/
def laws_FnExactIsEmptyRelation.f (k : Nat) (a0_0 : Int) (a0_1 : Int) (l0_2 : List (List Int)) (l0_3 : List Bool) : Option (Bool) := (laws_szRelation.f k a0_0 a0_1 l0_2 l0_3 1048576).bind fun t409 => (if t409 < 0 then (some true) else ((laws_toRelation.f k a0_0 a0_1 l0_2 l0_3).bind fun bt410 => ((spec_IsEmptyRelation.f k bt410.1 bt410.2.1 bt410.2.2.1 bt410.2.2.2).bind fun t418 => ((laws_toRelation.f k a0_0 a0_1 l0_2 l0_3).bind fun bt419 => ((impl_IsEmptyRelation.f k bt419.1 bt419.2.1 bt419.2.2.1 bt419.2.2.2).bind fun t428 => (if (t428 != t418) = true then (some false) else ((laws_toRelation.f k a0_0 a0_1 l0_2 l0_3).bind fun bt429 => ((laws_eqRelation.f k bt419.1 bt419.2.1 bt419.2.2.1 bt419.2.2.2 bt429.1 bt429.2.1 bt429.2.2.1 bt429.2.2.2).bind fun t437 => (if t437 = true then (some true) else (some false))))))))))
theorem laws_FnExactIsEmptyRelation.mono : ∀ a0 a1 a2 a3 k, LeO (laws_FnExactIsEmptyRelation.f k a0 a1 a2 a3) (laws_FnExactIsEmptyRelation.f (k + 1) a0 a1 a2 a3) := by
 intro a0 a1 a2 a3 k
 unfold laws_FnExactIsEmptyRelation.f
 repeat' first
   | (with_reducible exact impl_IsEmptyRelation.mono _ _ _ _ _)
   | (with_reducible exact laws_eqRelation.mono _ _ _ _ _ _ _ _ _)
   | (with_reducible exact laws_szRelation.mono _ _ _ _ _ _)
   | (with_reducible exact laws_toRelation.mono _ _ _ _ _)
   | (with_reducible exact spec_IsEmptyRelation.mono _ _ _ _ _)
   | (with_reducible exact LeO.refl _)
   | (with_reducible exact LeO.none _)
   | (with_reducible refine LeO.ite ?_ ?_)
   | (with_reducible refine LeO.bind ?_ (fun _ => ?_))
   | exact impl_IsEmptyRelation.mono _ _ _ _ _
   | exact laws_eqRelation.mono _ _ _ _ _ _ _ _ _
   | exact laws_szRelation.mono _ _ _ _ _ _
   | exact laws_toRelation.mono _ _ _ _ _
   | exact spec_IsEmptyRelation.mono _ _ _ _ _
   | exact LeO.none _
   | refine LeO.ite ?_ ?_
   | refine LeO.bind ?_ (fun _ => ?_)
set_option maxHeartbeats 8000000 in
set_option maxRecDepth 100000 in
theorem laws_FnExactIsEmptyRelation.calls (k : Nat) (a0_0 : Int) (a0_1 : Int) (A0_2 : Option Addr) (c0_2 : Nat) (l0_2 : List (List Int)) (A0_3 : Option Addr) (c0_3 : Nat) (l0_3 : List Bool) (r : Bool) (w : World) (hr0_2 : Kd.C (Kd.slice 3 (Kd.int .i64)) w A0_2 l0_2.length l0_2) (hc0_2 : l0_2.length ≤ c0_2) (hr0_3 : Kd.C Kd.bool w A0_3 l0_3.length l0_3) (hc0_3 : l0_3.length ≤ c0_3) (h : laws_FnExactIsEmptyRelation.f k a0_0 a0_1 l0_2 l0_3 = some r) :
  Calls Try.prog 5 #[.agg #[.int .i64 a0_0, .int .i64 a0_1, .slice A0_2 l0_2.length c0_2, .slice A0_3 l0_3.length c0_3]] w fun e w' => e = .returned (.bool r) ∧ Below w.heap.size w w' := by
 have hu33 := Try.underlying33
 have hu25 := Try.underlying25
 have HR0_2 := yA hr0_2
 have HC0_2 := yA hc0_2
 clear hr0_2 hc0_2
 have HR0_3 := yA hr0_3
 have HC0_3 := yA hc0_3
 clear hr0_3 hc0_3
 have HB := yA (zV w.heap.size w)
 have H : ((laws_szRelation.f k a0_0 a0_1 l0_2 l0_3 1048576).bind fun t409 => (if t409 < 0 then (some true) else ((laws_toRelation.f k a0_0 a0_1 l0_2 l0_3).bind fun bt410 => ((spec_IsEmptyRelation.f k bt410.1 bt410.2.1 bt410.2.2.1 bt410.2.2.2).bind fun t418 => ((laws_toRelation.f k a0_0 a0_1 l0_2 l0_3).bind fun bt419 => ((impl_IsEmptyRelation.f k bt419.1 bt419.2.1 bt419.2.2.1 bt419.2.2.2).bind fun t428 => (if (t428 != t418) = true then (some false) else ((laws_toRelation.f k a0_0 a0_1 l0_2 l0_3).bind fun bt429 => ((laws_eqRelation.f k bt419.1 bt419.2.1 bt419.2.2.1 bt419.2.2.2 bt429.1 bt429.2.1 bt429.2.2.1 bt429.2.2.2).bind fun t437 => (if t437 = true then (some true) else (some false))))))))))) = some r := h
 clear h
 replace H := Option.bind_eq_some_iff.mp H
 obtain ⟨t409, A20, H⟩ := H
 replace H : (if t409 < 0 then (some true) else ((laws_toRelation.f k a0_0 a0_1 l0_2 l0_3).bind fun bt410 => ((spec_IsEmptyRelation.f k bt410.1 bt410.2.1 bt410.2.2.1 bt410.2.2.2).bind fun t418 => ((laws_toRelation.f k a0_0 a0_1 l0_2 l0_3).bind fun bt419 => ((impl_IsEmptyRelation.f k bt419.1 bt419.2.1 bt419.2.2.1 bt419.2.2.2).bind fun t428 => (if (t428 != t418) = true then (some false) else ((laws_toRelation.f k a0_0 a0_1 l0_2 l0_3).bind fun bt429 => ((laws_eqRelation.f k bt419.1 bt419.2.1 bt419.2.2.1 bt419.2.2.2 bt429.1 bt429.2.1 bt429.2.2.1 bt429.2.2.2).bind fun t437 => (if t437 = true then (some true) else (some false)))))))))) = some r := H
 have A2 := yA A20
 clear A20
 by_cases c3 : t409 < 0
 ·rw [if_pos c3] at H
  have c3b0 : decide (t409 < 0) = true := zH c3
  clear c3
  obtain rfl := zU H
  go_enter Try.func5, Try.ntmps5
  go_wp2_with (first | ((with_reducible refine gate_dst (N := 1) rfl ?_); refine box_event ?hg (N := 1) ?hd (cs := #[.int .i64 a0_0, .int .i64 a0_1, .slice A0_2 l0_2.length c0_2, .slice A0_3 l0_3.length c0_3]) (t := 33) ?hr ?_; (case hd => rfl); (case hg => rfl); (case hr => first | (go_simp; done) | (go_simp; rfl)); intro gb408 hg w4 hbox hb; have n0_ := yA (zD (mB HB.out) hb); have n1_ := yA (hbox); have n2_ := yA ((by rw [hg]; exact (yX (mB HB.out)) : w.heap.size ≤ gb408)); have n3_ := yA ((by rw [hg]; exact (yX (mB HB.out)) : w.heap.size ≤ gb408)); clear HB; have HB := n0_; have BK408 := n1_; have GW408 := n2_; have GE408 := n3_; clear n0_ n1_ n2_ n3_; clear hb hbox hg; have hcz5_0 : w4.cell? ⟨gb408, 0, none⟩ = some (.int .i64 a0_0) := (yV BK408.out 0).trans rfl; have hcz5_1 : w4.cell? ⟨gb408, 1, none⟩ = some (.int .i64 a0_1) := (yV BK408.out 1).trans rfl; have hcz5_2 : w4.cell? ⟨gb408, 2, none⟩ = some (.slice A0_2 l0_2.length c0_2) := (yV BK408.out 2).trans rfl; have hcz5_3 : w4.cell? ⟨gb408, 3, none⟩ = some (.slice A0_3 l0_3.length c0_3) := (yV BK408.out 3).trans rfl; have hfz5_0 := yW BK408.out 0; have hfz5_1 := yW BK408.out 1; have hfz5_2 := yW BK408.out 2; have hfz5_3 := yW BK408.out 3) | ((with_reducible refine zS (f := 22) rfl ?_); refine goesL_ (some 9) rfl rfl Try.func22 (by kernel_rfl) rfl #[.agg #[.int .i64 a0_0, .int .i64 a0_1, .slice A0_2 l0_2.length c0_2, .slice A0_3 l0_3.length c0_3], .int .i64 1048576] rfl (by (try simp only [zI, zJ, zK]); first | done | rfl | (simp only [zL, zM]; rfl)) ?_; (with_reducible refine (laws_szRelation.calls k a0_0 a0_1 _ _ l0_2 _ _ l0_3 1048576 t409 _ ?side1 ?side2 ?side3 ?side4 A2.out).mono ?_); (case side1 => exact mC (yM HR0_2.out HB.out)); (case side2 => exact HC0_2.out); (case side3 => exact mC (yM HR0_3.out HB.out)); (case side4 => exact HC0_3.out); rintro e w6 ⟨rfl, hb⟩; refine ⟨_, rfl, ?_⟩; have n0_ := yA (yU (mK BK408.out) hb); have n1_ := yA (zD (by with_reducible repeat first | exact HB.out | apply yO | apply yN | apply yP | refine yQ ?_ GE408.out) hb); clear BK408; clear HB; have BK408 := n0_; have HB := n1_; clear n0_ n1_; (try clear hb); (try clear hb2); (try clear hk); (try clear hi)))
  go_ret
  exact ⟨by first | rfl | (simp [errW_none, errW_some] <;> rfl) | (simp [*, errW_none, errW_some] <;> rfl), by repeat (first | (with_reducible first | exact HB.out | apply yO | apply yN | apply yP | refine yQ ?_ GE408.out) | exact HB.out)⟩
 ·rw [if_neg c3] at H
  have c3b0 : decide (t409 < 0) = false := decide_eq_false c3
  clear c3
  replace H := Option.bind_eq_some_iff.mp H
  obtain ⟨⟨t410, t411, t412, t415⟩, A70, H⟩ := H
  replace H : ((spec_IsEmptyRelation.f k t410 t411 t412 t415).bind fun t418 => ((laws_toRelation.f k a0_0 a0_1 l0_2 l0_3).bind fun bt419 => ((impl_IsEmptyRelation.f k bt419.1 bt419.2.1 bt419.2.2.1 bt419.2.2.2).bind fun t428 => (if (t428 != t418) = true then (some false) else ((laws_toRelation.f k a0_0 a0_1 l0_2 l0_3).bind fun bt429 => ((laws_eqRelation.f k bt419.1 bt419.2.1 bt419.2.2.1 bt419.2.2.2 bt429.1 bt429.2.1 bt429.2.2.1 bt429.2.2.2).bind fun t437 => (if t437 = true then (some true) else (some false)))))))) = some r := H
  have A7 := yA A70
  clear A70
  replace H := Option.bind_eq_some_iff.mp H
  obtain ⟨t418, A80, H⟩ := H
  replace H : ((laws_toRelation.f k a0_0 a0_1 l0_2 l0_3).bind fun bt419 => ((impl_IsEmptyRelation.f k bt419.1 bt419.2.1 bt419.2.2.1 bt419.2.2.2).bind fun t428 => (if (t428 != t418) = true then (some false) else ((laws_toRelation.f k a0_0 a0_1 l0_2 l0_3).bind fun bt429 => ((laws_eqRelation.f k bt419.1 bt419.2.1 bt419.2.2.1 bt419.2.2.2 bt429.1 bt429.2.1 bt429.2.2.1 bt429.2.2.2).bind fun t437 => (if t437 = true then (some true) else (some false))))))) = some r := H
  have A8 := yA A80
  clear A80
  replace H := Option.bind_eq_some_iff.mp H
  obtain ⟨⟨t419, t420, t421, t424⟩, A90, H⟩ := H
  replace H : ((impl_IsEmptyRelation.f k t419 t420 t421 t424).bind fun t428 => (if (t428 != t418) = true then (some false) else ((laws_toRelation.f k a0_0 a0_1 l0_2 l0_3).bind fun bt429 => ((laws_eqRelation.f k t419 t420 t421 t424 bt429.1 bt429.2.1 bt429.2.2.1 bt429.2.2.2).bind fun t437 => (if t437 = true then (some true) else (some false)))))) = some r := H
  have A9 := yA A90
  clear A90
  replace H := Option.bind_eq_some_iff.mp H
  obtain ⟨t428, A100, H⟩ := H
  replace H : (if (t428 != t418) = true then (some false) else ((laws_toRelation.f k a0_0 a0_1 l0_2 l0_3).bind fun bt429 => ((laws_eqRelation.f k t419 t420 t421 t424 bt429.1 bt429.2.1 bt429.2.2.1 bt429.2.2.2).bind fun t437 => (if t437 = true then (some true) else (some false))))) = some r := H
  have A10 := yA A100
  clear A100
  by_cases c11 : (t428 != t418) = true
  ·rw [if_pos c11] at H
   have c11b0 : (t428 != t418) = true := c11
   (try (have c11b1 : decide (t428 = t418) = false := by simpa using c11))
   (try (have c11b2 : (t428 == t418) = false := by simpa using c11))
   (try (have c11b3 : ¬ (t428 = t418) := by simpa using c11))
   clear c11
   obtain rfl := zU H
   go_enter Try.func5, Try.ntmps5
   go_wp2_with (first | ((with_reducible refine gate_dst (N := 1) rfl ?_); refine box_event ?hg (N := 1) ?hd (cs := #[.int .i64 a0_0, .int .i64 a0_1, .slice A0_2 l0_2.length c0_2, .slice A0_3 l0_3.length c0_3]) (t := 33) ?hr ?_; (case hd => rfl); (case hg => rfl); (case hr => first | (go_simp; done) | (go_simp; rfl)); intro gb408 hg w12 hbox hb; have n0_ := yA (zD (mB HB.out) hb); have n1_ := yA (hbox); have n2_ := yA ((by rw [hg]; exact (yX (mB HB.out)) : w.heap.size ≤ gb408)); have n3_ := yA ((by rw [hg]; exact (yX (mB HB.out)) : w.heap.size ≤ gb408)); clear HB; have HB := n0_; have BK408 := n1_; have GW408 := n2_; have GE408 := n3_; clear n0_ n1_ n2_ n3_; clear hb hbox hg; have hcz13_0 : w12.cell? ⟨gb408, 0, none⟩ = some (.int .i64 a0_0) := (yV BK408.out 0).trans rfl; have hcz13_1 : w12.cell? ⟨gb408, 1, none⟩ = some (.int .i64 a0_1) := (yV BK408.out 1).trans rfl; have hcz13_2 : w12.cell? ⟨gb408, 2, none⟩ = some (.slice A0_2 l0_2.length c0_2) := (yV BK408.out 2).trans rfl; have hcz13_3 : w12.cell? ⟨gb408, 3, none⟩ = some (.slice A0_3 l0_3.length c0_3) := (yV BK408.out 3).trans rfl; have hfz13_0 := yW BK408.out 0; have hfz13_1 := yW BK408.out 1; have hfz13_2 := yW BK408.out 2; have hfz13_3 := yW BK408.out 3) | ((with_reducible refine zS (f := 22) rfl ?_); refine goesL_ (some 9) rfl rfl Try.func22 (by kernel_rfl) rfl #[.agg #[.int .i64 a0_0, .int .i64 a0_1, .slice A0_2 l0_2.length c0_2, .slice A0_3 l0_3.length c0_3], .int .i64 1048576] rfl (by (try simp only [zI, zJ, zK]); first | done | rfl | (simp only [zL, zM]; rfl)) ?_; (with_reducible refine (laws_szRelation.calls k a0_0 a0_1 _ _ l0_2 _ _ l0_3 1048576 t409 _ ?side1 ?side2 ?side3 ?side4 A2.out).mono ?_); (case side1 => exact mC (yM HR0_2.out HB.out)); (case side2 => exact HC0_2.out); (case side3 => exact mC (yM HR0_3.out HB.out)); (case side4 => exact HC0_3.out); rintro e w14 ⟨rfl, hb⟩; refine ⟨_, rfl, ?_⟩; have n0_ := yA (yU (mK BK408.out) hb); have n1_ := yA (zD (by with_reducible repeat first | exact HB.out | apply yO | apply yN | apply yP | refine yQ ?_ GE408.out) hb); clear BK408; clear HB; have BK408 := n0_; have HB := n1_; clear n0_ n1_; (try clear hb); (try clear hb2); (try clear hk); (try clear hi); have hcz15_0 : w14.cell? ⟨gb408, 0, none⟩ = some (.int .i64 a0_0) := (yV BK408.out 0).trans rfl; have hcz15_1 : w14.cell? ⟨gb408, 1, none⟩ = some (.int .i64 a0_1) := (yV BK408.out 1).trans rfl; have hcz15_2 : w14.cell? ⟨gb408, 2, none⟩ = some (.slice A0_2 l0_2.length c0_2) := (yV BK408.out 2).trans rfl; have hcz15_3 : w14.cell? ⟨gb408, 3, none⟩ = some (.slice A0_3 l0_3.length c0_3) := (yV BK408.out 3).trans rfl; have hfz15_0 := yW BK408.out 0; have hfz15_1 := yW BK408.out 1; have hfz15_2 := yW BK408.out 2; have hfz15_3 := yW BK408.out 3) | ((with_reducible refine zS (f := 24) rfl ?_); refine goesL_ (some 13) rfl rfl Try.func24 (by kernel_rfl) rfl #[.agg #[.int .i64 a0_0, .int .i64 a0_1, .slice A0_2 l0_2.length c0_2, .slice A0_3 l0_3.length c0_3]] rfl (by (try simp only [zI, zJ, zK]); first | done | rfl | (simp only [zL, zM]; rfl)) ?_; (with_reducible refine (laws_toRelation.calls k a0_0 a0_1 _ _ l0_2 _ _ l0_3 t410 t411 t412 t415 _ ?side1 ?side2 ?side3 ?side4 A7.out).mono ?_); (case side1 => exact mC (yM HR0_2.out HB.out)); (case side2 => exact HC0_2.out); (case side3 => exact mC (yM HR0_3.out HB.out)); (case side4 => exact HC0_3.out); rintro e w16 ⟨v413, v416, rfl, ho0, ho1, hb⟩; refine ⟨_, rfl, ?_⟩; have n0_ := yA (Kd.S_lower ho0 (yX (by with_reducible repeat first | exact HB.out | apply yO | apply yN | apply yP | refine yQ ?_ GE408.out))); have n1_ := yA (Kd.R_lower ho1 (yX (by with_reducible repeat first | exact HB.out | apply yO | apply yN | apply yP | refine yQ ?_ GE408.out))); have n2_ := yA (yU (mK BK408.out) hb); have n3_ := yA (zD (by with_reducible repeat first | exact HB.out | apply yO | apply yN | apply yP | refine yQ ?_ GE408.out) hb); clear BK408; clear HB; have HO414 := n0_; have HO417 := n1_; have BK408 := n2_; have HB := n3_; clear n0_ n1_ n2_ n3_; (try clear hb); (try clear hb2); (try clear hk); (try clear hi); (try clear ho0); (try clear ho1); obtain ⟨Ao17, co17, eo17⟩ := Kd.S_slice HO414.out; subst eo17; obtain ⟨Ao18, co18, eo18⟩ := Kd.R_slice HO417.out; subst eo18) | ((with_reducible refine zS (f := 23) rfl ?_); refine goesL_ (some 14) rfl rfl Try.func23 (by kernel_rfl) rfl #[.agg #[.int .i64 t410, .int .i64 t411, .slice Ao17 t412.length co17, .slice Ao18 t415.length co18]] rfl (by (try simp only [zI, zJ, zK]); first | done | rfl | (simp only [zL, zM]; rfl)) ?_; (with_reducible refine (spec_IsEmptyRelation.calls k t410 t411 _ _ t412 _ _ t415 t418 _ ?side1 ?side2 ?side3 ?side4 A8.out).mono ?_); (case side1 => exact mC ((Kd.S_reads' HO414.out).2.2)); (case side2 => exact (Kd.S_reads' HO414.out).2.1); (case side3 => exact mC ((zN HO417.out).2.2)); (case side4 => exact (zN HO417.out).2.1); rintro e w19 ⟨rfl, hb⟩; refine ⟨_, rfl, ?_⟩; have n0_ := yA (yL (mS HO414.out) hb); have n1_ := yA (yK (mR HO417.out) hb); have n2_ := yA (yU (mK BK408.out) hb); have n3_ := yA (zD (by with_reducible repeat first | exact HB.out | apply yO | apply yN | apply yP | refine yQ ?_ GE408.out) hb); clear HO414; clear HO417; clear BK408; clear HB; have HO414 := n0_; have HO417 := n1_; have BK408 := n2_; have HB := n3_; clear n0_ n1_ n2_ n3_; (try clear hb); (try clear hb2); (try clear hk); (try clear hi); have hcz20_0 : w19.cell? ⟨gb408, 0, none⟩ = some (.int .i64 a0_0) := (yV BK408.out 0).trans rfl; have hcz20_1 : w19.cell? ⟨gb408, 1, none⟩ = some (.int .i64 a0_1) := (yV BK408.out 1).trans rfl; have hcz20_2 : w19.cell? ⟨gb408, 2, none⟩ = some (.slice A0_2 l0_2.length c0_2) := (yV BK408.out 2).trans rfl; have hcz20_3 : w19.cell? ⟨gb408, 3, none⟩ = some (.slice A0_3 l0_3.length c0_3) := (yV BK408.out 3).trans rfl; have hfz20_0 := yW BK408.out 0; have hfz20_1 := yW BK408.out 1; have hfz20_2 := yW BK408.out 2; have hfz20_3 := yW BK408.out 3) | ((with_reducible refine zS (f := 24) rfl ?_); refine goesL_ (some 16) rfl rfl Try.func24 (by kernel_rfl) rfl #[.agg #[.int .i64 a0_0, .int .i64 a0_1, .slice A0_2 l0_2.length c0_2, .slice A0_3 l0_3.length c0_3]] rfl (by (try simp only [zI, zJ, zK]); first | done | rfl | (simp only [zL, zM]; rfl)) ?_; (with_reducible refine (laws_toRelation.calls k a0_0 a0_1 _ _ l0_2 _ _ l0_3 t419 t420 t421 t424 _ ?side1 ?side2 ?side3 ?side4 A9.out).mono ?_); (case side1 => exact mC (yM HR0_2.out HB.out)); (case side2 => exact HC0_2.out); (case side3 => exact mC (yM HR0_3.out HB.out)); (case side4 => exact HC0_3.out); rintro e w21 ⟨v422, v425, rfl, ho0, ho1, hb⟩; refine ⟨_, rfl, ?_⟩; have n0_ := yA (Kd.S_elder' (mS HO414.out) (Kd.S_base ho0) hb); have n1_ := yA (zO (mR HO417.out) (yY ho1) hb); have n2_ := yA (Kd.S_lower (Kd.S_new' ho0 (Kd.S_lt (mS HO414.out))) (yX (by with_reducible repeat first | exact HB.out | apply yO | apply yN | apply yP | refine yQ ?_ GE408.out))); have n3_ := yA (Kd.R_lower (Kd.R_new' ho1 (yZ (mR HO417.out))) (yX (by with_reducible repeat first | exact HB.out | apply yO | apply yN | apply yP | refine yQ ?_ GE408.out))); have n4_ := yA (yU (mK BK408.out) hb); have n5_ := yA (zD (by with_reducible repeat first | exact HB.out | apply yO | apply yN | apply yP | refine yQ ?_ GE408.out) hb); clear HO414; clear HO417; clear BK408; clear HB; have HO414 := n0_; have HO417 := n1_; have HO423 := n2_; have HO426 := n3_; have BK408 := n4_; have HB := n5_; clear n0_ n1_ n2_ n3_ n4_ n5_; (try clear hb); (try clear hb2); (try clear hk); (try clear hi); (try clear ho0); (try clear ho1)) | ((with_reducible refine gate_dst (N := 5) rfl ?_); refine box_event ?hg (N := 5) ?hd (cs := #[.int .i64 0, .int .i64 0, .slice none 0 0, .slice none 0 0]) (t := 25) ?hr ?_; (case hd => rfl); (case hg => rfl); (case hr => first | (go_simp; done) | (go_simp; rfl)); intro gb427 hg w22 hbox hb; have n0_ := yA (yL (mS HO414.out) hb); have n1_ := yA (yK (mR HO417.out) hb); have n2_ := yA (yL (mS HO423.out) hb); have n3_ := yA (yK (mR HO426.out) hb); have n4_ := yA (yU (mK BK408.out) hb); have n5_ := yA (zD (by with_reducible repeat first | exact HB.out | apply yO | apply yN | apply yP | refine yQ ?_ GE408.out) hb); have n6_ := yA (hbox); have n7_ := yA ((by rw [hg]; exact (yX (by with_reducible repeat first | exact HB.out | apply yO | apply yN | apply yP | refine yQ ?_ GE408.out)) : w.heap.size ≤ gb427)); have n8_ := yA ((by rw [hg]; exact (yX (by with_reducible repeat first | exact HB.out | apply yO | apply yN | apply yP | refine yQ ?_ GE408.out)) : w.heap.size ≤ gb427)); have n9_ := yA ((by rw [hg]; exact Nat.ne_of_lt (zX (mK BK408.out)) : gb408 ≠ gb427)); have n10_ := yA ((by rw [hg]; exact Nat.ne_of_gt (zX (mK BK408.out)) : gb427 ≠ gb408)); clear HO414; clear HO417; clear HO423; clear HO426; clear BK408; clear HB; have HO414 := n0_; have HO417 := n1_; have HO423 := n2_; have HO426 := n3_; have BK408 := n4_; have HB := n5_; have BK427 := n6_; have GW427 := n7_; have GE427 := n8_; have NB408_427 := n9_; have NB427_408 := n10_; clear n0_ n1_ n2_ n3_ n4_ n5_ n6_ n7_ n8_ n9_ n10_; clear hb hbox hg; have hnb23 := NB427_408.out; have hnc23 := NB408_427.out; have hcz24_0 : w22.cell? ⟨gb427, 0, none⟩ = some (.int .i64 0) := (yV BK427.out 0).trans rfl; have hcz24_1 : w22.cell? ⟨gb427, 1, none⟩ = some (.int .i64 0) := (yV BK427.out 1).trans rfl; have hcz24_2 : w22.cell? ⟨gb427, 2, none⟩ = some (.slice none 0 0) := (yV BK427.out 2).trans rfl; have hcz24_3 : w22.cell? ⟨gb427, 3, none⟩ = some (.slice none 0 0) := (yV BK427.out 3).trans rfl; have hfz24_0 := yW BK427.out 0; have hfz24_1 := yW BK427.out 1; have hfz24_2 := yW BK427.out 2; have hfz24_3 := yW BK427.out 3; obtain ⟨Ao25, co25, eo25⟩ := Kd.S_slice HO423.out; subst eo25; obtain ⟨Ao26, co26, eo26⟩ := Kd.R_slice HO426.out; subst eo26) | ((with_reducible refine zS (f := 25) rfl ?_); refine goesL_ (some 18) rfl rfl Try.func25 (by kernel_rfl) rfl #[.agg #[.int .i64 t419, .int .i64 t420, .slice Ao25 t421.length co25, .slice Ao26 t424.length co26]] rfl (by (try simp only [zI, zJ, zK]); first | done | rfl | (simp only [zL, zM]; rfl)) ?_; (with_reducible refine (impl_IsEmptyRelation.calls k t419 t420 _ _ t421 _ _ t424 t428 _ ?side1 ?side2 ?side3 ?side4 A10.out).mono ?_); (case side1 => refine (Kd.S_reads' (e := 38) (base := w.heap.size) (ok := fun k_ => (True ∧ some k_ ≠ (.slice Ao17 t412.length co17 : Value).ownBlock)) (n := t421.length) (c := co25) ?_).2.2; exact (mS (Kd.S_mono (Kd.S_far (p := ⟨gb427, 3, none⟩) (Kd.S_far (p := ⟨gb427, 2, none⟩) (Kd.S_far (p := ⟨gb427, 1, none⟩) (Kd.S_far (p := ⟨gb427, 0, none⟩) (Kd.S_types HO423.out BK427.out (by decide)) (fun _ hk => hk.2) (.int .i64 t419)) (fun _ hk => hk.2) (.int .i64 t420)) (fun _ hk => hk.2) (.slice Ao25 t421.length co25)) (fun _ hk => hk.2) (.slice Ao26 t424.length co26)) (fun _ h_ => h_.1)))); (case side2 => exact (Kd.S_reads' HO423.out).2.1); (case side3 => refine (zN (e := 4) (base := w.heap.size) (ok := fun k_ => (True ∧ some k_ ≠ (.slice Ao18 t415.length co18 : Value).ownBlock)) (n := t424.length) (c := co26) ?_).2.2; exact (mR (zP (zQ (p := ⟨gb427, 3, none⟩) (zQ (p := ⟨gb427, 2, none⟩) (zQ (p := ⟨gb427, 1, none⟩) (zQ (p := ⟨gb427, 0, none⟩) (zR HO426.out BK427.out (by decide)) (fun _ hk => hk.2) (.int .i64 t419)) (fun _ hk => hk.2) (.int .i64 t420)) (fun _ hk => hk.2) (.slice Ao25 t421.length co25)) (fun _ hk => hk.2) (.slice Ao26 t424.length co26)) (fun _ h_ => h_.1)))); (case side4 => exact (zN HO426.out).2.1); rintro e w27 ⟨rfl, hb⟩; refine ⟨_, rfl, ?_⟩; have n0_ := yA (yL (mS (Kd.S_mono (Kd.S_far (p := ⟨gb427, 3, none⟩) (Kd.S_far (p := ⟨gb427, 2, none⟩) (Kd.S_far (p := ⟨gb427, 1, none⟩) (Kd.S_far (p := ⟨gb427, 0, none⟩) (Kd.S_types HO414.out BK427.out (by decide)) (fun _ hk => hk.2) (.int .i64 t419)) (fun _ hk => hk.2) (.int .i64 t420)) (fun _ hk => hk.2) (.slice Ao25 t421.length co25)) (fun _ hk => hk.2) (.slice Ao26 t424.length co26)) (fun _ h_ => h_.1))) hb); have n1_ := yA (yK (mR (zP (zQ (p := ⟨gb427, 3, none⟩) (zQ (p := ⟨gb427, 2, none⟩) (zQ (p := ⟨gb427, 1, none⟩) (zQ (p := ⟨gb427, 0, none⟩) (zR HO417.out BK427.out (by decide)) (fun _ hk => hk.2) (.int .i64 t419)) (fun _ hk => hk.2) (.int .i64 t420)) (fun _ hk => hk.2) (.slice Ao25 t421.length co25)) (fun _ hk => hk.2) (.slice Ao26 t424.length co26)) (fun _ h_ => h_.1))) hb); have n2_ := yA (yL (mS (Kd.S_mono (Kd.S_far (p := ⟨gb427, 3, none⟩) (Kd.S_far (p := ⟨gb427, 2, none⟩) (Kd.S_far (p := ⟨gb427, 1, none⟩) (Kd.S_far (p := ⟨gb427, 0, none⟩) (Kd.S_types HO423.out BK427.out (by decide)) (fun _ hk => hk.2) (.int .i64 t419)) (fun _ hk => hk.2) (.int .i64 t420)) (fun _ hk => hk.2) (.slice Ao25 t421.length co25)) (fun _ hk => hk.2) (.slice Ao26 t424.length co26)) (fun _ h_ => h_.1))) hb); have n3_ := yA (yK (mR (zP (zQ (p := ⟨gb427, 3, none⟩) (zQ (p := ⟨gb427, 2, none⟩) (zQ (p := ⟨gb427, 1, none⟩) (zQ (p := ⟨gb427, 0, none⟩) (zR HO426.out BK427.out (by decide)) (fun _ hk => hk.2) (.int .i64 t419)) (fun _ hk => hk.2) (.int .i64 t420)) (fun _ hk => hk.2) (.slice Ao25 t421.length co25)) (fun _ hk => hk.2) (.slice Ao26 t424.length co26)) (fun _ h_ => h_.1))) hb); have n4_ := yA (yU (g := gb408) (o := .cells #[.int .i64 a0_0, .int .i64 a0_1, .slice A0_2 l0_2.length c0_2, .slice A0_3 l0_3.length c0_3] 33 (0, 0)) (by (with_reducible repeat (first | refine yS ?_ _ | refine yT ?_ | refine yR ?_ _)); refine blk_far ?_ NB408_427.out _; (with_reducible repeat (first | refine yS ?_ _ | refine yT ?_ | refine yR ?_ _)); refine blk_far ?_ NB408_427.out _; (with_reducible repeat (first | refine yS ?_ _ | refine yT ?_ | refine yR ?_ _)); refine blk_far ?_ NB408_427.out _; (with_reducible repeat (first | refine yS ?_ _ | refine yT ?_ | refine yR ?_ _)); refine blk_far ?_ NB408_427.out _; (with_reducible repeat (first | refine yS ?_ _ | refine yT ?_ | refine yR ?_ _)); exact BK408.out) hb); have n5_ := yA (yU (g := gb427) (o := .cells #[.int .i64 t419, .int .i64 t420, .slice Ao25 t421.length co25, .slice Ao26 t424.length co26] 25 (0, 0)) (by (with_reducible repeat (first | refine yS ?_ _ | refine yT ?_ | refine yR ?_ _)); refine blk_put (cs := #[.int .i64 t419, .int .i64 t420, .slice Ao25 t421.length co25, .slice none 0 0]) ?_ 3 _ rfl; (with_reducible repeat (first | refine yS ?_ _ | refine yT ?_ | refine yR ?_ _)); refine blk_put (cs := #[.int .i64 t419, .int .i64 t420, .slice none 0 0, .slice none 0 0]) ?_ 2 _ rfl; (with_reducible repeat (first | refine yS ?_ _ | refine yT ?_ | refine yR ?_ _)); refine blk_put (cs := #[.int .i64 t419, .int .i64 0, .slice none 0 0, .slice none 0 0]) ?_ 1 _ rfl; (with_reducible repeat (first | refine yS ?_ _ | refine yT ?_ | refine yR ?_ _)); refine blk_put (cs := #[.int .i64 0, .int .i64 0, .slice none 0 0, .slice none 0 0]) ?_ 0 _ rfl; (with_reducible repeat (first | refine yS ?_ _ | refine yT ?_ | refine yR ?_ _)); exact BK427.out) hb); have n6_ := yA (zD (by with_reducible repeat first | exact HB.out | apply yO | apply yN | apply yP | refine yQ ?_ GE408.out | refine yQ ?_ GE427.out) hb); clear HO414; clear HO417; clear HO423; clear HO426; clear BK408; clear BK427; clear HB; have HO414 := n0_; have HO417 := n1_; have HO423 := n2_; have HO426 := n3_; have BK408 := n4_; have BK427 := n5_; have HB := n6_; clear n0_ n1_ n2_ n3_ n4_ n5_ n6_; (try clear hb); (try clear hb2); (try clear hk); (try clear hi)))
   go_ret
   exact ⟨by first | rfl | (simp [errW_none, errW_some] <;> rfl) | (simp [*, errW_none, errW_some] <;> rfl), by repeat (first | (with_reducible first | exact HB.out | apply yO | apply yN | apply yP | refine yQ ?_ GE408.out | refine yQ ?_ GE427.out) | exact HB.out)⟩
  ·rw [if_neg c11] at H
   have c11b0 : (t428 != t418) = false := by simpa using c11
   (try (have c11b1 : decide (t428 = t418) = true := by simpa using c11))
   (try (have c11b2 : (t428 == t418) = true := by simpa using c11))
   clear c11
   replace H := Option.bind_eq_some_iff.mp H
   obtain ⟨⟨t429, t430, t431, t434⟩, A280, H⟩ := H
   replace H : ((laws_eqRelation.f k t419 t420 t421 t424 t429 t430 t431 t434).bind fun t437 => (if t437 = true then (some true) else (some false))) = some r := H
   have A28 := yA A280
   clear A280
   replace H := Option.bind_eq_some_iff.mp H
   obtain ⟨t437, A290, H⟩ := H
   replace H : (if t437 = true then (some true) else (some false)) = some r := H
   have A29 := yA A290
   clear A290
   by_cases c30 : t437 = true
   ·subst c30
    have H1 : (some true) = some r := by rw [if_pos rfl] at H; exact H
    clear H
    have H := H1
    clear H1
    obtain rfl := zU H
    go_enter Try.func5, Try.ntmps5
    try go_wp2_with (first | ((with_reducible refine gate_dst (N := 1) rfl ?_); refine box_event ?hg (N := 1) ?hd (cs := #[.int .i64 a0_0, .int .i64 a0_1, .slice A0_2 l0_2.length c0_2, .slice A0_3 l0_3.length c0_3]) (t := 33) ?hr ?_; (case hd => rfl); (case hg => rfl); (case hr => first | (go_simp; done) | (go_simp; rfl)); intro gb408 hg w31 hbox hb; have n0_ := yA (zD (mB HB.out) hb); have n1_ := yA (hbox); have n2_ := yA ((by rw [hg]; exact (yX (mB HB.out)) : w.heap.size ≤ gb408)); have n3_ := yA ((by rw [hg]; exact (yX (mB HB.out)) : w.heap.size ≤ gb408)); clear HB; have HB := n0_; have BK408 := n1_; have GW408 := n2_; have GE408 := n3_; clear n0_ n1_ n2_ n3_; clear hb hbox hg; have hcz32_0 : w31.cell? ⟨gb408, 0, none⟩ = some (.int .i64 a0_0) := (yV BK408.out 0).trans rfl; have hcz32_1 : w31.cell? ⟨gb408, 1, none⟩ = some (.int .i64 a0_1) := (yV BK408.out 1).trans rfl; have hcz32_2 : w31.cell? ⟨gb408, 2, none⟩ = some (.slice A0_2 l0_2.length c0_2) := (yV BK408.out 2).trans rfl; have hcz32_3 : w31.cell? ⟨gb408, 3, none⟩ = some (.slice A0_3 l0_3.length c0_3) := (yV BK408.out 3).trans rfl; have hfz32_0 := yW BK408.out 0; have hfz32_1 := yW BK408.out 1; have hfz32_2 := yW BK408.out 2; have hfz32_3 := yW BK408.out 3) | ((with_reducible refine zS (f := 22) rfl ?_); refine goesL_ (some 9) rfl rfl Try.func22 (by kernel_rfl) rfl #[.agg #[.int .i64 a0_0, .int .i64 a0_1, .slice A0_2 l0_2.length c0_2, .slice A0_3 l0_3.length c0_3], .int .i64 1048576] rfl (by (try simp only [zI, zJ, zK]); first | done | rfl | (simp only [zL, zM]; rfl)) ?_; (with_reducible refine (laws_szRelation.calls k a0_0 a0_1 _ _ l0_2 _ _ l0_3 1048576 t409 _ ?side1 ?side2 ?side3 ?side4 A2.out).mono ?_); (case side1 => exact mC (yM HR0_2.out HB.out)); (case side2 => exact HC0_2.out); (case side3 => exact mC (yM HR0_3.out HB.out)); (case side4 => exact HC0_3.out); rintro e w33 ⟨rfl, hb⟩; refine ⟨_, rfl, ?_⟩; have n0_ := yA (yU (mK BK408.out) hb); have n1_ := yA (zD (by with_reducible repeat first | exact HB.out | apply yO | apply yN | apply yP | refine yQ ?_ GE408.out) hb); clear BK408; clear HB; have BK408 := n0_; have HB := n1_; clear n0_ n1_; (try clear hb); (try clear hb2); (try clear hk); (try clear hi); have hcz34_0 : w33.cell? ⟨gb408, 0, none⟩ = some (.int .i64 a0_0) := (yV BK408.out 0).trans rfl; have hcz34_1 : w33.cell? ⟨gb408, 1, none⟩ = some (.int .i64 a0_1) := (yV BK408.out 1).trans rfl; have hcz34_2 : w33.cell? ⟨gb408, 2, none⟩ = some (.slice A0_2 l0_2.length c0_2) := (yV BK408.out 2).trans rfl; have hcz34_3 : w33.cell? ⟨gb408, 3, none⟩ = some (.slice A0_3 l0_3.length c0_3) := (yV BK408.out 3).trans rfl; have hfz34_0 := yW BK408.out 0; have hfz34_1 := yW BK408.out 1; have hfz34_2 := yW BK408.out 2; have hfz34_3 := yW BK408.out 3) | ((with_reducible refine zS (f := 24) rfl ?_); refine goesL_ (some 13) rfl rfl Try.func24 (by kernel_rfl) rfl #[.agg #[.int .i64 a0_0, .int .i64 a0_1, .slice A0_2 l0_2.length c0_2, .slice A0_3 l0_3.length c0_3]] rfl (by (try simp only [zI, zJ, zK]); first | done | rfl | (simp only [zL, zM]; rfl)) ?_; (with_reducible refine (laws_toRelation.calls k a0_0 a0_1 _ _ l0_2 _ _ l0_3 t410 t411 t412 t415 _ ?side1 ?side2 ?side3 ?side4 A7.out).mono ?_); (case side1 => exact mC (yM HR0_2.out HB.out)); (case side2 => exact HC0_2.out); (case side3 => exact mC (yM HR0_3.out HB.out)); (case side4 => exact HC0_3.out); rintro e w35 ⟨v413, v416, rfl, ho0, ho1, hb⟩; refine ⟨_, rfl, ?_⟩; have n0_ := yA (Kd.S_lower ho0 (yX (by with_reducible repeat first | exact HB.out | apply yO | apply yN | apply yP | refine yQ ?_ GE408.out))); have n1_ := yA (Kd.R_lower ho1 (yX (by with_reducible repeat first | exact HB.out | apply yO | apply yN | apply yP | refine yQ ?_ GE408.out))); have n2_ := yA (yU (mK BK408.out) hb); have n3_ := yA (zD (by with_reducible repeat first | exact HB.out | apply yO | apply yN | apply yP | refine yQ ?_ GE408.out) hb); clear BK408; clear HB; have HO414 := n0_; have HO417 := n1_; have BK408 := n2_; have HB := n3_; clear n0_ n1_ n2_ n3_; (try clear hb); (try clear hb2); (try clear hk); (try clear hi); (try clear ho0); (try clear ho1); obtain ⟨Ao36, co36, eo36⟩ := Kd.S_slice HO414.out; subst eo36; obtain ⟨Ao37, co37, eo37⟩ := Kd.R_slice HO417.out; subst eo37) | ((with_reducible refine zS (f := 23) rfl ?_); refine goesL_ (some 14) rfl rfl Try.func23 (by kernel_rfl) rfl #[.agg #[.int .i64 t410, .int .i64 t411, .slice Ao36 t412.length co36, .slice Ao37 t415.length co37]] rfl (by (try simp only [zI, zJ, zK]); first | done | rfl | (simp only [zL, zM]; rfl)) ?_; (with_reducible refine (spec_IsEmptyRelation.calls k t410 t411 _ _ t412 _ _ t415 t418 _ ?side1 ?side2 ?side3 ?side4 A8.out).mono ?_); (case side1 => exact mC ((Kd.S_reads' HO414.out).2.2)); (case side2 => exact (Kd.S_reads' HO414.out).2.1); (case side3 => exact mC ((zN HO417.out).2.2)); (case side4 => exact (zN HO417.out).2.1); rintro e w38 ⟨rfl, hb⟩; refine ⟨_, rfl, ?_⟩; have n0_ := yA (yL (mS HO414.out) hb); have n1_ := yA (yK (mR HO417.out) hb); have n2_ := yA (yU (mK BK408.out) hb); have n3_ := yA (zD (by with_reducible repeat first | exact HB.out | apply yO | apply yN | apply yP | refine yQ ?_ GE408.out) hb); clear HO414; clear HO417; clear BK408; clear HB; have HO414 := n0_; have HO417 := n1_; have BK408 := n2_; have HB := n3_; clear n0_ n1_ n2_ n3_; (try clear hb); (try clear hb2); (try clear hk); (try clear hi); have hcz39_0 : w38.cell? ⟨gb408, 0, none⟩ = some (.int .i64 a0_0) := (yV BK408.out 0).trans rfl; have hcz39_1 : w38.cell? ⟨gb408, 1, none⟩ = some (.int .i64 a0_1) := (yV BK408.out 1).trans rfl; have hcz39_2 : w38.cell? ⟨gb408, 2, none⟩ = some (.slice A0_2 l0_2.length c0_2) := (yV BK408.out 2).trans rfl; have hcz39_3 : w38.cell? ⟨gb408, 3, none⟩ = some (.slice A0_3 l0_3.length c0_3) := (yV BK408.out 3).trans rfl; have hfz39_0 := yW BK408.out 0; have hfz39_1 := yW BK408.out 1; have hfz39_2 := yW BK408.out 2; have hfz39_3 := yW BK408.out 3) | ((with_reducible refine zS (f := 24) rfl ?_); refine goesL_ (some 16) rfl rfl Try.func24 (by kernel_rfl) rfl #[.agg #[.int .i64 a0_0, .int .i64 a0_1, .slice A0_2 l0_2.length c0_2, .slice A0_3 l0_3.length c0_3]] rfl (by (try simp only [zI, zJ, zK]); first | done | rfl | (simp only [zL, zM]; rfl)) ?_; (with_reducible refine (laws_toRelation.calls k a0_0 a0_1 _ _ l0_2 _ _ l0_3 t419 t420 t421 t424 _ ?side1 ?side2 ?side3 ?side4 A9.out).mono ?_); (case side1 => exact mC (yM HR0_2.out HB.out)); (case side2 => exact HC0_2.out); (case side3 => exact mC (yM HR0_3.out HB.out)); (case side4 => exact HC0_3.out); rintro e w40 ⟨v422, v425, rfl, ho0, ho1, hb⟩; refine ⟨_, rfl, ?_⟩; have n0_ := yA (Kd.S_elder' (mS HO414.out) (Kd.S_base ho0) hb); have n1_ := yA (zO (mR HO417.out) (yY ho1) hb); have n2_ := yA (Kd.S_lower (Kd.S_new' ho0 (Kd.S_lt (mS HO414.out))) (yX (by with_reducible repeat first | exact HB.out | apply yO | apply yN | apply yP | refine yQ ?_ GE408.out))); have n3_ := yA (Kd.R_lower (Kd.R_new' ho1 (yZ (mR HO417.out))) (yX (by with_reducible repeat first | exact HB.out | apply yO | apply yN | apply yP | refine yQ ?_ GE408.out))); have n4_ := yA (yU (mK BK408.out) hb); have n5_ := yA (zD (by with_reducible repeat first | exact HB.out | apply yO | apply yN | apply yP | refine yQ ?_ GE408.out) hb); clear HO414; clear HO417; clear BK408; clear HB; have HO414 := n0_; have HO417 := n1_; have HO423 := n2_; have HO426 := n3_; have BK408 := n4_; have HB := n5_; clear n0_ n1_ n2_ n3_ n4_ n5_; (try clear hb); (try clear hb2); (try clear hk); (try clear hi); (try clear ho0); (try clear ho1)) | ((with_reducible refine gate_dst (N := 5) rfl ?_); refine box_event ?hg (N := 5) ?hd (cs := #[.int .i64 0, .int .i64 0, .slice none 0 0, .slice none 0 0]) (t := 25) ?hr ?_; (case hd => rfl); (case hg => rfl); (case hr => first | (go_simp; done) | (go_simp; rfl)); intro gb427 hg w41 hbox hb; have n0_ := yA (yL (mS HO414.out) hb); have n1_ := yA (yK (mR HO417.out) hb); have n2_ := yA (yL (mS HO423.out) hb); have n3_ := yA (yK (mR HO426.out) hb); have n4_ := yA (yU (mK BK408.out) hb); have n5_ := yA (zD (by with_reducible repeat first | exact HB.out | apply yO | apply yN | apply yP | refine yQ ?_ GE408.out) hb); have n6_ := yA (hbox); have n7_ := yA ((by rw [hg]; exact (yX (by with_reducible repeat first | exact HB.out | apply yO | apply yN | apply yP | refine yQ ?_ GE408.out)) : w.heap.size ≤ gb427)); have n8_ := yA ((by rw [hg]; exact (yX (by with_reducible repeat first | exact HB.out | apply yO | apply yN | apply yP | refine yQ ?_ GE408.out)) : w.heap.size ≤ gb427)); have n9_ := yA ((by rw [hg]; exact Nat.ne_of_lt (zX (mK BK408.out)) : gb408 ≠ gb427)); have n10_ := yA ((by rw [hg]; exact Nat.ne_of_gt (zX (mK BK408.out)) : gb427 ≠ gb408)); clear HO414; clear HO417; clear HO423; clear HO426; clear BK408; clear HB; have HO414 := n0_; have HO417 := n1_; have HO423 := n2_; have HO426 := n3_; have BK408 := n4_; have HB := n5_; have BK427 := n6_; have GW427 := n7_; have GE427 := n8_; have NB408_427 := n9_; have NB427_408 := n10_; clear n0_ n1_ n2_ n3_ n4_ n5_ n6_ n7_ n8_ n9_ n10_; clear hb hbox hg; have hnb42 := NB427_408.out; have hnc42 := NB408_427.out; have hcz43_0 : w41.cell? ⟨gb427, 0, none⟩ = some (.int .i64 0) := (yV BK427.out 0).trans rfl; have hcz43_1 : w41.cell? ⟨gb427, 1, none⟩ = some (.int .i64 0) := (yV BK427.out 1).trans rfl; have hcz43_2 : w41.cell? ⟨gb427, 2, none⟩ = some (.slice none 0 0) := (yV BK427.out 2).trans rfl; have hcz43_3 : w41.cell? ⟨gb427, 3, none⟩ = some (.slice none 0 0) := (yV BK427.out 3).trans rfl; have hfz43_0 := yW BK427.out 0; have hfz43_1 := yW BK427.out 1; have hfz43_2 := yW BK427.out 2; have hfz43_3 := yW BK427.out 3; obtain ⟨Ao44, co44, eo44⟩ := Kd.S_slice HO423.out; subst eo44; obtain ⟨Ao45, co45, eo45⟩ := Kd.R_slice HO426.out; subst eo45) | ((with_reducible refine zS (f := 25) rfl ?_); refine goesL_ (some 18) rfl rfl Try.func25 (by kernel_rfl) rfl #[.agg #[.int .i64 t419, .int .i64 t420, .slice Ao44 t421.length co44, .slice Ao45 t424.length co45]] rfl (by (try simp only [zI, zJ, zK]); first | done | rfl | (simp only [zL, zM]; rfl)) ?_; (with_reducible refine (impl_IsEmptyRelation.calls k t419 t420 _ _ t421 _ _ t424 t428 _ ?side1 ?side2 ?side3 ?side4 A10.out).mono ?_); (case side1 => refine (Kd.S_reads' (e := 38) (base := w.heap.size) (ok := fun k_ => (True ∧ some k_ ≠ (.slice Ao36 t412.length co36 : Value).ownBlock)) (n := t421.length) (c := co44) ?_).2.2; exact (mS (Kd.S_mono (Kd.S_far (p := ⟨gb427, 3, none⟩) (Kd.S_far (p := ⟨gb427, 2, none⟩) (Kd.S_far (p := ⟨gb427, 1, none⟩) (Kd.S_far (p := ⟨gb427, 0, none⟩) (Kd.S_types HO423.out BK427.out (by decide)) (fun _ hk => hk.2) (.int .i64 t419)) (fun _ hk => hk.2) (.int .i64 t420)) (fun _ hk => hk.2) (.slice Ao44 t421.length co44)) (fun _ hk => hk.2) (.slice Ao45 t424.length co45)) (fun _ h_ => h_.1)))); (case side2 => exact (Kd.S_reads' HO423.out).2.1); (case side3 => refine (zN (e := 4) (base := w.heap.size) (ok := fun k_ => (True ∧ some k_ ≠ (.slice Ao37 t415.length co37 : Value).ownBlock)) (n := t424.length) (c := co45) ?_).2.2; exact (mR (zP (zQ (p := ⟨gb427, 3, none⟩) (zQ (p := ⟨gb427, 2, none⟩) (zQ (p := ⟨gb427, 1, none⟩) (zQ (p := ⟨gb427, 0, none⟩) (zR HO426.out BK427.out (by decide)) (fun _ hk => hk.2) (.int .i64 t419)) (fun _ hk => hk.2) (.int .i64 t420)) (fun _ hk => hk.2) (.slice Ao44 t421.length co44)) (fun _ hk => hk.2) (.slice Ao45 t424.length co45)) (fun _ h_ => h_.1)))); (case side4 => exact (zN HO426.out).2.1); rintro e w46 ⟨rfl, hb⟩; refine ⟨_, rfl, ?_⟩; have n0_ := yA (yL (mS (Kd.S_mono (Kd.S_far (p := ⟨gb427, 3, none⟩) (Kd.S_far (p := ⟨gb427, 2, none⟩) (Kd.S_far (p := ⟨gb427, 1, none⟩) (Kd.S_far (p := ⟨gb427, 0, none⟩) (Kd.S_types HO414.out BK427.out (by decide)) (fun _ hk => hk.2) (.int .i64 t419)) (fun _ hk => hk.2) (.int .i64 t420)) (fun _ hk => hk.2) (.slice Ao44 t421.length co44)) (fun _ hk => hk.2) (.slice Ao45 t424.length co45)) (fun _ h_ => h_.1))) hb); have n1_ := yA (yK (mR (zP (zQ (p := ⟨gb427, 3, none⟩) (zQ (p := ⟨gb427, 2, none⟩) (zQ (p := ⟨gb427, 1, none⟩) (zQ (p := ⟨gb427, 0, none⟩) (zR HO417.out BK427.out (by decide)) (fun _ hk => hk.2) (.int .i64 t419)) (fun _ hk => hk.2) (.int .i64 t420)) (fun _ hk => hk.2) (.slice Ao44 t421.length co44)) (fun _ hk => hk.2) (.slice Ao45 t424.length co45)) (fun _ h_ => h_.1))) hb); have n2_ := yA (yL (mS (Kd.S_mono (Kd.S_far (p := ⟨gb427, 3, none⟩) (Kd.S_far (p := ⟨gb427, 2, none⟩) (Kd.S_far (p := ⟨gb427, 1, none⟩) (Kd.S_far (p := ⟨gb427, 0, none⟩) (Kd.S_types HO423.out BK427.out (by decide)) (fun _ hk => hk.2) (.int .i64 t419)) (fun _ hk => hk.2) (.int .i64 t420)) (fun _ hk => hk.2) (.slice Ao44 t421.length co44)) (fun _ hk => hk.2) (.slice Ao45 t424.length co45)) (fun _ h_ => h_.1))) hb); have n3_ := yA (yK (mR (zP (zQ (p := ⟨gb427, 3, none⟩) (zQ (p := ⟨gb427, 2, none⟩) (zQ (p := ⟨gb427, 1, none⟩) (zQ (p := ⟨gb427, 0, none⟩) (zR HO426.out BK427.out (by decide)) (fun _ hk => hk.2) (.int .i64 t419)) (fun _ hk => hk.2) (.int .i64 t420)) (fun _ hk => hk.2) (.slice Ao44 t421.length co44)) (fun _ hk => hk.2) (.slice Ao45 t424.length co45)) (fun _ h_ => h_.1))) hb); have n4_ := yA (yU (g := gb408) (o := .cells #[.int .i64 a0_0, .int .i64 a0_1, .slice A0_2 l0_2.length c0_2, .slice A0_3 l0_3.length c0_3] 33 (0, 0)) (by (with_reducible repeat (first | refine yS ?_ _ | refine yT ?_ | refine yR ?_ _)); refine blk_far ?_ NB408_427.out _; (with_reducible repeat (first | refine yS ?_ _ | refine yT ?_ | refine yR ?_ _)); refine blk_far ?_ NB408_427.out _; (with_reducible repeat (first | refine yS ?_ _ | refine yT ?_ | refine yR ?_ _)); refine blk_far ?_ NB408_427.out _; (with_reducible repeat (first | refine yS ?_ _ | refine yT ?_ | refine yR ?_ _)); refine blk_far ?_ NB408_427.out _; (with_reducible repeat (first | refine yS ?_ _ | refine yT ?_ | refine yR ?_ _)); exact BK408.out) hb); have n5_ := yA (yU (g := gb427) (o := .cells #[.int .i64 t419, .int .i64 t420, .slice Ao44 t421.length co44, .slice Ao45 t424.length co45] 25 (0, 0)) (by (with_reducible repeat (first | refine yS ?_ _ | refine yT ?_ | refine yR ?_ _)); refine blk_put (cs := #[.int .i64 t419, .int .i64 t420, .slice Ao44 t421.length co44, .slice none 0 0]) ?_ 3 _ rfl; (with_reducible repeat (first | refine yS ?_ _ | refine yT ?_ | refine yR ?_ _)); refine blk_put (cs := #[.int .i64 t419, .int .i64 t420, .slice none 0 0, .slice none 0 0]) ?_ 2 _ rfl; (with_reducible repeat (first | refine yS ?_ _ | refine yT ?_ | refine yR ?_ _)); refine blk_put (cs := #[.int .i64 t419, .int .i64 0, .slice none 0 0, .slice none 0 0]) ?_ 1 _ rfl; (with_reducible repeat (first | refine yS ?_ _ | refine yT ?_ | refine yR ?_ _)); refine blk_put (cs := #[.int .i64 0, .int .i64 0, .slice none 0 0, .slice none 0 0]) ?_ 0 _ rfl; (with_reducible repeat (first | refine yS ?_ _ | refine yT ?_ | refine yR ?_ _)); exact BK427.out) hb); have n6_ := yA (zD (by with_reducible repeat first | exact HB.out | apply yO | apply yN | apply yP | refine yQ ?_ GE408.out | refine yQ ?_ GE427.out) hb); clear HO414; clear HO417; clear HO423; clear HO426; clear BK408; clear BK427; clear HB; have HO414 := n0_; have HO417 := n1_; have HO423 := n2_; have HO426 := n3_; have BK408 := n4_; have BK427 := n5_; have HB := n6_; clear n0_ n1_ n2_ n3_ n4_ n5_ n6_; (try clear hb); (try clear hb2); (try clear hk); (try clear hi)))
    have n0_ := yA (yJ HO414.out)
    have n1_ := yA (yD HO417.out)
    have n2_ := yA (yJ HO423.out)
    have n3_ := yA (yD HO426.out)
    have n4_ := yA (yT BK408.out)
    have n5_ := yA (yT BK427.out)
    have n6_ := yA (yP HB.out)
    clear HO414
    clear HO417
    clear HO423
    clear HO426
    clear BK408
    clear BK427
    clear HB
    have HO414 := n0_
    have HO417 := n1_
    have HO423 := n2_
    have HO426 := n3_
    have BK408 := n4_
    have BK427 := n5_
    have HB := n6_
    clear n0_ n1_ n2_ n3_ n4_ n5_ n6_
    refine start_ (n := 5) (S := fun w' => w'.cell? ⟨gb427, 0, none⟩ = some (.int .i64 t419) ∧ w'.cell? ⟨gb427, 1, none⟩ = some (.int .i64 t420) ∧ w'.cell? ⟨gb427, 2, none⟩ = some (.slice Ao44 t421.length co44) ∧ w'.cell? ⟨gb427, 3, none⟩ = some (.slice Ao45 t424.length co45) ∧ w'.cell? ⟨gb408, 0, none⟩ = some (.int .i64 a0_0) ∧ w'.cell? ⟨gb408, 1, none⟩ = some (.int .i64 a0_1) ∧ w'.cell? ⟨gb408, 2, none⟩ = some (.slice A0_2 l0_2.length c0_2) ∧ w'.cell? ⟨gb408, 3, none⟩ = some (.slice A0_3 l0_3.length c0_3)) (ds := []) #[false, false, false, false, false] (by kernel_rfl) rfl rfl ⟨(yV BK427.out 0).trans rfl, (yV BK427.out 1).trans rfl, (yV BK427.out 2).trans rfl, (yV BK427.out 3).trans rfl, (yV BK408.out 0).trans rfl, (yV BK408.out 1).trans rfl, (yV BK408.out 2).trans rfl, (yV BK408.out 3).trans rfl⟩ (fun hHeld => ?_)
    generalize w46.drew = w47 at HO414 HO417 HO423 HO426 BK408 BK427 HB hHeld ⊢
    refine take_ (i := 0) (N := some 22) (v := ?_) (a' := ?_) #[true, false, false, false, false] rfl rfl (by kernel_rfl) (fun _ _ _ h => h) (Or.inl ⟨by rfl, ?_⟩) hHeld ?_ ?_
    rotate_left
    ·rintro w' ⟨s0, s1, s2, s3, s4, s5, s6, s7⟩
     go_simp
     with_reducible rfl
    rotate_left
    ·simp only [Act.put, zA, zB, zC, i64_w, i32_w]
     rfl
    refine take_ (i := 1) (N := some 23) (v := ?_) (a' := ?_) #[true, true, false, false, false] rfl rfl (by kernel_rfl) (fun _ _ _ h => h) (Or.inl ⟨by rfl, ?_⟩) hHeld ?_ ?_
    rotate_left
    ·rintro w' ⟨s0, s1, s2, s3, s4, s5, s6, s7⟩
     go_simp
     with_reducible rfl
    rotate_left
    ·simp only [Act.put, zA, zB, zC, i64_w, i32_w]
     rfl
    refine one_ (i := 2) (N := some 24) #[true, true, true, false, false] rfl rfl (by kernel_rfl) (by decide) (fun K hK => ?_)
    refine goes_ Try.func24 (by kernel_rfl) rfl #[.agg #[.int .i64 a0_0, .int .i64 a0_1, .slice A0_2 l0_2.length c0_2, .slice A0_3 l0_3.length c0_3]] (by rfl) rfl rfl (by (try simp only [zI, zJ, zK]); first | done | rfl | (simp only [zL, zM]; rfl)) ?_
    with_reducible refine (laws_toRelation.calls k a0_0 a0_1 _ _ l0_2 _ _ l0_3 t429 t430 t431 t434 _ ?side1 ?side2 ?side3 ?side4 A28.out).mono ?_
    (case side1 => exact mC (yM HR0_2.out HB.out))
    (case side2 => exact HC0_2.out)
    (case side3 => exact mC (yM HR0_3.out HB.out))
    (case side4 => exact HC0_3.out)
    rintro e w48 ⟨v432, v435, rfl, ho0, ho1, hb⟩
    refine ⟨_, rfl, ?_⟩
    have n0_ := yA (Kd.S_elder' (mS HO414.out) (Kd.S_base ho0) hb)
    have n1_ := yA (zO (mR HO417.out) (yY ho1) hb)
    have n2_ := yA (Kd.S_elder' (mS HO423.out) (Kd.S_base ho0) hb)
    have n3_ := yA (zO (mR HO426.out) (yY ho1) hb)
    have n4_ := yA (Kd.S_lower (Kd.S_new' (Kd.S_new' ho0 (Kd.S_lt (mS HO414.out))) (Kd.S_lt (mS HO423.out))) (yX (by with_reducible repeat first | exact HB.out | apply yO | apply yN | apply yP | refine yQ ?_ GE408.out | refine yQ ?_ GE427.out)))
    have n5_ := yA (Kd.R_lower (Kd.R_new' (Kd.R_new' ho1 (yZ (mR HO417.out))) (yZ (mR HO426.out))) (yX (by with_reducible repeat first | exact HB.out | apply yO | apply yN | apply yP | refine yQ ?_ GE408.out | refine yQ ?_ GE427.out)))
    have n6_ := yA (yU (mK BK408.out) hb)
    have n7_ := yA (yU (mK BK427.out) hb)
    have n8_ := yA (zD (by with_reducible repeat first | exact HB.out | apply yO | apply yN | apply yP | refine yQ ?_ GE408.out | refine yQ ?_ GE427.out) hb)
    clear HO414
    clear HO417
    clear HO423
    clear HO426
    clear BK408
    clear BK427
    clear HB
    have HO414 := n0_
    have HO417 := n1_
    have HO423 := n2_
    have HO426 := n3_
    have HO433 := n4_
    have HO436 := n5_
    have BK408 := n6_
    have BK427 := n7_
    have HB := n8_
    clear n0_ n1_ n2_ n3_ n4_ n5_ n6_ n7_ n8_
    (try clear hb)
    (try clear hb2)
    (try clear hk)
    (try clear hi)
    (try clear ho0)
    (try clear ho1)
    obtain ⟨Ao49, co49, eo49⟩ := Kd.S_slice HO433.out
    (first | subst eo49 | (injection eo49 with f1_ f2_ f3_; have f4_ := f1_.symm; have f5_ := f3_.symm; clear f1_ f2_ f3_; subst f4_; subst f5_))
    obtain ⟨Ao50, co50, eo50⟩ := Kd.R_slice HO436.out
    (first | subst eo50 | (injection eo50 with f1_ f2_ f3_; have f4_ := f1_.symm; have f5_ := f3_.symm; clear f1_ f2_ f3_; subst f4_; subst f5_))
    refine hK.out _ _ ⟨(yV BK427.out 0).trans rfl, (yV BK427.out 1).trans rfl, (yV BK427.out 2).trans rfl, (yV BK427.out 3).trans rfl, (yV BK408.out 0).trans rfl, (yV BK408.out 1).trans rfl, (yV BK408.out 2).trans rfl, (yV BK408.out 3).trans rfl⟩ (fun hHeld => ?_)
    clear hK K
    refine norm_ (a' := ?_) ?_ ?_
    rotate_left
    ·show Act.put _ (some 24) _ = _
     simp only [Act.put, zA, zB, zC, i64_w, i32_w]
     rfl
    refine one_ (i := 3) (N := some 25) #[true, true, true, true, false] rfl rfl (by kernel_rfl) (by decide) (fun K hK => ?_)
    refine goes_ Try.func17 (by kernel_rfl) rfl #[.agg #[.int .i64 t419, .int .i64 t420, .slice Ao44 t421.length co44, .slice Ao45 t424.length co45], .agg #[.int .i64 t429, .int .i64 t430, .slice Ao49 t431.length co49, .slice Ao50 t434.length co50]] (by rfl) rfl rfl (by (try simp only [zI, zJ, zK]); first | done | rfl | (simp only [zL, zM]; rfl)) ?_
    with_reducible refine (laws_eqRelation.calls k t419 t420 _ _ t421 _ _ t424 t429 t430 _ _ t431 _ _ t434 true _ ?side1 ?side2 ?side3 ?side4 ?side5 ?side6 ?side7 ?side8 A29.out).mono ?_
    (case side1 => exact mC ((Kd.S_reads' HO423.out).2.2))
    (case side2 => exact (Kd.S_reads' HO423.out).2.1)
    (case side3 => exact mC ((zN HO426.out).2.2))
    (case side4 => exact (zN HO426.out).2.1)
    (case side5 => exact mC ((Kd.S_reads' HO433.out).2.2))
    (case side6 => exact (Kd.S_reads' HO433.out).2.1)
    (case side7 => exact mC ((zN HO436.out).2.2))
    (case side8 => exact (zN HO436.out).2.1)
    rintro e w51 ⟨rfl, hb⟩
    refine ⟨_, rfl, ?_⟩
    have n0_ := yA (yL (mS HO414.out) hb)
    have n1_ := yA (yK (mR HO417.out) hb)
    have n2_ := yA (yL (mS HO423.out) hb)
    have n3_ := yA (yK (mR HO426.out) hb)
    have n4_ := yA (yL (mS HO433.out) hb)
    have n5_ := yA (yK (mR HO436.out) hb)
    have n6_ := yA (yU (mK BK408.out) hb)
    have n7_ := yA (yU (mK BK427.out) hb)
    have n8_ := yA (zD (by with_reducible repeat first | exact HB.out | apply yO | apply yN | apply yP | refine yQ ?_ GE408.out | refine yQ ?_ GE427.out) hb)
    clear HO414
    clear HO417
    clear HO423
    clear HO426
    clear HO433
    clear HO436
    clear BK408
    clear BK427
    clear HB
    have HO414 := n0_
    have HO417 := n1_
    have HO423 := n2_
    have HO426 := n3_
    have HO433 := n4_
    have HO436 := n5_
    have BK408 := n6_
    have BK427 := n7_
    have HB := n8_
    clear n0_ n1_ n2_ n3_ n4_ n5_ n6_ n7_ n8_
    (try clear hb)
    (try clear hb2)
    (try clear hk)
    (try clear hi)
    refine hK.out _ _ ⟨(yV BK427.out 0).trans rfl, (yV BK427.out 1).trans rfl, (yV BK427.out 2).trans rfl, (yV BK427.out 3).trans rfl, (yV BK408.out 0).trans rfl, (yV BK408.out 1).trans rfl, (yV BK408.out 2).trans rfl, (yV BK408.out 3).trans rfl⟩ (fun hHeld => ?_)
    clear hK K
    refine norm_ (a' := ?_) ?_ ?_
    rotate_left
    ·show Act.put _ (some 25) _ = _
     simp only [Act.put, zA, zB, zC, i64_w, i32_w]
     rfl
    refine pure_ (i := 4) (N := some 26) (v := ?_) (a' := ?_) #[true, true, true, true, true] rfl rfl (by kernel_rfl) (fun _ _ _ h => h) (Or.inl ⟨by rfl, ?_⟩) ?_ ?_
    rotate_left
    ·intro w'
     go_simp
     with_reducible rfl
    rotate_left
    ·simp only [Act.put, zA, zB, zC, i64_w, i32_w]
     rfl
    refine done_ (by kernel_rfl) ?_
    try go_wp2
    go_ret
    exact ⟨by first | rfl | (simp [errW_none, errW_some] <;> rfl) | (simp [*, errW_none, errW_some] <;> rfl), by repeat (first | (with_reducible first | exact HB.out | apply yO | apply yN | apply yP | refine yQ ?_ GE408.out | refine yQ ?_ GE427.out) | exact HB.out)⟩
   ·replace c30 := Bool.eq_false_iff.mpr c30
    subst c30
    have H1 : (some false) = some r := by rw [if_neg (show ¬ (false = true) by decide)] at H; exact H
    clear H
    have H := H1
    clear H1
    obtain rfl := zU H
    go_enter Try.func5, Try.ntmps5
    try go_wp2_with (first | ((with_reducible refine gate_dst (N := 1) rfl ?_); refine box_event ?hg (N := 1) ?hd (cs := #[.int .i64 a0_0, .int .i64 a0_1, .slice A0_2 l0_2.length c0_2, .slice A0_3 l0_3.length c0_3]) (t := 33) ?hr ?_; (case hd => rfl); (case hg => rfl); (case hr => first | (go_simp; done) | (go_simp; rfl)); intro gb408 hg w52 hbox hb; have n0_ := yA (zD (mB HB.out) hb); have n1_ := yA (hbox); have n2_ := yA ((by rw [hg]; exact (yX (mB HB.out)) : w.heap.size ≤ gb408)); have n3_ := yA ((by rw [hg]; exact (yX (mB HB.out)) : w.heap.size ≤ gb408)); clear HB; have HB := n0_; have BK408 := n1_; have GW408 := n2_; have GE408 := n3_; clear n0_ n1_ n2_ n3_; clear hb hbox hg; have hcz53_0 : w52.cell? ⟨gb408, 0, none⟩ = some (.int .i64 a0_0) := (yV BK408.out 0).trans rfl; have hcz53_1 : w52.cell? ⟨gb408, 1, none⟩ = some (.int .i64 a0_1) := (yV BK408.out 1).trans rfl; have hcz53_2 : w52.cell? ⟨gb408, 2, none⟩ = some (.slice A0_2 l0_2.length c0_2) := (yV BK408.out 2).trans rfl; have hcz53_3 : w52.cell? ⟨gb408, 3, none⟩ = some (.slice A0_3 l0_3.length c0_3) := (yV BK408.out 3).trans rfl; have hfz53_0 := yW BK408.out 0; have hfz53_1 := yW BK408.out 1; have hfz53_2 := yW BK408.out 2; have hfz53_3 := yW BK408.out 3) | ((with_reducible refine zS (f := 22) rfl ?_); refine goesL_ (some 9) rfl rfl Try.func22 (by kernel_rfl) rfl #[.agg #[.int .i64 a0_0, .int .i64 a0_1, .slice A0_2 l0_2.length c0_2, .slice A0_3 l0_3.length c0_3], .int .i64 1048576] rfl (by (try simp only [zI, zJ, zK]); first | done | rfl | (simp only [zL, zM]; rfl)) ?_; (with_reducible refine (laws_szRelation.calls k a0_0 a0_1 _ _ l0_2 _ _ l0_3 1048576 t409 _ ?side1 ?side2 ?side3 ?side4 A2.out).mono ?_); (case side1 => exact mC (yM HR0_2.out HB.out)); (case side2 => exact HC0_2.out); (case side3 => exact mC (yM HR0_3.out HB.out)); (case side4 => exact HC0_3.out); rintro e w54 ⟨rfl, hb⟩; refine ⟨_, rfl, ?_⟩; have n0_ := yA (yU (mK BK408.out) hb); have n1_ := yA (zD (by with_reducible repeat first | exact HB.out | apply yO | apply yN | apply yP | refine yQ ?_ GE408.out) hb); clear BK408; clear HB; have BK408 := n0_; have HB := n1_; clear n0_ n1_; (try clear hb); (try clear hb2); (try clear hk); (try clear hi); have hcz55_0 : w54.cell? ⟨gb408, 0, none⟩ = some (.int .i64 a0_0) := (yV BK408.out 0).trans rfl; have hcz55_1 : w54.cell? ⟨gb408, 1, none⟩ = some (.int .i64 a0_1) := (yV BK408.out 1).trans rfl; have hcz55_2 : w54.cell? ⟨gb408, 2, none⟩ = some (.slice A0_2 l0_2.length c0_2) := (yV BK408.out 2).trans rfl; have hcz55_3 : w54.cell? ⟨gb408, 3, none⟩ = some (.slice A0_3 l0_3.length c0_3) := (yV BK408.out 3).trans rfl; have hfz55_0 := yW BK408.out 0; have hfz55_1 := yW BK408.out 1; have hfz55_2 := yW BK408.out 2; have hfz55_3 := yW BK408.out 3) | ((with_reducible refine zS (f := 24) rfl ?_); refine goesL_ (some 13) rfl rfl Try.func24 (by kernel_rfl) rfl #[.agg #[.int .i64 a0_0, .int .i64 a0_1, .slice A0_2 l0_2.length c0_2, .slice A0_3 l0_3.length c0_3]] rfl (by (try simp only [zI, zJ, zK]); first | done | rfl | (simp only [zL, zM]; rfl)) ?_; (with_reducible refine (laws_toRelation.calls k a0_0 a0_1 _ _ l0_2 _ _ l0_3 t410 t411 t412 t415 _ ?side1 ?side2 ?side3 ?side4 A7.out).mono ?_); (case side1 => exact mC (yM HR0_2.out HB.out)); (case side2 => exact HC0_2.out); (case side3 => exact mC (yM HR0_3.out HB.out)); (case side4 => exact HC0_3.out); rintro e w56 ⟨v413, v416, rfl, ho0, ho1, hb⟩; refine ⟨_, rfl, ?_⟩; have n0_ := yA (Kd.S_lower ho0 (yX (by with_reducible repeat first | exact HB.out | apply yO | apply yN | apply yP | refine yQ ?_ GE408.out))); have n1_ := yA (Kd.R_lower ho1 (yX (by with_reducible repeat first | exact HB.out | apply yO | apply yN | apply yP | refine yQ ?_ GE408.out))); have n2_ := yA (yU (mK BK408.out) hb); have n3_ := yA (zD (by with_reducible repeat first | exact HB.out | apply yO | apply yN | apply yP | refine yQ ?_ GE408.out) hb); clear BK408; clear HB; have HO414 := n0_; have HO417 := n1_; have BK408 := n2_; have HB := n3_; clear n0_ n1_ n2_ n3_; (try clear hb); (try clear hb2); (try clear hk); (try clear hi); (try clear ho0); (try clear ho1); obtain ⟨Ao57, co57, eo57⟩ := Kd.S_slice HO414.out; subst eo57; obtain ⟨Ao58, co58, eo58⟩ := Kd.R_slice HO417.out; subst eo58) | ((with_reducible refine zS (f := 23) rfl ?_); refine goesL_ (some 14) rfl rfl Try.func23 (by kernel_rfl) rfl #[.agg #[.int .i64 t410, .int .i64 t411, .slice Ao57 t412.length co57, .slice Ao58 t415.length co58]] rfl (by (try simp only [zI, zJ, zK]); first | done | rfl | (simp only [zL, zM]; rfl)) ?_; (with_reducible refine (spec_IsEmptyRelation.calls k t410 t411 _ _ t412 _ _ t415 t418 _ ?side1 ?side2 ?side3 ?side4 A8.out).mono ?_); (case side1 => exact mC ((Kd.S_reads' HO414.out).2.2)); (case side2 => exact (Kd.S_reads' HO414.out).2.1); (case side3 => exact mC ((zN HO417.out).2.2)); (case side4 => exact (zN HO417.out).2.1); rintro e w59 ⟨rfl, hb⟩; refine ⟨_, rfl, ?_⟩; have n0_ := yA (yL (mS HO414.out) hb); have n1_ := yA (yK (mR HO417.out) hb); have n2_ := yA (yU (mK BK408.out) hb); have n3_ := yA (zD (by with_reducible repeat first | exact HB.out | apply yO | apply yN | apply yP | refine yQ ?_ GE408.out) hb); clear HO414; clear HO417; clear BK408; clear HB; have HO414 := n0_; have HO417 := n1_; have BK408 := n2_; have HB := n3_; clear n0_ n1_ n2_ n3_; (try clear hb); (try clear hb2); (try clear hk); (try clear hi); have hcz60_0 : w59.cell? ⟨gb408, 0, none⟩ = some (.int .i64 a0_0) := (yV BK408.out 0).trans rfl; have hcz60_1 : w59.cell? ⟨gb408, 1, none⟩ = some (.int .i64 a0_1) := (yV BK408.out 1).trans rfl; have hcz60_2 : w59.cell? ⟨gb408, 2, none⟩ = some (.slice A0_2 l0_2.length c0_2) := (yV BK408.out 2).trans rfl; have hcz60_3 : w59.cell? ⟨gb408, 3, none⟩ = some (.slice A0_3 l0_3.length c0_3) := (yV BK408.out 3).trans rfl; have hfz60_0 := yW BK408.out 0; have hfz60_1 := yW BK408.out 1; have hfz60_2 := yW BK408.out 2; have hfz60_3 := yW BK408.out 3) | ((with_reducible refine zS (f := 24) rfl ?_); refine goesL_ (some 16) rfl rfl Try.func24 (by kernel_rfl) rfl #[.agg #[.int .i64 a0_0, .int .i64 a0_1, .slice A0_2 l0_2.length c0_2, .slice A0_3 l0_3.length c0_3]] rfl (by (try simp only [zI, zJ, zK]); first | done | rfl | (simp only [zL, zM]; rfl)) ?_; (with_reducible refine (laws_toRelation.calls k a0_0 a0_1 _ _ l0_2 _ _ l0_3 t419 t420 t421 t424 _ ?side1 ?side2 ?side3 ?side4 A9.out).mono ?_); (case side1 => exact mC (yM HR0_2.out HB.out)); (case side2 => exact HC0_2.out); (case side3 => exact mC (yM HR0_3.out HB.out)); (case side4 => exact HC0_3.out); rintro e w61 ⟨v422, v425, rfl, ho0, ho1, hb⟩; refine ⟨_, rfl, ?_⟩; have n0_ := yA (Kd.S_elder' (mS HO414.out) (Kd.S_base ho0) hb); have n1_ := yA (zO (mR HO417.out) (yY ho1) hb); have n2_ := yA (Kd.S_lower (Kd.S_new' ho0 (Kd.S_lt (mS HO414.out))) (yX (by with_reducible repeat first | exact HB.out | apply yO | apply yN | apply yP | refine yQ ?_ GE408.out))); have n3_ := yA (Kd.R_lower (Kd.R_new' ho1 (yZ (mR HO417.out))) (yX (by with_reducible repeat first | exact HB.out | apply yO | apply yN | apply yP | refine yQ ?_ GE408.out))); have n4_ := yA (yU (mK BK408.out) hb); have n5_ := yA (zD (by with_reducible repeat first | exact HB.out | apply yO | apply yN | apply yP | refine yQ ?_ GE408.out) hb); clear HO414; clear HO417; clear BK408; clear HB; have HO414 := n0_; have HO417 := n1_; have HO423 := n2_; have HO426 := n3_; have BK408 := n4_; have HB := n5_; clear n0_ n1_ n2_ n3_ n4_ n5_; (try clear hb); (try clear hb2); (try clear hk); (try clear hi); (try clear ho0); (try clear ho1)) | ((with_reducible refine gate_dst (N := 5) rfl ?_); refine box_event ?hg (N := 5) ?hd (cs := #[.int .i64 0, .int .i64 0, .slice none 0 0, .slice none 0 0]) (t := 25) ?hr ?_; (case hd => rfl); (case hg => rfl); (case hr => first | (go_simp; done) | (go_simp; rfl)); intro gb427 hg w62 hbox hb; have n0_ := yA (yL (mS HO414.out) hb); have n1_ := yA (yK (mR HO417.out) hb); have n2_ := yA (yL (mS HO423.out) hb); have n3_ := yA (yK (mR HO426.out) hb); have n4_ := yA (yU (mK BK408.out) hb); have n5_ := yA (zD (by with_reducible repeat first | exact HB.out | apply yO | apply yN | apply yP | refine yQ ?_ GE408.out) hb); have n6_ := yA (hbox); have n7_ := yA ((by rw [hg]; exact (yX (by with_reducible repeat first | exact HB.out | apply yO | apply yN | apply yP | refine yQ ?_ GE408.out)) : w.heap.size ≤ gb427)); have n8_ := yA ((by rw [hg]; exact (yX (by with_reducible repeat first | exact HB.out | apply yO | apply yN | apply yP | refine yQ ?_ GE408.out)) : w.heap.size ≤ gb427)); have n9_ := yA ((by rw [hg]; exact Nat.ne_of_lt (zX (mK BK408.out)) : gb408 ≠ gb427)); have n10_ := yA ((by rw [hg]; exact Nat.ne_of_gt (zX (mK BK408.out)) : gb427 ≠ gb408)); clear HO414; clear HO417; clear HO423; clear HO426; clear BK408; clear HB; have HO414 := n0_; have HO417 := n1_; have HO423 := n2_; have HO426 := n3_; have BK408 := n4_; have HB := n5_; have BK427 := n6_; have GW427 := n7_; have GE427 := n8_; have NB408_427 := n9_; have NB427_408 := n10_; clear n0_ n1_ n2_ n3_ n4_ n5_ n6_ n7_ n8_ n9_ n10_; clear hb hbox hg; have hnb63 := NB427_408.out; have hnc63 := NB408_427.out; have hcz64_0 : w62.cell? ⟨gb427, 0, none⟩ = some (.int .i64 0) := (yV BK427.out 0).trans rfl; have hcz64_1 : w62.cell? ⟨gb427, 1, none⟩ = some (.int .i64 0) := (yV BK427.out 1).trans rfl; have hcz64_2 : w62.cell? ⟨gb427, 2, none⟩ = some (.slice none 0 0) := (yV BK427.out 2).trans rfl; have hcz64_3 : w62.cell? ⟨gb427, 3, none⟩ = some (.slice none 0 0) := (yV BK427.out 3).trans rfl; have hfz64_0 := yW BK427.out 0; have hfz64_1 := yW BK427.out 1; have hfz64_2 := yW BK427.out 2; have hfz64_3 := yW BK427.out 3; obtain ⟨Ao65, co65, eo65⟩ := Kd.S_slice HO423.out; subst eo65; obtain ⟨Ao66, co66, eo66⟩ := Kd.R_slice HO426.out; subst eo66) | ((with_reducible refine zS (f := 25) rfl ?_); refine goesL_ (some 18) rfl rfl Try.func25 (by kernel_rfl) rfl #[.agg #[.int .i64 t419, .int .i64 t420, .slice Ao65 t421.length co65, .slice Ao66 t424.length co66]] rfl (by (try simp only [zI, zJ, zK]); first | done | rfl | (simp only [zL, zM]; rfl)) ?_; (with_reducible refine (impl_IsEmptyRelation.calls k t419 t420 _ _ t421 _ _ t424 t428 _ ?side1 ?side2 ?side3 ?side4 A10.out).mono ?_); (case side1 => refine (Kd.S_reads' (e := 38) (base := w.heap.size) (ok := fun k_ => (True ∧ some k_ ≠ (.slice Ao57 t412.length co57 : Value).ownBlock)) (n := t421.length) (c := co65) ?_).2.2; exact (mS (Kd.S_mono (Kd.S_far (p := ⟨gb427, 3, none⟩) (Kd.S_far (p := ⟨gb427, 2, none⟩) (Kd.S_far (p := ⟨gb427, 1, none⟩) (Kd.S_far (p := ⟨gb427, 0, none⟩) (Kd.S_types HO423.out BK427.out (by decide)) (fun _ hk => hk.2) (.int .i64 t419)) (fun _ hk => hk.2) (.int .i64 t420)) (fun _ hk => hk.2) (.slice Ao65 t421.length co65)) (fun _ hk => hk.2) (.slice Ao66 t424.length co66)) (fun _ h_ => h_.1)))); (case side2 => exact (Kd.S_reads' HO423.out).2.1); (case side3 => refine (zN (e := 4) (base := w.heap.size) (ok := fun k_ => (True ∧ some k_ ≠ (.slice Ao58 t415.length co58 : Value).ownBlock)) (n := t424.length) (c := co66) ?_).2.2; exact (mR (zP (zQ (p := ⟨gb427, 3, none⟩) (zQ (p := ⟨gb427, 2, none⟩) (zQ (p := ⟨gb427, 1, none⟩) (zQ (p := ⟨gb427, 0, none⟩) (zR HO426.out BK427.out (by decide)) (fun _ hk => hk.2) (.int .i64 t419)) (fun _ hk => hk.2) (.int .i64 t420)) (fun _ hk => hk.2) (.slice Ao65 t421.length co65)) (fun _ hk => hk.2) (.slice Ao66 t424.length co66)) (fun _ h_ => h_.1)))); (case side4 => exact (zN HO426.out).2.1); rintro e w67 ⟨rfl, hb⟩; refine ⟨_, rfl, ?_⟩; have n0_ := yA (yL (mS (Kd.S_mono (Kd.S_far (p := ⟨gb427, 3, none⟩) (Kd.S_far (p := ⟨gb427, 2, none⟩) (Kd.S_far (p := ⟨gb427, 1, none⟩) (Kd.S_far (p := ⟨gb427, 0, none⟩) (Kd.S_types HO414.out BK427.out (by decide)) (fun _ hk => hk.2) (.int .i64 t419)) (fun _ hk => hk.2) (.int .i64 t420)) (fun _ hk => hk.2) (.slice Ao65 t421.length co65)) (fun _ hk => hk.2) (.slice Ao66 t424.length co66)) (fun _ h_ => h_.1))) hb); have n1_ := yA (yK (mR (zP (zQ (p := ⟨gb427, 3, none⟩) (zQ (p := ⟨gb427, 2, none⟩) (zQ (p := ⟨gb427, 1, none⟩) (zQ (p := ⟨gb427, 0, none⟩) (zR HO417.out BK427.out (by decide)) (fun _ hk => hk.2) (.int .i64 t419)) (fun _ hk => hk.2) (.int .i64 t420)) (fun _ hk => hk.2) (.slice Ao65 t421.length co65)) (fun _ hk => hk.2) (.slice Ao66 t424.length co66)) (fun _ h_ => h_.1))) hb); have n2_ := yA (yL (mS (Kd.S_mono (Kd.S_far (p := ⟨gb427, 3, none⟩) (Kd.S_far (p := ⟨gb427, 2, none⟩) (Kd.S_far (p := ⟨gb427, 1, none⟩) (Kd.S_far (p := ⟨gb427, 0, none⟩) (Kd.S_types HO423.out BK427.out (by decide)) (fun _ hk => hk.2) (.int .i64 t419)) (fun _ hk => hk.2) (.int .i64 t420)) (fun _ hk => hk.2) (.slice Ao65 t421.length co65)) (fun _ hk => hk.2) (.slice Ao66 t424.length co66)) (fun _ h_ => h_.1))) hb); have n3_ := yA (yK (mR (zP (zQ (p := ⟨gb427, 3, none⟩) (zQ (p := ⟨gb427, 2, none⟩) (zQ (p := ⟨gb427, 1, none⟩) (zQ (p := ⟨gb427, 0, none⟩) (zR HO426.out BK427.out (by decide)) (fun _ hk => hk.2) (.int .i64 t419)) (fun _ hk => hk.2) (.int .i64 t420)) (fun _ hk => hk.2) (.slice Ao65 t421.length co65)) (fun _ hk => hk.2) (.slice Ao66 t424.length co66)) (fun _ h_ => h_.1))) hb); have n4_ := yA (yU (g := gb408) (o := .cells #[.int .i64 a0_0, .int .i64 a0_1, .slice A0_2 l0_2.length c0_2, .slice A0_3 l0_3.length c0_3] 33 (0, 0)) (by (with_reducible repeat (first | refine yS ?_ _ | refine yT ?_ | refine yR ?_ _)); refine blk_far ?_ NB408_427.out _; (with_reducible repeat (first | refine yS ?_ _ | refine yT ?_ | refine yR ?_ _)); refine blk_far ?_ NB408_427.out _; (with_reducible repeat (first | refine yS ?_ _ | refine yT ?_ | refine yR ?_ _)); refine blk_far ?_ NB408_427.out _; (with_reducible repeat (first | refine yS ?_ _ | refine yT ?_ | refine yR ?_ _)); refine blk_far ?_ NB408_427.out _; (with_reducible repeat (first | refine yS ?_ _ | refine yT ?_ | refine yR ?_ _)); exact BK408.out) hb); have n5_ := yA (yU (g := gb427) (o := .cells #[.int .i64 t419, .int .i64 t420, .slice Ao65 t421.length co65, .slice Ao66 t424.length co66] 25 (0, 0)) (by (with_reducible repeat (first | refine yS ?_ _ | refine yT ?_ | refine yR ?_ _)); refine blk_put (cs := #[.int .i64 t419, .int .i64 t420, .slice Ao65 t421.length co65, .slice none 0 0]) ?_ 3 _ rfl; (with_reducible repeat (first | refine yS ?_ _ | refine yT ?_ | refine yR ?_ _)); refine blk_put (cs := #[.int .i64 t419, .int .i64 t420, .slice none 0 0, .slice none 0 0]) ?_ 2 _ rfl; (with_reducible repeat (first | refine yS ?_ _ | refine yT ?_ | refine yR ?_ _)); refine blk_put (cs := #[.int .i64 t419, .int .i64 0, .slice none 0 0, .slice none 0 0]) ?_ 1 _ rfl; (with_reducible repeat (first | refine yS ?_ _ | refine yT ?_ | refine yR ?_ _)); refine blk_put (cs := #[.int .i64 0, .int .i64 0, .slice none 0 0, .slice none 0 0]) ?_ 0 _ rfl; (with_reducible repeat (first | refine yS ?_ _ | refine yT ?_ | refine yR ?_ _)); exact BK427.out) hb); have n6_ := yA (zD (by with_reducible repeat first | exact HB.out | apply yO | apply yN | apply yP | refine yQ ?_ GE408.out | refine yQ ?_ GE427.out) hb); clear HO414; clear HO417; clear HO423; clear HO426; clear BK408; clear BK427; clear HB; have HO414 := n0_; have HO417 := n1_; have HO423 := n2_; have HO426 := n3_; have BK408 := n4_; have BK427 := n5_; have HB := n6_; clear n0_ n1_ n2_ n3_ n4_ n5_ n6_; (try clear hb); (try clear hb2); (try clear hk); (try clear hi)))
    have n0_ := yA (yJ HO414.out)
    have n1_ := yA (yD HO417.out)
    have n2_ := yA (yJ HO423.out)
    have n3_ := yA (yD HO426.out)
    have n4_ := yA (yT BK408.out)
    have n5_ := yA (yT BK427.out)
    have n6_ := yA (yP HB.out)
    clear HO414
    clear HO417
    clear HO423
    clear HO426
    clear BK408
    clear BK427
    clear HB
    have HO414 := n0_
    have HO417 := n1_
    have HO423 := n2_
    have HO426 := n3_
    have BK408 := n4_
    have BK427 := n5_
    have HB := n6_
    clear n0_ n1_ n2_ n3_ n4_ n5_ n6_
    refine start_ (n := 5) (S := fun w' => w'.cell? ⟨gb427, 0, none⟩ = some (.int .i64 t419) ∧ w'.cell? ⟨gb427, 1, none⟩ = some (.int .i64 t420) ∧ w'.cell? ⟨gb427, 2, none⟩ = some (.slice Ao65 t421.length co65) ∧ w'.cell? ⟨gb427, 3, none⟩ = some (.slice Ao66 t424.length co66) ∧ w'.cell? ⟨gb408, 0, none⟩ = some (.int .i64 a0_0) ∧ w'.cell? ⟨gb408, 1, none⟩ = some (.int .i64 a0_1) ∧ w'.cell? ⟨gb408, 2, none⟩ = some (.slice A0_2 l0_2.length c0_2) ∧ w'.cell? ⟨gb408, 3, none⟩ = some (.slice A0_3 l0_3.length c0_3)) (ds := []) #[false, false, false, false, false] (by kernel_rfl) rfl rfl ⟨(yV BK427.out 0).trans rfl, (yV BK427.out 1).trans rfl, (yV BK427.out 2).trans rfl, (yV BK427.out 3).trans rfl, (yV BK408.out 0).trans rfl, (yV BK408.out 1).trans rfl, (yV BK408.out 2).trans rfl, (yV BK408.out 3).trans rfl⟩ (fun hHeld => ?_)
    generalize w67.drew = w68 at HO414 HO417 HO423 HO426 BK408 BK427 HB hHeld ⊢
    refine take_ (i := 0) (N := some 22) (v := ?_) (a' := ?_) #[true, false, false, false, false] rfl rfl (by kernel_rfl) (fun _ _ _ h => h) (Or.inl ⟨by rfl, ?_⟩) hHeld ?_ ?_
    rotate_left
    ·rintro w' ⟨s0, s1, s2, s3, s4, s5, s6, s7⟩
     go_simp
     with_reducible rfl
    rotate_left
    ·simp only [Act.put, zA, zB, zC, i64_w, i32_w]
     rfl
    refine take_ (i := 1) (N := some 23) (v := ?_) (a' := ?_) #[true, true, false, false, false] rfl rfl (by kernel_rfl) (fun _ _ _ h => h) (Or.inl ⟨by rfl, ?_⟩) hHeld ?_ ?_
    rotate_left
    ·rintro w' ⟨s0, s1, s2, s3, s4, s5, s6, s7⟩
     go_simp
     with_reducible rfl
    rotate_left
    ·simp only [Act.put, zA, zB, zC, i64_w, i32_w]
     rfl
    refine one_ (i := 2) (N := some 24) #[true, true, true, false, false] rfl rfl (by kernel_rfl) (by decide) (fun K hK => ?_)
    refine goes_ Try.func24 (by kernel_rfl) rfl #[.agg #[.int .i64 a0_0, .int .i64 a0_1, .slice A0_2 l0_2.length c0_2, .slice A0_3 l0_3.length c0_3]] (by rfl) rfl rfl (by (try simp only [zI, zJ, zK]); first | done | rfl | (simp only [zL, zM]; rfl)) ?_
    with_reducible refine (laws_toRelation.calls k a0_0 a0_1 _ _ l0_2 _ _ l0_3 t429 t430 t431 t434 _ ?side1 ?side2 ?side3 ?side4 A28.out).mono ?_
    (case side1 => exact mC (yM HR0_2.out HB.out))
    (case side2 => exact HC0_2.out)
    (case side3 => exact mC (yM HR0_3.out HB.out))
    (case side4 => exact HC0_3.out)
    rintro e w69 ⟨v432, v435, rfl, ho0, ho1, hb⟩
    refine ⟨_, rfl, ?_⟩
    have n0_ := yA (Kd.S_elder' (mS HO414.out) (Kd.S_base ho0) hb)
    have n1_ := yA (zO (mR HO417.out) (yY ho1) hb)
    have n2_ := yA (Kd.S_elder' (mS HO423.out) (Kd.S_base ho0) hb)
    have n3_ := yA (zO (mR HO426.out) (yY ho1) hb)
    have n4_ := yA (Kd.S_lower (Kd.S_new' (Kd.S_new' ho0 (Kd.S_lt (mS HO414.out))) (Kd.S_lt (mS HO423.out))) (yX (by with_reducible repeat first | exact HB.out | apply yO | apply yN | apply yP | refine yQ ?_ GE408.out | refine yQ ?_ GE427.out)))
    have n5_ := yA (Kd.R_lower (Kd.R_new' (Kd.R_new' ho1 (yZ (mR HO417.out))) (yZ (mR HO426.out))) (yX (by with_reducible repeat first | exact HB.out | apply yO | apply yN | apply yP | refine yQ ?_ GE408.out | refine yQ ?_ GE427.out)))
    have n6_ := yA (yU (mK BK408.out) hb)
    have n7_ := yA (yU (mK BK427.out) hb)
    have n8_ := yA (zD (by with_reducible repeat first | exact HB.out | apply yO | apply yN | apply yP | refine yQ ?_ GE408.out | refine yQ ?_ GE427.out) hb)
    clear HO414
    clear HO417
    clear HO423
    clear HO426
    clear BK408
    clear BK427
    clear HB
    have HO414 := n0_
    have HO417 := n1_
    have HO423 := n2_
    have HO426 := n3_
    have HO433 := n4_
    have HO436 := n5_
    have BK408 := n6_
    have BK427 := n7_
    have HB := n8_
    clear n0_ n1_ n2_ n3_ n4_ n5_ n6_ n7_ n8_
    (try clear hb)
    (try clear hb2)
    (try clear hk)
    (try clear hi)
    (try clear ho0)
    (try clear ho1)
    obtain ⟨Ao70, co70, eo70⟩ := Kd.S_slice HO433.out
    (first | subst eo70 | (injection eo70 with f1_ f2_ f3_; have f4_ := f1_.symm; have f5_ := f3_.symm; clear f1_ f2_ f3_; subst f4_; subst f5_))
    obtain ⟨Ao71, co71, eo71⟩ := Kd.R_slice HO436.out
    (first | subst eo71 | (injection eo71 with f1_ f2_ f3_; have f4_ := f1_.symm; have f5_ := f3_.symm; clear f1_ f2_ f3_; subst f4_; subst f5_))
    refine hK.out _ _ ⟨(yV BK427.out 0).trans rfl, (yV BK427.out 1).trans rfl, (yV BK427.out 2).trans rfl, (yV BK427.out 3).trans rfl, (yV BK408.out 0).trans rfl, (yV BK408.out 1).trans rfl, (yV BK408.out 2).trans rfl, (yV BK408.out 3).trans rfl⟩ (fun hHeld => ?_)
    clear hK K
    refine norm_ (a' := ?_) ?_ ?_
    rotate_left
    ·show Act.put _ (some 24) _ = _
     simp only [Act.put, zA, zB, zC, i64_w, i32_w]
     rfl
    refine one_ (i := 3) (N := some 25) #[true, true, true, true, false] rfl rfl (by kernel_rfl) (by decide) (fun K hK => ?_)
    refine goes_ Try.func17 (by kernel_rfl) rfl #[.agg #[.int .i64 t419, .int .i64 t420, .slice Ao65 t421.length co65, .slice Ao66 t424.length co66], .agg #[.int .i64 t429, .int .i64 t430, .slice Ao70 t431.length co70, .slice Ao71 t434.length co71]] (by rfl) rfl rfl (by (try simp only [zI, zJ, zK]); first | done | rfl | (simp only [zL, zM]; rfl)) ?_
    with_reducible refine (laws_eqRelation.calls k t419 t420 _ _ t421 _ _ t424 t429 t430 _ _ t431 _ _ t434 false _ ?side1 ?side2 ?side3 ?side4 ?side5 ?side6 ?side7 ?side8 A29.out).mono ?_
    (case side1 => exact mC ((Kd.S_reads' HO423.out).2.2))
    (case side2 => exact (Kd.S_reads' HO423.out).2.1)
    (case side3 => exact mC ((zN HO426.out).2.2))
    (case side4 => exact (zN HO426.out).2.1)
    (case side5 => exact mC ((Kd.S_reads' HO433.out).2.2))
    (case side6 => exact (Kd.S_reads' HO433.out).2.1)
    (case side7 => exact mC ((zN HO436.out).2.2))
    (case side8 => exact (zN HO436.out).2.1)
    rintro e w72 ⟨rfl, hb⟩
    refine ⟨_, rfl, ?_⟩
    have n0_ := yA (yL (mS HO414.out) hb)
    have n1_ := yA (yK (mR HO417.out) hb)
    have n2_ := yA (yL (mS HO423.out) hb)
    have n3_ := yA (yK (mR HO426.out) hb)
    have n4_ := yA (yL (mS HO433.out) hb)
    have n5_ := yA (yK (mR HO436.out) hb)
    have n6_ := yA (yU (mK BK408.out) hb)
    have n7_ := yA (yU (mK BK427.out) hb)
    have n8_ := yA (zD (by with_reducible repeat first | exact HB.out | apply yO | apply yN | apply yP | refine yQ ?_ GE408.out | refine yQ ?_ GE427.out) hb)
    clear HO414
    clear HO417
    clear HO423
    clear HO426
    clear HO433
    clear HO436
    clear BK408
    clear BK427
    clear HB
    have HO414 := n0_
    have HO417 := n1_
    have HO423 := n2_
    have HO426 := n3_
    have HO433 := n4_
    have HO436 := n5_
    have BK408 := n6_
    have BK427 := n7_
    have HB := n8_
    clear n0_ n1_ n2_ n3_ n4_ n5_ n6_ n7_ n8_
    (try clear hb)
    (try clear hb2)
    (try clear hk)
    (try clear hi)
    refine hK.out _ _ ⟨(yV BK427.out 0).trans rfl, (yV BK427.out 1).trans rfl, (yV BK427.out 2).trans rfl, (yV BK427.out 3).trans rfl, (yV BK408.out 0).trans rfl, (yV BK408.out 1).trans rfl, (yV BK408.out 2).trans rfl, (yV BK408.out 3).trans rfl⟩ (fun hHeld => ?_)
    clear hK K
    refine norm_ (a' := ?_) ?_ ?_
    rotate_left
    ·show Act.put _ (some 25) _ = _
     simp only [Act.put, zA, zB, zC, i64_w, i32_w]
     rfl
    refine pure_ (i := 4) (N := some 26) (v := ?_) (a' := ?_) #[true, true, true, true, true] rfl rfl (by kernel_rfl) (fun _ _ _ h => h) (Or.inl ⟨by rfl, ?_⟩) ?_ ?_
    rotate_left
    ·intro w'
     go_simp
     with_reducible rfl
    rotate_left
    ·simp only [Act.put, zA, zB, zC, i64_w, i32_w]
     rfl
    refine done_ (by kernel_rfl) ?_
    try go_wp2
    go_ret
    exact ⟨by first | rfl | (simp [errW_none, errW_some] <;> rfl) | (simp [*, errW_none, errW_some] <;> rfl), by repeat (first | (with_reducible first | exact HB.out | apply yO | apply yN | apply yP | refine yQ ?_ GE408.out | refine yQ ?_ GE427.out) | exact HB.out)⟩

end Go.Proofs.Ytgopcliohchkmaa.Q
