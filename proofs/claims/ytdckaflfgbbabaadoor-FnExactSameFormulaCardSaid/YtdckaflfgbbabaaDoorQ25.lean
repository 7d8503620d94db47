-- written by a program of this session (a turned copy of the kit's print) out of the translation
-- squeezed
-- compact
import Derived.Test.YtdckaflfgbbabaaDoorQ0
import Derived.Test.YtdckaflfgbbabaaDoorQ1
import Derived.Test.YtdckaflfgbbabaaDoorQ9
import Derived.Test.YtdckaflfgbbabaaDoorQ21
import Derived.Test.YtdckaflfgbbabaaDoorQ23
import Derived.Test.YtdckaflfgbbabaaDoorQ24
namespace Go.Proofs.YtdckaflfgbbabaaDoor.Q
open Go.RowKit Go.Proofs.YtdckaflfgbbabaaDoorW.PrintWords Go.Proofs.YtdckaflfgbbabaaDoorW.PrintLast Go.Proofs.YtdckaflfgbbabaaDoorW.PrintMore
attribute [local go_sem] max2_int min2_int max_two min_two max_three min_three max_four min_four   -- for this text's walks alone
set_option linter.unusedVariables false
set_option linter.unusedSimpArgs false

/-! ### laws_FnExactSameFormula: function 4 -/
def laws_FnExactSameFormula.f (k : Nat) (l0 : List (S35)) (l1 : List (S35)) : Option (Bool) := (laws_szNodeS.f l0 1048576).bind fun t287 => (if t287 < 0 then (some true) else ((laws_szNodeS.f l1 t287).bind fun t288 => (if t288 < 0 then (some true) else ((laws_toNodeS.f k l0).bind fun t289 => ((laws_toNodeS.f k l1).bind fun t292 => ((spec_SameFormula.f k t289 t292).bind fun t295 => ((laws_toNodeS.f k l0).bind fun t296 => ((laws_toNodeS.f k l1).bind fun t299 => ((impl_SameFormula.f k t296 t299).bind fun t302 => (if (t302 != t295) = true then (some false) else ((laws_toNodeS.f k l0).bind fun t303 => ((laws_eqNodeS.f k t296 t303).bind fun t306 => (if t306 = true then ((laws_toNodeS.f k l1).bind fun t307 => ((laws_eqNodeS.f k t299 t307).bind fun t310 => (if t310 = true then (some true) else (some false)))) else (some false))))))))))))))
theorem laws_FnExactSameFormula.mono : ∀ a0 a1 k, LeO (laws_FnExactSameFormula.f k a0 a1) (laws_FnExactSameFormula.f (k + 1) a0 a1) := by
 intro a0 a1 k
 unfold laws_FnExactSameFormula.f
 repeat' first
   | (with_reducible exact impl_SameFormula.mono _ _ _)
   | (with_reducible exact laws_eqNodeS.mono _ _ _)
   | (with_reducible exact laws_toNodeS.mono _ _)
   | (with_reducible exact spec_SameFormula.mono _ _ _)
   | (with_reducible exact LeO.refl _)
   | (with_reducible exact LeO.none _)
   | (with_reducible refine LeO.ite ?_ ?_)
   | (with_reducible refine LeO.bind ?_ (fun _ => ?_))
   | exact impl_SameFormula.mono _ _ _
   | exact laws_eqNodeS.mono _ _ _
   | exact laws_toNodeS.mono _ _
   | exact spec_SameFormula.mono _ _ _
   | exact LeO.none _
   | refine LeO.ite ?_ ?_
   | refine LeO.bind ?_ (fun _ => ?_)
set_option maxHeartbeats 8000000 in
set_option maxRecDepth 100000 in
theorem laws_FnExactSameFormula.calls (k : Nat) (A0 : Option Addr) (c0 : Nat) (l0 : List (S35)) (A1 : Option Addr) (c1 : Nat) (l1 : List (S35)) (r : Bool) (hr_ : r = true) (w : World) (hr0 : Kd.C k35 w A0 l0.length l0) (hc0 : l0.length ≤ c0) (hr1 : Kd.C k35 w A1 l1.length l1) (hc1 : l1.length ≤ c1) (h : laws_FnExactSameFormula.f k l0 l1 = some r) (ht_ : TabAt w := by first | exact HTAB.out | (exact TabAt.below HTAB.out (mB HB.out))) :
  Calls Tryd.prog 4 #[.slice A0 l0.length c0, .slice A1 l1.length c1] w fun e w' => e = .returned (.bool r) ∧ Below w.heap.size w w' := by
 have HTAB := yA ht_
 clear ht_
 have HR0 := yA hr0
 have HC0 := yA hc0
 clear hr0 hc0
 have HR1 := yA hr1
 have HC1 := yA hc1
 clear hr1 hc1
 have HB := yA (zV w.heap.size w)
 have H : ((laws_szNodeS.f l0 1048576).bind fun t287 => (if t287 < 0 then (some true) else ((laws_szNodeS.f l1 t287).bind fun t288 => (if t288 < 0 then (some true) else ((laws_toNodeS.f k l0).bind fun t289 => ((laws_toNodeS.f k l1).bind fun t292 => ((spec_SameFormula.f k t289 t292).bind fun t295 => ((laws_toNodeS.f k l0).bind fun t296 => ((laws_toNodeS.f k l1).bind fun t299 => ((impl_SameFormula.f k t296 t299).bind fun t302 => (if (t302 != t295) = true then (some false) else ((laws_toNodeS.f k l0).bind fun t303 => ((laws_eqNodeS.f k t296 t303).bind fun t306 => (if t306 = true then ((laws_toNodeS.f k l1).bind fun t307 => ((laws_eqNodeS.f k t299 t307).bind fun t310 => (if t310 = true then (some true) else (some false)))) else (some false))))))))))))))) = some r := h
 clear h
 replace H := Option.bind_eq_some_iff.mp H
 obtain ⟨t287, A30, H⟩ := H
 replace H : (if t287 < 0 then (some true) else ((laws_szNodeS.f l1 t287).bind fun t288 => (if t288 < 0 then (some true) else ((laws_toNodeS.f k l0).bind fun t289 => ((laws_toNodeS.f k l1).bind fun t292 => ((spec_SameFormula.f k t289 t292).bind fun t295 => ((laws_toNodeS.f k l0).bind fun t296 => ((laws_toNodeS.f k l1).bind fun t299 => ((impl_SameFormula.f k t296 t299).bind fun t302 => (if (t302 != t295) = true then (some false) else ((laws_toNodeS.f k l0).bind fun t303 => ((laws_eqNodeS.f k t296 t303).bind fun t306 => (if t306 = true then ((laws_toNodeS.f k l1).bind fun t307 => ((laws_eqNodeS.f k t299 t307).bind fun t310 => (if t310 = true then (some true) else (some false)))) else (some false)))))))))))))) = some r := H
 have A3 := yA A30
 clear A30
 by_cases c4 : t287 < 0
 ·rw [if_pos c4] at H
  have c4b0 : decide (t287 < 0) = true := zH c4
  clear c4
  obtain rfl := zU H
  go_enter Tryd.func4, Tryd.ntmps4
  go_wp2_with (first | ((with_reducible refine zS (f := 5) rfl ?_); refine goesL_ (some 12) rfl rfl Tryd.func5 (by kernel_rfl) rfl #[.slice A0 l0.length c0, .int .i64 1048576] rfl (by (try simp only [zI, zJ, zK]); first | done | rfl | (simp only [zL, zM]; rfl)) ?_; (with_reducible refine (laws_szNodeS.calls _ _ l0 1048576 t287 _ ?side1 ?side2 A3.out).mono ?_); (case side1 => exact mC HR0.out); (case side2 => exact HC0.out); rintro e w' ⟨rfl, ⟨nd, rfl⟩⟩; refine ⟨_, rfl, ?_⟩))
  go_ret
  exact ⟨by first | rfl | (simp [errW_none, errW_some] <;> rfl) | (simp [*, errW_none, errW_some] <;> rfl), by repeat (first | (with_reducible first | exact HB.out | apply yO | apply yN | apply yP) | exact HB.out)⟩
 ·rw [if_neg c4] at H
  have c4b0 : decide (t287 < 0) = false := decide_eq_false c4
  clear c4
  replace H := Option.bind_eq_some_iff.mp H
  obtain ⟨t288, A50, H⟩ := H
  replace H : (if t288 < 0 then (some true) else ((laws_toNodeS.f k l0).bind fun t289 => ((laws_toNodeS.f k l1).bind fun t292 => ((spec_SameFormula.f k t289 t292).bind fun t295 => ((laws_toNodeS.f k l0).bind fun t296 => ((laws_toNodeS.f k l1).bind fun t299 => ((impl_SameFormula.f k t296 t299).bind fun t302 => (if (t302 != t295) = true then (some false) else ((laws_toNodeS.f k l0).bind fun t303 => ((laws_eqNodeS.f k t296 t303).bind fun t306 => (if t306 = true then ((laws_toNodeS.f k l1).bind fun t307 => ((laws_eqNodeS.f k t299 t307).bind fun t310 => (if t310 = true then (some true) else (some false)))) else (some false)))))))))))) = some r := H
  have A5 := yA A50
  clear A50
  by_cases c6 : t288 < 0
  ·rw [if_pos c6] at H
   have c6b0 : decide (t288 < 0) = true := zH c6
   clear c6
   obtain rfl := zU H
   go_enter Tryd.func4, Tryd.ntmps4
   go_wp2_with (first | ((with_reducible refine zS (f := 5) rfl ?_); refine goesL_ (some 12) rfl rfl Tryd.func5 (by kernel_rfl) rfl #[.slice A0 l0.length c0, .int .i64 1048576] rfl (by (try simp only [zI, zJ, zK]); first | done | rfl | (simp only [zL, zM]; rfl)) ?_; (with_reducible refine (laws_szNodeS.calls _ _ l0 1048576 t287 _ ?side1 ?side2 A3.out).mono ?_); (case side1 => exact mC HR0.out); (case side2 => exact HC0.out); rintro e w' ⟨rfl, ⟨nd, rfl⟩⟩; refine ⟨_, rfl, ?_⟩) | ((with_reducible refine zS (f := 5) rfl ?_); refine goesL_ (some 17) rfl rfl Tryd.func5 (by kernel_rfl) rfl #[.slice A1 l1.length c1, .int .i64 t287] rfl (by (try simp only [zI, zJ, zK]); first | done | rfl | (simp only [zL, zM]; rfl)) ?_; (with_reducible refine (laws_szNodeS.calls _ _ l1 t287 t288 _ ?side1 ?side2 A5.out).mono ?_); (case side1 => exact mC HR1.out); (case side2 => exact HC1.out); rintro e w' ⟨rfl, ⟨nd, rfl⟩⟩; refine ⟨_, rfl, ?_⟩))
   go_ret
   exact ⟨by first | rfl | (simp [errW_none, errW_some] <;> rfl) | (simp [*, errW_none, errW_some] <;> rfl), by repeat (first | (with_reducible first | exact HB.out | apply yO | apply yN | apply yP) | exact HB.out)⟩
  ·rw [if_neg c6] at H
   have c6b0 : decide (t288 < 0) = false := decide_eq_false c6
   clear c6
   replace H := Option.bind_eq_some_iff.mp H
   obtain ⟨t289, A70, H⟩ := H
   replace H : ((laws_toNodeS.f k l1).bind fun t292 => ((spec_SameFormula.f k t289 t292).bind fun t295 => ((laws_toNodeS.f k l0).bind fun t296 => ((laws_toNodeS.f k l1).bind fun t299 => ((impl_SameFormula.f k t296 t299).bind fun t302 => (if (t302 != t295) = true then (some false) else ((laws_toNodeS.f k l0).bind fun t303 => ((laws_eqNodeS.f k t296 t303).bind fun t306 => (if t306 = true then ((laws_toNodeS.f k l1).bind fun t307 => ((laws_eqNodeS.f k t299 t307).bind fun t310 => (if t310 = true then (some true) else (some false)))) else (some false)))))))))) = some r := H
   have A7 := yA A70
   clear A70
   replace H := Option.bind_eq_some_iff.mp H
   obtain ⟨t292, A80, H⟩ := H
   replace H : ((spec_SameFormula.f k t289 t292).bind fun t295 => ((laws_toNodeS.f k l0).bind fun t296 => ((laws_toNodeS.f k l1).bind fun t299 => ((impl_SameFormula.f k t296 t299).bind fun t302 => (if (t302 != t295) = true then (some false) else ((laws_toNodeS.f k l0).bind fun t303 => ((laws_eqNodeS.f k t296 t303).bind fun t306 => (if t306 = true then ((laws_toNodeS.f k l1).bind fun t307 => ((laws_eqNodeS.f k t299 t307).bind fun t310 => (if t310 = true then (some true) else (some false)))) else (some false))))))))) = some r := H
   have A8 := yA A80
   clear A80
   replace H := Option.bind_eq_some_iff.mp H
   obtain ⟨t295, A90, H⟩ := H
   replace H : ((laws_toNodeS.f k l0).bind fun t296 => ((laws_toNodeS.f k l1).bind fun t299 => ((impl_SameFormula.f k t296 t299).bind fun t302 => (if (t302 != t295) = true then (some false) else ((laws_toNodeS.f k l0).bind fun t303 => ((laws_eqNodeS.f k t296 t303).bind fun t306 => (if t306 = true then ((laws_toNodeS.f k l1).bind fun t307 => ((laws_eqNodeS.f k t299 t307).bind fun t310 => (if t310 = true then (some true) else (some false)))) else (some false)))))))) = some r := H
   have A9 := yA A90
   clear A90
   replace H := Option.bind_eq_some_iff.mp H
   obtain ⟨t296, A100, H⟩ := H
   replace H : ((laws_toNodeS.f k l1).bind fun t299 => ((impl_SameFormula.f k t296 t299).bind fun t302 => (if (t302 != t295) = true then (some false) else ((laws_toNodeS.f k l0).bind fun t303 => ((laws_eqNodeS.f k t296 t303).bind fun t306 => (if t306 = true then ((laws_toNodeS.f k l1).bind fun t307 => ((laws_eqNodeS.f k t299 t307).bind fun t310 => (if t310 = true then (some true) else (some false)))) else (some false))))))) = some r := H
   have A10 := yA A100
   clear A100
   replace H := Option.bind_eq_some_iff.mp H
   obtain ⟨t299, A110, H⟩ := H
   replace H : ((impl_SameFormula.f k t296 t299).bind fun t302 => (if (t302 != t295) = true then (some false) else ((laws_toNodeS.f k l0).bind fun t303 => ((laws_eqNodeS.f k t296 t303).bind fun t306 => (if t306 = true then ((laws_toNodeS.f k l1).bind fun t307 => ((laws_eqNodeS.f k t299 t307).bind fun t310 => (if t310 = true then (some true) else (some false)))) else (some false)))))) = some r := H
   have A11 := yA A110
   clear A110
   replace H := Option.bind_eq_some_iff.mp H
   obtain ⟨t302, A120, H⟩ := H
   replace H : (if (t302 != t295) = true then (some false) else ((laws_toNodeS.f k l0).bind fun t303 => ((laws_eqNodeS.f k t296 t303).bind fun t306 => (if t306 = true then ((laws_toNodeS.f k l1).bind fun t307 => ((laws_eqNodeS.f k t299 t307).bind fun t310 => (if t310 = true then (some true) else (some false)))) else (some false))))) = some r := H
   have A12 := yA A120
   clear A120
   by_cases c13 : (t302 != t295) = true
   ·rw [if_pos c13] at H
    have c13b0 : (t302 != t295) = true := c13
    (try (have c13b1 : decide (t302 = t295) = false := by simpa using c13))
    (try (have c13b2 : (t302 == t295) = false := by simpa using c13))
    (try (have c13b3 : ¬ (t302 = t295) := by simpa using c13))
    clear c13
    obtain rfl := zU H
    cases hr_
   ·rw [if_neg c13] at H
    have c13b0 : (t302 != t295) = false := by simpa using c13
    (try (have c13b1 : decide (t302 = t295) = true := by simpa using c13))
    (try (have c13b2 : (t302 == t295) = true := by simpa using c13))
    clear c13
    replace H := Option.bind_eq_some_iff.mp H
    obtain ⟨t303, A240, H⟩ := H
    replace H : ((laws_eqNodeS.f k t296 t303).bind fun t306 => (if t306 = true then ((laws_toNodeS.f k l1).bind fun t307 => ((laws_eqNodeS.f k t299 t307).bind fun t310 => (if t310 = true then (some true) else (some false)))) else (some false))) = some r := H
    have A24 := yA A240
    clear A240
    replace H := Option.bind_eq_some_iff.mp H
    obtain ⟨t306, A250, H⟩ := H
    replace H : (if t306 = true then ((laws_toNodeS.f k l1).bind fun t307 => ((laws_eqNodeS.f k t299 t307).bind fun t310 => (if t310 = true then (some true) else (some false)))) else (some false)) = some r := H
    have A25 := yA A250
    clear A250
    by_cases c26 : t306 = true
    ·subst c26
     have H1 : ((laws_toNodeS.f k l1).bind fun t307 => ((laws_eqNodeS.f k t299 t307).bind fun t310 => (if t310 = true then (some true) else (some false)))) = some r := by rw [if_pos rfl] at H; exact H
     clear H
     have H := H1
     clear H1
     replace H := Option.bind_eq_some_iff.mp H
     obtain ⟨t307, A270, H⟩ := H
     replace H : ((laws_eqNodeS.f k t299 t307).bind fun t310 => (if t310 = true then (some true) else (some false))) = some r := H
     have A27 := yA A270
     clear A270
     replace H := Option.bind_eq_some_iff.mp H
     obtain ⟨t310, A280, H⟩ := H
     replace H : (if t310 = true then (some true) else (some false)) = some r := H
     have A28 := yA A280
     clear A280
     by_cases c29 : t310 = true
     ·subst c29
      have H1 : (some true) = some r := by rw [if_pos rfl] at H; exact H
      clear H
      have H := H1
      clear H1
      obtain rfl := zU H
      go_enter Tryd.func4, Tryd.ntmps4
      go_wp2_with (first | ((with_reducible refine zS (f := 5) rfl ?_); refine goesL_ (some 12) rfl rfl Tryd.func5 (by kernel_rfl) rfl #[.slice A0 l0.length c0, .int .i64 1048576] rfl (by (try simp only [zI, zJ, zK]); first | done | rfl | (simp only [zL, zM]; rfl)) ?_; (with_reducible refine (laws_szNodeS.calls _ _ l0 1048576 t287 _ ?side1 ?side2 A3.out).mono ?_); (case side1 => exact mC HR0.out); (case side2 => exact HC0.out); rintro e w' ⟨rfl, ⟨nd, rfl⟩⟩; refine ⟨_, rfl, ?_⟩) | ((with_reducible refine zS (f := 5) rfl ?_); refine goesL_ (some 17) rfl rfl Tryd.func5 (by kernel_rfl) rfl #[.slice A1 l1.length c1, .int .i64 t287] rfl (by (try simp only [zI, zJ, zK]); first | done | rfl | (simp only [zL, zM]; rfl)) ?_; (with_reducible refine (laws_szNodeS.calls _ _ l1 t287 t288 _ ?side1 ?side2 A5.out).mono ?_); (case side1 => exact mC HR1.out); (case side2 => exact HC1.out); rintro e w' ⟨rfl, ⟨nd, rfl⟩⟩; refine ⟨_, rfl, ?_⟩) | ((with_reducible refine zS (f := 7) rfl ?_); refine goesL_ (some 21) rfl rfl Tryd.func7 (by kernel_rfl) rfl #[.slice A0 l0.length c0] rfl (by (try simp only [zI, zJ, zK]); first | done | rfl | (simp only [zL, zM]; rfl)) ?_; (with_reducible refine (laws_toNodeS.calls k _ _ l0 t289 _ ?side1 ?side2 A7.out).mono ?_); (case side1 => exact mC HR0.out); (case side2 => exact HC0.out); rintro e w30 ⟨v290, rfl, ho0, hb⟩; refine ⟨_, rfl, ?_⟩; have n0_ := yA (Kd.R_lower ho0 (yX (mB HB.out))); have n1_ := yA (zD (mB HB.out) hb); clear HB; have HO291 := n0_; have HB := n1_; clear n0_ n1_; (try clear hb); (try clear hb2); (try clear hk); (try clear hi); (try clear ho0)) | ((with_reducible refine zS (f := 7) rfl ?_); refine goesL_ (some 23) rfl rfl Tryd.func7 (by kernel_rfl) rfl #[.slice A1 l1.length c1] rfl (by (try simp only [zI, zJ, zK]); first | done | rfl | (simp only [zL, zM]; rfl)) ?_; (with_reducible refine (laws_toNodeS.calls k _ _ l1 t292 _ ?side1 ?side2 A8.out).mono ?_); (case side1 => exact mC (yM HR1.out HB.out)); (case side2 => exact HC1.out); rintro e w31 ⟨v293, rfl, ho0, hb⟩; refine ⟨_, rfl, ?_⟩; have n0_ := yA (zO (mR HO291.out) (yY ho0) hb); have n1_ := yA (Kd.R_lower (Kd.R_new' ho0 (yZ (mR HO291.out))) (yX (mB HB.out))); have n2_ := yA (zD (mB HB.out) hb); clear HO291; clear HB; have HO291 := n0_; have HO294 := n1_; have HB := n2_; clear n0_ n1_ n2_; (try clear hb); (try clear hb2); (try clear hk); (try clear hi); (try clear ho0); obtain ⟨Ao32, co32, eo32⟩ := Kd.R_slice HO291.out; subst eo32; obtain ⟨Ao33, co33, eo33⟩ := Kd.R_slice HO294.out; subst eo33) | ((with_reducible refine zS (f := 10) rfl ?_); refine goesL_ (some 24) rfl rfl Tryd.func10 (by kernel_rfl) rfl #[.slice Ao32 t289.length co32, .slice Ao33 t292.length co33] rfl (by (try simp only [zI, zJ, zK]); first | done | rfl | (simp only [zL, zM]; rfl)) ?_; (with_reducible refine (spec_SameFormula.calls k _ _ t289 _ _ t292 t295 _ ?side1 ?side2 ?side3 ?side4 A9.out).mono ?_); (case side1 => exact mC ((zN HO291.out).2.2)); (case side2 => exact (zN HO291.out).2.1); (case side3 => exact mC ((zN HO294.out).2.2)); (case side4 => exact (zN HO294.out).2.1); rintro e w34 ⟨rfl, hb⟩; refine ⟨_, rfl, ?_⟩; have n0_ := yA (yK (mR HO291.out) hb); have n1_ := yA (yK (mR HO294.out) hb); have n2_ := yA (zD (mB HB.out) hb); clear HO291; clear HO294; clear HB; have HO291 := n0_; have HO294 := n1_; have HB := n2_; clear n0_ n1_ n2_; (try clear hb); (try clear hb2); (try clear hk); (try clear hi)) | ((with_reducible refine zS (f := 7) rfl ?_); refine goesL_ (some 26) rfl rfl Tryd.func7 (by kernel_rfl) rfl #[.slice A0 l0.length c0] rfl (by (try simp only [zI, zJ, zK]); first | done | rfl | (simp only [zL, zM]; rfl)) ?_; (with_reducible refine (laws_toNodeS.calls k _ _ l0 t296 _ ?side1 ?side2 A10.out).mono ?_); (case side1 => exact mC (yM HR0.out HB.out)); (case side2 => exact HC0.out); rintro e w35 ⟨v297, rfl, ho0, hb⟩; refine ⟨_, rfl, ?_⟩; have n0_ := yA (zO (mR HO291.out) (yY ho0) hb); have n1_ := yA (zO (mR HO294.out) (yY ho0) hb); have n2_ := yA (Kd.R_lower (Kd.R_new' (Kd.R_new' ho0 (yZ (mR HO291.out))) (yZ (mR HO294.out))) (yX (mB HB.out))); have n3_ := yA (zD (mB HB.out) hb); clear HO291; clear HO294; clear HB; have HO291 := n0_; have HO294 := n1_; have HO298 := n2_; have HB := n3_; clear n0_ n1_ n2_ n3_; (try clear hb); (try clear hb2); (try clear hk); (try clear hi); (try clear ho0)) | ((with_reducible refine zS (f := 7) rfl ?_); refine goesL_ (some 28) rfl rfl Tryd.func7 (by kernel_rfl) rfl #[.slice A1 l1.length c1] rfl (by (try simp only [zI, zJ, zK]); first | done | rfl | (simp only [zL, zM]; rfl)) ?_; (with_reducible refine (laws_toNodeS.calls k _ _ l1 t299 _ ?side1 ?side2 A11.out).mono ?_); (case side1 => exact mC (yM HR1.out HB.out)); (case side2 => exact HC1.out); rintro e w36 ⟨v300, rfl, ho0, hb⟩; refine ⟨_, rfl, ?_⟩; have n0_ := yA (zO (mR HO291.out) (yY ho0) hb); have n1_ := yA (zO (mR HO294.out) (yY ho0) hb); have n2_ := yA (zO (mR HO298.out) (yY ho0) hb); have n3_ := yA (Kd.R_lower (Kd.R_new' (Kd.R_new' (Kd.R_new' ho0 (yZ (mR HO291.out))) (yZ (mR HO294.out))) (yZ (mR HO298.out))) (yX (mB HB.out))); have n4_ := yA (zD (mB HB.out) hb); clear HO291; clear HO294; clear HO298; clear HB; have HO291 := n0_; have HO294 := n1_; have HO298 := n2_; have HO301 := n3_; have HB := n4_; clear n0_ n1_ n2_ n3_ n4_; (try clear hb); (try clear hb2); (try clear hk); (try clear hi); (try clear ho0); obtain ⟨Ao37, co37, eo37⟩ := Kd.R_slice HO298.out; subst eo37; obtain ⟨Ao38, co38, eo38⟩ := Kd.R_slice HO301.out; subst eo38) | ((with_reducible refine zS (f := 11) rfl ?_); refine goesL_ (some 31) rfl rfl Tryd.func11 (by kernel_rfl) rfl #[.slice Ao37 t296.length co37, .slice Ao38 t299.length co38] rfl (by (try simp only [zI, zJ, zK]); first | done | rfl | (simp only [zL, zM]; rfl)) ?_; (with_reducible refine (impl_SameFormula.calls k _ _ t296 _ _ t299 t302 _ ?side1 ?side2 ?side3 ?side4 A12.out).mono ?_); (case side1 => exact mC ((zN HO298.out).2.2)); (case side2 => exact (zN HO298.out).2.1); (case side3 => exact mC ((zN HO301.out).2.2)); (case side4 => exact (zN HO301.out).2.1); rintro e w39 ⟨rfl, hb⟩; refine ⟨_, rfl, ?_⟩; have n0_ := yA (yK (mR HO291.out) hb); have n1_ := yA (yK (mR HO294.out) hb); have n2_ := yA (yK (mR HO298.out) hb); have n3_ := yA (yK (mR HO301.out) hb); have n4_ := yA (zD (mB HB.out) hb); clear HO291; clear HO294; clear HO298; clear HO301; clear HB; have HO291 := n0_; have HO294 := n1_; have HO298 := n2_; have HO301 := n3_; have HB := n4_; clear n0_ n1_ n2_ n3_ n4_; (try clear hb); (try clear hb2); (try clear hk); (try clear hi)) | ((with_reducible refine zS (f := 7) rfl ?_); refine goesL_ (some 37) rfl rfl Tryd.func7 (by kernel_rfl) rfl #[.slice A0 l0.length c0] rfl (by (try simp only [zI, zJ, zK]); first | done | rfl | (simp only [zL, zM]; rfl)) ?_; (with_reducible refine (laws_toNodeS.calls k _ _ l0 t303 _ ?side1 ?side2 A24.out).mono ?_); (case side1 => exact mC (yM HR0.out HB.out)); (case side2 => exact HC0.out); rintro e w40 ⟨v304, rfl, ho0, hb⟩; refine ⟨_, rfl, ?_⟩; have n0_ := yA (zO (mR HO291.out) (yY ho0) hb); have n1_ := yA (zO (mR HO294.out) (yY ho0) hb); have n2_ := yA (zO (mR HO298.out) (yY ho0) hb); have n3_ := yA (zO (mR HO301.out) (yY ho0) hb); have n4_ := yA (Kd.R_lower (Kd.R_new' (Kd.R_new' (Kd.R_new' (Kd.R_new' ho0 (yZ (mR HO291.out))) (yZ (mR HO294.out))) (yZ (mR HO298.out))) (yZ (mR HO301.out))) (yX (mB HB.out))); have n5_ := yA (zD (mB HB.out) hb); clear HO291; clear HO294; clear HO298; clear HO301; clear HB; have HO291 := n0_; have HO294 := n1_; have HO298 := n2_; have HO301 := n3_; have HO305 := n4_; have HB := n5_; clear n0_ n1_ n2_ n3_ n4_ n5_; (try clear hb); (try clear hb2); (try clear hk); (try clear hi); (try clear ho0); obtain ⟨Ao41, co41, eo41⟩ := Kd.R_slice HO305.out; subst eo41) | ((with_reducible refine zS (f := 9) rfl ?_); refine goesL_ (some 38) rfl rfl Tryd.func9 (by kernel_rfl) rfl #[.slice Ao37 t296.length co37, .slice Ao41 t303.length co41] rfl (by (try simp only [zI, zJ, zK]); first | done | rfl | (simp only [zL, zM]; rfl)) ?_; (with_reducible refine (laws_eqNodeS.calls k _ _ t296 _ _ t303 true _ ?side1 ?side2 ?side3 ?side4 A25.out).mono ?_); (case side1 => exact mC ((zN HO298.out).2.2)); (case side2 => exact (zN HO298.out).2.1); (case side3 => exact mC ((zN HO305.out).2.2)); (case side4 => exact (zN HO305.out).2.1); rintro e w42 ⟨rfl, hb⟩; refine ⟨_, rfl, ?_⟩; have n0_ := yA (yK (mR HO291.out) hb); have n1_ := yA (yK (mR HO294.out) hb); have n2_ := yA (yK (mR HO298.out) hb); have n3_ := yA (yK (mR HO301.out) hb); have n4_ := yA (yK (mR HO305.out) hb); have n5_ := yA (zD (mB HB.out) hb); clear HO291; clear HO294; clear HO298; clear HO301; clear HO305; clear HB; have HO291 := n0_; have HO294 := n1_; have HO298 := n2_; have HO301 := n3_; have HO305 := n4_; have HB := n5_; clear n0_ n1_ n2_ n3_ n4_ n5_; (try clear hb); (try clear hb2); (try clear hk); (try clear hi)) | ((with_reducible refine zS (f := 7) rfl ?_); refine goesL_ (some 42) rfl rfl Tryd.func7 (by kernel_rfl) rfl #[.slice A1 l1.length c1] rfl (by (try simp only [zI, zJ, zK]); first | done | rfl | (simp only [zL, zM]; rfl)) ?_; (with_reducible refine (laws_toNodeS.calls k _ _ l1 t307 _ ?side1 ?side2 A27.out).mono ?_); (case side1 => exact mC (yM HR1.out HB.out)); (case side2 => exact HC1.out); rintro e w43 ⟨v308, rfl, ho0, hb⟩; refine ⟨_, rfl, ?_⟩; have n0_ := yA (zO (mR HO291.out) (yY ho0) hb); have n1_ := yA (zO (mR HO294.out) (yY ho0) hb); have n2_ := yA (zO (mR HO298.out) (yY ho0) hb); have n3_ := yA (zO (mR HO301.out) (yY ho0) hb); have n4_ := yA (zO (mR HO305.out) (yY ho0) hb); have n5_ := yA (Kd.R_lower (Kd.R_new' (Kd.R_new' (Kd.R_new' (Kd.R_new' (Kd.R_new' ho0 (yZ (mR HO291.out))) (yZ (mR HO294.out))) (yZ (mR HO298.out))) (yZ (mR HO301.out))) (yZ (mR HO305.out))) (yX (mB HB.out))); have n6_ := yA (zD (mB HB.out) hb); clear HO291; clear HO294; clear HO298; clear HO301; clear HO305; clear HB; have HO291 := n0_; have HO294 := n1_; have HO298 := n2_; have HO301 := n3_; have HO305 := n4_; have HO309 := n5_; have HB := n6_; clear n0_ n1_ n2_ n3_ n4_ n5_ n6_; (try clear hb); (try clear hb2); (try clear hk); (try clear hi); (try clear ho0); obtain ⟨Ao44, co44, eo44⟩ := Kd.R_slice HO309.out; subst eo44) | ((with_reducible refine zS (f := 9) rfl ?_); refine goesL_ (some 43) rfl rfl Tryd.func9 (by kernel_rfl) rfl #[.slice Ao38 t299.length co38, .slice Ao44 t307.length co44] rfl (by (try simp only [zI, zJ, zK]); first | done | rfl | (simp only [zL, zM]; rfl)) ?_; (with_reducible refine (laws_eqNodeS.calls k _ _ t299 _ _ t307 true _ ?side1 ?side2 ?side3 ?side4 A28.out).mono ?_); (case side1 => exact mC ((zN HO301.out).2.2)); (case side2 => exact (zN HO301.out).2.1); (case side3 => exact mC ((zN HO309.out).2.2)); (case side4 => exact (zN HO309.out).2.1); rintro e w45 ⟨rfl, hb⟩; refine ⟨_, rfl, ?_⟩; have n0_ := yA (yK (mR HO291.out) hb); have n1_ := yA (yK (mR HO294.out) hb); have n2_ := yA (yK (mR HO298.out) hb); have n3_ := yA (yK (mR HO301.out) hb); have n4_ := yA (yK (mR HO305.out) hb); have n5_ := yA (yK (mR HO309.out) hb); have n6_ := yA (zD (mB HB.out) hb); clear HO291; clear HO294; clear HO298; clear HO301; clear HO305; clear HO309; clear HB; have HO291 := n0_; have HO294 := n1_; have HO298 := n2_; have HO301 := n3_; have HO305 := n4_; have HO309 := n5_; have HB := n6_; clear n0_ n1_ n2_ n3_ n4_ n5_ n6_; (try clear hb); (try clear hb2); (try clear hk); (try clear hi)))
      go_ret
      exact ⟨by first | rfl | (simp [errW_none, errW_some] <;> rfl) | (simp [*, errW_none, errW_some] <;> rfl), by repeat (first | (with_reducible first | exact HB.out | apply yO | apply yN | apply yP) | exact HB.out)⟩
     ·replace c29 := Bool.eq_false_iff.mpr c29
      subst c29
      have H1 : (some false) = some r := by rw [if_neg (show ¬ (false = true) by decide)] at H; exact H
      clear H
      have H := H1
      clear H1
      obtain rfl := zU H
      cases hr_
    ·replace c26 := Bool.eq_false_iff.mpr c26
     subst c26
     have H1 : (some false) = some r := by rw [if_neg (show ¬ (false = true) by decide)] at H; exact H
     clear H
     have H := H1
     clear H1
     obtain rfl := zU H
     cases hr_
end Go.Proofs.YtdckaflfgbbabaaDoor.Q
