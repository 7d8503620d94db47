-- written by a program of this session (a turned copy of the kit's print) out of the translation
-- squeezed
-- compact
import Derived.Test.YtdckaflfgbbabaaDoorQ0
import Derived.Test.YtdckaflfgbbabaaDoorQ1
import Derived.Test.YtdckaflfgbbabaaDoorQ7
import Derived.Test.YtdckaflfgbbabaaDoorQ9
import Derived.Test.YtdckaflfgbbabaaDoorQ19
import Derived.Test.YtdckaflfgbbabaaDoorQ21
namespace Go.Proofs.YtdckaflfgbbabaaDoor.Q
open Go.RowKit Go.Proofs.YtdckaflfgbbabaaDoorW.PrintWords Go.Proofs.YtdckaflfgbbabaaDoorW.PrintLast Go.Proofs.YtdckaflfgbbabaaDoorW.PrintMore
attribute [local go_sem] max2_int min2_int max_two min_two max_three min_three max_four min_four   -- for this text's walks alone
set_option linter.unusedVariables false
set_option linter.unusedSimpArgs false

/-! ### laws_FnExactFormatFormula: function 3 -/
def laws_FnExactFormatFormula.f (k : Nat) (l0 : List (S35)) : Option (Bool) := (laws_szNodeS.f l0 1048576).bind fun t266 => (if t266 < 0 then (some true) else ((laws_toNodeS.f k l0).bind fun t267 => ((spec_FormatFormula.f k t267).bind fun t270 => ((laws_toNodeS.f k l0).bind fun t271 => ((impl_FormatFormula.f k t271).bind fun t274 => (if t274.toList = t270.toList then ((laws_toNodeS.f k l0).bind fun t275 => ((laws_eqNodeS.f k t271 t275).bind fun t278 => (if t278 = true then (some true) else (some false)))) else (some false)))))))
theorem laws_FnExactFormatFormula.mono : ∀ a0 k, LeO (laws_FnExactFormatFormula.f k a0) (laws_FnExactFormatFormula.f (k + 1) a0) := by
 intro a0 k
 unfold laws_FnExactFormatFormula.f
 repeat' first
   | (with_reducible exact impl_FormatFormula.mono _ _)
   | (with_reducible exact laws_eqNodeS.mono _ _ _)
   | (with_reducible exact laws_toNodeS.mono _ _)
   | (with_reducible exact spec_FormatFormula.mono _ _)
   | (with_reducible exact LeO.refl _)
   | (with_reducible exact LeO.none _)
   | (with_reducible refine LeO.ite ?_ ?_)
   | (with_reducible refine LeO.bind ?_ (fun _ => ?_))
   | exact impl_FormatFormula.mono _ _
   | exact laws_eqNodeS.mono _ _ _
   | exact laws_toNodeS.mono _ _
   | exact spec_FormatFormula.mono _ _
   | exact LeO.none _
   | refine LeO.ite ?_ ?_
   | refine LeO.bind ?_ (fun _ => ?_)
set_option maxHeartbeats 8000000 in
set_option maxRecDepth 100000 in
theorem laws_FnExactFormatFormula.calls (k : Nat) (A0 : Option Addr) (c0 : Nat) (l0 : List (S35)) (r : Bool) (hr_ : r = true) (w : World) (hr0 : Kd.C k35 w A0 l0.length l0) (hc0 : l0.length ≤ c0) (h : laws_FnExactFormatFormula.f k l0 = some r) (ht_ : TabAt w := by first | exact HTAB.out | (exact TabAt.below HTAB.out (mB HB.out))) :
  Calls Tryd.prog 3 #[.slice A0 l0.length c0] w fun e w' => e = .returned (.bool r) ∧ Below w.heap.size w w' := by
 have HTAB := yA ht_
 clear ht_
 have HR0 := yA hr0
 have HC0 := yA hc0
 clear hr0 hc0
 have HB := yA (zV w.heap.size w)
 have H : ((laws_szNodeS.f l0 1048576).bind fun t266 => (if t266 < 0 then (some true) else ((laws_toNodeS.f k l0).bind fun t267 => ((spec_FormatFormula.f k t267).bind fun t270 => ((laws_toNodeS.f k l0).bind fun t271 => ((impl_FormatFormula.f k t271).bind fun t274 => (if t274.toList = t270.toList then ((laws_toNodeS.f k l0).bind fun t275 => ((laws_eqNodeS.f k t271 t275).bind fun t278 => (if t278 = true then (some true) else (some false)))) else (some false)))))))) = some r := h
 clear h
 replace H := Option.bind_eq_some_iff.mp H
 obtain ⟨t266, A20, H⟩ := H
 replace H : (if t266 < 0 then (some true) else ((laws_toNodeS.f k l0).bind fun t267 => ((spec_FormatFormula.f k t267).bind fun t270 => ((laws_toNodeS.f k l0).bind fun t271 => ((impl_FormatFormula.f k t271).bind fun t274 => (if t274.toList = t270.toList then ((laws_toNodeS.f k l0).bind fun t275 => ((laws_eqNodeS.f k t271 t275).bind fun t278 => (if t278 = true then (some true) else (some false)))) else (some false))))))) = some r := H
 have A2 := yA A20
 clear A20
 by_cases c3 : t266 < 0
 ·rw [if_pos c3] at H
  have c3b0 : decide (t266 < 0) = true := zH c3
  clear c3
  obtain rfl := zU H
  go_enter Tryd.func3, Tryd.ntmps3
  go_wp2_with (first | ((with_reducible refine zS (f := 5) rfl ?_); refine goesL_ (some 9) rfl rfl Tryd.func5 (by kernel_rfl) rfl #[.slice A0 l0.length c0, .int .i64 1048576] rfl (by (try simp only [zI, zJ, zK]); first | done | rfl | (simp only [zL, zM]; rfl)) ?_; (with_reducible refine (laws_szNodeS.calls _ _ l0 1048576 t266 _ ?side1 ?side2 A2.out).mono ?_); (case side1 => exact mC HR0.out); (case side2 => exact HC0.out); rintro e w' ⟨rfl, ⟨nd, rfl⟩⟩; refine ⟨_, rfl, ?_⟩))
  go_ret
  exact ⟨by first | rfl | (simp [errW_none, errW_some] <;> rfl) | (simp [*, errW_none, errW_some] <;> rfl), by repeat (first | (with_reducible first | exact HB.out | apply yO | apply yN | apply yP) | exact HB.out)⟩
 ·rw [if_neg c3] at H
  have c3b0 : decide (t266 < 0) = false := decide_eq_false c3
  clear c3
  replace H := Option.bind_eq_some_iff.mp H
  obtain ⟨t267, A40, H⟩ := H
  replace H : ((spec_FormatFormula.f k t267).bind fun t270 => ((laws_toNodeS.f k l0).bind fun t271 => ((impl_FormatFormula.f k t271).bind fun t274 => (if t274.toList = t270.toList then ((laws_toNodeS.f k l0).bind fun t275 => ((laws_eqNodeS.f k t271 t275).bind fun t278 => (if t278 = true then (some true) else (some false)))) else (some false))))) = some r := H
  have A4 := yA A40
  clear A40
  replace H := Option.bind_eq_some_iff.mp H
  obtain ⟨t270, A50, H⟩ := H
  replace H : ((laws_toNodeS.f k l0).bind fun t271 => ((impl_FormatFormula.f k t271).bind fun t274 => (if t274.toList = t270.toList then ((laws_toNodeS.f k l0).bind fun t275 => ((laws_eqNodeS.f k t271 t275).bind fun t278 => (if t278 = true then (some true) else (some false)))) else (some false)))) = some r := H
  have A5 := yA A50
  clear A50
  replace H := Option.bind_eq_some_iff.mp H
  obtain ⟨t271, A60, H⟩ := H
  replace H : ((impl_FormatFormula.f k t271).bind fun t274 => (if t274.toList = t270.toList then ((laws_toNodeS.f k l0).bind fun t275 => ((laws_eqNodeS.f k t271 t275).bind fun t278 => (if t278 = true then (some true) else (some false)))) else (some false))) = some r := H
  have A6 := yA A60
  clear A60
  replace H := Option.bind_eq_some_iff.mp H
  obtain ⟨t274, A70, H⟩ := H
  replace H : (if t274.toList = t270.toList then ((laws_toNodeS.f k l0).bind fun t275 => ((laws_eqNodeS.f k t271 t275).bind fun t278 => (if t278 = true then (some true) else (some false)))) else (some false)) = some r := H
  have A7 := yA A70
  clear A70
  by_cases c8 : t274.toList = t270.toList
  ·rw [if_pos c8] at H
   have c8b0 : (t274.toList == t270.toList) = true := beq_iff_eq.mpr c8
   have c8b1 : (t274.toList != t270.toList) = false := bne_eq_false_iff_eq.mpr c8
   clear c8
   replace H := Option.bind_eq_some_iff.mp H
   obtain ⟨t275, A90, H⟩ := H
   replace H : ((laws_eqNodeS.f k t271 t275).bind fun t278 => (if t278 = true then (some true) else (some false))) = some r := H
   have A9 := yA A90
   clear A90
   replace H := Option.bind_eq_some_iff.mp H
   obtain ⟨t278, A100, H⟩ := H
   replace H : (if t278 = true then (some true) else (some false)) = some r := H
   have A10 := yA A100
   clear A100
   by_cases c11 : t278 = true
   ·subst c11
    have H1 : (some true) = some r := by rw [if_pos rfl] at H; exact H
    clear H
    have H := H1
    clear H1
    obtain rfl := zU H
    go_enter Tryd.func3, Tryd.ntmps3
    go_wp2_with (first | ((with_reducible refine zS (f := 5) rfl ?_); refine goesL_ (some 9) rfl rfl Tryd.func5 (by kernel_rfl) rfl #[.slice A0 l0.length c0, .int .i64 1048576] rfl (by (try simp only [zI, zJ, zK]); first | done | rfl | (simp only [zL, zM]; rfl)) ?_; (with_reducible refine (laws_szNodeS.calls _ _ l0 1048576 t266 _ ?side1 ?side2 A2.out).mono ?_); (case side1 => exact mC HR0.out); (case side2 => exact HC0.out); rintro e w' ⟨rfl, ⟨nd, rfl⟩⟩; refine ⟨_, rfl, ?_⟩) | ((with_reducible refine zS (f := 7) rfl ?_); refine goesL_ (some 13) rfl rfl Tryd.func7 (by kernel_rfl) rfl #[.slice A0 l0.length c0] rfl (by (try simp only [zI, zJ, zK]); first | done | rfl | (simp only [zL, zM]; rfl)) ?_; (with_reducible refine (laws_toNodeS.calls k _ _ l0 t267 _ ?side1 ?side2 A4.out).mono ?_); (case side1 => exact mC HR0.out); (case side2 => exact HC0.out); rintro e w12 ⟨v268, rfl, ho0, hb⟩; refine ⟨_, rfl, ?_⟩; have n0_ := yA (Kd.R_lower ho0 (yX (mB HB.out))); have n1_ := yA (zD (mB HB.out) hb); clear HB; have HO269 := n0_; have HB := n1_; clear n0_ n1_; (try clear hb); (try clear hb2); (try clear hk); (try clear hi); (try clear ho0); obtain ⟨Ao13, co13, eo13⟩ := Kd.R_slice HO269.out; subst eo13) | ((with_reducible refine zS (f := 6) rfl ?_); refine goesL_ (some 14) rfl rfl Tryd.func6 (by kernel_rfl) rfl #[.slice Ao13 t267.length co13] rfl (by (try simp only [zI, zJ, zK]); first | done | rfl | (simp only [zL, zM]; rfl)) ?_; (with_reducible refine (spec_FormatFormula.calls k _ _ t267 t270 _ ?side1 ?side2 A5.out).mono ?_); (case side1 => exact mC ((zN HO269.out).2.2)); (case side2 => exact (zN HO269.out).2.1); rintro e w14 ⟨rfl, hb⟩; refine ⟨_, rfl, ?_⟩; have n0_ := yA (yK (mR HO269.out) hb); have n1_ := yA (zD (mB HB.out) hb); clear HO269; clear HB; have HO269 := n0_; have HB := n1_; clear n0_ n1_; (try clear hb); (try clear hb2); (try clear hk); (try clear hi)) | ((with_reducible refine zS (f := 7) rfl ?_); refine goesL_ (some 16) rfl rfl Tryd.func7 (by kernel_rfl) rfl #[.slice A0 l0.length c0] rfl (by (try simp only [zI, zJ, zK]); first | done | rfl | (simp only [zL, zM]; rfl)) ?_; (with_reducible refine (laws_toNodeS.calls k _ _ l0 t271 _ ?side1 ?side2 A6.out).mono ?_); (case side1 => exact mC (yM HR0.out HB.out)); (case side2 => exact HC0.out); rintro e w15 ⟨v272, rfl, ho0, hb⟩; refine ⟨_, rfl, ?_⟩; have n0_ := yA (zO (mR HO269.out) (yY ho0) hb); have n1_ := yA (Kd.R_lower (Kd.R_new' ho0 (yZ (mR HO269.out))) (yX (mB HB.out))); have n2_ := yA (zD (mB HB.out) hb); clear HO269; clear HB; have HO269 := n0_; have HO273 := n1_; have HB := n2_; clear n0_ n1_ n2_; (try clear hb); (try clear hb2); (try clear hk); (try clear hi); (try clear ho0); obtain ⟨Ao16, co16, eo16⟩ := Kd.R_slice HO273.out; subst eo16) | ((with_reducible refine zS (f := 8) rfl ?_); refine goesL_ (some 18) rfl rfl Tryd.func8 (by kernel_rfl) rfl #[.slice Ao16 t271.length co16] rfl (by (try simp only [zI, zJ, zK]); first | done | rfl | (simp only [zL, zM]; rfl)) ?_; (with_reducible refine (impl_FormatFormula.calls k _ _ t271 t274 _ ?side1 ?side2 A7.out).mono ?_); (case side1 => exact mC ((zN HO273.out).2.2)); (case side2 => exact (zN HO273.out).2.1); rintro e w17 ⟨rfl, hb⟩; refine ⟨_, rfl, ?_⟩; have n0_ := yA (yK (mR HO269.out) hb); have n1_ := yA (yK (mR HO273.out) hb); have n2_ := yA (zD (mB HB.out) hb); clear HO269; clear HO273; clear HB; have HO269 := n0_; have HO273 := n1_; have HB := n2_; clear n0_ n1_ n2_; (try clear hb); (try clear hb2); (try clear hk); (try clear hi)) | ((with_reducible refine zS (f := 7) rfl ?_); refine goesL_ (some 24) rfl rfl Tryd.func7 (by kernel_rfl) rfl #[.slice A0 l0.length c0] rfl (by (try simp only [zI, zJ, zK]); first | done | rfl | (simp only [zL, zM]; rfl)) ?_; (with_reducible refine (laws_toNodeS.calls k _ _ l0 t275 _ ?side1 ?side2 A9.out).mono ?_); (case side1 => exact mC (yM HR0.out HB.out)); (case side2 => exact HC0.out); rintro e w18 ⟨v276, rfl, ho0, hb⟩; refine ⟨_, rfl, ?_⟩; have n0_ := yA (zO (mR HO269.out) (yY ho0) hb); have n1_ := yA (zO (mR HO273.out) (yY ho0) hb); have n2_ := yA (Kd.R_lower (Kd.R_new' (Kd.R_new' ho0 (yZ (mR HO269.out))) (yZ (mR HO273.out))) (yX (mB HB.out))); have n3_ := yA (zD (mB HB.out) hb); clear HO269; clear HO273; clear HB; have HO269 := n0_; have HO273 := n1_; have HO277 := n2_; have HB := n3_; clear n0_ n1_ n2_ n3_; (try clear hb); (try clear hb2); (try clear hk); (try clear hi); (try clear ho0); obtain ⟨Ao19, co19, eo19⟩ := Kd.R_slice HO277.out; subst eo19) | ((with_reducible refine zS (f := 9) rfl ?_); refine goesL_ (some 25) rfl rfl Tryd.func9 (by kernel_rfl) rfl #[.slice Ao16 t271.length co16, .slice Ao19 t275.length co19] rfl (by (try simp only [zI, zJ, zK]); first | done | rfl | (simp only [zL, zM]; rfl)) ?_; (with_reducible refine (laws_eqNodeS.calls k _ _ t271 _ _ t275 true _ ?side1 ?side2 ?side3 ?side4 A10.out).mono ?_); (case side1 => exact mC ((zN HO273.out).2.2)); (case side2 => exact (zN HO273.out).2.1); (case side3 => exact mC ((zN HO277.out).2.2)); (case side4 => exact (zN HO277.out).2.1); rintro e w20 ⟨rfl, hb⟩; refine ⟨_, rfl, ?_⟩; have n0_ := yA (yK (mR HO269.out) hb); have n1_ := yA (yK (mR HO273.out) hb); have n2_ := yA (yK (mR HO277.out) hb); have n3_ := yA (zD (mB HB.out) hb); clear HO269; clear HO273; clear HO277; clear HB; have HO269 := n0_; have HO273 := n1_; have HO277 := n2_; have HB := n3_; clear n0_ n1_ n2_ n3_; (try clear hb); (try clear hb2); (try clear hk); (try clear hi)))
    go_ret
    exact ⟨by first | rfl | (simp [errW_none, errW_some] <;> rfl) | (simp [*, errW_none, errW_some] <;> rfl), by repeat (first | (with_reducible first | exact HB.out | apply yO | apply yN | apply yP) | exact HB.out)⟩
   ·replace c11 := Bool.eq_false_iff.mpr c11
    subst c11
    have H1 : (some false) = some r := by rw [if_neg (show ¬ (false = true) by decide)] at H; exact H
    clear H
    have H := H1
    clear H1
    obtain rfl := zU H
    cases hr_
  ·rw [if_neg c8] at H
   have c8b0 : (t274.toList == t270.toList) = false := beq_eq_false_iff_ne.mpr c8
   have c8b1 : (t274.toList != t270.toList) = true := bne_iff_ne.mpr c8
   obtain rfl := zU H
   cases hr_
end Go.Proofs.YtdckaflfgbbabaaDoor.Q
