/- The pure law FnExactCompareZeckendorf: what the printed functions of the program and of the reference compute agrees, for all arguments within the bounds that the statement gives. -/
import Derived.Test.YtaobkepknhnfoaaPFnExactCompareZeckendorfx2
namespace Go.Proofs.Ytaobkepknhnfoaa.Pure
open Go.RowKit Go.Proofs.Ytaobkepknhnfoaa.PFnExactCompareZeckendorf Go.Proofs.YtaobkepknhnfoaaW.PrintWords Go.Proofs.YtaobkepknhnfoaaW.PrintLast
set_option linter.unusedVariables false
set_option linter.unusedSimpArgs false

/-! base -/
theorem w64 {x : Int} (h0 : -9223372036854775808 ≤ x) (h1 : x < 9223372036854775808) : wrap64 x = x := by
  unfold wrap64; omega

theorem rd_of {xs : List Int} {i : Nat} (h : i < xs.length) : rd xs (i : Int) = xs[i] := by
  simp [rd, List.getD_eq_getElem?_getD, h]

/-! CompareWords -/
def cmpw : List Int → List Int → Int
  | [], [] => 0
  | [], _ :: _ => -1
  | _ :: _, [] => 1
  | x :: s, y :: t => if x < y then -1 else if y < x then 1 else cmpw s t

theorem specCW_l0 (x0 x1 : List Int) (hb : x0.length ≤ 1048576) (d : Nat) : ∀ (i : Nat), i + d = x0.length → i ≤ x1.length →
    Ev (fun k => spec_CompareWords.l0 k x0 x1 i) (cmpw (x0.drop i) (x1.drop i)) := by
  induction d with
  | zero =>
    intro i hi h1
    rw [List.drop_of_length_le (l := x0) (by omega)]
    refine Ev.step (f := fun k => spec_CompareWords.j1 k x0 x1 i false) (fun k => ?_) ?_
    · rw [spec_CompareWords.l0, if_neg (by omega)]
    · refine Ev.step (f := fun _ => some _) (fun k => ?_) (Ev.now _)
      rw [spec_CompareWords.j1, if_neg (by simp)]
      by_cases h : x1.length = i
      · rw [List.drop_of_length_le (l := x1) (by omega), if_neg (by omega), if_neg (by omega), cmpw]
      · rw [List.drop_eq_getElem_cons (show i < x1.length by omega), if_pos (by omega), cmpw]
  | succ d ih =>
    intro i hi h1
    have e0 : x0.drop i = x0[i]'(by omega) :: x0.drop (i + 1) := List.drop_eq_getElem_cons (by omega)
    have hr : rd x0 (i : Int) = x0[i]'(by omega) := rd_of (by omega)
    refine Ev.step (f := fun k => spec_CompareWords.j1 k x0 x1 i (decide ((i : Int) < (x1.length : Int)))) (fun k => ?_) ?_
    · rw [spec_CompareWords.l0, if_pos (by omega)]
    by_cases h : i < x1.length
    · have e1 : x1.drop i = x1[i]'(by omega) :: x1.drop (i + 1) := List.drop_eq_getElem_cons (by omega)
      have hr1 : rd x1 (i : Int) = x1[i]'(by omega) := rd_of (by omega)
      rw [e0, e1, cmpw, decide_eq_true (by omega)]
      by_cases hlt : x0[i]'(by omega) < x1[i]'(by omega)
      · rw [if_pos hlt]
        refine Ev.step (f := fun _ => some _) (fun k => ?_) (Ev.now _)
        rw [spec_CompareWords.j1, if_pos rfl, if_pos (by omega), if_pos (by omega), if_pos (by omega), hr, hr1, if_pos hlt]
      · rw [if_neg hlt]
        by_cases hgt : x1[i]'(by omega) < x0[i]'(by omega)
        · rw [if_pos hgt]
          refine Ev.step (f := fun _ => some _) (fun k => ?_) (Ev.now _)
          rw [spec_CompareWords.j1, if_pos rfl, if_pos (by omega), if_pos (by omega), if_pos (by omega), hr, hr1, if_neg hlt, if_pos hgt]
        · rw [if_neg hgt]
          refine Ev.step (fun k => ?_) (ih (i + 1) (by omega) (by omega))
          rw [spec_CompareWords.j1, if_pos rfl, if_pos (by omega), if_pos (by omega), if_pos (by omega), hr, hr1, if_neg hlt, if_neg hgt, w64 (by omega) (by omega)]
          rfl
    · rw [e0, List.drop_of_length_le (l := x1) (by omega), cmpw, decide_eq_false (by omega)]
      refine Ev.step (f := fun _ => some _) (fun k => ?_) (Ev.now _)
      rw [spec_CompareWords.j1, if_neg (by simp), if_neg (by omega), if_pos (by omega)]

theorem specCW_ev (x0 x1 : List Int) (hb : x0.length ≤ 1048576) : Ev (fun k => spec_CompareWords.f k x0 x1) (cmpw x0 x1) :=
  Ev.congr (fun k => rfl) (specCW_l0 x0 x1 hb x0.length 0 (by omega) (by omega))

theorem cmpInt_eq (a b : Int) : cmp_Compare_int.f a b = some (if a < b then -1 else if b < a then 1 else 0) := by
  unfold cmp_Compare_int.f cmp_isNaN_int.f
  simp only [bne_self_eq_false, Option.bind_some, if_false, Bool.false_eq_true]
  split
  · rfl
  · split <;> rfl

theorem implCW_l0 (x0 x1 : List Int) (hb : x0.length ≤ 1048576) (d : Nat) : ∀ (i : Nat), i + d = x0.length → i ≤ x1.length →
    Ev (fun k => slices_Compare_int_int.l0 k x0 x1 x0 x0.length i) (cmpw (x0.drop i) (x1.drop i)) := by
  induction d with
  | zero =>
    intro i hi h1
    rw [List.drop_of_length_le (l := x0) (by omega)]
    refine Ev.step (f := fun _ => some _) (fun k => ?_) (Ev.now _)
    rw [slices_Compare_int_int.l0, if_neg (by omega)]
    by_cases h : x1.length = i
    · rw [List.drop_of_length_le (l := x1) (by omega), if_neg (by omega), cmpw]
    · rw [List.drop_eq_getElem_cons (show i < x1.length by omega), if_pos (by omega), cmpw]
  | succ d ih =>
    intro i hi h1
    have e0 : x0.drop i = x0[i]'(by omega) :: x0.drop (i + 1) := List.drop_eq_getElem_cons (by omega)
    have hr : rd x0 (i : Int) = x0[i]'(by omega) := rd_of (by omega)
    by_cases h : i < x1.length
    · have e1 : x1.drop i = x1[i]'(by omega) :: x1.drop (i + 1) := List.drop_eq_getElem_cons (by omega)
      have hr1 : rd x1 (i : Int) = x1[i]'(by omega) := rd_of (by omega)
      rw [e0, e1, cmpw]
      by_cases hlt : x0[i]'(by omega) < x1[i]'(by omega)
      · rw [if_pos hlt]
        refine Ev.step (f := fun _ => some _) (fun k => ?_) (Ev.now _)
        rw [slices_Compare_int_int.l0, if_pos (by omega), if_pos (by omega), if_pos (by omega), if_neg (by omega), if_pos (by omega), hr, hr1, cmpInt_eq, if_pos hlt]
        rfl
      · rw [if_neg hlt]
        by_cases hgt : x1[i]'(by omega) < x0[i]'(by omega)
        · rw [if_pos hgt]
          refine Ev.step (f := fun _ => some _) (fun k => ?_) (Ev.now _)
          rw [slices_Compare_int_int.l0, if_pos (by omega), if_pos (by omega), if_pos (by omega), if_neg (by omega), if_pos (by omega), hr, hr1, cmpInt_eq, if_neg hlt, if_pos hgt]
          rfl
        · rw [if_neg hgt]
          refine Ev.step (fun k => ?_) (ih (i + 1) (by omega) (by omega))
          rw [slices_Compare_int_int.l0, if_pos (by omega), if_pos (by omega), if_pos (by omega), if_neg (by omega), if_pos (by omega), hr, hr1, cmpInt_eq, if_neg hlt, if_neg hgt, w64 (by omega) (by omega)]
          rfl
    · rw [e0, List.drop_of_length_le (l := x1) (by omega), cmpw]
      refine Ev.step (f := fun _ => some _) (fun k => ?_) (Ev.now _)
      rw [slices_Compare_int_int.l0, if_pos (by omega), if_pos (by omega), if_pos (by omega), if_pos (by omega)]

theorem implCW_ev (x0 x1 : List Int) (hb : x0.length ≤ 1048576) : Ev (fun k => impl_CompareWords.f k x0 x1) (cmpw x0 x1) := by
  unfold impl_CompareWords.f slices_Compare_int_int.f
  exact Ev.bind (implCW_l0 x0 x1 hb x0.length 0 (by omega) (by omega)) (Ev.now _)

theorem cmpOr2_ev (a b : Int) : Ev (fun k => cmp_Or_int.f k [a, b]) (if a = 0 then b else a) := by
  unfold cmp_Or_int.f
  have r0 : rd [a, b] 0 = a := rfl
  have r1 : rd [a, b] 1 = b := rfl
  by_cases h : a = 0
  · subst h
    rw [if_pos rfl]
    refine Ev.step (f := fun k => cmp_Or_int.l0 k 0 [0, b] 2 1) (fun k => ?_) ?_
    · rw [cmp_Or_int.l0, if_pos (by simp), if_pos (by omega), if_pos (by simp), r0, if_pos rfl, w64 (by omega) (by omega)]
      rfl
    · by_cases hb : b = 0
      · subst hb
        refine Ev.step (f := fun k => cmp_Or_int.l0 k 0 [0, 0] 2 2) (fun k => ?_) ?_
        · rw [cmp_Or_int.l0, if_pos (by simp), if_pos (by omega), if_pos (by simp), r1, if_pos rfl, w64 (by omega) (by omega)]
          rfl
        · refine Ev.step (f := fun _ => some 0) (fun k => ?_) (Ev.now _)
          rw [cmp_Or_int.l0, if_neg (by omega)]
      · refine Ev.step (f := fun _ => some b) (fun k => ?_) (Ev.now _)
        rw [cmp_Or_int.l0, if_pos (by simp), if_pos (by omega), if_pos (by simp), r1, if_neg hb]
  · rw [if_neg h]
    refine Ev.step (f := fun _ => some a) (fun k => ?_) (Ev.now _)
    rw [cmp_Or_int.l0, if_pos (by simp), if_pos (by omega), if_pos (by simp), r0, if_neg h]

/-! laws_toIntS -/
theorem toIntS_l0 (x0 : List Int) (hb : x0.length ≤ 1048576) (d : Nat) : ∀ (i : Nat), i + d = x0.length →
    Ev (fun k => laws_toIntS.l0 k x0 (x0.take i ++ List.replicate d 0) i) x0 := by
  induction d with
  | zero =>
    intro i hi
    refine Ev.step (f := fun _ => some x0) (fun k => ?_) (Ev.now _)
    rw [laws_toIntS.l0, if_neg (by omega)]
    simp [List.take_of_length_le (show x0.length ≤ i by omega)]
  | succ d ih =>
    intro i hi
    refine Ev.step (fun k => ?_) (ih (i + 1) (by omega))
    rw [laws_toIntS.l0, if_pos (by omega), if_pos (by omega), if_pos (by simp; omega), w64 (by omega) (by omega)]
    congr 1
    rw [rd_of (show i < x0.length by omega), Int.toNat_natCast]
    apply List.ext_getElem
    · simp; omega
    · intro j h1 h2
      simp [List.getElem_set, List.getElem_append, List.getElem_take] at *
      split <;> split <;> try split
      all_goals first | rfl | omega | (subst_vars; rfl)

theorem toIntS_ev (x0 : List Int) (hb : x0.length ≤ 1048576) : Ev (fun k => laws_toIntS.f k x0) x0 := by
  have h := toIntS_l0 x0 hb x0.length 0 (by omega)
  refine Ev.congr (fun k => ?_) h
  unfold laws_toIntS.f
  rw [if_pos (by omega), if_pos (by omega)]
  simp

/-! laws_eqIntS -/
theorem eqIntS_l0 (x0 x1 : List Int) (hb : x0.length ≤ 1048576) (hl : x0.length = x1.length) (d : Nat) : ∀ (i : Nat), i + d = x0.length →
    Ev (fun k => laws_eqIntS.l0 k x0 x1 i) (decide (x0.drop i = x1.drop i)) := by
  induction d with
  | zero =>
    intro i hi
    refine Ev.step (f := fun _ => some true) (fun k => ?_) ?_
    · rw [laws_eqIntS.l0, if_neg (by omega)]
    · rw [List.drop_of_length_le (by omega), List.drop_of_length_le (by omega)]
      exact Ev.now _
  | succ d ih =>
    intro i hi
    have e0 : x0.drop i = x0[i]'(by omega) :: x0.drop (i + 1) := List.drop_eq_getElem_cons (by omega)
    have e1 : x1.drop i = x1[i]'(by omega) :: x1.drop (i + 1) := List.drop_eq_getElem_cons (by omega)
    by_cases h : x0[i]'(by omega) = x1[i]'(by omega)
    · rw [e0, e1, h]
      simp only [List.cons.injEq, true_and]
      refine Ev.step (fun k => ?_) (ih (i + 1) (by omega))
      rw [laws_eqIntS.l0, if_pos (by omega), if_pos (by omega), if_pos (by omega), rd_of (show i < x0.length by omega), rd_of (show i < x1.length by omega), if_pos h, w64 (by omega) (by omega)]
      rfl
    · rw [e0, e1]
      simp only [List.cons.injEq, h, false_and]
      refine Ev.step (f := fun _ => some false) (fun k => ?_) (Ev.now _)
      rw [laws_eqIntS.l0, if_pos (by omega), if_pos (by omega), if_pos (by omega), rd_of (show i < x0.length by omega), rd_of (show i < x1.length by omega), if_neg h]

theorem eqIntS_ev (x0 x1 : List Int) (hb : x0.length ≤ 1048576) : Ev (fun k => laws_eqIntS.f k x0 x1) (decide (x0 = x1)) := by
  by_cases hl : x0.length = x1.length
  · refine Ev.congr (fun k => ?_) (eqIntS_l0 x0 x1 hb hl x0.length 0 (by omega))
    unfold laws_eqIntS.f
    rw [if_pos (by omega)]
    rfl
  · rw [decide_eq_false (by intro h; exact hl (by rw [h]))]
    refine Ev.congr (fun k => ?_) (Ev.now _)
    unfold laws_eqIntS.f
    rw [if_neg (by omega)]

/-! law_FnExactCompareZeckendorf -/
def cmpz (x0 x1 : List Int) : Int := if x0.length < x1.length then -1 else if x1.length < x0.length then 1 else cmpw x0 x1
theorem specCZ_ev (x0 x1 : List Int) (hb : x0.length ≤ 1048576) : Ev (fun k => spec_CompareZeckendorf.f k x0 x1) (cmpz x0 x1) := by
  unfold spec_CompareZeckendorf.f cmpz
  by_cases h : x0.length < x1.length
  · simp only [if_pos h, if_pos (show (x0.length : Int) < (x1.length : Int) by omega)]
    exact Ev.now _
  · simp only [if_neg h, if_neg (show ¬ (x0.length : Int) < (x1.length : Int) by omega)]
    by_cases h2 : x1.length < x0.length
    · simp only [if_pos h2, if_pos (show (x0.length : Int) > (x1.length : Int) by omega)]
      exact Ev.now _
    · simp only [if_neg h2, if_neg (show ¬ (x0.length : Int) > (x1.length : Int) by omega)]
      exact Ev.bind (specCW_ev x0 x1 hb) (Ev.now _)
theorem implCZ_ev (x0 x1 : List Int) (hb : x0.length ≤ 1048576) : Ev (fun k => impl_CompareZeckendorf.f k x0 x1) (cmpz x0 x1) := by
  unfold impl_CompareZeckendorf.f cmpz
  simp only [cmpInt_eq, Option.bind_some]
  refine Ev.bind (implCW_ev x0 x1 hb) ?_
  by_cases h : x0.length < x1.length
  · simp only [if_pos h, if_pos (show (x0.length : Int) < (x1.length : Int) by omega)]
    exact Ev.bind (cmpOr2_ev _ _) (Ev.now _)
  · simp only [if_neg h, if_neg (show ¬ (x0.length : Int) < (x1.length : Int) by omega)]
    by_cases h2 : x1.length < x0.length
    · simp only [if_pos h2, if_pos (show (x1.length : Int) < (x0.length : Int) by omega)]
      exact Ev.bind (cmpOr2_ev _ _) (Ev.now _)
    · simp only [if_neg h2, if_neg (show ¬ (x1.length : Int) < (x0.length : Int) by omega)]
      exact Ev.bind (cmpOr2_ev _ _) (Ev.now _)
theorem FnExactCompareZeckendorf : laws_FnExactCompareZeckendorf.Pure := by
  intro l0 l1 _ _ _ _ _ _
  refine Ev.rounds ?_
  unfold laws_FnExactCompareZeckendorf.f
  by_cases hb : (l0.length : Int) > 1048576
  · simp only [if_pos hb]
    exact Ev.now _
  · simp only [if_neg hb]
    by_cases hb1 : (l1.length : Int) > 1048576
    · simp only [if_pos hb1]
      exact Ev.now _
    · simp only [if_neg hb1]
      have h0 : l0.length ≤ 1048576 := by omega
      have h1 : l1.length ≤ 1048576 := by omega
      refine Ev.bind (toIntS_ev l0 h0) (Ev.bind (toIntS_ev l1 h1) (Ev.bind (specCZ_ev l0 l1 h0) (Ev.bind (toIntS_ev l0 h0) (Ev.bind (toIntS_ev l1 h1) (Ev.bind (implCZ_ev l0 l1 h0) ?_)))))
      simp only [if_true]
      refine Ev.bind (toIntS_ev l0 h0) (Ev.bind (eqIntS_ev l0 l0 h0) ?_)
      simp only [decide_true, if_true]
      refine Ev.bind (toIntS_ev l1 h1) (Ev.bind (eqIntS_ev l1 l1 h1) ?_)
      simp only [decide_true, if_true]
      exact Ev.now _

end Go.Proofs.Ytaobkepknhnfoaa.Pure
