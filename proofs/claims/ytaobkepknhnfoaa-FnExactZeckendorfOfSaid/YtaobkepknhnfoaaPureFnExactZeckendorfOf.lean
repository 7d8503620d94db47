/- The pure law FnExactZeckendorfOf: what the printed functions of the program and of the reference compute agrees, for all arguments. -/
import Derived.Test.YtaobkepknhnfoaaQ0
import Derived.Test.YtaobkepknhnfoaaQ1
import Derived.Test.YtaobkepknhnfoaaQ2
import Derived.Test.YtaobkepknhnfoaaQ25
import Derived.Test.YtaobkepknhnfoaaQ26
import Derived.Test.YtaobkepknhnfoaaQ27
import Derived.Test.YtaobkepknhnfoaaQ28
import Derived.Test.YtaobkepknhnfoaaQ29
import Derived.Test.YtaobkepknhnfoaaQ3
import Derived.Test.YtaobkepknhnfoaaQ30
import Derived.Test.YtaobkepknhnfoaaQ4
import Derived.Test.YtaobkepknhnfoaaQ9
import Derived.Test.YtaobkepknhnfoaaMRow
namespace Go.Proofs.Ytaobkepknhnfoaa.Pure
open Go.RowKit Go.Proofs.Ytaobkepknhnfoaa.Q Go.Proofs.Ytaobkepknhnfoaa.MRow Go.Proofs.YtaobkepknhnfoaaW.PrintWords Go.Proofs.YtaobkepknhnfoaaW.PrintLast
set_option linter.unusedVariables false
set_option linter.unusedSimpArgs false

/-! base -/
theorem w64 {x : Int} (h0 : -9223372036854775808 ≤ x) (h1 : x < 9223372036854775808) : wrap64 x = x := by
  unfold wrap64; omega

theorem rd_of {xs : List Int} {i : Nat} (h : i < xs.length) : rd xs (i : Int) = xs[i] := by
  simp [rd, List.getD_eq_getElem?_getD, h]
theorem getD_of {α : Type} {xs : List α} {d : α} {i : Nat} (h : i < xs.length) : xs.getD ((i : Int)).toNat d = xs[i] := by
  simp [List.getD_eq_getElem?_getD, h]
/-- From the end of a range down. -/
theorem downs {P : Nat → Prop} (n : Nat) (step : ∀ i, i < n → P (i + 1) → P i) (done : P n) : ∀ i, i ≤ n → P i := by
  have key : ∀ d i, i + d = n → P i := by
    intro d
    induction d with
    | zero => intro i hi; rw [show i = n by omega]; exact done
    | succ d ih => intro i hi; exact step i (by omega) (ih (i + 1) (by omega))
  intro i hi
  exact key (n - i) i (by omega)
theorem drop_at {α : Type} {l : List α} {i : Nat} (h : i < l.length) : l.drop i = l[i] :: l.drop (i + 1) := List.drop_eq_getElem_cons h
theorem Ev.eq {α : Type} {g : Nat → Option α} {r r' : α} (h : Ev g r) (e : r = r') : Ev g r' := e ▸ h
theorem natCast_succ' (i : Nat) : ((i : Int) + 1) = ((i + 1 : Nat) : Int) := by omega
/-- A list that is filled from its begin. -/
theorem fill_set {α : Type} (xs : List α) (z y : α) (i d : Nat) (h : i < xs.length) (hd : i + (d + 1) = xs.length) (hy : y = xs[i]) :
    (xs.take i ++ List.replicate (d + 1) z).set i y = xs.take (i + 1) ++ List.replicate d z := by
  subst hy
  rw [List.set_append_right _ _ (by simp; omega)]
  have hl : (xs.take i).length = i := by simp; omega
  rw [hl, Nat.sub_self, List.replicate_succ, List.set_cons_zero, List.take_succ_eq_append_getElem h, List.append_assoc]
  rfl

/-! spec_l1In -/
theorem l1In_eq (a b c : Int) : spec_l1In.f a b c = some (decide (b ≤ a ∧ a ≤ c)) := by
  unfold spec_l1In.f
  by_cases h : a ≥ b
  · rw [if_pos h]
    congr 1
    simp; omega
  · rw [if_neg h]
    congr 1
    simp; omega

/-! Fib -/
theorem fibN_bd2 : ∀ k, k < 43 → 0 ≤ fibN k ∧ fibN k ≤ 1152921504606846976 := by decide +kernel
theorem specFib_ev (x : Int) : Ev (fun k => spec_FibonacciNumber.f k x) (fibV x) := by
  unfold spec_FibonacciNumber.f fibV
  by_cases h : 0 ≤ x ∧ x ≤ 40
  · obtain ⟨n, rfl⟩ : ∃ n : Nat, x = n := ⟨x.toNat, by omega⟩
    have key := downs (P := fun i => Ev (fun k => spec_FibonacciNumber.l0 k (n : Int) (fibN i) (fibN (i + 1)) (i : Int)) (fibN n)) n
      (fun i hi ih => by
        have b := fibN_bd2 (i + 2) (by omega)
        refine Ev.step (fun k => ?_) ih
        rw [spec_FibonacciNumber.l0, if_pos (by omega), w64 (x := (i : Int) + 1) (by omega) (by omega)]
        rw [show fibN i + fibN (i + 1) = fibN (i + 2) from by rw [fibN, Int.add_comm], w64 (by omega) (by omega)]
        rfl)
      (by
        refine Ev.step (f := fun _ => some _) (fun k => ?_) (Ev.now _)
        rw [spec_FibonacciNumber.l0, if_neg (by omega)])
    rw [if_pos h]
    refine Ev.congr (fun k => ?_) (key 0 (by omega))
    rw [l1In_eq, decide_eq_true h, Option.bind_some, if_pos rfl]
    rfl
  · rw [if_neg h]
    refine Ev.congr (fun k => ?_) (Ev.now _)
    rw [l1In_eq, decide_eq_false h, Option.bind_some, if_neg (by simp)]
theorem fibV_nat {n : Nat} (h : n ≤ 40) : fibV (n : Int) = fibN n := by
  unfold fibV
  rw [if_pos (by omega), Int.toNat_natCast]

/-! ZeckendorfOf -/
def zof (n : Int) : List Int := if 0 ≤ n ∧ n < fibN 40 then zgo 40 n [] else []
theorem hasForm_eq (n : Int) : impl_hasForm.f n = some (decide (0 ≤ n ∧ n < fibN 40)) := by
  unfold impl_hasForm.f
  by_cases h : n ≥ 0
  · rw [if_pos h]
    simp only [impl_FibonacciNumber.f, Option.bind_some]
    rw [show fibV 40 = fibN 40 from fibV_nat (n := 40) (by omega)]
    congr 2
    rw [eq_iff_iff]
    constructor
    · intro h2; exact ⟨h, h2⟩
    · intro h2; exact h2.2
  · rw [if_neg h, decide_eq_false (by omega)]
theorem implZO_eq (n : Int) : impl_ZeckendorfOf.f n = some (zof n) := by
  unfold impl_ZeckendorfOf.f zof
  rw [hasForm_eq, Option.bind_some]
  by_cases h : 0 ≤ n ∧ n < fibN 40
  · rw [decide_eq_true h, if_pos rfl, if_pos h]
  · rw [decide_eq_false h, if_neg (by simp), if_neg h]
theorem specZO_l0 : ∀ (m : Nat) (n : Int) (out : List Int), out.length + m ≤ 40 → 0 ≤ n → n ≤ 1152921504606846976 → Ev (fun k => spec_ZeckendorfOf.l0 k n out ((m : Int) - 1)) (zgo m n out) := by
  intro m
  induction m with
  | zero =>
    intro n out hl h0 h1
    refine Ev.step (f := fun _ => some _) (fun k => ?_) (Ev.now _)
    rw [spec_ZeckendorfOf.l0, if_neg (by omega), zgo]
  | succ m ih =>
    intro n out hl h0 h1
    have b := fibN_bd2 m (by omega)
    have hv := fibV_nat (n := m) (by omega)
    have e1 : ((m + 1 : Nat) : Int) - 1 = (m : Int) := by omega
    rw [e1]
    have hf : Ev (fun k => spec_FibonacciNumber.f k (m : Int)) (fibN m) := hv ▸ specFib_ev (m : Int)
    rw [zgo]
    by_cases hge : fibN m ≤ n
    · rw [if_pos hge, w64 (by omega) (by omega)]
      refine Ev.step (f := fun k => (spec_FibonacciNumber.f k (m : Int)).bind fun t => if n ≥ t then ((spec_FibonacciNumber.f k (m : Int)).bind fun t2 => if out.length < 17592186044416 then spec_ZeckendorfOf.l0 k (wrap64 (n - t2)) (out ++ [1]) ((m : Int) - 1) else none) else (if (out.length : Int) > 0 then (if out.length < 17592186044416 then spec_ZeckendorfOf.l0 k n (out ++ [0]) ((m : Int) - 1) else none) else spec_ZeckendorfOf.l0 k n out ((m : Int) - 1))) (fun k => ?_) (Ev.bind hf ?_)
      · rw [spec_ZeckendorfOf.l0, if_pos (by omega), w64 (x := (m : Int) - 1) (by omega) (by omega)]
      · simp only [if_pos (show n ≥ fibN m from hge)]
        refine Ev.bind hf ?_
        simp only [if_pos (show out.length < 17592186044416 by omega)]
        rw [w64 (x := n - fibN m) (by omega) (by omega)]
        exact ih _ _ (by simp; omega) (by omega) (by omega)
    · rw [if_neg hge]
      refine Ev.step (f := fun k => (spec_FibonacciNumber.f k (m : Int)).bind fun t => if n ≥ t then ((spec_FibonacciNumber.f k (m : Int)).bind fun t2 => if out.length < 17592186044416 then spec_ZeckendorfOf.l0 k (wrap64 (n - t2)) (out ++ [1]) ((m : Int) - 1) else none) else (if (out.length : Int) > 0 then (if out.length < 17592186044416 then spec_ZeckendorfOf.l0 k n (out ++ [0]) ((m : Int) - 1) else none) else spec_ZeckendorfOf.l0 k n out ((m : Int) - 1))) (fun k => ?_) (Ev.bind hf ?_)
      · rw [spec_ZeckendorfOf.l0, if_pos (by omega), w64 (x := (m : Int) - 1) (by omega) (by omega)]
      · simp only [if_neg (show ¬ n ≥ fibN m from hge)]
        by_cases hp : 0 < out.length
        · simp only [if_pos hp, if_pos (show (out.length : Int) > 0 by omega), if_pos (show out.length < 17592186044416 by omega)]
          exact ih _ _ (by simp; omega) h0 h1
        · simp only [if_neg hp, if_neg (show ¬ (out.length : Int) > 0 by omega)]
          exact ih _ _ (by omega) h0 h1
theorem specZO_ev (n : Int) : Ev (fun k => spec_ZeckendorfOf.f k n) (zof n) := by
  unfold spec_ZeckendorfOf.f zof
  simp only [Option.bind_some]
  have h40 := fibN_bd2 40 (by omega)
  by_cases h : n < 0
  · simp only [if_pos h, if_neg (show ¬ (0 ≤ n ∧ n < fibN 40) by omega)]
    refine Ev.step (f := fun _ => some _) (fun k => ?_) (Ev.now _)
    rw [spec_ZeckendorfOf.j0, if_pos rfl]
  · simp only [if_neg h]
    refine Ev.bind (specFib_ev 40) ?_
    rw [show fibV 40 = fibN 40 from fibV_nat (n := 40) (by omega)]
    by_cases h2 : n < fibN 40
    · rw [if_pos ⟨by omega, h2⟩, decide_eq_false (by omega)]
      refine Ev.step (fun k => ?_) (specZO_l0 40 n [] (by simp) (by omega) (by omega))
      rw [spec_ZeckendorfOf.j0, if_neg (by simp)]
      rfl
    · rw [if_neg (by omega), decide_eq_true (by omega)]
      refine Ev.step (f := fun _ => some _) (fun k => ?_) (Ev.now _)
      rw [spec_ZeckendorfOf.j0, if_pos rfl]
theorem zgo_len : ∀ (m : Nat) (n : Int) (out : List Int), (zgo m n out).length ≤ out.length + m := by
  intro m
  induction m with
  | zero => intro n out; rw [zgo]; omega
  | succ m ih =>
    intro n out
    rw [zgo]
    split
    · have := ih (wrap64 (n - fibN m)) (out ++ [1]); simp at this; omega
    · split
      · have := ih n (out ++ [0]); simp at this; omega
      · have := ih n out; omega
theorem zof_len (n : Int) : (zof n).length ≤ 40 := by
  unfold zof
  split
  · have := zgo_len 40 n []; simpa using this
  · simp

/-! laws_eqIntS -/
theorem eqIntS_l0 (x0 x1 : List Int) (hb : x0.length ≤ 1048576) (hl : x0.length = x1.length) (d : Nat) : ∀ (i : Nat), i + d = x0.length →
    Ev (fun k => laws_eqIntS.l0 k x0 x1 i) (decide (x0.drop i = x1.drop i)) := by
  induction d with
  | zero =>
    intro i hi
    refine Ev.step (f := fun _ => some true) (fun k => ?_) ?_
    · rw [laws_eqIntS.l0, if_neg (by omega)]
    · rw [List.drop_of_length_le (by omega), List.drop_of_length_le (by omega)]
      exact Ev.now _
  | succ d ih =>
    intro i hi
    have e0 : x0.drop i = x0[i]'(by omega) :: x0.drop (i + 1) := List.drop_eq_getElem_cons (by omega)
    have e1 : x1.drop i = x1[i]'(by omega) :: x1.drop (i + 1) := List.drop_eq_getElem_cons (by omega)
    by_cases h : x0[i]'(by omega) = x1[i]'(by omega)
    · rw [e0, e1, h]
      simp only [List.cons.injEq, true_and]
      refine Ev.step (fun k => ?_) (ih (i + 1) (by omega))
      rw [laws_eqIntS.l0, if_pos (by omega), if_pos (by omega), if_pos (by omega), rd_of (show i < x0.length by omega), rd_of (show i < x1.length by omega), if_pos h, w64 (by omega) (by omega)]
      rfl
    · rw [e0, e1]
      simp only [List.cons.injEq, h, false_and]
      refine Ev.step (f := fun _ => some false) (fun k => ?_) (Ev.now _)
      rw [laws_eqIntS.l0, if_pos (by omega), if_pos (by omega), if_pos (by omega), rd_of (show i < x0.length by omega), rd_of (show i < x1.length by omega), if_neg h]

theorem eqIntS_ev (x0 x1 : List Int) (hb : x0.length ≤ 1048576) : Ev (fun k => laws_eqIntS.f k x0 x1) (decide (x0 = x1)) := by
  by_cases hl : x0.length = x1.length
  · refine Ev.congr (fun k => ?_) (eqIntS_l0 x0 x1 hb hl x0.length 0 (by omega))
    unfold laws_eqIntS.f
    rw [if_pos (by omega)]
    rfl
  · rw [decide_eq_false (by intro h; exact hl (by rw [h]))]
    refine Ev.congr (fun k => ?_) (Ev.now _)
    unfold laws_eqIntS.f
    rw [if_neg (by omega)]

/-! marksI -/
def markedI (a : Int) (n : Nat) : List Int := (List.range n).map fun (i : Nat) => a + i
theorem markedI_len (a : Int) (n : Nat) : (markedI a n).length = n := by simp [markedI]
theorem markedI_succ (a : Int) (n : Nat) : markedI a (n + 1) = markedI a n ++ [a + n] := by simp [markedI, List.range_succ]
theorem markedI_get (a : Int) (n i : Nat) (h : i < n) : (markedI a n)[i]'(by simpa [markedI] using h) = a + i := by simp [markedI]
theorem set_mid {α : Type} (m : List α) (xs : List α) (i : Nat) (x : α) (hm : m.length = i) (h : i < xs.length) : (m ++ xs.drop i).set i x = (m ++ [x]) ++ xs.drop (i + 1) := by
  rw [List.set_append_right _ _ (by omega), hm, Nat.sub_self, List.drop_eq_getElem_cons h, List.set_cons_zero, List.append_assoc]
  rfl
theorem markIntS_ev (xs : List Int) (a : Int) (h0 : 0 ≤ a) (h1 : a ≤ 1152921504606846976) (hl : xs.length ≤ 1152921504606846976) : Ev (fun k => laws_markIntS.f k xs a) (a + xs.length, markedI a xs.length) := by
  have key := downs (P := fun i => Ev (fun k => laws_markIntS.l0 k (markedI a i ++ xs.drop i) (a + i) (i : Int)) (a + xs.length, markedI a xs.length)) xs.length
    (fun i hi ih => by
      rw [markedI_succ, ← set_mid _ _ _ _ (markedI_len a i) hi] at ih
      refine Ev.step (fun k => ?_) ih
      rw [laws_markIntS.l0, if_pos (by simp [markedI_len]; omega), if_pos (by omega), w64 (by omega) (by omega), w64 (by omega) (by omega), Int.toNat_natCast]
      show _ = laws_markIntS.l0 k _ (a + ((i + 1 : Nat) : Int)) _
      rw [show (a + ((i + 1 : Nat) : Int)) = a + i + 1 by omega]
      rfl)
    (by
      refine Ev.step (f := fun _ => some _) (fun k => ?_) (Ev.now _)
      rw [laws_markIntS.l0, if_neg (by simp [markedI_len])]
      simp)
  have h := key 0 (by omega)
  refine Ev.congr (fun k => ?_) h
  simp [laws_markIntS.f, markedI]
theorem heldIntS_ev (a : Int) (n : Nat) (h0 : 0 ≤ a) (h1 : a ≤ 1152921504606846976) (hl : n ≤ 1152921504606846976) : Ev (fun k => laws_heldIntS.f k (markedI a n) a) (a + n) := by
  have key := downs (P := fun i => Ev (fun k => laws_heldIntS.l0 k (markedI a n) (a + i) (i : Int)) (a + n)) n
    (fun i hi ih => by
      refine Ev.step (fun k => ?_) ih
      rw [laws_heldIntS.l0, if_pos (by rw [markedI_len]; omega), if_pos (by omega), rd_of (by rw [markedI_len]; omega), markedI_get a n i hi, if_pos rfl, w64 (by omega) (by omega), w64 (by omega) (by omega)]
      rw [show (a + ((i + 1 : Nat) : Int)) = a + i + 1 by omega]
      rfl)
    (by
      refine Ev.step (f := fun _ => some _) (fun k => ?_) (Ev.now _)
      rw [laws_heldIntS.l0, if_neg (by rw [markedI_len]; omega)])
  have h := key 0 (by omega)
  refine Ev.congr (fun k => ?_) h
  simp [laws_heldIntS.f]

/-! law_FnExactZeckendorfOf -/
theorem FnExactZeckendorfOf (a0 : Int) (w0 : -9223372036854775808 ≤ a0 ∧ a0 ≤ 9223372036854775807) : ∃ k, laws_FnExactZeckendorfOf.f k a0 = some true := by
  refine Ev.rounds ?_
  unfold laws_FnExactZeckendorfOf.f
  have hl := zof_len a0
  refine Ev.bind (specZO_ev a0) ?_
  simp only [implZO_eq, Option.bind_some]
  refine Ev.bind (eqIntS_ev _ _ (by omega)) ?_
  simp only [decide_true, if_true]
  refine Ev.bind (markIntS_ev _ 1 (by omega) (by omega) (by omega)) ?_
  refine Ev.bind (heldIntS_ev 1 (zof a0).length (by omega) (by omega) (by omega)) ?_
  simp only [if_neg (show ¬ (1 + ((zof a0).length : Int) < 0) by omega), if_true]
  refine Ev.bind (eqIntS_ev _ _ (by omega)) ?_
  simp only [decide_true, if_true]
  refine Ev.bind (heldIntS_ev 1 (zof a0).length (by omega) (by omega) (by omega)) ?_
  simp only [if_neg (show ¬ (1 + ((zof a0).length : Int) < 0) by omega), if_true]
  exact Ev.now _

end Go.Proofs.Ytaobkepknhnfoaa.Pure
