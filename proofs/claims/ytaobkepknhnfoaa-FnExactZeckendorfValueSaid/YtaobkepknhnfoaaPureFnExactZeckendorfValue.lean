/- The pure law FnExactZeckendorfValue: what the printed functions of the program and of the reference compute agrees, for all arguments. -/
import Derived.Test.YtaobkepknhnfoaaQ0
import Derived.Test.YtaobkepknhnfoaaQ1
import Derived.Test.YtaobkepknhnfoaaQ2
import Derived.Test.YtaobkepknhnfoaaQ22
import Derived.Test.YtaobkepknhnfoaaQ23
import Derived.Test.YtaobkepknhnfoaaQ24
import Derived.Test.YtaobkepknhnfoaaQ3
import Derived.Test.YtaobkepknhnfoaaQ4
import Derived.Test.YtaobkepknhnfoaaQ6
import Derived.Test.YtaobkepknhnfoaaQ7
import Derived.Test.YtaobkepknhnfoaaQ8
import Derived.Test.YtaobkepknhnfoaaQ9
import Derived.Test.YtaobkepknhnfoaaMRow
namespace Go.Proofs.Ytaobkepknhnfoaa.Pure
open Go.RowKit Go.Proofs.Ytaobkepknhnfoaa.Q Go.Proofs.Ytaobkepknhnfoaa.MRow Go.Proofs.YtaobkepknhnfoaaW.PrintWords Go.Proofs.YtaobkepknhnfoaaW.PrintLast
set_option linter.unusedVariables false
set_option linter.unusedSimpArgs false

/-! base -/
theorem w64 {x : Int} (h0 : -9223372036854775808 ≤ x) (h1 : x < 9223372036854775808) : wrap64 x = x := by
  unfold wrap64; omega

theorem rd_of {xs : List Int} {i : Nat} (h : i < xs.length) : rd xs (i : Int) = xs[i] := by
  simp [rd, List.getD_eq_getElem?_getD, h]
theorem getD_of {α : Type} {xs : List α} {d : α} {i : Nat} (h : i < xs.length) : xs.getD ((i : Int)).toNat d = xs[i] := by
  simp [List.getD_eq_getElem?_getD, h]
/-- From the end of a range down. -/
theorem downs {P : Nat → Prop} (n : Nat) (step : ∀ i, i < n → P (i + 1) → P i) (done : P n) : ∀ i, i ≤ n → P i := by
  have key : ∀ d i, i + d = n → P i := by
    intro d
    induction d with
    | zero => intro i hi; rw [show i = n by omega]; exact done
    | succ d ih => intro i hi; exact step i (by omega) (ih (i + 1) (by omega))
  intro i hi
  exact key (n - i) i (by omega)
theorem drop_at {α : Type} {l : List α} {i : Nat} (h : i < l.length) : l.drop i = l[i] :: l.drop (i + 1) := List.drop_eq_getElem_cons h
theorem Ev.eq {α : Type} {g : Nat → Option α} {r r' : α} (h : Ev g r) (e : r = r') : Ev g r' := e ▸ h
theorem natCast_succ' (i : Nat) : ((i : Int) + 1) = ((i + 1 : Nat) : Int) := by omega
/-- A list that is filled from its begin. -/
theorem fill_set {α : Type} (xs : List α) (z y : α) (i d : Nat) (h : i < xs.length) (hd : i + (d + 1) = xs.length) (hy : y = xs[i]) :
    (xs.take i ++ List.replicate (d + 1) z).set i y = xs.take (i + 1) ++ List.replicate d z := by
  subst hy
  rw [List.set_append_right _ _ (by simp; omega)]
  have hl : (xs.take i).length = i := by simp; omega
  rw [hl, Nat.sub_self, List.replicate_succ, List.set_cons_zero, List.take_succ_eq_append_getElem h, List.append_assoc]
  rfl

/-! spec_l1In -/
theorem l1In_eq (a b c : Int) : spec_l1In.f a b c = some (decide (b ≤ a ∧ a ≤ c)) := by
  unfold spec_l1In.f
  by_cases h : a ≥ b
  · rw [if_pos h]
    congr 1
    simp; omega
  · rw [if_neg h]
    congr 1
    simp; omega

/-! Fib -/
theorem fibN_bd2 : ∀ k, k < 43 → 0 ≤ fibN k ∧ fibN k ≤ 1152921504606846976 := by decide +kernel
theorem specFib_ev (x : Int) : Ev (fun k => spec_FibonacciNumber.f k x) (fibV x) := by
  unfold spec_FibonacciNumber.f fibV
  by_cases h : 0 ≤ x ∧ x ≤ 40
  · obtain ⟨n, rfl⟩ : ∃ n : Nat, x = n := ⟨x.toNat, by omega⟩
    have key := downs (P := fun i => Ev (fun k => spec_FibonacciNumber.l0 k (n : Int) (fibN i) (fibN (i + 1)) (i : Int)) (fibN n)) n
      (fun i hi ih => by
        have b := fibN_bd2 (i + 2) (by omega)
        refine Ev.step (fun k => ?_) ih
        rw [spec_FibonacciNumber.l0, if_pos (by omega), w64 (x := (i : Int) + 1) (by omega) (by omega)]
        rw [show fibN i + fibN (i + 1) = fibN (i + 2) from by rw [fibN, Int.add_comm], w64 (by omega) (by omega)]
        rfl)
      (by
        refine Ev.step (f := fun _ => some _) (fun k => ?_) (Ev.now _)
        rw [spec_FibonacciNumber.l0, if_neg (by omega)])
    rw [if_pos h]
    refine Ev.congr (fun k => ?_) (key 0 (by omega))
    rw [l1In_eq, decide_eq_true h, Option.bind_some, if_pos rfl]
    rfl
  · rw [if_neg h]
    refine Ev.congr (fun k => ?_) (Ev.now _)
    rw [l1In_eq, decide_eq_false h, Option.bind_some, if_neg (by simp)]
theorem fibV_nat {n : Nat} (h : n ≤ 40) : fibV (n : Int) = fibN n := by
  unfold fibV
  rw [if_pos (by omega), Int.toNat_natCast]

/-! IsZeckendorf -/
def zk : Int → List Int → Bool
  | _, [] => true
  | p, x :: t => decide (0 ≤ x) && (decide (x ≤ 1) && (!(decide (p = 1) && decide (x = 1)) && zk x t))
def isZ (d : List Int) : Bool := decide ((d.length : Int) ≤ 40) && (decide (d.getD 0 1 = 1) && zk 0 d)

theorem implIsZ_l0 (x0 : List Int) (hb : x0.length ≤ 1048576) (d : Nat) : ∀ (i : Nat), i + d = x0.length →
    Ev (fun k => impl_IsZeckendorf.l0 k x0 x0 x0.length i) (zk (if i = 0 then 0 else rd x0 ((i : Int) - 1)) (x0.drop i)) := by
  induction d with
  | zero =>
    intro i hi
    rw [List.drop_of_length_le (by omega)]
    refine Ev.step (f := fun _ => some true) (fun k => ?_) (Ev.now _)
    rw [impl_IsZeckendorf.l0, if_neg (by omega)]
  | succ d ih =>
    intro i hi
    have e0 : x0.drop i = x0[i]'(by omega) :: x0.drop (i + 1) := List.drop_eq_getElem_cons (by omega)
    have hr : rd x0 (i : Int) = x0[i]'(by omega) := rd_of (by omega)
    have ih' := ih (i + 1) (by omega)
    rw [if_neg (by omega), show (((i + 1 : Nat) : Int) - 1) = (i : Int) by omega, hr] at ih'
    rw [e0, zk]
    by_cases h1 : x0[i]'(by omega) < 0
    · rw [show decide (0 ≤ x0[i]'(by omega)) = false from decide_eq_false (by omega), Bool.false_and]
      refine Ev.step (f := fun _ => some false) (fun k => ?_) (Ev.now _)
      rw [impl_IsZeckendorf.l0, if_pos (by omega), if_pos (by omega), if_pos (by omega), hr, if_pos h1]
    rw [show decide (0 ≤ x0[i]'(by omega)) = true from decide_eq_true (by omega), Bool.true_and]
    by_cases h2 : x0[i]'(by omega) > 1
    · rw [show decide (x0[i]'(by omega) ≤ 1) = false from decide_eq_false (by omega), Bool.false_and]
      refine Ev.step (f := fun _ => some false) (fun k => ?_) (Ev.now _)
      rw [impl_IsZeckendorf.l0, if_pos (by omega), if_pos (by omega), if_pos (by omega), hr, if_neg h1, if_pos h2]
    rw [show decide (x0[i]'(by omega) ≤ 1) = true from decide_eq_true (by omega), Bool.true_and]
    by_cases h3 : i = 0
    · subst h3
      simp only [if_true, show decide ((0 : Int) = 1) = false from by decide, Bool.false_and, Bool.not_false, Bool.true_and]
      refine Ev.step (fun k => ?_) ih'
      rw [impl_IsZeckendorf.l0, if_pos (by omega), if_pos (by omega), if_pos (by omega), hr, if_neg h1, if_neg h2, if_neg (by omega), w64 (by omega) (by omega)]
      rfl
    · rw [if_neg h3]
      by_cases h4 : x0[i]'(by omega) = 1
      · by_cases h5 : rd x0 ((i : Int) - 1) = 1
        · simp only [h4, h5, decide_true, Bool.and_self, Bool.not_true, Bool.false_and]
          refine Ev.step (f := fun _ => some false) (fun k => ?_) (Ev.now _)
          rw [impl_IsZeckendorf.l0, if_pos (by omega), if_pos (by omega), if_pos (by omega), hr, if_neg h1, if_neg h2, if_pos (by omega), if_pos h4, w64 (by omega) (by omega), if_pos (by omega), if_pos (by omega), if_pos h5]
        · simp only [h5, decide_false, Bool.false_and, Bool.not_false, Bool.true_and]
          refine Ev.step (fun k => ?_) ih'
          rw [impl_IsZeckendorf.l0, if_pos (by omega), if_pos (by omega), if_pos (by omega), hr, if_neg h1, if_neg h2, if_pos (by omega), if_pos h4, w64 (x := (i : Int) - 1) (by omega) (by omega), if_pos (by omega), if_pos (by omega), if_neg h5, w64 (by omega) (by omega)]
          rfl
      · simp only [h4, decide_false, Bool.and_false, Bool.not_false, Bool.true_and]
        refine Ev.step (fun k => ?_) ih'
        rw [impl_IsZeckendorf.l0, if_pos (by omega), if_pos (by omega), if_pos (by omega), hr, if_neg h1, if_neg h2, if_pos (by omega), if_neg h4, w64 (by omega) (by omega)]
        rfl

theorem implIsZ_ev (x0 : List Int) (hb : x0.length ≤ 1048576) : Ev (fun k => impl_IsZeckendorf.f k x0) (isZ x0) := by
  unfold isZ
  by_cases h : (x0.length : Int) > 40
  · rw [decide_eq_false (by omega), Bool.false_and]
    refine Ev.congr (g := fun k => impl_IsZeckendorf.f k x0) (f := fun k => impl_IsZeckendorf.j0 k x0 true) (fun k => ?_) ?_
    · unfold impl_IsZeckendorf.f
      rw [if_pos h]
    · refine Ev.step (f := fun _ => some false) (fun k => ?_) (Ev.now _)
      rw [impl_IsZeckendorf.j0, if_pos rfl]
  · rw [decide_eq_true (by omega), Bool.true_and]
    have hl := implIsZ_l0 x0 hb x0.length 0 (by omega)
    rw [if_pos rfl, List.drop_zero] at hl
    cases x0 with
    | nil =>
      refine Ev.congr (g := fun k => impl_IsZeckendorf.f k []) (f := fun k => impl_IsZeckendorf.j0 k [] false) (fun k => ?_) ?_
      · unfold impl_IsZeckendorf.f
        rw [if_neg h, if_neg (by simp)]
      · refine Ev.step (fun k => ?_) hl
        rw [impl_IsZeckendorf.j0, if_neg (by simp)]
        rfl
    | cons x t =>
      refine Ev.congr (g := fun k => impl_IsZeckendorf.f k (x :: t)) (f := fun k => impl_IsZeckendorf.j0 k (x :: t) (x != 1)) (fun k => ?_) ?_
      · unfold impl_IsZeckendorf.f
        rw [if_neg h, if_pos (by simp), if_pos (by simp)]
        rfl
      · by_cases hx : x = 1
        · subst hx
          simp only [List.getD_cons_zero, decide_true, Bool.true_and]
          refine Ev.step (fun k => ?_) hl
          rw [impl_IsZeckendorf.j0, if_neg (by simp)]
          rfl
        · simp only [List.getD_cons_zero, hx, decide_false, Bool.false_and]
          refine Ev.step (f := fun _ => some false) (fun k => ?_) (Ev.now _)
          rw [impl_IsZeckendorf.j0, if_pos (by simp [hx])]

theorem specIsZ_l0 (x0 : List Int) (hb : x0.length ≤ 1048576) (d : Nat) : ∀ (i : Nat), i + d = x0.length →
    Ev (fun k => spec_IsZeckendorf.l0 k x0 i) (zk (if i = 0 then 0 else rd x0 ((i : Int) - 1)) (x0.drop i) && (decide (i = 0 → x0.getD 0 1 ≠ 0) && decide ((x0.length : Int) ≤ 40))) := by
  induction d with
  | zero =>
    intro i hi
    have hc : (i = 0 → x0.getD 0 1 ≠ 0) := by
      intro h0
      rw [List.getD_eq_getElem?_getD, List.getElem?_eq_none (by omega)]
      decide
    rw [List.drop_of_length_le (by omega), zk, decide_eq_true hc, Bool.true_and, Bool.true_and]
    refine Ev.step (f := fun _ => some _) (fun k => ?_) (Ev.now _)
    rw [spec_IsZeckendorf.l0, if_neg (by omega)]
  | succ d ih =>
    intro i hi
    have e0 : x0.drop i = x0[i]'(by omega) :: x0.drop (i + 1) := List.drop_eq_getElem_cons (by omega)
    have hr : rd x0 (i : Int) = x0[i]'(by omega) := rd_of (by omega)
    have ih' := ih (i + 1) (by omega)
    rw [if_neg (by omega), show (((i + 1 : Nat) : Int) - 1) = (i : Int) by omega, hr, decide_eq_true (show (i + 1 = 0 → x0.getD 0 1 ≠ 0) from fun h => by omega), Bool.true_and] at ih'
    rw [e0, zk]
    by_cases h12 : 0 ≤ x0[i]'(by omega) ∧ x0[i]'(by omega) ≤ 1
    rotate_left
    · have : (decide (0 ≤ x0[i]'(by omega)) && (decide (x0[i]'(by omega) ≤ 1) && (!(decide ((if i = 0 then 0 else rd x0 ((i : Int) - 1)) = 1) && decide (x0[i]'(by omega) = 1)) && zk (x0[i]'(by omega)) (x0.drop (i + 1))))) = false := by
        rw [← Bool.and_assoc]
        have : (decide (0 ≤ x0[i]'(by omega)) && decide (x0[i]'(by omega) ≤ 1)) = false := by simp; omega
        rw [this, Bool.false_and]
      rw [this, Bool.false_and]
      refine Ev.step (f := fun _ => some false) (fun k => ?_) (Ev.now _)
      rw [spec_IsZeckendorf.l0, if_pos (by omega), if_pos (by omega), hr, l1In_eq, decide_eq_false h12]
      rfl
    rw [show decide (0 ≤ x0[i]'(by omega)) = true from decide_eq_true (by omega), Bool.true_and]
    rw [show decide (x0[i]'(by omega) ≤ 1) = true from decide_eq_true (by omega), Bool.true_and]
    by_cases h3 : i = 0
    · subst h3
      simp only [if_true, show decide ((0 : Int) = 1) = false from by decide, Bool.false_and, Bool.not_false, Bool.true_and]
      have hg : x0.getD 0 1 = x0[0]'(by omega) := by rw [List.getD_eq_getElem?_getD, List.getElem?_eq_getElem (by omega)]; rfl
      by_cases h0 : x0[0]'(by omega) = 0
      · rw [show decide (True → x0.getD 0 1 ≠ 0) = false from decide_eq_false (by rw [hg]; simp [h0])]
        simp only [Bool.false_and, Bool.and_false]
        refine Ev.step (f := fun _ => some false) (fun k => ?_) (Ev.now _)
        rw [spec_IsZeckendorf.l0, if_pos (by omega), if_pos (by omega), hr, l1In_eq, decide_eq_true h12, Option.bind_some, if_pos rfl, if_neg (by omega), if_pos (by omega), if_pos (by omega), show rd x0 0 = x0[0]'(by omega) from hr, if_pos h0]
      · rw [show decide (True → x0.getD 0 1 ≠ 0) = true from decide_eq_true (by rw [hg]; simp [h0]), Bool.true_and]
        refine Ev.step (fun k => ?_) ih'
        rw [spec_IsZeckendorf.l0, if_pos (by omega), if_pos (by omega), hr, l1In_eq, decide_eq_true h12, Option.bind_some, if_pos rfl, if_neg (by omega), if_pos (by omega), if_pos (by omega), if_neg (by rw [show rd x0 0 = x0[0]'(by omega) from hr]; exact h0), w64 (by omega) (by omega)]
        rfl
    · rw [if_neg h3, decide_eq_true (show (i = 0 → x0.getD 0 1 ≠ 0) from fun h => absurd h h3), Bool.true_and]
      by_cases h4 : x0[i]'(by omega) = 1
      · by_cases h5 : rd x0 ((i : Int) - 1) = 1
        · simp only [h4, h5, decide_true, Bool.and_self, Bool.not_true, Bool.false_and]
          refine Ev.step (f := fun _ => some false) (fun k => ?_) (Ev.now _)
          rw [spec_IsZeckendorf.l0, if_pos (by omega), if_pos (by omega), hr, l1In_eq, decide_eq_true h12, Option.bind_some, if_pos rfl, if_pos (by omega), if_pos h4, w64 (by omega) (by omega), if_pos (by omega), if_pos (by omega), if_pos h5]
        · simp only [h5, decide_false, Bool.false_and, Bool.not_false, Bool.true_and]
          refine Ev.step (fun k => ?_) ih'
          rw [spec_IsZeckendorf.l0, if_pos (by omega), if_pos (by omega), hr, l1In_eq, decide_eq_true h12, Option.bind_some, if_pos rfl, if_pos (by omega), if_pos h4, w64 (x := (i : Int) - 1) (by omega) (by omega), if_pos (by omega), if_pos (by omega), if_neg h5, if_neg (by omega), w64 (by omega) (by omega)]
          rfl
      · simp only [h4, decide_false, Bool.and_false, Bool.not_false, Bool.true_and]
        refine Ev.step (fun k => ?_) ih'
        rw [spec_IsZeckendorf.l0, if_pos (by omega), if_pos (by omega), hr, l1In_eq, decide_eq_true h12, Option.bind_some, if_pos rfl, if_pos (by omega), if_neg h4, if_neg (by omega), w64 (by omega) (by omega)]
        rfl

theorem specIsZ_ev (x0 : List Int) (hb : x0.length ≤ 1048576) : Ev (fun k => spec_IsZeckendorf.f k x0) (isZ x0) := by
  have h := specIsZ_l0 x0 hb x0.length 0 (by omega)
  have e : (zk (if (0 : Nat) = 0 then 0 else rd x0 (((0 : Nat) : Int) - 1)) (x0.drop 0) && (decide ((0 : Nat) = 0 → x0.getD 0 1 ≠ 0) && decide ((x0.length : Int) ≤ 40))) = isZ x0 := by
    unfold isZ
    rw [if_pos rfl, List.drop_zero]
    cases x0 with
    | nil => rfl
    | cons x t =>
      simp only [List.getD_cons_zero, zk]
      by_cases h1 : x = 1
      · subst h1
        simp [Bool.and_comm]
      · by_cases h0 : x = 0
        · subst h0
          simp
        · have : (decide (0 ≤ x) && (decide (x ≤ 1) && (!(decide ((0 : Int) = 1) && decide (x = 1)) && zk x t))) = false := by
            rw [← Bool.and_assoc]
            have : (decide (0 ≤ x) && decide (x ≤ 1)) = false := by simp; omega
            rw [this, Bool.false_and]
          rw [this]
          simp
  rw [e] at h
  exact Ev.congr (fun k => rfl) h

/-! ZeckendorfValue -/
def zval (l : List Int) : Int := if isZ l = true then zsum l l.length else -1
theorem isZ_len {l : List Int} (h : isZ l = true) : l.length ≤ 40 := by
  unfold isZ at h
  simp only [Bool.and_eq_true, decide_eq_true_eq] at h
  omega
theorem specZV_ev (l : List Int) (hb : l.length ≤ 1048576) : Ev (fun k => spec_ZeckendorfValue.f k l) (zval l) := by
  unfold spec_ZeckendorfValue.f zval
  refine Ev.bind (specIsZ_ev l hb) ?_
  by_cases h : isZ l = true
  · simp only [h, if_true]
    have hl := isZ_len h
    have key := downs (P := fun i => Ev (fun k => spec_ZeckendorfValue.l0 k l (zsum l i) (i : Int)) (zsum l l.length)) l.length
      (fun i hi ih => by
        refine Ev.step (f := fun k => (spec_FibonacciNumber.f k ((l.length - 1 - i : Nat) : Int)).bind fun t => spec_ZeckendorfValue.l0 k l (wrap64 (zsum l i + wrap64 (rd l (i : Int) * t))) ((i + 1 : Nat) : Int)) (fun k => ?_) (Ev.bind (specFib_ev _) ?_)
        · rw [spec_ZeckendorfValue.l0, if_pos (by omega), if_pos (by omega), w64 (x := (l.length : Int) - 1) (by omega) (by omega), w64 (x := (l.length : Int) - 1 - i) (by omega) (by omega), w64 (x := (i : Int) + 1) (by omega) (by omega)]
          rw [show (l.length : Int) - 1 - (i : Int) = ((l.length - 1 - i : Nat) : Int) by omega]
          rfl
        · rw [fibV_nat (by omega)]
          exact ih)
      (by
        refine Ev.step (f := fun _ => some _) (fun k => ?_) (Ev.now _)
        rw [spec_ZeckendorfValue.l0, if_neg (by omega)])
    exact key 0 (by omega)
  · simp only [h, if_false]
    exact Ev.now _
theorem implZV_ev (l : List Int) (hb : l.length ≤ 1048576) : Ev (fun k => impl_ZeckendorfValue.f k l) (zval l) := by
  unfold impl_ZeckendorfValue.f zval
  refine Ev.bind (implIsZ_ev l hb) ?_
  by_cases h : isZ l = true
  · have hl := isZ_len h
    simp only [h, if_true, if_pos (show l.length ≤ 41 by omega)]
    exact Ev.now _
  · simp only [h, if_false]
    exact Ev.now _

/-! laws_toIntS -/
theorem toIntS_l0 (x0 : List Int) (hb : x0.length ≤ 1048576) (d : Nat) : ∀ (i : Nat), i + d = x0.length →
    Ev (fun k => laws_toIntS.l0 k x0 (x0.take i ++ List.replicate d 0) i) x0 := by
  induction d with
  | zero =>
    intro i hi
    refine Ev.step (f := fun _ => some x0) (fun k => ?_) (Ev.now _)
    rw [laws_toIntS.l0, if_neg (by omega)]
    simp [List.take_of_length_le (show x0.length ≤ i by omega)]
  | succ d ih =>
    intro i hi
    refine Ev.step (fun k => ?_) (ih (i + 1) (by omega))
    rw [laws_toIntS.l0, if_pos (by omega), if_pos (by omega), if_pos (by simp; omega), w64 (by omega) (by omega)]
    congr 1
    rw [rd_of (show i < x0.length by omega), Int.toNat_natCast]
    apply List.ext_getElem
    · simp; omega
    · intro j h1 h2
      simp [List.getElem_set, List.getElem_append, List.getElem_take] at *
      split <;> split <;> try split
      all_goals first | rfl | omega | (subst_vars; rfl)

theorem toIntS_ev (x0 : List Int) (hb : x0.length ≤ 1048576) : Ev (fun k => laws_toIntS.f k x0) x0 := by
  have h := toIntS_l0 x0 hb x0.length 0 (by omega)
  refine Ev.congr (fun k => ?_) h
  unfold laws_toIntS.f
  rw [if_pos (by omega), if_pos (by omega)]
  simp

/-! laws_eqIntS -/
theorem eqIntS_l0 (x0 x1 : List Int) (hb : x0.length ≤ 1048576) (hl : x0.length = x1.length) (d : Nat) : ∀ (i : Nat), i + d = x0.length →
    Ev (fun k => laws_eqIntS.l0 k x0 x1 i) (decide (x0.drop i = x1.drop i)) := by
  induction d with
  | zero =>
    intro i hi
    refine Ev.step (f := fun _ => some true) (fun k => ?_) ?_
    · rw [laws_eqIntS.l0, if_neg (by omega)]
    · rw [List.drop_of_length_le (by omega), List.drop_of_length_le (by omega)]
      exact Ev.now _
  | succ d ih =>
    intro i hi
    have e0 : x0.drop i = x0[i]'(by omega) :: x0.drop (i + 1) := List.drop_eq_getElem_cons (by omega)
    have e1 : x1.drop i = x1[i]'(by omega) :: x1.drop (i + 1) := List.drop_eq_getElem_cons (by omega)
    by_cases h : x0[i]'(by omega) = x1[i]'(by omega)
    · rw [e0, e1, h]
      simp only [List.cons.injEq, true_and]
      refine Ev.step (fun k => ?_) (ih (i + 1) (by omega))
      rw [laws_eqIntS.l0, if_pos (by omega), if_pos (by omega), if_pos (by omega), rd_of (show i < x0.length by omega), rd_of (show i < x1.length by omega), if_pos h, w64 (by omega) (by omega)]
      rfl
    · rw [e0, e1]
      simp only [List.cons.injEq, h, false_and]
      refine Ev.step (f := fun _ => some false) (fun k => ?_) (Ev.now _)
      rw [laws_eqIntS.l0, if_pos (by omega), if_pos (by omega), if_pos (by omega), rd_of (show i < x0.length by omega), rd_of (show i < x1.length by omega), if_neg h]

theorem eqIntS_ev (x0 x1 : List Int) (hb : x0.length ≤ 1048576) : Ev (fun k => laws_eqIntS.f k x0 x1) (decide (x0 = x1)) := by
  by_cases hl : x0.length = x1.length
  · refine Ev.congr (fun k => ?_) (eqIntS_l0 x0 x1 hb hl x0.length 0 (by omega))
    unfold laws_eqIntS.f
    rw [if_pos (by omega)]
    rfl
  · rw [decide_eq_false (by intro h; exact hl (by rw [h]))]
    refine Ev.congr (fun k => ?_) (Ev.now _)
    unfold laws_eqIntS.f
    rw [if_neg (by omega)]

/-! law_FnExactZeckendorfValue -/
theorem FnExactZeckendorfValue (l0 : List Int) (w0 : wfl wfi l0) : ∃ k, laws_FnExactZeckendorfValue.f k l0 = some true := by
  refine Ev.rounds ?_
  unfold laws_FnExactZeckendorfValue.f
  by_cases hb : (l0.length : Int) > 1048576
  · simp only [if_pos hb]
    exact Ev.now _
  · simp only [if_neg hb]
    have hb' : l0.length ≤ 1048576 := by omega
    refine Ev.bind (toIntS_ev l0 hb') (Ev.bind (specZV_ev l0 hb') (Ev.bind (toIntS_ev l0 hb') (Ev.bind (implZV_ev l0 hb') ?_)))
    simp only [if_true]
    refine Ev.bind (toIntS_ev l0 hb') (Ev.bind (eqIntS_ev l0 l0 hb') ?_)
    simp only [decide_true, if_true]
    exact Ev.now _

end Go.Proofs.Ytaobkepknhnfoaa.Pure
