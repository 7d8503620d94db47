/- The pure law FnExactFibonacciNumber: what the printed functions of the program and of the reference compute agrees, for all arguments. -/
import Derived.Test.YtaobkepknhnfoaaQ0
import Derived.Test.YtaobkepknhnfoaaQ1
import Derived.Test.YtaobkepknhnfoaaQ2
import Derived.Test.YtaobkepknhnfoaaQ3
import Derived.Test.YtaobkepknhnfoaaQ4
import Derived.Test.YtaobkepknhnfoaaQ5
import Derived.Test.YtaobkepknhnfoaaMRow
namespace Go.Proofs.Ytaobkepknhnfoaa.Pure
open Go.RowKit Go.Proofs.Ytaobkepknhnfoaa.Q Go.Proofs.Ytaobkepknhnfoaa.MRow Go.Proofs.YtaobkepknhnfoaaW.PrintWords Go.Proofs.YtaobkepknhnfoaaW.PrintLast
set_option linter.unusedVariables false
set_option linter.unusedSimpArgs false

/-! base -/
theorem w64 {x : Int} (h0 : -9223372036854775808 ≤ x) (h1 : x < 9223372036854775808) : wrap64 x = x := by
  unfold wrap64; omega

theorem rd_of {xs : List Int} {i : Nat} (h : i < xs.length) : rd xs (i : Int) = xs[i] := by
  simp [rd, List.getD_eq_getElem?_getD, h]
theorem getD_of {α : Type} {xs : List α} {d : α} {i : Nat} (h : i < xs.length) : xs.getD ((i : Int)).toNat d = xs[i] := by
  simp [List.getD_eq_getElem?_getD, h]
/-- From the end of a range down. -/
theorem downs {P : Nat → Prop} (n : Nat) (step : ∀ i, i < n → P (i + 1) → P i) (done : P n) : ∀ i, i ≤ n → P i := by
  have key : ∀ d i, i + d = n → P i := by
    intro d
    induction d with
    | zero => intro i hi; rw [show i = n by omega]; exact done
    | succ d ih => intro i hi; exact step i (by omega) (ih (i + 1) (by omega))
  intro i hi
  exact key (n - i) i (by omega)
theorem drop_at {α : Type} {l : List α} {i : Nat} (h : i < l.length) : l.drop i = l[i] :: l.drop (i + 1) := List.drop_eq_getElem_cons h
theorem Ev.eq {α : Type} {g : Nat → Option α} {r r' : α} (h : Ev g r) (e : r = r') : Ev g r' := e ▸ h
theorem natCast_succ' (i : Nat) : ((i : Int) + 1) = ((i + 1 : Nat) : Int) := by omega
/-- A list that is filled from its begin. -/
theorem fill_set {α : Type} (xs : List α) (z y : α) (i d : Nat) (h : i < xs.length) (hd : i + (d + 1) = xs.length) (hy : y = xs[i]) :
    (xs.take i ++ List.replicate (d + 1) z).set i y = xs.take (i + 1) ++ List.replicate d z := by
  subst hy
  rw [List.set_append_right _ _ (by simp; omega)]
  have hl : (xs.take i).length = i := by simp; omega
  rw [hl, Nat.sub_self, List.replicate_succ, List.set_cons_zero, List.take_succ_eq_append_getElem h, List.append_assoc]
  rfl

/-! spec_l1In -/
theorem l1In_eq (a b c : Int) : spec_l1In.f a b c = some (decide (b ≤ a ∧ a ≤ c)) := by
  unfold spec_l1In.f
  by_cases h : a ≥ b
  · rw [if_pos h]
    congr 1
    simp; omega
  · rw [if_neg h]
    congr 1
    simp; omega

/-! Fib -/
theorem fibN_bd2 : ∀ k, k < 43 → 0 ≤ fibN k ∧ fibN k ≤ 1152921504606846976 := by decide +kernel
theorem specFib_ev (x : Int) : Ev (fun k => spec_FibonacciNumber.f k x) (fibV x) := by
  unfold spec_FibonacciNumber.f fibV
  by_cases h : 0 ≤ x ∧ x ≤ 40
  · obtain ⟨n, rfl⟩ : ∃ n : Nat, x = n := ⟨x.toNat, by omega⟩
    have key := downs (P := fun i => Ev (fun k => spec_FibonacciNumber.l0 k (n : Int) (fibN i) (fibN (i + 1)) (i : Int)) (fibN n)) n
      (fun i hi ih => by
        have b := fibN_bd2 (i + 2) (by omega)
        refine Ev.step (fun k => ?_) ih
        rw [spec_FibonacciNumber.l0, if_pos (by omega), w64 (x := (i : Int) + 1) (by omega) (by omega)]
        rw [show fibN i + fibN (i + 1) = fibN (i + 2) from by rw [fibN, Int.add_comm], w64 (by omega) (by omega)]
        rfl)
      (by
        refine Ev.step (f := fun _ => some _) (fun k => ?_) (Ev.now _)
        rw [spec_FibonacciNumber.l0, if_neg (by omega)])
    rw [if_pos h]
    refine Ev.congr (fun k => ?_) (key 0 (by omega))
    rw [l1In_eq, decide_eq_true h, Option.bind_some, if_pos rfl]
    rfl
  · rw [if_neg h]
    refine Ev.congr (fun k => ?_) (Ev.now _)
    rw [l1In_eq, decide_eq_false h, Option.bind_some, if_neg (by simp)]
theorem fibV_nat {n : Nat} (h : n ≤ 40) : fibV (n : Int) = fibN n := by
  unfold fibV
  rw [if_pos (by omega), Int.toNat_natCast]

/-! law_FnExactFibonacciNumber -/
theorem FnExactFibonacciNumber (a0 : Int) (w0 : -9223372036854775808 ≤ a0 ∧ a0 ≤ 9223372036854775807) : ∃ k, laws_FnExactFibonacciNumber.f k a0 = some true := by
  refine Ev.rounds ?_
  unfold laws_FnExactFibonacciNumber.f
  refine Ev.bind (specFib_ev a0) ?_
  simp only [impl_FibonacciNumber.f, Option.bind_some, if_true]
  exact Ev.now _

end Go.Proofs.Ytaobkepknhnfoaa.Pure
