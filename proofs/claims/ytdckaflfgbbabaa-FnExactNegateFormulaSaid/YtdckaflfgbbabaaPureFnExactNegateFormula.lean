/- The pure law FnExactNegateFormula: what the printed functions of the program and of the reference compute agrees, for all arguments. -/
import Derived.Test.YtdckaflfgbbabaaQ0
import Derived.Test.YtdckaflfgbbabaaQ1
import Derived.Test.YtdckaflfgbbabaaQ11
import Derived.Test.YtdckaflfgbbabaaQ12
import Derived.Test.YtdckaflfgbbabaaQ13
import Derived.Test.YtdckaflfgbbabaaQ14
import Derived.Test.YtdckaflfgbbabaaQ15
import Derived.Test.YtdckaflfgbbabaaQ16
import Derived.Test.YtdckaflfgbbabaaQ17
import Derived.Test.YtdckaflfgbbabaaQ3
import Derived.Test.YtdckaflfgbbabaaQ31
import Derived.Test.YtdckaflfgbbabaaQ32
import Derived.Test.YtdckaflfgbbabaaQ33
import Derived.Test.YtdckaflfgbbabaaQ34
import Derived.Test.YtdckaflfgbbabaaQ35
import Derived.Test.YtdckaflfgbbabaaQ36
import Derived.Test.YtdckaflfgbbabaaQ4
import Derived.Test.YtdckaflfgbbabaaQ43
import Derived.Test.YtdckaflfgbbabaaQ44
import Derived.Test.YtdckaflfgbbabaaQ8
import Derived.Test.YtdckaflfgbbabaaQ9
import Derived.Test.YtdckaflfgbbabaaMRow
namespace Go.Proofs.Ytdckaflfgbbabaa.Pure
open Go.RowKit Go.Proofs.Ytdckaflfgbbabaa.Q Go.Proofs.Ytdckaflfgbbabaa.MRow Go.Proofs.YtdckaflfgbbabaaW.PrintWords Go.Proofs.YtdckaflfgbbabaaW.PrintLast
set_option linter.unusedVariables false
set_option linter.unusedSimpArgs false

/-! base -/
theorem w64 {x : Int} (h0 : -9223372036854775808 ≤ x) (h1 : x < 9223372036854775808) : wrap64 x = x := by
  unfold wrap64; omega

theorem rd_of {xs : List Int} {i : Nat} (h : i < xs.length) : rd xs (i : Int) = xs[i] := by
  simp [rd, List.getD_eq_getElem?_getD, h]
theorem getD_of {α : Type} {xs : List α} {d : α} {i : Nat} (h : i < xs.length) : xs.getD ((i : Int)).toNat d = xs[i] := by
  simp [List.getD_eq_getElem?_getD, h]
/-- From the end of a range down. -/
theorem downs {P : Nat → Prop} (n : Nat) (step : ∀ i, i < n → P (i + 1) → P i) (done : P n) : ∀ i, i ≤ n → P i := by
  have key : ∀ d i, i + d = n → P i := by
    intro d
    induction d with
    | zero => intro i hi; rw [show i = n by omega]; exact done
    | succ d ih => intro i hi; exact step i (by omega) (ih (i + 1) (by omega))
  intro i hi
  exact key (n - i) i (by omega)
theorem drop_at {α : Type} {l : List α} {i : Nat} (h : i < l.length) : l.drop i = l[i] :: l.drop (i + 1) := List.drop_eq_getElem_cons h
theorem Ev.eq {α : Type} {g : Nat → Option α} {r r' : α} (h : Ev g r) (e : r = r') : Ev g r' := e ▸ h
theorem natCast_succ' (i : Nat) : ((i : Int) + 1) = ((i + 1 : Nat) : Int) := by omega
/-- A list that is filled from its begin. -/
theorem fill_set {α : Type} (xs : List α) (z y : α) (i d : Nat) (h : i < xs.length) (hd : i + (d + 1) = xs.length) (hy : y = xs[i]) :
    (xs.take i ++ List.replicate (d + 1) z).set i y = xs.take (i + 1) ++ List.replicate d z := by
  subst hy
  rw [List.set_append_right _ _ (by simp; omega)]
  have hl : (xs.take i).length = i := by simp; omega
  rw [hl, Nat.sub_self, List.replicate_succ, List.set_cons_zero, List.take_succ_eq_append_getElem h, List.append_assoc]
  rfl

/-! nodes -/
def toN (x : S50) : S48 := ⟨x.f0, x.f1, x.f2, x.f3⟩
theorem rdN_of {xs : List S48} {i : Nat} (h : i < xs.length) : rd_T48 xs (i : Int) = xs[i] := by
  unfold rd_T48
  exact getD_of h
theorem rdLN_of {xs : List S50} {i : Nat} (h : i < xs.length) : rd_T50 xs (i : Int) = xs[i] := by
  unfold rd_T50
  exact getD_of h
theorem toNodeS_ev (x0 : List S50) (hb : x0.length ≤ 1048576) : Ev (fun k => laws_toNodeS.f k x0) (x0.map toN) := by
  have key := downs (P := fun i => Ev (fun k => laws_toNodeS.l0 k x0 ((x0.map toN).take i ++ List.replicate (x0.length - i) z48) (i : Int)) (x0.map toN)) x0.length
    (fun i hi ih => by
      refine Ev.step (fun k => ?_) ih
      rw [laws_toNodeS.l0, if_pos (by omega), if_pos (by omega), rdLN_of hi, laws_toNode.f, Option.bind_some, if_pos (by simp; omega), w64 (by omega) (by omega), Int.toNat_natCast]
      rw [show x0.length - i = (x0.length - (i + 1)) + 1 by omega, fill_set (x0.map toN) _ _ i _ (by simpa using hi) (by simp; omega) (by simp [toN])]
      rfl)
    (by
      refine Ev.step (f := fun _ => some (x0.map toN)) (fun k => ?_) (Ev.now _)
      rw [laws_toNodeS.l0, if_neg (by omega)]
      simp [List.take_of_length_le])
  have h := key 0 (by omega)
  refine Ev.congr (fun k => ?_) h
  unfold laws_toNodeS.f
  rw [if_pos (by omega), if_pos (by omega)]
  simp
theorem szNodeS_eq (x0 : List S50) (h : x0.length ≤ 9223372036854775807) : laws_szNodeS.f x0 1048576 = some (if x0.length ≤ 1048576 then 1048576 - (x0.length : Int) else -1) := by
  unfold laws_szNodeS.f
  rw [w64 (by omega) (by omega)]
  by_cases hl : x0.length ≤ 1048576
  · rw [if_neg (by omega), if_pos hl]
  · rw [if_pos (by omega), if_neg hl]
theorem eqNode_self (x : S48) : laws_eqNode.f x.f0 x.f1 x.f2 x.f3 x.f0 x.f1 x.f2 x.f3 = some true := by
  unfold laws_eqNode.f
  simp
theorem eqNodeS_self_n (x0 : List S48) (hb : x0.length ≤ 4611686018427387904) : Ev (fun k => laws_eqNodeS.f k x0 x0) true := by
  have key := downs (P := fun i => Ev (fun k => laws_eqNodeS.l0 k x0 x0 (i : Int)) true) x0.length
    (fun i hi ih => by
      refine Ev.step (fun k => ?_) ih
      rw [laws_eqNodeS.l0, if_pos (by omega), if_pos (by omega), if_pos (by omega), rdN_of hi, eqNode_self, Option.bind_some, if_pos rfl, w64 (by omega) (by omega)]
      rfl)
    (by
      refine Ev.step (f := fun _ => some true) (fun k => ?_) (Ev.now _)
      rw [laws_eqNodeS.l0, if_neg (by omega)])
  refine Ev.congr (fun k => ?_) (key 0 (by omega))
  unfold laws_eqNodeS.f
  rw [if_pos rfl]
  rfl
theorem eqNodeS_self (x0 : List S48) (hb : x0.length ≤ 1048576) : Ev (fun k => laws_eqNodeS.f k x0 x0) true := eqNodeS_self_n x0 (by omega)

/-! spec_l1In -/
theorem l1In_eq (a b c : Int) : spec_l1In.f a b c = some (decide (b ≤ a ∧ a ≤ c)) := by
  unfold spec_l1In.f
  by_cases h : a ≥ b
  · rw [if_pos h]
    congr 1
    simp; omega
  · rw [if_neg h]
    congr 1
    simp; omega

/-! kids -/
def vB (x : Int) : Bool := decide (0 ≤ x ∧ x ≤ 2)
def kidsL (op x y z : Int) : List Int :=
  if op = 6 then [x] else if op = 7 ∨ op = 8 then [x, y] else if op = 9 ∨ op = 10 then [y] else []
def fB (op x y z : Int) : Bool :=
  if op = 1 ∨ op = 2 then vB x && (vB y && decide (z = 0))
  else if op = 3 then vB x && (vB y && vB z)
  else if op = 4 then vB x && (decide (0 ≤ y ∧ y ≤ 255) && decide (z = 0))
  else if op = 5 then vB x && (decide (0 ≤ y ∧ y ≤ 3) && decide (z = 0))
  else if op = 6 then decide (y = 0) && decide (z = 0)
  else if op = 7 ∨ op = 8 then decide (z = 0)
  else if op = 9 ∨ op = 10 then vB x && decide (z = 0)
  else false
def inB (at_ : Int) (j : Int) : Bool := decide (0 ≤ j ∧ j < at_)
def nB (op x y z at_ : Int) : Bool := fB op x y z && (kidsL op x y z).all (inB at_)
theorem opcases (op : Int) : op = 1 ∨ op = 2 ∨ op = 3 ∨ op = 4 ∨ op = 5 ∨ op = 6 ∨ op = 7 ∨ op = 8 ∨ op = 9 ∨ op = 10 ∨ (op ≠ 1 ∧ op ≠ 2 ∧ op ≠ 3 ∧ op ≠ 4 ∧ op ≠ 5 ∧ op ≠ 6 ∧ op ≠ 7 ∧ op ≠ 8 ∧ op ≠ 9 ∧ op ≠ 10) := by omega
theorem beq_dec (a b : Int) : (a == b) = decide (a = b) := Bool.beq_eq_decide_eq a b
theorem ite_bool {c : Bool} {a b : Bool} : (if c = true then some a else some b) = some (if c then a else b) := by cases c <;> rfl
theorem ite_prop {c : Prop} [Decidable c] {a b : Bool} : (if c then some a else some b) = some (if decide c = true then a else b) := by by_cases h : c <;> simp [h]
theorem ite_and {c d : Bool} : (if c = true then d else false) = (c && d) := by cases c <;> rfl
theorem dec_and {p q : Prop} [Decidable p] [Decidable q] : (decide p && decide q) = decide (p ∧ q) := by by_cases hp : p <;> by_cases hq : q <;> simp [hp, hq]
theorem l16Node_eq (k : Nat) (op x y z at_ : Int) : spec_l16Node.f (k + 2) op x y z at_ = some (nB op x y z at_) := by
  rcases opcases op with h | h | h | h | h | h | h | h | h | h | ⟨h1, h2, h3, h4, h5, h6, h7, h8, h9, h10⟩
  · subst h
    simp only [spec_l16Node.f, spec_l16Node.j0, spec_l16Node.j1, l1In_eq, Option.bind_some, nB, fB, kidsL, vB, inB]
    simp only [Int.reduceEq, if_true, if_false, beq_self_eq_true, ite_bool, ite_prop, Option.bind_some, Option.some.injEq, true_or, or_true, or_self, false_or, Int.reduceBEq, Bool.false_eq_true, ge_iff_le]
    simp only [List.all_nil, List.all_cons, Bool.and_true, ite_and, beq_dec]
    first | rfl | (rw [Bool.eq_iff_iff]; simp only [Bool.and_eq_true, decide_eq_true_eq, inB] <;> omega)
  · subst h
    simp only [spec_l16Node.f, spec_l16Node.j0, spec_l16Node.j1, l1In_eq, Option.bind_some, nB, fB, kidsL, vB, inB]
    simp only [Int.reduceEq, if_true, if_false, beq_self_eq_true, ite_bool, ite_prop, Option.bind_some, Option.some.injEq, true_or, or_true, or_self, false_or, Int.reduceBEq, Bool.false_eq_true, ge_iff_le]
    simp only [List.all_nil, List.all_cons, Bool.and_true, ite_and, beq_dec]
    first | rfl | (rw [Bool.eq_iff_iff]; simp only [Bool.and_eq_true, decide_eq_true_eq, inB] <;> omega)
  · subst h
    simp only [spec_l16Node.f, spec_l16Node.j0, spec_l16Node.j1, l1In_eq, Option.bind_some, nB, fB, kidsL, vB, inB]
    simp only [Int.reduceEq, if_true, if_false, beq_self_eq_true, ite_bool, ite_prop, Option.bind_some, Option.some.injEq, true_or, or_true, or_self, false_or, Int.reduceBEq, Bool.false_eq_true, ge_iff_le]
    simp only [List.all_nil, List.all_cons, Bool.and_true, ite_and, beq_dec]
    first | rfl | (rw [Bool.eq_iff_iff]; simp only [Bool.and_eq_true, decide_eq_true_eq, inB] <;> omega)
  · subst h
    simp only [spec_l16Node.f, spec_l16Node.j0, spec_l16Node.j1, l1In_eq, Option.bind_some, nB, fB, kidsL, vB, inB]
    simp only [Int.reduceEq, if_true, if_false, beq_self_eq_true, ite_bool, ite_prop, Option.bind_some, Option.some.injEq, true_or, or_true, or_self, false_or, Int.reduceBEq, Bool.false_eq_true, ge_iff_le]
    simp only [List.all_nil, List.all_cons, Bool.and_true, ite_and, beq_dec]
    first | rfl | (rw [Bool.eq_iff_iff]; simp only [Bool.and_eq_true, decide_eq_true_eq, inB] <;> omega)
  · subst h
    simp only [spec_l16Node.f, spec_l16Node.j0, spec_l16Node.j1, l1In_eq, Option.bind_some, nB, fB, kidsL, vB, inB]
    simp only [Int.reduceEq, if_true, if_false, beq_self_eq_true, ite_bool, ite_prop, Option.bind_some, Option.some.injEq, true_or, or_true, or_self, false_or, Int.reduceBEq, Bool.false_eq_true, ge_iff_le]
    simp only [List.all_nil, List.all_cons, Bool.and_true, ite_and, beq_dec]
    first | rfl | (rw [Bool.eq_iff_iff]; simp only [Bool.and_eq_true, decide_eq_true_eq, inB] <;> omega)
  · subst h
    simp only [spec_l16Node.f, spec_l16Node.j0, spec_l16Node.j1, l1In_eq, Option.bind_some, nB, fB, kidsL, vB, inB]
    simp only [Int.reduceEq, if_true, if_false, beq_self_eq_true, ite_bool, ite_prop, Option.bind_some, Option.some.injEq, true_or, or_true, or_self, false_or, Int.reduceBEq, Bool.false_eq_true, ge_iff_le]
    simp only [List.all_nil, List.all_cons, Bool.and_true, ite_and, beq_dec]
    first | rfl | (rw [Bool.eq_iff_iff]; simp only [Bool.and_eq_true, decide_eq_true_eq, inB] <;> omega)
  · subst h
    simp only [spec_l16Node.f, spec_l16Node.j0, spec_l16Node.j1, l1In_eq, Option.bind_some, nB, fB, kidsL, vB, inB]
    simp only [Int.reduceEq, if_true, if_false, beq_self_eq_true, ite_bool, ite_prop, Option.bind_some, Option.some.injEq, true_or, or_true, or_self, false_or, Int.reduceBEq, Bool.false_eq_true, ge_iff_le]
    simp only [List.all_nil, List.all_cons, Bool.and_true, ite_and, beq_dec]
    first | rfl | (rw [Bool.eq_iff_iff]; simp only [Bool.and_eq_true, decide_eq_true_eq, inB] <;> omega)
  · subst h
    simp only [spec_l16Node.f, spec_l16Node.j0, spec_l16Node.j1, l1In_eq, Option.bind_some, nB, fB, kidsL, vB, inB]
    simp only [Int.reduceEq, if_true, if_false, beq_self_eq_true, ite_bool, ite_prop, Option.bind_some, Option.some.injEq, true_or, or_true, or_self, false_or, Int.reduceBEq, Bool.false_eq_true, ge_iff_le]
    simp only [List.all_nil, List.all_cons, Bool.and_true, ite_and, beq_dec]
    first | rfl | (rw [Bool.eq_iff_iff]; simp only [Bool.and_eq_true, decide_eq_true_eq, inB] <;> omega)
  · subst h
    simp only [spec_l16Node.f, spec_l16Node.j0, spec_l16Node.j1, l1In_eq, Option.bind_some, nB, fB, kidsL, vB, inB]
    simp only [Int.reduceEq, if_true, if_false, beq_self_eq_true, ite_bool, ite_prop, Option.bind_some, Option.some.injEq, true_or, or_true, or_self, false_or, Int.reduceBEq, Bool.false_eq_true, ge_iff_le]
    simp only [List.all_nil, List.all_cons, Bool.and_true, ite_and, beq_dec]
    first | rfl | (rw [Bool.eq_iff_iff]; simp only [Bool.and_eq_true, decide_eq_true_eq, inB] <;> omega)
  · subst h
    simp only [spec_l16Node.f, spec_l16Node.j0, spec_l16Node.j1, l1In_eq, Option.bind_some, nB, fB, kidsL, vB, inB]
    simp only [Int.reduceEq, if_true, if_false, beq_self_eq_true, ite_bool, ite_prop, Option.bind_some, Option.some.injEq, true_or, or_true, or_self, false_or, Int.reduceBEq, Bool.false_eq_true, ge_iff_le]
    simp only [List.all_nil, List.all_cons, Bool.and_true, ite_and, beq_dec]
    first | rfl | (rw [Bool.eq_iff_iff]; simp only [Bool.and_eq_true, decide_eq_true_eq, inB] <;> omega)
  · simp [spec_l16Node.f, spec_l16Node.j0, spec_l16Node.j1, nB, fB, h1, h2, h3, h4, h5, h6, h7, h8, h9, h10]
theorem l16Kids_eq (k : Nat) (op x y z : Int) : spec_l16Kids.f (k + 1) op x y z = some (kidsL op x y z) := by
  rcases opcases op with h | h | h | h | h | h | h | h | h | h | ⟨h1, h2, h3, h4, h5, h6, h7, h8, h9, h10⟩
  all_goals first
    | subst h
      simp [spec_l16Kids.f, spec_l16Kids.j0, kidsL]
      done
    | simp [spec_l16Kids.f, spec_l16Kids.j0, kidsL, h6, h7, h8, h9, h10]
theorem isVar_eq (x : Int) : impl_isVariable.f x = some (vB x) := by
  unfold impl_isVariable.f vB
  by_cases h : x ≥ 0
  · rw [if_pos h, Option.some.injEq, Bool.eq_iff_iff]; simp only [decide_eq_true_eq]; omega
  · rw [if_neg h, Option.some.injEq, Bool.eq_iff_iff]; simp; omega
theorem isTerm_eq (x : Int) : impl_isTerm.f x = some (decide (0 ≤ x ∧ x ≤ 3)) := by
  unfold impl_isTerm.f
  by_cases h : x ≥ 0
  · rw [if_pos h, Option.some.injEq, Bool.eq_iff_iff]; simp only [decide_eq_true_eq]; omega
  · rw [if_neg h, Option.some.injEq, Bool.eq_iff_iff]; simp; omega
theorem ite_pair {c : Bool} {l : List Int} {a b : Bool} : (if c = true then some (l, a) else some (l, b)) = some (l, if c then a else b) := by cases c <;> rfl
theorem ite_pairp {c : Prop} [Decidable c] {l : List Int} {a b : Bool} : (if c then some (l, a) else some (l, b)) = some (l, if decide c = true then a else b) := by by_cases h : c <;> simp [h]
theorem kids_eq (k : Nat) (op x y z : Int) : impl_Node_kids.f (k + 2) op x y z = some (kidsL op x y z, fB op x y z) := by
  rcases opcases op with h | h | h | h | h | h | h | h | h | h | ⟨h1, h2, h3, h4, h5, h6, h7, h8, h9, h10⟩
  · subst h
    simp only [impl_Node_kids.f, impl_Node_kids.j0, impl_Node_kids.j1, isVar_eq, isTerm_eq, Option.bind_some, fB, kidsL]
    simp only [Int.reduceEq, if_true, if_false, beq_self_eq_true, ite_pair, ite_pairp, Option.bind_some, Option.some.injEq, true_or, or_true, or_self, false_or, Int.reduceBEq, Bool.false_eq_true, ge_iff_le, Prod.mk.injEq, true_and]
    first | done | (simp only [ite_and, beq_dec]; done) | (simp only [ite_and, beq_dec]; rw [Bool.eq_iff_iff]; simp only [Bool.and_eq_true, decide_eq_true_eq, vB] <;> omega)
  · subst h
    simp only [impl_Node_kids.f, impl_Node_kids.j0, impl_Node_kids.j1, isVar_eq, isTerm_eq, Option.bind_some, fB, kidsL]
    simp only [Int.reduceEq, if_true, if_false, beq_self_eq_true, ite_pair, ite_pairp, Option.bind_some, Option.some.injEq, true_or, or_true, or_self, false_or, Int.reduceBEq, Bool.false_eq_true, ge_iff_le, Prod.mk.injEq, true_and]
    first | done | (simp only [ite_and, beq_dec]; done) | (simp only [ite_and, beq_dec]; rw [Bool.eq_iff_iff]; simp only [Bool.and_eq_true, decide_eq_true_eq, vB] <;> omega)
  · subst h
    simp only [impl_Node_kids.f, impl_Node_kids.j0, impl_Node_kids.j1, isVar_eq, isTerm_eq, Option.bind_some, fB, kidsL]
    simp only [Int.reduceEq, if_true, if_false, beq_self_eq_true, ite_pair, ite_pairp, Option.bind_some, Option.some.injEq, true_or, or_true, or_self, false_or, Int.reduceBEq, Bool.false_eq_true, ge_iff_le, Prod.mk.injEq, true_and]
    first | done | (simp only [ite_and, beq_dec]; done) | (simp only [ite_and, beq_dec]; rw [Bool.eq_iff_iff]; simp only [Bool.and_eq_true, decide_eq_true_eq, vB] <;> omega)
  · subst h
    simp only [impl_Node_kids.f, impl_Node_kids.j0, impl_Node_kids.j1, isVar_eq, isTerm_eq, Option.bind_some, fB, kidsL]
    simp only [Int.reduceEq, if_true, if_false, beq_self_eq_true, ite_pair, ite_pairp, Option.bind_some, Option.some.injEq, true_or, or_true, or_self, false_or, Int.reduceBEq, Bool.false_eq_true, ge_iff_le, Prod.mk.injEq, true_and]
    first | done | (simp only [ite_and, beq_dec]; done) | (simp only [ite_and, beq_dec]; rw [Bool.eq_iff_iff]; simp only [Bool.and_eq_true, decide_eq_true_eq, vB] <;> omega)
  · subst h
    simp only [impl_Node_kids.f, impl_Node_kids.j0, impl_Node_kids.j1, isVar_eq, isTerm_eq, Option.bind_some, fB, kidsL]
    simp only [Int.reduceEq, if_true, if_false, beq_self_eq_true, ite_pair, ite_pairp, Option.bind_some, Option.some.injEq, true_or, or_true, or_self, false_or, Int.reduceBEq, Bool.false_eq_true, ge_iff_le, Prod.mk.injEq, true_and]
    first | done | (simp only [ite_and, beq_dec]; done) | (simp only [ite_and, beq_dec]; rw [Bool.eq_iff_iff]; simp only [Bool.and_eq_true, decide_eq_true_eq, vB] <;> omega)
  · subst h
    simp only [impl_Node_kids.f, impl_Node_kids.j0, impl_Node_kids.j1, isVar_eq, isTerm_eq, Option.bind_some, fB, kidsL]
    simp only [Int.reduceEq, if_true, if_false, beq_self_eq_true, ite_pair, ite_pairp, Option.bind_some, Option.some.injEq, true_or, or_true, or_self, false_or, Int.reduceBEq, Bool.false_eq_true, ge_iff_le, Prod.mk.injEq, true_and]
    first | done | (simp only [ite_and, beq_dec]; done) | (simp only [ite_and, beq_dec]; rw [Bool.eq_iff_iff]; simp only [Bool.and_eq_true, decide_eq_true_eq, vB] <;> omega)
  · subst h
    simp only [impl_Node_kids.f, impl_Node_kids.j0, impl_Node_kids.j1, isVar_eq, isTerm_eq, Option.bind_some, fB, kidsL]
    simp only [Int.reduceEq, if_true, if_false, beq_self_eq_true, ite_pair, ite_pairp, Option.bind_some, Option.some.injEq, true_or, or_true, or_self, false_or, Int.reduceBEq, Bool.false_eq_true, ge_iff_le, Prod.mk.injEq, true_and]
    first | done | (simp only [ite_and, beq_dec]; done) | (simp only [ite_and, beq_dec]; rw [Bool.eq_iff_iff]; simp only [Bool.and_eq_true, decide_eq_true_eq, vB] <;> omega)
  · subst h
    simp only [impl_Node_kids.f, impl_Node_kids.j0, impl_Node_kids.j1, isVar_eq, isTerm_eq, Option.bind_some, fB, kidsL]
    simp only [Int.reduceEq, if_true, if_false, beq_self_eq_true, ite_pair, ite_pairp, Option.bind_some, Option.some.injEq, true_or, or_true, or_self, false_or, Int.reduceBEq, Bool.false_eq_true, ge_iff_le, Prod.mk.injEq, true_and]
    first | done | (simp only [ite_and, beq_dec]; done) | (simp only [ite_and, beq_dec]; rw [Bool.eq_iff_iff]; simp only [Bool.and_eq_true, decide_eq_true_eq, vB] <;> omega)
  · subst h
    simp only [impl_Node_kids.f, impl_Node_kids.j0, impl_Node_kids.j1, isVar_eq, isTerm_eq, Option.bind_some, fB, kidsL]
    simp only [Int.reduceEq, if_true, if_false, beq_self_eq_true, ite_pair, ite_pairp, Option.bind_some, Option.some.injEq, true_or, or_true, or_self, false_or, Int.reduceBEq, Bool.false_eq_true, ge_iff_le, Prod.mk.injEq, true_and]
    first | done | (simp only [ite_and, beq_dec]; done) | (simp only [ite_and, beq_dec]; rw [Bool.eq_iff_iff]; simp only [Bool.and_eq_true, decide_eq_true_eq, vB] <;> omega)
  · subst h
    simp only [impl_Node_kids.f, impl_Node_kids.j0, impl_Node_kids.j1, isVar_eq, isTerm_eq, Option.bind_some, fB, kidsL]
    simp only [Int.reduceEq, if_true, if_false, beq_self_eq_true, ite_pair, ite_pairp, Option.bind_some, Option.some.injEq, true_or, or_true, or_self, false_or, Int.reduceBEq, Bool.false_eq_true, ge_iff_le, Prod.mk.injEq, true_and]
    first | done | (simp only [ite_and, beq_dec]; done) | (simp only [ite_and, beq_dec]; rw [Bool.eq_iff_iff]; simp only [Bool.and_eq_true, decide_eq_true_eq, vB] <;> omega)
  · simp [impl_Node_kids.f, impl_Node_kids.j0, impl_Node_kids.j1, fB, kidsL, h1, h2, h3, h4, h5, h6, h7, h8, h9, h10]

/-! IsFormula -/
def kidsN (x : S48) : List Int := kidsL x.f0 x.f1 x.f2 x.f3
def okN (x : S48) (i : Nat) : Bool := nB x.f0 x.f1 x.f2 x.f3 i
def allK (f : List S48) (i : Nat) : List Int := (f.take i).flatMap kidsN
def isFm (f : List S48) : Prop := 1 ≤ f.length ∧ f.length ≤ 40 ∧ (∀ i (h : i < f.length), okN f[i] i = true) ∧ ∀ v : Nat, v + 1 < f.length → (allK f f.length).count (v : Int) = 1
noncomputable def isF (f : List S48) : Bool := by classical exact decide (isFm f)
theorem isF_true {f : List S48} : isF f = true ↔ isFm f := by
  unfold isF
  classical
  exact decide_eq_true_iff
theorem isF_false {f : List S48} (h : ¬ isFm f) : isF f = false := by
  rw [Bool.eq_false_iff, ne_eq, isF_true]
  exact h
theorem kidsL_len (op x y z : Int) : (kidsL op x y z).length ≤ 2 := by
  unfold kidsL
  split
  · simp
  · split
    · simp
    · split <;> simp
theorem allK_succ {f : List S48} {i : Nat} (h : i < f.length) : allK f (i + 1) = allK f i ++ kidsN f[i] := by
  unfold allK
  rw [List.take_succ_eq_append_getElem h, List.flatMap_append]
  simp
theorem allK_len (f : List S48) (i : Nat) : (allK f i).length ≤ 2 * i := by
  induction i with
  | zero => simp [allK]
  | succ i ih =>
    by_cases h : i < f.length
    · rw [allK_succ h, List.length_append]
      have := kidsL_len f[i].f0 f[i].f1 f[i].f2 f[i].f3
      unfold kidsN
      omega
    · have : allK f (i + 1) = allK f i := by
        unfold allK
        rw [List.take_of_length_le (by omega), List.take_of_length_le (by omega)]
      rw [this]
      omega
theorem allK_count_le {f : List S48} {i : Nat} (v : Int) (hi : i ≤ f.length) : (allK f i).count v ≤ (allK f f.length).count v := by
  have : ∀ d, i + d ≤ f.length → (allK f i).count v ≤ (allK f (i + d)).count v := by
    intro d
    induction d with
    | zero => intro _; exact Nat.le_refl _
    | succ d ih =>
      intro h
      have := ih (by omega)
      rw [show i + (d + 1) = (i + d) + 1 by omega, allK_succ (by omega), List.count_append]
      omega
  have := this (f.length - i) (by omega)
  rwa [show i + (f.length - i) = f.length by omega] at this
theorem kid_in {x : S48} {i : Nat} (h : okN x i = true) : ∀ c ∈ kidsN x, 0 ≤ c ∧ c < i := by
  unfold okN nB at h
  simp only [Bool.and_eq_true, List.all_eq_true] at h
  intro c hc
  have := h.2 c hc
  simpa [inB] using this
theorem okN_f {x : S48} {i : Nat} (h : okN x i = true) : fB x.f0 x.f1 x.f2 x.f3 = true := by
  unfold okN nB at h
  simp only [Bool.and_eq_true] at h
  exact h.1
theorem count_snoc (L : List Int) (c v : Int) : (L ++ [c]).count v = L.count v + (if c = v then 1 else 0) := by
  rw [List.count_append, List.count_cons]
  simp [beq_dec]
theorem take_snoc {α : Type} {l : List α} {k : Nat} (h : k < l.length) : l.take (k + 1) = l.take k ++ [l[k]] := List.take_succ_eq_append_getElem h

theorem specIF_l2 (f : List S48) (uses : List Int) (hn : f.length ≤ 40) (h1 : 1 ≤ f.length) (hl : uses.length = f.length) (b : Bool)
    (hb : b = true ↔ ∀ v : Nat, v + 1 < f.length → uses.getD v 0 = 1) : Ev (fun k => spec_IsFormula.l2 k f uses 0) b := by
  have key := downs (P := fun v => (∀ u, u < v → uses.getD u 0 = 1) → Ev (fun k => spec_IsFormula.l2 k f uses (v : Int)) b) (f.length - 1)
    (fun v hv ih hp => by
      have hr : rd uses (v : Int) = uses[v]'(by omega) := rd_of (by omega)
      have hg : uses.getD v 0 = uses[v]'(by omega) := by simp [List.getD_eq_getElem?_getD, show v < uses.length by omega]
      by_cases h : uses[v]'(by omega) = 1
      · refine Ev.step (fun k => ?_) (ih (fun u hu => by
          by_cases e : u = v
          · subst e; rw [hg]; exact h
          · exact hp u (by omega)))
        rw [spec_IsFormula.l2, w64 (by omega) (by omega), if_pos (by omega), if_pos (by omega), if_pos (by omega), hr, if_pos h, w64 (by omega) (by omega)]
        rfl
      · have : b = false := by
          rw [Bool.eq_false_iff, ne_eq, hb]
          intro h'
          exact h (by rw [← hg]; exact h' v (by omega))
        rw [this]
        refine Ev.step (f := fun _ => some false) (fun k => ?_) (Ev.now _)
        rw [spec_IsFormula.l2, w64 (by omega) (by omega), if_pos (by omega), if_pos (by omega), if_pos (by omega), hr, if_neg h])
    (fun hp => by
      have : b = true := hb.2 (fun v hv => hp v (by omega))
      rw [this]
      refine Ev.step (f := fun _ => some true) (fun k => ?_) (Ev.now _)
      rw [spec_IsFormula.l2, w64 (by omega) (by omega), if_neg (by omega)])
  exact key 0 (by omega) (fun u hu => by omega)

theorem specIF_l1 (f : List S48) (i : Nat) (hi : i < f.length) (hn : f.length ≤ 40) (b : Bool) (ok : okN f[i] i = true)
    (next : ∀ uses : List Int, uses.length = f.length → (∀ v : Nat, v < f.length → uses.getD v 0 = (((allK f (i + 1)).count (v : Int) : Nat) : Int)) → Ev (fun k => spec_IsFormula.l0 k f uses ((i + 1 : Nat) : Int)) b)
    (uses : List Int) (hl : uses.length = f.length) (hu : ∀ v : Nat, v < f.length → uses.getD v 0 = (((allK f i).count (v : Int) : Nat) : Int)) :
    Ev (fun k => spec_IsFormula.l1 k f uses i (kidsN f[i]) 0) b := by
  have kl : (kidsN f[i]).length ≤ 2 := kidsL_len _ _ _ _
  have al := allK_len f i
  have key := downs (P := fun c => ∀ uses : List Int, uses.length = f.length → (∀ v : Nat, v < f.length → uses.getD v 0 = (((allK f i ++ (kidsN f[i]).take c).count (v : Int) : Nat) : Int)) → Ev (fun k => spec_IsFormula.l1 k f uses i (kidsN f[i]) (c : Int)) b) (kidsN f[i]).length
    (fun c hc ih uses hl hu => by
      have hin := kid_in ok ((kidsN f[i])[c]) (List.getElem_mem hc)
      have hr : rd (kidsN f[i]) (c : Int) = (kidsN f[i])[c] := rd_of hc
      obtain ⟨m, hm⟩ : ∃ m : Nat, (kidsN f[i])[c] = (m : Int) := ⟨((kidsN f[i])[c]).toNat, by omega⟩
      have hmn : m < f.length := by omega
      have hcb : (allK f i ++ (kidsN f[i]).take c).count (m : Int) ≤ 100 := by
        refine Nat.le_trans List.count_le_length ?_
        rw [List.length_append, List.length_take]
        omega
      have hum := hu m hmn
      have hrm : rd uses (m : Int) = uses.getD m 0 := by simp [rd]
      refine Ev.step (fun k => ?_) (ih (uses.set m (uses.getD m 0 + 1)) (by simp [hl]) (fun v hv => by
        rw [take_snoc hc, ← List.append_assoc, count_snoc, hm]
        by_cases e : m = v
        · subst e
          simp only [List.getD_eq_getElem?_getD, List.getElem?_set, if_true] at *
          rw [if_pos (by omega)]
          simp only [Option.getD_some]
          rw [hum]
          omega
        · have e' : ¬ ((m : Int) = (v : Int)) := by omega
          have := hu v hv
          simp only [List.getD_eq_getElem?_getD, List.getElem?_set, if_neg e, if_neg e'] at *
          rw [this]
          omega))
      rw [spec_IsFormula.l1, if_pos (by omega), if_pos (by omega), hr, hm, if_pos (by omega), if_pos (by omega), hrm, w64 (by omega) (by omega), w64 (by omega) (by omega)]
      rfl)
    (fun uses hl hu => by
      rw [List.take_length, ← allK_succ hi] at hu
      refine Ev.step (fun k => ?_) (next uses hl hu)
      rw [spec_IsFormula.l1, if_neg (by omega), w64 (by omega) (by omega)]
      rfl)
  refine key 0 (by omega) uses hl ?_
  simpa using hu

theorem specIF_l0 (f : List S48) (hn : f.length ≤ 40) (h1 : 1 ≤ f.length) : ∀ i, i ≤ f.length → (∀ j (h : j < f.length), j < i → okN f[j] j = true) → ∀ uses : List Int, uses.length = f.length → (∀ v : Nat, v < f.length → uses.getD v 0 = (((allK f i).count (v : Int) : Nat) : Int)) → Ev (fun k => spec_IsFormula.l0 k f uses (i : Int)) (isF f) :=
  downs f.length
    (fun i hi ih hok uses hl hu => by
      have hr : rd_T48 f (i : Int) = f[i] := rdN_of hi
      by_cases ok : okN f[i] i = true
      · have h3 := specIF_l1 f i hi hn (isF f) ok (fun uses hl hu => ih (fun j h hj => by
          by_cases e : j = i
          · subst e; exact ok
          · exact hok j h (by omega)) uses hl hu) uses hl hu
        obtain ⟨K, hK⟩ := h3
        refine ⟨K + 3, fun k hk => ?_⟩
        obtain ⟨m, rfl⟩ : ∃ m, k = m + 3 := ⟨k - 3, by omega⟩
        show spec_IsFormula.l0 (m + 2 + 1) f uses (i : Int) = _
        rw [spec_IsFormula.l0, if_pos (by omega), if_pos (by omega), hr, l16Node_eq, Option.bind_some]
        have ok' : nB f[i].f0 f[i].f1 f[i].f2 f[i].f3 (i : Int) = true := ok
        rw [ok', if_pos rfl, l16Kids_eq, Option.bind_some]
        exact hK (m + 2) (by omega)
      · rw [isF_false (fun h => ok (h.2.2.1 i hi))]
        refine ⟨3, fun k hk => ?_⟩
        obtain ⟨m, rfl⟩ : ∃ m, k = m + 3 := ⟨k - 3, by omega⟩
        show spec_IsFormula.l0 (m + 2 + 1) f uses (i : Int) = _
        rw [spec_IsFormula.l0, if_pos (by omega), if_pos (by omega), hr, l16Node_eq, Option.bind_some]
        have ok' : nB f[i].f0 f[i].f1 f[i].f2 f[i].f3 (i : Int) = false := by simpa [okN] using ok
        rw [ok', if_neg (by simp)])
    (fun hok uses hl hu => by
      have h2 := specIF_l2 f uses hn h1 hl (isF f) (by
        rw [isF_true]
        constructor
        · intro h v hv
          rw [hu v (by omega), h.2.2.2 v hv]
          rfl
        · intro h
          refine ⟨h1, hn, fun i hi => hok i hi hi, fun v hv => ?_⟩
          have := h v hv
          rw [hu v (by omega)] at this
          omega)
      refine Ev.step (fun k => ?_) h2
      rw [spec_IsFormula.l0, if_neg (by omega)])
theorem specIF_ev (f : List S48) (hb : f.length ≤ 1048576 + 64) : Ev (fun k => spec_IsFormula.f k f) (isF f) := by
  by_cases h : 1 ≤ f.length ∧ f.length ≤ 40
  · refine Ev.congr (fun k => ?_) (specIF_l0 f h.2 h.1 0 (by omega) (fun j _ hj => by omega) (List.replicate f.length 0) (by simp) (fun v hv => by simp [allK, hv]))
    unfold spec_IsFormula.f
    rw [l1In_eq, decide_eq_true (by omega), Option.bind_some, if_pos rfl, if_pos (by omega), if_pos (by omega)]
    simp
  · rw [isF_false (fun h' => h ⟨h'.1, h'.2.1⟩)]
    refine Ev.congr (fun k => ?_) (Ev.now _)
    unfold spec_IsFormula.f
    rw [l1In_eq, decide_eq_false (by omega), Option.bind_some, if_neg (by simp)]

theorem implIF_l2 (n : Nat) (used : List Bool) (hl : used.length = n) (hn : n ≤ 40) (b : Bool)
    (hb : b = true ↔ ∀ v : Nat, v < n → used.getD v false = true) : Ev (fun k => impl_IsFormula.l2 k used n 0) b := by
  have key := downs (P := fun v => (∀ u, u < v → used.getD u false = true) → Ev (fun k => impl_IsFormula.l2 k used n (v : Int)) b) n
    (fun v hv ih hp => by
      have hr : rdOf false used (v : Int) = used.getD v false := by simp [rdOf]
      by_cases h : used.getD v false = true
      · refine Ev.step (fun k => ?_) (ih (fun u hu => by
          by_cases e : u = v
          · subst e; exact h
          · exact hp u (by omega)))
        rw [impl_IsFormula.l2, if_pos (by omega), if_pos (by omega), if_pos (by omega), hr, if_pos h, w64 (by omega) (by omega)]
        rfl
      · have : b = false := by
          rw [Bool.eq_false_iff, ne_eq, hb]
          exact fun h' => h (h' v hv)
        rw [this]
        refine Ev.step (f := fun _ => some false) (fun k => ?_) (Ev.now _)
        rw [impl_IsFormula.l2, if_pos (by omega), if_pos (by omega), if_pos (by omega), hr, if_neg h])
    (fun hp => by
      have : b = true := hb.2 hp
      rw [this]
      refine Ev.step (f := fun _ => some true) (fun k => ?_) (Ev.now _)
      rw [impl_IsFormula.l2, if_neg (by omega)])
  exact key 0 (by omega) (fun u hu => by omega)

theorem implIF_l1 (f : List S48) (i : Nat) (hi : i < f.length) (hn : f.length ≤ 40) (fok : fB f[i].f0 f[i].f1 f[i].f2 f[i].f3 = true)
    (next : okN f[i] i = true → ∀ used : List Bool, used.length = f.length → (∀ v : Nat, v < f.length → (allK f (i + 1)).count (v : Int) = if used.getD v false then 1 else 0) → Ev (fun k => impl_IsFormula.l0 k f used f f.length ((i + 1 : Nat) : Int)) (isF f))
    (used : List Bool) (hl : used.length = f.length) (hu : ∀ v : Nat, v < f.length → (allK f i).count (v : Int) = if used.getD v false then 1 else 0) :
    Ev (fun k => impl_IsFormula.l1 k f used i f f.length i (kidsN f[i]) (kidsN f[i]).length 0) (isF f) := by
  have kl : (kidsN f[i]).length ≤ 2 := kidsL_len _ _ _ _
  have key := downs (P := fun c => (∀ a (h : a < (kidsN f[i]).length), a < c → inB i (kidsN f[i])[a] = true) → ∀ used : List Bool, used.length = f.length → (∀ v : Nat, v < f.length → (allK f i ++ (kidsN f[i]).take c).count (v : Int) = if used.getD v false then 1 else 0) → Ev (fun k => impl_IsFormula.l1 k f used i f f.length i (kidsN f[i]) (kidsN f[i]).length (c : Int)) (isF f)) (kidsN f[i]).length
    (fun c hc ih hok used hl hu => by
      have hr : rd (kidsN f[i]) (c : Int) = (kidsN f[i])[c] := rd_of hc
      by_cases hin : 0 ≤ (kidsN f[i])[c] ∧ (kidsN f[i])[c] < (i : Int)
      · obtain ⟨m, hm⟩ : ∃ m : Nat, (kidsN f[i])[c] = (m : Int) := ⟨((kidsN f[i])[c]).toNat, by omega⟩
        have hmn : m < f.length := by omega
        have hrm : rdOf false used (m : Int) = used.getD m false := by simp [rdOf]
        by_cases hus : used.getD m false = true
        · have hcm := hu m hmn
          rw [if_pos hus] at hcm
          have : ¬ isFm f := by
            intro h
            have h2 := h.2.2.2 m (by omega)
            have h3 := allK_count_le (f := f) (i := i + 1) (m : Int) (by omega)
            rw [allK_succ hi, show kidsN f[i] = (kidsN f[i]).take c ++ (kidsN f[i]).drop c from (List.take_append_drop _ _).symm, ← List.append_assoc, List.count_append, List.drop_eq_getElem_cons hc, List.count_cons, hm] at h3
            simp only [beq_self_eq_true, if_true] at h3
            omega
          rw [isF_false this]
          refine Ev.step (f := fun _ => some false) (fun k => ?_) (Ev.now _)
          rw [impl_IsFormula.l1, if_pos (by omega), if_pos (by omega), if_pos (by omega), hr, hm, if_neg (by omega), if_neg (by omega), if_pos (by omega), if_pos (by omega), hrm, if_pos hus]
        · refine Ev.step (fun k => ?_) (ih (fun a h ha => by
            by_cases e : a = c
            · subst e
              simp only [inB, decide_eq_true_eq]
              exact hin
            · exact hok a h (by omega)) (used.set m true) (by simp [hl]) (fun v hv => by
            rw [take_snoc hc, ← List.append_assoc, count_snoc, hm, hu v hv]
            by_cases e : m = v
            · subst e
              rw [if_neg hus]
              simp [List.getD_eq_getElem?_getD, List.getElem?_set, show m < used.length by omega]
            · have e' : ¬ ((m : Int) = (v : Int)) := by omega
              simp [List.getD_eq_getElem?_getD, List.getElem?_set, if_neg e, if_neg e']))
          rw [impl_IsFormula.l1, if_pos (by omega), if_pos (by omega), if_pos (by omega), hr, hm, if_neg (by omega), if_neg (by omega), if_pos (by omega), if_pos (by omega), hrm, if_neg hus, w64 (by omega) (by omega)]
          rfl
      · have : ¬ isFm f := by
          intro h
          have := kid_in (h.2.2.1 i hi) ((kidsN f[i])[c]) (List.getElem_mem hc)
          exact hin this
        rw [isF_false this]
        refine Ev.step (f := fun _ => some false) (fun k => ?_) (Ev.now _)
        by_cases hneg : (kidsN f[i])[c] < 0
        · rw [impl_IsFormula.l1, if_pos (by omega), if_pos (by omega), if_pos (by omega), hr, if_pos hneg]
        · rw [impl_IsFormula.l1, if_pos (by omega), if_pos (by omega), if_pos (by omega), hr, if_neg hneg, if_pos (by omega)])
    (fun hok used hl hu => by
      rw [List.take_length, ← allK_succ hi] at hu
      have ok : okN f[i] i = true := by
        unfold okN nB
        rw [fok, Bool.true_and, List.all_eq_true]
        intro c hc
        obtain ⟨a, ha, rfl⟩ := List.getElem_of_mem hc
        exact hok a ha ha
      refine Ev.step (fun k => ?_) (next ok used hl hu)
      rw [impl_IsFormula.l1, if_neg (by omega), w64 (by omega) (by omega)]
      rfl)
  refine key 0 (by omega) (fun a _ ha => by omega) used hl ?_
  simpa using hu

theorem implIF_l0 (f : List S48) (hn : f.length ≤ 40) (h1 : 1 ≤ f.length) : ∀ i, i ≤ f.length → (∀ j (h : j < f.length), j < i → okN f[j] j = true) → ∀ used : List Bool, used.length = f.length → (∀ v : Nat, v < f.length → (allK f i).count (v : Int) = if used.getD v false then 1 else 0) → Ev (fun k => impl_IsFormula.l0 k f used f f.length (i : Int)) (isF f) :=
  downs f.length
    (fun i hi ih hok used hl hu => by
      have hr : rd_T48 f (i : Int) = f[i] := rdN_of hi
      by_cases fok : fB f[i].f0 f[i].f1 f[i].f2 f[i].f3 = true
      · have h3 := implIF_l1 f i hi hn fok (fun ok used hl hu => ih (fun j h hj => by
          by_cases e : j = i
          · subst e; exact ok
          · exact hok j h (by omega)) used hl hu) used hl hu
        obtain ⟨K, hK⟩ := h3
        refine ⟨K + 3, fun k hk => ?_⟩
        obtain ⟨m, rfl⟩ : ∃ m, k = m + 3 := ⟨k - 3, by omega⟩
        show impl_IsFormula.l0 (m + 2 + 1) f used f f.length (i : Int) = _
        rw [impl_IsFormula.l0, if_pos (by omega), if_pos (by omega), if_pos (by omega), hr, kids_eq, Option.bind_some]
        simp only [fok, if_true]
        exact hK (m + 2) (by omega)
      · rw [isF_false (fun h => fok (okN_f (h.2.2.1 i hi)))]
        refine ⟨3, fun k hk => ?_⟩
        obtain ⟨m, rfl⟩ : ∃ m, k = m + 3 := ⟨k - 3, by omega⟩
        show impl_IsFormula.l0 (m + 2 + 1) f used f f.length (i : Int) = _
        rw [impl_IsFormula.l0, if_pos (by omega), if_pos (by omega), if_pos (by omega), hr, kids_eq, Option.bind_some]
        simp [fok])
    (fun hok used hl hu => by
      have h2 := implIF_l2 (f.length - 1) (used.take (f.length - 1)) (by simp [hl]) (by omega) (isF f) (by
        rw [isF_true]
        have tk : ∀ v, v < f.length - 1 → (used.take (f.length - 1)).getD v false = used.getD v false := by
          intro v hv
          simp [List.getD_eq_getElem?_getD, List.getElem?_take_of_lt hv]
        constructor
        · intro h v hv
          have h3 := hu v (by omega)
          rw [h.2.2.2 v (by omega)] at h3
          rw [tk v hv]
          by_cases e : used.getD v false = true
          · exact e
          · rw [if_neg e] at h3; omega
        · intro h
          refine ⟨h1, hn, fun i hi => hok i hi hi, fun v hv => ?_⟩
          have h3 := h v (by omega)
          rw [tk v (by omega)] at h3
          rw [hu v (by omega), if_pos h3])
      refine Ev.step (fun k => ?_) h2
      have e1 : wrap64 ((f.length : Int) - 1) = ((f.length - 1 : Nat) : Int) := by rw [w64 (by omega) (by omega)]; omega
      rw [impl_IsFormula.l0, if_neg (by omega), e1, if_pos (by omega), if_pos (by omega), Option.bind_some, Int.toNat_natCast]
      simp [hl])
theorem implIF_ev (f : List S48) (hb : f.length ≤ 1048576 + 64) : Ev (fun k => impl_IsFormula.f k f) (isF f) := by
  by_cases h : 1 ≤ f.length ∧ f.length ≤ 40
  · refine Ev.congr (g := fun k => impl_IsFormula.f k f) (f := fun k => impl_IsFormula.j0 k f false) (fun k => ?_) (Ev.step (fun k => ?_) (implIF_l0 f h.2 h.1 0 (by omega) (fun j _ hj => by omega) (List.replicate f.length false) (by simp) (fun v hv => by simp [allK, hv])))
    · unfold impl_IsFormula.f
      rw [if_neg (by omega), decide_eq_false (by omega)]
    · rw [impl_IsFormula.j0, if_neg (by simp), if_pos (by omega), if_pos (by omega)]
      simp
  · rw [isF_false (fun h' => h ⟨h'.1, h'.2.1⟩)]
    refine Ev.congr (g := fun k => impl_IsFormula.f k f) (f := fun k => impl_IsFormula.j0 k f true) (fun k => ?_) (Ev.step (f := fun _ => some false) (fun k => ?_) (Ev.now _))
    · unfold impl_IsFormula.f
      by_cases h2 : (f.length : Int) < 1
      · rw [if_pos h2]
      · rw [if_neg h2, decide_eq_true (by omega)]
    · rw [impl_IsFormula.j0, if_pos rfl]
theorem bothIF (f : List S48) (hb : f.length ≤ 1048576) : ∃ r, Ev (fun k => spec_IsFormula.f k f) r ∧ Ev (fun k => impl_IsFormula.f k f) r :=
  ⟨isF f, specIF_ev f (by omega), implIF_ev f (by omega)⟩
theorem isF_len {f : List S48} (h : isF f = true) : 1 ≤ f.length ∧ f.length ≤ 40 := ⟨(isF_true.1 h).1, (isF_true.1 h).2.1⟩

/-! NegateFormula -/
/-- What a formula with one more node is, or the empty list and false. -/
noncomputable def withV (f : List S48) (n : S48) : List S48 × Bool := if isF f && isF (f ++ [n]) then (f ++ [n], true) else ([], false)
theorem implWith_ev (f : List S48) (hb : f.length ≤ 1048576) (a b c d : Int) : Ev (fun k => impl_with.f k f a b c d) (withV f ⟨a, b, c, d⟩) := by
  unfold impl_with.f
  simp only [Option.bind_some, List.nil_append, List.length_nil, List.length_singleton]
  simp only [if_pos (show 0 + f.length < 4398046511104 by omega), if_pos (show f.length + 1 < 4398046511104 by omega)]
  refine Ev.bind (implIF_ev f (by omega)) ?_
  unfold withV
  by_cases h : isF f = true
  · simp only [h, if_true, Bool.true_and]
    refine Ev.bind (implIF_ev _ (by simp; omega)) ?_
    by_cases h2 : isF (f ++ [⟨a, b, c, d⟩]) = true
    · simp only [h2, if_true]
      exact Ev.now _
    · simp only [h2, if_false]
      exact Ev.now _
  · simp only [Bool.not_eq_true] at h
    simp only [h, Bool.false_and, Bool.false_eq_true, if_false]
    exact Ev.now _
theorem implNF_ev (f : List S48) (hb : f.length ≤ 1048576) : Ev (fun k => impl_NegateFormula.f k f) (withV f ⟨6, (f.length : Int) - 1, 0, 0⟩) := by
  unfold impl_NegateFormula.f
  rw [w64 (by omega) (by omega)]
  exact Ev.bind (implWith_ev f hb _ _ _ _) (Ev.now _)
theorem specNF_ev (f : List S48) (hb : f.length ≤ 1048576) : Ev (fun k => spec_NegateFormula.f k f) (withV f ⟨6, (f.length : Int) - 1, 0, 0⟩) := by
  unfold spec_NegateFormula.f
  rw [w64 (by omega) (by omega)]
  simp only [Option.bind_some, List.nil_append, List.length_nil]
  simp only [if_pos (show 0 + f.length < 4398046511104 by omega), if_pos (show f.length < 4398046511104 by omega)]
  refine Ev.bind (specIF_ev f (by omega)) ?_
  unfold withV
  by_cases h : isF f = true
  · simp only [h, if_true, Bool.true_and]
    refine Ev.bind (specIF_ev _ (by simp; omega)) ?_
    by_cases h2 : isF (f ++ [⟨6, (f.length : Int) - 1, 0, 0⟩]) = true
    · simp only [h2, if_true]
      exact Ev.now _
    · simp only [h2, if_false]
      exact Ev.now _
  · simp only [Bool.not_eq_true] at h
    simp only [h, Bool.false_and, Bool.false_eq_true, if_false]
    exact Ev.now _
theorem withV_len (f : List S48) (n : S48) (hb : f.length ≤ 1048576) : (withV f n).1.length ≤ 1048577 := by
  unfold withV
  split
  · simp; omega
  · simp

/-! marksI -/
def markedI (a : Int) (n : Nat) : List Int := (List.range n).map fun (i : Nat) => a + i
theorem markedI_len (a : Int) (n : Nat) : (markedI a n).length = n := by simp [markedI]
theorem markedI_succ (a : Int) (n : Nat) : markedI a (n + 1) = markedI a n ++ [a + n] := by simp [markedI, List.range_succ]
theorem markedI_get (a : Int) (n i : Nat) (h : i < n) : (markedI a n)[i]'(by simpa [markedI] using h) = a + i := by simp [markedI]
theorem set_mid {α : Type} (m : List α) (xs : List α) (i : Nat) (x : α) (hm : m.length = i) (h : i < xs.length) : (m ++ xs.drop i).set i x = (m ++ [x]) ++ xs.drop (i + 1) := by
  rw [List.set_append_right _ _ (by omega), hm, Nat.sub_self, List.drop_eq_getElem_cons h, List.set_cons_zero, List.append_assoc]
  rfl
theorem markIntS_ev (xs : List Int) (a : Int) (h0 : 0 ≤ a) (h1 : a ≤ 1152921504606846976) (hl : xs.length ≤ 1152921504606846976) : Ev (fun k => laws_markIntS.f k xs a) (a + xs.length, markedI a xs.length) := by
  have key := downs (P := fun i => Ev (fun k => laws_markIntS.l0 k (markedI a i ++ xs.drop i) (a + i) (i : Int)) (a + xs.length, markedI a xs.length)) xs.length
    (fun i hi ih => by
      rw [markedI_succ, ← set_mid _ _ _ _ (markedI_len a i) hi] at ih
      refine Ev.step (fun k => ?_) ih
      rw [laws_markIntS.l0, if_pos (by simp [markedI_len]; omega), if_pos (by omega), w64 (by omega) (by omega), w64 (by omega) (by omega), Int.toNat_natCast]
      show _ = laws_markIntS.l0 k _ (a + ((i + 1 : Nat) : Int)) _
      rw [show (a + ((i + 1 : Nat) : Int)) = a + i + 1 by omega]
      rfl)
    (by
      refine Ev.step (f := fun _ => some _) (fun k => ?_) (Ev.now _)
      rw [laws_markIntS.l0, if_neg (by simp [markedI_len])]
      simp)
  have h := key 0 (by omega)
  refine Ev.congr (fun k => ?_) h
  simp [laws_markIntS.f, markedI]
theorem heldIntS_ev (a : Int) (n : Nat) (h0 : 0 ≤ a) (h1 : a ≤ 1152921504606846976) (hl : n ≤ 1152921504606846976) : Ev (fun k => laws_heldIntS.f k (markedI a n) a) (a + n) := by
  have key := downs (P := fun i => Ev (fun k => laws_heldIntS.l0 k (markedI a n) (a + i) (i : Int)) (a + n)) n
    (fun i hi ih => by
      refine Ev.step (fun k => ?_) ih
      rw [laws_heldIntS.l0, if_pos (by rw [markedI_len]; omega), if_pos (by omega), rd_of (by rw [markedI_len]; omega), markedI_get a n i hi, if_pos rfl, w64 (by omega) (by omega), w64 (by omega) (by omega)]
      rw [show (a + ((i + 1 : Nat) : Int)) = a + i + 1 by omega]
      rfl)
    (by
      refine Ev.step (f := fun _ => some _) (fun k => ?_) (Ev.now _)
      rw [laws_heldIntS.l0, if_neg (by rw [markedI_len]; omega)])
  have h := key 0 (by omega)
  refine Ev.congr (fun k => ?_) h
  simp [laws_heldIntS.f]

/-! marksN -/
def mkN (a : Int) (i : Nat) : S48 := ⟨a + 4 * i, a + 4 * i + 1, a + 4 * i + 2, a + 4 * i + 3⟩
def markedN (a : Int) (n : Nat) : List S48 := (List.range n).map fun (i : Nat) => mkN a i
theorem markedN_len (a : Int) (n : Nat) : (markedN a n).length = n := by simp [markedN]
theorem markedN_succ (a : Int) (n : Nat) : markedN a (n + 1) = markedN a n ++ [mkN a n] := by simp [markedN, List.range_succ]
theorem markedN_get (a : Int) (n i : Nat) (h : i < n) : (markedN a n)[i]'(by simpa [markedN] using h) = mkN a i := by simp [markedN]
theorem rdN_set (xs : List S48) (i : Nat) (x : S48) (h : i < xs.length) : rd_T48 (xs.set i x) (i : Int) = x := by
  rw [rdN_of (by simpa using h)]
  simp
theorem markNodeS_ev (xs : List S48) (a : Int) (h0 : 0 ≤ a) (h1 : a ≤ 1152921504606846976) (hl : xs.length ≤ 1152921504606846976) : Ev (fun k => laws_markNodeS.f k xs a) (a + 4 * xs.length, markedN a xs.length) := by
  have key := downs (P := fun i => Ev (fun k => laws_markNodeS.l0 k (markedN a i ++ xs.drop i) (a + 4 * i) (i : Int)) (a + 4 * xs.length, markedN a xs.length)) xs.length
    (fun i hi ih => by
      have hlen : i < (markedN a i ++ xs.drop i).length := by simp [markedN_len]; omega
      rw [markedN_succ, ← set_mid _ _ _ _ (markedN_len a i) hi] at ih
      refine Ev.step (fun k => ?_) ih
      rw [laws_markNodeS.l0, if_pos (by omega), if_pos (by omega)]
      simp only [Option.bind_some, Int.toNat_natCast]
      rw [rdN_set _ _ _ hlen]
      simp only [List.set_set]
      rw [rdN_set _ _ _ hlen]
      simp only [List.set_set]
      rw [rdN_set _ _ _ hlen]
      simp only [List.set_set]
      rw [w64 (x := a + 4 * (i : Int) + 1) (by omega) (by omega), w64 (x := a + 4 * (i : Int) + 1 + 1) (by omega) (by omega), w64 (x := a + 4 * (i : Int) + 1 + 1 + 1) (by omega) (by omega), w64 (x := a + 4 * (i : Int) + 1 + 1 + 1 + 1) (by omega) (by omega), w64 (x := (i : Int) + 1) (by omega) (by omega)]
      rw [show (a + 4 * ((i + 1 : Nat) : Int)) = a + 4 * i + 1 + 1 + 1 + 1 by omega]
      congr 2
      simp [mkN, Int.add_assoc])
    (by
      refine Ev.step (f := fun _ => some _) (fun k => ?_) (Ev.now _)
      rw [laws_markNodeS.l0, if_neg (by simp [markedN_len])]
      simp)
  have h := key 0 (by omega)
  refine Ev.congr (fun k => ?_) h
  simp [laws_markNodeS.f, markedN]
theorem heldNodeS_ev (a : Int) (n : Nat) (h0 : 0 ≤ a) (h1 : a ≤ 1152921504606846976) (hl : n ≤ 1152921504606846976) : Ev (fun k => laws_heldNodeS.f k (markedN a n) a) (a + 4 * n) := by
  have key := downs (P := fun i => Ev (fun k => laws_heldNodeS.l0 k (markedN a n) (a + 4 * i) (i : Int)) (a + 4 * n)) n
    (fun i hi ih => by
      refine Ev.step (fun k => ?_) ih
      rw [laws_heldNodeS.l0, if_pos (by rw [markedN_len]; omega), if_pos (by omega), rdN_of (by rw [markedN_len]; omega), markedN_get a n i hi]
      rw [w64 (x := a + 4 * (i : Int) + 1) (by omega) (by omega), w64 (x := a + 4 * (i : Int) + 1 + 1) (by omega) (by omega), w64 (x := a + 4 * (i : Int) + 1 + 1 + 1) (by omega) (by omega), w64 (x := a + 4 * (i : Int) + 1 + 1 + 1 + 1) (by omega) (by omega), w64 (x := (i : Int) + 1) (by omega) (by omega)]
      rw [if_pos (by simp [mkN]), if_pos (by simp [mkN]), if_pos (by simp [mkN]; omega), if_pos (by simp [mkN]; omega)]
      rw [show (a + 4 * ((i + 1 : Nat) : Int)) = a + 4 * i + 1 + 1 + 1 + 1 by omega]
      rfl)
    (by
      refine Ev.step (f := fun _ => some _) (fun k => ?_) (Ev.now _)
      rw [laws_heldNodeS.l0, if_neg (by rw [markedN_len]; omega)])
  have h := key 0 (by omega)
  refine Ev.congr (fun k => ?_) h
  simp [laws_heldNodeS.f]

/-! law_FnExactNegateFormula -/
theorem eqNodeS_self' (x0 : List S48) (hb : x0.length ≤ 1048577) : Ev (fun k => laws_eqNodeS.f k x0 x0) true := eqNodeS_self_n x0 (by omega)
theorem FnExactNegateFormula (l0 : List S50) (w0 : wfl wf_Node l0) : ∃ k, laws_FnExactNegateFormula.f k l0 = some true := by
  refine Ev.rounds ?_
  unfold laws_FnExactNegateFormula.f
  rw [szNodeS_eq l0 w0.1]
  by_cases hb : l0.length ≤ 1048576
  · simp only [if_pos hb, Option.bind_some, if_neg (show ¬ (1048576 - (l0.length : Int) < 0) by omega)]
    have hm : (l0.map toN).length ≤ 1048576 := by simpa using hb
    generalize hN : (⟨6, ((l0.map toN).length : Int) - 1, 0, 0⟩ : S48) = nn
    have hs := specNF_ev (l0.map toN) hm
    have hi := implNF_ev (l0.map toN) hm
    rw [hN] at hs hi
    have hv := withV_len (l0.map toN) nn hm
    generalize withV (l0.map toN) nn = v at hs hi hv
    obtain ⟨v1, v2⟩ := v
    refine Ev.bind (toNodeS_ev l0 hb) (Ev.bind hs (Ev.bind (toNodeS_ev l0 hb) (Ev.bind hi (Ev.bind (eqNodeS_self' v1 hv) ?_))))
    simp only [if_true, bne_self_eq_false]
    refine Ev.step (fun k => by rw [laws_FnExactNegateFormula.j0, if_neg (by simp)]) ?_
    refine Ev.bind (toNodeS_ev l0 hb) (Ev.bind (eqNodeS_self _ hm) ?_)
    simp only [if_true]
    refine Ev.bind (markNodeS_ev _ 1 (by omega) (by omega) (by omega)) ?_
    simp only [if_neg (show ¬ (1 + 4 * ((l0.map toN).length : Int) < 0) by omega)]
    refine Ev.bind (eqNodeS_self' v1 hv) ?_
    simp only [if_true, bne_self_eq_false]
    refine Ev.step (fun k => by rw [laws_FnExactNegateFormula.j1, if_neg (by simp)]) ?_
    refine Ev.bind (markNodeS_ev v1 1 (by omega) (by omega) (by simp at hv; omega)) ?_
    refine Ev.bind (heldNodeS_ev 1 v1.length (by omega) (by omega) (by simp at hv; omega)) ?_
    simp only [if_neg (show ¬ (1 + 4 * (v1.length : Int) < 0) by omega), if_true]
    refine Ev.bind (toNodeS_ev l0 hb) (Ev.bind hi (Ev.bind (eqNodeS_self' v1 hv) ?_))
    simp only [if_true, bne_self_eq_false]
    refine Ev.step (fun k => by rw [laws_FnExactNegateFormula.j2, if_neg (by simp)]) ?_
    refine Ev.bind (heldNodeS_ev 1 v1.length (by omega) (by omega) (by simp at hv; omega)) ?_
    simp only [if_neg (show ¬ (1 + 4 * (v1.length : Int) < 0) by omega), if_true]
    exact Ev.now _
  · simp only [if_neg hb, Option.bind_some, if_pos (show (-1 : Int) < 0 by omega)]
    exact Ev.now _

end Go.Proofs.Ytdckaflfgbbabaa.Pure
