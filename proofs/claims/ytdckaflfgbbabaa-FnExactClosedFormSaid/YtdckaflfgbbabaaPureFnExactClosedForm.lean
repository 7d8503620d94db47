/- The pure law FnExactClosedForm: what the printed functions of the program and of the reference compute agrees, for all arguments. -/
import Derived.Test.YtdckaflfgbbabaaQ0
import Derived.Test.YtdckaflfgbbabaaQ1
import Derived.Test.YtdckaflfgbbabaaQ11
import Derived.Test.YtdckaflfgbbabaaQ12
import Derived.Test.YtdckaflfgbbabaaQ13
import Derived.Test.YtdckaflfgbbabaaQ14
import Derived.Test.YtdckaflfgbbabaaQ15
import Derived.Test.YtdckaflfgbbabaaQ16
import Derived.Test.YtdckaflfgbbabaaQ17
import Derived.Test.YtdckaflfgbbabaaQ19
import Derived.Test.YtdckaflfgbbabaaQ2
import Derived.Test.YtdckaflfgbbabaaQ26
import Derived.Test.YtdckaflfgbbabaaQ27
import Derived.Test.YtdckaflfgbbabaaQ28
import Derived.Test.YtdckaflfgbbabaaQ29
import Derived.Test.YtdckaflfgbbabaaQ3
import Derived.Test.YtdckaflfgbbabaaQ31
import Derived.Test.YtdckaflfgbbabaaQ32
import Derived.Test.YtdckaflfgbbabaaQ33
import Derived.Test.YtdckaflfgbbabaaQ34
import Derived.Test.YtdckaflfgbbabaaQ35
import Derived.Test.YtdckaflfgbbabaaQ37
import Derived.Test.YtdckaflfgbbabaaQ38
import Derived.Test.YtdckaflfgbbabaaQ39
import Derived.Test.YtdckaflfgbbabaaQ4
import Derived.Test.YtdckaflfgbbabaaQ41
import Derived.Test.YtdckaflfgbbabaaQ42
import Derived.Test.YtdckaflfgbbabaaQ46
import Derived.Test.YtdckaflfgbbabaaQ47
import Derived.Test.YtdckaflfgbbabaaQ49
import Derived.Test.YtdckaflfgbbabaaQ5
import Derived.Test.YtdckaflfgbbabaaQ50
import Derived.Test.YtdckaflfgbbabaaQ51
import Derived.Test.YtdckaflfgbbabaaQ6
import Derived.Test.YtdckaflfgbbabaaQ7
import Derived.Test.YtdckaflfgbbabaaQ8
import Derived.Test.YtdckaflfgbbabaaQ9
import Derived.Test.YtdckaflfgbbabaaMRow
namespace Go.Proofs.Ytdckaflfgbbabaa.Pure
open Go.RowKit Go.Proofs.Ytdckaflfgbbabaa.Q Go.Proofs.Ytdckaflfgbbabaa.MRow Go.Proofs.YtdckaflfgbbabaaW.PrintWords Go.Proofs.YtdckaflfgbbabaaW.PrintLast
set_option linter.unusedVariables false
set_option linter.unusedSimpArgs false

/-! base -/
theorem w64 {x : Int} (h0 : -9223372036854775808 ≤ x) (h1 : x < 9223372036854775808) : wrap64 x = x := by
  unfold wrap64; omega

theorem rd_of {xs : List Int} {i : Nat} (h : i < xs.length) : rd xs (i : Int) = xs[i] := by
  simp [rd, List.getD_eq_getElem?_getD, h]
theorem getD_of {α : Type} {xs : List α} {d : α} {i : Nat} (h : i < xs.length) : xs.getD ((i : Int)).toNat d = xs[i] := by
  simp [List.getD_eq_getElem?_getD, h]
/-- From the end of a range down. -/
theorem downs {P : Nat → Prop} (n : Nat) (step : ∀ i, i < n → P (i + 1) → P i) (done : P n) : ∀ i, i ≤ n → P i := by
  have key : ∀ d i, i + d = n → P i := by
    intro d
    induction d with
    | zero => intro i hi; rw [show i = n by omega]; exact done
    | succ d ih => intro i hi; exact step i (by omega) (ih (i + 1) (by omega))
  intro i hi
  exact key (n - i) i (by omega)
theorem drop_at {α : Type} {l : List α} {i : Nat} (h : i < l.length) : l.drop i = l[i] :: l.drop (i + 1) := List.drop_eq_getElem_cons h
theorem Ev.eq {α : Type} {g : Nat → Option α} {r r' : α} (h : Ev g r) (e : r = r') : Ev g r' := e ▸ h
theorem natCast_succ' (i : Nat) : ((i : Int) + 1) = ((i + 1 : Nat) : Int) := by omega
/-- A list that is filled from its begin. -/
theorem fill_set {α : Type} (xs : List α) (z y : α) (i d : Nat) (h : i < xs.length) (hd : i + (d + 1) = xs.length) (hy : y = xs[i]) :
    (xs.take i ++ List.replicate (d + 1) z).set i y = xs.take (i + 1) ++ List.replicate d z := by
  subst hy
  rw [List.set_append_right _ _ (by simp; omega)]
  have hl : (xs.take i).length = i := by simp; omega
  rw [hl, Nat.sub_self, List.replicate_succ, List.set_cons_zero, List.take_succ_eq_append_getElem h, List.append_assoc]
  rfl

/-! nodes -/
def toN (x : S50) : S48 := ⟨x.f0, x.f1, x.f2, x.f3⟩
theorem rdN_of {xs : List S48} {i : Nat} (h : i < xs.length) : rd_T48 xs (i : Int) = xs[i] := by
  unfold rd_T48
  exact getD_of h
theorem rdLN_of {xs : List S50} {i : Nat} (h : i < xs.length) : rd_T50 xs (i : Int) = xs[i] := by
  unfold rd_T50
  exact getD_of h
theorem toNodeS_ev (x0 : List S50) (hb : x0.length ≤ 1048576) : Ev (fun k => laws_toNodeS.f k x0) (x0.map toN) := by
  have key := downs (P := fun i => Ev (fun k => laws_toNodeS.l0 k x0 ((x0.map toN).take i ++ List.replicate (x0.length - i) z48) (i : Int)) (x0.map toN)) x0.length
    (fun i hi ih => by
      refine Ev.step (fun k => ?_) ih
      rw [laws_toNodeS.l0, if_pos (by omega), if_pos (by omega), rdLN_of hi, laws_toNode.f, Option.bind_some, if_pos (by simp; omega), w64 (by omega) (by omega), Int.toNat_natCast]
      rw [show x0.length - i = (x0.length - (i + 1)) + 1 by omega, fill_set (x0.map toN) _ _ i _ (by simpa using hi) (by simp; omega) (by simp [toN])]
      rfl)
    (by
      refine Ev.step (f := fun _ => some (x0.map toN)) (fun k => ?_) (Ev.now _)
      rw [laws_toNodeS.l0, if_neg (by omega)]
      simp [List.take_of_length_le])
  have h := key 0 (by omega)
  refine Ev.congr (fun k => ?_) h
  unfold laws_toNodeS.f
  rw [if_pos (by omega), if_pos (by omega)]
  simp
theorem szNodeS_eq (x0 : List S50) (h : x0.length ≤ 9223372036854775807) : laws_szNodeS.f x0 1048576 = some (if x0.length ≤ 1048576 then 1048576 - (x0.length : Int) else -1) := by
  unfold laws_szNodeS.f
  rw [w64 (by omega) (by omega)]
  by_cases hl : x0.length ≤ 1048576
  · rw [if_neg (by omega), if_pos hl]
  · rw [if_pos (by omega), if_neg hl]
theorem eqNode_self (x : S48) : laws_eqNode.f x.f0 x.f1 x.f2 x.f3 x.f0 x.f1 x.f2 x.f3 = some true := by
  unfold laws_eqNode.f
  simp
theorem eqNodeS_self_n (x0 : List S48) (hb : x0.length ≤ 4611686018427387904) : Ev (fun k => laws_eqNodeS.f k x0 x0) true := by
  have key := downs (P := fun i => Ev (fun k => laws_eqNodeS.l0 k x0 x0 (i : Int)) true) x0.length
    (fun i hi ih => by
      refine Ev.step (fun k => ?_) ih
      rw [laws_eqNodeS.l0, if_pos (by omega), if_pos (by omega), if_pos (by omega), rdN_of hi, eqNode_self, Option.bind_some, if_pos rfl, w64 (by omega) (by omega)]
      rfl)
    (by
      refine Ev.step (f := fun _ => some true) (fun k => ?_) (Ev.now _)
      rw [laws_eqNodeS.l0, if_neg (by omega)])
  refine Ev.congr (fun k => ?_) (key 0 (by omega))
  unfold laws_eqNodeS.f
  rw [if_pos rfl]
  rfl
theorem eqNodeS_self (x0 : List S48) (hb : x0.length ≤ 1048576) : Ev (fun k => laws_eqNodeS.f k x0 x0) true := eqNodeS_self_n x0 (by omega)

/-! spec_l1In -/
theorem l1In_eq (a b c : Int) : spec_l1In.f a b c = some (decide (b ≤ a ∧ a ≤ c)) := by
  unfold spec_l1In.f
  by_cases h : a ≥ b
  · rw [if_pos h]
    congr 1
    simp; omega
  · rw [if_neg h]
    congr 1
    simp; omega

/-! kids -/
def vB (x : Int) : Bool := decide (0 ≤ x ∧ x ≤ 2)
def kidsL (op x y z : Int) : List Int :=
  if op = 6 then [x] else if op = 7 ∨ op = 8 then [x, y] else if op = 9 ∨ op = 10 then [y] else []
def fB (op x y z : Int) : Bool :=
  if op = 1 ∨ op = 2 then vB x && (vB y && decide (z = 0))
  else if op = 3 then vB x && (vB y && vB z)
  else if op = 4 then vB x && (decide (0 ≤ y ∧ y ≤ 255) && decide (z = 0))
  else if op = 5 then vB x && (decide (0 ≤ y ∧ y ≤ 3) && decide (z = 0))
  else if op = 6 then decide (y = 0) && decide (z = 0)
  else if op = 7 ∨ op = 8 then decide (z = 0)
  else if op = 9 ∨ op = 10 then vB x && decide (z = 0)
  else false
def inB (at_ : Int) (j : Int) : Bool := decide (0 ≤ j ∧ j < at_)
def nB (op x y z at_ : Int) : Bool := fB op x y z && (kidsL op x y z).all (inB at_)
theorem opcases (op : Int) : op = 1 ∨ op = 2 ∨ op = 3 ∨ op = 4 ∨ op = 5 ∨ op = 6 ∨ op = 7 ∨ op = 8 ∨ op = 9 ∨ op = 10 ∨ (op ≠ 1 ∧ op ≠ 2 ∧ op ≠ 3 ∧ op ≠ 4 ∧ op ≠ 5 ∧ op ≠ 6 ∧ op ≠ 7 ∧ op ≠ 8 ∧ op ≠ 9 ∧ op ≠ 10) := by omega
theorem beq_dec (a b : Int) : (a == b) = decide (a = b) := Bool.beq_eq_decide_eq a b
theorem ite_bool {c : Bool} {a b : Bool} : (if c = true then some a else some b) = some (if c then a else b) := by cases c <;> rfl
theorem ite_prop {c : Prop} [Decidable c] {a b : Bool} : (if c then some a else some b) = some (if decide c = true then a else b) := by by_cases h : c <;> simp [h]
theorem ite_and {c d : Bool} : (if c = true then d else false) = (c && d) := by cases c <;> rfl
theorem dec_and {p q : Prop} [Decidable p] [Decidable q] : (decide p && decide q) = decide (p ∧ q) := by by_cases hp : p <;> by_cases hq : q <;> simp [hp, hq]
theorem l16Node_eq (k : Nat) (op x y z at_ : Int) : spec_l16Node.f (k + 2) op x y z at_ = some (nB op x y z at_) := by
  rcases opcases op with h | h | h | h | h | h | h | h | h | h | ⟨h1, h2, h3, h4, h5, h6, h7, h8, h9, h10⟩
  · subst h
    simp only [spec_l16Node.f, spec_l16Node.j0, spec_l16Node.j1, l1In_eq, Option.bind_some, nB, fB, kidsL, vB, inB]
    simp only [Int.reduceEq, if_true, if_false, beq_self_eq_true, ite_bool, ite_prop, Option.bind_some, Option.some.injEq, true_or, or_true, or_self, false_or, Int.reduceBEq, Bool.false_eq_true, ge_iff_le]
    simp only [List.all_nil, List.all_cons, Bool.and_true, ite_and, beq_dec]
    first | rfl | (rw [Bool.eq_iff_iff]; simp only [Bool.and_eq_true, decide_eq_true_eq, inB] <;> omega)
  · subst h
    simp only [spec_l16Node.f, spec_l16Node.j0, spec_l16Node.j1, l1In_eq, Option.bind_some, nB, fB, kidsL, vB, inB]
    simp only [Int.reduceEq, if_true, if_false, beq_self_eq_true, ite_bool, ite_prop, Option.bind_some, Option.some.injEq, true_or, or_true, or_self, false_or, Int.reduceBEq, Bool.false_eq_true, ge_iff_le]
    simp only [List.all_nil, List.all_cons, Bool.and_true, ite_and, beq_dec]
    first | rfl | (rw [Bool.eq_iff_iff]; simp only [Bool.and_eq_true, decide_eq_true_eq, inB] <;> omega)
  · subst h
    simp only [spec_l16Node.f, spec_l16Node.j0, spec_l16Node.j1, l1In_eq, Option.bind_some, nB, fB, kidsL, vB, inB]
    simp only [Int.reduceEq, if_true, if_false, beq_self_eq_true, ite_bool, ite_prop, Option.bind_some, Option.some.injEq, true_or, or_true, or_self, false_or, Int.reduceBEq, Bool.false_eq_true, ge_iff_le]
    simp only [List.all_nil, List.all_cons, Bool.and_true, ite_and, beq_dec]
    first | rfl | (rw [Bool.eq_iff_iff]; simp only [Bool.and_eq_true, decide_eq_true_eq, inB] <;> omega)
  · subst h
    simp only [spec_l16Node.f, spec_l16Node.j0, spec_l16Node.j1, l1In_eq, Option.bind_some, nB, fB, kidsL, vB, inB]
    simp only [Int.reduceEq, if_true, if_false, beq_self_eq_true, ite_bool, ite_prop, Option.bind_some, Option.some.injEq, true_or, or_true, or_self, false_or, Int.reduceBEq, Bool.false_eq_true, ge_iff_le]
    simp only [List.all_nil, List.all_cons, Bool.and_true, ite_and, beq_dec]
    first | rfl | (rw [Bool.eq_iff_iff]; simp only [Bool.and_eq_true, decide_eq_true_eq, inB] <;> omega)
  · subst h
    simp only [spec_l16Node.f, spec_l16Node.j0, spec_l16Node.j1, l1In_eq, Option.bind_some, nB, fB, kidsL, vB, inB]
    simp only [Int.reduceEq, if_true, if_false, beq_self_eq_true, ite_bool, ite_prop, Option.bind_some, Option.some.injEq, true_or, or_true, or_self, false_or, Int.reduceBEq, Bool.false_eq_true, ge_iff_le]
    simp only [List.all_nil, List.all_cons, Bool.and_true, ite_and, beq_dec]
    first | rfl | (rw [Bool.eq_iff_iff]; simp only [Bool.and_eq_true, decide_eq_true_eq, inB] <;> omega)
  · subst h
    simp only [spec_l16Node.f, spec_l16Node.j0, spec_l16Node.j1, l1In_eq, Option.bind_some, nB, fB, kidsL, vB, inB]
    simp only [Int.reduceEq, if_true, if_false, beq_self_eq_true, ite_bool, ite_prop, Option.bind_some, Option.some.injEq, true_or, or_true, or_self, false_or, Int.reduceBEq, Bool.false_eq_true, ge_iff_le]
    simp only [List.all_nil, List.all_cons, Bool.and_true, ite_and, beq_dec]
    first | rfl | (rw [Bool.eq_iff_iff]; simp only [Bool.and_eq_true, decide_eq_true_eq, inB] <;> omega)
  · subst h
    simp only [spec_l16Node.f, spec_l16Node.j0, spec_l16Node.j1, l1In_eq, Option.bind_some, nB, fB, kidsL, vB, inB]
    simp only [Int.reduceEq, if_true, if_false, beq_self_eq_true, ite_bool, ite_prop, Option.bind_some, Option.some.injEq, true_or, or_true, or_self, false_or, Int.reduceBEq, Bool.false_eq_true, ge_iff_le]
    simp only [List.all_nil, List.all_cons, Bool.and_true, ite_and, beq_dec]
    first | rfl | (rw [Bool.eq_iff_iff]; simp only [Bool.and_eq_true, decide_eq_true_eq, inB] <;> omega)
  · subst h
    simp only [spec_l16Node.f, spec_l16Node.j0, spec_l16Node.j1, l1In_eq, Option.bind_some, nB, fB, kidsL, vB, inB]
    simp only [Int.reduceEq, if_true, if_false, beq_self_eq_true, ite_bool, ite_prop, Option.bind_some, Option.some.injEq, true_or, or_true, or_self, false_or, Int.reduceBEq, Bool.false_eq_true, ge_iff_le]
    simp only [List.all_nil, List.all_cons, Bool.and_true, ite_and, beq_dec]
    first | rfl | (rw [Bool.eq_iff_iff]; simp only [Bool.and_eq_true, decide_eq_true_eq, inB] <;> omega)
  · subst h
    simp only [spec_l16Node.f, spec_l16Node.j0, spec_l16Node.j1, l1In_eq, Option.bind_some, nB, fB, kidsL, vB, inB]
    simp only [Int.reduceEq, if_true, if_false, beq_self_eq_true, ite_bool, ite_prop, Option.bind_some, Option.some.injEq, true_or, or_true, or_self, false_or, Int.reduceBEq, Bool.false_eq_true, ge_iff_le]
    simp only [List.all_nil, List.all_cons, Bool.and_true, ite_and, beq_dec]
    first | rfl | (rw [Bool.eq_iff_iff]; simp only [Bool.and_eq_true, decide_eq_true_eq, inB] <;> omega)
  · subst h
    simp only [spec_l16Node.f, spec_l16Node.j0, spec_l16Node.j1, l1In_eq, Option.bind_some, nB, fB, kidsL, vB, inB]
    simp only [Int.reduceEq, if_true, if_false, beq_self_eq_true, ite_bool, ite_prop, Option.bind_some, Option.some.injEq, true_or, or_true, or_self, false_or, Int.reduceBEq, Bool.false_eq_true, ge_iff_le]
    simp only [List.all_nil, List.all_cons, Bool.and_true, ite_and, beq_dec]
    first | rfl | (rw [Bool.eq_iff_iff]; simp only [Bool.and_eq_true, decide_eq_true_eq, inB] <;> omega)
  · simp [spec_l16Node.f, spec_l16Node.j0, spec_l16Node.j1, nB, fB, h1, h2, h3, h4, h5, h6, h7, h8, h9, h10]
theorem l16Kids_eq (k : Nat) (op x y z : Int) : spec_l16Kids.f (k + 1) op x y z = some (kidsL op x y z) := by
  rcases opcases op with h | h | h | h | h | h | h | h | h | h | ⟨h1, h2, h3, h4, h5, h6, h7, h8, h9, h10⟩
  all_goals first
    | subst h
      simp [spec_l16Kids.f, spec_l16Kids.j0, kidsL]
      done
    | simp [spec_l16Kids.f, spec_l16Kids.j0, kidsL, h6, h7, h8, h9, h10]
theorem isVar_eq (x : Int) : impl_isVariable.f x = some (vB x) := by
  unfold impl_isVariable.f vB
  by_cases h : x ≥ 0
  · rw [if_pos h, Option.some.injEq, Bool.eq_iff_iff]; simp only [decide_eq_true_eq]; omega
  · rw [if_neg h, Option.some.injEq, Bool.eq_iff_iff]; simp; omega
theorem isTerm_eq (x : Int) : impl_isTerm.f x = some (decide (0 ≤ x ∧ x ≤ 3)) := by
  unfold impl_isTerm.f
  by_cases h : x ≥ 0
  · rw [if_pos h, Option.some.injEq, Bool.eq_iff_iff]; simp only [decide_eq_true_eq]; omega
  · rw [if_neg h, Option.some.injEq, Bool.eq_iff_iff]; simp; omega
theorem ite_pair {c : Bool} {l : List Int} {a b : Bool} : (if c = true then some (l, a) else some (l, b)) = some (l, if c then a else b) := by cases c <;> rfl
theorem ite_pairp {c : Prop} [Decidable c] {l : List Int} {a b : Bool} : (if c then some (l, a) else some (l, b)) = some (l, if decide c = true then a else b) := by by_cases h : c <;> simp [h]
theorem kids_eq (k : Nat) (op x y z : Int) : impl_Node_kids.f (k + 2) op x y z = some (kidsL op x y z, fB op x y z) := by
  rcases opcases op with h | h | h | h | h | h | h | h | h | h | ⟨h1, h2, h3, h4, h5, h6, h7, h8, h9, h10⟩
  · subst h
    simp only [impl_Node_kids.f, impl_Node_kids.j0, impl_Node_kids.j1, isVar_eq, isTerm_eq, Option.bind_some, fB, kidsL]
    simp only [Int.reduceEq, if_true, if_false, beq_self_eq_true, ite_pair, ite_pairp, Option.bind_some, Option.some.injEq, true_or, or_true, or_self, false_or, Int.reduceBEq, Bool.false_eq_true, ge_iff_le, Prod.mk.injEq, true_and]
    first | done | (simp only [ite_and, beq_dec]; done) | (simp only [ite_and, beq_dec]; rw [Bool.eq_iff_iff]; simp only [Bool.and_eq_true, decide_eq_true_eq, vB] <;> omega)
  · subst h
    simp only [impl_Node_kids.f, impl_Node_kids.j0, impl_Node_kids.j1, isVar_eq, isTerm_eq, Option.bind_some, fB, kidsL]
    simp only [Int.reduceEq, if_true, if_false, beq_self_eq_true, ite_pair, ite_pairp, Option.bind_some, Option.some.injEq, true_or, or_true, or_self, false_or, Int.reduceBEq, Bool.false_eq_true, ge_iff_le, Prod.mk.injEq, true_and]
    first | done | (simp only [ite_and, beq_dec]; done) | (simp only [ite_and, beq_dec]; rw [Bool.eq_iff_iff]; simp only [Bool.and_eq_true, decide_eq_true_eq, vB] <;> omega)
  · subst h
    simp only [impl_Node_kids.f, impl_Node_kids.j0, impl_Node_kids.j1, isVar_eq, isTerm_eq, Option.bind_some, fB, kidsL]
    simp only [Int.reduceEq, if_true, if_false, beq_self_eq_true, ite_pair, ite_pairp, Option.bind_some, Option.some.injEq, true_or, or_true, or_self, false_or, Int.reduceBEq, Bool.false_eq_true, ge_iff_le, Prod.mk.injEq, true_and]
    first | done | (simp only [ite_and, beq_dec]; done) | (simp only [ite_and, beq_dec]; rw [Bool.eq_iff_iff]; simp only [Bool.and_eq_true, decide_eq_true_eq, vB] <;> omega)
  · subst h
    simp only [impl_Node_kids.f, impl_Node_kids.j0, impl_Node_kids.j1, isVar_eq, isTerm_eq, Option.bind_some, fB, kidsL]
    simp only [Int.reduceEq, if_true, if_false, beq_self_eq_true, ite_pair, ite_pairp, Option.bind_some, Option.some.injEq, true_or, or_true, or_self, false_or, Int.reduceBEq, Bool.false_eq_true, ge_iff_le, Prod.mk.injEq, true_and]
    first | done | (simp only [ite_and, beq_dec]; done) | (simp only [ite_and, beq_dec]; rw [Bool.eq_iff_iff]; simp only [Bool.and_eq_true, decide_eq_true_eq, vB] <;> omega)
  · subst h
    simp only [impl_Node_kids.f, impl_Node_kids.j0, impl_Node_kids.j1, isVar_eq, isTerm_eq, Option.bind_some, fB, kidsL]
    simp only [Int.reduceEq, if_true, if_false, beq_self_eq_true, ite_pair, ite_pairp, Option.bind_some, Option.some.injEq, true_or, or_true, or_self, false_or, Int.reduceBEq, Bool.false_eq_true, ge_iff_le, Prod.mk.injEq, true_and]
    first | done | (simp only [ite_and, beq_dec]; done) | (simp only [ite_and, beq_dec]; rw [Bool.eq_iff_iff]; simp only [Bool.and_eq_true, decide_eq_true_eq, vB] <;> omega)
  · subst h
    simp only [impl_Node_kids.f, impl_Node_kids.j0, impl_Node_kids.j1, isVar_eq, isTerm_eq, Option.bind_some, fB, kidsL]
    simp only [Int.reduceEq, if_true, if_false, beq_self_eq_true, ite_pair, ite_pairp, Option.bind_some, Option.some.injEq, true_or, or_true, or_self, false_or, Int.reduceBEq, Bool.false_eq_true, ge_iff_le, Prod.mk.injEq, true_and]
    first | done | (simp only [ite_and, beq_dec]; done) | (simp only [ite_and, beq_dec]; rw [Bool.eq_iff_iff]; simp only [Bool.and_eq_true, decide_eq_true_eq, vB] <;> omega)
  · subst h
    simp only [impl_Node_kids.f, impl_Node_kids.j0, impl_Node_kids.j1, isVar_eq, isTerm_eq, Option.bind_some, fB, kidsL]
    simp only [Int.reduceEq, if_true, if_false, beq_self_eq_true, ite_pair, ite_pairp, Option.bind_some, Option.some.injEq, true_or, or_true, or_self, false_or, Int.reduceBEq, Bool.false_eq_true, ge_iff_le, Prod.mk.injEq, true_and]
    first | done | (simp only [ite_and, beq_dec]; done) | (simp only [ite_and, beq_dec]; rw [Bool.eq_iff_iff]; simp only [Bool.and_eq_true, decide_eq_true_eq, vB] <;> omega)
  · subst h
    simp only [impl_Node_kids.f, impl_Node_kids.j0, impl_Node_kids.j1, isVar_eq, isTerm_eq, Option.bind_some, fB, kidsL]
    simp only [Int.reduceEq, if_true, if_false, beq_self_eq_true, ite_pair, ite_pairp, Option.bind_some, Option.some.injEq, true_or, or_true, or_self, false_or, Int.reduceBEq, Bool.false_eq_true, ge_iff_le, Prod.mk.injEq, true_and]
    first | done | (simp only [ite_and, beq_dec]; done) | (simp only [ite_and, beq_dec]; rw [Bool.eq_iff_iff]; simp only [Bool.and_eq_true, decide_eq_true_eq, vB] <;> omega)
  · subst h
    simp only [impl_Node_kids.f, impl_Node_kids.j0, impl_Node_kids.j1, isVar_eq, isTerm_eq, Option.bind_some, fB, kidsL]
    simp only [Int.reduceEq, if_true, if_false, beq_self_eq_true, ite_pair, ite_pairp, Option.bind_some, Option.some.injEq, true_or, or_true, or_self, false_or, Int.reduceBEq, Bool.false_eq_true, ge_iff_le, Prod.mk.injEq, true_and]
    first | done | (simp only [ite_and, beq_dec]; done) | (simp only [ite_and, beq_dec]; rw [Bool.eq_iff_iff]; simp only [Bool.and_eq_true, decide_eq_true_eq, vB] <;> omega)
  · subst h
    simp only [impl_Node_kids.f, impl_Node_kids.j0, impl_Node_kids.j1, isVar_eq, isTerm_eq, Option.bind_some, fB, kidsL]
    simp only [Int.reduceEq, if_true, if_false, beq_self_eq_true, ite_pair, ite_pairp, Option.bind_some, Option.some.injEq, true_or, or_true, or_self, false_or, Int.reduceBEq, Bool.false_eq_true, ge_iff_le, Prod.mk.injEq, true_and]
    first | done | (simp only [ite_and, beq_dec]; done) | (simp only [ite_and, beq_dec]; rw [Bool.eq_iff_iff]; simp only [Bool.and_eq_true, decide_eq_true_eq, vB] <;> omega)
  · simp [impl_Node_kids.f, impl_Node_kids.j0, impl_Node_kids.j1, fB, kidsL, h1, h2, h3, h4, h5, h6, h7, h8, h9, h10]

/-! IsFormula -/
def kidsN (x : S48) : List Int := kidsL x.f0 x.f1 x.f2 x.f3
def okN (x : S48) (i : Nat) : Bool := nB x.f0 x.f1 x.f2 x.f3 i
def allK (f : List S48) (i : Nat) : List Int := (f.take i).flatMap kidsN
def isFm (f : List S48) : Prop := 1 ≤ f.length ∧ f.length ≤ 40 ∧ (∀ i (h : i < f.length), okN f[i] i = true) ∧ ∀ v : Nat, v + 1 < f.length → (allK f f.length).count (v : Int) = 1
noncomputable def isF (f : List S48) : Bool := by classical exact decide (isFm f)
theorem isF_true {f : List S48} : isF f = true ↔ isFm f := by
  unfold isF
  classical
  exact decide_eq_true_iff
theorem isF_false {f : List S48} (h : ¬ isFm f) : isF f = false := by
  rw [Bool.eq_false_iff, ne_eq, isF_true]
  exact h
theorem kidsL_len (op x y z : Int) : (kidsL op x y z).length ≤ 2 := by
  unfold kidsL
  split
  · simp
  · split
    · simp
    · split <;> simp
theorem allK_succ {f : List S48} {i : Nat} (h : i < f.length) : allK f (i + 1) = allK f i ++ kidsN f[i] := by
  unfold allK
  rw [List.take_succ_eq_append_getElem h, List.flatMap_append]
  simp
theorem allK_len (f : List S48) (i : Nat) : (allK f i).length ≤ 2 * i := by
  induction i with
  | zero => simp [allK]
  | succ i ih =>
    by_cases h : i < f.length
    · rw [allK_succ h, List.length_append]
      have := kidsL_len f[i].f0 f[i].f1 f[i].f2 f[i].f3
      unfold kidsN
      omega
    · have : allK f (i + 1) = allK f i := by
        unfold allK
        rw [List.take_of_length_le (by omega), List.take_of_length_le (by omega)]
      rw [this]
      omega
theorem allK_count_le {f : List S48} {i : Nat} (v : Int) (hi : i ≤ f.length) : (allK f i).count v ≤ (allK f f.length).count v := by
  have : ∀ d, i + d ≤ f.length → (allK f i).count v ≤ (allK f (i + d)).count v := by
    intro d
    induction d with
    | zero => intro _; exact Nat.le_refl _
    | succ d ih =>
      intro h
      have := ih (by omega)
      rw [show i + (d + 1) = (i + d) + 1 by omega, allK_succ (by omega), List.count_append]
      omega
  have := this (f.length - i) (by omega)
  rwa [show i + (f.length - i) = f.length by omega] at this
theorem kid_in {x : S48} {i : Nat} (h : okN x i = true) : ∀ c ∈ kidsN x, 0 ≤ c ∧ c < i := by
  unfold okN nB at h
  simp only [Bool.and_eq_true, List.all_eq_true] at h
  intro c hc
  have := h.2 c hc
  simpa [inB] using this
theorem okN_f {x : S48} {i : Nat} (h : okN x i = true) : fB x.f0 x.f1 x.f2 x.f3 = true := by
  unfold okN nB at h
  simp only [Bool.and_eq_true] at h
  exact h.1
theorem count_snoc (L : List Int) (c v : Int) : (L ++ [c]).count v = L.count v + (if c = v then 1 else 0) := by
  rw [List.count_append, List.count_cons]
  simp [beq_dec]
theorem take_snoc {α : Type} {l : List α} {k : Nat} (h : k < l.length) : l.take (k + 1) = l.take k ++ [l[k]] := List.take_succ_eq_append_getElem h

theorem specIF_l2 (f : List S48) (uses : List Int) (hn : f.length ≤ 40) (h1 : 1 ≤ f.length) (hl : uses.length = f.length) (b : Bool)
    (hb : b = true ↔ ∀ v : Nat, v + 1 < f.length → uses.getD v 0 = 1) : Ev (fun k => spec_IsFormula.l2 k f uses 0) b := by
  have key := downs (P := fun v => (∀ u, u < v → uses.getD u 0 = 1) → Ev (fun k => spec_IsFormula.l2 k f uses (v : Int)) b) (f.length - 1)
    (fun v hv ih hp => by
      have hr : rd uses (v : Int) = uses[v]'(by omega) := rd_of (by omega)
      have hg : uses.getD v 0 = uses[v]'(by omega) := by simp [List.getD_eq_getElem?_getD, show v < uses.length by omega]
      by_cases h : uses[v]'(by omega) = 1
      · refine Ev.step (fun k => ?_) (ih (fun u hu => by
          by_cases e : u = v
          · subst e; rw [hg]; exact h
          · exact hp u (by omega)))
        rw [spec_IsFormula.l2, w64 (by omega) (by omega), if_pos (by omega), if_pos (by omega), if_pos (by omega), hr, if_pos h, w64 (by omega) (by omega)]
        rfl
      · have : b = false := by
          rw [Bool.eq_false_iff, ne_eq, hb]
          intro h'
          exact h (by rw [← hg]; exact h' v (by omega))
        rw [this]
        refine Ev.step (f := fun _ => some false) (fun k => ?_) (Ev.now _)
        rw [spec_IsFormula.l2, w64 (by omega) (by omega), if_pos (by omega), if_pos (by omega), if_pos (by omega), hr, if_neg h])
    (fun hp => by
      have : b = true := hb.2 (fun v hv => hp v (by omega))
      rw [this]
      refine Ev.step (f := fun _ => some true) (fun k => ?_) (Ev.now _)
      rw [spec_IsFormula.l2, w64 (by omega) (by omega), if_neg (by omega)])
  exact key 0 (by omega) (fun u hu => by omega)

theorem specIF_l1 (f : List S48) (i : Nat) (hi : i < f.length) (hn : f.length ≤ 40) (b : Bool) (ok : okN f[i] i = true)
    (next : ∀ uses : List Int, uses.length = f.length → (∀ v : Nat, v < f.length → uses.getD v 0 = (((allK f (i + 1)).count (v : Int) : Nat) : Int)) → Ev (fun k => spec_IsFormula.l0 k f uses ((i + 1 : Nat) : Int)) b)
    (uses : List Int) (hl : uses.length = f.length) (hu : ∀ v : Nat, v < f.length → uses.getD v 0 = (((allK f i).count (v : Int) : Nat) : Int)) :
    Ev (fun k => spec_IsFormula.l1 k f uses i (kidsN f[i]) 0) b := by
  have kl : (kidsN f[i]).length ≤ 2 := kidsL_len _ _ _ _
  have al := allK_len f i
  have key := downs (P := fun c => ∀ uses : List Int, uses.length = f.length → (∀ v : Nat, v < f.length → uses.getD v 0 = (((allK f i ++ (kidsN f[i]).take c).count (v : Int) : Nat) : Int)) → Ev (fun k => spec_IsFormula.l1 k f uses i (kidsN f[i]) (c : Int)) b) (kidsN f[i]).length
    (fun c hc ih uses hl hu => by
      have hin := kid_in ok ((kidsN f[i])[c]) (List.getElem_mem hc)
      have hr : rd (kidsN f[i]) (c : Int) = (kidsN f[i])[c] := rd_of hc
      obtain ⟨m, hm⟩ : ∃ m : Nat, (kidsN f[i])[c] = (m : Int) := ⟨((kidsN f[i])[c]).toNat, by omega⟩
      have hmn : m < f.length := by omega
      have hcb : (allK f i ++ (kidsN f[i]).take c).count (m : Int) ≤ 100 := by
        refine Nat.le_trans List.count_le_length ?_
        rw [List.length_append, List.length_take]
        omega
      have hum := hu m hmn
      have hrm : rd uses (m : Int) = uses.getD m 0 := by simp [rd]
      refine Ev.step (fun k => ?_) (ih (uses.set m (uses.getD m 0 + 1)) (by simp [hl]) (fun v hv => by
        rw [take_snoc hc, ← List.append_assoc, count_snoc, hm]
        by_cases e : m = v
        · subst e
          simp only [List.getD_eq_getElem?_getD, List.getElem?_set, if_true] at *
          rw [if_pos (by omega)]
          simp only [Option.getD_some]
          rw [hum]
          omega
        · have e' : ¬ ((m : Int) = (v : Int)) := by omega
          have := hu v hv
          simp only [List.getD_eq_getElem?_getD, List.getElem?_set, if_neg e, if_neg e'] at *
          rw [this]
          omega))
      rw [spec_IsFormula.l1, if_pos (by omega), if_pos (by omega), hr, hm, if_pos (by omega), if_pos (by omega), hrm, w64 (by omega) (by omega), w64 (by omega) (by omega)]
      rfl)
    (fun uses hl hu => by
      rw [List.take_length, ← allK_succ hi] at hu
      refine Ev.step (fun k => ?_) (next uses hl hu)
      rw [spec_IsFormula.l1, if_neg (by omega), w64 (by omega) (by omega)]
      rfl)
  refine key 0 (by omega) uses hl ?_
  simpa using hu

theorem specIF_l0 (f : List S48) (hn : f.length ≤ 40) (h1 : 1 ≤ f.length) : ∀ i, i ≤ f.length → (∀ j (h : j < f.length), j < i → okN f[j] j = true) → ∀ uses : List Int, uses.length = f.length → (∀ v : Nat, v < f.length → uses.getD v 0 = (((allK f i).count (v : Int) : Nat) : Int)) → Ev (fun k => spec_IsFormula.l0 k f uses (i : Int)) (isF f) :=
  downs f.length
    (fun i hi ih hok uses hl hu => by
      have hr : rd_T48 f (i : Int) = f[i] := rdN_of hi
      by_cases ok : okN f[i] i = true
      · have h3 := specIF_l1 f i hi hn (isF f) ok (fun uses hl hu => ih (fun j h hj => by
          by_cases e : j = i
          · subst e; exact ok
          · exact hok j h (by omega)) uses hl hu) uses hl hu
        obtain ⟨K, hK⟩ := h3
        refine ⟨K + 3, fun k hk => ?_⟩
        obtain ⟨m, rfl⟩ : ∃ m, k = m + 3 := ⟨k - 3, by omega⟩
        show spec_IsFormula.l0 (m + 2 + 1) f uses (i : Int) = _
        rw [spec_IsFormula.l0, if_pos (by omega), if_pos (by omega), hr, l16Node_eq, Option.bind_some]
        have ok' : nB f[i].f0 f[i].f1 f[i].f2 f[i].f3 (i : Int) = true := ok
        rw [ok', if_pos rfl, l16Kids_eq, Option.bind_some]
        exact hK (m + 2) (by omega)
      · rw [isF_false (fun h => ok (h.2.2.1 i hi))]
        refine ⟨3, fun k hk => ?_⟩
        obtain ⟨m, rfl⟩ : ∃ m, k = m + 3 := ⟨k - 3, by omega⟩
        show spec_IsFormula.l0 (m + 2 + 1) f uses (i : Int) = _
        rw [spec_IsFormula.l0, if_pos (by omega), if_pos (by omega), hr, l16Node_eq, Option.bind_some]
        have ok' : nB f[i].f0 f[i].f1 f[i].f2 f[i].f3 (i : Int) = false := by simpa [okN] using ok
        rw [ok', if_neg (by simp)])
    (fun hok uses hl hu => by
      have h2 := specIF_l2 f uses hn h1 hl (isF f) (by
        rw [isF_true]
        constructor
        · intro h v hv
          rw [hu v (by omega), h.2.2.2 v hv]
          rfl
        · intro h
          refine ⟨h1, hn, fun i hi => hok i hi hi, fun v hv => ?_⟩
          have := h v hv
          rw [hu v (by omega)] at this
          omega)
      refine Ev.step (fun k => ?_) h2
      rw [spec_IsFormula.l0, if_neg (by omega)])
theorem specIF_ev (f : List S48) (hb : f.length ≤ 1048576 + 64) : Ev (fun k => spec_IsFormula.f k f) (isF f) := by
  by_cases h : 1 ≤ f.length ∧ f.length ≤ 40
  · refine Ev.congr (fun k => ?_) (specIF_l0 f h.2 h.1 0 (by omega) (fun j _ hj => by omega) (List.replicate f.length 0) (by simp) (fun v hv => by simp [allK, hv]))
    unfold spec_IsFormula.f
    rw [l1In_eq, decide_eq_true (by omega), Option.bind_some, if_pos rfl, if_pos (by omega), if_pos (by omega)]
    simp
  · rw [isF_false (fun h' => h ⟨h'.1, h'.2.1⟩)]
    refine Ev.congr (fun k => ?_) (Ev.now _)
    unfold spec_IsFormula.f
    rw [l1In_eq, decide_eq_false (by omega), Option.bind_some, if_neg (by simp)]

theorem implIF_l2 (n : Nat) (used : List Bool) (hl : used.length = n) (hn : n ≤ 40) (b : Bool)
    (hb : b = true ↔ ∀ v : Nat, v < n → used.getD v false = true) : Ev (fun k => impl_IsFormula.l2 k used n 0) b := by
  have key := downs (P := fun v => (∀ u, u < v → used.getD u false = true) → Ev (fun k => impl_IsFormula.l2 k used n (v : Int)) b) n
    (fun v hv ih hp => by
      have hr : rdOf false used (v : Int) = used.getD v false := by simp [rdOf]
      by_cases h : used.getD v false = true
      · refine Ev.step (fun k => ?_) (ih (fun u hu => by
          by_cases e : u = v
          · subst e; exact h
          · exact hp u (by omega)))
        rw [impl_IsFormula.l2, if_pos (by omega), if_pos (by omega), if_pos (by omega), hr, if_pos h, w64 (by omega) (by omega)]
        rfl
      · have : b = false := by
          rw [Bool.eq_false_iff, ne_eq, hb]
          exact fun h' => h (h' v hv)
        rw [this]
        refine Ev.step (f := fun _ => some false) (fun k => ?_) (Ev.now _)
        rw [impl_IsFormula.l2, if_pos (by omega), if_pos (by omega), if_pos (by omega), hr, if_neg h])
    (fun hp => by
      have : b = true := hb.2 hp
      rw [this]
      refine Ev.step (f := fun _ => some true) (fun k => ?_) (Ev.now _)
      rw [impl_IsFormula.l2, if_neg (by omega)])
  exact key 0 (by omega) (fun u hu => by omega)

theorem implIF_l1 (f : List S48) (i : Nat) (hi : i < f.length) (hn : f.length ≤ 40) (fok : fB f[i].f0 f[i].f1 f[i].f2 f[i].f3 = true)
    (next : okN f[i] i = true → ∀ used : List Bool, used.length = f.length → (∀ v : Nat, v < f.length → (allK f (i + 1)).count (v : Int) = if used.getD v false then 1 else 0) → Ev (fun k => impl_IsFormula.l0 k f used f f.length ((i + 1 : Nat) : Int)) (isF f))
    (used : List Bool) (hl : used.length = f.length) (hu : ∀ v : Nat, v < f.length → (allK f i).count (v : Int) = if used.getD v false then 1 else 0) :
    Ev (fun k => impl_IsFormula.l1 k f used i f f.length i (kidsN f[i]) (kidsN f[i]).length 0) (isF f) := by
  have kl : (kidsN f[i]).length ≤ 2 := kidsL_len _ _ _ _
  have key := downs (P := fun c => (∀ a (h : a < (kidsN f[i]).length), a < c → inB i (kidsN f[i])[a] = true) → ∀ used : List Bool, used.length = f.length → (∀ v : Nat, v < f.length → (allK f i ++ (kidsN f[i]).take c).count (v : Int) = if used.getD v false then 1 else 0) → Ev (fun k => impl_IsFormula.l1 k f used i f f.length i (kidsN f[i]) (kidsN f[i]).length (c : Int)) (isF f)) (kidsN f[i]).length
    (fun c hc ih hok used hl hu => by
      have hr : rd (kidsN f[i]) (c : Int) = (kidsN f[i])[c] := rd_of hc
      by_cases hin : 0 ≤ (kidsN f[i])[c] ∧ (kidsN f[i])[c] < (i : Int)
      · obtain ⟨m, hm⟩ : ∃ m : Nat, (kidsN f[i])[c] = (m : Int) := ⟨((kidsN f[i])[c]).toNat, by omega⟩
        have hmn : m < f.length := by omega
        have hrm : rdOf false used (m : Int) = used.getD m false := by simp [rdOf]
        by_cases hus : used.getD m false = true
        · have hcm := hu m hmn
          rw [if_pos hus] at hcm
          have : ¬ isFm f := by
            intro h
            have h2 := h.2.2.2 m (by omega)
            have h3 := allK_count_le (f := f) (i := i + 1) (m : Int) (by omega)
            rw [allK_succ hi, show kidsN f[i] = (kidsN f[i]).take c ++ (kidsN f[i]).drop c from (List.take_append_drop _ _).symm, ← List.append_assoc, List.count_append, List.drop_eq_getElem_cons hc, List.count_cons, hm] at h3
            simp only [beq_self_eq_true, if_true] at h3
            omega
          rw [isF_false this]
          refine Ev.step (f := fun _ => some false) (fun k => ?_) (Ev.now _)
          rw [impl_IsFormula.l1, if_pos (by omega), if_pos (by omega), if_pos (by omega), hr, hm, if_neg (by omega), if_neg (by omega), if_pos (by omega), if_pos (by omega), hrm, if_pos hus]
        · refine Ev.step (fun k => ?_) (ih (fun a h ha => by
            by_cases e : a = c
            · subst e
              simp only [inB, decide_eq_true_eq]
              exact hin
            · exact hok a h (by omega)) (used.set m true) (by simp [hl]) (fun v hv => by
            rw [take_snoc hc, ← List.append_assoc, count_snoc, hm, hu v hv]
            by_cases e : m = v
            · subst e
              rw [if_neg hus]
              simp [List.getD_eq_getElem?_getD, List.getElem?_set, show m < used.length by omega]
            · have e' : ¬ ((m : Int) = (v : Int)) := by omega
              simp [List.getD_eq_getElem?_getD, List.getElem?_set, if_neg e, if_neg e']))
          rw [impl_IsFormula.l1, if_pos (by omega), if_pos (by omega), if_pos (by omega), hr, hm, if_neg (by omega), if_neg (by omega), if_pos (by omega), if_pos (by omega), hrm, if_neg hus, w64 (by omega) (by omega)]
          rfl
      · have : ¬ isFm f := by
          intro h
          have := kid_in (h.2.2.1 i hi) ((kidsN f[i])[c]) (List.getElem_mem hc)
          exact hin this
        rw [isF_false this]
        refine Ev.step (f := fun _ => some false) (fun k => ?_) (Ev.now _)
        by_cases hneg : (kidsN f[i])[c] < 0
        · rw [impl_IsFormula.l1, if_pos (by omega), if_pos (by omega), if_pos (by omega), hr, if_pos hneg]
        · rw [impl_IsFormula.l1, if_pos (by omega), if_pos (by omega), if_pos (by omega), hr, if_neg hneg, if_pos (by omega)])
    (fun hok used hl hu => by
      rw [List.take_length, ← allK_succ hi] at hu
      have ok : okN f[i] i = true := by
        unfold okN nB
        rw [fok, Bool.true_and, List.all_eq_true]
        intro c hc
        obtain ⟨a, ha, rfl⟩ := List.getElem_of_mem hc
        exact hok a ha ha
      refine Ev.step (fun k => ?_) (next ok used hl hu)
      rw [impl_IsFormula.l1, if_neg (by omega), w64 (by omega) (by omega)]
      rfl)
  refine key 0 (by omega) (fun a _ ha => by omega) used hl ?_
  simpa using hu

theorem implIF_l0 (f : List S48) (hn : f.length ≤ 40) (h1 : 1 ≤ f.length) : ∀ i, i ≤ f.length → (∀ j (h : j < f.length), j < i → okN f[j] j = true) → ∀ used : List Bool, used.length = f.length → (∀ v : Nat, v < f.length → (allK f i).count (v : Int) = if used.getD v false then 1 else 0) → Ev (fun k => impl_IsFormula.l0 k f used f f.length (i : Int)) (isF f) :=
  downs f.length
    (fun i hi ih hok used hl hu => by
      have hr : rd_T48 f (i : Int) = f[i] := rdN_of hi
      by_cases fok : fB f[i].f0 f[i].f1 f[i].f2 f[i].f3 = true
      · have h3 := implIF_l1 f i hi hn fok (fun ok used hl hu => ih (fun j h hj => by
          by_cases e : j = i
          · subst e; exact ok
          · exact hok j h (by omega)) used hl hu) used hl hu
        obtain ⟨K, hK⟩ := h3
        refine ⟨K + 3, fun k hk => ?_⟩
        obtain ⟨m, rfl⟩ : ∃ m, k = m + 3 := ⟨k - 3, by omega⟩
        show impl_IsFormula.l0 (m + 2 + 1) f used f f.length (i : Int) = _
        rw [impl_IsFormula.l0, if_pos (by omega), if_pos (by omega), if_pos (by omega), hr, kids_eq, Option.bind_some]
        simp only [fok, if_true]
        exact hK (m + 2) (by omega)
      · rw [isF_false (fun h => fok (okN_f (h.2.2.1 i hi)))]
        refine ⟨3, fun k hk => ?_⟩
        obtain ⟨m, rfl⟩ : ∃ m, k = m + 3 := ⟨k - 3, by omega⟩
        show impl_IsFormula.l0 (m + 2 + 1) f used f f.length (i : Int) = _
        rw [impl_IsFormula.l0, if_pos (by omega), if_pos (by omega), if_pos (by omega), hr, kids_eq, Option.bind_some]
        simp [fok])
    (fun hok used hl hu => by
      have h2 := implIF_l2 (f.length - 1) (used.take (f.length - 1)) (by simp [hl]) (by omega) (isF f) (by
        rw [isF_true]
        have tk : ∀ v, v < f.length - 1 → (used.take (f.length - 1)).getD v false = used.getD v false := by
          intro v hv
          simp [List.getD_eq_getElem?_getD, List.getElem?_take_of_lt hv]
        constructor
        · intro h v hv
          have h3 := hu v (by omega)
          rw [h.2.2.2 v (by omega)] at h3
          rw [tk v hv]
          by_cases e : used.getD v false = true
          · exact e
          · rw [if_neg e] at h3; omega
        · intro h
          refine ⟨h1, hn, fun i hi => hok i hi hi, fun v hv => ?_⟩
          have h3 := h v (by omega)
          rw [tk v (by omega)] at h3
          rw [hu v (by omega), if_pos h3])
      refine Ev.step (fun k => ?_) h2
      have e1 : wrap64 ((f.length : Int) - 1) = ((f.length - 1 : Nat) : Int) := by rw [w64 (by omega) (by omega)]; omega
      rw [impl_IsFormula.l0, if_neg (by omega), e1, if_pos (by omega), if_pos (by omega), Option.bind_some, Int.toNat_natCast]
      simp [hl])
theorem implIF_ev (f : List S48) (hb : f.length ≤ 1048576 + 64) : Ev (fun k => impl_IsFormula.f k f) (isF f) := by
  by_cases h : 1 ≤ f.length ∧ f.length ≤ 40
  · refine Ev.congr (g := fun k => impl_IsFormula.f k f) (f := fun k => impl_IsFormula.j0 k f false) (fun k => ?_) (Ev.step (fun k => ?_) (implIF_l0 f h.2 h.1 0 (by omega) (fun j _ hj => by omega) (List.replicate f.length false) (by simp) (fun v hv => by simp [allK, hv])))
    · unfold impl_IsFormula.f
      rw [if_neg (by omega), decide_eq_false (by omega)]
    · rw [impl_IsFormula.j0, if_neg (by simp), if_pos (by omega), if_pos (by omega)]
      simp
  · rw [isF_false (fun h' => h ⟨h'.1, h'.2.1⟩)]
    refine Ev.congr (g := fun k => impl_IsFormula.f k f) (f := fun k => impl_IsFormula.j0 k f true) (fun k => ?_) (Ev.step (f := fun _ => some false) (fun k => ?_) (Ev.now _))
    · unfold impl_IsFormula.f
      by_cases h2 : (f.length : Int) < 1
      · rw [if_pos h2]
      · rw [if_neg h2, decide_eq_true (by omega)]
    · rw [impl_IsFormula.j0, if_pos rfl]
theorem bothIF (f : List S48) (hb : f.length ≤ 1048576) : ∃ r, Ev (fun k => spec_IsFormula.f k f) r ∧ Ev (fun k => impl_IsFormula.f k f) r :=
  ⟨isF f, specIF_ev f (by omega), implIF_ev f (by omega)⟩
theorem isF_len {f : List S48} (h : isF f = true) : 1 ≤ f.length ∧ f.length ≤ 40 := ⟨(isF_true.1 h).1, (isF_true.1 h).2.1⟩

/-! CountQuantifiers -/
def isQ (x : S48) : Bool := decide (x.f0 = 9 ∨ x.f0 = 10)
theorem specCQ_ev (x0 : List S48) (hb : x0.length ≤ 1048576) : Ev (fun k => spec_CountQuantifiers.f k x0) ((x0.countP isQ : Nat) : Int) := by
  have key := downs (P := fun i => Ev (fun k => spec_CountQuantifiers.l0 k x0 (((x0.take i).countP isQ : Nat) : Int) (i : Int)) ((x0.countP isQ : Nat) : Int)) x0.length
    (fun i hi ih => by
      have hc : (x0.take i).countP isQ ≤ i := Nat.le_trans (List.countP_le_length) (List.length_take_le _ _)
      rw [List.take_succ_eq_append_getElem hi, List.countP_append] at ih
      refine Ev.step (fun k => ?_) ih
      rw [spec_CountQuantifiers.l0, if_pos (by omega), if_pos (by omega), rdN_of hi]
      by_cases h9 : x0[i].f0 = 9
      · rw [if_pos h9, w64 (by omega) (by omega), w64 (by omega) (by omega)]
        simp [isQ, h9]
      · by_cases h10 : x0[i].f0 = 10
        · rw [if_neg h9, if_pos h10, w64 (by omega) (by omega), w64 (by omega) (by omega)]
          simp [isQ, h10]
        · rw [if_neg h9, if_neg h10, w64 (by omega) (by omega)]
          simp [isQ, h9, h10])
    (by
      refine Ev.step (f := fun _ => some _) (fun k => ?_) (Ev.now _)
      rw [spec_CountQuantifiers.l0, if_neg (by omega)]
      simp)
  exact Ev.congr (fun k => rfl) (key 0 (by omega))
theorem isQuant_eq (a b c d : Int) : impl_Node_isQuantifier.f a b c d = some (isQ ⟨a, b, c, d⟩) := by
  unfold impl_Node_isQuantifier.f isQ
  by_cases h : a = 9
  · simp [h]
  · rw [if_neg h]
    simp [h]
    exact Bool.beq_eq_decide_eq a 10
theorem oneIf_eq (b : Bool) : impl_oneIf.f b = some (if b then 1 else 0) := by
  unfold impl_oneIf.f
  cases b <;> rfl
theorem implCQ_ev (x0 : List S48) (hb : x0.length ≤ 1048576) : Ev (fun k => impl_CountQuantifiers.f k x0) ((x0.countP isQ : Nat) : Int) := by
  have key := downs (P := fun i => Ev (fun k => impl_CountQuantifiers.l0 k (((x0.take i).countP isQ : Nat) : Int) x0 x0.length (i : Int)) ((x0.countP isQ : Nat) : Int)) x0.length
    (fun i hi ih => by
      have hc : (x0.take i).countP isQ ≤ i := Nat.le_trans (List.countP_le_length) (List.length_take_le _ _)
      rw [List.take_succ_eq_append_getElem hi, List.countP_append] at ih
      refine Ev.step (fun k => ?_) ih
      rw [impl_CountQuantifiers.l0, if_pos (by omega), if_pos (by omega), if_pos (by omega), rdN_of hi, isQuant_eq, Option.bind_some, oneIf_eq, Option.bind_some, w64 (x := (i : Int) + 1) (by omega) (by omega)]
      by_cases hq : isQ x0[i] = true
      · rw [if_pos hq, w64 (by omega) (by omega)]
        simp [hq]
      · rw [if_neg hq, w64 (by omega) (by omega)]
        simp [hq])
    (by
      refine Ev.step (f := fun _ => some _) (fun k => ?_) (Ev.now _)
      rw [impl_CountQuantifiers.l0, if_neg (by omega)]
      simp)
  exact Ev.congr (fun k => rfl) (key 0 (by omega))

/-! DepthOf -/
theorem kidsN_lt {f : List S48} (hF : isFm f) {i : Nat} (hi : i < f.length) {c : Nat} (hc : c < (kidsN f[i]).length) : ∃ m : Nat, (kidsN f[i])[c] = (m : Int) ∧ m < i := by
  have := kid_in (hF.2.2.1 i hi) ((kidsN f[i])[c]) (List.getElem_mem hc)
  exact ⟨((kidsN f[i])[c]).toNat, by omega, by omega⟩
theorem depth_both (f : List S48) (hF : isFm f) : ∀ i (hi : i < f.length), ∃ r : Int, 0 ≤ r ∧ r ≤ i + 1 ∧ Ev (fun k => spec_l16Depth.f k f (i : Int)) r ∧ Ev (fun k => impl_depth.f k f (i : Int)) r := by
  intro i
  induction i using Nat.strongRecOn with
  | _ i ih =>
    intro hi
    have h40 := hF.2.1
    have hr : rd_T48 f (i : Int) = f[i] := rdN_of hi
    have kl : (kidsN f[i]).length ≤ 2 := kidsL_len _ _ _ _
    have key := downs (P := fun c => ∀ acc : Int, 0 ≤ acc → acc ≤ i → ∃ r : Int, 0 ≤ r ∧ r ≤ i + 1 ∧ Ev (fun k => spec_l16Depth.l0 k f (i : Int) acc (kidsN f[i]) (c : Int)) r ∧ Ev (fun k => impl_depth.l0 k f (i : Int) acc (kidsN f[i]) (kidsN f[i]).length (c : Int)) r) (kidsN f[i]).length
      (fun c hc ihc acc h0 h1 => by
        obtain ⟨m, hm, hmi⟩ := kidsN_lt hF hi hc
        have hrc : rd (kidsN f[i]) (c : Int) = (kidsN f[i])[c] := rd_of hc
        obtain ⟨d, d0, d1, ds, di⟩ := ih m hmi (by omega)
        obtain ⟨r, r0, r1, hs, hm2⟩ := ihc (mx acc d) (by unfold mx; omega) (by unfold mx; omega)
        refine ⟨r, r0, r1, ?_, ?_⟩
        · refine Ev.step (f := fun k => (spec_l16Depth.f k f (m : Int)).bind fun t => spec_l16Depth.l0 k f (i : Int) (mx acc t) (kidsN f[i]) ((c + 1 : Nat) : Int)) (fun k => ?_) (Ev.bind ds hs)
          rw [spec_l16Depth.l0, if_pos (by omega), if_pos (by omega), hrc, hm, w64 (by omega) (by omega)]
          rfl
        · refine Ev.step (f := fun k => (impl_depth.f k f (m : Int)).bind fun t => impl_depth.l0 k f (i : Int) (mx acc t) (kidsN f[i]) (kidsN f[i]).length ((c + 1 : Nat) : Int)) (fun k => ?_) (Ev.bind di hm2)
          rw [impl_depth.l0, if_pos (by omega), if_pos (by omega), if_pos (by omega), hrc, hm, w64 (by omega) (by omega)]
          rfl)
      (fun acc h0 h1 => by
        refine ⟨acc + (if isQ f[i] then 1 else 0), by split <;> omega, by split <;> omega, Ev.step (f := fun _ => some _) (fun k => ?_) (Ev.now _), Ev.step (f := fun _ => some _) (fun k => ?_) (Ev.now _)⟩
        · rw [spec_l16Depth.l0, if_neg (by omega), if_pos (by omega), if_pos (by omega), hr]
          by_cases h9 : f[i].f0 = 9
          · rw [if_pos h9, w64 (by omega) (by omega)]
            simp [isQ, h9]
          · by_cases h10 : f[i].f0 = 10
            · rw [if_neg h9, if_pos h10, w64 (by omega) (by omega)]
              simp [isQ, h10]
            · rw [if_neg h9, if_neg h10]
              simp [isQ, h9, h10]
        · rw [impl_depth.l0, if_neg (by omega), if_pos (by omega), if_pos (by omega), hr, isQuant_eq, Option.bind_some, oneIf_eq, Option.bind_some, w64 (by split <;> omega) (by split <;> omega)])
    obtain ⟨r, r0, r1, hs, hm⟩ := key 0 (by omega) 0 (by omega) (by omega)
    refine ⟨r, r0, r1, ?_, ?_⟩
    · obtain ⟨K, hK⟩ := hs
      refine ⟨K + 2, fun k hk => ?_⟩
      obtain ⟨n, rfl⟩ : ∃ n, k = n + 2 := ⟨k - 2, by omega⟩
      show spec_l16Depth.f (n + 1 + 1) f (i : Int) = _
      rw [spec_l16Depth.f, if_pos (by omega), if_pos (by omega), hr, l16Kids_eq, Option.bind_some]
      exact hK _ (by omega)
    · obtain ⟨K, hK⟩ := hm
      refine ⟨K + 3, fun k hk => ?_⟩
      obtain ⟨n, rfl⟩ : ∃ n, k = n + 3 := ⟨k - 3, by omega⟩
      show impl_depth.f (n + 2 + 1) f (i : Int) = _
      rw [impl_depth.f, if_pos (by omega), if_pos (by omega), hr, kids_eq, Option.bind_some]
      exact hK _ (by omega)
theorem bothDepth' (f : List S48) (hb : f.length ≤ 1048576) : ∃ r : Int, -1 ≤ r ∧ r ≤ 40 ∧ Ev (fun k => spec_DepthOf.f k f) r ∧ Ev (fun k => impl_DepthOf.f k f) r := by
  by_cases hf : isF f = true
  · have hF := isF_true.1 hf
    have hl := hF.1
    have hl2 := hF.2.1
    obtain ⟨r, r0, r1, hs, hm⟩ := depth_both f hF (f.length - 1) (by omega)
    have e1 : wrap64 ((f.length : Int) - 1) = ((f.length - 1 : Nat) : Int) := by rw [w64 (by omega) (by omega)]; omega
    refine ⟨r, by omega, by omega, ?_, ?_⟩
    · unfold spec_DepthOf.f
      refine Ev.bind (specIF_ev f (by omega)) ?_
      simp only [hf, if_true, e1]
      exact Ev.bind hs (Ev.now _)
    · unfold impl_DepthOf.f
      refine Ev.bind (implIF_ev f (by omega)) ?_
      simp only [hf, if_true, e1]
      exact Ev.bind hm (Ev.now _)
  · have hf' : isF f = false := by simpa using hf
    refine ⟨-1, by omega, by omega, ?_, ?_⟩
    · unfold spec_DepthOf.f
      refine Ev.bind (specIF_ev f (by omega)) ?_
      simp only [hf', Bool.false_eq_true, if_false]
      exact Ev.now _
    · unfold impl_DepthOf.f
      refine Ev.bind (implIF_ev f (by omega)) ?_
      simp only [hf', Bool.false_eq_true, if_false]
      exact Ev.now _
theorem bothDepth (f : List S48) (hb : f.length ≤ 1048576) : ∃ r : Int, Ev (fun k => spec_DepthOf.f k f) r ∧ Ev (fun k => impl_DepthOf.f k f) r := by
  obtain ⟨r, _, _, h⟩ := bothDepth' f hb
  exact ⟨r, h⟩

/-! FreeVariables -/
def hasT (l : List Int) : T3 := (decide ((0 : Int) ∈ l), decide ((1 : Int) ∈ l), decide ((2 : Int) ∈ l))
theorem dec_or' (p q : Prop) [Decidable p] [Decidable q] : decide (p ∨ q) = (decide p || decide q) := by by_cases hp : p <;> by_cases hq : q <;> simp [hp, hq]
theorem hasT_app (l m : List Int) : hasT (l ++ m) = frOr (hasT l) (hasT m) := by
  simp only [hasT, frOr, List.mem_append, dec_or']
theorem hasT_snoc (l : List Int) (x : Int) : hasT (l ++ [x]) = frSet (hasT l) x true := by
  have h (j : Int) : decide (j ∈ l ++ [x]) = (if x = j then true else decide (j ∈ l)) := by
    by_cases e : x = j
    · simp [e]
    · rw [if_neg e]
      simp [show ¬ j = x from fun h => e h.symm]
  simp only [hasT, frSet, h]
theorem hasT_frList (r : T3) : hasT (frList r) = r := by
  obtain ⟨a, b, c⟩ := r
  cases a <;> cases b <;> cases c <;> rfl
theorem frList_len (r : T3) : (frList r).length ≤ 3 := by
  obtain ⟨a, b, c⟩ := r
  cases a <;> cases b <;> cases c <;> decide
theorem l4Has_ev (l : List Int) (a : Int) (hl : l.length ≤ 4611686018427387904) : Ev (fun k => spec_l4Has.f k l a) (decide (a ∈ l)) := by
  have key := downs (P := fun i => Ev (fun k => spec_l4Has.l0 k l a (i : Int)) (decide (a ∈ l.drop i))) l.length
    (fun i hi ih => by
      rw [drop_at hi]
      by_cases e : l[i] = a
      · refine Ev.step (f := fun _ => some true) (fun k => ?_) (Ev.eq (Ev.now _) (by simp [e]))
        rw [spec_l4Has.l0, if_pos (by omega), if_pos (by omega), rd_of hi, if_pos e]
      · refine Ev.step (fun k => ?_) (Ev.eq ih (decide_eq_decide.2 ⟨fun h => List.mem_cons.2 (Or.inr h), fun h => (List.mem_cons.1 h).resolve_left (fun h => e h.symm)⟩))
        rw [spec_l4Has.l0, if_pos (by omega), if_pos (by omega), rd_of hi, if_neg e, w64 (by omega) (by omega)]
        rfl)
    (by
      refine Ev.step (f := fun _ => some false) (fun k => ?_) (Ev.eq (Ev.now _) (by simp))
      rw [spec_l4Has.l0, if_neg (by omega)])
  exact key 0 (by omega)
def usedV (op : Int) : Int := if op = 6 ∨ op = 9 ∨ op = 10 then 1 else if op = 7 ∨ op = 8 then 2 else 0
theorem l16Used_eq (k : Nat) (op : Int) : spec_l16Used.f (k + 1) op = some (usedV op) := by
  rcases opcases op with h | h | h | h | h | h | h | h | h | h | ⟨h1, h2, h3, h4, h5, h6, h7, h8, h9, h10⟩
  all_goals first
    | subst h
      simp [spec_l16Used.f, spec_l16Used.j0, usedV]
      done
    | simp [spec_l16Used.f, spec_l16Used.j0, usedV, h6, h7, h8, h9, h10]
def keepV (n : S48) (all : List Int) (v : Int) : Bool := decide (v ∈ all) && !(isQ n && decide (n.f1 = v))
theorem free_l1 (n : S48) (all out : List Int) (v : Int) (R : List Int) (h0 : 0 ≤ v) (h3 : v < 3) (hl : all.length ≤ 1000) (ho : out.length ≤ 10)
    (ih : Ev (fun k => spec_l16Free.l1 k all (out ++ if keepV n all v = true then [v] else []) (v + 1) n.f0 n.f1 n.f2 n.f3) R) : Ev (fun k => spec_l16Free.l1 k all out v n.f0 n.f1 n.f2 n.f3) R := by
  obtain ⟨K1, hK1⟩ := l4Has_ev all v (by omega)
  obtain ⟨K, hK⟩ := ih
  refine ⟨K + K1 + 2, fun k hk => ?_⟩
  obtain ⟨m, rfl⟩ : ∃ m, k = m + 2 := ⟨k - 2, by omega⟩
  show spec_l16Free.l1 (m + 1 + 1) all out v n.f0 n.f1 n.f2 n.f3 = _
  have hi := hK (m + 1) (by omega)
  have hh := hK1 (m + 1) (by omega)
  simp only at hi hh
  rw [spec_l16Free.l1, if_pos h3, hh, Option.bind_some, w64 (x := v + 1) (by omega) (by omega), l16Used_eq, Option.bind_some]
  have hlen : out.length < 17592186044416 := by omega
  unfold keepV isQ at hi
  by_cases hv : v ∈ all
  · simp only [hv, decide_true, if_true, Bool.true_and] at hi ⊢
    unfold usedV
    by_cases h6 : n.f0 = 6
    · simp only [h6, true_or, if_true, if_pos hlen] at hi ⊢
      simpa using hi
    · by_cases hq : n.f0 = 9 ∨ n.f0 = 10
      · have : (n.f0 = 6 ∨ n.f0 = 9 ∨ n.f0 = 10) := Or.inr hq
        rw [if_pos this, if_pos rfl, if_neg h6]
        by_cases hx : n.f1 = v
        · rw [if_pos hx]
          simpa [hq, hx] using hi
        · rw [if_neg hx, if_pos hlen]
          simpa [hq, hx] using hi
      · have : ¬ (n.f0 = 6 ∨ n.f0 = 9 ∨ n.f0 = 10) := by omega
        rw [if_neg this, if_neg (by split <;> decide), if_pos hlen]
        simpa [hq] using hi
  · simp only [hv, decide_false, Bool.false_and, Bool.false_eq_true, if_false, List.append_nil] at hi ⊢
    exact hi
def cutT (n : S48) (o : T3) : T3 := if isQ n then frSet o n.f1 false else o
theorem keep_cut (n : S48) (all : List Int) : (keepV n all 0, keepV n all 1, keepV n all 2) = cutT n (hasT all) := by
  have h (j : Int) : keepV n all j = (if isQ n then (if n.f1 = j then false else decide (j ∈ all)) else decide (j ∈ all)) := by
    unfold keepV
    cases isQ n
    · simp
    · by_cases e : n.f1 = j <;> simp [e]
  unfold cutT
  rw [h, h, h]
  cases isQ n <;> rfl
theorem free_l1_all (n : S48) (all : List Int) (hl : all.length ≤ 1000) : Ev (fun k => spec_l16Free.l1 k all [] 0 n.f0 n.f1 n.f2 n.f3) (frList (cutT n (hasT all))) := by
  rw [← keep_cut]
  have e1 (b : Bool) (x : Int) : (if b = true then [x] else []).length ≤ 1 := by split <;> simp
  have a0 := e1 (keepV n all 0) 0
  have a1 := e1 (keepV n all (0 + 1)) (0 + 1)
  refine free_l1 n all [] 0 _ (by omega) (by omega) hl (by simp) ?_
  refine free_l1 n all _ (0 + 1) _ (by omega) (by omega) hl (by simp only [List.nil_append]; omega) ?_
  refine free_l1 n all _ (0 + 1 + 1) _ (by omega) (by omega) hl (by rw [List.length_append, List.nil_append]; omega) ?_
  refine Ev.step (f := fun _ => some _) (fun k => ?_) (Ev.now _)
  rw [spec_l16Free.l1, if_neg (by omega)]
  simp [frList, List.append_assoc]
def startL (n : S48) : List Int := if n.f0 = 1 ∨ n.f0 = 2 then [n.f1, n.f2] else if n.f0 = 3 then [n.f1, n.f2, n.f3] else if n.f0 = 4 ∨ n.f0 = 5 then [n.f1] else []
theorem startL_len (n : S48) : (startL n).length ≤ 3 := by
  unfold startL
  split
  · simp
  · split
    · simp
    · split <;> simp
theorem specFree_start (f : List S48) (i : Nat) (hi : i < f.length) (k : Nat) : spec_l16Free.f (k + 2) f (i : Int) = spec_l16Free.j1 k f (startL f[i]) f[i].f0 f[i].f1 f[i].f2 f[i].f3 := by
  have hr : rd_T48 f (i : Int) = f[i] := rdN_of hi
  show spec_l16Free.f (k + 1 + 1) f (i : Int) = _
  rw [spec_l16Free.f, if_pos (by omega), if_pos (by omega), Option.bind_some, hr]
  generalize f[i] = n
  obtain ⟨op, x, y, z⟩ := n
  rcases opcases op with h | h | h | h | h | h | h | h | h | h | ⟨h1, h2, h3, h4, h5, h6, h7, h8, h9, h10⟩
  all_goals first
    | subst h
      simp [spec_l16Free.j0, startL]
      done
    | simp [spec_l16Free.j0, startL, h1, h2, h3, h4, h5]
theorem frAtom_eq (n : S48) (h : fB n.f0 n.f1 n.f2 n.f3 = true) : frAtom n.f0 n.f1 n.f2 n.f3 = some (hasT (startL n)) := by
  have z0 : hasT [] = (false, false, false) := rfl
  have z1 (x : Int) : hasT [x] = frSet (false, false, false) x true := hasT_snoc [] x
  have z2 (x y : Int) : hasT [x, y] = frSet (frSet (false, false, false) x true) y true := by rw [← z1]; exact hasT_snoc [x] y
  have z3 (x y z : Int) : hasT [x, y, z] = frSet (frSet (frSet (false, false, false) x true) y true) z true := by rw [← z2]; exact hasT_snoc [x, y] z
  unfold fB vB at h
  unfold frAtom startL
  by_cases h1 : n.f0 = 1 ∨ n.f0 = 2
  · simp only [h1, if_true, Bool.and_eq_true, decide_eq_true_eq] at h ⊢
    rw [if_pos (by omega), z2]
  · rw [if_neg h1] at h ⊢
    rw [if_neg h1]
    by_cases h3 : n.f0 = 3
    · simp only [h3, if_true, Bool.and_eq_true, decide_eq_true_eq] at h ⊢
      rw [if_pos (by omega), z3]
    · rw [if_neg h3] at h ⊢
      rw [if_neg h3]
      by_cases h4 : n.f0 = 4
      · simp only [h4, if_true, true_or, Bool.and_eq_true, decide_eq_true_eq] at h ⊢
        rw [if_pos (by omega), z1]
      · rw [if_neg h4] at h
        by_cases h5 : n.f0 = 5
        · simp only [h5, if_true, or_true, Bool.and_eq_true, decide_eq_true_eq] at h ⊢
          rw [if_pos (by omega), z1]
        · rw [if_neg (by omega), if_neg (by omega), z0]
theorem isQ_var {n : S48} (h : fB n.f0 n.f1 n.f2 n.f3 = true) (hq : n.f0 = 9 ∨ n.f0 = 10) : 0 ≤ n.f1 ∧ n.f1 < 3 := by
  unfold fB vB at h
  rw [if_neg (by omega), if_neg (by omega), if_neg (by omega), if_neg (by omega), if_neg (by omega), if_neg (by omega), if_pos hq] at h
  simp only [Bool.and_eq_true, decide_eq_true_eq] at h
  omega
theorem free_both (f : List S48) (hF : isFm f) : ∀ i (hi : i < f.length), ∃ r : T3, Ev (fun k => spec_l16Free.f k f (i : Int)) (frList r) ∧ Ev (fun k => impl_free.f k f (i : Int)) r := by
  intro i
  induction i using Nat.strongRecOn with
  | _ i ih =>
    intro hi
    have h40 := hF.2.1
    have hr : rd_T48 f (i : Int) = f[i] := rdN_of hi
    have kl : (kidsN f[i]).length ≤ 2 := kidsL_len _ _ _ _
    have hfB := okN_f (hF.2.2.1 i hi)
    have key := downs (P := fun c => ∀ all : List Int, all.length ≤ 3 + 3 * c → ∃ r : T3, Ev (fun k => spec_l16Free.l0 k f all (kidsN f[i]) (c : Int) f[i].f0 f[i].f1 f[i].f2 f[i].f3) (frList r) ∧ Ev (fun k => impl_free.l0 k f (i : Int) (hasT all) (kidsN f[i]) (c : Int)) r) (kidsN f[i]).length
      (fun c hc ihc all hal => by
        obtain ⟨m, hm, hmi⟩ := kidsN_lt hF hi hc
        have hrc : rd (kidsN f[i]) (c : Int) = (kidsN f[i])[c] := rd_of hc
        obtain ⟨d, ds, di⟩ := ih m hmi (by omega)
        have dl := frList_len d
        obtain ⟨r, hs, hm2⟩ := ihc (all ++ frList d) (by rw [List.length_append]; omega)
        refine ⟨r, ?_, ?_⟩
        · refine Ev.step (f := fun k => (spec_l16Free.f k f (m : Int)).bind fun t => (if all.length + t.length < 17592186044416 then spec_l16Free.l0 k f (all ++ t) (kidsN f[i]) ((c + 1 : Nat) : Int) f[i].f0 f[i].f1 f[i].f2 f[i].f3 else none)) (fun k => ?_) (Ev.bind ds ?_)
          · rw [spec_l16Free.l0, if_pos (by omega), if_pos (by omega), hrc, hm, w64 (by omega) (by omega)]
            rfl
          · exact Ev.congr (fun k => if_pos (by omega)) hs
        · rw [hasT_app, hasT_frList] at hm2
          refine Ev.step (f := fun k => (impl_free.f k f (m : Int)).bind fun t => impl_free.l0 k f (i : Int) (frOr (hasT all) t) (kidsN f[i]) ((c + 1 : Nat) : Int)) (fun k => ?_) (Ev.bind di hm2)
          rw [impl_free.l0, if_pos (by omega), if_pos (by omega), hrc, hm, w64 (by omega) (by omega)]
          rfl)
      (fun all hal => by
        refine ⟨cutT f[i] (hasT all), ?_, ?_⟩
        · refine Ev.step (fun k => ?_) (free_l1_all f[i] all (by omega))
          rw [spec_l16Free.l0, if_neg (by omega)]
        · refine Ev.step (f := fun _ => some _) (fun k => ?_) (Ev.now _)
          rw [impl_free.l0, if_neg (by omega), hr]
          unfold cutT isQ
          by_cases hq : f[i].f0 = 9 ∨ f[i].f0 = 10
          · rw [if_pos hq, if_pos (isQ_var hfB hq)]
            simp [hq]
          · rw [if_neg hq]
            simp [hq])
    obtain ⟨r, hs, hm⟩ := key 0 (by omega) (startL f[i]) (by have := startL_len f[i]; omega)
    refine ⟨r, ?_, ?_⟩
    · obtain ⟨K, hK⟩ := hs
      refine ⟨K + 4, fun k hk => ?_⟩
      obtain ⟨n, rfl⟩ : ∃ n, k = n + 4 := ⟨k - 4, by omega⟩
      show spec_l16Free.f (n + 2 + 2) f (i : Int) = _
      rw [specFree_start f i hi]
      show spec_l16Free.j1 (n + 1 + 1) f _ _ _ _ _ = _
      rw [spec_l16Free.j1, l16Kids_eq, Option.bind_some]
      exact hK _ (by omega)
    · obtain ⟨K, hK⟩ := hm
      refine ⟨K + 3, fun k hk => ?_⟩
      obtain ⟨n, rfl⟩ : ∃ n, k = n + 3 := ⟨k - 3, by omega⟩
      show impl_free.f (n + 2 + 1) f (i : Int) = _
      rw [impl_free.f, if_pos (by omega), if_pos (by omega), hr, frAtom_eq _ hfB, Option.bind_some, kids_eq, Option.bind_some]
      exact hK _ (by omega)
theorem bothFree' (f : List S48) (hb : f.length ≤ 1048576) : ∃ r : T3, (isF f = true ∨ r = (false, false, false)) ∧ Ev (fun k => spec_FreeVariables.f k f) (frList r) ∧ Ev (fun k => impl_FreeVariables.f k f) (frList r) := by
  by_cases hf : isF f = true
  · have hF := isF_true.1 hf
    have hl := hF.1
    have hl2 := hF.2.1
    obtain ⟨r, hs, hm⟩ := free_both f hF (f.length - 1) (by omega)
    have e1 : wrap64 ((f.length : Int) - 1) = ((f.length - 1 : Nat) : Int) := by rw [w64 (by omega) (by omega)]; omega
    refine ⟨r, Or.inl hf, ?_, ?_⟩
    · unfold spec_FreeVariables.f
      refine Ev.bind (specIF_ev f (by omega)) ?_
      simp only [hf, if_true, e1]
      exact Ev.bind hs (Ev.now _)
    · unfold impl_FreeVariables.f
      refine Ev.bind (implIF_ev f (by omega)) ?_
      simp only [hf, if_true, e1]
      exact Ev.bind hm (Ev.now _)
  · have hf' : isF f = false := by simpa using hf
    refine ⟨(false, false, false), Or.inr rfl, ?_, ?_⟩
    · unfold spec_FreeVariables.f
      refine Ev.bind (specIF_ev f (by omega)) ?_
      simp only [hf', Bool.false_eq_true, if_false]
      exact Ev.now _
    · unfold impl_FreeVariables.f
      refine Ev.bind (implIF_ev f (by omega)) ?_
      simp only [hf', Bool.false_eq_true, if_false]
      exact Ev.now _

/-! NegateFormula -/
/-- What a formula with one more node is, or the empty list and false. -/
noncomputable def withV (f : List S48) (n : S48) : List S48 × Bool := if isF f && isF (f ++ [n]) then (f ++ [n], true) else ([], false)
theorem implWith_ev (f : List S48) (hb : f.length ≤ 1048576) (a b c d : Int) : Ev (fun k => impl_with.f k f a b c d) (withV f ⟨a, b, c, d⟩) := by
  unfold impl_with.f
  simp only [Option.bind_some, List.nil_append, List.length_nil, List.length_singleton]
  simp only [if_pos (show 0 + f.length < 4398046511104 by omega), if_pos (show f.length + 1 < 4398046511104 by omega)]
  refine Ev.bind (implIF_ev f (by omega)) ?_
  unfold withV
  by_cases h : isF f = true
  · simp only [h, if_true, Bool.true_and]
    refine Ev.bind (implIF_ev _ (by simp; omega)) ?_
    by_cases h2 : isF (f ++ [⟨a, b, c, d⟩]) = true
    · simp only [h2, if_true]
      exact Ev.now _
    · simp only [h2, if_false]
      exact Ev.now _
  · simp only [Bool.not_eq_true] at h
    simp only [h, Bool.false_and, Bool.false_eq_true, if_false]
    exact Ev.now _
theorem implNF_ev (f : List S48) (hb : f.length ≤ 1048576) : Ev (fun k => impl_NegateFormula.f k f) (withV f ⟨6, (f.length : Int) - 1, 0, 0⟩) := by
  unfold impl_NegateFormula.f
  rw [w64 (by omega) (by omega)]
  exact Ev.bind (implWith_ev f hb _ _ _ _) (Ev.now _)
theorem specNF_ev (f : List S48) (hb : f.length ≤ 1048576) : Ev (fun k => spec_NegateFormula.f k f) (withV f ⟨6, (f.length : Int) - 1, 0, 0⟩) := by
  unfold spec_NegateFormula.f
  rw [w64 (by omega) (by omega)]
  simp only [Option.bind_some, List.nil_append, List.length_nil]
  simp only [if_pos (show 0 + f.length < 4398046511104 by omega), if_pos (show f.length < 4398046511104 by omega)]
  refine Ev.bind (specIF_ev f (by omega)) ?_
  unfold withV
  by_cases h : isF f = true
  · simp only [h, if_true, Bool.true_and]
    refine Ev.bind (specIF_ev _ (by simp; omega)) ?_
    by_cases h2 : isF (f ++ [⟨6, (f.length : Int) - 1, 0, 0⟩]) = true
    · simp only [h2, if_true]
      exact Ev.now _
    · simp only [h2, if_false]
      exact Ev.now _
  · simp only [Bool.not_eq_true] at h
    simp only [h, Bool.false_and, Bool.false_eq_true, if_false]
    exact Ev.now _
theorem withV_len (f : List S48) (n : S48) (hb : f.length ≤ 1048576) : (withV f n).1.length ≤ 1048577 := by
  unfold withV
  split
  · simp; omega
  · simp

/-! ClosedForm -/
def allN (g : List S48) (x : Int) : S48 := ⟨10, x, (g.length : Int) - 1, 0⟩
theorem isFm_all {g : List S48} (hg : isFm g) (x : Int) (h0 : 0 ≤ x) (h2 : x ≤ 2) (hl : g.length + 1 ≤ 40) : isFm (g ++ [allN g x]) := by
  obtain ⟨h1, h40, hok, hc⟩ := hg
  have kin : ∀ i, i ≤ g.length → ∀ c ∈ allK g i, c + 1 < (g.length : Int) := by
    intro i
    induction i with
    | zero => intro _ c hc; simp [allK] at hc
    | succ i ih =>
      intro hi c hc
      rw [allK_succ (by omega), List.mem_append] at hc
      rcases hc with hc | hc
      · exact ih (by omega) c hc
      · have := kid_in (hok i (by omega)) c hc
        omega
  have kk : allK (g ++ [allN g x]) (g ++ [allN g x]).length = allK g g.length ++ [(g.length : Int) - 1] := by
    unfold allK
    rw [List.take_length, List.take_length, List.flatMap_append]
    simp [kidsN, kidsL, allN]
  refine ⟨by simp, by simpa using hl, ?_, ?_⟩
  · intro i hi
    by_cases e : i < g.length
    · rw [List.getElem_append_left e]
      exact hok i e
    · have hi' : i = g.length := by simp at hi; omega
      subst hi'
      simp [okN, nB, fB, kidsL, allN, vB, inB]
      omega
  · intro v hv
    rw [kk, count_snoc]
    have hv' : v < g.length := by simpa using hv
    by_cases e : v + 1 < g.length
    · rw [hc v e, if_neg (by omega)]
    · rw [if_pos (by omega)]
      have : (allK g g.length).count (v : Int) = 0 := by
        rw [List.count_eq_zero]
        intro hm
        have := kin g.length (Nat.le_refl _) _ hm
        omega
      omega
noncomputable def addAll (vs : List Int) : Nat → List S48 → List S48
  | 0, out => out
  | i + 1, out => addAll vs i (out ++ [allN out (rd vs (i : Int))])
theorem addAll_len (vs : List Int) : ∀ i out, (addAll vs i out).length = out.length + i := by
  intro i
  induction i with
  | zero => intro out; rfl
  | succ i ih => intro out; rw [addAll, ih]; simp; omega
theorem isF_long {g : List S48} (h : 40 < g.length) : isF g = false := isF_false (fun hg => by have := hg.2.1; omega)
noncomputable def cfV (vs : List Int) (i : Nat) (out : List S48) : List S48 × Bool := if out.length + i ≤ 40 then (addAll vs i out, true) else ([], false)
theorem specCF_l0 (f : List S48) (hf : isF f = true) (hb : f.length ≤ 1048576) (vs : List Int) (hvl : vs.length ≤ 3) (hv : ∀ i : Nat, i < vs.length → 0 ≤ rd vs (i : Int) ∧ rd vs (i : Int) ≤ 2) : ∀ i, i ≤ vs.length → ∀ out : List S48, 1 ≤ out.length → out.length + i ≤ 43 → (isFm out ∨ 40 < out.length) →
    Ev (fun k => spec_ClosedForm.l0 k f out vs ((i : Int) - 1)) (cfV vs i out) := by
  intro i
  induction i with
  | zero =>
    intro _ out h1 h43 ho
    obtain ⟨K1, hK1⟩ := specIF_ev f (by omega)
    obtain ⟨K2, hK2⟩ := specIF_ev out (by omega)
    refine ⟨K1 + K2 + 1, fun k hk => ?_⟩
    obtain ⟨m, rfl⟩ : ∃ m, k = m + 1 := ⟨k - 1, by omega⟩
    have a1 := hK1 m (by omega)
    have a2 := hK2 m (by omega)
    simp only at a1 a2
    show spec_ClosedForm.l0 (m + 1) f out vs ((0 : Nat) - 1 : Int) = _
    rw [spec_ClosedForm.l0, if_neg (by omega), a1, Option.bind_some, if_pos hf, a2, Option.bind_some]
    unfold cfV
    rcases ho with ho | ho
    · rw [if_pos (isF_true.2 ho), if_pos (by have := ho.2.1; omega)]
      rfl
    · rw [isF_long ho, if_neg (by decide), if_neg (by omega)]
  | succ i ih =>
    intro hi out h1 h43 ho
    have hr := hv i (by omega)
    have hnext : isFm (out ++ [allN out (rd vs (i : Int))]) ∨ 40 < (out ++ [allN out (rd vs (i : Int))]).length := by
      by_cases h40 : out.length + 1 ≤ 40
      · rcases ho with ho | ho
        · exact Or.inl (isFm_all ho _ hr.1 hr.2 h40)
        · omega
      · right; simp; omega
    have h := ih (by omega) (out ++ [allN out (rd vs (i : Int))]) (by simp) (by simp; omega) hnext
    refine Ev.eq (Ev.step (fun k => ?_) h) ?_
    · show spec_ClosedForm.l0 (k + 1) f out vs (((i + 1 : Nat) : Int) - 1) = _
      rw [show (((i + 1 : Nat) : Int) - 1) = (i : Int) by omega]
      rw [spec_ClosedForm.l0, if_pos (by omega), if_pos (by omega), if_pos (by omega), if_pos (by omega), w64 (x := (i : Int) - 1) (by omega) (by omega), w64 (x := (out.length : Int) - 1) (by omega) (by omega)]
      rfl
    · unfold cfV
      rw [addAll]
      simp only [List.length_append, List.length_cons, List.length_nil]
      rw [show out.length + (0 + 1) + i = out.length + (i + 1) by omega]
theorem implCF_l0 (vs : List Int) (hvl : vs.length ≤ 3) (hv : ∀ i : Nat, i < vs.length → 0 ≤ rd vs (i : Int) ∧ rd vs (i : Int) ≤ 2) : ∀ i, i ≤ vs.length → ∀ out : List S48, isFm out →
    Ev (fun k => impl_ClosedForm.l0 k out vs ((i : Int) - 1)) (cfV vs i out) := by
  intro i
  induction i with
  | zero =>
    intro _ out ho
    refine Ev.step (f := fun _ => some (out, true)) (fun k => ?_) (Ev.eq (Ev.now _) ?_)
    · show impl_ClosedForm.l0 (k + 1) out vs ((0 : Nat) - 1 : Int) = _
      rw [impl_ClosedForm.l0, if_neg (by omega)]
    · unfold cfV
      rw [if_pos (by have := ho.2.1; omega)]
      rfl
  | succ i ih =>
    intro hi out ho
    have hr := hv i (by omega)
    have h40 := ho.2.1
    have h1 := ho.1
    obtain ⟨K1, hK1⟩ := implWith_ev out (by omega) 10 (rd vs (i : Int)) ((out.length : Int) - 1) 0
    have wv : withV out ⟨10, rd vs (i : Int), (out.length : Int) - 1, 0⟩ = if out.length + 1 ≤ 40 then (out ++ [allN out (rd vs (i : Int))], true) else ([], false) := by
      unfold withV
      rw [isF_true.2 ho, Bool.true_and]
      by_cases hl : out.length + 1 ≤ 40
      · have := isF_true.2 (isFm_all ho _ hr.1 hr.2 hl)
        unfold allN at this
        rw [this, if_pos rfl, if_pos hl]
        rfl
      · rw [isF_long (by simp; omega), if_neg (by decide), if_neg hl]
    by_cases hl : out.length + 1 ≤ 40
    · obtain ⟨K2, hK2⟩ := ih (by omega) _ (isFm_all ho _ hr.1 hr.2 hl)
      refine ⟨K1 + K2 + 1, fun k hk => ?_⟩
      obtain ⟨m, rfl⟩ : ∃ m, k = m + 1 := ⟨k - 1, by omega⟩
      have a1 := hK1 m (by omega)
      have a2 := hK2 m (by omega)
      simp only at a1 a2
      show impl_ClosedForm.l0 (m + 1) out vs (((i + 1 : Nat) : Int) - 1) = _
      rw [show (((i + 1 : Nat) : Int) - 1) = (i : Int) by omega]
      rw [impl_ClosedForm.l0, if_pos (by omega), if_pos (by omega), if_pos (by omega), w64 (x := (i : Int) - 1) (by omega) (by omega), w64 (x := (out.length : Int) - 1) (by omega) (by omega), a1, Option.bind_some, wv, if_pos hl]
      simp only [if_true]
      rw [a2]
      unfold cfV
      rw [addAll]
      simp only [List.length_append, List.length_cons, List.length_nil]
      rw [show out.length + (0 + 1) + i = out.length + (i + 1) by omega]
    · refine ⟨K1 + 1, fun k hk => ?_⟩
      obtain ⟨m, rfl⟩ : ∃ m, k = m + 1 := ⟨k - 1, by omega⟩
      have a1 := hK1 m (by omega)
      simp only at a1
      show impl_ClosedForm.l0 (m + 1) out vs (((i + 1 : Nat) : Int) - 1) = _
      rw [show (((i + 1 : Nat) : Int) - 1) = (i : Int) by omega]
      rw [impl_ClosedForm.l0, if_pos (by omega), if_pos (by omega), if_pos (by omega), w64 (x := (out.length : Int) - 1) (by omega) (by omega), a1, Option.bind_some, wv, if_neg hl]
      simp only [Bool.false_eq_true, if_false]
      unfold cfV
      rw [if_neg (by omega)]
theorem frList_rd (r : T3) : ∀ i : Nat, i < (frList r).length → 0 ≤ rd (frList r) (i : Int) ∧ rd (frList r) (i : Int) ≤ 2 := by
  obtain ⟨a, b, c⟩ := r
  cases a <;> cases b <;> cases c <;> decide
theorem bothCF (f : List S48) (hb : f.length ≤ 1048576) : ∃ v : List S48 × Bool, v.1.length ≤ 1048577 ∧ Ev (fun k => spec_ClosedForm.f k f) v ∧ Ev (fun k => impl_ClosedForm.f k f) v := by
  obtain ⟨o, ho, hs, hi⟩ := bothFree' f hb
  have hl := frList_len o
  by_cases hf : isF f = true
  · have hF := isF_true.1 hf
    have h40 := hF.2.1
    have h1 := hF.1
    have e1 : wrap64 (((frList o).length : Int) - 1) = ((frList o).length : Int) - 1 := w64 (by omega) (by omega)
    refine ⟨cfV (frList o) (frList o).length f, ?_, ?_, ?_⟩
    · unfold cfV
      split
      · rw [addAll_len]; omega
      · simp
    · unfold spec_ClosedForm.f
      simp only [Option.bind_some, List.nil_append, List.length_nil]
      refine Ev.congr (fun k => if_pos (by omega)) ?_
      refine Ev.bind hs ?_
      simp only [e1]
      exact specCF_l0 f hf hb (frList o) hl (frList_rd o) _ (Nat.le_refl _) f h1 (by omega) (Or.inl hF)
    · unfold impl_ClosedForm.f
      refine Ev.bind (implIF_ev f (by omega)) ?_
      simp only [hf, if_true, Option.bind_some, List.nil_append, List.length_nil]
      refine Ev.congr (fun k => if_pos (by omega)) ?_
      refine Ev.bind hi ?_
      simp only [e1]
      exact implCF_l0 (frList o) hl (frList_rd o) _ (Nat.le_refl _) f hF
  · have hf' : isF f = false := by simpa using hf
    have ho' : o = (false, false, false) := by
      rcases ho with ho | ho
      · exact absurd ho hf
      · exact ho
    subst ho'
    refine ⟨([], false), by simp, ?_, ?_⟩
    · unfold spec_ClosedForm.f
      simp only [Option.bind_some, List.nil_append, List.length_nil]
      refine Ev.congr (fun k => if_pos (by omega)) ?_
      refine Ev.bind hs ?_
      obtain ⟨K1, hK1⟩ := specIF_ev f (by omega)
      refine ⟨K1 + 1, fun k hk => ?_⟩
      obtain ⟨m, rfl⟩ : ∃ m, k = m + 1 := ⟨k - 1, by omega⟩
      have a1 := hK1 m (by omega)
      simp only at a1
      show spec_ClosedForm.l0 (m + 1) f f [] (wrap64 (((0 : Nat) : Int) - 1)) = _
      rw [w64 (by omega) (by omega), spec_ClosedForm.l0, if_neg (by omega), a1, Option.bind_some, hf', if_neg (by decide)]
    · unfold impl_ClosedForm.f
      refine Ev.bind (implIF_ev f (by omega)) ?_
      simp only [hf', Bool.false_eq_true, if_false]
      exact Ev.now _

/-! marksI -/
def markedI (a : Int) (n : Nat) : List Int := (List.range n).map fun (i : Nat) => a + i
theorem markedI_len (a : Int) (n : Nat) : (markedI a n).length = n := by simp [markedI]
theorem markedI_succ (a : Int) (n : Nat) : markedI a (n + 1) = markedI a n ++ [a + n] := by simp [markedI, List.range_succ]
theorem markedI_get (a : Int) (n i : Nat) (h : i < n) : (markedI a n)[i]'(by simpa [markedI] using h) = a + i := by simp [markedI]
theorem set_mid {α : Type} (m : List α) (xs : List α) (i : Nat) (x : α) (hm : m.length = i) (h : i < xs.length) : (m ++ xs.drop i).set i x = (m ++ [x]) ++ xs.drop (i + 1) := by
  rw [List.set_append_right _ _ (by omega), hm, Nat.sub_self, List.drop_eq_getElem_cons h, List.set_cons_zero, List.append_assoc]
  rfl
theorem markIntS_ev (xs : List Int) (a : Int) (h0 : 0 ≤ a) (h1 : a ≤ 1152921504606846976) (hl : xs.length ≤ 1152921504606846976) : Ev (fun k => laws_markIntS.f k xs a) (a + xs.length, markedI a xs.length) := by
  have key := downs (P := fun i => Ev (fun k => laws_markIntS.l0 k (markedI a i ++ xs.drop i) (a + i) (i : Int)) (a + xs.length, markedI a xs.length)) xs.length
    (fun i hi ih => by
      rw [markedI_succ, ← set_mid _ _ _ _ (markedI_len a i) hi] at ih
      refine Ev.step (fun k => ?_) ih
      rw [laws_markIntS.l0, if_pos (by simp [markedI_len]; omega), if_pos (by omega), w64 (by omega) (by omega), w64 (by omega) (by omega), Int.toNat_natCast]
      show _ = laws_markIntS.l0 k _ (a + ((i + 1 : Nat) : Int)) _
      rw [show (a + ((i + 1 : Nat) : Int)) = a + i + 1 by omega]
      rfl)
    (by
      refine Ev.step (f := fun _ => some _) (fun k => ?_) (Ev.now _)
      rw [laws_markIntS.l0, if_neg (by simp [markedI_len])]
      simp)
  have h := key 0 (by omega)
  refine Ev.congr (fun k => ?_) h
  simp [laws_markIntS.f, markedI]
theorem heldIntS_ev (a : Int) (n : Nat) (h0 : 0 ≤ a) (h1 : a ≤ 1152921504606846976) (hl : n ≤ 1152921504606846976) : Ev (fun k => laws_heldIntS.f k (markedI a n) a) (a + n) := by
  have key := downs (P := fun i => Ev (fun k => laws_heldIntS.l0 k (markedI a n) (a + i) (i : Int)) (a + n)) n
    (fun i hi ih => by
      refine Ev.step (fun k => ?_) ih
      rw [laws_heldIntS.l0, if_pos (by rw [markedI_len]; omega), if_pos (by omega), rd_of (by rw [markedI_len]; omega), markedI_get a n i hi, if_pos rfl, w64 (by omega) (by omega), w64 (by omega) (by omega)]
      rw [show (a + ((i + 1 : Nat) : Int)) = a + i + 1 by omega]
      rfl)
    (by
      refine Ev.step (f := fun _ => some _) (fun k => ?_) (Ev.now _)
      rw [laws_heldIntS.l0, if_neg (by rw [markedI_len]; omega)])
  have h := key 0 (by omega)
  refine Ev.congr (fun k => ?_) h
  simp [laws_heldIntS.f]

/-! marksN -/
def mkN (a : Int) (i : Nat) : S48 := ⟨a + 4 * i, a + 4 * i + 1, a + 4 * i + 2, a + 4 * i + 3⟩
def markedN (a : Int) (n : Nat) : List S48 := (List.range n).map fun (i : Nat) => mkN a i
theorem markedN_len (a : Int) (n : Nat) : (markedN a n).length = n := by simp [markedN]
theorem markedN_succ (a : Int) (n : Nat) : markedN a (n + 1) = markedN a n ++ [mkN a n] := by simp [markedN, List.range_succ]
theorem markedN_get (a : Int) (n i : Nat) (h : i < n) : (markedN a n)[i]'(by simpa [markedN] using h) = mkN a i := by simp [markedN]
theorem rdN_set (xs : List S48) (i : Nat) (x : S48) (h : i < xs.length) : rd_T48 (xs.set i x) (i : Int) = x := by
  rw [rdN_of (by simpa using h)]
  simp
theorem markNodeS_ev (xs : List S48) (a : Int) (h0 : 0 ≤ a) (h1 : a ≤ 1152921504606846976) (hl : xs.length ≤ 1152921504606846976) : Ev (fun k => laws_markNodeS.f k xs a) (a + 4 * xs.length, markedN a xs.length) := by
  have key := downs (P := fun i => Ev (fun k => laws_markNodeS.l0 k (markedN a i ++ xs.drop i) (a + 4 * i) (i : Int)) (a + 4 * xs.length, markedN a xs.length)) xs.length
    (fun i hi ih => by
      have hlen : i < (markedN a i ++ xs.drop i).length := by simp [markedN_len]; omega
      rw [markedN_succ, ← set_mid _ _ _ _ (markedN_len a i) hi] at ih
      refine Ev.step (fun k => ?_) ih
      rw [laws_markNodeS.l0, if_pos (by omega), if_pos (by omega)]
      simp only [Option.bind_some, Int.toNat_natCast]
      rw [rdN_set _ _ _ hlen]
      simp only [List.set_set]
      rw [rdN_set _ _ _ hlen]
      simp only [List.set_set]
      rw [rdN_set _ _ _ hlen]
      simp only [List.set_set]
      rw [w64 (x := a + 4 * (i : Int) + 1) (by omega) (by omega), w64 (x := a + 4 * (i : Int) + 1 + 1) (by omega) (by omega), w64 (x := a + 4 * (i : Int) + 1 + 1 + 1) (by omega) (by omega), w64 (x := a + 4 * (i : Int) + 1 + 1 + 1 + 1) (by omega) (by omega), w64 (x := (i : Int) + 1) (by omega) (by omega)]
      rw [show (a + 4 * ((i + 1 : Nat) : Int)) = a + 4 * i + 1 + 1 + 1 + 1 by omega]
      congr 2
      simp [mkN, Int.add_assoc])
    (by
      refine Ev.step (f := fun _ => some _) (fun k => ?_) (Ev.now _)
      rw [laws_markNodeS.l0, if_neg (by simp [markedN_len])]
      simp)
  have h := key 0 (by omega)
  refine Ev.congr (fun k => ?_) h
  simp [laws_markNodeS.f, markedN]
theorem heldNodeS_ev (a : Int) (n : Nat) (h0 : 0 ≤ a) (h1 : a ≤ 1152921504606846976) (hl : n ≤ 1152921504606846976) : Ev (fun k => laws_heldNodeS.f k (markedN a n) a) (a + 4 * n) := by
  have key := downs (P := fun i => Ev (fun k => laws_heldNodeS.l0 k (markedN a n) (a + 4 * i) (i : Int)) (a + 4 * n)) n
    (fun i hi ih => by
      refine Ev.step (fun k => ?_) ih
      rw [laws_heldNodeS.l0, if_pos (by rw [markedN_len]; omega), if_pos (by omega), rdN_of (by rw [markedN_len]; omega), markedN_get a n i hi]
      rw [w64 (x := a + 4 * (i : Int) + 1) (by omega) (by omega), w64 (x := a + 4 * (i : Int) + 1 + 1) (by omega) (by omega), w64 (x := a + 4 * (i : Int) + 1 + 1 + 1) (by omega) (by omega), w64 (x := a + 4 * (i : Int) + 1 + 1 + 1 + 1) (by omega) (by omega), w64 (x := (i : Int) + 1) (by omega) (by omega)]
      rw [if_pos (by simp [mkN]), if_pos (by simp [mkN]), if_pos (by simp [mkN]; omega), if_pos (by simp [mkN]; omega)]
      rw [show (a + 4 * ((i + 1 : Nat) : Int)) = a + 4 * i + 1 + 1 + 1 + 1 by omega]
      rfl)
    (by
      refine Ev.step (f := fun _ => some _) (fun k => ?_) (Ev.now _)
      rw [laws_heldNodeS.l0, if_neg (by rw [markedN_len]; omega)])
  have h := key 0 (by omega)
  refine Ev.congr (fun k => ?_) h
  simp [laws_heldNodeS.f]

/-! law_FnExactClosedForm -/
theorem eqNodeS_self' (x0 : List S48) (hb : x0.length ≤ 1048577) : Ev (fun k => laws_eqNodeS.f k x0 x0) true := eqNodeS_self_n x0 (by omega)
theorem FnExactClosedForm (l0 : List S50) (w0 : wfl wf_Node l0) : ∃ k, laws_FnExactClosedForm.f k l0 = some true := by
  refine Ev.rounds ?_
  unfold laws_FnExactClosedForm.f
  rw [szNodeS_eq l0 w0.1]
  by_cases hb : l0.length ≤ 1048576
  · simp only [if_pos hb, Option.bind_some, if_neg (show ¬ (1048576 - (l0.length : Int) < 0) by omega)]
    have hm : (l0.map toN).length ≤ 1048576 := by simpa using hb
    obtain ⟨v, hv, hs, hi⟩ := bothCF (l0.map toN) hm
    obtain ⟨v1, v2⟩ := v
    refine Ev.bind (toNodeS_ev l0 hb) (Ev.bind hs (Ev.bind (toNodeS_ev l0 hb) (Ev.bind hi (Ev.bind (eqNodeS_self' v1 hv) ?_))))
    simp only [if_true, bne_self_eq_false]
    refine Ev.step (fun k => by rw [laws_FnExactClosedForm.j0, if_neg (by simp)]) ?_
    refine Ev.bind (toNodeS_ev l0 hb) (Ev.bind (eqNodeS_self _ hm) ?_)
    simp only [if_true]
    refine Ev.bind (markNodeS_ev _ 1 (by omega) (by omega) (by omega)) ?_
    simp only [if_neg (show ¬ (1 + 4 * ((l0.map toN).length : Int) < 0) by omega)]
    refine Ev.bind (eqNodeS_self' v1 hv) ?_
    simp only [if_true, bne_self_eq_false]
    refine Ev.step (fun k => by rw [laws_FnExactClosedForm.j1, if_neg (by simp)]) ?_
    refine Ev.bind (markNodeS_ev v1 1 (by omega) (by omega) (by simp at hv; omega)) ?_
    refine Ev.bind (heldNodeS_ev 1 v1.length (by omega) (by omega) (by simp at hv; omega)) ?_
    simp only [if_neg (show ¬ (1 + 4 * (v1.length : Int) < 0) by omega), if_true]
    refine Ev.bind (toNodeS_ev l0 hb) (Ev.bind hi (Ev.bind (eqNodeS_self' v1 hv) ?_))
    simp only [if_true, bne_self_eq_false]
    refine Ev.step (fun k => by rw [laws_FnExactClosedForm.j2, if_neg (by simp)]) ?_
    refine Ev.bind (heldNodeS_ev 1 v1.length (by omega) (by omega) (by simp at hv; omega)) ?_
    simp only [if_neg (show ¬ (1 + 4 * (v1.length : Int) < 0) by omega), if_true]
    exact Ev.now _
  · simp only [if_neg hb, Option.bind_some, if_pos (show (-1 : Int) < 0 by omega)]
    exact Ev.now _

end Go.Proofs.Ytdckaflfgbbabaa.Pure
