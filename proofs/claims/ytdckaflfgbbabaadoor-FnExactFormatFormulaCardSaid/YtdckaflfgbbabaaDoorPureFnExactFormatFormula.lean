/- The pure law FnExactFormatFormula: what the printed functions of the program and of the reference compute agrees, for all arguments. -/
import Derived.Test.YtdckaflfgbbabaaDoorQ0
import Derived.Test.YtdckaflfgbbabaaDoorQ1
import Derived.Test.YtdckaflfgbbabaaDoorQ10
import Derived.Test.YtdckaflfgbbabaaDoorQ11
import Derived.Test.YtdckaflfgbbabaaDoorQ12
import Derived.Test.YtdckaflfgbbabaaDoorQ17
import Derived.Test.YtdckaflfgbbabaaDoorQ18
import Derived.Test.YtdckaflfgbbabaaDoorQ19
import Derived.Test.YtdckaflfgbbabaaDoorQ2
import Derived.Test.YtdckaflfgbbabaaDoorQ20
import Derived.Test.YtdckaflfgbbabaaDoorQ21
import Derived.Test.YtdckaflfgbbabaaDoorQ22
import Derived.Test.YtdckaflfgbbabaaDoorQ3
import Derived.Test.YtdckaflfgbbabaaDoorQ4
import Derived.Test.YtdckaflfgbbabaaDoorQ5
import Derived.Test.YtdckaflfgbbabaaDoorQ6
import Derived.Test.YtdckaflfgbbabaaDoorQ7
import Derived.Test.YtdckaflfgbbabaaDoorQ8
import Derived.Test.YtdckaflfgbbabaaDoorQ9
import Derived.Test.YtdckaflfgbbabaaDoorMRow
namespace Go.Proofs.YtdckaflfgbbabaaDoor.Pure
open Go.RowKit Go.Proofs.YtdckaflfgbbabaaDoor.Q Go.Proofs.YtdckaflfgbbabaaDoor.MRow Go.Proofs.YtdckaflfgbbabaaDoorW.PrintWords Go.Proofs.YtdckaflfgbbabaaDoorW.PrintLast
set_option linter.unusedVariables false
set_option linter.unusedSimpArgs false

/-! base -/
theorem w64 {x : Int} (h0 : -9223372036854775808 ≤ x) (h1 : x < 9223372036854775808) : wrap64 x = x := by
  unfold wrap64; omega

theorem rd_of {xs : List Int} {i : Nat} (h : i < xs.length) : rd xs (i : Int) = xs[i] := by
  simp [rd, List.getD_eq_getElem?_getD, h]
theorem getD_of {α : Type} {xs : List α} {d : α} {i : Nat} (h : i < xs.length) : xs.getD ((i : Int)).toNat d = xs[i] := by
  simp [List.getD_eq_getElem?_getD, h]
/-- From the end of a range down. -/
theorem downs {P : Nat → Prop} (n : Nat) (step : ∀ i, i < n → P (i + 1) → P i) (done : P n) : ∀ i, i ≤ n → P i := by
  have key : ∀ d i, i + d = n → P i := by
    intro d
    induction d with
    | zero => intro i hi; rw [show i = n by omega]; exact done
    | succ d ih => intro i hi; exact step i (by omega) (ih (i + 1) (by omega))
  intro i hi
  exact key (n - i) i (by omega)
theorem drop_at {α : Type} {l : List α} {i : Nat} (h : i < l.length) : l.drop i = l[i] :: l.drop (i + 1) := List.drop_eq_getElem_cons h
theorem Ev.eq {α : Type} {g : Nat → Option α} {r r' : α} (h : Ev g r) (e : r = r') : Ev g r' := e ▸ h
theorem natCast_succ' (i : Nat) : ((i : Int) + 1) = ((i + 1 : Nat) : Int) := by omega
/-- A list that is filled from its begin. -/
theorem fill_set {α : Type} (xs : List α) (z y : α) (i d : Nat) (h : i < xs.length) (hd : i + (d + 1) = xs.length) (hy : y = xs[i]) :
    (xs.take i ++ List.replicate (d + 1) z).set i y = xs.take (i + 1) ++ List.replicate d z := by
  subst hy
  rw [List.set_append_right _ _ (by simp; omega)]
  have hl : (xs.take i).length = i := by simp; omega
  rw [hl, Nat.sub_self, List.replicate_succ, List.set_cons_zero, List.take_succ_eq_append_getElem h, List.append_assoc]
  rfl

/-! nodes -/
def toN (x : S35) : S33 := ⟨x.f0, x.f1, x.f2, x.f3⟩
theorem rdN_of {xs : List S33} {i : Nat} (h : i < xs.length) : rd_T33 xs (i : Int) = xs[i] := by
  unfold rd_T33
  exact getD_of h
theorem rdLN_of {xs : List S35} {i : Nat} (h : i < xs.length) : rd_T35 xs (i : Int) = xs[i] := by
  unfold rd_T35
  exact getD_of h
theorem toNodeS_ev (x0 : List S35) (hb : x0.length ≤ 1048576) : Ev (fun k => laws_toNodeS.f k x0) (x0.map toN) := by
  have key := downs (P := fun i => Ev (fun k => laws_toNodeS.l0 k x0 ((x0.map toN).take i ++ List.replicate (x0.length - i) z33) (i : Int)) (x0.map toN)) x0.length
    (fun i hi ih => by
      refine Ev.step (fun k => ?_) ih
      rw [laws_toNodeS.l0, if_pos (by omega), if_pos (by omega), rdLN_of hi, laws_toNode.f, Option.bind_some, if_pos (by simp; omega), w64 (by omega) (by omega), Int.toNat_natCast]
      rw [show x0.length - i = (x0.length - (i + 1)) + 1 by omega, fill_set (x0.map toN) _ _ i _ (by simpa using hi) (by simp; omega) (by simp [toN])]
      rfl)
    (by
      refine Ev.step (f := fun _ => some (x0.map toN)) (fun k => ?_) (Ev.now _)
      rw [laws_toNodeS.l0, if_neg (by omega)]
      simp [List.take_of_length_le])
  have h := key 0 (by omega)
  refine Ev.congr (fun k => ?_) h
  unfold laws_toNodeS.f
  rw [if_pos (by omega), if_pos (by omega)]
  simp
theorem szNodeS_eq (x0 : List S35) (h : x0.length ≤ 9223372036854775807) : laws_szNodeS.f x0 1048576 = some (if x0.length ≤ 1048576 then 1048576 - (x0.length : Int) else -1) := by
  unfold laws_szNodeS.f
  rw [w64 (by omega) (by omega)]
  by_cases hl : x0.length ≤ 1048576
  · rw [if_neg (by omega), if_pos hl]
  · rw [if_pos (by omega), if_neg hl]
theorem eqNode_self (x : S33) : laws_eqNode.f x.f0 x.f1 x.f2 x.f3 x.f0 x.f1 x.f2 x.f3 = some true := by
  unfold laws_eqNode.f
  simp
theorem eqNodeS_self_n (x0 : List S33) (hb : x0.length ≤ 4611686018427387904) : Ev (fun k => laws_eqNodeS.f k x0 x0) true := by
  have key := downs (P := fun i => Ev (fun k => laws_eqNodeS.l0 k x0 x0 (i : Int)) true) x0.length
    (fun i hi ih => by
      refine Ev.step (fun k => ?_) ih
      rw [laws_eqNodeS.l0, if_pos (by omega), if_pos (by omega), if_pos (by omega), rdN_of hi, eqNode_self, Option.bind_some, if_pos rfl, w64 (by omega) (by omega)]
      rfl)
    (by
      refine Ev.step (f := fun _ => some true) (fun k => ?_) (Ev.now _)
      rw [laws_eqNodeS.l0, if_neg (by omega)])
  refine Ev.congr (fun k => ?_) (key 0 (by omega))
  unfold laws_eqNodeS.f
  rw [if_pos rfl]
  rfl
theorem eqNodeS_self (x0 : List S33) (hb : x0.length ≤ 1048576) : Ev (fun k => laws_eqNodeS.f k x0 x0) true := eqNodeS_self_n x0 (by omega)

/-! spec_l1In -/
theorem l1In_eq (a b c : Int) : spec_l1In.f a b c = some (decide (b ≤ a ∧ a ≤ c)) := by
  unfold spec_l1In.f
  by_cases h : a ≥ b
  · rw [if_pos h]
    congr 1
    simp; omega
  · rw [if_neg h]
    congr 1
    simp; omega

/-! kids -/
def vB (x : Int) : Bool := decide (0 ≤ x ∧ x ≤ 2)
def kidsL (op x y z : Int) : List Int :=
  if op = 6 then [x] else if op = 7 ∨ op = 8 then [x, y] else if op = 9 ∨ op = 10 then [y] else []
def fB (op x y z : Int) : Bool :=
  if op = 1 ∨ op = 2 then vB x && (vB y && decide (z = 0))
  else if op = 3 then vB x && (vB y && vB z)
  else if op = 4 then vB x && (decide (0 ≤ y ∧ y ≤ 255) && decide (z = 0))
  else if op = 5 then vB x && (decide (0 ≤ y ∧ y ≤ 3) && decide (z = 0))
  else if op = 6 then decide (y = 0) && decide (z = 0)
  else if op = 7 ∨ op = 8 then decide (z = 0)
  else if op = 9 ∨ op = 10 then vB x && decide (z = 0)
  else false
def inB (at_ : Int) (j : Int) : Bool := decide (0 ≤ j ∧ j < at_)
def nB (op x y z at_ : Int) : Bool := fB op x y z && (kidsL op x y z).all (inB at_)
theorem opcases (op : Int) : op = 1 ∨ op = 2 ∨ op = 3 ∨ op = 4 ∨ op = 5 ∨ op = 6 ∨ op = 7 ∨ op = 8 ∨ op = 9 ∨ op = 10 ∨ (op ≠ 1 ∧ op ≠ 2 ∧ op ≠ 3 ∧ op ≠ 4 ∧ op ≠ 5 ∧ op ≠ 6 ∧ op ≠ 7 ∧ op ≠ 8 ∧ op ≠ 9 ∧ op ≠ 10) := by omega
theorem beq_dec (a b : Int) : (a == b) = decide (a = b) := Bool.beq_eq_decide_eq a b
theorem ite_bool {c : Bool} {a b : Bool} : (if c = true then some a else some b) = some (if c then a else b) := by cases c <;> rfl
theorem ite_prop {c : Prop} [Decidable c] {a b : Bool} : (if c then some a else some b) = some (if decide c = true then a else b) := by by_cases h : c <;> simp [h]
theorem ite_and {c d : Bool} : (if c = true then d else false) = (c && d) := by cases c <;> rfl
theorem dec_and {p q : Prop} [Decidable p] [Decidable q] : (decide p && decide q) = decide (p ∧ q) := by by_cases hp : p <;> by_cases hq : q <;> simp [hp, hq]
theorem l16Node_eq (k : Nat) (op x y z at_ : Int) : spec_l16Node.f (k + 2) op x y z at_ = some (nB op x y z at_) := by
  rcases opcases op with h | h | h | h | h | h | h | h | h | h | ⟨h1, h2, h3, h4, h5, h6, h7, h8, h9, h10⟩
  all_goals first
    | subst h
      simp only [spec_l16Node.f, spec_l16Node.j0, spec_l16Node.j1, l1In_eq, Option.bind_some, nB, fB, kidsL, vB, inB]
      simp only [Int.reduceEq, if_true, if_false, beq_self_eq_true, ite_bool, ite_prop, Option.bind_some, Option.some.injEq, true_or, or_true, or_self, false_or, Int.reduceBEq, Bool.false_eq_true, ge_iff_le]
      simp only [List.all_nil, List.all_cons, Bool.and_true, ite_and, beq_dec]
      first | rfl | (rw [Bool.eq_iff_iff]; simp only [Bool.and_eq_true, decide_eq_true_eq, inB] <;> omega)
    | simp [spec_l16Node.f, spec_l16Node.j0, spec_l16Node.j1, nB, fB, h1, h2, h3, h4, h5, h6, h7, h8, h9, h10]
theorem l16Kids_eq (k : Nat) (op x y z : Int) : spec_l16Kids.f (k + 1) op x y z = some (kidsL op x y z) := by
  rcases opcases op with h | h | h | h | h | h | h | h | h | h | ⟨h1, h2, h3, h4, h5, h6, h7, h8, h9, h10⟩
  all_goals first
    | subst h
      simp [spec_l16Kids.f, spec_l16Kids.j0, kidsL]
      done
    | simp [spec_l16Kids.f, spec_l16Kids.j0, kidsL, h6, h7, h8, h9, h10]
theorem isVar_eq (x : Int) : impl_isVariable.f x = some (vB x) := by
  unfold impl_isVariable.f vB
  by_cases h : x ≥ 0
  · rw [if_pos h, Option.some.injEq, Bool.eq_iff_iff]; simp only [decide_eq_true_eq]; omega
  · rw [if_neg h, Option.some.injEq, Bool.eq_iff_iff]; simp; omega
theorem isTerm_eq (x : Int) : impl_isTerm.f x = some (decide (0 ≤ x ∧ x ≤ 3)) := by
  unfold impl_isTerm.f
  by_cases h : x ≥ 0
  · rw [if_pos h, Option.some.injEq, Bool.eq_iff_iff]; simp only [decide_eq_true_eq]; omega
  · rw [if_neg h, Option.some.injEq, Bool.eq_iff_iff]; simp; omega
theorem ite_pair {c : Bool} {l : List Int} {a b : Bool} : (if c = true then some (l, a) else some (l, b)) = some (l, if c then a else b) := by cases c <;> rfl
theorem ite_pairp {c : Prop} [Decidable c] {l : List Int} {a b : Bool} : (if c then some (l, a) else some (l, b)) = some (l, if decide c = true then a else b) := by by_cases h : c <;> simp [h]
theorem kids_eq (k : Nat) (op x y z : Int) : impl_Node_kids.f (k + 2) op x y z = some (kidsL op x y z, fB op x y z) := by
  rcases opcases op with h | h | h | h | h | h | h | h | h | h | ⟨h1, h2, h3, h4, h5, h6, h7, h8, h9, h10⟩
  all_goals first
    | subst h
      simp only [impl_Node_kids.f, impl_Node_kids.j0, impl_Node_kids.j1, isVar_eq, isTerm_eq, Option.bind_some, fB, kidsL]
      simp only [Int.reduceEq, if_true, if_false, beq_self_eq_true, ite_pair, ite_pairp, Option.bind_some, Option.some.injEq, true_or, or_true, or_self, false_or, Int.reduceBEq, Bool.false_eq_true, ge_iff_le, Prod.mk.injEq, true_and]
      first | done | (simp only [ite_and, beq_dec]; done) | (simp only [ite_and, beq_dec]; rw [Bool.eq_iff_iff]; simp only [Bool.and_eq_true, decide_eq_true_eq, vB] <;> omega)
    | simp [impl_Node_kids.f, impl_Node_kids.j0, impl_Node_kids.j1, fB, kidsL, h1, h2, h3, h4, h5, h6, h7, h8, h9, h10]

/-! IsFormula -/
def kidsN (x : S33) : List Int := kidsL x.f0 x.f1 x.f2 x.f3
def okN (x : S33) (i : Nat) : Bool := nB x.f0 x.f1 x.f2 x.f3 i
def allK (f : List S33) (i : Nat) : List Int := (f.take i).flatMap kidsN
def isFm (f : List S33) : Prop := 1 ≤ f.length ∧ f.length ≤ 40 ∧ (∀ i (h : i < f.length), okN f[i] i = true) ∧ ∀ v : Nat, v + 1 < f.length → (allK f f.length).count (v : Int) = 1
noncomputable def isF (f : List S33) : Bool := by classical exact decide (isFm f)
theorem isF_true {f : List S33} : isF f = true ↔ isFm f := by
  unfold isF
  classical
  exact decide_eq_true_iff
theorem isF_false {f : List S33} (h : ¬ isFm f) : isF f = false := by
  rw [Bool.eq_false_iff, ne_eq, isF_true]
  exact h
theorem kidsL_len (op x y z : Int) : (kidsL op x y z).length ≤ 2 := by
  unfold kidsL
  split
  · simp
  · split
    · simp
    · split <;> simp
theorem allK_succ {f : List S33} {i : Nat} (h : i < f.length) : allK f (i + 1) = allK f i ++ kidsN f[i] := by
  unfold allK
  rw [List.take_succ_eq_append_getElem h, List.flatMap_append]
  simp
theorem allK_len (f : List S33) (i : Nat) : (allK f i).length ≤ 2 * i := by
  induction i with
  | zero => simp [allK]
  | succ i ih =>
    by_cases h : i < f.length
    · rw [allK_succ h, List.length_append]
      have := kidsL_len f[i].f0 f[i].f1 f[i].f2 f[i].f3
      unfold kidsN
      omega
    · have : allK f (i + 1) = allK f i := by
        unfold allK
        rw [List.take_of_length_le (by omega), List.take_of_length_le (by omega)]
      rw [this]
      omega
theorem allK_count_le {f : List S33} {i : Nat} (v : Int) (hi : i ≤ f.length) : (allK f i).count v ≤ (allK f f.length).count v := by
  have : ∀ d, i + d ≤ f.length → (allK f i).count v ≤ (allK f (i + d)).count v := by
    intro d
    induction d with
    | zero => intro _; exact Nat.le_refl _
    | succ d ih =>
      intro h
      have := ih (by omega)
      rw [show i + (d + 1) = (i + d) + 1 by omega, allK_succ (by omega), List.count_append]
      omega
  have := this (f.length - i) (by omega)
  rwa [show i + (f.length - i) = f.length by omega] at this
theorem kid_in {x : S33} {i : Nat} (h : okN x i = true) : ∀ c ∈ kidsN x, 0 ≤ c ∧ c < i := by
  unfold okN nB at h
  simp only [Bool.and_eq_true, List.all_eq_true] at h
  intro c hc
  have := h.2 c hc
  simpa [inB] using this
theorem okN_f {x : S33} {i : Nat} (h : okN x i = true) : fB x.f0 x.f1 x.f2 x.f3 = true := by
  unfold okN nB at h
  simp only [Bool.and_eq_true] at h
  exact h.1
theorem count_snoc (L : List Int) (c v : Int) : (L ++ [c]).count v = L.count v + (if c = v then 1 else 0) := by
  rw [List.count_append, List.count_cons]
  simp [beq_dec]
theorem take_snoc {α : Type} {l : List α} {k : Nat} (h : k < l.length) : l.take (k + 1) = l.take k ++ [l[k]] := List.take_succ_eq_append_getElem h

theorem specIF_l2 (f : List S33) (uses : List Int) (hn : f.length ≤ 40) (h1 : 1 ≤ f.length) (hl : uses.length = f.length) (b : Bool)
    (hb : b = true ↔ ∀ v : Nat, v + 1 < f.length → uses.getD v 0 = 1) : Ev (fun k => spec_IsFormula.l2 k f uses 0) b := by
  have key := downs (P := fun v => (∀ u, u < v → uses.getD u 0 = 1) → Ev (fun k => spec_IsFormula.l2 k f uses (v : Int)) b) (f.length - 1)
    (fun v hv ih hp => by
      have hr : rd uses (v : Int) = uses[v]'(by omega) := rd_of (by omega)
      have hg : uses.getD v 0 = uses[v]'(by omega) := by simp [List.getD_eq_getElem?_getD, show v < uses.length by omega]
      by_cases h : uses[v]'(by omega) = 1
      · refine Ev.step (fun k => ?_) (ih (fun u hu => by
          by_cases e : u = v
          · subst e; rw [hg]; exact h
          · exact hp u (by omega)))
        rw [spec_IsFormula.l2, w64 (by omega) (by omega), if_pos (by omega), if_pos (by omega), if_pos (by omega), hr, if_pos h, w64 (by omega) (by omega)]
        rfl
      · have : b = false := by
          rw [Bool.eq_false_iff, ne_eq, hb]
          intro h'
          exact h (by rw [← hg]; exact h' v (by omega))
        rw [this]
        refine Ev.step (f := fun _ => some false) (fun k => ?_) (Ev.now _)
        rw [spec_IsFormula.l2, w64 (by omega) (by omega), if_pos (by omega), if_pos (by omega), if_pos (by omega), hr, if_neg h])
    (fun hp => by
      have : b = true := hb.2 (fun v hv => hp v (by omega))
      rw [this]
      refine Ev.step (f := fun _ => some true) (fun k => ?_) (Ev.now _)
      rw [spec_IsFormula.l2, w64 (by omega) (by omega), if_neg (by omega)])
  exact key 0 (by omega) (fun u hu => by omega)

theorem specIF_l1 (f : List S33) (i : Nat) (hi : i < f.length) (hn : f.length ≤ 40) (b : Bool) (ok : okN f[i] i = true)
    (next : ∀ uses : List Int, uses.length = f.length → (∀ v : Nat, v < f.length → uses.getD v 0 = (((allK f (i + 1)).count (v : Int) : Nat) : Int)) → Ev (fun k => spec_IsFormula.l0 k f uses ((i + 1 : Nat) : Int)) b)
    (uses : List Int) (hl : uses.length = f.length) (hu : ∀ v : Nat, v < f.length → uses.getD v 0 = (((allK f i).count (v : Int) : Nat) : Int)) :
    Ev (fun k => spec_IsFormula.l1 k f uses i (kidsN f[i]) 0) b := by
  have kl : (kidsN f[i]).length ≤ 2 := kidsL_len _ _ _ _
  have al := allK_len f i
  have key := downs (P := fun c => ∀ uses : List Int, uses.length = f.length → (∀ v : Nat, v < f.length → uses.getD v 0 = (((allK f i ++ (kidsN f[i]).take c).count (v : Int) : Nat) : Int)) → Ev (fun k => spec_IsFormula.l1 k f uses i (kidsN f[i]) (c : Int)) b) (kidsN f[i]).length
    (fun c hc ih uses hl hu => by
      have hin := kid_in ok ((kidsN f[i])[c]) (List.getElem_mem hc)
      have hr : rd (kidsN f[i]) (c : Int) = (kidsN f[i])[c] := rd_of hc
      obtain ⟨m, hm⟩ : ∃ m : Nat, (kidsN f[i])[c] = (m : Int) := ⟨((kidsN f[i])[c]).toNat, by omega⟩
      have hmn : m < f.length := by omega
      have hcb : (allK f i ++ (kidsN f[i]).take c).count (m : Int) ≤ 100 := by
        refine Nat.le_trans List.count_le_length ?_
        rw [List.length_append, List.length_take]
        omega
      have hum := hu m hmn
      have hrm : rd uses (m : Int) = uses.getD m 0 := by simp [rd]
      refine Ev.step (fun k => ?_) (ih (uses.set m (uses.getD m 0 + 1)) (by simp [hl]) (fun v hv => by
        rw [take_snoc hc, ← List.append_assoc, count_snoc, hm]
        by_cases e : m = v
        · subst e
          simp only [List.getD_eq_getElem?_getD, List.getElem?_set, if_true] at *
          rw [if_pos (by omega)]
          simp only [Option.getD_some]
          rw [hum]
          omega
        · have e' : ¬ ((m : Int) = (v : Int)) := by omega
          have := hu v hv
          simp only [List.getD_eq_getElem?_getD, List.getElem?_set, if_neg e, if_neg e'] at *
          rw [this]
          omega))
      rw [spec_IsFormula.l1, if_pos (by omega), if_pos (by omega), hr, hm, if_pos (by omega), if_pos (by omega), hrm, w64 (by omega) (by omega), w64 (by omega) (by omega)]
      rfl)
    (fun uses hl hu => by
      rw [List.take_length, ← allK_succ hi] at hu
      refine Ev.step (fun k => ?_) (next uses hl hu)
      rw [spec_IsFormula.l1, if_neg (by omega), w64 (by omega) (by omega)]
      rfl)
  refine key 0 (by omega) uses hl ?_
  simpa using hu

theorem specIF_l0 (f : List S33) (hn : f.length ≤ 40) (h1 : 1 ≤ f.length) : ∀ i, i ≤ f.length → (∀ j (h : j < f.length), j < i → okN f[j] j = true) → ∀ uses : List Int, uses.length = f.length → (∀ v : Nat, v < f.length → uses.getD v 0 = (((allK f i).count (v : Int) : Nat) : Int)) → Ev (fun k => spec_IsFormula.l0 k f uses (i : Int)) (isF f) :=
  downs f.length
    (fun i hi ih hok uses hl hu => by
      have hr : rd_T33 f (i : Int) = f[i] := rdN_of hi
      by_cases ok : okN f[i] i = true
      · have h3 := specIF_l1 f i hi hn (isF f) ok (fun uses hl hu => ih (fun j h hj => by
          by_cases e : j = i
          · subst e; exact ok
          · exact hok j h (by omega)) uses hl hu) uses hl hu
        obtain ⟨K, hK⟩ := h3
        refine ⟨K + 3, fun k hk => ?_⟩
        obtain ⟨m, rfl⟩ : ∃ m, k = m + 3 := ⟨k - 3, by omega⟩
        show spec_IsFormula.l0 (m + 2 + 1) f uses (i : Int) = _
        rw [spec_IsFormula.l0, if_pos (by omega), if_pos (by omega), hr, l16Node_eq, Option.bind_some]
        have ok' : nB f[i].f0 f[i].f1 f[i].f2 f[i].f3 (i : Int) = true := ok
        rw [ok', if_pos rfl, l16Kids_eq, Option.bind_some]
        exact hK (m + 2) (by omega)
      · rw [isF_false (fun h => ok (h.2.2.1 i hi))]
        refine ⟨3, fun k hk => ?_⟩
        obtain ⟨m, rfl⟩ : ∃ m, k = m + 3 := ⟨k - 3, by omega⟩
        show spec_IsFormula.l0 (m + 2 + 1) f uses (i : Int) = _
        rw [spec_IsFormula.l0, if_pos (by omega), if_pos (by omega), hr, l16Node_eq, Option.bind_some]
        have ok' : nB f[i].f0 f[i].f1 f[i].f2 f[i].f3 (i : Int) = false := by simpa [okN] using ok
        rw [ok', if_neg (by simp)])
    (fun hok uses hl hu => by
      have h2 := specIF_l2 f uses hn h1 hl (isF f) (by
        rw [isF_true]
        constructor
        · intro h v hv
          rw [hu v (by omega), h.2.2.2 v hv]
          rfl
        · intro h
          refine ⟨h1, hn, fun i hi => hok i hi hi, fun v hv => ?_⟩
          have := h v hv
          rw [hu v (by omega)] at this
          omega)
      refine Ev.step (fun k => ?_) h2
      rw [spec_IsFormula.l0, if_neg (by omega)])
theorem specIF_ev (f : List S33) (hb : f.length ≤ 1048576 + 64) : Ev (fun k => spec_IsFormula.f k f) (isF f) := by
  by_cases h : 1 ≤ f.length ∧ f.length ≤ 40
  · refine Ev.congr (fun k => ?_) (specIF_l0 f h.2 h.1 0 (by omega) (fun j _ hj => by omega) (List.replicate f.length 0) (by simp) (fun v hv => by simp [allK, hv]))
    unfold spec_IsFormula.f
    rw [l1In_eq, decide_eq_true (by omega), Option.bind_some, if_pos rfl, if_pos (by omega), if_pos (by omega)]
    simp
  · rw [isF_false (fun h' => h ⟨h'.1, h'.2.1⟩)]
    refine Ev.congr (fun k => ?_) (Ev.now _)
    unfold spec_IsFormula.f
    rw [l1In_eq, decide_eq_false (by omega), Option.bind_some, if_neg (by simp)]

theorem implIF_l2 (n : Nat) (used : List Bool) (hl : used.length = n) (hn : n ≤ 40) (b : Bool)
    (hb : b = true ↔ ∀ v : Nat, v < n → used.getD v false = true) : Ev (fun k => impl_IsFormula.l2 k used n 0) b := by
  have key := downs (P := fun v => (∀ u, u < v → used.getD u false = true) → Ev (fun k => impl_IsFormula.l2 k used n (v : Int)) b) n
    (fun v hv ih hp => by
      have hr : rdOf false used (v : Int) = used.getD v false := by simp [rdOf]
      by_cases h : used.getD v false = true
      · refine Ev.step (fun k => ?_) (ih (fun u hu => by
          by_cases e : u = v
          · subst e; exact h
          · exact hp u (by omega)))
        rw [impl_IsFormula.l2, if_pos (by omega), if_pos (by omega), if_pos (by omega), hr, if_pos h, w64 (by omega) (by omega)]
        rfl
      · have : b = false := by
          rw [Bool.eq_false_iff, ne_eq, hb]
          exact fun h' => h (h' v hv)
        rw [this]
        refine Ev.step (f := fun _ => some false) (fun k => ?_) (Ev.now _)
        rw [impl_IsFormula.l2, if_pos (by omega), if_pos (by omega), if_pos (by omega), hr, if_neg h])
    (fun hp => by
      have : b = true := hb.2 hp
      rw [this]
      refine Ev.step (f := fun _ => some true) (fun k => ?_) (Ev.now _)
      rw [impl_IsFormula.l2, if_neg (by omega)])
  exact key 0 (by omega) (fun u hu => by omega)

theorem implIF_l1 (f : List S33) (i : Nat) (hi : i < f.length) (hn : f.length ≤ 40) (fok : fB f[i].f0 f[i].f1 f[i].f2 f[i].f3 = true)
    (next : okN f[i] i = true → ∀ used : List Bool, used.length = f.length → (∀ v : Nat, v < f.length → (allK f (i + 1)).count (v : Int) = if used.getD v false then 1 else 0) → Ev (fun k => impl_IsFormula.l0 k f used f f.length ((i + 1 : Nat) : Int)) (isF f))
    (used : List Bool) (hl : used.length = f.length) (hu : ∀ v : Nat, v < f.length → (allK f i).count (v : Int) = if used.getD v false then 1 else 0) :
    Ev (fun k => impl_IsFormula.l1 k f used i f f.length i (kidsN f[i]) (kidsN f[i]).length 0) (isF f) := by
  have kl : (kidsN f[i]).length ≤ 2 := kidsL_len _ _ _ _
  have key := downs (P := fun c => (∀ a (h : a < (kidsN f[i]).length), a < c → inB i (kidsN f[i])[a] = true) → ∀ used : List Bool, used.length = f.length → (∀ v : Nat, v < f.length → (allK f i ++ (kidsN f[i]).take c).count (v : Int) = if used.getD v false then 1 else 0) → Ev (fun k => impl_IsFormula.l1 k f used i f f.length i (kidsN f[i]) (kidsN f[i]).length (c : Int)) (isF f)) (kidsN f[i]).length
    (fun c hc ih hok used hl hu => by
      have hr : rd (kidsN f[i]) (c : Int) = (kidsN f[i])[c] := rd_of hc
      by_cases hin : 0 ≤ (kidsN f[i])[c] ∧ (kidsN f[i])[c] < (i : Int)
      · obtain ⟨m, hm⟩ : ∃ m : Nat, (kidsN f[i])[c] = (m : Int) := ⟨((kidsN f[i])[c]).toNat, by omega⟩
        have hmn : m < f.length := by omega
        have hrm : rdOf false used (m : Int) = used.getD m false := by simp [rdOf]
        by_cases hus : used.getD m false = true
        · have hcm := hu m hmn
          rw [if_pos hus] at hcm
          have : ¬ isFm f := by
            intro h
            have h2 := h.2.2.2 m (by omega)
            have h3 := allK_count_le (f := f) (i := i + 1) (m : Int) (by omega)
            rw [allK_succ hi, show kidsN f[i] = (kidsN f[i]).take c ++ (kidsN f[i]).drop c from (List.take_append_drop _ _).symm, ← List.append_assoc, List.count_append, List.drop_eq_getElem_cons hc, List.count_cons, hm] at h3
            simp only [beq_self_eq_true, if_true] at h3
            omega
          rw [isF_false this]
          refine Ev.step (f := fun _ => some false) (fun k => ?_) (Ev.now _)
          rw [impl_IsFormula.l1, if_pos (by omega), if_pos (by omega), if_pos (by omega), hr, hm, if_neg (by omega), if_neg (by omega), if_pos (by omega), if_pos (by omega), hrm, if_pos hus]
        · refine Ev.step (fun k => ?_) (ih (fun a h ha => by
            by_cases e : a = c
            · subst e
              simp only [inB, decide_eq_true_eq]
              exact hin
            · exact hok a h (by omega)) (used.set m true) (by simp [hl]) (fun v hv => by
            rw [take_snoc hc, ← List.append_assoc, count_snoc, hm, hu v hv]
            by_cases e : m = v
            · subst e
              rw [if_neg hus]
              simp [List.getD_eq_getElem?_getD, List.getElem?_set, show m < used.length by omega]
            · have e' : ¬ ((m : Int) = (v : Int)) := by omega
              simp [List.getD_eq_getElem?_getD, List.getElem?_set, if_neg e, if_neg e']))
          rw [impl_IsFormula.l1, if_pos (by omega), if_pos (by omega), if_pos (by omega), hr, hm, if_neg (by omega), if_neg (by omega), if_pos (by omega), if_pos (by omega), hrm, if_neg hus, w64 (by omega) (by omega)]
          rfl
      · have : ¬ isFm f := by
          intro h
          have := kid_in (h.2.2.1 i hi) ((kidsN f[i])[c]) (List.getElem_mem hc)
          exact hin this
        rw [isF_false this]
        refine Ev.step (f := fun _ => some false) (fun k => ?_) (Ev.now _)
        by_cases hneg : (kidsN f[i])[c] < 0
        · rw [impl_IsFormula.l1, if_pos (by omega), if_pos (by omega), if_pos (by omega), hr, if_pos hneg]
        · rw [impl_IsFormula.l1, if_pos (by omega), if_pos (by omega), if_pos (by omega), hr, if_neg hneg, if_pos (by omega)])
    (fun hok used hl hu => by
      rw [List.take_length, ← allK_succ hi] at hu
      have ok : okN f[i] i = true := by
        unfold okN nB
        rw [fok, Bool.true_and, List.all_eq_true]
        intro c hc
        obtain ⟨a, ha, rfl⟩ := List.getElem_of_mem hc
        exact hok a ha ha
      refine Ev.step (fun k => ?_) (next ok used hl hu)
      rw [impl_IsFormula.l1, if_neg (by omega), w64 (by omega) (by omega)]
      rfl)
  refine key 0 (by omega) (fun a _ ha => by omega) used hl ?_
  simpa using hu

theorem implIF_l0 (f : List S33) (hn : f.length ≤ 40) (h1 : 1 ≤ f.length) : ∀ i, i ≤ f.length → (∀ j (h : j < f.length), j < i → okN f[j] j = true) → ∀ used : List Bool, used.length = f.length → (∀ v : Nat, v < f.length → (allK f i).count (v : Int) = if used.getD v false then 1 else 0) → Ev (fun k => impl_IsFormula.l0 k f used f f.length (i : Int)) (isF f) :=
  downs f.length
    (fun i hi ih hok used hl hu => by
      have hr : rd_T33 f (i : Int) = f[i] := rdN_of hi
      by_cases fok : fB f[i].f0 f[i].f1 f[i].f2 f[i].f3 = true
      · have h3 := implIF_l1 f i hi hn fok (fun ok used hl hu => ih (fun j h hj => by
          by_cases e : j = i
          · subst e; exact ok
          · exact hok j h (by omega)) used hl hu) used hl hu
        obtain ⟨K, hK⟩ := h3
        refine ⟨K + 3, fun k hk => ?_⟩
        obtain ⟨m, rfl⟩ : ∃ m, k = m + 3 := ⟨k - 3, by omega⟩
        show impl_IsFormula.l0 (m + 2 + 1) f used f f.length (i : Int) = _
        rw [impl_IsFormula.l0, if_pos (by omega), if_pos (by omega), if_pos (by omega), hr, kids_eq, Option.bind_some]
        simp only [fok, if_true]
        exact hK (m + 2) (by omega)
      · rw [isF_false (fun h => fok (okN_f (h.2.2.1 i hi)))]
        refine ⟨3, fun k hk => ?_⟩
        obtain ⟨m, rfl⟩ : ∃ m, k = m + 3 := ⟨k - 3, by omega⟩
        show impl_IsFormula.l0 (m + 2 + 1) f used f f.length (i : Int) = _
        rw [impl_IsFormula.l0, if_pos (by omega), if_pos (by omega), if_pos (by omega), hr, kids_eq, Option.bind_some]
        simp [fok])
    (fun hok used hl hu => by
      have h2 := implIF_l2 (f.length - 1) (used.take (f.length - 1)) (by simp [hl]) (by omega) (isF f) (by
        rw [isF_true]
        have tk : ∀ v, v < f.length - 1 → (used.take (f.length - 1)).getD v false = used.getD v false := by
          intro v hv
          simp [List.getD_eq_getElem?_getD, List.getElem?_take_of_lt hv]
        constructor
        · intro h v hv
          have h3 := hu v (by omega)
          rw [h.2.2.2 v (by omega)] at h3
          rw [tk v hv]
          by_cases e : used.getD v false = true
          · exact e
          · rw [if_neg e] at h3; omega
        · intro h
          refine ⟨h1, hn, fun i hi => hok i hi hi, fun v hv => ?_⟩
          have h3 := h v (by omega)
          rw [tk v (by omega)] at h3
          rw [hu v (by omega), if_pos h3])
      refine Ev.step (fun k => ?_) h2
      have e1 : wrap64 ((f.length : Int) - 1) = ((f.length - 1 : Nat) : Int) := by rw [w64 (by omega) (by omega)]; omega
      rw [impl_IsFormula.l0, if_neg (by omega), e1, if_pos (by omega), if_pos (by omega), Option.bind_some, Int.toNat_natCast]
      simp [hl])
theorem implIF_ev (f : List S33) (hb : f.length ≤ 1048576 + 64) : Ev (fun k => impl_IsFormula.f k f) (isF f) := by
  by_cases h : 1 ≤ f.length ∧ f.length ≤ 40
  · refine Ev.congr (g := fun k => impl_IsFormula.f k f) (f := fun k => impl_IsFormula.j0 k f false) (fun k => ?_) (Ev.step (fun k => ?_) (implIF_l0 f h.2 h.1 0 (by omega) (fun j _ hj => by omega) (List.replicate f.length false) (by simp) (fun v hv => by simp [allK, hv])))
    · unfold impl_IsFormula.f
      rw [if_neg (by omega), decide_eq_false (by omega)]
    · rw [impl_IsFormula.j0, if_neg (by simp), if_pos (by omega), if_pos (by omega)]
      simp
  · rw [isF_false (fun h' => h ⟨h'.1, h'.2.1⟩)]
    refine Ev.congr (g := fun k => impl_IsFormula.f k f) (f := fun k => impl_IsFormula.j0 k f true) (fun k => ?_) (Ev.step (f := fun _ => some false) (fun k => ?_) (Ev.now _))
    · unfold impl_IsFormula.f
      by_cases h2 : (f.length : Int) < 1
      · rw [if_pos h2]
      · rw [if_neg h2, decide_eq_true (by omega)]
    · rw [impl_IsFormula.j0, if_pos rfl]
theorem bothIF (f : List S33) (hb : f.length ≤ 1048576) : ∃ r, Ev (fun k => spec_IsFormula.f k f) r ∧ Ev (fun k => impl_IsFormula.f k f) r :=
  ⟨isF f, specIF_ev f (by omega), implIF_ev f (by omega)⟩
theorem isF_len {f : List S33} (h : isF f = true) : 1 ≤ f.length ∧ f.length ≤ 40 := ⟨(isF_true.1 h).1, (isF_true.1 h).2.1⟩

/-! FormatInt -/
theorem ba_append (a b : ByteArray) : a ++ b = ⟨a.data ++ b.data⟩ := by
  apply ByteArray.ext
  simp
theorem ba_size (a b : ByteArray) : (a ++ b).size = a.size + b.size := by simp
theorem ba_assoc (a b c : ByteArray) : (a ++ b) ++ c = a ++ (b ++ c) := by
  apply ByteArray.ext
  simp
theorem dec_len (m : Nat) (h : m < 1000) : (Lib.decDigits m).length ≤ 3 := by
  rw [Lib.decDigits]
  split
  · simp
  · rw [Lib.decDigits]
    split
    · simp
    · rw [Lib.decDigits]
      split
      · simp
      · omega
theorem digit_byte (m : Nat) (h : m < 1000) : strOfNums [(wrap64 (48 + (Int.tmod (m : Int) 10))) % 256] = ⟨#[UInt8.ofNat (48 + m % 10)]⟩ := by
  have e : Int.tmod (m : Int) 10 = ((m % 10 : Nat) : Int) := rfl
  rw [e, w64 (by omega) (by omega)]
  unfold strOfNums
  have e2 : ((48 + ((m % 10 : Nat) : Int)) % 256).toNat = 48 + m % 10 := by omega
  rw [List.map_cons, List.map_nil, e2]
theorem specFmt_l0 (m : Nat) : m < 1000 → 0 < m → ∀ acc : ByteArray, acc.size + m ≤ 2000 → Ev (fun k => spec_FormatInt.l0 k (m : Int) acc false) ((⟨(Lib.decDigits m).toArray⟩ : ByteArray) ++ acc) := by
  induction m using Nat.strongRecOn with
  | _ m ih =>
    intro h1000 hm acc hacc
    have hd := digit_byte m h1000
    have ht : ¬ Int.tmod (m : Int) 10 < 0 := by
      have e : Int.tmod (m : Int) 10 = ((m % 10 : Nat) : Int) := rfl
      rw [e]; omega
    have hq : wrap64 (Int.tdiv (m : Int) 10) = ((m / 10 : Nat) : Int) := by
      have e : Int.tdiv (m : Int) 10 = ((m / 10 : Nat) : Int) := rfl
      rw [e, w64 (by omega) (by omega)]
    have hs1 : (⟨#[UInt8.ofNat (48 + m % 10)]⟩ : ByteArray).size = 1 := rfl
    have step : ∀ k, spec_FormatInt.l0 (k + 1) (m : Int) acc false = spec_FormatInt.l0 k ((m / 10 : Nat) : Int) ((⟨#[UInt8.ofNat (48 + m % 10)]⟩ : ByteArray) ++ acc) false := fun k => by
      rw [spec_FormatInt.l0, if_neg (by omega), if_neg ht, Option.bind_some, hd, if_pos (by omega), hq]
    by_cases h10 : m < 10
    · refine Ev.step step ?_
      have e0 : m / 10 = 0 := by omega
      rw [e0]
      refine Ev.step (f := fun _ => some _) (fun k => ?_) (Ev.now _)
      rw [spec_FormatInt.l0, if_pos (show ((0 : Nat) : Int) = 0 from rfl), if_neg (by decide), Lib.decDigits, dif_pos h10]
      have : m % 10 = m := by omega
      rw [this]
    · have h := ih (m / 10) (by omega) (by omega) (by omega) ((⟨#[UInt8.ofNat (48 + m % 10)]⟩ : ByteArray) ++ acc) (by rw [ba_size, hs1]; omega)
      refine Ev.step step (Ev.eq h ?_)
      rw [Lib.decDigits.eq_def m, dif_neg h10]
      apply ByteArray.ext
      simp
/-- Small numbers are written alike on both sides. -/
theorem fmt_both (a : Int) (h0 : 0 ≤ a) (h1 : a ≤ 255) : ∃ s : ByteArray, s.size ≤ 3 ∧ Ev (fun k => spec_FormatInt.f k a) s ∧ impl_FormatInt.f a = some s := by
  obtain ⟨m, rfl⟩ : ∃ m : Nat, a = m := ⟨a.toNat, by omega⟩
  have hi : impl_FormatInt.f (m : Int) = some ⟨(Lib.decDigits m).toArray⟩ := by
    unfold impl_FormatInt.f
    rw [if_pos (by omega), Lib.itoa, if_neg (by omega), Int.toNat_natCast]
  refine ⟨⟨(Lib.decDigits m).toArray⟩, ?_, ?_, hi⟩
  · have := dec_len m (by omega)
    simpa [ByteArray.size] using this
  · unfold spec_FormatInt.f
    by_cases hm : m = 0
    · subst hm
      refine Ev.congr (fun k => ?_) (Ev.now _)
      rw [if_pos (show ((0 : Nat) : Int) = 0 from rfl), Lib.decDigits]
      rfl
    · refine Ev.congr (fun k => if_neg (by omega)) ?_
      rw [decide_eq_false (show ¬ (m : Int) < 0 by omega)]
      refine Ev.eq (specFmt_l0 m (by omega) (by omega) ⟨#[]⟩ (by simp [ByteArray.size]; omega)) ?_
      apply ByteArray.ext
      simp

/-! Text16 -/
def tB (i : Nat) : Nat := 10 * (2 ^ (i + 1) - 1)
theorem tB_step (i m n : Nat) (hm : m < i) (hn : n < i) : 10 + tB m + tB n ≤ tB i := by
  have h1 : (2 : Nat) ^ (m + 1) ≤ 2 ^ i := Nat.pow_le_pow_right (by omega) (by omega)
  have h2 : (2 : Nat) ^ (n + 1) ≤ 2 ^ i := Nat.pow_le_pow_right (by omega) (by omega)
  have h3 : (2 : Nat) ^ (i + 1) = 2 * 2 ^ i := by rw [Nat.pow_succ]; omega
  have h4 : 1 ≤ (2 : Nat) ^ (m + 1) := Nat.one_le_two_pow
  have h5 : 1 ≤ (2 : Nat) ^ (n + 1) := Nat.one_le_two_pow
  unfold tB
  omega
theorem tB_ten (i : Nat) : 10 ≤ tB i := by
  have h4 : 1 ≤ (2 : Nat) ^ i := Nat.one_le_two_pow
  have h3 : (2 : Nat) ^ (i + 1) = 2 * 2 ^ i := by rw [Nat.pow_succ]; omega
  unfold tB
  omega
theorem tB_le (i : Nat) (hi : i ≤ 40) : tB i ≤ 100000000000000 := by
  have h1 : (2 : Nat) ^ (i + 1) ≤ 2 ^ 41 := Nat.pow_le_pow_right (by omega) (by omega)
  have h2 : (2 : Nat) ^ 41 = 2199023255552 := by decide
  unfold tB
  omega
theorem one_size (b : UInt8) : (⟨#[b]⟩ : ByteArray).size = 1 := rfl
theorem text_both (f : List S33) (hF : isFm f) : ∀ i (hi : i < f.length), ∃ s : ByteArray, s.size ≤ tB i ∧ Ev (fun k => spec_l16Text.f k f (i : Int)) s ∧ Ev (fun k => impl_text.f k f (i : Int)) s := by
  intro i
  induction i using Nat.strongRecOn with
  | _ i ih =>
    intro hi
    have g := hF.2.2.1 i hi
    have h40 := hF.2.1
    have hr : rd_T33 f (i : Int) = f[i] := rdN_of hi
    have t10 := tB_ten i
    have tle := tB_le i (by omega)
    -- the sign of the impl's side
    have impl_in : ∀ (b : UInt8) (r : ByteArray), (⟨#[32, 61, 60, 43, 35, 83, 33, 38, 124, 69, 65]⟩ : ByteArray).extract (f[i].f0).toNat (wrap64 (f[i].f0 + 1)).toNat = ⟨#[b]⟩ → 1 ≤ f[i].f0 → f[i].f0 ≤ 10 →
        Ev (fun k => impl_text.j0 k f ⟨#[b]⟩ f[i].f0 (if f[i].f0 = 1 then f[i].f0 == 1 else if f[i].f0 = 2 then f[i].f0 == 2 else f[i].f0 == 5) f[i].f0 f[i].f1 f[i].f2 f[i].f3) r → Ev (fun k => impl_text.f k f (i : Int)) r := fun b r e l1 l2 h => by
      refine Ev.step (fun k => ?_) h
      rw [impl_text.f, if_pos (by omega), if_pos (by omega), hr, if_pos (by omega), if_pos (by rw [w64 (by omega) (by omega)]; omega), if_pos (by rw [w64 (by omega) (by omega)]; omega), e]
      by_cases q1 : f[i].f0 = 1
      · rw [if_pos q1, if_pos q1]
      · rw [if_neg q1, if_neg q1]
        by_cases q2 : f[i].f0 = 2
        · rw [if_pos q2, if_pos q2]
        · rw [if_neg q2, if_neg q2]
    -- two small numbers behind a sign
    have two : ∀ (b : UInt8), (0 ≤ f[i].f1 ∧ f[i].f1 ≤ 2) → (0 ≤ f[i].f2 ∧ f[i].f2 ≤ 255) → ∃ s1 s2 : ByteArray, s1.size ≤ 3 ∧ s2.size ≤ 3 ∧ impl_FormatInt.f f[i].f1 = some s1 ∧ impl_FormatInt.f f[i].f2 = some s2 ∧ Ev (fun k => spec_FormatInt.f k f[i].f1) s1 ∧ Ev (fun k => spec_FormatInt.f k f[i].f2) s2 := fun b h1 h2 => by
      obtain ⟨s1, z1, e1, i1⟩ := fmt_both f[i].f1 h1.1 (by omega)
      obtain ⟨s2, z2, e2, i2⟩ := fmt_both f[i].f2 h2.1 h2.2
      exact ⟨s1, s2, z1, z2, i1, i2, e1, e2⟩
    rcases opcases f[i].f0 with e | e | e | e | e | e | e | e | e | e | ⟨n1, n2, n3, n4, n5, n6, n7, n8, n9, n10⟩
    · simp only [okN, nB, fB, kidsL, e, vB] at g
      simp at g
      obtain ⟨s1, s2, z1, z2, i1, i2, e1, e2⟩ := two 61 (by omega) (by omega)
      refine ⟨((⟨#[61]⟩ : ByteArray) ++ s1) ++ s2, by rw [ba_size, ba_size, one_size]; omega, ?_, impl_in 61 _ (by rw [e]; first | decide | kernel_rfl) (by omega) (by omega) ?_⟩
      · refine Ev.step (f := fun k => (spec_FormatInt.f k f[i].f1).bind fun t152 => (if 1 + t152.size ≤ 9223372036854775807 then ((spec_FormatInt.f k f[i].f2).bind fun t153 => (if ((⟨#[61]⟩ : ByteArray) ++ t152).size + t153.size ≤ 9223372036854775807 then (some (((⟨#[61]⟩ : ByteArray) ++ t152) ++ t153)) else (none))) else (none))) (fun k => ?_) (Ev.bind e1 ?_)
        · rw [spec_l16Text.f, if_pos (by omega), if_pos (by omega), hr, if_pos e]
        · simp only [if_pos (show 1 + s1.size ≤ 9223372036854775807 by omega)]
          refine Ev.bind e2 ?_
          simp only [if_pos (show ((⟨#[61]⟩ : ByteArray) ++ s1).size + s2.size ≤ 9223372036854775807 by rw [ba_size, one_size]; omega)]
          exact Ev.now _
      · refine Ev.step (f := fun _ => some _) (fun k => ?_) (Ev.now _)
        rw [if_pos e, e, impl_text.j0, if_pos (by decide), i1, Option.bind_some, if_pos (by rw [one_size]; omega), i2, Option.bind_some, if_pos (by rw [ba_size, one_size]; omega)]
    · simp only [okN, nB, fB, kidsL, e, vB] at g
      simp at g
      obtain ⟨s1, s2, z1, z2, i1, i2, e1, e2⟩ := two 60 (by omega) (by omega)
      refine ⟨((⟨#[60]⟩ : ByteArray) ++ s1) ++ s2, by rw [ba_size, ba_size, one_size]; omega, ?_, impl_in 60 _ (by rw [e]; first | decide | kernel_rfl) (by omega) (by omega) ?_⟩
      · refine Ev.step (f := fun k => (spec_FormatInt.f k f[i].f1).bind fun t152 => (if 1 + t152.size ≤ 9223372036854775807 then ((spec_FormatInt.f k f[i].f2).bind fun t153 => (if ((⟨#[60]⟩ : ByteArray) ++ t152).size + t153.size ≤ 9223372036854775807 then (some (((⟨#[60]⟩ : ByteArray) ++ t152) ++ t153)) else (none))) else (none))) (fun k => ?_) (Ev.bind e1 ?_)
        · rw [spec_l16Text.f, if_pos (by omega), if_pos (by omega), hr, if_neg (by omega), if_pos e]
        · simp only [if_pos (show 1 + s1.size ≤ 9223372036854775807 by omega)]
          refine Ev.bind e2 ?_
          simp only [if_pos (show ((⟨#[60]⟩ : ByteArray) ++ s1).size + s2.size ≤ 9223372036854775807 by rw [ba_size, one_size]; omega)]
          exact Ev.now _
      · refine Ev.step (f := fun _ => some _) (fun k => ?_) (Ev.now _)
        rw [if_neg (by omega), if_pos e, e, impl_text.j0, if_pos (by decide), i1, Option.bind_some, if_pos (by rw [one_size]; omega), i2, Option.bind_some, if_pos (by rw [ba_size, one_size]; omega)]
    · simp only [okN, nB, fB, kidsL, e, vB] at g
      simp at g
      obtain ⟨s1, s2, z1, z2, i1, i2, e1, e2⟩ := two 43 (by omega) (by omega)
      obtain ⟨s3, z3, e3, i3⟩ := fmt_both f[i].f3 (by omega) (by omega)
      refine ⟨(((⟨#[43]⟩ : ByteArray) ++ s1) ++ s2) ++ s3, by rw [ba_size, ba_size, ba_size, one_size]; omega, ?_, impl_in 43 _ (by rw [e]; first | decide | kernel_rfl) (by omega) (by omega) ?_⟩
      · refine Ev.step (f := fun k => (spec_FormatInt.f k f[i].f1).bind fun t156 => (if 1 + t156.size ≤ 9223372036854775807 then ((spec_FormatInt.f k f[i].f2).bind fun t157 => (if ((⟨#[43]⟩ : ByteArray) ++ t156).size + t157.size ≤ 9223372036854775807 then ((spec_FormatInt.f k f[i].f3).bind fun t158 => (if (((⟨#[43]⟩ : ByteArray) ++ t156) ++ t157).size + t158.size ≤ 9223372036854775807 then (some ((((⟨#[43]⟩ : ByteArray) ++ t156) ++ t157) ++ t158)) else (none))) else (none))) else (none))) (fun k => ?_) (Ev.bind e1 ?_)
        · rw [spec_l16Text.f, if_pos (by omega), if_pos (by omega), hr, if_neg (by omega), if_neg (by omega), if_pos e]
        · simp only [if_pos (show 1 + s1.size ≤ 9223372036854775807 by omega)]
          refine Ev.bind e2 ?_
          simp only [if_pos (show ((⟨#[43]⟩ : ByteArray) ++ s1).size + s2.size ≤ 9223372036854775807 by rw [ba_size, one_size]; omega)]
          refine Ev.bind e3 ?_
          simp only [if_pos (show (((⟨#[43]⟩ : ByteArray) ++ s1) ++ s2).size + s3.size ≤ 9223372036854775807 by rw [ba_size, ba_size, one_size]; omega)]
          exact Ev.now _
      · refine Ev.step (f := fun _ => some _) (fun k => ?_) (Ev.now _)
        rw [if_neg (by omega), if_neg (by omega), e, impl_text.j0, if_neg (by decide), if_pos rfl, i1, Option.bind_some, if_pos (by rw [one_size]; omega), i2, Option.bind_some, if_pos (by rw [ba_size, one_size]; omega), i3, Option.bind_some, if_pos (by rw [ba_size, ba_size, one_size]; omega)]
    · simp only [okN, nB, fB, kidsL, e, vB] at g
      simp at g
      obtain ⟨s1, s2, z1, z2, i1, i2, e1, e2⟩ := two 35 (by omega) (by omega)
      refine ⟨(((⟨#[35]⟩ : ByteArray) ++ s1) ++ s2) ++ ⟨#[46]⟩, by rw [ba_size, ba_size, ba_size, one_size, one_size]; omega, ?_, impl_in 35 _ (by rw [e]; first | decide | kernel_rfl) (by omega) (by omega) ?_⟩
      · refine Ev.step (f := fun k => (spec_FormatInt.f k f[i].f1).bind fun t159 => (if 1 + t159.size ≤ 9223372036854775807 then ((spec_FormatInt.f k f[i].f2).bind fun t160 => (if ((⟨#[35]⟩ : ByteArray) ++ t159).size + t160.size ≤ 9223372036854775807 then (if (((⟨#[35]⟩ : ByteArray) ++ t159) ++ t160).size + 1 ≤ 9223372036854775807 then (some ((((⟨#[35]⟩ : ByteArray) ++ t159) ++ t160) ++ (⟨#[46]⟩ : ByteArray))) else (none)) else (none))) else (none))) (fun k => ?_) (Ev.bind e1 ?_)
        · rw [spec_l16Text.f, if_pos (by omega), if_pos (by omega), hr, if_neg (by omega), if_neg (by omega), if_neg (by omega), if_pos e]
        · simp only [if_pos (show 1 + s1.size ≤ 9223372036854775807 by omega)]
          refine Ev.bind e2 ?_
          simp only [if_pos (show ((⟨#[35]⟩ : ByteArray) ++ s1).size + s2.size ≤ 9223372036854775807 by rw [ba_size, one_size]; omega), if_pos (show (((⟨#[35]⟩ : ByteArray) ++ s1) ++ s2).size + 1 ≤ 9223372036854775807 by rw [ba_size, ba_size, one_size]; omega)]
          exact Ev.now _
      · refine Ev.step (f := fun _ => some _) (fun k => ?_) (Ev.now _)
        rw [if_neg (by omega), if_neg (by omega), e, impl_text.j0, if_neg (by decide), if_neg (by decide), if_pos rfl, i1, Option.bind_some, if_pos (by rw [one_size]; omega), i2, Option.bind_some, if_pos (by rw [ba_size, one_size]; omega), if_pos (by rw [ba_size, ba_size, one_size]; omega)]
    · simp only [okN, nB, fB, kidsL, e, vB] at g
      simp at g
      obtain ⟨s1, s2, z1, z2, i1, i2, e1, e2⟩ := two 83 (by omega) (by omega)
      refine ⟨((⟨#[83]⟩ : ByteArray) ++ s1) ++ s2, by rw [ba_size, ba_size, one_size]; omega, ?_, impl_in 83 _ (by rw [e]; first | decide | kernel_rfl) (by omega) (by omega) ?_⟩
      · refine Ev.step (f := fun k => (spec_FormatInt.f k f[i].f1).bind fun t152 => (if 1 + t152.size ≤ 9223372036854775807 then ((spec_FormatInt.f k f[i].f2).bind fun t153 => (if ((⟨#[83]⟩ : ByteArray) ++ t152).size + t153.size ≤ 9223372036854775807 then (some (((⟨#[83]⟩ : ByteArray) ++ t152) ++ t153)) else (none))) else (none))) (fun k => ?_) (Ev.bind e1 ?_)
        · rw [spec_l16Text.f, if_pos (by omega), if_pos (by omega), hr, if_neg (by omega), if_neg (by omega), if_neg (by omega), if_neg (by omega), if_pos e]
        · simp only [if_pos (show 1 + s1.size ≤ 9223372036854775807 by omega)]
          refine Ev.bind e2 ?_
          simp only [if_pos (show ((⟨#[83]⟩ : ByteArray) ++ s1).size + s2.size ≤ 9223372036854775807 by rw [ba_size, one_size]; omega)]
          exact Ev.now _
      · refine Ev.step (f := fun _ => some _) (fun k => ?_) (Ev.now _)
        rw [if_neg (by omega), if_neg (by omega), e, impl_text.j0, if_pos (by decide), i1, Option.bind_some, if_pos (by rw [one_size]; omega), i2, Option.bind_some, if_pos (by rw [ba_size, one_size]; omega)]
    · simp only [okN, nB, fB, kidsL, e, vB] at g
      simp [inB] at g
      obtain ⟨m, hm⟩ : ∃ m : Nat, f[i].f1 = m := ⟨f[i].f1.toNat, by omega⟩
      obtain ⟨s, z, es, ei⟩ := ih m (by omega) (by omega)
      have ht := tB_step i m m (by omega) (by omega)
      refine ⟨(⟨#[33]⟩ : ByteArray) ++ s, by rw [ba_size, one_size]; omega, ?_, impl_in 33 _ (by rw [e]; first | decide | kernel_rfl) (by omega) (by omega) ?_⟩
      · refine Ev.step (f := fun k => (spec_l16Text.f k f (m : Int)).bind fun t163 => (if 1 + t163.size ≤ 9223372036854775807 then (some ((⟨#[33]⟩ : ByteArray) ++ t163)) else (none))) (fun k => ?_) (Ev.bind es ?_)
        · rw [spec_l16Text.f, if_pos (by omega), if_pos (by omega), hr, if_neg (by omega), if_neg (by omega), if_neg (by omega), if_neg (by omega), if_neg (by omega), if_pos e, hm]
        · simp only [if_pos (show 1 + s.size ≤ 9223372036854775807 by omega)]
          exact Ev.now _
      · refine Ev.step (f := fun k => (impl_text.f k f (m : Int)).bind fun t254 => (if (⟨#[33]⟩ : ByteArray).size + t254.size ≤ 9223372036854775807 then (some ((⟨#[33]⟩ : ByteArray) ++ t254)) else (none))) (fun k => ?_) (Ev.bind ei ?_)
        · rw [if_neg (by omega), if_neg (by omega), e, impl_text.j0, if_neg (by decide), if_neg (by decide), if_neg (by decide), if_pos rfl, hm]
        · simp only [if_pos (show (⟨#[33]⟩ : ByteArray).size + s.size ≤ 9223372036854775807 by rw [one_size]; omega)]
          exact Ev.now _
    · simp only [okN, nB, fB, kidsL, e, vB] at g
      simp [inB] at g
      obtain ⟨m, hm⟩ : ∃ m : Nat, f[i].f1 = m := ⟨f[i].f1.toNat, by omega⟩
      obtain ⟨m2, hm2⟩ : ∃ m : Nat, f[i].f2 = m := ⟨f[i].f2.toNat, by omega⟩
      obtain ⟨s, z, es, ei⟩ := ih m (by omega) (by omega)
      obtain ⟨s2, z2, es2, ei2⟩ := ih m2 (by omega) (by omega)
      have ht := tB_step i m m2 (by omega) (by omega)
      refine ⟨((⟨#[38]⟩ : ByteArray) ++ s) ++ s2, by rw [ba_size, ba_size, one_size]; omega, ?_, impl_in 38 _ (by rw [e]; first | decide | kernel_rfl) (by omega) (by omega) ?_⟩
      · refine Ev.step (f := fun k => (spec_l16Text.f k f (m : Int)).bind fun t164 => (if 1 + t164.size ≤ 9223372036854775807 then ((spec_l16Text.f k f (m2 : Int)).bind fun t165 => (if ((⟨#[38]⟩ : ByteArray) ++ t164).size + t165.size ≤ 9223372036854775807 then (some (((⟨#[38]⟩ : ByteArray) ++ t164) ++ t165)) else (none))) else (none))) (fun k => ?_) (Ev.bind es ?_)
        · rw [spec_l16Text.f, if_pos (by omega), if_pos (by omega), hr, if_neg (by omega), if_neg (by omega), if_neg (by omega), if_neg (by omega), if_neg (by omega), if_neg (by omega), if_pos e, hm, hm2]
        · simp only [if_pos (show 1 + s.size ≤ 9223372036854775807 by omega)]
          refine Ev.bind es2 ?_
          simp only [if_pos (show ((⟨#[38]⟩ : ByteArray) ++ s).size + s2.size ≤ 9223372036854775807 by rw [ba_size, one_size]; omega)]
          exact Ev.now _
      · refine Ev.step (f := fun k => impl_text.j1 k f ⟨#[38]⟩ true 7 f[i].f1 f[i].f2 f[i].f3) (fun k => ?_) (Ev.step (f := fun k => (impl_text.f k f (m : Int)).bind fun t255 => (if (⟨#[38]⟩ : ByteArray).size + t255.size ≤ 9223372036854775807 then ((impl_text.f k f (m2 : Int)).bind fun t256 => (if ((⟨#[38]⟩ : ByteArray) ++ t255).size + t256.size ≤ 9223372036854775807 then (some (((⟨#[38]⟩ : ByteArray) ++ t255) ++ t256)) else (none))) else (none))) (fun k => ?_) (Ev.bind ei ?_))
        · rw [if_neg (by omega), if_neg (by omega), e, impl_text.j0, if_neg (by decide), if_neg (by decide), if_neg (by decide), if_neg (by decide), if_pos rfl]
          rfl
        · rw [impl_text.j1, if_pos rfl, hm, hm2]
        · simp only [if_pos (show (⟨#[38]⟩ : ByteArray).size + s.size ≤ 9223372036854775807 by rw [one_size]; omega)]
          refine Ev.bind ei2 ?_
          simp only [if_pos (show ((⟨#[38]⟩ : ByteArray) ++ s).size + s2.size ≤ 9223372036854775807 by rw [ba_size, one_size]; omega)]
          exact Ev.now _
    · simp only [okN, nB, fB, kidsL, e, vB] at g
      simp [inB] at g
      obtain ⟨m, hm⟩ : ∃ m : Nat, f[i].f1 = m := ⟨f[i].f1.toNat, by omega⟩
      obtain ⟨m2, hm2⟩ : ∃ m : Nat, f[i].f2 = m := ⟨f[i].f2.toNat, by omega⟩
      obtain ⟨s, z, es, ei⟩ := ih m (by omega) (by omega)
      obtain ⟨s2, z2, es2, ei2⟩ := ih m2 (by omega) (by omega)
      have ht := tB_step i m m2 (by omega) (by omega)
      refine ⟨((⟨#[124]⟩ : ByteArray) ++ s) ++ s2, by rw [ba_size, ba_size, one_size]; omega, ?_, impl_in 124 _ (by rw [e]; first | decide | kernel_rfl) (by omega) (by omega) ?_⟩
      · refine Ev.step (f := fun k => (spec_l16Text.f k f (m : Int)).bind fun t164 => (if 1 + t164.size ≤ 9223372036854775807 then ((spec_l16Text.f k f (m2 : Int)).bind fun t165 => (if ((⟨#[124]⟩ : ByteArray) ++ t164).size + t165.size ≤ 9223372036854775807 then (some (((⟨#[124]⟩ : ByteArray) ++ t164) ++ t165)) else (none))) else (none))) (fun k => ?_) (Ev.bind es ?_)
        · rw [spec_l16Text.f, if_pos (by omega), if_pos (by omega), hr, if_neg (by omega), if_neg (by omega), if_neg (by omega), if_neg (by omega), if_neg (by omega), if_neg (by omega), if_neg (by omega), if_pos e, hm, hm2]
        · simp only [if_pos (show 1 + s.size ≤ 9223372036854775807 by omega)]
          refine Ev.bind es2 ?_
          simp only [if_pos (show ((⟨#[124]⟩ : ByteArray) ++ s).size + s2.size ≤ 9223372036854775807 by rw [ba_size, one_size]; omega)]
          exact Ev.now _
      · refine Ev.step (f := fun k => impl_text.j1 k f ⟨#[124]⟩ true 8 f[i].f1 f[i].f2 f[i].f3) (fun k => ?_) (Ev.step (f := fun k => (impl_text.f k f (m : Int)).bind fun t255 => (if (⟨#[124]⟩ : ByteArray).size + t255.size ≤ 9223372036854775807 then ((impl_text.f k f (m2 : Int)).bind fun t256 => (if ((⟨#[124]⟩ : ByteArray) ++ t255).size + t256.size ≤ 9223372036854775807 then (some (((⟨#[124]⟩ : ByteArray) ++ t255) ++ t256)) else (none))) else (none))) (fun k => ?_) (Ev.bind ei ?_))
        · rw [if_neg (by omega), if_neg (by omega), e, impl_text.j0, if_neg (by decide), if_neg (by decide), if_neg (by decide), if_neg (by decide), if_neg (by decide)]
          rfl
        · rw [impl_text.j1, if_pos rfl, hm, hm2]
        · simp only [if_pos (show (⟨#[124]⟩ : ByteArray).size + s.size ≤ 9223372036854775807 by rw [one_size]; omega)]
          refine Ev.bind ei2 ?_
          simp only [if_pos (show ((⟨#[124]⟩ : ByteArray) ++ s).size + s2.size ≤ 9223372036854775807 by rw [ba_size, one_size]; omega)]
          exact Ev.now _
    · simp only [okN, nB, fB, kidsL, e, vB] at g
      simp [inB] at g
      obtain ⟨m2, hm2⟩ : ∃ m : Nat, f[i].f2 = m := ⟨f[i].f2.toNat, by omega⟩
      obtain ⟨s, z, es, hi1⟩ := fmt_both f[i].f1 (by omega) (by omega)
      obtain ⟨s2, z2, es2, ei2⟩ := ih m2 (by omega) (by omega)
      have ht := tB_step i m2 m2 (by omega) (by omega)
      refine ⟨((⟨#[69]⟩ : ByteArray) ++ s) ++ s2, by rw [ba_size, ba_size, one_size]; omega, ?_, impl_in 69 _ (by rw [e]; first | decide | kernel_rfl) (by omega) (by omega) ?_⟩
      · refine Ev.step (f := fun k => (spec_FormatInt.f k f[i].f1).bind fun t164 => (if 1 + t164.size ≤ 9223372036854775807 then ((spec_l16Text.f k f (m2 : Int)).bind fun t165 => (if ((⟨#[69]⟩ : ByteArray) ++ t164).size + t165.size ≤ 9223372036854775807 then (some (((⟨#[69]⟩ : ByteArray) ++ t164) ++ t165)) else (none))) else (none))) (fun k => ?_) (Ev.bind es ?_)
        · rw [spec_l16Text.f, if_pos (by omega), if_pos (by omega), hr, if_neg (by omega), if_neg (by omega), if_neg (by omega), if_neg (by omega), if_neg (by omega), if_neg (by omega), if_neg (by omega), if_neg (by omega), if_pos e, hm2]
        · simp only [if_pos (show 1 + s.size ≤ 9223372036854775807 by omega)]
          refine Ev.bind es2 ?_
          simp only [if_pos (show ((⟨#[69]⟩ : ByteArray) ++ s).size + s2.size ≤ 9223372036854775807 by rw [ba_size, one_size]; omega)]
          exact Ev.now _
      · refine Ev.step (f := fun k => impl_text.j1 k f ⟨#[69]⟩ false 9 f[i].f1 f[i].f2 f[i].f3) (fun k => ?_) (Ev.step (f := fun k => (impl_text.f k f (m2 : Int)).bind fun t256 => (if ((⟨#[69]⟩ : ByteArray) ++ s).size + t256.size ≤ 9223372036854775807 then (some (((⟨#[69]⟩ : ByteArray) ++ s) ++ t256)) else (none))) (fun k => ?_) (Ev.bind ei2 ?_))
        · rw [if_neg (by omega), if_neg (by omega), e, impl_text.j0, if_neg (by decide), if_neg (by decide), if_neg (by decide), if_neg (by decide), if_neg (by decide)]
          rfl
        · rw [impl_text.j1, if_neg (by decide), hi1, Option.bind_some, if_pos (by rw [one_size]; omega), hm2]
        · simp only [if_pos (show ((⟨#[69]⟩ : ByteArray) ++ s).size + s2.size ≤ 9223372036854775807 by rw [ba_size, one_size]; omega)]
          exact Ev.now _
    · simp only [okN, nB, fB, kidsL, e, vB] at g
      simp [inB] at g
      obtain ⟨m2, hm2⟩ : ∃ m : Nat, f[i].f2 = m := ⟨f[i].f2.toNat, by omega⟩
      obtain ⟨s, z, es, hi1⟩ := fmt_both f[i].f1 (by omega) (by omega)
      obtain ⟨s2, z2, es2, ei2⟩ := ih m2 (by omega) (by omega)
      have ht := tB_step i m2 m2 (by omega) (by omega)
      refine ⟨((⟨#[65]⟩ : ByteArray) ++ s) ++ s2, by rw [ba_size, ba_size, one_size]; omega, ?_, impl_in 65 _ (by rw [e]; first | decide | kernel_rfl) (by omega) (by omega) ?_⟩
      · refine Ev.step (f := fun k => (spec_FormatInt.f k f[i].f1).bind fun t164 => (if 1 + t164.size ≤ 9223372036854775807 then ((spec_l16Text.f k f (m2 : Int)).bind fun t165 => (if ((⟨#[65]⟩ : ByteArray) ++ t164).size + t165.size ≤ 9223372036854775807 then (some (((⟨#[65]⟩ : ByteArray) ++ t164) ++ t165)) else (none))) else (none))) (fun k => ?_) (Ev.bind es ?_)
        · rw [spec_l16Text.f, if_pos (by omega), if_pos (by omega), hr, if_neg (by omega), if_neg (by omega), if_neg (by omega), if_neg (by omega), if_neg (by omega), if_neg (by omega), if_neg (by omega), if_neg (by omega), if_neg (by omega), hm2]
        · simp only [if_pos (show 1 + s.size ≤ 9223372036854775807 by omega)]
          refine Ev.bind es2 ?_
          simp only [if_pos (show ((⟨#[65]⟩ : ByteArray) ++ s).size + s2.size ≤ 9223372036854775807 by rw [ba_size, one_size]; omega)]
          exact Ev.now _
      · refine Ev.step (f := fun k => impl_text.j1 k f ⟨#[65]⟩ false 10 f[i].f1 f[i].f2 f[i].f3) (fun k => ?_) (Ev.step (f := fun k => (impl_text.f k f (m2 : Int)).bind fun t256 => (if ((⟨#[65]⟩ : ByteArray) ++ s).size + t256.size ≤ 9223372036854775807 then (some (((⟨#[65]⟩ : ByteArray) ++ s) ++ t256)) else (none))) (fun k => ?_) (Ev.bind ei2 ?_))
        · rw [if_neg (by omega), if_neg (by omega), e, impl_text.j0, if_neg (by decide), if_neg (by decide), if_neg (by decide), if_neg (by decide), if_neg (by decide)]
          rfl
        · rw [impl_text.j1, if_neg (by decide), hi1, Option.bind_some, if_pos (by rw [one_size]; omega), hm2]
        · simp only [if_pos (show ((⟨#[65]⟩ : ByteArray) ++ s).size + s2.size ≤ 9223372036854775807 by rw [ba_size, one_size]; omega)]
          exact Ev.now _
    · exact absurd g (by simp [okN, nB, fB, n1, n2, n3, n4, n5, n6, n7, n8, n9, n10])
theorem format_both (f : List S33) (hb : f.length ≤ 1048576) : ∃ s : ByteArray, Ev (fun k => spec_FormatFormula.f k f) s ∧ Ev (fun k => impl_FormatFormula.f k f) s := by
  by_cases hf : isF f = true
  · have hF := isF_true.1 hf
    have hl := hF.1
    have hl2 := hF.2.1
    obtain ⟨s, _, hs, hi⟩ := text_both f hF (f.length - 1) (by omega)
    have e1 : wrap64 ((f.length : Int) - 1) = ((f.length - 1 : Nat) : Int) := by rw [w64 (by omega) (by omega)]; omega
    refine ⟨s, ?_, ?_⟩
    · unfold spec_FormatFormula.f
      refine Ev.bind (specIF_ev f (by omega)) ?_
      simp only [hf, if_true, e1]
      exact Ev.bind hs (Ev.now _)
    · unfold impl_FormatFormula.f
      refine Ev.bind (implIF_ev f (by omega)) ?_
      simp only [hf, if_true, e1]
      exact Ev.bind hi (Ev.now _)
  · have hf' : isF f = false := by simpa using hf
    refine ⟨⟨#[]⟩, ?_, ?_⟩
    · unfold spec_FormatFormula.f
      refine Ev.bind (specIF_ev f (by omega)) ?_
      simp only [hf', Bool.false_eq_true, if_false]
      exact Ev.now _
    · unfold impl_FormatFormula.f
      refine Ev.bind (implIF_ev f (by omega)) ?_
      simp only [hf', Bool.false_eq_true, if_false]
      exact Ev.now _

/-! law_FnExactFormatFormula -/
theorem FnExactFormatFormula (l0 : List S35) (w0 : wfl wf_Node l0) : ∃ k, laws_FnExactFormatFormula.f k l0 = some true := by
  refine Ev.rounds ?_
  unfold laws_FnExactFormatFormula.f
  rw [szNodeS_eq l0 w0.1]
  by_cases hb : l0.length ≤ 1048576
  · simp only [if_pos hb, Option.bind_some, if_neg (show ¬ (1048576 - (l0.length : Int) < 0) by omega)]
    have hm : (l0.map toN).length ≤ 1048576 := by simpa using hb
    obtain ⟨v, hs, hi⟩ := format_both (l0.map toN) hm
    refine Ev.bind (toNodeS_ev l0 hb) (Ev.bind hs (Ev.bind (toNodeS_ev l0 hb) (Ev.bind hi ?_)))
    simp only [if_true]
    refine Ev.bind (toNodeS_ev l0 hb) (Ev.bind (eqNodeS_self _ hm) ?_)
    simp only [if_true]
    exact Ev.now _
  · simp only [if_neg hb, Option.bind_some, if_pos (show (-1 : Int) < 0 by omega)]
    exact Ev.now _

end Go.Proofs.YtdckaflfgbbabaaDoor.Pure
