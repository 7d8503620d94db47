/- The pure law FnExactBoundedSolutions: what the printed functions of the program and of the reference compute agrees, for all arguments. -/
import Derived.Test.YtmkeicahnnlalaaQ0
import Derived.Test.YtmkeicahnnlalaaQ1
import Derived.Test.YtmkeicahnnlalaaQ100
import Derived.Test.YtmkeicahnnlalaaQ14
import Derived.Test.YtmkeicahnnlalaaQ15
import Derived.Test.YtmkeicahnnlalaaQ16
import Derived.Test.YtmkeicahnnlalaaQ17
import Derived.Test.YtmkeicahnnlalaaQ18
import Derived.Test.YtmkeicahnnlalaaQ2
import Derived.Test.YtmkeicahnnlalaaQ27
import Derived.Test.YtmkeicahnnlalaaQ28
import Derived.Test.YtmkeicahnnlalaaQ29
import Derived.Test.YtmkeicahnnlalaaQ3
import Derived.Test.YtmkeicahnnlalaaQ32
import Derived.Test.YtmkeicahnnlalaaQ4
import Derived.Test.YtmkeicahnnlalaaQ44
import Derived.Test.YtmkeicahnnlalaaQ5
import Derived.Test.YtmkeicahnnlalaaQ53
import Derived.Test.YtmkeicahnnlalaaQ66
import Derived.Test.YtmkeicahnnlalaaQ67
import Derived.Test.YtmkeicahnnlalaaQ68
import Derived.Test.YtmkeicahnnlalaaQ69
import Derived.Test.YtmkeicahnnlalaaQ70
import Derived.Test.YtmkeicahnnlalaaQ71
import Derived.Test.YtmkeicahnnlalaaQ72
import Derived.Test.YtmkeicahnnlalaaQ73
import Derived.Test.YtmkeicahnnlalaaQ74
import Derived.Test.YtmkeicahnnlalaaQ75
import Derived.Test.YtmkeicahnnlalaaQ76
import Derived.Test.YtmkeicahnnlalaaQ77
import Derived.Test.YtmkeicahnnlalaaQ78
import Derived.Test.YtmkeicahnnlalaaQ79
import Derived.Test.YtmkeicahnnlalaaQ80
import Derived.Test.YtmkeicahnnlalaaQ81
import Derived.Test.YtmkeicahnnlalaaQ82
import Derived.Test.YtmkeicahnnlalaaQ83
import Derived.Test.YtmkeicahnnlalaaQ84
import Derived.Test.YtmkeicahnnlalaaQ85
import Derived.Test.YtmkeicahnnlalaaQ86
import Derived.Test.YtmkeicahnnlalaaQ87
import Derived.Test.YtmkeicahnnlalaaQ88
import Derived.Test.YtmkeicahnnlalaaQ89
import Derived.Test.YtmkeicahnnlalaaQ90
import Derived.Test.YtmkeicahnnlalaaQ91
import Derived.Test.YtmkeicahnnlalaaQ92
import Derived.Test.YtmkeicahnnlalaaQ93
import Derived.Test.YtmkeicahnnlalaaQ94
import Derived.Test.YtmkeicahnnlalaaQ95
import Derived.Test.YtmkeicahnnlalaaQ96
import Derived.Test.YtmkeicahnnlalaaQ97
import Derived.Test.YtmkeicahnnlalaaQ98
import Derived.Test.YtmkeicahnnlalaaQ99
import Derived.Test.YtmkeicahnnlalaaMRow
namespace Go.Proofs.Ytmkeicahnnlalaa.Pure
open Go.RowKit Go.Proofs.Ytmkeicahnnlalaa.Q Go.Proofs.Ytmkeicahnnlalaa.MRow Go.Proofs.YtmkeicahnnlalaaW.PrintWords Go.Proofs.YtmkeicahnnlalaaW.PrintLast
set_option linter.unusedVariables false
set_option linter.unusedSimpArgs false

/-! base -/
theorem w64 {x : Int} (h0 : -9223372036854775808 ≤ x) (h1 : x < 9223372036854775808) : wrap64 x = x := by
  unfold wrap64; omega

theorem rd_of {xs : List Int} {i : Nat} (h : i < xs.length) : rd xs (i : Int) = xs[i] := by
  simp [rd, List.getD_eq_getElem?_getD, h]
theorem getD_of {α : Type} {xs : List α} {d : α} {i : Nat} (h : i < xs.length) : xs.getD ((i : Int)).toNat d = xs[i] := by
  simp [List.getD_eq_getElem?_getD, h]
/-- From the end of a range down. -/
theorem downs {P : Nat → Prop} (n : Nat) (step : ∀ i, i < n → P (i + 1) → P i) (done : P n) : ∀ i, i ≤ n → P i := by
  have key : ∀ d i, i + d = n → P i := by
    intro d
    induction d with
    | zero => intro i hi; rw [show i = n by omega]; exact done
    | succ d ih => intro i hi; exact step i (by omega) (ih (i + 1) (by omega))
  intro i hi
  exact key (n - i) i (by omega)
theorem drop_at {α : Type} {l : List α} {i : Nat} (h : i < l.length) : l.drop i = l[i] :: l.drop (i + 1) := List.drop_eq_getElem_cons h
theorem Ev.eq {α : Type} {g : Nat → Option α} {r r' : α} (h : Ev g r) (e : r = r') : Ev g r' := e ▸ h
/-- A list that is filled from its begin. -/
theorem fill_set {α : Type} (xs : List α) (z y : α) (i d : Nat) (h : i < xs.length) (hd : i + (d + 1) = xs.length) (hy : y = xs[i]) :
    (xs.take i ++ List.replicate (d + 1) z).set i y = xs.take (i + 1) ++ List.replicate d z := by
  subst hy
  rw [List.set_append_right _ _ (by simp; omega)]
  have hl : (xs.take i).length = i := by simp; omega
  rw [hl, Nat.sub_self, List.replicate_succ, List.set_cons_zero, List.take_succ_eq_append_getElem h, List.append_assoc]
  rfl

/-! nodes -/
def toN (x : S73) : S71 := ⟨x.f0, x.f1, x.f2, x.f3⟩
theorem rdN_of {xs : List S71} {i : Nat} (h : i < xs.length) : rd_T71 xs (i : Int) = xs[i] := by
  unfold rd_T71
  exact getD_of h
theorem rdLN_of {xs : List S73} {i : Nat} (h : i < xs.length) : rd_T73 xs (i : Int) = xs[i] := by
  unfold rd_T73
  exact getD_of h
theorem toNodeS_ev (x0 : List S73) (hb : x0.length ≤ 1048576) : Ev (fun k => laws_toNodeS.f k x0) (x0.map toN) := by
  have key := downs (P := fun i => Ev (fun k => laws_toNodeS.l0 k x0 ((x0.map toN).take i ++ List.replicate (x0.length - i) z71) (i : Int)) (x0.map toN)) x0.length
    (fun i hi ih => by
      refine Ev.step (fun k => ?_) ih
      rw [laws_toNodeS.l0, if_pos (by omega), if_pos (by omega), rdLN_of hi, laws_toNode.f, Option.bind_some, if_pos (by simp; omega), w64 (by omega) (by omega), Int.toNat_natCast]
      rw [show x0.length - i = (x0.length - (i + 1)) + 1 by omega, fill_set (x0.map toN) _ _ i _ (by simpa using hi) (by simp; omega) (by simp [toN])]
      rfl)
    (by
      refine Ev.step (f := fun _ => some (x0.map toN)) (fun k => ?_) (Ev.now _)
      rw [laws_toNodeS.l0, if_neg (by omega)]
      simp [List.take_of_length_le])
  have h := key 0 (by omega)
  refine Ev.congr (fun k => ?_) h
  unfold laws_toNodeS.f
  rw [if_pos (by omega), if_pos (by omega)]
  simp
theorem eqNode_self (x : S71) : laws_eqNode.f x.f0 x.f1 x.f2 x.f3 x.f0 x.f1 x.f2 x.f3 = some true := by
  unfold laws_eqNode.f
  simp
theorem eqNodeS_self_n (x0 : List S71) (hb : x0.length ≤ 4611686018427387904) : Ev (fun k => laws_eqNodeS.f k x0 x0) true := by
  have key := downs (P := fun i => Ev (fun k => laws_eqNodeS.l0 k x0 x0 (i : Int)) true) x0.length
    (fun i hi ih => by
      refine Ev.step (fun k => ?_) ih
      rw [laws_eqNodeS.l0, if_pos (by omega), if_pos (by omega), if_pos (by omega), rdN_of hi, eqNode_self, Option.bind_some, if_pos rfl, w64 (by omega) (by omega)]
      rfl)
    (by
      refine Ev.step (f := fun _ => some true) (fun k => ?_) (Ev.now _)
      rw [laws_eqNodeS.l0, if_neg (by omega)])
  refine Ev.congr (fun k => ?_) (key 0 (by omega))
  unfold laws_eqNodeS.f
  rw [if_pos rfl]
  rfl
theorem eqNodeS_self (x0 : List S71) (hb : x0.length ≤ 1048576) : Ev (fun k => laws_eqNodeS.f k x0 x0) true := eqNodeS_self_n x0 (by omega)

/-! spec_l1In -/
theorem l1In_eq (a b c : Int) : spec_l1In.f a b c = some (decide (b ≤ a ∧ a ≤ c)) := by
  unfold spec_l1In.f
  by_cases h : a ≥ b
  · rw [if_pos h]
    congr 1
    simp; omega
  · rw [if_neg h]
    congr 1
    simp; omega

/-! kids -/
def vB (x : Int) : Bool := decide (0 ≤ x ∧ x ≤ 2)
def kidsL (op x y z : Int) : List Int :=
  if op = 6 then [x] else if op = 7 ∨ op = 8 then [x, y] else if op = 9 ∨ op = 10 then [y] else []
def fB (op x y z : Int) : Bool :=
  if op = 1 ∨ op = 2 then vB x && (vB y && decide (z = 0))
  else if op = 3 then vB x && (vB y && vB z)
  else if op = 4 then vB x && (decide (0 ≤ y ∧ y ≤ 255) && decide (z = 0))
  else if op = 5 then vB x && (decide (0 ≤ y ∧ y ≤ 3) && decide (z = 0))
  else if op = 6 then decide (y = 0) && decide (z = 0)
  else if op = 7 ∨ op = 8 then decide (z = 0)
  else if op = 9 ∨ op = 10 then vB x && decide (z = 0)
  else false
def inB (at_ : Int) (j : Int) : Bool := decide (0 ≤ j ∧ j < at_)
def nB (op x y z at_ : Int) : Bool := fB op x y z && (kidsL op x y z).all (inB at_)
theorem opcases (op : Int) : op = 1 ∨ op = 2 ∨ op = 3 ∨ op = 4 ∨ op = 5 ∨ op = 6 ∨ op = 7 ∨ op = 8 ∨ op = 9 ∨ op = 10 ∨ (op ≠ 1 ∧ op ≠ 2 ∧ op ≠ 3 ∧ op ≠ 4 ∧ op ≠ 5 ∧ op ≠ 6 ∧ op ≠ 7 ∧ op ≠ 8 ∧ op ≠ 9 ∧ op ≠ 10) := by omega
theorem beq_dec (a b : Int) : (a == b) = decide (a = b) := Bool.beq_eq_decide_eq a b
theorem ite_bool {c : Bool} {a b : Bool} : (if c = true then some a else some b) = some (if c then a else b) := by cases c <;> rfl
theorem ite_prop {c : Prop} [Decidable c] {a b : Bool} : (if c then some a else some b) = some (if decide c = true then a else b) := by by_cases h : c <;> simp [h]
theorem ite_and {c d : Bool} : (if c = true then d else false) = (c && d) := by cases c <;> rfl
theorem l16Node_eq (k : Nat) (op x y z at_ : Int) : spec_l16Node.f (k + 2) op x y z at_ = some (nB op x y z at_) := by
  rcases opcases op with h | h | h | h | h | h | h | h | h | h | ⟨h1, h2, h3, h4, h5, h6, h7, h8, h9, h10⟩
  all_goals first
    | subst h
      simp only [spec_l16Node.f, spec_l16Node.j0, spec_l16Node.j1, l1In_eq, Option.bind_some, nB, fB, kidsL, vB, inB]
      simp only [Int.reduceEq, if_true, if_false, beq_self_eq_true, ite_bool, ite_prop, Option.bind_some, Option.some.injEq, true_or, or_true, or_self, false_or, Int.reduceBEq, Bool.false_eq_true, ge_iff_le]
      simp only [List.all_nil, List.all_cons, Bool.and_true, ite_and, beq_dec]
      first | rfl | (rw [Bool.eq_iff_iff]; simp only [Bool.and_eq_true, decide_eq_true_eq, inB] <;> omega)
    | simp [spec_l16Node.f, spec_l16Node.j0, spec_l16Node.j1, nB, fB, h1, h2, h3, h4, h5, h6, h7, h8, h9, h10]
theorem l16Kids_eq (k : Nat) (op x y z : Int) : spec_l16Kids.f (k + 1) op x y z = some (kidsL op x y z) := by
  rcases opcases op with h | h | h | h | h | h | h | h | h | h | ⟨h1, h2, h3, h4, h5, h6, h7, h8, h9, h10⟩
  all_goals first
    | subst h
      simp [spec_l16Kids.f, spec_l16Kids.j0, kidsL]
      done
    | simp [spec_l16Kids.f, spec_l16Kids.j0, kidsL, h6, h7, h8, h9, h10]
theorem isVar_eq (x : Int) : impl_isVariable.f x = some (vB x) := by
  unfold impl_isVariable.f vB
  by_cases h : x ≥ 0
  · rw [if_pos h, Option.some.injEq, Bool.eq_iff_iff]; simp only [decide_eq_true_eq]; omega
  · rw [if_neg h, Option.some.injEq, Bool.eq_iff_iff]; simp; omega
theorem isTerm_eq (x : Int) : impl_isTerm.f x = some (decide (0 ≤ x ∧ x ≤ 3)) := by
  unfold impl_isTerm.f
  by_cases h : x ≥ 0
  · rw [if_pos h, Option.some.injEq, Bool.eq_iff_iff]; simp only [decide_eq_true_eq]; omega
  · rw [if_neg h, Option.some.injEq, Bool.eq_iff_iff]; simp; omega
theorem ite_pair {c : Bool} {l : List Int} {a b : Bool} : (if c = true then some (l, a) else some (l, b)) = some (l, if c then a else b) := by cases c <;> rfl
theorem ite_pairp {c : Prop} [Decidable c] {l : List Int} {a b : Bool} : (if c then some (l, a) else some (l, b)) = some (l, if decide c = true then a else b) := by by_cases h : c <;> simp [h]
theorem kids_eq (k : Nat) (op x y z : Int) : impl_Node_kids.f (k + 2) op x y z = some (kidsL op x y z, fB op x y z) := by
  rcases opcases op with h | h | h | h | h | h | h | h | h | h | ⟨h1, h2, h3, h4, h5, h6, h7, h8, h9, h10⟩
  all_goals first
    | subst h
      simp only [impl_Node_kids.f, impl_Node_kids.j0, impl_Node_kids.j1, isVar_eq, isTerm_eq, Option.bind_some, fB, kidsL]
      simp only [Int.reduceEq, if_true, if_false, beq_self_eq_true, ite_pair, ite_pairp, Option.bind_some, Option.some.injEq, true_or, or_true, or_self, false_or, Int.reduceBEq, Bool.false_eq_true, ge_iff_le, Prod.mk.injEq, true_and]
      first | done | (simp only [ite_and, beq_dec]; done) | (simp only [ite_and, beq_dec]; rw [Bool.eq_iff_iff]; simp only [Bool.and_eq_true, decide_eq_true_eq, vB] <;> omega)
    | simp [impl_Node_kids.f, impl_Node_kids.j0, impl_Node_kids.j1, fB, kidsL, h1, h2, h3, h4, h5, h6, h7, h8, h9, h10]

/-! IsFormula -/
def kidsN (x : S71) : List Int := kidsL x.f0 x.f1 x.f2 x.f3
def okN (x : S71) (i : Nat) : Bool := nB x.f0 x.f1 x.f2 x.f3 i
def allK (f : List S71) (i : Nat) : List Int := (f.take i).flatMap kidsN
def isFm (f : List S71) : Prop := 1 ≤ f.length ∧ f.length ≤ 40 ∧ (∀ i (h : i < f.length), okN f[i] i = true) ∧ ∀ v : Nat, v + 1 < f.length → (allK f f.length).count (v : Int) = 1
noncomputable def isF (f : List S71) : Bool := by classical exact decide (isFm f)
theorem isF_true {f : List S71} : isF f = true ↔ isFm f := by
  unfold isF
  classical
  exact decide_eq_true_iff
theorem isF_false {f : List S71} (h : ¬ isFm f) : isF f = false := by
  rw [Bool.eq_false_iff, ne_eq, isF_true]
  exact h
theorem kidsL_len (op x y z : Int) : (kidsL op x y z).length ≤ 2 := by
  unfold kidsL
  split
  · simp
  · split
    · simp
    · split <;> simp
theorem allK_succ {f : List S71} {i : Nat} (h : i < f.length) : allK f (i + 1) = allK f i ++ kidsN f[i] := by
  unfold allK
  rw [List.take_succ_eq_append_getElem h, List.flatMap_append]
  simp
theorem allK_len (f : List S71) (i : Nat) : (allK f i).length ≤ 2 * i := by
  induction i with
  | zero => simp [allK]
  | succ i ih =>
    by_cases h : i < f.length
    · rw [allK_succ h, List.length_append]
      have := kidsL_len f[i].f0 f[i].f1 f[i].f2 f[i].f3
      unfold kidsN
      omega
    · have : allK f (i + 1) = allK f i := by
        unfold allK
        rw [List.take_of_length_le (by omega), List.take_of_length_le (by omega)]
      rw [this]
      omega
theorem allK_count_le {f : List S71} {i : Nat} (v : Int) (hi : i ≤ f.length) : (allK f i).count v ≤ (allK f f.length).count v := by
  have : ∀ d, i + d ≤ f.length → (allK f i).count v ≤ (allK f (i + d)).count v := by
    intro d
    induction d with
    | zero => intro _; exact Nat.le_refl _
    | succ d ih =>
      intro h
      have := ih (by omega)
      rw [show i + (d + 1) = (i + d) + 1 by omega, allK_succ (by omega), List.count_append]
      omega
  have := this (f.length - i) (by omega)
  rwa [show i + (f.length - i) = f.length by omega] at this
theorem kid_in {x : S71} {i : Nat} (h : okN x i = true) : ∀ c ∈ kidsN x, 0 ≤ c ∧ c < i := by
  unfold okN nB at h
  simp only [Bool.and_eq_true, List.all_eq_true] at h
  intro c hc
  have := h.2 c hc
  simpa [inB] using this
theorem okN_f {x : S71} {i : Nat} (h : okN x i = true) : fB x.f0 x.f1 x.f2 x.f3 = true := by
  unfold okN nB at h
  simp only [Bool.and_eq_true] at h
  exact h.1
theorem count_snoc (L : List Int) (c v : Int) : (L ++ [c]).count v = L.count v + (if c = v then 1 else 0) := by
  rw [List.count_append, List.count_cons]
  simp [beq_dec]
theorem take_snoc {α : Type} {l : List α} {k : Nat} (h : k < l.length) : l.take (k + 1) = l.take k ++ [l[k]] := List.take_succ_eq_append_getElem h

theorem specIF_l2 (f : List S71) (uses : List Int) (hn : f.length ≤ 40) (h1 : 1 ≤ f.length) (hl : uses.length = f.length) (b : Bool)
    (hb : b = true ↔ ∀ v : Nat, v + 1 < f.length → uses.getD v 0 = 1) : Ev (fun k => spec_IsFormula.l2 k f uses 0) b := by
  have key := downs (P := fun v => (∀ u, u < v → uses.getD u 0 = 1) → Ev (fun k => spec_IsFormula.l2 k f uses (v : Int)) b) (f.length - 1)
    (fun v hv ih hp => by
      have hr : rd uses (v : Int) = uses[v]'(by omega) := rd_of (by omega)
      have hg : uses.getD v 0 = uses[v]'(by omega) := by simp [List.getD_eq_getElem?_getD, show v < uses.length by omega]
      by_cases h : uses[v]'(by omega) = 1
      · refine Ev.step (fun k => ?_) (ih (fun u hu => by
          by_cases e : u = v
          · subst e; rw [hg]; exact h
          · exact hp u (by omega)))
        rw [spec_IsFormula.l2, w64 (by omega) (by omega), if_pos (by omega), if_pos (by omega), if_pos (by omega), hr, if_pos h, w64 (by omega) (by omega)]
        rfl
      · have : b = false := by
          rw [Bool.eq_false_iff, ne_eq, hb]
          intro h'
          exact h (by rw [← hg]; exact h' v (by omega))
        rw [this]
        refine Ev.step (f := fun _ => some false) (fun k => ?_) (Ev.now _)
        rw [spec_IsFormula.l2, w64 (by omega) (by omega), if_pos (by omega), if_pos (by omega), if_pos (by omega), hr, if_neg h])
    (fun hp => by
      have : b = true := hb.2 (fun v hv => hp v (by omega))
      rw [this]
      refine Ev.step (f := fun _ => some true) (fun k => ?_) (Ev.now _)
      rw [spec_IsFormula.l2, w64 (by omega) (by omega), if_neg (by omega)])
  exact key 0 (by omega) (fun u hu => by omega)

theorem specIF_l1 (f : List S71) (i : Nat) (hi : i < f.length) (hn : f.length ≤ 40) (b : Bool) (ok : okN f[i] i = true)
    (next : ∀ uses : List Int, uses.length = f.length → (∀ v : Nat, v < f.length → uses.getD v 0 = (((allK f (i + 1)).count (v : Int) : Nat) : Int)) → Ev (fun k => spec_IsFormula.l0 k f uses ((i + 1 : Nat) : Int)) b)
    (uses : List Int) (hl : uses.length = f.length) (hu : ∀ v : Nat, v < f.length → uses.getD v 0 = (((allK f i).count (v : Int) : Nat) : Int)) :
    Ev (fun k => spec_IsFormula.l1 k f uses i (kidsN f[i]) 0) b := by
  have kl : (kidsN f[i]).length ≤ 2 := kidsL_len _ _ _ _
  have al := allK_len f i
  have key := downs (P := fun c => ∀ uses : List Int, uses.length = f.length → (∀ v : Nat, v < f.length → uses.getD v 0 = (((allK f i ++ (kidsN f[i]).take c).count (v : Int) : Nat) : Int)) → Ev (fun k => spec_IsFormula.l1 k f uses i (kidsN f[i]) (c : Int)) b) (kidsN f[i]).length
    (fun c hc ih uses hl hu => by
      have hin := kid_in ok ((kidsN f[i])[c]) (List.getElem_mem hc)
      have hr : rd (kidsN f[i]) (c : Int) = (kidsN f[i])[c] := rd_of hc
      obtain ⟨m, hm⟩ : ∃ m : Nat, (kidsN f[i])[c] = (m : Int) := ⟨((kidsN f[i])[c]).toNat, by omega⟩
      have hmn : m < f.length := by omega
      have hcb : (allK f i ++ (kidsN f[i]).take c).count (m : Int) ≤ 100 := by
        refine Nat.le_trans List.count_le_length ?_
        rw [List.length_append, List.length_take]
        omega
      have hum := hu m hmn
      have hrm : rd uses (m : Int) = uses.getD m 0 := by simp [rd]
      refine Ev.step (fun k => ?_) (ih (uses.set m (uses.getD m 0 + 1)) (by simp [hl]) (fun v hv => by
        rw [take_snoc hc, ← List.append_assoc, count_snoc, hm]
        by_cases e : m = v
        · subst e
          simp only [List.getD_eq_getElem?_getD, List.getElem?_set, if_true] at *
          rw [if_pos (by omega)]
          simp only [Option.getD_some]
          rw [hum]
          omega
        · have e' : ¬ ((m : Int) = (v : Int)) := by omega
          have := hu v hv
          simp only [List.getD_eq_getElem?_getD, List.getElem?_set, if_neg e, if_neg e'] at *
          rw [this]
          omega))
      rw [spec_IsFormula.l1, if_pos (by omega), if_pos (by omega), hr, hm, if_pos (by omega), if_pos (by omega), hrm, w64 (by omega) (by omega), w64 (by omega) (by omega)]
      rfl)
    (fun uses hl hu => by
      rw [List.take_length, ← allK_succ hi] at hu
      refine Ev.step (fun k => ?_) (next uses hl hu)
      rw [spec_IsFormula.l1, if_neg (by omega), w64 (by omega) (by omega)]
      rfl)
  refine key 0 (by omega) uses hl ?_
  simpa using hu

theorem specIF_l0 (f : List S71) (hn : f.length ≤ 40) (h1 : 1 ≤ f.length) : ∀ i, i ≤ f.length → (∀ j (h : j < f.length), j < i → okN f[j] j = true) → ∀ uses : List Int, uses.length = f.length → (∀ v : Nat, v < f.length → uses.getD v 0 = (((allK f i).count (v : Int) : Nat) : Int)) → Ev (fun k => spec_IsFormula.l0 k f uses (i : Int)) (isF f) :=
  downs f.length
    (fun i hi ih hok uses hl hu => by
      have hr : rd_T71 f (i : Int) = f[i] := rdN_of hi
      by_cases ok : okN f[i] i = true
      · have h3 := specIF_l1 f i hi hn (isF f) ok (fun uses hl hu => ih (fun j h hj => by
          by_cases e : j = i
          · subst e; exact ok
          · exact hok j h (by omega)) uses hl hu) uses hl hu
        obtain ⟨K, hK⟩ := h3
        refine ⟨K + 3, fun k hk => ?_⟩
        obtain ⟨m, rfl⟩ : ∃ m, k = m + 3 := ⟨k - 3, by omega⟩
        show spec_IsFormula.l0 (m + 2 + 1) f uses (i : Int) = _
        rw [spec_IsFormula.l0, if_pos (by omega), if_pos (by omega), hr, l16Node_eq, Option.bind_some]
        have ok' : nB f[i].f0 f[i].f1 f[i].f2 f[i].f3 (i : Int) = true := ok
        rw [ok', if_pos rfl, l16Kids_eq, Option.bind_some]
        exact hK (m + 2) (by omega)
      · rw [isF_false (fun h => ok (h.2.2.1 i hi))]
        refine ⟨3, fun k hk => ?_⟩
        obtain ⟨m, rfl⟩ : ∃ m, k = m + 3 := ⟨k - 3, by omega⟩
        show spec_IsFormula.l0 (m + 2 + 1) f uses (i : Int) = _
        rw [spec_IsFormula.l0, if_pos (by omega), if_pos (by omega), hr, l16Node_eq, Option.bind_some]
        have ok' : nB f[i].f0 f[i].f1 f[i].f2 f[i].f3 (i : Int) = false := by simpa [okN] using ok
        rw [ok', if_neg (by simp)])
    (fun hok uses hl hu => by
      have h2 := specIF_l2 f uses hn h1 hl (isF f) (by
        rw [isF_true]
        constructor
        · intro h v hv
          rw [hu v (by omega), h.2.2.2 v hv]
          rfl
        · intro h
          refine ⟨h1, hn, fun i hi => hok i hi hi, fun v hv => ?_⟩
          have := h v hv
          rw [hu v (by omega)] at this
          omega)
      refine Ev.step (fun k => ?_) h2
      rw [spec_IsFormula.l0, if_neg (by omega)])
theorem specIF_ev (f : List S71) (hb : f.length ≤ 1048576 + 64) : Ev (fun k => spec_IsFormula.f k f) (isF f) := by
  by_cases h : 1 ≤ f.length ∧ f.length ≤ 40
  · refine Ev.congr (fun k => ?_) (specIF_l0 f h.2 h.1 0 (by omega) (fun j _ hj => by omega) (List.replicate f.length 0) (by simp) (fun v hv => by simp [allK, hv]))
    unfold spec_IsFormula.f
    rw [l1In_eq, decide_eq_true (by omega), Option.bind_some, if_pos rfl, if_pos (by omega), if_pos (by omega)]
    simp
  · rw [isF_false (fun h' => h ⟨h'.1, h'.2.1⟩)]
    refine Ev.congr (fun k => ?_) (Ev.now _)
    unfold spec_IsFormula.f
    rw [l1In_eq, decide_eq_false (by omega), Option.bind_some, if_neg (by simp)]

theorem implIF_l2 (n : Nat) (used : List Bool) (hl : used.length = n) (hn : n ≤ 40) (b : Bool)
    (hb : b = true ↔ ∀ v : Nat, v < n → used.getD v false = true) : Ev (fun k => impl_IsFormula.l2 k used n 0) b := by
  have key := downs (P := fun v => (∀ u, u < v → used.getD u false = true) → Ev (fun k => impl_IsFormula.l2 k used n (v : Int)) b) n
    (fun v hv ih hp => by
      have hr : rdOf false used (v : Int) = used.getD v false := by simp [rdOf]
      by_cases h : used.getD v false = true
      · refine Ev.step (fun k => ?_) (ih (fun u hu => by
          by_cases e : u = v
          · subst e; exact h
          · exact hp u (by omega)))
        rw [impl_IsFormula.l2, if_pos (by omega), if_pos (by omega), if_pos (by omega), hr, if_pos h, w64 (by omega) (by omega)]
        rfl
      · have : b = false := by
          rw [Bool.eq_false_iff, ne_eq, hb]
          exact fun h' => h (h' v hv)
        rw [this]
        refine Ev.step (f := fun _ => some false) (fun k => ?_) (Ev.now _)
        rw [impl_IsFormula.l2, if_pos (by omega), if_pos (by omega), if_pos (by omega), hr, if_neg h])
    (fun hp => by
      have : b = true := hb.2 hp
      rw [this]
      refine Ev.step (f := fun _ => some true) (fun k => ?_) (Ev.now _)
      rw [impl_IsFormula.l2, if_neg (by omega)])
  exact key 0 (by omega) (fun u hu => by omega)

theorem implIF_l1 (f : List S71) (i : Nat) (hi : i < f.length) (hn : f.length ≤ 40) (fok : fB f[i].f0 f[i].f1 f[i].f2 f[i].f3 = true)
    (next : okN f[i] i = true → ∀ used : List Bool, used.length = f.length → (∀ v : Nat, v < f.length → (allK f (i + 1)).count (v : Int) = if used.getD v false then 1 else 0) → Ev (fun k => impl_IsFormula.l0 k f used f f.length ((i + 1 : Nat) : Int)) (isF f))
    (used : List Bool) (hl : used.length = f.length) (hu : ∀ v : Nat, v < f.length → (allK f i).count (v : Int) = if used.getD v false then 1 else 0) :
    Ev (fun k => impl_IsFormula.l1 k f used i f f.length i (kidsN f[i]) (kidsN f[i]).length 0) (isF f) := by
  have kl : (kidsN f[i]).length ≤ 2 := kidsL_len _ _ _ _
  have key := downs (P := fun c => (∀ a (h : a < (kidsN f[i]).length), a < c → inB i (kidsN f[i])[a] = true) → ∀ used : List Bool, used.length = f.length → (∀ v : Nat, v < f.length → (allK f i ++ (kidsN f[i]).take c).count (v : Int) = if used.getD v false then 1 else 0) → Ev (fun k => impl_IsFormula.l1 k f used i f f.length i (kidsN f[i]) (kidsN f[i]).length (c : Int)) (isF f)) (kidsN f[i]).length
    (fun c hc ih hok used hl hu => by
      have hr : rd (kidsN f[i]) (c : Int) = (kidsN f[i])[c] := rd_of hc
      by_cases hin : 0 ≤ (kidsN f[i])[c] ∧ (kidsN f[i])[c] < (i : Int)
      · obtain ⟨m, hm⟩ : ∃ m : Nat, (kidsN f[i])[c] = (m : Int) := ⟨((kidsN f[i])[c]).toNat, by omega⟩
        have hmn : m < f.length := by omega
        have hrm : rdOf false used (m : Int) = used.getD m false := by simp [rdOf]
        by_cases hus : used.getD m false = true
        · have hcm := hu m hmn
          rw [if_pos hus] at hcm
          have : ¬ isFm f := by
            intro h
            have h2 := h.2.2.2 m (by omega)
            have h3 := allK_count_le (f := f) (i := i + 1) (m : Int) (by omega)
            rw [allK_succ hi, show kidsN f[i] = (kidsN f[i]).take c ++ (kidsN f[i]).drop c from (List.take_append_drop _ _).symm, ← List.append_assoc, List.count_append, List.drop_eq_getElem_cons hc, List.count_cons, hm] at h3
            simp only [beq_self_eq_true, if_true] at h3
            omega
          rw [isF_false this]
          refine Ev.step (f := fun _ => some false) (fun k => ?_) (Ev.now _)
          rw [impl_IsFormula.l1, if_pos (by omega), if_pos (by omega), if_pos (by omega), hr, hm, if_neg (by omega), if_neg (by omega), if_pos (by omega), if_pos (by omega), hrm, if_pos hus]
        · refine Ev.step (fun k => ?_) (ih (fun a h ha => by
            by_cases e : a = c
            · subst e
              simp only [inB, decide_eq_true_eq]
              exact hin
            · exact hok a h (by omega)) (used.set m true) (by simp [hl]) (fun v hv => by
            rw [take_snoc hc, ← List.append_assoc, count_snoc, hm, hu v hv]
            by_cases e : m = v
            · subst e
              rw [if_neg hus]
              simp [List.getD_eq_getElem?_getD, List.getElem?_set, show m < used.length by omega]
            · have e' : ¬ ((m : Int) = (v : Int)) := by omega
              simp [List.getD_eq_getElem?_getD, List.getElem?_set, if_neg e, if_neg e']))
          rw [impl_IsFormula.l1, if_pos (by omega), if_pos (by omega), if_pos (by omega), hr, hm, if_neg (by omega), if_neg (by omega), if_pos (by omega), if_pos (by omega), hrm, if_neg hus, w64 (by omega) (by omega)]
          rfl
      · have : ¬ isFm f := by
          intro h
          have := kid_in (h.2.2.1 i hi) ((kidsN f[i])[c]) (List.getElem_mem hc)
          exact hin this
        rw [isF_false this]
        refine Ev.step (f := fun _ => some false) (fun k => ?_) (Ev.now _)
        by_cases hneg : (kidsN f[i])[c] < 0
        · rw [impl_IsFormula.l1, if_pos (by omega), if_pos (by omega), if_pos (by omega), hr, if_pos hneg]
        · rw [impl_IsFormula.l1, if_pos (by omega), if_pos (by omega), if_pos (by omega), hr, if_neg hneg, if_pos (by omega)])
    (fun hok used hl hu => by
      rw [List.take_length, ← allK_succ hi] at hu
      have ok : okN f[i] i = true := by
        unfold okN nB
        rw [fok, Bool.true_and, List.all_eq_true]
        intro c hc
        obtain ⟨a, ha, rfl⟩ := List.getElem_of_mem hc
        exact hok a ha ha
      refine Ev.step (fun k => ?_) (next ok used hl hu)
      rw [impl_IsFormula.l1, if_neg (by omega), w64 (by omega) (by omega)]
      rfl)
  refine key 0 (by omega) (fun a _ ha => by omega) used hl ?_
  simpa using hu

theorem implIF_l0 (f : List S71) (hn : f.length ≤ 40) (h1 : 1 ≤ f.length) : ∀ i, i ≤ f.length → (∀ j (h : j < f.length), j < i → okN f[j] j = true) → ∀ used : List Bool, used.length = f.length → (∀ v : Nat, v < f.length → (allK f i).count (v : Int) = if used.getD v false then 1 else 0) → Ev (fun k => impl_IsFormula.l0 k f used f f.length (i : Int)) (isF f) :=
  downs f.length
    (fun i hi ih hok used hl hu => by
      have hr : rd_T71 f (i : Int) = f[i] := rdN_of hi
      by_cases fok : fB f[i].f0 f[i].f1 f[i].f2 f[i].f3 = true
      · have h3 := implIF_l1 f i hi hn fok (fun ok used hl hu => ih (fun j h hj => by
          by_cases e : j = i
          · subst e; exact ok
          · exact hok j h (by omega)) used hl hu) used hl hu
        obtain ⟨K, hK⟩ := h3
        refine ⟨K + 3, fun k hk => ?_⟩
        obtain ⟨m, rfl⟩ : ∃ m, k = m + 3 := ⟨k - 3, by omega⟩
        show impl_IsFormula.l0 (m + 2 + 1) f used f f.length (i : Int) = _
        rw [impl_IsFormula.l0, if_pos (by omega), if_pos (by omega), if_pos (by omega), hr, kids_eq, Option.bind_some]
        simp only [fok, if_true]
        exact hK (m + 2) (by omega)
      · rw [isF_false (fun h => fok (okN_f (h.2.2.1 i hi)))]
        refine ⟨3, fun k hk => ?_⟩
        obtain ⟨m, rfl⟩ : ∃ m, k = m + 3 := ⟨k - 3, by omega⟩
        show impl_IsFormula.l0 (m + 2 + 1) f used f f.length (i : Int) = _
        rw [impl_IsFormula.l0, if_pos (by omega), if_pos (by omega), if_pos (by omega), hr, kids_eq, Option.bind_some]
        simp [fok])
    (fun hok used hl hu => by
      have h2 := implIF_l2 (f.length - 1) (used.take (f.length - 1)) (by simp [hl]) (by omega) (isF f) (by
        rw [isF_true]
        have tk : ∀ v, v < f.length - 1 → (used.take (f.length - 1)).getD v false = used.getD v false := by
          intro v hv
          simp [List.getD_eq_getElem?_getD, List.getElem?_take_of_lt hv]
        constructor
        · intro h v hv
          have h3 := hu v (by omega)
          rw [h.2.2.2 v (by omega)] at h3
          rw [tk v hv]
          by_cases e : used.getD v false = true
          · exact e
          · rw [if_neg e] at h3; omega
        · intro h
          refine ⟨h1, hn, fun i hi => hok i hi hi, fun v hv => ?_⟩
          have h3 := h v (by omega)
          rw [tk v (by omega)] at h3
          rw [hu v (by omega), if_pos h3])
      refine Ev.step (fun k => ?_) h2
      have e1 : wrap64 ((f.length : Int) - 1) = ((f.length - 1 : Nat) : Int) := by rw [w64 (by omega) (by omega)]; omega
      rw [impl_IsFormula.l0, if_neg (by omega), e1, if_pos (by omega), if_pos (by omega), Option.bind_some, Int.toNat_natCast]
      simp [hl])
theorem implIF_ev (f : List S71) (hb : f.length ≤ 1048576 + 64) : Ev (fun k => impl_IsFormula.f k f) (isF f) := by
  by_cases h : 1 ≤ f.length ∧ f.length ≤ 40
  · refine Ev.congr (g := fun k => impl_IsFormula.f k f) (f := fun k => impl_IsFormula.j0 k f false) (fun k => ?_) (Ev.step (fun k => ?_) (implIF_l0 f h.2 h.1 0 (by omega) (fun j _ hj => by omega) (List.replicate f.length false) (by simp) (fun v hv => by simp [allK, hv])))
    · unfold impl_IsFormula.f
      rw [if_neg (by omega), decide_eq_false (by omega)]
    · rw [impl_IsFormula.j0, if_neg (by simp), if_pos (by omega), if_pos (by omega)]
      simp
  · rw [isF_false (fun h' => h ⟨h'.1, h'.2.1⟩)]
    refine Ev.congr (g := fun k => impl_IsFormula.f k f) (f := fun k => impl_IsFormula.j0 k f true) (fun k => ?_) (Ev.step (f := fun _ => some false) (fun k => ?_) (Ev.now _))
    · unfold impl_IsFormula.f
      by_cases h2 : (f.length : Int) < 1
      · rw [if_pos h2]
      · rw [if_neg h2, decide_eq_true (by omega)]
    · rw [impl_IsFormula.j0, if_pos rfl]
/-! RowsBase -/
theorem rdR_of {xs : List (List Int)} {i : Nat} (h : i < xs.length) : rd_L1 xs (i : Int) = xs[i] := by
  unfold rd_L1
  exact getD_of h
def inS (n : Nat) (x : Int) : Bool := decide (0 ≤ x ∧ x < (n : Int))
def rowS (b : Int) (n : Nat) (row : List Int) : Bool := decide ((row.length : Int) = b) && row.all (inS n)

/-! IsSequence -/
def outS (o : Int) : Bool := decide (0 ≤ o ∧ o ≤ 3)
theorem specIS_l1 (b : Int) (rows : List (List Int)) (outs : List Int) (i : Nat) (hi : i < rows.length) (hl : rows.length ≤ 1048576) (hr : rows[i].length ≤ 1048576) (nb : Bool) (next : Ev (fun k => spec_IsSequence.l0 k ((i + 1 : Nat) : Int) b rows outs) nb) :
    Ev (fun k => spec_IsSequence.l1 k (i : Int) 0 b rows outs) (rows[i].all (inS rows.length) && nb) := by
  have hR := rdR_of hi
  have key := downs (P := fun c => Ev (fun k => spec_IsSequence.l1 k (i : Int) (c : Int) b rows outs) ((rows[i].drop c).all (inS rows.length) && nb)) rows[i].length
    (fun c hc ih => by
      rw [drop_at hc, List.all_cons]
      by_cases h : 0 ≤ rows[i][c] ∧ rows[i][c] < (rows.length : Int)
      · refine Ev.step (fun k => ?_) (Ev.eq ih (by rw [show inS rows.length rows[i][c] = true from decide_eq_true h, Bool.true_and]))
        rw [spec_IsSequence.l1, if_pos (by omega), if_pos (by omega), hR, if_pos (by omega), if_pos (by omega), rd_of hc, if_neg (by omega), if_neg (by omega), w64 (by omega) (by omega)]
        rfl
      · refine Ev.step (f := fun _ => some false) (fun k => ?_) (Ev.eq (Ev.now _) (by rw [show inS rows.length rows[i][c] = false from decide_eq_false h, Bool.false_and, Bool.false_and]))
        rw [spec_IsSequence.l1, if_pos (by omega), if_pos (by omega), hR, if_pos (by omega), if_pos (by omega), rd_of hc]
        by_cases h0 : rows[i][c] < 0
        · rw [if_pos h0]
        · rw [if_neg h0, if_pos (by omega)])
    (by
      refine Ev.step (fun k => ?_) (Ev.eq next (by simp))
      rw [spec_IsSequence.l1, if_pos (by omega), if_pos (by omega), hR, if_neg (by omega), w64 (by omega) (by omega)]
      rfl)
  have h := key 0 (by omega)
  exact h
theorem specIS_l2 (b : Int) (rows : List (List Int)) (outs : List Int) (hl : outs.length ≤ 1048576) : Ev (fun k => spec_IsSequence.l2 k 0 b rows outs) (outs.all outS && (decide (2 ≤ b ∧ b ≤ 4) && (decide (1 ≤ (rows.length : Int) ∧ (rows.length : Int) ≤ 16) && ((outs.length : Int) == (rows.length : Int))))) := by
  have key := downs (P := fun c => Ev (fun k => spec_IsSequence.l2 k (c : Int) b rows outs) ((outs.drop c).all outS && (decide (2 ≤ b ∧ b ≤ 4) && (decide (1 ≤ (rows.length : Int) ∧ (rows.length : Int) ≤ 16) && ((outs.length : Int) == (rows.length : Int)))))) outs.length
    (fun c hc ih => by
      rw [drop_at hc, List.all_cons]
      cases h : outS outs[c] with
      | true =>
        refine Ev.step (fun k => ?_) (Ev.eq ih (by rw [Bool.true_and]))
        have h' : decide (0 ≤ outs[c] ∧ outs[c] ≤ 3) = true := h
        rw [spec_IsSequence.l2, if_pos (by omega), if_pos (by omega), rd_of hc, l1In_eq, Option.bind_some, h', if_pos rfl, w64 (by omega) (by omega)]
        rfl
      | false =>
        refine Ev.step (f := fun _ => some false) (fun k => ?_) (Ev.eq (Ev.now _) (by simp))
        have h' : decide (0 ≤ outs[c] ∧ outs[c] ≤ 3) = false := h
        rw [spec_IsSequence.l2, if_pos (by omega), if_pos (by omega), rd_of hc, l1In_eq, Option.bind_some, h', if_neg (by decide)])
    (by
      refine Ev.step (f := fun _ => some _) (fun k => ?_) (Ev.now _)
      rw [spec_IsSequence.l2, if_neg (by omega), l1In_eq, Option.bind_some, l1In_eq, Option.bind_some, List.drop_length, List.all_nil, Bool.true_and]
      cases decide (2 ≤ b ∧ b ≤ 4) <;> cases decide (1 ≤ (rows.length : Int) ∧ (rows.length : Int) ≤ 16) <;> rfl)
  exact key 0 (by omega)
def isSq (b : Int) (rows : List (List Int)) (outs : List Int) : Bool := rows.all (rowS b rows.length) && (outs.all outS && (decide (2 ≤ b ∧ b ≤ 4) && (decide (1 ≤ (rows.length : Int) ∧ (rows.length : Int) ≤ 16) && ((outs.length : Int) == (rows.length : Int)))))
theorem specIS_ev (b : Int) (rows : List (List Int)) (outs : List Int) (hl : rows.length ≤ 1048576) (hr : ∀ i (h : i < rows.length), rows[i].length ≤ 1048576) (ho : outs.length ≤ 1048576) : Ev (fun k => spec_IsSequence.f k b rows outs) (isSq b rows outs) := by
  have key := downs (P := fun i => Ev (fun k => spec_IsSequence.l0 k (i : Int) b rows outs) ((rows.drop i).all (rowS b rows.length) && (outs.all outS && (decide (2 ≤ b ∧ b ≤ 4) && (decide (1 ≤ (rows.length : Int) ∧ (rows.length : Int) ≤ 16) && ((outs.length : Int) == (rows.length : Int))))))) rows.length
    (fun i hi ih => by
      rw [drop_at hi, List.all_cons]
      by_cases h : (rows[i].length : Int) = b
      · refine Ev.step (fun k => ?_) (Ev.eq (specIS_l1 b rows outs i hi hl (hr i hi) _ ih) (by rw [rowS, decide_eq_true h, Bool.true_and, Bool.and_assoc]))
        rw [spec_IsSequence.l0, if_pos (by omega), if_pos (by omega), rdR_of hi, if_pos h]
      · refine Ev.step (f := fun _ => some false) (fun k => ?_) (Ev.eq (Ev.now _) (by rw [rowS, decide_eq_false h, Bool.false_and, Bool.false_and, Bool.false_and]))
        rw [spec_IsSequence.l0, if_pos (by omega), if_pos (by omega), rdR_of hi, if_neg h])
    (by
      refine Ev.step (fun k => ?_) (Ev.eq (specIS_l2 b rows outs ho) (by rw [List.drop_length, List.all_nil, Bool.true_and]))
      rw [spec_IsSequence.l0, if_neg (by omega)])
  have h := key 0 (by omega)
  exact h
theorem implIS_l1 (b : Int) (rows : List (List Int)) (outs : List Int) (i : Nat) (hi : i < rows.length) (hl : rows.length ≤ 1048576) (hr : rows[i].length ≤ 1048576) (nb : Bool) (next : Ev (fun k => impl_IsSequence.l0 k (rows.length : Int) rows (rows.length : Int) ((i + 1 : Nat) : Int) b rows outs) nb) :
    Ev (fun k => impl_IsSequence.l1 k (rows.length : Int) rows (rows.length : Int) (i : Int) rows[i] (rows[i].length : Int) 0 b rows outs) (rows[i].all (inS rows.length) && nb) := by
  have key := downs (P := fun c => Ev (fun k => impl_IsSequence.l1 k (rows.length : Int) rows (rows.length : Int) (i : Int) rows[i] (rows[i].length : Int) (c : Int) b rows outs) ((rows[i].drop c).all (inS rows.length) && nb)) rows[i].length
    (fun c hc ih => by
      rw [drop_at hc, List.all_cons]
      by_cases h : 0 ≤ rows[i][c] ∧ rows[i][c] < (rows.length : Int)
      · refine Ev.step (fun k => ?_) (Ev.eq ih (by rw [show inS rows.length rows[i][c] = true from decide_eq_true h, Bool.true_and]))
        rw [impl_IsSequence.l1, if_pos (by omega), if_pos (by omega), if_pos (by omega), rd_of hc, if_neg (by omega), if_neg (by omega), w64 (by omega) (by omega)]
        rfl
      · refine Ev.step (f := fun _ => some false) (fun k => ?_) (Ev.eq (Ev.now _) (by rw [show inS rows.length rows[i][c] = false from decide_eq_false h, Bool.false_and, Bool.false_and]))
        rw [impl_IsSequence.l1, if_pos (by omega), if_pos (by omega), if_pos (by omega), rd_of hc]
        by_cases h0 : rows[i][c] < 0
        · rw [if_pos h0]
        · rw [if_neg h0, if_pos (by omega)])
    (by
      refine Ev.step (fun k => ?_) (Ev.eq next (by simp))
      rw [impl_IsSequence.l1, if_neg (by omega), w64 (by omega) (by omega)]
      rfl)
  exact key 0 (by omega)
theorem implIS_l0 (b : Int) (rows : List (List Int)) (outs : List Int) (hl : rows.length ≤ 1048576) (hr : ∀ i (h : i < rows.length), rows[i].length ≤ 1048576) (ho : outs.length = rows.length) : Ev (fun k => impl_IsSequence.l0 k (rows.length : Int) rows (rows.length : Int) 0 b rows outs) (rows.all (rowS b rows.length) && outs.all outS) := by
  have key := downs (P := fun i => Ev (fun k => impl_IsSequence.l0 k (rows.length : Int) rows (rows.length : Int) (i : Int) b rows outs) ((rows.drop i).all (rowS b rows.length) && (outs.drop i).all outS)) rows.length
    (fun i hi ih => by
      have hi2 : i < outs.length := by omega
      rw [drop_at hi, drop_at hi2, List.all_cons, List.all_cons]
      by_cases h : (rows[i].length : Int) = b
      · by_cases h3 : 0 ≤ outs[i] ∧ outs[i] ≤ 3
        · have h1 := implIS_l1 b rows outs i hi hl (hr i hi) _ ih
          obtain ⟨K, hK⟩ := h1
          refine Ev.eq (r := (rows[i].all (inS rows.length) && ((rows.drop (i + 1)).all (rowS b rows.length) && (outs.drop (i + 1)).all outS))) ⟨K + 2, fun k hk => ?_⟩ (by rw [rowS, decide_eq_true h, Bool.true_and, show outS outs[i] = true from decide_eq_true h3, Bool.true_and, Bool.and_assoc])
          obtain ⟨m, rfl⟩ : ∃ m, k = m + 2 := ⟨k - 2, by omega⟩
          show impl_IsSequence.l0 (m + 1 + 1) _ _ _ _ _ _ _ = _
          rw [impl_IsSequence.l0, if_pos (by omega), if_pos (by omega), if_pos (by omega), rdR_of hi, if_pos h, if_pos (by omega), rd_of hi2, if_neg (by omega), decide_eq_false (show ¬ outs[i] > 3 by omega), impl_IsSequence.j2, if_neg (by decide)]
          exact hK m (by omega)
        · refine Ev.eq (r := false) ⟨2, fun k hk => ?_⟩ (by rw [show outS outs[i] = false from decide_eq_false h3, Bool.false_and, Bool.and_false])
          obtain ⟨m, rfl⟩ : ∃ m, k = m + 2 := ⟨k - 2, by omega⟩
          show impl_IsSequence.l0 (m + 1 + 1) _ _ _ _ _ _ _ = _
          rw [impl_IsSequence.l0, if_pos (by omega), if_pos (by omega), if_pos (by omega), rdR_of hi, if_pos h, if_pos (by omega), rd_of hi2]
          by_cases h0 : outs[i] < 0
          · rw [if_pos h0, impl_IsSequence.j2, if_pos rfl]
          · rw [if_neg h0, decide_eq_true (show outs[i] > 3 by omega), impl_IsSequence.j2, if_pos rfl]
      · refine Ev.eq (r := false) ⟨2, fun k hk => ?_⟩ (by rw [rowS, decide_eq_false h, Bool.false_and, Bool.false_and, Bool.false_and])
        obtain ⟨m, rfl⟩ : ∃ m, k = m + 2 := ⟨k - 2, by omega⟩
        show impl_IsSequence.l0 (m + 1 + 1) _ _ _ _ _ _ _ = _
        rw [impl_IsSequence.l0, if_pos (by omega), if_pos (by omega), if_pos (by omega), rdR_of hi, if_neg h, impl_IsSequence.j2, if_pos rfl])
    (by
      refine Ev.step (f := fun _ => some true) (fun k => ?_) (Ev.eq (Ev.now _) (by rw [List.drop_length, ← ho, List.drop_length]; rfl))
      rw [impl_IsSequence.l0, if_neg (by omega)])
  exact key 0 (by omega)
theorem isBase_eq (b : Int) : impl_isBase.f b = some (decide (2 ≤ b ∧ b ≤ 4)) := by
  unfold impl_isBase.f
  by_cases h : b ≥ 2
  · rw [if_pos h, Option.some.injEq, decide_eq_decide]
    omega
  · rw [if_neg h, Option.some.injEq]
    exact (decide_eq_false (by omega)).symm
theorem implIS_ev (b : Int) (rows : List (List Int)) (outs : List Int) (hl : rows.length ≤ 1048576) (hr : ∀ i (h : i < rows.length), rows[i].length ≤ 1048576) : Ev (fun k => impl_IsSequence.f k b rows outs) (isSq b rows outs) := by
  unfold impl_IsSequence.f
  simp only [isBase_eq, Option.bind_some]
  have no (X : Bool) (hX : X = true) : Ev (fun k => impl_IsSequence.j0 k (rows.length : Int) X b rows outs) false := by
    subst hX
    refine Ev.step (f := fun _ => some false) (fun k => ?_) (Ev.now _)
    rw [impl_IsSequence.j0, if_pos rfl]
  by_cases hb : 2 ≤ b ∧ b ≤ 4
  · simp only [decide_eq_true hb, if_true]
    by_cases h1 : (rows.length : Int) < 1
    · refine Ev.congr (fun k => if_pos h1) (Ev.eq (no true rfl) ?_)
      rw [isSq, decide_eq_false (show ¬ (1 ≤ (rows.length : Int) ∧ (rows.length : Int) ≤ 16) by omega)]
      simp
    · refine Ev.congr (fun k => if_neg h1) ?_
      by_cases h2 : (rows.length : Int) > 16
      · refine Ev.congr (fun k => if_pos h2) (Ev.eq (no true rfl) ?_)
        rw [isSq, decide_eq_false (show ¬ (1 ≤ (rows.length : Int) ∧ (rows.length : Int) ≤ 16) by omega)]
        simp
      · refine Ev.congr (fun k => if_neg h2) ?_
        by_cases h3 : outs.length = rows.length
        · have e : ((outs.length : Int) != (rows.length : Int)) = false := by simp [h3]
          simp only [e]
          refine Ev.step (fun k => ?_) (Ev.eq (implIS_l0 b rows outs hl hr h3) ?_)
          · rw [impl_IsSequence.j0, if_neg (by decide)]
          · rw [isSq, decide_eq_true hb, decide_eq_true (show 1 ≤ (rows.length : Int) ∧ (rows.length : Int) ≤ 16 by omega), h3]
            simp
        · have e : ((outs.length : Int) != (rows.length : Int)) = true := by simp; omega
          refine Ev.eq (no _ e) ?_
          have e2 : ((outs.length : Int) == (rows.length : Int)) = false := by simp; omega
          rw [isSq, e2]
          simp
  · simp only [decide_eq_false hb, Bool.false_eq_true, if_false]
    refine Ev.eq (no true rfl) ?_
    rw [isSq, decide_eq_false hb]
    simp

/-! Reverse -/
def rv (xs : List Int) (i : Nat) : List Int := (List.range xs.length).map fun p => if p < i ∨ xs.length - i ≤ p then xs.getD (xs.length - 1 - p) 0 else xs.getD p 0
theorem rv_len (xs : List Int) (i : Nat) : (rv xs i).length = xs.length := by simp [rv]
theorem rv_get (xs : List Int) (i p : Nat) (hp : p < xs.length) : (rv xs i)[p]'(by rw [rv_len]; exact hp) = if p < i ∨ xs.length - i ≤ p then xs.getD (xs.length - 1 - p) 0 else xs.getD p 0 := by simp [rv]
theorem rv_zero (xs : List Int) : rv xs 0 = xs := by
  apply List.ext_getElem (rv_len xs 0)
  intro p h1 h2
  rw [rv_get xs 0 p h2, if_neg (by omega)]
  simp [List.getD_eq_getElem?_getD, h2]
theorem rv_end (xs : List Int) : rv xs (xs.length / 2) = xs.reverse := by
  apply List.ext_getElem (by rw [rv_len, List.length_reverse])
  intro p h1 h2
  have hp : p < xs.length := by simpa using h2
  rw [rv_get xs _ p hp, List.getElem_reverse]
  have e1 : xs.getD (xs.length - 1 - p) 0 = xs[xs.length - 1 - p]'(by omega) := by simp [List.getD_eq_getElem?_getD, show xs.length - 1 - p < xs.length by omega]
  split
  · exact e1
  · have hq : p = xs.length - 1 - p := by omega
    have e2 : xs.getD p 0 = xs.getD (xs.length - 1 - p) 0 := by rw [← hq]
    rw [e2, e1]
theorem rv_step (xs : List Int) (i : Nat) (h : i < xs.length / 2) : ((rv xs i).set i (xs.getD (xs.length - 1 - i) 0)).set (xs.length - 1 - i) (xs.getD i 0) = rv xs (i + 1) := by
  apply List.ext_getElem (by simp [rv_len])
  intro p h1 h2
  have hp : p < xs.length := by rw [rv_len] at h2; exact h2
  rw [List.getElem_set, List.getElem_set, rv_get xs i p hp, rv_get xs (i + 1) p hp]
  by_cases a : xs.length - 1 - i = p
  · rw [if_pos a, if_pos (by omega), show xs.length - 1 - p = i by omega]
  · rw [if_neg a]
    by_cases b : i = p
    · rw [if_pos b, if_pos (by omega), b]
    · rw [if_neg b]
      by_cases c : p < i ∨ xs.length - i ≤ p
      · rw [if_pos c, if_pos (by omega)]
      · rw [if_neg c, if_neg (by omega)]
theorem rev_ev (xs : List Int) (hl : xs.length ≤ 1152921504606846976) : Ev (fun k => slices_Reverse_int_int.f k xs) xs.reverse := by
  have key := downs (P := fun i => Ev (fun k => slices_Reverse_int_int.l0 k (rv xs i) (i : Int) ((xs.length : Int) - 1 - i)) xs.reverse) (xs.length / 2)
    (fun i hi ih => by
      have r1 : rd (rv xs i) (i : Int) = xs.getD i 0 := by rw [rd_of (by rw [rv_len]; omega), rv_get xs i i (by omega), if_neg (by omega)]
      have e3 : ((xs.length : Int) - 1 - i) = ((xs.length - 1 - i : Nat) : Int) := by omega
      have r2 : rd (rv xs i) ((xs.length : Int) - 1 - i) = xs.getD (xs.length - 1 - i) 0 := by rw [e3, rd_of (by rw [rv_len]; omega), rv_get xs i _ (by omega), if_neg (by omega)]
      refine Ev.step (fun k => ?_) ih
      have l1 := rv_len xs i
      rw [slices_Reverse_int_int.l0, if_pos (by omega), if_pos (by omega), if_pos (by omega), if_pos (by omega), if_pos (by omega), r1, r2, w64 (x := (i : Int) + 1) (by omega) (by omega), w64 (x := (xs.length : Int) - 1 - i - 1) (by omega) (by omega), e3, Int.toNat_natCast, Int.toNat_natCast, rv_step xs i hi]
      congr 1
      omega)
    (by
      refine Ev.step (f := fun _ => some _) (fun k => ?_) (Ev.now _)
      rw [slices_Reverse_int_int.l0, if_neg (by omega), rv_end])
  have h := key 0 (by omega)
  rw [rv_zero] at h
  refine Ev.congr (fun k => ?_) h
  unfold slices_Reverse_int_int.f
  rw [w64 (by omega) (by omega)]
  simp

/-! DivNat -/
theorem tmod_nat (n b : Nat) : Int.tmod (n : Int) (b : Int) = ((n % b : Nat) : Int) := by
  rw [Int.tmod_eq_emod_of_nonneg (by omega)]
  simp
theorem tdiv_nat (n b : Nat) : Int.tdiv (n : Int) (b : Int) = ((n / b : Nat) : Int) := by
  rw [Int.tdiv_eq_ediv_of_nonneg (by omega)]
  simp

/-! Digits -/
def dgs (b : Nat) : Nat → Nat → List Int
  | 0, _ => []
  | k + 1, n => if n = 0 then [] else dgs b k (n / b) ++ [((n % b : Nat) : Int)]
theorem dgs_len (b : Nat) : ∀ j n, (dgs b j n).length ≤ j := by
  intro j
  induction j with
  | zero => intro n; simp [dgs]
  | succ j ih =>
    intro n
    rw [dgs]
    split
    · simp
    · have := ih (n / b)
      simp
      omega
theorem half_lt {b n j : Nat} (hb : 2 ≤ b) (h : n < 2 ^ (j + 1)) : n / b < 2 ^ j := by
  have h1 : n / b ≤ n / 2 := Nat.div_le_div_left hb (by omega)
  have h2 : n / 2 < 2 ^ j := by rw [Nat.pow_succ] at h; omega
  omega
theorem specDigits_l0 (b : Nat) (hb : 2 ≤ b) (hb4 : b ≤ 4) : ∀ (j n : Nat) (acc : List Int), n < 2 ^ j → n ≤ 1000000 → acc.length + j ≤ 100 → Ev (fun k => spec_DigitsOf.l0 k (n : Int) (b : Int) acc) (dgs b j n ++ acc) := by
  intro j
  induction j with
  | zero =>
    intro n acc h _ _
    have : n = 0 := by simpa using h
    subst this
    refine Ev.step (f := fun _ => some acc) (fun k => ?_) (Ev.eq (Ev.now _) (by simp [dgs]))
    rw [spec_DigitsOf.l0, if_neg (by omega)]
  | succ j ih =>
    intro n acc h hm hl
    by_cases e : n = 0
    · subst e
      refine Ev.step (f := fun _ => some acc) (fun k => ?_) (Ev.eq (Ev.now _) (by simp [dgs]))
      rw [spec_DigitsOf.l0, if_neg (by omega)]
    · have hle : n / b ≤ n := Nat.div_le_self n b
      have hi := ih (n / b) ([((n % b : Nat) : Int)] ++ acc) (half_lt hb h) (by omega) (by simp; omega)
      refine Ev.step (fun k => ?_) (Ev.eq hi (by rw [dgs, if_neg e, List.append_assoc]))
      rw [spec_DigitsOf.l0, if_pos (by omega), if_neg (by omega), tmod_nat, tdiv_nat, Option.bind_some, if_pos (by simp; omega), w64 (Int.le_trans (by omega : (-9223372036854775808 : Int) ≤ 0) (Int.natCast_nonneg _)) (by omega)]
theorem specPower16 (b : Nat) (hb : 2 ≤ b) (hb4 : b ≤ 4) : Ev (fun k => spec_PowerOf.f k (b : Int) 16) ((b ^ 16 : Nat) : Int) := by
  have key : ∀ d i : Nat, i + d = 16 → Ev (fun k => spec_PowerOf.l0 k (b : Int) 16 ((b ^ i : Nat) : Int) (i : Int)) ((b ^ 16 : Nat) : Int) := by
    intro d
    induction d with
    | zero =>
      intro i hi
      obtain rfl : i = 16 := by omega
      refine Ev.step (f := fun _ => some _) (fun k => ?_) (Ev.now _)
      rw [spec_PowerOf.l0, if_neg (by omega)]
    | succ d ih =>
      intro i hi
      have hp : b ^ (i + 1) ≤ 4 ^ 16 := Nat.le_trans (Nat.pow_le_pow_left hb4 _) (Nat.pow_le_pow_right (by omega) (by omega))
      have he : ((b ^ i : Nat) : Int) * (b : Int) = ((b ^ (i + 1) : Nat) : Int) := by rw [Nat.pow_succ]; simp
      refine Ev.step (fun k => ?_) (ih (i + 1) (by omega))
      rw [spec_PowerOf.l0, if_pos (by omega), he, w64 (x := ((b ^ (i + 1) : Nat) : Int)) (by omega) (by omega), w64 (by omega) (by omega)]
      rfl
  obtain ⟨K, hK⟩ := key 16 0 rfl
  refine ⟨K + 1, fun k hk => ?_⟩
  obtain ⟨m, rfl⟩ : ∃ m, k = m + 1 := ⟨k - 1, by omega⟩
  have h := hK m (by omega)
  simp only at h
  show spec_PowerOf.f (m + 1) (b : Int) 16 = _
  rw [spec_PowerOf.f, l1In_eq, Option.bind_some]
  rw [show (decide (2 ≤ (b : Int) ∧ (b : Int) ≤ 4)) = true by simp; omega, if_pos rfl, l1In_eq, Option.bind_some, spec_PowerOf.j0, if_neg (by simp)]
  exact h
theorem implDigits_l0 (b : Nat) (hb : 2 ≤ b) (hb4 : b ≤ 4) : ∀ (j n : Nat) (acc : List Int) (R : List Int), n < 2 ^ j → n ≤ 1000000 → acc.length + j ≤ 100 → (Ev (fun k => slices_Reverse_int_int.f k (acc ++ (dgs b j n).reverse)) R) → Ev (fun k => impl_digits.l0 k (n : Int) (b : Int) acc) R := by
  intro j
  induction j with
  | zero =>
    intro n acc R h _ _ hr
    have : n = 0 := by simp at h; omega
    subst this
    refine Ev.step (f := fun k => (slices_Reverse_int_int.f k acc).bind fun t => some t) (fun k => ?_) (Ev.bind (by simpa [dgs] using hr) (Ev.now _))
    rw [impl_digits.l0, if_neg (by omega)]
  | succ j ih =>
    intro n acc R h hm hl hr
    by_cases e : n = 0
    · subst e
      refine Ev.step (f := fun k => (slices_Reverse_int_int.f k acc).bind fun t => some t) (fun k => ?_) (Ev.bind (by simpa [dgs] using hr) (Ev.now _))
      rw [impl_digits.l0, if_neg (by omega)]
    · have hle : n / b ≤ n := Nat.div_le_self n b
      have hi := ih (n / b) (acc ++ [((n % b : Nat) : Int)]) R (half_lt hb h) (by omega) (by simp; omega) (by
        rw [dgs, if_neg e, List.reverse_append] at hr
        simpa [List.append_assoc] using hr)
      refine Ev.step (fun k => ?_) hi
      rw [impl_digits.l0, if_pos (by omega), if_neg (by omega), tmod_nat, tdiv_nat, if_pos (by omega), w64 (Int.le_trans (by omega : (-9223372036854775808 : Int) ≤ 0) (Int.natCast_nonneg _)) (by omega)]

/-! DigitsBoth -/
theorem dgs_in (b : Nat) (hb : 2 ≤ b) : ∀ j n, ∀ d ∈ dgs b j n, 0 ≤ d ∧ d < (b : Int) := by
  intro j
  induction j with
  | zero => intro n d hd; simp [dgs] at hd
  | succ j ih =>
    intro n d hd
    rw [dgs] at hd
    split at hd
    · simp at hd
    · rw [List.mem_append] at hd
      rcases hd with hd | hd
      · exact ih _ d hd
      · have : d = ((n % b : Nat) : Int) := by simpa using hd
        have hm : n % b < b := Nat.mod_lt _ (by omega)
        subst this
        exact ⟨Int.natCast_nonneg _, by exact_mod_cast hm⟩
theorem implDigits_ev (b n : Nat) (hb : 2 ≤ b) (hb4 : b ≤ 4) (hn : n ≤ 60000) : Ev (fun k => impl_digits.f k (n : Int) (b : Int)) (dgs b 16 n) := by
  have hl := dgs_len b 16 n
  have hr := rev_ev ((dgs b 16 n).reverse) (by rw [List.length_reverse]; omega)
  rw [List.reverse_reverse] at hr
  refine implDigits_l0 b hb hb4 16 n [] _ (by omega) (by omega) (by rw [List.length_nil]; omega) ?_
  rw [List.nil_append]
  exact hr
theorem specDigits_ev (b n : Nat) (hb : 2 ≤ b) (hb4 : b ≤ 4) (hn : n ≤ 60000) : Ev (fun k => spec_DigitsOf.f k (n : Int) (b : Int)) (dgs b 16 n) := by
  have h := specDigits_l0 b hb hb4 16 n [] (by omega) (by omega) (by rw [List.length_nil]; omega)
  rw [List.append_nil] at h
  have hp : 65536 ≤ b ^ 16 := Nat.pow_le_pow_left hb 16
  have hq : (65536 : Int) ≤ ((b ^ 16 : Nat) : Int) := Int.ofNat_le.2 hp
  unfold spec_DigitsOf.f
  simp only [Option.bind_some]
  refine Ev.congr (fun k => if_neg (by omega)) ?_
  simp only [l1In_eq, Option.bind_some]
  refine Ev.congr (fun k => if_pos (by simp; omega)) ?_
  refine Ev.bind (specPower16 b hb hb4) ?_
  have hd : (decide ((n : Int) ≥ ((b ^ 16 : Nat) : Int))) = false := by simp only [decide_eq_false_iff_not]; omega
  simp only [hd]
  refine Ev.step (fun k => ?_) h
  rw [spec_DigitsOf.j0, if_neg (by simp)]

/-! AreDigits -/
theorem areDigits_ev (b : Int) (h2 : 2 ≤ b) (h4 : b ≤ 4) (ds : List Int) (hd : ∀ c (hc : c < ds.length), 0 ≤ ds[c] ∧ ds[c] < b) (hl : ds.length ≤ 16) : Ev (fun k => spec_AreDigits.f k ds b) true := by
  have key := downs (P := fun c => Ev (fun k => spec_AreDigits.l0 k ds b (c : Int)) true) ds.length
    (fun c hc ih => by
      obtain ⟨d0, d1⟩ := hd c hc
      refine Ev.step (fun k => ?_) ih
      rw [spec_AreDigits.l0, if_pos (by omega), if_pos (by omega), rd_of hc, if_neg (by omega), if_neg (by omega), w64 (by omega) (by omega)]
      rfl)
    (by
      refine Ev.step (f := fun _ => some true) (fun k => ?_) (Ev.now _)
      rw [spec_AreDigits.l0, if_neg (by omega), l1In_eq, Option.bind_some, decide_eq_true (show 2 ≤ b ∧ b ≤ 4 from ⟨h2, h4⟩), if_pos rfl, decide_eq_true (show (ds.length : Int) ≤ 16 by omega)])
  exact key 0 (by omega)

/-! Term -/
theorem isSq_use {b : Int} {rows : List (List Int)} {outs : List Int} (h : isSq b rows outs = true) : 2 ≤ b ∧ b ≤ 4 ∧ 1 ≤ rows.length ∧ rows.length ≤ 16 ∧ outs.length = rows.length ∧ ∀ i (hi : i < rows.length), (rows[i].length : Int) = b ∧ ∀ c (hc : c < rows[i].length), 0 ≤ rows[i][c] ∧ rows[i][c] < (rows.length : Int) := by
  unfold isSq at h
  simp only [Bool.and_eq_true, decide_eq_true_eq, beq_iff_eq, List.all_eq_true] at h
  obtain ⟨h1, _, h2, h3, h4⟩ := h
  refine ⟨h2.1, h2.2, by omega, by omega, by omega, fun i hi => ?_⟩
  have := h1 rows[i] (List.getElem_mem hi)
  unfold rowS at this
  simp only [Bool.and_eq_true, decide_eq_true_eq, List.all_eq_true] at this
  refine ⟨this.1, fun c hc => ?_⟩
  have h5 := this.2 rows[i][c] (List.getElem_mem hc)
  unfold inS at h5
  simpa using h5
theorem next_in {b : Int} {rows : List (List Int)} {outs : List Int} (h : isSq b rows outs = true) (q d : Int) (q0 : 0 ≤ q) (q1 : q < (rows.length : Int)) (d0 : 0 ≤ d) (d1 : d < b) : d < ((rd_L1 rows q).length : Int) ∧ 0 ≤ rd (rd_L1 rows q) d ∧ rd (rd_L1 rows q) d < (rows.length : Int) := by
  obtain ⟨_, _, _, _, _, hr⟩ := isSq_use h
  obtain ⟨i, rfl⟩ : ∃ i : Nat, q = i := ⟨q.toNat, by omega⟩
  obtain ⟨c, rfl⟩ : ∃ c : Nat, d = c := ⟨d.toNat, by omega⟩
  have hi : i < rows.length := by omega
  obtain ⟨hl, hc⟩ := hr i hi
  have hc' : c < rows[i].length := by omega
  rw [rdR_of hi, rd_of hc']
  exact ⟨by omega, hc c hc'⟩
theorem after_both (b : Int) (rows : List (List Int)) (outs : List Int) (h : isSq b rows outs = true) (ds : List Int) (hd : ∀ c (hc : c < ds.length), 0 ≤ ds[c] ∧ ds[c] < b) (hl : ds.length ≤ 1048576) :
    ∃ q : Int, 0 ≤ q ∧ q < (rows.length : Int) ∧ Ev (fun k => spec_StateAfter.l0 k ds 0 0 b rows outs) q ∧ Ev (fun k => impl_Sequence_after.f k b rows outs ds) q := by
  have key := downs (P := fun c => ∀ q : Int, 0 ≤ q → q < (rows.length : Int) → ∃ q' : Int, 0 ≤ q' ∧ q' < (rows.length : Int) ∧ Ev (fun k => spec_StateAfter.l0 k ds q (c : Int) b rows outs) q' ∧ Ev (fun k => impl_Sequence_after.l0 k q ds (ds.length : Int) (c : Int) b rows outs) q') ds.length
    (fun c hc ih q q0 q1 => by
      obtain ⟨d0, d1⟩ := hd c hc
      obtain ⟨n1, n2, n3⟩ := next_in h q ds[c] q0 q1 d0 d1
      obtain ⟨q', a, e, hs, hi⟩ := ih _ n2 n3
      refine ⟨q', a, e, Ev.step (fun k => ?_) hs, Ev.step (fun k => ?_) hi⟩
      · rw [spec_StateAfter.l0, if_pos (by omega), if_pos q0, if_pos q1, if_pos (by omega), rd_of hc, if_pos d0, if_pos n1, w64 (by omega) (by omega)]
        rfl
      · rw [impl_Sequence_after.l0, if_pos (by omega), if_pos (by omega), if_pos (by omega), if_pos q0, if_pos q1, rd_of hc, if_pos d0, if_pos n1, w64 (by omega) (by omega)]
        rfl)
    (fun q q0 q1 => by
      refine ⟨q, q0, q1, Ev.step (f := fun _ => some q) (fun k => ?_) (Ev.now _), Ev.step (f := fun _ => some q) (fun k => ?_) (Ev.now _)⟩
      · rw [spec_StateAfter.l0, if_neg (by omega)]
      · rw [impl_Sequence_after.l0, if_neg (by omega)])
  obtain ⟨_, _, h1, _⟩ := isSq_use h
  obtain ⟨q, a, e, hs, hi⟩ := key 0 (by omega) 0 (by omega) (by omega)
  exact ⟨q, a, e, hs, hi⟩
theorem term_both (b : Int) (rows : List (List Int)) (outs : List Int) (h : isSq b rows outs = true) (n : Int) (n0 : 0 ≤ n) (n1 : n ≤ 60000) :
    ∃ t : Int, Ev (fun k => spec_TermAt.f k b rows outs n) t ∧ Ev (fun k => impl_Sequence_term.f k b rows outs n) t := by
  obtain ⟨h2, h4, hr1, hr16, ho, hrow⟩ := isSq_use h
  obtain ⟨m, rfl⟩ : ∃ m : Nat, n = m := ⟨n.toNat, by omega⟩
  obtain ⟨c, rfl⟩ : ∃ c : Nat, b = c := ⟨b.toNat, by omega⟩
  have hlen := dgs_len c 16 m
  have hdig : ∀ i (hi : i < (dgs c 16 m).length), 0 ≤ (dgs c 16 m)[i] ∧ (dgs c 16 m)[i] < (c : Int) := fun i hi => dgs_in c (by omega) 16 m _ (List.getElem_mem hi)
  obtain ⟨q, q0, q1, hs, hi⟩ := after_both c rows outs h (dgs c 16 m) hdig (by omega)
  have hIS := specIS_ev c rows outs (by omega) (fun i hi => by have := (hrow i hi).1; omega) (by omega)
  rw [h] at hIS
  have hp : 65536 ≤ c ^ 16 := Nat.pow_le_pow_left (show 2 ≤ c by omega) 16
  have hq : (65536 : Int) ≤ ((c ^ 16 : Nat) : Int) := Int.ofNat_le.2 hp
  have hSA : Ev (fun k => spec_StateAfter.f k c rows outs (dgs c 16 m)) q := by
    unfold spec_StateAfter.f
    refine Ev.bind hIS ?_
    simp only [if_true]
    refine Ev.bind (areDigits_ev c h2 h4 (dgs c 16 m) hdig hlen) ?_
    simp only [Bool.not_true]
    refine Ev.step (fun k => ?_) hs
    rw [spec_StateAfter.j0, if_neg (by decide)]
  refine ⟨rd outs q, ?_, ?_⟩
  · unfold spec_TermAt.f
    refine Ev.congr (fun k => if_neg (by omega)) (Ev.bind hIS ?_)
    simp only [if_true]
    refine Ev.bind (specPower16 c (by omega) (by omega)) ?_
    have hd : (decide ((m : Int) ≥ ((c ^ 16 : Nat) : Int))) = false := decide_eq_false (by omega)
    simp only [hd]
    refine Ev.step (fun k => by rw [spec_TermAt.j0, if_neg (by decide)]) ?_
    refine Ev.bind (specDigits_ev c m (by omega) (by omega) (by omega)) (Ev.bind hSA ?_)
    refine Ev.congr (fun k => (if_pos q0).trans (if_pos (by omega))) (Ev.now _)
  · unfold impl_Sequence_term.f
    refine Ev.bind (implDigits_ev c m (by omega) (by omega) (by omega)) (Ev.bind hi ?_)
    refine Ev.congr (fun k => (if_pos q0).trans (if_pos (by omega))) (Ev.now _)

/-! Node19 -/
def vL (v : V3) : List Int := [v.1, v.2.1, v.2.2]
def okV (v : V3) : Prop := ∀ j : Int, 0 ≤ j → j ≤ 2 → 0 ≤ trG v j ∧ trG v j ≤ 60000
theorem vL_get (v : V3) (j : Int) (h0 : 0 ≤ j) (h2 : j ≤ 2) : rd (vL v) j = trG v j := by
  have : j = 0 ∨ j = 1 ∨ j = 2 := by omega
  rcases this with rfl | rfl | rfl <;> rfl
theorem vL_set (v : V3) (j : Int) (h0 : 0 ≤ j) (h2 : j ≤ 2) (y : Int) : (vL v).set j.toNat y = vL (trS v j y) := by
  have : j = 0 ∨ j = 1 ∨ j = 2 := by omega
  rcases this with rfl | rfl | rfl <;> rfl
theorem trS_trS (v : V3) (j x y : Int) : trS (trS v j x) j y = trS v j y := by
  unfold trS
  simp only
  congr 1
  · split <;> simp_all
  · congr 1
    · split <;> simp_all
    · split <;> simp_all
theorem okV_set {v : V3} (h : okV v) (j y : Int) (y0 : 0 ≤ y) (y1 : y ≤ 60000) : okV (trS v j y) := by
  intro i i0 i2
  have hi := h i i0 i2
  have : i = 0 ∨ i = 1 ∨ i = 2 := by omega
  rcases this with rfl | rfl | rfl <;> simp [trG, trS] at hi ⊢ <;> split <;> omega
theorem tried_f (b : Int) (rows : List (List Int)) (outs : List Int) (f : List S71) (i : Nat) (hi : i < f.length) (v : V3) (most : Int) {r : Bool}
    (h : Ev (fun k => impl_tried.g k b rows outs f f[i] v most) r) : Ev (fun k => impl_tried.f k b rows outs f (i : Int) v most) r := by
  refine Ev.step (fun k => ?_) h
  rw [impl_tried.f, if_pos (by omega), if_pos (by omega), rdN_of hi]
theorem node_both (b : Int) (rows : List (List Int)) (outs : List Int) (h : isSq b rows outs = true) (f : List S71) (hF : isFm f) (M : Nat) (hM : M ≤ 12) :
    ∀ i (hi : i < f.length) (v : V3), okV v → ∃ r : Bool, Ev (fun k => spec_l19Node.f k b rows outs f (i : Int) (vL v) (M : Int)) r ∧ Ev (fun k => impl_tried.f k b rows outs f (i : Int) v (M : Int)) r := by
  intro i
  induction i using Nat.strongRecOn with
  | _ i ih =>
    intro hi v hv
    have g := hF.2.2.1 i hi
    have h40 := hF.2.1
    have hr : rd_T71 f (i : Int) = f[i] := rdN_of hi
    have hlen : ((vL v).length : Int) = 3 := rfl
    rcases opcases f[i].f0 with e | e | e | e | e | e | e | e | e | e | ⟨n1, n2, n3, n4, n5, n6, n7, n8, n9, n10⟩
    · simp only [okN, nB, fB, kidsL, e, vB] at g
      simp at g
      have hx := vL_get v f[i].f1 (by omega) (by omega)
      have hy := vL_get v f[i].f2 (by omega) (by omega)
      refine ⟨trG v f[i].f1 == trG v f[i].f2, Ev.step (f := fun _ => some _) (fun k => ?_) (Ev.now _), tried_f b rows outs f i hi v M (Ev.step (f := fun _ => some _) (fun k => ?_) (Ev.now _))⟩
      · rw [spec_l19Node.f, if_pos (by omega), if_pos (by omega), hr, if_pos e, if_pos (by omega), if_pos (by omega), if_pos (by omega), if_pos (by omega), hx, hy]
      · rw [impl_tried.g, if_pos e, if_pos (by omega)]
    · simp only [okN, nB, fB, kidsL, e, vB] at g
      simp at g
      have hx := vL_get v f[i].f1 (by omega) (by omega)
      have hy := vL_get v f[i].f2 (by omega) (by omega)
      refine ⟨decide (trG v f[i].f1 < trG v f[i].f2), Ev.step (f := fun _ => some _) (fun k => ?_) (Ev.now _), tried_f b rows outs f i hi v M (Ev.step (f := fun _ => some _) (fun k => ?_) (Ev.now _))⟩
      · rw [spec_l19Node.f, if_pos (by omega), if_pos (by omega), hr, if_neg (by omega), if_pos e, if_pos (by omega), if_pos (by omega), if_pos (by omega), if_pos (by omega), hx, hy]
      · rw [impl_tried.g, if_neg (by omega), if_pos e, if_pos (by omega)]
    · simp only [okN, nB, fB, kidsL, e, vB] at g
      simp at g
      have hx := vL_get v f[i].f1 (by omega) (by omega)
      have hy := vL_get v f[i].f2 (by omega) (by omega)
      have hz := vL_get v f[i].f3 (by omega) (by omega)
      refine ⟨wrap64 (trG v f[i].f1 + trG v f[i].f2) == trG v f[i].f3, Ev.step (f := fun _ => some _) (fun k => ?_) (Ev.now _), tried_f b rows outs f i hi v M (Ev.step (f := fun _ => some _) (fun k => ?_) (Ev.now _))⟩
      · rw [spec_l19Node.f, if_pos (by omega), if_pos (by omega), hr, if_neg (by omega), if_neg (by omega), if_pos e, if_pos (by omega), if_pos (by omega), if_pos (by omega), if_pos (by omega), if_pos (by omega), if_pos (by omega), hx, hy, hz]
      · rw [impl_tried.g, if_neg (by omega), if_neg (by omega), if_pos e, if_pos (by omega)]
    · simp only [okN, nB, fB, kidsL, e, vB] at g
      simp at g
      have hx := vL_get v f[i].f1 (by omega) (by omega)
      refine ⟨trG v f[i].f1 == f[i].f2, Ev.step (f := fun _ => some _) (fun k => ?_) (Ev.now _), tried_f b rows outs f i hi v M (Ev.step (f := fun _ => some _) (fun k => ?_) (Ev.now _))⟩
      · rw [spec_l19Node.f, if_pos (by omega), if_pos (by omega), hr, if_neg (by omega), if_neg (by omega), if_neg (by omega), if_pos e, if_pos (by omega), if_pos (by omega), hx]
      · rw [impl_tried.g, if_neg (by omega), if_neg (by omega), if_neg (by omega), if_pos e, if_pos (by omega)]
    · simp only [okN, nB, fB, kidsL, e, vB] at g
      simp at g
      have hx := vL_get v f[i].f1 (by omega) (by omega)
      obtain ⟨v0, v1⟩ := hv f[i].f1 (by omega) (by omega)
      obtain ⟨t, ts, ti⟩ := term_both b rows outs h (trG v f[i].f1) v0 v1
      refine ⟨t == f[i].f2, Ev.step (fun k => ?_) (Ev.bind (f := fun _ t => some (t == f[i].f2)) ts (Ev.now _)), tried_f b rows outs f i hi v M (Ev.step (fun k => ?_) (Ev.bind (f := fun _ t => some (t == f[i].f2)) ti (Ev.now _)))⟩
      · rw [spec_l19Node.f, if_pos (by omega), if_pos (by omega), hr, if_neg (by omega), if_neg (by omega), if_neg (by omega), if_neg (by omega), if_pos e, if_pos (by omega), if_pos (by omega), hx]
      · rw [impl_tried.g, if_neg (by omega), if_neg (by omega), if_neg (by omega), if_neg (by omega), if_pos e, if_pos (by omega)]
    · simp only [okN, nB, fB, kidsL, e, vB] at g
      simp [inB] at g
      obtain ⟨m, hm⟩ : ∃ m : Nat, f[i].f1 = m := ⟨f[i].f1.toNat, by omega⟩
      obtain ⟨r, rs, ri⟩ := ih m (by omega) (by omega) v hv
      refine ⟨!r, Ev.step (fun k => ?_) (Ev.bind (f := fun _ t => some (!t)) rs (Ev.now _)), tried_f b rows outs f i hi v M (Ev.step (fun k => ?_) (Ev.bind (f := fun _ t => some (!t)) ri (Ev.now _)))⟩
      · rw [spec_l19Node.f, if_pos (by omega), if_pos (by omega), hr, if_neg (by omega), if_neg (by omega), if_neg (by omega), if_neg (by omega), if_neg (by omega), if_pos e, hm]
      · rw [impl_tried.g, if_neg (by omega), if_neg (by omega), if_neg (by omega), if_neg (by omega), if_neg (by omega), if_pos e, hm]
    · simp only [okN, nB, fB, kidsL, e, vB] at g
      simp [inB] at g
      obtain ⟨m, hm⟩ : ∃ m : Nat, f[i].f1 = m := ⟨f[i].f1.toNat, by omega⟩
      obtain ⟨m2, hm2⟩ : ∃ m : Nat, f[i].f2 = m := ⟨f[i].f2.toNat, by omega⟩
      obtain ⟨r, rs, ri⟩ := ih m (by omega) (by omega) v hv
      obtain ⟨r2, rs2, ri2⟩ := ih m2 (by omega) (by omega) v hv
      refine ⟨if r = true then r2 else false, Ev.step (f := fun k => (spec_l19Node.f k b rows outs f (m : Int) (vL v) (M : Int)).bind fun t => if t = true then (spec_l19Node.f k b rows outs f (m2 : Int) (vL v) (M : Int)).bind some else some false) (fun k => ?_) (Ev.bind rs ?_), tried_f b rows outs f i hi v M (Ev.step (f := fun k => (impl_tried.f k b rows outs f (m : Int) v (M : Int)).bind fun t => if t = true then impl_tried.f k b rows outs f (m2 : Int) v (M : Int) else some false) (fun k => ?_) (Ev.bind ri ?_))⟩
      · rw [spec_l19Node.f, if_pos (by omega), if_pos (by omega), hr, if_neg (by omega), if_neg (by omega), if_neg (by omega), if_neg (by omega), if_neg (by omega), if_neg (by omega), if_pos e, hm, hm2]
      · cases r with
        | true => simp only [if_true]; exact Ev.bind rs2 (Ev.now _)
        | false => simp only [Bool.false_eq_true, if_false]; exact Ev.now _
      · rw [impl_tried.g, if_neg (by omega), if_neg (by omega), if_neg (by omega), if_neg (by omega), if_neg (by omega), if_neg (by omega), if_pos e, hm, hm2]
      · cases r with
        | true => simp only [if_true]; exact ri2
        | false => simp only [Bool.false_eq_true, if_false]; exact Ev.now _
    · simp only [okN, nB, fB, kidsL, e, vB] at g
      simp [inB] at g
      obtain ⟨m, hm⟩ : ∃ m : Nat, f[i].f1 = m := ⟨f[i].f1.toNat, by omega⟩
      obtain ⟨m2, hm2⟩ : ∃ m : Nat, f[i].f2 = m := ⟨f[i].f2.toNat, by omega⟩
      obtain ⟨r, rs, ri⟩ := ih m (by omega) (by omega) v hv
      obtain ⟨r2, rs2, ri2⟩ := ih m2 (by omega) (by omega) v hv
      refine ⟨if r = true then true else r2, Ev.step (f := fun k => (spec_l19Node.f k b rows outs f (m : Int) (vL v) (M : Int)).bind fun t => if t = true then some true else (spec_l19Node.f k b rows outs f (m2 : Int) (vL v) (M : Int)).bind some) (fun k => ?_) (Ev.bind rs ?_), tried_f b rows outs f i hi v M (Ev.step (f := fun k => (impl_tried.f k b rows outs f (m : Int) v (M : Int)).bind fun t => if t = true then some true else impl_tried.f k b rows outs f (m2 : Int) v (M : Int)) (fun k => ?_) (Ev.bind ri ?_))⟩
      · rw [spec_l19Node.f, if_pos (by omega), if_pos (by omega), hr, if_neg (by omega), if_neg (by omega), if_neg (by omega), if_neg (by omega), if_neg (by omega), if_neg (by omega), if_neg (by omega), if_pos e, hm, hm2]
      · cases r with
        | true => simp only [if_true]; exact Ev.now _
        | false => simp only [Bool.false_eq_true, if_false]; exact Ev.bind rs2 (Ev.now _)
      · rw [impl_tried.g, if_neg (by omega), if_neg (by omega), if_neg (by omega), if_neg (by omega), if_neg (by omega), if_neg (by omega), if_neg (by omega), if_pos e, hm, hm2]
      · cases r with
        | true => simp only [if_true]; exact Ev.now _
        | false => simp only [Bool.false_eq_true, if_false]; exact ri2
    rotate_left 2
    · exact absurd g (by simp [okN, nB, fB, n1, n2, n3, n4, n5, n6, n7, n8, n9, n10])
    all_goals
      simp only [okN, nB, fB, kidsL, e, vB] at g
      simp [inB] at g
      obtain ⟨m2, hm2⟩ : ∃ m : Nat, f[i].f2 = m := ⟨f[i].f2.toNat, by omega⟩
      have j0 : 0 ≤ f[i].f1 := by omega
      have j2 : f[i].f1 ≤ 2 := by omega
      have key := downs (P := fun c => ∀ v' : V3, (∀ y, trS v' f[i].f1 y = trS v f[i].f1 y) → ∃ r : Bool, Ev (fun k => spec_l19Node.l0 k f (vL v) (M : Int) (c : Int) b rows outs f[i].f0 f[i].f1 f[i].f2 f[i].f3) r ∧ Ev (fun k => impl_tried.l0 k b rows outs f f[i] v' (M : Int) (c : Int)) r) (M + 1)
        (fun c hc ihc v' hv' => by
          obtain ⟨r, rs, ri⟩ := ih m2 (by omega) (by omega) (trS v f[i].f1 c) (okV_set hv _ _ (by omega) (by omega))
          obtain ⟨r', rs', ri'⟩ := ihc (trS v f[i].f1 c) (fun y => trS_trS v _ _ y)
          refine ⟨if (r == (f[i].f0 == 9)) = true then r else r', Ev.step (f := fun k => (spec_l19Node.f k b rows outs f (m2 : Int) (vL (trS v f[i].f1 c)) (M : Int)).bind fun t => if (t == (f[i].f0 == 9)) = true then some t else spec_l19Node.l0 k f (vL v) (M : Int) ((c + 1 : Nat) : Int) b rows outs f[i].f0 f[i].f1 f[i].f2 f[i].f3) (fun k => ?_) (Ev.bind rs ?_),
            Ev.step (f := fun k => (impl_tried.f k b rows outs f (m2 : Int) (trS v f[i].f1 c) (M : Int)).bind fun t => if (t == (f[i].f0 == 9)) = true then some (f[i].f0 == 9) else impl_tried.l0 k b rows outs f f[i] (trS v f[i].f1 c) (M : Int) ((c + 1 : Nat) : Int)) (fun k => ?_) (Ev.bind ri ?_)⟩
          · rw [spec_l19Node.l0, if_pos (by omega), Option.bind_some, if_pos (show ([] : List Int).length + (vL v).length < 17592186044416 from by show 0 + 3 < 17592186044416; omega), Option.bind_some, if_pos j0, if_pos (by rw [List.nil_append]; omega), List.nil_append, vL_set v _ j0 j2, hm2, w64 (by omega) (by omega)]
            rfl
          · by_cases q : (r == (f[i].f0 == 9)) = true
            · simp only [if_pos q]; exact Ev.now _
            · simp only [if_neg q]; exact rs'
          · rw [impl_tried.l0, w64 (by omega) (by omega), if_pos (by omega), if_pos (by omega), hv', hm2, w64 (by omega) (by omega)]
            rfl
          · by_cases q : (r == (f[i].f0 == 9)) = true
            · simp only [if_pos q]
              rw [beq_iff_eq] at q
              rw [q]; exact Ev.now _
            · simp only [if_neg q]; exact ri')
        (fun v' hv' => by
          refine ⟨f[i].f0 == 10, Ev.step (f := fun _ => some _) (fun k => ?_) (Ev.now _), Ev.step (f := fun _ => some _) (fun k => ?_) (Ev.now _)⟩
          · rw [spec_l19Node.l0, if_neg (by omega)]
          · rw [impl_tried.l0, w64 (by omega) (by omega), if_neg (by omega)])
      obtain ⟨r, rs, ri⟩ := key 0 (by omega) v (fun y => rfl)
      refine ⟨r, Ev.step (fun k => ?_) rs, tried_f b rows outs f i hi v M (Ev.step (fun k => ?_) ri)⟩
      · rw [spec_l19Node.f, if_pos (by omega), if_pos (by omega), hr, if_neg (by omega), if_neg (by omega), if_neg (by omega), if_neg (by omega), if_neg (by omega), if_neg (by omega), if_neg (by omega), if_neg (by omega)]
        rfl
      · rw [impl_tried.g, if_neg (by omega), if_neg (by omega), if_neg (by omega), if_neg (by omega), if_neg (by omega), if_neg (by omega), if_neg (by omega), if_neg (by omega)]
        rfl

/-! CountQuantifiers -/
def isQ (x : S71) : Bool := decide (x.f0 = 9 ∨ x.f0 = 10)
theorem isQuant_eq (a b c d : Int) : impl_Node_isQuantifier.f a b c d = some (isQ ⟨a, b, c, d⟩) := by
  unfold impl_Node_isQuantifier.f isQ
  by_cases h : a = 9
  · simp [h]
  · rw [if_neg h]
    simp [h]
    exact Bool.beq_eq_decide_eq a 10
theorem oneIf_eq (b : Bool) : impl_oneIf.f b = some (if b then 1 else 0) := by
  unfold impl_oneIf.f
  cases b <;> rfl
/-! DepthOf -/
theorem kidsN_lt {f : List S71} (hF : isFm f) {i : Nat} (hi : i < f.length) {c : Nat} (hc : c < (kidsN f[i]).length) : ∃ m : Nat, (kidsN f[i])[c] = (m : Int) ∧ m < i := by
  have := kid_in (hF.2.2.1 i hi) ((kidsN f[i])[c]) (List.getElem_mem hc)
  exact ⟨((kidsN f[i])[c]).toNat, by omega, by omega⟩
theorem depth_both (f : List S71) (hF : isFm f) : ∀ i (hi : i < f.length), ∃ r : Int, 0 ≤ r ∧ r ≤ i + 1 ∧ Ev (fun k => spec_l16Depth.f k f (i : Int)) r ∧ Ev (fun k => impl_depth.f k f (i : Int)) r := by
  intro i
  induction i using Nat.strongRecOn with
  | _ i ih =>
    intro hi
    have h40 := hF.2.1
    have hr : rd_T71 f (i : Int) = f[i] := rdN_of hi
    have kl : (kidsN f[i]).length ≤ 2 := kidsL_len _ _ _ _
    have key := downs (P := fun c => ∀ acc : Int, 0 ≤ acc → acc ≤ i → ∃ r : Int, 0 ≤ r ∧ r ≤ i + 1 ∧ Ev (fun k => spec_l16Depth.l0 k f (i : Int) acc (kidsN f[i]) (c : Int)) r ∧ Ev (fun k => impl_depth.l0 k f (i : Int) acc (kidsN f[i]) (kidsN f[i]).length (c : Int)) r) (kidsN f[i]).length
      (fun c hc ihc acc h0 h1 => by
        obtain ⟨m, hm, hmi⟩ := kidsN_lt hF hi hc
        have hrc : rd (kidsN f[i]) (c : Int) = (kidsN f[i])[c] := rd_of hc
        obtain ⟨d, d0, d1, ds, di⟩ := ih m hmi (by omega)
        obtain ⟨r, r0, r1, hs, hm2⟩ := ihc (mx acc d) (by unfold mx; omega) (by unfold mx; omega)
        refine ⟨r, r0, r1, ?_, ?_⟩
        · refine Ev.step (f := fun k => (spec_l16Depth.f k f (m : Int)).bind fun t => spec_l16Depth.l0 k f (i : Int) (mx acc t) (kidsN f[i]) ((c + 1 : Nat) : Int)) (fun k => ?_) (Ev.bind ds hs)
          rw [spec_l16Depth.l0, if_pos (by omega), if_pos (by omega), hrc, hm, w64 (by omega) (by omega)]
          rfl
        · refine Ev.step (f := fun k => (impl_depth.f k f (m : Int)).bind fun t => impl_depth.l0 k f (i : Int) (mx acc t) (kidsN f[i]) (kidsN f[i]).length ((c + 1 : Nat) : Int)) (fun k => ?_) (Ev.bind di hm2)
          rw [impl_depth.l0, if_pos (by omega), if_pos (by omega), if_pos (by omega), hrc, hm, w64 (by omega) (by omega)]
          rfl)
      (fun acc h0 h1 => by
        refine ⟨acc + (if isQ f[i] then 1 else 0), by split <;> omega, by split <;> omega, Ev.step (f := fun _ => some _) (fun k => ?_) (Ev.now _), Ev.step (f := fun _ => some _) (fun k => ?_) (Ev.now _)⟩
        · rw [spec_l16Depth.l0, if_neg (by omega), if_pos (by omega), if_pos (by omega), hr]
          by_cases h9 : f[i].f0 = 9
          · rw [if_pos h9, w64 (by omega) (by omega)]
            simp [isQ, h9]
          · by_cases h10 : f[i].f0 = 10
            · rw [if_neg h9, if_pos h10, w64 (by omega) (by omega)]
              simp [isQ, h10]
            · rw [if_neg h9, if_neg h10]
              simp [isQ, h9, h10]
        · rw [impl_depth.l0, if_neg (by omega), if_pos (by omega), if_pos (by omega), hr, isQuant_eq, Option.bind_some, oneIf_eq, Option.bind_some, w64 (by split <;> omega) (by split <;> omega)])
    obtain ⟨r, r0, r1, hs, hm⟩ := key 0 (by omega) 0 (by omega) (by omega)
    refine ⟨r, r0, r1, ?_, ?_⟩
    · obtain ⟨K, hK⟩ := hs
      refine ⟨K + 2, fun k hk => ?_⟩
      obtain ⟨n, rfl⟩ : ∃ n, k = n + 2 := ⟨k - 2, by omega⟩
      show spec_l16Depth.f (n + 1 + 1) f (i : Int) = _
      rw [spec_l16Depth.f, if_pos (by omega), if_pos (by omega), hr, l16Kids_eq, Option.bind_some]
      exact hK _ (by omega)
    · obtain ⟨K, hK⟩ := hm
      refine ⟨K + 3, fun k hk => ?_⟩
      obtain ⟨n, rfl⟩ : ∃ n, k = n + 3 := ⟨k - 3, by omega⟩
      show impl_depth.f (n + 2 + 1) f (i : Int) = _
      rw [impl_depth.f, if_pos (by omega), if_pos (by omega), hr, kids_eq, Option.bind_some]
      exact hK _ (by omega)
theorem bothDepth' (f : List S71) (hb : f.length ≤ 1048576) : ∃ r : Int, -1 ≤ r ∧ r ≤ 40 ∧ Ev (fun k => spec_DepthOf.f k f) r ∧ Ev (fun k => impl_DepthOf.f k f) r := by
  by_cases hf : isF f = true
  · have hF := isF_true.1 hf
    have hl := hF.1
    have hl2 := hF.2.1
    obtain ⟨r, r0, r1, hs, hm⟩ := depth_both f hF (f.length - 1) (by omega)
    have e1 : wrap64 ((f.length : Int) - 1) = ((f.length - 1 : Nat) : Int) := by rw [w64 (by omega) (by omega)]; omega
    refine ⟨r, by omega, by omega, ?_, ?_⟩
    · unfold spec_DepthOf.f
      refine Ev.bind (specIF_ev f (by omega)) ?_
      simp only [hf, if_true, e1]
      exact Ev.bind hs (Ev.now _)
    · unfold impl_DepthOf.f
      refine Ev.bind (implIF_ev f (by omega)) ?_
      simp only [hf, if_true, e1]
      exact Ev.bind hm (Ev.now _)
  · have hf' : isF f = false := by simpa using hf
    refine ⟨-1, by omega, by omega, ?_, ?_⟩
    · unfold spec_DepthOf.f
      refine Ev.bind (specIF_ev f (by omega)) ?_
      simp only [hf', Bool.false_eq_true, if_false]
      exact Ev.now _
    · unfold impl_DepthOf.f
      refine Ev.bind (implIF_ev f (by omega)) ?_
      simp only [hf', Bool.false_eq_true, if_false]
      exact Ev.now _
/-! Values -/
def valS (x : Int) : Bool := decide (0 ≤ x ∧ x ≤ 60000)
theorem l19Values_ev (vs : List Int) (hl : vs.length ≤ 1048576) : Ev (fun k => spec_l19Values.f k vs) (vs.all valS && ((vs.length : Int) == 3)) := by
  have key := downs (P := fun c => Ev (fun k => spec_l19Values.l0 k vs (c : Int)) ((vs.drop c).all valS && ((vs.length : Int) == 3))) vs.length
    (fun c hc ih => by
      rw [drop_at hc, List.all_cons]
      cases h : valS vs[c] with
      | true =>
        have h' : decide (0 ≤ vs[c] ∧ vs[c] ≤ 60000) = true := h
        refine Ev.step (fun k => ?_) (Ev.eq ih (by rw [Bool.true_and]))
        rw [spec_l19Values.l0, if_pos (by omega), if_pos (by omega), rd_of hc, l1In_eq, Option.bind_some, h', if_pos rfl, w64 (by omega) (by omega)]
        rfl
      | false =>
        have h' : decide (0 ≤ vs[c] ∧ vs[c] ≤ 60000) = false := h
        refine Ev.step (f := fun _ => some false) (fun k => ?_) (Ev.eq (Ev.now _) (by simp))
        rw [spec_l19Values.l0, if_pos (by omega), if_pos (by omega), rd_of hc, l1In_eq, Option.bind_some, h', if_neg (by decide)])
    (by
      refine Ev.step (f := fun _ => some _) (fun k => ?_) (Ev.now _)
      rw [spec_l19Values.l0, if_neg (by omega), List.drop_length, List.all_nil, Bool.true_and])
  exact key 0 (by omega)

/-! EvaluateFormula -/
theorem trS_0 (a b c x : Int) : trS (a, b, c) 0 x = (x, b, c) := by simp [trS]
theorem trS_1 (a b c x : Int) : trS (a, b, c) 1 x = (a, x, c) := by simp [trS]
theorem trS_2 (a b c x : Int) : trS (a, b, c) 2 x = (a, b, x) := by simp [trS]
theorem evaluate_both (b : Int) (rows : List (List Int)) (outs : List Int) (f : List S71) (vs : List Int) (most : Int)
    (hl : rows.length ≤ 1048576) (hr : ∀ i (h : i < rows.length), rows[i].length ≤ 1048576) (ho : outs.length ≤ 1048576) (hf : f.length ≤ 1048576) (hv : vs.length ≤ 1048576) :
    ∃ r : Bool, Ev (fun k => spec_EvaluateFormula.f k b rows outs f vs most) r ∧ Ev (fun k => impl_EvaluateFormula.f k b rows outs f vs most) r := by
  have hS := specIS_ev b rows outs hl hr ho
  have hI := implIS_ev b rows outs hl hr
  cases hsq : isSq b rows outs with
  | false =>
    rw [hsq] at hS hI
    refine ⟨false, ?_, ?_⟩
    · unfold spec_EvaluateFormula.f
      refine Ev.bind hS ?_
      simp only [Bool.false_eq_true, if_false]
      exact Ev.now _
    · unfold impl_EvaluateFormula.f
      refine Ev.bind hI ?_
      simp only [Bool.false_eq_true, if_false]
      exact Ev.now _
  | true =>
    rw [hsq] at hS hI
    cases hfm : isF f with
    | false =>
      have h1 := specIF_ev f (by omega)
      have h2 := implIF_ev f (by omega)
      rw [hfm] at h1 h2
      refine ⟨false, ?_, ?_⟩
      · unfold spec_EvaluateFormula.f
        refine Ev.bind hS ?_
        simp only [if_true]
        refine Ev.bind h1 ?_
        simp only [Bool.false_eq_true, if_false]
        exact Ev.now _
      · unfold impl_EvaluateFormula.f
        refine Ev.bind hI ?_
        simp only [if_true]
        refine Ev.bind h2 ?_
        simp only [Bool.false_eq_true, if_false]
        exact Ev.now _
    | true =>
      have h1 := specIF_ev f (by omega)
      have h2 := implIF_ev f (by omega)
      rw [hfm] at h1 h2
      have hF := isF_true.1 hfm
      have f1 := hF.1
      have f40 := hF.2.1
      obtain ⟨d, d0, d1, ds, di⟩ := bothDepth' f hf
      have hvs := l19Values_ev vs hv
      -- what comes behind the two tests on the formula
      suffices hh : ∃ r : Bool, Ev (fun k => (spec_l19Values.f k vs).bind fun t656 => (if t656 = true then ((spec_l1In.f most 0 12).bind fun t657 => (if t657 = true then ((spec_DepthOf.f k f).bind fun t658 => (if t658 > 3 then (some false) else ((spec_l19Node.f k b rows outs f (wrap64 ((f.length : Int) - 1)) vs most).bind fun t659 => (some t659)))) else (some false))) else (some false))) r
          ∧ Ev (fun k => if (vs.length : Int) = 3 then (if most < 0 then some false else (if most > 12 then some false else ((impl_DepthOf.f k f).bind fun d => if d > 3 then some false else impl_EvaluateFormula.l0 k b rows outs f vs most (0, 0, 0) 0))) else some false) r by
        obtain ⟨r, a, e⟩ := hh
        refine ⟨r, ?_, ?_⟩
        · unfold spec_EvaluateFormula.f
          refine Ev.bind hS ?_
          simp only [if_true]
          refine Ev.bind h1 ?_
          simp only [if_true]
          exact a
        · unfold impl_EvaluateFormula.f
          refine Ev.bind hI ?_
          simp only [if_true]
          refine Ev.bind h2 ?_
          simp only [if_true]
          exact e
      by_cases h3 : vs.length = 3
      · obtain ⟨x, y, z, rfl⟩ : ∃ x y z, vs = [x, y, z] := by
          match vs, h3 with
          | [x, y, z], _ => exact ⟨x, y, z, rfl⟩
        have hv3 : ((([x, y, z] : List Int).length : Int) = 3) := rfl
        by_cases hm : 0 ≤ most ∧ most ≤ 12
        · obtain ⟨M, rfl⟩ : ∃ M : Nat, most = M := ⟨most.toNat, by omega⟩
          have e1 : wrap64 ((f.length : Int) - 1) = ((f.length - 1 : Nat) : Int) := by rw [w64 (by omega) (by omega)]; omega
          by_cases hd : d > 3
          · cases hval : ([x, y, z] : List Int).all valS with
            | true =>
              rw [hval] at hvs
              refine ⟨false, Ev.bind hvs ?_, ?_⟩
              · simp only [hv3, beq_self_eq_true, Bool.and_self, if_true, l1In_eq, Option.bind_some, decide_eq_true hm]
                refine Ev.bind ds ?_
                simp only [if_pos hd]
                exact Ev.now _
              · simp only [hv3, if_true, if_neg (show ¬ ((M : Int) < 0) by omega), if_neg (show ¬ ((M : Int) > 12) by omega)]
                refine Ev.bind di ?_
                simp only [if_pos hd]
                exact Ev.now _
            | false =>
              rw [hval] at hvs
              refine ⟨false, Ev.bind hvs ?_, ?_⟩
              · simp only [Bool.false_and, Bool.false_eq_true, if_false]
                exact Ev.now _
              · simp only [hv3, if_true, if_neg (show ¬ ((M : Int) < 0) by omega), if_neg (show ¬ ((M : Int) > 12) by omega)]
                refine Ev.bind di ?_
                simp only [if_pos hd]
                exact Ev.now _
          · cases hval : ([x, y, z] : List Int).all valS with
            | true =>
              rw [hval] at hvs
              have hok : okV (x, y, z) := by
                simp only [List.all_cons, List.all_nil, Bool.and_true, Bool.and_eq_true, valS, decide_eq_true_eq] at hval
                intro j j0 j2
                have : j = 0 ∨ j = 1 ∨ j = 2 := by omega
                rcases this with rfl | rfl | rfl <;> simp [trG] <;> omega
              obtain ⟨r, rs, ri⟩ := node_both b rows outs hsq f hF M (by omega) (f.length - 1) (by omega) (x, y, z) hok
              refine ⟨r, Ev.bind hvs ?_, ?_⟩
              · simp only [hv3, beq_self_eq_true, Bool.and_self, if_true, l1In_eq, Option.bind_some, decide_eq_true hm]
                refine Ev.bind ds ?_
                simp only [if_neg hd, e1]
                exact Ev.bind rs (Ev.now _)
              · simp only [hv3, if_true, if_neg (show ¬ ((M : Int) < 0) by omega), if_neg (show ¬ ((M : Int) > 12) by omega)]
                refine Ev.bind di ?_
                simp only [if_neg hd]
                simp only [List.all_cons, List.all_nil, Bool.and_true, Bool.and_eq_true, valS, decide_eq_true_eq] at hval
                obtain ⟨⟨x0, x1⟩, ⟨y0, y1⟩, z0, z1⟩ := hval
                refine Ev.step (fun k => ?_) (Ev.step (g := fun k => impl_EvaluateFormula.l0 k b rows outs f [x, y, z] M (x, 0, 0) 1) (fun k => ?_) (Ev.step (g := fun k => impl_EvaluateFormula.l0 k b rows outs f [x, y, z] M (x, y, 0) 2) (fun k => ?_) (Ev.step (g := fun k => impl_EvaluateFormula.l0 k b rows outs f [x, y, z] M (x, y, z) 3) (fun k => ?_) ri)))
                · rw [impl_EvaluateFormula.l0, if_pos (by omega), if_pos (by omega), show rd [x, y, z] 0 = x from rfl, if_neg (by omega), if_neg (by omega), trS_0, w64 (by omega) (by omega)]; rfl
                · rw [impl_EvaluateFormula.l0, if_pos (by omega), if_pos (by omega), show rd [x, y, z] 1 = y from rfl, if_neg (by omega), if_neg (by omega), trS_1, w64 (by omega) (by omega)]; rfl
                · rw [impl_EvaluateFormula.l0, if_pos (by omega), if_pos (by omega), show rd [x, y, z] 2 = z from rfl, if_neg (by omega), if_neg (by omega), trS_2, w64 (by omega) (by omega)]; rfl
                · rw [impl_EvaluateFormula.l0, if_neg (by omega), e1]
            | false =>
              rw [hval] at hvs
              refine ⟨false, Ev.bind hvs ?_, ?_⟩
              · simp only [Bool.false_and, Bool.false_eq_true, if_false]
                exact Ev.now _
              · simp only [hv3, if_true, if_neg (show ¬ ((M : Int) < 0) by omega), if_neg (show ¬ ((M : Int) > 12) by omega)]
                refine Ev.bind di ?_
                simp only [if_neg hd]
                by_cases hx : 0 ≤ x ∧ x ≤ 60000
                · refine Ev.step (g := fun k => impl_EvaluateFormula.l0 k b rows outs f [x, y, z] M (0, 0, 0) 0) (f := fun k => impl_EvaluateFormula.l0 k b rows outs f [x, y, z] M (x, 0, 0) 1) (fun k => ?_) ?_
                  · rw [impl_EvaluateFormula.l0, if_pos (by omega), if_pos (by omega), show rd [x, y, z] 0 = x from rfl, if_neg (by omega), if_neg (by omega), trS_0, w64 (by omega) (by omega)]; rfl
                  by_cases hy : 0 ≤ y ∧ y ≤ 60000
                  · refine Ev.step (g := fun k => impl_EvaluateFormula.l0 k b rows outs f [x, y, z] M (x, 0, 0) 1) (f := fun k => impl_EvaluateFormula.l0 k b rows outs f [x, y, z] M (x, y, 0) 2) (fun k => ?_) ?_
                    · rw [impl_EvaluateFormula.l0, if_pos (by omega), if_pos (by omega), show rd [x, y, z] 1 = y from rfl, if_neg (by omega), if_neg (by omega), trS_1, w64 (by omega) (by omega)]; rfl
                    have hz : ¬ (0 ≤ z ∧ z ≤ 60000) := by
                      intro hz
                      simp [valS, hx, hy, hz] at hval
                    refine Ev.step (f := fun _ => some false) (fun k => ?_) (Ev.now _)
                    rw [impl_EvaluateFormula.l0, if_pos (by omega), if_pos (by omega), show rd [x, y, z] 2 = z from rfl]
                    by_cases q : z < 0
                    · rw [if_pos q]
                    · rw [if_neg q, if_pos (by omega)]
                  · refine Ev.step (f := fun _ => some false) (fun k => ?_) (Ev.now _)
                    rw [impl_EvaluateFormula.l0, if_pos (by omega), if_pos (by omega), show rd [x, y, z] 1 = y from rfl]
                    by_cases q : y < 0
                    · rw [if_pos q]
                    · rw [if_neg q, if_pos (by omega)]
                · refine Ev.step (f := fun _ => some false) (fun k => ?_) (Ev.now _)
                  rw [impl_EvaluateFormula.l0, if_pos (by omega), if_pos (by omega), show rd [x, y, z] 0 = x from rfl]
                  by_cases q : x < 0
                  · rw [if_pos q]
                  · rw [if_neg q, if_pos (by omega)]
        · refine ⟨false, Ev.bind hvs ?_, ?_⟩
          · cases hval : ([x, y, z] : List Int).all valS with
            | true =>
              simp only [hv3, beq_self_eq_true, Bool.and_self, if_true, l1In_eq, Option.bind_some, decide_eq_false hm, Bool.false_eq_true, if_false]
              exact Ev.now _
            | false =>
              simp only [Bool.false_and, Bool.false_eq_true, if_false]
              exact Ev.now _
          · simp only [hv3, if_true]
            by_cases q : most < 0
            · simp only [if_pos q]; exact Ev.now _
            · simp only [if_neg q, if_pos (show most > 12 by omega)]; exact Ev.now _
      · refine ⟨false, Ev.bind hvs ?_, ?_⟩
        · have e : (vs.all valS && ((vs.length : Int) == 3)) = false := by
            have : ((vs.length : Int) == 3) = false := by simp; omega
            rw [this, Bool.and_false]
          simp only [e, Bool.false_eq_true, if_false]
          exact Ev.now _
        · simp only [if_neg (show ¬ ((vs.length : Int) = 3) by omega)]
          exact Ev.now _

/-! Numbers15 -/
/-- The digit of a letter in one track (of t tracks, base b). -/
def dg15 (b t : Nat) (x : Int) (p : Nat) : Nat := x.toNat / b ^ (t - 1 - p) % b
theorem map_range_set {α : Type} (f g : Nat → α) (t c : Nat) (v : α) (hv : v = g c) (h : ∀ p, p < t → p ≠ c → g p = f p) : ((List.range t).map f).set c v = (List.range t).map g := by
  apply List.ext_getElem (by simp)
  intro p h1 h2
  rw [List.getElem_set]
  simp only [List.length_map, List.length_range] at h2
  split
  · subst hv
    simp
    congr 1
  · simp
    exact (h p h2 (fun e => by omega)).symm
def trk15 (b t : Nat) (x : Int) : List Int := (List.range t).map fun p => ((dg15 b t x p : Nat) : Int)
/-! Words11 -/
theorem tdiv_pow1 (b t x j : Nat) (hj : j < t) : Int.tdiv ((x / b ^ (t - 1 - j) : Nat) : Int) (b : Int) = ((x / b ^ (t - j) : Nat) : Int) := by
  rw [tdiv_nat, Nat.div_div_eq_div_mul, show b ^ (t - 1 - j) * b = b ^ (t - j) by rw [← Nat.pow_succ]; congr 1; omega]
theorem word11_ev (b t : Nat) (h2 : 1 ≤ b) (h3 : b ≤ 21) (ht : t ≤ 3) (x : Int) (x0 : 0 ≤ x) (x1 : x ≤ 10000) : Ev (fun k => spec_l11Word.f k (b : Int) (t : Int) x) (trk15 b t x) := by
  obtain ⟨n, rfl⟩ : ∃ n : Nat, x = n := ⟨x.toNat, by omega⟩
  have key : ∀ i, i ≤ t → Ev (fun k => spec_l11Word.l0 k (b : Int) ((n / b ^ (t - i) : Nat) : Int) ((List.range t).map fun p => if p < i then 0 else ((dg15 b t (n : Int) p : Nat) : Int)) ((i : Int) - 1)) (trk15 b t (n : Int)) := by
    intro i
    induction i with
    | zero =>
      intro _
      refine Ev.step (f := fun _ => some _) (fun k => ?_) (Ev.now _)
      rw [spec_l11Word.l0, if_neg (by omega)]
      simp [trk15]
    | succ i ih =>
      intro hi
      have hs2 : n / b ^ (t - i) ≤ n := Nat.div_le_self _ _
      refine Ev.step (fun k => ?_) (ih (by omega))
      have hd : Int.tdiv ((n / b ^ (t - (i + 1)) : Nat) : Int) (b : Int) = ((n / b ^ (t - i) : Nat) : Int) := by
        rw [show t - (i + 1) = t - 1 - i by omega, tdiv_pow1 b t n i (by omega)]
      have hs3 := Int.natCast_nonneg (n / b ^ (t - i))
      rw [spec_l11Word.l0, if_pos (by omega), if_neg (by omega), if_pos (by omega), if_pos (by simp; omega), hd, w64 (by omega) (by omega), w64 (by omega) (by omega), tmod_nat, show (((i + 1 : Nat) : Int) - 1) = (i : Int) by omega, Int.toNat_natCast,
        map_range_set _ (fun p => if p < i then (0 : Int) else ((dg15 b t (n : Int) p : Nat) : Int)) t i _ ?_ ?_]
      · rw [if_neg (by omega), show t - (i + 1) = t - 1 - i by omega]
        rfl
      · intro p hp hne
        by_cases c : p < i
        · rw [if_pos c, if_pos (by omega)]
        · rw [if_neg c, if_neg (by omega)]
  have h := key t (by omega)
  rw [Nat.sub_self, Nat.pow_zero, Nat.div_one] at h
  refine Ev.congr (fun k => ?_) h
  unfold spec_l11Word.f
  rw [if_pos (by omega), if_pos (by omega), w64 (by omega) (by omega)]
  congr 1
  apply List.ext_getElem (by simp)
  intro p q1 q2
  simp at q1
  simp [q1]
def allW (b n : Nat) : List (List Int) := (List.range (b ^ n)).map fun (c : Nat) => trk15 b n (c : Int)
theorem trk15_snoc (b j c x : Nat) (hx : x < b) : trk15 b (j + 1) ((c * b + x : Nat) : Int) = trk15 b j (c : Int) ++ [(x : Int)] := by
  have hb : 0 < b := by omega
  have e1 : (c * b + x) / b = c := by rw [Nat.add_comm, Nat.add_mul_div_right _ _ hb, Nat.div_eq_of_lt hx, Nat.zero_add]
  have e2 : (c * b + x) % b = x := by rw [Nat.add_comm, Nat.add_mul_mod_self_right, Nat.mod_eq_of_lt hx]
  unfold trk15
  rw [List.range_succ, List.map_append, List.map_cons, List.map_nil]
  have a1 : ∀ p ∈ List.range j, ((dg15 b (j + 1) ((c * b + x : Nat) : Int) p : Nat) : Int) = ((dg15 b j (c : Int) p : Nat) : Int) := fun p hp => by
    have hp := List.mem_range.1 hp
    unfold dg15
    rw [Int.toNat_natCast, Int.toNat_natCast, show j + 1 - 1 - p = (j - 1 - p) + 1 by omega, Nat.pow_succ, show b ^ (j - 1 - p) * b = b * b ^ (j - 1 - p) from Nat.mul_comm _ _, ← Nat.div_div_eq_div_mul, e1]
  rw [List.map_congr_left a1]
  congr 2
  unfold dg15
  rw [Int.toNat_natCast, show j + 1 - 1 - j = 0 by omega, Nat.pow_zero, Nat.div_one, e2]
theorem range_map_snoc {α : Type} (f : Nat → α) (n : Nat) : (List.range n).map f ++ [f n] = (List.range (n + 1)).map f := by
  rw [List.range_succ, List.map_append]
  rfl
theorem pow21 (b : Nat) (hb : b ≤ 21) (i : Nat) (hi : i ≤ 3) : b ^ i ≤ 9261 := by
  have h1 : b ^ i ≤ 21 ^ i := Nat.pow_le_pow_left hb i
  have h2 : (21 : Nat) ^ i ≤ 21 ^ 3 := Nat.pow_le_pow_right (by omega) hi
  have h3 : (21 : Nat) ^ 3 = 9261 := by decide
  omega
theorem allWords_ev (b n : Nat) (h2 : 1 ≤ b) (h3 : b ≤ 21) (hn : n ≤ 3) : Ev (fun k => impl_allWords.f k (b : Int) (n : Int)) (allW b n) := by
  have key := downs (P := fun j => Ev (fun k => impl_allWords.l0 k (b : Int) (allW b j) (n : Int) (j : Int)) (allW b n)) n
    (fun j hj ih => by
      have hp := pow21 b h3 j (by omega)
      have hp1 := pow21 b h3 (j + 1) (by omega)
      have hlen : (allW b j).length = b ^ j := by simp [allW]
      have key2 := downs (P := fun i => Ev (fun k => impl_allWords.l1 k (b : Int) ((List.range (i * b)).map fun (c : Nat) => trk15 b (j + 1) (c : Int)) (n : Int) (j : Int) (allW b j) ((allW b j).length : Int) (i : Int)) (allW b n)) (b ^ j)
        (fun i hi ih2 => by
          have hib : i * b + b ≤ b ^ (j + 1) := by
            have := Nat.mul_le_mul_right b (show i + 1 ≤ b ^ j by omega)
            rw [Nat.add_mul, Nat.one_mul] at this
            rw [Nat.pow_succ]
            exact this
          have er : rd_L1 (allW b j) (i : Int) = trk15 b j (i : Int) := by
            rw [rdR_of (by omega)]
            simp [allW]
          have hwl : (trk15 b j (i : Int)).length = j := by simp [trk15]
          have key3 := downs (P := fun x => Ev (fun k => impl_allWords.l2 k (b : Int) ((List.range (i * b + x)).map fun (c : Nat) => trk15 b (j + 1) (c : Int)) (trk15 b j (i : Int)) (n : Int) (j : Int) (allW b j) ((allW b j).length : Int) (i : Int) (b : Int) (x : Int)) (allW b n)) b
            (fun x hx ih3 => by
              refine Ev.step (fun k => ?_) ih3
              rw [impl_allWords.l2, if_pos (by omega), Option.bind_some, if_pos (by rw [hwl]; simp; omega), Option.bind_some, if_pos (by rw [List.length_append, hwl]; simp; omega), if_pos (by simp; omega), w64 (by omega) (by omega), List.nil_append, ← trk15_snoc b j i x hx, range_map_snoc (fun (c : Nat) => trk15 b (j + 1) (c : Int))]
              rfl)
            (by
              refine Ev.step (fun k => ?_) ih2
              rw [impl_allWords.l2, if_neg (by omega), w64 (by omega) (by omega), Nat.add_mul, Nat.one_mul]
              rfl)
          refine Ev.step (fun k => ?_) (key3 0 (by omega))
          rw [impl_allWords.l1, if_pos (by omega), if_pos (by omega), if_pos (by omega), er]
          rfl)
        (by
          refine Ev.step (fun k => ?_) ih
          rw [impl_allWords.l1, if_neg (by omega), w64 (by omega) (by omega), ← Nat.pow_succ]
          rfl)
      refine Ev.step (fun k => ?_) (key2 0 (by omega))
      rw [impl_allWords.l0, if_pos (by omega), Nat.zero_mul]
      rfl)
    (by
      refine Ev.step (f := fun _ => some _) (fun k => ?_) (Ev.now _)
      rw [impl_allWords.l0, if_neg (by omega)])
  exact key 0 (by omega)

/-! Power -/
/-- The powers of a small base, on both sides. -/
theorem pow_le16 (b : Nat) (hb : b ≤ 21) (i : Nat) (hi : i ≤ 3) : b ^ i ≤ 9261 := by
  have h1 : b ^ i ≤ 21 ^ i := Nat.pow_le_pow_left hb i
  have h2 : (21 : Nat) ^ i ≤ 21 ^ 3 := Nat.pow_le_pow_right (by omega) hi
  have h3 : (21 : Nat) ^ 3 = 9261 := by decide
  omega
theorem specPow_ev (b : Nat) (hb : b ≤ 21) (t : Nat) (ht : t ≤ 3) : Ev (fun k => spec_l11Power.f k (b : Int) (t : Int)) ((b ^ t : Nat) : Int) := by
  have key := downs (P := fun i => Ev (fun k => spec_l11Power.l0 k (b : Int) (t : Int) ((b ^ i : Nat) : Int) (i : Int)) ((b ^ t : Nat) : Int)) t
    (fun i hi ih => by
      refine Ev.step (fun k => ?_) ih
      have h := pow_le16 b hb (i + 1) (by omega)
      have e : ((b ^ i : Nat) : Int) * (b : Int) = ((b ^ (i + 1) : Nat) : Int) := by rw [Nat.pow_succ]; simp
      rw [spec_l11Power.l0, if_pos (by omega), e, w64 (by omega) (by omega), w64 (by omega) (by omega)]
      rfl)
    (by
      refine Ev.step (f := fun _ => some _) (fun k => ?_) (Ev.now _)
      rw [spec_l11Power.l0, if_neg (by omega)])
  exact key 0 (by omega)
/-! Bounded -/
open Classical in
theorem bounded_both (b : Int) (rows : List (List Int)) (outs : List Int) (f : List S71) (most : Int)
    (hl : rows.length ≤ 1048576) (hr : ∀ i (h : i < rows.length), rows[i].length ≤ 1048576) (ho : outs.length ≤ 1048576) (hf : f.length ≤ 1048576) :
    ∃ r : Int, Ev (fun k => spec_BoundedSolutions.f k b rows outs f most) r ∧ Ev (fun k => impl_BoundedSolutions.f k b rows outs f most) r := by
  by_cases hm : 0 ≤ most ∧ most ≤ 5
  · obtain ⟨m, rfl⟩ : ∃ m : Nat, most = m := ⟨most.toNat, by omega⟩
    have hb1 : wrap64 ((m : Int) + 1) = ((m + 1 : Nat) : Int) := by rw [w64 (by omega) (by omega)]; rfl
    have hp := pow21 (m + 1) (by omega) 3 (by omega)
    have hev : ∀ c : Nat, ∃ r : Bool, Ev (fun k => spec_EvaluateFormula.f k b rows outs f (trk15 (m + 1) 3 (c : Int)) (m : Int)) r ∧ Ev (fun k => impl_EvaluateFormula.f k b rows outs f (trk15 (m + 1) 3 (c : Int)) (m : Int)) r :=
      fun c => evaluate_both b rows outs f (trk15 (m + 1) 3 (c : Int)) (m : Int) hl hr ho hf (by simp [trk15])
    obtain ⟨e, he⟩ : ∃ e : Nat → Bool, ∀ c : Nat, Ev (fun k => spec_EvaluateFormula.f k b rows outs f (trk15 (m + 1) 3 (c : Int)) (m : Int)) (e c) ∧ Ev (fun k => impl_EvaluateFormula.f k b rows outs f (trk15 (m + 1) 3 (c : Int)) (m : Int)) (e c) := ⟨fun (c : Nat) => Classical.choose (hev c), fun (c : Nat) => Classical.choose_spec (hev c)⟩
    obtain ⟨tot, t0, ts⟩ : ∃ tot : Nat → Nat, tot 0 = 0 ∧ ∀ i, tot (i + 1) = tot i + (if e i = true then 1 else 0) := ⟨fun n => Nat.rec 0 (fun i t => t + (if e i = true then 1 else 0)) n, rfl, fun i => rfl⟩
    have hle : ∀ i, tot i ≤ i := fun i => by
      induction i with
      | zero => omega
      | succ i ih => rw [ts]; split <;> omega
    refine ⟨((tot ((m + 1) ^ 3) : Nat) : Int), ?_, ?_⟩
    · have key := downs (P := fun c => Ev (fun k => spec_BoundedSolutions.l0 k f (m : Int) ((tot c : Nat) : Int) (c : Int) b rows outs) ((tot ((m + 1) ^ 3) : Nat) : Int)) ((m + 1) ^ 3)
        (fun c hc ih => by
          have h1 := hle c
          refine Ev.step (f := fun k => (spec_l11Power.f k ((m + 1 : Nat) : Int) ((3 : Nat) : Int)).bind fun t964 => (spec_BoundedSolutions.j1 k f (m : Int) ((tot c : Nat) : Int) (c : Int) (decide ((c : Int) < t964)) b rows outs)) (fun k => ?_) (Ev.bind (specPow_ev (m + 1) (by omega) 3 (by omega)) ?_)
          · rw [spec_BoundedSolutions.l0, l1In_eq, Option.bind_some, decide_eq_true (by omega), if_pos rfl, hb1]
            rfl
          · rw [decide_eq_true (by omega)]
            refine Ev.step (f := fun k => (spec_l11Word.f k ((m + 1 : Nat) : Int) ((3 : Nat) : Int) (c : Int)).bind fun t965 => ((spec_EvaluateFormula.f k b rows outs f t965 (m : Int)).bind fun t968 => (if t968 = true then (spec_BoundedSolutions.l0 k f (m : Int) (((tot c : Nat) : Int) + 1) ((c + 1 : Nat) : Int) b rows outs) else (spec_BoundedSolutions.l0 k f (m : Int) ((tot c : Nat) : Int) ((c + 1 : Nat) : Int) b rows outs)))) (fun k => ?_) (Ev.bind (word11_ev (m + 1) 3 (by omega) (by omega) (by omega) (c : Int) (by omega) (by omega)) (Ev.bind (he c).1 ?_))
            · rw [spec_BoundedSolutions.j1, if_pos rfl, hb1, w64 (by omega) (by omega), w64 (by omega) (by omega)]
              rfl
            · rw [ts] at ih
              cases hc : e c with
              | true =>
                rw [hc, if_pos rfl] at ih
                simp only [if_true]
                exact ih
              | false =>
                rw [hc, if_neg (by decide)] at ih
                simp only [Bool.false_eq_true, if_false]
                exact ih)
        (by
          refine Ev.step (f := fun k => (spec_l11Power.f k ((m + 1 : Nat) : Int) ((3 : Nat) : Int)).bind fun t964 => (spec_BoundedSolutions.j1 k f (m : Int) ((tot ((m + 1) ^ 3) : Nat) : Int) (((m + 1) ^ 3 : Nat) : Int) (decide ((((m + 1) ^ 3 : Nat) : Int) < t964)) b rows outs)) (fun k => ?_) (Ev.bind (specPow_ev (m + 1) (by omega) 3 (by omega)) ?_)
          · rw [spec_BoundedSolutions.l0, l1In_eq, Option.bind_some, decide_eq_true (by omega), if_pos rfl, hb1]
            rfl
          · rw [decide_eq_false (by omega)]
            refine Ev.step (f := fun _ => some _) (fun k => ?_) (Ev.now _)
            rw [spec_BoundedSolutions.j1, if_neg (by decide)])
      have h := key 0 (by omega)
      rw [t0] at h
      exact h
    · have hwl : (allW (m + 1) 3).length = (m + 1) ^ 3 := by simp [allW]
      have key := downs (P := fun c => Ev (fun k => impl_BoundedSolutions.l0 k f (m : Int) ((tot c : Nat) : Int) (allW (m + 1) 3) ((allW (m + 1) 3).length : Int) (c : Int) b rows outs) ((tot ((m + 1) ^ 3) : Nat) : Int)) ((m + 1) ^ 3)
        (fun c hc ih => by
          have h1 := hle c
          have er : rd_L1 (allW (m + 1) 3) (c : Int) = trk15 (m + 1) 3 (c : Int) := by
            rw [rdR_of (by omega)]
            simp [allW]
          refine Ev.step (f := fun k => (impl_EvaluateFormula.f k b rows outs f (trk15 (m + 1) 3 (c : Int)) (m : Int)).bind fun t1082 => ((impl_oneIf.f t1082).bind fun t1083 => (impl_BoundedSolutions.l0 k f (m : Int) (wrap64 (((tot c : Nat) : Int) + t1083)) (allW (m + 1) 3) ((allW (m + 1) 3).length : Int) ((c + 1 : Nat) : Int) b rows outs))) (fun k => ?_) (Ev.bind (he c).2 ?_)
          · rw [impl_BoundedSolutions.l0, if_pos (by omega), if_pos (by omega), if_pos (by omega), er, w64 (x := (c : Int) + 1) (by omega) (by omega)]
            rfl
          · have hone : impl_oneIf.f (e c) = some (((if e c = true then 1 else 0 : Nat)) : Int) := by
              unfold impl_oneIf.f
              cases e c <;> rfl
            simp only [hone, Option.bind_some]
            have hs : ((tot (c + 1) : Nat) : Int) = ((tot c : Nat) : Int) + (((if e c = true then 1 else 0 : Nat)) : Int) := by rw [ts]; simp
            have h2 := hle (c + 1)
            rw [w64 (by omega) (by omega), ← hs]
            exact ih)
        (by
          refine Ev.step (f := fun _ => some _) (fun k => ?_) (Ev.now _)
          rw [impl_BoundedSolutions.l0, if_neg (by omega)])
      have h := key 0 (by omega)
      rw [t0] at h
      unfold impl_BoundedSolutions.f
      simp only [if_neg (show ¬ (m : Int) < 0 by omega), decide_eq_false (show ¬ (m : Int) > 5 by omega)]
      refine Ev.step (f := fun k => (impl_allWords.f k ((m + 1 : Nat) : Int) ((3 : Nat) : Int)).bind fun t1078 => (impl_BoundedSolutions.l0 k f (m : Int) 0 t1078 (t1078.length : Int) 0 b rows outs)) (fun k => ?_) (Ev.bind (allWords_ev (m + 1) 3 (by omega) (by omega) (by omega)) h)
      rw [impl_BoundedSolutions.j0, if_neg (by decide), hb1]
      rfl
  · refine ⟨0, ?_, ?_⟩
    · unfold spec_BoundedSolutions.f
      refine Ev.step (f := fun k => spec_BoundedSolutions.j1 k f most 0 0 false b rows outs) (fun k => ?_) (Ev.step (f := fun _ => some _) (fun k => ?_) (Ev.now _))
      · rw [spec_BoundedSolutions.l0, l1In_eq, Option.bind_some, decide_eq_false hm, if_neg (by decide)]
      · rw [spec_BoundedSolutions.j1, if_neg (by decide)]
    · unfold impl_BoundedSolutions.f
      have no : Ev (fun k => impl_BoundedSolutions.j0 k f most true b rows outs) 0 := by
        refine Ev.step (f := fun _ => some _) (fun k => ?_) (Ev.now _)
        rw [impl_BoundedSolutions.j0, if_pos rfl]
      by_cases c : most < 0
      · simp only [if_pos c]
        exact no
      · simp only [if_neg c, decide_eq_true (show most > 5 by omega)]
        exact no

/-! laws_toIntS -/
theorem toIntS_l0 (x0 : List Int) (hb : x0.length ≤ 1048576) (d : Nat) : ∀ (i : Nat), i + d = x0.length →
    Ev (fun k => laws_toIntS.l0 k x0 (x0.take i ++ List.replicate d 0) i) x0 := by
  induction d with
  | zero =>
    intro i hi
    refine Ev.step (f := fun _ => some x0) (fun k => ?_) (Ev.now _)
    rw [laws_toIntS.l0, if_neg (by omega)]
    simp [List.take_of_length_le (show x0.length ≤ i by omega)]
  | succ d ih =>
    intro i hi
    refine Ev.step (fun k => ?_) (ih (i + 1) (by omega))
    rw [laws_toIntS.l0, if_pos (by omega), if_pos (by omega), if_pos (by simp; omega), w64 (by omega) (by omega)]
    congr 1
    rw [rd_of (show i < x0.length by omega), Int.toNat_natCast]
    apply List.ext_getElem
    · simp; omega
    · intro j h1 h2
      simp [List.getElem_set, List.getElem_append, List.getElem_take] at *
      split <;> split <;> try split
      all_goals first | rfl | omega | (subst_vars; rfl)

theorem toIntS_ev (x0 : List Int) (hb : x0.length ≤ 1048576) : Ev (fun k => laws_toIntS.f k x0) x0 := by
  have h := toIntS_l0 x0 hb x0.length 0 (by omega)
  refine Ev.congr (fun k => ?_) h
  unfold laws_toIntS.f
  rw [if_pos (by omega), if_pos (by omega)]
  simp

/-! laws_eqIntS -/
theorem eqIntS_l0 (x0 x1 : List Int) (hb : x0.length ≤ 1048576) (hl : x0.length = x1.length) (d : Nat) : ∀ (i : Nat), i + d = x0.length →
    Ev (fun k => laws_eqIntS.l0 k x0 x1 i) (decide (x0.drop i = x1.drop i)) := by
  induction d with
  | zero =>
    intro i hi
    refine Ev.step (f := fun _ => some true) (fun k => ?_) ?_
    · rw [laws_eqIntS.l0, if_neg (by omega)]
    · rw [List.drop_of_length_le (by omega), List.drop_of_length_le (by omega)]
      exact Ev.now _
  | succ d ih =>
    intro i hi
    have e0 : x0.drop i = x0[i]'(by omega) :: x0.drop (i + 1) := List.drop_eq_getElem_cons (by omega)
    have e1 : x1.drop i = x1[i]'(by omega) :: x1.drop (i + 1) := List.drop_eq_getElem_cons (by omega)
    by_cases h : x0[i]'(by omega) = x1[i]'(by omega)
    · rw [e0, e1, h]
      simp only [List.cons.injEq, true_and]
      refine Ev.step (fun k => ?_) (ih (i + 1) (by omega))
      rw [laws_eqIntS.l0, if_pos (by omega), if_pos (by omega), if_pos (by omega), rd_of (show i < x0.length by omega), rd_of (show i < x1.length by omega), if_pos h, w64 (by omega) (by omega)]
      rfl
    · rw [e0, e1]
      simp only [List.cons.injEq, h, false_and]
      refine Ev.step (f := fun _ => some false) (fun k => ?_) (Ev.now _)
      rw [laws_eqIntS.l0, if_pos (by omega), if_pos (by omega), if_pos (by omega), rd_of (show i < x0.length by omega), rd_of (show i < x1.length by omega), if_neg h]

theorem eqIntS_ev (x0 x1 : List Int) (hb : x0.length ≤ 1048576) : Ev (fun k => laws_eqIntS.f k x0 x1) (decide (x0 = x1)) := by
  by_cases hl : x0.length = x1.length
  · refine Ev.congr (fun k => ?_) (eqIntS_l0 x0 x1 hb hl x0.length 0 (by omega))
    unfold laws_eqIntS.f
    rw [if_pos (by omega)]
    rfl
  · rw [decide_eq_false (by intro h; exact hl (by rw [h]))]
    refine Ev.congr (fun k => ?_) (Ev.now _)
    unfold laws_eqIntS.f
    rw [if_neg (by omega)]

/-! IntSS -/
/-- How much is left of a size behind a list of rows. -/
def szRows : List (List Int) → Int → Int
  | [], left => left
  | r :: rs, left => if left - (r.length : Int) < 0 then -1 else szRows rs (left - r.length)
theorem szIntS_eq (r : List Int) (left : Int) (h0 : 0 ≤ left) (h1 : left ≤ 1048576) (hr : r.length ≤ 9223372036854775807) : laws_szIntS.f r left = some (if left - (r.length : Int) < 0 then -1 else left - r.length) := by
  unfold laws_szIntS.f
  rw [w64 (by omega) (by omega)]
  split <;> rfl
theorem szRows_le (rs : List (List Int)) : ∀ left, szRows rs left ≤ left ∨ left < 0 := by
  induction rs with
  | nil => intro left; exact Or.inl (Int.le_refl _)
  | cons r rs ih =>
    intro left
    by_cases h : left < 0
    · exact Or.inr h
    · refine Or.inl ?_
      rw [szRows]
      split
      · omega
      · rcases ih (left - r.length) with g | g <;> omega
theorem szIntSS_l0 (rows : List (List Int)) (hl : rows.length ≤ 1048576) (hr : ∀ r ∈ rows, r.length ≤ 9223372036854775807) : ∀ i, i ≤ rows.length → ∀ left, 0 ≤ left → left ≤ 1048576 → Ev (fun k => laws_szIntSS.l0 k rows left (i : Int)) (szRows (rows.drop i) left) :=
  downs (P := fun i => ∀ left, 0 ≤ left → left ≤ 1048576 → Ev (fun k => laws_szIntSS.l0 k rows left (i : Int)) (szRows (rows.drop i) left)) rows.length
    (fun i hi ih left h0 h1 => by
      rw [drop_at hi, szRows]
      have hx := hr _ (List.getElem_mem hi)
      by_cases h : left - (rows[i].length : Int) < 0
      · rw [if_pos h]
        refine Ev.step (f := fun _ => some (-1)) (fun k => ?_) (Ev.now _)
        rw [laws_szIntSS.l0, if_pos (by omega), if_pos (by omega), rdR_of hi, szIntS_eq _ _ h0 h1 hx, Option.bind_some, if_pos h, if_pos (by omega)]
      · rw [if_neg h]
        refine Ev.step (fun k => ?_) (ih (left - rows[i].length) (by omega) (by omega))
        rw [laws_szIntSS.l0, if_pos (by omega), if_pos (by omega), rdR_of hi, szIntS_eq _ _ h0 h1 hx, Option.bind_some, if_neg h, if_neg h, w64 (by omega) (by omega)]
        rfl)
    (fun left h0 h1 => by
      rw [List.drop_length, szRows]
      refine Ev.step (f := fun _ => some left) (fun k => ?_) (Ev.now _)
      rw [laws_szIntSS.l0, if_neg (by omega)])
theorem szRows_ok (rs : List (List Int)) : ∀ left, 0 ≤ left → 0 ≤ szRows rs left → ∀ r ∈ rs, (r.length : Int) ≤ left := by
  induction rs with
  | nil => intro left _ _ r hr; simp at hr
  | cons r rs ih =>
    intro left h0 h r' hr'
    rw [szRows] at h
    split at h
    · omega
    · rcases List.mem_cons.1 hr' with rfl | g
      · omega
      · have := ih _ (by omega) h r' g
        omega
/-- The size of rows: either they are too great or all are small. -/
theorem szIntSS_ev (rows : List (List Int)) (hl : rows.length ≤ 9223372036854775807) (hr : ∀ r ∈ rows, r.length ≤ 9223372036854775807) (left : Int) (h0 : 0 ≤ left) (h1 : left ≤ 1048576) :
    ∃ r : Int, Ev (fun k => laws_szIntSS.f k rows left) r ∧ r ≤ left ∧ (0 ≤ r → rows.length ≤ 1048576 ∧ ∀ x ∈ rows, x.length ≤ 1048576) := by
  by_cases h : left - (rows.length : Int) < 0
  · refine ⟨-1, Ev.congr (fun k => ?_) (Ev.now _), by omega, fun h => by omega⟩
    unfold laws_szIntSS.f
    rw [w64 (by omega) (by omega), if_pos h]
  · have hk := szIntSS_l0 rows (by omega) hr 0 (by omega) (left - rows.length) (by omega) (by omega)
    refine ⟨szRows rows (left - rows.length), Ev.congr (fun k => ?_) (Ev.eq hk (by rw [List.drop_zero])), ?_, fun hp => ⟨by omega, fun x hx => ?_⟩⟩
    · unfold laws_szIntSS.f
      rw [w64 (by omega) (by omega), if_neg h]
      rfl
    · rcases szRows_le rows (left - rows.length) with g | g <;> omega
    · have := szRows_ok rows (left - rows.length) (by omega) hp x hx
      omega
theorem toIntSS_ev (rows : List (List Int)) (hl : rows.length ≤ 1048576) (hr : ∀ r ∈ rows, r.length ≤ 1048576) : Ev (fun k => laws_toIntSS.f k rows) rows := by
  have key := downs (P := fun i => Ev (fun k => laws_toIntSS.l0 k rows (rows.take i ++ List.replicate (rows.length - i) []) (i : Int)) rows) rows.length
    (fun i hi ih => by
      refine Ev.step (f := fun k => (laws_toIntS.f k rows[i]).bind fun t => laws_toIntSS.l0 k rows ((rows.take i ++ List.replicate (rows.length - i) []).set i t) ((i + 1 : Nat) : Int)) (fun k => ?_) (Ev.bind (toIntS_ev rows[i] (hr _ (List.getElem_mem hi))) ?_)
      · rw [laws_toIntSS.l0, if_pos (by omega), if_pos (by omega), rdR_of hi, w64 (by omega) (by omega), Int.toNat_natCast]
        congr 1
        funext t
        rw [if_pos (by simp; omega)]
        rfl
      · rw [show rows.length - i = (rows.length - (i + 1)) + 1 by omega, fill_set rows _ _ i _ hi (by omega) rfl]
        exact ih)
    (by
      refine Ev.step (f := fun _ => some rows) (fun k => ?_) (Ev.now _)
      rw [laws_toIntSS.l0, if_neg (by omega)]
      simp [List.take_of_length_le])
  refine Ev.congr (fun k => ?_) (key 0 (by omega))
  unfold laws_toIntSS.f
  rw [if_pos (by omega), if_pos (by omega)]
  simp
theorem eqIntSS_self (rows : List (List Int)) (hl : rows.length ≤ 1048576) (hr : ∀ r ∈ rows, r.length ≤ 1048576) : Ev (fun k => laws_eqIntSS.f k rows rows) true := by
  have key := downs (P := fun i => Ev (fun k => laws_eqIntSS.l0 k rows rows (i : Int)) true) rows.length
    (fun i hi ih => by
      refine Ev.step (f := fun k => (laws_eqIntS.f k rows[i] rows[i]).bind fun t => if t = true then laws_eqIntSS.l0 k rows rows ((i + 1 : Nat) : Int) else some false) (fun k => ?_) (Ev.bind (Ev.eq (eqIntS_ev rows[i] rows[i] (hr _ (List.getElem_mem hi))) (decide_eq_true rfl)) ?_)
      · rw [laws_eqIntSS.l0, if_pos (by omega), if_pos (by omega), if_pos (by omega), rdR_of hi, w64 (by omega) (by omega)]
        rfl
      · exact ih)
    (by
      refine Ev.step (f := fun _ => some true) (fun k => ?_) (Ev.now _)
      rw [laws_eqIntSS.l0, if_neg (by omega)])
  refine Ev.congr (fun k => ?_) (key 0 (by omega))
  unfold laws_eqIntSS.f
  rw [if_pos rfl]
  rfl

/-! Sequence -/
theorem toSequence_ev (b : Int) (rows : List (List Int)) (outs : List Int) (hl : rows.length ≤ 1048576) (hr : ∀ r ∈ rows, r.length ≤ 1048576) (ho : outs.length ≤ 1048576) : Ev (fun k => laws_toSequence.f k b rows outs) (b, rows, outs) := by
  unfold laws_toSequence.f
  exact Ev.bind (toIntSS_ev rows hl hr) (Ev.bind (toIntS_ev outs ho) (Ev.now _))
theorem eqSequence_self (b : Int) (rows : List (List Int)) (outs : List Int) (hl : rows.length ≤ 1048576) (hr : ∀ r ∈ rows, r.length ≤ 1048576) (ho : outs.length ≤ 1048576) : Ev (fun k => laws_eqSequence.f k b rows outs b rows outs) true := by
  unfold laws_eqSequence.f
  simp only [if_true]
  refine Ev.bind (eqIntSS_self rows hl hr) ?_
  simp only [if_true]
  refine Ev.bind (Ev.eq (eqIntS_ev outs outs ho) (decide_eq_true rfl)) ?_
  simp only [if_true]
  exact Ev.now _
theorem szSequence_ev (b : Int) (rows : List (List Int)) (outs : List Int) (hl : rows.length ≤ 9223372036854775807) (hr : ∀ r ∈ rows, r.length ≤ 9223372036854775807) (ho : outs.length ≤ 9223372036854775807) :
    ∃ r : Int, Ev (fun k => laws_szSequence.f k b rows outs 1048576) r ∧ r ≤ 1048576 ∧ (0 ≤ r → rows.length ≤ 1048576 ∧ (∀ x ∈ rows, x.length ≤ 1048576) ∧ outs.length ≤ 1048576) := by
  obtain ⟨r, e, hle, hk⟩ := szIntSS_ev rows hl hr 1048576 (by omega) (by omega)
  by_cases h : r < 0
  · refine ⟨-1, ?_, by omega, fun h => by omega⟩
    unfold laws_szSequence.f
    refine Ev.bind e ?_
    simp only [if_pos h]
    exact Ev.now _
  · obtain ⟨k1, k2⟩ := hk (by omega)
    by_cases h2 : r - (outs.length : Int) < 0
    · refine ⟨-1, ?_, by omega, fun h => by omega⟩
      unfold laws_szSequence.f
      refine Ev.bind e ?_
      simp only [if_neg h, szIntS_eq outs r (by omega) hle ho, Option.bind_some, if_pos h2]
      exact Ev.now _
    · refine ⟨r - outs.length, ?_, by omega, fun _ => ⟨k1, k2, by omega⟩⟩
      unfold laws_szSequence.f
      refine Ev.bind e ?_
      simp only [if_neg h, szIntS_eq outs r (by omega) hle ho, Option.bind_some, if_neg h2]
      exact Ev.now _

/-! law_FnExactBoundedSolutions -/
theorem szNodeS_eq' (x0 : List S73) (h : x0.length ≤ 9223372036854775807) (left : Int) (l0 : 0 ≤ left) (l1 : left ≤ 1048576) : laws_szNodeS.f x0 left = some (if left - (x0.length : Int) < 0 then -1 else left - (x0.length : Int)) := by
  unfold laws_szNodeS.f
  rw [w64 (by omega) (by omega)]
  split <;> rfl
theorem FnExactBoundedSolutions (a0 : Int) (l1 : List (List Int)) (l2 : List Int) (l3 : List S73) (a5 : Int) (w0 : -9223372036854775808 ≤ a0 ∧ a0 ≤ 9223372036854775807) (w1 : wfl (wfl wfi) l1) (w2 : wfl wfi l2) (w3 : wfl wf_Node l3) (w5 : -9223372036854775808 ≤ a5 ∧ a5 ≤ 9223372036854775807) : ∃ k, laws_FnExactBoundedSolutions.f k a0 l1 l2 l3 a5 = some true := by
  refine Ev.rounds ?_
  unfold laws_FnExactBoundedSolutions.f
  obtain ⟨r, e, hle, hk⟩ := szSequence_ev a0 l1 l2 w1.1 (fun x hx => (w1.2 x hx).1) w2.1
  refine Ev.bind e ?_
  by_cases hr : r < 0
  · simp only [if_pos hr]
    exact Ev.now _
  simp only [if_neg hr]
  obtain ⟨k1, k2, k3⟩ := hk (by omega)
  simp only [szNodeS_eq' l3 w3.1 r (by omega) hle, Option.bind_some]
  by_cases hn : r - (l3.length : Int) < 0
  · simp only [if_pos hn, if_pos (show (-1 : Int) < 0 by omega)]
    exact Ev.now _
  simp only [if_neg hn]
  have hm : (l3.map toN).length ≤ 1048576 := by rw [List.length_map]; omega
  obtain ⟨x, hs, hi⟩ := bounded_both a0 l1 l2 (l3.map toN) a5 k1 (fun i h => k2 _ (List.getElem_mem h)) k3 hm
  have t0 := toSequence_ev a0 l1 l2 k1 k2 k3
  have t1 := toNodeS_ev l3 (by omega)
  refine Ev.bind t0 (Ev.bind t1 (Ev.bind hs (Ev.bind t0 (Ev.bind t1 (Ev.bind hi ?_)))))
  simp only [if_true]
  refine Ev.bind t0 (Ev.bind (eqSequence_self a0 l1 l2 k1 k2 k3) ?_)
  simp only [if_true]
  refine Ev.bind t1 (Ev.bind (eqNodeS_self _ hm) ?_)
  simp only [if_true]
  exact Ev.now _

end Go.Proofs.Ytmkeicahnnlalaa.Pure
