/- The pure law FnExactCountQuantifiers: what the printed functions of the program and of the reference compute agrees, for all arguments. -/
import Derived.Test.YtdckaflfgbbabaaQ0
import Derived.Test.YtdckaflfgbbabaaQ1
import Derived.Test.YtdckaflfgbbabaaMRow
namespace Go.Proofs.Ytdckaflfgbbabaa.Pure
open Go.RowKit Go.Proofs.Ytdckaflfgbbabaa.Q Go.Proofs.Ytdckaflfgbbabaa.MRow Go.Proofs.YtdckaflfgbbabaaW.PrintWords Go.Proofs.YtdckaflfgbbabaaW.PrintLast
set_option linter.unusedVariables false
set_option linter.unusedSimpArgs false

/-! base -/
theorem w64 {x : Int} (h0 : -9223372036854775808 ≤ x) (h1 : x < 9223372036854775808) : wrap64 x = x := by
  unfold wrap64; omega

theorem rd_of {xs : List Int} {i : Nat} (h : i < xs.length) : rd xs (i : Int) = xs[i] := by
  simp [rd, List.getD_eq_getElem?_getD, h]
theorem getD_of {α : Type} {xs : List α} {d : α} {i : Nat} (h : i < xs.length) : xs.getD ((i : Int)).toNat d = xs[i] := by
  simp [List.getD_eq_getElem?_getD, h]
/-- From the end of a range down. -/
theorem downs {P : Nat → Prop} (n : Nat) (step : ∀ i, i < n → P (i + 1) → P i) (done : P n) : ∀ i, i ≤ n → P i := by
  have key : ∀ d i, i + d = n → P i := by
    intro d
    induction d with
    | zero => intro i hi; rw [show i = n by omega]; exact done
    | succ d ih => intro i hi; exact step i (by omega) (ih (i + 1) (by omega))
  intro i hi
  exact key (n - i) i (by omega)
theorem drop_at {α : Type} {l : List α} {i : Nat} (h : i < l.length) : l.drop i = l[i] :: l.drop (i + 1) := List.drop_eq_getElem_cons h
theorem Ev.eq {α : Type} {g : Nat → Option α} {r r' : α} (h : Ev g r) (e : r = r') : Ev g r' := e ▸ h
theorem natCast_succ' (i : Nat) : ((i : Int) + 1) = ((i + 1 : Nat) : Int) := by omega
/-- A list that is filled from its begin. -/
theorem fill_set {α : Type} (xs : List α) (z y : α) (i d : Nat) (h : i < xs.length) (hd : i + (d + 1) = xs.length) (hy : y = xs[i]) :
    (xs.take i ++ List.replicate (d + 1) z).set i y = xs.take (i + 1) ++ List.replicate d z := by
  subst hy
  rw [List.set_append_right _ _ (by simp; omega)]
  have hl : (xs.take i).length = i := by simp; omega
  rw [hl, Nat.sub_self, List.replicate_succ, List.set_cons_zero, List.take_succ_eq_append_getElem h, List.append_assoc]
  rfl

/-! nodes -/
def toN (x : S50) : S48 := ⟨x.f0, x.f1, x.f2, x.f3⟩
theorem rdN_of {xs : List S48} {i : Nat} (h : i < xs.length) : rd_T48 xs (i : Int) = xs[i] := by
  unfold rd_T48
  exact getD_of h
theorem rdLN_of {xs : List S50} {i : Nat} (h : i < xs.length) : rd_T50 xs (i : Int) = xs[i] := by
  unfold rd_T50
  exact getD_of h
theorem toNodeS_ev (x0 : List S50) (hb : x0.length ≤ 1048576) : Ev (fun k => laws_toNodeS.f k x0) (x0.map toN) := by
  have key := downs (P := fun i => Ev (fun k => laws_toNodeS.l0 k x0 ((x0.map toN).take i ++ List.replicate (x0.length - i) z48) (i : Int)) (x0.map toN)) x0.length
    (fun i hi ih => by
      refine Ev.step (fun k => ?_) ih
      rw [laws_toNodeS.l0, if_pos (by omega), if_pos (by omega), rdLN_of hi, laws_toNode.f, Option.bind_some, if_pos (by simp; omega), w64 (by omega) (by omega), Int.toNat_natCast]
      rw [show x0.length - i = (x0.length - (i + 1)) + 1 by omega, fill_set (x0.map toN) _ _ i _ (by simpa using hi) (by simp; omega) (by simp [toN])]
      rfl)
    (by
      refine Ev.step (f := fun _ => some (x0.map toN)) (fun k => ?_) (Ev.now _)
      rw [laws_toNodeS.l0, if_neg (by omega)]
      simp [List.take_of_length_le])
  have h := key 0 (by omega)
  refine Ev.congr (fun k => ?_) h
  unfold laws_toNodeS.f
  rw [if_pos (by omega), if_pos (by omega)]
  simp
theorem szNodeS_eq (x0 : List S50) (h : x0.length ≤ 9223372036854775807) : laws_szNodeS.f x0 1048576 = some (if x0.length ≤ 1048576 then 1048576 - (x0.length : Int) else -1) := by
  unfold laws_szNodeS.f
  rw [w64 (by omega) (by omega)]
  by_cases hl : x0.length ≤ 1048576
  · rw [if_neg (by omega), if_pos hl]
  · rw [if_pos (by omega), if_neg hl]
theorem eqNode_self (x : S48) : laws_eqNode.f x.f0 x.f1 x.f2 x.f3 x.f0 x.f1 x.f2 x.f3 = some true := by
  unfold laws_eqNode.f
  simp
theorem eqNodeS_self (x0 : List S48) (hb : x0.length ≤ 1048576) : Ev (fun k => laws_eqNodeS.f k x0 x0) true := by
  have key := downs (P := fun i => Ev (fun k => laws_eqNodeS.l0 k x0 x0 (i : Int)) true) x0.length
    (fun i hi ih => by
      refine Ev.step (fun k => ?_) ih
      rw [laws_eqNodeS.l0, if_pos (by omega), if_pos (by omega), if_pos (by omega), rdN_of hi, eqNode_self, Option.bind_some, if_pos rfl, w64 (by omega) (by omega)]
      rfl)
    (by
      refine Ev.step (f := fun _ => some true) (fun k => ?_) (Ev.now _)
      rw [laws_eqNodeS.l0, if_neg (by omega)])
  refine Ev.congr (fun k => ?_) (key 0 (by omega))
  unfold laws_eqNodeS.f
  rw [if_pos rfl]
  rfl

/-! CountQuantifiers -/
def isQ (x : S48) : Bool := decide (x.f0 = 9 ∨ x.f0 = 10)
theorem specCQ_ev (x0 : List S48) (hb : x0.length ≤ 1048576) : Ev (fun k => spec_CountQuantifiers.f k x0) ((x0.countP isQ : Nat) : Int) := by
  have key := downs (P := fun i => Ev (fun k => spec_CountQuantifiers.l0 k x0 (((x0.take i).countP isQ : Nat) : Int) (i : Int)) ((x0.countP isQ : Nat) : Int)) x0.length
    (fun i hi ih => by
      have hc : (x0.take i).countP isQ ≤ i := Nat.le_trans (List.countP_le_length) (List.length_take_le _ _)
      rw [List.take_succ_eq_append_getElem hi, List.countP_append] at ih
      refine Ev.step (fun k => ?_) ih
      rw [spec_CountQuantifiers.l0, if_pos (by omega), if_pos (by omega), rdN_of hi]
      by_cases h9 : x0[i].f0 = 9
      · rw [if_pos h9, w64 (by omega) (by omega), w64 (by omega) (by omega)]
        simp [isQ, h9]
      · by_cases h10 : x0[i].f0 = 10
        · rw [if_neg h9, if_pos h10, w64 (by omega) (by omega), w64 (by omega) (by omega)]
          simp [isQ, h10]
        · rw [if_neg h9, if_neg h10, w64 (by omega) (by omega)]
          simp [isQ, h9, h10])
    (by
      refine Ev.step (f := fun _ => some _) (fun k => ?_) (Ev.now _)
      rw [spec_CountQuantifiers.l0, if_neg (by omega)]
      simp)
  exact Ev.congr (fun k => rfl) (key 0 (by omega))
theorem isQuant_eq (a b c d : Int) : impl_Node_isQuantifier.f a b c d = some (isQ ⟨a, b, c, d⟩) := by
  unfold impl_Node_isQuantifier.f isQ
  by_cases h : a = 9
  · simp [h]
  · rw [if_neg h]
    simp [h]
    exact Bool.beq_eq_decide_eq a 10
theorem oneIf_eq (b : Bool) : impl_oneIf.f b = some (if b then 1 else 0) := by
  unfold impl_oneIf.f
  cases b <;> rfl
theorem implCQ_ev (x0 : List S48) (hb : x0.length ≤ 1048576) : Ev (fun k => impl_CountQuantifiers.f k x0) ((x0.countP isQ : Nat) : Int) := by
  have key := downs (P := fun i => Ev (fun k => impl_CountQuantifiers.l0 k (((x0.take i).countP isQ : Nat) : Int) x0 x0.length (i : Int)) ((x0.countP isQ : Nat) : Int)) x0.length
    (fun i hi ih => by
      have hc : (x0.take i).countP isQ ≤ i := Nat.le_trans (List.countP_le_length) (List.length_take_le _ _)
      rw [List.take_succ_eq_append_getElem hi, List.countP_append] at ih
      refine Ev.step (fun k => ?_) ih
      rw [impl_CountQuantifiers.l0, if_pos (by omega), if_pos (by omega), if_pos (by omega), rdN_of hi, isQuant_eq, Option.bind_some, oneIf_eq, Option.bind_some, w64 (x := (i : Int) + 1) (by omega) (by omega)]
      by_cases hq : isQ x0[i] = true
      · rw [if_pos hq, w64 (by omega) (by omega)]
        simp [hq]
      · rw [if_neg hq, w64 (by omega) (by omega)]
        simp [hq])
    (by
      refine Ev.step (f := fun _ => some _) (fun k => ?_) (Ev.now _)
      rw [impl_CountQuantifiers.l0, if_neg (by omega)]
      simp)
  exact Ev.congr (fun k => rfl) (key 0 (by omega))

/-! law_FnExactCountQuantifiers -/
theorem FnExactCountQuantifiers (l0 : List S50) (w0 : wfl wf_Node l0) : ∃ k, laws_FnExactCountQuantifiers.f k l0 = some true := by
  refine Ev.rounds ?_
  unfold laws_FnExactCountQuantifiers.f
  rw [szNodeS_eq l0 w0.1]
  by_cases hb : l0.length ≤ 1048576
  · simp only [if_pos hb, Option.bind_some, if_neg (show ¬ (1048576 - (l0.length : Int) < 0) by omega)]
    have hm : (l0.map toN).length ≤ 1048576 := by simpa using hb
    refine Ev.bind (toNodeS_ev l0 hb) (Ev.bind (specCQ_ev _ hm) (Ev.bind (toNodeS_ev l0 hb) (Ev.bind (implCQ_ev _ hm) ?_)))
    simp only [if_true]
    refine Ev.bind (toNodeS_ev l0 hb) (Ev.bind (eqNodeS_self _ hm) ?_)
    simp only [if_true]
    exact Ev.now _
  · simp only [if_neg hb, Option.bind_some, if_pos (show (-1 : Int) < 0 by omega)]
    exact Ev.now _

end Go.Proofs.Ytdckaflfgbbabaa.Pure
