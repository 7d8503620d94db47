/- The pure law FnExactTermRelation: what the printed functions of the program and of the reference compute agrees, for all arguments. -/
import Derived.Test.YtefelghmmpmigaaF
import Derived.Test.YtefelghmmpmigaaF1
import Derived.Test.YtefelghmmpmigaaF2
import Derived.Test.YtefelghmmpmigaaF8
import Derived.Test.YtefelghmmpmigaaQ0
import Derived.Test.YtefelghmmpmigaaQ20
import Derived.Test.YtefelghmmpmigaaQ23
import Derived.Test.YtefelghmmpmigaaQ24
import Derived.Test.YtefelghmmpmigaaQ25
import Derived.Test.YtefelghmmpmigaaQ26
import Derived.Test.YtefelghmmpmigaaQ33
import Derived.Test.YtefelghmmpmigaaQ34
import Derived.Test.YtefelghmmpmigaaQ36
import Derived.Test.YtefelghmmpmigaaQ37
import Derived.Test.YtefelghmmpmigaaQ370
import Derived.Test.YtefelghmmpmigaaMRow
namespace Go.Proofs.Ytefelghmmpmigaa.Pure
open Go.RowKit Go.Proofs.Ytefelghmmpmigaa.Q Go.Proofs.Ytefelghmmpmigaa.MRow Go.Proofs.YtefelghmmpmigaaW.PrintWords Go.Proofs.YtefelghmmpmigaaW.PrintLast
set_option linter.unusedVariables false
set_option linter.unusedSimpArgs false

/-! base -/
theorem w64 {x : Int} (h0 : -9223372036854775808 ≤ x) (h1 : x < 9223372036854775808) : wrap64 x = x := by
  unfold wrap64; omega

theorem rd_of {xs : List Int} {i : Nat} (h : i < xs.length) : rd xs (i : Int) = xs[i] := by
  simp [rd, List.getD_eq_getElem?_getD, h]
theorem getD_of {α : Type} {xs : List α} {d : α} {i : Nat} (h : i < xs.length) : xs.getD ((i : Int)).toNat d = xs[i] := by
  simp [List.getD_eq_getElem?_getD, h]
/-- From the end of a range down. -/
theorem downs {P : Nat → Prop} (n : Nat) (step : ∀ i, i < n → P (i + 1) → P i) (done : P n) : ∀ i, i ≤ n → P i := by
  have key : ∀ d i, i + d = n → P i := by
    intro d
    induction d with
    | zero => intro i hi; rw [show i = n by omega]; exact done
    | succ d ih => intro i hi; exact step i (by omega) (ih (i + 1) (by omega))
  intro i hi
  exact key (n - i) i (by omega)
theorem drop_at {α : Type} {l : List α} {i : Nat} (h : i < l.length) : l.drop i = l[i] :: l.drop (i + 1) := List.drop_eq_getElem_cons h
theorem Ev.eq {α : Type} {g : Nat → Option α} {r r' : α} (h : Ev g r) (e : r = r') : Ev g r' := e ▸ h
/-- A list that is filled from its begin. -/
theorem fill_set {α : Type} (xs : List α) (z y : α) (i d : Nat) (h : i < xs.length) (hd : i + (d + 1) = xs.length) (hy : y = xs[i]) :
    (xs.take i ++ List.replicate (d + 1) z).set i y = xs.take (i + 1) ++ List.replicate d z := by
  subst hy
  rw [List.set_append_right _ _ (by simp; omega)]
  have hl : (xs.take i).length = i := by simp; omega
  rw [hl, Nat.sub_self, List.replicate_succ, List.set_cons_zero, List.take_succ_eq_append_getElem h, List.append_assoc]
  rfl

/-! laws_toIntS -/
theorem toIntS_l0 (x0 : List Int) (hb : x0.length ≤ 1048576) (d : Nat) : ∀ (i : Nat), i + d = x0.length →
    Ev (fun k => laws_toIntS.l0 k x0 (x0.take i ++ List.replicate d 0) i) x0 := by
  induction d with
  | zero =>
    intro i hi
    refine Ev.step (f := fun _ => some x0) (fun k => ?_) (Ev.now _)
    rw [laws_toIntS.l0, if_neg (by omega)]
    simp [List.take_of_length_le (show x0.length ≤ i by omega)]
  | succ d ih =>
    intro i hi
    refine Ev.step (fun k => ?_) (ih (i + 1) (by omega))
    rw [laws_toIntS.l0, if_pos (by omega), if_pos (by omega), if_pos (by simp; omega), w64 (by omega) (by omega)]
    congr 1
    rw [rd_of (show i < x0.length by omega), Int.toNat_natCast]
    apply List.ext_getElem
    · simp; omega
    · intro j h1 h2
      simp [List.getElem_set, List.getElem_append, List.getElem_take] at *
      split <;> split <;> try split
      all_goals first | rfl | omega | (subst_vars; rfl)

theorem toIntS_ev (x0 : List Int) (hb : x0.length ≤ 1048576) : Ev (fun k => laws_toIntS.f k x0) x0 := by
  have h := toIntS_l0 x0 hb x0.length 0 (by omega)
  refine Ev.congr (fun k => ?_) h
  unfold laws_toIntS.f
  rw [if_pos (by omega), if_pos (by omega)]
  simp

/-! laws_eqIntS -/
theorem eqIntS_l0 (x0 x1 : List Int) (hb : x0.length ≤ 1048576) (hl : x0.length = x1.length) (d : Nat) : ∀ (i : Nat), i + d = x0.length →
    Ev (fun k => laws_eqIntS.l0 k x0 x1 i) (decide (x0.drop i = x1.drop i)) := by
  induction d with
  | zero =>
    intro i hi
    refine Ev.step (f := fun _ => some true) (fun k => ?_) ?_
    · rw [laws_eqIntS.l0, if_neg (by omega)]
    · rw [List.drop_of_length_le (by omega), List.drop_of_length_le (by omega)]
      exact Ev.now _
  | succ d ih =>
    intro i hi
    have e0 : x0.drop i = x0[i]'(by omega) :: x0.drop (i + 1) := List.drop_eq_getElem_cons (by omega)
    have e1 : x1.drop i = x1[i]'(by omega) :: x1.drop (i + 1) := List.drop_eq_getElem_cons (by omega)
    by_cases h : x0[i]'(by omega) = x1[i]'(by omega)
    · rw [e0, e1, h]
      simp only [List.cons.injEq, true_and]
      refine Ev.step (fun k => ?_) (ih (i + 1) (by omega))
      rw [laws_eqIntS.l0, if_pos (by omega), if_pos (by omega), if_pos (by omega), rd_of (show i < x0.length by omega), rd_of (show i < x1.length by omega), if_pos h, w64 (by omega) (by omega)]
      rfl
    · rw [e0, e1]
      simp only [List.cons.injEq, h, false_and]
      refine Ev.step (f := fun _ => some false) (fun k => ?_) (Ev.now _)
      rw [laws_eqIntS.l0, if_pos (by omega), if_pos (by omega), if_pos (by omega), rd_of (show i < x0.length by omega), rd_of (show i < x1.length by omega), if_neg h]

theorem eqIntS_ev (x0 x1 : List Int) (hb : x0.length ≤ 1048576) : Ev (fun k => laws_eqIntS.f k x0 x1) (decide (x0 = x1)) := by
  by_cases hl : x0.length = x1.length
  · refine Ev.congr (fun k => ?_) (eqIntS_l0 x0 x1 hb hl x0.length 0 (by omega))
    unfold laws_eqIntS.f
    rw [if_pos (by omega)]
    rfl
  · rw [decide_eq_false (by intro h; exact hl (by rw [h]))]
    refine Ev.congr (fun k => ?_) (Ev.now _)
    unfold laws_eqIntS.f
    rw [if_neg (by omega)]

/-! RowsBase -/
theorem rdR_of {xs : List (List Int)} {i : Nat} (h : i < xs.length) : rd_L1 xs (i : Int) = xs[i] := by
  unfold rd_L1
  exact getD_of h
def inS (n : Nat) (x : Int) : Bool := decide (0 ≤ x ∧ x < (n : Int))
def rowS (b : Int) (n : Nat) (row : List Int) : Bool := decide ((row.length : Int) = b) && row.all (inS n)

/-! IntSS -/
/-- How much is left of a size behind a list of rows. -/
def szRows : List (List Int) → Int → Int
  | [], left => left
  | r :: rs, left => if left - (r.length : Int) < 0 then -1 else szRows rs (left - r.length)
theorem szIntS_eq (r : List Int) (left : Int) (h0 : 0 ≤ left) (h1 : left ≤ 1048576) (hr : r.length ≤ 9223372036854775807) : laws_szIntS.f r left = some (if left - (r.length : Int) < 0 then -1 else left - r.length) := by
  unfold laws_szIntS.f
  rw [w64 (by omega) (by omega)]
  split <;> rfl
theorem szRows_le (rs : List (List Int)) : ∀ left, szRows rs left ≤ left ∨ left < 0 := by
  induction rs with
  | nil => intro left; exact Or.inl (Int.le_refl _)
  | cons r rs ih =>
    intro left
    by_cases h : left < 0
    · exact Or.inr h
    · refine Or.inl ?_
      rw [szRows]
      split
      · omega
      · rcases ih (left - r.length) with g | g <;> omega
theorem szIntSS_l0 (rows : List (List Int)) (hl : rows.length ≤ 1048576) (hr : ∀ r ∈ rows, r.length ≤ 9223372036854775807) : ∀ i, i ≤ rows.length → ∀ left, 0 ≤ left → left ≤ 1048576 → Ev (fun k => laws_szIntSS.l0 k rows left (i : Int)) (szRows (rows.drop i) left) :=
  downs (P := fun i => ∀ left, 0 ≤ left → left ≤ 1048576 → Ev (fun k => laws_szIntSS.l0 k rows left (i : Int)) (szRows (rows.drop i) left)) rows.length
    (fun i hi ih left h0 h1 => by
      rw [drop_at hi, szRows]
      have hx := hr _ (List.getElem_mem hi)
      by_cases h : left - (rows[i].length : Int) < 0
      · rw [if_pos h]
        refine Ev.step (f := fun _ => some (-1)) (fun k => ?_) (Ev.now _)
        rw [laws_szIntSS.l0, if_pos (by omega), if_pos (by omega), rdR_of hi, szIntS_eq _ _ h0 h1 hx, Option.bind_some, if_pos h, if_pos (by omega)]
      · rw [if_neg h]
        refine Ev.step (fun k => ?_) (ih (left - rows[i].length) (by omega) (by omega))
        rw [laws_szIntSS.l0, if_pos (by omega), if_pos (by omega), rdR_of hi, szIntS_eq _ _ h0 h1 hx, Option.bind_some, if_neg h, if_neg h, w64 (by omega) (by omega)]
        rfl)
    (fun left h0 h1 => by
      rw [List.drop_length, szRows]
      refine Ev.step (f := fun _ => some left) (fun k => ?_) (Ev.now _)
      rw [laws_szIntSS.l0, if_neg (by omega)])
theorem szRows_ok (rs : List (List Int)) : ∀ left, 0 ≤ left → 0 ≤ szRows rs left → ∀ r ∈ rs, (r.length : Int) ≤ left := by
  induction rs with
  | nil => intro left _ _ r hr; simp at hr
  | cons r rs ih =>
    intro left h0 h r' hr'
    rw [szRows] at h
    split at h
    · omega
    · rcases List.mem_cons.1 hr' with rfl | g
      · omega
      · have := ih _ (by omega) h r' g
        omega
/-- The size of rows: either they are too great or all are small. -/
theorem szIntSS_ev (rows : List (List Int)) (hl : rows.length ≤ 9223372036854775807) (hr : ∀ r ∈ rows, r.length ≤ 9223372036854775807) (left : Int) (h0 : 0 ≤ left) (h1 : left ≤ 1048576) :
    ∃ r : Int, Ev (fun k => laws_szIntSS.f k rows left) r ∧ r ≤ left ∧ (0 ≤ r → rows.length ≤ 1048576 ∧ ∀ x ∈ rows, x.length ≤ 1048576) := by
  by_cases h : left - (rows.length : Int) < 0
  · refine ⟨-1, Ev.congr (fun k => ?_) (Ev.now _), by omega, fun h => by omega⟩
    unfold laws_szIntSS.f
    rw [w64 (by omega) (by omega), if_pos h]
  · have hk := szIntSS_l0 rows (by omega) hr 0 (by omega) (left - rows.length) (by omega) (by omega)
    refine ⟨szRows rows (left - rows.length), Ev.congr (fun k => ?_) (Ev.eq hk (by rw [List.drop_zero])), ?_, fun hp => ⟨by omega, fun x hx => ?_⟩⟩
    · unfold laws_szIntSS.f
      rw [w64 (by omega) (by omega), if_neg h]
      rfl
    · rcases szRows_le rows (left - rows.length) with g | g <;> omega
    · have := szRows_ok rows (left - rows.length) (by omega) hp x hx
      omega
theorem toIntSS_ev (rows : List (List Int)) (hl : rows.length ≤ 1048576) (hr : ∀ r ∈ rows, r.length ≤ 1048576) : Ev (fun k => laws_toIntSS.f k rows) rows := by
  have key := downs (P := fun i => Ev (fun k => laws_toIntSS.l0 k rows (rows.take i ++ List.replicate (rows.length - i) []) (i : Int)) rows) rows.length
    (fun i hi ih => by
      refine Ev.step (f := fun k => (laws_toIntS.f k rows[i]).bind fun t => laws_toIntSS.l0 k rows ((rows.take i ++ List.replicate (rows.length - i) []).set i t) ((i + 1 : Nat) : Int)) (fun k => ?_) (Ev.bind (toIntS_ev rows[i] (hr _ (List.getElem_mem hi))) ?_)
      · rw [laws_toIntSS.l0, if_pos (by omega), if_pos (by omega), rdR_of hi, w64 (by omega) (by omega), Int.toNat_natCast]
        congr 1
        funext t
        rw [if_pos (by simp; omega)]
        rfl
      · rw [show rows.length - i = (rows.length - (i + 1)) + 1 by omega, fill_set rows _ _ i _ hi (by omega) rfl]
        exact ih)
    (by
      refine Ev.step (f := fun _ => some rows) (fun k => ?_) (Ev.now _)
      rw [laws_toIntSS.l0, if_neg (by omega)]
      simp [List.take_of_length_le])
  refine Ev.congr (fun k => ?_) (key 0 (by omega))
  unfold laws_toIntSS.f
  rw [if_pos (by omega), if_pos (by omega)]
  simp
theorem eqIntSS_self (rows : List (List Int)) (hl : rows.length ≤ 1048576) (hr : ∀ r ∈ rows, r.length ≤ 1048576) : Ev (fun k => laws_eqIntSS.f k rows rows) true := by
  have key := downs (P := fun i => Ev (fun k => laws_eqIntSS.l0 k rows rows (i : Int)) true) rows.length
    (fun i hi ih => by
      refine Ev.step (f := fun k => (laws_eqIntS.f k rows[i] rows[i]).bind fun t => if t = true then laws_eqIntSS.l0 k rows rows ((i + 1 : Nat) : Int) else some false) (fun k => ?_) (Ev.bind (Ev.eq (eqIntS_ev rows[i] rows[i] (hr _ (List.getElem_mem hi))) (decide_eq_true rfl)) ?_)
      · rw [laws_eqIntSS.l0, if_pos (by omega), if_pos (by omega), if_pos (by omega), rdR_of hi, w64 (by omega) (by omega)]
        rfl
      · exact ih)
    (by
      refine Ev.step (f := fun _ => some true) (fun k => ?_) (Ev.now _)
      rw [laws_eqIntSS.l0, if_neg (by omega)])
  refine Ev.congr (fun k => ?_) (key 0 (by omega))
  unfold laws_eqIntSS.f
  rw [if_pos rfl]
  rfl

/-! Relation -/
theorem eqBoolS_self (x0 : List Bool) (hb : x0.length ≤ 1048576) : Ev (fun k => laws_eqBoolS.f k x0 x0) true := by
  have key := downs (P := fun i => Ev (fun k => laws_eqBoolS.l0 k x0 x0 (i : Int)) true) x0.length
    (fun i hi ih => by
      refine Ev.step (fun k => ?_) ih
      rw [laws_eqBoolS.l0, if_pos (by omega), if_pos (by omega), if_pos (by omega), bne_self_eq_false, if_neg (by decide), w64 (by omega) (by omega)]
      rfl)
    (by
      refine Ev.step (f := fun _ => some true) (fun k => ?_) (Ev.now _)
      rw [laws_eqBoolS.l0, if_neg (by omega)])
  refine Ev.congr (fun k => ?_) (key 0 (by omega))
  unfold laws_eqBoolS.f
  rw [if_pos rfl]
  rfl
theorem eqRelation_self (b t : Int) (rows : List (List Int)) (acc : List Bool) (hl : rows.length ≤ 1048576) (hr : ∀ r ∈ rows, r.length ≤ 1048576) (ho : acc.length ≤ 1048576) : Ev (fun k => laws_eqRelation.f k b t rows acc b t rows acc) true := by
  unfold laws_eqRelation.f
  simp only [if_true]
  refine Ev.bind (eqIntSS_self rows hl hr) ?_
  simp only [if_true]
  refine Ev.bind (eqBoolS_self acc ho) ?_
  simp only [if_true]
  exact Ev.now _
/-! SzRel -/
/-! Sequence -/
theorem toSequence_ev (b : Int) (rows : List (List Int)) (outs : List Int) (hl : rows.length ≤ 1048576) (hr : ∀ r ∈ rows, r.length ≤ 1048576) (ho : outs.length ≤ 1048576) : Ev (fun k => laws_toSequence.f k b rows outs) (b, rows, outs) := by
  unfold laws_toSequence.f
  exact Ev.bind (toIntSS_ev rows hl hr) (Ev.bind (toIntS_ev outs ho) (Ev.now _))
theorem eqSequence_self (b : Int) (rows : List (List Int)) (outs : List Int) (hl : rows.length ≤ 1048576) (hr : ∀ r ∈ rows, r.length ≤ 1048576) (ho : outs.length ≤ 1048576) : Ev (fun k => laws_eqSequence.f k b rows outs b rows outs) true := by
  unfold laws_eqSequence.f
  simp only [if_true]
  refine Ev.bind (eqIntSS_self rows hl hr) ?_
  simp only [if_true]
  refine Ev.bind (Ev.eq (eqIntS_ev outs outs ho) (decide_eq_true rfl)) ?_
  simp only [if_true]
  exact Ev.now _
theorem szSequence_ev (b : Int) (rows : List (List Int)) (outs : List Int) (hl : rows.length ≤ 9223372036854775807) (hr : ∀ r ∈ rows, r.length ≤ 9223372036854775807) (ho : outs.length ≤ 9223372036854775807) :
    ∃ r : Int, Ev (fun k => laws_szSequence.f k b rows outs 1048576) r ∧ r ≤ 1048576 ∧ (0 ≤ r → rows.length ≤ 1048576 ∧ (∀ x ∈ rows, x.length ≤ 1048576) ∧ outs.length ≤ 1048576) := by
  obtain ⟨r, e, hle, hk⟩ := szIntSS_ev rows hl hr 1048576 (by omega) (by omega)
  by_cases h : r < 0
  · refine ⟨-1, ?_, by omega, fun h => by omega⟩
    unfold laws_szSequence.f
    refine Ev.bind e ?_
    simp only [if_pos h]
    exact Ev.now _
  · obtain ⟨k1, k2⟩ := hk (by omega)
    by_cases h2 : r - (outs.length : Int) < 0
    · refine ⟨-1, ?_, by omega, fun h => by omega⟩
      unfold laws_szSequence.f
      refine Ev.bind e ?_
      simp only [if_neg h, szIntS_eq outs r (by omega) hle ho, Option.bind_some, if_pos h2]
      exact Ev.now _
    · refine ⟨r - outs.length, ?_, by omega, fun _ => ⟨k1, k2, by omega⟩⟩
      unfold laws_szSequence.f
      refine Ev.bind e ?_
      simp only [if_neg h, szIntS_eq outs r (by omega) hle ho, Option.bind_some, if_neg h2]
      exact Ev.now _

/-! marksI -/
def markedI (a : Int) (n : Nat) : List Int := (List.range n).map fun (i : Nat) => a + i
theorem markedI_len (a : Int) (n : Nat) : (markedI a n).length = n := by simp [markedI]
theorem markedI_succ (a : Int) (n : Nat) : markedI a (n + 1) = markedI a n ++ [a + n] := by simp [markedI, List.range_succ]
theorem markedI_get (a : Int) (n i : Nat) (h : i < n) : (markedI a n)[i]'(by simpa [markedI] using h) = a + i := by simp [markedI]
theorem set_mid {α : Type} (m : List α) (xs : List α) (i : Nat) (x : α) (hm : m.length = i) (h : i < xs.length) : (m ++ xs.drop i).set i x = (m ++ [x]) ++ xs.drop (i + 1) := by
  rw [List.set_append_right _ _ (by omega), hm, Nat.sub_self, List.drop_eq_getElem_cons h, List.set_cons_zero, List.append_assoc]
  rfl
theorem markIntS_ev (xs : List Int) (a : Int) (h0 : 0 ≤ a) (h1 : a ≤ 1152921504606846976) (hl : xs.length ≤ 1152921504606846976) : Ev (fun k => laws_markIntS.f k xs a) (a + xs.length, markedI a xs.length) := by
  have key := downs (P := fun i => Ev (fun k => laws_markIntS.l0 k (markedI a i ++ xs.drop i) (a + i) (i : Int)) (a + xs.length, markedI a xs.length)) xs.length
    (fun i hi ih => by
      rw [markedI_succ, ← set_mid _ _ _ _ (markedI_len a i) hi] at ih
      refine Ev.step (fun k => ?_) ih
      rw [laws_markIntS.l0, if_pos (by simp [markedI_len]; omega), if_pos (by omega), w64 (by omega) (by omega), w64 (by omega) (by omega), Int.toNat_natCast]
      show _ = laws_markIntS.l0 k _ (a + ((i + 1 : Nat) : Int)) _
      rw [show (a + ((i + 1 : Nat) : Int)) = a + i + 1 by omega]
      rfl)
    (by
      refine Ev.step (f := fun _ => some _) (fun k => ?_) (Ev.now _)
      rw [laws_markIntS.l0, if_neg (by simp [markedI_len])]
      simp)
  have h := key 0 (by omega)
  refine Ev.congr (fun k => ?_) h
  simp [laws_markIntS.f, markedI]
theorem heldIntS_ev (a : Int) (n : Nat) (h0 : 0 ≤ a) (h1 : a ≤ 1152921504606846976) (hl : n ≤ 1152921504606846976) : Ev (fun k => laws_heldIntS.f k (markedI a n) a) (a + n) := by
  have key := downs (P := fun i => Ev (fun k => laws_heldIntS.l0 k (markedI a n) (a + i) (i : Int)) (a + n)) n
    (fun i hi ih => by
      refine Ev.step (fun k => ?_) ih
      rw [laws_heldIntS.l0, if_pos (by rw [markedI_len]; omega), if_pos (by omega), rd_of (by rw [markedI_len]; omega), markedI_get a n i hi, if_pos rfl, w64 (by omega) (by omega), w64 (by omega) (by omega)]
      rw [show (a + ((i + 1 : Nat) : Int)) = a + i + 1 by omega]
      rfl)
    (by
      refine Ev.step (f := fun _ => some _) (fun k => ?_) (Ev.now _)
      rw [laws_heldIntS.l0, if_neg (by rw [markedI_len]; omega)])
  have h := key 0 (by omega)
  refine Ev.congr (fun k => ?_) h
  simp [laws_heldIntS.f]

/-! marksR -/
def totL (rows : List (List Int)) : Nat := (rows.map List.length).sum
def markedRows : Int → List (List Int) → List (List Int)
  | _, [] => []
  | a, r :: rs => markedI a r.length :: markedRows (a + r.length) rs
theorem markedRows_len : ∀ (rows : List (List Int)) (a : Int), (markedRows a rows).length = rows.length
  | [], _ => rfl
  | r :: rs, a => by rw [markedRows, List.length_cons, markedRows_len rs, List.length_cons]
theorem totL_snoc (l : List (List Int)) (r : List Int) : totL (l ++ [r]) = totL l + r.length := by simp [totL]
theorem markedRows_snoc : ∀ (l : List (List Int)) (a : Int) (r : List Int), markedRows a (l ++ [r]) = markedRows a l ++ [markedI (a + totL l) r.length]
  | [], a, r => by simp [markedRows, totL]
  | x :: l, a, r => by
    have e : totL (x :: l) = x.length + totL l := by simp [totL]
    rw [List.cons_append, markedRows, markedRows_snoc l, markedRows, List.cons_append, show a + (x.length : Int) + (totL l : Int) = a + (totL (x :: l) : Int) by omega]
theorem totL_le (rows : List (List Int)) (m : Nat) (h : ∀ r ∈ rows, r.length ≤ m) : totL rows ≤ rows.length * m := by
  induction rows with
  | nil => simp [totL]
  | cons r rs ih =>
    have h1 := h r (List.mem_cons_self ..)
    have h2 := ih (fun x hx => h x (List.mem_cons_of_mem _ hx))
    have e : totL (r :: rs) = r.length + totL rs := by simp [totL]
    rw [e, List.length_cons, Nat.add_mul, Nat.one_mul]
    omega
theorem totL_small {rows : List (List Int)} (hl : rows.length ≤ 1048576) (hr : ∀ r ∈ rows, r.length ≤ 1048576) (i : Nat) : totL (rows.take i) ≤ 1099511627776 := by
  have h := totL_le (rows.take i) 1048576 (fun r h => hr r (List.mem_of_mem_take h))
  have : (rows.take i).length ≤ 1048576 := by rw [List.length_take]; omega
  have := Nat.mul_le_mul_right 1048576 this
  omega
theorem markIntSS_ev (rows : List (List Int)) (a : Int) (h0 : 0 ≤ a) (h1 : a ≤ 1152921504606) (hl : rows.length ≤ 1048576) (hr : ∀ r ∈ rows, r.length ≤ 1048576) : Ev (fun k => laws_markIntSS.f k rows a) (a + totL rows, markedRows a rows) := by
  have key := downs (P := fun i => Ev (fun k => laws_markIntSS.l0 k (markedRows a (rows.take i) ++ rows.drop i) (a + totL (rows.take i)) (i : Int)) (a + totL rows, markedRows a rows)) rows.length
    (fun i hi ih => by
      have ht := totL_small hl hr i
      have hlt : (markedRows a (rows.take i)).length = i := by rw [markedRows_len, List.length_take]; omega
      have hx := hr rows[i] (List.getElem_mem hi)
      have er : rdRow (markedRows a (rows.take i) ++ rows.drop i) (i : Int) = rows[i] := by
        unfold rdRow
        rw [Int.toNat_natCast, List.getD_eq_getElem?_getD, List.getElem?_append_right (by omega), hlt, Nat.sub_self, drop_at hi]
        rfl
      refine Ev.step (f := fun k => (laws_markIntS.f k rows[i] (a + totL (rows.take i))).bind fun p => laws_markIntSS.l0 k ((markedRows a (rows.take i) ++ rows.drop i).set i p.2) p.1 ((i + 1 : Nat) : Int)) (fun k => ?_) (Ev.bind (markIntS_ev rows[i] (a + totL (rows.take i)) (by omega) (by omega) (by omega)) ?_)
      · rw [laws_markIntSS.l0, if_pos (by rw [List.length_append, hlt, List.length_drop]; omega), if_pos (by omega), er, w64 (by omega) (by omega), Int.toNat_natCast]
        rfl
      · rw [List.take_succ_eq_append_getElem hi, markedRows_snoc, totL_snoc] at ih
        rw [set_mid _ _ _ _ hlt hi]
        refine Ev.congr (fun k => ?_) ih
        congr 1
        omega)
    (by
      refine Ev.step (f := fun _ => some _) (fun k => ?_) (Ev.now _)
      rw [laws_markIntSS.l0, if_neg (by rw [List.length_append, markedRows_len, List.length_drop]; simp), List.drop_length, List.append_nil, List.take_length])
  have h := key 0 (by omega)
  refine Ev.congr (fun k => ?_) h
  simp [laws_markIntSS.f, markedRows, totL]
def markedB (a : Int) (n : Nat) : List Bool := (List.range n).map fun (i : Nat) => (Int.tmod (a + i) 3) == 0
theorem markedB_len (a : Int) (n : Nat) : (markedB a n).length = n := by simp [markedB]
theorem markedB_succ (a : Int) (n : Nat) : markedB a (n + 1) = markedB a n ++ [(Int.tmod (a + n) 3) == 0] := by simp [markedB, List.range_succ]
theorem markBoolS_ev (xs : List Bool) (a : Int) (h0 : 0 ≤ a) (h1 : a ≤ 1152921504606846976) (hl : xs.length ≤ 1048576) : Ev (fun k => laws_markBoolS.f k xs a) (a + xs.length, markedB a xs.length) := by
  have key := downs (P := fun i => Ev (fun k => laws_markBoolS.l0 k (markedB a i ++ xs.drop i) (a + i) (i : Int)) (a + xs.length, markedB a xs.length)) xs.length
    (fun i hi ih => by
      rw [markedB_succ, ← set_mid _ _ _ _ (markedB_len a i) hi] at ih
      refine Ev.step (fun k => ?_) ih
      rw [laws_markBoolS.l0, if_pos (by simp [markedB_len]; omega), if_pos (by omega), w64 (by omega) (by omega), w64 (by omega) (by omega), Int.toNat_natCast]
      show _ = laws_markBoolS.l0 k _ (a + ((i + 1 : Nat) : Int)) _
      rw [show (a + ((i + 1 : Nat) : Int)) = a + i + 1 by omega]
      rfl)
    (by
      refine Ev.step (f := fun _ => some _) (fun k => ?_) (Ev.now _)
      rw [laws_markBoolS.l0, if_neg (by simp [markedB_len])]
      simp)
  have h := key 0 (by omega)
  refine Ev.congr (fun k => ?_) h
  simp [laws_markBoolS.f, markedB]
theorem markRelation_ev (rows : List (List Int)) (acc : List Bool) (hl : rows.length ≤ 1048576) (hr : ∀ r ∈ rows, r.length ≤ 1048576) (ho : acc.length ≤ 1048576) :
    Ev (fun k => laws_markRelation.f k rows acc 1) (1 + totL rows + acc.length, markedRows 1 rows, markedB (1 + totL rows) acc.length) := by
  have ht := totL_small hl hr rows.length
  rw [List.take_length] at ht
  unfold laws_markRelation.f
  exact Ev.bind (markIntSS_ev rows 1 (by omega) (by omega) hl hr) (Ev.bind (markBoolS_ev acc (1 + totL rows) (by omega) (by omega) ho) (Ev.now _))
/-! heldR -/
theorem markedRows_get : ∀ (rows : List (List Int)) (a : Int) (i : Nat) (h : i < rows.length), (markedRows a rows)[i]'(by rw [markedRows_len]; exact h) = markedI (a + totL (rows.take i)) rows[i].length
  | r :: rs, a, 0, _ => by simp [markedRows, totL]
  | r :: rs, a, i + 1, h => by
    have e : totL ((r :: rs).take (i + 1)) = r.length + totL (rs.take i) := by simp [totL]
    have ih := markedRows_get rs (a + r.length) i (by simpa using h)
    simp only [markedRows, List.getElem_cons_succ]
    rw [ih, e, show a + (r.length : Int) + (totL (rs.take i) : Int) = a + ((r.length + totL (rs.take i) : Nat) : Int) by omega]
theorem heldIntSS_ev (rows : List (List Int)) (a : Int) (h0 : 0 ≤ a) (h1 : a ≤ 1152921504606) (hl : rows.length ≤ 1048576) (hr : ∀ r ∈ rows, r.length ≤ 1048576) : Ev (fun k => laws_heldIntSS.f k (markedRows a rows) a) (a + totL rows) := by
  have key := downs (P := fun i => Ev (fun k => laws_heldIntSS.l0 k (markedRows a rows) (a + totL (rows.take i)) (i : Int)) (a + totL rows)) rows.length
    (fun i hi ih => by
      have ht := totL_small hl hr i
      have hx := hr rows[i] (List.getElem_mem hi)
      have er : rd_L1 (markedRows a rows) (i : Int) = markedI (a + totL (rows.take i)) rows[i].length := by
        rw [rdR_of (by rw [markedRows_len]; exact hi)]
        exact markedRows_get rows a i hi
      refine Ev.step (f := fun k => (laws_heldIntS.f k (markedI (a + totL (rows.take i)) rows[i].length) (a + totL (rows.take i))).bind fun t => (if t < 0 then (some (-1)) else (laws_heldIntSS.l0 k (markedRows a rows) t ((i + 1 : Nat) : Int)))) (fun k => ?_) (Ev.bind (heldIntS_ev (a + totL (rows.take i)) rows[i].length (by omega) (by omega) (by omega)) ?_)
      · rw [laws_heldIntSS.l0, if_pos (by rw [markedRows_len]; omega), if_pos (by omega), er, w64 (by omega) (by omega)]
        rfl
      · simp only [if_neg (show ¬ (a + (totL (rows.take i) : Int) + (rows[i].length : Int) < 0) by omega)]
        rw [List.take_succ_eq_append_getElem hi, totL_snoc] at ih
        refine Ev.congr (fun k => ?_) ih
        congr 1
        omega)
    (by
      refine Ev.step (f := fun _ => some _) (fun k => ?_) (Ev.now _)
      rw [laws_heldIntSS.l0, if_neg (by rw [markedRows_len]; omega), List.take_length])
  have h := key 0 (by omega)
  refine Ev.congr (fun k => ?_) h
  simp [laws_heldIntSS.f, totL]
theorem heldBoolS_ev (a : Int) (n : Nat) (h0 : 0 ≤ a) (h1 : a ≤ 1152921504606846976) (hl : n ≤ 1152921504606846976) : Ev (fun k => laws_heldBoolS.f k (markedB a n) a) (a + n) := by
  have key := downs (P := fun i => Ev (fun k => laws_heldBoolS.l0 k (markedB a n) (a + i) (i : Int)) (a + n)) n
    (fun i hi ih => by
      refine Ev.step (fun k => ?_) ih
      have e : rdOf false (markedB a n) (i : Int) = (Int.tmod (a + i) 3 == 0) := by
        unfold rdOf
        rw [getD_of (by rw [markedB_len]; exact hi)]
        simp [markedB]
      rw [laws_heldBoolS.l0, if_pos (by rw [markedB_len]; omega), if_pos (by omega), e, bne_self_eq_false, if_neg (by decide), w64 (by omega) (by omega), w64 (by omega) (by omega)]
      rw [show (a + ((i + 1 : Nat) : Int)) = a + i + 1 by omega]
      rfl)
    (by
      refine Ev.step (f := fun _ => some _) (fun k => ?_) (Ev.now _)
      rw [laws_heldBoolS.l0, if_neg (by rw [markedB_len]; omega)])
  have h := key 0 (by omega)
  refine Ev.congr (fun k => ?_) h
  simp [laws_heldBoolS.f]
theorem heldRelation_ev (b t : Int) (rows : List (List Int)) (acc : List Bool) (hl : rows.length ≤ 1048576) (hr : ∀ r ∈ rows, r.length ≤ 1048576) (ho : acc.length ≤ 1048576) :
    Ev (fun k => laws_heldRelation.f k b t (markedRows 1 rows) (markedB (1 + totL rows) acc.length) 1) (1 + totL rows + acc.length) := by
  have ht := totL_small hl hr rows.length
  rw [List.take_length] at ht
  unfold laws_heldRelation.f
  refine Ev.bind (heldIntSS_ev rows 1 (by omega) (by omega) hl hr) ?_
  simp only [if_neg (show ¬ (1 + (totL rows : Int) < 0) by omega)]
  refine Ev.bind (heldBoolS_ev (1 + totL rows) acc.length (by omega) (by omega) (by omega)) ?_
  simp only [if_neg (show ¬ (1 + (totL rows : Int) + (acc.length : Int) < 0) by omega)]
  exact Ev.now _

/-! marksS -/
theorem markSequence_ev (rows : List (List Int)) (outs : List Int) (hl : rows.length ≤ 1048576) (hr : ∀ r ∈ rows, r.length ≤ 1048576) (ho : outs.length ≤ 1048576) :
    Ev (fun k => laws_markSequence.f k rows outs 1) (1 + totL rows + outs.length, markedRows 1 rows, markedI (1 + totL rows) outs.length) := by
  have ht := totL_small hl hr rows.length
  rw [List.take_length] at ht
  unfold laws_markSequence.f
  exact Ev.bind (markIntSS_ev rows 1 (by omega) (by omega) hl hr) (Ev.bind (markIntS_ev outs (1 + totL rows) (by omega) (by omega) (by omega)) (Ev.now _))

/-! spec_l1In -/
theorem l1In_eq (a b c : Int) : spec_l1In.f a b c = some (decide (b ≤ a ∧ a ≤ c)) := by
  unfold spec_l1In.f
  by_cases h : a ≥ b
  · rw [if_pos h]
    congr 1
    simp; omega
  · rw [if_neg h]
    congr 1
    simp; omega

/-! IsSequence -/
def outS (o : Int) : Bool := decide (0 ≤ o ∧ o ≤ 3)
theorem specIS_l1 (b : Int) (rows : List (List Int)) (outs : List Int) (i : Nat) (hi : i < rows.length) (hl : rows.length ≤ 1048576) (hr : rows[i].length ≤ 1048576) (nb : Bool) (next : Ev (fun k => spec_IsSequence.l0 k ((i + 1 : Nat) : Int) b rows outs) nb) :
    Ev (fun k => spec_IsSequence.l1 k (i : Int) 0 b rows outs) (rows[i].all (inS rows.length) && nb) := by
  have hR := rdR_of hi
  have key := downs (P := fun c => Ev (fun k => spec_IsSequence.l1 k (i : Int) (c : Int) b rows outs) ((rows[i].drop c).all (inS rows.length) && nb)) rows[i].length
    (fun c hc ih => by
      rw [drop_at hc, List.all_cons]
      by_cases h : 0 ≤ rows[i][c] ∧ rows[i][c] < (rows.length : Int)
      · refine Ev.step (fun k => ?_) (Ev.eq ih (by rw [show inS rows.length rows[i][c] = true from decide_eq_true h, Bool.true_and]))
        rw [spec_IsSequence.l1, if_pos (by omega), if_pos (by omega), hR, if_pos (by omega), if_pos (by omega), rd_of hc, if_neg (by omega), if_neg (by omega), w64 (by omega) (by omega)]
        rfl
      · refine Ev.step (f := fun _ => some false) (fun k => ?_) (Ev.eq (Ev.now _) (by rw [show inS rows.length rows[i][c] = false from decide_eq_false h, Bool.false_and, Bool.false_and]))
        rw [spec_IsSequence.l1, if_pos (by omega), if_pos (by omega), hR, if_pos (by omega), if_pos (by omega), rd_of hc]
        by_cases h0 : rows[i][c] < 0
        · rw [if_pos h0]
        · rw [if_neg h0, if_pos (by omega)])
    (by
      refine Ev.step (fun k => ?_) (Ev.eq next (by simp))
      rw [spec_IsSequence.l1, if_pos (by omega), if_pos (by omega), hR, if_neg (by omega), w64 (by omega) (by omega)]
      rfl)
  have h := key 0 (by omega)
  exact h
theorem specIS_l2 (b : Int) (rows : List (List Int)) (outs : List Int) (hl : outs.length ≤ 1048576) : Ev (fun k => spec_IsSequence.l2 k 0 b rows outs) (outs.all outS && (decide (2 ≤ b ∧ b ≤ 4) && (decide (1 ≤ (rows.length : Int) ∧ (rows.length : Int) ≤ 16) && ((outs.length : Int) == (rows.length : Int))))) := by
  have key := downs (P := fun c => Ev (fun k => spec_IsSequence.l2 k (c : Int) b rows outs) ((outs.drop c).all outS && (decide (2 ≤ b ∧ b ≤ 4) && (decide (1 ≤ (rows.length : Int) ∧ (rows.length : Int) ≤ 16) && ((outs.length : Int) == (rows.length : Int)))))) outs.length
    (fun c hc ih => by
      rw [drop_at hc, List.all_cons]
      cases h : outS outs[c] with
      | true =>
        refine Ev.step (fun k => ?_) (Ev.eq ih (by rw [Bool.true_and]))
        have h' : decide (0 ≤ outs[c] ∧ outs[c] ≤ 3) = true := h
        rw [spec_IsSequence.l2, if_pos (by omega), if_pos (by omega), rd_of hc, l1In_eq, Option.bind_some, h', if_pos rfl, w64 (by omega) (by omega)]
        rfl
      | false =>
        refine Ev.step (f := fun _ => some false) (fun k => ?_) (Ev.eq (Ev.now _) (by simp))
        have h' : decide (0 ≤ outs[c] ∧ outs[c] ≤ 3) = false := h
        rw [spec_IsSequence.l2, if_pos (by omega), if_pos (by omega), rd_of hc, l1In_eq, Option.bind_some, h', if_neg (by decide)])
    (by
      refine Ev.step (f := fun _ => some _) (fun k => ?_) (Ev.now _)
      rw [spec_IsSequence.l2, if_neg (by omega), l1In_eq, Option.bind_some, l1In_eq, Option.bind_some, List.drop_length, List.all_nil, Bool.true_and]
      cases decide (2 ≤ b ∧ b ≤ 4) <;> cases decide (1 ≤ (rows.length : Int) ∧ (rows.length : Int) ≤ 16) <;> rfl)
  exact key 0 (by omega)
def isSq (b : Int) (rows : List (List Int)) (outs : List Int) : Bool := rows.all (rowS b rows.length) && (outs.all outS && (decide (2 ≤ b ∧ b ≤ 4) && (decide (1 ≤ (rows.length : Int) ∧ (rows.length : Int) ≤ 16) && ((outs.length : Int) == (rows.length : Int)))))
theorem specIS_ev (b : Int) (rows : List (List Int)) (outs : List Int) (hl : rows.length ≤ 1048576) (hr : ∀ i (h : i < rows.length), rows[i].length ≤ 1048576) (ho : outs.length ≤ 1048576) : Ev (fun k => spec_IsSequence.f k b rows outs) (isSq b rows outs) := by
  have key := downs (P := fun i => Ev (fun k => spec_IsSequence.l0 k (i : Int) b rows outs) ((rows.drop i).all (rowS b rows.length) && (outs.all outS && (decide (2 ≤ b ∧ b ≤ 4) && (decide (1 ≤ (rows.length : Int) ∧ (rows.length : Int) ≤ 16) && ((outs.length : Int) == (rows.length : Int))))))) rows.length
    (fun i hi ih => by
      rw [drop_at hi, List.all_cons]
      by_cases h : (rows[i].length : Int) = b
      · refine Ev.step (fun k => ?_) (Ev.eq (specIS_l1 b rows outs i hi hl (hr i hi) _ ih) (by rw [rowS, decide_eq_true h, Bool.true_and, Bool.and_assoc]))
        rw [spec_IsSequence.l0, if_pos (by omega), if_pos (by omega), rdR_of hi, if_pos h]
      · refine Ev.step (f := fun _ => some false) (fun k => ?_) (Ev.eq (Ev.now _) (by rw [rowS, decide_eq_false h, Bool.false_and, Bool.false_and, Bool.false_and]))
        rw [spec_IsSequence.l0, if_pos (by omega), if_pos (by omega), rdR_of hi, if_neg h])
    (by
      refine Ev.step (fun k => ?_) (Ev.eq (specIS_l2 b rows outs ho) (by rw [List.drop_length, List.all_nil, Bool.true_and]))
      rw [spec_IsSequence.l0, if_neg (by omega)])
  have h := key 0 (by omega)
  exact h
theorem implIS_l1 (b : Int) (rows : List (List Int)) (outs : List Int) (i : Nat) (hi : i < rows.length) (hl : rows.length ≤ 1048576) (hr : rows[i].length ≤ 1048576) (nb : Bool) (next : Ev (fun k => impl_IsSequence.l0 k (rows.length : Int) rows (rows.length : Int) ((i + 1 : Nat) : Int) b rows outs) nb) :
    Ev (fun k => impl_IsSequence.l1 k (rows.length : Int) rows (rows.length : Int) (i : Int) rows[i] (rows[i].length : Int) 0 b rows outs) (rows[i].all (inS rows.length) && nb) := by
  have key := downs (P := fun c => Ev (fun k => impl_IsSequence.l1 k (rows.length : Int) rows (rows.length : Int) (i : Int) rows[i] (rows[i].length : Int) (c : Int) b rows outs) ((rows[i].drop c).all (inS rows.length) && nb)) rows[i].length
    (fun c hc ih => by
      rw [drop_at hc, List.all_cons]
      by_cases h : 0 ≤ rows[i][c] ∧ rows[i][c] < (rows.length : Int)
      · refine Ev.step (fun k => ?_) (Ev.eq ih (by rw [show inS rows.length rows[i][c] = true from decide_eq_true h, Bool.true_and]))
        rw [impl_IsSequence.l1, if_pos (by omega), if_pos (by omega), if_pos (by omega), rd_of hc, if_neg (by omega), if_neg (by omega), w64 (by omega) (by omega)]
        rfl
      · refine Ev.step (f := fun _ => some false) (fun k => ?_) (Ev.eq (Ev.now _) (by rw [show inS rows.length rows[i][c] = false from decide_eq_false h, Bool.false_and, Bool.false_and]))
        rw [impl_IsSequence.l1, if_pos (by omega), if_pos (by omega), if_pos (by omega), rd_of hc]
        by_cases h0 : rows[i][c] < 0
        · rw [if_pos h0]
        · rw [if_neg h0, if_pos (by omega)])
    (by
      refine Ev.step (fun k => ?_) (Ev.eq next (by simp))
      rw [impl_IsSequence.l1, if_neg (by omega), w64 (by omega) (by omega)]
      rfl)
  exact key 0 (by omega)
theorem implIS_l0 (b : Int) (rows : List (List Int)) (outs : List Int) (hl : rows.length ≤ 1048576) (hr : ∀ i (h : i < rows.length), rows[i].length ≤ 1048576) (ho : outs.length = rows.length) : Ev (fun k => impl_IsSequence.l0 k (rows.length : Int) rows (rows.length : Int) 0 b rows outs) (rows.all (rowS b rows.length) && outs.all outS) := by
  have key := downs (P := fun i => Ev (fun k => impl_IsSequence.l0 k (rows.length : Int) rows (rows.length : Int) (i : Int) b rows outs) ((rows.drop i).all (rowS b rows.length) && (outs.drop i).all outS)) rows.length
    (fun i hi ih => by
      have hi2 : i < outs.length := by omega
      rw [drop_at hi, drop_at hi2, List.all_cons, List.all_cons]
      by_cases h : (rows[i].length : Int) = b
      · by_cases h3 : 0 ≤ outs[i] ∧ outs[i] ≤ 3
        · have h1 := implIS_l1 b rows outs i hi hl (hr i hi) _ ih
          obtain ⟨K, hK⟩ := h1
          refine Ev.eq (r := (rows[i].all (inS rows.length) && ((rows.drop (i + 1)).all (rowS b rows.length) && (outs.drop (i + 1)).all outS))) ⟨K + 2, fun k hk => ?_⟩ (by rw [rowS, decide_eq_true h, Bool.true_and, show outS outs[i] = true from decide_eq_true h3, Bool.true_and, Bool.and_assoc])
          obtain ⟨m, rfl⟩ : ∃ m, k = m + 2 := ⟨k - 2, by omega⟩
          show impl_IsSequence.l0 (m + 1 + 1) _ _ _ _ _ _ _ = _
          rw [impl_IsSequence.l0, if_pos (by omega), if_pos (by omega), if_pos (by omega), rdR_of hi, if_pos h, if_pos (by omega), rd_of hi2, if_neg (by omega), decide_eq_false (show ¬ outs[i] > 3 by omega), impl_IsSequence.j2, if_neg (by decide)]
          exact hK m (by omega)
        · refine Ev.eq (r := false) ⟨2, fun k hk => ?_⟩ (by rw [show outS outs[i] = false from decide_eq_false h3, Bool.false_and, Bool.and_false])
          obtain ⟨m, rfl⟩ : ∃ m, k = m + 2 := ⟨k - 2, by omega⟩
          show impl_IsSequence.l0 (m + 1 + 1) _ _ _ _ _ _ _ = _
          rw [impl_IsSequence.l0, if_pos (by omega), if_pos (by omega), if_pos (by omega), rdR_of hi, if_pos h, if_pos (by omega), rd_of hi2]
          by_cases h0 : outs[i] < 0
          · rw [if_pos h0, impl_IsSequence.j2, if_pos rfl]
          · rw [if_neg h0, decide_eq_true (show outs[i] > 3 by omega), impl_IsSequence.j2, if_pos rfl]
      · refine Ev.eq (r := false) ⟨2, fun k hk => ?_⟩ (by rw [rowS, decide_eq_false h, Bool.false_and, Bool.false_and, Bool.false_and])
        obtain ⟨m, rfl⟩ : ∃ m, k = m + 2 := ⟨k - 2, by omega⟩
        show impl_IsSequence.l0 (m + 1 + 1) _ _ _ _ _ _ _ = _
        rw [impl_IsSequence.l0, if_pos (by omega), if_pos (by omega), if_pos (by omega), rdR_of hi, if_neg h, impl_IsSequence.j2, if_pos rfl])
    (by
      refine Ev.step (f := fun _ => some true) (fun k => ?_) (Ev.eq (Ev.now _) (by rw [List.drop_length, ← ho, List.drop_length]; rfl))
      rw [impl_IsSequence.l0, if_neg (by omega)])
  exact key 0 (by omega)
theorem isBase_eq (b : Int) : impl_isBase.f b = some (decide (2 ≤ b ∧ b ≤ 4)) := by
  unfold impl_isBase.f
  by_cases h : b ≥ 2
  · rw [if_pos h, Option.some.injEq, decide_eq_decide]
    omega
  · rw [if_neg h, Option.some.injEq]
    exact (decide_eq_false (by omega)).symm
theorem implIS_ev (b : Int) (rows : List (List Int)) (outs : List Int) (hl : rows.length ≤ 1048576) (hr : ∀ i (h : i < rows.length), rows[i].length ≤ 1048576) : Ev (fun k => impl_IsSequence.f k b rows outs) (isSq b rows outs) := by
  unfold impl_IsSequence.f
  simp only [isBase_eq, Option.bind_some]
  have no (X : Bool) (hX : X = true) : Ev (fun k => impl_IsSequence.j0 k (rows.length : Int) X b rows outs) false := by
    subst hX
    refine Ev.step (f := fun _ => some false) (fun k => ?_) (Ev.now _)
    rw [impl_IsSequence.j0, if_pos rfl]
  by_cases hb : 2 ≤ b ∧ b ≤ 4
  · simp only [decide_eq_true hb, if_true]
    by_cases h1 : (rows.length : Int) < 1
    · refine Ev.congr (fun k => if_pos h1) (Ev.eq (no true rfl) ?_)
      rw [isSq, decide_eq_false (show ¬ (1 ≤ (rows.length : Int) ∧ (rows.length : Int) ≤ 16) by omega)]
      simp
    · refine Ev.congr (fun k => if_neg h1) ?_
      by_cases h2 : (rows.length : Int) > 16
      · refine Ev.congr (fun k => if_pos h2) (Ev.eq (no true rfl) ?_)
        rw [isSq, decide_eq_false (show ¬ (1 ≤ (rows.length : Int) ∧ (rows.length : Int) ≤ 16) by omega)]
        simp
      · refine Ev.congr (fun k => if_neg h2) ?_
        by_cases h3 : outs.length = rows.length
        · have e : ((outs.length : Int) != (rows.length : Int)) = false := by simp [h3]
          simp only [e]
          refine Ev.step (fun k => ?_) (Ev.eq (implIS_l0 b rows outs hl hr h3) ?_)
          · rw [impl_IsSequence.j0, if_neg (by decide)]
          · rw [isSq, decide_eq_true hb, decide_eq_true (show 1 ≤ (rows.length : Int) ∧ (rows.length : Int) ≤ 16 by omega), h3]
            simp
        · have e : ((outs.length : Int) != (rows.length : Int)) = true := by simp; omega
          refine Ev.eq (no _ e) ?_
          have e2 : ((outs.length : Int) == (rows.length : Int)) = false := by simp; omega
          rw [isSq, e2]
          simp
  · simp only [decide_eq_false hb, Bool.false_eq_true, if_false]
    refine Ev.eq (no true rfl) ?_
    rw [isSq, decide_eq_false hb]
    simp

/-! Power -/
/-! IsRelation -/
/-- A relation of base b over t tracks, all entries in range, that stays where it is under zeros. -/
structure RelW (b t : Nat) (rows : List (List Int)) (acc : List Bool) : Prop where
  b2 : 2 ≤ b
  b3 : b ≤ 3
  t3 : t ≤ 3
  n1 : 1 ≤ rows.length
  n48 : rows.length ≤ 48
  al : acc.length = rows.length
  row : rows.all (rowS ((b ^ t : Nat) : Int) rows.length) = true
  zero : rd (rows.getD 0 []) 0 = 0
theorem RelW.len {b t : Nat} {rows : List (List Int)} {acc : List Bool} (H : RelW b t rows acc) (i : Nat) (hi : i < rows.length) : rows[i].length = b ^ t ∧ ∀ x ∈ rows[i], 0 ≤ x ∧ x < (rows.length : Int) := by
  have h := List.all_eq_true.1 H.row rows[i] (List.getElem_mem hi)
  unfold rowS at h
  simp only [Bool.and_eq_true, decide_eq_true_eq, List.all_eq_true] at h
  refine ⟨by omega, fun x hx => ?_⟩
  have := h.2 x hx
  simpa [inS] using this
/-! L3Same -/
theorem l3Same_l0 (x0 x1 : List Int) (hb : x0.length ≤ 1048576) (hl : x0.length = x1.length) (d : Nat) : ∀ (i : Nat), i + d = x0.length →
    Ev (fun k => spec_l3Same.l0 k x0 x1 i) (decide (x0.drop i = x1.drop i)) := by
  induction d with
  | zero =>
    intro i hi
    refine Ev.step (f := fun _ => some true) (fun k => ?_) ?_
    · rw [spec_l3Same.l0, if_neg (by omega)]
    · rw [List.drop_of_length_le (by omega), List.drop_of_length_le (by omega)]
      exact Ev.now _
  | succ d ih =>
    intro i hi
    have e0 : x0.drop i = x0[i]'(by omega) :: x0.drop (i + 1) := List.drop_eq_getElem_cons (by omega)
    have e1 : x1.drop i = x1[i]'(by omega) :: x1.drop (i + 1) := List.drop_eq_getElem_cons (by omega)
    by_cases h : x0[i]'(by omega) = x1[i]'(by omega)
    · rw [e0, e1, h]
      simp only [List.cons.injEq, true_and]
      refine Ev.step (fun k => ?_) (ih (i + 1) (by omega))
      rw [spec_l3Same.l0, if_pos (by omega), if_pos (by omega), if_pos (by omega), rd_of (show i < x0.length by omega), rd_of (show i < x1.length by omega), if_pos h, w64 (by omega) (by omega)]
      rfl
    · rw [e0, e1]
      simp only [List.cons.injEq, h, false_and]
      refine Ev.step (f := fun _ => some false) (fun k => ?_) (Ev.now _)
      rw [spec_l3Same.l0, if_pos (by omega), if_pos (by omega), if_pos (by omega), rd_of (show i < x0.length by omega), rd_of (show i < x1.length by omega), if_neg h]

theorem l3Same_ev (x0 x1 : List Int) (hb : x0.length ≤ 1048576) : Ev (fun k => spec_l3Same.f k x0 x1) (decide (x0 = x1)) := by
  by_cases hl : x0.length = x1.length
  · refine Ev.congr (fun k => ?_) (l3Same_l0 x0 x1 hb hl x0.length 0 (by omega))
    unfold spec_l3Same.f
    rw [if_pos (by omega)]
    rfl
  · rw [decide_eq_false (by intro h; exact hl (by rw [h]))]
    refine Ev.congr (fun k => ?_) (Ev.now _)
    unfold spec_l3Same.f
    rw [if_neg (by omega)]

/-! Refine -/
/-! Numberings of the values of a list in the order of their first places (plain Lean). -/
def newAt {α : Type} (a : Nat → α) (i : Nat) : Prop := ∀ k, k < i → a k ≠ a i
open Classical in
noncomputable def cntN {α : Type} (a : Nat → α) : Nat → Nat
  | 0 => 0
  | n + 1 => cntN a n + (if newAt a n then 1 else 0)
structure IsNumb {α : Type} (a : Nat → α) (n : Nat) (c : Nat → Int) : Prop where
  first : ∀ i, i < n → newAt a i → c i = (cntN a i : Nat)
  same : ∀ i j, i < n → j < n → a i = a j → c i = c j
theorem cntN_succ_new {α : Type} {a : Nat → α} {n : Nat} (h : newAt a n) : cntN a (n + 1) = cntN a n + 1 := by
  rw [cntN, if_pos h]
theorem cntN_succ_old {α : Type} {a : Nat → α} {n : Nat} (h : ¬ newAt a n) : cntN a (n + 1) = cntN a n := by
  rw [cntN, if_neg h]; rfl
theorem cntN_mono {α : Type} (a : Nat → α) (n d : Nat) : cntN a n ≤ cntN a (n + d) := by
  induction d with
  | zero => exact Nat.le_refl _
  | succ d ih => rw [show n + (d + 1) = (n + d) + 1 by omega, cntN]; split <;> omega
theorem cntN_le {α : Type} (a : Nat → α) (n : Nat) : cntN a n ≤ n := by
  induction n with
  | zero => exact Nat.le_refl _
  | succ n ih => rw [cntN]; split <;> omega
theorem cntN_lt {α : Type} {a : Nat → α} {i n : Nat} (h : newAt a i) (hi : i < n) : cntN a i < cntN a n := by
  have := cntN_mono a (i + 1) (n - (i + 1))
  rw [show i + 1 + (n - (i + 1)) = n by omega, cntN_succ_new h] at this
  omega
theorem newAt_zero {α : Type} (a : Nat → α) : newAt a 0 := fun k hk => absurd hk (by omega)
/-- Each place has a first place of its value. -/
theorem first_of {α : Type} (a : Nat → α) (i : Nat) : ∃ k, k ≤ i ∧ newAt a k ∧ a k = a i := by
  induction i using Nat.strongRecOn with
  | _ i ih =>
    by_cases h : newAt a i
    · exact ⟨i, Nat.le_refl _, h, rfl⟩
    · have h' : ∃ k, k < i ∧ a k = a i := Classical.byContradiction fun h2 => h fun k hk e => h2 ⟨k, hk, e⟩
      obtain ⟨k, hk, e⟩ := h'
      obtain ⟨m, hm, hn, em⟩ := ih k hk
      exact ⟨m, by omega, hn, em.trans e⟩
theorem IsNumb.inj {α : Type} {a : Nat → α} {n : Nat} {c : Nat → Int} (H : IsNumb a n c) {i j : Nat} (hi : i < n) (hj : j < n) (e : c i = c j) : a i = a j := by
  obtain ⟨i0, l1, n1, e1⟩ := first_of a i
  obtain ⟨j0, l2, n2, e2⟩ := first_of a j
  have q1 := H.first i0 (by omega) n1
  have q2 := H.first j0 (by omega) n2
  have r1 := H.same i0 i (by omega) hi e1
  have r2 := H.same j0 j (by omega) hj e2
  have q : cntN a i0 = cntN a j0 := by omega
  rcases Nat.lt_trichotomy i0 j0 with h | h | h
  · have := cntN_lt n1 h; omega
  · rw [← e1, ← e2, h]
  · have := cntN_lt n2 h; omega
theorem IsNumb.lt {α : Type} {a : Nat → α} {n : Nat} {c : Nat → Int} (H : IsNumb a n c) {i : Nat} (hi : i < n) : 0 ≤ c i ∧ c i < (cntN a n : Nat) := by
  obtain ⟨i0, l1, n1, e1⟩ := first_of a i
  have q1 := H.first i0 (by omega) n1
  have r1 := H.same i0 i (by omega) hi e1
  have := cntN_lt n1 (show i0 < n by omega)
  omega
theorem IsNumb.zero {α : Type} {a : Nat → α} {n : Nat} {c : Nat → Int} (H : IsNumb a n c) (hn : 0 < n) : c 0 = 0 := by
  rw [H.first 0 hn (newAt_zero a)]; rfl
/-- Each number below the count is taken, first at a first place. -/
theorem cntN_onto {α : Type} (a : Nat → α) (n v : Nat) (hv : v < cntN a n) : ∃ i, i < n ∧ newAt a i ∧ cntN a i = v := by
  induction n with
  | zero => simp [cntN] at hv
  | succ n ih =>
    by_cases h : newAt a n
    · rw [cntN_succ_new h] at hv
      by_cases h2 : v = cntN a n
      · exact ⟨n, by omega, h, h2.symm⟩
      · obtain ⟨i, a1, a2, a3⟩ := ih (by omega)
        exact ⟨i, by omega, a2, a3⟩
    · rw [cntN_succ_old h] at hv
      obtain ⟨i, a1, a2, a3⟩ := ih hv
      exact ⟨i, by omega, a2, a3⟩
theorem newAt_congr {α β : Type} {a : Nat → α} {b : Nat → β} {n : Nat} (h : ∀ i j, i < n → j < n → (a i = a j ↔ b i = b j)) {i : Nat} (hi : i < n) : newAt a i ↔ newAt b i :=
  ⟨fun g k hk e => g k hk ((h k i (by omega) hi).2 e), fun g k hk e => g k hk ((h k i (by omega) hi).1 e)⟩
theorem cntN_congr {α β : Type} {a : Nat → α} {b : Nat → β} {n : Nat} (h : ∀ i j, i < n → j < n → (a i = a j ↔ b i = b j)) : ∀ i, i ≤ n → cntN a i = cntN b i := by
  intro i
  induction i with
  | zero => intro _; rfl
  | succ i ih =>
    intro hi
    have e := newAt_congr h (show i < n by omega)
    by_cases g : newAt a i
    · rw [cntN_succ_new g, cntN_succ_new (e.1 g), ih (by omega)]
    · rw [cntN_succ_old g, cntN_succ_old (fun x => g (e.2 x)), ih (by omega)]
theorem IsNumb.uniq {α β : Type} {a : Nat → α} {b : Nat → β} {n : Nat} {c d : Nat → Int} (H : IsNumb a n c) (G : IsNumb b n d) (h : ∀ i j, i < n → j < n → (a i = a j ↔ b i = b j)) : ∀ i, i < n → c i = d i := by
  intro i hi
  obtain ⟨i0, l1, n1, e1⟩ := first_of a i
  have hb := (h i0 i (by omega) hi).1 e1
  rw [← H.same i0 i (by omega) hi e1, ← G.same i0 i (by omega) hi hb, H.first i0 (by omega) n1, G.first i0 (by omega) ((newAt_congr h (by omega)).1 n1), cntN_congr h i0 (by omega)]
/-- A finer list has at least as many values, and as many only if it is no finer. -/
theorem cntN_finer {α β : Type} {a : Nat → α} {b : Nat → β} {n : Nat} (h : ∀ i j, i < n → j < n → b i = b j → a i = a j) : ∀ i, i ≤ n → cntN a i ≤ cntN b i := by
  intro i
  induction i with
  | zero => intro _; exact Nat.le_refl _
  | succ i ih =>
    intro hi
    have e : newAt a i → newAt b i := fun g k hk e => g k hk (h k i (by omega) (by omega) e)
    have := ih (by omega)
    by_cases g : newAt a i
    · rw [cntN_succ_new g, cntN_succ_new (e g)]; omega
    · rw [cntN_succ_old g]
      have := cntN_mono b i 1
      omega
theorem new_finer {α β : Type} {a : Nat → α} {b : Nat → β} {n : Nat} (h : ∀ i j, i < n → j < n → b i = b j → a i = a j) (hc : cntN a n = cntN b n) : ∀ i, i < n → newAt b i → newAt a i := by
  intro i hi hb
  refine Classical.byContradiction fun ha => ?_
  have key : ∀ d, i + 1 + d ≤ n → cntN a (i + 1 + d) < cntN b (i + 1 + d) := by
    intro d
    induction d with
    | zero =>
      intro hd
      have := cntN_finer h i (by omega)
      rw [Nat.add_zero, cntN_succ_old ha, cntN_succ_new hb]
      omega
    | succ d ih =>
      intro hd
      have q := ih (by omega)
      have e : newAt a (i + 1 + d) → newAt b (i + 1 + d) := fun g k hk e => g k hk (h k _ (by omega) (by omega) e)
      rw [show i + 1 + (d + 1) = (i + 1 + d) + 1 by omega]
      by_cases g : newAt a (i + 1 + d)
      · rw [cntN_succ_new g, cntN_succ_new (e g)]; omega
      · rw [cntN_succ_old g]
        have := cntN_mono b (i + 1 + d) 1
        omega
  have := key (n - (i + 1)) (by omega)
  rw [show i + 1 + (n - (i + 1)) = n by omega] at this
  omega
theorem same_finer {α β : Type} {a : Nat → α} {b : Nat → β} {n : Nat} (h : ∀ i j, i < n → j < n → b i = b j → a i = a j) (hc : cntN a n = cntN b n) : ∀ i j, i < n → j < n → (a i = a j ↔ b i = b j) := by
  have key : ∀ j, j < n → ∀ i, i ≤ j → newAt a i → a i = a j → b i = b j := by
    intro j
    induction j using Nat.strongRecOn with
    | _ j ih =>
      intro hj i hi hn e
      by_cases hij : i = j
      · rw [hij]
      · have ho : ¬ newAt a j := fun g => g i (by omega) e
        have hob : ¬ newAt b j := fun g => ho (new_finer h hc j hj g)
        have h' : ∃ k, k < j ∧ b k = b j := Classical.byContradiction fun h2 => hob fun k hk e => h2 ⟨k, hk, e⟩
        obtain ⟨k, hk, ek⟩ := h'
        have eak := h k j (by omega) hj ek
        have hik : i ≤ k := by
          refine Classical.byContradiction fun hlt => ?_
          exact hn k (by omega) (eak.trans e.symm)
        rw [← ek]
        exact ih k hk (by omega) i hik hn (e.trans eak.symm)
  intro i j hi hj
  refine ⟨fun e => ?_, h i j hi hj⟩
  obtain ⟨i0, l1, n1, e1⟩ := first_of a i
  rcases Nat.le_total i j with hij | hij
  · rw [← key i hi i0 l1 n1 e1]
    exact key j hj i0 (by omega) n1 (e1.trans e)
  · obtain ⟨j0, l2, n2, e2⟩ := first_of a j
    rw [← key j hj j0 l2 n2 e2]
    exact (key i hi j0 (by omega) n2 (e2.trans e.symm)).symm

/-! Run -/
/-! Finer and finer classes (plain Lean). -/
def NumL {α : Type} [Inhabited α] (keys : List α) (c : List Int) : Prop := c.length = keys.length ∧ IsNumb (fun i => keys.getD i default) keys.length (fun i => c.getD i 0)
def keyOf (rows : List (List Int)) (c : List Int) (i : Nat) : List Int := c.getD i 0 :: (rows.getD i []).map (fun qq => c.getD qq.toNat 0)
def keysL (rows : List (List Int)) (c : List Int) : List (List Int) := (List.range rows.length).map (keyOf rows c)
theorem keysL_len (rows : List (List Int)) (c : List Int) : (keysL rows c).length = rows.length := by simp [keysL]
theorem keysL_get {rows : List (List Int)} {c : List Int} {i : Nat} (h : i < rows.length) : (keysL rows c).getD i default = keyOf rows c i := by
  simp [keysL, List.getD_eq_getElem?_getD, h]
theorem list_ext_getD {c d : List Int} (hl : c.length = d.length) (h : ∀ i, i < c.length → c.getD i 0 = d.getD i 0) : c = d := by
  refine List.ext_getElem hl fun i h1 h2 => ?_
  have := h i h1
  simpa [List.getD_eq_getElem?_getD, h1, h2] using this
theorem NumL.uniq {α β : Type} [Inhabited α] [Inhabited β] {a : List α} {b : List β} {c d : List Int} (H : NumL a c) (G : NumL b d) (hl : a.length = b.length) (h : ∀ i j, i < a.length → j < a.length → (a.getD i default = a.getD j default ↔ b.getD i default = b.getD j default)) : c = d := by
  refine list_ext_getD (by rw [H.1, G.1, hl]) fun i hi => ?_
  have G2 := G.2
  rw [← hl] at G2
  exact IsNumb.uniq H.2 G2 h i (by rw [← H.1]; exact hi)
noncomputable def cntL {α : Type} [Inhabited α] (keys : List α) : Nat := cntN (fun i => keys.getD i default) keys.length
theorem cntL_le {α : Type} [Inhabited α] (keys : List α) : cntL keys ≤ keys.length := cntN_le _ _
theorem cntL_pos {α : Type} [Inhabited α] {keys : List α} (h : 0 < keys.length) : 1 ≤ cntL keys := by
  have := cntN_lt (newAt_zero (fun i => keys.getD i default)) h
  unfold cntL
  omega
/-- The keys of the next round are finer. -/
theorem keys_finer {α : Type} [Inhabited α] {a : List α} {rows : List (List Int)} {c : List Int} (H : NumL a c) (hl : a.length = rows.length) : ∀ i j, i < a.length → j < a.length → (keysL rows c).getD i default = (keysL rows c).getD j default → a.getD i default = a.getD j default := by
  intro i j hi hj e
  rw [keysL_get (by omega), keysL_get (by omega), keyOf, keyOf, List.cons.injEq] at e
  exact H.2.inj hi hj e.1
theorem round_le {α : Type} [Inhabited α] {a : List α} {rows : List (List Int)} {c : List Int} (H : NumL a c) (hl : a.length = rows.length) : cntL a ≤ cntL (keysL rows c) := by
  have := cntN_finer (keys_finer H hl) a.length (Nat.le_refl _)
  unfold cntL
  rwa [keysL_len, ← hl]
theorem round_same {α : Type} [Inhabited α] {a : List α} {rows : List (List Int)} {c d : List Int} (H : NumL a c) (G : NumL (keysL rows c) d) (hl : a.length = rows.length) (h : cntL a = cntL (keysL rows c)) : d = c := by
  have h' : cntN (fun i => a.getD i default) a.length = cntN (fun i => (keysL rows c).getD i default) a.length := by
    have := h
    unfold cntL at this
    rwa [keysL_len, ← hl] at this
  exact (NumL.uniq H G (by rw [keysL_len, hl]) (same_finer (keys_finer H hl) h')).symm
theorem cnt_of {α : Type} [Inhabited α] {a : List α} {c : List Int} (H : NumL a c) : cntL a = cntL c := by
  unfold cntL
  rw [H.1]
  refine cntN_congr (n := a.length) (fun i j hi hj => ⟨fun e => ?_, fun e => ?_⟩) _ (Nat.le_refl _)
  · exact H.2.same i j hi hj e
  · exact H.2.inj hi hj e
/-- From some classes on to those that stand still. -/
inductive Run (rows : List (List Int)) : List Int → List Int → Prop
  | stop {c : List Int} : NumL (keysL rows c) c → Run rows c c
  | go {c d e : List Int} : NumL (keysL rows c) d → d ≠ c → Run rows d e → Run rows c e
theorem Run.still {rows : List (List Int)} {c e : List Int} (H : Run rows c e) : NumL (keysL rows e) e := by
  induction H with
  | stop h => exact h
  | go _ _ _ ih => exact ih
theorem Run.finer {rows : List (List Int)} {c e : List Int} (H : Run rows c e) : ∀ i j, i < rows.length → j < rows.length → e.getD i 0 = e.getD j 0 → c.getD i 0 = c.getD j 0 := by
  induction H with
  | stop h => exact fun i j _ _ q => q
  | @go c d e h _ _ ih =>
    intro i j hi hj q
    have := h.2.inj (by rw [keysL_len]; exact hi) (by rw [keysL_len]; exact hj) (ih i j hi hj q)
    rw [keysL_get hi, keysL_get hj, keyOf, keyOf, List.cons.injEq] at this
    exact this.1
/-- Numbers of the same states: what follows from standing still. -/
theorem still_next {rows : List (List Int)} {e : List Int} (H : NumL (keysL rows e) e) {i j : Nat} (hi : i < rows.length) (hj : j < rows.length) (q : e.getD i 0 = e.getD j 0) : (rows.getD i []).map (fun qq => e.getD qq.toNat 0) = (rows.getD j []).map (fun qq => e.getD qq.toNat 0) := by
  have := H.2.inj (by rw [keysL_len]; exact hi) (by rw [keysL_len]; exact hj) q
  rw [keysL_get hi, keysL_get hj, keyOf, keyOf, List.cons.injEq] at this
  exact this.2

/-! Number -/
theorem getD_snoc_lt {out : List Int} {y : Int} {t : Nat} (h : t < out.length) : (out ++ [y]).getD t 0 = out.getD t 0 := by
  simp [List.getD_eq_getElem?_getD, List.getElem?_append_left h]
theorem getD_snoc_eq (out : List Int) (y : Int) : (out ++ [y]).getD out.length 0 = y := by
  simp [List.getD_eq_getElem?_getD]
theorem numb_new {α : Type} {a : Nat → α} {out : List Int} (H : IsNumb a out.length (fun i => out.getD i 0)) (hn : newAt a out.length) : IsNumb a (out.length + 1) (fun i => (out ++ [((cntN a out.length : Nat) : Int)]).getD i 0) := by
  refine ⟨fun t ht hnt => ?_, fun t s ht hs e => ?_⟩
  · by_cases h : t < out.length
    · simp only [getD_snoc_lt h]; exact H.first t h hnt
    · have : t = out.length := by omega
      subst this
      simp only [getD_snoc_eq]
  · by_cases h : t < out.length
    · by_cases h2 : s < out.length
      · simp only [getD_snoc_lt h, getD_snoc_lt h2]; exact H.same t s h h2 e
      · have : s = out.length := by omega
        subst this
        exact absurd e (hn t h)
    · have : t = out.length := by omega
      subst this
      by_cases h2 : s < out.length
      · exact absurd e.symm (hn s h2)
      · have : s = out.length := by omega
        subst this
        rfl
theorem numb_old {α : Type} {a : Nat → α} {out : List Int} (H : IsNumb a out.length (fun i => out.getD i 0)) {j : Nat} (hj : j < out.length) (ej : a j = a out.length) : IsNumb a (out.length + 1) (fun i => (out ++ [out.getD j 0]).getD i 0) := by
  refine ⟨fun t ht hnt => ?_, fun t s ht hs e => ?_⟩
  · by_cases h : t < out.length
    · simp only [getD_snoc_lt h]; exact H.first t h hnt
    · have : t = out.length := by omega
      subst this
      exact absurd ej (hnt j hj)
  · by_cases h : t < out.length
    · by_cases h2 : s < out.length
      · simp only [getD_snoc_lt h, getD_snoc_lt h2]; exact H.same t s h h2 e
      · have : s = out.length := by omega
        subst this
        simp only [getD_snoc_lt h, getD_snoc_eq]
        exact H.same t j h hj (e.trans ej.symm)
    · have : t = out.length := by omega
      subst this
      by_cases h2 : s < out.length
      · simp only [getD_snoc_lt h2, getD_snoc_eq]
        exact H.same j s hj h2 (ej.trans e)
      · have : s = out.length := by omega
        subst this
        rfl
theorem keyAt {keys : List (List Int)} {i : Nat} (h : i < keys.length) : keys.getD i default = keys[i] := by
  simp [List.getD_eq_getElem?_getD, h]
theorem number_inner (keys : List (List Int)) (hk : keys.length ≤ 1048576) (hr : ∀ x ∈ keys, x.length ≤ 1048576) (out : List Int) (hi : out.length < keys.length) (hp : ∀ j (h : j < out.length), 0 ≤ out[j]) (next : Int) (n0 : 0 ≤ next) (n1 : next ≤ 1048576) (r : List Int)
    (hnew : newAt (fun i => keys.getD i default) out.length → Ev (fun k => spec_l4Number.l0 k keys (out ++ [next]) (next + 1) ((out.length + 1 : Nat) : Int)) r)
    (hold : ∀ j, j < out.length → keys.getD j default = keys.getD out.length default → Ev (fun k => spec_l4Number.l0 k keys (out ++ [out.getD j 0]) next ((out.length + 1 : Nat) : Int)) r) :
    Ev (fun k => spec_l4Number.l1 k keys out next (out.length : Int) (-1) 0) r := by
  have key := downs (P := fun c => (∀ j, j < c → keys.getD j default ≠ keys.getD out.length default) → Ev (fun k => spec_l4Number.l1 k keys out next (out.length : Int) (-1) (c : Int)) r) out.length
    (fun c hc ih hne => by
      refine Ev.step (f := fun k => spec_l4Number.j2 k keys out next (out.length : Int) (-1) (c : Int) true) (fun k => ?_) ?_
      · rw [spec_l4Number.l1, if_pos (by omega), decide_eq_true (show (-1 : Int) < 0 by omega)]
      have hc2 : c < keys.length := by omega
      refine Ev.step (f := fun k => (spec_l3Same.f k keys[c] keys[out.length]).bind fun t => if t = true then spec_l4Number.l1 k keys out next (out.length : Int) out[c] ((c + 1 : Nat) : Int) else spec_l4Number.l1 k keys out next (out.length : Int) (-1) ((c + 1 : Nat) : Int)) (fun k => ?_) (Ev.bind (l3Same_ev _ _ (hr _ (List.getElem_mem hc2))) ?_)
      · rw [spec_l4Number.j2, if_pos rfl, if_pos (by omega), if_pos (by omega), if_pos (by omega), if_pos (by omega), rdR_of hc2, rdR_of hi, w64 (by omega) (by omega)]
        congr 1
        funext t
        rw [if_pos (show (c : Int) < (out.length : Int) by omega), rd_of hc]
        rfl
      · by_cases e : keys[c] = keys[out.length]
        · simp only [decide_eq_true e, if_true]
          have hpc := hp c hc
          have h := hold c hc (by rw [keyAt hc2, keyAt hi]; exact e)
          have eg : out.getD c 0 = out[c] := by simp [List.getD_eq_getElem?_getD, hc]
          rw [eg] at h
          refine Ev.step (f := fun k => spec_l4Number.j2 k keys out next (out.length : Int) out[c] ((c + 1 : Nat) : Int) false) (fun k => ?_) (Ev.step (fun k => ?_) h)
          · rw [spec_l4Number.l1]
            by_cases q : ((c + 1 : Nat) : Int) < (out.length : Int)
            · rw [if_pos q, decide_eq_false (by omega)]
            · rw [if_neg q]
          · rw [spec_l4Number.j2, if_neg (by decide), if_neg (by omega), if_pos (by omega), w64 (by omega) (by omega)]
            rfl
        · simp only [decide_eq_false e, Bool.false_eq_true, if_false]
          refine ih (fun j hj => ?_)
          by_cases q : j = c
          · subst q
            rw [keyAt hc2, keyAt hi]
            exact e
          · exact hne j (by omega))
    (fun hne => by
      refine Ev.step (f := fun k => spec_l4Number.j2 k keys out next (out.length : Int) (-1) (out.length : Int) false) (fun k => ?_) (Ev.step (fun k => ?_) (hnew (fun j hj => hne j hj)))
      · rw [spec_l4Number.l1, if_neg (by omega)]
      · rw [spec_l4Number.j2, if_neg (by decide), if_pos (by omega), if_pos (by omega), w64 (by omega) (by omega), w64 (by omega) (by omega)]
        rfl)
  exact key 0 (by omega) (fun j hj => by omega)
theorem number_ev (keys : List (List Int)) (hk : keys.length ≤ 1048575) (hr : ∀ x ∈ keys, x.length ≤ 1048576) : ∃ c, Ev (fun k => spec_l4Number.f k keys) c ∧ NumL keys c := by
  have key := downs (P := fun i => ∀ out : List Int, out.length = i → IsNumb (fun i => keys.getD i default) i (fun j => out.getD j 0) → ∃ c, Ev (fun k => spec_l4Number.l0 k keys out ((cntN (fun i => keys.getD i default) i : Nat) : Int) (i : Int)) c ∧ NumL keys c) keys.length
    (fun i hi ih out ho hN => by
      subst ho
      have hcl := cntN_le (fun i => keys.getD i default) out.length
      have hp : ∀ j (h : j < out.length), 0 ≤ out[j] := fun j h => by
        have := (hN.lt h).1
        simpa [List.getD_eq_getElem?_getD, h] using this
      by_cases hn : newAt (fun i => keys.getD i default) out.length
      · obtain ⟨c, hc, hN2⟩ := ih (out ++ [((cntN (fun i => keys.getD i default) out.length : Nat) : Int)]) (by simp) (numb_new hN hn)
        rw [cntN_succ_new hn] at hc
        refine ⟨c, Ev.step (fun k => ?_) (number_inner keys (by omega) hr out hi hp (((cntN (fun i => keys.getD i default) out.length : Nat)) : Int) (by omega) (by omega) c (fun _ => ?_) (fun j hj e => absurd e (hn j hj))), hN2⟩
        · rw [spec_l4Number.l0, if_pos (by omega)]
        · refine Ev.congr (fun k => ?_) hc
          congr 1
      · have h' : ∃ k, k < out.length ∧ keys.getD k default = keys.getD out.length default := Classical.byContradiction fun h2 => hn fun k hk e => h2 ⟨k, hk, e⟩
        obtain ⟨j0, hj0, ej0⟩ := h'
        obtain ⟨c, hc, hN2⟩ := ih (out ++ [out.getD j0 0]) (by simp) (numb_old hN hj0 ej0)
        rw [cntN_succ_old hn] at hc
        refine ⟨c, Ev.step (fun k => ?_) (number_inner keys (by omega) hr out hi hp (((cntN (fun i => keys.getD i default) out.length : Nat)) : Int) (by omega) (by omega) c (fun h => absurd h hn) (fun j hj e => ?_)), hN2⟩
        · rw [spec_l4Number.l0, if_pos (by omega)]
        · have : out.getD j 0 = out.getD j0 0 := hN.same j j0 hj hj0 (e.trans ej0.symm)
          rw [this]
          exact hc)
    (fun out ho hN => by
      refine ⟨out, Ev.step (f := fun _ => some out) (fun k => ?_) (Ev.now _), ho, hN⟩
      rw [spec_l4Number.l0, if_neg (by omega)])
  obtain ⟨c, hc, hN⟩ := key 0 (by omega) [] rfl ⟨fun i hi => by omega, fun i j hi => by omega⟩
  exact ⟨c, hc, hN⟩

/-! Bfs -/
/-! A search by breadth over numbers (plain Lean). -/
def addOne (L : List Int) (x : Int) : List Int := if x ∈ L then L else L ++ [x]
def addAll (L xs : List Int) : List Int := xs.foldl addOne L
inductive Bfs (M : Int → List Int) : List Int → Nat → List Int → Prop
  | done {L : List Int} {k : Nat} : L.length ≤ k → Bfs M L k L
  | step {L F : List Int} {k : Nat} (h : k < L.length) : Bfs M (addAll L (M L[k])) (k + 1) F → Bfs M L k F
theorem addOne_pre (L : List Int) (x : Int) : L <+: addOne L x := by
  unfold addOne; split
  · exact List.prefix_refl _
  · exact List.prefix_append _ _
theorem addAll_cons (L : List Int) (x : Int) (xs : List Int) : addAll L (x :: xs) = addAll (addOne L x) xs := rfl
theorem addAll_nil (L : List Int) : addAll L [] = L := rfl
theorem addAll_pre (xs : List Int) : ∀ L : List Int, L <+: addAll L xs := by
  induction xs with
  | nil => exact fun L => List.prefix_refl _
  | cons x xs ih => exact fun L => (addOne_pre L x).trans (ih _)
theorem mem_addOne {L : List Int} {x y : Int} : y ∈ addOne L x ↔ y ∈ L ∨ y = x := by
  unfold addOne; split
  · rename_i h; constructor
    · exact Or.inl
    · rintro (g | rfl)
      · exact g
      · exact h
  · simp
theorem mem_addAll {xs : List Int} : ∀ {L : List Int} {y : Int}, y ∈ addAll L xs ↔ y ∈ L ∨ y ∈ xs := by
  induction xs with
  | nil => simp [addAll_nil]
  | cons x xs ih =>
    intro L y
    rw [addAll_cons, ih, mem_addOne, List.mem_cons, or_assoc]
theorem nodup_addOne {L : List Int} (h : L.Nodup) (x : Int) : (addOne L x).Nodup := by
  unfold addOne; split
  · exact h
  · rename_i g
    rw [List.nodup_append]
    refine ⟨h, by simp, ?_⟩
    intro a ha b hb e
    simp at hb
    subst hb; subst e
    exact g ha
theorem nodup_addAll (xs : List Int) : ∀ {L : List Int}, L.Nodup → (addAll L xs).Nodup := by
  induction xs with
  | nil => exact fun h => h
  | cons x xs ih => exact fun h => ih (nodup_addOne h x)
theorem Bfs.pre {M : Int → List Int} {L F : List Int} {k : Nat} (H : Bfs M L k F) : L <+: F := by
  induction H with
  | done _ => exact List.prefix_refl _
  | step h _ ih => exact (addAll_pre _ _).trans ih
theorem pre_get {L F : List Int} (h : L <+: F) {i : Nat} (hi : i < L.length) : ∃ hf : i < F.length, F[i] = L[i] := by
  obtain ⟨t, rfl⟩ := h
  exact ⟨by simp; omega, List.getElem_append_left hi⟩
theorem Bfs.nodup {M : Int → List Int} {L F : List Int} {k : Nat} (H : Bfs M L k F) (h : L.Nodup) : F.Nodup := by
  induction H with
  | done _ => exact h
  | step _ _ ih => exact ih (nodup_addAll _ h)
theorem Bfs.in {M : Int → List Int} {P : Int → Prop} (hM : ∀ v, P v → ∀ x ∈ M v, P x) {L F : List Int} {k : Nat} (H : Bfs M L k F) (h : ∀ x ∈ L, P x) : ∀ x ∈ F, P x := by
  induction H with
  | done _ => exact h
  | step hk _ ih =>
    refine ih fun x hx => ?_
    rcases mem_addAll.1 hx with g | g
    · exact h x g
    · exact hM _ (h _ (List.getElem_mem hk)) x g
/-- All that follows from a member is a member. -/
theorem Bfs.closed {M : Int → List Int} {L F : List Int} {k : Nat} (H : Bfs M L k F) : ∀ j (hj : j < F.length), k ≤ j → ∀ x ∈ M F[j], x ∈ F := by
  induction H with
  | done h => intro j hj hk; omega
  | @step L F k h H ih =>
    intro j hj hk x hx
    by_cases e : j = k
    · subst e
      obtain ⟨_, e2⟩ := pre_get ((addAll_pre (M L[j]) L).trans H.pre) h
      rw [e2] at hx
      exact H.pre.subset (mem_addAll.2 (Or.inr hx))
    · exact ih j hj (by omega) x hx
/-- A list without doublets of numbers below m has at most m of them. -/
theorem nodup_len (m : Nat) : ∀ L : List Int, L.Nodup → (∀ x ∈ L, 0 ≤ x ∧ x < (m : Int)) → L.length ≤ m := by
  induction m with
  | zero =>
    intro L _ h
    cases L with
    | nil => simp
    | cons x xs => have := h x (by simp); omega
  | succ m ih =>
    intro L hn h
    have h1 := ih (L.erase (m : Int)) (hn.erase _) (fun x hx => by
      have q := List.mem_of_mem_erase hx
      have := h x q
      have ne : x ≠ (m : Int) := by
        rintro rfl
        exact (List.Nodup.not_mem_erase hn) hx
      omega)
    by_cases hm : (m : Int) ∈ L
    · rw [List.length_erase_of_mem hm] at h1; omega
    · rw [List.erase_of_not_mem hm] at h1; omega
theorem Bfs.exist (M : Int → List Int) (m : Nat) (hM : ∀ v, (0 ≤ v ∧ v < (m : Int)) → ∀ x ∈ M v, 0 ≤ x ∧ x < (m : Int)) (L : List Int) (k : Nat) (hn : L.Nodup) (h : ∀ x ∈ L, 0 ≤ x ∧ x < (m : Int)) : ∃ F, Bfs M L k F := by
  have key : ∀ d, ∀ (L : List Int) (k : Nat), m ≤ k + d → L.Nodup → (∀ x ∈ L, 0 ≤ x ∧ x < (m : Int)) → ∃ F, Bfs M L k F := by
    intro d
    induction d with
    | zero =>
      intro L k hk hn h
      exact ⟨L, .done (by have := nodup_len m L hn h; omega)⟩
    | succ d ih =>
      intro L k hk hn h
      by_cases hl : L.length ≤ k
      · exact ⟨L, .done hl⟩
      · obtain ⟨F, hF⟩ := ih (addAll L (M (L[k]'(by omega)))) (k + 1) (by omega) (nodup_addAll _ hn) (fun x hx => by
          rcases mem_addAll.1 hx with g | g
          · exact h x g
          · exact hM _ (h _ (List.getElem_mem (by omega))) x g)
        exact ⟨F, .step (by omega) hF⟩
  exact key m L k (by omega) hn h
theorem idxOf_pre {L F : List Int} (h : L <+: F) {x : Int} (hx : x ∈ L) : F.idxOf x = L.idxOf x := by
  obtain ⟨t, rfl⟩ := h
  rw [List.idxOf_append, if_pos hx]
theorem idxOf_new {L : List Int} {x : Int} (hx : x ∉ L) : (L ++ [x]).idxOf x = L.length := by
  rw [List.idxOf_append, if_neg hx]
  simp

/-! Classes -/
/-! Classes that stand still, and what can be reached (plain Lean). -/
def inR (rows : List (List Int)) : Prop := ∀ i, i < rows.length → ∀ x ∈ rows.getD i [], 0 ≤ x ∧ x < (rows.length : Int)
open Classical in
noncomputable def repOf (e : List Int) (v : Int) : Nat := if h : ∃ i, i < e.length ∧ e.getD i 0 = v then Classical.choose h else 0
theorem repOf_spec {e : List Int} {v : Int} (h : ∃ i, i < e.length ∧ e.getD i 0 = v) : repOf e v < e.length ∧ e.getD (repOf e v) 0 = v := by
  unfold repOf
  rw [dif_pos h]
  exact Classical.choose_spec h
noncomputable def clM (rows : List (List Int)) (e : List Int) (v : Int) : List Int := (rows.getD (repOf e v) []).map (fun qq => e.getD qq.toNat 0)
theorem clM_of {rows : List (List Int)} {e : List Int} (H : NumL (keysL rows e) e) {i : Nat} (hi : i < rows.length) : clM rows e (e.getD i 0) = (rows.getD i []).map (fun qq => e.getD qq.toNat 0) := by
  have hl : e.length = rows.length := by rw [H.1, keysL_len]
  obtain ⟨a, b⟩ := repOf_spec (e := e) (v := e.getD i 0) ⟨i, by omega, rfl⟩
  exact still_next H (by omega) hi b
/-! Reduce -/
theorem getAt {c : List Int} {i : Nat} (h : i < c.length) : c.getD i 0 = c[i] := by simp [List.getD_eq_getElem?_getD, h]
theorem rowAt {rows : List (List Int)} {i : Nat} (h : i < rows.length) : rows.getD i [] = rows[i] := by simp [List.getD_eq_getElem?_getD, h]
theorem rowAt' {rows : List (List Int)} {i : Nat} (h : i < rows.length) : rd_L1 rows (i : Int) = rows.getD i [] := rfl
theorem RelW.inR {b t : Nat} {rows : List (List Int)} {acc : List Bool} (H : RelW b t rows acc) : inR rows := fun i hi x hx => (H.len i hi).2 x (by rw [rowAt hi] at hx; exact hx)
section
variable {b t : Int} {rows : List (List Int)} {acc : List Bool}
end

/-! Steady -/
structure SqW (b : Int) (rows : List (List Int)) (outs : List Int) : Prop where
  b2 : 2 ≤ b
  b4 : b ≤ 4
  n1 : 1 ≤ rows.length
  n16 : rows.length ≤ 16
  ol : outs.length = rows.length
  len : ∀ i, i < rows.length → ((rows.getD i []).length : Int) = b
  inR : inR rows
  out : ∀ x ∈ outs, 0 ≤ x ∧ x ≤ 3
theorem isSq_true {b : Int} {rows : List (List Int)} {outs : List Int} : isSq b rows outs = true ↔ SqW b rows outs := by
  unfold isSq rowS inS outS
  simp only [Bool.and_eq_true, List.all_eq_true, decide_eq_true_eq, beq_iff_eq]
  constructor
  · rintro ⟨h1, h2, ⟨h3, h4⟩, ⟨h5, h6⟩, h7⟩
    refine ⟨h3, h4, by omega, by omega, by omega, fun i hi => ?_, fun i hi x hx => ?_, h2⟩
    · rw [rowAt hi]; exact (h1 _ (List.getElem_mem hi)).1
    · rw [rowAt hi] at hx; exact (h1 _ (List.getElem_mem hi)).2 x hx
  · rintro ⟨h3, h4, h5, h6, h7, h8, h9, h10⟩
    refine ⟨fun r hr => ?_, h10, ⟨h3, h4⟩, ⟨by omega, by omega⟩, by omega⟩
    obtain ⟨i, hi, rfl⟩ := List.getElem_of_mem hr
    have a := h8 i hi
    have c := h9 i hi
    rw [rowAt hi] at a c
    exact ⟨a, c⟩
theorem SqW.row {b : Int} {rows : List (List Int)} {outs : List Int} (H : SqW b rows outs) : ∀ i (h : i < rows.length), rows[i].length ≤ 4 := fun i h => by
  have := H.len i h
  have := H.b4
  rw [rowAt h] at *
  omega
def steady0 (rows : List (List Int)) : Bool := (rows.getD 0 []).getD 0 0 == 0
theorem SqW.r0 {b : Int} {rows : List (List Int)} {outs : List Int} (H : SqW b rows outs) : 0 < (rows.getD 0 []).length := by
  have := H.len 0 (by have := H.n1; omega)
  have := H.b2
  omega
theorem specSteady_ev {b : Int} {rows : List (List Int)} {outs : List Int} (H : SqW b rows outs) : Ev (fun k => spec_IsSteady.f k b rows outs) (steady0 rows) := by
  have h1 := H.n1
  have h2 := H.r0
  have h16 := H.n16
  have hS := specIS_ev b rows outs (by omega) (fun i h => by have := H.row i h; omega) (by have := H.ol; omega)
  rw [isSq_true.2 H] at hS
  unfold spec_IsSteady.f
  refine Ev.bind hS ?_
  refine Ev.congr (fun k => ?_) (Ev.now _)
  rw [if_pos rfl, if_pos (by omega), if_pos (by show (0 : Int) < ((rows.getD 0 []).length : Int); omega)]
  rfl
theorem implSteady_ev {b : Int} {rows : List (List Int)} {outs : List Int} (H : SqW b rows outs) : Ev (fun k => impl_IsSteady.f k b rows outs) (steady0 rows) := by
  have h1 := H.n1
  have h2 := H.r0
  have h16 := H.n16
  have hS := implIS_ev b rows outs (by omega) (fun i h => by have := H.row i h; omega)
  rw [isSq_true.2 H] at hS
  unfold impl_IsSteady.f
  refine Ev.bind hS ?_
  refine Ev.congr (fun k => ?_) (Ev.now _)
  rw [if_pos rfl, if_pos (by omega), if_pos (by show (0 : Int) < ((rows.getD 0 []).length : Int); omega)]
  rfl
theorem l3Copy_ev {b : Int} {rows : List (List Int)} {outs : List Int} (H : SqW b rows outs) : Ev (fun k => spec_l3Copy.f k b rows outs) (b, rows, outs) := by
  have h16 := H.n16
  have ho := H.ol
  have key := downs (P := fun i => Ev (fun k => spec_l3Copy.l0 k (i : Int) b rows outs b (rows.take i) outs) (b, rows, outs)) rows.length
    (fun i hi ih => by
      refine Ev.step (fun k => ?_) ih
      have hx := H.row i hi
      rw [spec_l3Copy.l0, if_pos (by omega), Option.bind_some, if_pos (by omega), rdR_of hi, if_pos (by simp only [List.length_nil]; omega), if_pos (by rw [List.length_take]; omega), w64 (by omega) (by omega), List.take_succ_eq_append_getElem hi]
      rfl)
    (by
      refine Ev.step (f := fun _ => some _) (fun k => ?_) (Ev.now _)
      rw [spec_l3Copy.l0, if_neg (by omega), List.take_length])
  have h := key 0 (by omega)
  unfold spec_l3Copy.f
  simp only [Option.bind_some]
  refine Ev.congr (fun k => ?_) h
  rw [if_pos (by simp only [List.length_nil]; omega)]
  rfl
theorem clone_ev (l : List Int) (h : l.length ≤ 1048576) : slices_Clone_int_int.f l = some l := by
  unfold slices_Clone_int_int.f
  rw [Option.bind_some, if_pos (by simp only [List.length_nil]; omega)]
  rfl
theorem seqOwn_ev {b : Int} {rows : List (List Int)} {outs : List Int} (H : SqW b rows outs) : Ev (fun k => impl_Sequence_own.f k b rows outs) (b, rows, outs) := by
  have h16 := H.n16
  have ho := H.ol
  have key := downs (P := fun i => Ev (fun k => impl_Sequence_own.l0 k rows (rows.length : Int) (i : Int) b (rows.take i) outs) (b, rows, outs)) rows.length
    (fun i hi ih => by
      refine Ev.step (fun k => ?_) ih
      have hx := H.row i hi
      rw [impl_Sequence_own.l0, if_pos (by omega), if_pos (by omega), if_pos (by omega), rdR_of hi, clone_ev _ (by omega), Option.bind_some, if_pos (by rw [List.length_take]; omega), w64 (by omega) (by omega), List.take_succ_eq_append_getElem hi]
      rfl)
    (by
      refine Ev.step (f := fun _ => some _) (fun k => ?_) (Ev.now _)
      rw [impl_Sequence_own.l0, if_neg (by omega), List.take_length])
  have h := key 0 (by omega)
  unfold impl_Sequence_own.f
  simp only [clone_ev outs (by omega), Option.bind_some]
  exact h
/-- the steady form of one that is not steady -/
def up (r : List Int) : List Int := r.map (fun x => x + 1)
def stRows (rows : List (List Int)) : List (List Int) := (up (rows.getD 0 [])).set 0 0 :: rows.map up
def stOuts (outs : List Int) : List Int := outs.getD 0 0 :: outs
theorem stW {b : Int} {rows : List (List Int)} {outs : List Int} (H : SqW b rows outs) (hn : rows.length ≠ 16) : SqW b (stRows rows) (stOuts outs) := by
  have h1 := H.n1
  have h16 := H.n16
  have ho := H.ol
  have hl : (stRows rows).length = rows.length + 1 := by simp [stRows]
  have get : ∀ i, i < rows.length → (stRows rows).getD (i + 1) [] = up (rows.getD i []) := fun i hi => by
    simp [stRows, List.getD_eq_getElem?_getD, hi]
  refine ⟨H.b2, H.b4, by omega, by omega, by simp [stOuts, stRows, ho], fun i hi => ?_, fun i hi x hx => ?_, fun x hx => ?_⟩
  · cases i with
    | zero =>
      show ((((up (rows.getD 0 [])).set 0 0).length : Nat) : Int) = b
      rw [List.length_set, up, List.length_map]
      exact H.len 0 (by omega)
    | succ i =>
      rw [get i (by omega), up, List.length_map]
      exact H.len i (by omega)
  · have g : ∀ j, j < rows.length → ∀ y ∈ up (rows.getD j []), 0 ≤ y ∧ y < ((stRows rows).length : Int) := fun j hj y hy => by
      obtain ⟨z, hz, rfl⟩ := List.mem_map.1 hy
      have := H.inR j hj z hz
      rw [hl]
      omega
    cases i with
    | zero =>
      have hx : x ∈ (up (rows.getD 0 [])).set 0 0 := hx
      rcases List.mem_or_eq_of_mem_set hx with hx | rfl
      · exact g 0 (by omega) x hx
      · rw [hl]; omega
    | succ i =>
      rw [get i (by omega)] at hx
      exact g i (by omega) x hx
  · rcases List.mem_cons.1 hx with rfl | hx
    · have h0 : 0 < outs.length := by omega
      refine H.out _ ?_
      rw [getAt h0]
      exact List.getElem_mem _
    · exact H.out x hx
theorem up_snoc (l : List Int) (x : Int) : up (l ++ [x]) = up l ++ [x + 1] := by simp [up]
abbrev SqR := Int × (List (List Int)) × List Int × Bool
theorem implSt_row {b : Int} {outs x41 : List (List Int)} {ol : List Int} (hl : x41.length ≤ 20) (hx : ∀ r ∈ x41, ∀ y ∈ r, 0 ≤ y ∧ y < 100) (hr : ∀ r ∈ x41, r.length ≤ 4) (i : Nat) (hi : i < x41.length) (acc : List (List Int)) (ha : acc.length ≤ 20) {r : SqR} (h : Ev (fun k => impl_SteadyForm.l0 k b ol x41 (x41.length : Int) ((i + 1 : Nat) : Int) (acc ++ [up x41[i]])) r) :
    Ev (fun k => impl_SteadyForm.l1 k b ol x41 (x41.length : Int) (i : Int) acc x41[i] (x41[i].length : Int) [] 0) r := by
  have hrl := hr _ (List.getElem_mem hi)
  have key := downs (P := fun c => Ev (fun k => impl_SteadyForm.l1 k b ol x41 (x41.length : Int) (i : Int) acc x41[i] (x41[i].length : Int) (up (x41[i].take c)) (c : Int)) r) x41[i].length
    (fun c hc ih => by
      refine Ev.step (fun k => ?_) ih
      have hy := hx _ (List.getElem_mem hi) _ (List.getElem_mem hc)
      rw [impl_SteadyForm.l1, if_pos (by omega), if_pos (by omega), if_pos (by omega), rd_of hc, if_pos (by simp only [up, List.length_map, List.length_take]; omega), w64 (by omega) (by omega), w64 (by omega) (by omega), List.take_succ_eq_append_getElem hc, up_snoc]
      rfl)
    (by
      refine Ev.step (fun k => ?_) h
      rw [impl_SteadyForm.l1, if_neg (by omega), if_pos (by omega), List.take_length, w64 (by omega) (by omega)]
      rfl)
  exact key 0 (by omega)
theorem implSt_ev {b : Int} {rows : List (List Int)} {outs : List Int} (H : SqW b rows outs) : Ev (fun k => impl_SteadyForm.f k b rows outs) (if steady0 rows = true then (b, rows, outs, true) else if rows.length = 16 then (0, [], [], false) else (b, stRows rows, stOuts outs, true)) := by
  have h1 := H.n1
  have h16 := H.n16
  have ho := H.ol
  have hS := implIS_ev b rows outs (by omega) (fun i h => by have := H.row i h; omega)
  rw [isSq_true.2 H] at hS
  unfold impl_SteadyForm.f
  refine Ev.bind hS (Ev.congr (fun k => if_pos rfl) (Ev.bind (implSteady_ev H) ?_))
  cases hs : steady0 rows with
  | true =>
    simp only [if_true]
    exact Ev.bind (seqOwn_ev H) (Ev.now _)
  | false =>
    simp only [Bool.false_eq_true, if_false]
    by_cases hn : rows.length = 16
    · simp only [if_pos hn, if_pos (show (rows.length : Int) = 16 by omega)]
      exact Ev.now _
    · simp only [if_neg hn, if_neg (show ¬ (rows.length : Int) = 16 by omega)]
      have c1 : (0 : Int) < (outs.length : Int) := by omega
      have c2 : ([rd outs 0] : List Int).length + outs.length < 17592186044416 := by simp only [List.length_cons, List.length_nil]; omega
      have c3 : (0 : Int) < (rows.length : Int) := by omega
      have c4 : ([rd_L1 rows 0] : List (List Int)).length + rows.length < 5864062014805 := by simp only [List.length_cons, List.length_nil]; omega
      simp only [if_pos c1, if_pos c2, if_pos c3, if_pos c4]
      let x41 : List (List Int) := rows.getD 0 [] :: rows
      have hxl : x41.length = rows.length + 1 := rfl
      have hx : ∀ r ∈ x41, (∀ y ∈ r, 0 ≤ y ∧ y < 100) ∧ r.length ≤ 4 := fun r hr => by
        have : r ∈ rows := by
          rcases List.mem_cons.1 hr with rfl | hr
          · rw [rowAt (by omega : 0 < rows.length)]; exact List.getElem_mem _
          · exact hr
        obtain ⟨i, hi, rfl⟩ := List.getElem_of_mem this
        refine ⟨fun y hy => ?_, H.row i hi⟩
        have := H.inR i hi y (by rw [rowAt hi]; exact hy)
        omega
      have key := downs (P := fun i => Ev (fun k => impl_SteadyForm.l0 k b (stOuts outs) x41 (x41.length : Int) (i : Int) ((x41.take i).map up)) (b, stRows rows, stOuts outs, true)) x41.length
        (fun i hi ih => by
          rw [List.take_succ_eq_append_getElem hi, List.map_append] at ih
          refine Ev.step (fun k => ?_) (implSt_row (outs := []) (by omega) (fun r hr => (hx r hr).1) (fun r hr => (hx r hr).2) i hi _ (by rw [List.length_map, List.length_take]; omega) ih)
          rw [impl_SteadyForm.l0, if_pos (by omega), if_pos (by omega), if_pos (by omega), rdR_of hi])
        (by
          have h2 := H.r0
          refine Ev.step (f := fun _ => some _) (fun k => ?_) (Ev.now _)
          have e : rd_L1 (x41.map up) 0 = up (rows.getD 0 []) := rfl
          rw [impl_SteadyForm.l0, if_neg (by omega), List.take_length, if_pos (by rw [List.length_map]; omega), e, if_pos (by simp only [up, List.length_map]; omega)]
          rfl)
      have hk := key 0 (by omega)
      refine Ev.congr (fun k => ?_) hk
      show impl_SteadyForm.l0 k b ([rd outs 0] ++ outs) ([rd_L1 rows 0] ++ rows) ((1 + rows.length : Nat) : Int) 0 [] = _
      rw [show (1 + rows.length : Nat) = x41.length by omega]
      rfl
theorem specSt_first {b : Int} {rows : List (List Int)} {outs : List Int} (H : SqW b rows outs) (ol : List Int) {r : SqR} (h : Ev (fun k => spec_SteadyForm.l1 k 0 b rows outs b [(up (rows.getD 0 [])).set 0 0] ol) r) :
    Ev (fun k => spec_SteadyForm.l0 k [0] 1 b rows outs b ol) r := by
  have h1 := H.n1
  have h2 := H.r0
  have hlen := H.len 0 (by omega)
  have h4 := H.b4
  have h16 := H.n16
  have key := downs (P := fun c => 1 ≤ c → Ev (fun k => spec_SteadyForm.l0 k (0 :: up (((rows.getD 0 []).take c).drop 1)) (c : Int) b rows outs b ol) r) (rows.getD 0 []).length
    (fun c hc ih h1c => by
      refine Ev.step (fun k => ?_) (ih (by omega))
      have hy := H.inR 0 (by omega) _ (List.getElem_mem hc)
      have e0 : rd_L1 rows 0 = rows.getD 0 [] := rfl
      rw [spec_SteadyForm.l0, if_pos (by omega), if_pos (by omega), if_pos (by omega), e0, if_pos (by omega), rd_of hc, if_pos (by simp only [up, List.length_cons, List.length_map, List.length_drop, List.length_take]; omega), w64 (by omega) (by omega), w64 (by omega) (by omega), List.take_succ_eq_append_getElem hc, List.drop_append_of_le_length (by rw [List.length_take]; omega)]
      simp [up])
    (fun _ => by
      refine Ev.step (fun k => ?_) h
      rw [spec_SteadyForm.l0, if_neg (by omega), if_pos (by simp), List.take_length]
      cases hr : rows.getD 0 [] with
      | nil => rw [hr] at h2; simp at h2
      | cons x xs => simp [up])
  have := key 1 (by omega) (by omega)
  refine Ev.congr (fun k => ?_) this
  congr 1
  cases hr : rows.getD 0 [] with
  | nil => rfl
  | cons x xs => rfl
theorem specSt_row {b : Int} {rows : List (List Int)} {outs : List Int} (H : SqW b rows outs) (ol : List Int) (i : Nat) (hi : i < rows.length) (acc : List (List Int)) (ha : acc.length ≤ 20) {r : SqR} (h : Ev (fun k => spec_SteadyForm.l1 k ((i + 1 : Nat) : Int) b rows outs b (acc ++ [up rows[i]]) ol) r) :
    Ev (fun k => spec_SteadyForm.l2 k (i : Int) [] 0 b rows outs b acc ol) r := by
  have h4 := H.b4
  have hlen := H.len i hi
  rw [rowAt hi] at hlen
  have h16 := H.n16
  have key := downs (P := fun c => Ev (fun k => spec_SteadyForm.l2 k (i : Int) (up (rows[i].take c)) (c : Int) b rows outs b acc ol) r) rows[i].length
    (fun c hc ih => by
      refine Ev.step (fun k => ?_) ih
      have hy := H.inR i hi rows[i][c] (by rw [rowAt hi]; exact List.getElem_mem hc)
      rw [spec_SteadyForm.l2, if_pos (by omega), if_pos (by omega), if_pos (by omega), if_pos (by omega), rdR_of hi, if_pos (by omega), rd_of hc, if_pos (by simp only [up, List.length_map, List.length_take]; omega), w64 (by omega) (by omega), w64 (by omega) (by omega), List.take_succ_eq_append_getElem hc, up_snoc]
      rfl)
    (by
      refine Ev.step (fun k => ?_) h
      rw [spec_SteadyForm.l2, if_neg (by omega), if_pos (by omega), List.take_length, w64 (by omega) (by omega)]
      rfl)
  exact key 0 (by omega)
theorem specSt_ev {b : Int} {rows : List (List Int)} {outs : List Int} (H : SqW b rows outs) : Ev (fun k => spec_SteadyForm.f k b rows outs) (if steady0 rows = true then (b, rows, outs, true) else if rows.length = 16 then (0, [], [], false) else (b, stRows rows, stOuts outs, true)) := by
  have h1 := H.n1
  have h16 := H.n16
  have ho := H.ol
  have hS := specIS_ev b rows outs (by omega) (fun i h => by have := H.row i h; omega) (by omega)
  rw [isSq_true.2 H] at hS
  have main : (¬ (rows.length = 16 ∧ steady0 rows = false)) → Ev (fun k => spec_SteadyForm.j0 k false b rows outs) (if steady0 rows = true then (b, rows, outs, true) else if rows.length = 16 then (0, [], [], false) else (b, stRows rows, stOuts outs, true)) := fun hno => by
    refine Ev.step (f := fun k => (spec_IsSteady.f k b rows outs).bind fun t144 => (if t144 = true then ((spec_l3Copy.f k b rows outs).bind fun bt145 => (some (bt145.1, bt145.2.1, bt145.2.2, true))) else (spec_SteadyForm.l0 k [0] 1 b rows outs b (stOuts outs)))) (fun k => ?_) (Ev.bind (specSteady_ev H) ?_)
    · rw [spec_SteadyForm.j0, if_neg (by decide), if_pos (by omega), Option.bind_some, if_pos (by simp only [List.length_cons, List.length_nil]; omega)]
      rfl
    · cases hs : steady0 rows with
      | true =>
        simp only [if_true]
        exact Ev.bind (l3Copy_ev H) (Ev.now _)
      | false =>
        have hn : rows.length ≠ 16 := fun e => hno ⟨e, hs⟩
        simp only [Bool.false_eq_true, if_false, if_neg hn]
        refine specSt_first H _ ?_
        have key := downs (P := fun i => Ev (fun k => spec_SteadyForm.l1 k (i : Int) b rows outs b ((up (rows.getD 0 [])).set 0 0 :: (rows.take i).map up) (stOuts outs)) (b, stRows rows, stOuts outs, true)) rows.length
          (fun i hi ih => by
            rw [List.take_succ_eq_append_getElem hi, List.map_append] at ih
            refine Ev.step (fun k => ?_) (specSt_row H _ i hi ((up (rows.getD 0 [])).set 0 0 :: (rows.take i).map up) (by rw [List.length_cons, List.length_map, List.length_take]; omega) ih)
            rw [spec_SteadyForm.l1, if_pos (by omega)])
          (by
            refine Ev.step (f := fun _ => some _) (fun k => ?_) (Ev.now _)
            rw [spec_SteadyForm.l1, if_neg (by omega), List.take_length]
            rfl)
        exact key 0 (by omega)
  unfold spec_SteadyForm.f
  refine Ev.bind hS (Ev.congr (fun k => if_pos rfl) ?_)
  by_cases hn : rows.length = 16
  · refine Ev.congr (fun k => if_pos (by omega)) (Ev.bind (specSteady_ev H) ?_)
    cases hs : steady0 rows with
    | true =>
      have := main (fun h => by rw [hs] at h; cases h.2)
      rw [hs] at this
      exact this
    | false =>
      simp only [Bool.false_eq_true, if_false, if_pos hn, Bool.not_false]
      refine Ev.step (f := fun _ => some _) (fun k => ?_) (Ev.now _)
      rw [spec_SteadyForm.j0, if_pos rfl]
  · exact Ev.congr (fun k => if_neg (by omega)) (main (fun h => hn h.1))
/-- both steady forms: nothing, or the same sequence -/
theorem steady_both (b : Int) (rows : List (List Int)) (outs : List Int) (hl : rows.length ≤ 1048576) (hr : ∀ i (h : i < rows.length), rows[i].length ≤ 1048576) (ho : outs.length ≤ 1048576) :
    (Ev (fun k => spec_SteadyForm.f k b rows outs) (0, [], [], false) ∧ Ev (fun k => impl_SteadyForm.f k b rows outs) (0, [], [], false)) ∨
    ∃ rows' outs', SqW b rows' outs' ∧ Ev (fun k => spec_SteadyForm.f k b rows outs) (b, rows', outs', true) ∧ Ev (fun k => impl_SteadyForm.f k b rows outs) (b, rows', outs', true) := by
  cases h : isSq b rows outs with
  | true =>
    have H := isSq_true.1 h
    have h1 := specSt_ev H
    have h2 := implSt_ev H
    cases hs : steady0 rows with
    | true =>
      rw [hs] at h1 h2
      exact .inr ⟨rows, outs, H, h1, h2⟩
    | false =>
      rw [hs] at h1 h2
      by_cases hn : rows.length = 16
      · rw [if_neg (by decide), if_pos hn] at h1 h2
        exact .inl ⟨h1, h2⟩
      · rw [if_neg (by decide), if_neg hn] at h1 h2
        exact .inr ⟨_, _, stW H hn, h1, h2⟩
  | false =>
    have hS := specIS_ev b rows outs hl hr ho
    have hI := implIS_ev b rows outs hl hr
    rw [h] at hS hI
    refine .inl ⟨?_, ?_⟩
    · unfold spec_SteadyForm.f
      refine Ev.bind hS (Ev.congr (fun k => if_neg (by decide)) (Ev.step (f := fun _ => some _) (fun k => ?_) (Ev.now _)))
      rw [spec_SteadyForm.j0, if_pos rfl]
    · unfold impl_SteadyForm.f
      exact Ev.bind hI (Ev.congr (fun k => if_neg (by decide)) (Ev.now _))

/-! Reduce2 -/
theorem idxOf_first {L : List Int} {x : Int} {m : Nat} (hm : m < L.length) (e : L[m] = x) (h : ∀ j (hj : j < m), L[j]'(by omega) ≠ x) : L.idxOf x = m := by
  unfold List.idxOf
  rw [List.findIdx_eq hm]
  refine ⟨by simp [e], fun j hj => by simpa using h j hj⟩
def clO (e : List Int) (q : Int) : Int := e.getD q.toNat 0
structure OkO (n : Nat) (e O : List Int) : Prop where
  inr : ∀ x ∈ O, 0 ≤ x ∧ x < (n : Int)
  nod : (O.map (clO e)).Nodup
theorem OkO.len {n : Nat} {e O : List Int} (H : OkO n e O) (he : ∀ i, i < n → 0 ≤ e.getD i 0 ∧ e.getD i 0 < (n : Int)) : O.length ≤ n := by
  have := nodup_len n (O.map (clO e)) H.nod (fun x hx => by
    obtain ⟨q, hq, rfl⟩ := List.mem_map.1 hx
    have := H.inr q hq
    exact he q.toNat (by omega))
  rwa [List.length_map] at this
noncomputable def rowF (rows : List (List Int)) (e F : List Int) (v : Int) : List Int := (clM rows e v).map (fun x => ((F.idxOf x : Nat) : Int))
section
variable {b t : Int} {rows : List (List Int)} {acc : List Bool} {e : List Int}
end
/-- Rows and marks of any automaton that the reduction is called with. -/
structure RelG (m : Nat) (rows : List (List Int)) (acc : List Bool) : Prop where
  n1 : 1 ≤ rows.length
  nN : rows.length ≤ 20000
  al : acc.length = rows.length
  mm : m ≤ 10000
  len : ∀ i, i < rows.length → (rows.getD i []).length = m
  inR : inR rows
theorem run_range {rows : List (List Int)} {c e : List Int} (H : Run rows c e) {i : Nat} (hi : i < rows.length) : 0 ≤ e.getD i 0 ∧ e.getD i 0 < (rows.length : Int) := by
  have h1 := H.still.2.lt (show i < (keysL rows e).length by rw [keysL_len]; exact hi)
  have h2 := cntN_le (fun i => (keysL rows e).getD i default) (keysL rows e).length
  rw [keysL_len] at h1 h2
  omega
theorem clM_range {rows : List (List Int)} {c e : List Int} (hR : inR rows) (H : Run rows c e) (v : Int) : ∀ x ∈ clM rows e v, 0 ≤ x ∧ x < (rows.length : Int) := by
  intro x hx
  unfold clM at hx
  obtain ⟨y, hy, rfl⟩ := List.mem_map.1 hx
  by_cases hr : repOf e v < rows.length
  · have := hR _ hr y hy
    exact run_range H (by omega)
  · rw [List.getD_eq_getElem?_getD, List.getElem?_eq_none (by omega)] at hy
    simp at hy
/-! Reached -/
/-- The list of what has been seen. -/
structure SeenOk (n : Nat) (S : List Bool) (L : List Int) : Prop where
  len : S.length = n
  inr : ∀ x ∈ L, 0 ≤ x ∧ x < (n : Int)
  nod : L.Nodup
  iff : ∀ i, i < n → (S.getD i false = true ↔ (i : Int) ∈ L)
theorem SeenOk.le {n : Nat} {S : List Bool} {L : List Int} (H : SeenOk n S L) : L.length ≤ n := nodup_len n L H.nod H.inr
theorem SeenOk.add {n : Nat} {S : List Bool} {L : List Int} (H : SeenOk n S L) (q : Nat) (hq : q < n) (h : (q : Int) ∉ L) : SeenOk n (S.set q true) (L ++ [(q : Int)]) := by
  refine ⟨by simp [H.len], fun x hx => ?_, ?_, fun i hi => ?_⟩
  · rcases List.mem_append.1 hx with g | g
    · exact H.inr x g
    · rw [List.mem_singleton] at g; omega
  · have := nodup_addOne H.nod (q : Int)
    rwa [addOne, if_neg h] at this
  · have hl := H.len
    by_cases g : i = q
    · subst g
      simp [List.getD_eq_getElem?_getD, show i < S.length by omega]
    · have e : (S.set q true).getD i false = S.getD i false := by
        simp [List.getD_eq_getElem?_getD, List.getElem?_set, show ¬ q = i from fun h => g h.symm]
      rw [e, H.iff i hi]
      simp
      omega
theorem reached_l1 {rows : List (List Int)} (hn : rows.length ≤ 20000) (hR : inR rows) (hw : ∀ i, i < rows.length → (rows.getD i []).length ≤ 10000) (i : Nat) (hi : i ≤ 20000) (q : Nat) (hq : q < rows.length) {r : List Int} :
    ∀ c, c ≤ (rows.getD q []).length → ∀ S L, SeenOk rows.length S L →
      (∀ S' L', SeenOk rows.length S' L' → L' = addAll L ((rows.getD q []).drop c) → Ev (fun k => impl_reached.l0 k rows S' L' ((i + 1 : Nat) : Int)) r) →
      Ev (fun k => impl_reached.l1 k rows S L (i : Int) (rows.getD q []) ((rows.getD q []).length : Int) (c : Int)) r := by
  have hlq := hw q hq
  exact downs (P := fun c => ∀ S L, SeenOk rows.length S L →
      (∀ S' L', SeenOk rows.length S' L' → L' = addAll L ((rows.getD q []).drop c) → Ev (fun k => impl_reached.l0 k rows S' L' ((i + 1 : Nat) : Int)) r) →
      Ev (fun k => impl_reached.l1 k rows S L (i : Int) (rows.getD q []) ((rows.getD q []).length : Int) (c : Int)) r) (rows.getD q []).length
    (fun c hc ih S L hS h => by
      have hx := hR q hq (rows.getD q [])[c] (List.getElem_mem hc)
      obtain ⟨x, hx0⟩ : ∃ x : Nat, (rows.getD q [])[c] = (x : Int) := ⟨((rows.getD q [])[c]).toNat, by omega⟩
      have hxl : x < rows.length := by omega
      have hSl := hS.len
      have hLl := hS.le
      have er : rd (rows.getD q []) (c : Int) = (x : Int) := (rd_of hc).trans hx0
      have eg : rdOf false S (x : Int) = S.getD x false := rfl
      by_cases g : S.getD x false = true
      · refine Ev.step (fun k => ?_) (ih S L hS (fun S' L' hS' e => h S' L' hS' ?_))
        · rw [impl_reached.l1, if_pos (by omega), if_pos (by omega), if_pos (by omega), er, if_pos (by omega), if_pos (by omega), eg, if_pos g, w64 (by omega) (by omega)]
          rfl
        · rw [e, drop_at hc, addAll_cons, hx0, addOne, if_pos ((hS.iff x hxl).1 g)]
      · have hnm : (x : Int) ∉ L := fun hm => g ((hS.iff x hxl).2 hm)
        refine Ev.step (fun k => ?_) (ih (S.set x true) (L ++ [(x : Int)]) (hS.add x hxl hnm) (fun S' L' hS' e => h S' L' hS' ?_))
        · rw [impl_reached.l1, if_pos (by omega), if_pos (by omega), if_pos (by omega), er, if_pos (by omega), if_pos (by omega), eg, if_neg g, if_pos (by omega), w64 (by omega) (by omega), Int.toNat_natCast]
          rfl
        · rw [e, drop_at hc, addAll_cons, hx0, addOne, if_neg hnm])
    (fun S L hS h => by
      refine Ev.step (fun k => ?_) (h S L hS (by rw [List.drop_length, addAll_nil]))
      rw [impl_reached.l1, if_neg (by omega), w64 (by omega) (by omega)]
      rfl)
theorem reached_bfs {rows : List (List Int)} (hn : rows.length ≤ 20000) (hR : inR rows) (hw : ∀ i, i < rows.length → (rows.getD i []).length ≤ 10000) {L G : List Int} {i : Nat} (H : Bfs (fun v => rows.getD v.toNat []) L i G) :
    ∀ S, SeenOk rows.length S L → Ev (fun k => impl_reached.l0 k rows S L (i : Int)) G := by
  induction H with
  | @done L k hk =>
    intro S hS
    refine Ev.step (f := fun _ => some L) (fun k => ?_) (Ev.now _)
    rw [impl_reached.l0, if_neg (by omega)]
  | @step L F k hk H ih =>
    intro S hS
    have hLl := hS.le
    have hq := hS.inr L[k] (List.getElem_mem hk)
    obtain ⟨q, hq0⟩ : ∃ q : Nat, L[k] = (q : Int) := ⟨(L[k]).toNat, by omega⟩
    have hql : q < rows.length := by omega
    refine Ev.step (fun k' => ?_) (reached_l1 (r := F) hn hR hw k (by omega) q hql 0 (by omega) S L hS (fun S' L' hS' e => ?_))
    · rw [impl_reached.l0, if_pos (by omega), if_pos (by omega), rd_of hk, hq0, if_pos (by omega), if_pos (by omega)]
      rfl
    · rw [List.drop_zero] at e
      subst e
      rw [hq0] at ih
      exact ih S' hS'
theorem reached_ev {rows : List (List Int)} (h1 : 1 ≤ rows.length) (hn : rows.length ≤ 20000) (hR : inR rows) (hw : ∀ i, i < rows.length → (rows.getD i []).length ≤ 10000) : ∃ G, Bfs (fun v => rows.getD v.toNat []) [0] 0 G ∧ Ev (fun k => impl_reached.f k rows) G := by
  obtain ⟨G, hG⟩ := Bfs.exist (fun v => rows.getD v.toNat []) rows.length (fun v hv x hx => hR v.toNat (by omega) x hx) [0] 0 (by simp) (fun x hx => by
    rw [List.mem_singleton] at hx; omega)
  refine ⟨G, hG, ?_⟩
  have h := reached_bfs hn hR hw hG ((List.replicate rows.length false).set 0 true) ⟨by simp, fun x hx => by
    rw [List.mem_singleton] at hx; omega, by simp, fun i hi => by
    by_cases g : i = 0
    · subst g
      rw [List.getD_eq_getElem?_getD, List.getElem?_set_self (by simpa using hi)]
      simp
    · simp [List.getD_eq_getElem?_getD, List.getElem?_set, show ¬ 0 = i from fun h => g h.symm, List.getElem?_replicate]
      refine ⟨?_, fun h => by omega⟩
      split <;> simp⟩
  refine Ev.congr (fun k => ?_) h
  unfold impl_reached.f
  rw [if_pos (by omega), if_pos (by omega), Option.bind_some, if_pos (by simp; omega)]
  rfl

/-! Numbered -/
/-- The numbering by a map of texts is the numbering by first places. -/
theorem numAll_inv (keys : List (List Int)) : ∀ i, i ≤ keys.length → (numAll (keys.take i)).2.length = i ∧ IsNumb (fun j => keys.getD j default) i (fun j => (numAll (keys.take i)).2.getD j 0) ∧ (numAll (keys.take i)).1.length = cntN (fun j => keys.getD j default) i ∧
    (∀ j, j < i → keys.getD j default ∈ (numAll (keys.take i)).1 ∧ (numAll (keys.take i)).2.getD j 0 = (((numAll (keys.take i)).1.idxOf (keys.getD j default) : Nat) : Int)) ∧ ∀ x ∈ (numAll (keys.take i)).1, ∃ j, j < i ∧ keys.getD j default = x := by
  intro i
  induction i with
  | zero =>
    intro _
    refine ⟨by simp [numAll], ⟨fun j hj => absurd hj (by omega), fun j l hj => absurd hj (by omega)⟩, by simp [numAll, cntN], fun j hj => absurd hj (by omega), fun x hx => by simp [numAll] at hx⟩
  | succ i ih =>
    intro hi
    obtain ⟨h1, h2, h3, h4, h5⟩ := ih (by omega)
    have hk : keys.getD i default = keys[i]'(by omega) := keyAt (by omega)
    rw [numAll_succ keys i (by omega)]
    obtain ⟨s, hs⟩ : ∃ s, s = numAll (keys.take i) := ⟨_, rfl⟩
    rw [← hs] at h1 h2 h3 h4 h5 ⊢
    rw [← hk]
    subst h1
    by_cases hm : keys.getD s.2.length default ∈ s.1
    · obtain ⟨j, hj, e⟩ := h5 _ hm
      have hn : ¬ newAt (fun j => keys.getD j default) s.2.length := fun q => q j hj e
      have hK : numK s.1 (keys.getD s.2.length default) = s.1 := if_pos hm
      have hv : ((s.1.idxOf (keys.getD s.2.length default) : Nat) : Int) = s.2.getD j 0 := by rw [(h4 j hj).2, e]
      refine ⟨by simp [numStep], ?_, ?_, fun l hl => ?_, fun x hx => ?_⟩
      · have := numb_old h2 hj e
        simp only [numStep, hK, hv]
        exact this
      · simp only [numStep, hK]
        rw [h3, cntN_succ_old hn]
      · simp only [numStep, hK]
        by_cases q : l < s.2.length
        · rw [getD_snoc_lt q]
          exact h4 l q
        · obtain rfl : l = s.2.length := by omega
          exact ⟨hm, getD_snoc_eq _ _⟩
      · simp only [numStep, hK] at hx
        obtain ⟨l, hl, e2⟩ := h5 x hx
        exact ⟨l, by omega, e2⟩
    · have hn : newAt (fun j => keys.getD j default) s.2.length := fun l hl e => hm (by
        have := (h4 l hl).1
        have e' : keys.getD l default = keys.getD s.2.length default := e
        rwa [e'] at this)
      have hK : numK s.1 (keys.getD s.2.length default) = s.1 ++ [keys.getD s.2.length default] := if_neg hm
      have hv : (s.1 ++ [keys.getD s.2.length default]).idxOf (keys.getD s.2.length default) = cntN (fun j => keys.getD j default) s.2.length := by
        rw [List.idxOf_append, if_neg hm, ← h3]
        simp
      refine ⟨by simp [numStep], ?_, ?_, fun l hl => ?_, fun x hx => ?_⟩
      · have := numb_new h2 hn
        simp only [numStep, hK, hv]
        exact this
      · simp only [numStep, hK]
        rw [List.length_append, h3, cntN_succ_new hn]
        rfl
      · simp only [numStep, hK]
        by_cases q : l < s.2.length
        · rw [getD_snoc_lt q]
          obtain ⟨a, b⟩ := h4 l q
          refine ⟨List.mem_append.2 (Or.inl a), ?_⟩
          rw [List.idxOf_append, if_pos a]
          exact b
        · obtain rfl : l = s.2.length := by omega
          refine ⟨by simp, ?_⟩
          exact getD_snoc_eq _ _
      · simp only [numStep, hK] at hx
        rcases List.mem_append.1 hx with g | g
        · obtain ⟨l, hl, e2⟩ := h5 x g
          exact ⟨l, by omega, e2⟩
        · rw [List.mem_singleton] at g
          exact ⟨s.2.length, by omega, g.symm⟩
theorem numAll_NumL (keys : List (List Int)) : NumL keys (numAll keys).2 ∧ (numAll keys).1.length = cntL keys := by
  obtain ⟨h1, h2, h3, _, _⟩ := numAll_inv keys keys.length (Nat.le_refl _)
  rw [List.take_length] at h1 h2 h3
  exact ⟨⟨h1, h2⟩, h3⟩
theorem numbered_ev (k : Nat) {keys : List (List Int)} {c : List Int} (hl : keys.length ≤ 1000000) (hk : ∀ x ∈ keys, okKey x = true) (H : NumL keys c) : impl_numbered.f k keys = some (c, ((cntL keys : Nat) : Int)) := by
  obtain ⟨h1, h2⟩ := numAll_NumL keys
  have e : (numAll keys).2 = c := NumL.uniq h1 H rfl (fun i j _ _ => Iff.rfl)
  unfold impl_numbered.f
  rw [if_pos ⟨hl, List.all_eq_true.2 hk⟩, e, h2]

/-! Minimal -/
theorem Bfs.uniq {M : Int → List Int} {L F G : List Int} {k : Nat} (H : Bfs M L k F) (K : Bfs M L k G) : F = G := by
  induction H with
  | done h =>
    cases K with
    | done _ => rfl
    | step h2 _ => omega
  | step h _ ih =>
    cases K with
    | done h2 => omega
    | step h2 K => exact ih K
theorem Bfs.congr {M M' : Int → List Int} {L F : List Int} {k : Nat} (H : Bfs M L k F) : (∀ v ∈ F, M v = M' v) → Bfs M' L k F := by
  induction H with
  | done h => exact fun _ => .done h
  | @step L F k h H ih =>
    intro hM
    have hp := (addAll_pre (M L[k]) L).trans H.pre
    have e := hM L[k] (hp.subset (List.getElem_mem h))
    refine .step h ?_
    rw [← e]
    exact ih hM
theorem sub_len : ∀ {A B : List Int}, A.Nodup → (∀ x ∈ A, x ∈ B) → A.length ≤ B.length
  | [], _, _, _ => by simp
  | a :: A, B, hn, hs => by
    have hn2 := List.nodup_cons.1 hn
    have ha := hs a (by simp)
    have ih := sub_len (A := A) (B := B.erase a) hn2.2 (fun x hx => by
      have hx2 := hs x (by simp [hx])
      have ne : x ≠ a := fun e => hn2.1 (e ▸ hx)
      exact (List.mem_erase_of_ne ne).2 hx2)
    rw [List.length_erase_of_mem ha] at ih
    have := List.length_pos_of_mem ha
    rw [List.length_cons]
    omega
def ddl : List Int → List Int
  | [] => []
  | x :: l => if x ∈ l then ddl l else x :: ddl l
theorem ddl_mem : ∀ {l : List Int} {x : Int}, x ∈ ddl l ↔ x ∈ l
  | [], x => by simp [ddl]
  | y :: l, x => by
    rw [ddl]
    split
    · rename_i h
      rw [ddl_mem, List.mem_cons]
      exact ⟨Or.inr, fun g => g.elim (fun e => e ▸ h) id⟩
    · rw [List.mem_cons, ddl_mem, List.mem_cons]
theorem ddl_nodup : ∀ l : List Int, (ddl l).Nodup
  | [] => by simp [ddl]
  | y :: l => by
    rw [ddl]
    split
    · exact ddl_nodup l
    · rename_i h
      exact List.nodup_cons.2 ⟨fun g => h (ddl_mem.1 g), ddl_nodup l⟩
theorem ddl_len : ∀ l : List Int, (ddl l).length = dcount l
  | [] => rfl
  | y :: l => by
    rw [ddl, dcount]
    split
    · exact ddl_len l
    · rw [List.length_cons, ddl_len l]
theorem dcount_eq {l : List Int} {m : Nat} (h1 : ∀ x ∈ l, 0 ≤ x ∧ x < (m : Int)) (h2 : ∀ v, v < m → (v : Int) ∈ l) : dcount l = m := by
  have a := nodup_len m (ddl l) (ddl_nodup l) (fun x hx => h1 x (ddl_mem.1 hx))
  have b := sub_len (A := (List.range m).map (fun (v : Nat) => (v : Int))) (B := ddl l) (List.Pairwise.map _ (fun (x y : Nat) h (e : (x : Int) = (y : Int)) => h (by omega)) List.nodup_range) (fun x hx => by
    obtain ⟨v, hv, rfl⟩ := List.mem_map.1 hx
    exact ddl_mem.2 (h2 v (List.mem_range.1 hv)))
  rw [ddl_len] at a b
  rw [List.length_map, List.length_range] at b
  omega
/-- Classes that stand still are numbered from 0 on without a gap. -/
theorem numL_range {α : Type} [Inhabited α] {a : List α} {e : List Int} (H : NumL a e) : (∀ x ∈ e, 0 ≤ x ∧ x < ((cntL a : Nat) : Int)) ∧ (∀ v, v < cntL a → (v : Int) ∈ e) ∧ dcount e = cntL a := by
  have h1 : ∀ x ∈ e, 0 ≤ x ∧ x < ((cntL a : Nat) : Int) := fun x hx => by
    obtain ⟨i, hi, rfl⟩ := List.getElem_of_mem hx
    have := H.2.lt (show i < a.length by rw [← H.1]; exact hi)
    rw [getAt hi] at this
    exact this
  have h2 : ∀ v, v < cntL a → (v : Int) ∈ e := fun v hv => by
    obtain ⟨i, hi, hn, ev⟩ := cntN_onto _ _ v hv
    have q := H.2.first i hi hn
    have hie : i < e.length := by rw [H.1]; exact hi
    rw [getAt hie] at q
    rw [← ev, ← q]
    exact List.getElem_mem hie
  exact ⟨h1, h2, dcount_eq h1 h2⟩
theorem keyOf_ok {rows : List (List Int)} (hn : rows.length ≤ 20000) (hR : inR rows) (hw : ∀ i, i < rows.length → (rows.getD i []).length ≤ 10000) {α : Type} [Inhabited α] {a : List α} {c : List Int} (hl : a.length = rows.length) (H : NumL a c) : ∀ x ∈ keysL rows c, okKey x = true := by
  intro x hx
  obtain ⟨i, hi, rfl⟩ := List.mem_map.1 hx
  have hi2 := List.mem_range.1 hi
  have hw2 := hw i hi2
  have hcl := cntL_le a
  have hr : ∀ j, j < rows.length → 0 ≤ c.getD j 0 ∧ c.getD j 0 < 65536 := fun j hj => by
    have h1 := H.2.lt (show j < a.length by omega)
    have h2 := cntN_le (fun i => a.getD i default) a.length
    omega
  unfold okKey keyOf
  simp only [List.length_cons, List.length_map, List.all_cons, List.all_map, Bool.and_eq_true, decide_eq_true_eq, List.all_eq_true]
  refine ⟨⟨by omega, by omega⟩, hr i hi2, fun y hy => ?_⟩
  have := hR i hi2 y hy
  simpa using hr y.toNat (by omega)
section
variable {rows : List (List Int)}
theorem cls_l3 (hR : inR rows) {c : List Int} (hc : c.length = rows.length) (m : Int) (x5 : List (List Int)) (h5 : x5.length ≤ 20000) (i : Nat) (hi : i < rows.length) (hlen : (rows.getD i []).length ≤ 1000000) {r : List Int}
    (h : Ev (fun k => impl_classes.l2 k rows (x5 ++ [keyOf rows c i]) c m rows (rows.length : Int) ((i + 1 : Nat) : Int)) r) (hn : rows.length ≤ 20000) :
    Ev (fun k => impl_classes.l3 k rows x5 c m [rd c (i : Int)] rows (rows.length : Int) (i : Int) (rows.getD i []) ((rows.getD i []).length : Int) 0) r := by
  have key := downs (P := fun j => Ev (fun k => impl_classes.l3 k rows x5 c m (c.getD i 0 :: (((rows.getD i []).take j).map (fun qq => c.getD qq.toNat 0))) rows (rows.length : Int) (i : Int) (rows.getD i []) ((rows.getD i []).length : Int) (j : Int)) r) (rows.getD i []).length
    (fun j hj ih => by
      refine Ev.step (fun k => ?_) ih
      have hx := hR i hi (rows.getD i [])[j] (List.getElem_mem hj)
      have e1 : rd (rows.getD i []) (j : Int) = (rows.getD i [])[j] := rd_of hj
      rw [impl_classes.l3, if_pos (by omega), if_pos (by omega), if_pos (by omega), e1, if_pos (by omega), if_pos (by omega), if_pos (by simp; omega), w64 (by omega) (by omega)]
      rw [List.take_succ_eq_append_getElem hj, List.map_append]
      rfl)
    (by
      refine Ev.step (fun k => ?_) h
      rw [impl_classes.l3, if_neg (by omega), if_pos (by omega), w64 (by omega) (by omega), List.take_length]
      rfl)
  exact key 0 (by omega)
theorem cls_l1 (hn : rows.length ≤ 20000) (hR : inR rows) (hw : ∀ i, i < rows.length → (rows.getD i []).length ≤ 10000) {c d : List Int} (hc : c.length = rows.length) (m : Int) (x5 : List (List Int)) (hok : ∀ x ∈ keysL rows c, okKey x = true) (hN : NumL (keysL rows c) d) {r : List Int}
    (heq : ((cntL (keysL rows c) : Nat) : Int) = m → d = r) (hne : ((cntL (keysL rows c) : Nat) : Int) ≠ m → Ev (fun k => impl_classes.l1 k rows (keysL rows c) d ((cntL (keysL rows c) : Nat) : Int)) r) : Ev (fun k => impl_classes.l1 k rows x5 c m) r := by
  have key := downs (P := fun i => Ev (fun k => impl_classes.l2 k rows ((List.range i).map (keyOf rows c)) c m rows (rows.length : Int) (i : Int)) r) rows.length
    (fun i hi ih => by
      refine Ev.step (fun k => ?_) (cls_l3 hR hc m ((List.range i).map (keyOf rows c)) (by simp; omega) i hi (by have := hw i hi; omega) (Ev.congr (fun k => ?_) ih) hn)
      · rw [impl_classes.l2, if_pos (by omega), if_pos (by omega), if_pos (by omega), if_pos (by omega)]
        rfl
      · rw [List.range_succ, List.map_append]
        rfl)
    (by
      refine Ev.step (f := fun k => (impl_numbered.f k (keysL rows c)).bind fun bt => (if bt.2 = m then (some bt.1) else (impl_classes.l1 k rows (keysL rows c) bt.1 bt.2))) (fun k => ?_) ?_
      · rw [impl_classes.l2, if_neg (by omega)]
        rfl
      · refine Ev.bind (Ev.congr (fun k => numbered_ev k (by rw [keysL_len]; omega) hok hN) (Ev.now _)) ?_
        by_cases q : ((cntL (keysL rows c) : Nat) : Int) = m
        · simp only [if_pos q, heq q]
          exact Ev.now _
        · simp only [if_neg q]
          exact hne q)
  refine Ev.step (fun k => ?_) (key 0 (by omega))
  rw [impl_classes.l1, if_pos (by omega)]
  rfl
theorem cls_run (hn : rows.length ≤ 20000) (hR : inR rows) (hw : ∀ i, i < rows.length → (rows.getD i []).length ≤ 10000) {c e : List Int} (H : Run rows c e) : ∀ (α : Type) [Inhabited α] (a : List α), a.length = rows.length → NumL a c → ∀ x5, Ev (fun k => impl_classes.l1 k rows x5 c ((cntL a : Nat) : Int)) e := by
  induction H with
  | @stop c h =>
    intro α _ a hl hN x5
    have hc : c.length = rows.length := by rw [hN.1, hl]
    refine cls_l1 hn hR hw hc _ x5 (keyOf_ok hn hR hw hl hN) h (fun _ => rfl) (fun q => absurd ?_ q)
    rw [cnt_of h, cnt_of hN]
  | @go c d e h hd _ ih =>
    intro α _ a hl hN x5
    have hc : c.length = rows.length := by rw [hN.1, hl]
    refine cls_l1 hn hR hw hc _ x5 (keyOf_ok hn hR hw hl hN) h (fun q => absurd (round_same hN h hl (by omega)) hd) (fun _ => ih _ _ (keysL_len rows c) h _)
theorem classes_ev (hn : rows.length ≤ 20000) (hR : inR rows) (hw : ∀ i, i < rows.length → (rows.getD i []).length ≤ 10000) {out : List Int} (hol : out.length = rows.length) (hou : ∀ x ∈ out, 0 ≤ x ∧ x < 65536) {c e : List Int} (hN : NumL (out.map fun x => [x]) c) (H : Run rows c e) : Ev (fun k => impl_classes.f k rows out) e := by
  have key := downs (P := fun i => Ev (fun k => impl_classes.l0 k rows ((out.take i).map fun x => [x]) out (out.length : Int) (i : Int)) e) out.length
    (fun i hi ih => by
      refine Ev.step (fun k => ?_) ih
      have hlen : ((out.take i).map fun x => [x]).length < 5864062014805 := by simp; omega
      rw [impl_classes.l0, if_pos (by omega), if_pos (by omega), if_pos (by omega), if_pos hlen, rd_of hi, List.take_succ_eq_append_getElem hi, List.map_append, w64 (by omega) (by omega)]
      rfl)
    (by
      refine Ev.step (f := fun k => (impl_numbered.f k (out.map fun x => [x])).bind fun bt => (impl_classes.l1 k rows (out.map fun x => [x]) bt.1 bt.2)) (fun k => ?_) ?_
      · rw [impl_classes.l0, if_neg (by omega), List.take_length]
      · refine Ev.bind (Ev.congr (fun k => numbered_ev k (by rw [List.length_map]; omega) (fun x hx => ?_) hN) (Ev.now _)) ?_
        · obtain ⟨y, hy, rfl⟩ := List.mem_map.1 hx
          have := hou y hy
          simp [okKey, this.1, this.2]
        · exact cls_run hn hR hw H _ _ (by rw [List.length_map, hol]) hN _)
  exact key 0 (by omega)
end
theorem nodup_ne {l : List Int} (hn : l.Nodup) {i j : Nat} (hi : i < l.length) (hj : j < l.length) (h : i ≠ j) : l[i] ≠ l[j] := by
  rcases Nat.lt_or_ge i j with g | g
  · exact List.pairwise_iff_getElem.1 hn i j hi hj g
  · exact (List.pairwise_iff_getElem.1 hn j i hj hi (by omega)).symm
theorem namesTo_get {od : List Int} {m : Nat} (hn : od.Nodup) (hr : ∀ x ∈ od, 0 ≤ x ∧ x < (m : Int)) : ∀ k, k ≤ od.length → ∀ j (hj : j < k) (hj2 : j < od.length), (namesTo od m k).getD (od[j]).toNat 0 = (j : Int)
  | 0, _, j, hj, _ => absurd hj (by omega)
  | k + 1, hk, j, hj, hj2 => by
    rw [← namesTo_succ od m k (by omega)]
    have h1 := hr od[j] (List.getElem_mem hj2)
    have h2 := hr (od[k]'(by omega)) (List.getElem_mem _)
    by_cases e : j = k
    · subst e
      rw [List.getD_eq_getElem?_getD, List.getElem?_set_self (by rw [namesTo_len]; omega)]
      rfl
    · have hd : od[k]'(by omega) ≠ od[j] := fun q => nodup_ne hn hj2 (by omega) e q.symm
      rw [List.getD_eq_getElem?_getD, List.getElem?_set_ne (by omega), ← List.getD_eq_getElem?_getD]
      exact namesTo_get hn hr k (by omega) j (by omega) hj2
theorem namesTo_idx {od : List Int} {m : Nat} (hn : od.Nodup) (hr : ∀ x ∈ od, 0 ≤ x ∧ x < (m : Int)) {v : Int} (hv : v ∈ od) : (namesTo od m od.length).getD v.toNat 0 = ((od.idxOf v : Nat) : Int) := by
  have hi := List.idxOf_lt_length_iff.2 hv
  have e := List.getElem_idxOf hi
  have h := namesTo_get hn hr od.length (Nat.le_refl _) (od.idxOf v) hi hi
  rwa [e] at h
theorem fstAt_spec {e : List Int} {v : Int} (hv : v ∈ e) (h0 : 0 ≤ v) : fstAt e v.toNat < e.length ∧ e.getD (fstAt e v.toNat) 0 = v := by
  have ev : ((v.toNat : Nat) : Int) = v := by omega
  unfold fstAt
  rw [ev, if_pos hv]
  have hi := List.idxOf_lt_length_iff.2 hv
  refine ⟨hi, ?_⟩
  rw [getAt hi]
  exact List.getElem_idxOf hi
theorem minimal_ev {m : Nat} {rows : List (List Int)} (n1 : 1 ≤ rows.length) (hn : rows.length ≤ 20000) (hm : m ≤ 10000) (hlen : ∀ i, i < rows.length → (rows.getD i []).length = m) (hR : inR rows) {out : List Int} (hol : out.length = rows.length) (hou : ∀ x ∈ out, 0 ≤ x ∧ x < 65536) {c e F : List Int} (hN : NumL (out.map fun x => [x]) c) (H : Run rows c e) (hF : Bfs (clM rows e) [e.getD 0 0] 0 F)
    (hsame : ∀ i j, i < rows.length → j < rows.length → e.getD i 0 = e.getD j 0 → out.getD i 0 = out.getD j 0) : Ev (fun k => impl_minimal.f k rows out) (F.map (rowF rows e F), F.map (fun v => out.getD (repOf e v) 0)) := by
  have hw : ∀ i, i < rows.length → (rows.getD i []).length ≤ 10000 := fun i hi => by rw [hlen i hi]; exact hm
  have hS := H.still
  have he : e.length = rows.length := by rw [hS.1, keysL_len]
  obtain ⟨r1, r2, r3⟩ := numL_range hS
  have hcl := cntL_le (keysL rows e)
  rw [keysL_len] at hcl
  obtain ⟨M, hM⟩ : ∃ M, M = cntL (keysL rows e) := ⟨_, rfl⟩
  rw [← hM] at r1 r2 r3 hcl
  have hpos : 1 ≤ M := by rw [hM]; exact cntL_pos (by rw [keysL_len]; omega)
  have hmem : ∀ i, i < rows.length → e.getD i 0 ∈ e := fun i hi => by rw [getAt (by omega)]; exact List.getElem_mem _
  have e00 : e.getD 0 0 = 0 := hS.2.zero (by rw [keysL_len]; omega)
  have hmg : ∀ v ∈ e, (mgOf rows e).getD v.toNat [] = clM rows e v := fun v hv => by
    have hv2 := r1 v hv
    obtain ⟨f1, f2⟩ := fstAt_spec hv hv2.1
    have q := clM_of hS (i := fstAt e v.toNat) (by omega)
    rw [f2] at q
    rw [q]
    unfold mgOf
    rw [List.getD_eq_getElem?_getD, List.getElem?_map, List.getElem?_range (by omega)]
    rfl
  have hcr : ∀ v ∈ e, ∀ x ∈ clM rows e v, x ∈ e := fun v hv x hx => by
    have hv2 := r1 v hv
    obtain ⟨f1, f2⟩ := fstAt_spec hv hv2.1
    have q := clM_of hS (i := fstAt e v.toNat) (by omega)
    rw [f2] at q
    rw [q] at hx
    obtain ⟨y, hy, rfl⟩ := List.mem_map.1 hx
    have := hR _ (by omega) y hy
    exact hmem _ (by omega)
  have hFe : ∀ v ∈ F, v ∈ e := Bfs.in (P := fun v => v ∈ e) hcr hF (fun x hx => by
    rw [List.mem_singleton] at hx
    rw [hx]
    exact hmem 0 (by omega))
  have hFn : F.Nodup := hF.nodup (by simp)
  have hFr : ∀ v ∈ F, 0 ≤ v ∧ v < (M : Int) := fun v hv => r1 v (hFe v hv)
  have hFl := nodup_len M F hFn hFr
  have hB : Bfs (fun v => (mgOf rows e).getD v.toNat []) [0] 0 F := by
    have := hF.congr (M' := fun v => (mgOf rows e).getD v.toNat []) (fun v hv => (hmg v (hFe v hv)).symm)
    rwa [e00] at this
  have hml : (mgOf rows e).length = M := by simp [mgOf, r3]
  have hmget : ∀ i, i < M → (mgOf rows e).getD i [] = clM rows e (i : Int) := fun i hi => by
    have := hmg (i : Int) (r2 i hi)
    rwa [Int.toNat_natCast] at this
  have hmR : inR (mgOf rows e) := fun i hi x hx => by
    rw [hml] at hi ⊢
    rw [hmget i hi] at hx
    exact r1 x (hcr _ (r2 i hi) x hx)
  have hclen : ∀ v ∈ e, (clM rows e v).length = m := fun v hv => by
    have hv2 := r1 v hv
    obtain ⟨f1, f2⟩ := fstAt_spec hv hv2.1
    have q := clM_of hS (i := fstAt e v.toNat) (by omega)
    rw [f2] at q
    rw [q, List.length_map, hlen _ (by omega)]
  have hmw : ∀ i, i < (mgOf rows e).length → ((mgOf rows e).getD i []).length ≤ 10000 := fun i hi => by
    rw [hml] at hi
    rw [hmget i hi, hclen _ (r2 i hi)]
    exact hm
  obtain ⟨G, hG, hE⟩ := reached_ev (rows := mgOf rows e) (by omega) (by omega) hmR hmw
  obtain rfl : F = G := hB.uniq hG
  unfold impl_minimal.f
  refine Ev.bind (classes_ev hn hR hw hol hou hN H) ?_
  have hrow : rowsIn rows.length rows = true := by
    unfold rowsIn
    refine List.all_eq_true.2 fun x hx => ?_
    obtain ⟨i, hi, rfl⟩ := List.getElem_of_mem hx
    have h1 := hw i hi
    have h2 := hR i hi
    rw [rowAt hi] at h1 h2
    simp only [Bool.and_eq_true, decide_eq_true_eq, List.all_eq_true]
    exact ⟨by omega, h2⟩
  have hrow2 : rowsIn (dcount e) (mgOf rows e) = true := by
    unfold rowsIn
    refine List.all_eq_true.2 fun x hx => ?_
    obtain ⟨i, hi, rfl⟩ := List.getElem_of_mem hx
    have h1 := hmw i hi
    have h2 := hmR i hi
    rw [rowAt hi] at h1 h2
    rw [hml] at h2
    simp only [Bool.and_eq_true, decide_eq_true_eq, List.all_eq_true]
    rw [r3]
    exact ⟨by omega, h2⟩
  have hall : e.all (fun x => decide (0 ≤ x ∧ x < 1000000)) = true := by
    refine List.all_eq_true.2 fun x hx => decide_eq_true ?_
    have := r1 x hx
    omega
  simp only [if_pos (show rows.length ≤ 1000000 ∧ e.length = rows.length ∧ out.length = rows.length ∧ rowsIn rows.length rows = true ∧ (e.all fun x => decide (0 ≤ x ∧ x < 1000000)) = true from ⟨by omega, he, hol, hrow, hall⟩)]
  refine Ev.bind hE ?_
  have hall2 : F.all (fun x => decide (0 ≤ x ∧ x < ((dcount e : Nat) : Int))) = true := by
    refine List.all_eq_true.2 fun x hx => decide_eq_true ?_
    rw [r3]
    exact hFr x hx
  simp only [if_pos (show F.length ≤ 1000000 ∧ (F.all fun x => decide (0 ≤ x ∧ x < ((dcount e : Nat) : Int))) = true ∧ rowsIn (dcount e) (mgOf rows e) = true from ⟨by omega, hall2, hrow2⟩)]
  refine Ev.eq (Ev.now _) ?_
  rw [r3]
  have a1 : ∀ v ∈ F, clRow (namesTo F M F.length) ((mgOf rows e).getD v.toNat []) = rowF rows e F v := fun v hv => by
    rw [hmg v (hFe v hv)]
    unfold clRow rowF
    refine List.map_congr_left fun x hx => ?_
    have hxF : x ∈ F := by
      obtain ⟨j, hj, rfl⟩ := List.getElem_of_mem hv
      exact hF.closed j hj (by omega) x hx
    exact namesTo_idx hFn hFr hxF
  have a2 : ∀ v ∈ F, (tmOf out e).getD v.toNat 0 = out.getD (repOf e v) 0 := fun v hv => by
    have hv1 := hFe v hv
    have hv2 := r1 v hv1
    obtain ⟨f1, f2⟩ := fstAt_spec hv1 hv2.1
    obtain ⟨g1, g2⟩ := repOf_spec (e := e) (v := v) ⟨fstAt e v.toNat, f1, f2⟩
    have : (tmOf out e).getD v.toNat 0 = out.getD (fstAt e v.toNat) 0 := by
      unfold tmOf
      rw [List.getD_eq_getElem?_getD, List.getElem?_map, List.getElem?_range (by omega)]
      rfl
    rw [this]
    exact hsame _ _ (by omega) (by omega) (by rw [f2, g2])
  rw [List.map_congr_left a1, List.map_congr_left a2]
/-! StateClasses -/
section
variable {b : Int} {rows : List (List Int)} {outs : List Int}
theorem sc_l0 (H : SqW b rows outs) {r c0 : List Int} (hN : Ev (fun k => spec_l4Number.f k (outs.map fun x => [x])) c0) (h : Ev (fun k => spec_StateClasses.l1 k c0 0 b rows outs) r) : Ev (fun k => spec_StateClasses.l0 k [] 0 b rows outs) r := by
  have ho := H.ol
  have h16 := H.n16
  have key := downs (P := fun i => Ev (fun k => spec_StateClasses.l0 k ((outs.take i).map fun x => [x]) (i : Int) b rows outs) r) outs.length
    (fun i hi ih => by
      refine Ev.step (fun k => ?_) ih
      rw [spec_StateClasses.l0, if_pos (by omega), if_pos (by omega), if_pos (by rw [List.length_map, List.length_take]; omega), rd_of hi, w64 (by omega) (by omega), List.take_succ_eq_append_getElem hi, List.map_append]
      rfl)
    (by
      refine Ev.step (f := fun k => (spec_l4Number.f k (outs.map fun x => [x])).bind fun t => spec_StateClasses.l1 k t 0 b rows outs) (fun k => ?_) (Ev.bind hN h)
      rw [spec_StateClasses.l0, if_neg (by omega), List.take_length])
  exact key 0 (by omega)
theorem sc_l3 (H : SqW b rows outs) {cls : List Int} (hc : cls.length = rows.length) (m : Int) (x3 : List (List Int)) (h3 : x3.length ≤ 20000) (i : Nat) (hi : i < rows.length) {r : List Int}
    (h : Ev (fun k => spec_StateClasses.l2 k (x3 ++ [keyOf rows cls i]) cls m ((i + 1 : Nat) : Int) b rows outs) r) : Ev (fun k => spec_StateClasses.l3 k x3 cls m (i : Int) [rd cls (i : Int)] 0 b rows outs) r := by
  have h16 := H.n16
  have hlen := H.len i hi
  have h4 := H.b4
  have key := downs (P := fun c => Ev (fun k => spec_StateClasses.l3 k x3 cls m (i : Int) (cls.getD i 0 :: (((rows.getD i []).take c).map (fun qq => cls.getD qq.toNat 0))) (c : Int) b rows outs) r) (rows.getD i []).length
    (fun c hcl ih => by
      refine Ev.step (fun k => ?_) ih
      have hx := H.inR i hi (rows.getD i [])[c] (List.getElem_mem hcl)
      have e1 : rd (rows.getD i []) (c : Int) = (rows.getD i [])[c] := rd_of hcl
      rw [spec_StateClasses.l3, if_pos (by omega), if_pos (by omega), if_pos (by omega), if_pos (by omega), rowAt' hi, if_pos (by omega), e1, if_pos (by omega), if_pos (by omega), if_pos (by simp; omega), w64 (by omega) (by omega)]
      rw [List.take_succ_eq_append_getElem hcl, List.map_append]
      rfl)
    (by
      refine Ev.step (fun k => ?_) h
      rw [spec_StateClasses.l3, if_neg (by omega), if_pos (by omega), w64 (by omega) (by omega), List.take_length]
      rfl)
  exact key 0 (by omega)
theorem sc_l2 (H : SqW b rows outs) {cls : List Int} (hc : cls.length = rows.length) (m : Nat) (hm : m < rows.length) {r d : List Int} (hN : Ev (fun k => spec_l4Number.f k (keysL rows cls)) d)
    (h : Ev (fun k => spec_StateClasses.l1 k d ((m + 1 : Nat) : Int) b rows outs) r) : Ev (fun k => spec_StateClasses.l1 k cls (m : Int) b rows outs) r := by
  have h16 := H.n16
  have key := downs (P := fun i => Ev (fun k => spec_StateClasses.l2 k ((List.range i).map (keyOf rows cls)) cls (m : Int) (i : Int) b rows outs) r) rows.length
    (fun i hi ih => by
      refine Ev.step (fun k => ?_) (sc_l3 H hc (m : Int) ((List.range i).map (keyOf rows cls)) (by simp; omega) i hi (Ev.congr (fun k => ?_) ih))
      · rw [spec_StateClasses.l2, if_pos (by omega), if_pos (by omega), if_pos (by omega)]
      · rw [List.range_succ, List.map_append]
        rfl)
    (by
      refine Ev.step (f := fun k => (spec_l4Number.f k (keysL rows cls)).bind fun t => spec_StateClasses.l1 k t ((m + 1 : Nat) : Int) b rows outs) (fun k => ?_) (Ev.bind hN h)
      rw [spec_StateClasses.l2, if_neg (by omega), w64 (by omega) (by omega)]
      rfl)
  refine Ev.step (fun k => ?_) (key 0 (by omega))
  rw [spec_StateClasses.l1, if_pos (by omega)]
  rfl
theorem sc_number (H : SqW b rows outs) (c : List Int) : ∃ d, Ev (fun k => spec_l4Number.f k (keysL rows c)) d ∧ NumL (keysL rows c) d := by
  have h16 := H.n16
  refine number_ev (keysL rows c) (by rw [keysL_len]; omega) (fun x hx => ?_)
  obtain ⟨i, hi, rfl⟩ := List.mem_map.1 hx
  have := H.len i (List.mem_range.1 hi)
  have := H.b4
  simp only [keyOf, List.length_cons, List.length_map]
  omega
/-- classes that stand still stay as they are -/
theorem sc_still (H : SqW b rows outs) {c : List Int} (hS : NumL (keysL rows c) c) : ∀ m, m ≤ rows.length → Ev (fun k => spec_StateClasses.l1 k c (m : Int) b rows outs) c := by
  have h16 := H.n16
  have hcl : c.length = rows.length := by rw [hS.1, keysL_len]
  exact downs (P := fun m => Ev (fun k => spec_StateClasses.l1 k c (m : Int) b rows outs) c) rows.length
    (fun m hm ih => by
      obtain ⟨d, hd, hN⟩ := sc_number H c
      have e : d = c := NumL.uniq hN hS rfl (fun i j _ _ => Iff.rfl)
      subst e
      exact sc_l2 H hcl m hm hd ih)
    (by
      refine Ev.step (f := fun _ => some c) (fun k => ?_) (Ev.now _)
      rw [spec_StateClasses.l1, if_neg (by omega)])
theorem sc_rounds (H : SqW b rows outs) : ∀ m, m ≤ rows.length → ∀ (α : Type) [Inhabited α] (a : List α) (c : List Int), a.length = rows.length → NumL a c → m + 1 ≤ cntL a →
    ∃ e, Run rows c e ∧ Ev (fun k => spec_StateClasses.l1 k c (m : Int) b rows outs) e := by
  have key : ∀ d m, m + d = rows.length → ∀ (α : Type) [Inhabited α] (a : List α) (c : List Int), a.length = rows.length → NumL a c → m + 1 ≤ cntL a →
      ∃ e, Run rows c e ∧ Ev (fun k => spec_StateClasses.l1 k c (m : Int) b rows outs) e := by
    intro d
    induction d with
    | zero =>
      intro m hm α _ a c hl hN hcnt
      have := cntL_le a
      omega
    | succ d ih =>
      intro m hm α _ a c hl hN hcnt
      have hkl : (keysL rows c).length = rows.length := keysL_len rows c
      obtain ⟨d', hd', hN'⟩ := sc_number H c
      have hcl : c.length = rows.length := by rw [hN.1, hl]
      by_cases e : d' = c
      · subst e
        exact ⟨d', .stop hN', sc_still H hN' m (by omega)⟩
      · have hlt : cntL a < cntL (keysL rows c) := by
          have h1 := round_le hN hl
          rcases Nat.lt_or_ge (cntL a) (cntL (keysL rows c)) with g | g
          · exact g
          · exact absurd (round_same hN hN' hl (by omega)) e
        obtain ⟨e', hrun, hk⟩ := ih (m + 1) (by omega) (List Int) (keysL rows c) d' hkl hN' (by omega)
        exact ⟨e', .go hN' e hrun, sc_l2 H hcl m (by omega) hd' hk⟩
  intro m hm
  exact key (rows.length - m) m (by omega)
theorem stateClasses_ev (H : SqW b rows outs) : ∃ c0 e, NumL (outs.map fun x => [x]) c0 ∧ Run rows c0 e ∧ Ev (fun k => spec_StateClasses.f k b rows outs) e := by
  have h1 := H.n1
  have h16 := H.n16
  have ho := H.ol
  obtain ⟨c0, hc0, hN0⟩ := number_ev (outs.map fun x => [x]) (by simp; omega) (fun x hx => by
    obtain ⟨y, _, rfl⟩ := List.mem_map.1 hx
    simp)
  obtain ⟨e, hrun, hk⟩ := sc_rounds H 0 (by omega) (List Int) (outs.map fun x => [x]) c0 (by simp [ho]) hN0 (cntL_pos (by simp; omega))
  refine ⟨c0, e, hN0, hrun, ?_⟩
  have hS := specIS_ev b rows outs (by omega) (fun i h => by have := H.row i h; omega) (by omega)
  rw [isSq_true.2 H] at hS
  unfold spec_StateClasses.f
  exact Ev.bind hS (Ev.congr (fun k => if_pos rfl) (sc_l0 H hc0 hk))
end

/-! MinForm -/
noncomputable def outF (e : List Int) (outs : List Int) (v : Int) : Int := outs.getD (repOf e v) 0
section
variable {b : Int} {rows : List (List Int)} {outs : List Int} {e : List Int}
theorem mf_search (hn : rows.length ≤ 20000) (he : e.length = rows.length) {O : List Int} (hO : ∀ x ∈ O, 0 ≤ x ∧ x < (rows.length : Int)) (hol : O.length ≤ 20000) (i : Int) {row : List Int} (hrl : row.length ≤ 1000000) (c : Nat) (hc : c ≤ 1000000) {q : Int} (q0 : 0 ≤ q) (q1 : q < (rows.length : Int)) (nx : List (List Int)) (ol : List Int) {r : SqR}
    (hin : clO e q ∈ O.map (clO e) → Ev (fun k => spec_MinimalForm.l1 k e O i (row ++ [(((O.map (clO e)).idxOf (clO e q) : Nat) : Int)]) ((c + 1 : Nat) : Int) b rows outs b nx ol) r)
    (hout : clO e q ∉ O.map (clO e) → Ev (fun k => spec_MinimalForm.l1 k e (O ++ [q]) i (row ++ [(O.length : Int)]) ((c + 1 : Nat) : Int) b rows outs b nx ol) r) :
    Ev (fun k => spec_MinimalForm.l2 k e O i row (c : Int) q (-1) 0 b rows outs b nx ol) r := by
  have key := downs (P := fun m => (∀ j (hj : j < O.length), j < m → clO e O[j] ≠ clO e q) → Ev (fun k => spec_MinimalForm.l2 k e O i row (c : Int) q (-1) (m : Int) b rows outs b nx ol) r) O.length
    (fun m hm ih hne => by
      have hx := hO O[m] (List.getElem_mem hm)
      refine Ev.step (f := fun k => spec_MinimalForm.j3 k e O i row (c : Int) q (-1) (m : Int) true b rows outs b nx ol) (fun k => ?_) ?_
      · rw [spec_MinimalForm.l2, if_pos (by omega), decide_eq_true (show (-1 : Int) < 0 by omega)]
      by_cases hq : clO e O[m] = clO e q
      · have hmem : clO e q ∈ O.map (clO e) := List.mem_map.2 ⟨O[m], List.getElem_mem hm, hq⟩
        have hidx : (O.map (clO e)).idxOf (clO e q) = m := idxOf_first (by simpa using hm) (by simpa using hq) (fun j hj => by simpa using hne j (by omega) hj)
        have h := hin hmem
        rw [hidx] at h
        refine Ev.step (f := fun k => spec_MinimalForm.l2 k e O i row (c : Int) q (m : Int) ((m + 1 : Nat) : Int) b rows outs b nx ol) (fun k => ?_) (Ev.step (f := fun k => spec_MinimalForm.j3 k e O i row (c : Int) q (m : Int) ((m + 1 : Nat) : Int) false b rows outs b nx ol) (fun k => ?_) (Ev.step (fun k => ?_) h))
        · rw [spec_MinimalForm.j3, if_pos rfl, if_pos (by omega), if_pos (by omega), rd_of hm, if_pos (by omega), if_pos (by omega), if_pos (by omega), if_pos (by omega), if_pos (show rd e O[m] = rd e q from hq), w64 (by omega) (by omega)]
          rfl
        · rw [spec_MinimalForm.l2]
          by_cases g : ((m + 1 : Nat) : Int) < (O.length : Int)
          · rw [if_pos g, decide_eq_false (by omega)]
          · rw [if_neg g]
        · rw [spec_MinimalForm.j3, if_neg (by decide), if_neg (by omega), if_pos (by omega), w64 (by omega) (by omega)]
          rfl
      · refine Ev.step (fun k => ?_) (ih (fun j hj hj2 => ?_))
        · rw [spec_MinimalForm.j3, if_pos rfl, if_pos (by omega), if_pos (by omega), rd_of hm, if_pos (by omega), if_pos (by omega), if_pos (by omega), if_pos (by omega), if_neg (show ¬ rd e O[m] = rd e q from hq), w64 (by omega) (by omega)]
          rfl
        · by_cases g : j = m
          · subst g; exact hq
          · exact hne j hj (by omega))
    (fun hne => by
      have hnot : clO e q ∉ O.map (clO e) := fun hmem => by
        obtain ⟨y, hy, ey⟩ := List.mem_map.1 hmem
        obtain ⟨j, hj, rfl⟩ := List.getElem_of_mem hy
        exact hne j hj hj ey
      refine Ev.step (f := fun k => spec_MinimalForm.j3 k e O i row (c : Int) q (-1) (O.length : Int) false b rows outs b nx ol) (fun k => ?_) (Ev.step (fun k => ?_) (hout hnot))
      · rw [spec_MinimalForm.l2, if_neg (by omega)]
      · rw [spec_MinimalForm.j3, if_neg (by decide), if_pos (by omega), if_pos (by omega), if_pos (by omega), w64 (by omega) (by omega)]
        rfl)
  exact key 0 (by omega) (fun j hj h => by omega)
theorem mf_row (hn : rows.length ≤ 20000) (hR : inR rows) (he : e.length = rows.length) (hev : ∀ i, i < rows.length → 0 ≤ e.getD i 0 ∧ e.getD i 0 < (rows.length : Int)) (hal : outs.length = rows.length) (hb : ∀ i, i < rows.length → ((rows.getD i []).length : Int) = b) (hw : ∀ i, i < rows.length → (rows.getD i []).length ≤ 10000)
    (i : Nat) (hi : i ≤ 20000) (q : Nat) (hq : q < rows.length) (nx : List (List Int)) (ol : List Int) (hnx : nx.length ≤ 20000) (hac : ol.length ≤ 20000) {r : SqR} :
    ∀ c, c ≤ (rows.getD q []).length → ∀ O row : List Int, OkO rows.length e O → O[i]? = some (q : Int) → row.length = c →
      (∀ O', OkO rows.length e O' → O'[i]? = some (q : Int) → O'.map (clO e) = addAll (O.map (clO e)) (((rows.getD q []).drop c).map (clO e)) → Ev (fun k => spec_MinimalForm.l0 k e O' ((i + 1 : Nat) : Int) b rows outs b (nx ++ [row ++ (((rows.getD q []).drop c).map (clO e)).map (fun x => (((O'.map (clO e)).idxOf x : Nat) : Int))]) (ol ++ [outs.getD q 0])) r) →
      Ev (fun k => spec_MinimalForm.l1 k e O (i : Int) row (c : Int) b rows outs b nx ol) r := by
  have hlenq := hw q hq
  have hbq := hb q hq
  have eo : rd outs (q : Int) = outs.getD q 0 := rfl
  exact downs (P := fun c => ∀ O row : List Int, OkO rows.length e O → O[i]? = some (q : Int) → row.length = c →
      (∀ O', OkO rows.length e O' → O'[i]? = some (q : Int) → O'.map (clO e) = addAll (O.map (clO e)) (((rows.getD q []).drop c).map (clO e)) → Ev (fun k => spec_MinimalForm.l0 k e O' ((i + 1 : Nat) : Int) b rows outs b (nx ++ [row ++ (((rows.getD q []).drop c).map (clO e)).map (fun x => (((O'.map (clO e)).idxOf x : Nat) : Int))]) (ol ++ [outs.getD q 0])) r) →
      Ev (fun k => spec_MinimalForm.l1 k e O (i : Int) row (c : Int) b rows outs b nx ol) r) (rows.getD q []).length
    (fun c hc ih O row hO hOi hrow h => by
      obtain ⟨hil, hiv⟩ := List.getElem?_eq_some_iff.1 hOi
      have hol := hO.len hev
      have hto := hR q hq (rows.getD q [])[c] (List.getElem_mem hc)
      have ro : rd O (i : Int) = (q : Int) := (rd_of hil).trans hiv
      refine Ev.step (f := fun k => spec_MinimalForm.l2 k e O (i : Int) row (c : Int) (rows.getD q [])[c] (-1) 0 b rows outs b nx ol) (fun k => ?_) ?_
      · rw [spec_MinimalForm.l1, if_pos (by omega), if_pos (by omega), if_pos (by omega), ro, if_pos (by omega), if_pos (by omega), if_pos (by omega), rowAt' hq, if_pos (by omega), rd_of hc]
      refine mf_search hn he hO.inr (by omega) (i : Int) (by omega) c (by omega) hto.1 hto.2 nx ol (fun hmem => ?_) (fun hnot => ?_)
      · refine ih O _ hO hOi (by simp [hrow]) (fun O' hO' hOi' hmap => ?_)
        have e1 : addAll (O.map (clO e)) (((rows.getD q []).drop c).map (clO e)) = addAll (O.map (clO e)) (((rows.getD q []).drop (c + 1)).map (clO e)) := by
          rw [drop_at hc, List.map_cons, addAll_cons, addOne, if_pos hmem]
        have h2 := h O' hO' hOi' (hmap.trans e1.symm)
        rw [drop_at hc, List.map_cons, List.map_cons] at h2
        have e2 : (O'.map (clO e)).idxOf (clO e (rows.getD q [])[c]) = (O.map (clO e)).idxOf (clO e (rows.getD q [])[c]) := by
          rw [hmap]; exact idxOf_pre (addAll_pre _ _) hmem
        rw [e2] at h2
        rw [List.append_assoc]
        exact h2
      · have hO2 : OkO rows.length e (O ++ [(rows.getD q [])[c]]) := ⟨fun x hx => by
            rcases List.mem_append.1 hx with g | g
            · exact hO.inr x g
            · rw [List.mem_singleton] at g; rw [g]; exact hto, by
            have := nodup_addOne hO.nod (clO e (rows.getD q [])[c])
            rw [addOne, if_neg hnot] at this
            simpa using this⟩
        refine ih _ _ hO2 (by rw [List.getElem?_append_left hil]; exact hOi) (by simp [hrow]) (fun O' hO' hOi' hmap => ?_)
        have e1 : addAll (O.map (clO e)) (((rows.getD q []).drop c).map (clO e)) = addAll ((O ++ [(rows.getD q [])[c]]).map (clO e)) (((rows.getD q []).drop (c + 1)).map (clO e)) := by
          rw [drop_at hc, List.map_cons, addAll_cons, addOne, if_neg hnot, List.map_append]
          rfl
        have h2 := h O' hO' hOi' (hmap.trans e1.symm)
        rw [drop_at hc, List.map_cons, List.map_cons] at h2
        have e2 : (O'.map (clO e)).idxOf (clO e (rows.getD q [])[c]) = O.length := by
          have hm2 : clO e (rows.getD q [])[c] ∈ (O ++ [(rows.getD q [])[c]]).map (clO e) := by simp
          rw [hmap, idxOf_pre (addAll_pre _ _) hm2, List.map_append]
          have := idxOf_new hnot
          rw [List.length_map] at this
          exact this
        rw [e2] at h2
        rw [List.append_assoc]
        exact h2)
    (fun O row hO hOi hrow h => by
      obtain ⟨hil, hiv⟩ := List.getElem?_eq_some_iff.1 hOi
      have ro : rd O (i : Int) = (q : Int) := (rd_of hil).trans hiv
      have h2 := h O hO hOi (by rw [List.drop_length]; rfl)
      rw [List.drop_length, List.map_nil, List.map_nil, List.append_nil] at h2
      refine Ev.step (fun k => ?_) h2
      rw [spec_MinimalForm.l1, if_neg (by omega), if_pos (by omega), if_pos (by omega), if_pos (by omega), ro, if_pos (by omega), if_pos (by omega), if_pos (by omega), eo, w64 (by omega) (by omega)]
      rfl)
theorem mf_bfs (hn : rows.length ≤ 20000) (hR : inR rows) (hS : NumL (keysL rows e) e) (hal : outs.length = rows.length) (hb : ∀ i, i < rows.length → ((rows.getD i []).length : Int) = b) (hw : ∀ i, i < rows.length → (rows.getD i []).length ≤ 10000)
    (hacc : ∀ i j, i < rows.length → j < rows.length → e.getD i 0 = e.getD j 0 → outs.getD i 0 = outs.getD j 0) {L F : List Int} {i : Nat} (H : Bfs (clM rows e) L i F) :
    ∀ O nx ol, O.map (clO e) = L → OkO rows.length e O → nx.length = i → ol.length = i → Ev (fun k => spec_MinimalForm.l0 k e O (i : Int) b rows outs b nx ol) (b, nx ++ (F.drop i).map (rowF rows e F), ol ++ (F.drop i).map (outF e outs), true) := by
  have he : e.length = rows.length := by rw [hS.1, keysL_len]
  have hev : ∀ i, i < rows.length → 0 ≤ e.getD i 0 ∧ e.getD i 0 < (rows.length : Int) := fun i hi => by
    have h1 := hS.2.lt (show i < (keysL rows e).length by rw [keysL_len]; exact hi)
    have h2 := cntN_le (fun i => (keysL rows e).getD i default) (keysL rows e).length
    rw [keysL_len] at h1 h2
    omega
  induction H with
  | @done L k hk =>
    intro O nx ol hm hO h1 h2
    have hlO : O.length = L.length := by rw [← hm, List.length_map]
    refine Ev.step (f := fun _ => some _) (fun k => ?_) (Ev.eq (Ev.now _) (show (b, nx, ol, true) = _ from by rw [List.drop_of_length_le hk, List.map_nil, List.map_nil, List.append_nil, List.append_nil]))
    rw [spec_MinimalForm.l0, if_neg (by omega)]
  | @step L F k hk H ih =>
    intro O nx ol hm hO h1 h2
    have hlO : O.length = L.length := by rw [← hm, List.length_map]
    have hol := hO.len hev
    have hq := hO.inr (O[k]'(by omega)) (List.getElem_mem (by omega))
    obtain ⟨q, hq0⟩ : ∃ q : Nat, O[k]'(by omega) = (q : Int) := ⟨(O[k]'(by omega)).toNat, by omega⟩
    have hql : q < rows.length := by omega
    have hLk : L[k] = clO e (q : Int) := by
      have : L[k] = (O.map (clO e))[k]'(by simp; omega) := by simp only [hm]
      rw [this, List.getElem_map, hq0]
    have hM : clM rows e L[k] = (rows.getD q []).map (clO e) := by
      rw [hLk]
      exact clM_of hS hql
    refine Ev.step (fun k' => ?_) (mf_row (b := b) hn hR he hev hal hb hw k (by omega) q hql nx ol (by omega) (by omega) 0 (by omega) O [] hO (by rw [List.getElem?_eq_getElem (by omega), hq0]) rfl (fun O' hO' hOi' hmap => ?_))
    · rw [spec_MinimalForm.l0, if_pos (by omega)]
      rfl
    · rw [List.drop_zero] at hmap ⊢
      rw [hm, ← hM] at hmap
      have hpre : O'.map (clO e) <+: F := hmap ▸ H.pre
      have h3 := ih O' (nx ++ [[] ++ ((rows.getD q []).map (clO e)).map (fun x => (((O'.map (clO e)).idxOf x : Nat) : Int))]) (ol ++ [outs.getD q 0]) hmap hO' (by simp [h1]) (by simp [h2])
      refine Ev.eq h3 ?_
      have hkF : k < F.length := by
        have := (addAll_pre (clM rows e L[k]) L).trans H.pre
        obtain ⟨hf, _⟩ := pre_get this hk
        exact hf
      have hFk : F[k] = L[k] := (pre_get ((addAll_pre (clM rows e L[k]) L).trans H.pre) hk).2
      rw [drop_at hkF, List.map_cons, List.map_cons, hFk]
      have e1 : ((rows.getD q []).map (clO e)).map (fun x => (((O'.map (clO e)).idxOf x : Nat) : Int)) = rowF rows e F L[k] := by
        unfold rowF
        rw [hM]
        refine List.map_congr_left fun x hx => ?_
        have hx2 : x ∈ O'.map (clO e) := by
          rw [hmap, hM]
          exact mem_addAll.2 (Or.inr hx)
        rw [idxOf_pre hpre hx2]
      have e2 : outs.getD q 0 = outF e outs L[k] := by
        unfold outF
        obtain ⟨a1, a2⟩ := repOf_spec (e := e) (v := L[k]) ⟨q, by omega, by rw [hLk]; rfl⟩
        refine hacc q _ hql (by omega) ?_
        rw [a2, hLk]
        rfl
      rw [List.nil_append, e1, e2, List.append_assoc, List.append_assoc]
      rfl
end
structure SqS (r : SqR) : Prop where
  n : r.2.1.length ≤ 16
  row : ∀ x ∈ r.2.1, x.length ≤ 4
  ol : r.2.2.1.length = r.2.1.length
theorem minForm_both (b : Int) (rows : List (List Int)) (outs : List Int) (hl : rows.length ≤ 1048576) (hr : ∀ i (h : i < rows.length), rows[i].length ≤ 1048576) (ho : outs.length ≤ 1048576) :
    ∃ r : SqR, SqS r ∧ Ev (fun k => spec_MinimalForm.f k b rows outs) r ∧ Ev (fun k => impl_MinimalForm.f k b rows outs) r := by
  unfold spec_MinimalForm.f impl_MinimalForm.f
  rcases steady_both b rows outs hl hr ho with ⟨h1, h2⟩ | ⟨rows', outs', H, h1, h2⟩
  · refine ⟨(0, [], [], false), ⟨by simp, fun x hx => by simp at hx, rfl⟩, Ev.bind h1 ?_, Ev.bind h2 ?_⟩
    · exact Ev.congr (fun k => if_neg (by decide)) (Ev.now _)
    · exact Ev.congr (fun k => if_neg (by decide)) (Ev.now _)
  · clear hl hr ho
    have n1 := H.n1
    have n16 := H.n16
    have hol := H.ol
    have b2 := H.b2
    have b4 := H.b4
    have hR := H.inR
    obtain ⟨c0, e, hN, hrun, hE⟩ := stateClasses_ev H
    have hS := hrun.still
    have he : e.length = rows'.length := by rw [hS.1, keysL_len]
    have hw : ∀ i, i < rows'.length → (rows'.getD i []).length ≤ 10000 := fun i hi => by have := H.len i hi; omega
    have hkl : (outs'.map fun x => [x]).length = rows'.length := by rw [List.length_map, hol]
    have hacc : ∀ i j, i < rows'.length → j < rows'.length → e.getD i 0 = e.getD j 0 → outs'.getD i 0 = outs'.getD j 0 := fun i j hi hj q => by
      have h1 := hN.2.inj (by omega) (by omega) (hrun.finer i j hi hj q)
      have g : ∀ i, i < rows'.length → (outs'.map fun x => [x]).getD i default = [outs'.getD i 0] := fun i hi => by
        simp [List.getD_eq_getElem?_getD, show i < outs'.length by omega]
      rw [g i hi, g j hj] at h1
      exact (List.cons.inj h1).1
    obtain ⟨F, hF⟩ := Bfs.exist (clM rows' e) rows'.length (fun v _ x hx => clM_range hR hrun v x hx) [e.getD 0 0] 0 (by simp) (fun x hx => by
      rw [List.mem_singleton] at hx
      rw [hx]
      exact run_range hrun (by omega))
    have hFn : F.Nodup := hF.nodup (by simp)
    have hFr : ∀ v ∈ F, 0 ≤ v ∧ v < (rows'.length : Int) := Bfs.in (P := fun v => 0 ≤ v ∧ v < (rows'.length : Int)) (fun v _ x hx => clM_range hR hrun v x hx) hF (fun x hx => by
      rw [List.mem_singleton] at hx
      rw [hx]
      exact run_range hrun (by omega))
    have hFl := nodup_len rows'.length F hFn hFr
    have h0 := mf_bfs (b := b) (outs := outs') (by omega) hR hS hol H.len hw hacc hF [0] [] [] rfl ⟨fun x hx => by
      rw [List.mem_singleton] at hx
      omega, by simp⟩ rfl rfl
    have hm := minimal_ev (m := b.toNat) n1 (by omega) (by omega) (fun i hi => by have := H.len i hi; omega) hR hol (fun x hx => by have := H.out x hx; omega) hN hrun hF hacc
    refine ⟨(b, F.map (rowF rows' e F), F.map (outF e outs'), true), ⟨by show (F.map _).length ≤ 16; rw [List.length_map]; omega, fun x hx => ?_, by show (F.map _).length = (F.map _).length; rw [List.length_map, List.length_map]⟩, Ev.bind h1 (Ev.congr (fun k => if_pos rfl) (Ev.bind hE (Ev.eq h0 ?_))), Ev.bind h2 (Ev.congr (fun k => if_pos rfl) (Ev.bind hm (Ev.now _)))⟩
    · have hx : x ∈ F.map (rowF rows' e F) := hx
      obtain ⟨v, _, rfl⟩ := List.mem_map.1 hx
      unfold rowF clM
      rw [List.length_map, List.length_map]
      by_cases hq : repOf e v < rows'.length
      · have := H.len _ hq; omega
      · rw [List.getD_eq_getElem?_getD, List.getElem?_eq_none (by omega)]; simp
    · rw [List.drop_zero]; rfl

/-! Reduced -/
abbrev RelR := Int × Int × (List (List Int)) × List Bool × Bool
structure SmallR (r : RelR) : Prop where
  n : r.2.2.1.length ≤ 1048576
  row : ∀ x ∈ r.2.2.1, x.length ≤ 1048576
  acc : r.2.2.2.1.length ≤ 1048576
theorem SmallR.none : SmallR (0, 0, [], [], false) := ⟨by simp, fun x hx => by simp at hx, by simp⟩
theorem RelG.small {m : Nat} {rows : List (List Int)} {acc : List Bool} (H : RelG m rows acc) (b t : Int) (o : Bool) : SmallR (b, t, rows, acc, o) := by
  refine ⟨by have := H.nN; show rows.length ≤ _; omega, fun x hx => ?_, by have := H.nN; have := H.al; show acc.length ≤ _; omega⟩
  obtain ⟨i, hi, rfl⟩ := List.getElem_of_mem hx
  have h1 := H.len i hi
  rw [rowAt hi] at h1
  have := H.mm
  omega

/-! TermRel -/
theorem isSB_eq (b : Int) : impl_isSmallBase.f b = some (decide (2 ≤ b ∧ b ≤ 3)) := by
  unfold impl_isSmallBase.f
  by_cases h : b = 2
  · rw [if_pos h, decide_eq_true (show 2 ≤ b ∧ b ≤ 3 by omega)]
  · rw [if_neg h]
    congr 1
    rw [Bool.eq_iff_iff]
    simp only [beq_iff_eq, decide_eq_true_eq]
    omega
theorem isTm_eq (v : Int) : impl_isTerm.f v = some (decide (0 ≤ v ∧ v ≤ 3)) := by
  unfold impl_isTerm.f
  by_cases h : v ≥ 0
  · rw [if_pos h]
    congr 1
    rw [Bool.eq_iff_iff]
    simp only [decide_eq_true_eq]
    omega
  · rw [if_neg h, decide_eq_false (show ¬ (0 ≤ v ∧ v ≤ 3) by omega)]
theorem termRel_both (b : Int) (rows : List (List Int)) (outs : List Int) (v : Int) (hl : rows.length ≤ 1048576) (hr : ∀ i (h : i < rows.length), rows[i].length ≤ 1048576) (ho : outs.length ≤ 1048576) :
    ∃ R : RelR, SmallR R ∧ Ev (fun k => spec_TermRelation.f k b rows outs v) R ∧ Ev (fun k => impl_TermRelation.f k b rows outs v) R := by
  obtain ⟨⟨b', rows', outs', o⟩, hs, h1, h2⟩ := minForm_both b rows outs hl hr ho
  have n16 : rows'.length ≤ 16 := hs.n
  have hrow : ∀ x ∈ rows', x.length ≤ 4 := hs.row
  have hol : outs'.length = rows'.length := hs.ol
  unfold spec_TermRelation.f impl_TermRelation.f
  cases o with
  | false =>
    refine ⟨_, SmallR.none, Ev.bind h1 ?_, Ev.bind h2 ?_⟩
    · exact Ev.congr (fun k => if_neg (by simp)) (Ev.now _)
    · exact Ev.congr (fun k => if_neg (by simp)) (Ev.now _)
  | true =>
    by_cases hb : 2 ≤ b ∧ b ≤ 3
    · by_cases hv : 0 ≤ v ∧ v ≤ 3
      · refine ⟨(b', 1, rows', outs'.map (fun x => decide (x = v)), true), ⟨by show rows'.length ≤ _; omega, fun x hx => by have := hrow x hx; omega, by show (outs'.map _).length ≤ _; rw [List.length_map]; omega⟩, Ev.bind h1 ?_, Ev.bind h2 ?_⟩
        · simp only [l1In_eq, Option.bind_some, decide_eq_true hb, decide_eq_true hv, if_true]
          have key := downs (P := fun i => Ev (fun k => spec_TermRelation.l0 k v b' rows' outs' (i : Int) b' (rows'.take i) ((outs'.take i).map (fun x => decide (x = v)))) (b', 1, rows', outs'.map (fun x => decide (x = v)), true)) rows'.length
            (fun i hi ih => by
              refine Ev.step (fun k => ?_) ih
              have hx := hrow _ (List.getElem_mem hi)
              rw [spec_TermRelation.l0, if_pos (by omega), if_pos (by omega), rdR_of hi, if_pos (by simp only [List.length_nil]; omega), if_pos (by rw [List.length_take]; omega), if_pos (by omega), if_pos (by rw [List.length_map, List.length_take]; omega), rd_of (show i < outs'.length by omega), w64 (by omega) (by omega), List.take_succ_eq_append_getElem hi, List.take_succ_eq_append_getElem (show i < outs'.length by omega), List.map_append]
              rfl)
            (by
              refine Ev.step (f := fun _ => some _) (fun k => ?_) (Ev.now _)
              rw [spec_TermRelation.l0, if_neg (by omega), List.take_length, ← hol, List.take_length])
          exact key 0 (by omega)
        · simp only [isSB_eq, isTm_eq, Option.bind_some, decide_eq_true hb, decide_eq_true hv, if_true]
          have key := downs (P := fun i => Ev (fun k => impl_TermRelation.l0 k v b' rows' outs' (outs'.length : Int) (i : Int) ((outs'.take i).map (fun x => decide (x = v)))) (b', 1, rows', outs'.map (fun x => decide (x = v)), true)) outs'.length
            (fun i hi ih => by
              refine Ev.step (fun k => ?_) ih
              rw [impl_TermRelation.l0, if_pos (by omega), if_pos (by omega), if_pos (by omega), if_pos (by rw [List.length_map, List.length_take]; omega), rd_of hi, w64 (by omega) (by omega), List.take_succ_eq_append_getElem hi, List.map_append]
              rfl)
            (by
              refine Ev.step (f := fun _ => some _) (fun k => ?_) (Ev.now _)
              rw [impl_TermRelation.l0, if_neg (by omega), List.take_length])
          exact key 0 (by omega)
      · refine ⟨_, SmallR.none, Ev.bind h1 ?_, Ev.bind h2 ?_⟩
        · simp only [l1In_eq, Option.bind_some, decide_eq_true hb, decide_eq_false hv, Bool.false_eq_true, if_false, if_true]
          exact Ev.now _
        · simp only [isSB_eq, isTm_eq, Option.bind_some, decide_eq_true hb, decide_eq_false hv, Bool.false_eq_true, if_false, if_true]
          exact Ev.now _
    · refine ⟨_, SmallR.none, Ev.bind h1 ?_, Ev.bind h2 ?_⟩
      · simp only [l1In_eq, Option.bind_some, decide_eq_false hb, Bool.false_eq_true, if_false, if_true]
        exact Ev.now _
      · simp only [isSB_eq, Option.bind_some, decide_eq_false hb, Bool.false_eq_true, if_false, if_true]
        exact Ev.now _

/-! law_FnExactTermRelation -/
theorem FnExactTermRelation (a0 : Int) (l1 : List (List Int)) (l2 : List Int) (v : Int) (w0 : -9223372036854775808 ≤ a0 ∧ a0 ≤ 9223372036854775807) (w1 : wfl (wfl wfi) l1) (w2 : wfl wfi l2) (w3 : -9223372036854775808 ≤ v ∧ v ≤ 9223372036854775807) : ∃ k, laws_FnExactTermRelation.f k a0 l1 l2 v = some true := by
  refine Ev.rounds ?_
  unfold laws_FnExactTermRelation.f
  obtain ⟨r, e, hle, hk⟩ := szSequence_ev a0 l1 l2 w1.1 (fun x hx => (w1.2 x hx).1) w2.1
  refine Ev.bind e ?_
  by_cases hr : r < 0
  · simp only [if_pos hr]
    exact Ev.now _
  simp only [if_neg hr]
  obtain ⟨k1, k2, k3⟩ := hk (by omega)
  obtain ⟨⟨b, t, rows, acc, o⟩, hsm, hs, hi⟩ := termRel_both a0 l1 l2 v k1 (fun i h => k2 _ (List.getElem_mem h)) k3
  have t0 := toSequence_ev a0 l1 l2 k1 k2 k3
  have ht := totL_small k1 k2 l1.length
  rw [List.take_length] at ht
  have h1 : ¬ (1 + (totL l1 : Int) + (l2.length : Int) < 0) := by omega
  have h2 : ¬ (1 + (totL rows : Int) + (acc.length : Int) < 0) := by omega
  refine Ev.bind t0 (Ev.bind hs (Ev.bind hi (Ev.bind (eqRelation_self b t rows acc hsm.n hsm.row hsm.acc) ?_)))
  refine Ev.congr (fun k => if_pos rfl) (Ev.congr (fun k => if_pos rfl) (Ev.bind (eqSequence_self a0 l1 l2 k1 k2 k3) (Ev.congr (fun k => if_pos rfl) ?_)))
  refine Ev.bind (markSequence_ev l1 l2 k1 k2 k3) (Ev.congr (fun k => if_pos h1) (Ev.congr (fun k => if_pos rfl) (Ev.congr (fun k => if_pos rfl) ?_)))
  refine Ev.bind (markRelation_ev rows acc hsm.n hsm.row hsm.acc) (Ev.bind (heldRelation_ev b t rows acc hsm.n hsm.row hsm.acc) (Ev.congr (fun k => if_pos h2) (Ev.congr (fun k => if_pos rfl) ?_)))
  exact Ev.congr (fun k => if_pos rfl) (Ev.congr (fun k => if_pos rfl) (Ev.congr (fun k => if_pos h2) (Ev.congr (fun k => if_pos rfl) (Ev.now _))))

end Go.Proofs.Ytefelghmmpmigaa.Pure
