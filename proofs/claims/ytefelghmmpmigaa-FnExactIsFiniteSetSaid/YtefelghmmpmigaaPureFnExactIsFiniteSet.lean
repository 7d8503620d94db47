/- The pure law FnExactIsFiniteSet: what the printed functions of the program and of the reference compute agrees, for all arguments. -/
import Derived.Test.YtefelghmmpmigaaF
import Derived.Test.YtefelghmmpmigaaF1
import Derived.Test.YtefelghmmpmigaaF8
import Derived.Test.YtefelghmmpmigaaQ0
import Derived.Test.YtefelghmmpmigaaQ74
import Derived.Test.YtefelghmmpmigaaMRow
namespace Go.Proofs.Ytefelghmmpmigaa.Pure
open Go.RowKit Go.Proofs.Ytefelghmmpmigaa.Q Go.Proofs.Ytefelghmmpmigaa.MRow Go.Proofs.YtefelghmmpmigaaW.PrintWords Go.Proofs.YtefelghmmpmigaaW.PrintLast
set_option linter.unusedVariables false
set_option linter.unusedSimpArgs false

/-! base -/
theorem w64 {x : Int} (h0 : -9223372036854775808 ≤ x) (h1 : x < 9223372036854775808) : wrap64 x = x := by
  unfold wrap64; omega

theorem rd_of {xs : List Int} {i : Nat} (h : i < xs.length) : rd xs (i : Int) = xs[i] := by
  simp [rd, List.getD_eq_getElem?_getD, h]
theorem getD_of {α : Type} {xs : List α} {d : α} {i : Nat} (h : i < xs.length) : xs.getD ((i : Int)).toNat d = xs[i] := by
  simp [List.getD_eq_getElem?_getD, h]
/-- From the end of a range down. -/
theorem downs {P : Nat → Prop} (n : Nat) (step : ∀ i, i < n → P (i + 1) → P i) (done : P n) : ∀ i, i ≤ n → P i := by
  have key : ∀ d i, i + d = n → P i := by
    intro d
    induction d with
    | zero => intro i hi; rw [show i = n by omega]; exact done
    | succ d ih => intro i hi; exact step i (by omega) (ih (i + 1) (by omega))
  intro i hi
  exact key (n - i) i (by omega)
theorem drop_at {α : Type} {l : List α} {i : Nat} (h : i < l.length) : l.drop i = l[i] :: l.drop (i + 1) := List.drop_eq_getElem_cons h
theorem Ev.eq {α : Type} {g : Nat → Option α} {r r' : α} (h : Ev g r) (e : r = r') : Ev g r' := e ▸ h
/-- A list that is filled from its begin. -/
theorem fill_set {α : Type} (xs : List α) (z y : α) (i d : Nat) (h : i < xs.length) (hd : i + (d + 1) = xs.length) (hy : y = xs[i]) :
    (xs.take i ++ List.replicate (d + 1) z).set i y = xs.take (i + 1) ++ List.replicate d z := by
  subst hy
  rw [List.set_append_right _ _ (by simp; omega)]
  have hl : (xs.take i).length = i := by simp; omega
  rw [hl, Nat.sub_self, List.replicate_succ, List.set_cons_zero, List.take_succ_eq_append_getElem h, List.append_assoc]
  rfl

/-! laws_toIntS -/
theorem toIntS_l0 (x0 : List Int) (hb : x0.length ≤ 1048576) (d : Nat) : ∀ (i : Nat), i + d = x0.length →
    Ev (fun k => laws_toIntS.l0 k x0 (x0.take i ++ List.replicate d 0) i) x0 := by
  induction d with
  | zero =>
    intro i hi
    refine Ev.step (f := fun _ => some x0) (fun k => ?_) (Ev.now _)
    rw [laws_toIntS.l0, if_neg (by omega)]
    simp [List.take_of_length_le (show x0.length ≤ i by omega)]
  | succ d ih =>
    intro i hi
    refine Ev.step (fun k => ?_) (ih (i + 1) (by omega))
    rw [laws_toIntS.l0, if_pos (by omega), if_pos (by omega), if_pos (by simp; omega), w64 (by omega) (by omega)]
    congr 1
    rw [rd_of (show i < x0.length by omega), Int.toNat_natCast]
    apply List.ext_getElem
    · simp; omega
    · intro j h1 h2
      simp [List.getElem_set, List.getElem_append, List.getElem_take] at *
      split <;> split <;> try split
      all_goals first | rfl | omega | (subst_vars; rfl)

theorem toIntS_ev (x0 : List Int) (hb : x0.length ≤ 1048576) : Ev (fun k => laws_toIntS.f k x0) x0 := by
  have h := toIntS_l0 x0 hb x0.length 0 (by omega)
  refine Ev.congr (fun k => ?_) h
  unfold laws_toIntS.f
  rw [if_pos (by omega), if_pos (by omega)]
  simp

/-! laws_eqIntS -/
theorem eqIntS_l0 (x0 x1 : List Int) (hb : x0.length ≤ 1048576) (hl : x0.length = x1.length) (d : Nat) : ∀ (i : Nat), i + d = x0.length →
    Ev (fun k => laws_eqIntS.l0 k x0 x1 i) (decide (x0.drop i = x1.drop i)) := by
  induction d with
  | zero =>
    intro i hi
    refine Ev.step (f := fun _ => some true) (fun k => ?_) ?_
    · rw [laws_eqIntS.l0, if_neg (by omega)]
    · rw [List.drop_of_length_le (by omega), List.drop_of_length_le (by omega)]
      exact Ev.now _
  | succ d ih =>
    intro i hi
    have e0 : x0.drop i = x0[i]'(by omega) :: x0.drop (i + 1) := List.drop_eq_getElem_cons (by omega)
    have e1 : x1.drop i = x1[i]'(by omega) :: x1.drop (i + 1) := List.drop_eq_getElem_cons (by omega)
    by_cases h : x0[i]'(by omega) = x1[i]'(by omega)
    · rw [e0, e1, h]
      simp only [List.cons.injEq, true_and]
      refine Ev.step (fun k => ?_) (ih (i + 1) (by omega))
      rw [laws_eqIntS.l0, if_pos (by omega), if_pos (by omega), if_pos (by omega), rd_of (show i < x0.length by omega), rd_of (show i < x1.length by omega), if_pos h, w64 (by omega) (by omega)]
      rfl
    · rw [e0, e1]
      simp only [List.cons.injEq, h, false_and]
      refine Ev.step (f := fun _ => some false) (fun k => ?_) (Ev.now _)
      rw [laws_eqIntS.l0, if_pos (by omega), if_pos (by omega), if_pos (by omega), rd_of (show i < x0.length by omega), rd_of (show i < x1.length by omega), if_neg h]

theorem eqIntS_ev (x0 x1 : List Int) (hb : x0.length ≤ 1048576) : Ev (fun k => laws_eqIntS.f k x0 x1) (decide (x0 = x1)) := by
  by_cases hl : x0.length = x1.length
  · refine Ev.congr (fun k => ?_) (eqIntS_l0 x0 x1 hb hl x0.length 0 (by omega))
    unfold laws_eqIntS.f
    rw [if_pos (by omega)]
    rfl
  · rw [decide_eq_false (by intro h; exact hl (by rw [h]))]
    refine Ev.congr (fun k => ?_) (Ev.now _)
    unfold laws_eqIntS.f
    rw [if_neg (by omega)]

/-! RowsBase -/
theorem rdR_of {xs : List (List Int)} {i : Nat} (h : i < xs.length) : rd_L1 xs (i : Int) = xs[i] := by
  unfold rd_L1
  exact getD_of h
def inS (n : Nat) (x : Int) : Bool := decide (0 ≤ x ∧ x < (n : Int))
def rowS (b : Int) (n : Nat) (row : List Int) : Bool := decide ((row.length : Int) = b) && row.all (inS n)

/-! IntSS -/
/-- How much is left of a size behind a list of rows. -/
def szRows : List (List Int) → Int → Int
  | [], left => left
  | r :: rs, left => if left - (r.length : Int) < 0 then -1 else szRows rs (left - r.length)
theorem szIntS_eq (r : List Int) (left : Int) (h0 : 0 ≤ left) (h1 : left ≤ 1048576) (hr : r.length ≤ 9223372036854775807) : laws_szIntS.f r left = some (if left - (r.length : Int) < 0 then -1 else left - r.length) := by
  unfold laws_szIntS.f
  rw [w64 (by omega) (by omega)]
  split <;> rfl
theorem szRows_le (rs : List (List Int)) : ∀ left, szRows rs left ≤ left ∨ left < 0 := by
  induction rs with
  | nil => intro left; exact Or.inl (Int.le_refl _)
  | cons r rs ih =>
    intro left
    by_cases h : left < 0
    · exact Or.inr h
    · refine Or.inl ?_
      rw [szRows]
      split
      · omega
      · rcases ih (left - r.length) with g | g <;> omega
theorem szIntSS_l0 (rows : List (List Int)) (hl : rows.length ≤ 1048576) (hr : ∀ r ∈ rows, r.length ≤ 9223372036854775807) : ∀ i, i ≤ rows.length → ∀ left, 0 ≤ left → left ≤ 1048576 → Ev (fun k => laws_szIntSS.l0 k rows left (i : Int)) (szRows (rows.drop i) left) :=
  downs (P := fun i => ∀ left, 0 ≤ left → left ≤ 1048576 → Ev (fun k => laws_szIntSS.l0 k rows left (i : Int)) (szRows (rows.drop i) left)) rows.length
    (fun i hi ih left h0 h1 => by
      rw [drop_at hi, szRows]
      have hx := hr _ (List.getElem_mem hi)
      by_cases h : left - (rows[i].length : Int) < 0
      · rw [if_pos h]
        refine Ev.step (f := fun _ => some (-1)) (fun k => ?_) (Ev.now _)
        rw [laws_szIntSS.l0, if_pos (by omega), if_pos (by omega), rdR_of hi, szIntS_eq _ _ h0 h1 hx, Option.bind_some, if_pos h, if_pos (by omega)]
      · rw [if_neg h]
        refine Ev.step (fun k => ?_) (ih (left - rows[i].length) (by omega) (by omega))
        rw [laws_szIntSS.l0, if_pos (by omega), if_pos (by omega), rdR_of hi, szIntS_eq _ _ h0 h1 hx, Option.bind_some, if_neg h, if_neg h, w64 (by omega) (by omega)]
        rfl)
    (fun left h0 h1 => by
      rw [List.drop_length, szRows]
      refine Ev.step (f := fun _ => some left) (fun k => ?_) (Ev.now _)
      rw [laws_szIntSS.l0, if_neg (by omega)])
theorem szRows_ok (rs : List (List Int)) : ∀ left, 0 ≤ left → 0 ≤ szRows rs left → ∀ r ∈ rs, (r.length : Int) ≤ left := by
  induction rs with
  | nil => intro left _ _ r hr; simp at hr
  | cons r rs ih =>
    intro left h0 h r' hr'
    rw [szRows] at h
    split at h
    · omega
    · rcases List.mem_cons.1 hr' with rfl | g
      · omega
      · have := ih _ (by omega) h r' g
        omega
/-- The size of rows: either they are too great or all are small. -/
theorem szIntSS_ev (rows : List (List Int)) (hl : rows.length ≤ 9223372036854775807) (hr : ∀ r ∈ rows, r.length ≤ 9223372036854775807) (left : Int) (h0 : 0 ≤ left) (h1 : left ≤ 1048576) :
    ∃ r : Int, Ev (fun k => laws_szIntSS.f k rows left) r ∧ r ≤ left ∧ (0 ≤ r → rows.length ≤ 1048576 ∧ ∀ x ∈ rows, x.length ≤ 1048576) := by
  by_cases h : left - (rows.length : Int) < 0
  · refine ⟨-1, Ev.congr (fun k => ?_) (Ev.now _), by omega, fun h => by omega⟩
    unfold laws_szIntSS.f
    rw [w64 (by omega) (by omega), if_pos h]
  · have hk := szIntSS_l0 rows (by omega) hr 0 (by omega) (left - rows.length) (by omega) (by omega)
    refine ⟨szRows rows (left - rows.length), Ev.congr (fun k => ?_) (Ev.eq hk (by rw [List.drop_zero])), ?_, fun hp => ⟨by omega, fun x hx => ?_⟩⟩
    · unfold laws_szIntSS.f
      rw [w64 (by omega) (by omega), if_neg h]
      rfl
    · rcases szRows_le rows (left - rows.length) with g | g <;> omega
    · have := szRows_ok rows (left - rows.length) (by omega) hp x hx
      omega
theorem toIntSS_ev (rows : List (List Int)) (hl : rows.length ≤ 1048576) (hr : ∀ r ∈ rows, r.length ≤ 1048576) : Ev (fun k => laws_toIntSS.f k rows) rows := by
  have key := downs (P := fun i => Ev (fun k => laws_toIntSS.l0 k rows (rows.take i ++ List.replicate (rows.length - i) []) (i : Int)) rows) rows.length
    (fun i hi ih => by
      refine Ev.step (f := fun k => (laws_toIntS.f k rows[i]).bind fun t => laws_toIntSS.l0 k rows ((rows.take i ++ List.replicate (rows.length - i) []).set i t) ((i + 1 : Nat) : Int)) (fun k => ?_) (Ev.bind (toIntS_ev rows[i] (hr _ (List.getElem_mem hi))) ?_)
      · rw [laws_toIntSS.l0, if_pos (by omega), if_pos (by omega), rdR_of hi, w64 (by omega) (by omega), Int.toNat_natCast]
        congr 1
        funext t
        rw [if_pos (by simp; omega)]
        rfl
      · rw [show rows.length - i = (rows.length - (i + 1)) + 1 by omega, fill_set rows _ _ i _ hi (by omega) rfl]
        exact ih)
    (by
      refine Ev.step (f := fun _ => some rows) (fun k => ?_) (Ev.now _)
      rw [laws_toIntSS.l0, if_neg (by omega)]
      simp [List.take_of_length_le])
  refine Ev.congr (fun k => ?_) (key 0 (by omega))
  unfold laws_toIntSS.f
  rw [if_pos (by omega), if_pos (by omega)]
  simp
theorem eqIntSS_self (rows : List (List Int)) (hl : rows.length ≤ 1048576) (hr : ∀ r ∈ rows, r.length ≤ 1048576) : Ev (fun k => laws_eqIntSS.f k rows rows) true := by
  have key := downs (P := fun i => Ev (fun k => laws_eqIntSS.l0 k rows rows (i : Int)) true) rows.length
    (fun i hi ih => by
      refine Ev.step (f := fun k => (laws_eqIntS.f k rows[i] rows[i]).bind fun t => if t = true then laws_eqIntSS.l0 k rows rows ((i + 1 : Nat) : Int) else some false) (fun k => ?_) (Ev.bind (Ev.eq (eqIntS_ev rows[i] rows[i] (hr _ (List.getElem_mem hi))) (decide_eq_true rfl)) ?_)
      · rw [laws_eqIntSS.l0, if_pos (by omega), if_pos (by omega), if_pos (by omega), rdR_of hi, w64 (by omega) (by omega)]
        rfl
      · exact ih)
    (by
      refine Ev.step (f := fun _ => some true) (fun k => ?_) (Ev.now _)
      rw [laws_eqIntSS.l0, if_neg (by omega)])
  refine Ev.congr (fun k => ?_) (key 0 (by omega))
  unfold laws_eqIntSS.f
  rw [if_pos rfl]
  rfl

/-! Relation -/
theorem toBoolS_ev (x0 : List Bool) (hb : x0.length ≤ 1048576) : Ev (fun k => laws_toBoolS.f k x0) x0 := by
  have key := downs (P := fun i => Ev (fun k => laws_toBoolS.l0 k x0 (x0.take i ++ List.replicate (x0.length - i) false) (i : Int)) x0) x0.length
    (fun i hi ih => by
      refine Ev.step (fun k => ?_) ih
      have e : rdOf false x0 (i : Int) = x0[i] := by unfold rdOf; exact getD_of hi
      rw [laws_toBoolS.l0, if_pos (by omega), if_pos (by omega), if_pos (by simp; omega), e, w64 (by omega) (by omega), Int.toNat_natCast]
      rw [show x0.length - i = (x0.length - (i + 1)) + 1 by omega, fill_set x0 _ _ i _ hi (by omega) rfl]
      rfl)
    (by
      refine Ev.step (f := fun _ => some x0) (fun k => ?_) (Ev.now _)
      rw [laws_toBoolS.l0, if_neg (by omega)]
      simp [List.take_of_length_le])
  refine Ev.congr (fun k => ?_) (key 0 (by omega))
  unfold laws_toBoolS.f
  rw [if_pos (by omega), if_pos (by omega)]
  simp
theorem toRelation_ev (b t : Int) (rows : List (List Int)) (acc : List Bool) (hl : rows.length ≤ 1048576) (hr : ∀ r ∈ rows, r.length ≤ 1048576) (ho : acc.length ≤ 1048576) : Ev (fun k => laws_toRelation.f k b t rows acc) (b, t, rows, acc) := by
  unfold laws_toRelation.f
  exact Ev.bind (toIntSS_ev rows hl hr) (Ev.bind (toBoolS_ev acc ho) (Ev.now _))
theorem eqBoolS_self (x0 : List Bool) (hb : x0.length ≤ 1048576) : Ev (fun k => laws_eqBoolS.f k x0 x0) true := by
  have key := downs (P := fun i => Ev (fun k => laws_eqBoolS.l0 k x0 x0 (i : Int)) true) x0.length
    (fun i hi ih => by
      refine Ev.step (fun k => ?_) ih
      rw [laws_eqBoolS.l0, if_pos (by omega), if_pos (by omega), if_pos (by omega), bne_self_eq_false, if_neg (by decide), w64 (by omega) (by omega)]
      rfl)
    (by
      refine Ev.step (f := fun _ => some true) (fun k => ?_) (Ev.now _)
      rw [laws_eqBoolS.l0, if_neg (by omega)])
  refine Ev.congr (fun k => ?_) (key 0 (by omega))
  unfold laws_eqBoolS.f
  rw [if_pos rfl]
  rfl
theorem eqRelation_self (b t : Int) (rows : List (List Int)) (acc : List Bool) (hl : rows.length ≤ 1048576) (hr : ∀ r ∈ rows, r.length ≤ 1048576) (ho : acc.length ≤ 1048576) : Ev (fun k => laws_eqRelation.f k b t rows acc b t rows acc) true := by
  unfold laws_eqRelation.f
  simp only [if_true]
  refine Ev.bind (eqIntSS_self rows hl hr) ?_
  simp only [if_true]
  refine Ev.bind (eqBoolS_self acc ho) ?_
  simp only [if_true]
  exact Ev.now _
theorem szRelation_ev (b t : Int) (rows : List (List Int)) (acc : List Bool) (hl : rows.length ≤ 9223372036854775807) (hr : ∀ r ∈ rows, r.length ≤ 9223372036854775807) (ho : acc.length ≤ 9223372036854775807) :
    ∃ r : Int, Ev (fun k => laws_szRelation.f k b t rows acc 1048576) r ∧ r ≤ 1048576 ∧ (0 ≤ r → rows.length ≤ 1048576 ∧ (∀ x ∈ rows, x.length ≤ 1048576) ∧ acc.length ≤ 1048576) := by
  obtain ⟨r, e, hle, hk⟩ := szIntSS_ev rows hl hr 1048576 (by omega) (by omega)
  by_cases h : r < 0
  · refine ⟨-1, ?_, by omega, fun h => by omega⟩
    unfold laws_szRelation.f
    refine Ev.bind e ?_
    simp only [if_pos h]
    exact Ev.now _
  · obtain ⟨k1, k2⟩ := hk (by omega)
    have ez : laws_szBoolS.f acc r = some (if r - (acc.length : Int) < 0 then -1 else r - acc.length) := by
      unfold laws_szBoolS.f
      rw [w64 (by omega) (by omega)]
      split <;> rfl
    by_cases h2 : r - (acc.length : Int) < 0
    · refine ⟨-1, ?_, by omega, fun h => by omega⟩
      unfold laws_szRelation.f
      refine Ev.bind e ?_
      simp only [if_neg h, ez, Option.bind_some, if_pos h2]
      exact Ev.now _
    · refine ⟨r - acc.length, ?_, by omega, fun _ => ⟨k1, k2, by omega⟩⟩
      unfold laws_szRelation.f
      refine Ev.bind e ?_
      simp only [if_neg h, ez, Option.bind_some, if_neg h2]
      exact Ev.now _

/-! SzRel -/
/-! Power -/
/-- The powers of a small base, on both sides. -/
theorem pow_le16 (b : Nat) (hb : b ≤ 21) (i : Nat) (hi : i ≤ 3) : b ^ i ≤ 9261 := by
  have h1 : b ^ i ≤ 21 ^ i := Nat.pow_le_pow_left hb i
  have h2 : (21 : Nat) ^ i ≤ 21 ^ 3 := Nat.pow_le_pow_right (by omega) hi
  have h3 : (21 : Nat) ^ 3 = 9261 := by decide
  omega
theorem specPow_ev (b : Nat) (hb : b ≤ 21) (t : Nat) (ht : t ≤ 3) : Ev (fun k => spec_l11Power.f k (b : Int) (t : Int)) ((b ^ t : Nat) : Int) := by
  have key := downs (P := fun i => Ev (fun k => spec_l11Power.l0 k (b : Int) (t : Int) ((b ^ i : Nat) : Int) (i : Int)) ((b ^ t : Nat) : Int)) t
    (fun i hi ih => by
      refine Ev.step (fun k => ?_) ih
      have h := pow_le16 b hb (i + 1) (by omega)
      have e : ((b ^ i : Nat) : Int) * (b : Int) = ((b ^ (i + 1) : Nat) : Int) := by rw [Nat.pow_succ]; simp
      rw [spec_l11Power.l0, if_pos (by omega), e, w64 (by omega) (by omega), w64 (by omega) (by omega)]
      rfl)
    (by
      refine Ev.step (f := fun _ => some _) (fun k => ?_) (Ev.now _)
      rw [spec_l11Power.l0, if_neg (by omega)])
  exact key 0 (by omega)
theorem implPow_ev (b : Nat) (hb : b ≤ 21) (t : Nat) (ht : t ≤ 3) : Ev (fun k => impl_power.f k (b : Int) (t : Int)) ((b ^ t : Nat) : Int) := by
  have key := downs (P := fun i => Ev (fun k => impl_power.l0 k (b : Int) ((b ^ i : Nat) : Int) (t : Int) (i : Int)) ((b ^ t : Nat) : Int)) t
    (fun i hi ih => by
      refine Ev.step (fun k => ?_) ih
      have h := pow_le16 b hb (i + 1) (by omega)
      have e : ((b ^ i : Nat) : Int) * (b : Int) = ((b ^ (i + 1) : Nat) : Int) := by rw [Nat.pow_succ]; simp
      rw [impl_power.l0, if_pos (by omega), e, w64 (by omega) (by omega), w64 (by omega) (by omega)]
      rfl)
    (by
      refine Ev.step (f := fun _ => some _) (fun k => ?_) (Ev.now _)
      rw [impl_power.l0, if_neg (by omega)])
  exact key 0 (by omega)
theorem letters_ev (b : Nat) (hb : b ≤ 21) (t : Nat) (ht : t ≤ 3) : Ev (fun k => spec_l13Letters.f k (b : Int) (t : Int)) ((b ^ t : Nat) : Int) := by
  unfold spec_l13Letters.f
  exact Ev.bind (specPow_ev b hb t ht) (Ev.now _)

/-! spec_l1In -/
theorem l1In_eq (a b c : Int) : spec_l1In.f a b c = some (decide (b ≤ a ∧ a ≤ c)) := by
  unfold spec_l1In.f
  by_cases h : a ≥ b
  · rw [if_pos h]
    congr 1
    simp; omega
  · rw [if_neg h]
    congr 1
    simp; omega

/-! IsRelation -/
/-- A relation of base b over t tracks, all entries in range, that stays where it is under zeros. -/
structure RelW (b t : Nat) (rows : List (List Int)) (acc : List Bool) : Prop where
  b2 : 2 ≤ b
  b3 : b ≤ 3
  t3 : t ≤ 3
  n1 : 1 ≤ rows.length
  n48 : rows.length ≤ 48
  al : acc.length = rows.length
  row : rows.all (rowS ((b ^ t : Nat) : Int) rows.length) = true
  zero : rd (rows.getD 0 []) 0 = 0
def isRelW (b t : Int) (rows : List (List Int)) (acc : List Bool) : Bool :=
  decide (2 ≤ b ∧ b ≤ 3) && (decide (0 ≤ t ∧ t ≤ 3) && (decide (1 ≤ (rows.length : Int) ∧ (rows.length : Int) ≤ 48) && (((acc.length : Int) == (rows.length : Int)) && (rows.all (rowS ((b.toNat ^ t.toNat : Nat) : Int) rows.length) && (rd (rows.getD 0 []) 0 == 0)))))
theorem isRelW_true {b t : Int} {rows : List (List Int)} {acc : List Bool} (h : isRelW b t rows acc = true) : ∃ b' t' : Nat, b = b' ∧ t = t' ∧ RelW b' t' rows acc := by
  unfold isRelW at h
  simp only [Bool.and_eq_true, decide_eq_true_eq, beq_iff_eq] at h
  obtain ⟨⟨h1, h2⟩, ⟨h3, h4⟩, ⟨h5, h6⟩, h7, h8, h9⟩ := h
  exact ⟨b.toNat, t.toNat, by omega, by omega, by omega, by omega, by omega, by omega, by omega, by omega, h8, h9⟩
theorem RelW.len {b t : Nat} {rows : List (List Int)} {acc : List Bool} (H : RelW b t rows acc) (i : Nat) (hi : i < rows.length) : rows[i].length = b ^ t ∧ ∀ x ∈ rows[i], 0 ≤ x ∧ x < (rows.length : Int) := by
  have h := List.all_eq_true.1 H.row rows[i] (List.getElem_mem hi)
  unfold rowS at h
  simp only [Bool.and_eq_true, decide_eq_true_eq, List.all_eq_true] at h
  refine ⟨by omega, fun x hx => ?_⟩
  have := h.2 x hx
  simpa [inS] using this
theorem pow_pos' (b t : Nat) (hb : 2 ≤ b) : 1 ≤ b ^ t := Nat.one_le_pow _ _ (by omega)
theorem rdRD {rows : List (List Int)} : rd_L1 rows 0 = rows.getD 0 [] := rfl
theorem all_take_succ {α : Type} (p : α → Bool) (l : List α) (c : Nat) (hc : c < l.length) (h : (l.take c).all p = true) (hx : p l[c] = true) : (l.take (c + 1)).all p = true := by
  rw [List.take_succ_eq_append_getElem hc, List.all_append, h, List.all_cons, List.all_nil, hx]
  rfl
theorem specRel_l1 (b t : Int) (rows : List (List Int)) (acc : List Bool) (i : Nat) (hi : i < rows.length) (hl : rows.length ≤ 1048576) (hr : rows[i].length ≤ 1048576) (nb : Bool) (next : rows[i].all (inS rows.length) = true → Ev (fun k => spec_IsRelation.l0 k ((i + 1 : Nat) : Int) b t rows acc) nb) :
    Ev (fun k => spec_IsRelation.l1 k (i : Int) 0 b t rows acc) (rows[i].all (inS rows.length) && nb) := by
  have hR := rdR_of hi
  have key := downs (P := fun c => (rows[i].take c).all (inS rows.length) = true → Ev (fun k => spec_IsRelation.l1 k (i : Int) (c : Int) b t rows acc) ((rows[i].drop c).all (inS rows.length) && nb)) rows[i].length
    (fun c hc ih hp => by
      rw [drop_at hc, List.all_cons]
      by_cases h : 0 ≤ rows[i][c] ∧ rows[i][c] < (rows.length : Int)
      · refine Ev.step (fun k => ?_) (Ev.eq (ih (all_take_succ _ _ c hc hp (decide_eq_true h))) (by rw [show inS rows.length rows[i][c] = true from decide_eq_true h, Bool.true_and]))
        rw [spec_IsRelation.l1, if_pos (by omega), if_pos (by omega), hR, if_pos (by omega), if_pos (by omega), rd_of hc, if_neg (by omega), if_neg (by omega), w64 (by omega) (by omega)]
        rfl
      · refine Ev.step (f := fun _ => some false) (fun k => ?_) (Ev.eq (Ev.now _) (by rw [show inS rows.length rows[i][c] = false from decide_eq_false h, Bool.false_and, Bool.false_and]))
        rw [spec_IsRelation.l1, if_pos (by omega), if_pos (by omega), hR, if_pos (by omega), if_pos (by omega), rd_of hc]
        by_cases h0 : rows[i][c] < 0
        · rw [if_pos h0]
        · rw [if_neg h0, if_pos (by omega)])
    (fun hp => by
      rw [List.take_length] at hp
      refine Ev.step (fun k => ?_) (Ev.eq (next hp) (by simp))
      rw [spec_IsRelation.l1, if_pos (by omega), if_pos (by omega), hR, if_neg (by omega), w64 (by omega) (by omega)]
      rfl)
  exact Ev.eq (key 0 (by omega) rfl) (by rw [List.drop_zero])
theorem implRel_l1 (b t : Int) (rows : List (List Int)) (acc : List Bool) (i : Nat) (hi : i < rows.length) (hl : rows.length ≤ 1048576) (hr : rows[i].length ≤ 1048576) (nb : Bool) (next : rows[i].all (inS rows.length) = true → Ev (fun k => impl_IsRelation.l0 k (rows.length : Int) rows (rows.length : Int) ((i + 1 : Nat) : Int) b t rows acc) nb) :
    Ev (fun k => impl_IsRelation.l1 k (rows.length : Int) rows (rows.length : Int) (i : Int) rows[i] (rows[i].length : Int) 0 b t rows acc) (rows[i].all (inS rows.length) && nb) := by
  have key := downs (P := fun c => (rows[i].take c).all (inS rows.length) = true → Ev (fun k => impl_IsRelation.l1 k (rows.length : Int) rows (rows.length : Int) (i : Int) rows[i] (rows[i].length : Int) (c : Int) b t rows acc) ((rows[i].drop c).all (inS rows.length) && nb)) rows[i].length
    (fun c hc ih hp => by
      rw [drop_at hc, List.all_cons]
      by_cases h : 0 ≤ rows[i][c] ∧ rows[i][c] < (rows.length : Int)
      · refine Ev.step (fun k => ?_) (Ev.eq (ih (all_take_succ _ _ c hc hp (decide_eq_true h))) (by rw [show inS rows.length rows[i][c] = true from decide_eq_true h, Bool.true_and]))
        rw [impl_IsRelation.l1, if_pos (by omega), if_pos (by omega), if_pos (by omega), rd_of hc, if_neg (by omega), if_neg (by omega), w64 (by omega) (by omega)]
        rfl
      · refine Ev.step (f := fun _ => some false) (fun k => ?_) (Ev.eq (Ev.now _) (by rw [show inS rows.length rows[i][c] = false from decide_eq_false h, Bool.false_and, Bool.false_and]))
        rw [impl_IsRelation.l1, if_pos (by omega), if_pos (by omega), if_pos (by omega), rd_of hc]
        by_cases h0 : rows[i][c] < 0
        · rw [if_pos h0]
        · rw [if_neg h0, if_pos (by omega)])
    (fun hp => by
      rw [List.take_length] at hp
      refine Ev.step (fun k => ?_) (Ev.eq (next hp) (by simp))
      rw [impl_IsRelation.l1, if_neg (by omega), w64 (by omega) (by omega)]
      rfl)
  exact Ev.eq (key 0 (by omega) rfl) (by rw [List.drop_zero])
theorem rel_head (b t : Nat) (hb : 2 ≤ b) (rows : List (List Int)) (n1 : 1 ≤ rows.length) (h : rows.all (rowS ((b ^ t : Nat) : Int) rows.length) = true) : 0 < ((rows.getD 0 []).length : Int) := by
  have := List.all_eq_true.1 h rows[0] (List.getElem_mem (by omega))
  unfold rowS at this
  simp only [Bool.and_eq_true, decide_eq_true_eq] at this
  have := pow_pos' b t hb
  have e : rows.getD 0 [] = rows[0] := by simp [List.getD_eq_getElem?_getD, show 0 < rows.length by omega]
  rw [e]
  omega
theorem specRel_l0 (b t : Nat) (hb : 2 ≤ b) (hb3 : b ≤ 3) (ht : t ≤ 3) (rows : List (List Int)) (acc : List Bool) (n1 : 1 ≤ rows.length) (hl : rows.length ≤ 1048576) (hr : ∀ i (h : i < rows.length), rows[i].length ≤ 1048576) :
    Ev (fun k => spec_IsRelation.l0 k 0 (b : Int) (t : Int) rows acc) (rows.all (rowS ((b ^ t : Nat) : Int) rows.length) && (rd (rows.getD 0 []) 0 == 0)) := by
  have key := downs (P := fun i => (rows.take i).all (rowS ((b ^ t : Nat) : Int) rows.length) = true → Ev (fun k => spec_IsRelation.l0 k (i : Int) (b : Int) (t : Int) rows acc) ((rows.drop i).all (rowS ((b ^ t : Nat) : Int) rows.length) && (rd (rows.getD 0 []) 0 == 0))) rows.length
    (fun i hi ih hp => by
      rw [drop_at hi, List.all_cons]
      refine Ev.step (f := fun k => (spec_l13Letters.f k (b : Int) (t : Int)).bind fun t233 => if (rows[i].length : Int) = t233 then spec_IsRelation.l1 k (i : Int) 0 (b : Int) (t : Int) rows acc else some false) (fun k => ?_) (Ev.bind (letters_ev b (by omega) t ht) ?_)
      · rw [spec_IsRelation.l0, if_pos (by omega), if_pos (by omega), rdR_of hi]
      by_cases h : (rows[i].length : Int) = ((b ^ t : Nat) : Int)
      · simp only [if_pos h]
        refine Ev.eq (specRel_l1 b t rows acc i hi hl (hr i hi) _ (fun h2 => ih (all_take_succ _ _ i hi hp (by rw [rowS, decide_eq_true h, h2]; rfl)))) ?_
        rw [rowS, decide_eq_true h, Bool.true_and, Bool.and_assoc]
      · simp only [if_neg h]
        rw [rowS, decide_eq_false h]
        simp only [Bool.false_and]
        exact Ev.now _)
    (fun hp => by
      rw [List.take_length] at hp
      have := rel_head b t hb rows n1 hp
      refine Ev.step (f := fun _ => some _) (fun k => ?_) (Ev.eq (Ev.now _) (by rw [List.drop_length, List.all_nil, Bool.true_and]))
      rw [spec_IsRelation.l0, if_neg (by omega), if_pos (by omega), rdRD, if_pos this])
  exact Ev.eq (key 0 (by omega) rfl) (by rw [List.drop_zero])
theorem implRel_l0 (b t : Nat) (hb : 2 ≤ b) (hb3 : b ≤ 3) (ht : t ≤ 3) (rows : List (List Int)) (acc : List Bool) (n1 : 1 ≤ rows.length) (hl : rows.length ≤ 1048576) (hr : ∀ i (h : i < rows.length), rows[i].length ≤ 1048576) :
    Ev (fun k => impl_IsRelation.l0 k (rows.length : Int) rows (rows.length : Int) 0 (b : Int) (t : Int) rows acc) (rows.all (rowS ((b ^ t : Nat) : Int) rows.length) && (rd (rows.getD 0 []) 0 == 0)) := by
  have key := downs (P := fun i => (rows.take i).all (rowS ((b ^ t : Nat) : Int) rows.length) = true → Ev (fun k => impl_IsRelation.l0 k (rows.length : Int) rows (rows.length : Int) (i : Int) (b : Int) (t : Int) rows acc) ((rows.drop i).all (rowS ((b ^ t : Nat) : Int) rows.length) && (rd (rows.getD 0 []) 0 == 0))) rows.length
    (fun i hi ih hp => by
      rw [drop_at hi, List.all_cons]
      refine Ev.step (f := fun k => (impl_power.f k (b : Int) (t : Int)).bind fun t382 => if (rows[i].length : Int) = t382 then impl_IsRelation.l1 k (rows.length : Int) rows (rows.length : Int) (i : Int) rows[i] (rows[i].length : Int) 0 (b : Int) (t : Int) rows acc else some false) (fun k => ?_) (Ev.bind (implPow_ev b (by omega) t ht) ?_)
      · rw [impl_IsRelation.l0, if_pos (by omega), if_pos (by omega), if_pos (by omega), rdR_of hi]
      by_cases h : (rows[i].length : Int) = ((b ^ t : Nat) : Int)
      · simp only [if_pos h]
        refine Ev.eq (implRel_l1 b t rows acc i hi hl (hr i hi) _ (fun h2 => ih (all_take_succ _ _ i hi hp (by rw [rowS, decide_eq_true h, h2]; rfl)))) ?_
        rw [rowS, decide_eq_true h, Bool.true_and, Bool.and_assoc]
      · simp only [if_neg h]
        rw [rowS, decide_eq_false h]
        simp only [Bool.false_and]
        exact Ev.now _)
    (fun hp => by
      rw [List.take_length] at hp
      have := rel_head b t hb rows n1 hp
      refine Ev.step (f := fun _ => some _) (fun k => ?_) (Ev.eq (Ev.now _) (by rw [List.drop_length, List.all_nil, Bool.true_and]))
      rw [impl_IsRelation.l0, if_neg (by omega), if_pos (by omega), rdRD, if_pos this])
  exact Ev.eq (key 0 (by omega) rfl) (by rw [List.drop_zero])
theorem specRel_ev (b t : Int) (rows : List (List Int)) (acc : List Bool) (hl : rows.length ≤ 1048576) (hr : ∀ i (h : i < rows.length), rows[i].length ≤ 1048576) : Ev (fun k => spec_IsRelation.f k b t rows acc) (isRelW b t rows acc) := by
  have no : Ev (fun k => spec_IsRelation.j0 k true b t rows acc) false := by
    refine Ev.step (f := fun _ => some false) (fun k => ?_) (Ev.now _)
    rw [spec_IsRelation.j0, if_pos rfl]
  unfold spec_IsRelation.f isRelW
  simp only [l1In_eq, Option.bind_some]
  by_cases h1 : 2 ≤ b ∧ b ≤ 3
  · simp only [decide_eq_true h1, if_true, Bool.true_and]
    by_cases h2 : 0 ≤ t ∧ t ≤ 3
    · simp only [decide_eq_true h2, if_true, Bool.true_and]
      by_cases h3 : 1 ≤ (rows.length : Int) ∧ (rows.length : Int) ≤ 48
      · simp only [decide_eq_true h3, if_true, Bool.true_and]
        by_cases h4 : (acc.length : Int) = (rows.length : Int)
        · obtain ⟨b', rfl⟩ : ∃ b' : Nat, b = b' := ⟨b.toNat, by omega⟩
          obtain ⟨t', rfl⟩ : ∃ t' : Nat, t = t' := ⟨t.toNat, by omega⟩
          have e : ((acc.length : Int) != (rows.length : Int)) = false := by simp [h4]
          simp only [e]
          refine Ev.step (fun k => ?_) (Ev.eq (specRel_l0 b' t' (by omega) (by omega) (by omega) rows acc (by omega) hl hr) ?_)
          · rw [spec_IsRelation.j0, if_neg (by decide)]
          · rw [show ((acc.length : Int) == (rows.length : Int)) = true from beq_iff_eq.2 h4, Bool.true_and]
            rfl
        · have e : ((acc.length : Int) != (rows.length : Int)) = true := by simpa using h4
          simp only [e]
          exact Ev.eq no (by rw [show ((acc.length : Int) == (rows.length : Int)) = false from beq_eq_false_iff_ne.2 h4, Bool.false_and])
      · simp only [decide_eq_false h3, Bool.false_eq_true, if_false, Bool.false_and]
        exact no
    · simp only [decide_eq_false h2, Bool.false_eq_true, if_false, Bool.false_and]
      exact no
  · simp only [decide_eq_false h1, Bool.false_eq_true, if_false, Bool.false_and]
    exact no
theorem isSmallBase_eq (b : Int) : impl_isSmallBase.f b = some (decide (2 ≤ b ∧ b ≤ 3)) := by
  unfold impl_isSmallBase.f
  by_cases h : b = 2
  · rw [if_pos h, Option.some.injEq]
    exact (decide_eq_true (by omega)).symm
  · rw [if_neg h, Option.some.injEq, Bool.eq_iff_iff, beq_iff_eq, decide_eq_true_eq]
    omega
theorem implRel_ev (b t : Int) (rows : List (List Int)) (acc : List Bool) (hl : rows.length ≤ 1048576) (hr : ∀ i (h : i < rows.length), rows[i].length ≤ 1048576) : Ev (fun k => impl_IsRelation.f k b t rows acc) (isRelW b t rows acc) := by
  have no : Ev (fun k => impl_IsRelation.j0 k (rows.length : Int) true b t rows acc) false := by
    refine Ev.step (f := fun _ => some false) (fun k => ?_) (Ev.now _)
    rw [impl_IsRelation.j0, if_pos rfl]
  unfold impl_IsRelation.f isRelW
  simp only [isSmallBase_eq, Option.bind_some]
  by_cases h1 : 2 ≤ b ∧ b ≤ 3
  · simp only [decide_eq_true h1, if_true, Bool.true_and]
    by_cases h2 : 0 ≤ t ∧ t ≤ 3
    · simp only [decide_eq_true h2, if_neg (show ¬ t < 0 by omega), if_neg (show ¬ t > 3 by omega), Bool.true_and]
      by_cases h3 : 1 ≤ (rows.length : Int) ∧ (rows.length : Int) ≤ 48
      · simp only [decide_eq_true h3, if_neg (show ¬ (rows.length : Int) < 1 by omega), if_neg (show ¬ (rows.length : Int) > 48 by omega), Bool.true_and]
        by_cases h4 : (acc.length : Int) = (rows.length : Int)
        · obtain ⟨b', rfl⟩ : ∃ b' : Nat, b = b' := ⟨b.toNat, by omega⟩
          obtain ⟨t', rfl⟩ : ∃ t' : Nat, t = t' := ⟨t.toNat, by omega⟩
          have e : ((acc.length : Int) != (rows.length : Int)) = false := by simp [h4]
          simp only [e]
          refine Ev.step (fun k => ?_) (Ev.eq (implRel_l0 b' t' (by omega) (by omega) (by omega) rows acc (by omega) hl hr) ?_)
          · rw [impl_IsRelation.j0, if_neg (by decide)]
          · rw [show ((acc.length : Int) == (rows.length : Int)) = true from beq_iff_eq.2 h4, Bool.true_and]
            rfl
        · have e : ((acc.length : Int) != (rows.length : Int)) = true := by simpa using h4
          simp only [e]
          exact Ev.eq no (by rw [show ((acc.length : Int) == (rows.length : Int)) = false from beq_eq_false_iff_ne.2 h4, Bool.false_and])
      · simp only [decide_eq_false h3, Bool.false_and]
        by_cases h5 : (rows.length : Int) < 1
        · simp only [if_pos h5]; exact no
        · simp only [if_neg h5, if_pos (show (rows.length : Int) > 48 by omega)]; exact no
    · simp only [decide_eq_false h2, Bool.false_and]
      by_cases h5 : t < 0
      · simp only [if_pos h5]; exact no
      · simp only [if_neg h5, if_pos (show t > 3 by omega)]; exact no
  · simp only [decide_eq_false h1, Bool.false_eq_true, if_false, Bool.false_and]
    exact no

/-! L3Same -/
theorem l3Same_l0 (x0 x1 : List Int) (hb : x0.length ≤ 1048576) (hl : x0.length = x1.length) (d : Nat) : ∀ (i : Nat), i + d = x0.length →
    Ev (fun k => spec_l3Same.l0 k x0 x1 i) (decide (x0.drop i = x1.drop i)) := by
  induction d with
  | zero =>
    intro i hi
    refine Ev.step (f := fun _ => some true) (fun k => ?_) ?_
    · rw [spec_l3Same.l0, if_neg (by omega)]
    · rw [List.drop_of_length_le (by omega), List.drop_of_length_le (by omega)]
      exact Ev.now _
  | succ d ih =>
    intro i hi
    have e0 : x0.drop i = x0[i]'(by omega) :: x0.drop (i + 1) := List.drop_eq_getElem_cons (by omega)
    have e1 : x1.drop i = x1[i]'(by omega) :: x1.drop (i + 1) := List.drop_eq_getElem_cons (by omega)
    by_cases h : x0[i]'(by omega) = x1[i]'(by omega)
    · rw [e0, e1, h]
      simp only [List.cons.injEq, true_and]
      refine Ev.step (fun k => ?_) (ih (i + 1) (by omega))
      rw [spec_l3Same.l0, if_pos (by omega), if_pos (by omega), if_pos (by omega), rd_of (show i < x0.length by omega), rd_of (show i < x1.length by omega), if_pos h, w64 (by omega) (by omega)]
      rfl
    · rw [e0, e1]
      simp only [List.cons.injEq, h, false_and]
      refine Ev.step (f := fun _ => some false) (fun k => ?_) (Ev.now _)
      rw [spec_l3Same.l0, if_pos (by omega), if_pos (by omega), if_pos (by omega), rd_of (show i < x0.length by omega), rd_of (show i < x1.length by omega), if_neg h]

theorem l3Same_ev (x0 x1 : List Int) (hb : x0.length ≤ 1048576) : Ev (fun k => spec_l3Same.f k x0 x1) (decide (x0 = x1)) := by
  by_cases hl : x0.length = x1.length
  · refine Ev.congr (fun k => ?_) (l3Same_l0 x0 x1 hb hl x0.length 0 (by omega))
    unfold spec_l3Same.f
    rw [if_pos (by omega)]
    rfl
  · rw [decide_eq_false (by intro h; exact hl (by rw [h]))]
    refine Ev.congr (fun k => ?_) (Ev.now _)
    unfold spec_l3Same.f
    rw [if_neg (by omega)]

/-! Refine -/
/-! Numberings of the values of a list in the order of their first places (plain Lean). -/
def newAt {α : Type} (a : Nat → α) (i : Nat) : Prop := ∀ k, k < i → a k ≠ a i
open Classical in
noncomputable def cntN {α : Type} (a : Nat → α) : Nat → Nat
  | 0 => 0
  | n + 1 => cntN a n + (if newAt a n then 1 else 0)
structure IsNumb {α : Type} (a : Nat → α) (n : Nat) (c : Nat → Int) : Prop where
  first : ∀ i, i < n → newAt a i → c i = (cntN a i : Nat)
  same : ∀ i j, i < n → j < n → a i = a j → c i = c j
theorem cntN_succ_new {α : Type} {a : Nat → α} {n : Nat} (h : newAt a n) : cntN a (n + 1) = cntN a n + 1 := by
  rw [cntN, if_pos h]
theorem cntN_succ_old {α : Type} {a : Nat → α} {n : Nat} (h : ¬ newAt a n) : cntN a (n + 1) = cntN a n := by
  rw [cntN, if_neg h]; rfl
theorem cntN_mono {α : Type} (a : Nat → α) (n d : Nat) : cntN a n ≤ cntN a (n + d) := by
  induction d with
  | zero => exact Nat.le_refl _
  | succ d ih => rw [show n + (d + 1) = (n + d) + 1 by omega, cntN]; split <;> omega
theorem cntN_le {α : Type} (a : Nat → α) (n : Nat) : cntN a n ≤ n := by
  induction n with
  | zero => exact Nat.le_refl _
  | succ n ih => rw [cntN]; split <;> omega
theorem cntN_lt {α : Type} {a : Nat → α} {i n : Nat} (h : newAt a i) (hi : i < n) : cntN a i < cntN a n := by
  have := cntN_mono a (i + 1) (n - (i + 1))
  rw [show i + 1 + (n - (i + 1)) = n by omega, cntN_succ_new h] at this
  omega
theorem newAt_zero {α : Type} (a : Nat → α) : newAt a 0 := fun k hk => absurd hk (by omega)
/-- Each place has a first place of its value. -/
theorem first_of {α : Type} (a : Nat → α) (i : Nat) : ∃ k, k ≤ i ∧ newAt a k ∧ a k = a i := by
  induction i using Nat.strongRecOn with
  | _ i ih =>
    by_cases h : newAt a i
    · exact ⟨i, Nat.le_refl _, h, rfl⟩
    · have h' : ∃ k, k < i ∧ a k = a i := Classical.byContradiction fun h2 => h fun k hk e => h2 ⟨k, hk, e⟩
      obtain ⟨k, hk, e⟩ := h'
      obtain ⟨m, hm, hn, em⟩ := ih k hk
      exact ⟨m, by omega, hn, em.trans e⟩
theorem IsNumb.inj {α : Type} {a : Nat → α} {n : Nat} {c : Nat → Int} (H : IsNumb a n c) {i j : Nat} (hi : i < n) (hj : j < n) (e : c i = c j) : a i = a j := by
  obtain ⟨i0, l1, n1, e1⟩ := first_of a i
  obtain ⟨j0, l2, n2, e2⟩ := first_of a j
  have q1 := H.first i0 (by omega) n1
  have q2 := H.first j0 (by omega) n2
  have r1 := H.same i0 i (by omega) hi e1
  have r2 := H.same j0 j (by omega) hj e2
  have q : cntN a i0 = cntN a j0 := by omega
  rcases Nat.lt_trichotomy i0 j0 with h | h | h
  · have := cntN_lt n1 h; omega
  · rw [← e1, ← e2, h]
  · have := cntN_lt n2 h; omega
theorem IsNumb.lt {α : Type} {a : Nat → α} {n : Nat} {c : Nat → Int} (H : IsNumb a n c) {i : Nat} (hi : i < n) : 0 ≤ c i ∧ c i < (cntN a n : Nat) := by
  obtain ⟨i0, l1, n1, e1⟩ := first_of a i
  have q1 := H.first i0 (by omega) n1
  have r1 := H.same i0 i (by omega) hi e1
  have := cntN_lt n1 (show i0 < n by omega)
  omega
theorem IsNumb.zero {α : Type} {a : Nat → α} {n : Nat} {c : Nat → Int} (H : IsNumb a n c) (hn : 0 < n) : c 0 = 0 := by
  rw [H.first 0 hn (newAt_zero a)]; rfl
theorem newAt_congr {α β : Type} {a : Nat → α} {b : Nat → β} {n : Nat} (h : ∀ i j, i < n → j < n → (a i = a j ↔ b i = b j)) {i : Nat} (hi : i < n) : newAt a i ↔ newAt b i :=
  ⟨fun g k hk e => g k hk ((h k i (by omega) hi).2 e), fun g k hk e => g k hk ((h k i (by omega) hi).1 e)⟩
theorem cntN_congr {α β : Type} {a : Nat → α} {b : Nat → β} {n : Nat} (h : ∀ i j, i < n → j < n → (a i = a j ↔ b i = b j)) : ∀ i, i ≤ n → cntN a i = cntN b i := by
  intro i
  induction i with
  | zero => intro _; rfl
  | succ i ih =>
    intro hi
    have e := newAt_congr h (show i < n by omega)
    by_cases g : newAt a i
    · rw [cntN_succ_new g, cntN_succ_new (e.1 g), ih (by omega)]
    · rw [cntN_succ_old g, cntN_succ_old (fun x => g (e.2 x)), ih (by omega)]
theorem IsNumb.uniq {α β : Type} {a : Nat → α} {b : Nat → β} {n : Nat} {c d : Nat → Int} (H : IsNumb a n c) (G : IsNumb b n d) (h : ∀ i j, i < n → j < n → (a i = a j ↔ b i = b j)) : ∀ i, i < n → c i = d i := by
  intro i hi
  obtain ⟨i0, l1, n1, e1⟩ := first_of a i
  have hb := (h i0 i (by omega) hi).1 e1
  rw [← H.same i0 i (by omega) hi e1, ← G.same i0 i (by omega) hi hb, H.first i0 (by omega) n1, G.first i0 (by omega) ((newAt_congr h (by omega)).1 n1), cntN_congr h i0 (by omega)]
/-- A finer list has at least as many values, and as many only if it is no finer. -/
theorem cntN_finer {α β : Type} {a : Nat → α} {b : Nat → β} {n : Nat} (h : ∀ i j, i < n → j < n → b i = b j → a i = a j) : ∀ i, i ≤ n → cntN a i ≤ cntN b i := by
  intro i
  induction i with
  | zero => intro _; exact Nat.le_refl _
  | succ i ih =>
    intro hi
    have e : newAt a i → newAt b i := fun g k hk e => g k hk (h k i (by omega) (by omega) e)
    have := ih (by omega)
    by_cases g : newAt a i
    · rw [cntN_succ_new g, cntN_succ_new (e g)]; omega
    · rw [cntN_succ_old g]
      have := cntN_mono b i 1
      omega
theorem new_finer {α β : Type} {a : Nat → α} {b : Nat → β} {n : Nat} (h : ∀ i j, i < n → j < n → b i = b j → a i = a j) (hc : cntN a n = cntN b n) : ∀ i, i < n → newAt b i → newAt a i := by
  intro i hi hb
  refine Classical.byContradiction fun ha => ?_
  have key : ∀ d, i + 1 + d ≤ n → cntN a (i + 1 + d) < cntN b (i + 1 + d) := by
    intro d
    induction d with
    | zero =>
      intro hd
      have := cntN_finer h i (by omega)
      rw [Nat.add_zero, cntN_succ_old ha, cntN_succ_new hb]
      omega
    | succ d ih =>
      intro hd
      have q := ih (by omega)
      have e : newAt a (i + 1 + d) → newAt b (i + 1 + d) := fun g k hk e => g k hk (h k _ (by omega) (by omega) e)
      rw [show i + 1 + (d + 1) = (i + 1 + d) + 1 by omega]
      by_cases g : newAt a (i + 1 + d)
      · rw [cntN_succ_new g, cntN_succ_new (e g)]; omega
      · rw [cntN_succ_old g]
        have := cntN_mono b (i + 1 + d) 1
        omega
  have := key (n - (i + 1)) (by omega)
  rw [show i + 1 + (n - (i + 1)) = n by omega] at this
  omega
theorem same_finer {α β : Type} {a : Nat → α} {b : Nat → β} {n : Nat} (h : ∀ i j, i < n → j < n → b i = b j → a i = a j) (hc : cntN a n = cntN b n) : ∀ i j, i < n → j < n → (a i = a j ↔ b i = b j) := by
  have key : ∀ j, j < n → ∀ i, i ≤ j → newAt a i → a i = a j → b i = b j := by
    intro j
    induction j using Nat.strongRecOn with
    | _ j ih =>
      intro hj i hi hn e
      by_cases hij : i = j
      · rw [hij]
      · have ho : ¬ newAt a j := fun g => g i (by omega) e
        have hob : ¬ newAt b j := fun g => ho (new_finer h hc j hj g)
        have h' : ∃ k, k < j ∧ b k = b j := Classical.byContradiction fun h2 => hob fun k hk e => h2 ⟨k, hk, e⟩
        obtain ⟨k, hk, ek⟩ := h'
        have eak := h k j (by omega) hj ek
        have hik : i ≤ k := by
          refine Classical.byContradiction fun hlt => ?_
          exact hn k (by omega) (eak.trans e.symm)
        rw [← ek]
        exact ih k hk (by omega) i hik hn (e.trans eak.symm)
  intro i j hi hj
  refine ⟨fun e => ?_, h i j hi hj⟩
  obtain ⟨i0, l1, n1, e1⟩ := first_of a i
  rcases Nat.le_total i j with hij | hij
  · rw [← key i hi i0 l1 n1 e1]
    exact key j hj i0 (by omega) n1 (e1.trans e)
  · obtain ⟨j0, l2, n2, e2⟩ := first_of a j
    rw [← key j hj j0 l2 n2 e2]
    exact (key i hi j0 (by omega) n2 (e2.trans e.symm)).symm

/-! Run -/
/-! Finer and finer classes (plain Lean). -/
def NumL {α : Type} [Inhabited α] (keys : List α) (c : List Int) : Prop := c.length = keys.length ∧ IsNumb (fun i => keys.getD i default) keys.length (fun i => c.getD i 0)
def keyOf (rows : List (List Int)) (c : List Int) (i : Nat) : List Int := c.getD i 0 :: (rows.getD i []).map (fun qq => c.getD qq.toNat 0)
def keysL (rows : List (List Int)) (c : List Int) : List (List Int) := (List.range rows.length).map (keyOf rows c)
theorem keysL_len (rows : List (List Int)) (c : List Int) : (keysL rows c).length = rows.length := by simp [keysL]
theorem keysL_get {rows : List (List Int)} {c : List Int} {i : Nat} (h : i < rows.length) : (keysL rows c).getD i default = keyOf rows c i := by
  simp [keysL, List.getD_eq_getElem?_getD, h]
theorem list_ext_getD {c d : List Int} (hl : c.length = d.length) (h : ∀ i, i < c.length → c.getD i 0 = d.getD i 0) : c = d := by
  refine List.ext_getElem hl fun i h1 h2 => ?_
  have := h i h1
  simpa [List.getD_eq_getElem?_getD, h1, h2] using this
theorem NumL.uniq {α β : Type} [Inhabited α] [Inhabited β] {a : List α} {b : List β} {c d : List Int} (H : NumL a c) (G : NumL b d) (hl : a.length = b.length) (h : ∀ i j, i < a.length → j < a.length → (a.getD i default = a.getD j default ↔ b.getD i default = b.getD j default)) : c = d := by
  refine list_ext_getD (by rw [H.1, G.1, hl]) fun i hi => ?_
  have G2 := G.2
  rw [← hl] at G2
  exact IsNumb.uniq H.2 G2 h i (by rw [← H.1]; exact hi)
noncomputable def cntL {α : Type} [Inhabited α] (keys : List α) : Nat := cntN (fun i => keys.getD i default) keys.length
theorem cntL_le {α : Type} [Inhabited α] (keys : List α) : cntL keys ≤ keys.length := cntN_le _ _
theorem cntL_pos {α : Type} [Inhabited α] {keys : List α} (h : 0 < keys.length) : 1 ≤ cntL keys := by
  have := cntN_lt (newAt_zero (fun i => keys.getD i default)) h
  unfold cntL
  omega
/-- The keys of the next round are finer. -/
theorem keys_finer {α : Type} [Inhabited α] {a : List α} {rows : List (List Int)} {c : List Int} (H : NumL a c) (hl : a.length = rows.length) : ∀ i j, i < a.length → j < a.length → (keysL rows c).getD i default = (keysL rows c).getD j default → a.getD i default = a.getD j default := by
  intro i j hi hj e
  rw [keysL_get (by omega), keysL_get (by omega), keyOf, keyOf, List.cons.injEq] at e
  exact H.2.inj hi hj e.1
theorem round_le {α : Type} [Inhabited α] {a : List α} {rows : List (List Int)} {c : List Int} (H : NumL a c) (hl : a.length = rows.length) : cntL a ≤ cntL (keysL rows c) := by
  have := cntN_finer (keys_finer H hl) a.length (Nat.le_refl _)
  unfold cntL
  rwa [keysL_len, ← hl]
theorem round_same {α : Type} [Inhabited α] {a : List α} {rows : List (List Int)} {c d : List Int} (H : NumL a c) (G : NumL (keysL rows c) d) (hl : a.length = rows.length) (h : cntL a = cntL (keysL rows c)) : d = c := by
  have h' : cntN (fun i => a.getD i default) a.length = cntN (fun i => (keysL rows c).getD i default) a.length := by
    have := h
    unfold cntL at this
    rwa [keysL_len, ← hl] at this
  exact (NumL.uniq H G (by rw [keysL_len, hl]) (same_finer (keys_finer H hl) h')).symm
/-- From some classes on to those that stand still. -/
inductive Run (rows : List (List Int)) : List Int → List Int → Prop
  | stop {c : List Int} : NumL (keysL rows c) c → Run rows c c
  | go {c d e : List Int} : NumL (keysL rows c) d → d ≠ c → Run rows d e → Run rows c e
theorem Run.still {rows : List (List Int)} {c e : List Int} (H : Run rows c e) : NumL (keysL rows e) e := by
  induction H with
  | stop h => exact h
  | go _ _ _ ih => exact ih
theorem Run.finer {rows : List (List Int)} {c e : List Int} (H : Run rows c e) : ∀ i j, i < rows.length → j < rows.length → e.getD i 0 = e.getD j 0 → c.getD i 0 = c.getD j 0 := by
  induction H with
  | stop h => exact fun i j _ _ q => q
  | @go c d e h _ _ ih =>
    intro i j hi hj q
    have := h.2.inj (by rw [keysL_len]; exact hi) (by rw [keysL_len]; exact hj) (ih i j hi hj q)
    rw [keysL_get hi, keysL_get hj, keyOf, keyOf, List.cons.injEq] at this
    exact this.1
/-- Numbers of the same states: what follows from standing still. -/
theorem still_next {rows : List (List Int)} {e : List Int} (H : NumL (keysL rows e) e) {i j : Nat} (hi : i < rows.length) (hj : j < rows.length) (q : e.getD i 0 = e.getD j 0) : (rows.getD i []).map (fun qq => e.getD qq.toNat 0) = (rows.getD j []).map (fun qq => e.getD qq.toNat 0) := by
  have := H.2.inj (by rw [keysL_len]; exact hi) (by rw [keysL_len]; exact hj) q
  rw [keysL_get hi, keysL_get hj, keyOf, keyOf, List.cons.injEq] at this
  exact this.2

/-! Number -/
theorem getD_snoc_lt {out : List Int} {y : Int} {t : Nat} (h : t < out.length) : (out ++ [y]).getD t 0 = out.getD t 0 := by
  simp [List.getD_eq_getElem?_getD, List.getElem?_append_left h]
theorem getD_snoc_eq (out : List Int) (y : Int) : (out ++ [y]).getD out.length 0 = y := by
  simp [List.getD_eq_getElem?_getD]
theorem numb_new {α : Type} {a : Nat → α} {out : List Int} (H : IsNumb a out.length (fun i => out.getD i 0)) (hn : newAt a out.length) : IsNumb a (out.length + 1) (fun i => (out ++ [((cntN a out.length : Nat) : Int)]).getD i 0) := by
  refine ⟨fun t ht hnt => ?_, fun t s ht hs e => ?_⟩
  · by_cases h : t < out.length
    · simp only [getD_snoc_lt h]; exact H.first t h hnt
    · have : t = out.length := by omega
      subst this
      simp only [getD_snoc_eq]
  · by_cases h : t < out.length
    · by_cases h2 : s < out.length
      · simp only [getD_snoc_lt h, getD_snoc_lt h2]; exact H.same t s h h2 e
      · have : s = out.length := by omega
        subst this
        exact absurd e (hn t h)
    · have : t = out.length := by omega
      subst this
      by_cases h2 : s < out.length
      · exact absurd e.symm (hn s h2)
      · have : s = out.length := by omega
        subst this
        rfl
theorem numb_old {α : Type} {a : Nat → α} {out : List Int} (H : IsNumb a out.length (fun i => out.getD i 0)) {j : Nat} (hj : j < out.length) (ej : a j = a out.length) : IsNumb a (out.length + 1) (fun i => (out ++ [out.getD j 0]).getD i 0) := by
  refine ⟨fun t ht hnt => ?_, fun t s ht hs e => ?_⟩
  · by_cases h : t < out.length
    · simp only [getD_snoc_lt h]; exact H.first t h hnt
    · have : t = out.length := by omega
      subst this
      exact absurd ej (hnt j hj)
  · by_cases h : t < out.length
    · by_cases h2 : s < out.length
      · simp only [getD_snoc_lt h, getD_snoc_lt h2]; exact H.same t s h h2 e
      · have : s = out.length := by omega
        subst this
        simp only [getD_snoc_lt h, getD_snoc_eq]
        exact H.same t j h hj (e.trans ej.symm)
    · have : t = out.length := by omega
      subst this
      by_cases h2 : s < out.length
      · simp only [getD_snoc_lt h2, getD_snoc_eq]
        exact H.same j s hj h2 (ej.trans e)
      · have : s = out.length := by omega
        subst this
        rfl
theorem keyAt {keys : List (List Int)} {i : Nat} (h : i < keys.length) : keys.getD i default = keys[i] := by
  simp [List.getD_eq_getElem?_getD, h]
theorem number_inner (keys : List (List Int)) (hk : keys.length ≤ 1048576) (hr : ∀ x ∈ keys, x.length ≤ 1048576) (out : List Int) (hi : out.length < keys.length) (hp : ∀ j (h : j < out.length), 0 ≤ out[j]) (next : Int) (n0 : 0 ≤ next) (n1 : next ≤ 1048576) (r : List Int)
    (hnew : newAt (fun i => keys.getD i default) out.length → Ev (fun k => spec_l4Number.l0 k keys (out ++ [next]) (next + 1) ((out.length + 1 : Nat) : Int)) r)
    (hold : ∀ j, j < out.length → keys.getD j default = keys.getD out.length default → Ev (fun k => spec_l4Number.l0 k keys (out ++ [out.getD j 0]) next ((out.length + 1 : Nat) : Int)) r) :
    Ev (fun k => spec_l4Number.l1 k keys out next (out.length : Int) (-1) 0) r := by
  have key := downs (P := fun c => (∀ j, j < c → keys.getD j default ≠ keys.getD out.length default) → Ev (fun k => spec_l4Number.l1 k keys out next (out.length : Int) (-1) (c : Int)) r) out.length
    (fun c hc ih hne => by
      refine Ev.step (f := fun k => spec_l4Number.j2 k keys out next (out.length : Int) (-1) (c : Int) true) (fun k => ?_) ?_
      · rw [spec_l4Number.l1, if_pos (by omega), decide_eq_true (show (-1 : Int) < 0 by omega)]
      have hc2 : c < keys.length := by omega
      refine Ev.step (f := fun k => (spec_l3Same.f k keys[c] keys[out.length]).bind fun t => if t = true then spec_l4Number.l1 k keys out next (out.length : Int) out[c] ((c + 1 : Nat) : Int) else spec_l4Number.l1 k keys out next (out.length : Int) (-1) ((c + 1 : Nat) : Int)) (fun k => ?_) (Ev.bind (l3Same_ev _ _ (hr _ (List.getElem_mem hc2))) ?_)
      · rw [spec_l4Number.j2, if_pos rfl, if_pos (by omega), if_pos (by omega), if_pos (by omega), if_pos (by omega), rdR_of hc2, rdR_of hi, w64 (by omega) (by omega)]
        congr 1
        funext t
        rw [if_pos (show (c : Int) < (out.length : Int) by omega), rd_of hc]
        rfl
      · by_cases e : keys[c] = keys[out.length]
        · simp only [decide_eq_true e, if_true]
          have hpc := hp c hc
          have h := hold c hc (by rw [keyAt hc2, keyAt hi]; exact e)
          have eg : out.getD c 0 = out[c] := by simp [List.getD_eq_getElem?_getD, hc]
          rw [eg] at h
          refine Ev.step (f := fun k => spec_l4Number.j2 k keys out next (out.length : Int) out[c] ((c + 1 : Nat) : Int) false) (fun k => ?_) (Ev.step (fun k => ?_) h)
          · rw [spec_l4Number.l1]
            by_cases q : ((c + 1 : Nat) : Int) < (out.length : Int)
            · rw [if_pos q, decide_eq_false (by omega)]
            · rw [if_neg q]
          · rw [spec_l4Number.j2, if_neg (by decide), if_neg (by omega), if_pos (by omega), w64 (by omega) (by omega)]
            rfl
        · simp only [decide_eq_false e, Bool.false_eq_true, if_false]
          refine ih (fun j hj => ?_)
          by_cases q : j = c
          · subst q
            rw [keyAt hc2, keyAt hi]
            exact e
          · exact hne j (by omega))
    (fun hne => by
      refine Ev.step (f := fun k => spec_l4Number.j2 k keys out next (out.length : Int) (-1) (out.length : Int) false) (fun k => ?_) (Ev.step (fun k => ?_) (hnew (fun j hj => hne j hj)))
      · rw [spec_l4Number.l1, if_neg (by omega)]
      · rw [spec_l4Number.j2, if_neg (by decide), if_pos (by omega), if_pos (by omega), w64 (by omega) (by omega), w64 (by omega) (by omega)]
        rfl)
  exact key 0 (by omega) (fun j hj => by omega)
theorem number_ev (keys : List (List Int)) (hk : keys.length ≤ 1048575) (hr : ∀ x ∈ keys, x.length ≤ 1048576) : ∃ c, Ev (fun k => spec_l4Number.f k keys) c ∧ NumL keys c := by
  have key := downs (P := fun i => ∀ out : List Int, out.length = i → IsNumb (fun i => keys.getD i default) i (fun j => out.getD j 0) → ∃ c, Ev (fun k => spec_l4Number.l0 k keys out ((cntN (fun i => keys.getD i default) i : Nat) : Int) (i : Int)) c ∧ NumL keys c) keys.length
    (fun i hi ih out ho hN => by
      subst ho
      have hcl := cntN_le (fun i => keys.getD i default) out.length
      have hp : ∀ j (h : j < out.length), 0 ≤ out[j] := fun j h => by
        have := (hN.lt h).1
        simpa [List.getD_eq_getElem?_getD, h] using this
      by_cases hn : newAt (fun i => keys.getD i default) out.length
      · obtain ⟨c, hc, hN2⟩ := ih (out ++ [((cntN (fun i => keys.getD i default) out.length : Nat) : Int)]) (by simp) (numb_new hN hn)
        rw [cntN_succ_new hn] at hc
        refine ⟨c, Ev.step (fun k => ?_) (number_inner keys (by omega) hr out hi hp (((cntN (fun i => keys.getD i default) out.length : Nat)) : Int) (by omega) (by omega) c (fun _ => ?_) (fun j hj e => absurd e (hn j hj))), hN2⟩
        · rw [spec_l4Number.l0, if_pos (by omega)]
        · refine Ev.congr (fun k => ?_) hc
          congr 1
      · have h' : ∃ k, k < out.length ∧ keys.getD k default = keys.getD out.length default := Classical.byContradiction fun h2 => hn fun k hk e => h2 ⟨k, hk, e⟩
        obtain ⟨j0, hj0, ej0⟩ := h'
        obtain ⟨c, hc, hN2⟩ := ih (out ++ [out.getD j0 0]) (by simp) (numb_old hN hj0 ej0)
        rw [cntN_succ_old hn] at hc
        refine ⟨c, Ev.step (fun k => ?_) (number_inner keys (by omega) hr out hi hp (((cntN (fun i => keys.getD i default) out.length : Nat)) : Int) (by omega) (by omega) c (fun h => absurd h hn) (fun j hj e => ?_)), hN2⟩
        · rw [spec_l4Number.l0, if_pos (by omega)]
        · have : out.getD j 0 = out.getD j0 0 := hN.same j j0 hj hj0 (e.trans ej0.symm)
          rw [this]
          exact hc)
    (fun out ho hN => by
      refine ⟨out, Ev.step (f := fun _ => some out) (fun k => ?_) (Ev.now _), ho, hN⟩
      rw [spec_l4Number.l0, if_neg (by omega)])
  obtain ⟨c, hc, hN⟩ := key 0 (by omega) [] rfl ⟨fun i hi => by omega, fun i j hi => by omega⟩
  exact ⟨c, hc, hN⟩

/-! Bfs -/
/-! A search by breadth over numbers (plain Lean). -/
def addOne (L : List Int) (x : Int) : List Int := if x ∈ L then L else L ++ [x]
def addAll (L xs : List Int) : List Int := xs.foldl addOne L
inductive Bfs (M : Int → List Int) : List Int → Nat → List Int → Prop
  | done {L : List Int} {k : Nat} : L.length ≤ k → Bfs M L k L
  | step {L F : List Int} {k : Nat} (h : k < L.length) : Bfs M (addAll L (M L[k])) (k + 1) F → Bfs M L k F
theorem addOne_pre (L : List Int) (x : Int) : L <+: addOne L x := by
  unfold addOne; split
  · exact List.prefix_refl _
  · exact List.prefix_append _ _
theorem addAll_cons (L : List Int) (x : Int) (xs : List Int) : addAll L (x :: xs) = addAll (addOne L x) xs := rfl
theorem addAll_nil (L : List Int) : addAll L [] = L := rfl
theorem addAll_pre (xs : List Int) : ∀ L : List Int, L <+: addAll L xs := by
  induction xs with
  | nil => exact fun L => List.prefix_refl _
  | cons x xs ih => exact fun L => (addOne_pre L x).trans (ih _)
theorem mem_addOne {L : List Int} {x y : Int} : y ∈ addOne L x ↔ y ∈ L ∨ y = x := by
  unfold addOne; split
  · rename_i h; constructor
    · exact Or.inl
    · rintro (g | rfl)
      · exact g
      · exact h
  · simp
theorem mem_addAll {xs : List Int} : ∀ {L : List Int} {y : Int}, y ∈ addAll L xs ↔ y ∈ L ∨ y ∈ xs := by
  induction xs with
  | nil => simp [addAll_nil]
  | cons x xs ih =>
    intro L y
    rw [addAll_cons, ih, mem_addOne, List.mem_cons, or_assoc]
theorem nodup_addOne {L : List Int} (h : L.Nodup) (x : Int) : (addOne L x).Nodup := by
  unfold addOne; split
  · exact h
  · rename_i g
    rw [List.nodup_append]
    refine ⟨h, by simp, ?_⟩
    intro a ha b hb e
    simp at hb
    subst hb; subst e
    exact g ha
theorem nodup_addAll (xs : List Int) : ∀ {L : List Int}, L.Nodup → (addAll L xs).Nodup := by
  induction xs with
  | nil => exact fun h => h
  | cons x xs ih => exact fun h => ih (nodup_addOne h x)
theorem Bfs.pre {M : Int → List Int} {L F : List Int} {k : Nat} (H : Bfs M L k F) : L <+: F := by
  induction H with
  | done _ => exact List.prefix_refl _
  | step h _ ih => exact (addAll_pre _ _).trans ih
theorem pre_get {L F : List Int} (h : L <+: F) {i : Nat} (hi : i < L.length) : ∃ hf : i < F.length, F[i] = L[i] := by
  obtain ⟨t, rfl⟩ := h
  exact ⟨by simp; omega, List.getElem_append_left hi⟩
theorem Bfs.nodup {M : Int → List Int} {L F : List Int} {k : Nat} (H : Bfs M L k F) (h : L.Nodup) : F.Nodup := by
  induction H with
  | done _ => exact h
  | step _ _ ih => exact ih (nodup_addAll _ h)
theorem Bfs.in {M : Int → List Int} {P : Int → Prop} (hM : ∀ v, P v → ∀ x ∈ M v, P x) {L F : List Int} {k : Nat} (H : Bfs M L k F) (h : ∀ x ∈ L, P x) : ∀ x ∈ F, P x := by
  induction H with
  | done _ => exact h
  | step hk _ ih =>
    refine ih fun x hx => ?_
    rcases mem_addAll.1 hx with g | g
    · exact h x g
    · exact hM _ (h _ (List.getElem_mem hk)) x g
/-- All that follows from a member is a member. -/
theorem Bfs.closed {M : Int → List Int} {L F : List Int} {k : Nat} (H : Bfs M L k F) : ∀ j (hj : j < F.length), k ≤ j → ∀ x ∈ M F[j], x ∈ F := by
  induction H with
  | done h => intro j hj hk; omega
  | @step L F k h H ih =>
    intro j hj hk x hx
    by_cases e : j = k
    · subst e
      obtain ⟨_, e2⟩ := pre_get ((addAll_pre (M L[j]) L).trans H.pre) h
      rw [e2] at hx
      exact H.pre.subset (mem_addAll.2 (Or.inr hx))
    · exact ih j hj (by omega) x hx
/-- A list without doublets of numbers below m has at most m of them. -/
theorem nodup_len (m : Nat) : ∀ L : List Int, L.Nodup → (∀ x ∈ L, 0 ≤ x ∧ x < (m : Int)) → L.length ≤ m := by
  induction m with
  | zero =>
    intro L _ h
    cases L with
    | nil => simp
    | cons x xs => have := h x (by simp); omega
  | succ m ih =>
    intro L hn h
    have h1 := ih (L.erase (m : Int)) (hn.erase _) (fun x hx => by
      have q := List.mem_of_mem_erase hx
      have := h x q
      have ne : x ≠ (m : Int) := by
        rintro rfl
        exact (List.Nodup.not_mem_erase hn) hx
      omega)
    by_cases hm : (m : Int) ∈ L
    · rw [List.length_erase_of_mem hm] at h1; omega
    · rw [List.erase_of_not_mem hm] at h1; omega
theorem Bfs.exist (M : Int → List Int) (m : Nat) (hM : ∀ v, (0 ≤ v ∧ v < (m : Int)) → ∀ x ∈ M v, 0 ≤ x ∧ x < (m : Int)) (L : List Int) (k : Nat) (hn : L.Nodup) (h : ∀ x ∈ L, 0 ≤ x ∧ x < (m : Int)) : ∃ F, Bfs M L k F := by
  have key : ∀ d, ∀ (L : List Int) (k : Nat), m ≤ k + d → L.Nodup → (∀ x ∈ L, 0 ≤ x ∧ x < (m : Int)) → ∃ F, Bfs M L k F := by
    intro d
    induction d with
    | zero =>
      intro L k hk hn h
      exact ⟨L, .done (by have := nodup_len m L hn h; omega)⟩
    | succ d ih =>
      intro L k hk hn h
      by_cases hl : L.length ≤ k
      · exact ⟨L, .done hl⟩
      · obtain ⟨F, hF⟩ := ih (addAll L (M (L[k]'(by omega)))) (k + 1) (by omega) (nodup_addAll _ hn) (fun x hx => by
          rcases mem_addAll.1 hx with g | g
          · exact h x g
          · exact hM _ (h _ (List.getElem_mem (by omega))) x g)
        exact ⟨F, .step (by omega) hF⟩
  exact key m L k (by omega) hn h
theorem idxOf_pre {L F : List Int} (h : L <+: F) {x : Int} (hx : x ∈ L) : F.idxOf x = L.idxOf x := by
  obtain ⟨t, rfl⟩ := h
  rw [List.idxOf_append, if_pos hx]
theorem idxOf_new {L : List Int} {x : Int} (hx : x ∉ L) : (L ++ [x]).idxOf x = L.length := by
  rw [List.idxOf_append, if_neg hx]
  simp

/-! Classes -/
/-! Classes that stand still, and what can be reached (plain Lean). -/
def inR (rows : List (List Int)) : Prop := ∀ i, i < rows.length → ∀ x ∈ rows.getD i [], 0 ≤ x ∧ x < (rows.length : Int)
open Classical in
noncomputable def repOf (e : List Int) (v : Int) : Nat := if h : ∃ i, i < e.length ∧ e.getD i 0 = v then Classical.choose h else 0
theorem repOf_spec {e : List Int} {v : Int} (h : ∃ i, i < e.length ∧ e.getD i 0 = v) : repOf e v < e.length ∧ e.getD (repOf e v) 0 = v := by
  unfold repOf
  rw [dif_pos h]
  exact Classical.choose_spec h
noncomputable def clM (rows : List (List Int)) (e : List Int) (v : Int) : List Int := (rows.getD (repOf e v) []).map (fun qq => e.getD qq.toNat 0)
theorem clM_of {rows : List (List Int)} {e : List Int} (H : NumL (keysL rows e) e) {i : Nat} (hi : i < rows.length) : clM rows e (e.getD i 0) = (rows.getD i []).map (fun qq => e.getD qq.toNat 0) := by
  have hl : e.length = rows.length := by rw [H.1, keysL_len]
  obtain ⟨a, b⟩ := repOf_spec (e := e) (v := e.getD i 0) ⟨i, by omega, rfl⟩
  exact still_next H (by omega) hi b
/-- If all that can be reached is alike at first, it is alike at last. -/
theorem Run.alike {rows : List (List Int)} {G : List Int} (hG : ∀ q ∈ G, 0 ≤ q ∧ q < (rows.length : Int)) (h0 : (0 : Int) ∈ G) (hc : ∀ q ∈ G, ∀ x ∈ rows.getD q.toNat [], x ∈ G)
    (m : Nat) (hm : ∀ i, i < rows.length → (rows.getD i []).length = m) {c e : List Int} (H : Run rows c e) (ha : ∀ q ∈ G, c.getD q.toNat 0 = c.getD 0 0) : ∀ q ∈ G, e.getD q.toNat 0 = e.getD 0 0 := by
  induction H with
  | stop _ => exact ha
  | @go c d e h _ _ ih =>
    refine ih fun q hq => ?_
    have hq1 := hG q hq
    have h01 := hG 0 h0
    refine h.2.same _ _ (by rw [keysL_len]; omega) (by rw [keysL_len]; omega) ?_
    have e1 := keysL_get (rows := rows) (c := c) (i := q.toNat) (by omega)
    have e2 := keysL_get (rows := rows) (c := c) (i := 0) (by omega)
    rw [e1, e2, keyOf, keyOf, ha q hq, List.cons.injEq]
    refine ⟨rfl, ?_⟩
    have hl1 := hm q.toNat (by omega)
    have hl2 := hm 0 (by omega)
    have k1 := hc q hq
    have k2 := hc 0 h0
    rw [show ((0 : Int)).toNat = 0 from rfl] at k2
    refine List.ext_getElem (by rw [List.length_map, List.length_map, hl1, hl2]) fun i h1 h2 => ?_
    simp only [List.length_map] at h1 h2
    simp only [List.getElem_map]
    rw [ha _ (k1 _ (List.getElem_mem h1)), ha _ (k2 _ (List.getElem_mem h2))]
/-! Reduce -/
def kb (b : Bool) : List Int := if b = true then [1] else [0]
theorem kb_inj {a b : Bool} (h : kb a = kb b) : a = b := by cases a <;> cases b <;> simp [kb] at h <;> rfl
theorem rowAt {rows : List (List Int)} {i : Nat} (h : i < rows.length) : rows.getD i [] = rows[i] := by simp [List.getD_eq_getElem?_getD, h]
theorem rowAt' {rows : List (List Int)} {i : Nat} (h : i < rows.length) : rd_L1 rows (i : Int) = rows.getD i [] := rfl
theorem RelW.inR {b t : Nat} {rows : List (List Int)} {acc : List Bool} (H : RelW b t rows acc) : inR rows := fun i hi x hx => (H.len i hi).2 x (by rw [rowAt hi] at hx; exact hx)
theorem RelW.rowlen {b t : Nat} {rows : List (List Int)} {acc : List Bool} (H : RelW b t rows acc) (i : Nat) (hi : i < rows.length) : (rows.getD i []).length = b ^ t := by rw [rowAt hi]; exact (H.len i hi).1
theorem RelW.pow27 {b t : Nat} {rows : List (List Int)} {acc : List Bool} (H : RelW b t rows acc) : b ^ t ≤ 9261 := pow_le16 b (by have := H.b3; omega) t H.t3
section
variable {b t : Int} {rows : List (List Int)} {acc : List Bool}
abbrev Red := Int × Int × (List (List Int)) × List Bool
theorem red_l0 (hl : acc.length ≤ 20000) {r : Red} {c0 : List Int} (hN : Ev (fun k => spec_l4Number.f k (acc.map kb)) c0) (h : Ev (fun k => spec_l13Reduce.l1 k b t rows acc c0 0) r) : Ev (fun k => spec_l13Reduce.f k b t rows acc) r := by
  have key := downs (P := fun i => Ev (fun k => spec_l13Reduce.l0 k b t rows acc ((acc.take i).map kb) (i : Int)) r) acc.length
    (fun i hi ih => by
      refine Ev.step (fun k => ?_) ih
      have e : rdOf false acc (i : Int) = acc[i] := by unfold rdOf; exact getD_of hi
      have hlen : ((acc.take i).map kb).length < 5864062014805 := by simp; omega
      rw [spec_l13Reduce.l0, if_pos (by omega), if_pos (by omega), e, List.take_succ_eq_append_getElem hi, List.map_append, w64 (by omega) (by omega), if_pos hlen, if_pos hlen]
      cases acc[i] <;> rfl)
    (by
      refine Ev.step (f := fun k => (spec_l4Number.f k (acc.map kb)).bind fun t271 => spec_l13Reduce.l1 k b t rows acc t271 0) (fun k => ?_) (Ev.bind hN h)
      rw [spec_l13Reduce.l0, if_neg (by omega), List.take_length])
  exact key 0 (by omega)
theorem red_l3 (hn : rows.length ≤ 20000) (hR : inR rows) {cls : List Int} (hc : cls.length = rows.length) (m : Int) (x9 : List (List Int)) (h9 : x9.length ≤ 20000) (i : Nat) (hi : i < rows.length) (hlen : (rows.getD i []).length ≤ 1000000) {r : Red}
    (h : Ev (fun k => spec_l13Reduce.l2 k b t rows acc (x9 ++ [keyOf rows cls i]) cls m ((i + 1 : Nat) : Int)) r) : Ev (fun k => spec_l13Reduce.l3 k b t rows acc x9 cls m (i : Int) [rd cls (i : Int)] 0) r := by
  have key := downs (P := fun c => Ev (fun k => spec_l13Reduce.l3 k b t rows acc x9 cls m (i : Int) (cls.getD i 0 :: (((rows.getD i []).take c).map (fun qq => cls.getD qq.toNat 0))) (c : Int)) r) (rows.getD i []).length
    (fun c hcl ih => by
      refine Ev.step (fun k => ?_) ih
      have hx := hR i hi (rows.getD i [])[c] (List.getElem_mem hcl)
      have e1 : rd (rows.getD i []) (c : Int) = (rows.getD i [])[c] := rd_of hcl
      rw [spec_l13Reduce.l3, if_pos (by omega), if_pos (by omega), rowAt' hi, if_pos (by omega), if_pos (by omega), e1, if_pos (by omega), if_pos (by omega), if_pos (by simp; omega), w64 (by omega) (by omega)]
      rw [List.take_succ_eq_append_getElem hcl, List.map_append]
      rfl)
    (by
      refine Ev.step (fun k => ?_) h
      rw [spec_l13Reduce.l3, if_pos (by omega), if_pos (by omega), rowAt' hi, if_neg (by omega), if_pos (by omega), w64 (by omega) (by omega), List.take_length]
      rfl)
  exact key 0 (by omega)
theorem red_l2 (hn : rows.length ≤ 20000) (hR : inR rows) (hw : ∀ i, i < rows.length → (rows.getD i []).length ≤ 1000000) {cls : List Int} (hc : cls.length = rows.length) (m : Nat) (hm : m < rows.length) {r : Red} {d : List Int} (hN : Ev (fun k => spec_l4Number.f k (keysL rows cls)) d) (hd : d.length = rows.length)
    (h : Ev (fun k => spec_l13Reduce.l1 k b t rows acc d (if d = cls then ((rows.length + 1 : Nat) : Int) else ((m + 1 : Nat) : Int))) r) : Ev (fun k => spec_l13Reduce.l1 k b t rows acc cls (m : Int)) r := by
  have key := downs (P := fun i => Ev (fun k => spec_l13Reduce.l2 k b t rows acc ((List.range i).map (keyOf rows cls)) cls (m : Int) (i : Int)) r) rows.length
    (fun i hi ih => by
      refine Ev.step (fun k => ?_) (red_l3 (b := b) (t := t) (acc := acc) (cls := cls) hn hR hc (m : Int) ((List.range i).map (keyOf rows cls)) (by simp; omega) i hi (hw i hi) (Ev.congr (fun k => ?_) ih))
      · rw [spec_l13Reduce.l2, if_pos (by omega), if_pos (by omega), if_pos (by omega)]
      · rw [List.range_succ, List.map_append]
        rfl)
    (by
      refine Ev.step (f := fun k => (spec_l4Number.f k (keysL rows cls)).bind fun t291 => (spec_l3Same.f k t291 cls).bind fun t294 => if t294 = true then spec_l13Reduce.l1 k b t rows acc t291 ((rows.length + 1 : Nat) : Int) else spec_l13Reduce.l1 k b t rows acc t291 ((m + 1 : Nat) : Int)) (fun k => ?_) (Ev.bind hN (Ev.bind (l3Same_ev d cls (by omega)) ?_))
      · rw [spec_l13Reduce.l2, if_neg (by omega), w64 (by omega) (by omega), w64 (by omega) (by omega)]
        rfl
      · by_cases e : d = cls
        · simp only [decide_eq_true e, if_true]
          rw [if_pos e] at h
          exact h
        · simp only [decide_eq_false e, Bool.false_eq_true, if_false]
          rw [if_neg e] at h
          exact h)
  refine Ev.step (fun k => ?_) (key 0 (by omega))
  rw [spec_l13Reduce.l1, if_pos (by omega)]
  rfl
/-- The rounds of the classes: from classes with more than m values on, on both ways the same end. -/
theorem red_rounds (hn : rows.length ≤ 20000) (hR : inR rows) (hw : ∀ i, i < rows.length → (rows.getD i []).length ≤ 1000000) : ∀ m, m ≤ rows.length → ∀ (α : Type) [Inhabited α] (a : List α) (c : List Int), a.length = rows.length → NumL a c → m + 1 ≤ cntL a →
    ∃ e, Run rows c e ∧ ∀ r : Red, Ev (fun k => spec_l13Reduce.l4 k rows acc e [0] 0 b t [] []) r → Ev (fun k => spec_l13Reduce.l1 k b t rows acc c (m : Int)) r := by
  have key : ∀ d m, m + d = rows.length → ∀ (α : Type) [Inhabited α] (a : List α) (c : List Int), a.length = rows.length → NumL a c → m + 1 ≤ cntL a →
      ∃ e, Run rows c e ∧ ∀ r : Red, Ev (fun k => spec_l13Reduce.l4 k rows acc e [0] 0 b t [] []) r → Ev (fun k => spec_l13Reduce.l1 k b t rows acc c (m : Int)) r := by
    intro d
    induction d with
    | zero =>
      intro m hm α _ a c hl hN hcnt
      have := cntL_le a
      omega
    | succ d ih =>
      intro m hm α _ a c hl hN hcnt
      have hkl : (keysL rows c).length = rows.length := keysL_len rows c
      obtain ⟨d', hd', hN'⟩ := number_ev (keysL rows c) (by omega) (fun x hx => by
        obtain ⟨i, hi, rfl⟩ := List.mem_map.1 hx
        have := hw i (List.mem_range.1 hi)
        simp [keyOf] at this ⊢
        omega)
      have hdl : d'.length = rows.length := by rw [hN'.1, hkl]
      have hcl : c.length = rows.length := by rw [hN.1, hl]
      by_cases e : d' = c
      · refine ⟨c, .stop (e ▸ hN'), fun r hr => ?_⟩
        refine red_l2 hn hR hw hcl m (by omega) hd' hdl ?_
        rw [if_pos e]
        refine Ev.step (fun k => ?_) (by rw [← e] at hr; exact hr)
        rw [spec_l13Reduce.l1, if_neg (by omega)]
      · have hlt : cntL a < cntL (keysL rows c) := by
          have h1 := round_le hN hl
          rcases Nat.lt_or_ge (cntL a) (cntL (keysL rows c)) with g | g
          · exact g
          · exact absurd (round_same hN hN' hl (by omega)) e
        obtain ⟨e', hrun, hk⟩ := ih (m + 1) (by omega) (List Int) (keysL rows c) d' hkl hN' (by omega)
        refine ⟨e', .go hN' e hrun, fun r hr => ?_⟩
        refine red_l2 hn hR hw hcl m (by omega) hd' hdl ?_
        rw [if_neg e]
        exact hk r hr
  intro m hm
  exact key (rows.length - m) m (by omega)
end

/-! Reduce2 -/
theorem idxOf_first {L : List Int} {x : Int} {m : Nat} (hm : m < L.length) (e : L[m] = x) (h : ∀ j (hj : j < m), L[j]'(by omega) ≠ x) : L.idxOf x = m := by
  unfold List.idxOf
  rw [List.findIdx_eq hm]
  refine ⟨by simp [e], fun j hj => by simpa using h j hj⟩
def clO (e : List Int) (q : Int) : Int := e.getD q.toNat 0
structure OkO (n : Nat) (e O : List Int) : Prop where
  inr : ∀ x ∈ O, 0 ≤ x ∧ x < (n : Int)
  nod : (O.map (clO e)).Nodup
theorem OkO.len {n : Nat} {e O : List Int} (H : OkO n e O) (he : ∀ i, i < n → 0 ≤ e.getD i 0 ∧ e.getD i 0 < (n : Int)) : O.length ≤ n := by
  have := nodup_len n (O.map (clO e)) H.nod (fun x hx => by
    obtain ⟨q, hq, rfl⟩ := List.mem_map.1 hx
    have := H.inr q hq
    exact he q.toNat (by omega))
  rwa [List.length_map] at this
noncomputable def accF (e : List Int) (acc : List Bool) (v : Int) : Bool := acc.getD (repOf e v) false
noncomputable def rowF (rows : List (List Int)) (e F : List Int) (v : Int) : List Int := (clM rows e v).map (fun x => ((F.idxOf x : Nat) : Int))
section
variable {b t : Int} {rows : List (List Int)} {acc : List Bool} {e : List Int}
theorem red_search (hn : rows.length ≤ 20000) (he : e.length = rows.length) {O : List Int} (hO : ∀ x ∈ O, 0 ≤ x ∧ x < (rows.length : Int)) (hol : O.length ≤ 20000) (i : Int) {row : List Int} (hrl : row.length ≤ 1000000) (c : Nat) (hc : c ≤ 1000000) {q : Int} (q0 : 0 ≤ q) (q1 : q < (rows.length : Int)) (nx : List (List Int)) (ac : List Bool) {r : Red}
    (hin : clO e q ∈ O.map (clO e) → Ev (fun k => spec_l13Reduce.l5 k rows acc e O i (row ++ [(((O.map (clO e)).idxOf (clO e q) : Nat) : Int)]) ((c + 1 : Nat) : Int) b t nx ac) r)
    (hout : clO e q ∉ O.map (clO e) → Ev (fun k => spec_l13Reduce.l5 k rows acc e (O ++ [q]) i (row ++ [(O.length : Int)]) ((c + 1 : Nat) : Int) b t nx ac) r) :
    Ev (fun k => spec_l13Reduce.l6 k rows acc e O i row (c : Int) q (-1) 0 b t nx ac) r := by
  have key := downs (P := fun m => (∀ j (hj : j < O.length), j < m → clO e O[j] ≠ clO e q) → Ev (fun k => spec_l13Reduce.l6 k rows acc e O i row (c : Int) q (-1) (m : Int) b t nx ac) r) O.length
    (fun m hm ih hne => by
      have hx := hO O[m] (List.getElem_mem hm)
      refine Ev.step (f := fun k => spec_l13Reduce.j7 k rows acc e O i row (c : Int) q (-1) (m : Int) true b t nx ac) (fun k => ?_) ?_
      · rw [spec_l13Reduce.l6, if_pos (by omega), decide_eq_true (show (-1 : Int) < 0 by omega)]
      by_cases hq : clO e O[m] = clO e q
      · have hmem : clO e q ∈ O.map (clO e) := List.mem_map.2 ⟨O[m], List.getElem_mem hm, hq⟩
        have hidx : (O.map (clO e)).idxOf (clO e q) = m := idxOf_first (by simpa using hm) (by simpa using hq) (fun j hj => by simpa using hne j (by omega) hj)
        have h := hin hmem
        rw [hidx] at h
        refine Ev.step (f := fun k => spec_l13Reduce.l6 k rows acc e O i row (c : Int) q (m : Int) ((m + 1 : Nat) : Int) b t nx ac) (fun k => ?_) (Ev.step (f := fun k => spec_l13Reduce.j7 k rows acc e O i row (c : Int) q (m : Int) ((m + 1 : Nat) : Int) false b t nx ac) (fun k => ?_) (Ev.step (fun k => ?_) h))
        · rw [spec_l13Reduce.j7, if_pos rfl, if_pos (by omega), if_pos (by omega), rd_of hm, if_pos (by omega), if_pos (by omega), if_pos (by omega), if_pos (by omega), if_pos (show rd e O[m] = rd e q from hq), w64 (by omega) (by omega)]
          rfl
        · rw [spec_l13Reduce.l6]
          by_cases g : ((m + 1 : Nat) : Int) < (O.length : Int)
          · rw [if_pos g, decide_eq_false (by omega)]
          · rw [if_neg g]
        · rw [spec_l13Reduce.j7, if_neg (by decide), if_neg (by omega), if_pos (by omega), w64 (by omega) (by omega)]
          rfl
      · refine Ev.step (fun k => ?_) (ih (fun j hj hj2 => ?_))
        · rw [spec_l13Reduce.j7, if_pos rfl, if_pos (by omega), if_pos (by omega), rd_of hm, if_pos (by omega), if_pos (by omega), if_pos (by omega), if_pos (by omega), if_neg (show ¬ rd e O[m] = rd e q from hq), w64 (by omega) (by omega)]
          rfl
        · by_cases g : j = m
          · subst g; exact hq
          · exact hne j hj (by omega))
    (fun hne => by
      have hnot : clO e q ∉ O.map (clO e) := fun hmem => by
        obtain ⟨y, hy, ey⟩ := List.mem_map.1 hmem
        obtain ⟨j, hj, rfl⟩ := List.getElem_of_mem hy
        exact hne j hj hj ey
      refine Ev.step (f := fun k => spec_l13Reduce.j7 k rows acc e O i row (c : Int) q (-1) (O.length : Int) false b t nx ac) (fun k => ?_) (Ev.step (fun k => ?_) (hout hnot))
      · rw [spec_l13Reduce.l6, if_neg (by omega)]
      · rw [spec_l13Reduce.j7, if_neg (by decide), if_pos (by omega), if_pos (by omega), if_pos (by omega), w64 (by omega) (by omega)]
        rfl)
  exact key 0 (by omega) (fun j hj h => by omega)
theorem red_row (hn : rows.length ≤ 20000) (hR : inR rows) (he : e.length = rows.length) (hev : ∀ i, i < rows.length → 0 ≤ e.getD i 0 ∧ e.getD i 0 < (rows.length : Int)) (hal : acc.length = rows.length) (hw : ∀ i, i < rows.length → (rows.getD i []).length ≤ 10000)
    (i : Nat) (hi : i ≤ 20000) (q : Nat) (hq : q < rows.length) (nx : List (List Int)) (ac : List Bool) (hnx : nx.length ≤ 20000) (hac : ac.length ≤ 20000) {r : Red} :
    ∀ c, c ≤ (rows.getD q []).length → ∀ O row : List Int, OkO rows.length e O → O[i]? = some (q : Int) → row.length = c →
      (∀ O', OkO rows.length e O' → O'[i]? = some (q : Int) → O'.map (clO e) = addAll (O.map (clO e)) (((rows.getD q []).drop c).map (clO e)) → Ev (fun k => spec_l13Reduce.l4 k rows acc e O' ((i + 1 : Nat) : Int) b t (nx ++ [row ++ (((rows.getD q []).drop c).map (clO e)).map (fun x => (((O'.map (clO e)).idxOf x : Nat) : Int))]) (ac ++ [acc.getD q false])) r) →
      Ev (fun k => spec_l13Reduce.l5 k rows acc e O (i : Int) row (c : Int) b t nx ac) r := by
  have hlenq := hw q hq
  exact downs (P := fun c => ∀ O row : List Int, OkO rows.length e O → O[i]? = some (q : Int) → row.length = c →
      (∀ O', OkO rows.length e O' → O'[i]? = some (q : Int) → O'.map (clO e) = addAll (O.map (clO e)) (((rows.getD q []).drop c).map (clO e)) → Ev (fun k => spec_l13Reduce.l4 k rows acc e O' ((i + 1 : Nat) : Int) b t (nx ++ [row ++ (((rows.getD q []).drop c).map (clO e)).map (fun x => (((O'.map (clO e)).idxOf x : Nat) : Int))]) (ac ++ [acc.getD q false])) r) →
      Ev (fun k => spec_l13Reduce.l5 k rows acc e O (i : Int) row (c : Int) b t nx ac) r) (rows.getD q []).length
    (fun c hc ih O row hO hOi hrow h => by
      obtain ⟨hil, hiv⟩ := List.getElem?_eq_some_iff.1 hOi
      have hol := hO.len hev
      have hto := hR q hq (rows.getD q [])[c] (List.getElem_mem hc)
      have ro : rd O (i : Int) = (q : Int) := (rd_of hil).trans hiv
      refine Ev.step (f := fun k => spec_l13Reduce.l6 k rows acc e O (i : Int) row (c : Int) (rows.getD q [])[c] (-1) 0 b t nx ac) (fun k => ?_) ?_
      · rw [spec_l13Reduce.l5, if_pos (by omega), if_pos (by omega), ro, if_pos (by omega), if_pos (by omega), rowAt' hq, if_pos (by omega), if_pos (by omega), rd_of hc]
      refine red_search hn he hO.inr (by omega) (i : Int) (by omega) c (by omega) hto.1 hto.2 nx ac (fun hmem => ?_) (fun hnot => ?_)
      · refine ih O _ hO hOi (by simp [hrow]) (fun O' hO' hOi' hmap => ?_)
        have e1 : addAll (O.map (clO e)) (((rows.getD q []).drop c).map (clO e)) = addAll (O.map (clO e)) (((rows.getD q []).drop (c + 1)).map (clO e)) := by
          rw [drop_at hc, List.map_cons, addAll_cons, addOne, if_pos hmem]
        have h2 := h O' hO' hOi' (hmap.trans e1.symm)
        rw [drop_at hc, List.map_cons, List.map_cons] at h2
        have e2 : (O'.map (clO e)).idxOf (clO e (rows.getD q [])[c]) = (O.map (clO e)).idxOf (clO e (rows.getD q [])[c]) := by
          rw [hmap]; exact idxOf_pre (addAll_pre _ _) hmem
        rw [e2] at h2
        rw [List.append_assoc]
        exact h2
      · have hO2 : OkO rows.length e (O ++ [(rows.getD q [])[c]]) := ⟨fun x hx => by
            rcases List.mem_append.1 hx with g | g
            · exact hO.inr x g
            · rw [List.mem_singleton] at g; rw [g]; exact hto, by
            have := nodup_addOne hO.nod (clO e (rows.getD q [])[c])
            rw [addOne, if_neg hnot] at this
            simpa using this⟩
        refine ih _ _ hO2 (by rw [List.getElem?_append_left hil]; exact hOi) (by simp [hrow]) (fun O' hO' hOi' hmap => ?_)
        have e1 : addAll (O.map (clO e)) (((rows.getD q []).drop c).map (clO e)) = addAll ((O ++ [(rows.getD q [])[c]]).map (clO e)) (((rows.getD q []).drop (c + 1)).map (clO e)) := by
          rw [drop_at hc, List.map_cons, addAll_cons, addOne, if_neg hnot, List.map_append]
          rfl
        have h2 := h O' hO' hOi' (hmap.trans e1.symm)
        rw [drop_at hc, List.map_cons, List.map_cons] at h2
        have e2 : (O'.map (clO e)).idxOf (clO e (rows.getD q [])[c]) = O.length := by
          have hm2 : clO e (rows.getD q [])[c] ∈ (O ++ [(rows.getD q [])[c]]).map (clO e) := by simp
          rw [hmap, idxOf_pre (addAll_pre _ _) hm2, List.map_append]
          have := idxOf_new hnot
          rw [List.length_map] at this
          exact this
        rw [e2] at h2
        rw [List.append_assoc]
        exact h2)
    (fun O row hO hOi hrow h => by
      obtain ⟨hil, hiv⟩ := List.getElem?_eq_some_iff.1 hOi
      have ro : rd O (i : Int) = (q : Int) := (rd_of hil).trans hiv
      have h2 := h O hO hOi (by rw [List.drop_length]; rfl)
      rw [List.drop_length, List.map_nil, List.map_nil, List.append_nil] at h2
      refine Ev.step (fun k => ?_) h2
      rw [spec_l13Reduce.l5, if_pos (by omega), if_pos (by omega), ro, if_pos (by omega), if_pos (by omega), rowAt' hq, if_neg (by omega), if_pos (by omega), if_pos (by omega), if_pos (by omega), w64 (by omega) (by omega)]
      rfl)
theorem red_bfs (hn : rows.length ≤ 20000) (hR : inR rows) (hS : NumL (keysL rows e) e) (hal : acc.length = rows.length) (hw : ∀ i, i < rows.length → (rows.getD i []).length ≤ 10000)
    (hacc : ∀ i j, i < rows.length → j < rows.length → e.getD i 0 = e.getD j 0 → acc.getD i false = acc.getD j false) {L F : List Int} {i : Nat} (H : Bfs (clM rows e) L i F) :
    ∀ O nx ac, O.map (clO e) = L → OkO rows.length e O → nx.length = i → ac.length = i → Ev (fun k => spec_l13Reduce.l4 k rows acc e O (i : Int) b t nx ac) (b, t, nx ++ (F.drop i).map (rowF rows e F), ac ++ (F.drop i).map (accF e acc)) := by
  have he : e.length = rows.length := by rw [hS.1, keysL_len]
  have hev : ∀ i, i < rows.length → 0 ≤ e.getD i 0 ∧ e.getD i 0 < (rows.length : Int) := fun i hi => by
    have h1 := hS.2.lt (show i < (keysL rows e).length by rw [keysL_len]; exact hi)
    have h2 := cntN_le (fun i => (keysL rows e).getD i default) (keysL rows e).length
    rw [keysL_len] at h1 h2
    omega
  induction H with
  | @done L k hk =>
    intro O nx ac hm hO h1 h2
    have hlO : O.length = L.length := by rw [← hm, List.length_map]
    refine Ev.step (f := fun _ => some _) (fun k => ?_) (Ev.eq (Ev.now _) (show (b, t, nx, ac) = _ from by rw [List.drop_of_length_le hk, List.map_nil, List.map_nil, List.append_nil, List.append_nil]))
    rw [spec_l13Reduce.l4, if_neg (by omega)]
  | @step L F k hk H ih =>
    intro O nx ac hm hO h1 h2
    have hlO : O.length = L.length := by rw [← hm, List.length_map]
    have hol := hO.len hev
    have hq := hO.inr (O[k]'(by omega)) (List.getElem_mem (by omega))
    obtain ⟨q, hq0⟩ : ∃ q : Nat, O[k]'(by omega) = (q : Int) := ⟨(O[k]'(by omega)).toNat, by omega⟩
    have hql : q < rows.length := by omega
    have hLk : L[k] = clO e (q : Int) := by
      have : L[k] = (O.map (clO e))[k]'(by simp; omega) := by simp only [hm]
      rw [this, List.getElem_map, hq0]
    have hM : clM rows e L[k] = (rows.getD q []).map (clO e) := by
      rw [hLk]
      exact clM_of hS hql
    refine Ev.step (fun k' => ?_) (red_row (b := b) (t := t) hn hR he hev hal hw k (by omega) q hql nx ac (by omega) (by omega) 0 (by omega) O [] hO (by rw [List.getElem?_eq_getElem (by omega), hq0]) rfl (fun O' hO' hOi' hmap => ?_))
    · rw [spec_l13Reduce.l4, if_pos (by omega)]
      rfl
    · rw [List.drop_zero] at hmap ⊢
      rw [hm, ← hM] at hmap
      have hpre : O'.map (clO e) <+: F := hmap ▸ H.pre
      have h3 := ih O' (nx ++ [[] ++ ((rows.getD q []).map (clO e)).map (fun x => (((O'.map (clO e)).idxOf x : Nat) : Int))]) (ac ++ [acc.getD q false]) hmap hO' (by simp [h1]) (by simp [h2])
      refine Ev.eq h3 ?_
      have hkF : k < F.length := by
        have := (addAll_pre (clM rows e L[k]) L).trans H.pre
        obtain ⟨hf, _⟩ := pre_get this hk
        exact hf
      have hFk : F[k] = L[k] := (pre_get ((addAll_pre (clM rows e L[k]) L).trans H.pre) hk).2
      rw [drop_at hkF, List.map_cons, List.map_cons, hFk]
      have e1 : ((rows.getD q []).map (clO e)).map (fun x => (((O'.map (clO e)).idxOf x : Nat) : Int)) = rowF rows e F L[k] := by
        unfold rowF
        rw [hM]
        refine List.map_congr_left fun x hx => ?_
        have hx2 : x ∈ O'.map (clO e) := by
          rw [hmap, hM]
          exact mem_addAll.2 (Or.inr hx)
        rw [idxOf_pre hpre hx2]
      have e2 : acc.getD q false = accF e acc L[k] := by
        unfold accF
        obtain ⟨a1, a2⟩ := repOf_spec (e := e) (v := L[k]) ⟨q, by omega, by rw [hLk]; rfl⟩
        refine hacc q _ hql (by omega) ?_
        rw [a2, hLk]
        rfl
      rw [List.nil_append, e1, e2, List.append_assoc, List.append_assoc]
      rfl
end
/-- Rows and marks of any automaton that the reduction is called with. -/
structure RelG (m : Nat) (rows : List (List Int)) (acc : List Bool) : Prop where
  n1 : 1 ≤ rows.length
  nN : rows.length ≤ 20000
  al : acc.length = rows.length
  mm : m ≤ 10000
  len : ∀ i, i < rows.length → (rows.getD i []).length = m
  inR : inR rows
theorem RelW.toG {b t : Nat} {rows : List (List Int)} {acc : List Bool} (H : RelW b t rows acc) : RelG (b ^ t) rows acc := ⟨H.n1, by have := H.n48; omega, H.al, by have := H.pow27; omega, H.rowlen, H.inR⟩
structure Red3 (rows : List (List Int)) (acc : List Bool) (c0 e F : List Int) : Prop where
  numb : NumL (acc.map kb) c0
  run : Run rows c0 e
  bfs : Bfs (clM rows e) [e.getD 0 0] 0 F
  same : ∀ i j, i < rows.length → j < rows.length → e.getD i 0 = e.getD j 0 → acc.getD i false = acc.getD j false
theorem run_range {rows : List (List Int)} {c e : List Int} (H : Run rows c e) {i : Nat} (hi : i < rows.length) : 0 ≤ e.getD i 0 ∧ e.getD i 0 < (rows.length : Int) := by
  have h1 := H.still.2.lt (show i < (keysL rows e).length by rw [keysL_len]; exact hi)
  have h2 := cntN_le (fun i => (keysL rows e).getD i default) (keysL rows e).length
  rw [keysL_len] at h1 h2
  omega
theorem clM_range {rows : List (List Int)} {c e : List Int} (hR : inR rows) (H : Run rows c e) (v : Int) : ∀ x ∈ clM rows e v, 0 ≤ x ∧ x < (rows.length : Int) := by
  intro x hx
  unfold clM at hx
  obtain ⟨y, hy, rfl⟩ := List.mem_map.1 hx
  by_cases hr : repOf e v < rows.length
  · have := hR _ hr y hy
    exact run_range H (by omega)
  · rw [List.getD_eq_getElem?_getD, List.getElem?_eq_none (by omega)] at hy
    simp at hy
theorem reduceG_ev {m : Nat} {rows : List (List Int)} {acc : List Bool} (b t : Int) (H : RelG m rows acc) : ∃ c0 e F, Red3 rows acc c0 e F ∧
    Ev (fun k => spec_l13Reduce.f k b t rows acc) (b, t, F.map (rowF rows e F), F.map (accF e acc)) := by
  have hn := H.nN
  have hal := H.al
  have hR := H.inR
  have hw : ∀ i, i < rows.length → (rows.getD i []).length ≤ 10000 := fun i hi => by
    rw [H.len i hi]
    exact H.mm
  obtain ⟨c0, hc0, hN0⟩ := number_ev (acc.map kb) (by simp; omega) (fun x hx => by
    obtain ⟨y, _, rfl⟩ := List.mem_map.1 hx
    cases y <;> simp [kb])
  have hkl : (acc.map kb).length = rows.length := by rw [List.length_map, hal]
  obtain ⟨e, hrun, hk⟩ := red_rounds (b := b) (t := t) (acc := acc) (by omega) hR (fun i hi => by have := hw i hi; omega) 0 (by omega) (List Int) (acc.map kb) c0 hkl hN0 (cntL_pos (by have := H.n1; omega))
  have hS := hrun.still
  have he : e.length = rows.length := by rw [hS.1, keysL_len]
  have hacc : ∀ i j, i < rows.length → j < rows.length → e.getD i 0 = e.getD j 0 → acc.getD i false = acc.getD j false := fun i j hi hj q => by
    have h1 := hN0.2.inj (by omega) (by omega) (hrun.finer i j hi hj q)
    have g : ∀ i, i < rows.length → (acc.map kb).getD i default = kb (acc.getD i false) := fun i hi => by
      simp [List.getD_eq_getElem?_getD, show i < acc.length by omega]
    rw [g i hi, g j hj] at h1
    exact kb_inj h1
  obtain ⟨F, hF⟩ := Bfs.exist (clM rows e) rows.length (fun v _ x hx => clM_range hR hrun v x hx) [e.getD 0 0] 0 (by simp) (fun x hx => by
    rw [List.mem_singleton] at hx
    rw [hx]
    exact run_range hrun (by have := H.n1; omega))
  refine ⟨c0, e, F, ⟨hN0, hrun, hF, hacc⟩, ?_⟩
  refine red_l0 (by omega) hc0 (hk _ ?_)
  have h0 := red_bfs (b := b) (t := t) (acc := acc) (by omega) hR hS hal hw hacc hF [0] [] [] rfl ⟨fun x hx => by
    rw [List.mem_singleton] at hx
    have := H.n1
    omega, by simp⟩ rfl rfl
  exact Ev.eq h0 (by rw [List.drop_zero]; rfl)
/-! Reached -/
/-- The list of what has been seen. -/
structure SeenOk (n : Nat) (S : List Bool) (L : List Int) : Prop where
  len : S.length = n
  inr : ∀ x ∈ L, 0 ≤ x ∧ x < (n : Int)
  nod : L.Nodup
  iff : ∀ i, i < n → (S.getD i false = true ↔ (i : Int) ∈ L)
theorem SeenOk.le {n : Nat} {S : List Bool} {L : List Int} (H : SeenOk n S L) : L.length ≤ n := nodup_len n L H.nod H.inr
/-! Numbered -/
/-! Minimal -/
theorem Bfs.uniq {M : Int → List Int} {L F G : List Int} {k : Nat} (H : Bfs M L k F) (K : Bfs M L k G) : F = G := by
  induction H with
  | done h =>
    cases K with
    | done _ => rfl
    | step h2 _ => omega
  | step h _ ih =>
    cases K with
    | done h2 => omega
    | step h2 K => exact ih K
theorem Bfs.congr {M M' : Int → List Int} {L F : List Int} {k : Nat} (H : Bfs M L k F) : (∀ v ∈ F, M v = M' v) → Bfs M' L k F := by
  induction H with
  | done h => exact fun _ => .done h
  | @step L F k h H ih =>
    intro hM
    have hp := (addAll_pre (M L[k]) L).trans H.pre
    have e := hM L[k] (hp.subset (List.getElem_mem h))
    refine .step h ?_
    rw [← e]
    exact ih hM
section
variable {rows : List (List Int)}
end
/-! Reduced -/
abbrev RelR := Int × Int × (List (List Int)) × List Bool × Bool
structure SmallR (r : RelR) : Prop where
  n : r.2.2.1.length ≤ 1048576
  row : ∀ x ∈ r.2.2.1, x.length ≤ 1048576
  acc : r.2.2.2.1.length ≤ 1048576
theorem SmallR.none : SmallR (0, 0, [], [], false) := ⟨by simp, fun x hx => by simp at hx, by simp⟩
theorem RelG.small {m : Nat} {rows : List (List Int)} {acc : List Bool} (H : RelG m rows acc) (b t : Int) (o : Bool) : SmallR (b, t, rows, acc, o) := by
  refine ⟨by have := H.nN; show rows.length ≤ _; omega, fun x hx => ?_, by have := H.nN; have := H.al; show acc.length ≤ _; omega⟩
  obtain ⟨i, hi, rfl⟩ := List.getElem_of_mem hx
  have h1 := H.len i hi
  rw [rowAt hi] at h1
  have := H.mm
  omega

/-! l4Has -/
theorem l4Has_ev (l : List Int) (a : Int) (hl : l.length ≤ 4611686018427387904) : Ev (fun k => spec_l4Has.f k l a) (decide (a ∈ l)) := by
  have key := downs (P := fun i => Ev (fun k => spec_l4Has.l0 k l a (i : Int)) (decide (a ∈ l.drop i))) l.length
    (fun i hi ih => by
      rw [drop_at hi]
      by_cases e : l[i] = a
      · refine Ev.step (f := fun _ => some true) (fun k => ?_) (Ev.eq (Ev.now _) (by simp [e]))
        rw [spec_l4Has.l0, if_pos (by omega), if_pos (by omega), rd_of hi, if_pos e]
      · refine Ev.step (fun k => ?_) (Ev.eq ih (decide_eq_decide.2 ⟨fun h => List.mem_cons.2 (Or.inr h), fun h => (List.mem_cons.1 h).resolve_left (fun h => e h.symm)⟩))
        rw [spec_l4Has.l0, if_pos (by omega), if_pos (by omega), rd_of hi, if_neg e, w64 (by omega) (by omega)]
        rfl)
    (by
      refine Ev.step (f := fun _ => some false) (fun k => ?_) (Ev.eq (Ev.now _) (by simp))
      rw [spec_l4Has.l0, if_neg (by omega)])
  exact key 0 (by omega)

/-! Finite -/
/-! An automaton as it is walked (plain Lean). -/
def stp (rows : List (List Int)) (q l : Nat) : Nat := ((rows.getD q []).getD l 0).toNat
def rn (rows : List (List Int)) : Nat → List Nat → Nat
  | q, [] => q
  | q, l :: w => rn rows (stp rows q l) w
theorem rn_append (rows : List (List Int)) : ∀ (u w : List Nat) (q : Nat), rn rows q (u ++ w) = rn rows (rn rows q u) w
  | [], w, q => rfl
  | l :: u, w, q => rn_append rows u w (stp rows q l)
def ltr (m : Nat) (w : List Nat) : Prop := ∀ l ∈ w, l < m
theorem ltr_append {m : Nat} {u w : List Nat} : ltr m (u ++ w) ↔ ltr m u ∧ ltr m w := by
  simp only [ltr, List.mem_append]
  exact ⟨fun h => ⟨fun l hl => h l (.inl hl), fun l hl => h l (.inr hl)⟩, fun h l hl => hl.elim (h.1 l) (h.2 l)⟩
theorem ltr_cons {m l : Nat} {w : List Nat} : ltr m (l :: w) ↔ l < m ∧ ltr m w := by
  simp only [ltr, List.mem_cons, forall_eq_or_imp]
structure Auto (n m : Nat) (rows : List (List Int)) (acc : List Bool) : Prop where
  len : rows.length = n
  row : ∀ q, q < n → (rows.getD q []).length = m
  lt : ∀ q l, q < n → l < m → stp rows q l < n
  al : acc.length = n
theorem Auto.rn_lt {n m : Nat} {rows : List (List Int)} {acc : List Bool} (H : Auto n m rows acc) : ∀ (w : List Nat) (q : Nat), q < n → ltr m w → rn rows q w < n
  | [], q, hq, _ => hq
  | l :: w, q, hq, hw => H.rn_lt w _ (H.lt q l hq (ltr_cons.1 hw).1) (ltr_cons.1 hw).2
/-- two of more places than values are alike -/
theorem pigeon (n : Nat) (f : Nat → Nat) (h : ∀ i, i ≤ n → f i < n) : ∃ i j, i < j ∧ j ≤ n ∧ f i = f j := by
  refine Classical.byContradiction fun hc => ?_
  have hn : ((List.range (n + 1)).map (fun i => (f i : Int))).Nodup := by
    rw [List.nodup_iff_pairwise_ne] 
    rw [List.pairwise_map]
    refine List.pairwise_iff_getElem.2 fun i j hi hj hij => ?_
    simp only [List.getElem_range]
    simp only [List.length_range] at hi hj
    intro e
    exact hc ⟨i, j, hij, by omega, by omega⟩
  have := nodup_len n _ hn (fun x hx => by
    obtain ⟨i, hi, rfl⟩ := List.mem_map.1 hx
    have := h i (by have := List.mem_range.1 hi; omega)
    omega)
  rw [List.length_map, List.length_range] at this
  omega
def Use (m : Nat) (rows : List (List Int)) (acc : List Bool) (q : Nat) : Prop := ∃ w, ltr m w ∧ acc.getD (rn rows q w) false = true
theorem Use.back {m : Nat} {rows : List (List Int)} {acc : List Bool} {q : Nat} {w : List Nat} (hw : ltr m w) (h : Use m rows acc (rn rows q w)) : Use m rows acc q := by
  obtain ⟨u, hu, ha⟩ := h
  exact ⟨w ++ u, ltr_append.2 ⟨hw, hu⟩, by rw [rn_append]; exact ha⟩
/-- a word that is accepted can be made short -/
theorem Auto.short {n m : Nat} {rows : List (List Int)} {acc : List Bool} (H : Auto n m rows acc) {q : Nat} (hq : q < n) : ∀ (k : Nat) (w : List Nat), w.length ≤ k → ltr m w → acc.getD (rn rows q w) false = true → ∃ u, ltr m u ∧ u.length < n ∧ acc.getD (rn rows q u) false = true := by
  intro k
  induction k with
  | zero =>
    intro w hl hw ha
    exact ⟨w, hw, by omega, ha⟩
  | succ k ih =>
    intro w hl hw ha
    by_cases hs : w.length < n
    · exact ⟨w, hw, hs, ha⟩
    · obtain ⟨i, j, hij, hj, he⟩ := pigeon n (fun i => rn rows q (w.take i)) (fun i _ => H.rn_lt _ q hq fun l hl => hw l (List.mem_of_mem_take hl))
      have h1 : rn rows q (w.take i ++ w.drop j) = rn rows q w := by
        rw [rn_append, he, ← rn_append, List.take_append_drop]
      refine ih (w.take i ++ w.drop j) ?_ (ltr_append.2 ⟨fun l hl => hw l (List.mem_of_mem_take hl), fun l hl => hw l (List.mem_of_mem_drop hl)⟩) (by rw [h1]; exact ha)
      simp only [List.length_append, List.length_take, List.length_drop]
      omega
/-- the longer words whose first letter is not 0 and that lead where words are accepted -/
def Cur (m : Nat) (rows : List (List Int)) (acc : List Bool) (t q : Nat) : Prop := ∃ l w, 0 < l ∧ l < m ∧ ltr m w ∧ w.length = t ∧ rn rows 0 (l :: w) = q ∧ Use m rows acc q
theorem Cur.succ {m : Nat} {rows : List (List Int)} {acc : List Bool} {t q : Nat} : Cur m rows acc (t + 1) q ↔ ∃ p l, l < m ∧ Cur m rows acc t p ∧ stp rows p l = q ∧ Use m rows acc q := by
  constructor
  · rintro ⟨l, w, h0, h1, h2, h3, h4, h5⟩
    have hne : w ≠ [] := by intro e; rw [e] at h3; simp at h3
    have hw := List.dropLast_concat_getLast hne
    have h2' := h2
    rw [← hw] at h2'
    obtain ⟨a1, a2⟩ := ltr_append.1 h2'
    have a3 : w.getLast hne < m := a2 _ (List.mem_singleton.2 rfl)
    have e : rn rows 0 (l :: w) = stp rows (rn rows 0 (l :: w.dropLast)) (w.getLast hne) := by
      conv => lhs; rw [← hw]
      rw [← List.cons_append, rn_append]; rfl
    refine ⟨rn rows 0 (l :: w.dropLast), w.getLast hne, a3, ⟨l, w.dropLast, h0, h1, a1, by rw [List.length_dropLast]; omega, rfl, ?_⟩, by rw [← e]; exact h4, h5⟩
    refine Use.back (w := [w.getLast hne]) (fun x hx => by rw [List.mem_singleton.1 hx]; exact a3) ?_
    show Use m rows acc (stp rows _ _)
    rw [← e, h4]
    exact h5
  · rintro ⟨p, x, hx, ⟨l, w, h0, h1, h2, h3, h4, h5⟩, e, h6⟩
    refine ⟨l, w ++ [x], h0, h1, ltr_append.2 ⟨h2, fun y hy => by rw [List.mem_singleton.1 hy]; exact hx⟩, by simp [h3], ?_, h6⟩
    rw [← List.cons_append, rn_append, h4]
    exact e
theorem Cur.down {m : Nat} {rows : List (List Int)} {acc : List Bool} {t q : Nat} (h : Cur m rows acc (t + 1) q) : ∃ p, Cur m rows acc t p := by
  obtain ⟨p, _, _, h, _⟩ := Cur.succ.1 h
  exact ⟨p, h⟩
theorem Cur.le {m : Nat} {rows : List (List Int)} {acc : List Bool} {t : Nat} : ∀ (d : Nat) {q : Nat}, Cur m rows acc (t + d) q → ∃ p, Cur m rows acc t p
  | 0, q, h => ⟨q, h⟩
  | d + 1, q, h => by
    obtain ⟨p, h⟩ := Cur.down (t := t + d) h
    exact Cur.le d h
/-- a circle at s, other than that of leading zeros -/
def Edge (m : Nat) (rows : List (List Int)) (acc : List Bool) (p q : Nat) : Prop := ∃ l, l < m ∧ (0 < p ∨ 0 < l) ∧ stp rows p l = q ∧ Use m rows acc q
inductive Way (m : Nat) (rows : List (List Int)) (acc : List Bool) : Nat → Nat → Prop
  | one {p q : Nat} : Edge m rows acc p q → Way m rows acc p q
  | more {p q r : Nat} : Way m rows acc p q → Edge m rows acc q r → Way m rows acc p r
/-- a way is a word, whose first edge is not that of leading zeros -/
theorem Way.word {m : Nat} {rows : List (List Int)} {acc : List Bool} {p q : Nat} (h : Way m rows acc p q) : ∃ l w, l < m ∧ ltr m w ∧ (0 < p ∨ 0 < l) ∧ rn rows p (l :: w) = q ∧ Use m rows acc q := by
  induction h with
  | one h =>
    obtain ⟨l, h1, h2, h3, h4⟩ := h
    exact ⟨l, [], h1, fun x hx => by simp at hx, h2, h3, h4⟩
  | more _ h ih =>
    obtain ⟨l, w, a1, a2, a3, a4, a5⟩ := ih
    obtain ⟨x, h1, h2, h3, h4⟩ := h
    refine ⟨l, w ++ [x], a1, ltr_append.2 ⟨a2, fun y hy => by rw [List.mem_singleton.1 hy]; exact h1⟩, a3, ?_, h4⟩
    rw [← List.cons_append, rn_append, a4]
    exact h3
theorem strip {m : Nat} {rows : List (List Int)} (h0 : stp rows 0 0 = 0) : ∀ (p : List Nat), ltr m p → ∃ p', ltr m p' ∧ rn rows 0 p' = rn rows 0 p ∧ (p' = [] ∨ ∃ l w, p' = l :: w ∧ 0 < l)
  | [], _ => ⟨[], fun l hl => by simp at hl, rfl, .inl rfl⟩
  | 0 :: p, hp => by
    obtain ⟨p', h1, h2, h3⟩ := strip h0 p (ltr_cons.1 hp).2
    exact ⟨p', h1, by rw [h2]; show _ = rn rows (stp rows 0 0) p; rw [h0], h3⟩
  | (l + 1) :: p, hp => ⟨_, hp, rfl, .inr ⟨_, _, rfl, by omega⟩⟩
theorem rep_rn {m : Nat} {rows : List (List Int)} {s : Nat} {c : List Nat} (hc : ltr m c) (h : rn rows s c = s) : ∀ k, ∃ u, ltr m u ∧ rn rows s u = s ∧ k * c.length ≤ u.length ∧ (k ≠ 0 → c <+: u)
  | 0 => ⟨[], fun l hl => by simp at hl, rfl, by simp, fun h => absurd rfl h⟩
  | k + 1 => by
    obtain ⟨u, h1, h2, h3, _⟩ := rep_rn hc h k
    refine ⟨c ++ u, ltr_append.2 ⟨hc, h1⟩, by rw [rn_append, h, h2], by rw [List.length_append, Nat.succ_mul]; omega, fun _ => List.prefix_append _ _⟩
theorem circle_iff {n m N : Nat} {rows : List (List Int)} {acc : List Bool} (H : Auto n m rows acc) (h0 : stp rows 0 0 = 0) (hn : 0 < n) (reach : ∀ s, s < n → ∃ p, ltr m p ∧ rn rows 0 p = s) (hN : n ≤ N) :
    (∃ s, s < n ∧ Use m rows acc s ∧ Way m rows acc s s) ↔ ∃ q, Cur m rows acc N q := by
  constructor
  · rintro ⟨s, hs, hu, hw⟩
    obtain ⟨l0, w0, a1, a2, a3, a4, a5⟩ := hw.word
    obtain ⟨p0, b1, b2⟩ := reach s hs
    obtain ⟨p, c1, c2, c3⟩ := strip h0 p0 b1
    obtain ⟨u, d1, d2, d3, d4⟩ := rep_rn (ltr_cons.2 ⟨a1, a2⟩) a4 (N + 1)
    have hul : N + 1 ≤ u.length := by
      have : (N + 1) * 1 ≤ (N + 1) * (l0 :: w0).length := Nat.mul_le_mul_left _ (by simp)
      omega
    have hW : rn rows 0 (p ++ u) = s := by rw [rn_append, c2, b2, d2]
    have hWl : ltr m (p ++ u) := ltr_append.2 ⟨c1, d1⟩
    have hhead : ∃ l w, p ++ u = l :: w ∧ 0 < l := by
      rcases c3 with rfl | ⟨l, w, rfl, hl⟩
      · obtain ⟨x, hx⟩ := d4 (by omega)
        refine ⟨l0, w0 ++ x, by rw [List.nil_append, ← hx]; rfl, ?_⟩
        rcases a3 with h | h
        · have : s = 0 := by rw [← b2, ← c2]; rfl
          omega
        · exact h
      · exact ⟨l, w ++ u, rfl, hl⟩
    obtain ⟨l, W, e, hl⟩ := hhead
    rw [e] at hW hWl
    have hlen : N ≤ W.length := by
      have := congrArg List.length e
      simp only [List.length_append, List.length_cons] at this
      omega
    obtain ⟨e1, e2⟩ := ltr_cons.1 hWl
    refine ⟨_, l, W.take N, hl, e1, fun x hx => e2 x (List.mem_of_mem_take hx), by rw [List.length_take]; omega, rfl, ?_⟩
    refine Use.back (w := W.drop N) (fun x hx => e2 x (List.mem_of_mem_drop hx)) ?_
    rw [← rn_append, List.cons_append, List.take_append_drop, hW]
    exact hu
  · rintro ⟨q, l, w, hl0, hl, hw, hlen, hq, hu⟩
    let f : Nat → Nat := fun i => rn rows 0 (l :: w.take i)
    have fu : ∀ i, Use m rows acc (f i) := fun i => by
      refine Use.back (w := w.drop i) (fun x hx => hw x (List.mem_of_mem_drop hx)) ?_
      show Use m rows acc (rn rows (rn rows 0 (l :: w.take i)) _)
      rw [← rn_append, List.cons_append, List.take_append_drop, hq]
      exact hu
    have fl : ∀ i, f i < n := fun i => H.rn_lt _ 0 hn (ltr_cons.2 ⟨hl, fun x hx => hw x (List.mem_of_mem_take hx)⟩)
    have fe : ∀ i, i < N → 0 < f i → Edge m rows acc (f i) (f (i + 1)) := fun i hi hp => by
      have hi' : i < w.length := by omega
      refine ⟨w[i], hw _ (List.getElem_mem hi'), .inl hp, ?_, fu _⟩
      show _ = rn rows 0 (l :: w.take (i + 1))
      rw [List.take_succ_eq_append_getElem hi', ← List.cons_append, rn_append]
      rfl
    have f0 : Edge m rows acc 0 (f 0) := ⟨l, hl, .inr hl0, rfl, fu 0⟩
    have u0 : Use m rows acc 0 := Use.back (w := [l]) (fun x hx => by rw [List.mem_singleton.1 hx]; exact hl) (fu 0)
    by_cases hz : ∃ i, i ≤ N ∧ f i = 0
    · have key : ∀ i, i ≤ N → (∀ k, k < i → 0 < f k) → Way m rows acc 0 (f i) := by
        intro i
        induction i with
        | zero => intro _ _; exact .one f0
        | succ i ih => intro hi hp; exact .more (ih (by omega) (fun k hk => hp k (by omega))) (fe i (by omega) (hp i (by omega)))
      have first : ∀ i, i ≤ N → f i = 0 → ∃ j, j ≤ N ∧ f j = 0 ∧ ∀ k, k < j → 0 < f k := by
        intro i
        induction i using Nat.strongRecOn with
        | _ i ih =>
          intro hi he
          by_cases hk : ∃ k, k < i ∧ f k = 0
          · obtain ⟨k, h1, h2⟩ := hk
            exact ih k h1 (by omega) h2
          · exact ⟨i, hi, he, fun k hk' => Nat.pos_of_ne_zero fun e => hk ⟨k, hk', e⟩⟩
      obtain ⟨i, hi, he⟩ := hz
      obtain ⟨j, h1, h2, h3⟩ := first i hi he
      have := key j h1 h3
      rw [h2] at this
      exact ⟨0, hn, u0, this⟩
    · have hp : ∀ i, i ≤ N → 0 < f i := fun i hi => Nat.pos_of_ne_zero fun e => hz ⟨i, hi, e⟩
      obtain ⟨i, j, hij, hj, he⟩ := pigeon n f (fun i _ => fl i)
      have key : ∀ d, i + 1 + d ≤ N → Way m rows acc (f i) (f (i + 1 + d)) := by
        intro d
        induction d with
        | zero => intro hd; exact .one (fe i (by omega) (hp i (by omega)))
        | succ d ih => intro hd; exact .more (ih (by omega)) (fe (i + 1 + d) (by omega) (hp _ (by omega)))
      have := key (j - (i + 1)) (by omega)
      rw [show i + 1 + (j - (i + 1)) = j by omega, ← he] at this
      exact ⟨f i, fl i, fu i, this⟩
/-- one automaton as the image of another -/
structure Hom (m : Nat) (rows : List (List Int)) (acc : List Bool) (rows' : List (List Int)) (acc' : List Bool) (good : Nat → Prop) (h : Nat → Nat) : Prop where
  zero : good 0 ∧ h 0 = 0
  stp : ∀ q l, good q → l < m → good (stp rows q l) ∧ h (stp rows q l) = Pure.stp rows' (h q) l
  acc : ∀ q, good q → acc.getD q false = acc'.getD (h q) false
theorem Hom.rn {m : Nat} {rows rows' : List (List Int)} {acc acc' : List Bool} {good : Nat → Prop} {h : Nat → Nat} (H : Hom m rows acc rows' acc' good h) : ∀ (w : List Nat) (q : Nat), good q → ltr m w → good (rn rows q w) ∧ h (Pure.rn rows q w) = Pure.rn rows' (h q) w
  | [], q, hq, _ => ⟨hq, rfl⟩
  | l :: w, q, hq, hw => by
    obtain ⟨h1, h2⟩ := ltr_cons.1 hw
    obtain ⟨h3, h4⟩ := H.stp q l hq h1
    obtain ⟨h5, h6⟩ := H.rn w _ h3 h2
    exact ⟨h5, by show h (Pure.rn rows (Pure.stp rows q l) w) = Pure.rn rows' (Pure.stp rows' (h q) l) w; rw [h6, h4]⟩
theorem Hom.use {m : Nat} {rows rows' : List (List Int)} {acc acc' : List Bool} {good : Nat → Prop} {h : Nat → Nat} (H : Hom m rows acc rows' acc' good h) {q : Nat} (hq : good q) : Use m rows acc q ↔ Use m rows' acc' (h q) := by
  constructor
  · rintro ⟨w, hw, ha⟩
    obtain ⟨h1, h2⟩ := H.rn w q hq hw
    exact ⟨w, hw, by rw [← h2, ← H.acc _ h1]; exact ha⟩
  · rintro ⟨w, hw, ha⟩
    obtain ⟨h1, h2⟩ := H.rn w q hq hw
    exact ⟨w, hw, by rw [H.acc _ h1, h2]; exact ha⟩
theorem Hom.cur {m : Nat} {rows rows' : List (List Int)} {acc acc' : List Bool} {good : Nat → Prop} {h : Nat → Nat} (H : Hom m rows acc rows' acc' good h) (t : Nat) : (∃ q, Cur m rows acc t q) ↔ ∃ q, Cur m rows' acc' t q := by
  constructor
  · rintro ⟨q, l, w, h0, h1, h2, h3, rfl, h5⟩
    obtain ⟨g1, g2⟩ := H.rn (l :: w) 0 H.zero.1 (ltr_cons.2 ⟨h1, h2⟩)
    exact ⟨h (Pure.rn rows 0 (l :: w)), l, w, h0, h1, h2, h3, by rw [g2, H.zero.2], (H.use g1).1 h5⟩
  · rintro ⟨q, l, w, h0, h1, h2, h3, h4, h5⟩
    obtain ⟨g1, g2⟩ := H.rn (l :: w) 0 H.zero.1 (ltr_cons.2 ⟨h1, h2⟩)
    exact ⟨_, l, w, h0, h1, h2, h3, rfl, (H.use g1).2 (by rw [g2, H.zero.2, h4]; exact h5)⟩
/-! the reduced automaton is an image of the given one -/
theorem hom_of {m : Nat} {rows : List (List Int)} {acc : List Bool} (H : RelG m rows acc) {c e F : List Int} (K : Red3 rows acc c e F) :
    Hom m rows acc (F.map (rowF rows e F)) (F.map (accF e acc)) (fun q => q < rows.length ∧ e.getD q 0 ∈ F) (fun q => F.idxOf (e.getD q 0)) := by
  have hS := K.run.still
  have he : e.length = rows.length := by rw [hS.1, keysL_len]
  have h0F : e.getD 0 0 ∈ F := K.bfs.pre.subset (List.mem_singleton.2 rfl)
  have hrow : ∀ q, q < rows.length → e.getD q 0 ∈ F → ((F.map (rowF rows e F)).getD (F.idxOf (e.getD q 0)) []) = ((rows.getD q []).map (fun x => ((F.idxOf (e.getD x.toNat 0) : Nat) : Int))) := fun q hq hm => by
    have hi := List.idxOf_lt_length_iff.2 hm
    rw [List.getD_eq_getElem?_getD, List.getElem?_map, List.getElem?_eq_getElem hi, Option.map_some, Option.getD_some, List.getElem_idxOf hi]
    unfold rowF
    rw [clM_of hS hq, List.map_map]
    rfl
  refine ⟨⟨⟨by have := H.n1; omega, h0F⟩, ?_⟩, fun q l ⟨hq, hm⟩ hl => ?_, fun q ⟨hq, hm⟩ => ?_⟩
  · have hpre := K.bfs.pre
    rw [idxOf_pre hpre (List.mem_singleton.2 rfl)]
    simp
  · have hlen := H.len q hq
    have hl' : l < (rows.getD q []).length := by omega
    have hx := H.inR q hq _ (List.getElem_mem hl')
    have es : Pure.stp rows q l = ((rows.getD q [])[l]).toNat := by
      unfold Pure.stp
      rw [List.getD_eq_getElem?_getD, List.getElem?_eq_getElem hl']
      rfl
    have hxl : ((rows.getD q [])[l]).toNat < rows.length := by omega
    refine ⟨⟨by rw [es]; exact hxl, ?_⟩, ?_⟩
    · rw [es]
      obtain ⟨j, hj, ej⟩ := List.getElem_of_mem hm
      have hc := K.bfs.closed j hj (by omega)
      rw [ej] at hc
      refine hc _ ?_
      rw [clM_of hS hq]
      exact List.mem_map.2 ⟨_, List.getElem_mem hl', rfl⟩
    · rw [es]
      unfold Pure.stp
      rw [hrow q hq hm]
      have e2 : ((rows.getD q []).map (fun x => ((F.idxOf (e.getD x.toNat 0) : Nat) : Int))).getD l 0 = ((F.idxOf (e.getD ((rows.getD q [])[l]).toNat 0) : Nat) : Int) := by
        rw [List.getD_eq_getElem?_getD, List.getElem?_map, List.getElem?_eq_getElem hl']
        rfl
      rw [e2, Int.toNat_natCast]
  · have hi := List.idxOf_lt_length_iff.2 hm
    rw [List.getD_eq_getElem?_getD (l := F.map _), List.getElem?_map, List.getElem?_eq_getElem hi, Option.map_some, Option.getD_some, List.getElem_idxOf hi]
    unfold accF
    obtain ⟨a1, a2⟩ := repOf_spec (e := e) (v := e.getD q 0) ⟨q, by omega, rfl⟩
    exact (K.same _ q (by omega) hq a2).symm
/-- all that a search by breadth finds is the image of what words lead to -/
theorem reach_of {m : Nat} {rows : List (List Int)} {acc : List Bool} (H : RelG m rows acc) {c e F : List Int} (K : Red3 rows acc c e F) : ∀ v ∈ F, ∃ p, ltr m p ∧ Pure.rn rows 0 p < rows.length ∧ e.getD (Pure.rn rows 0 p) 0 = v := by
  have hS := K.run.still
  have h1 := H.n1
  refine Bfs.in (P := fun v => ∃ p, ltr m p ∧ Pure.rn rows 0 p < rows.length ∧ e.getD (Pure.rn rows 0 p) 0 = v) ?_ K.bfs (fun x hx => ?_)
  · rintro v ⟨p, p1, p2, rfl⟩ x hx
    rw [clM_of hS p2] at hx
    obtain ⟨y, hy, rfl⟩ := List.mem_map.1 hx
    obtain ⟨l, hl, rfl⟩ := List.getElem_of_mem hy
    have hlen := H.len _ p2
    have hx := H.inR _ p2 _ (List.getElem_mem hl)
    have es : Pure.stp rows (Pure.rn rows 0 p) l = ((rows.getD (Pure.rn rows 0 p) [])[l]).toNat := by
      unfold Pure.stp
      rw [List.getD_eq_getElem?_getD, List.getElem?_eq_getElem hl]
      rfl
    have er : Pure.rn rows 0 (p ++ [l]) = ((rows.getD (Pure.rn rows 0 p) [])[l]).toNat := by rw [rn_append]; exact es
    refine ⟨p ++ [l], ltr_append.2 ⟨p1, fun y hy => by rw [List.mem_singleton.1 hy]; omega⟩, by rw [er]; omega, by rw [er]⟩
  · rw [List.mem_singleton] at hx
    exact ⟨[], fun l hl => by simp at hl, by show 0 < _; omega, hx.symm⟩
theorem red_nodup {m : Nat} {rows : List (List Int)} {acc : List Bool} (H : RelG m rows acc) {c e F : List Int} (K : Red3 rows acc c e F) : F.Nodup ∧ F.length ≤ rows.length ∧ 1 ≤ F.length := by
  have hn : F.Nodup := K.bfs.nodup (by simp)
  refine ⟨hn, nodup_len _ F hn (Bfs.in (P := fun v => 0 ≤ v ∧ v < (rows.length : Int)) (fun v _ x hx => clM_range H.inR K.run v x hx) K.bfs (fun x hx => by
    rw [List.mem_singleton] at hx
    rw [hx]
    exact run_range K.run (by have := H.n1; omega))), List.length_pos_of_mem (K.bfs.pre.subset (List.mem_singleton.2 rfl))⟩
theorem auto_raw {m : Nat} {rows : List (List Int)} {acc : List Bool} (H : RelG m rows acc) : Auto rows.length m rows acc := by
  refine ⟨rfl, H.len, fun q l hq hl => ?_, H.al⟩
  have hlen := H.len q hq
  have hl' : l < (rows.getD q []).length := by omega
  have hx := H.inR q hq _ (List.getElem_mem hl')
  have es : Pure.stp rows q l = ((rows.getD q [])[l]).toNat := by
    unfold Pure.stp
    rw [List.getD_eq_getElem?_getD, List.getElem?_eq_getElem hl']
    rfl
  omega
/-- what the reduced automaton is -/
theorem red_auto {m : Nat} {rows : List (List Int)} {acc : List Bool} (H : RelG m rows acc) {c e F : List Int} (K : Red3 rows acc c e F) :
    Auto F.length m (F.map (rowF rows e F)) (F.map (accF e acc)) ∧ ∀ s, s < F.length → ∃ p, ltr m p ∧ Pure.rn (F.map (rowF rows e F)) 0 p = s := by
  have hS := K.run.still
  obtain ⟨hn, _, _⟩ := red_nodup H K
  have hom := hom_of H K
  have good : ∀ s (hs : s < F.length), ∃ p, ltr m p ∧ Pure.rn rows 0 p < rows.length ∧ e.getD (Pure.rn rows 0 p) 0 = F[s] := fun s hs => reach_of H K F[s] (List.getElem_mem hs)
  have idx : ∀ s (hs : s < F.length), F.idxOf F[s] = s := fun s hs => hn.idxOf_getElem s hs
  have rch : ∀ s, s < F.length → ∃ p, ltr m p ∧ Pure.rn (F.map (rowF rows e F)) 0 p = s := fun s hs => by
    obtain ⟨p, p1, p2, p3⟩ := good s hs
    obtain ⟨_, h2⟩ := hom.rn p 0 hom.zero.1 p1
    refine ⟨p, p1, ?_⟩
    rw [hom.zero.2] at h2
    rw [← h2]
    show F.idxOf (e.getD (Pure.rn rows 0 p) 0) = s
    rw [p3, idx s hs]
  refine ⟨⟨by simp, fun q hq => ?_, fun q l hq hl => ?_, by simp⟩, rch⟩
  · obtain ⟨p, p1, p2, p3⟩ := good q hq
    rw [List.getD_eq_getElem?_getD, List.getElem?_map, List.getElem?_eq_getElem hq, Option.map_some, Option.getD_some]
    unfold rowF
    rw [← p3, clM_of hS p2, List.length_map, List.length_map]
    exact H.len _ p2
  · obtain ⟨p, p1, p2, p3⟩ := good q hq
    have hm : e.getD (Pure.rn rows 0 p) 0 ∈ F := by rw [p3]; exact List.getElem_mem hq
    obtain ⟨⟨_, h1⟩, h2⟩ := hom.stp (Pure.rn rows 0 p) l ⟨p2, hm⟩ hl
    have e1 : F.idxOf (e.getD (Pure.rn rows 0 p) 0) = q := by rw [p3, idx q hq]
    have h2 : F.idxOf (e.getD (Pure.stp rows (Pure.rn rows 0 p) l) 0) = Pure.stp (F.map (rowF rows e F)) (F.idxOf (e.getD (Pure.rn rows 0 p) 0)) l := h2
    rw [e1] at h2
    rw [← h2]
    exact List.idxOf_lt_length_iff.2 h1
/-- a circle in the reduced automaton is what a long word shows in the given one -/
theorem finite_iff {m : Nat} {rows : List (List Int)} {acc : List Bool} (H : RelG m rows acc) {c e F : List Int} (K : Red3 rows acc c e F) (hm : 0 < m) (h0 : Pure.stp rows 0 0 = 0) :
    (∃ s, s < F.length ∧ Use m (F.map (rowF rows e F)) (F.map (accF e acc)) s ∧ Way m (F.map (rowF rows e F)) (F.map (accF e acc)) s s) ↔ ∃ q, Cur m rows acc rows.length q := by
  obtain ⟨hA, hr⟩ := red_auto H K
  obtain ⟨_, hle, h1⟩ := red_nodup H K
  have hom := hom_of H K
  have z : Pure.stp (F.map (rowF rows e F)) 0 0 = 0 := by
    have h2 := (hom.stp 0 0 hom.zero.1 hm).2
    rw [hom.zero.2, h0] at h2
    rw [← h2]
    exact hom.zero.2
  rw [circle_iff hA z (by omega) hr hle, hom.cur]

/-! Finite2 -/
theorem set_get {U : List Bool} {i : Nat} (h : i < U.length) (v : Bool) (q : Nat) : (U.set i v).getD q false = if q = i then v else U.getD q false := by
  by_cases e : q = i
  · subst e
    rw [if_pos rfl, List.getD_eq_getElem?_getD, List.getElem?_set_self h]
    rfl
  · rw [if_neg e, List.getD_eq_getElem?_getD, List.getElem?_set_ne (fun h => e h.symm), List.getD_eq_getElem?_getD]
theorem rd_stp {m : Nat} {rows : List (List Int)} {acc : List Bool} (H : RelG m rows acc) {i c : Nat} (hi : i < rows.length) (hc : c < m) : rd (rows.getD i []) (c : Int) = ((stp rows i c : Nat) : Int) ∧ stp rows i c < rows.length := by
  have hlen := H.len i hi
  have hl' : c < (rows.getD i []).length := by omega
  have hx := H.inR i hi _ (List.getElem_mem hl')
  have es : stp rows i c = ((rows.getD i [])[c]).toNat := by
    unfold stp
    rw [List.getD_eq_getElem?_getD, List.getElem?_eq_getElem hl']
    rfl
  rw [rd_of hl']
  omega
structure UOk (m : Nat) (rows : List (List Int)) (acc : List Bool) (U : List Bool) : Prop where
  len : U.length = rows.length
  snd : ∀ q, q < rows.length → U.getD q false = true → Use m rows acc q
def CompL (m : Nat) (rows : List (List Int)) (acc : List Bool) (t : Nat) (U : List Bool) : Prop := ∀ q w, q < rows.length → ltr m w → w.length < t → acc.getD (rn rows q w) false = true → U.getD q false = true
open Classical in
noncomputable def useL (m : Nat) (rows : List (List Int)) (acc : List Bool) : List Bool := (List.range rows.length).map (fun q => decide (Use m rows acc q))
theorem useL_get {m : Nat} {rows : List (List Int)} {acc : List Bool} {q : Nat} (hq : q < rows.length) : (useL m rows acc).getD q false = true ↔ Use m rows acc q := by
  unfold useL
  rw [List.getD_eq_getElem?_getD, List.getElem?_map, List.getElem?_range hq]
  simp
theorem useL_len {m : Nat} {rows : List (List Int)} {acc : List Bool} : (useL m rows acc).length = rows.length := by simp [useL]
theorem UOk.eq {m : Nat} {rows : List (List Int)} {acc : List Bool} (H : RelG m rows acc) {U : List Bool} (hU : UOk m rows acc U) (hC : CompL m rows acc rows.length U) : U = useL m rows acc := by
  refine List.ext_getElem (by rw [hU.len, useL_len]) fun i h1 h2 => ?_
  have hi : i < rows.length := by rw [← hU.len]; exact h1
  have e1 : U.getD i false = U[i] := by rw [List.getD_eq_getElem?_getD, List.getElem?_eq_getElem h1]; rfl
  have e2 : (useL m rows acc).getD i false = (useL m rows acc)[i] := by rw [List.getD_eq_getElem?_getD, List.getElem?_eq_getElem h2]; rfl
  have key : U.getD i false = true ↔ (useL m rows acc).getD i false = true := by
    rw [useL_get hi]
    refine ⟨hU.snd i hi, fun ⟨w, hw, ha⟩ => ?_⟩
    obtain ⟨u, u1, u2, u3⟩ := (auto_raw H).short hi w.length w (Nat.le_refl _) hw ha
    exact hC i u hi u1 u2 u3
  rw [← e1, ← e2]
  exact Bool.eq_iff_iff.2 key
theorem CompL.succ {m : Nat} {rows : List (List Int)} {acc : List Bool} (H : RelG m rows acc) {t : Nat} {U U' : List Bool} (hC : CompL m rows acc t U) (hs : ∀ i, i < rows.length → ∀ c, c < m → U.getD (stp rows i c) false = true → U'.getD i false = true) (ha : ∀ i, i < rows.length → acc.getD i false = true → U'.getD i false = true) : CompL m rows acc (t + 1) U' := by
  intro q w hq hw hl hacc
  cases w with
  | nil => exact ha q hq hacc
  | cons l w =>
    obtain ⟨h1, h2⟩ := ltr_cons.1 hw
    exact hs q hq l h1 (hC _ w ((auto_raw H).lt q l hq h1) h2 (by simp at hl; omega) hacc)
theorem UOk.set {m : Nat} {rows : List (List Int)} {acc : List Bool} {U : List Bool} (hU : UOk m rows acc U) {i : Nat} (hi : i < rows.length) {v : Bool} (hv : v = true → Use m rows acc i) : UOk m rows acc (U.set i v) := by
  refine ⟨by rw [List.length_set, hU.len], fun q hq h => ?_⟩
  rw [set_get (by rw [hU.len]; exact hi)] at h
  by_cases e : q = i
  · rw [if_pos e] at h; rw [e]; exact hv h
  · rw [if_neg e] at h; exact hU.snd q hq h
theorem Use.step {m : Nat} {rows : List (List Int)} {acc : List Bool} {i c : Nat} (hc : c < m) (h : Use m rows acc (stp rows i c)) : Use m rows acc i := Use.back (w := [c]) (fun x hx => by rw [List.mem_singleton.1 hx]; exact hc) h
/-- one letter's turn: the state that comes of it -/
theorem turn {m : Nat} {rows : List (List Int)} {acc : List Bool} {U : List Bool} (hU : UOk m rows acc U) {i c : Nat} (hi : i < rows.length) (hc : c < m) (hl : stp rows i c < rows.length) (v : Bool) (hv : v = if U.getD i false = true then true else U.getD (stp rows i c) false) :
    UOk m rows acc (U.set i v) ∧ (∀ q, U.getD q false = true → (U.set i v).getD q false = true) ∧ (U.getD (stp rows i c) false = true → (U.set i v).getD i false = true) := by
  have hlen : i < U.length := by rw [hU.len]; exact hi
  refine ⟨hU.set hi fun h => ?_, fun q h => ?_, fun h => ?_⟩
  · rw [hv] at h
    by_cases g : U.getD i false = true
    · exact hU.snd i hi g
    · rw [if_neg g] at h
      exact Use.step hc (hU.snd _ hl h)
  · rw [set_get hlen]
    by_cases e : q = i
    · rw [if_pos e, hv]
      rw [e] at h
      rw [if_pos h]
    · rw [if_neg e]; exact h
  · rw [set_get hlen, if_pos rfl, hv]
    by_cases g : U.getD i false = true
    · rw [if_pos g]
    · rw [if_neg g]; exact h
section
variable {m : Nat} {rows : List (List Int)} {acc : List Bool} {b t : Int}
theorem iu_l2 (H : RelG m rows acc) (tt i : Nat) (hi : i < rows.length) {r : List Bool} : ∀ c, c ≤ m → ∀ U, UOk m rows acc U →
    (∀ U', UOk m rows acc U' → (∀ q, U.getD q false = true → U'.getD q false = true) → (∀ c', c ≤ c' → c' < m → U.getD (stp rows i c') false = true → U'.getD i false = true) → Ev (fun k => impl_Relation_useful.l1 k U' (rows.length : Int) (tt : Int) rows (rows.length : Int) ((i + 1 : Nat) : Int) b t rows acc) r) →
    Ev (fun k => impl_Relation_useful.l2 k U (i : Int) (rows.length : Int) (tt : Int) rows (rows.length : Int) (i : Int) (rows.getD i []) ((rows.getD i []).length : Int) (c : Int) b t rows acc) r := by
  have hlen := H.len i hi
  have hnN := H.nN
  have hmm := H.mm
  refine downs (P := fun c => ∀ U, UOk m rows acc U →
    (∀ U', UOk m rows acc U' → (∀ q, U.getD q false = true → U'.getD q false = true) → (∀ c', c ≤ c' → c' < m → U.getD (stp rows i c') false = true → U'.getD i false = true) → Ev (fun k => impl_Relation_useful.l1 k U' (rows.length : Int) (tt : Int) rows (rows.length : Int) ((i + 1 : Nat) : Int) b t rows acc) r) →
    Ev (fun k => impl_Relation_useful.l2 k U (i : Int) (rows.length : Int) (tt : Int) rows (rows.length : Int) (i : Int) (rows.getD i []) ((rows.getD i []).length : Int) (c : Int) b t rows acc) r) m (fun c hc ih U hU h => ?_) (fun U hU h => ?_)
  · obtain ⟨e1, e2⟩ := rd_stp H hi hc
    have hUl := hU.len
    have eg : ∀ q : Nat, rdOf false U (q : Int) = U.getD q false := fun q => rfl
    by_cases g : U.getD i false = true
    · obtain ⟨t1, t2, t3⟩ := turn hU hi hc e2 true (by rw [if_pos g])
      refine Ev.step (fun k => ?_) (ih (U.set i true) t1 fun U' hU' m1 m2 => h U' hU' (fun q hq => m1 q (t2 q hq)) fun c' hc' hc2 hq => ?_)
      · rw [impl_Relation_useful.l2, if_pos (by omega), if_pos (by omega), if_pos (by omega), if_pos (by omega), if_pos (by omega), eg, if_pos g, w64 (by omega) (by omega), Int.toNat_natCast]
        rfl
      · by_cases e : c' = c
        · subst e; exact m1 i (t3 hq)
        · exact m2 c' (by omega) hc2 (t2 _ hq)
    · obtain ⟨t1, t2, t3⟩ := turn hU hi hc e2 (U.getD (stp rows i c) false) (by rw [if_neg g])
      refine Ev.step (fun k => ?_) (ih (U.set i (U.getD (stp rows i c) false)) t1 fun U' hU' m1 m2 => h U' hU' (fun q hq => m1 q (t2 q hq)) fun c' hc' hc2 hq => ?_)
      · rw [impl_Relation_useful.l2, if_pos (by omega), if_pos (by omega), if_pos (by omega), if_pos (by omega), if_pos (by omega), eg, if_neg g, e1, if_pos (by omega), if_pos (by omega), eg, w64 (by omega) (by omega), Int.toNat_natCast]
        rfl
      · by_cases e : c' = c
        · subst e; exact m1 i (t3 hq)
        · exact m2 c' (by omega) hc2 (t2 _ hq)
  · refine Ev.step (fun k => ?_) (h U hU (fun q hq => hq) fun c' h1 h2 => by omega)
    rw [impl_Relation_useful.l2, if_neg (by omega), w64 (by omega) (by omega)]
    rfl
theorem iu_l1 (H : RelG m rows acc) (tt : Nat) {r : List Bool} : ∀ i, i ≤ rows.length → ∀ U, UOk m rows acc U →
    (∀ U', UOk m rows acc U' → (∀ q, U.getD q false = true → U'.getD q false = true) → (∀ i', i ≤ i' → i' < rows.length → ∀ c, c < m → U.getD (stp rows i' c) false = true → U'.getD i' false = true) → Ev (fun k => impl_Relation_useful.l0 k U' (rows.length : Int) (wrap64 ((tt : Int) + 1)) b t rows acc) r) →
    Ev (fun k => impl_Relation_useful.l1 k U (rows.length : Int) (tt : Int) rows (rows.length : Int) (i : Int) b t rows acc) r := by
  have hnN := H.nN
  refine downs (P := fun i => ∀ U, UOk m rows acc U →
    (∀ U', UOk m rows acc U' → (∀ q, U.getD q false = true → U'.getD q false = true) → (∀ i', i ≤ i' → i' < rows.length → ∀ c, c < m → U.getD (stp rows i' c) false = true → U'.getD i' false = true) → Ev (fun k => impl_Relation_useful.l0 k U' (rows.length : Int) (wrap64 ((tt : Int) + 1)) b t rows acc) r) →
    Ev (fun k => impl_Relation_useful.l1 k U (rows.length : Int) (tt : Int) rows (rows.length : Int) (i : Int) b t rows acc) r) rows.length (fun i hi ih U hU h => ?_) (fun U hU h => ?_)
  · refine Ev.step (fun k => ?_) (iu_l2 (b := b) (t := t) H tt i hi 0 (by omega) U hU fun U' hU' m1 m2 => ih U' hU' fun U2 hU2 n1 n2 => h U2 hU2 (fun q hq => n1 q (m1 q hq)) fun i' hi' hi2 c hc hq => ?_)
    · rw [impl_Relation_useful.l1, if_pos (by omega), if_pos (by omega), if_pos (by omega)]
      rfl
    · by_cases e : i' = i
      · subst e; exact n1 _ (m2 c (by omega) hc hq)
      · exact n2 i' (by omega) hi2 c hc (m1 _ hq)
  · refine Ev.step (fun k => ?_) (h U hU (fun q hq => hq) fun i' h1 h2 => by omega)
    rw [impl_Relation_useful.l1, if_neg (by omega)]
theorem useful_ev (H : RelG m rows acc) : Ev (fun k => impl_Relation_useful.f k b t rows acc) (useL m rows acc) := by
  have hnN := H.nN
  have hal := H.al
  have key := downs (P := fun tt => ∀ U, UOk m rows acc U → (∀ i, i < rows.length → acc.getD i false = true → U.getD i false = true) → CompL m rows acc (tt + 1) U → Ev (fun k => impl_Relation_useful.l0 k U (rows.length : Int) (tt : Int) b t rows acc) (useL m rows acc)) rows.length
    (fun tt ht ih U hU hA hC => by
      refine Ev.step (fun k => ?_) (iu_l1 (b := b) (t := t) H tt 0 (by omega) U hU fun U' hU' m1 m2 => ?_)
      · rw [impl_Relation_useful.l0, if_pos (by omega)]
        rfl
      · rw [w64 (by omega) (by omega)]
        exact ih U' hU' (fun i hi ha => m1 i (hA i hi ha)) (hC.succ H (fun i hi c hc hq => m2 i (by omega) hi c hc hq) (fun i hi ha => m1 i (hA i hi ha))))
    (fun U hU hA hC => by
      refine Ev.step (f := fun _ => some U) (fun k => ?_) (Ev.eq (Ev.now _) (hU.eq H fun q w hq hw hl ha => hC q w hq hw (by omega) ha))
      rw [impl_Relation_useful.l0, if_neg (by omega)])
  have hcl : ∀ k : Nat, slices_Clone_bool_bool.f acc = some acc := fun k => by
    unfold slices_Clone_bool_bool.f
    simp [hal]
    omega
  unfold impl_Relation_useful.f
  refine Ev.congr (fun k => by rw [hcl k, Option.bind_some]; rfl) (key 0 (by omega) acc ⟨hal, fun q hq ha => ⟨[], fun l hl => by simp at hl, ha⟩⟩ (fun i _ h => h) fun q w hq hw hl ha => ?_)
  have : w = [] := List.eq_nil_of_length_eq_zero (by omega)
  subst this
  exact ha
end

/-! Finite3 -/
section
variable {m : Nat} {rows : List (List Int)} {acc : List Bool} {b t : Int}
theorem su_l2 (H : RelG m rows acc) (tt i : Nat) (hi : i < rows.length) {r : Bool} : ∀ c, c ≤ m → ∀ U, UOk m rows acc U →
    (∀ U', UOk m rows acc U' → (∀ q, U.getD q false = true → U'.getD q false = true) → (∀ c', c ≤ c' → c' < m → U.getD (stp rows i c') false = true → U'.getD i false = true) → Ev (fun k => spec_IsFiniteSet.l1 k U' (tt : Int) ((i + 1 : Nat) : Int) b t rows acc) r) →
    Ev (fun k => spec_IsFiniteSet.l2 k U (tt : Int) (i : Int) (c : Int) b t rows acc) r := by
  have hlen := H.len i hi
  have hnN := H.nN
  have hmm := H.mm
  have er : rd_L1 rows (i : Int) = rows.getD i [] := rfl
  refine downs (P := fun c => ∀ U, UOk m rows acc U →
    (∀ U', UOk m rows acc U' → (∀ q, U.getD q false = true → U'.getD q false = true) → (∀ c', c ≤ c' → c' < m → U.getD (stp rows i c') false = true → U'.getD i false = true) → Ev (fun k => spec_IsFiniteSet.l1 k U' (tt : Int) ((i + 1 : Nat) : Int) b t rows acc) r) →
    Ev (fun k => spec_IsFiniteSet.l2 k U (tt : Int) (i : Int) (c : Int) b t rows acc) r) m (fun c hc ih U hU h => ?_) (fun U hU h => ?_)
  · obtain ⟨e1, e2⟩ := rd_stp H hi hc
    have hUl := hU.len
    have eg : ∀ q : Nat, rdOf false U (q : Int) = U.getD q false := fun q => rfl
    by_cases g : U.getD i false = true
    · obtain ⟨t1, t2, t3⟩ := turn hU hi hc e2 true (by rw [if_pos g])
      refine Ev.step (fun k => ?_) (ih (U.set i true) t1 fun U' hU' m1 m2 => h U' hU' (fun q hq => m1 q (t2 q hq)) fun c' hc' hc2 hq => ?_)
      · rw [spec_IsFiniteSet.l2, er, if_pos (by omega), if_pos (by omega), if_pos (by omega), if_pos (by omega), eg, if_pos g, w64 (by omega) (by omega), Int.toNat_natCast]
        rfl
      · by_cases e : c' = c
        · subst e; exact m1 i (t3 hq)
        · exact m2 c' (by omega) hc2 (t2 _ hq)
    · obtain ⟨t1, t2, t3⟩ := turn hU hi hc e2 (U.getD (stp rows i c) false) (by rw [if_neg g])
      refine Ev.step (fun k => ?_) (ih (U.set i (U.getD (stp rows i c) false)) t1 fun U' hU' m1 m2 => h U' hU' (fun q hq => m1 q (t2 q hq)) fun c' hc' hc2 hq => ?_)
      · rw [spec_IsFiniteSet.l2, er, if_pos (by omega), if_pos (by omega), if_pos (by omega), if_pos (by omega), eg, if_neg g, if_pos (by omega), e1, if_pos (by omega), if_pos (by omega), eg, w64 (by omega) (by omega), Int.toNat_natCast]
        rfl
      · by_cases e : c' = c
        · subst e; exact m1 i (t3 hq)
        · exact m2 c' (by omega) hc2 (t2 _ hq)
  · refine Ev.step (fun k => ?_) (h U hU (fun q hq => hq) fun c' h1 h2 => by omega)
    rw [spec_IsFiniteSet.l2, er, if_pos (by omega), if_pos (by omega), if_neg (by omega), w64 (by omega) (by omega)]
    rfl
theorem su_l1 (H : RelG m rows acc) (tt : Nat) {r : Bool} : ∀ i, i ≤ rows.length → ∀ U, UOk m rows acc U →
    (∀ U', UOk m rows acc U' → (∀ q, U.getD q false = true → U'.getD q false = true) → (∀ i', i ≤ i' → i' < rows.length → (acc.getD i' false = true → U'.getD i' false = true) ∧ ∀ c, c < m → U.getD (stp rows i' c) false = true → U'.getD i' false = true) → Ev (fun k => spec_IsFiniteSet.l0 k U' (wrap64 ((tt : Int) + 1)) b t rows acc) r) →
    Ev (fun k => spec_IsFiniteSet.l1 k U (tt : Int) (i : Int) b t rows acc) r := by
  have hnN := H.nN
  have hal := H.al
  refine downs (P := fun i => ∀ U, UOk m rows acc U →
    (∀ U', UOk m rows acc U' → (∀ q, U.getD q false = true → U'.getD q false = true) → (∀ i', i ≤ i' → i' < rows.length → (acc.getD i' false = true → U'.getD i' false = true) ∧ ∀ c, c < m → U.getD (stp rows i' c) false = true → U'.getD i' false = true) → Ev (fun k => spec_IsFiniteSet.l0 k U' (wrap64 ((tt : Int) + 1)) b t rows acc) r) →
    Ev (fun k => spec_IsFiniteSet.l1 k U (tt : Int) (i : Int) b t rows acc) r) rows.length (fun i hi ih U hU h => ?_) (fun U hU h => ?_)
  · have hUl := hU.len
    have eg : ∀ q : Nat, rdOf false U (q : Int) = U.getD q false := fun q => rfl
    have ea : ∀ q : Nat, rdOf false acc (q : Int) = acc.getD q false := fun q => rfl
    -- behind the first writing
    have go : ∀ v : Bool, (v = if U.getD i false = true then true else acc.getD i false) → Ev (fun k => spec_IsFiniteSet.j2 k (U.set i v) (tt : Int) (i : Int) b t rows acc) r := fun v hv => by
      have hU1 : UOk m rows acc (U.set i v) := hU.set hi fun h => by
        rw [hv] at h
        by_cases g : U.getD i false = true
        · exact hU.snd i hi g
        · rw [if_neg g] at h; exact ⟨[], fun l hl => by simp at hl, h⟩
      have m0 : ∀ q, U.getD q false = true → (U.set i v).getD q false = true := fun q hq => by
        rw [set_get (by omega)]
        by_cases e : q = i
        · rw [if_pos e, hv]; rw [e] at hq; rw [if_pos hq]
        · rw [if_neg e]; exact hq
      have a0 : acc.getD i false = true → (U.set i v).getD i false = true := fun ha => by
        rw [set_get (by omega), if_pos rfl, hv]
        by_cases g : U.getD i false = true
        · rw [if_pos g]
        · rw [if_neg g]; exact ha
      refine Ev.step (fun k => ?_) (su_l2 (b := b) (t := t) H tt i hi 0 (by omega) (U.set i v) hU1 fun U' hU' m1 m2 => ih U' hU' fun U2 hU2 n1 n2 => h U2 hU2 (fun q hq => n1 q (m1 q (m0 q hq))) fun i' hi' hi2 => ?_)
      · rw [spec_IsFiniteSet.j2]
        rfl
      · by_cases e : i' = i
        · subst e
          exact ⟨fun ha => n1 _ (m1 _ (a0 ha)), fun c hc hq => n1 _ (m2 c (by omega) hc (m0 _ hq))⟩
        · exact ⟨(n2 i' (by omega) hi2).1, fun c hc hq => (n2 i' (by omega) hi2).2 c hc (m1 _ (m0 _ hq))⟩
    by_cases g : U.getD i false = true
    · refine Ev.step (fun k => ?_) (go true (by rw [if_pos g]))
      rw [spec_IsFiniteSet.l1, if_pos (by omega), if_pos (by omega), if_pos (by omega), eg, if_pos g, Int.toNat_natCast]
    · refine Ev.step (fun k => ?_) (go (acc.getD i false) (by rw [if_neg g]))
      rw [spec_IsFiniteSet.l1, if_pos (by omega), if_pos (by omega), if_pos (by omega), eg, if_neg g, if_pos (by omega), ea, Int.toNat_natCast]
  · refine Ev.step (fun k => ?_) (h U hU (fun q hq => hq) fun i' h1 h2 => by omega)
    rw [spec_IsFiniteSet.l1, if_neg (by omega)]
theorem su_l0 (H : RelG m rows acc) {r : Bool} (h3 : Ev (fun k => spec_IsFiniteSet.l3 k (useL m rows acc) 0 b t rows acc) r) : Ev (fun k => spec_IsFiniteSet.l0 k (List.replicate rows.length false) 0 b t rows acc) r := by
  have hnN := H.nN
  have key := downs (P := fun tt => ∀ U, UOk m rows acc U → CompL m rows acc tt U → Ev (fun k => spec_IsFiniteSet.l0 k U (tt : Int) b t rows acc) r) (rows.length + 1)
    (fun tt ht ih U hU hC => by
      refine Ev.step (fun k => ?_) (su_l1 (b := b) (t := t) H tt 0 (by omega) U hU fun U' hU' m1 m2 => ?_)
      · rw [spec_IsFiniteSet.l0, if_pos (by omega)]
        rfl
      · rw [w64 (by omega) (by omega)]
        exact ih U' hU' (hC.succ H (fun i hi c hc hq => (m2 i (by omega) hi).2 c hc hq) (fun i hi ha => (m2 i (by omega) hi).1 ha)))
    (fun U hU hC => by
      have e := hU.eq H fun q w hq hw hl ha => hC q w hq hw (by omega) ha
      subst e
      refine Ev.step (fun k => ?_) h3
      rw [spec_IsFiniteSet.l0, if_neg (by omega)])
  refine key 0 (by omega) _ ⟨by simp, fun q hq h => ?_⟩ (fun q w _ _ hl _ => by omega)
  rw [List.getD_eq_getElem?_getD, List.getElem?_replicate] at h
  split at h <;> simp at h
/-! the search from one state -/
open Classical in
noncomputable def nexts (m : Nat) (rows : List (List Int)) (acc : List Bool) (p c : Nat) : List Int := ((List.range m).drop c).filterMap (fun l => if (0 < p ∨ 0 < l) ∧ Use m rows acc (stp rows p l) then some ((stp rows p l : Nat) : Int) else none)
theorem nexts_mem {p : Nat} {x : Int} : x ∈ nexts m rows acc p 0 ↔ ∃ q : Nat, x = (q : Int) ∧ Edge m rows acc p q := by
  unfold nexts
  rw [List.drop_zero, List.mem_filterMap]
  constructor
  · rintro ⟨l, hl, h⟩
    split at h
    · rename_i hc
      injection h with h
      exact ⟨_, h.symm, l, List.mem_range.1 hl, hc.1, rfl, hc.2⟩
    · cases h
  · rintro ⟨q, rfl, l, h1, h2, rfl, h4⟩
    exact ⟨l, List.mem_range.2 h1, by rw [if_pos ⟨h2, h4⟩]⟩
theorem nexts_at {p c : Nat} (hc : c < m) : nexts m rows acc p c = (open Classical in if (0 < p ∨ 0 < c) ∧ Use m rows acc (stp rows p c) then ((stp rows p c : Nat) : Int) :: nexts m rows acc p (c + 1) else nexts m rows acc p (c + 1)) := by
  unfold nexts
  rw [List.drop_eq_getElem_cons (by simpa using hc), List.filterMap_cons, List.getElem_range]
  by_cases h : (0 < p ∨ 0 < c) ∧ Use m rows acc (stp rows p c)
  · rw [if_pos h, if_pos h]
  · rw [if_neg h, if_neg h]
theorem nexts_end {p : Nat} : nexts m rows acc p m = [] := by
  unfold nexts
  rw [List.drop_eq_nil_of_le (by simp)]
  rfl
theorem nexts_lt (H : RelG m rows acc) {p c : Nat} (hp : p < rows.length) : ∀ x ∈ nexts m rows acc p c, 0 ≤ x ∧ x < (rows.length : Int) := by
  intro x hx
  unfold nexts at hx
  obtain ⟨l, hl, h⟩ := List.mem_filterMap.1 hx
  have hl2 := List.mem_range.1 (List.mem_of_mem_drop hl)
  split at h
  · injection h with h
    have := (auto_raw H).lt p l hp hl2
    omega
  · cases h
/-- one row's turn of the search: any list so far -/
theorem su_l6 (H : RelG m rows acc) (s : Int) (i p : Nat) (hp : p < rows.length) {r : Bool} : ∀ c, c ≤ m → ∀ L : List Int, L.length ≤ rows.length → L.Nodup → (∀ x ∈ L, 0 ≤ x ∧ x < (rows.length : Int)) → (∃ hi : i < L.length, L[i] = (p : Int)) →
    Ev (fun k => spec_IsFiniteSet.l5 k (useL m rows acc) s (addAll L (nexts m rows acc p c)) ((i + 1 : Nat) : Int) b t rows acc) r →
    Ev (fun k => spec_IsFiniteSet.l6 k (useL m rows acc) s L (i : Int) (c : Int) b t rows acc) r := by
  have hlen := H.len p hp
  have hnN := H.nN
  have hmm := H.mm
  have er : rd_L1 rows (p : Int) = rows.getD p [] := rfl
  refine downs (P := fun c => ∀ L : List Int, L.length ≤ rows.length → L.Nodup → (∀ x ∈ L, 0 ≤ x ∧ x < (rows.length : Int)) → (∃ hi : i < L.length, L[i] = (p : Int)) →
    Ev (fun k => spec_IsFiniteSet.l5 k (useL m rows acc) s (addAll L (nexts m rows acc p c)) ((i + 1 : Nat) : Int) b t rows acc) r →
    Ev (fun k => spec_IsFiniteSet.l6 k (useL m rows acc) s L (i : Int) (c : Int) b t rows acc) r) m (fun c hc ih L hL hN hR ⟨hi, hi2⟩ h => ?_) (fun L hL hN hR ⟨hi, hi2⟩ h => ?_)
  · obtain ⟨e1, e2⟩ := rd_stp H hp hc
    have hUl := useL_len (m := m) (rows := rows) (acc := acc)
    have eg : rdOf false (useL m rows acc) ((stp rows p c : Nat) : Int) = (useL m rows acc).getD (stp rows p c) false := rfl
    have ex : rd L (i : Int) = (p : Int) := (rd_of hi).trans hi2
    have hh := l4Has_ev L ((stp rows p c : Nat) : Int) (by omega)
    rw [nexts_at hc] at h
    by_cases hz : 0 < p ∨ 0 < c
    · -- the letter counts
      have lead : ∀ k, spec_IsFiniteSet.l6 (k + 1) (useL m rows acc) s L (i : Int) (c : Int) b t rows acc = (if (useL m rows acc).getD (stp rows p c) false = true then ((spec_l4Has.f k L ((stp rows p c : Nat) : Int)).bind fun t519 => (if t519 = true then (spec_IsFiniteSet.l6 k (useL m rows acc) s L (i : Int) ((c + 1 : Nat) : Int) b t rows acc) else (if L.length < 17592186044416 then (spec_IsFiniteSet.l6 k (useL m rows acc) s (L ++ [((stp rows p c : Nat) : Int)]) (i : Int) ((c + 1 : Nat) : Int) b t rows acc) else (none)))) else (spec_IsFiniteSet.l6 k (useL m rows acc) s L (i : Int) ((c + 1 : Nat) : Int) b t rows acc)) := fun k => by
        rw [spec_IsFiniteSet.l6, ex, er, if_pos (by omega), if_pos (by omega), if_pos (by omega), if_pos (by omega), if_pos (by omega), if_pos (by omega), e1, w64 (x := (c : Int) + 1) (by omega) (by omega), eg]
        by_cases hp0 : 0 < p
        · rw [if_pos (by omega), if_pos (by omega), if_pos (by omega)]
          rfl
        · rw [if_neg (by omega), if_pos (by omega), if_pos (by omega), if_pos (by omega)]
          rfl
      by_cases hu : Use m rows acc (stp rows p c)
      · rw [if_pos ⟨hz, hu⟩] at h
        refine Ev.step (fun k => lead k) (Ev.congr (fun k => if_pos ((useL_get e2).2 hu)) (Ev.bind hh ?_))
        by_cases hm : ((stp rows p c : Nat) : Int) ∈ L
        · refine Ev.congr (fun k => if_pos (decide_eq_true hm)) (ih L hL hN hR ⟨hi, hi2⟩ ?_)
          rw [addAll_cons, addOne, if_pos hm] at h
          exact h
        · refine Ev.congr (fun k => if_neg (by rw [decide_eq_false hm]; decide)) ?_
          have hN' : (L ++ [((stp rows p c : Nat) : Int)]).Nodup := by
            have := nodup_addOne hN ((stp rows p c : Nat) : Int)
            rwa [addOne, if_neg hm] at this
          have hR' : ∀ x ∈ L ++ [((stp rows p c : Nat) : Int)], 0 ≤ x ∧ x < (rows.length : Int) := fun x hx => by
            rcases List.mem_append.1 hx with g | g
            · exact hR x g
            · rw [List.mem_singleton] at g; omega
          refine Ev.congr (fun k => if_pos (by omega)) (ih _ (nodup_len _ _ hN' hR') hN' hR' ⟨by rw [List.length_append]; omega, by rw [List.getElem_append_left hi]; exact hi2⟩ ?_)
          rw [addAll_cons, addOne, if_neg hm] at h
          exact h
      · rw [if_neg (fun g => hu g.2)] at h
        exact Ev.step (fun k => lead k) (Ev.congr (fun k => if_neg (fun g => hu ((useL_get e2).1 g))) (ih L hL hN hR ⟨hi, hi2⟩ h))
    · rw [if_neg (fun g => hz g.1)] at h
      refine Ev.step (fun k => ?_) (ih L hL hN hR ⟨hi, hi2⟩ h)
      rw [spec_IsFiniteSet.l6, ex, er, if_pos (by omega), if_pos (by omega), if_pos (by omega), if_pos (by omega), if_pos (by omega), if_pos (by omega), if_neg (by omega), if_neg (by omega), w64 (x := (c : Int) + 1) (by omega) (by omega)]
      rfl
  · have ex : rd L (i : Int) = (p : Int) := (rd_of hi).trans hi2
    rw [nexts_end, addAll_nil] at h
    refine Ev.step (fun k => ?_) h
    rw [spec_IsFiniteSet.l6, ex, er, if_pos (by omega), if_pos (by omega), if_pos (by omega), if_pos (by omega), if_neg (by omega), w64 (by omega) (by omega)]
    rfl
/-- the search, until the state itself comes up -/
theorem su_l5 (H : RelG m rows acc) (s : Nat) (hs : s < rows.length) {r : Bool} (h3 : Ev (fun k => spec_IsFiniteSet.l3 k (useL m rows acc) ((s + 1 : Nat) : Int) b t rows acc) r) {L G : List Int} {i : Nat} (hB : Bfs (fun v => nexts m rows acc v.toNat 0) L i G) :
    L.Nodup → (∀ x ∈ L, 0 ≤ x ∧ x < (rows.length : Int)) → (∀ j (hj : j < L.length), j < i → L[j] ≠ (s : Int)) → Ev (fun k => spec_IsFiniteSet.l5 k (useL m rows acc) (s : Int) L (i : Int) b t rows acc) (if (s : Int) ∈ G then false else r) := by
  have hnN := H.nN
  induction hB with
  | @done L k hk =>
    intro hN hR hne
    have hns : (s : Int) ∉ L := fun hm => by
      obtain ⟨j, hj, e⟩ := List.getElem_of_mem hm
      exact hne j hj (by omega) e
    rw [if_neg hns]
    refine Ev.step (fun k' => ?_) h3
    rw [spec_IsFiniteSet.l5, if_neg (by omega), w64 (by omega) (by omega)]
    rfl
  | @step L G k hk hB ih =>
    intro hN hR hne
    have hLl := nodup_len _ L hN hR
    have hq := hR L[k] (List.getElem_mem hk)
    obtain ⟨q, hq0⟩ : ∃ q : Nat, L[k] = (q : Int) := ⟨(L[k]).toNat, by omega⟩
    have hql : q < rows.length := by omega
    rw [hq0, Int.toNat_natCast] at hB ih
    by_cases e : L[k] = (s : Int)
    · have hm : (s : Int) ∈ G := hB.pre.subset (mem_addAll.2 (.inl (e ▸ List.getElem_mem hk)))
      rw [if_pos hm]
      refine Ev.step (f := fun _ => some false) (fun k' => ?_) (Ev.now _)
      rw [spec_IsFiniteSet.l5, if_pos (by omega), if_pos (by omega), rd_of hk, if_pos e]
    · refine Ev.step (fun k' => ?_) (su_l6 (b := b) (t := t) H (s : Int) k q hql 0 (by omega) L hLl hN hR ⟨hk, hq0⟩ (ih (nodup_addAll _ hN) (fun x hx => ?_) fun j hj hjk => ?_))
      · rw [spec_IsFiniteSet.l5, if_pos (by omega), if_pos (by omega), rd_of hk, if_neg e]
        rfl
      · rcases mem_addAll.1 hx with g | g
        · exact hR x g
        · exact nexts_lt H hql x g
      · obtain ⟨_, e2⟩ := pre_get (addAll_pre (nexts m rows acc q 0) L) (i := j) (by omega)
        rw [e2]
        by_cases ej : j = k
        · subst ej; exact e
        · exact hne j (by omega) (by omega)
end

/-! Finite4 -/
section
variable {m : Nat} {rows : List (List Int)} {acc : List Bool} {b t : Int}
theorem su_l4 (H : RelG m rows acc) (s : Nat) (hs : s < rows.length) (hu : Use m rows acc s) {r : Bool} : ∀ c, c ≤ m → ∀ L : List Int, L.Nodup → (∀ x ∈ L, 0 ≤ x ∧ x < (rows.length : Int)) →
    Ev (fun k => spec_IsFiniteSet.l5 k (useL m rows acc) (s : Int) (addAll L (nexts m rows acc s c)) 0 b t rows acc) r →
    Ev (fun k => spec_IsFiniteSet.l4 k (useL m rows acc) (s : Int) L (c : Int) b t rows acc) r := by
  have hlen := H.len s hs
  have hnN := H.nN
  have hmm := H.mm
  have er : rd_L1 rows (s : Int) = rows.getD s [] := rfl
  have hUl := useL_len (m := m) (rows := rows) (acc := acc)
  have es : rdOf false (useL m rows acc) (s : Int) = true := (useL_get hs).2 hu
  refine downs (P := fun c => ∀ L : List Int, L.Nodup → (∀ x ∈ L, 0 ≤ x ∧ x < (rows.length : Int)) →
    Ev (fun k => spec_IsFiniteSet.l5 k (useL m rows acc) (s : Int) (addAll L (nexts m rows acc s c)) 0 b t rows acc) r →
    Ev (fun k => spec_IsFiniteSet.l4 k (useL m rows acc) (s : Int) L (c : Int) b t rows acc) r) m (fun c hc ih L hN hR h => ?_) (fun L hN hR h => ?_)
  · obtain ⟨e1, e2⟩ := rd_stp H hs hc
    have hL := nodup_len _ L hN hR
    have eg : rdOf false (useL m rows acc) ((stp rows s c : Nat) : Int) = (useL m rows acc).getD (stp rows s c) false := rfl
    have hh := l4Has_ev L ((stp rows s c : Nat) : Int) (by omega)
    rw [nexts_at hc] at h
    have first : ∀ k, spec_IsFiniteSet.l4 (k + 1) (useL m rows acc) (s : Int) L (c : Int) b t rows acc = spec_IsFiniteSet.j6 k (useL m rows acc) (s : Int) L (c : Int) true b t rows acc := fun k => by
      rw [spec_IsFiniteSet.l4, er, if_pos (by omega), if_pos (by omega), if_pos (by omega), if_pos (by omega), es]
    by_cases hz : 0 < s ∨ 0 < c
    · have lead : ∀ k, spec_IsFiniteSet.j6 (k + 1) (useL m rows acc) (s : Int) L (c : Int) true b t rows acc = (if (useL m rows acc).getD (stp rows s c) false = true then ((spec_l4Has.f k L ((stp rows s c : Nat) : Int)).bind fun t494 => (if t494 = true then (spec_IsFiniteSet.l4 k (useL m rows acc) (s : Int) L ((c + 1 : Nat) : Int) b t rows acc) else (if L.length < 17592186044416 then (spec_IsFiniteSet.l4 k (useL m rows acc) (s : Int) (L ++ [((stp rows s c : Nat) : Int)]) ((c + 1 : Nat) : Int) b t rows acc) else (none)))) else (spec_IsFiniteSet.l4 k (useL m rows acc) (s : Int) L ((c + 1 : Nat) : Int) b t rows acc)) := fun k => by
        rw [spec_IsFiniteSet.j6, if_pos rfl, er, e1, w64 (x := (c : Int) + 1) (by omega) (by omega), eg]
        by_cases hp0 : 0 < s
        · rw [if_pos (by omega), if_pos (by omega), if_pos (by omega), if_pos (by omega), if_pos (by omega), if_pos (by omega), if_pos (by omega)]
          rfl
        · rw [if_neg (by omega), if_pos (by omega), if_pos (by omega), if_pos (by omega), if_pos (by omega), if_pos (by omega), if_pos (by omega), if_pos (by omega)]
          rfl
      by_cases hu2 : Use m rows acc (stp rows s c)
      · rw [if_pos ⟨hz, hu2⟩] at h
        refine Ev.step (fun k => first k) (Ev.step (fun k => lead k) (Ev.congr (fun k => if_pos ((useL_get e2).2 hu2)) (Ev.bind hh ?_)))
        by_cases hm : ((stp rows s c : Nat) : Int) ∈ L
        · refine Ev.congr (fun k => if_pos (decide_eq_true hm)) (ih L hN hR ?_)
          rw [addAll_cons, addOne, if_pos hm] at h
          exact h
        · refine Ev.congr (fun k => if_neg (by rw [decide_eq_false hm]; decide)) ?_
          have hN' : (L ++ [((stp rows s c : Nat) : Int)]).Nodup := by
            have := nodup_addOne hN ((stp rows s c : Nat) : Int)
            rwa [addOne, if_neg hm] at this
          have hR' : ∀ x ∈ L ++ [((stp rows s c : Nat) : Int)], 0 ≤ x ∧ x < (rows.length : Int) := fun x hx => by
            rcases List.mem_append.1 hx with g | g
            · exact hR x g
            · rw [List.mem_singleton] at g; omega
          refine Ev.congr (fun k => if_pos (by omega)) (ih _ hN' hR' ?_)
          rw [addAll_cons, addOne, if_neg hm] at h
          exact h
      · rw [if_neg (fun g => hu2 g.2)] at h
        exact Ev.step (fun k => first k) (Ev.step (fun k => lead k) (Ev.congr (fun k => if_neg (fun g => hu2 ((useL_get e2).1 g))) (ih L hN hR h)))
    · rw [if_neg (fun g => hz g.1)] at h
      refine Ev.step (fun k => first k) (Ev.step (fun k => ?_) (ih L hN hR h))
      rw [spec_IsFiniteSet.j6, if_pos rfl, if_neg (by omega), if_neg (by omega), w64 (x := (c : Int) + 1) (by omega) (by omega)]
      rfl
  · rw [nexts_end, addAll_nil] at h
    refine Ev.step (f := fun k => spec_IsFiniteSet.j6 k (useL m rows acc) (s : Int) L (m : Int) false b t rows acc) (fun k => ?_) (Ev.step (f := fun k => spec_IsFiniteSet.l5 k (useL m rows acc) (s : Int) L 0 b t rows acc) (fun k => ?_) h)
    · rw [spec_IsFiniteSet.l4, er, if_pos (by omega), if_pos (by omega), if_neg (by omega)]
    · rw [spec_IsFiniteSet.j6, if_neg (by decide)]
theorem bfs_way (H : RelG m rows acc) {s : Nat} (hs : s < rows.length) {G : List Int} (hB : Bfs (fun v => nexts m rows acc v.toNat 0) (addAll [] (nexts m rows acc s 0)) 0 G) : (s : Int) ∈ G ↔ Way m rows acc s s := by
  constructor
  · intro h
    have key : ∀ x ∈ G, ∃ q : Nat, x = (q : Int) ∧ Way m rows acc s q := by
      refine Bfs.in (P := fun x => ∃ q : Nat, x = (q : Int) ∧ Way m rows acc s q) ?_ hB (fun x hx => ?_)
      · rintro v ⟨q, rfl, hw⟩ x hx
        obtain ⟨q2, e, he⟩ := nexts_mem.1 (show x ∈ nexts m rows acc ((q : Int)).toNat 0 from hx)
        rw [Int.toNat_natCast] at he
        exact ⟨q2, e, .more hw he⟩
      · rcases mem_addAll.1 hx with g | g
        · simp at g
        · obtain ⟨q, e, he⟩ := nexts_mem.1 g
          exact ⟨q, e, .one he⟩
    obtain ⟨q, e, hw⟩ := key _ h
    have : q = s := by omega
    exact this ▸ hw
  · intro h
    have key : ∀ p q, Way m rows acc p q → p = s → (q : Int) ∈ G := by
      intro p q hw
      induction hw with
      | one he => intro e; subst e; exact hB.pre.subset (mem_addAll.2 (.inr (nexts_mem.2 ⟨_, rfl, he⟩)))
      | more _ he ih =>
        intro e
        obtain ⟨j, hj, ej⟩ := List.getElem_of_mem (ih e)
        have hc := hB.closed j hj (by omega)
        rw [ej] at hc
        exact hc _ (nexts_mem.2 ⟨_, rfl, by rw [Int.toNat_natCast]; exact he⟩)
    exact key s s h rfl
open Classical in
theorem su_l3 (H : RelG m rows acc) : ∀ s, s ≤ rows.length → Ev (fun k => spec_IsFiniteSet.l3 k (useL m rows acc) (s : Int) b t rows acc) (if ∃ s', s ≤ s' ∧ s' < rows.length ∧ Use m rows acc s' ∧ Way m rows acc s' s' then false else true) := by
  have hnN := H.nN
  have hmm := H.mm
  refine downs (P := fun s => Ev (fun k => spec_IsFiniteSet.l3 k (useL m rows acc) (s : Int) b t rows acc) (if ∃ s', s ≤ s' ∧ s' < rows.length ∧ Use m rows acc s' ∧ Way m rows acc s' s' then false else true)) rows.length (fun s hs ih => ?_) ?_
  · have h0 : ∀ k, spec_IsFiniteSet.l3 (k + 1) (useL m rows acc) (s : Int) b t rows acc = spec_IsFiniteSet.l4 k (useL m rows acc) (s : Int) [] ((0 : Nat) : Int) b t rows acc := fun k => by
      rw [spec_IsFiniteSet.l3, if_pos (by omega)]; rfl
    by_cases hu : Use m rows acc s
    · have hin : ∀ x ∈ addAll [] (nexts m rows acc s 0), 0 ≤ x ∧ x < (rows.length : Int) := fun x hx => by
        rcases mem_addAll.1 hx with g | g
        · simp at g
        · exact nexts_lt H hs x g
      have hnd : (addAll [] (nexts m rows acc s 0)).Nodup := nodup_addAll _ List.nodup_nil
      obtain ⟨G, hG⟩ := Bfs.exist (fun v => nexts m rows acc v.toNat 0) rows.length (fun v hv x hx => nexts_lt H (by omega) x hx) _ 0 hnd hin
      refine Ev.step h0 (su_l4 (b := b) (t := t) H s hs hu 0 (by omega) [] List.nodup_nil (fun x hx => by simp at hx) (Ev.eq (su_l5 (b := b) (t := t) H s hs ih hG hnd hin (fun j _ hj => absurd hj (Nat.not_lt_zero j))) ?_))
      by_cases hw : Way m rows acc s s
      · rw [if_pos ((bfs_way H hs hG).2 hw), if_pos ⟨s, Nat.le_refl _, hs, hu, hw⟩]
      · rw [if_neg (fun g => hw ((bfs_way H hs hG).1 g))]
        by_cases he : ∃ s', s + 1 ≤ s' ∧ s' < rows.length ∧ Use m rows acc s' ∧ Way m rows acc s' s'
        · obtain ⟨s', a1, a2, a3⟩ := he
          rw [if_pos ⟨s', a1, a2, a3⟩, if_pos ⟨s', by omega, a2, a3⟩]
        · rw [if_neg he, if_neg]
          rintro ⟨s', a1, a2, a3, a4⟩
          by_cases e : s' = s
          · subst e; exact hw a4
          · exact he ⟨s', by omega, a2, a3, a4⟩
    · have es : rdOf false (useL m rows acc) (s : Int) = false := by
        have : ¬ (useL m rows acc).getD s false = true := fun g => hu ((useL_get hs).1 g)
        exact Bool.eq_false_iff.2 this
      have hUl := useL_len (m := m) (rows := rows) (acc := acc)
      have er : rd_L1 rows (s : Int) = rows.getD s [] := rfl
      have hlen := H.len s hs
      refine Ev.step h0 (Ev.step (f := fun k => spec_IsFiniteSet.j6 k (useL m rows acc) (s : Int) [] 0 false b t rows acc) (fun k => ?_) (Ev.step (f := fun k => spec_IsFiniteSet.l5 k (useL m rows acc) (s : Int) [] 0 b t rows acc) (fun k => ?_) (Ev.step (f := fun k => spec_IsFiniteSet.l3 k (useL m rows acc) ((s + 1 : Nat) : Int) b t rows acc) (fun k => ?_) (Ev.eq ih ?_))))
      · rw [spec_IsFiniteSet.l4, er, if_pos (by omega), if_pos (by omega), es]
        by_cases hc : ((0 : Nat) : Int) < ((rows.getD s []).length : Int)
        · rw [if_pos hc, if_pos (by omega)]
          rfl
        · rw [if_neg hc]
          rfl
      · rw [spec_IsFiniteSet.j6, if_neg (by decide)]
      · rw [spec_IsFiniteSet.l5, if_neg (by simp), w64 (by omega) (by omega)]
        rfl
      · by_cases he : ∃ s', s + 1 ≤ s' ∧ s' < rows.length ∧ Use m rows acc s' ∧ Way m rows acc s' s'
        · obtain ⟨s', a1, a2, a3⟩ := he
          rw [if_pos ⟨s', a1, a2, a3⟩, if_pos ⟨s', by omega, a2, a3⟩]
        · rw [if_neg he, if_neg]
          rintro ⟨s', a1, a2, a3, a4⟩
          by_cases e : s' = s
          · subst e; exact hu a3
          · exact he ⟨s', by omega, a2, a3, a4⟩
  · rw [if_neg (by rintro ⟨s', a1, a2, _⟩; omega)]
    refine Ev.step (f := fun _ => some true) (fun k => ?_) (Ev.now _)
    rw [spec_IsFiniteSet.l3, if_neg (by omega)]
/-! the other way: words of one more letter each round -/
structure Is (n : Nat) (V : List Bool) (A : Nat → Prop) : Prop where
  len : V.length = n
  iff : ∀ q, q < n → (V.getD q false = true ↔ A q)
theorem Is.set {n : Nat} {V : List Bool} {A : Nat → Prop} (h : Is n V A) {x : Nat} (hx : x < n) : Is n (V.set x true) (fun q => A q ∨ q = x) := by
  refine ⟨by rw [List.length_set, h.len], fun q hq => ?_⟩
  rw [set_get (by rw [h.len]; exact hx)]
  by_cases e : q = x
  · rw [if_pos e]; simp [e]
  · rw [if_neg e, h.iff q hq]; simp [e]
theorem Is.congr {n : Nat} {V : List Bool} {A B : Nat → Prop} (h : Is n V A) (hAB : ∀ q, q < n → (A q ↔ B q)) : Is n V B := ⟨h.len, fun q hq => (h.iff q hq).trans (hAB q hq)⟩
theorem Is.none (n : Nat) : Is n (List.replicate n false) (fun _ => False) := ⟨by simp, fun q hq => by
  rw [List.getD_eq_getElem?_getD, List.getElem?_replicate, if_pos hq]; simp⟩
theorem Is.eq {n : Nat} {V V' : List Bool} {A : Nat → Prop} (h : Is n V A) (h' : Is n V' A) : V = V' := by
  refine List.ext_getElem (by rw [h.len, h'.len]) fun i h1 h2 => ?_
  have hi : i < n := by rw [← h.len]; exact h1
  have e1 : V.getD i false = V[i] := by rw [List.getD_eq_getElem?_getD, List.getElem?_eq_getElem h1]; rfl
  have e2 : V'.getD i false = V'[i] := by rw [List.getD_eq_getElem?_getD, List.getElem?_eq_getElem h2]; rfl
  rw [← e1, ← e2]
  exact Bool.eq_iff_iff.2 ((h.iff i hi).trans (h'.iff i hi).symm)
theorem contains_ev (V : List Bool) (hl : V.length ≤ 1048576) : Ev (fun k => slices_Contains_bool_bool.f k V true) (decide (true ∈ V)) := by
  have key : ∀ i, i ≤ V.length → ∃ z : Int, (0 ≤ z ↔ true ∈ V.drop i) ∧ Ev (fun k => slices_Index_bool_bool.l0 k V true (V.length : Int) (i : Int)) z := by
    refine downs (P := fun i => ∃ z : Int, (0 ≤ z ↔ true ∈ V.drop i) ∧ Ev (fun k => slices_Index_bool_bool.l0 k V true (V.length : Int) (i : Int)) z) V.length (fun i hi ⟨z, hz, ih⟩ => ?_) ?_
    · have e : rdOf false V (i : Int) = V[i] := by unfold rdOf; exact getD_of hi
      rw [drop_at hi]
      cases h : V[i] with
      | true =>
        refine ⟨(i : Int), by simp, Ev.step (f := fun _ => some (i : Int)) (fun k => ?_) (Ev.now _)⟩
        rw [slices_Index_bool_bool.l0, if_pos (by omega), if_pos (by omega), if_pos (by omega), e, h, if_pos (by decide)]
      | false =>
        refine ⟨z, by rw [hz]; simp, Ev.step (fun k => ?_) ih⟩
        rw [slices_Index_bool_bool.l0, if_pos (by omega), if_pos (by omega), if_pos (by omega), e, h, if_neg (by decide), w64 (by omega) (by omega)]
        rfl
    · refine ⟨-1, by simp, Ev.step (f := fun _ => some (-1)) (fun k => ?_) (Ev.now _)⟩
      rw [slices_Index_bool_bool.l0, if_neg (by omega)]
  obtain ⟨z, hz, h⟩ := key 0 (by omega)
  rw [List.drop_zero] at hz
  unfold slices_Contains_bool_bool.f slices_Index_bool_bool.f
  exact Ev.bind h (Ev.eq (Ev.now _) (decide_eq_decide.2 hz))
theorem Is.mem {n : Nat} {V : List Bool} {A : Nat → Prop} (h : Is n V A) : true ∈ V ↔ ∃ q, q < n ∧ A q := by
  constructor
  · intro hm
    obtain ⟨i, hi, e⟩ := List.getElem_of_mem hm
    have hi' : i < n := by rw [← h.len]; exact hi
    refine ⟨i, hi', (h.iff i hi').1 ?_⟩
    rw [List.getD_eq_getElem?_getD, List.getElem?_eq_getElem hi, e]
    rfl
  · rintro ⟨q, hq, ha⟩
    have := (h.iff q hq).2 ha
    have hq' : q < V.length := by rw [h.len]; exact hq
    rw [List.getD_eq_getElem?_getD, List.getElem?_eq_getElem hq'] at this
    exact (show V[q] = true from this) ▸ List.getElem_mem hq'
end

/-! Finite5 -/
section
variable {m : Nat} {rows : List (List Int)} {acc : List Bool} {b t : Int}
open Classical in
noncomputable def curL (m : Nat) (rows : List (List Int)) (acc : List Bool) (t : Nat) : List Bool := (List.range rows.length).map (fun q => decide (Cur m rows acc t q))
theorem curL_is (t : Nat) : Is rows.length (curL m rows acc t) (Cur m rows acc t) := by
  refine ⟨by simp [curL], fun q hq => ?_⟩
  unfold curL
  rw [List.getD_eq_getElem?_getD, List.getElem?_map, List.getElem?_range hq]
  simp
theorem use_at {q : Nat} (hq : q < rows.length) : rdOf false (useL m rows acc) (q : Int) = true ↔ Use m rows acc q := useL_get hq
theorem ii_l3 (H : RelG m rows acc) (tt i : Nat) (hi : i < rows.length) (C : List Bool) {r : Bool} : ∀ c, c ≤ m → ∀ (V : List Bool) (sb : Bool) (A : Nat → Prop), Is rows.length V A → (sb = true ↔ ∃ q, q < rows.length ∧ A q) →
    (∀ V' sb', Is rows.length V' (fun q => A q ∨ ∃ c', c ≤ c' ∧ c' < m ∧ stp rows i c' = q ∧ Use m rows acc q) → (sb' = true ↔ ∃ q, q < rows.length ∧ (A q ∨ ∃ c', c ≤ c' ∧ c' < m ∧ stp rows i c' = q ∧ Use m rows acc q)) → Ev (fun k => impl_IsFiniteSet.l2 k (useL m rows acc) V' sb' (rows.length : Int) (tt : Int) C (C.length : Int) ((i + 1 : Nat) : Int) b t rows acc) r) →
    Ev (fun k => impl_IsFiniteSet.l3 k (useL m rows acc) V sb (rows.length : Int) (tt : Int) C (C.length : Int) (i : Int) (rows.getD i []) ((rows.getD i []).length : Int) (c : Int) b t rows acc) r := by
  have hlen := H.len i hi
  have hnN := H.nN
  have hmm := H.mm
  have hUl := useL_len (m := m) (rows := rows) (acc := acc)
  refine downs (P := fun c => ∀ (V : List Bool) (sb : Bool) (A : Nat → Prop), Is rows.length V A → (sb = true ↔ ∃ q, q < rows.length ∧ A q) →
    (∀ V' sb', Is rows.length V' (fun q => A q ∨ ∃ c', c ≤ c' ∧ c' < m ∧ stp rows i c' = q ∧ Use m rows acc q) → (sb' = true ↔ ∃ q, q < rows.length ∧ (A q ∨ ∃ c', c ≤ c' ∧ c' < m ∧ stp rows i c' = q ∧ Use m rows acc q)) → Ev (fun k => impl_IsFiniteSet.l2 k (useL m rows acc) V' sb' (rows.length : Int) (tt : Int) C (C.length : Int) ((i + 1 : Nat) : Int) b t rows acc) r) →
    Ev (fun k => impl_IsFiniteSet.l3 k (useL m rows acc) V sb (rows.length : Int) (tt : Int) C (C.length : Int) (i : Int) (rows.getD i []) ((rows.getD i []).length : Int) (c : Int) b t rows acc) r) m (fun c hc ih V sb A hV hsb h => ?_) (fun V sb A hV hsb h => ?_)
  · obtain ⟨e1, e2⟩ := rd_stp H hi hc
    have hVl := hV.len
    by_cases hu : Use m rows acc (stp rows i c)
    · have same : ∀ q, ((A q ∨ q = stp rows i c) ∨ ∃ c', c + 1 ≤ c' ∧ c' < m ∧ stp rows i c' = q ∧ Use m rows acc q) ↔ (A q ∨ ∃ c', c ≤ c' ∧ c' < m ∧ stp rows i c' = q ∧ Use m rows acc q) := fun q => by
        constructor
        · rintro ((h | h) | ⟨c', h1, h2, h3⟩)
          · exact .inl h
          · exact .inr ⟨c, Nat.le_refl _, hc, h.symm, h ▸ hu⟩
          · exact .inr ⟨c', by omega, h2, h3⟩
        · rintro (h | ⟨c', h1, h2, h3, h4⟩)
          · exact .inl (.inl h)
          · by_cases e : c' = c
            · subst e; exact .inl (.inr h3.symm)
            · exact .inr ⟨c', by omega, h2, h3, h4⟩
      refine Ev.step (fun k => ?_) (ih (V.set (stp rows i c) true) true _ (hV.set e2) (by simp only [true_iff]; exact ⟨_, e2, .inr rfl⟩) fun V' sb' hV' hsb' => h V' sb' (hV'.congr fun q _ => same q) (hsb'.trans ⟨fun ⟨q, hq, ha⟩ => ⟨q, hq, (same q).1 ha⟩, fun ⟨q, hq, ha⟩ => ⟨q, hq, (same q).2 ha⟩⟩))
      rw [impl_IsFiniteSet.l3, if_pos (by omega), if_pos (by omega), if_pos (by omega), e1, if_pos (by omega), if_pos (by omega), if_pos ((use_at e2).2 hu), if_pos (by omega), w64 (by omega) (by omega), Int.toNat_natCast]
      rfl
    · have same : ∀ q, (A q ∨ ∃ c', c + 1 ≤ c' ∧ c' < m ∧ stp rows i c' = q ∧ Use m rows acc q) ↔ (A q ∨ ∃ c', c ≤ c' ∧ c' < m ∧ stp rows i c' = q ∧ Use m rows acc q) := fun q => by
        constructor
        · rintro (h | ⟨c', h1, h2, h3⟩)
          · exact .inl h
          · exact .inr ⟨c', by omega, h2, h3⟩
        · rintro (h | ⟨c', h1, h2, h3, h4⟩)
          · exact .inl h
          · by_cases e : c' = c
            · subst e; exact absurd (h3 ▸ h4) hu
            · exact .inr ⟨c', by omega, h2, h3, h4⟩
      refine Ev.step (fun k => ?_) (ih V sb A hV hsb fun V' sb' hV' hsb' => h V' sb' (hV'.congr fun q _ => same q) (hsb'.trans ⟨fun ⟨q, hq, ha⟩ => ⟨q, hq, (same q).1 ha⟩, fun ⟨q, hq, ha⟩ => ⟨q, hq, (same q).2 ha⟩⟩))
      rw [impl_IsFiniteSet.l3, if_pos (by omega), if_pos (by omega), if_pos (by omega), e1, if_pos (by omega), if_pos (by omega), if_neg (fun g => hu ((use_at e2).1 g)), w64 (by omega) (by omega)]
      rfl
  · have same : ∀ q, A q ↔ (A q ∨ ∃ c', m ≤ c' ∧ c' < m ∧ stp rows i c' = q ∧ Use m rows acc q) := fun q => ⟨.inl, fun h => h.elim id fun ⟨c', h1, h2, _⟩ => by omega⟩
    refine Ev.step (fun k => ?_) (h V sb (hV.congr fun q _ => same q) (hsb.trans ⟨fun ⟨q, hq, ha⟩ => ⟨q, hq, (same q).1 ha⟩, fun ⟨q, hq, ha⟩ => ⟨q, hq, (same q).2 ha⟩⟩))
    rw [impl_IsFiniteSet.l3, if_neg (by omega), w64 (by omega) (by omega)]
    rfl
theorem ii_l2 (H : RelG m rows acc) (tt : Nat) (C : List Bool) {B : Nat → Prop} (hC : Is rows.length C B) {r : Bool} : ∀ i, i ≤ rows.length → ∀ (V : List Bool) (sb : Bool) (A : Nat → Prop), Is rows.length V A → (sb = true ↔ ∃ q, q < rows.length ∧ A q) →
    (∀ V' sb', Is rows.length V' (fun q => A q ∨ ∃ i' c', i ≤ i' ∧ i' < rows.length ∧ B i' ∧ c' < m ∧ stp rows i' c' = q ∧ Use m rows acc q) → (sb' = true ↔ ∃ q, q < rows.length ∧ (A q ∨ ∃ i' c', i ≤ i' ∧ i' < rows.length ∧ B i' ∧ c' < m ∧ stp rows i' c' = q ∧ Use m rows acc q)) → Ev (fun k => if sb' = true then (impl_IsFiniteSet.l1 k (useL m rows acc) V' (rows.length : Int) (wrap64 ((tt : Int) + 1)) b t rows acc) else (some true)) r) →
    Ev (fun k => impl_IsFiniteSet.l2 k (useL m rows acc) V sb (rows.length : Int) (tt : Int) C (C.length : Int) (i : Int) b t rows acc) r := by
  have hnN := H.nN
  have hCl := hC.len
  refine downs (P := fun i => ∀ (V : List Bool) (sb : Bool) (A : Nat → Prop), Is rows.length V A → (sb = true ↔ ∃ q, q < rows.length ∧ A q) →
    (∀ V' sb', Is rows.length V' (fun q => A q ∨ ∃ i' c', i ≤ i' ∧ i' < rows.length ∧ B i' ∧ c' < m ∧ stp rows i' c' = q ∧ Use m rows acc q) → (sb' = true ↔ ∃ q, q < rows.length ∧ (A q ∨ ∃ i' c', i ≤ i' ∧ i' < rows.length ∧ B i' ∧ c' < m ∧ stp rows i' c' = q ∧ Use m rows acc q)) → Ev (fun k => if sb' = true then (impl_IsFiniteSet.l1 k (useL m rows acc) V' (rows.length : Int) (wrap64 ((tt : Int) + 1)) b t rows acc) else (some true)) r) →
    Ev (fun k => impl_IsFiniteSet.l2 k (useL m rows acc) V sb (rows.length : Int) (tt : Int) C (C.length : Int) (i : Int) b t rows acc) r) rows.length (fun i hi ih V sb A hV hsb h => ?_) (fun V sb A hV hsb h => ?_)
  · have eC : rdOf false C (i : Int) = C.getD i false := rfl
    by_cases hb : B i
    · have same : ∀ q, ((A q ∨ ∃ c', 0 ≤ c' ∧ c' < m ∧ stp rows i c' = q ∧ Use m rows acc q) ∨ ∃ i' c', i + 1 ≤ i' ∧ i' < rows.length ∧ B i' ∧ c' < m ∧ stp rows i' c' = q ∧ Use m rows acc q) ↔ (A q ∨ ∃ i' c', i ≤ i' ∧ i' < rows.length ∧ B i' ∧ c' < m ∧ stp rows i' c' = q ∧ Use m rows acc q) := fun q => by
        constructor
        · rintro ((h | ⟨c', h1, h2, h3⟩) | ⟨i', c', h1, h2⟩)
          · exact .inl h
          · exact .inr ⟨i, c', Nat.le_refl _, hi, hb, h2, h3⟩
          · exact .inr ⟨i', c', by omega, h2⟩
        · rintro (h | ⟨i', c', h1, h2, h3, h4⟩)
          · exact .inl (.inl h)
          · by_cases e : i' = i
            · subst e; exact .inl (.inr ⟨c', by omega, h4⟩)
            · exact .inr ⟨i', c', by omega, h2, h3, h4⟩
      refine Ev.step (fun k => ?_) (ii_l3 (b := b) (t := t) H tt i hi C 0 (by omega) V sb A hV hsb fun V1 sb1 hV1 hsb1 => ih V1 sb1 _ hV1 hsb1 fun V' sb' hV' hsb' => h V' sb' (hV'.congr fun q _ => same q) (hsb'.trans ⟨fun ⟨q, hq, ha⟩ => ⟨q, hq, (same q).1 ha⟩, fun ⟨q, hq, ha⟩ => ⟨q, hq, (same q).2 ha⟩⟩))
      rw [impl_IsFiniteSet.l2, if_pos (by omega), if_pos (by omega), if_pos (by omega), eC, if_pos ((hC.iff i hi).2 hb), if_pos (by omega)]
      rfl
    · have same : ∀ q, (A q ∨ ∃ i' c', i + 1 ≤ i' ∧ i' < rows.length ∧ B i' ∧ c' < m ∧ stp rows i' c' = q ∧ Use m rows acc q) ↔ (A q ∨ ∃ i' c', i ≤ i' ∧ i' < rows.length ∧ B i' ∧ c' < m ∧ stp rows i' c' = q ∧ Use m rows acc q) := fun q => by
        constructor
        · rintro (h | ⟨i', c', h1, h2⟩)
          · exact .inl h
          · exact .inr ⟨i', c', by omega, h2⟩
        · rintro (h | ⟨i', c', h1, h2, h3, h4⟩)
          · exact .inl h
          · by_cases e : i' = i
            · subst e; exact absurd h3 hb
            · exact .inr ⟨i', c', by omega, h2, h3, h4⟩
      refine Ev.step (fun k => ?_) (ih V sb A hV hsb fun V' sb' hV' hsb' => h V' sb' (hV'.congr fun q _ => same q) (hsb'.trans ⟨fun ⟨q, hq, ha⟩ => ⟨q, hq, (same q).1 ha⟩, fun ⟨q, hq, ha⟩ => ⟨q, hq, (same q).2 ha⟩⟩))
      rw [impl_IsFiniteSet.l2, if_pos (by omega), if_pos (by omega), if_pos (by omega), eC, if_neg (fun g => hb ((hC.iff i hi).1 g)), w64 (by omega) (by omega)]
      rfl
  · have same : ∀ q, A q ↔ (A q ∨ ∃ i' c', rows.length ≤ i' ∧ i' < rows.length ∧ B i' ∧ c' < m ∧ stp rows i' c' = q ∧ Use m rows acc q) := fun q => ⟨.inl, fun h => h.elim id fun ⟨i', c', h1, h2, _⟩ => by omega⟩
    refine Ev.step (fun k => ?_) (h V sb (hV.congr fun q _ => same q) (hsb.trans ⟨fun ⟨q, hq, ha⟩ => ⟨q, hq, (same q).1 ha⟩, fun ⟨q, hq, ha⟩ => ⟨q, hq, (same q).2 ha⟩⟩))
    rw [impl_IsFiniteSet.l2, if_neg (by omega)]
theorem cur_lt (H : RelG m rows acc) {tt q : Nat} (h : Cur m rows acc tt q) : q < rows.length := by
  obtain ⟨l, w, _, h1, h2, _, rfl, _⟩ := h
  exact (auto_raw H).rn_lt _ 0 (by have := H.n1; omega) (ltr_cons.2 ⟨h1, h2⟩)
open Classical in
theorem ii_l1 (H : RelG m rows acc) : ∀ tt, tt ≤ rows.length → Ev (fun k => impl_IsFiniteSet.l1 k (useL m rows acc) (curL m rows acc tt) (rows.length : Int) (tt : Int) b t rows acc) (if ∃ q, Cur m rows acc rows.length q then false else true) := by
  have hnN := H.nN
  refine downs (P := fun tt => Ev (fun k => impl_IsFiniteSet.l1 k (useL m rows acc) (curL m rows acc tt) (rows.length : Int) (tt : Int) b t rows acc) (if ∃ q, Cur m rows acc rows.length q then false else true)) rows.length (fun tt ht ih => ?_) ?_
  · have hl := (curL_is (m := m) (rows := rows) (acc := acc) tt).len
    refine Ev.step (fun k => ?_) (ii_l2 (b := b) (t := t) H tt (curL m rows acc tt) (curL_is tt) 0 (by omega) (List.replicate rows.length false) false _ (Is.none _) (by simp) fun V' sb' hV' hsb' => ?_)
    · rw [impl_IsFiniteSet.l1, if_pos (by omega), if_pos (by omega), if_pos (by omega), Int.toNat_natCast]
      rfl
    · have same : ∀ q, (False ∨ ∃ i' c', 0 ≤ i' ∧ i' < rows.length ∧ Cur m rows acc tt i' ∧ c' < m ∧ stp rows i' c' = q ∧ Use m rows acc q) ↔ Cur m rows acc (tt + 1) q := fun q => by
        rw [Cur.succ]
        constructor
        · rintro (h | ⟨i', c', _, h1, h2, h3, h4, h5⟩)
          · exact h.elim
          · exact ⟨i', c', h3, h2, h4, h5⟩
        · rintro ⟨p, l, h1, h2, h3, h4⟩
          exact .inr ⟨p, l, by omega, cur_lt H h2, h2, h1, h3, h4⟩
      have hV2 : V' = curL m rows acc (tt + 1) := (hV'.congr fun q _ => same q).eq (curL_is (tt + 1))
      by_cases hs : sb' = true
      · refine Ev.congr (fun k => if_pos hs) ?_
        rw [hV2, w64 (by omega) (by omega)]
        exact ih
      · refine Ev.congr (fun k => if_neg hs) (Ev.eq (Ev.now _) ?_)
        rw [if_neg]
        rintro ⟨q, hq⟩
        obtain ⟨d, hd⟩ : ∃ d, rows.length = tt + 1 + d := ⟨rows.length - (tt + 1), by omega⟩
        rw [hd] at hq
        obtain ⟨p, hp⟩ := Cur.le d hq
        exact hs (hsb'.2 ⟨p, cur_lt H hp, (same p).2 hp⟩)
  · have hl := (curL_is (m := m) (rows := rows) (acc := acc) rows.length).len
    have hc := contains_ev (curL m rows acc rows.length) (by omega)
    refine Ev.step (f := fun k => (slices_Contains_bool_bool.f k (curL m rows acc rows.length) true).bind fun t1054 => (some (!t1054))) (fun k => ?_) (Ev.bind hc (Ev.eq (Ev.now _) ?_))
    · rw [impl_IsFiniteSet.l1, if_neg (by omega)]
    · have hm := (curL_is (m := m) (rows := rows) (acc := acc) rows.length).mem
      by_cases he : ∃ q, Cur m rows acc rows.length q
      · obtain ⟨q, hq⟩ := he
        rw [if_pos ⟨q, hq⟩, decide_eq_true (hm.2 ⟨q, cur_lt H hq, hq⟩)]
        rfl
      · rw [if_neg he, decide_eq_false (fun g => he (by obtain ⟨q, _, h⟩ := hm.1 g; exact ⟨q, h⟩))]
        rfl
theorem ii_l0 (H : RelG m rows acc) {r : Bool} (h1 : Ev (fun k => impl_IsFiniteSet.l1 k (useL m rows acc) (curL m rows acc 0) (rows.length : Int) 0 b t rows acc) r) :
    Ev (fun k => impl_IsFiniteSet.l0 k (useL m rows acc) (List.replicate rows.length false) (rows.getD 0 []) ((rows.getD 0 []).length : Int) 0 b t rows acc) r := by
  have hnN := H.nN
  have hn1 := H.n1
  have hlen := H.len 0 (by omega)
  have hmm := H.mm
  have hUl := useL_len (m := m) (rows := rows) (acc := acc)
  have key := downs (P := fun c => ∀ V, Is rows.length V (fun q => ∃ l, 0 < l ∧ l < c ∧ stp rows 0 l = q ∧ Use m rows acc q) → Ev (fun k => impl_IsFiniteSet.l0 k (useL m rows acc) V (rows.getD 0 []) ((rows.getD 0 []).length : Int) (c : Int) b t rows acc) r) m
    (fun c hc ih V hV => by
      obtain ⟨e1, e2⟩ := rd_stp H (show 0 < rows.length by omega) hc
      have hVl := hV.len
      by_cases hz : 0 < c
      · by_cases hu : Use m rows acc (stp rows 0 c)
        · refine Ev.step (fun k => ?_) (ih (V.set (stp rows 0 c) true) ((hV.set e2).congr fun q _ => ?_))
          · rw [impl_IsFiniteSet.l0, if_pos (by omega), if_pos (by omega), if_pos (by omega), if_pos (by omega), e1, if_pos (by omega), if_pos (by omega), if_pos ((use_at e2).2 hu), if_pos (by omega), w64 (by omega) (by omega), Int.toNat_natCast]
            rfl
          · constructor
            · rintro (⟨l, a1, a2, a3⟩ | h)
              · exact ⟨l, a1, by omega, a3⟩
              · exact ⟨c, hz, by omega, h.symm, h ▸ hu⟩
            · rintro ⟨l, a1, a2, a3, a4⟩
              by_cases e : l = c
              · subst e; exact .inr a3.symm
              · exact .inl ⟨l, a1, by omega, a3, a4⟩
        · refine Ev.step (fun k => ?_) (ih V (hV.congr fun q _ => ?_))
          · rw [impl_IsFiniteSet.l0, if_pos (by omega), if_pos (by omega), if_pos (by omega), if_pos (by omega), e1, if_pos (by omega), if_pos (by omega), if_neg (fun g => hu ((use_at e2).1 g)), w64 (by omega) (by omega)]
            rfl
          · constructor
            · rintro ⟨l, a1, a2, a3⟩
              exact ⟨l, a1, by omega, a3⟩
            · rintro ⟨l, a1, a2, a3, a4⟩
              by_cases e : l = c
              · subst e; exact absurd (a3 ▸ a4) hu
              · exact ⟨l, a1, by omega, a3, a4⟩
      · refine Ev.step (fun k => ?_) (ih V (hV.congr fun q _ => ?_))
        · rw [impl_IsFiniteSet.l0, if_pos (by omega), if_pos (by omega), if_pos (by omega), if_neg (by omega), w64 (by omega) (by omega)]
          rfl
        · constructor
          · rintro ⟨l, a1, a2, a3⟩
            exact ⟨l, a1, by omega, a3⟩
          · rintro ⟨l, a1, a2, a3⟩
            exact ⟨l, a1, by omega, a3⟩)
    (fun V hV => by
      have hV2 : V = curL m rows acc 0 := (hV.congr fun q _ => by
        constructor
        · rintro ⟨l, a1, a2, a3, a4⟩
          exact ⟨l, [], a1, a2, fun x hx => by simp at hx, rfl, a3, a4⟩
        · rintro ⟨l, w, a1, a2, a3, a4, a5, a6⟩
          have : w = [] := List.eq_nil_of_length_eq_zero a4
          subst this
          exact ⟨l, a1, a2, a5, a6⟩).eq (curL_is 0)
      subst hV2
      refine Ev.step (fun k => ?_) h1
      rw [impl_IsFiniteSet.l0, if_neg (by omega)])
  exact key 0 (by omega) _ ((Is.none _).congr fun q _ => ⟨fun h => h.elim, fun ⟨l, _, h, _⟩ => by omega⟩)
end
open Classical in
theorem isFinite_both (b t : Int) (rows : List (List Int)) (acc : List Bool) (hl : rows.length ≤ 1048576) (hr : ∀ i (h : i < rows.length), rows[i].length ≤ 1048576) :
    ∃ z : Bool, Ev (fun k => spec_IsFiniteSet.f k b t rows acc) z ∧ Ev (fun k => impl_IsFiniteSet.f k b t rows acc) z := by
  have hS := specRel_ev b t rows acc hl hr
  have hI := implRel_ev b t rows acc hl hr
  unfold spec_IsFiniteSet.f impl_IsFiniteSet.f
  cases h : isRelW b t rows acc with
  | false =>
    rw [h] at hS hI
    have q1 : Ev (fun k => spec_ReducedRelation.f k b t rows acc) ((0, 0, [], [], false) : RelR) := by
      unfold spec_ReducedRelation.f
      refine Ev.bind hS ?_
      simp only [Bool.false_eq_true, if_false]
      exact Ev.now _
    refine ⟨false, Ev.bind q1 ?_, Ev.bind hI ?_⟩
    · simp only [Bool.false_eq_true, if_false]
      exact Ev.now _
    · simp only [Bool.false_eq_true, if_false]
      exact Ev.now _
  | true =>
    rw [h] at hS hI
    obtain ⟨b', t', rfl, rfl, HW⟩ := isRelW_true h
    have H := HW.toG
    obtain ⟨c0, e, F, K, hE⟩ := reduceG_ev (b' : Int) (t' : Int) H
    obtain ⟨hA, _⟩ := red_auto H K
    obtain ⟨_, hle, hF1⟩ := red_nodup H K
    have hm : 0 < b' ^ t' := Nat.pos_of_ne_zero fun e => by
      have := HW.b2
      rw [Nat.pow_eq_zero] at e
      omega
    have h00 : stp rows 0 0 = 0 := by
      have hz := HW.zero
      have e : rd (rows.getD 0 []) 0 = (rows.getD 0 []).getD 0 0 := rfl
      unfold stp
      rw [← e, hz]
      rfl
    have q1 : Ev (fun k => spec_ReducedRelation.f k b' t' rows acc) (((b' : Int), (t' : Int), F.map (rowF rows e F), F.map (accF e acc), true) : RelR) := by
      unfold spec_ReducedRelation.f
      refine Ev.bind hS ?_
      simp only [if_true]
      exact Ev.bind hE (Ev.now _)
    have hiff := finite_iff H K hm h00
    have hG : RelG (b' ^ t') (F.map (rowF rows e F)) (F.map (accF e acc)) := by
      have hnN := H.nN
      refine ⟨by simpa using hF1, by rw [List.length_map]; omega, by simp, H.mm, fun i hi => hA.row i (by simpa using hi), fun i hi x hx => ?_⟩
      have hi' : i < F.length := by simpa using hi
      rw [List.getD_eq_getElem?_getD, List.getElem?_map, List.getElem?_eq_getElem hi', Option.map_some, Option.getD_some] at hx
      unfold rowF at hx
      obtain ⟨y, hy, rfl⟩ := List.mem_map.1 hx
      have hyF : y ∈ F := K.bfs.closed i hi' (by omega) y hy
      have := List.idxOf_lt_length_iff.2 hyF
      rw [List.length_map]
      omega
    refine ⟨(if ∃ q, Cur (b' ^ t') rows acc rows.length q then false else true), Ev.bind q1 ?_, Ev.bind hI ?_⟩
    rotate_left
    · refine Ev.congr (fun k => if_pos rfl) (Ev.bind (useful_ev (b := b') (t := t') H) (Ev.congr (fun k => if_pos (by omega)) (Ev.congr (fun k => if_pos (by have := H.nN; omega)) (Ev.congr (fun k => if_pos (by have := H.n1; omega)) (Ev.congr (fun k => by rw [Int.toNat_natCast]; rfl) (ii_l0 (b := b') (t := t') H (ii_l1 (b := b') (t := t') H 0 (by omega))))))))
    · refine Ev.congr (fun k => if_pos rfl) (Ev.congr (fun k => if_pos (by omega)) (Ev.congr (fun k => if_pos (by have := hG.nN; simp only at *; omega)) (Ev.congr (fun k => by rw [Int.toNat_natCast]) (su_l0 (b := b') (t := t') hG (Ev.eq (su_l3 (b := b') (t := t') hG 0 (by omega)) ?_)))))
      have e1 : (∃ s', 0 ≤ s' ∧ s' < (F.map (rowF rows e F)).length ∧ Use (b' ^ t') (F.map (rowF rows e F)) (F.map (accF e acc)) s' ∧ Way (b' ^ t') (F.map (rowF rows e F)) (F.map (accF e acc)) s' s') ↔ ∃ q, Cur (b' ^ t') rows acc rows.length q := by
        rw [← hiff, List.length_map]
        exact ⟨fun ⟨s, _, h⟩ => ⟨s, h⟩, fun ⟨s, h⟩ => ⟨s, Nat.zero_le _, h⟩⟩
      by_cases g : ∃ q, Cur (b' ^ t') rows acc rows.length q
      · rw [if_pos g, if_pos (e1.2 g)]
      · rw [if_neg g, if_neg (fun h => g (e1.1 h))]

/-! law_FnExactIsFiniteSet -/
theorem FnExactIsFiniteSet (a0 a1 : Int) (l2 : List (List Int)) (l3 : List Bool) (w0 : -9223372036854775808 ≤ a0 ∧ a0 ≤ 9223372036854775807) (w1 : -9223372036854775808 ≤ a1 ∧ a1 ≤ 9223372036854775807) (w2 : wfl (wfl wfi) l2) (w3 : wfl (fun _ => True) l3) : ∃ k, laws_FnExactIsFiniteSet.f k a0 a1 l2 l3 = some true := by
  refine Ev.rounds ?_
  unfold laws_FnExactIsFiniteSet.f
  obtain ⟨r, e, hle, hk⟩ := szRelation_ev a0 a1 l2 l3 w2.1 (fun x hx => (w2.2 x hx).1) w3.1
  refine Ev.bind e ?_
  by_cases hr : r < 0
  · simp only [if_pos hr]
    exact Ev.now _
  simp only [if_neg hr]
  obtain ⟨k1, k2, k3⟩ := hk (by omega)
  obtain ⟨z, hs, hi⟩ := isFinite_both a0 a1 l2 l3 k1 (fun i h => k2 _ (List.getElem_mem h))
  have t0 := toRelation_ev a0 a1 l2 l3 k1 k2 k3
  refine Ev.bind t0 (Ev.bind hs (Ev.bind hi ?_))
  exact Ev.congr (fun k => if_pos rfl) (Ev.bind (eqRelation_self a0 a1 l2 l3 k1 k2 k3) (Ev.congr (fun k => if_pos rfl) (Ev.now _)))

end Go.Proofs.Ytefelghmmpmigaa.Pure
