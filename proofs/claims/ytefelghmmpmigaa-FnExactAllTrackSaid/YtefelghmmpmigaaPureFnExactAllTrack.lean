/- The pure law FnExactAllTrack: what the printed functions of the program and of the reference compute agrees, for all arguments. -/
import Derived.Test.YtefelghmmpmigaaF
import Derived.Test.YtefelghmmpmigaaF1
import Derived.Test.YtefelghmmpmigaaF2
import Derived.Test.YtefelghmmpmigaaF8
import Derived.Test.YtefelghmmpmigaaQ0
import Derived.Test.YtefelghmmpmigaaQ20
import Derived.Test.YtefelghmmpmigaaQ23
import Derived.Test.YtefelghmmpmigaaQ24
import Derived.Test.YtefelghmmpmigaaQ25
import Derived.Test.YtefelghmmpmigaaQ26
import Derived.Test.YtefelghmmpmigaaQ33
import Derived.Test.YtefelghmmpmigaaQ34
import Derived.Test.YtefelghmmpmigaaQ36
import Derived.Test.YtefelghmmpmigaaQ37
import Derived.Test.YtefelghmmpmigaaMRow
namespace Go.Proofs.Ytefelghmmpmigaa.Pure
open Go.RowKit Go.Proofs.Ytefelghmmpmigaa.Q Go.Proofs.Ytefelghmmpmigaa.MRow Go.Proofs.YtefelghmmpmigaaW.PrintWords Go.Proofs.YtefelghmmpmigaaW.PrintLast
set_option linter.unusedVariables false
set_option linter.unusedSimpArgs false

/-! base -/
theorem w64 {x : Int} (h0 : -9223372036854775808 ≤ x) (h1 : x < 9223372036854775808) : wrap64 x = x := by
  unfold wrap64; omega

theorem rd_of {xs : List Int} {i : Nat} (h : i < xs.length) : rd xs (i : Int) = xs[i] := by
  simp [rd, List.getD_eq_getElem?_getD, h]
theorem getD_of {α : Type} {xs : List α} {d : α} {i : Nat} (h : i < xs.length) : xs.getD ((i : Int)).toNat d = xs[i] := by
  simp [List.getD_eq_getElem?_getD, h]
/-- From the end of a range down. -/
theorem downs {P : Nat → Prop} (n : Nat) (step : ∀ i, i < n → P (i + 1) → P i) (done : P n) : ∀ i, i ≤ n → P i := by
  have key : ∀ d i, i + d = n → P i := by
    intro d
    induction d with
    | zero => intro i hi; rw [show i = n by omega]; exact done
    | succ d ih => intro i hi; exact step i (by omega) (ih (i + 1) (by omega))
  intro i hi
  exact key (n - i) i (by omega)
theorem drop_at {α : Type} {l : List α} {i : Nat} (h : i < l.length) : l.drop i = l[i] :: l.drop (i + 1) := List.drop_eq_getElem_cons h
theorem Ev.eq {α : Type} {g : Nat → Option α} {r r' : α} (h : Ev g r) (e : r = r') : Ev g r' := e ▸ h
/-- A list that is filled from its begin. -/
theorem fill_set {α : Type} (xs : List α) (z y : α) (i d : Nat) (h : i < xs.length) (hd : i + (d + 1) = xs.length) (hy : y = xs[i]) :
    (xs.take i ++ List.replicate (d + 1) z).set i y = xs.take (i + 1) ++ List.replicate d z := by
  subst hy
  rw [List.set_append_right _ _ (by simp; omega)]
  have hl : (xs.take i).length = i := by simp; omega
  rw [hl, Nat.sub_self, List.replicate_succ, List.set_cons_zero, List.take_succ_eq_append_getElem h, List.append_assoc]
  rfl

/-! laws_toIntS -/
theorem toIntS_l0 (x0 : List Int) (hb : x0.length ≤ 1048576) (d : Nat) : ∀ (i : Nat), i + d = x0.length →
    Ev (fun k => laws_toIntS.l0 k x0 (x0.take i ++ List.replicate d 0) i) x0 := by
  induction d with
  | zero =>
    intro i hi
    refine Ev.step (f := fun _ => some x0) (fun k => ?_) (Ev.now _)
    rw [laws_toIntS.l0, if_neg (by omega)]
    simp [List.take_of_length_le (show x0.length ≤ i by omega)]
  | succ d ih =>
    intro i hi
    refine Ev.step (fun k => ?_) (ih (i + 1) (by omega))
    rw [laws_toIntS.l0, if_pos (by omega), if_pos (by omega), if_pos (by simp; omega), w64 (by omega) (by omega)]
    congr 1
    rw [rd_of (show i < x0.length by omega), Int.toNat_natCast]
    apply List.ext_getElem
    · simp; omega
    · intro j h1 h2
      simp [List.getElem_set, List.getElem_append, List.getElem_take] at *
      split <;> split <;> try split
      all_goals first | rfl | omega | (subst_vars; rfl)

theorem toIntS_ev (x0 : List Int) (hb : x0.length ≤ 1048576) : Ev (fun k => laws_toIntS.f k x0) x0 := by
  have h := toIntS_l0 x0 hb x0.length 0 (by omega)
  refine Ev.congr (fun k => ?_) h
  unfold laws_toIntS.f
  rw [if_pos (by omega), if_pos (by omega)]
  simp

/-! laws_eqIntS -/
theorem eqIntS_l0 (x0 x1 : List Int) (hb : x0.length ≤ 1048576) (hl : x0.length = x1.length) (d : Nat) : ∀ (i : Nat), i + d = x0.length →
    Ev (fun k => laws_eqIntS.l0 k x0 x1 i) (decide (x0.drop i = x1.drop i)) := by
  induction d with
  | zero =>
    intro i hi
    refine Ev.step (f := fun _ => some true) (fun k => ?_) ?_
    · rw [laws_eqIntS.l0, if_neg (by omega)]
    · rw [List.drop_of_length_le (by omega), List.drop_of_length_le (by omega)]
      exact Ev.now _
  | succ d ih =>
    intro i hi
    have e0 : x0.drop i = x0[i]'(by omega) :: x0.drop (i + 1) := List.drop_eq_getElem_cons (by omega)
    have e1 : x1.drop i = x1[i]'(by omega) :: x1.drop (i + 1) := List.drop_eq_getElem_cons (by omega)
    by_cases h : x0[i]'(by omega) = x1[i]'(by omega)
    · rw [e0, e1, h]
      simp only [List.cons.injEq, true_and]
      refine Ev.step (fun k => ?_) (ih (i + 1) (by omega))
      rw [laws_eqIntS.l0, if_pos (by omega), if_pos (by omega), if_pos (by omega), rd_of (show i < x0.length by omega), rd_of (show i < x1.length by omega), if_pos h, w64 (by omega) (by omega)]
      rfl
    · rw [e0, e1]
      simp only [List.cons.injEq, h, false_and]
      refine Ev.step (f := fun _ => some false) (fun k => ?_) (Ev.now _)
      rw [laws_eqIntS.l0, if_pos (by omega), if_pos (by omega), if_pos (by omega), rd_of (show i < x0.length by omega), rd_of (show i < x1.length by omega), if_neg h]

theorem eqIntS_ev (x0 x1 : List Int) (hb : x0.length ≤ 1048576) : Ev (fun k => laws_eqIntS.f k x0 x1) (decide (x0 = x1)) := by
  by_cases hl : x0.length = x1.length
  · refine Ev.congr (fun k => ?_) (eqIntS_l0 x0 x1 hb hl x0.length 0 (by omega))
    unfold laws_eqIntS.f
    rw [if_pos (by omega)]
    rfl
  · rw [decide_eq_false (by intro h; exact hl (by rw [h]))]
    refine Ev.congr (fun k => ?_) (Ev.now _)
    unfold laws_eqIntS.f
    rw [if_neg (by omega)]

/-! RowsBase -/
theorem rdR_of {xs : List (List Int)} {i : Nat} (h : i < xs.length) : rd_L1 xs (i : Int) = xs[i] := by
  unfold rd_L1
  exact getD_of h
def inS (n : Nat) (x : Int) : Bool := decide (0 ≤ x ∧ x < (n : Int))
def rowS (b : Int) (n : Nat) (row : List Int) : Bool := decide ((row.length : Int) = b) && row.all (inS n)

/-! IntSS -/
/-- How much is left of a size behind a list of rows. -/
def szRows : List (List Int) → Int → Int
  | [], left => left
  | r :: rs, left => if left - (r.length : Int) < 0 then -1 else szRows rs (left - r.length)
theorem szIntS_eq (r : List Int) (left : Int) (h0 : 0 ≤ left) (h1 : left ≤ 1048576) (hr : r.length ≤ 9223372036854775807) : laws_szIntS.f r left = some (if left - (r.length : Int) < 0 then -1 else left - r.length) := by
  unfold laws_szIntS.f
  rw [w64 (by omega) (by omega)]
  split <;> rfl
theorem szRows_le (rs : List (List Int)) : ∀ left, szRows rs left ≤ left ∨ left < 0 := by
  induction rs with
  | nil => intro left; exact Or.inl (Int.le_refl _)
  | cons r rs ih =>
    intro left
    by_cases h : left < 0
    · exact Or.inr h
    · refine Or.inl ?_
      rw [szRows]
      split
      · omega
      · rcases ih (left - r.length) with g | g <;> omega
theorem szIntSS_l0 (rows : List (List Int)) (hl : rows.length ≤ 1048576) (hr : ∀ r ∈ rows, r.length ≤ 9223372036854775807) : ∀ i, i ≤ rows.length → ∀ left, 0 ≤ left → left ≤ 1048576 → Ev (fun k => laws_szIntSS.l0 k rows left (i : Int)) (szRows (rows.drop i) left) :=
  downs (P := fun i => ∀ left, 0 ≤ left → left ≤ 1048576 → Ev (fun k => laws_szIntSS.l0 k rows left (i : Int)) (szRows (rows.drop i) left)) rows.length
    (fun i hi ih left h0 h1 => by
      rw [drop_at hi, szRows]
      have hx := hr _ (List.getElem_mem hi)
      by_cases h : left - (rows[i].length : Int) < 0
      · rw [if_pos h]
        refine Ev.step (f := fun _ => some (-1)) (fun k => ?_) (Ev.now _)
        rw [laws_szIntSS.l0, if_pos (by omega), if_pos (by omega), rdR_of hi, szIntS_eq _ _ h0 h1 hx, Option.bind_some, if_pos h, if_pos (by omega)]
      · rw [if_neg h]
        refine Ev.step (fun k => ?_) (ih (left - rows[i].length) (by omega) (by omega))
        rw [laws_szIntSS.l0, if_pos (by omega), if_pos (by omega), rdR_of hi, szIntS_eq _ _ h0 h1 hx, Option.bind_some, if_neg h, if_neg h, w64 (by omega) (by omega)]
        rfl)
    (fun left h0 h1 => by
      rw [List.drop_length, szRows]
      refine Ev.step (f := fun _ => some left) (fun k => ?_) (Ev.now _)
      rw [laws_szIntSS.l0, if_neg (by omega)])
theorem szRows_ok (rs : List (List Int)) : ∀ left, 0 ≤ left → 0 ≤ szRows rs left → ∀ r ∈ rs, (r.length : Int) ≤ left := by
  induction rs with
  | nil => intro left _ _ r hr; simp at hr
  | cons r rs ih =>
    intro left h0 h r' hr'
    rw [szRows] at h
    split at h
    · omega
    · rcases List.mem_cons.1 hr' with rfl | g
      · omega
      · have := ih _ (by omega) h r' g
        omega
/-- The size of rows: either they are too great or all are small. -/
theorem szIntSS_ev (rows : List (List Int)) (hl : rows.length ≤ 9223372036854775807) (hr : ∀ r ∈ rows, r.length ≤ 9223372036854775807) (left : Int) (h0 : 0 ≤ left) (h1 : left ≤ 1048576) :
    ∃ r : Int, Ev (fun k => laws_szIntSS.f k rows left) r ∧ r ≤ left ∧ (0 ≤ r → rows.length ≤ 1048576 ∧ ∀ x ∈ rows, x.length ≤ 1048576) := by
  by_cases h : left - (rows.length : Int) < 0
  · refine ⟨-1, Ev.congr (fun k => ?_) (Ev.now _), by omega, fun h => by omega⟩
    unfold laws_szIntSS.f
    rw [w64 (by omega) (by omega), if_pos h]
  · have hk := szIntSS_l0 rows (by omega) hr 0 (by omega) (left - rows.length) (by omega) (by omega)
    refine ⟨szRows rows (left - rows.length), Ev.congr (fun k => ?_) (Ev.eq hk (by rw [List.drop_zero])), ?_, fun hp => ⟨by omega, fun x hx => ?_⟩⟩
    · unfold laws_szIntSS.f
      rw [w64 (by omega) (by omega), if_neg h]
      rfl
    · rcases szRows_le rows (left - rows.length) with g | g <;> omega
    · have := szRows_ok rows (left - rows.length) (by omega) hp x hx
      omega
theorem toIntSS_ev (rows : List (List Int)) (hl : rows.length ≤ 1048576) (hr : ∀ r ∈ rows, r.length ≤ 1048576) : Ev (fun k => laws_toIntSS.f k rows) rows := by
  have key := downs (P := fun i => Ev (fun k => laws_toIntSS.l0 k rows (rows.take i ++ List.replicate (rows.length - i) []) (i : Int)) rows) rows.length
    (fun i hi ih => by
      refine Ev.step (f := fun k => (laws_toIntS.f k rows[i]).bind fun t => laws_toIntSS.l0 k rows ((rows.take i ++ List.replicate (rows.length - i) []).set i t) ((i + 1 : Nat) : Int)) (fun k => ?_) (Ev.bind (toIntS_ev rows[i] (hr _ (List.getElem_mem hi))) ?_)
      · rw [laws_toIntSS.l0, if_pos (by omega), if_pos (by omega), rdR_of hi, w64 (by omega) (by omega), Int.toNat_natCast]
        congr 1
        funext t
        rw [if_pos (by simp; omega)]
        rfl
      · rw [show rows.length - i = (rows.length - (i + 1)) + 1 by omega, fill_set rows _ _ i _ hi (by omega) rfl]
        exact ih)
    (by
      refine Ev.step (f := fun _ => some rows) (fun k => ?_) (Ev.now _)
      rw [laws_toIntSS.l0, if_neg (by omega)]
      simp [List.take_of_length_le])
  refine Ev.congr (fun k => ?_) (key 0 (by omega))
  unfold laws_toIntSS.f
  rw [if_pos (by omega), if_pos (by omega)]
  simp
theorem eqIntSS_self (rows : List (List Int)) (hl : rows.length ≤ 1048576) (hr : ∀ r ∈ rows, r.length ≤ 1048576) : Ev (fun k => laws_eqIntSS.f k rows rows) true := by
  have key := downs (P := fun i => Ev (fun k => laws_eqIntSS.l0 k rows rows (i : Int)) true) rows.length
    (fun i hi ih => by
      refine Ev.step (f := fun k => (laws_eqIntS.f k rows[i] rows[i]).bind fun t => if t = true then laws_eqIntSS.l0 k rows rows ((i + 1 : Nat) : Int) else some false) (fun k => ?_) (Ev.bind (Ev.eq (eqIntS_ev rows[i] rows[i] (hr _ (List.getElem_mem hi))) (decide_eq_true rfl)) ?_)
      · rw [laws_eqIntSS.l0, if_pos (by omega), if_pos (by omega), if_pos (by omega), rdR_of hi, w64 (by omega) (by omega)]
        rfl
      · exact ih)
    (by
      refine Ev.step (f := fun _ => some true) (fun k => ?_) (Ev.now _)
      rw [laws_eqIntSS.l0, if_neg (by omega)])
  refine Ev.congr (fun k => ?_) (key 0 (by omega))
  unfold laws_eqIntSS.f
  rw [if_pos rfl]
  rfl

/-! Relation -/
theorem toBoolS_ev (x0 : List Bool) (hb : x0.length ≤ 1048576) : Ev (fun k => laws_toBoolS.f k x0) x0 := by
  have key := downs (P := fun i => Ev (fun k => laws_toBoolS.l0 k x0 (x0.take i ++ List.replicate (x0.length - i) false) (i : Int)) x0) x0.length
    (fun i hi ih => by
      refine Ev.step (fun k => ?_) ih
      have e : rdOf false x0 (i : Int) = x0[i] := by unfold rdOf; exact getD_of hi
      rw [laws_toBoolS.l0, if_pos (by omega), if_pos (by omega), if_pos (by simp; omega), e, w64 (by omega) (by omega), Int.toNat_natCast]
      rw [show x0.length - i = (x0.length - (i + 1)) + 1 by omega, fill_set x0 _ _ i _ hi (by omega) rfl]
      rfl)
    (by
      refine Ev.step (f := fun _ => some x0) (fun k => ?_) (Ev.now _)
      rw [laws_toBoolS.l0, if_neg (by omega)]
      simp [List.take_of_length_le])
  refine Ev.congr (fun k => ?_) (key 0 (by omega))
  unfold laws_toBoolS.f
  rw [if_pos (by omega), if_pos (by omega)]
  simp
theorem toRelation_ev (b t : Int) (rows : List (List Int)) (acc : List Bool) (hl : rows.length ≤ 1048576) (hr : ∀ r ∈ rows, r.length ≤ 1048576) (ho : acc.length ≤ 1048576) : Ev (fun k => laws_toRelation.f k b t rows acc) (b, t, rows, acc) := by
  unfold laws_toRelation.f
  exact Ev.bind (toIntSS_ev rows hl hr) (Ev.bind (toBoolS_ev acc ho) (Ev.now _))
theorem eqBoolS_self (x0 : List Bool) (hb : x0.length ≤ 1048576) : Ev (fun k => laws_eqBoolS.f k x0 x0) true := by
  have key := downs (P := fun i => Ev (fun k => laws_eqBoolS.l0 k x0 x0 (i : Int)) true) x0.length
    (fun i hi ih => by
      refine Ev.step (fun k => ?_) ih
      rw [laws_eqBoolS.l0, if_pos (by omega), if_pos (by omega), if_pos (by omega), bne_self_eq_false, if_neg (by decide), w64 (by omega) (by omega)]
      rfl)
    (by
      refine Ev.step (f := fun _ => some true) (fun k => ?_) (Ev.now _)
      rw [laws_eqBoolS.l0, if_neg (by omega)])
  refine Ev.congr (fun k => ?_) (key 0 (by omega))
  unfold laws_eqBoolS.f
  rw [if_pos rfl]
  rfl
theorem eqRelation_self (b t : Int) (rows : List (List Int)) (acc : List Bool) (hl : rows.length ≤ 1048576) (hr : ∀ r ∈ rows, r.length ≤ 1048576) (ho : acc.length ≤ 1048576) : Ev (fun k => laws_eqRelation.f k b t rows acc b t rows acc) true := by
  unfold laws_eqRelation.f
  simp only [if_true]
  refine Ev.bind (eqIntSS_self rows hl hr) ?_
  simp only [if_true]
  refine Ev.bind (eqBoolS_self acc ho) ?_
  simp only [if_true]
  exact Ev.now _
theorem szRelation_ev (b t : Int) (rows : List (List Int)) (acc : List Bool) (hl : rows.length ≤ 9223372036854775807) (hr : ∀ r ∈ rows, r.length ≤ 9223372036854775807) (ho : acc.length ≤ 9223372036854775807) :
    ∃ r : Int, Ev (fun k => laws_szRelation.f k b t rows acc 1048576) r ∧ r ≤ 1048576 ∧ (0 ≤ r → rows.length ≤ 1048576 ∧ (∀ x ∈ rows, x.length ≤ 1048576) ∧ acc.length ≤ 1048576) := by
  obtain ⟨r, e, hle, hk⟩ := szIntSS_ev rows hl hr 1048576 (by omega) (by omega)
  by_cases h : r < 0
  · refine ⟨-1, ?_, by omega, fun h => by omega⟩
    unfold laws_szRelation.f
    refine Ev.bind e ?_
    simp only [if_pos h]
    exact Ev.now _
  · obtain ⟨k1, k2⟩ := hk (by omega)
    have ez : laws_szBoolS.f acc r = some (if r - (acc.length : Int) < 0 then -1 else r - acc.length) := by
      unfold laws_szBoolS.f
      rw [w64 (by omega) (by omega)]
      split <;> rfl
    by_cases h2 : r - (acc.length : Int) < 0
    · refine ⟨-1, ?_, by omega, fun h => by omega⟩
      unfold laws_szRelation.f
      refine Ev.bind e ?_
      simp only [if_neg h, ez, Option.bind_some, if_pos h2]
      exact Ev.now _
    · refine ⟨r - acc.length, ?_, by omega, fun _ => ⟨k1, k2, by omega⟩⟩
      unfold laws_szRelation.f
      refine Ev.bind e ?_
      simp only [if_neg h, ez, Option.bind_some, if_neg h2]
      exact Ev.now _

/-! SzRel -/
/-! marksI -/
def markedI (a : Int) (n : Nat) : List Int := (List.range n).map fun (i : Nat) => a + i
theorem markedI_len (a : Int) (n : Nat) : (markedI a n).length = n := by simp [markedI]
theorem markedI_succ (a : Int) (n : Nat) : markedI a (n + 1) = markedI a n ++ [a + n] := by simp [markedI, List.range_succ]
theorem markedI_get (a : Int) (n i : Nat) (h : i < n) : (markedI a n)[i]'(by simpa [markedI] using h) = a + i := by simp [markedI]
theorem set_mid {α : Type} (m : List α) (xs : List α) (i : Nat) (x : α) (hm : m.length = i) (h : i < xs.length) : (m ++ xs.drop i).set i x = (m ++ [x]) ++ xs.drop (i + 1) := by
  rw [List.set_append_right _ _ (by omega), hm, Nat.sub_self, List.drop_eq_getElem_cons h, List.set_cons_zero, List.append_assoc]
  rfl
theorem markIntS_ev (xs : List Int) (a : Int) (h0 : 0 ≤ a) (h1 : a ≤ 1152921504606846976) (hl : xs.length ≤ 1152921504606846976) : Ev (fun k => laws_markIntS.f k xs a) (a + xs.length, markedI a xs.length) := by
  have key := downs (P := fun i => Ev (fun k => laws_markIntS.l0 k (markedI a i ++ xs.drop i) (a + i) (i : Int)) (a + xs.length, markedI a xs.length)) xs.length
    (fun i hi ih => by
      rw [markedI_succ, ← set_mid _ _ _ _ (markedI_len a i) hi] at ih
      refine Ev.step (fun k => ?_) ih
      rw [laws_markIntS.l0, if_pos (by simp [markedI_len]; omega), if_pos (by omega), w64 (by omega) (by omega), w64 (by omega) (by omega), Int.toNat_natCast]
      show _ = laws_markIntS.l0 k _ (a + ((i + 1 : Nat) : Int)) _
      rw [show (a + ((i + 1 : Nat) : Int)) = a + i + 1 by omega]
      rfl)
    (by
      refine Ev.step (f := fun _ => some _) (fun k => ?_) (Ev.now _)
      rw [laws_markIntS.l0, if_neg (by simp [markedI_len])]
      simp)
  have h := key 0 (by omega)
  refine Ev.congr (fun k => ?_) h
  simp [laws_markIntS.f, markedI]
theorem heldIntS_ev (a : Int) (n : Nat) (h0 : 0 ≤ a) (h1 : a ≤ 1152921504606846976) (hl : n ≤ 1152921504606846976) : Ev (fun k => laws_heldIntS.f k (markedI a n) a) (a + n) := by
  have key := downs (P := fun i => Ev (fun k => laws_heldIntS.l0 k (markedI a n) (a + i) (i : Int)) (a + n)) n
    (fun i hi ih => by
      refine Ev.step (fun k => ?_) ih
      rw [laws_heldIntS.l0, if_pos (by rw [markedI_len]; omega), if_pos (by omega), rd_of (by rw [markedI_len]; omega), markedI_get a n i hi, if_pos rfl, w64 (by omega) (by omega), w64 (by omega) (by omega)]
      rw [show (a + ((i + 1 : Nat) : Int)) = a + i + 1 by omega]
      rfl)
    (by
      refine Ev.step (f := fun _ => some _) (fun k => ?_) (Ev.now _)
      rw [laws_heldIntS.l0, if_neg (by rw [markedI_len]; omega)])
  have h := key 0 (by omega)
  refine Ev.congr (fun k => ?_) h
  simp [laws_heldIntS.f]

/-! marksR -/
def totL (rows : List (List Int)) : Nat := (rows.map List.length).sum
def markedRows : Int → List (List Int) → List (List Int)
  | _, [] => []
  | a, r :: rs => markedI a r.length :: markedRows (a + r.length) rs
theorem markedRows_len : ∀ (rows : List (List Int)) (a : Int), (markedRows a rows).length = rows.length
  | [], _ => rfl
  | r :: rs, a => by rw [markedRows, List.length_cons, markedRows_len rs, List.length_cons]
theorem totL_snoc (l : List (List Int)) (r : List Int) : totL (l ++ [r]) = totL l + r.length := by simp [totL]
theorem markedRows_snoc : ∀ (l : List (List Int)) (a : Int) (r : List Int), markedRows a (l ++ [r]) = markedRows a l ++ [markedI (a + totL l) r.length]
  | [], a, r => by simp [markedRows, totL]
  | x :: l, a, r => by
    have e : totL (x :: l) = x.length + totL l := by simp [totL]
    rw [List.cons_append, markedRows, markedRows_snoc l, markedRows, List.cons_append, show a + (x.length : Int) + (totL l : Int) = a + (totL (x :: l) : Int) by omega]
theorem totL_le (rows : List (List Int)) (m : Nat) (h : ∀ r ∈ rows, r.length ≤ m) : totL rows ≤ rows.length * m := by
  induction rows with
  | nil => simp [totL]
  | cons r rs ih =>
    have h1 := h r (List.mem_cons_self ..)
    have h2 := ih (fun x hx => h x (List.mem_cons_of_mem _ hx))
    have e : totL (r :: rs) = r.length + totL rs := by simp [totL]
    rw [e, List.length_cons, Nat.add_mul, Nat.one_mul]
    omega
theorem totL_small {rows : List (List Int)} (hl : rows.length ≤ 1048576) (hr : ∀ r ∈ rows, r.length ≤ 1048576) (i : Nat) : totL (rows.take i) ≤ 1099511627776 := by
  have h := totL_le (rows.take i) 1048576 (fun r h => hr r (List.mem_of_mem_take h))
  have : (rows.take i).length ≤ 1048576 := by rw [List.length_take]; omega
  have := Nat.mul_le_mul_right 1048576 this
  omega
theorem markIntSS_ev (rows : List (List Int)) (a : Int) (h0 : 0 ≤ a) (h1 : a ≤ 1152921504606) (hl : rows.length ≤ 1048576) (hr : ∀ r ∈ rows, r.length ≤ 1048576) : Ev (fun k => laws_markIntSS.f k rows a) (a + totL rows, markedRows a rows) := by
  have key := downs (P := fun i => Ev (fun k => laws_markIntSS.l0 k (markedRows a (rows.take i) ++ rows.drop i) (a + totL (rows.take i)) (i : Int)) (a + totL rows, markedRows a rows)) rows.length
    (fun i hi ih => by
      have ht := totL_small hl hr i
      have hlt : (markedRows a (rows.take i)).length = i := by rw [markedRows_len, List.length_take]; omega
      have hx := hr rows[i] (List.getElem_mem hi)
      have er : rdRow (markedRows a (rows.take i) ++ rows.drop i) (i : Int) = rows[i] := by
        unfold rdRow
        rw [Int.toNat_natCast, List.getD_eq_getElem?_getD, List.getElem?_append_right (by omega), hlt, Nat.sub_self, drop_at hi]
        rfl
      refine Ev.step (f := fun k => (laws_markIntS.f k rows[i] (a + totL (rows.take i))).bind fun p => laws_markIntSS.l0 k ((markedRows a (rows.take i) ++ rows.drop i).set i p.2) p.1 ((i + 1 : Nat) : Int)) (fun k => ?_) (Ev.bind (markIntS_ev rows[i] (a + totL (rows.take i)) (by omega) (by omega) (by omega)) ?_)
      · rw [laws_markIntSS.l0, if_pos (by rw [List.length_append, hlt, List.length_drop]; omega), if_pos (by omega), er, w64 (by omega) (by omega), Int.toNat_natCast]
        rfl
      · rw [List.take_succ_eq_append_getElem hi, markedRows_snoc, totL_snoc] at ih
        rw [set_mid _ _ _ _ hlt hi]
        refine Ev.congr (fun k => ?_) ih
        congr 1
        omega)
    (by
      refine Ev.step (f := fun _ => some _) (fun k => ?_) (Ev.now _)
      rw [laws_markIntSS.l0, if_neg (by rw [List.length_append, markedRows_len, List.length_drop]; simp), List.drop_length, List.append_nil, List.take_length])
  have h := key 0 (by omega)
  refine Ev.congr (fun k => ?_) h
  simp [laws_markIntSS.f, markedRows, totL]
def markedB (a : Int) (n : Nat) : List Bool := (List.range n).map fun (i : Nat) => (Int.tmod (a + i) 3) == 0
theorem markedB_len (a : Int) (n : Nat) : (markedB a n).length = n := by simp [markedB]
theorem markedB_succ (a : Int) (n : Nat) : markedB a (n + 1) = markedB a n ++ [(Int.tmod (a + n) 3) == 0] := by simp [markedB, List.range_succ]
theorem markBoolS_ev (xs : List Bool) (a : Int) (h0 : 0 ≤ a) (h1 : a ≤ 1152921504606846976) (hl : xs.length ≤ 1048576) : Ev (fun k => laws_markBoolS.f k xs a) (a + xs.length, markedB a xs.length) := by
  have key := downs (P := fun i => Ev (fun k => laws_markBoolS.l0 k (markedB a i ++ xs.drop i) (a + i) (i : Int)) (a + xs.length, markedB a xs.length)) xs.length
    (fun i hi ih => by
      rw [markedB_succ, ← set_mid _ _ _ _ (markedB_len a i) hi] at ih
      refine Ev.step (fun k => ?_) ih
      rw [laws_markBoolS.l0, if_pos (by simp [markedB_len]; omega), if_pos (by omega), w64 (by omega) (by omega), w64 (by omega) (by omega), Int.toNat_natCast]
      show _ = laws_markBoolS.l0 k _ (a + ((i + 1 : Nat) : Int)) _
      rw [show (a + ((i + 1 : Nat) : Int)) = a + i + 1 by omega]
      rfl)
    (by
      refine Ev.step (f := fun _ => some _) (fun k => ?_) (Ev.now _)
      rw [laws_markBoolS.l0, if_neg (by simp [markedB_len])]
      simp)
  have h := key 0 (by omega)
  refine Ev.congr (fun k => ?_) h
  simp [laws_markBoolS.f, markedB]
theorem markRelation_ev (rows : List (List Int)) (acc : List Bool) (hl : rows.length ≤ 1048576) (hr : ∀ r ∈ rows, r.length ≤ 1048576) (ho : acc.length ≤ 1048576) :
    Ev (fun k => laws_markRelation.f k rows acc 1) (1 + totL rows + acc.length, markedRows 1 rows, markedB (1 + totL rows) acc.length) := by
  have ht := totL_small hl hr rows.length
  rw [List.take_length] at ht
  unfold laws_markRelation.f
  exact Ev.bind (markIntSS_ev rows 1 (by omega) (by omega) hl hr) (Ev.bind (markBoolS_ev acc (1 + totL rows) (by omega) (by omega) ho) (Ev.now _))
/-! heldR -/
theorem markedRows_get : ∀ (rows : List (List Int)) (a : Int) (i : Nat) (h : i < rows.length), (markedRows a rows)[i]'(by rw [markedRows_len]; exact h) = markedI (a + totL (rows.take i)) rows[i].length
  | r :: rs, a, 0, _ => by simp [markedRows, totL]
  | r :: rs, a, i + 1, h => by
    have e : totL ((r :: rs).take (i + 1)) = r.length + totL (rs.take i) := by simp [totL]
    have ih := markedRows_get rs (a + r.length) i (by simpa using h)
    simp only [markedRows, List.getElem_cons_succ]
    rw [ih, e, show a + (r.length : Int) + (totL (rs.take i) : Int) = a + ((r.length + totL (rs.take i) : Nat) : Int) by omega]
theorem heldIntSS_ev (rows : List (List Int)) (a : Int) (h0 : 0 ≤ a) (h1 : a ≤ 1152921504606) (hl : rows.length ≤ 1048576) (hr : ∀ r ∈ rows, r.length ≤ 1048576) : Ev (fun k => laws_heldIntSS.f k (markedRows a rows) a) (a + totL rows) := by
  have key := downs (P := fun i => Ev (fun k => laws_heldIntSS.l0 k (markedRows a rows) (a + totL (rows.take i)) (i : Int)) (a + totL rows)) rows.length
    (fun i hi ih => by
      have ht := totL_small hl hr i
      have hx := hr rows[i] (List.getElem_mem hi)
      have er : rd_L1 (markedRows a rows) (i : Int) = markedI (a + totL (rows.take i)) rows[i].length := by
        rw [rdR_of (by rw [markedRows_len]; exact hi)]
        exact markedRows_get rows a i hi
      refine Ev.step (f := fun k => (laws_heldIntS.f k (markedI (a + totL (rows.take i)) rows[i].length) (a + totL (rows.take i))).bind fun t => (if t < 0 then (some (-1)) else (laws_heldIntSS.l0 k (markedRows a rows) t ((i + 1 : Nat) : Int)))) (fun k => ?_) (Ev.bind (heldIntS_ev (a + totL (rows.take i)) rows[i].length (by omega) (by omega) (by omega)) ?_)
      · rw [laws_heldIntSS.l0, if_pos (by rw [markedRows_len]; omega), if_pos (by omega), er, w64 (by omega) (by omega)]
        rfl
      · simp only [if_neg (show ¬ (a + (totL (rows.take i) : Int) + (rows[i].length : Int) < 0) by omega)]
        rw [List.take_succ_eq_append_getElem hi, totL_snoc] at ih
        refine Ev.congr (fun k => ?_) ih
        congr 1
        omega)
    (by
      refine Ev.step (f := fun _ => some _) (fun k => ?_) (Ev.now _)
      rw [laws_heldIntSS.l0, if_neg (by rw [markedRows_len]; omega), List.take_length])
  have h := key 0 (by omega)
  refine Ev.congr (fun k => ?_) h
  simp [laws_heldIntSS.f, totL]
theorem heldBoolS_ev (a : Int) (n : Nat) (h0 : 0 ≤ a) (h1 : a ≤ 1152921504606846976) (hl : n ≤ 1152921504606846976) : Ev (fun k => laws_heldBoolS.f k (markedB a n) a) (a + n) := by
  have key := downs (P := fun i => Ev (fun k => laws_heldBoolS.l0 k (markedB a n) (a + i) (i : Int)) (a + n)) n
    (fun i hi ih => by
      refine Ev.step (fun k => ?_) ih
      have e : rdOf false (markedB a n) (i : Int) = (Int.tmod (a + i) 3 == 0) := by
        unfold rdOf
        rw [getD_of (by rw [markedB_len]; exact hi)]
        simp [markedB]
      rw [laws_heldBoolS.l0, if_pos (by rw [markedB_len]; omega), if_pos (by omega), e, bne_self_eq_false, if_neg (by decide), w64 (by omega) (by omega), w64 (by omega) (by omega)]
      rw [show (a + ((i + 1 : Nat) : Int)) = a + i + 1 by omega]
      rfl)
    (by
      refine Ev.step (f := fun _ => some _) (fun k => ?_) (Ev.now _)
      rw [laws_heldBoolS.l0, if_neg (by rw [markedB_len]; omega)])
  have h := key 0 (by omega)
  refine Ev.congr (fun k => ?_) h
  simp [laws_heldBoolS.f]
theorem heldRelation_ev (b t : Int) (rows : List (List Int)) (acc : List Bool) (hl : rows.length ≤ 1048576) (hr : ∀ r ∈ rows, r.length ≤ 1048576) (ho : acc.length ≤ 1048576) :
    Ev (fun k => laws_heldRelation.f k b t (markedRows 1 rows) (markedB (1 + totL rows) acc.length) 1) (1 + totL rows + acc.length) := by
  have ht := totL_small hl hr rows.length
  rw [List.take_length] at ht
  unfold laws_heldRelation.f
  refine Ev.bind (heldIntSS_ev rows 1 (by omega) (by omega) hl hr) ?_
  simp only [if_neg (show ¬ (1 + (totL rows : Int) < 0) by omega)]
  refine Ev.bind (heldBoolS_ev (1 + totL rows) acc.length (by omega) (by omega) (by omega)) ?_
  simp only [if_neg (show ¬ (1 + (totL rows : Int) + (acc.length : Int) < 0) by omega)]
  exact Ev.now _

/-! Power -/
/-- The powers of a small base, on both sides. -/
theorem pow_le16 (b : Nat) (hb : b ≤ 21) (i : Nat) (hi : i ≤ 3) : b ^ i ≤ 9261 := by
  have h1 : b ^ i ≤ 21 ^ i := Nat.pow_le_pow_left hb i
  have h2 : (21 : Nat) ^ i ≤ 21 ^ 3 := Nat.pow_le_pow_right (by omega) hi
  have h3 : (21 : Nat) ^ 3 = 9261 := by decide
  omega
theorem specPow_ev (b : Nat) (hb : b ≤ 21) (t : Nat) (ht : t ≤ 3) : Ev (fun k => spec_l11Power.f k (b : Int) (t : Int)) ((b ^ t : Nat) : Int) := by
  have key := downs (P := fun i => Ev (fun k => spec_l11Power.l0 k (b : Int) (t : Int) ((b ^ i : Nat) : Int) (i : Int)) ((b ^ t : Nat) : Int)) t
    (fun i hi ih => by
      refine Ev.step (fun k => ?_) ih
      have h := pow_le16 b hb (i + 1) (by omega)
      have e : ((b ^ i : Nat) : Int) * (b : Int) = ((b ^ (i + 1) : Nat) : Int) := by rw [Nat.pow_succ]; simp
      rw [spec_l11Power.l0, if_pos (by omega), e, w64 (by omega) (by omega), w64 (by omega) (by omega)]
      rfl)
    (by
      refine Ev.step (f := fun _ => some _) (fun k => ?_) (Ev.now _)
      rw [spec_l11Power.l0, if_neg (by omega)])
  exact key 0 (by omega)
theorem implPow_ev (b : Nat) (hb : b ≤ 21) (t : Nat) (ht : t ≤ 3) : Ev (fun k => impl_power.f k (b : Int) (t : Int)) ((b ^ t : Nat) : Int) := by
  have key := downs (P := fun i => Ev (fun k => impl_power.l0 k (b : Int) ((b ^ i : Nat) : Int) (t : Int) (i : Int)) ((b ^ t : Nat) : Int)) t
    (fun i hi ih => by
      refine Ev.step (fun k => ?_) ih
      have h := pow_le16 b hb (i + 1) (by omega)
      have e : ((b ^ i : Nat) : Int) * (b : Int) = ((b ^ (i + 1) : Nat) : Int) := by rw [Nat.pow_succ]; simp
      rw [impl_power.l0, if_pos (by omega), e, w64 (by omega) (by omega), w64 (by omega) (by omega)]
      rfl)
    (by
      refine Ev.step (f := fun _ => some _) (fun k => ?_) (Ev.now _)
      rw [impl_power.l0, if_neg (by omega)])
  exact key 0 (by omega)
theorem letters_ev (b : Nat) (hb : b ≤ 21) (t : Nat) (ht : t ≤ 3) : Ev (fun k => spec_l13Letters.f k (b : Int) (t : Int)) ((b ^ t : Nat) : Int) := by
  unfold spec_l13Letters.f
  exact Ev.bind (specPow_ev b hb t ht) (Ev.now _)

/-! spec_l1In -/
theorem l1In_eq (a b c : Int) : spec_l1In.f a b c = some (decide (b ≤ a ∧ a ≤ c)) := by
  unfold spec_l1In.f
  by_cases h : a ≥ b
  · rw [if_pos h]
    congr 1
    simp; omega
  · rw [if_neg h]
    congr 1
    simp; omega

/-! IsRelation -/
/-- A relation of base b over t tracks, all entries in range, that stays where it is under zeros. -/
structure RelW (b t : Nat) (rows : List (List Int)) (acc : List Bool) : Prop where
  b2 : 2 ≤ b
  b3 : b ≤ 3
  t3 : t ≤ 3
  n1 : 1 ≤ rows.length
  n48 : rows.length ≤ 48
  al : acc.length = rows.length
  row : rows.all (rowS ((b ^ t : Nat) : Int) rows.length) = true
  zero : rd (rows.getD 0 []) 0 = 0
def isRelW (b t : Int) (rows : List (List Int)) (acc : List Bool) : Bool :=
  decide (2 ≤ b ∧ b ≤ 3) && (decide (0 ≤ t ∧ t ≤ 3) && (decide (1 ≤ (rows.length : Int) ∧ (rows.length : Int) ≤ 48) && (((acc.length : Int) == (rows.length : Int)) && (rows.all (rowS ((b.toNat ^ t.toNat : Nat) : Int) rows.length) && (rd (rows.getD 0 []) 0 == 0)))))
theorem isRelW_true {b t : Int} {rows : List (List Int)} {acc : List Bool} (h : isRelW b t rows acc = true) : ∃ b' t' : Nat, b = b' ∧ t = t' ∧ RelW b' t' rows acc := by
  unfold isRelW at h
  simp only [Bool.and_eq_true, decide_eq_true_eq, beq_iff_eq] at h
  obtain ⟨⟨h1, h2⟩, ⟨h3, h4⟩, ⟨h5, h6⟩, h7, h8, h9⟩ := h
  exact ⟨b.toNat, t.toNat, by omega, by omega, by omega, by omega, by omega, by omega, by omega, by omega, h8, h9⟩
theorem RelW.len {b t : Nat} {rows : List (List Int)} {acc : List Bool} (H : RelW b t rows acc) (i : Nat) (hi : i < rows.length) : rows[i].length = b ^ t ∧ ∀ x ∈ rows[i], 0 ≤ x ∧ x < (rows.length : Int) := by
  have h := List.all_eq_true.1 H.row rows[i] (List.getElem_mem hi)
  unfold rowS at h
  simp only [Bool.and_eq_true, decide_eq_true_eq, List.all_eq_true] at h
  refine ⟨by omega, fun x hx => ?_⟩
  have := h.2 x hx
  simpa [inS] using this
theorem pow_pos' (b t : Nat) (hb : 2 ≤ b) : 1 ≤ b ^ t := Nat.one_le_pow _ _ (by omega)
theorem rdRD {rows : List (List Int)} : rd_L1 rows 0 = rows.getD 0 [] := rfl
theorem all_take_succ {α : Type} (p : α → Bool) (l : List α) (c : Nat) (hc : c < l.length) (h : (l.take c).all p = true) (hx : p l[c] = true) : (l.take (c + 1)).all p = true := by
  rw [List.take_succ_eq_append_getElem hc, List.all_append, h, List.all_cons, List.all_nil, hx]
  rfl
theorem specRel_l1 (b t : Int) (rows : List (List Int)) (acc : List Bool) (i : Nat) (hi : i < rows.length) (hl : rows.length ≤ 1048576) (hr : rows[i].length ≤ 1048576) (nb : Bool) (next : rows[i].all (inS rows.length) = true → Ev (fun k => spec_IsRelation.l0 k ((i + 1 : Nat) : Int) b t rows acc) nb) :
    Ev (fun k => spec_IsRelation.l1 k (i : Int) 0 b t rows acc) (rows[i].all (inS rows.length) && nb) := by
  have hR := rdR_of hi
  have key := downs (P := fun c => (rows[i].take c).all (inS rows.length) = true → Ev (fun k => spec_IsRelation.l1 k (i : Int) (c : Int) b t rows acc) ((rows[i].drop c).all (inS rows.length) && nb)) rows[i].length
    (fun c hc ih hp => by
      rw [drop_at hc, List.all_cons]
      by_cases h : 0 ≤ rows[i][c] ∧ rows[i][c] < (rows.length : Int)
      · refine Ev.step (fun k => ?_) (Ev.eq (ih (all_take_succ _ _ c hc hp (decide_eq_true h))) (by rw [show inS rows.length rows[i][c] = true from decide_eq_true h, Bool.true_and]))
        rw [spec_IsRelation.l1, if_pos (by omega), if_pos (by omega), hR, if_pos (by omega), if_pos (by omega), rd_of hc, if_neg (by omega), if_neg (by omega), w64 (by omega) (by omega)]
        rfl
      · refine Ev.step (f := fun _ => some false) (fun k => ?_) (Ev.eq (Ev.now _) (by rw [show inS rows.length rows[i][c] = false from decide_eq_false h, Bool.false_and, Bool.false_and]))
        rw [spec_IsRelation.l1, if_pos (by omega), if_pos (by omega), hR, if_pos (by omega), if_pos (by omega), rd_of hc]
        by_cases h0 : rows[i][c] < 0
        · rw [if_pos h0]
        · rw [if_neg h0, if_pos (by omega)])
    (fun hp => by
      rw [List.take_length] at hp
      refine Ev.step (fun k => ?_) (Ev.eq (next hp) (by simp))
      rw [spec_IsRelation.l1, if_pos (by omega), if_pos (by omega), hR, if_neg (by omega), w64 (by omega) (by omega)]
      rfl)
  exact Ev.eq (key 0 (by omega) rfl) (by rw [List.drop_zero])
theorem implRel_l1 (b t : Int) (rows : List (List Int)) (acc : List Bool) (i : Nat) (hi : i < rows.length) (hl : rows.length ≤ 1048576) (hr : rows[i].length ≤ 1048576) (nb : Bool) (next : rows[i].all (inS rows.length) = true → Ev (fun k => impl_IsRelation.l0 k (rows.length : Int) rows (rows.length : Int) ((i + 1 : Nat) : Int) b t rows acc) nb) :
    Ev (fun k => impl_IsRelation.l1 k (rows.length : Int) rows (rows.length : Int) (i : Int) rows[i] (rows[i].length : Int) 0 b t rows acc) (rows[i].all (inS rows.length) && nb) := by
  have key := downs (P := fun c => (rows[i].take c).all (inS rows.length) = true → Ev (fun k => impl_IsRelation.l1 k (rows.length : Int) rows (rows.length : Int) (i : Int) rows[i] (rows[i].length : Int) (c : Int) b t rows acc) ((rows[i].drop c).all (inS rows.length) && nb)) rows[i].length
    (fun c hc ih hp => by
      rw [drop_at hc, List.all_cons]
      by_cases h : 0 ≤ rows[i][c] ∧ rows[i][c] < (rows.length : Int)
      · refine Ev.step (fun k => ?_) (Ev.eq (ih (all_take_succ _ _ c hc hp (decide_eq_true h))) (by rw [show inS rows.length rows[i][c] = true from decide_eq_true h, Bool.true_and]))
        rw [impl_IsRelation.l1, if_pos (by omega), if_pos (by omega), if_pos (by omega), rd_of hc, if_neg (by omega), if_neg (by omega), w64 (by omega) (by omega)]
        rfl
      · refine Ev.step (f := fun _ => some false) (fun k => ?_) (Ev.eq (Ev.now _) (by rw [show inS rows.length rows[i][c] = false from decide_eq_false h, Bool.false_and, Bool.false_and]))
        rw [impl_IsRelation.l1, if_pos (by omega), if_pos (by omega), if_pos (by omega), rd_of hc]
        by_cases h0 : rows[i][c] < 0
        · rw [if_pos h0]
        · rw [if_neg h0, if_pos (by omega)])
    (fun hp => by
      rw [List.take_length] at hp
      refine Ev.step (fun k => ?_) (Ev.eq (next hp) (by simp))
      rw [impl_IsRelation.l1, if_neg (by omega), w64 (by omega) (by omega)]
      rfl)
  exact Ev.eq (key 0 (by omega) rfl) (by rw [List.drop_zero])
theorem rel_head (b t : Nat) (hb : 2 ≤ b) (rows : List (List Int)) (n1 : 1 ≤ rows.length) (h : rows.all (rowS ((b ^ t : Nat) : Int) rows.length) = true) : 0 < ((rows.getD 0 []).length : Int) := by
  have := List.all_eq_true.1 h rows[0] (List.getElem_mem (by omega))
  unfold rowS at this
  simp only [Bool.and_eq_true, decide_eq_true_eq] at this
  have := pow_pos' b t hb
  have e : rows.getD 0 [] = rows[0] := by simp [List.getD_eq_getElem?_getD, show 0 < rows.length by omega]
  rw [e]
  omega
theorem specRel_l0 (b t : Nat) (hb : 2 ≤ b) (hb3 : b ≤ 3) (ht : t ≤ 3) (rows : List (List Int)) (acc : List Bool) (n1 : 1 ≤ rows.length) (hl : rows.length ≤ 1048576) (hr : ∀ i (h : i < rows.length), rows[i].length ≤ 1048576) :
    Ev (fun k => spec_IsRelation.l0 k 0 (b : Int) (t : Int) rows acc) (rows.all (rowS ((b ^ t : Nat) : Int) rows.length) && (rd (rows.getD 0 []) 0 == 0)) := by
  have key := downs (P := fun i => (rows.take i).all (rowS ((b ^ t : Nat) : Int) rows.length) = true → Ev (fun k => spec_IsRelation.l0 k (i : Int) (b : Int) (t : Int) rows acc) ((rows.drop i).all (rowS ((b ^ t : Nat) : Int) rows.length) && (rd (rows.getD 0 []) 0 == 0))) rows.length
    (fun i hi ih hp => by
      rw [drop_at hi, List.all_cons]
      refine Ev.step (f := fun k => (spec_l13Letters.f k (b : Int) (t : Int)).bind fun t233 => if (rows[i].length : Int) = t233 then spec_IsRelation.l1 k (i : Int) 0 (b : Int) (t : Int) rows acc else some false) (fun k => ?_) (Ev.bind (letters_ev b (by omega) t ht) ?_)
      · rw [spec_IsRelation.l0, if_pos (by omega), if_pos (by omega), rdR_of hi]
      by_cases h : (rows[i].length : Int) = ((b ^ t : Nat) : Int)
      · simp only [if_pos h]
        refine Ev.eq (specRel_l1 b t rows acc i hi hl (hr i hi) _ (fun h2 => ih (all_take_succ _ _ i hi hp (by rw [rowS, decide_eq_true h, h2]; rfl)))) ?_
        rw [rowS, decide_eq_true h, Bool.true_and, Bool.and_assoc]
      · simp only [if_neg h]
        rw [rowS, decide_eq_false h]
        simp only [Bool.false_and]
        exact Ev.now _)
    (fun hp => by
      rw [List.take_length] at hp
      have := rel_head b t hb rows n1 hp
      refine Ev.step (f := fun _ => some _) (fun k => ?_) (Ev.eq (Ev.now _) (by rw [List.drop_length, List.all_nil, Bool.true_and]))
      rw [spec_IsRelation.l0, if_neg (by omega), if_pos (by omega), rdRD, if_pos this])
  exact Ev.eq (key 0 (by omega) rfl) (by rw [List.drop_zero])
theorem implRel_l0 (b t : Nat) (hb : 2 ≤ b) (hb3 : b ≤ 3) (ht : t ≤ 3) (rows : List (List Int)) (acc : List Bool) (n1 : 1 ≤ rows.length) (hl : rows.length ≤ 1048576) (hr : ∀ i (h : i < rows.length), rows[i].length ≤ 1048576) :
    Ev (fun k => impl_IsRelation.l0 k (rows.length : Int) rows (rows.length : Int) 0 (b : Int) (t : Int) rows acc) (rows.all (rowS ((b ^ t : Nat) : Int) rows.length) && (rd (rows.getD 0 []) 0 == 0)) := by
  have key := downs (P := fun i => (rows.take i).all (rowS ((b ^ t : Nat) : Int) rows.length) = true → Ev (fun k => impl_IsRelation.l0 k (rows.length : Int) rows (rows.length : Int) (i : Int) (b : Int) (t : Int) rows acc) ((rows.drop i).all (rowS ((b ^ t : Nat) : Int) rows.length) && (rd (rows.getD 0 []) 0 == 0))) rows.length
    (fun i hi ih hp => by
      rw [drop_at hi, List.all_cons]
      refine Ev.step (f := fun k => (impl_power.f k (b : Int) (t : Int)).bind fun t382 => if (rows[i].length : Int) = t382 then impl_IsRelation.l1 k (rows.length : Int) rows (rows.length : Int) (i : Int) rows[i] (rows[i].length : Int) 0 (b : Int) (t : Int) rows acc else some false) (fun k => ?_) (Ev.bind (implPow_ev b (by omega) t ht) ?_)
      · rw [impl_IsRelation.l0, if_pos (by omega), if_pos (by omega), if_pos (by omega), rdR_of hi]
      by_cases h : (rows[i].length : Int) = ((b ^ t : Nat) : Int)
      · simp only [if_pos h]
        refine Ev.eq (implRel_l1 b t rows acc i hi hl (hr i hi) _ (fun h2 => ih (all_take_succ _ _ i hi hp (by rw [rowS, decide_eq_true h, h2]; rfl)))) ?_
        rw [rowS, decide_eq_true h, Bool.true_and, Bool.and_assoc]
      · simp only [if_neg h]
        rw [rowS, decide_eq_false h]
        simp only [Bool.false_and]
        exact Ev.now _)
    (fun hp => by
      rw [List.take_length] at hp
      have := rel_head b t hb rows n1 hp
      refine Ev.step (f := fun _ => some _) (fun k => ?_) (Ev.eq (Ev.now _) (by rw [List.drop_length, List.all_nil, Bool.true_and]))
      rw [impl_IsRelation.l0, if_neg (by omega), if_pos (by omega), rdRD, if_pos this])
  exact Ev.eq (key 0 (by omega) rfl) (by rw [List.drop_zero])
theorem specRel_ev (b t : Int) (rows : List (List Int)) (acc : List Bool) (hl : rows.length ≤ 1048576) (hr : ∀ i (h : i < rows.length), rows[i].length ≤ 1048576) : Ev (fun k => spec_IsRelation.f k b t rows acc) (isRelW b t rows acc) := by
  have no : Ev (fun k => spec_IsRelation.j0 k true b t rows acc) false := by
    refine Ev.step (f := fun _ => some false) (fun k => ?_) (Ev.now _)
    rw [spec_IsRelation.j0, if_pos rfl]
  unfold spec_IsRelation.f isRelW
  simp only [l1In_eq, Option.bind_some]
  by_cases h1 : 2 ≤ b ∧ b ≤ 3
  · simp only [decide_eq_true h1, if_true, Bool.true_and]
    by_cases h2 : 0 ≤ t ∧ t ≤ 3
    · simp only [decide_eq_true h2, if_true, Bool.true_and]
      by_cases h3 : 1 ≤ (rows.length : Int) ∧ (rows.length : Int) ≤ 48
      · simp only [decide_eq_true h3, if_true, Bool.true_and]
        by_cases h4 : (acc.length : Int) = (rows.length : Int)
        · obtain ⟨b', rfl⟩ : ∃ b' : Nat, b = b' := ⟨b.toNat, by omega⟩
          obtain ⟨t', rfl⟩ : ∃ t' : Nat, t = t' := ⟨t.toNat, by omega⟩
          have e : ((acc.length : Int) != (rows.length : Int)) = false := by simp [h4]
          simp only [e]
          refine Ev.step (fun k => ?_) (Ev.eq (specRel_l0 b' t' (by omega) (by omega) (by omega) rows acc (by omega) hl hr) ?_)
          · rw [spec_IsRelation.j0, if_neg (by decide)]
          · rw [show ((acc.length : Int) == (rows.length : Int)) = true from beq_iff_eq.2 h4, Bool.true_and]
            rfl
        · have e : ((acc.length : Int) != (rows.length : Int)) = true := by simpa using h4
          simp only [e]
          exact Ev.eq no (by rw [show ((acc.length : Int) == (rows.length : Int)) = false from beq_eq_false_iff_ne.2 h4, Bool.false_and])
      · simp only [decide_eq_false h3, Bool.false_eq_true, if_false, Bool.false_and]
        exact no
    · simp only [decide_eq_false h2, Bool.false_eq_true, if_false, Bool.false_and]
      exact no
  · simp only [decide_eq_false h1, Bool.false_eq_true, if_false, Bool.false_and]
    exact no
theorem isSmallBase_eq (b : Int) : impl_isSmallBase.f b = some (decide (2 ≤ b ∧ b ≤ 3)) := by
  unfold impl_isSmallBase.f
  by_cases h : b = 2
  · rw [if_pos h, Option.some.injEq]
    exact (decide_eq_true (by omega)).symm
  · rw [if_neg h, Option.some.injEq, Bool.eq_iff_iff, beq_iff_eq, decide_eq_true_eq]
    omega
theorem implRel_ev (b t : Int) (rows : List (List Int)) (acc : List Bool) (hl : rows.length ≤ 1048576) (hr : ∀ i (h : i < rows.length), rows[i].length ≤ 1048576) : Ev (fun k => impl_IsRelation.f k b t rows acc) (isRelW b t rows acc) := by
  have no : Ev (fun k => impl_IsRelation.j0 k (rows.length : Int) true b t rows acc) false := by
    refine Ev.step (f := fun _ => some false) (fun k => ?_) (Ev.now _)
    rw [impl_IsRelation.j0, if_pos rfl]
  unfold impl_IsRelation.f isRelW
  simp only [isSmallBase_eq, Option.bind_some]
  by_cases h1 : 2 ≤ b ∧ b ≤ 3
  · simp only [decide_eq_true h1, if_true, Bool.true_and]
    by_cases h2 : 0 ≤ t ∧ t ≤ 3
    · simp only [decide_eq_true h2, if_neg (show ¬ t < 0 by omega), if_neg (show ¬ t > 3 by omega), Bool.true_and]
      by_cases h3 : 1 ≤ (rows.length : Int) ∧ (rows.length : Int) ≤ 48
      · simp only [decide_eq_true h3, if_neg (show ¬ (rows.length : Int) < 1 by omega), if_neg (show ¬ (rows.length : Int) > 48 by omega), Bool.true_and]
        by_cases h4 : (acc.length : Int) = (rows.length : Int)
        · obtain ⟨b', rfl⟩ : ∃ b' : Nat, b = b' := ⟨b.toNat, by omega⟩
          obtain ⟨t', rfl⟩ : ∃ t' : Nat, t = t' := ⟨t.toNat, by omega⟩
          have e : ((acc.length : Int) != (rows.length : Int)) = false := by simp [h4]
          simp only [e]
          refine Ev.step (fun k => ?_) (Ev.eq (implRel_l0 b' t' (by omega) (by omega) (by omega) rows acc (by omega) hl hr) ?_)
          · rw [impl_IsRelation.j0, if_neg (by decide)]
          · rw [show ((acc.length : Int) == (rows.length : Int)) = true from beq_iff_eq.2 h4, Bool.true_and]
            rfl
        · have e : ((acc.length : Int) != (rows.length : Int)) = true := by simpa using h4
          simp only [e]
          exact Ev.eq no (by rw [show ((acc.length : Int) == (rows.length : Int)) = false from beq_eq_false_iff_ne.2 h4, Bool.false_and])
      · simp only [decide_eq_false h3, Bool.false_and]
        by_cases h5 : (rows.length : Int) < 1
        · simp only [if_pos h5]; exact no
        · simp only [if_neg h5, if_pos (show (rows.length : Int) > 48 by omega)]; exact no
    · simp only [decide_eq_false h2, Bool.false_and]
      by_cases h5 : t < 0
      · simp only [if_pos h5]; exact no
      · simp only [if_neg h5, if_pos (show t > 3 by omega)]; exact no
  · simp only [decide_eq_false h1, Bool.false_eq_true, if_false, Bool.false_and]
    exact no

/-! L3Same -/
theorem l3Same_l0 (x0 x1 : List Int) (hb : x0.length ≤ 1048576) (hl : x0.length = x1.length) (d : Nat) : ∀ (i : Nat), i + d = x0.length →
    Ev (fun k => spec_l3Same.l0 k x0 x1 i) (decide (x0.drop i = x1.drop i)) := by
  induction d with
  | zero =>
    intro i hi
    refine Ev.step (f := fun _ => some true) (fun k => ?_) ?_
    · rw [spec_l3Same.l0, if_neg (by omega)]
    · rw [List.drop_of_length_le (by omega), List.drop_of_length_le (by omega)]
      exact Ev.now _
  | succ d ih =>
    intro i hi
    have e0 : x0.drop i = x0[i]'(by omega) :: x0.drop (i + 1) := List.drop_eq_getElem_cons (by omega)
    have e1 : x1.drop i = x1[i]'(by omega) :: x1.drop (i + 1) := List.drop_eq_getElem_cons (by omega)
    by_cases h : x0[i]'(by omega) = x1[i]'(by omega)
    · rw [e0, e1, h]
      simp only [List.cons.injEq, true_and]
      refine Ev.step (fun k => ?_) (ih (i + 1) (by omega))
      rw [spec_l3Same.l0, if_pos (by omega), if_pos (by omega), if_pos (by omega), rd_of (show i < x0.length by omega), rd_of (show i < x1.length by omega), if_pos h, w64 (by omega) (by omega)]
      rfl
    · rw [e0, e1]
      simp only [List.cons.injEq, h, false_and]
      refine Ev.step (f := fun _ => some false) (fun k => ?_) (Ev.now _)
      rw [spec_l3Same.l0, if_pos (by omega), if_pos (by omega), if_pos (by omega), rd_of (show i < x0.length by omega), rd_of (show i < x1.length by omega), if_neg h]

theorem l3Same_ev (x0 x1 : List Int) (hb : x0.length ≤ 1048576) : Ev (fun k => spec_l3Same.f k x0 x1) (decide (x0 = x1)) := by
  by_cases hl : x0.length = x1.length
  · refine Ev.congr (fun k => ?_) (l3Same_l0 x0 x1 hb hl x0.length 0 (by omega))
    unfold spec_l3Same.f
    rw [if_pos (by omega)]
    rfl
  · rw [decide_eq_false (by intro h; exact hl (by rw [h]))]
    refine Ev.congr (fun k => ?_) (Ev.now _)
    unfold spec_l3Same.f
    rw [if_neg (by omega)]

/-! Refine -/
/-! Numberings of the values of a list in the order of their first places (plain Lean). -/
def newAt {α : Type} (a : Nat → α) (i : Nat) : Prop := ∀ k, k < i → a k ≠ a i
open Classical in
noncomputable def cntN {α : Type} (a : Nat → α) : Nat → Nat
  | 0 => 0
  | n + 1 => cntN a n + (if newAt a n then 1 else 0)
structure IsNumb {α : Type} (a : Nat → α) (n : Nat) (c : Nat → Int) : Prop where
  first : ∀ i, i < n → newAt a i → c i = (cntN a i : Nat)
  same : ∀ i j, i < n → j < n → a i = a j → c i = c j
theorem cntN_succ_new {α : Type} {a : Nat → α} {n : Nat} (h : newAt a n) : cntN a (n + 1) = cntN a n + 1 := by
  rw [cntN, if_pos h]
theorem cntN_succ_old {α : Type} {a : Nat → α} {n : Nat} (h : ¬ newAt a n) : cntN a (n + 1) = cntN a n := by
  rw [cntN, if_neg h]; rfl
theorem cntN_mono {α : Type} (a : Nat → α) (n d : Nat) : cntN a n ≤ cntN a (n + d) := by
  induction d with
  | zero => exact Nat.le_refl _
  | succ d ih => rw [show n + (d + 1) = (n + d) + 1 by omega, cntN]; split <;> omega
theorem cntN_le {α : Type} (a : Nat → α) (n : Nat) : cntN a n ≤ n := by
  induction n with
  | zero => exact Nat.le_refl _
  | succ n ih => rw [cntN]; split <;> omega
theorem cntN_lt {α : Type} {a : Nat → α} {i n : Nat} (h : newAt a i) (hi : i < n) : cntN a i < cntN a n := by
  have := cntN_mono a (i + 1) (n - (i + 1))
  rw [show i + 1 + (n - (i + 1)) = n by omega, cntN_succ_new h] at this
  omega
theorem newAt_zero {α : Type} (a : Nat → α) : newAt a 0 := fun k hk => absurd hk (by omega)
/-- Each place has a first place of its value. -/
theorem first_of {α : Type} (a : Nat → α) (i : Nat) : ∃ k, k ≤ i ∧ newAt a k ∧ a k = a i := by
  induction i using Nat.strongRecOn with
  | _ i ih =>
    by_cases h : newAt a i
    · exact ⟨i, Nat.le_refl _, h, rfl⟩
    · have h' : ∃ k, k < i ∧ a k = a i := Classical.byContradiction fun h2 => h fun k hk e => h2 ⟨k, hk, e⟩
      obtain ⟨k, hk, e⟩ := h'
      obtain ⟨m, hm, hn, em⟩ := ih k hk
      exact ⟨m, by omega, hn, em.trans e⟩
theorem IsNumb.inj {α : Type} {a : Nat → α} {n : Nat} {c : Nat → Int} (H : IsNumb a n c) {i j : Nat} (hi : i < n) (hj : j < n) (e : c i = c j) : a i = a j := by
  obtain ⟨i0, l1, n1, e1⟩ := first_of a i
  obtain ⟨j0, l2, n2, e2⟩ := first_of a j
  have q1 := H.first i0 (by omega) n1
  have q2 := H.first j0 (by omega) n2
  have r1 := H.same i0 i (by omega) hi e1
  have r2 := H.same j0 j (by omega) hj e2
  have q : cntN a i0 = cntN a j0 := by omega
  rcases Nat.lt_trichotomy i0 j0 with h | h | h
  · have := cntN_lt n1 h; omega
  · rw [← e1, ← e2, h]
  · have := cntN_lt n2 h; omega
theorem IsNumb.lt {α : Type} {a : Nat → α} {n : Nat} {c : Nat → Int} (H : IsNumb a n c) {i : Nat} (hi : i < n) : 0 ≤ c i ∧ c i < (cntN a n : Nat) := by
  obtain ⟨i0, l1, n1, e1⟩ := first_of a i
  have q1 := H.first i0 (by omega) n1
  have r1 := H.same i0 i (by omega) hi e1
  have := cntN_lt n1 (show i0 < n by omega)
  omega
theorem IsNumb.zero {α : Type} {a : Nat → α} {n : Nat} {c : Nat → Int} (H : IsNumb a n c) (hn : 0 < n) : c 0 = 0 := by
  rw [H.first 0 hn (newAt_zero a)]; rfl
/-- Each number below the count is taken, first at a first place. -/
theorem cntN_onto {α : Type} (a : Nat → α) (n v : Nat) (hv : v < cntN a n) : ∃ i, i < n ∧ newAt a i ∧ cntN a i = v := by
  induction n with
  | zero => simp [cntN] at hv
  | succ n ih =>
    by_cases h : newAt a n
    · rw [cntN_succ_new h] at hv
      by_cases h2 : v = cntN a n
      · exact ⟨n, by omega, h, h2.symm⟩
      · obtain ⟨i, a1, a2, a3⟩ := ih (by omega)
        exact ⟨i, by omega, a2, a3⟩
    · rw [cntN_succ_old h] at hv
      obtain ⟨i, a1, a2, a3⟩ := ih hv
      exact ⟨i, by omega, a2, a3⟩
theorem newAt_congr {α β : Type} {a : Nat → α} {b : Nat → β} {n : Nat} (h : ∀ i j, i < n → j < n → (a i = a j ↔ b i = b j)) {i : Nat} (hi : i < n) : newAt a i ↔ newAt b i :=
  ⟨fun g k hk e => g k hk ((h k i (by omega) hi).2 e), fun g k hk e => g k hk ((h k i (by omega) hi).1 e)⟩
theorem cntN_congr {α β : Type} {a : Nat → α} {b : Nat → β} {n : Nat} (h : ∀ i j, i < n → j < n → (a i = a j ↔ b i = b j)) : ∀ i, i ≤ n → cntN a i = cntN b i := by
  intro i
  induction i with
  | zero => intro _; rfl
  | succ i ih =>
    intro hi
    have e := newAt_congr h (show i < n by omega)
    by_cases g : newAt a i
    · rw [cntN_succ_new g, cntN_succ_new (e.1 g), ih (by omega)]
    · rw [cntN_succ_old g, cntN_succ_old (fun x => g (e.2 x)), ih (by omega)]
theorem IsNumb.uniq {α β : Type} {a : Nat → α} {b : Nat → β} {n : Nat} {c d : Nat → Int} (H : IsNumb a n c) (G : IsNumb b n d) (h : ∀ i j, i < n → j < n → (a i = a j ↔ b i = b j)) : ∀ i, i < n → c i = d i := by
  intro i hi
  obtain ⟨i0, l1, n1, e1⟩ := first_of a i
  have hb := (h i0 i (by omega) hi).1 e1
  rw [← H.same i0 i (by omega) hi e1, ← G.same i0 i (by omega) hi hb, H.first i0 (by omega) n1, G.first i0 (by omega) ((newAt_congr h (by omega)).1 n1), cntN_congr h i0 (by omega)]
/-- A finer list has at least as many values, and as many only if it is no finer. -/
theorem cntN_finer {α β : Type} {a : Nat → α} {b : Nat → β} {n : Nat} (h : ∀ i j, i < n → j < n → b i = b j → a i = a j) : ∀ i, i ≤ n → cntN a i ≤ cntN b i := by
  intro i
  induction i with
  | zero => intro _; exact Nat.le_refl _
  | succ i ih =>
    intro hi
    have e : newAt a i → newAt b i := fun g k hk e => g k hk (h k i (by omega) (by omega) e)
    have := ih (by omega)
    by_cases g : newAt a i
    · rw [cntN_succ_new g, cntN_succ_new (e g)]; omega
    · rw [cntN_succ_old g]
      have := cntN_mono b i 1
      omega
theorem new_finer {α β : Type} {a : Nat → α} {b : Nat → β} {n : Nat} (h : ∀ i j, i < n → j < n → b i = b j → a i = a j) (hc : cntN a n = cntN b n) : ∀ i, i < n → newAt b i → newAt a i := by
  intro i hi hb
  refine Classical.byContradiction fun ha => ?_
  have key : ∀ d, i + 1 + d ≤ n → cntN a (i + 1 + d) < cntN b (i + 1 + d) := by
    intro d
    induction d with
    | zero =>
      intro hd
      have := cntN_finer h i (by omega)
      rw [Nat.add_zero, cntN_succ_old ha, cntN_succ_new hb]
      omega
    | succ d ih =>
      intro hd
      have q := ih (by omega)
      have e : newAt a (i + 1 + d) → newAt b (i + 1 + d) := fun g k hk e => g k hk (h k _ (by omega) (by omega) e)
      rw [show i + 1 + (d + 1) = (i + 1 + d) + 1 by omega]
      by_cases g : newAt a (i + 1 + d)
      · rw [cntN_succ_new g, cntN_succ_new (e g)]; omega
      · rw [cntN_succ_old g]
        have := cntN_mono b (i + 1 + d) 1
        omega
  have := key (n - (i + 1)) (by omega)
  rw [show i + 1 + (n - (i + 1)) = n by omega] at this
  omega
theorem same_finer {α β : Type} {a : Nat → α} {b : Nat → β} {n : Nat} (h : ∀ i j, i < n → j < n → b i = b j → a i = a j) (hc : cntN a n = cntN b n) : ∀ i j, i < n → j < n → (a i = a j ↔ b i = b j) := by
  have key : ∀ j, j < n → ∀ i, i ≤ j → newAt a i → a i = a j → b i = b j := by
    intro j
    induction j using Nat.strongRecOn with
    | _ j ih =>
      intro hj i hi hn e
      by_cases hij : i = j
      · rw [hij]
      · have ho : ¬ newAt a j := fun g => g i (by omega) e
        have hob : ¬ newAt b j := fun g => ho (new_finer h hc j hj g)
        have h' : ∃ k, k < j ∧ b k = b j := Classical.byContradiction fun h2 => hob fun k hk e => h2 ⟨k, hk, e⟩
        obtain ⟨k, hk, ek⟩ := h'
        have eak := h k j (by omega) hj ek
        have hik : i ≤ k := by
          refine Classical.byContradiction fun hlt => ?_
          exact hn k (by omega) (eak.trans e.symm)
        rw [← ek]
        exact ih k hk (by omega) i hik hn (e.trans eak.symm)
  intro i j hi hj
  refine ⟨fun e => ?_, h i j hi hj⟩
  obtain ⟨i0, l1, n1, e1⟩ := first_of a i
  rcases Nat.le_total i j with hij | hij
  · rw [← key i hi i0 l1 n1 e1]
    exact key j hj i0 (by omega) n1 (e1.trans e)
  · obtain ⟨j0, l2, n2, e2⟩ := first_of a j
    rw [← key j hj j0 l2 n2 e2]
    exact (key i hi j0 (by omega) n2 (e2.trans e.symm)).symm

/-! Run -/
/-! Finer and finer classes (plain Lean). -/
def NumL {α : Type} [Inhabited α] (keys : List α) (c : List Int) : Prop := c.length = keys.length ∧ IsNumb (fun i => keys.getD i default) keys.length (fun i => c.getD i 0)
def keyOf (rows : List (List Int)) (c : List Int) (i : Nat) : List Int := c.getD i 0 :: (rows.getD i []).map (fun qq => c.getD qq.toNat 0)
def keysL (rows : List (List Int)) (c : List Int) : List (List Int) := (List.range rows.length).map (keyOf rows c)
theorem keysL_len (rows : List (List Int)) (c : List Int) : (keysL rows c).length = rows.length := by simp [keysL]
theorem keysL_get {rows : List (List Int)} {c : List Int} {i : Nat} (h : i < rows.length) : (keysL rows c).getD i default = keyOf rows c i := by
  simp [keysL, List.getD_eq_getElem?_getD, h]
theorem list_ext_getD {c d : List Int} (hl : c.length = d.length) (h : ∀ i, i < c.length → c.getD i 0 = d.getD i 0) : c = d := by
  refine List.ext_getElem hl fun i h1 h2 => ?_
  have := h i h1
  simpa [List.getD_eq_getElem?_getD, h1, h2] using this
theorem NumL.uniq {α β : Type} [Inhabited α] [Inhabited β] {a : List α} {b : List β} {c d : List Int} (H : NumL a c) (G : NumL b d) (hl : a.length = b.length) (h : ∀ i j, i < a.length → j < a.length → (a.getD i default = a.getD j default ↔ b.getD i default = b.getD j default)) : c = d := by
  refine list_ext_getD (by rw [H.1, G.1, hl]) fun i hi => ?_
  have G2 := G.2
  rw [← hl] at G2
  exact IsNumb.uniq H.2 G2 h i (by rw [← H.1]; exact hi)
noncomputable def cntL {α : Type} [Inhabited α] (keys : List α) : Nat := cntN (fun i => keys.getD i default) keys.length
theorem cntL_le {α : Type} [Inhabited α] (keys : List α) : cntL keys ≤ keys.length := cntN_le _ _
theorem cntL_pos {α : Type} [Inhabited α] {keys : List α} (h : 0 < keys.length) : 1 ≤ cntL keys := by
  have := cntN_lt (newAt_zero (fun i => keys.getD i default)) h
  unfold cntL
  omega
/-- The keys of the next round are finer. -/
theorem keys_finer {α : Type} [Inhabited α] {a : List α} {rows : List (List Int)} {c : List Int} (H : NumL a c) (hl : a.length = rows.length) : ∀ i j, i < a.length → j < a.length → (keysL rows c).getD i default = (keysL rows c).getD j default → a.getD i default = a.getD j default := by
  intro i j hi hj e
  rw [keysL_get (by omega), keysL_get (by omega), keyOf, keyOf, List.cons.injEq] at e
  exact H.2.inj hi hj e.1
theorem round_le {α : Type} [Inhabited α] {a : List α} {rows : List (List Int)} {c : List Int} (H : NumL a c) (hl : a.length = rows.length) : cntL a ≤ cntL (keysL rows c) := by
  have := cntN_finer (keys_finer H hl) a.length (Nat.le_refl _)
  unfold cntL
  rwa [keysL_len, ← hl]
theorem round_same {α : Type} [Inhabited α] {a : List α} {rows : List (List Int)} {c d : List Int} (H : NumL a c) (G : NumL (keysL rows c) d) (hl : a.length = rows.length) (h : cntL a = cntL (keysL rows c)) : d = c := by
  have h' : cntN (fun i => a.getD i default) a.length = cntN (fun i => (keysL rows c).getD i default) a.length := by
    have := h
    unfold cntL at this
    rwa [keysL_len, ← hl] at this
  exact (NumL.uniq H G (by rw [keysL_len, hl]) (same_finer (keys_finer H hl) h')).symm
theorem cnt_of {α : Type} [Inhabited α] {a : List α} {c : List Int} (H : NumL a c) : cntL a = cntL c := by
  unfold cntL
  rw [H.1]
  refine cntN_congr (n := a.length) (fun i j hi hj => ⟨fun e => ?_, fun e => ?_⟩) _ (Nat.le_refl _)
  · exact H.2.same i j hi hj e
  · exact H.2.inj hi hj e
/-- From some classes on to those that stand still. -/
inductive Run (rows : List (List Int)) : List Int → List Int → Prop
  | stop {c : List Int} : NumL (keysL rows c) c → Run rows c c
  | go {c d e : List Int} : NumL (keysL rows c) d → d ≠ c → Run rows d e → Run rows c e
theorem Run.still {rows : List (List Int)} {c e : List Int} (H : Run rows c e) : NumL (keysL rows e) e := by
  induction H with
  | stop h => exact h
  | go _ _ _ ih => exact ih
theorem Run.finer {rows : List (List Int)} {c e : List Int} (H : Run rows c e) : ∀ i j, i < rows.length → j < rows.length → e.getD i 0 = e.getD j 0 → c.getD i 0 = c.getD j 0 := by
  induction H with
  | stop h => exact fun i j _ _ q => q
  | @go c d e h _ _ ih =>
    intro i j hi hj q
    have := h.2.inj (by rw [keysL_len]; exact hi) (by rw [keysL_len]; exact hj) (ih i j hi hj q)
    rw [keysL_get hi, keysL_get hj, keyOf, keyOf, List.cons.injEq] at this
    exact this.1
/-- Numbers of the same states: what follows from standing still. -/
theorem still_next {rows : List (List Int)} {e : List Int} (H : NumL (keysL rows e) e) {i j : Nat} (hi : i < rows.length) (hj : j < rows.length) (q : e.getD i 0 = e.getD j 0) : (rows.getD i []).map (fun qq => e.getD qq.toNat 0) = (rows.getD j []).map (fun qq => e.getD qq.toNat 0) := by
  have := H.2.inj (by rw [keysL_len]; exact hi) (by rw [keysL_len]; exact hj) q
  rw [keysL_get hi, keysL_get hj, keyOf, keyOf, List.cons.injEq] at this
  exact this.2

/-! Number -/
theorem getD_snoc_lt {out : List Int} {y : Int} {t : Nat} (h : t < out.length) : (out ++ [y]).getD t 0 = out.getD t 0 := by
  simp [List.getD_eq_getElem?_getD, List.getElem?_append_left h]
theorem getD_snoc_eq (out : List Int) (y : Int) : (out ++ [y]).getD out.length 0 = y := by
  simp [List.getD_eq_getElem?_getD]
theorem numb_new {α : Type} {a : Nat → α} {out : List Int} (H : IsNumb a out.length (fun i => out.getD i 0)) (hn : newAt a out.length) : IsNumb a (out.length + 1) (fun i => (out ++ [((cntN a out.length : Nat) : Int)]).getD i 0) := by
  refine ⟨fun t ht hnt => ?_, fun t s ht hs e => ?_⟩
  · by_cases h : t < out.length
    · simp only [getD_snoc_lt h]; exact H.first t h hnt
    · have : t = out.length := by omega
      subst this
      simp only [getD_snoc_eq]
  · by_cases h : t < out.length
    · by_cases h2 : s < out.length
      · simp only [getD_snoc_lt h, getD_snoc_lt h2]; exact H.same t s h h2 e
      · have : s = out.length := by omega
        subst this
        exact absurd e (hn t h)
    · have : t = out.length := by omega
      subst this
      by_cases h2 : s < out.length
      · exact absurd e.symm (hn s h2)
      · have : s = out.length := by omega
        subst this
        rfl
theorem numb_old {α : Type} {a : Nat → α} {out : List Int} (H : IsNumb a out.length (fun i => out.getD i 0)) {j : Nat} (hj : j < out.length) (ej : a j = a out.length) : IsNumb a (out.length + 1) (fun i => (out ++ [out.getD j 0]).getD i 0) := by
  refine ⟨fun t ht hnt => ?_, fun t s ht hs e => ?_⟩
  · by_cases h : t < out.length
    · simp only [getD_snoc_lt h]; exact H.first t h hnt
    · have : t = out.length := by omega
      subst this
      exact absurd ej (hnt j hj)
  · by_cases h : t < out.length
    · by_cases h2 : s < out.length
      · simp only [getD_snoc_lt h, getD_snoc_lt h2]; exact H.same t s h h2 e
      · have : s = out.length := by omega
        subst this
        simp only [getD_snoc_lt h, getD_snoc_eq]
        exact H.same t j h hj (e.trans ej.symm)
    · have : t = out.length := by omega
      subst this
      by_cases h2 : s < out.length
      · simp only [getD_snoc_lt h2, getD_snoc_eq]
        exact H.same j s hj h2 (ej.trans e)
      · have : s = out.length := by omega
        subst this
        rfl
theorem keyAt {keys : List (List Int)} {i : Nat} (h : i < keys.length) : keys.getD i default = keys[i] := by
  simp [List.getD_eq_getElem?_getD, h]
theorem number_inner (keys : List (List Int)) (hk : keys.length ≤ 1048576) (hr : ∀ x ∈ keys, x.length ≤ 1048576) (out : List Int) (hi : out.length < keys.length) (hp : ∀ j (h : j < out.length), 0 ≤ out[j]) (next : Int) (n0 : 0 ≤ next) (n1 : next ≤ 1048576) (r : List Int)
    (hnew : newAt (fun i => keys.getD i default) out.length → Ev (fun k => spec_l4Number.l0 k keys (out ++ [next]) (next + 1) ((out.length + 1 : Nat) : Int)) r)
    (hold : ∀ j, j < out.length → keys.getD j default = keys.getD out.length default → Ev (fun k => spec_l4Number.l0 k keys (out ++ [out.getD j 0]) next ((out.length + 1 : Nat) : Int)) r) :
    Ev (fun k => spec_l4Number.l1 k keys out next (out.length : Int) (-1) 0) r := by
  have key := downs (P := fun c => (∀ j, j < c → keys.getD j default ≠ keys.getD out.length default) → Ev (fun k => spec_l4Number.l1 k keys out next (out.length : Int) (-1) (c : Int)) r) out.length
    (fun c hc ih hne => by
      refine Ev.step (f := fun k => spec_l4Number.j2 k keys out next (out.length : Int) (-1) (c : Int) true) (fun k => ?_) ?_
      · rw [spec_l4Number.l1, if_pos (by omega), decide_eq_true (show (-1 : Int) < 0 by omega)]
      have hc2 : c < keys.length := by omega
      refine Ev.step (f := fun k => (spec_l3Same.f k keys[c] keys[out.length]).bind fun t => if t = true then spec_l4Number.l1 k keys out next (out.length : Int) out[c] ((c + 1 : Nat) : Int) else spec_l4Number.l1 k keys out next (out.length : Int) (-1) ((c + 1 : Nat) : Int)) (fun k => ?_) (Ev.bind (l3Same_ev _ _ (hr _ (List.getElem_mem hc2))) ?_)
      · rw [spec_l4Number.j2, if_pos rfl, if_pos (by omega), if_pos (by omega), if_pos (by omega), if_pos (by omega), rdR_of hc2, rdR_of hi, w64 (by omega) (by omega)]
        congr 1
        funext t
        rw [if_pos (show (c : Int) < (out.length : Int) by omega), rd_of hc]
        rfl
      · by_cases e : keys[c] = keys[out.length]
        · simp only [decide_eq_true e, if_true]
          have hpc := hp c hc
          have h := hold c hc (by rw [keyAt hc2, keyAt hi]; exact e)
          have eg : out.getD c 0 = out[c] := by simp [List.getD_eq_getElem?_getD, hc]
          rw [eg] at h
          refine Ev.step (f := fun k => spec_l4Number.j2 k keys out next (out.length : Int) out[c] ((c + 1 : Nat) : Int) false) (fun k => ?_) (Ev.step (fun k => ?_) h)
          · rw [spec_l4Number.l1]
            by_cases q : ((c + 1 : Nat) : Int) < (out.length : Int)
            · rw [if_pos q, decide_eq_false (by omega)]
            · rw [if_neg q]
          · rw [spec_l4Number.j2, if_neg (by decide), if_neg (by omega), if_pos (by omega), w64 (by omega) (by omega)]
            rfl
        · simp only [decide_eq_false e, Bool.false_eq_true, if_false]
          refine ih (fun j hj => ?_)
          by_cases q : j = c
          · subst q
            rw [keyAt hc2, keyAt hi]
            exact e
          · exact hne j (by omega))
    (fun hne => by
      refine Ev.step (f := fun k => spec_l4Number.j2 k keys out next (out.length : Int) (-1) (out.length : Int) false) (fun k => ?_) (Ev.step (fun k => ?_) (hnew (fun j hj => hne j hj)))
      · rw [spec_l4Number.l1, if_neg (by omega)]
      · rw [spec_l4Number.j2, if_neg (by decide), if_pos (by omega), if_pos (by omega), w64 (by omega) (by omega), w64 (by omega) (by omega)]
        rfl)
  exact key 0 (by omega) (fun j hj => by omega)
theorem number_ev (keys : List (List Int)) (hk : keys.length ≤ 1048575) (hr : ∀ x ∈ keys, x.length ≤ 1048576) : ∃ c, Ev (fun k => spec_l4Number.f k keys) c ∧ NumL keys c := by
  have key := downs (P := fun i => ∀ out : List Int, out.length = i → IsNumb (fun i => keys.getD i default) i (fun j => out.getD j 0) → ∃ c, Ev (fun k => spec_l4Number.l0 k keys out ((cntN (fun i => keys.getD i default) i : Nat) : Int) (i : Int)) c ∧ NumL keys c) keys.length
    (fun i hi ih out ho hN => by
      subst ho
      have hcl := cntN_le (fun i => keys.getD i default) out.length
      have hp : ∀ j (h : j < out.length), 0 ≤ out[j] := fun j h => by
        have := (hN.lt h).1
        simpa [List.getD_eq_getElem?_getD, h] using this
      by_cases hn : newAt (fun i => keys.getD i default) out.length
      · obtain ⟨c, hc, hN2⟩ := ih (out ++ [((cntN (fun i => keys.getD i default) out.length : Nat) : Int)]) (by simp) (numb_new hN hn)
        rw [cntN_succ_new hn] at hc
        refine ⟨c, Ev.step (fun k => ?_) (number_inner keys (by omega) hr out hi hp (((cntN (fun i => keys.getD i default) out.length : Nat)) : Int) (by omega) (by omega) c (fun _ => ?_) (fun j hj e => absurd e (hn j hj))), hN2⟩
        · rw [spec_l4Number.l0, if_pos (by omega)]
        · refine Ev.congr (fun k => ?_) hc
          congr 1
      · have h' : ∃ k, k < out.length ∧ keys.getD k default = keys.getD out.length default := Classical.byContradiction fun h2 => hn fun k hk e => h2 ⟨k, hk, e⟩
        obtain ⟨j0, hj0, ej0⟩ := h'
        obtain ⟨c, hc, hN2⟩ := ih (out ++ [out.getD j0 0]) (by simp) (numb_old hN hj0 ej0)
        rw [cntN_succ_old hn] at hc
        refine ⟨c, Ev.step (fun k => ?_) (number_inner keys (by omega) hr out hi hp (((cntN (fun i => keys.getD i default) out.length : Nat)) : Int) (by omega) (by omega) c (fun h => absurd h hn) (fun j hj e => ?_)), hN2⟩
        · rw [spec_l4Number.l0, if_pos (by omega)]
        · have : out.getD j 0 = out.getD j0 0 := hN.same j j0 hj hj0 (e.trans ej0.symm)
          rw [this]
          exact hc)
    (fun out ho hN => by
      refine ⟨out, Ev.step (f := fun _ => some out) (fun k => ?_) (Ev.now _), ho, hN⟩
      rw [spec_l4Number.l0, if_neg (by omega)])
  obtain ⟨c, hc, hN⟩ := key 0 (by omega) [] rfl ⟨fun i hi => by omega, fun i j hi => by omega⟩
  exact ⟨c, hc, hN⟩

/-! Bfs -/
/-! A search by breadth over numbers (plain Lean). -/
def addOne (L : List Int) (x : Int) : List Int := if x ∈ L then L else L ++ [x]
def addAll (L xs : List Int) : List Int := xs.foldl addOne L
inductive Bfs (M : Int → List Int) : List Int → Nat → List Int → Prop
  | done {L : List Int} {k : Nat} : L.length ≤ k → Bfs M L k L
  | step {L F : List Int} {k : Nat} (h : k < L.length) : Bfs M (addAll L (M L[k])) (k + 1) F → Bfs M L k F
theorem addOne_pre (L : List Int) (x : Int) : L <+: addOne L x := by
  unfold addOne; split
  · exact List.prefix_refl _
  · exact List.prefix_append _ _
theorem addAll_cons (L : List Int) (x : Int) (xs : List Int) : addAll L (x :: xs) = addAll (addOne L x) xs := rfl
theorem addAll_nil (L : List Int) : addAll L [] = L := rfl
theorem addAll_pre (xs : List Int) : ∀ L : List Int, L <+: addAll L xs := by
  induction xs with
  | nil => exact fun L => List.prefix_refl _
  | cons x xs ih => exact fun L => (addOne_pre L x).trans (ih _)
theorem mem_addOne {L : List Int} {x y : Int} : y ∈ addOne L x ↔ y ∈ L ∨ y = x := by
  unfold addOne; split
  · rename_i h; constructor
    · exact Or.inl
    · rintro (g | rfl)
      · exact g
      · exact h
  · simp
theorem mem_addAll {xs : List Int} : ∀ {L : List Int} {y : Int}, y ∈ addAll L xs ↔ y ∈ L ∨ y ∈ xs := by
  induction xs with
  | nil => simp [addAll_nil]
  | cons x xs ih =>
    intro L y
    rw [addAll_cons, ih, mem_addOne, List.mem_cons, or_assoc]
theorem nodup_addOne {L : List Int} (h : L.Nodup) (x : Int) : (addOne L x).Nodup := by
  unfold addOne; split
  · exact h
  · rename_i g
    rw [List.nodup_append]
    refine ⟨h, by simp, ?_⟩
    intro a ha b hb e
    simp at hb
    subst hb; subst e
    exact g ha
theorem nodup_addAll (xs : List Int) : ∀ {L : List Int}, L.Nodup → (addAll L xs).Nodup := by
  induction xs with
  | nil => exact fun h => h
  | cons x xs ih => exact fun h => ih (nodup_addOne h x)
theorem Bfs.pre {M : Int → List Int} {L F : List Int} {k : Nat} (H : Bfs M L k F) : L <+: F := by
  induction H with
  | done _ => exact List.prefix_refl _
  | step h _ ih => exact (addAll_pre _ _).trans ih
theorem pre_get {L F : List Int} (h : L <+: F) {i : Nat} (hi : i < L.length) : ∃ hf : i < F.length, F[i] = L[i] := by
  obtain ⟨t, rfl⟩ := h
  exact ⟨by simp; omega, List.getElem_append_left hi⟩
theorem Bfs.nodup {M : Int → List Int} {L F : List Int} {k : Nat} (H : Bfs M L k F) (h : L.Nodup) : F.Nodup := by
  induction H with
  | done _ => exact h
  | step _ _ ih => exact ih (nodup_addAll _ h)
theorem Bfs.in {M : Int → List Int} {P : Int → Prop} (hM : ∀ v, P v → ∀ x ∈ M v, P x) {L F : List Int} {k : Nat} (H : Bfs M L k F) (h : ∀ x ∈ L, P x) : ∀ x ∈ F, P x := by
  induction H with
  | done _ => exact h
  | step hk _ ih =>
    refine ih fun x hx => ?_
    rcases mem_addAll.1 hx with g | g
    · exact h x g
    · exact hM _ (h _ (List.getElem_mem hk)) x g
/-- All that follows from a member is a member. -/
theorem Bfs.closed {M : Int → List Int} {L F : List Int} {k : Nat} (H : Bfs M L k F) : ∀ j (hj : j < F.length), k ≤ j → ∀ x ∈ M F[j], x ∈ F := by
  induction H with
  | done h => intro j hj hk; omega
  | @step L F k h H ih =>
    intro j hj hk x hx
    by_cases e : j = k
    · subst e
      obtain ⟨_, e2⟩ := pre_get ((addAll_pre (M L[j]) L).trans H.pre) h
      rw [e2] at hx
      exact H.pre.subset (mem_addAll.2 (Or.inr hx))
    · exact ih j hj (by omega) x hx
/-- A list without doublets of numbers below m has at most m of them. -/
theorem nodup_len (m : Nat) : ∀ L : List Int, L.Nodup → (∀ x ∈ L, 0 ≤ x ∧ x < (m : Int)) → L.length ≤ m := by
  induction m with
  | zero =>
    intro L _ h
    cases L with
    | nil => simp
    | cons x xs => have := h x (by simp); omega
  | succ m ih =>
    intro L hn h
    have h1 := ih (L.erase (m : Int)) (hn.erase _) (fun x hx => by
      have q := List.mem_of_mem_erase hx
      have := h x q
      have ne : x ≠ (m : Int) := by
        rintro rfl
        exact (List.Nodup.not_mem_erase hn) hx
      omega)
    by_cases hm : (m : Int) ∈ L
    · rw [List.length_erase_of_mem hm] at h1; omega
    · rw [List.erase_of_not_mem hm] at h1; omega
theorem Bfs.exist (M : Int → List Int) (m : Nat) (hM : ∀ v, (0 ≤ v ∧ v < (m : Int)) → ∀ x ∈ M v, 0 ≤ x ∧ x < (m : Int)) (L : List Int) (k : Nat) (hn : L.Nodup) (h : ∀ x ∈ L, 0 ≤ x ∧ x < (m : Int)) : ∃ F, Bfs M L k F := by
  have key : ∀ d, ∀ (L : List Int) (k : Nat), m ≤ k + d → L.Nodup → (∀ x ∈ L, 0 ≤ x ∧ x < (m : Int)) → ∃ F, Bfs M L k F := by
    intro d
    induction d with
    | zero =>
      intro L k hk hn h
      exact ⟨L, .done (by have := nodup_len m L hn h; omega)⟩
    | succ d ih =>
      intro L k hk hn h
      by_cases hl : L.length ≤ k
      · exact ⟨L, .done hl⟩
      · obtain ⟨F, hF⟩ := ih (addAll L (M (L[k]'(by omega)))) (k + 1) (by omega) (nodup_addAll _ hn) (fun x hx => by
          rcases mem_addAll.1 hx with g | g
          · exact h x g
          · exact hM _ (h _ (List.getElem_mem (by omega))) x g)
        exact ⟨F, .step (by omega) hF⟩
  exact key m L k (by omega) hn h
theorem idxOf_pre {L F : List Int} (h : L <+: F) {x : Int} (hx : x ∈ L) : F.idxOf x = L.idxOf x := by
  obtain ⟨t, rfl⟩ := h
  rw [List.idxOf_append, if_pos hx]
theorem idxOf_new {L : List Int} {x : Int} (hx : x ∉ L) : (L ++ [x]).idxOf x = L.length := by
  rw [List.idxOf_append, if_neg hx]
  simp

/-! Classes -/
/-! Classes that stand still, and what can be reached (plain Lean). -/
def inR (rows : List (List Int)) : Prop := ∀ i, i < rows.length → ∀ x ∈ rows.getD i [], 0 ≤ x ∧ x < (rows.length : Int)
open Classical in
noncomputable def repOf (e : List Int) (v : Int) : Nat := if h : ∃ i, i < e.length ∧ e.getD i 0 = v then Classical.choose h else 0
theorem repOf_spec {e : List Int} {v : Int} (h : ∃ i, i < e.length ∧ e.getD i 0 = v) : repOf e v < e.length ∧ e.getD (repOf e v) 0 = v := by
  unfold repOf
  rw [dif_pos h]
  exact Classical.choose_spec h
noncomputable def clM (rows : List (List Int)) (e : List Int) (v : Int) : List Int := (rows.getD (repOf e v) []).map (fun qq => e.getD qq.toNat 0)
theorem clM_of {rows : List (List Int)} {e : List Int} (H : NumL (keysL rows e) e) {i : Nat} (hi : i < rows.length) : clM rows e (e.getD i 0) = (rows.getD i []).map (fun qq => e.getD qq.toNat 0) := by
  have hl : e.length = rows.length := by rw [H.1, keysL_len]
  obtain ⟨a, b⟩ := repOf_spec (e := e) (v := e.getD i 0) ⟨i, by omega, rfl⟩
  exact still_next H (by omega) hi b
/-! Reduce -/
def kb (b : Bool) : List Int := if b = true then [1] else [0]
theorem kb_inj {a b : Bool} (h : kb a = kb b) : a = b := by cases a <;> cases b <;> simp [kb] at h <;> rfl
theorem getAt {c : List Int} {i : Nat} (h : i < c.length) : c.getD i 0 = c[i] := by simp [List.getD_eq_getElem?_getD, h]
theorem rowAt {rows : List (List Int)} {i : Nat} (h : i < rows.length) : rows.getD i [] = rows[i] := by simp [List.getD_eq_getElem?_getD, h]
theorem rowAt' {rows : List (List Int)} {i : Nat} (h : i < rows.length) : rd_L1 rows (i : Int) = rows.getD i [] := rfl
theorem RelW.inR {b t : Nat} {rows : List (List Int)} {acc : List Bool} (H : RelW b t rows acc) : inR rows := fun i hi x hx => (H.len i hi).2 x (by rw [rowAt hi] at hx; exact hx)
theorem RelW.rowlen {b t : Nat} {rows : List (List Int)} {acc : List Bool} (H : RelW b t rows acc) (i : Nat) (hi : i < rows.length) : (rows.getD i []).length = b ^ t := by rw [rowAt hi]; exact (H.len i hi).1
theorem RelW.pow27 {b t : Nat} {rows : List (List Int)} {acc : List Bool} (H : RelW b t rows acc) : b ^ t ≤ 9261 := pow_le16 b (by have := H.b3; omega) t H.t3
section
variable {b t : Int} {rows : List (List Int)} {acc : List Bool}
abbrev Red := Int × Int × (List (List Int)) × List Bool
theorem red_l0 (hl : acc.length ≤ 20000) {r : Red} {c0 : List Int} (hN : Ev (fun k => spec_l4Number.f k (acc.map kb)) c0) (h : Ev (fun k => spec_l13Reduce.l1 k b t rows acc c0 0) r) : Ev (fun k => spec_l13Reduce.f k b t rows acc) r := by
  have key := downs (P := fun i => Ev (fun k => spec_l13Reduce.l0 k b t rows acc ((acc.take i).map kb) (i : Int)) r) acc.length
    (fun i hi ih => by
      refine Ev.step (fun k => ?_) ih
      have e : rdOf false acc (i : Int) = acc[i] := by unfold rdOf; exact getD_of hi
      have hlen : ((acc.take i).map kb).length < 5864062014805 := by simp; omega
      rw [spec_l13Reduce.l0, if_pos (by omega), if_pos (by omega), e, List.take_succ_eq_append_getElem hi, List.map_append, w64 (by omega) (by omega), if_pos hlen, if_pos hlen]
      cases acc[i] <;> rfl)
    (by
      refine Ev.step (f := fun k => (spec_l4Number.f k (acc.map kb)).bind fun t271 => spec_l13Reduce.l1 k b t rows acc t271 0) (fun k => ?_) (Ev.bind hN h)
      rw [spec_l13Reduce.l0, if_neg (by omega), List.take_length])
  exact key 0 (by omega)
theorem red_l3 (hn : rows.length ≤ 20000) (hR : inR rows) {cls : List Int} (hc : cls.length = rows.length) (m : Int) (x9 : List (List Int)) (h9 : x9.length ≤ 20000) (i : Nat) (hi : i < rows.length) (hlen : (rows.getD i []).length ≤ 1000000) {r : Red}
    (h : Ev (fun k => spec_l13Reduce.l2 k b t rows acc (x9 ++ [keyOf rows cls i]) cls m ((i + 1 : Nat) : Int)) r) : Ev (fun k => spec_l13Reduce.l3 k b t rows acc x9 cls m (i : Int) [rd cls (i : Int)] 0) r := by
  have key := downs (P := fun c => Ev (fun k => spec_l13Reduce.l3 k b t rows acc x9 cls m (i : Int) (cls.getD i 0 :: (((rows.getD i []).take c).map (fun qq => cls.getD qq.toNat 0))) (c : Int)) r) (rows.getD i []).length
    (fun c hcl ih => by
      refine Ev.step (fun k => ?_) ih
      have hx := hR i hi (rows.getD i [])[c] (List.getElem_mem hcl)
      have e1 : rd (rows.getD i []) (c : Int) = (rows.getD i [])[c] := rd_of hcl
      rw [spec_l13Reduce.l3, if_pos (by omega), if_pos (by omega), rowAt' hi, if_pos (by omega), if_pos (by omega), e1, if_pos (by omega), if_pos (by omega), if_pos (by simp; omega), w64 (by omega) (by omega)]
      rw [List.take_succ_eq_append_getElem hcl, List.map_append]
      rfl)
    (by
      refine Ev.step (fun k => ?_) h
      rw [spec_l13Reduce.l3, if_pos (by omega), if_pos (by omega), rowAt' hi, if_neg (by omega), if_pos (by omega), w64 (by omega) (by omega), List.take_length]
      rfl)
  exact key 0 (by omega)
theorem red_l2 (hn : rows.length ≤ 20000) (hR : inR rows) (hw : ∀ i, i < rows.length → (rows.getD i []).length ≤ 1000000) {cls : List Int} (hc : cls.length = rows.length) (m : Nat) (hm : m < rows.length) {r : Red} {d : List Int} (hN : Ev (fun k => spec_l4Number.f k (keysL rows cls)) d) (hd : d.length = rows.length)
    (h : Ev (fun k => spec_l13Reduce.l1 k b t rows acc d (if d = cls then ((rows.length + 1 : Nat) : Int) else ((m + 1 : Nat) : Int))) r) : Ev (fun k => spec_l13Reduce.l1 k b t rows acc cls (m : Int)) r := by
  have key := downs (P := fun i => Ev (fun k => spec_l13Reduce.l2 k b t rows acc ((List.range i).map (keyOf rows cls)) cls (m : Int) (i : Int)) r) rows.length
    (fun i hi ih => by
      refine Ev.step (fun k => ?_) (red_l3 (b := b) (t := t) (acc := acc) (cls := cls) hn hR hc (m : Int) ((List.range i).map (keyOf rows cls)) (by simp; omega) i hi (hw i hi) (Ev.congr (fun k => ?_) ih))
      · rw [spec_l13Reduce.l2, if_pos (by omega), if_pos (by omega), if_pos (by omega)]
      · rw [List.range_succ, List.map_append]
        rfl)
    (by
      refine Ev.step (f := fun k => (spec_l4Number.f k (keysL rows cls)).bind fun t291 => (spec_l3Same.f k t291 cls).bind fun t294 => if t294 = true then spec_l13Reduce.l1 k b t rows acc t291 ((rows.length + 1 : Nat) : Int) else spec_l13Reduce.l1 k b t rows acc t291 ((m + 1 : Nat) : Int)) (fun k => ?_) (Ev.bind hN (Ev.bind (l3Same_ev d cls (by omega)) ?_))
      · rw [spec_l13Reduce.l2, if_neg (by omega), w64 (by omega) (by omega), w64 (by omega) (by omega)]
        rfl
      · by_cases e : d = cls
        · simp only [decide_eq_true e, if_true]
          rw [if_pos e] at h
          exact h
        · simp only [decide_eq_false e, Bool.false_eq_true, if_false]
          rw [if_neg e] at h
          exact h)
  refine Ev.step (fun k => ?_) (key 0 (by omega))
  rw [spec_l13Reduce.l1, if_pos (by omega)]
  rfl
/-- The rounds of the classes: from classes with more than m values on, on both ways the same end. -/
theorem red_rounds (hn : rows.length ≤ 20000) (hR : inR rows) (hw : ∀ i, i < rows.length → (rows.getD i []).length ≤ 1000000) : ∀ m, m ≤ rows.length → ∀ (α : Type) [Inhabited α] (a : List α) (c : List Int), a.length = rows.length → NumL a c → m + 1 ≤ cntL a →
    ∃ e, Run rows c e ∧ ∀ r : Red, Ev (fun k => spec_l13Reduce.l4 k rows acc e [0] 0 b t [] []) r → Ev (fun k => spec_l13Reduce.l1 k b t rows acc c (m : Int)) r := by
  have key : ∀ d m, m + d = rows.length → ∀ (α : Type) [Inhabited α] (a : List α) (c : List Int), a.length = rows.length → NumL a c → m + 1 ≤ cntL a →
      ∃ e, Run rows c e ∧ ∀ r : Red, Ev (fun k => spec_l13Reduce.l4 k rows acc e [0] 0 b t [] []) r → Ev (fun k => spec_l13Reduce.l1 k b t rows acc c (m : Int)) r := by
    intro d
    induction d with
    | zero =>
      intro m hm α _ a c hl hN hcnt
      have := cntL_le a
      omega
    | succ d ih =>
      intro m hm α _ a c hl hN hcnt
      have hkl : (keysL rows c).length = rows.length := keysL_len rows c
      obtain ⟨d', hd', hN'⟩ := number_ev (keysL rows c) (by omega) (fun x hx => by
        obtain ⟨i, hi, rfl⟩ := List.mem_map.1 hx
        have := hw i (List.mem_range.1 hi)
        simp [keyOf] at this ⊢
        omega)
      have hdl : d'.length = rows.length := by rw [hN'.1, hkl]
      have hcl : c.length = rows.length := by rw [hN.1, hl]
      by_cases e : d' = c
      · refine ⟨c, .stop (e ▸ hN'), fun r hr => ?_⟩
        refine red_l2 hn hR hw hcl m (by omega) hd' hdl ?_
        rw [if_pos e]
        refine Ev.step (fun k => ?_) (by rw [← e] at hr; exact hr)
        rw [spec_l13Reduce.l1, if_neg (by omega)]
      · have hlt : cntL a < cntL (keysL rows c) := by
          have h1 := round_le hN hl
          rcases Nat.lt_or_ge (cntL a) (cntL (keysL rows c)) with g | g
          · exact g
          · exact absurd (round_same hN hN' hl (by omega)) e
        obtain ⟨e', hrun, hk⟩ := ih (m + 1) (by omega) (List Int) (keysL rows c) d' hkl hN' (by omega)
        refine ⟨e', .go hN' e hrun, fun r hr => ?_⟩
        refine red_l2 hn hR hw hcl m (by omega) hd' hdl ?_
        rw [if_neg e]
        exact hk r hr
  intro m hm
  exact key (rows.length - m) m (by omega)
end

/-! Reduce2 -/
theorem idxOf_first {L : List Int} {x : Int} {m : Nat} (hm : m < L.length) (e : L[m] = x) (h : ∀ j (hj : j < m), L[j]'(by omega) ≠ x) : L.idxOf x = m := by
  unfold List.idxOf
  rw [List.findIdx_eq hm]
  refine ⟨by simp [e], fun j hj => by simpa using h j hj⟩
def clO (e : List Int) (q : Int) : Int := e.getD q.toNat 0
structure OkO (n : Nat) (e O : List Int) : Prop where
  inr : ∀ x ∈ O, 0 ≤ x ∧ x < (n : Int)
  nod : (O.map (clO e)).Nodup
theorem OkO.len {n : Nat} {e O : List Int} (H : OkO n e O) (he : ∀ i, i < n → 0 ≤ e.getD i 0 ∧ e.getD i 0 < (n : Int)) : O.length ≤ n := by
  have := nodup_len n (O.map (clO e)) H.nod (fun x hx => by
    obtain ⟨q, hq, rfl⟩ := List.mem_map.1 hx
    have := H.inr q hq
    exact he q.toNat (by omega))
  rwa [List.length_map] at this
noncomputable def accF (e : List Int) (acc : List Bool) (v : Int) : Bool := acc.getD (repOf e v) false
noncomputable def rowF (rows : List (List Int)) (e F : List Int) (v : Int) : List Int := (clM rows e v).map (fun x => ((F.idxOf x : Nat) : Int))
section
variable {b t : Int} {rows : List (List Int)} {acc : List Bool} {e : List Int}
theorem red_search (hn : rows.length ≤ 20000) (he : e.length = rows.length) {O : List Int} (hO : ∀ x ∈ O, 0 ≤ x ∧ x < (rows.length : Int)) (hol : O.length ≤ 20000) (i : Int) {row : List Int} (hrl : row.length ≤ 1000000) (c : Nat) (hc : c ≤ 1000000) {q : Int} (q0 : 0 ≤ q) (q1 : q < (rows.length : Int)) (nx : List (List Int)) (ac : List Bool) {r : Red}
    (hin : clO e q ∈ O.map (clO e) → Ev (fun k => spec_l13Reduce.l5 k rows acc e O i (row ++ [(((O.map (clO e)).idxOf (clO e q) : Nat) : Int)]) ((c + 1 : Nat) : Int) b t nx ac) r)
    (hout : clO e q ∉ O.map (clO e) → Ev (fun k => spec_l13Reduce.l5 k rows acc e (O ++ [q]) i (row ++ [(O.length : Int)]) ((c + 1 : Nat) : Int) b t nx ac) r) :
    Ev (fun k => spec_l13Reduce.l6 k rows acc e O i row (c : Int) q (-1) 0 b t nx ac) r := by
  have key := downs (P := fun m => (∀ j (hj : j < O.length), j < m → clO e O[j] ≠ clO e q) → Ev (fun k => spec_l13Reduce.l6 k rows acc e O i row (c : Int) q (-1) (m : Int) b t nx ac) r) O.length
    (fun m hm ih hne => by
      have hx := hO O[m] (List.getElem_mem hm)
      refine Ev.step (f := fun k => spec_l13Reduce.j7 k rows acc e O i row (c : Int) q (-1) (m : Int) true b t nx ac) (fun k => ?_) ?_
      · rw [spec_l13Reduce.l6, if_pos (by omega), decide_eq_true (show (-1 : Int) < 0 by omega)]
      by_cases hq : clO e O[m] = clO e q
      · have hmem : clO e q ∈ O.map (clO e) := List.mem_map.2 ⟨O[m], List.getElem_mem hm, hq⟩
        have hidx : (O.map (clO e)).idxOf (clO e q) = m := idxOf_first (by simpa using hm) (by simpa using hq) (fun j hj => by simpa using hne j (by omega) hj)
        have h := hin hmem
        rw [hidx] at h
        refine Ev.step (f := fun k => spec_l13Reduce.l6 k rows acc e O i row (c : Int) q (m : Int) ((m + 1 : Nat) : Int) b t nx ac) (fun k => ?_) (Ev.step (f := fun k => spec_l13Reduce.j7 k rows acc e O i row (c : Int) q (m : Int) ((m + 1 : Nat) : Int) false b t nx ac) (fun k => ?_) (Ev.step (fun k => ?_) h))
        · rw [spec_l13Reduce.j7, if_pos rfl, if_pos (by omega), if_pos (by omega), rd_of hm, if_pos (by omega), if_pos (by omega), if_pos (by omega), if_pos (by omega), if_pos (show rd e O[m] = rd e q from hq), w64 (by omega) (by omega)]
          rfl
        · rw [spec_l13Reduce.l6]
          by_cases g : ((m + 1 : Nat) : Int) < (O.length : Int)
          · rw [if_pos g, decide_eq_false (by omega)]
          · rw [if_neg g]
        · rw [spec_l13Reduce.j7, if_neg (by decide), if_neg (by omega), if_pos (by omega), w64 (by omega) (by omega)]
          rfl
      · refine Ev.step (fun k => ?_) (ih (fun j hj hj2 => ?_))
        · rw [spec_l13Reduce.j7, if_pos rfl, if_pos (by omega), if_pos (by omega), rd_of hm, if_pos (by omega), if_pos (by omega), if_pos (by omega), if_pos (by omega), if_neg (show ¬ rd e O[m] = rd e q from hq), w64 (by omega) (by omega)]
          rfl
        · by_cases g : j = m
          · subst g; exact hq
          · exact hne j hj (by omega))
    (fun hne => by
      have hnot : clO e q ∉ O.map (clO e) := fun hmem => by
        obtain ⟨y, hy, ey⟩ := List.mem_map.1 hmem
        obtain ⟨j, hj, rfl⟩ := List.getElem_of_mem hy
        exact hne j hj hj ey
      refine Ev.step (f := fun k => spec_l13Reduce.j7 k rows acc e O i row (c : Int) q (-1) (O.length : Int) false b t nx ac) (fun k => ?_) (Ev.step (fun k => ?_) (hout hnot))
      · rw [spec_l13Reduce.l6, if_neg (by omega)]
      · rw [spec_l13Reduce.j7, if_neg (by decide), if_pos (by omega), if_pos (by omega), if_pos (by omega), w64 (by omega) (by omega)]
        rfl)
  exact key 0 (by omega) (fun j hj h => by omega)
theorem red_row (hn : rows.length ≤ 20000) (hR : inR rows) (he : e.length = rows.length) (hev : ∀ i, i < rows.length → 0 ≤ e.getD i 0 ∧ e.getD i 0 < (rows.length : Int)) (hal : acc.length = rows.length) (hw : ∀ i, i < rows.length → (rows.getD i []).length ≤ 10000)
    (i : Nat) (hi : i ≤ 20000) (q : Nat) (hq : q < rows.length) (nx : List (List Int)) (ac : List Bool) (hnx : nx.length ≤ 20000) (hac : ac.length ≤ 20000) {r : Red} :
    ∀ c, c ≤ (rows.getD q []).length → ∀ O row : List Int, OkO rows.length e O → O[i]? = some (q : Int) → row.length = c →
      (∀ O', OkO rows.length e O' → O'[i]? = some (q : Int) → O'.map (clO e) = addAll (O.map (clO e)) (((rows.getD q []).drop c).map (clO e)) → Ev (fun k => spec_l13Reduce.l4 k rows acc e O' ((i + 1 : Nat) : Int) b t (nx ++ [row ++ (((rows.getD q []).drop c).map (clO e)).map (fun x => (((O'.map (clO e)).idxOf x : Nat) : Int))]) (ac ++ [acc.getD q false])) r) →
      Ev (fun k => spec_l13Reduce.l5 k rows acc e O (i : Int) row (c : Int) b t nx ac) r := by
  have hlenq := hw q hq
  exact downs (P := fun c => ∀ O row : List Int, OkO rows.length e O → O[i]? = some (q : Int) → row.length = c →
      (∀ O', OkO rows.length e O' → O'[i]? = some (q : Int) → O'.map (clO e) = addAll (O.map (clO e)) (((rows.getD q []).drop c).map (clO e)) → Ev (fun k => spec_l13Reduce.l4 k rows acc e O' ((i + 1 : Nat) : Int) b t (nx ++ [row ++ (((rows.getD q []).drop c).map (clO e)).map (fun x => (((O'.map (clO e)).idxOf x : Nat) : Int))]) (ac ++ [acc.getD q false])) r) →
      Ev (fun k => spec_l13Reduce.l5 k rows acc e O (i : Int) row (c : Int) b t nx ac) r) (rows.getD q []).length
    (fun c hc ih O row hO hOi hrow h => by
      obtain ⟨hil, hiv⟩ := List.getElem?_eq_some_iff.1 hOi
      have hol := hO.len hev
      have hto := hR q hq (rows.getD q [])[c] (List.getElem_mem hc)
      have ro : rd O (i : Int) = (q : Int) := (rd_of hil).trans hiv
      refine Ev.step (f := fun k => spec_l13Reduce.l6 k rows acc e O (i : Int) row (c : Int) (rows.getD q [])[c] (-1) 0 b t nx ac) (fun k => ?_) ?_
      · rw [spec_l13Reduce.l5, if_pos (by omega), if_pos (by omega), ro, if_pos (by omega), if_pos (by omega), rowAt' hq, if_pos (by omega), if_pos (by omega), rd_of hc]
      refine red_search hn he hO.inr (by omega) (i : Int) (by omega) c (by omega) hto.1 hto.2 nx ac (fun hmem => ?_) (fun hnot => ?_)
      · refine ih O _ hO hOi (by simp [hrow]) (fun O' hO' hOi' hmap => ?_)
        have e1 : addAll (O.map (clO e)) (((rows.getD q []).drop c).map (clO e)) = addAll (O.map (clO e)) (((rows.getD q []).drop (c + 1)).map (clO e)) := by
          rw [drop_at hc, List.map_cons, addAll_cons, addOne, if_pos hmem]
        have h2 := h O' hO' hOi' (hmap.trans e1.symm)
        rw [drop_at hc, List.map_cons, List.map_cons] at h2
        have e2 : (O'.map (clO e)).idxOf (clO e (rows.getD q [])[c]) = (O.map (clO e)).idxOf (clO e (rows.getD q [])[c]) := by
          rw [hmap]; exact idxOf_pre (addAll_pre _ _) hmem
        rw [e2] at h2
        rw [List.append_assoc]
        exact h2
      · have hO2 : OkO rows.length e (O ++ [(rows.getD q [])[c]]) := ⟨fun x hx => by
            rcases List.mem_append.1 hx with g | g
            · exact hO.inr x g
            · rw [List.mem_singleton] at g; rw [g]; exact hto, by
            have := nodup_addOne hO.nod (clO e (rows.getD q [])[c])
            rw [addOne, if_neg hnot] at this
            simpa using this⟩
        refine ih _ _ hO2 (by rw [List.getElem?_append_left hil]; exact hOi) (by simp [hrow]) (fun O' hO' hOi' hmap => ?_)
        have e1 : addAll (O.map (clO e)) (((rows.getD q []).drop c).map (clO e)) = addAll ((O ++ [(rows.getD q [])[c]]).map (clO e)) (((rows.getD q []).drop (c + 1)).map (clO e)) := by
          rw [drop_at hc, List.map_cons, addAll_cons, addOne, if_neg hnot, List.map_append]
          rfl
        have h2 := h O' hO' hOi' (hmap.trans e1.symm)
        rw [drop_at hc, List.map_cons, List.map_cons] at h2
        have e2 : (O'.map (clO e)).idxOf (clO e (rows.getD q [])[c]) = O.length := by
          have hm2 : clO e (rows.getD q [])[c] ∈ (O ++ [(rows.getD q [])[c]]).map (clO e) := by simp
          rw [hmap, idxOf_pre (addAll_pre _ _) hm2, List.map_append]
          have := idxOf_new hnot
          rw [List.length_map] at this
          exact this
        rw [e2] at h2
        rw [List.append_assoc]
        exact h2)
    (fun O row hO hOi hrow h => by
      obtain ⟨hil, hiv⟩ := List.getElem?_eq_some_iff.1 hOi
      have ro : rd O (i : Int) = (q : Int) := (rd_of hil).trans hiv
      have h2 := h O hO hOi (by rw [List.drop_length]; rfl)
      rw [List.drop_length, List.map_nil, List.map_nil, List.append_nil] at h2
      refine Ev.step (fun k => ?_) h2
      rw [spec_l13Reduce.l5, if_pos (by omega), if_pos (by omega), ro, if_pos (by omega), if_pos (by omega), rowAt' hq, if_neg (by omega), if_pos (by omega), if_pos (by omega), if_pos (by omega), w64 (by omega) (by omega)]
      rfl)
theorem red_bfs (hn : rows.length ≤ 20000) (hR : inR rows) (hS : NumL (keysL rows e) e) (hal : acc.length = rows.length) (hw : ∀ i, i < rows.length → (rows.getD i []).length ≤ 10000)
    (hacc : ∀ i j, i < rows.length → j < rows.length → e.getD i 0 = e.getD j 0 → acc.getD i false = acc.getD j false) {L F : List Int} {i : Nat} (H : Bfs (clM rows e) L i F) :
    ∀ O nx ac, O.map (clO e) = L → OkO rows.length e O → nx.length = i → ac.length = i → Ev (fun k => spec_l13Reduce.l4 k rows acc e O (i : Int) b t nx ac) (b, t, nx ++ (F.drop i).map (rowF rows e F), ac ++ (F.drop i).map (accF e acc)) := by
  have he : e.length = rows.length := by rw [hS.1, keysL_len]
  have hev : ∀ i, i < rows.length → 0 ≤ e.getD i 0 ∧ e.getD i 0 < (rows.length : Int) := fun i hi => by
    have h1 := hS.2.lt (show i < (keysL rows e).length by rw [keysL_len]; exact hi)
    have h2 := cntN_le (fun i => (keysL rows e).getD i default) (keysL rows e).length
    rw [keysL_len] at h1 h2
    omega
  induction H with
  | @done L k hk =>
    intro O nx ac hm hO h1 h2
    have hlO : O.length = L.length := by rw [← hm, List.length_map]
    refine Ev.step (f := fun _ => some _) (fun k => ?_) (Ev.eq (Ev.now _) (show (b, t, nx, ac) = _ from by rw [List.drop_of_length_le hk, List.map_nil, List.map_nil, List.append_nil, List.append_nil]))
    rw [spec_l13Reduce.l4, if_neg (by omega)]
  | @step L F k hk H ih =>
    intro O nx ac hm hO h1 h2
    have hlO : O.length = L.length := by rw [← hm, List.length_map]
    have hol := hO.len hev
    have hq := hO.inr (O[k]'(by omega)) (List.getElem_mem (by omega))
    obtain ⟨q, hq0⟩ : ∃ q : Nat, O[k]'(by omega) = (q : Int) := ⟨(O[k]'(by omega)).toNat, by omega⟩
    have hql : q < rows.length := by omega
    have hLk : L[k] = clO e (q : Int) := by
      have : L[k] = (O.map (clO e))[k]'(by simp; omega) := by simp only [hm]
      rw [this, List.getElem_map, hq0]
    have hM : clM rows e L[k] = (rows.getD q []).map (clO e) := by
      rw [hLk]
      exact clM_of hS hql
    refine Ev.step (fun k' => ?_) (red_row (b := b) (t := t) hn hR he hev hal hw k (by omega) q hql nx ac (by omega) (by omega) 0 (by omega) O [] hO (by rw [List.getElem?_eq_getElem (by omega), hq0]) rfl (fun O' hO' hOi' hmap => ?_))
    · rw [spec_l13Reduce.l4, if_pos (by omega)]
      rfl
    · rw [List.drop_zero] at hmap ⊢
      rw [hm, ← hM] at hmap
      have hpre : O'.map (clO e) <+: F := hmap ▸ H.pre
      have h3 := ih O' (nx ++ [[] ++ ((rows.getD q []).map (clO e)).map (fun x => (((O'.map (clO e)).idxOf x : Nat) : Int))]) (ac ++ [acc.getD q false]) hmap hO' (by simp [h1]) (by simp [h2])
      refine Ev.eq h3 ?_
      have hkF : k < F.length := by
        have := (addAll_pre (clM rows e L[k]) L).trans H.pre
        obtain ⟨hf, _⟩ := pre_get this hk
        exact hf
      have hFk : F[k] = L[k] := (pre_get ((addAll_pre (clM rows e L[k]) L).trans H.pre) hk).2
      rw [drop_at hkF, List.map_cons, List.map_cons, hFk]
      have e1 : ((rows.getD q []).map (clO e)).map (fun x => (((O'.map (clO e)).idxOf x : Nat) : Int)) = rowF rows e F L[k] := by
        unfold rowF
        rw [hM]
        refine List.map_congr_left fun x hx => ?_
        have hx2 : x ∈ O'.map (clO e) := by
          rw [hmap, hM]
          exact mem_addAll.2 (Or.inr hx)
        rw [idxOf_pre hpre hx2]
      have e2 : acc.getD q false = accF e acc L[k] := by
        unfold accF
        obtain ⟨a1, a2⟩ := repOf_spec (e := e) (v := L[k]) ⟨q, by omega, by rw [hLk]; rfl⟩
        refine hacc q _ hql (by omega) ?_
        rw [a2, hLk]
        rfl
      rw [List.nil_append, e1, e2, List.append_assoc, List.append_assoc]
      rfl
end
/-- Rows and marks of any automaton that the reduction is called with. -/
structure RelG (m : Nat) (rows : List (List Int)) (acc : List Bool) : Prop where
  n1 : 1 ≤ rows.length
  nN : rows.length ≤ 20000
  al : acc.length = rows.length
  mm : m ≤ 10000
  len : ∀ i, i < rows.length → (rows.getD i []).length = m
  inR : inR rows
theorem RelW.toG {b t : Nat} {rows : List (List Int)} {acc : List Bool} (H : RelW b t rows acc) : RelG (b ^ t) rows acc := ⟨H.n1, by have := H.n48; omega, H.al, by have := H.pow27; omega, H.rowlen, H.inR⟩
structure Red3 (rows : List (List Int)) (acc : List Bool) (c0 e F : List Int) : Prop where
  numb : NumL (acc.map kb) c0
  run : Run rows c0 e
  bfs : Bfs (clM rows e) [e.getD 0 0] 0 F
  same : ∀ i j, i < rows.length → j < rows.length → e.getD i 0 = e.getD j 0 → acc.getD i false = acc.getD j false
theorem run_range {rows : List (List Int)} {c e : List Int} (H : Run rows c e) {i : Nat} (hi : i < rows.length) : 0 ≤ e.getD i 0 ∧ e.getD i 0 < (rows.length : Int) := by
  have h1 := H.still.2.lt (show i < (keysL rows e).length by rw [keysL_len]; exact hi)
  have h2 := cntN_le (fun i => (keysL rows e).getD i default) (keysL rows e).length
  rw [keysL_len] at h1 h2
  omega
theorem clM_range {rows : List (List Int)} {c e : List Int} (hR : inR rows) (H : Run rows c e) (v : Int) : ∀ x ∈ clM rows e v, 0 ≤ x ∧ x < (rows.length : Int) := by
  intro x hx
  unfold clM at hx
  obtain ⟨y, hy, rfl⟩ := List.mem_map.1 hx
  by_cases hr : repOf e v < rows.length
  · have := hR _ hr y hy
    exact run_range H (by omega)
  · rw [List.getD_eq_getElem?_getD, List.getElem?_eq_none (by omega)] at hy
    simp at hy
theorem reduceG_ev {m : Nat} {rows : List (List Int)} {acc : List Bool} (b t : Int) (H : RelG m rows acc) : ∃ c0 e F, Red3 rows acc c0 e F ∧
    Ev (fun k => spec_l13Reduce.f k b t rows acc) (b, t, F.map (rowF rows e F), F.map (accF e acc)) := by
  have hn := H.nN
  have hal := H.al
  have hR := H.inR
  have hw : ∀ i, i < rows.length → (rows.getD i []).length ≤ 10000 := fun i hi => by
    rw [H.len i hi]
    exact H.mm
  obtain ⟨c0, hc0, hN0⟩ := number_ev (acc.map kb) (by simp; omega) (fun x hx => by
    obtain ⟨y, _, rfl⟩ := List.mem_map.1 hx
    cases y <;> simp [kb])
  have hkl : (acc.map kb).length = rows.length := by rw [List.length_map, hal]
  obtain ⟨e, hrun, hk⟩ := red_rounds (b := b) (t := t) (acc := acc) (by omega) hR (fun i hi => by have := hw i hi; omega) 0 (by omega) (List Int) (acc.map kb) c0 hkl hN0 (cntL_pos (by have := H.n1; omega))
  have hS := hrun.still
  have he : e.length = rows.length := by rw [hS.1, keysL_len]
  have hacc : ∀ i j, i < rows.length → j < rows.length → e.getD i 0 = e.getD j 0 → acc.getD i false = acc.getD j false := fun i j hi hj q => by
    have h1 := hN0.2.inj (by omega) (by omega) (hrun.finer i j hi hj q)
    have g : ∀ i, i < rows.length → (acc.map kb).getD i default = kb (acc.getD i false) := fun i hi => by
      simp [List.getD_eq_getElem?_getD, show i < acc.length by omega]
    rw [g i hi, g j hj] at h1
    exact kb_inj h1
  obtain ⟨F, hF⟩ := Bfs.exist (clM rows e) rows.length (fun v _ x hx => clM_range hR hrun v x hx) [e.getD 0 0] 0 (by simp) (fun x hx => by
    rw [List.mem_singleton] at hx
    rw [hx]
    exact run_range hrun (by have := H.n1; omega))
  refine ⟨c0, e, F, ⟨hN0, hrun, hF, hacc⟩, ?_⟩
  refine red_l0 (by omega) hc0 (hk _ ?_)
  have h0 := red_bfs (b := b) (t := t) (acc := acc) (by omega) hR hS hal hw hacc hF [0] [] [] rfl ⟨fun x hx => by
    rw [List.mem_singleton] at hx
    have := H.n1
    omega, by simp⟩ rfl rfl
  exact Ev.eq h0 (by rw [List.drop_zero]; rfl)
/-! Reached -/
/-- The list of what has been seen. -/
structure SeenOk (n : Nat) (S : List Bool) (L : List Int) : Prop where
  len : S.length = n
  inr : ∀ x ∈ L, 0 ≤ x ∧ x < (n : Int)
  nod : L.Nodup
  iff : ∀ i, i < n → (S.getD i false = true ↔ (i : Int) ∈ L)
theorem SeenOk.le {n : Nat} {S : List Bool} {L : List Int} (H : SeenOk n S L) : L.length ≤ n := nodup_len n L H.nod H.inr
theorem SeenOk.add {n : Nat} {S : List Bool} {L : List Int} (H : SeenOk n S L) (q : Nat) (hq : q < n) (h : (q : Int) ∉ L) : SeenOk n (S.set q true) (L ++ [(q : Int)]) := by
  refine ⟨by simp [H.len], fun x hx => ?_, ?_, fun i hi => ?_⟩
  · rcases List.mem_append.1 hx with g | g
    · exact H.inr x g
    · rw [List.mem_singleton] at g; omega
  · have := nodup_addOne H.nod (q : Int)
    rwa [addOne, if_neg h] at this
  · have hl := H.len
    by_cases g : i = q
    · subst g
      simp [List.getD_eq_getElem?_getD, show i < S.length by omega]
    · have e : (S.set q true).getD i false = S.getD i false := by
        simp [List.getD_eq_getElem?_getD, List.getElem?_set, show ¬ q = i from fun h => g h.symm]
      rw [e, H.iff i hi]
      simp
      omega
theorem reached_l1 {rows : List (List Int)} (hn : rows.length ≤ 20000) (hR : inR rows) (hw : ∀ i, i < rows.length → (rows.getD i []).length ≤ 10000) (i : Nat) (hi : i ≤ 20000) (q : Nat) (hq : q < rows.length) {r : List Int} :
    ∀ c, c ≤ (rows.getD q []).length → ∀ S L, SeenOk rows.length S L →
      (∀ S' L', SeenOk rows.length S' L' → L' = addAll L ((rows.getD q []).drop c) → Ev (fun k => impl_reached.l0 k rows S' L' ((i + 1 : Nat) : Int)) r) →
      Ev (fun k => impl_reached.l1 k rows S L (i : Int) (rows.getD q []) ((rows.getD q []).length : Int) (c : Int)) r := by
  have hlq := hw q hq
  exact downs (P := fun c => ∀ S L, SeenOk rows.length S L →
      (∀ S' L', SeenOk rows.length S' L' → L' = addAll L ((rows.getD q []).drop c) → Ev (fun k => impl_reached.l0 k rows S' L' ((i + 1 : Nat) : Int)) r) →
      Ev (fun k => impl_reached.l1 k rows S L (i : Int) (rows.getD q []) ((rows.getD q []).length : Int) (c : Int)) r) (rows.getD q []).length
    (fun c hc ih S L hS h => by
      have hx := hR q hq (rows.getD q [])[c] (List.getElem_mem hc)
      obtain ⟨x, hx0⟩ : ∃ x : Nat, (rows.getD q [])[c] = (x : Int) := ⟨((rows.getD q [])[c]).toNat, by omega⟩
      have hxl : x < rows.length := by omega
      have hSl := hS.len
      have hLl := hS.le
      have er : rd (rows.getD q []) (c : Int) = (x : Int) := (rd_of hc).trans hx0
      have eg : rdOf false S (x : Int) = S.getD x false := rfl
      by_cases g : S.getD x false = true
      · refine Ev.step (fun k => ?_) (ih S L hS (fun S' L' hS' e => h S' L' hS' ?_))
        · rw [impl_reached.l1, if_pos (by omega), if_pos (by omega), if_pos (by omega), er, if_pos (by omega), if_pos (by omega), eg, if_pos g, w64 (by omega) (by omega)]
          rfl
        · rw [e, drop_at hc, addAll_cons, hx0, addOne, if_pos ((hS.iff x hxl).1 g)]
      · have hnm : (x : Int) ∉ L := fun hm => g ((hS.iff x hxl).2 hm)
        refine Ev.step (fun k => ?_) (ih (S.set x true) (L ++ [(x : Int)]) (hS.add x hxl hnm) (fun S' L' hS' e => h S' L' hS' ?_))
        · rw [impl_reached.l1, if_pos (by omega), if_pos (by omega), if_pos (by omega), er, if_pos (by omega), if_pos (by omega), eg, if_neg g, if_pos (by omega), w64 (by omega) (by omega), Int.toNat_natCast]
          rfl
        · rw [e, drop_at hc, addAll_cons, hx0, addOne, if_neg hnm])
    (fun S L hS h => by
      refine Ev.step (fun k => ?_) (h S L hS (by rw [List.drop_length, addAll_nil]))
      rw [impl_reached.l1, if_neg (by omega), w64 (by omega) (by omega)]
      rfl)
theorem reached_bfs {rows : List (List Int)} (hn : rows.length ≤ 20000) (hR : inR rows) (hw : ∀ i, i < rows.length → (rows.getD i []).length ≤ 10000) {L G : List Int} {i : Nat} (H : Bfs (fun v => rows.getD v.toNat []) L i G) :
    ∀ S, SeenOk rows.length S L → Ev (fun k => impl_reached.l0 k rows S L (i : Int)) G := by
  induction H with
  | @done L k hk =>
    intro S hS
    refine Ev.step (f := fun _ => some L) (fun k => ?_) (Ev.now _)
    rw [impl_reached.l0, if_neg (by omega)]
  | @step L F k hk H ih =>
    intro S hS
    have hLl := hS.le
    have hq := hS.inr L[k] (List.getElem_mem hk)
    obtain ⟨q, hq0⟩ : ∃ q : Nat, L[k] = (q : Int) := ⟨(L[k]).toNat, by omega⟩
    have hql : q < rows.length := by omega
    refine Ev.step (fun k' => ?_) (reached_l1 (r := F) hn hR hw k (by omega) q hql 0 (by omega) S L hS (fun S' L' hS' e => ?_))
    · rw [impl_reached.l0, if_pos (by omega), if_pos (by omega), rd_of hk, hq0, if_pos (by omega), if_pos (by omega)]
      rfl
    · rw [List.drop_zero] at e
      subst e
      rw [hq0] at ih
      exact ih S' hS'
theorem reached_ev {rows : List (List Int)} (h1 : 1 ≤ rows.length) (hn : rows.length ≤ 20000) (hR : inR rows) (hw : ∀ i, i < rows.length → (rows.getD i []).length ≤ 10000) : ∃ G, Bfs (fun v => rows.getD v.toNat []) [0] 0 G ∧ Ev (fun k => impl_reached.f k rows) G := by
  obtain ⟨G, hG⟩ := Bfs.exist (fun v => rows.getD v.toNat []) rows.length (fun v hv x hx => hR v.toNat (by omega) x hx) [0] 0 (by simp) (fun x hx => by
    rw [List.mem_singleton] at hx; omega)
  refine ⟨G, hG, ?_⟩
  have h := reached_bfs hn hR hw hG ((List.replicate rows.length false).set 0 true) ⟨by simp, fun x hx => by
    rw [List.mem_singleton] at hx; omega, by simp, fun i hi => by
    by_cases g : i = 0
    · subst g
      rw [List.getD_eq_getElem?_getD, List.getElem?_set_self (by simpa using hi)]
      simp
    · simp [List.getD_eq_getElem?_getD, List.getElem?_set, show ¬ 0 = i from fun h => g h.symm, List.getElem?_replicate]
      refine ⟨?_, fun h => by omega⟩
      split <;> simp⟩
  refine Ev.congr (fun k => ?_) h
  unfold impl_reached.f
  rw [if_pos (by omega), if_pos (by omega), Option.bind_some, if_pos (by simp; omega)]
  rfl

/-! Numbered -/
/-- The numbering by a map of texts is the numbering by first places. -/
theorem numAll_inv (keys : List (List Int)) : ∀ i, i ≤ keys.length → (numAll (keys.take i)).2.length = i ∧ IsNumb (fun j => keys.getD j default) i (fun j => (numAll (keys.take i)).2.getD j 0) ∧ (numAll (keys.take i)).1.length = cntN (fun j => keys.getD j default) i ∧
    (∀ j, j < i → keys.getD j default ∈ (numAll (keys.take i)).1 ∧ (numAll (keys.take i)).2.getD j 0 = (((numAll (keys.take i)).1.idxOf (keys.getD j default) : Nat) : Int)) ∧ ∀ x ∈ (numAll (keys.take i)).1, ∃ j, j < i ∧ keys.getD j default = x := by
  intro i
  induction i with
  | zero =>
    intro _
    refine ⟨by simp [numAll], ⟨fun j hj => absurd hj (by omega), fun j l hj => absurd hj (by omega)⟩, by simp [numAll, cntN], fun j hj => absurd hj (by omega), fun x hx => by simp [numAll] at hx⟩
  | succ i ih =>
    intro hi
    obtain ⟨h1, h2, h3, h4, h5⟩ := ih (by omega)
    have hk : keys.getD i default = keys[i]'(by omega) := keyAt (by omega)
    rw [numAll_succ keys i (by omega)]
    obtain ⟨s, hs⟩ : ∃ s, s = numAll (keys.take i) := ⟨_, rfl⟩
    rw [← hs] at h1 h2 h3 h4 h5 ⊢
    rw [← hk]
    subst h1
    by_cases hm : keys.getD s.2.length default ∈ s.1
    · obtain ⟨j, hj, e⟩ := h5 _ hm
      have hn : ¬ newAt (fun j => keys.getD j default) s.2.length := fun q => q j hj e
      have hK : numK s.1 (keys.getD s.2.length default) = s.1 := if_pos hm
      have hv : ((s.1.idxOf (keys.getD s.2.length default) : Nat) : Int) = s.2.getD j 0 := by rw [(h4 j hj).2, e]
      refine ⟨by simp [numStep], ?_, ?_, fun l hl => ?_, fun x hx => ?_⟩
      · have := numb_old h2 hj e
        simp only [numStep, hK, hv]
        exact this
      · simp only [numStep, hK]
        rw [h3, cntN_succ_old hn]
      · simp only [numStep, hK]
        by_cases q : l < s.2.length
        · rw [getD_snoc_lt q]
          exact h4 l q
        · obtain rfl : l = s.2.length := by omega
          exact ⟨hm, getD_snoc_eq _ _⟩
      · simp only [numStep, hK] at hx
        obtain ⟨l, hl, e2⟩ := h5 x hx
        exact ⟨l, by omega, e2⟩
    · have hn : newAt (fun j => keys.getD j default) s.2.length := fun l hl e => hm (by
        have := (h4 l hl).1
        have e' : keys.getD l default = keys.getD s.2.length default := e
        rwa [e'] at this)
      have hK : numK s.1 (keys.getD s.2.length default) = s.1 ++ [keys.getD s.2.length default] := if_neg hm
      have hv : (s.1 ++ [keys.getD s.2.length default]).idxOf (keys.getD s.2.length default) = cntN (fun j => keys.getD j default) s.2.length := by
        rw [List.idxOf_append, if_neg hm, ← h3]
        simp
      refine ⟨by simp [numStep], ?_, ?_, fun l hl => ?_, fun x hx => ?_⟩
      · have := numb_new h2 hn
        simp only [numStep, hK, hv]
        exact this
      · simp only [numStep, hK]
        rw [List.length_append, h3, cntN_succ_new hn]
        rfl
      · simp only [numStep, hK]
        by_cases q : l < s.2.length
        · rw [getD_snoc_lt q]
          obtain ⟨a, b⟩ := h4 l q
          refine ⟨List.mem_append.2 (Or.inl a), ?_⟩
          rw [List.idxOf_append, if_pos a]
          exact b
        · obtain rfl : l = s.2.length := by omega
          refine ⟨by simp, ?_⟩
          exact getD_snoc_eq _ _
      · simp only [numStep, hK] at hx
        rcases List.mem_append.1 hx with g | g
        · obtain ⟨l, hl, e2⟩ := h5 x g
          exact ⟨l, by omega, e2⟩
        · rw [List.mem_singleton] at g
          exact ⟨s.2.length, by omega, g.symm⟩
theorem numAll_NumL (keys : List (List Int)) : NumL keys (numAll keys).2 ∧ (numAll keys).1.length = cntL keys := by
  obtain ⟨h1, h2, h3, _, _⟩ := numAll_inv keys keys.length (Nat.le_refl _)
  rw [List.take_length] at h1 h2 h3
  exact ⟨⟨h1, h2⟩, h3⟩
theorem numbered_ev (k : Nat) {keys : List (List Int)} {c : List Int} (hl : keys.length ≤ 1000000) (hk : ∀ x ∈ keys, okKey x = true) (H : NumL keys c) : impl_numbered.f k keys = some (c, ((cntL keys : Nat) : Int)) := by
  obtain ⟨h1, h2⟩ := numAll_NumL keys
  have e : (numAll keys).2 = c := NumL.uniq h1 H rfl (fun i j _ _ => Iff.rfl)
  unfold impl_numbered.f
  rw [if_pos ⟨hl, List.all_eq_true.2 hk⟩, e, h2]

/-! Minimal -/
theorem Bfs.uniq {M : Int → List Int} {L F G : List Int} {k : Nat} (H : Bfs M L k F) (K : Bfs M L k G) : F = G := by
  induction H with
  | done h =>
    cases K with
    | done _ => rfl
    | step h2 _ => omega
  | step h _ ih =>
    cases K with
    | done h2 => omega
    | step h2 K => exact ih K
theorem Bfs.congr {M M' : Int → List Int} {L F : List Int} {k : Nat} (H : Bfs M L k F) : (∀ v ∈ F, M v = M' v) → Bfs M' L k F := by
  induction H with
  | done h => exact fun _ => .done h
  | @step L F k h H ih =>
    intro hM
    have hp := (addAll_pre (M L[k]) L).trans H.pre
    have e := hM L[k] (hp.subset (List.getElem_mem h))
    refine .step h ?_
    rw [← e]
    exact ih hM
theorem sub_len : ∀ {A B : List Int}, A.Nodup → (∀ x ∈ A, x ∈ B) → A.length ≤ B.length
  | [], _, _, _ => by simp
  | a :: A, B, hn, hs => by
    have hn2 := List.nodup_cons.1 hn
    have ha := hs a (by simp)
    have ih := sub_len (A := A) (B := B.erase a) hn2.2 (fun x hx => by
      have hx2 := hs x (by simp [hx])
      have ne : x ≠ a := fun e => hn2.1 (e ▸ hx)
      exact (List.mem_erase_of_ne ne).2 hx2)
    rw [List.length_erase_of_mem ha] at ih
    have := List.length_pos_of_mem ha
    rw [List.length_cons]
    omega
def ddl : List Int → List Int
  | [] => []
  | x :: l => if x ∈ l then ddl l else x :: ddl l
theorem ddl_mem : ∀ {l : List Int} {x : Int}, x ∈ ddl l ↔ x ∈ l
  | [], x => by simp [ddl]
  | y :: l, x => by
    rw [ddl]
    split
    · rename_i h
      rw [ddl_mem, List.mem_cons]
      exact ⟨Or.inr, fun g => g.elim (fun e => e ▸ h) id⟩
    · rw [List.mem_cons, ddl_mem, List.mem_cons]
theorem ddl_nodup : ∀ l : List Int, (ddl l).Nodup
  | [] => by simp [ddl]
  | y :: l => by
    rw [ddl]
    split
    · exact ddl_nodup l
    · rename_i h
      exact List.nodup_cons.2 ⟨fun g => h (ddl_mem.1 g), ddl_nodup l⟩
theorem ddl_len : ∀ l : List Int, (ddl l).length = dcount l
  | [] => rfl
  | y :: l => by
    rw [ddl, dcount]
    split
    · exact ddl_len l
    · rw [List.length_cons, ddl_len l]
theorem dcount_eq {l : List Int} {m : Nat} (h1 : ∀ x ∈ l, 0 ≤ x ∧ x < (m : Int)) (h2 : ∀ v, v < m → (v : Int) ∈ l) : dcount l = m := by
  have a := nodup_len m (ddl l) (ddl_nodup l) (fun x hx => h1 x (ddl_mem.1 hx))
  have b := sub_len (A := (List.range m).map (fun (v : Nat) => (v : Int))) (B := ddl l) (List.Pairwise.map _ (fun (x y : Nat) h (e : (x : Int) = (y : Int)) => h (by omega)) List.nodup_range) (fun x hx => by
    obtain ⟨v, hv, rfl⟩ := List.mem_map.1 hx
    exact ddl_mem.2 (h2 v (List.mem_range.1 hv)))
  rw [ddl_len] at a b
  rw [List.length_map, List.length_range] at b
  omega
/-- Classes that stand still are numbered from 0 on without a gap. -/
theorem numL_range {α : Type} [Inhabited α] {a : List α} {e : List Int} (H : NumL a e) : (∀ x ∈ e, 0 ≤ x ∧ x < ((cntL a : Nat) : Int)) ∧ (∀ v, v < cntL a → (v : Int) ∈ e) ∧ dcount e = cntL a := by
  have h1 : ∀ x ∈ e, 0 ≤ x ∧ x < ((cntL a : Nat) : Int) := fun x hx => by
    obtain ⟨i, hi, rfl⟩ := List.getElem_of_mem hx
    have := H.2.lt (show i < a.length by rw [← H.1]; exact hi)
    rw [getAt hi] at this
    exact this
  have h2 : ∀ v, v < cntL a → (v : Int) ∈ e := fun v hv => by
    obtain ⟨i, hi, hn, ev⟩ := cntN_onto _ _ v hv
    have q := H.2.first i hi hn
    have hie : i < e.length := by rw [H.1]; exact hi
    rw [getAt hie] at q
    rw [← ev, ← q]
    exact List.getElem_mem hie
  exact ⟨h1, h2, dcount_eq h1 h2⟩
theorem keyOf_ok {rows : List (List Int)} (hn : rows.length ≤ 20000) (hR : inR rows) (hw : ∀ i, i < rows.length → (rows.getD i []).length ≤ 10000) {α : Type} [Inhabited α] {a : List α} {c : List Int} (hl : a.length = rows.length) (H : NumL a c) : ∀ x ∈ keysL rows c, okKey x = true := by
  intro x hx
  obtain ⟨i, hi, rfl⟩ := List.mem_map.1 hx
  have hi2 := List.mem_range.1 hi
  have hw2 := hw i hi2
  have hcl := cntL_le a
  have hr : ∀ j, j < rows.length → 0 ≤ c.getD j 0 ∧ c.getD j 0 < 65536 := fun j hj => by
    have h1 := H.2.lt (show j < a.length by omega)
    have h2 := cntN_le (fun i => a.getD i default) a.length
    omega
  unfold okKey keyOf
  simp only [List.length_cons, List.length_map, List.all_cons, List.all_map, Bool.and_eq_true, decide_eq_true_eq, List.all_eq_true]
  refine ⟨⟨by omega, by omega⟩, hr i hi2, fun y hy => ?_⟩
  have := hR i hi2 y hy
  simpa using hr y.toNat (by omega)
section
variable {rows : List (List Int)}
theorem cls_l3 (hR : inR rows) {c : List Int} (hc : c.length = rows.length) (m : Int) (x5 : List (List Int)) (h5 : x5.length ≤ 20000) (i : Nat) (hi : i < rows.length) (hlen : (rows.getD i []).length ≤ 1000000) {r : List Int}
    (h : Ev (fun k => impl_classes.l2 k rows (x5 ++ [keyOf rows c i]) c m rows (rows.length : Int) ((i + 1 : Nat) : Int)) r) (hn : rows.length ≤ 20000) :
    Ev (fun k => impl_classes.l3 k rows x5 c m [rd c (i : Int)] rows (rows.length : Int) (i : Int) (rows.getD i []) ((rows.getD i []).length : Int) 0) r := by
  have key := downs (P := fun j => Ev (fun k => impl_classes.l3 k rows x5 c m (c.getD i 0 :: (((rows.getD i []).take j).map (fun qq => c.getD qq.toNat 0))) rows (rows.length : Int) (i : Int) (rows.getD i []) ((rows.getD i []).length : Int) (j : Int)) r) (rows.getD i []).length
    (fun j hj ih => by
      refine Ev.step (fun k => ?_) ih
      have hx := hR i hi (rows.getD i [])[j] (List.getElem_mem hj)
      have e1 : rd (rows.getD i []) (j : Int) = (rows.getD i [])[j] := rd_of hj
      rw [impl_classes.l3, if_pos (by omega), if_pos (by omega), if_pos (by omega), e1, if_pos (by omega), if_pos (by omega), if_pos (by simp; omega), w64 (by omega) (by omega)]
      rw [List.take_succ_eq_append_getElem hj, List.map_append]
      rfl)
    (by
      refine Ev.step (fun k => ?_) h
      rw [impl_classes.l3, if_neg (by omega), if_pos (by omega), w64 (by omega) (by omega), List.take_length]
      rfl)
  exact key 0 (by omega)
theorem cls_l1 (hn : rows.length ≤ 20000) (hR : inR rows) (hw : ∀ i, i < rows.length → (rows.getD i []).length ≤ 10000) {c d : List Int} (hc : c.length = rows.length) (m : Int) (x5 : List (List Int)) (hok : ∀ x ∈ keysL rows c, okKey x = true) (hN : NumL (keysL rows c) d) {r : List Int}
    (heq : ((cntL (keysL rows c) : Nat) : Int) = m → d = r) (hne : ((cntL (keysL rows c) : Nat) : Int) ≠ m → Ev (fun k => impl_classes.l1 k rows (keysL rows c) d ((cntL (keysL rows c) : Nat) : Int)) r) : Ev (fun k => impl_classes.l1 k rows x5 c m) r := by
  have key := downs (P := fun i => Ev (fun k => impl_classes.l2 k rows ((List.range i).map (keyOf rows c)) c m rows (rows.length : Int) (i : Int)) r) rows.length
    (fun i hi ih => by
      refine Ev.step (fun k => ?_) (cls_l3 hR hc m ((List.range i).map (keyOf rows c)) (by simp; omega) i hi (by have := hw i hi; omega) (Ev.congr (fun k => ?_) ih) hn)
      · rw [impl_classes.l2, if_pos (by omega), if_pos (by omega), if_pos (by omega), if_pos (by omega)]
        rfl
      · rw [List.range_succ, List.map_append]
        rfl)
    (by
      refine Ev.step (f := fun k => (impl_numbered.f k (keysL rows c)).bind fun bt => (if bt.2 = m then (some bt.1) else (impl_classes.l1 k rows (keysL rows c) bt.1 bt.2))) (fun k => ?_) ?_
      · rw [impl_classes.l2, if_neg (by omega)]
        rfl
      · refine Ev.bind (Ev.congr (fun k => numbered_ev k (by rw [keysL_len]; omega) hok hN) (Ev.now _)) ?_
        by_cases q : ((cntL (keysL rows c) : Nat) : Int) = m
        · simp only [if_pos q, heq q]
          exact Ev.now _
        · simp only [if_neg q]
          exact hne q)
  refine Ev.step (fun k => ?_) (key 0 (by omega))
  rw [impl_classes.l1, if_pos (by omega)]
  rfl
theorem cls_run (hn : rows.length ≤ 20000) (hR : inR rows) (hw : ∀ i, i < rows.length → (rows.getD i []).length ≤ 10000) {c e : List Int} (H : Run rows c e) : ∀ (α : Type) [Inhabited α] (a : List α), a.length = rows.length → NumL a c → ∀ x5, Ev (fun k => impl_classes.l1 k rows x5 c ((cntL a : Nat) : Int)) e := by
  induction H with
  | @stop c h =>
    intro α _ a hl hN x5
    have hc : c.length = rows.length := by rw [hN.1, hl]
    refine cls_l1 hn hR hw hc _ x5 (keyOf_ok hn hR hw hl hN) h (fun _ => rfl) (fun q => absurd ?_ q)
    rw [cnt_of h, cnt_of hN]
  | @go c d e h hd _ ih =>
    intro α _ a hl hN x5
    have hc : c.length = rows.length := by rw [hN.1, hl]
    refine cls_l1 hn hR hw hc _ x5 (keyOf_ok hn hR hw hl hN) h (fun q => absurd (round_same hN h hl (by omega)) hd) (fun _ => ih _ _ (keysL_len rows c) h _)
theorem classes_ev (hn : rows.length ≤ 20000) (hR : inR rows) (hw : ∀ i, i < rows.length → (rows.getD i []).length ≤ 10000) {out : List Int} (hol : out.length = rows.length) (hou : ∀ x ∈ out, 0 ≤ x ∧ x < 65536) {c e : List Int} (hN : NumL (out.map fun x => [x]) c) (H : Run rows c e) : Ev (fun k => impl_classes.f k rows out) e := by
  have key := downs (P := fun i => Ev (fun k => impl_classes.l0 k rows ((out.take i).map fun x => [x]) out (out.length : Int) (i : Int)) e) out.length
    (fun i hi ih => by
      refine Ev.step (fun k => ?_) ih
      have hlen : ((out.take i).map fun x => [x]).length < 5864062014805 := by simp; omega
      rw [impl_classes.l0, if_pos (by omega), if_pos (by omega), if_pos (by omega), if_pos hlen, rd_of hi, List.take_succ_eq_append_getElem hi, List.map_append, w64 (by omega) (by omega)]
      rfl)
    (by
      refine Ev.step (f := fun k => (impl_numbered.f k (out.map fun x => [x])).bind fun bt => (impl_classes.l1 k rows (out.map fun x => [x]) bt.1 bt.2)) (fun k => ?_) ?_
      · rw [impl_classes.l0, if_neg (by omega), List.take_length]
      · refine Ev.bind (Ev.congr (fun k => numbered_ev k (by rw [List.length_map]; omega) (fun x hx => ?_) hN) (Ev.now _)) ?_
        · obtain ⟨y, hy, rfl⟩ := List.mem_map.1 hx
          have := hou y hy
          simp [okKey, this.1, this.2]
        · exact cls_run hn hR hw H _ _ (by rw [List.length_map, hol]) hN _)
  exact key 0 (by omega)
end
theorem nodup_ne {l : List Int} (hn : l.Nodup) {i j : Nat} (hi : i < l.length) (hj : j < l.length) (h : i ≠ j) : l[i] ≠ l[j] := by
  rcases Nat.lt_or_ge i j with g | g
  · exact List.pairwise_iff_getElem.1 hn i j hi hj g
  · exact (List.pairwise_iff_getElem.1 hn j i hj hi (by omega)).symm
theorem namesTo_get {od : List Int} {m : Nat} (hn : od.Nodup) (hr : ∀ x ∈ od, 0 ≤ x ∧ x < (m : Int)) : ∀ k, k ≤ od.length → ∀ j (hj : j < k) (hj2 : j < od.length), (namesTo od m k).getD (od[j]).toNat 0 = (j : Int)
  | 0, _, j, hj, _ => absurd hj (by omega)
  | k + 1, hk, j, hj, hj2 => by
    rw [← namesTo_succ od m k (by omega)]
    have h1 := hr od[j] (List.getElem_mem hj2)
    have h2 := hr (od[k]'(by omega)) (List.getElem_mem _)
    by_cases e : j = k
    · subst e
      rw [List.getD_eq_getElem?_getD, List.getElem?_set_self (by rw [namesTo_len]; omega)]
      rfl
    · have hd : od[k]'(by omega) ≠ od[j] := fun q => nodup_ne hn hj2 (by omega) e q.symm
      rw [List.getD_eq_getElem?_getD, List.getElem?_set_ne (by omega), ← List.getD_eq_getElem?_getD]
      exact namesTo_get hn hr k (by omega) j (by omega) hj2
theorem namesTo_idx {od : List Int} {m : Nat} (hn : od.Nodup) (hr : ∀ x ∈ od, 0 ≤ x ∧ x < (m : Int)) {v : Int} (hv : v ∈ od) : (namesTo od m od.length).getD v.toNat 0 = ((od.idxOf v : Nat) : Int) := by
  have hi := List.idxOf_lt_length_iff.2 hv
  have e := List.getElem_idxOf hi
  have h := namesTo_get hn hr od.length (Nat.le_refl _) (od.idxOf v) hi hi
  rwa [e] at h
theorem fstAt_spec {e : List Int} {v : Int} (hv : v ∈ e) (h0 : 0 ≤ v) : fstAt e v.toNat < e.length ∧ e.getD (fstAt e v.toNat) 0 = v := by
  have ev : ((v.toNat : Nat) : Int) = v := by omega
  unfold fstAt
  rw [ev, if_pos hv]
  have hi := List.idxOf_lt_length_iff.2 hv
  refine ⟨hi, ?_⟩
  rw [getAt hi]
  exact List.getElem_idxOf hi
theorem minimal_ev {m : Nat} {rows : List (List Int)} (n1 : 1 ≤ rows.length) (hn : rows.length ≤ 20000) (hm : m ≤ 10000) (hlen : ∀ i, i < rows.length → (rows.getD i []).length = m) (hR : inR rows) {out : List Int} (hol : out.length = rows.length) (hou : ∀ x ∈ out, 0 ≤ x ∧ x < 65536) {c e F : List Int} (hN : NumL (out.map fun x => [x]) c) (H : Run rows c e) (hF : Bfs (clM rows e) [e.getD 0 0] 0 F)
    (hsame : ∀ i j, i < rows.length → j < rows.length → e.getD i 0 = e.getD j 0 → out.getD i 0 = out.getD j 0) : Ev (fun k => impl_minimal.f k rows out) (F.map (rowF rows e F), F.map (fun v => out.getD (repOf e v) 0)) := by
  have hw : ∀ i, i < rows.length → (rows.getD i []).length ≤ 10000 := fun i hi => by rw [hlen i hi]; exact hm
  have hS := H.still
  have he : e.length = rows.length := by rw [hS.1, keysL_len]
  obtain ⟨r1, r2, r3⟩ := numL_range hS
  have hcl := cntL_le (keysL rows e)
  rw [keysL_len] at hcl
  obtain ⟨M, hM⟩ : ∃ M, M = cntL (keysL rows e) := ⟨_, rfl⟩
  rw [← hM] at r1 r2 r3 hcl
  have hpos : 1 ≤ M := by rw [hM]; exact cntL_pos (by rw [keysL_len]; omega)
  have hmem : ∀ i, i < rows.length → e.getD i 0 ∈ e := fun i hi => by rw [getAt (by omega)]; exact List.getElem_mem _
  have e00 : e.getD 0 0 = 0 := hS.2.zero (by rw [keysL_len]; omega)
  have hmg : ∀ v ∈ e, (mgOf rows e).getD v.toNat [] = clM rows e v := fun v hv => by
    have hv2 := r1 v hv
    obtain ⟨f1, f2⟩ := fstAt_spec hv hv2.1
    have q := clM_of hS (i := fstAt e v.toNat) (by omega)
    rw [f2] at q
    rw [q]
    unfold mgOf
    rw [List.getD_eq_getElem?_getD, List.getElem?_map, List.getElem?_range (by omega)]
    rfl
  have hcr : ∀ v ∈ e, ∀ x ∈ clM rows e v, x ∈ e := fun v hv x hx => by
    have hv2 := r1 v hv
    obtain ⟨f1, f2⟩ := fstAt_spec hv hv2.1
    have q := clM_of hS (i := fstAt e v.toNat) (by omega)
    rw [f2] at q
    rw [q] at hx
    obtain ⟨y, hy, rfl⟩ := List.mem_map.1 hx
    have := hR _ (by omega) y hy
    exact hmem _ (by omega)
  have hFe : ∀ v ∈ F, v ∈ e := Bfs.in (P := fun v => v ∈ e) hcr hF (fun x hx => by
    rw [List.mem_singleton] at hx
    rw [hx]
    exact hmem 0 (by omega))
  have hFn : F.Nodup := hF.nodup (by simp)
  have hFr : ∀ v ∈ F, 0 ≤ v ∧ v < (M : Int) := fun v hv => r1 v (hFe v hv)
  have hFl := nodup_len M F hFn hFr
  have hB : Bfs (fun v => (mgOf rows e).getD v.toNat []) [0] 0 F := by
    have := hF.congr (M' := fun v => (mgOf rows e).getD v.toNat []) (fun v hv => (hmg v (hFe v hv)).symm)
    rwa [e00] at this
  have hml : (mgOf rows e).length = M := by simp [mgOf, r3]
  have hmget : ∀ i, i < M → (mgOf rows e).getD i [] = clM rows e (i : Int) := fun i hi => by
    have := hmg (i : Int) (r2 i hi)
    rwa [Int.toNat_natCast] at this
  have hmR : inR (mgOf rows e) := fun i hi x hx => by
    rw [hml] at hi ⊢
    rw [hmget i hi] at hx
    exact r1 x (hcr _ (r2 i hi) x hx)
  have hclen : ∀ v ∈ e, (clM rows e v).length = m := fun v hv => by
    have hv2 := r1 v hv
    obtain ⟨f1, f2⟩ := fstAt_spec hv hv2.1
    have q := clM_of hS (i := fstAt e v.toNat) (by omega)
    rw [f2] at q
    rw [q, List.length_map, hlen _ (by omega)]
  have hmw : ∀ i, i < (mgOf rows e).length → ((mgOf rows e).getD i []).length ≤ 10000 := fun i hi => by
    rw [hml] at hi
    rw [hmget i hi, hclen _ (r2 i hi)]
    exact hm
  obtain ⟨G, hG, hE⟩ := reached_ev (rows := mgOf rows e) (by omega) (by omega) hmR hmw
  obtain rfl : F = G := hB.uniq hG
  unfold impl_minimal.f
  refine Ev.bind (classes_ev hn hR hw hol hou hN H) ?_
  have hrow : rowsIn rows.length rows = true := by
    unfold rowsIn
    refine List.all_eq_true.2 fun x hx => ?_
    obtain ⟨i, hi, rfl⟩ := List.getElem_of_mem hx
    have h1 := hw i hi
    have h2 := hR i hi
    rw [rowAt hi] at h1 h2
    simp only [Bool.and_eq_true, decide_eq_true_eq, List.all_eq_true]
    exact ⟨by omega, h2⟩
  have hrow2 : rowsIn (dcount e) (mgOf rows e) = true := by
    unfold rowsIn
    refine List.all_eq_true.2 fun x hx => ?_
    obtain ⟨i, hi, rfl⟩ := List.getElem_of_mem hx
    have h1 := hmw i hi
    have h2 := hmR i hi
    rw [rowAt hi] at h1 h2
    rw [hml] at h2
    simp only [Bool.and_eq_true, decide_eq_true_eq, List.all_eq_true]
    rw [r3]
    exact ⟨by omega, h2⟩
  have hall : e.all (fun x => decide (0 ≤ x ∧ x < 1000000)) = true := by
    refine List.all_eq_true.2 fun x hx => decide_eq_true ?_
    have := r1 x hx
    omega
  simp only [if_pos (show rows.length ≤ 1000000 ∧ e.length = rows.length ∧ out.length = rows.length ∧ rowsIn rows.length rows = true ∧ (e.all fun x => decide (0 ≤ x ∧ x < 1000000)) = true from ⟨by omega, he, hol, hrow, hall⟩)]
  refine Ev.bind hE ?_
  have hall2 : F.all (fun x => decide (0 ≤ x ∧ x < ((dcount e : Nat) : Int))) = true := by
    refine List.all_eq_true.2 fun x hx => decide_eq_true ?_
    rw [r3]
    exact hFr x hx
  simp only [if_pos (show F.length ≤ 1000000 ∧ (F.all fun x => decide (0 ≤ x ∧ x < ((dcount e : Nat) : Int))) = true ∧ rowsIn (dcount e) (mgOf rows e) = true from ⟨by omega, hall2, hrow2⟩)]
  refine Ev.eq (Ev.now _) ?_
  rw [r3]
  have a1 : ∀ v ∈ F, clRow (namesTo F M F.length) ((mgOf rows e).getD v.toNat []) = rowF rows e F v := fun v hv => by
    rw [hmg v (hFe v hv)]
    unfold clRow rowF
    refine List.map_congr_left fun x hx => ?_
    have hxF : x ∈ F := by
      obtain ⟨j, hj, rfl⟩ := List.getElem_of_mem hv
      exact hF.closed j hj (by omega) x hx
    exact namesTo_idx hFn hFr hxF
  have a2 : ∀ v ∈ F, (tmOf out e).getD v.toNat 0 = out.getD (repOf e v) 0 := fun v hv => by
    have hv1 := hFe v hv
    have hv2 := r1 v hv1
    obtain ⟨f1, f2⟩ := fstAt_spec hv1 hv2.1
    obtain ⟨g1, g2⟩ := repOf_spec (e := e) (v := v) ⟨fstAt e v.toNat, f1, f2⟩
    have : (tmOf out e).getD v.toNat 0 = out.getD (fstAt e v.toNat) 0 := by
      unfold tmOf
      rw [List.getD_eq_getElem?_getD, List.getElem?_map, List.getElem?_range (by omega)]
      rfl
    rw [this]
    exact hsame _ _ (by omega) (by omega) (by rw [f2, g2])
  rw [List.map_congr_left a1, List.map_congr_left a2]
theorem oneIf_ev (a : Bool) : impl_oneIf.f a = some (if a = true then 1 else 0) := by
  unfold impl_oneIf.f
  cases a <;> rfl
theorem reduced_ev {m : Nat} {rows : List (List Int)} {acc : List Bool} (b t : Int) (H : RelG m rows acc) {c e F : List Int} (K : Red3 rows acc c e F) : Ev (fun k => impl_Relation_reduced.f k b t rows acc) (b, t, F.map (rowF rows e F), F.map (accF e acc)) := by
  have hn := H.nN
  have hal := H.al
  obtain ⟨oi, hoi⟩ : ∃ oi : Bool → Int, oi = fun a => if a = true then 1 else 0 := ⟨_, rfl⟩
  have hkb : ((acc.map oi).map fun x => [x]) = acc.map kb := by
    rw [List.map_map, hoi]
    refine List.map_congr_left fun a _ => ?_
    cases a <;> rfl
  have hog : ∀ i, (acc.map oi).getD i 0 = oi (acc.getD i false) := fun i => by
    rw [List.getD_eq_getElem?_getD, List.getElem?_map, List.getD_eq_getElem?_getD]
    cases acc[i]? with
    | none => rw [hoi]; rfl
    | some x => rfl
  have hmin := minimal_ev H.n1 H.nN H.mm H.len H.inR (out := acc.map oi) (by rw [List.length_map, hal]) (fun x hx => by
    obtain ⟨a, _, rfl⟩ := List.mem_map.1 hx
    rw [hoi]
    cases a <;> simp) (c := c) (e := e) (F := F) (by rw [hkb]; exact K.numb) K.run K.bfs (fun i j hi hj q => by rw [hog, hog, K.same i j hi hj q])
  have hFl : F.length ≤ rows.length := nodup_len rows.length F (K.bfs.nodup (by simp)) (Bfs.in (P := fun v => 0 ≤ v ∧ v < (rows.length : Int)) (fun v _ => clM_range H.inR K.run v) K.bfs (fun x hx => by
    rw [List.mem_singleton] at hx
    rw [hx]
    exact run_range K.run (by have := H.n1; omega)))
  have key2 := downs (P := fun i => Ev (fun k => impl_Relation_reduced.l1 k (F.map (fun v => (acc.map oi).getD (repOf e v) 0)) ((F.map (fun v => (acc.map oi).getD (repOf e v) 0)).length : Int) (i : Int) b t (F.map (rowF rows e F)) ((F.take i).map (accF e acc))) (b, t, F.map (rowF rows e F), F.map (accF e acc))) F.length
    (fun i hi ih => by
      refine Ev.step (fun k => ?_) ih
      have e1 : rd (F.map (fun v => (acc.map oi).getD (repOf e v) 0)) (i : Int) = oi (accF e acc F[i]) := by
        rw [rd_of (by rw [List.length_map]; exact hi), List.getElem_map, hog]
        rfl
      have e2 : (oi (accF e acc F[i]) == 1) = accF e acc F[i] := by
        rw [hoi]
        cases accF e acc F[i] <;> rfl
      rw [impl_Relation_reduced.l1, if_pos (by rw [List.length_map]; omega), if_pos (by omega), if_pos (by rw [List.length_map]; omega), if_pos (by simp; omega), e1, e2, List.take_succ_eq_append_getElem hi, List.map_append, w64 (by omega) (by omega)]
      rfl)
    (by
      refine Ev.step (f := fun _ => some _) (fun k => ?_) (Ev.now _)
      rw [impl_Relation_reduced.l1, if_neg (by rw [List.length_map]; omega), List.take_length])
  have key := downs (P := fun i => Ev (fun k => impl_Relation_reduced.l0 k ((acc.take i).map oi) acc (acc.length : Int) (i : Int) b t rows acc) (b, t, F.map (rowF rows e F), F.map (accF e acc))) acc.length
    (fun i hi ih => by
      refine Ev.step (fun k => ?_) ih
      have e1 : rdOf false acc (i : Int) = acc[i] := by unfold rdOf; exact getD_of hi
      rw [impl_Relation_reduced.l0, if_pos (by omega), if_pos (by omega), if_pos (by omega), e1, oneIf_ev, Option.bind_some, if_pos (by simp; omega), List.take_succ_eq_append_getElem hi, List.map_append, w64 (by omega) (by omega), hoi]
      rfl)
    (by
      refine Ev.step (f := fun k => (impl_minimal.f k rows (acc.map oi)).bind fun bt911 => (impl_Relation_reduced.l1 k bt911.2 (bt911.2.length : Int) 0 b t bt911.1 ([] : List Bool))) (fun k => ?_) (Ev.bind hmin (key2 0 (by omega)))
      rw [impl_Relation_reduced.l0, if_neg (by omega), List.take_length])
  exact key 0 (by omega)
/-- A relation that is reduced: on both ways the same one; with its size. -/
theorem reduce_both {m : Nat} {rows : List (List Int)} {acc : List Bool} (b t : Int) (H : RelG m rows acc) : ∃ (rows' : List (List Int)) (acc' : List Bool), Ev (fun k => spec_l13Reduce.f k b t rows acc) (b, t, rows', acc') ∧ Ev (fun k => impl_Relation_reduced.f k b t rows acc) (b, t, rows', acc') ∧ RelG m rows' acc' ∧ rows'.length ≤ rows.length ∧
    ∃ c e F, Red3 rows acc c e F ∧ rows' = F.map (rowF rows e F) ∧ acc' = F.map (accF e acc) := by
  obtain ⟨c, e, F, K, hs⟩ := reduceG_ev b t H
  have hFl : F.length ≤ rows.length := nodup_len rows.length F (K.bfs.nodup (by simp)) (Bfs.in (P := fun v => 0 ≤ v ∧ v < (rows.length : Int)) (fun v _ => clM_range H.inR K.run v) K.bfs (fun x hx => by
    rw [List.mem_singleton] at hx
    rw [hx]
    exact run_range K.run (by have := H.n1; omega)))
  have hF1 : 1 ≤ F.length := by
    have := List.length_pos_of_mem (K.bfs.pre.subset (List.mem_singleton.2 rfl))
    omega
  have he : e.length = rows.length := by rw [K.run.still.1, keysL_len]
  have hin : ∀ v ∈ F, ∃ i, i < e.length ∧ e.getD i 0 = v := by
    refine Bfs.in (P := fun v => ∃ i, i < e.length ∧ e.getD i 0 = v) (fun v hv x hx => ?_) K.bfs (fun x hx => ?_)
    · unfold clM at hx
      obtain ⟨y, hy, rfl⟩ := List.mem_map.1 hx
      obtain ⟨g1, g2⟩ := repOf_spec hv
      have := H.inR _ (by omega) y hy
      exact ⟨y.toNat, by omega, rfl⟩
    · rw [List.mem_singleton] at hx
      exact ⟨0, by have := H.n1; omega, hx.symm⟩
  have hget : ∀ i, i < F.length → ∃ v, v ∈ F ∧ (F.map (rowF rows e F)).getD i [] = rowF rows e F v := fun i hi => ⟨F[i], List.getElem_mem hi, by simp [List.getD_eq_getElem?_getD, hi]⟩
  refine ⟨_, _, hs, reduced_ev b t H K, ⟨by rw [List.length_map]; exact hF1, by rw [List.length_map]; have := H.nN; omega, by simp, H.mm, fun i hi => ?_, fun i hi x hx => ?_⟩, by rw [List.length_map]; exact hFl, c, e, F, K, rfl, rfl⟩
  · rw [List.length_map] at hi
    obtain ⟨v, hv, ev⟩ := hget i hi
    obtain ⟨g1, g2⟩ := repOf_spec (hin v hv)
    rw [ev, rowF, clM, List.length_map, List.length_map, H.len _ (by omega)]
  · rw [List.length_map] at hi ⊢
    obtain ⟨v, hv, ev⟩ := hget i hi
    rw [ev, rowF] at hx
    obtain ⟨y, hy, rfl⟩ := List.mem_map.1 hx
    obtain ⟨j, hj, rfl⟩ := List.getElem_of_mem hv
    have hyF := K.bfs.closed j hj (by omega) y hy
    have := List.idxOf_lt_length_iff.2 hyF
    omega

/-! Reduced -/
abbrev RelR := Int × Int × (List (List Int)) × List Bool × Bool
structure SmallR (r : RelR) : Prop where
  n : r.2.2.1.length ≤ 1048576
  row : ∀ x ∈ r.2.2.1, x.length ≤ 1048576
  acc : r.2.2.2.1.length ≤ 1048576
theorem SmallR.none : SmallR (0, 0, [], [], false) := ⟨by simp, fun x hx => by simp at hx, by simp⟩
theorem RelG.small {m : Nat} {rows : List (List Int)} {acc : List Bool} (H : RelG m rows acc) (b t : Int) (o : Bool) : SmallR (b, t, rows, acc, o) := by
  refine ⟨by have := H.nN; show rows.length ≤ _; omega, fun x hx => ?_, by have := H.nN; have := H.al; show acc.length ≤ _; omega⟩
  obtain ⟨i, hi, rfl⟩ := List.getElem_of_mem hx
  have h1 := H.len i hi
  rw [rowAt hi] at h1
  have := H.mm
  omega

/-! NotR -/
theorem isRelW_acc (b t : Int) (rows : List (List Int)) {acc acc' : List Bool} (h : acc'.length = acc.length) : isRelW b t rows acc' = isRelW b t rows acc := by
  unfold isRelW
  rw [h]
theorem RelG.acc {m : Nat} {rows : List (List Int)} {acc acc' : List Bool} (H : RelG m rows acc) (h : acc'.length = acc.length) : RelG m rows acc' := ⟨H.n1, H.nN, by rw [h, H.al], H.mm, H.len, H.inR⟩
theorem l13Copy_ev (b t : Int) (rows : List (List Int)) (acc : List Bool) (hl : rows.length ≤ 1048576) (hr : ∀ i (h : i < rows.length), rows[i].length ≤ 1048576) (ha : acc.length ≤ 1048576) : Ev (fun k => spec_l13Copy.f k b t rows acc) (b, t, rows, acc) := by
  have key := downs (P := fun i => Ev (fun k => spec_l13Copy.l0 k (i : Int) b t rows acc b t (rows.take i) acc) (b, t, rows, acc)) rows.length
    (fun i hi ih => by
      refine Ev.step (fun k => ?_) ih
      have := hr i hi
      have hz : ([] : List Int).length + (rd_L1 rows (i : Int)).length < 17592186044416 := by rw [rdR_of hi]; simp; omega
      rw [spec_l13Copy.l0, if_pos (by omega), Option.bind_some, if_pos (by omega), if_pos hz, if_pos (by simp; omega), rdR_of hi, w64 (by omega) (by omega), List.take_succ_eq_append_getElem hi]
      rfl)
    (by
      refine Ev.step (f := fun _ => some _) (fun k => ?_) (Ev.now _)
      rw [spec_l13Copy.l0, if_neg (by omega), List.take_length])
  have h := key 0 (by omega)
  refine Ev.congr (fun k => ?_) h
  unfold spec_l13Copy.f
  rw [Option.bind_some, if_pos (by simp; omega)]
  rfl
theorem notRel_both (b t : Int) (rows : List (List Int)) (acc : List Bool) (hl : rows.length ≤ 1048576) (hr : ∀ i (h : i < rows.length), rows[i].length ≤ 1048576) :
    ∃ r : RelR, SmallR r ∧ Ev (fun k => spec_NotRelation.f k b t rows acc) r ∧ Ev (fun k => impl_NotRelation.f k b t rows acc) r := by
  have hS := specRel_ev b t rows acc hl hr
  have hI := implRel_ev b t rows acc hl hr
  unfold spec_NotRelation.f impl_NotRelation.f
  cases h : isRelW b t rows acc with
  | false =>
    rw [h] at hS hI
    refine ⟨_, SmallR.none, Ev.bind hS ?_, Ev.bind hI ?_⟩
    · simp only [Bool.false_eq_true, if_false]
      exact Ev.now _
    · simp only [Bool.false_eq_true, if_false]
      exact Ev.now _
  | true =>
    have hnl : (acc.map (!·)).length = acc.length := by simp
    have h' := (isRelW_acc b t rows hnl).trans h
    have hS' := specRel_ev b t rows (acc.map (!·)) hl hr
    rw [h'] at hS'
    rw [h] at hS hI
    obtain ⟨b', t', rfl, rfl, H⟩ := isRelW_true h
    obtain ⟨rows', acc', h1, h2, h3, _⟩ := reduce_both (b' : Int) (t' : Int) (H.toG.acc hnl)
    have hal := H.al
    have hn := H.n48
    refine ⟨(b', t', rows', acc', true), h3.small _ _ _, Ev.bind hS ?_, Ev.bind hI ?_⟩
    · simp only [if_true]
      refine Ev.bind (l13Copy_ev _ _ rows acc hl hr (by omega)) ?_
      have hred : Ev (fun k => spec_ReducedRelation.f k b' t' rows (acc.map (!·))) ((b' : Int), (t' : Int), rows', acc', true) := by
        unfold spec_ReducedRelation.f
        refine Ev.bind hS' ?_
        simp only [if_true]
        exact Ev.bind h1 (Ev.now _)
      have key := downs (P := fun i => Ev (fun k => spec_NotRelation.l0 k (i : Int) b' t' rows acc b' t' rows ((acc.take i).map (!·) ++ acc.drop i)) ((b' : Int), (t' : Int), rows', acc', true)) acc.length
        (fun i hi ih => by
          refine Ev.step (fun k => ?_) ih
          have e : rdOf false acc (i : Int) = acc[i] := by unfold rdOf; exact getD_of hi
          have el : ((acc.take i).map (!·) ++ acc.drop i).set i (!acc[i]) = (acc.take (i + 1)).map (!·) ++ acc.drop (i + 1) := by
            rw [List.set_append_right _ _ (by simp; omega)]
            have hl : ((acc.take i).map (!·)).length = i := by simp; omega
            rw [hl, Nat.sub_self, drop_at hi, List.set_cons_zero, List.take_succ_eq_append_getElem hi, List.map_append, List.append_assoc]
            rfl
          rw [spec_NotRelation.l0, if_pos (by simp; omega), if_pos (by omega), if_pos (by omega), e, Int.toNat_natCast, el, w64 (by omega) (by omega)]
          rfl)
        (by
          refine Ev.step (f := fun k => (spec_ReducedRelation.f k b' t' rows (acc.map (!·))).bind fun bt1025 => (some (bt1025.1, bt1025.2.1, bt1025.2.2.1, bt1025.2.2.2.1, bt1025.2.2.2.2))) (fun k => ?_) (Ev.bind hred (Ev.now _))
          rw [spec_NotRelation.l0, if_neg (by simp), List.take_length, List.drop_length, List.append_nil])
      exact key 0 (by omega)
    · simp only [if_true]
      have key := downs (P := fun i => Ev (fun k => impl_NotRelation.l0 k acc (acc.length : Int) (i : Int) b' t' rows ((acc.take i).map (!·))) ((b' : Int), (t' : Int), rows', acc', true)) acc.length
        (fun i hi ih => by
          refine Ev.step (fun k => ?_) ih
          have e : rdOf false acc (i : Int) = acc[i] := by unfold rdOf; exact getD_of hi
          rw [impl_NotRelation.l0, if_pos (by omega), if_pos (by omega), if_pos (by omega), if_pos (by simp; omega), e, w64 (by omega) (by omega), List.take_succ_eq_append_getElem hi, List.map_append]
          rfl)
        (by
          refine Ev.step (f := fun k => (impl_Relation_reduced.f k b' t' rows (acc.map (!·))).bind fun bt1043 => (some (bt1043.1, bt1043.2.1, bt1043.2.2.1, bt1043.2.2.2, true))) (fun k => ?_) (Ev.bind h2 (Ev.now _))
          rw [impl_NotRelation.l0, if_neg (by omega), List.take_length])
      exact key 0 (by omega)

/-! DivNat -/
theorem tmod_nat (n b : Nat) : Int.tmod (n : Int) (b : Int) = ((n % b : Nat) : Int) := by
  rw [Int.tmod_eq_emod_of_nonneg (by omega)]
  simp
theorem tdiv_nat (n b : Nat) : Int.tdiv (n : Int) (b : Int) = ((n / b : Nat) : Int) := by
  rw [Int.tdiv_eq_ediv_of_nonneg (by omega)]
  simp

/-! AreDigits -/
/-! Numbers15 -/
/-- The digit of a letter in one track (of t tracks, base b). -/
def dg15 (b t : Nat) (x : Int) (p : Nat) : Nat := x.toNat / b ^ (t - 1 - p) % b
def val15 (b : Nat) (ds : List Nat) : Nat := ds.foldl (fun a d => a * b + d) 0
theorem val15_snoc (b : Nat) (ds : List Nat) (d : Nat) : val15 b (ds ++ [d]) = val15 b ds * b + d := by simp [val15, List.foldl_append]
theorem val15_lt (b : Nat) (hb : 1 ≤ b) (ds : List Nat) (h : ∀ d ∈ ds, d < b) : val15 b ds < b ^ ds.length := by
  have key : ∀ (ds : List Nat), (∀ d ∈ ds, d < b) → ∀ a : Nat, ds.foldl (fun a d => a * b + d) a + 1 ≤ (a + 1) * b ^ ds.length := by
    intro ds
    induction ds with
    | nil => intro _ a; simp
    | cons d ds ih =>
      intro h a
      have h1 := ih (fun x hx => h x (List.mem_cons_of_mem _ hx)) (a * b + d)
      have h2 := h d (List.mem_cons_self ..)
      have h3 : a * b + d + 1 ≤ (a + 1) * b := by rw [Nat.add_mul]; omega
      have h4 : (a * b + d + 1) * b ^ ds.length ≤ (a + 1) * b * b ^ ds.length := Nat.mul_le_mul_right _ h3
      rw [List.foldl_cons, List.length_cons, Nat.pow_succ, Nat.mul_comm (b ^ ds.length) b, ← Nat.mul_assoc]
      omega
  have := key ds h 0
  rw [Nat.zero_add, Nat.one_mul] at this
  exact this
theorem dg15_lt (b t : Nat) (hb : 1 ≤ b) (x : Int) (p : Nat) : dg15 b t x p < b := Nat.mod_lt _ (by omega)
theorem map_range_set {α : Type} (f g : Nat → α) (t c : Nat) (v : α) (hv : v = g c) (h : ∀ p, p < t → p ≠ c → g p = f p) : ((List.range t).map f).set c v = (List.range t).map g := by
  apply List.ext_getElem (by simp)
  intro p h1 h2
  rw [List.getElem_set]
  simp only [List.length_map, List.length_range] at h2
  split
  · subst hv
    simp
    congr 1
  · simp
    exact (h p h2 (fun e => by omega)).symm
theorem tdiv_pow (b t x j : Nat) (hb : 2 ≤ b) (hj : j < t) : Int.tdiv ((x / b ^ (t - 1 - j) : Nat) : Int) (b : Int) = ((x / b ^ (t - j) : Nat) : Int) := by
  rw [tdiv_nat, Nat.div_div_eq_div_mul, show b ^ (t - 1 - j) * b = b ^ (t - j) by rw [← Nat.pow_succ]; congr 1; omega]
theorem digit15_ev (b t : Nat) (h2 : 2 ≤ b) (h3 : b ≤ 3) (ht : t ≤ 3) (x : Int) (x0 : 0 ≤ x) (x1 : x ≤ 10000) (p : Nat) (hp : p < t) : Ev (fun k => spec_l15Digit.f k (b : Int) (t : Int) x (p : Int)) ((dg15 b t x p : Nat) : Int) := by
  obtain ⟨n, rfl⟩ : ∃ n : Nat, x = n := ⟨x.toNat, by omega⟩
  have key : ∀ j, j < t → p ≤ j → Ev (fun k => spec_l15Digit.l0 k (b : Int) ((n / b ^ (t - 1 - j) : Nat) : Int) (p : Int) (j : Int)) ((dg15 b t (n : Int) p : Nat) : Int) := by
    intro j
    induction j with
    | zero =>
      intro hj hpj
      refine Ev.step (f := fun _ => some _) (fun k => ?_) (Ev.now _)
      rw [spec_l15Digit.l0, if_neg (by omega), if_neg (by omega), tmod_nat, show p = 0 by omega]
      rfl
    | succ j ih =>
      intro hj hpj
      have hs : n / b ^ (t - 1 - (j + 1)) ≤ n := Nat.div_le_self _ _
      by_cases e : p = j + 1
      · refine Ev.step (f := fun _ => some _) (fun k => ?_) (Ev.now _)
        rw [spec_l15Digit.l0, if_neg (by omega), if_neg (by omega), tmod_nat, e]
        rfl
      · have hd : Int.tdiv ((n / b ^ (t - 1 - (j + 1)) : Nat) : Int) (b : Int) = ((n / b ^ (t - 1 - j) : Nat) : Int) := by
          rw [tdiv_pow b t n (j + 1) h2 (by omega), show t - (j + 1) = t - 1 - j by omega]
        have hs2 : n / b ^ (t - 1 - j) ≤ n := Nat.div_le_self _ _
        have hs3 := Int.natCast_nonneg (n / b ^ (t - 1 - j))
        refine Ev.step (fun k => ?_) (ih (by omega) (by omega))
        rw [spec_l15Digit.l0, if_pos (by omega), if_neg (by omega), hd, w64 (by omega) (by omega), w64 (by omega) (by omega)]
        rw [show (((j + 1 : Nat) : Int) - 1) = (j : Int) by omega]
  have h := key (t - 1) (by omega) (by omega)
  rw [show t - 1 - (t - 1) = 0 by omega, Nat.pow_zero, Nat.div_one] at h
  refine Ev.congr (fun k => ?_) h
  unfold spec_l15Digit.f
  rw [w64 (by omega) (by omega), show ((t : Int) - 1) = ((t - 1 : Nat) : Int) by omega]
def trk15 (b t : Nat) (x : Int) : List Int := (List.range t).map fun p => ((dg15 b t x p : Nat) : Int)
theorem tracksOf_ev (b t : Nat) (h2 : 2 ≤ b) (h3 : b ≤ 3) (ht : t ≤ 3) (x : Int) (x0 : 0 ≤ x) (x1 : x ≤ 10000) : Ev (fun k => impl_tracksOf.f k (b : Int) (t : Int) x) (trk15 b t x) := by
  obtain ⟨n, rfl⟩ : ∃ n : Nat, x = n := ⟨x.toNat, by omega⟩
  have key : ∀ i, i ≤ t → Ev (fun k => impl_tracksOf.l0 k (b : Int) ((n / b ^ (t - i) : Nat) : Int) ((List.range t).map fun p => if p < i then 0 else ((dg15 b t (n : Int) p : Nat) : Int)) ((i : Int) - 1)) (trk15 b t (n : Int)) := by
    intro i
    induction i with
    | zero =>
      intro _
      refine Ev.step (f := fun _ => some _) (fun k => ?_) (Ev.now _)
      rw [impl_tracksOf.l0, if_neg (by omega)]
      simp [trk15]
    | succ i ih =>
      intro hi
      have hs2 : n / b ^ (t - i) ≤ n := Nat.div_le_self _ _
      refine Ev.step (fun k => ?_) (ih (by omega))
      have hd : Int.tdiv ((n / b ^ (t - (i + 1)) : Nat) : Int) (b : Int) = ((n / b ^ (t - i) : Nat) : Int) := by
        rw [show t - (i + 1) = t - 1 - i by omega, tdiv_pow b t n i h2 (by omega)]
      have hs3 := Int.natCast_nonneg (n / b ^ (t - i))
      rw [impl_tracksOf.l0, if_pos (by omega), if_neg (by omega), if_pos (by omega), if_pos (by simp; omega), hd, w64 (by omega) (by omega), w64 (by omega) (by omega), tmod_nat, show (((i + 1 : Nat) : Int) - 1) = (i : Int) by omega, Int.toNat_natCast,
        map_range_set _ (fun p => if p < i then (0 : Int) else ((dg15 b t (n : Int) p : Nat) : Int)) t i _ ?_ ?_]
      · rw [if_neg (by omega), show t - (i + 1) = t - 1 - i by omega]
        rfl
      · intro p hp hne
        by_cases c : p < i
        · rw [if_pos c, if_pos (by omega)]
        · rw [if_neg c, if_neg (by omega)]
  have h := key t (by omega)
  rw [Nat.sub_self, Nat.pow_zero, Nat.div_one] at h
  refine Ev.congr (fun k => ?_) h
  unfold impl_tracksOf.f
  rw [if_pos (by omega), if_pos (by omega), w64 (by omega) (by omega)]
  congr 1
  apply List.ext_getElem (by simp)
  intro p q1 q2
  simp at q1
  simp [q1]
/-! Rename -/
theorem letterOf_ev (b : Nat) (h2 : 2 ≤ b) (h3 : b ≤ 3) (ds : List Nat) (hd : ∀ d ∈ ds, d < b) (hl : ds.length ≤ 3) : Ev (fun k => impl_letterOf.f k (b : Int) (ds.map (fun (d : Nat) => (d : Int)))) ((val15 b ds : Nat) : Int) := by
  have key := downs (P := fun i => Ev (fun k => impl_letterOf.l0 k (b : Int) ((val15 b (ds.take i) : Nat) : Int) (ds.map (fun (d : Nat) => (d : Int))) (ds.length : Int) (i : Int)) ((val15 b ds : Nat) : Int)) ds.length
    (fun i hi ih => by
      refine Ev.step (fun k => ?_) ih
      have h := val15_lt b (by omega) (ds.take i) (fun d hx => hd d (List.mem_of_mem_take hx))
      have hle : b ^ (ds.take i).length ≤ 9261 := pow_le16 b (by omega) _ (by rw [List.length_take]; omega)
      have hdi := hd ds[i] (List.getElem_mem hi)
      have e1 : rd (ds.map (fun (d : Nat) => (d : Int))) (i : Int) = (ds[i] : Int) := by rw [rd_of (by rw [List.length_map]; exact hi), List.getElem_map]
      have e2 : ((val15 b (ds.take (i + 1)) : Nat) : Int) = ((val15 b (ds.take i) : Nat) : Int) * (b : Int) + (ds[i] : Int) := by
        rw [List.take_succ_eq_append_getElem hi, val15_snoc]
        simp
      have hm : val15 b (ds.take i) * b ≤ 9261 * 3 := Nat.mul_le_mul (by omega) h3
      have hm2 : ((val15 b (ds.take i) : Nat) : Int) * (b : Int) = ((val15 b (ds.take i) * b : Nat) : Int) := by simp
      rw [impl_letterOf.l0, if_pos (by omega), if_pos (by omega), if_pos (by rw [List.length_map]; omega), e1, hm2, w64 (x := ((val15 b (ds.take i) * b : Nat) : Int)) (by omega) (by omega), w64 (by omega) (by omega), w64 (by omega) (by omega)]
      rw [e2, hm2]
      rfl)
    (by
      refine Ev.step (f := fun _ => some _) (fun k => ?_) (Ev.now _)
      rw [impl_letterOf.l0, if_neg (by omega), List.take_length])
  refine Ev.congr (fun k => ?_) (key 0 (by omega))
  unfold impl_letterOf.f
  rw [List.length_map]
  rfl
section
variable {b t T : Nat} {rows : List (List Int)} {acc : List Bool} {tk : List Int}
end
/-! Exists1 -/
/-! a letter with one more track put in -/
def ds15 (b t : Nat) (x : Int) : List Nat := (List.range t).map fun p => dg15 b t x p
def insD (ds : List Nat) (p d : Nat) : List Nat := ds.take p ++ [d] ++ ds.drop p
def ltI (b t : Nat) (x : Int) (p d : Nat) : Nat := val15 b (insD (ds15 b t x) p d)
theorem ds15_len (b t : Nat) (x : Int) : (ds15 b t x).length = t := by simp [ds15]
theorem ds15_lt {b t : Nat} (hb : 1 ≤ b) {x : Int} : ∀ d ∈ ds15 b t x, d < b := fun d hd => by
  obtain ⟨p, _, rfl⟩ := List.mem_map.1 hd
  exact dg15_lt b t hb x p
theorem insD_len {ds : List Nat} {p d : Nat} (hp : p ≤ ds.length) : (insD ds p d).length = ds.length + 1 := by simp [insD]; omega
theorem insD_lt {b : Nat} {ds : List Nat} {p d : Nat} (h : ∀ x ∈ ds, x < b) (hd : d < b) : ∀ x ∈ insD ds p d, x < b := fun x hx => by
  unfold insD at hx
  rcases List.mem_append.1 hx with hx | hx
  · rcases List.mem_append.1 hx with hx | hx
    · exact h x (List.mem_of_mem_take hx)
    · rw [List.mem_singleton] at hx; rw [hx]; exact hd
  · exact h x (List.mem_of_mem_drop hx)
theorem insD_get {ds : List Nat} {p d i : Nat} (hp : p ≤ ds.length) (hi : i < (insD ds p d).length) : (insD ds p d)[i] = if i < p then ds.getD i 0 else if i = p then d else ds.getD (i - 1) 0 := by
  have hl := insD_len (d := d) hp
  unfold insD at hi ⊢
  by_cases h1 : i < p
  · rw [if_pos h1, List.getElem_append_left (by simp; omega), List.getElem_append_left (by simp; omega), List.getElem_take, List.getD_eq_getElem?_getD, List.getElem?_eq_getElem (by omega)]
    rfl
  · rw [if_neg h1]
    by_cases h2 : i = p
    · subst h2
      rw [if_pos rfl, List.getElem_append_left (by simp; omega), List.getElem_append_right (by simp; omega)]
      simp
    · have hi' : i < ds.length + 1 := by simp at hi; omega
      rw [if_neg h2, List.getElem_append_right (by simp; omega)]
      simp only [List.length_append, List.length_take, List.length_cons, List.length_nil, List.getElem_drop]
      rw [List.getD_eq_getElem?_getD, List.getElem?_eq_getElem (by omega)]
      have : p + (i - (min p ds.length + (0 + 1))) = i - 1 := by omega
      simp [this]
theorem ltI_lt {b t : Nat} (hb : 1 ≤ b) {x : Int} {p d : Nat} (hp : p ≤ t) (hd : d < b) : ltI b t x p d < b ^ (t + 1) := by
  have h := val15_lt b hb (insD (ds15 b t x) p d) (insD_lt (ds15_lt hb) hd)
  rwa [insD_len (by rw [ds15_len]; exact hp), ds15_len] at h
theorem letter15_ev (b t : Nat) (h2 : 2 ≤ b) (h3 : b ≤ 3) (ht : t ≤ 2) (x : Int) (x0 : 0 ≤ x) (x1 : x ≤ 10000) (p d : Nat) (hp : p ≤ t) (hd : d < b) :
    Ev (fun k => spec_l15Letter.f k (b : Int) ((t + 1 : Nat) : Int) x (p : Int) (d : Int)) ((ltI b t x p d : Nat) : Int) := by
  have hl : (insD (ds15 b t x) p d).length = t + 1 := by rw [insD_len (by rw [ds15_len]; exact hp), ds15_len]
  have hlt := insD_lt (p := p) (ds15_lt (t := t) (x := x) (show 1 ≤ b by omega)) hd
  have key := downs (P := fun i => Ev (fun k => spec_l15Letter.l0 k (b : Int) ((t + 1 : Nat) : Int) x (p : Int) (d : Int) ((val15 b ((insD (ds15 b t x) p d).take i) : Nat) : Int) ((if i ≤ p then i else i - 1 : Nat) : Int) (i : Int)) ((ltI b t x p d : Nat) : Int)) (t + 1)
    (fun i hi ih => by
      have hv := val15_lt b (by omega) ((insD (ds15 b t x) p d).take i) (fun y hy => hlt y (List.mem_of_mem_take hy))
      have hle : b ^ ((insD (ds15 b t x) p d).take i).length ≤ 9261 := pow_le16 b (by omega) _ (by rw [List.length_take]; omega)
      have hg := insD_get (ds := ds15 b t x) (p := p) (d := d) (i := i) (by rw [ds15_len]; exact hp) (by omega)
      have e2 : ((val15 b ((insD (ds15 b t x) p d).take (i + 1)) : Nat) : Int) = ((val15 b ((insD (ds15 b t x) p d).take i) : Nat) : Int) * (b : Int) + ((insD (ds15 b t x) p d)[i]'(by omega) : Int) := by
        rw [List.take_succ_eq_append_getElem (by omega), val15_snoc]
        simp
      have hm : val15 b ((insD (ds15 b t x) p d).take i) * b ≤ 9261 * 3 := Nat.mul_le_mul (by omega) h3
      have hm2 : ((val15 b ((insD (ds15 b t x) p d).take i) : Nat) : Int) * (b : Int) = ((val15 b ((insD (ds15 b t x) p d).take i) * b : Nat) : Int) := by simp
      have hdi := hlt ((insD (ds15 b t x) p d)[i]'(by omega)) (List.getElem_mem _)
      rw [e2, hm2] at ih
      by_cases c : i = p
      · subst c
        rw [if_neg (by omega), if_pos rfl] at hg
        rw [hg] at ih hdi
        rw [if_neg (by omega)] at ih
        rw [if_pos (Nat.le_refl _)]
        refine Ev.step (fun k => ?_) ih
        rw [spec_l15Letter.l0, if_pos (by omega), if_pos rfl, hm2, w64 (x := ((val15 b ((insD (ds15 b t x) i d).take i) * b : Nat) : Int)) (by omega) (by omega), w64 (by omega) (by omega), w64 (by omega) (by omega)]
        rfl
      · have hat : (if i ≤ p then i else i - 1) < t := by split <;> omega
        have hdg := digit15_ev b t h2 h3 (by omega) x x0 x1 (if i ≤ p then i else i - 1) hat
        have he : (insD (ds15 b t x) p d)[i]'(by omega) = dg15 b t x (if i ≤ p then i else i - 1) := by
          rw [hg]
          by_cases c2 : i < p
          · rw [if_pos c2, if_pos (by omega)]
            simp [ds15, List.getD_eq_getElem?_getD, show i < t by omega]
          · rw [if_neg c2, if_neg c, if_neg (by omega)]
            simp [ds15, List.getD_eq_getElem?_getD, show i - 1 < t by omega]
        rw [he] at ih hdi
        have hnext : ((if i + 1 ≤ p then i + 1 else i + 1 - 1 : Nat) : Int) = ((if i ≤ p then i else i - 1 : Nat) : Int) + 1 := by
          by_cases c2 : i < p
          · rw [if_pos (by omega), if_pos (by omega)]; omega
          · rw [if_neg (by omega), if_neg (by omega)]; omega
        rw [hnext] at ih
        refine Ev.step (f := fun k => (spec_l15Digit.f k (b : Int) (t : Int) x ((if i ≤ p then i else i - 1 : Nat) : Int)).bind fun t743 => spec_l15Letter.l0 k (b : Int) ((t + 1 : Nat) : Int) x (p : Int) (d : Int) (wrap64 (((val15 b ((insD (ds15 b t x) p d).take i) * b : Nat) : Int) + t743)) (((if i ≤ p then i else i - 1 : Nat) : Int) + 1) ((i + 1 : Nat) : Int)) (fun k => ?_) (Ev.bind hdg ?_)
        · rw [spec_l15Letter.l0, if_pos (by omega), if_neg (by omega), hm2, w64 (x := ((val15 b ((insD (ds15 b t x) p d).take i) * b : Nat) : Int)) (by omega) (by omega), w64 (x := ((t + 1 : Nat) : Int) - 1) (by omega) (by omega), w64 (x := ((if i ≤ p then i else i - 1 : Nat) : Int) + 1) (by omega) (by omega), w64 (by omega) (by omega), show ((t + 1 : Nat) : Int) - 1 = (t : Int) by omega]
          rfl
        · rw [w64 (by omega) (by omega)]
          exact ih)
    (by
      refine Ev.step (f := fun _ => some _) (fun k => ?_) (Ev.now _)
      rw [spec_l15Letter.l0, if_neg (by omega), List.take_of_length_le (by omega)]
      rfl)
  exact key 0 (by omega)
theorem trk_ds (b t : Nat) (x : Int) : trk15 b t x = (ds15 b t x).map (fun (d : Nat) => (d : Int)) := by
  unfold trk15 ds15
  rw [List.map_map]
  rfl
theorem trk_zero (b t : Nat) : List.replicate t (0 : Int) = trk15 b t 0 := by
  unfold trk15 dg15
  refine List.ext_getElem (by simp) fun i h1 h2 => ?_
  simp
theorem ins_map (ds : List Nat) (p d : Nat) : (insD ds p d).map (fun (d : Nat) => (d : Int)) = (ds.map (fun (d : Nat) => (d : Int))).take p ++ [(d : Int)] ++ (ds.map (fun (d : Nat) => (d : Int))).drop p := by
  unfold insD
  rw [List.map_append, List.map_append, List.map_take, List.map_drop]
  rfl
theorem ins_set (ds : List Nat) (p d e : Nat) (hp : p ≤ ds.length) : ((insD ds p e).map (fun (d : Nat) => (d : Int))).set p (d : Int) = (insD ds p d).map (fun (d : Nat) => (d : Int)) := by
  rw [ins_map, ins_map]
  have : ((ds.map (fun (d : Nat) => (d : Int))).take p).length = p := by simp; omega
  rw [List.append_assoc, List.append_assoc, List.set_append_right _ _ (by omega), this, Nat.sub_self]
  rfl
theorem insert_ev (b t : Nat) (x : Int) (p : Nat) (hp : p ≤ t) (ht : t ≤ 2) : slices_Insert.f (trk15 b t x) (p : Int) 0 = some ((insD (ds15 b t x) p 0).map (fun (d : Nat) => (d : Int))) := by
  have hl : (trk15 b t x).length = t := by simp [trk15]
  unfold slices_Insert.f
  rw [if_pos (by omega), if_pos (by omega), if_pos (by omega), ins_map, ← trk_ds, Int.toNat_natCast]
  rfl
theorem clone15 (l : List Int) (h : l.length ≤ 1048576) : slices_Clone_int_int.f l = some l := by
  unfold slices_Clone_int_int.f
  rw [Option.bind_some, if_pos (by simp only [List.length_nil]; omega)]
  rfl

/-! Exists2 -/
/-! sets of states -/
def toA (T : List Bool) : A48 := ⟨(T ++ List.replicate 48 false).take 48, by simp⟩
def toS (T : List Bool) : List Int := T.map fun c => if c = true then 1 else 0
def chL (n : Nat) (P : Nat → Bool) : List Bool := (List.range n).map P
theorem chL_len (n : Nat) (P : Nat → Bool) : (chL n P).length = n := by simp [chL]
theorem chL_get {n : Nat} {P : Nat → Bool} {i : Nat} (h : i < n) : (chL n P).getD i false = P i := by simp [chL, List.getD_eq_getElem?_getD, h]
theorem chL_set {n : Nat} {P Q : Nat → Bool} {j : Nat} (h : ∀ x, x < n → Q x = (P x || x == j)) : (chL n P).set j true = chL n Q := by
  refine List.ext_getElem (by simp [chL]) fun i h1 h2 => ?_
  have hi : i < n := by simpa [chL] using h2
  rw [List.getElem_set]
  by_cases e : j = i
  · subst e
    rw [if_pos rfl]
    simp [chL, h _ hi]
  · rw [if_neg e]
    simp [chL, h _ hi, show (i == j) = false from beq_eq_false_iff_ne.2 (fun q => e q.symm)]
theorem chL_congr {n : Nat} {P Q : Nat → Bool} (h : ∀ x, x < n → P x = Q x) : chL n P = chL n Q := by
  unfold chL
  exact List.map_congr_left fun x hx => h x (List.mem_range.1 hx)
theorem rdA_toA {T : List Bool} {i : Nat} (hi : i < 48) : rdA (toA T) (i : Int) = T.getD i false := by
  unfold rdA toA
  simp only [Int.toNat_natCast, List.getD_eq_getElem?_getD, List.getElem?_take, if_pos hi]
  by_cases h : i < T.length
  · rw [List.getElem?_append_left h]
  · rw [List.getElem?_append_right (by omega), List.getElem?_eq_none (l := T) (by omega), List.getElem?_replicate]
    split <;> rfl
theorem stA_toA {T : List Bool} {i : Nat} {c : Bool} (h : i < T.length) (hT : T.length ≤ 48) : stA (toA T) (i : Int) c = toA (T.set i c) := by
  refine Subtype.ext ?_
  show ((T ++ List.replicate 48 false).take 48).set (i : Int).toNat c = (T.set i c ++ List.replicate 48 false).take 48
  rw [Int.toNat_natCast, ← List.set_append_left _ _ h, List.take_set]
theorem toA_inj {T U : List Bool} (h : T.length = U.length) (hT : T.length ≤ 48) (e : toA T = toA U) : T = U := by
  refine List.ext_getElem h fun i h1 h2 => ?_
  have a := rdA_toA (T := T) (i := i) (by omega)
  have b := rdA_toA (T := U) (i := i) (by omega)
  rw [e, b, List.getD_eq_getElem?_getD, List.getD_eq_getElem?_getD, List.getElem?_eq_getElem h1, List.getElem?_eq_getElem h2] at a
  exact a.symm
theorem toA_zero {n : Nat} (h : n ≤ 48) : toA (List.replicate n false) = zA := by
  refine Subtype.ext ?_
  show (List.replicate n false ++ List.replicate 48 false).take 48 = List.replicate 48 false
  rw [List.replicate_append_replicate, List.take_replicate, Nat.min_eq_left (by omega)]
theorem toS_len (T : List Bool) : (toS T).length = T.length := by simp [toS]
theorem toS_rd {T : List Bool} {i : Nat} (h : i < T.length) : rd (toS T) (i : Int) = if T.getD i false = true then 1 else 0 := by
  rw [rd_of (by rw [toS_len]; exact h)]
  simp [toS, List.getD_eq_getElem?_getD, h]
theorem toS_set (T : List Bool) (j : Nat) : (toS T).set j 1 = toS (T.set j true) := by
  unfold toS
  rw [List.map_set]
  rfl
theorem toS_inj {T U : List Bool} (e : toS T = toS U) : T = U := by
  unfold toS at e
  refine List.map_inj_right (fun a b h => ?_) |>.1 e
  cases a <;> cases b <;> simp_all
section
variable (b t p : Nat) (rows : List (List Int)) (x : Int)
def nxS (s d : Nat) : Nat := ((rows.getD s []).getD (ltI b t x p d) 0).toNat
def mvA (T : List Bool) (D y : Nat) : Bool := (List.range D).any fun d => (List.range rows.length).any fun s => T.getD s false && nxS b t p rows x s d == y
def mvB (T : List Bool) (D i y : Nat) : Bool := mvA b t p rows x T D y || (List.range i).any fun s => T.getD s false && nxS b t p rows x s D == y
def mvQ (T : List Bool) (s d y : Nat) : Bool := ((List.range s).any fun s' => T.getD s' false && (List.range b).any fun d' => nxS b t p rows x s' d' == y) || (T.getD s false && (List.range d).any fun d' => nxS b t p rows x s d' == y)
/-- the set behind a letter, whatever the digit that is put in -/
def mvT (T : List Bool) : List Bool := chL rows.length (mvA b t p rows x T b)
end
section
variable {b t p : Nat} {rows : List (List Int)} {acc : List Bool} {x : Int} {T : List Bool}
theorem mvT_len : (mvT b t p rows x T).length = rows.length := chL_len _ _
theorem nxS_ok (H : RelW b (t + 1) rows acc) (hp : p ≤ t) {s d : Nat} (hs : s < rows.length) (hd : d < b) :
    (ltI b t x p d : Int) < (((rows.getD s []).length : Nat) : Int) ∧ rd (rows.getD s []) ((ltI b t x p d : Nat) : Int) = ((nxS b t p rows x s d : Nat) : Int) ∧ nxS b t p rows x s d < rows.length := by
  have h1 := ltI_lt (b := b) (t := t) (by have := H.b2; omega) (x := x) hp hd
  have h2 := H.rowlen s hs
  have h3 : ltI b t x p d < (rows.getD s []).length := by omega
  have h4 := H.inR s hs _ (List.getElem_mem h3)
  have h5 : (rows.getD s []).getD (ltI b t x p d) 0 = (rows.getD s [])[ltI b t x p d] := by rw [List.getD_eq_getElem?_getD, List.getElem?_eq_getElem h3]; rfl
  refine ⟨by omega, ?_, ?_⟩
  · unfold nxS
    rw [rd_of h3, h5]; omega
  · unfold nxS
    rw [h5]; omega
theorem mvB_zero (D y : Nat) : mvB b t p rows x T D 0 y = mvA b t p rows x T D y := by simp [mvB]
theorem mvB_full (D y : Nat) : mvB b t p rows x T D rows.length y = mvA b t p rows x T (D + 1) y := by
  unfold mvB mvA
  rw [List.range_succ (n := D), List.any_append]
  simp
theorem mvB_succ (D i y : Nat) : mvB b t p rows x T D (i + 1) y = (mvB b t p rows x T D i y || (T.getD i false && nxS b t p rows x i D == y)) := by
  unfold mvB
  rw [List.range_succ (n := i), List.any_append, Bool.or_assoc]
  simp
theorem moved_l1 (H : RelW b (t + 1) rows acc) (hp : p ≤ t) (hT : T.length = rows.length) (D : Nat) (hD : D < b) (x10 : List Int) {r : A48}
    (h : Ev (fun k => impl_moved.l0 k (p : Int) (toA T) (b : Int) rows x10 (b : Int) ((D + 1 : Nat) : Int) (toA (chL rows.length (mvA b t p rows x T (D + 1))))) r) :
    Ev (fun k => impl_moved.l1 k (p : Int) (toA T) (b : Int) rows x10 (b : Int) (D : Int) (toA (chL rows.length (mvA b t p rows x T D))) ((ltI b t x p D : Nat) : Int) (rows.length : Int) 0) r := by
  have n48 := H.n48
  have b3 := H.b3
  have key := downs (P := fun i => Ev (fun k => impl_moved.l1 k (p : Int) (toA T) (b : Int) rows x10 (b : Int) (D : Int) (toA (chL rows.length (mvB b t p rows x T D i))) ((ltI b t x p D : Nat) : Int) (rows.length : Int) (i : Int)) r) rows.length
    (fun i hi ih => by
      obtain ⟨q1, q2, q3⟩ := nxS_ok (x := x) H hp hi hD
      have hr : rdA (toA T) (i : Int) = T.getD i false := rdA_toA (by omega)
      refine Ev.step (fun k => ?_) ih
      cases hc : T.getD i false with
      | true =>
        have e : stA (toA (chL rows.length (mvB b t p rows x T D i))) ((nxS b t p rows x i D : Nat) : Int) true = toA (chL rows.length (mvB b t p rows x T D (i + 1))) := by
          rw [stA_toA (by rw [chL_len]; exact q3) (by rw [chL_len]; exact n48), chL_set (Q := mvB b t p rows x T D (i + 1)) fun y _ => ?_]
          rw [mvB_succ, hc, Bool.true_and]
          congr 1
          rw [Bool.eq_iff_iff, beq_iff_eq, beq_iff_eq]
          exact eq_comm
        rw [impl_moved.l1, if_pos (by omega), if_pos (by omega), if_pos (by omega), hr, hc, if_pos rfl, if_pos (by omega), if_pos (by omega), rowAt' hi, if_pos q1, q2, if_pos (by omega), if_pos (by omega), e, w64 (by omega) (by omega)]
        rfl
      | false =>
        have e : chL rows.length (mvB b t p rows x T D i) = chL rows.length (mvB b t p rows x T D (i + 1)) := chL_congr fun y _ => by rw [mvB_succ, hc]; simp
        rw [impl_moved.l1, if_pos (by omega), if_pos (by omega), if_pos (by omega), hr, hc, if_neg (by decide), e, w64 (by omega) (by omega)]
        rfl)
    (by
      have e : chL rows.length (mvB b t p rows x T D rows.length) = chL rows.length (mvA b t p rows x T (D + 1)) := chL_congr fun y _ => mvB_full D y
      rw [e]
      refine Ev.step (fun k => ?_) h
      rw [impl_moved.l1, if_neg (by omega), w64 (by omega) (by omega)]
      rfl)
  have e : chL rows.length (mvA b t p rows x T D) = chL rows.length (mvB b t p rows x T D 0) := chL_congr fun y _ => (mvB_zero D y).symm
  rw [e]
  exact key 0 (by omega)
theorem moved_ev (H : RelW b (t + 1) rows acc) (hp : p ≤ t) (x0 : 0 ≤ x) (x1 : x ≤ 10000) (hT : T.length = rows.length) (c1 : Int) (acc' : List Bool) :
    Ev (fun k => impl_moved.f k (b : Int) c1 rows acc' (toA T) (p : Int) (trk15 b t x)) (toA (mvT b t p rows x T)) := by
  have n48 := H.n48
  have b2 := H.b2
  have b3 := H.b3
  have t3 := H.t3
  have hdl := ds15_len b t x
  have key := downs (P := fun D => ∀ e, Ev (fun k => impl_moved.l0 k (p : Int) (toA T) (b : Int) rows ((insD (ds15 b t x) p e).map (fun (d : Nat) => (d : Int))) (b : Int) (D : Int) (toA (chL rows.length (mvA b t p rows x T D)))) (toA (mvT b t p rows x T))) b
    (fun D hD ih e => by
      have hlo := letterOf_ev b b2 b3 (insD (ds15 b t x) p D) (insD_lt (ds15_lt (by omega)) hD) (by rw [insD_len (by omega)]; omega)
      refine Ev.step (f := fun k => (impl_letterOf.f k (b : Int) ((insD (ds15 b t x) p D).map (fun (d : Nat) => (d : Int)))).bind fun t1 => impl_moved.l1 k (p : Int) (toA T) (b : Int) rows ((insD (ds15 b t x) p D).map (fun (d : Nat) => (d : Int))) (b : Int) (D : Int) (toA (chL rows.length (mvA b t p rows x T D))) t1 (rows.length : Int) 0) (fun k => ?_) (Ev.bind hlo (moved_l1 H hp hT D hD _ (ih D)))
      rw [impl_moved.l0, if_pos (by omega), if_pos (by omega), if_pos (by rw [List.length_map, insD_len (by omega)]; omega), Int.toNat_natCast, ins_set _ _ _ _ (by omega)])
    (fun e => by
      refine Ev.step (f := fun _ => some _) (fun k => ?_) (Ev.now _)
      rw [impl_moved.l0, if_neg (by omega)]
      rfl)
  unfold impl_moved.f
  have hz : toA (chL rows.length (mvA b t p rows x T 0)) = zA := by
    have : chL rows.length (mvA b t p rows x T 0) = List.replicate rows.length false := by
      refine List.ext_getElem (by simp [chL]) fun i h1 h2 => ?_
      simp [chL, mvA]
    rw [this]; exact toA_zero n48
  have hk := key 0 (by omega) 0
  rw [hz] at hk
  simp only [clone15 (trk15 b t x) (by simp [trk15]; omega), Option.bind_some, insert_ev b t x p hp (by omega)]
  exact hk
/-! the same on the other side -/
theorem mvQ_end (d y : Nat) (s : Nat) (h : d = b ∨ T.getD s false = false) : mvQ b t p rows x T s d y = mvQ b t p rows x T (s + 1) 0 y := by
  unfold mvQ
  rw [List.range_succ (n := s), List.any_append]
  rcases h with rfl | h
  · simp
  · rw [List.any_cons, h]; simp
theorem mvQ_succ (s d y : Nat) (h : T.getD s false = true) : mvQ b t p rows x T s (d + 1) y = (mvQ b t p rows x T s d y || nxS b t p rows x s d == y) := by
  unfold mvQ
  rw [List.range_succ (n := d), List.any_append, h, Bool.true_and, Bool.true_and, ← Bool.or_assoc]
  simp
theorem mvQ_mvT : chL rows.length (mvQ b t p rows x T rows.length 0) = mvT b t p rows x T := by
  unfold mvT
  refine chL_congr fun y _ => ?_
  rw [Bool.eq_iff_iff]
  unfold mvQ mvA
  simp only [List.range_zero, List.any_nil, Bool.and_false, Bool.or_false, List.any_eq_true, List.mem_range, Bool.and_eq_true, beq_iff_eq]
  constructor
  · rintro ⟨s, hs, h1, d, hd, h2⟩
    exact ⟨d, hd, s, hs, h1, h2⟩
  · rintro ⟨d, hd, s, hs, h1, h2⟩
    exact ⟨s, hs, h1, d, hd, h2⟩
end

/-! Exists3 -/
theorem idxOf_inj {α β : Type} [BEq α] [LawfulBEq α] [BEq β] [LawfulBEq β] (f : α → β) (s : α) : ∀ O : List α, (∀ x ∈ O, f x = f s → x = s) → (O.map f).idxOf (f s) = O.idxOf s
  | [], _ => rfl
  | x :: O, h => by
    have ih := idxOf_inj f s O (fun y hy => h y (List.mem_cons_of_mem _ hy))
    rw [List.map_cons, List.idxOf_cons, List.idxOf_cons, ih]
    by_cases g : x = s
    · have e1 : (x == s) = true := beq_iff_eq.2 g
      have e2 : (f x == f s) = true := beq_iff_eq.2 (congrArg f g)
      rw [e1, e2]
    · have g' : ¬ f x = f s := fun e => g (h x (List.mem_cons_self) e)
      have e1 : (x == s) = false := beq_eq_false_iff_ne.2 g
      have e2 : (f x == f s) = false := beq_eq_false_iff_ne.2 g'
      rw [e1, e2]
theorem mem_inj {α β : Type} (f : α → β) (s : α) (O : List α) (h : ∀ x ∈ O, f x = f s → x = s) : f s ∈ O.map f ↔ s ∈ O := by
  constructor
  · intro g
    obtain ⟨x, hx, e⟩ := List.mem_map.1 g
    rw [← h x hx e]; exact hx
  · exact List.mem_map_of_mem
section
variable {b t p : Nat} {rows : List (List Int)} {acc : List Bool}
theorem sx_l4 (H : RelW b (t + 1) rows acc) (hp : p ≤ t) {x : Int} (x0 : 0 ≤ x) (x1 : x ≤ 10000) (S nx : List (List Int)) (ac : List Bool) (row : List Int) {T : List Bool} (hT : T.length = rows.length) {i : Nat} (hi : S[i]? = some (toS T)) {r : RelR}
    (h : Ev (fun k => spec_ExistsTrack.l6 k (p : Int) (rows.length : Int) S nx ac (i : Int) row x (toS (mvT b t p rows x T)) (-1) 0 (b : Int) ((t + 1 : Nat) : Int) rows acc) r) :
    Ev (fun k => spec_ExistsTrack.l4 k (p : Int) (rows.length : Int) S nx ac (i : Int) row x (List.replicate rows.length 0) 0 (b : Int) ((t + 1 : Nat) : Int) rows acc) r := by
  have n48 := H.n48
  have b2 := H.b2
  have b3 := H.b3
  have t3 := H.t3
  obtain ⟨hil, hiv⟩ := List.getElem?_eq_some_iff.1 hi
  have eS : rd_L1 S (i : Int) = toS T := (rdR_of hil).trans hiv
  have key := downs (P := fun s => Ev (fun k => spec_ExistsTrack.l4 k (p : Int) (rows.length : Int) S nx ac (i : Int) row x (toS (chL rows.length (mvQ b t p rows x T s 0))) (s : Int) (b : Int) ((t + 1 : Nat) : Int) rows acc) r) rows.length
    (fun s hs ih => by
      have hrd : rd (toS T) (s : Int) = if T.getD s false = true then 1 else 0 := toS_rd (by omega)
      have e0 : ∀ d, (d = b ∨ T.getD s false = false) → chL rows.length (mvQ b t p rows x T s d) = chL rows.length (mvQ b t p rows x T (s + 1) 0) := fun d hd => chL_congr fun y _ => mvQ_end d y s hd
      refine Ev.step (f := fun k => spec_ExistsTrack.l5 k (p : Int) (rows.length : Int) S nx ac (i : Int) row x (toS (chL rows.length (mvQ b t p rows x T s 0))) (s : Int) 0 (b : Int) ((t + 1 : Nat) : Int) rows acc) (fun k => ?_) ?_
      · rw [spec_ExistsTrack.l4, if_pos (by omega)]
      cases hc : T.getD s false with
      | false =>
        rw [← e0 0 (.inr hc)] at ih
        refine Ev.step (fun k => ?_) ih
        rw [spec_ExistsTrack.l5, if_pos (by omega), if_pos (by omega), if_pos (by omega), if_pos (by omega), eS, if_pos (by rw [toS_len]; omega), hrd, hc, if_neg (by decide), w64 (by omega) (by omega)]
        rfl
      | true =>
        have key2 := downs (P := fun d => Ev (fun k => spec_ExistsTrack.l5 k (p : Int) (rows.length : Int) S nx ac (i : Int) row x (toS (chL rows.length (mvQ b t p rows x T s d))) (s : Int) (d : Int) (b : Int) ((t + 1 : Nat) : Int) rows acc) r) b
          (fun d hd ih2 => by
            obtain ⟨q1, q2, q3⟩ := nxS_ok (x := x) H hp hs hd
            have hl := letter15_ev b t b2 b3 (by omega) x x0 x1 p d hp hd
            have e : (toS (chL rows.length (mvQ b t p rows x T s d))).set (nxS b t p rows x s d) 1 = toS (chL rows.length (mvQ b t p rows x T s (d + 1))) := by
              rw [toS_set, chL_set (Q := mvQ b t p rows x T s (d + 1)) fun y _ => ?_]
              rw [mvQ_succ _ _ _ hc]
              congr 1
              rw [Bool.eq_iff_iff, beq_iff_eq, beq_iff_eq]
              exact eq_comm
            rw [← e] at ih2
            refine Ev.step (f := fun k => (spec_l15Letter.f k (b : Int) ((t + 1 : Nat) : Int) x (p : Int) (d : Int)).bind fun t350 => (if 0 ≤ t350 then (if t350 < ((rows.getD s []).length : Int) then (if 0 ≤ rd (rows.getD s []) t350 then (if rd (rows.getD s []) t350 < ((toS (chL rows.length (mvQ b t p rows x T s d))).length : Int) then spec_ExistsTrack.l5 k (p : Int) (rows.length : Int) S nx ac (i : Int) row x ((toS (chL rows.length (mvQ b t p rows x T s d))).set (rd (rows.getD s []) t350).toNat 1) (s : Int) ((d + 1 : Nat) : Int) (b : Int) ((t + 1 : Nat) : Int) rows acc else none) else none) else none) else none)) (fun k => ?_) (Ev.bind hl ?_)
            · rw [spec_ExistsTrack.l5, if_pos (by omega), if_pos (by omega), if_pos (by omega), if_pos (by omega), eS, if_pos (by rw [toS_len]; omega), hrd, hc, if_pos rfl, if_pos (by omega), if_pos (by omega), w64 (x := (d : Int) + 1) (by omega) (by omega)]
              rfl
            · refine Ev.congr (fun k => ?_) ih2
              rw [if_pos (by omega), if_pos q1, q2, if_pos (by omega), if_pos (by rw [toS_len, chL_len]; omega), Int.toNat_natCast])
          (by
            rw [e0 b (.inl rfl)]
            refine Ev.step (fun k => ?_) ih
            rw [spec_ExistsTrack.l5, if_neg (by omega), w64 (by omega) (by omega)]
            rfl)
        exact key2 0 (by omega))
    (by
      rw [mvQ_mvT]
      refine Ev.step (fun k => ?_) h
      rw [spec_ExistsTrack.l4, if_neg (by omega)])
  have e : List.replicate rows.length (0 : Int) = toS (chL rows.length (mvQ b t p rows x T 0 0)) := by
    refine List.ext_getElem (by simp [toS, chL]) fun i h1 h2 => ?_
    simp [toS, chL, mvQ]
  rw [e]
  exact key 0 (by omega)
theorem sx_search (S nx : List (List Int)) (hS : S.length ≤ 20000) (ac : List Bool) (i : Int) (row : List Int) (hrow : row.length ≤ 20000) (x : Nat) (hx : x ≤ 20000) (tt : List Int) (hto : ∀ s ∈ S, s.length ≤ 1048576) (n b' t' : Int) {r : RelR}
    (hin : tt ∈ S → Ev (fun k => spec_ExistsTrack.l3 k (p : Int) n S nx ac i (row ++ [((S.idxOf tt : Nat) : Int)]) ((x + 1 : Nat) : Int) b' t' rows acc) r)
    (hout : tt ∉ S → Ev (fun k => spec_ExistsTrack.l3 k (p : Int) n (S ++ [tt]) nx ac i (row ++ [(S.length : Int)]) ((x + 1 : Nat) : Int) b' t' rows acc) r) :
    Ev (fun k => spec_ExistsTrack.l6 k (p : Int) n S nx ac i row (x : Int) tt (-1) 0 b' t' rows acc) r := by
  have key := downs (P := fun m => (∀ j (hj : j < S.length), j < m → S[j] ≠ tt) → Ev (fun k => spec_ExistsTrack.l6 k (p : Int) n S nx ac i row (x : Int) tt (-1) (m : Int) b' t' rows acc) r) S.length
    (fun m hm ih hne => by
      refine Ev.step (f := fun k => spec_ExistsTrack.j8 k (p : Int) n S nx ac i row (x : Int) tt (-1) (m : Int) true b' t' rows acc) (fun k => ?_) ?_
      · rw [spec_ExistsTrack.l6, if_pos (by omega), decide_eq_true (show (-1 : Int) < 0 by omega)]
      have hsame := l3Same_ev S[m] tt (by have := hto _ (List.getElem_mem hm); omega)
      refine Ev.step (f := fun k => (spec_l3Same.f k S[m] tt).bind fun t354 => if t354 = true then spec_ExistsTrack.l6 k (p : Int) n S nx ac i row (x : Int) tt (m : Int) ((m + 1 : Nat) : Int) b' t' rows acc else spec_ExistsTrack.l6 k (p : Int) n S nx ac i row (x : Int) tt (-1) ((m + 1 : Nat) : Int) b' t' rows acc) (fun k => ?_) (Ev.bind hsame ?_)
      · rw [spec_ExistsTrack.j8, if_pos rfl, if_pos (by omega), if_pos (by omega), rdR_of hm, w64 (by omega) (by omega)]
        rfl
      by_cases hq : S[m] = tt
      · simp only [decide_eq_true hq, if_true]
        have hmem : tt ∈ S := hq ▸ List.getElem_mem hm
        have hidx : S.idxOf tt = m := by
          unfold List.idxOf
          rw [List.findIdx_eq hm]
          exact ⟨by simp [hq], fun j hj => by simpa using hne j (by omega) hj⟩
        have h := hin hmem
        rw [hidx] at h
        refine Ev.step (f := fun k => spec_ExistsTrack.j8 k (p : Int) n S nx ac i row (x : Int) tt (m : Int) ((m + 1 : Nat) : Int) false b' t' rows acc) (fun k => ?_) (Ev.step (fun k => ?_) h)
        · rw [spec_ExistsTrack.l6]
          by_cases g : ((m + 1 : Nat) : Int) < (S.length : Int)
          · rw [if_pos g, decide_eq_false (by omega)]
          · rw [if_neg g]
        · rw [spec_ExistsTrack.j8, if_neg (by decide), if_neg (by omega), if_pos (by omega), w64 (by omega) (by omega)]
          rfl
      · simp only [decide_eq_false hq, Bool.false_eq_true, if_false]
        refine ih (fun j hj hj2 => ?_)
        by_cases g : j = m
        · subst g; exact hq
        · exact hne j hj (by omega))
    (fun hne => by
      have hnot : tt ∉ S := fun hmem => by
        obtain ⟨j, hj, e⟩ := List.getElem_of_mem hmem
        exact hne j hj hj e
      refine Ev.step (f := fun k => spec_ExistsTrack.j8 k (p : Int) n S nx ac i row (x : Int) tt (-1) (S.length : Int) false b' t' rows acc) (fun k => ?_) (Ev.step (fun k => ?_) (hout hnot))
      · rw [spec_ExistsTrack.l6, if_neg (by omega)]
      · rw [spec_ExistsTrack.j8, if_neg (by decide), if_pos (by omega), if_pos (by omega), if_pos (by omega), w64 (by omega) (by omega)]
        rfl)
  exact key 0 (by omega) (fun j hj h => by omega)
end
/-- one set's row: what stands behind each letter, new sets put behind the list -/
def scan (g : Nat → List Bool) : Nat → Nat → List (List Bool) → List Int → List (List Bool) × List Int
  | 0, _, Ts, row => (Ts, row)
  | m + 1, x, Ts, row => if g x ∈ Ts then scan g m (x + 1) Ts (row ++ [((Ts.idxOf (g x) : Nat) : Int)]) else scan g m (x + 1) (Ts ++ [g x]) (row ++ [(Ts.length : Int)])
structure OkT (n : Nat) (Ts : List (List Bool)) : Prop where
  len : ∀ T ∈ Ts, T.length = n
theorem scan_ok {n : Nat} {g : Nat → List Bool} (hg : ∀ x, (g x).length = n) : ∀ (m x : Nat) (Ts : List (List Bool)) (row : List Int), OkT n Ts → (∀ v ∈ row, 0 ≤ v ∧ v < (Ts.length : Int)) →
    OkT n (scan g m x Ts row).1 ∧ Ts <+: (scan g m x Ts row).1 ∧ (scan g m x Ts row).1.length ≤ Ts.length + m ∧ (scan g m x Ts row).2.length = row.length + m ∧ (∀ v ∈ (scan g m x Ts row).2, 0 ≤ v ∧ v < ((scan g m x Ts row).1.length : Int))
  | 0, x, Ts, row, h, hr => ⟨h, List.prefix_refl _, Nat.le_refl _, rfl, hr⟩
  | m + 1, x, Ts, row, h, hr => by
    unfold scan
    by_cases hc : g x ∈ Ts
    · rw [if_pos hc]
      have hi := List.idxOf_lt_length_iff.2 hc
      obtain ⟨q1, q2, q3, q4, q5⟩ := scan_ok hg m (x + 1) Ts (row ++ [((Ts.idxOf (g x) : Nat) : Int)]) h (fun v hv => by
        rcases List.mem_append.1 hv with hv | hv
        · exact hr v hv
        · rw [List.mem_singleton] at hv; omega)
      exact ⟨q1, q2, by omega, by rw [q4]; simp; omega, q5⟩
    · rw [if_neg hc]
      obtain ⟨q1, q2, q3, q4, q5⟩ := scan_ok hg m (x + 1) (Ts ++ [g x]) (row ++ [(Ts.length : Int)]) ⟨fun T hT => by
        rcases List.mem_append.1 hT with hT | hT
        · exact h.len T hT
        · rw [List.mem_singleton] at hT; rw [hT]; exact hg x⟩ (fun v hv => by
        rw [List.length_append]
        rcases List.mem_append.1 hv with hv | hv
        · have := hr v hv; simp; omega
        · rw [List.mem_singleton] at hv; simp; omega)
      exact ⟨q1, (List.prefix_append _ _).trans q2, by rw [List.length_append] at q3; simp at q3; omega, by rw [q4]; simp; omega, q5⟩
section
variable {b t p : Nat} {rows : List (List Int)} {acc : List Bool}
theorem toS_map_mem {T : List Bool} {Ts : List (List Bool)} : toS T ∈ Ts.map toS ↔ T ∈ Ts := mem_inj toS T Ts (fun _ _ e => toS_inj e)
theorem toS_map_idx {T : List Bool} {Ts : List (List Bool)} : (Ts.map toS).idxOf (toS T) = Ts.idxOf T := idxOf_inj toS T Ts (fun _ _ e => toS_inj e)
theorem spec_scan (H : RelW b (t + 1) rows acc) (hp : p ≤ t) (nx : List (List Int)) (hnx : nx.length ≤ 20000) (ac : List Bool) {T : List Bool} (hT : T.length = rows.length) {i : Nat} {r : RelR} : ∀ (m x : Nat) (Ts : List (List Bool)) (row : List Int), m + x = b ^ t → Ts[i]? = some T → OkT rows.length Ts → Ts.length ≤ 1000 + x → row.length ≤ x →
    Ev (fun k => spec_ExistsTrack.l7 k (p : Int) (rows.length : Int) ((scan (fun x => mvT b t p rows (x : Int) T) m x Ts row).1.map toS) (nx ++ [(scan (fun x => mvT b t p rows (x : Int) T) m x Ts row).2]) ac (i : Int) false 0 (b : Int) ((t + 1 : Nat) : Int) rows acc) r →
    Ev (fun k => spec_ExistsTrack.l3 k (p : Int) (rows.length : Int) (Ts.map toS) nx ac (i : Int) row (x : Int) (b : Int) ((t + 1 : Nat) : Int) rows acc) r := by
  have n48 := H.n48
  have b3 := H.b3
  have t3 := H.t3
  have hM : b ^ t ≤ 9261 := pow_le16 b (by omega) t (by omega)
  have hlet := letters_ev b (by omega) t (by omega)
  intro m
  induction m with
  | zero =>
    intro x Ts row hm hi ho hl hrl h
    refine Ev.step (f := fun k => (spec_l13Letters.f k (b : Int) (t : Int)).bind fun t343 => (if (x : Int) < t343 then (if 0 ≤ (rows.length : Int) then (if ((rows.length : Int) : Int).toNat ≤ 35184372088832 then (spec_ExistsTrack.l4 k (p : Int) (rows.length : Int) (Ts.map toS) nx ac (i : Int) row (x : Int) (List.replicate ((rows.length : Int) : Int).toNat 0) 0 (b : Int) ((t + 1 : Nat) : Int) rows acc) else (none)) else (none)) else (if nx.length < 5864062014805 then (spec_ExistsTrack.l7 k (p : Int) (rows.length : Int) (Ts.map toS) (nx ++ [row]) ac (i : Int) false 0 (b : Int) ((t + 1 : Nat) : Int) rows acc) else (none)))) (fun k => ?_) (Ev.bind hlet ?_)
    · rw [spec_ExistsTrack.l3, w64 (x := ((t + 1 : Nat) : Int) - 1) (by omega) (by omega), show ((t + 1 : Nat) : Int) - 1 = (t : Int) by omega]
    · refine Ev.congr (fun k => ?_) h
      rw [if_neg (by omega), if_pos (by omega)]
      rfl
  | succ m ih =>
    intro x Ts row hm hi ho hl hrl h
    refine Ev.step (f := fun k => (spec_l13Letters.f k (b : Int) (t : Int)).bind fun t343 => (if (x : Int) < t343 then (if 0 ≤ (rows.length : Int) then (if ((rows.length : Int) : Int).toNat ≤ 35184372088832 then (spec_ExistsTrack.l4 k (p : Int) (rows.length : Int) (Ts.map toS) nx ac (i : Int) row (x : Int) (List.replicate ((rows.length : Int) : Int).toNat 0) 0 (b : Int) ((t + 1 : Nat) : Int) rows acc) else (none)) else (none)) else (if nx.length < 5864062014805 then (spec_ExistsTrack.l7 k (p : Int) (rows.length : Int) (Ts.map toS) (nx ++ [row]) ac (i : Int) false 0 (b : Int) ((t + 1 : Nat) : Int) rows acc) else (none)))) (fun k => ?_) (Ev.bind hlet ?_)
    · rw [spec_ExistsTrack.l3, w64 (x := ((t + 1 : Nat) : Int) - 1) (by omega) (by omega), show ((t + 1 : Nat) : Int) - 1 = (t : Int) by omega]
    · have hS : (Ts.map toS)[i]? = some (toS T) := by rw [List.getElem?_map, hi]; rfl
      refine Ev.congr (fun k => ?_) (sx_l4 H hp (x := (x : Int)) (by omega) (by omega) (Ts.map toS) nx ac row hT hS (sx_search (Ts.map toS) nx (by rw [List.length_map]; omega) ac (i : Int) row (by omega) x (by omega) _ (fun s hs => ?_) _ _ _ (fun hmem => ?_) (fun hnot => ?_)))
      · rw [if_pos (by omega), if_pos (by omega), if_pos (by omega), Int.toNat_natCast]
      · obtain ⟨U, hU, rfl⟩ := List.mem_map.1 hs
        rw [toS_len, ho.len U hU]; omega
      · rw [toS_map_mem] at hmem
        rw [toS_map_idx]
        unfold scan at h
        rw [if_pos hmem] at h
        exact ih (x + 1) Ts _ (by omega) hi ho (by omega) (by simp; omega) h
      · rw [toS_map_mem] at hnot
        unfold scan at h
        rw [if_neg hnot] at h
        have := ih (x + 1) (Ts ++ [mvT b t p rows (x : Int) T]) (row ++ [(Ts.length : Int)]) (by omega) (by
          rw [List.getElem?_append_left (List.getElem?_eq_some_iff.1 hi).1]; exact hi) ⟨fun U hU => by
          rcases List.mem_append.1 hU with hU | hU
          · exact ho.len U hU
          · rw [List.mem_singleton] at hU; rw [hU]; exact mvT_len⟩ (by simp; omega) (by simp; omega) h
        rw [List.map_append] at this
        rw [List.length_map]
        exact this
end

/-! Exists4 -/
def acF (acc T : List Bool) (s : Nat) : Bool := (List.range s).any fun s' => T.getD s' false && acc.getD s' false
theorem acF_succ (acc T : List Bool) (s : Nat) : acF acc T (s + 1) = (acF acc T s || (T.getD s false && acc.getD s false)) := by
  unfold acF
  rw [List.range_succ, List.any_append]
  simp
section
variable {b t p : Nat} {rows : List (List Int)} {acc : List Bool}
theorem toA_map_mem {n : Nat} (hn : n ≤ 48) {T : List Bool} {Ts : List (List Bool)} (ho : OkT n Ts) (hT : T.length = n) : toA T ∈ Ts.map toA ↔ T ∈ Ts :=
  mem_inj toA T Ts (fun U hU e => toA_inj (by rw [ho.len U hU, hT]) (by rw [ho.len U hU]; exact hn) e)
theorem toA_map_idx {n : Nat} (hn : n ≤ 48) {T : List Bool} {Ts : List (List Bool)} (ho : OkT n Ts) (hT : T.length = n) : (Ts.map toA).idxOf (toA T) = Ts.idxOf T :=
  idxOf_inj toA T Ts (fun U hU e => toA_inj (by rw [ho.len U hU, hT]) (by rw [ho.len U hU]; exact hn) e)
theorem rdAs_map {T : List Bool} {Ts : List (List Bool)} {i : Nat} (h : Ts[i]? = some T) : rdAs (Ts.map toA) (i : Int) = toA T := by
  unfold rdAs
  rw [Int.toNat_natCast, List.getD_eq_getElem?_getD, List.getElem?_map, h]
  rfl
theorem impl_scan (H : RelW b (t + 1) rows acc) (hp : p ≤ t) (nx : List (List Int)) (ac : List Bool) (b' t' : Int) {T : List Bool} (hT : T.length = rows.length) {i : Nat} {r : RelR} : ∀ (m x : Nat) (Ts : List (List Bool)) (row : List Int), m + x = b ^ t → Ts[i]? = some T → OkT rows.length Ts → Ts.length ≤ 1000 + x → row.length ≤ x →
    Ev (fun k => impl_ExistsTrack.l3 k (p : Int) (b : Int) ((t + 1 : Nat) : Int) rows acc b' t' nx ac ((scan (fun x => mvT b t p rows (x : Int) T) m x Ts row).1.map toA) (i : Int) (scan (fun x => mvT b t p rows (x : Int) T) m x Ts row).2 ((b ^ t : Nat) : Int) ((b ^ t : Nat) : Int)) r →
    Ev (fun k => impl_ExistsTrack.l3 k (p : Int) (b : Int) ((t + 1 : Nat) : Int) rows acc b' t' nx ac (Ts.map toA) (i : Int) row ((b ^ t : Nat) : Int) (x : Int)) r := by
  have n48 := H.n48
  have b2 := H.b2
  have b3 := H.b3
  have t3 := H.t3
  have hM : b ^ t ≤ 9261 := pow_le16 b (by omega) t (by omega)
  intro m
  induction m with
  | zero =>
    intro x Ts row hm hi ho hl hrl h
    rw [show x = b ^ t by omega]
    exact h
  | succ m ih =>
    intro x Ts row hm hi ho hl hrl h
    have hil := (List.getElem?_eq_some_iff.1 hi).1
    have htr := tracksOf_ev b t b2 b3 (by omega) (x : Int) (by omega) (by omega)
    have hmv := moved_ev (T := T) H hp (x := (x : Int)) (by omega) (by omega) hT ((t + 1 : Nat) : Int) acc
    refine Ev.step (f := fun k => (impl_tracksOf.f k (b : Int) (t : Int) (x : Int)).bind fun t1 => ((impl_moved.f k (b : Int) ((t + 1 : Nat) : Int) rows acc (toA T) (p : Int) t1).bind fun t2 => (if row.length < 17592186044416 then (if t2 ∈ Ts.map toA then (impl_ExistsTrack.l3 k (p : Int) (b : Int) ((t + 1 : Nat) : Int) rows acc b' t' nx ac (Ts.map toA) (i : Int) (row ++ [((Ts.map toA).idxOf t2 : Int)]) ((b ^ t : Nat) : Int) ((x + 1 : Nat) : Int)) else (if (Ts.map toA).length < 1000000 then (impl_ExistsTrack.l3 k (p : Int) (b : Int) ((t + 1 : Nat) : Int) rows acc b' t' nx ac (Ts.map toA ++ [t2]) (i : Int) (row ++ [((Ts.map toA).length : Int)]) ((b ^ t : Nat) : Int) ((x + 1 : Nat) : Int)) else (none))) else (none)))) (fun k => ?_) (Ev.bind htr (Ev.bind hmv ?_))
    · rw [impl_ExistsTrack.l3, if_pos (by omega), if_pos (by omega), if_pos (by rw [List.length_map]; omega), w64 (x := ((t + 1 : Nat) : Int) - 1) (by omega) (by omega), show ((t + 1 : Nat) : Int) - 1 = (t : Int) by omega, rdAs_map hi, w64 (x := (x : Int) + 1) (by omega) (by omega)]
      rfl
    · refine Ev.congr (fun k => if_pos (by omega)) ?_
      unfold scan at h
      by_cases hc : mvT b t p rows (x : Int) T ∈ Ts
      · rw [if_pos hc] at h
        refine Ev.congr (fun k => ?_) (ih (x + 1) Ts _ (by omega) hi ho (by omega) (by simp; omega) h)
        rw [if_pos ((toA_map_mem n48 ho mvT_len).2 hc), toA_map_idx n48 ho mvT_len]
      · rw [if_neg hc] at h
        refine Ev.congr (fun k => ?_) (ih (x + 1) (Ts ++ [mvT b t p rows (x : Int) T]) (row ++ [(Ts.length : Int)]) (by omega) (by
          rw [List.getElem?_append_left hil]; exact hi) ⟨fun U hU => by
          rcases List.mem_append.1 hU with hU | hU
          · exact ho.len U hU
          · rw [List.mem_singleton] at hU; rw [hU]; exact mvT_len⟩ (by simp; omega) (by simp; omega) h)
        rw [if_neg (fun g => hc ((toA_map_mem n48 ho mvT_len).1 g)), if_pos (by rw [List.length_map]; omega), List.map_append, List.length_map]
        rfl
theorem spec_acc (H : RelW b (t + 1) rows acc) (S nx : List (List Int)) (ac : List Bool) (hac : ac.length ≤ 20000) {T : List Bool} (hT : T.length = rows.length) {i : Nat} (hi2 : i ≤ 20000) (hi : S[i]? = some (toS T)) (b' t' : Int) {r : RelR}
    (h : Ev (fun k => spec_ExistsTrack.l2 k (p : Int) (rows.length : Int) S nx (ac ++ [acF acc T rows.length]) ((i + 1 : Nat) : Int) b' t' rows acc) r) :
    Ev (fun k => spec_ExistsTrack.l7 k (p : Int) (rows.length : Int) S nx ac (i : Int) false 0 b' t' rows acc) r := by
  have n48 := H.n48
  have al := H.al
  obtain ⟨hil, hiv⟩ := List.getElem?_eq_some_iff.1 hi
  have eS : rd_L1 S (i : Int) = toS T := (rdR_of hil).trans hiv
  have key := downs (P := fun s => Ev (fun k => spec_ExistsTrack.l7 k (p : Int) (rows.length : Int) S nx ac (i : Int) (acF acc T s) (s : Int) b' t' rows acc) r) rows.length
    (fun s hs ih => by
      have hrd : rd (toS T) (s : Int) = if T.getD s false = true then 1 else 0 := toS_rd (by omega)
      have ha : rdOf false acc (s : Int) = acc.getD s false := rfl
      rw [acF_succ] at ih
      refine Ev.step (fun k => ?_) ih
      cases hc : acF acc T s with
      | true =>
        rw [spec_ExistsTrack.l7, if_pos (by omega), if_pos rfl, w64 (by omega) (by omega)]
        rfl
      | false =>
        cases hd : T.getD s false with
        | true =>
          rw [spec_ExistsTrack.l7, if_pos (by omega), if_neg (by decide), if_pos (by omega), if_pos (by omega), if_pos (by omega), eS, if_pos (by rw [toS_len]; omega), hrd, hd, if_pos rfl, if_pos (by omega), if_pos (by omega), ha, w64 (by omega) (by omega)]
          rfl
        | false =>
          rw [spec_ExistsTrack.l7, if_pos (by omega), if_neg (by decide), if_pos (by omega), if_pos (by omega), if_pos (by omega), eS, if_pos (by rw [toS_len]; omega), hrd, hd, if_neg (by decide), w64 (by omega) (by omega)]
          rfl)
    (by
      refine Ev.step (fun k => ?_) h
      rw [spec_ExistsTrack.l7, if_neg (by omega), if_pos (by omega), w64 (by omega) (by omega)]
      rfl)
  exact key 0 (by omega)
theorem impl_acc (H : RelW b (t + 1) rows acc) (nx : List (List Int)) (ac : List Bool) (hnx : nx.length ≤ 20000) (hac : ac.length ≤ 20000) (row : List Int) (Ts : List (List Bool)) {T : List Bool} (hT : T.length = rows.length) {i : Nat} (hi2 : i ≤ 20000) (hi : Ts[i]? = some T) (b' t' : Int) {r : RelR}
    (h : Ev (fun k => impl_ExistsTrack.l2 k (p : Int) (b : Int) ((t + 1 : Nat) : Int) rows acc b' t' (nx ++ [row]) (ac ++ [acF acc T rows.length]) (Ts.map toA) ((i + 1 : Nat) : Int)) r) :
    Ev (fun k => impl_ExistsTrack.l4 k (p : Int) (b : Int) ((t + 1 : Nat) : Int) rows acc b' t' nx ac (Ts.map toA) (i : Int) row false acc (acc.length : Int) 0) r := by
  have n48 := H.n48
  have al := H.al
  have hil := (List.getElem?_eq_some_iff.1 hi).1
  have key := downs (P := fun s => Ev (fun k => impl_ExistsTrack.l4 k (p : Int) (b : Int) ((t + 1 : Nat) : Int) rows acc b' t' nx ac (Ts.map toA) (i : Int) row (acF acc T s) acc (acc.length : Int) (s : Int)) r) acc.length
    (fun s hs ih => by
      have ha : rdOf false acc (s : Int) = acc.getD s false := rfl
      have hr : rdA (toA T) (s : Int) = T.getD s false := rdA_toA (by omega)
      rw [acF_succ] at ih
      refine Ev.step (fun k => ?_) ih
      cases hc : acF acc T s with
      | true =>
        rw [impl_ExistsTrack.l4, if_pos (by omega), if_pos (by omega), if_pos (by omega), if_pos rfl, w64 (by omega) (by omega)]
        rfl
      | false =>
        cases hd : acc.getD s false with
        | true =>
          rw [impl_ExistsTrack.l4, if_pos (by omega), if_pos (by omega), if_pos (by omega), if_neg (by decide), ha, hd, if_pos rfl, if_pos (by omega), if_pos (by rw [List.length_map]; omega), if_pos (by omega), rdAs_map hi, hr, w64 (by omega) (by omega), Bool.false_or, Bool.and_true]
          rfl
        | false =>
          rw [impl_ExistsTrack.l4, if_pos (by omega), if_pos (by omega), if_pos (by omega), if_neg (by decide), ha, hd, if_neg (by decide), w64 (by omega) (by omega), Bool.false_or, Bool.and_false]
          rfl)
    (by
      rw [al]
      refine Ev.step (fun k => ?_) h
      rw [impl_ExistsTrack.l4, if_neg (by omega), if_pos (by omega), if_pos (by omega), w64 (by omega) (by omega)]
      rfl)
  exact key 0 (by omega)
def lim48 (x : Int × Int × List (List Int) × List Bool) : Option RelR := if (x.2.2.1.length : Int) > 48 then some (0, 0, ([] : List (List Int)), ([] : List Bool), false) else some (x.1, x.2.1, x.2.2.1, x.2.2.2, true)
theorem eta5E (o : Option RelR) : (o.bind fun t => some (t.1, t.2.1, t.2.2.1, t.2.2.2.1, t.2.2.2.2)) = o := by cases o <;> rfl
/-- the two searches over sets side by side -/
theorem ex_main (H : RelW b (t + 1) rows acc) (hp : p ≤ t) : ∀ (d i : Nat) (Ts : List (List Bool)) (nx : List (List Int)) (ac : List Bool), d + i = 401 → i ≤ Ts.length → 1 ≤ Ts.length → Ts.length ≤ 400 → OkT rows.length Ts → nx.length = i → ac.length = i →
    (∀ row ∈ nx, row.length = b ^ t ∧ ∀ v ∈ row, 0 ≤ v ∧ v < (Ts.length : Int)) →
    ∃ R : RelR, SmallR R ∧ Ev (fun k => spec_ExistsTrack.l2 k (p : Int) (rows.length : Int) (Ts.map toS) nx ac (i : Int) (b : Int) ((t + 1 : Nat) : Int) rows acc) R ∧
      Ev (fun k => impl_ExistsTrack.l2 k (p : Int) (b : Int) ((t + 1 : Nat) : Int) rows acc (b : Int) (t : Int) nx ac (Ts.map toA) (i : Int)) R := by
  have n48 := H.n48
  have b2 := H.b2
  have b3 := H.b3
  have t3 := H.t3
  have hM : b ^ t ≤ 9261 := pow_le16 b (by omega) t (by omega)
  have hM9 : b ^ t ≤ 27 := Nat.le_trans (Nat.pow_le_pow_left b3 t) (by
    have : t = 0 ∨ t = 1 ∨ t = 2 := by omega
    rcases this with rfl | rfl | rfl <;> decide)
  intro d
  induction d with
  | zero => intro i Ts nx ac hd hi; omega
  | succ d ih =>
    intro i Ts nx ac hd hi h1 h400 ho hnx hac hrow
    by_cases hend : i = Ts.length
    · have G : RelG (b ^ t) nx ac := ⟨by omega, by omega, by omega, by omega, fun j hj => by rw [rowAt hj]; exact (hrow _ (List.getElem_mem hj)).1, fun j hj x hx => by
        rw [rowAt hj] at hx
        have := (hrow _ (List.getElem_mem hj)).2 x hx
        omega⟩
      obtain ⟨rows', acc', q1, q2, q3, _⟩ := reduce_both (b : Int) (t : Int) G
      have main : ∃ R : RelR, SmallR R ∧ lim48 ((b : Int), (t : Int), rows', acc') = some R := by
        unfold lim48
        by_cases h : (rows'.length : Int) > 48
        · exact ⟨_, SmallR.none, if_pos h⟩
        · exact ⟨_, q3.small _ _ true, if_neg h⟩
      obtain ⟨R, hR, hf⟩ := main
      refine ⟨R, hR, ?_, ?_⟩
      · refine Ev.step (f := fun k => (spec_l13Reduce.f k (b : Int) (t : Int) nx ac).bind lim48) (fun k => ?_) (Ev.bind q1 ?_)
        · rw [spec_ExistsTrack.l2, if_neg (by rw [List.length_map]; omega), w64 (by omega) (by omega), show ((t + 1 : Nat) : Int) - 1 = (t : Int) by omega]
          rfl
        · rw [hf]; exact Ev.now _
      · refine Ev.step (f := fun k => impl_Relation_limited.f k (b : Int) (t : Int) nx ac) (fun k => ?_) ?_
        · rw [impl_ExistsTrack.l2, if_neg (by rw [List.length_map]; omega), eta5E]
        · unfold impl_Relation_limited.f
          refine Ev.bind q2 ?_
          exact Ev.congr (fun k => hf) (Ev.now _)
    · have hil : i < Ts.length := by omega
      obtain ⟨T, hT0⟩ : ∃ T, Ts[i]? = some T := ⟨_, List.getElem?_eq_getElem hil⟩
      have hT : T.length = rows.length := ho.len T (List.mem_of_getElem? hT0)
      obtain ⟨s1, s2, s3, s4, s5⟩ := scan_ok (n := rows.length) (g := fun x => mvT b t p rows (x : Int) T) (fun _ => mvT_len) (b ^ t) 0 Ts [] ho (fun v hv => by simp at hv)
      generalize hsc : scan (fun x => mvT b t p rows (x : Int) T) (b ^ t) 0 Ts [] = sc at s1 s2 s3 s4 s5
      obtain ⟨Ts', row⟩ := sc
      simp only at s1 s2 s3 s4 s5
      have hT1 : Ts'[i]? = some T := by
        obtain ⟨suf, rfl⟩ := s2
        rw [List.getElem?_append_left hil]; exact hT0
      have hil' := (List.getElem?_eq_some_iff.1 hT1).1
      have hle : Ts.length ≤ Ts'.length := s2.length_le
      have sp : ∀ {r : RelR}, Ev (fun k => spec_ExistsTrack.l2 k (p : Int) (rows.length : Int) (Ts'.map toS) (nx ++ [row]) (ac ++ [acF acc T rows.length]) ((i + 1 : Nat) : Int) (b : Int) ((t + 1 : Nat) : Int) rows acc) r →
          Ev (fun k => spec_ExistsTrack.l2 k (p : Int) (rows.length : Int) (Ts.map toS) nx ac (i : Int) (b : Int) ((t + 1 : Nat) : Int) rows acc) r := fun h => by
        have q := spec_scan H hp nx (by omega) ac hT (i := i) (b ^ t) 0 Ts [] (by omega) hT0 ho (by omega) (by simp) (by
          rw [hsc]
          exact spec_acc H (Ts'.map toS) (nx ++ [row]) ac (by omega) hT (by omega) (by rw [List.getElem?_map, hT1]; rfl) _ _ h)
        refine Ev.step (fun k => ?_) q
        rw [spec_ExistsTrack.l2, if_pos (by rw [List.length_map]; omega), if_neg (by rw [List.length_map]; omega)]
        rfl
      have im : ∀ {r : RelR}, Ev (fun k => if ((Ts'.map toA).length : Int) > 400 then some ((0, 0, [], [], false) : RelR) else impl_ExistsTrack.l4 k (p : Int) (b : Int) ((t + 1 : Nat) : Int) rows acc (b : Int) (t : Int) nx ac (Ts'.map toA) (i : Int) row false acc (acc.length : Int) 0) r →
          Ev (fun k => impl_ExistsTrack.l2 k (p : Int) (b : Int) ((t + 1 : Nat) : Int) rows acc (b : Int) (t : Int) nx ac (Ts.map toA) (i : Int)) r := fun h => by
        have q := impl_scan H hp nx ac (b : Int) (t : Int) hT (i := i) (b ^ t) 0 Ts [] (by omega) hT0 ho (by omega) (by simp) (by
          rw [hsc]
          refine Ev.step (fun k => ?_) h
          rw [impl_ExistsTrack.l3, if_neg (by omega)])
        have hpw := implPow_ev b (by omega) t (by omega)
        refine Ev.step (f := fun k => (impl_power.f k (b : Int) (t : Int)).bind fun t1 => impl_ExistsTrack.l3 k (p : Int) (b : Int) ((t + 1 : Nat) : Int) rows acc (b : Int) (t : Int) nx ac (Ts.map toA) (i : Int) [] t1 0) (fun k => ?_) (Ev.bind hpw q)
        rw [impl_ExistsTrack.l2, if_pos (by rw [List.length_map]; omega), w64 (by omega) (by omega), show ((t + 1 : Nat) : Int) - 1 = (t : Int) by omega]
      by_cases hbig : 400 < Ts'.length
      · refine ⟨(0, 0, [], [], false), SmallR.none, sp ?_, im ?_⟩
        · refine Ev.step (f := fun _ => some _) (fun k => ?_) (Ev.now _)
          rw [spec_ExistsTrack.l2, if_pos (by rw [List.length_map]; omega), if_pos (by rw [List.length_map]; omega)]
        · exact Ev.congr (fun k => if_pos (by rw [List.length_map]; omega)) (Ev.now _)
      · obtain ⟨R, hR, q1, q2⟩ := ih (i + 1) Ts' (nx ++ [row]) (ac ++ [acF acc T rows.length]) (by omega) (by omega) (by omega) (by omega) s1 (by simp [hnx]) (by simp [hac]) (fun rw_ hrw => by
          rcases List.mem_append.1 hrw with g | g
          · exact ⟨(hrow _ g).1, fun v hv => by have := (hrow _ g).2 v hv; omega⟩
          · rw [List.mem_singleton] at g
            subst g
            exact ⟨by rw [s4]; simp, s5⟩)
        refine ⟨R, hR, sp q1, im ?_⟩
        exact Ev.congr (fun k => if_neg (by rw [List.length_map]; omega)) (impl_acc H nx ac (by omega) (by omega) row Ts' hT (by omega) hT1 _ _ q2)
end

/-! l4Has -/
theorem l4Has_ev (l : List Int) (a : Int) (hl : l.length ≤ 4611686018427387904) : Ev (fun k => spec_l4Has.f k l a) (decide (a ∈ l)) := by
  have key := downs (P := fun i => Ev (fun k => spec_l4Has.l0 k l a (i : Int)) (decide (a ∈ l.drop i))) l.length
    (fun i hi ih => by
      rw [drop_at hi]
      by_cases e : l[i] = a
      · refine Ev.step (f := fun _ => some true) (fun k => ?_) (Ev.eq (Ev.now _) (by simp [e]))
        rw [spec_l4Has.l0, if_pos (by omega), if_pos (by omega), rd_of hi, if_pos e]
      · refine Ev.step (fun k => ?_) (Ev.eq ih (decide_eq_decide.2 ⟨fun h => List.mem_cons.2 (Or.inr h), fun h => (List.mem_cons.1 h).resolve_left (fun h => e h.symm)⟩))
        rw [spec_l4Has.l0, if_pos (by omega), if_pos (by omega), rd_of hi, if_neg e, w64 (by omega) (by omega)]
        rfl)
    (by
      refine Ev.step (f := fun _ => some false) (fun k => ?_) (Ev.eq (Ev.now _) (by simp))
      rw [spec_l4Has.l0, if_neg (by omega)])
  exact key 0 (by omega)

/-! Exists5 -/
theorem cnt_le : ∀ (T U : List Bool), T.length = U.length → (∀ i, T.getD i false = true → U.getD i false = true) → T.count true ≤ U.count true
  | [], [], _, _ => Nat.le_refl _
  | [], _ :: _, h, _ => by simp at h
  | _ :: _, [], h, _ => by simp at h
  | a :: T, c :: U, h, hi => by
    have ih := cnt_le T U (by simpa using h) (fun i g => by simpa using hi (i + 1) (by simpa using g))
    have h0 := hi 0
    simp at h0
    cases a <;> cases c <;> simp_all <;> omega
theorem cnt_lt : ∀ (T U : List Bool), T.length = U.length → (∀ i, T.getD i false = true → U.getD i false = true) → T ≠ U → T.count true < U.count true
  | [], [], _, _, hn => absurd rfl hn
  | [], _ :: _, h, _, _ => by simp at h
  | _ :: _, [], h, _, _ => by simp at h
  | a :: T, c :: U, h, hi, hn => by
    have hl : T.length = U.length := by simpa using h
    have hs : ∀ i, T.getD i false = true → U.getD i false = true := fun i g => by simpa using hi (i + 1) (by simpa using g)
    have h0 := hi 0
    have hle := cnt_le T U hl hs
    by_cases e : T = U
    · subst e
      cases a <;> cases c <;> simp_all
    · have ih := cnt_lt T U hl hs e
      cases a <;> cases c <;> simp_all <;> omega
theorem chL_setv {n : Nat} {P Q : Nat → Bool} {j : Nat} {c : Bool} (hj : Q j = c) (h : ∀ x, x < n → x ≠ j → Q x = P x) : (chL n P).set j c = chL n Q := by
  refine List.ext_getElem (by simp [chL]) fun i h1 h2 => ?_
  have hi : i < n := by simpa [chL] using h2
  rw [List.getElem_set]
  by_cases e : j = i
  · subst e
    rw [if_pos rfl]
    simp [chL, hj]
  · rw [if_neg e]
    simp [chL, h _ hi (fun q => e q.symm)]
theorem stA_out {T : List Bool} {i : Nat} (h : T.length ≤ i) (hi : i < 48) : stA (toA T) (i : Int) false = toA T := by
  refine Subtype.ext ?_
  show ((T ++ List.replicate 48 false).take 48).set (i : Int).toNat false = _
  rw [Int.toNat_natCast]
  refine List.ext_getElem (by simp [toA]) fun j h1 h2 => ?_
  rw [List.getElem_set]
  by_cases e : i = j
  · subst e
    rw [if_pos rfl]
    simp only [toA, List.getElem_take]
    rw [List.getElem_append_right h, List.getElem_replicate]
  · rw [if_neg e]
    rfl
section
variable {b t p : Nat} {rows : List (List Int)} {acc : List Bool}
def uni (T U : List Bool) : List Bool := chL T.length fun y => T.getD y false || U.getD y false
theorem uni_len (T U : List Bool) : (uni T U).length = T.length := chL_len _ _
/-- the set that grows by all that can be reached over zeros -/
def grw (b t p : Nat) (rows : List (List Int)) : Nat → List Bool
  | 0 => chL rows.length fun y => y == 0
  | m + 1 => uni (grw b t p rows m) (mvT b t p rows 0 (grw b t p rows m))
theorem grw_len : ∀ m, (grw b t p rows m).length = rows.length
  | 0 => chL_len _ _
  | m + 1 => by rw [grw, uni_len, grw_len m]
theorem grw_sub (m : Nat) : ∀ i, (grw b t p rows m).getD i false = true → (grw b t p rows (m + 1)).getD i false = true := fun i h => by
  have hi : i < (grw b t p rows m).length := by
    refine Classical.byContradiction fun g => ?_
    rw [List.getD_eq_getElem?_getD, List.getElem?_eq_none (by omega)] at h
    cases h
  rw [grw, uni, chL_get hi, h]
  rfl
theorem grw_stay {m : Nat} (h : grw b t p rows (m + 1) = grw b t p rows m) : ∀ d, grw b t p rows (m + d + 1) = grw b t p rows (m + d)
  | 0 => h
  | d + 1 => by
    have ih := grw_stay h d
    show uni (grw b t p rows (m + d + 1)) (mvT b t p rows 0 (grw b t p rows (m + d + 1))) = grw b t p rows (m + d + 1)
    rw [ih]
    exact ih
theorem grw_fix (n1 : 1 ≤ rows.length) : grw b t p rows (rows.length + 1) = grw b t p rows rows.length := by
  refine Classical.byContradiction fun hne => ?_
  have hn : ∀ m, m ≤ rows.length → grw b t p rows (m + 1) ≠ grw b t p rows m := fun m hm e => hne (by
    have := grw_stay e (rows.length - m)
    rwa [show m + (rows.length - m) = rows.length by omega] at this)
  have key : ∀ m, m ≤ rows.length + 1 → m + 1 ≤ (grw b t p rows m).count true := by
    intro m
    induction m with
    | zero =>
      intro _
      have : (grw b t p rows 0).getD 0 false = true := by rw [grw, chL_get (by omega)]; rfl
      have hm : true ∈ grw b t p rows 0 := by
        rw [List.getD_eq_getElem?_getD, List.getElem?_eq_getElem (by rw [grw_len]; omega)] at this
        exact this ▸ List.getElem_mem _
      exact List.count_pos_iff.2 hm
    | succ m ih =>
      intro hm
      have h1 := cnt_lt (grw b t p rows m) (grw b t p rows (m + 1)) (by rw [grw_len, grw_len]) (grw_sub m) (fun e => hn m (by omega) e.symm)
      have h2 := ih (by omega)
      omega
  have h1 := key (rows.length + 1) (Nat.le_refl _)
  have h2 : (grw b t p rows (rows.length + 1)).count true ≤ (grw b t p rows (rows.length + 1)).length := List.count_le_length
  rw [grw_len] at h2
  omega
def MZ (b t p : Nat) (rows : List (List Int)) (q : Int) : List Int := (List.range b).map fun d => ((nxS b t p rows 0 q.toNat d : Nat) : Int)
theorem mvT_get {T : List Bool} (hT : T.length = rows.length) {x : Int} {y : Nat} (hy : y < rows.length) : (mvT b t p rows x T).getD y false = true ↔ ∃ s d, s < rows.length ∧ d < b ∧ T.getD s false = true ∧ nxS b t p rows x s d = y := by
  unfold mvT
  rw [chL_get hy]
  unfold mvA
  simp only [List.any_eq_true, List.mem_range, Bool.and_eq_true, beq_iff_eq]
  constructor
  · rintro ⟨d, hd, s, hs, h1, h2⟩
    exact ⟨s, d, hs, hd, h1, h2⟩
  · rintro ⟨s, d, hs, hd, h1, h2⟩
    exact ⟨d, hd, s, hs, h1, h2⟩
/-- what the rounds find is what the search by breadth finds -/
theorem grw_bfs (H : RelW b (t + 1) rows acc) (hp : p ≤ t) {F : List Int} (hF : Bfs (MZ b t p rows) [0] 0 F) : grw b t p rows rows.length = chL rows.length fun y => decide ((y : Int) ∈ F) := by
  have n1 := H.n1
  have h0F : (0 : Int) ∈ F := hF.pre.subset (by simp)
  have sub : ∀ m y, y < rows.length → (grw b t p rows m).getD y false = true → (y : Int) ∈ F := by
    intro m
    induction m with
    | zero =>
      intro y hy h
      rw [grw, chL_get hy] at h
      have : y = 0 := by simpa using h
      subst this
      exact h0F
    | succ m ih =>
      intro y hy h
      rw [grw, uni, chL_get (by rw [grw_len]; exact hy), Bool.or_eq_true] at h
      rcases h with h | h
      · exact ih y hy h
      · obtain ⟨s, d, hs, hd, h1, h2⟩ := (mvT_get (grw_len m) hy).1 h
        have hsF := ih s hs h1
        obtain ⟨j, hj, e⟩ := List.getElem_of_mem hsF
        have := hF.closed j hj (Nat.zero_le _) ((nxS b t p rows 0 s d : Nat) : Int) (by
          rw [e]
          exact List.mem_map.2 ⟨d, List.mem_range.2 hd, by rw [Int.toNat_natCast]⟩)
        rwa [h2] at this
  have sup : ∀ v ∈ F, (0 ≤ v ∧ v < (rows.length : Int)) ∧ (grw b t p rows rows.length).getD v.toNat false = true := by
    refine Bfs.in (P := fun v => (0 ≤ v ∧ v < (rows.length : Int)) ∧ (grw b t p rows rows.length).getD v.toNat false = true) (fun v hv x hx => ?_) hF (fun x hx => ?_)
    · obtain ⟨d, hd, rfl⟩ := List.mem_map.1 hx
      have hd := List.mem_range.1 hd
      obtain ⟨_, _, q3⟩ := nxS_ok (x := 0) H hp (s := v.toNat) (by omega) hd
      refine ⟨⟨by omega, by omega⟩, ?_⟩
      rw [Int.toNat_natCast, ← grw_fix n1, grw, uni, chL_get (by rw [grw_len]; exact q3), Bool.or_eq_true]
      exact .inr ((mvT_get (grw_len _) q3).2 ⟨v.toNat, d, by omega, hd, hv.2, rfl⟩)
    · rw [List.mem_singleton] at hx
      subst hx
      refine ⟨⟨by omega, by omega⟩, ?_⟩
      have : ∀ m, (grw b t p rows m).getD 0 false = true := by
        intro m
        induction m with
        | zero => rw [grw, chL_get (by omega)]; rfl
        | succ m ih => exact grw_sub m 0 ih
      exact this _
  refine List.ext_getElem (by rw [grw_len, chL_len]) fun y h1 h2 => ?_
  have hy : y < rows.length := by rw [grw_len] at h1; exact h1
  have e1 : (grw b t p rows rows.length)[y] = (grw b t p rows rows.length).getD y false := by rw [List.getD_eq_getElem?_getD, List.getElem?_eq_getElem h1]; rfl
  have e2 : (chL rows.length fun y => decide ((y : Int) ∈ F))[y] = decide ((y : Int) ∈ F) := by simp [chL]
  rw [e1, e2, Bool.eq_iff_iff, decide_eq_true_eq]
  constructor
  · exact sub _ y hy
  · intro h
    have := (sup _ h).2
    rwa [Int.toNat_natCast] at this
/-! the rounds of the program -/
theorem impl_uni (n1 : rows.length ≤ 48) {T U : List Bool} (hT : T.length = rows.length) (hU : U.length = rows.length) (c0 c1 : Int) (R : List (List Int)) (A : List Bool) (x7 : List Int) (x43 : Int) (m : Nat) (hm : m ≤ 1000) {r : RelR}
    (h : Ev (fun k => impl_ExistsTrack.l0 k (p : Int) c0 c1 R A (toA (uni T U)) x7 x43 ((m + 1 : Nat) : Int)) r) :
    Ev (fun k => impl_ExistsTrack.l1 k (p : Int) c0 c1 R A (toA T) x7 x43 (m : Int) (toA U) 0) r := by
  have key := downs (P := fun j => Ev (fun k => impl_ExistsTrack.l1 k (p : Int) c0 c1 R A (toA (chL T.length fun y => T.getD y false || (decide (y < j) && U.getD y false))) x7 x43 (m : Int) (toA U) (j : Int)) r) 48
    (fun j hj ih => by
      refine Ev.step (fun k => ?_) ih
      have hru : rdA (toA U) (j : Int) = U.getD j false := rdA_toA hj
      by_cases hjn : j < T.length
      · have hrd : rdA (toA (chL T.length fun y => T.getD y false || (decide (y < j) && U.getD y false))) (j : Int) = T.getD j false := by
          rw [rdA_toA hj, chL_get hjn]; simp
        have hst : ∀ c : Bool, (T.getD j false || U.getD j false) = c → stA (toA (chL T.length fun y => T.getD y false || (decide (y < j) && U.getD y false))) (j : Int) c = toA (chL T.length fun y => T.getD y false || (decide (y < j + 1) && U.getD y false)) := fun c hc => by
          rw [stA_toA (by rw [chL_len]; exact hjn) (by rw [chL_len]; omega), chL_setv (Q := fun y => T.getD y false || (decide (y < j + 1) && U.getD y false))]
          · rw [← hc]; simp
          · intro x _ hx
            have : decide (x < j + 1) = decide (x < j) := by
              rw [decide_eq_decide]; omega
            rw [this]
        cases hc : T.getD j false with
        | true =>
          rw [impl_ExistsTrack.l1, if_pos (by omega), if_pos (by omega), hrd, hc, if_pos rfl, hst true (by rw [hc]; rfl), w64 (by omega) (by omega)]
          rfl
        | false =>
          rw [impl_ExistsTrack.l1, if_pos (by omega), if_pos (by omega), hrd, hc, if_neg (by decide), hru, hst (U.getD j false) (by rw [hc]; rfl), w64 (by omega) (by omega)]
          rfl
      · have hrd : rdA (toA (chL T.length fun y => T.getD y false || (decide (y < j) && U.getD y false))) (j : Int) = false := by
          rw [rdA_toA hj, List.getD_eq_getElem?_getD, List.getElem?_eq_none (by rw [chL_len]; omega)]; rfl
        have hu0 : U.getD j false = false := by rw [List.getD_eq_getElem?_getD, List.getElem?_eq_none (by omega)]; rfl
        have e : chL T.length (fun y => T.getD y false || (decide (y < j) && U.getD y false)) = chL T.length (fun y => T.getD y false || (decide (y < j + 1) && U.getD y false)) := chL_congr fun y hy => by
          have : decide (y < j + 1) = decide (y < j) := by rw [decide_eq_decide]; omega
          rw [this]
        rw [impl_ExistsTrack.l1, if_pos (by omega), if_pos (by omega), hrd, if_neg (by decide), hru, hu0, stA_out (by rw [chL_len]; omega) hj, e, w64 (by omega) (by omega)]
        rfl)
    (by
      have e : chL T.length (fun y => T.getD y false || (decide (y < 48) && U.getD y false)) = uni T U := chL_congr fun y hy => by
        rw [decide_eq_true (show y < 48 by omega), Bool.true_and]
      rw [e]
      refine Ev.step (fun k => ?_) h
      rw [impl_ExistsTrack.l1, if_neg (by omega), w64 (by omega) (by omega)]
      rfl)
  have e : chL T.length (fun y => T.getD y false || (decide (y < 0) && U.getD y false)) = T := by
    refine List.ext_getElem (by rw [chL_len]) fun i h1 h2 => ?_
    simp [chL, List.getD_eq_getElem?_getD, h2]
  have := key 0 (by omega)
  rw [e] at this
  exact this
theorem impl_rounds (H : RelW b (t + 1) rows acc) (hp : p ≤ t) {r : RelR}
    (h : Ev (fun k => impl_ExistsTrack.l2 k (p : Int) (b : Int) ((t + 1 : Nat) : Int) rows acc (b : Int) (t : Int) [] [] [toA (grw b t p rows rows.length)] 0) r) :
    Ev (fun k => impl_ExistsTrack.l0 k (p : Int) (b : Int) ((t + 1 : Nat) : Int) rows acc oneA (trk15 b t 0) (rows.length : Int) 0) r := by
  have n1 := H.n1
  have n48 := H.n48
  have t3 := H.t3
  have key := downs (P := fun m => Ev (fun k => impl_ExistsTrack.l0 k (p : Int) (b : Int) ((t + 1 : Nat) : Int) rows acc (toA (grw b t p rows m)) (trk15 b t 0) (rows.length : Int) (m : Int)) r) rows.length
    (fun m hm ih => by
      have hmv := moved_ev (T := grw b t p rows m) H hp (x := 0) (by omega) (by omega) (grw_len m) ((t + 1 : Nat) : Int) acc
      refine Ev.step (f := fun k => (impl_moved.f k (b : Int) ((t + 1 : Nat) : Int) rows acc (toA (grw b t p rows m)) (p : Int) (trk15 b t 0)).bind fun t1 => impl_ExistsTrack.l1 k (p : Int) (b : Int) ((t + 1 : Nat) : Int) rows acc (toA (grw b t p rows m)) (trk15 b t 0) (rows.length : Int) (m : Int) t1 0) (fun k => ?_) (Ev.bind hmv (impl_uni n48 (grw_len m) mvT_len _ _ _ _ _ _ m (by omega) ih))
      rw [impl_ExistsTrack.l0, if_pos (by omega)])
    (by
      refine Ev.step (fun k => ?_) h
      rw [impl_ExistsTrack.l0, if_neg (by omega), w64 (by omega) (by omega), show ((t + 1 : Nat) : Int) - 1 = (t : Int) by omega])
  have e : oneA = toA (grw b t p rows 0) := by
    refine Subtype.ext ?_
    show true :: List.replicate 47 false = ((chL rows.length fun y => y == 0) ++ List.replicate 48 false).take 48
    refine List.ext_getElem (by simp) fun i h1 h2 => ?_
    simp only [List.length_cons, List.length_replicate] at h1
    rw [List.getElem_take]
    by_cases hi : i < rows.length
    · rw [List.getElem_append_left (by rw [chL_len]; exact hi)]
      cases i with
      | zero => simp [chL]
      | succ i =>
        rw [List.getElem_cons_succ, List.getElem_replicate]
        simp [chL]
    · rw [List.getElem_append_right (by rw [chL_len]; omega)]
      cases i with
      | zero => omega
      | succ i => rw [List.getElem_cons_succ, List.getElem_replicate, List.getElem_replicate]
  rw [e]
  exact key 0 (by omega)
end

/-! Exists6 -/
section
variable {b t p : Nat} {rows : List (List Int)} {acc : List Bool}
theorem l15Set_ev {n : Nat} (hn : n ≤ 48) {F : List Int} (hF : ∀ x ∈ F, 0 ≤ x ∧ x < (n : Int)) (hl : F.length ≤ 20000) : Ev (fun k => spec_l15Set.f k (n : Int) F) (toS (chL n fun y => decide ((y : Int) ∈ F))) := by
  have key := downs (P := fun i => Ev (fun k => spec_l15Set.l0 k F (toS (chL n fun y => decide ((y : Int) ∈ F.take i))) (i : Int)) (toS (chL n fun y => decide ((y : Int) ∈ F)))) F.length
    (fun i hi ih => by
      have hx := hF _ (List.getElem_mem hi)
      refine Ev.step (fun k => ?_) ih
      have e : (toS (chL n fun y => decide ((y : Int) ∈ F.take i))).set F[i].toNat 1 = toS (chL n fun y => decide ((y : Int) ∈ F.take (i + 1))) := by
        rw [toS_set, chL_setv (Q := fun y => decide ((y : Int) ∈ F.take (i + 1)))]
        · rw [decide_eq_true_eq, List.take_succ_eq_append_getElem hi]
          refine List.mem_append_right _ ?_
          rw [List.mem_singleton]; omega
        · intro y _ hy
          rw [decide_eq_decide, List.take_succ_eq_append_getElem hi, List.mem_append, List.mem_singleton]
          constructor
          · rintro (h | h)
            · exact h
            · omega
          · exact .inl
      rw [spec_l15Set.l0, if_pos (by omega), if_pos (by omega), rd_of hi, if_pos hx.1, if_pos (by rw [toS_len, chL_len]; exact hx.2), e, w64 (by omega) (by omega)]
      rfl)
    (by
      refine Ev.step (f := fun _ => some _) (fun k => ?_) (Ev.now _)
      rw [spec_l15Set.l0, if_neg (by omega), List.take_length])
  unfold spec_l15Set.f
  have h := key 0 (by omega)
  have e : List.replicate ((n : Int) : Int).toNat (0 : Int) = toS (chL n fun y => decide ((y : Int) ∈ F.take 0)) := by
    refine List.ext_getElem (by simp [toS, chL]) fun i h1 h2 => ?_
    simp [toS, chL]
  refine Ev.congr (fun k => ?_) h
  rw [if_pos (by omega), if_pos (by omega), e]
  rfl
theorem MZ_len (q : Int) : (MZ b t p rows q).length = b := by simp [MZ]
theorem MZ_drop {q : Int} {d : Nat} (hd : d < b) : (MZ b t p rows q).drop d = ((nxS b t p rows 0 q.toNat d : Nat) : Int) :: (MZ b t p rows q).drop (d + 1) := by
  rw [drop_at (by rw [MZ_len]; exact hd)]
  simp [MZ]
structure OkF (n : Nat) (L : List Int) : Prop where
  inr : ∀ x ∈ L, 0 ≤ x ∧ x < (n : Int)
  nod : L.Nodup
theorem OkF.le {n : Nat} {L : List Int} (H : OkF n L) : L.length ≤ n := nodup_len n L H.nod H.inr
theorem spec_l1 (H : RelW b (t + 1) rows acc) (hp : p ≤ t) (i : Nat) (hi : i ≤ 1000) (q : Nat) (hq : q < rows.length) {r : RelR} : ∀ d, d ≤ b → ∀ O : List Int, OkF rows.length O → O[i]? = some (q : Int) →
    (Ev (fun k => spec_ExistsTrack.l0 k (p : Int) (rows.length : Int) (addAll O ((MZ b t p rows (q : Int)).drop d)) ((i + 1 : Nat) : Int) (b : Int) ((t + 1 : Nat) : Int) rows acc) r) →
    Ev (fun k => spec_ExistsTrack.l1 k (p : Int) (rows.length : Int) O (i : Int) (d : Int) (b : Int) ((t + 1 : Nat) : Int) rows acc) r := by
  have n48 := H.n48
  have b2 := H.b2
  have b3 := H.b3
  have t3 := H.t3
  exact downs (P := fun d => ∀ O : List Int, OkF rows.length O → O[i]? = some (q : Int) →
      (Ev (fun k => spec_ExistsTrack.l0 k (p : Int) (rows.length : Int) (addAll O ((MZ b t p rows (q : Int)).drop d)) ((i + 1 : Nat) : Int) (b : Int) ((t + 1 : Nat) : Int) rows acc) r) →
      Ev (fun k => spec_ExistsTrack.l1 k (p : Int) (rows.length : Int) O (i : Int) (d : Int) (b : Int) ((t + 1 : Nat) : Int) rows acc) r) b
    (fun d hd ih O hO hOi h => by
      obtain ⟨hil, hiv⟩ := List.getElem?_eq_some_iff.1 hOi
      have ro : rd O (i : Int) = (q : Int) := (rd_of hil).trans hiv
      have hol := hO.le
      obtain ⟨q1, q2, q3⟩ := nxS_ok (x := 0) H hp hq hd
      have hlt := letter15_ev b t b2 b3 (by omega) 0 (by omega) (by omega) p d hp hd
      have hhas := l4Has_ev O ((nxS b t p rows 0 q d : Nat) : Int) (by omega)
      rw [MZ_drop hd, addAll_cons, Int.toNat_natCast] at h
      refine Ev.step (f := fun k => (spec_l15Letter.f k (b : Int) ((t + 1 : Nat) : Int) 0 (p : Int) (d : Int)).bind fun t313 => (if 0 ≤ t313 then (if t313 < ((rows.getD q []).length : Int) then ((spec_l4Has.f k O (rd (rows.getD q []) t313)).bind fun t315 => (if t315 = true then (spec_ExistsTrack.l1 k (p : Int) (rows.length : Int) O (i : Int) ((d + 1 : Nat) : Int) (b : Int) ((t + 1 : Nat) : Int) rows acc) else (if O.length < 17592186044416 then (spec_ExistsTrack.l1 k (p : Int) (rows.length : Int) (O ++ [rd (rows.getD q []) t313]) (i : Int) ((d + 1 : Nat) : Int) (b : Int) ((t + 1 : Nat) : Int) rows acc) else (none)))) else (none)) else (none))) (fun k => ?_) (Ev.bind hlt ?_)
      · rw [spec_ExistsTrack.l1, if_pos (by omega), if_pos (by omega), if_pos (by omega), ro, if_pos (by omega), if_pos (by omega), w64 (by omega) (by omega)]
        rfl
      · refine Ev.congr (f := fun k => (spec_l4Has.f k O ((nxS b t p rows 0 q d : Nat) : Int)).bind fun t315 => (if t315 = true then (spec_ExistsTrack.l1 k (p : Int) (rows.length : Int) O (i : Int) ((d + 1 : Nat) : Int) (b : Int) ((t + 1 : Nat) : Int) rows acc) else (spec_ExistsTrack.l1 k (p : Int) (rows.length : Int) (O ++ [((nxS b t p rows 0 q d : Nat) : Int)]) (i : Int) ((d + 1 : Nat) : Int) (b : Int) ((t + 1 : Nat) : Int) rows acc))) (fun k => ?_) (Ev.bind hhas ?_)
        · rw [if_pos (by omega), if_pos q1, q2, if_pos (show O.length < 17592186044416 by omega)]
        · by_cases hm : ((nxS b t p rows 0 q d : Nat) : Int) ∈ O
          · rw [addOne, if_pos hm] at h
            simp only [decide_eq_true hm, if_true]
            exact ih O hO hOi h
          · rw [addOne, if_neg hm] at h
            simp only [decide_eq_false hm, Bool.false_eq_true, if_false]
            refine ih _ ⟨fun x hx => ?_, ?_⟩ (by rw [List.getElem?_append_left hil]; exact hOi) h
            · rcases List.mem_append.1 hx with g | g
              · exact hO.inr x g
              · rw [List.mem_singleton] at g; omega
            · have := nodup_addOne hO.nod ((nxS b t p rows 0 q d : Nat) : Int)
              rwa [addOne, if_neg hm] at this)
    (fun O hO hOi h => by
      rw [List.drop_of_length_le (by rw [MZ_len]; exact Nat.le_refl _), addAll_nil] at h
      refine Ev.step (fun k => ?_) h
      rw [spec_ExistsTrack.l1, if_neg (by omega), w64 (by omega) (by omega)]
      rfl)
theorem spec_start (H : RelW b (t + 1) rows acc) (hp : p ≤ t) {L F : List Int} {i : Nat} (hB : Bfs (MZ b t p rows) L i F) {r : RelR} : OkF rows.length L → i ≤ L.length →
    Ev (fun k => spec_ExistsTrack.l2 k (p : Int) (rows.length : Int) [toS (chL rows.length fun y => decide ((y : Int) ∈ F))] [] [] 0 (b : Int) ((t + 1 : Nat) : Int) rows acc) r →
    Ev (fun k => spec_ExistsTrack.l0 k (p : Int) (rows.length : Int) L (i : Int) (b : Int) ((t + 1 : Nat) : Int) rows acc) r := by
  have n48 := H.n48
  induction hB with
  | @done L i hk =>
    intro hO hi h
    have hol := hO.le
    have hs := l15Set_ev n48 hO.inr (by omega)
    refine Ev.step (f := fun k => (spec_l15Set.f k (rows.length : Int) L).bind fun t319 => spec_ExistsTrack.l2 k (p : Int) (rows.length : Int) [t319] [] [] 0 (b : Int) ((t + 1 : Nat) : Int) rows acc) (fun k => ?_) (Ev.bind hs h)
    rw [spec_ExistsTrack.l0, if_neg (by omega)]
  | @step L F i hk hB ih =>
    intro hO hi h
    have hol := hO.le
    have hq := hO.inr (L[i]) (List.getElem_mem hk)
    obtain ⟨q, hq0⟩ : ∃ q : Nat, L[i] = (q : Int) := ⟨L[i].toNat, by omega⟩
    have hql : q < rows.length := by omega
    have hM : ∀ x ∈ MZ b t p rows L[i], 0 ≤ x ∧ x < (rows.length : Int) := fun x hx => by
      obtain ⟨d, hd, rfl⟩ := List.mem_map.1 hx
      obtain ⟨_, _, q3⟩ := nxS_ok (x := 0) H hp (s := L[i].toNat) (by omega) (List.mem_range.1 hd)
      omega
    have hO2 : OkF rows.length (addAll L (MZ b t p rows L[i])) := ⟨fun x hx => by
      rcases mem_addAll.1 hx with g | g
      · exact hO.inr x g
      · exact hM x g, nodup_addAll _ hO.nod⟩
    have hpre := (addAll_pre (MZ b t p rows L[i]) L).length_le
    have h2 := ih hO2 (by omega) h
    refine Ev.step (fun k => ?_) (spec_l1 H hp i (by omega) q hql 0 (by omega) L hO (by rw [List.getElem?_eq_getElem hk, hq0]) (by rw [List.drop_zero, ← hq0]; exact h2))
    rw [spec_ExistsTrack.l0, if_pos (by omega)]
    rfl
theorem exists_inner (H : RelW b (t + 1) rows acc) (hp : p ≤ t) : ∃ R : RelR, SmallR R ∧ Ev (fun k => spec_ExistsTrack.l0 k (p : Int) (rows.length : Int) [0] 0 (b : Int) ((t + 1 : Nat) : Int) rows acc) R ∧
    Ev (fun k => impl_ExistsTrack.l0 k (p : Int) (b : Int) ((t + 1 : Nat) : Int) rows acc oneA (trk15 b t 0) (rows.length : Int) 0) R := by
  have n1 := H.n1
  obtain ⟨F, hF⟩ := Bfs.exist (MZ b t p rows) rows.length (fun v hv x hx => by
    obtain ⟨d, hd, rfl⟩ := List.mem_map.1 hx
    obtain ⟨_, _, q3⟩ := nxS_ok (x := 0) H hp (s := v.toNat) (by omega) (List.mem_range.1 hd)
    omega) [0] 0 (by simp) (fun x hx => by rw [List.mem_singleton] at hx; omega)
  have e := grw_bfs H hp hF
  obtain ⟨R, hR, q1, q2⟩ := ex_main H hp 401 0 [grw b t p rows rows.length] [] [] rfl (by simp) (by simp) (by simp) ⟨fun T hT => by rw [List.mem_singleton] at hT; rw [hT]; exact grw_len _⟩ rfl rfl (fun row hrow => by simp at hrow)
  refine ⟨R, hR, spec_start H hp hF ⟨fun x hx => by rw [List.mem_singleton] at hx; omega, by simp⟩ (by simp) ?_, impl_rounds H hp q2⟩
  rw [← e]
  exact q1
end
theorem existsRel_both (b t : Int) (rows : List (List Int)) (acc : List Bool) (v : Int) (hl : rows.length ≤ 1048576) (hr : ∀ i (h : i < rows.length), rows[i].length ≤ 1048576) :
    ∃ R : RelR, SmallR R ∧ Ev (fun k => spec_ExistsTrack.f k b t rows acc v) R ∧ Ev (fun k => impl_ExistsTrack.f k b t rows acc v) R := by
  have hS := specRel_ev b t rows acc hl hr
  have hI := implRel_ev b t rows acc hl hr
  have no : Ev (fun k => spec_ExistsTrack.j0 k v true b t rows acc) ((0, 0, [], [], false) : RelR) := by
    refine Ev.step (f := fun _ => some _) (fun k => ?_) (Ev.now _)
    rw [spec_ExistsTrack.j0, if_pos rfl]
  unfold spec_ExistsTrack.f impl_ExistsTrack.f
  cases h : isRelW b t rows acc with
  | false =>
    rw [h] at hS hI
    refine ⟨_, SmallR.none, Ev.bind hS ?_, Ev.bind hI ?_⟩
    · simp only [Bool.false_eq_true, if_false]
      exact no
    · simp only [Bool.false_eq_true, if_false]
      exact Ev.now _
  | true =>
    rw [h] at hS hI
    obtain ⟨b', t', rfl, rfl, H⟩ := isRelW_true h
    by_cases hv : v < 0
    · refine ⟨_, SmallR.none, Ev.bind hS ?_, Ev.bind hI ?_⟩
      · simp only [if_true, if_pos hv]
        exact no
      · simp only [if_true, if_pos hv]
        exact Ev.now _
    · by_cases hv2 : v ≥ (t' : Int)
      · refine ⟨_, SmallR.none, Ev.bind hS ?_, Ev.bind hI ?_⟩
        · simp only [if_true, if_neg hv, decide_eq_true hv2]
          exact no
        · simp only [if_true, if_neg hv, if_pos hv2]
          exact Ev.now _
      · obtain ⟨p, rfl⟩ : ∃ p : Nat, v = p := ⟨v.toNat, by omega⟩
        obtain ⟨t, rfl⟩ : ∃ t, t' = t + 1 := ⟨t' - 1, by omega⟩
        have t3 := H.t3
        obtain ⟨R, hR, q1, q2⟩ := exists_inner H (p := p) (by omega)
        refine ⟨R, hR, Ev.bind hS ?_, Ev.bind hI ?_⟩
        · simp only [if_true, if_neg hv, decide_eq_false hv2]
          refine Ev.step (fun k => ?_) q1
          rw [spec_ExistsTrack.j0, if_neg (by decide)]
        · have w : wrap64 (((t + 1 : Nat) : Int) - 1) = (t : Int) := by rw [w64 (by omega) (by omega)]; omega
          have c1 : (0 : Int) ≤ (t : Int) := by omega
          have c2 : (t : Int) < 1000000 := by omega
          simp only [if_true, if_neg hv, if_neg hv2, w, if_pos c1, if_pos c2, Int.toNat_natCast, trk_zero b' t]
          exact q2

/-! AllT -/
theorem notRel_both2 (b t : Int) (rows : List (List Int)) (acc : List Bool) (hl : rows.length ≤ 1048576) (hr : ∀ i (h : i < rows.length), rows[i].length ≤ 1048576) :
    ∃ r : RelR, SmallR r ∧ (r.2.2.2.2 = false → r = (0, 0, [], [], false)) ∧ Ev (fun k => spec_NotRelation.f k b t rows acc) r ∧ Ev (fun k => impl_NotRelation.f k b t rows acc) r := by
  have hS := specRel_ev b t rows acc hl hr
  have hI := implRel_ev b t rows acc hl hr
  unfold spec_NotRelation.f impl_NotRelation.f
  cases h : isRelW b t rows acc with
  | false =>
    rw [h] at hS hI
    refine ⟨(0, 0, [], [], false), SmallR.none, fun _ => rfl, Ev.bind hS ?_, Ev.bind hI ?_⟩
    · simp only [Bool.false_eq_true, if_false]
      exact Ev.now _
    · simp only [Bool.false_eq_true, if_false]
      exact Ev.now _
  | true =>
    have hnl : (acc.map (!·)).length = acc.length := by simp
    have h' := (isRelW_acc b t rows hnl).trans h
    have hS' := specRel_ev b t rows (acc.map (!·)) hl hr
    rw [h'] at hS'
    rw [h] at hS hI
    obtain ⟨b', t', rfl, rfl, H⟩ := isRelW_true h
    obtain ⟨rows', acc', h1, h2, h3, _⟩ := reduce_both (b' : Int) (t' : Int) (H.toG.acc hnl)
    have hal := H.al
    have hn := H.n48
    refine ⟨(b', t', rows', acc', true), h3.small _ _ _, fun h => (by cases h), Ev.bind hS ?_, Ev.bind hI ?_⟩
    · simp only [if_true]
      refine Ev.bind (l13Copy_ev _ _ rows acc hl hr (by omega)) ?_
      have hred : Ev (fun k => spec_ReducedRelation.f k b' t' rows (acc.map (!·))) ((b' : Int), (t' : Int), rows', acc', true) := by
        unfold spec_ReducedRelation.f
        refine Ev.bind hS' ?_
        simp only [if_true]
        exact Ev.bind h1 (Ev.now _)
      have key := downs (P := fun i => Ev (fun k => spec_NotRelation.l0 k (i : Int) b' t' rows acc b' t' rows ((acc.take i).map (!·) ++ acc.drop i)) ((b' : Int), (t' : Int), rows', acc', true)) acc.length
        (fun i hi ih => by
          refine Ev.step (fun k => ?_) ih
          have e : rdOf false acc (i : Int) = acc[i] := by unfold rdOf; exact getD_of hi
          have el : ((acc.take i).map (!·) ++ acc.drop i).set i (!acc[i]) = (acc.take (i + 1)).map (!·) ++ acc.drop (i + 1) := by
            rw [List.set_append_right _ _ (by simp; omega)]
            have hl : ((acc.take i).map (!·)).length = i := by simp; omega
            rw [hl, Nat.sub_self, drop_at hi, List.set_cons_zero, List.take_succ_eq_append_getElem hi, List.map_append, List.append_assoc]
            rfl
          rw [spec_NotRelation.l0, if_pos (by simp; omega), if_pos (by omega), if_pos (by omega), e, Int.toNat_natCast, el, w64 (by omega) (by omega)]
          rfl)
        (by
          refine Ev.step (f := fun k => (spec_ReducedRelation.f k b' t' rows (acc.map (!·))).bind fun bt1025 => (some (bt1025.1, bt1025.2.1, bt1025.2.2.1, bt1025.2.2.2.1, bt1025.2.2.2.2))) (fun k => ?_) (Ev.bind hred (Ev.now _))
          rw [spec_NotRelation.l0, if_neg (by simp), List.take_length, List.drop_length, List.append_nil])
      exact key 0 (by omega)
    · simp only [if_true]
      have key := downs (P := fun i => Ev (fun k => impl_NotRelation.l0 k acc (acc.length : Int) (i : Int) b' t' rows ((acc.take i).map (!·))) ((b' : Int), (t' : Int), rows', acc', true)) acc.length
        (fun i hi ih => by
          refine Ev.step (fun k => ?_) ih
          have e : rdOf false acc (i : Int) = acc[i] := by unfold rdOf; exact getD_of hi
          rw [impl_NotRelation.l0, if_pos (by omega), if_pos (by omega), if_pos (by omega), if_pos (by simp; omega), e, w64 (by omega) (by omega), List.take_succ_eq_append_getElem hi, List.map_append]
          rfl)
        (by
          refine Ev.step (f := fun k => (impl_Relation_reduced.f k b' t' rows (acc.map (!·))).bind fun bt1043 => (some (bt1043.1, bt1043.2.1, bt1043.2.2.1, bt1043.2.2.2, true))) (fun k => ?_) (Ev.bind h2 (Ev.now _))
          rw [impl_NotRelation.l0, if_neg (by omega), List.take_length])
      exact key 0 (by omega)
theorem allRel_both (b t : Int) (rows : List (List Int)) (acc : List Bool) (v : Int) (hl : rows.length ≤ 1048576) (hr : ∀ i (h : i < rows.length), rows[i].length ≤ 1048576) :
    ∃ R : RelR, SmallR R ∧ Ev (fun k => spec_AllTrack.f k b t rows acc v) R ∧ Ev (fun k => impl_AllTrack.f k b t rows acc v) R := by
  obtain ⟨x, hx, x1, x2⟩ := notRel_both b t rows acc hl hr
  obtain ⟨y, hy, y1, y2⟩ := existsRel_both x.1 x.2.1 x.2.2.1 x.2.2.2.1 v hx.n (fun i h => hx.row _ (List.getElem_mem h))
  obtain ⟨z, hz, hz0, z1, z2⟩ := notRel_both2 y.1 y.2.1 y.2.2.1 y.2.2.2.1 hy.n (fun i h => hy.row _ (List.getElem_mem h))
  unfold spec_AllTrack.f impl_AllTrack.f
  cases ho : x.2.2.2.2 with
  | false =>
    refine ⟨_, SmallR.none, Ev.bind x1 (Ev.bind y1 (Ev.bind z1 ?_)), Ev.bind x2 ?_⟩
    · simp only [ho, Bool.false_eq_true, if_false]
      exact Ev.now _
    · simp only [ho, Bool.false_eq_true, if_false]
      exact Ev.now _
  | true =>
    cases hp : y.2.2.2.2 with
    | false =>
      refine ⟨_, SmallR.none, Ev.bind x1 (Ev.bind y1 (Ev.bind z1 ?_)), Ev.bind x2 ?_⟩
      · simp only [ho, hp, Bool.false_eq_true, if_false, if_true]
        exact Ev.now _
      · simp only [ho, if_true]
        refine Ev.bind y2 ?_
        simp only [hp, Bool.false_eq_true, if_false]
        exact Ev.now _
    | true =>
      refine ⟨z, hz, Ev.bind x1 (Ev.bind y1 (Ev.bind z1 ?_)), Ev.bind x2 ?_⟩
      · simp only [ho, hp, if_true]
        cases hq : z.2.2.2.2 with
        | false =>
          simp only [Bool.false_eq_true, if_false]
          rw [hz0 hq]
          exact Ev.now _
        | true =>
          simp only [if_true]
          refine Ev.eq (Ev.now _) ?_
          rw [← hq]
      · simp only [ho, if_true]
        refine Ev.bind y2 ?_
        simp only [hp, if_true]
        exact Ev.bind z2 (Ev.now _)

/-! law_FnExactAllTrack -/
theorem FnExactAllTrack (a0 a1 : Int) (l2 : List (List Int)) (l3 : List Bool) (v : Int) (w0 : -9223372036854775808 ≤ a0 ∧ a0 ≤ 9223372036854775807) (w1 : -9223372036854775808 ≤ a1 ∧ a1 ≤ 9223372036854775807) (w2 : wfl (wfl wfi) l2) (w3 : wfl (fun _ => True) l3) (w4 : -9223372036854775808 ≤ v ∧ v ≤ 9223372036854775807) : ∃ k, laws_FnExactAllTrack.f k a0 a1 l2 l3 v = some true := by
  refine Ev.rounds ?_
  unfold laws_FnExactAllTrack.f
  obtain ⟨r, e, hle, hk⟩ := szRelation_ev a0 a1 l2 l3 w2.1 (fun x hx => (w2.2 x hx).1) w3.1
  refine Ev.bind e ?_
  by_cases hr : r < 0
  · simp only [if_pos hr]
    exact Ev.now _
  simp only [if_neg hr]
  obtain ⟨k1, k2, k3⟩ := hk (by omega)
  obtain ⟨⟨b, t, rows, acc, o⟩, hsm, hs, hi⟩ := allRel_both a0 a1 l2 l3 v k1 (fun i h => k2 _ (List.getElem_mem h))
  have t0 := toRelation_ev a0 a1 l2 l3 k1 k2 k3
  have ht := totL_small k1 k2 l2.length
  rw [List.take_length] at ht
  have h1 : ¬ (1 + (totL l2 : Int) + (l3.length : Int) < 0) := by omega
  have h2 : ¬ (1 + (totL rows : Int) + (acc.length : Int) < 0) := by omega
  refine Ev.bind t0 (Ev.bind hs (Ev.bind hi (Ev.bind (eqRelation_self b t rows acc hsm.n hsm.row hsm.acc) ?_)))
  refine Ev.congr (fun k => if_pos rfl) (Ev.congr (fun k => if_pos rfl) (Ev.bind (eqRelation_self a0 a1 l2 l3 k1 k2 k3) (Ev.congr (fun k => if_pos rfl) ?_)))
  refine Ev.bind (markRelation_ev l2 l3 k1 k2 k3) (Ev.congr (fun k => if_pos h1) (Ev.congr (fun k => if_pos rfl) (Ev.congr (fun k => if_pos rfl) ?_)))
  refine Ev.bind (markRelation_ev rows acc hsm.n hsm.row hsm.acc) (Ev.bind (heldRelation_ev b t rows acc hsm.n hsm.row hsm.acc) (Ev.congr (fun k => if_pos h2) (Ev.congr (fun k => if_pos rfl) ?_)))
  exact Ev.congr (fun k => if_pos rfl) (Ev.congr (fun k => if_pos rfl) (Ev.congr (fun k => if_pos h2) (Ev.congr (fun k => if_pos rfl) (Ev.now _))))

end Go.Proofs.Ytefelghmmpmigaa.Pure
