/- The pure law FnExactMembersOf: what the printed functions of the program and of the reference compute agrees, for all arguments. -/
import Derived.Test.YtgopcliohchkmaaQ0
import Derived.Test.YtgopcliohchkmaaQ1
import Derived.Test.YtgopcliohchkmaaQ10
import Derived.Test.YtgopcliohchkmaaQ11
import Derived.Test.YtgopcliohchkmaaQ12
import Derived.Test.YtgopcliohchkmaaQ13
import Derived.Test.YtgopcliohchkmaaQ14
import Derived.Test.YtgopcliohchkmaaQ15
import Derived.Test.YtgopcliohchkmaaQ16
import Derived.Test.YtgopcliohchkmaaQ20
import Derived.Test.YtgopcliohchkmaaQ21
import Derived.Test.YtgopcliohchkmaaQ219
import Derived.Test.YtgopcliohchkmaaQ222
import Derived.Test.YtgopcliohchkmaaQ23
import Derived.Test.YtgopcliohchkmaaQ24
import Derived.Test.YtgopcliohchkmaaQ245
import Derived.Test.YtgopcliohchkmaaQ25
import Derived.Test.YtgopcliohchkmaaQ26
import Derived.Test.YtgopcliohchkmaaQ27
import Derived.Test.YtgopcliohchkmaaQ28
import Derived.Test.YtgopcliohchkmaaQ29
import Derived.Test.YtgopcliohchkmaaQ3
import Derived.Test.YtgopcliohchkmaaQ30
import Derived.Test.YtgopcliohchkmaaQ31
import Derived.Test.YtgopcliohchkmaaQ37
import Derived.Test.YtgopcliohchkmaaQ38
import Derived.Test.YtgopcliohchkmaaQ39
import Derived.Test.YtgopcliohchkmaaQ4
import Derived.Test.YtgopcliohchkmaaQ40
import Derived.Test.YtgopcliohchkmaaQ41
import Derived.Test.YtgopcliohchkmaaQ49
import Derived.Test.YtgopcliohchkmaaQ50
import Derived.Test.YtgopcliohchkmaaQ51
import Derived.Test.YtgopcliohchkmaaQ52
import Derived.Test.YtgopcliohchkmaaQ53
import Derived.Test.YtgopcliohchkmaaQ55
import Derived.Test.YtgopcliohchkmaaQ67
import Derived.Test.YtgopcliohchkmaaQ68
import Derived.Test.YtgopcliohchkmaaQ69
import Derived.Test.YtgopcliohchkmaaQ7
import Derived.Test.YtgopcliohchkmaaQ8
import Derived.Test.YtgopcliohchkmaaQ9
import Derived.Test.YtgopcliohchkmaaMRow
namespace Go.Proofs.Ytgopcliohchkmaa.Pure
open Go.RowKit Go.Proofs.Ytgopcliohchkmaa.Q Go.Proofs.Ytgopcliohchkmaa.MRow Go.Proofs.YtgopcliohchkmaaW.PrintWords Go.Proofs.YtgopcliohchkmaaW.PrintLast
set_option linter.unusedVariables false
set_option linter.unusedSimpArgs false

/-! base -/
theorem w64 {x : Int} (h0 : -9223372036854775808 ≤ x) (h1 : x < 9223372036854775808) : wrap64 x = x := by
  unfold wrap64; omega

theorem rd_of {xs : List Int} {i : Nat} (h : i < xs.length) : rd xs (i : Int) = xs[i] := by
  simp [rd, List.getD_eq_getElem?_getD, h]
theorem getD_of {α : Type} {xs : List α} {d : α} {i : Nat} (h : i < xs.length) : xs.getD ((i : Int)).toNat d = xs[i] := by
  simp [List.getD_eq_getElem?_getD, h]
/-- From the end of a range down. -/
theorem downs {P : Nat → Prop} (n : Nat) (step : ∀ i, i < n → P (i + 1) → P i) (done : P n) : ∀ i, i ≤ n → P i := by
  have key : ∀ d i, i + d = n → P i := by
    intro d
    induction d with
    | zero => intro i hi; rw [show i = n by omega]; exact done
    | succ d ih => intro i hi; exact step i (by omega) (ih (i + 1) (by omega))
  intro i hi
  exact key (n - i) i (by omega)
theorem drop_at {α : Type} {l : List α} {i : Nat} (h : i < l.length) : l.drop i = l[i] :: l.drop (i + 1) := List.drop_eq_getElem_cons h
theorem Ev.eq {α : Type} {g : Nat → Option α} {r r' : α} (h : Ev g r) (e : r = r') : Ev g r' := e ▸ h
/-- A list that is filled from its begin. -/
theorem fill_set {α : Type} (xs : List α) (z y : α) (i d : Nat) (h : i < xs.length) (hd : i + (d + 1) = xs.length) (hy : y = xs[i]) :
    (xs.take i ++ List.replicate (d + 1) z).set i y = xs.take (i + 1) ++ List.replicate d z := by
  subst hy
  rw [List.set_append_right _ _ (by simp; omega)]
  have hl : (xs.take i).length = i := by simp; omega
  rw [hl, Nat.sub_self, List.replicate_succ, List.set_cons_zero, List.take_succ_eq_append_getElem h, List.append_assoc]
  rfl

/-! laws_toIntS -/
theorem toIntS_l0 (x0 : List Int) (hb : x0.length ≤ 1048576) (d : Nat) : ∀ (i : Nat), i + d = x0.length →
    Ev (fun k => laws_toIntS.l0 k x0 (x0.take i ++ List.replicate d 0) i) x0 := by
  induction d with
  | zero =>
    intro i hi
    refine Ev.step (f := fun _ => some x0) (fun k => ?_) (Ev.now _)
    rw [laws_toIntS.l0, if_neg (by omega)]
    simp [List.take_of_length_le (show x0.length ≤ i by omega)]
  | succ d ih =>
    intro i hi
    refine Ev.step (fun k => ?_) (ih (i + 1) (by omega))
    rw [laws_toIntS.l0, if_pos (by omega), if_pos (by omega), if_pos (by simp; omega), w64 (by omega) (by omega)]
    congr 1
    rw [rd_of (show i < x0.length by omega), Int.toNat_natCast]
    apply List.ext_getElem
    · simp; omega
    · intro j h1 h2
      simp [List.getElem_set, List.getElem_append, List.getElem_take] at *
      split <;> split <;> try split
      all_goals first | rfl | omega | (subst_vars; rfl)

theorem toIntS_ev (x0 : List Int) (hb : x0.length ≤ 1048576) : Ev (fun k => laws_toIntS.f k x0) x0 := by
  have h := toIntS_l0 x0 hb x0.length 0 (by omega)
  refine Ev.congr (fun k => ?_) h
  unfold laws_toIntS.f
  rw [if_pos (by omega), if_pos (by omega)]
  simp

/-! laws_eqIntS -/
theorem eqIntS_l0 (x0 x1 : List Int) (hb : x0.length ≤ 1048576) (hl : x0.length = x1.length) (d : Nat) : ∀ (i : Nat), i + d = x0.length →
    Ev (fun k => laws_eqIntS.l0 k x0 x1 i) (decide (x0.drop i = x1.drop i)) := by
  induction d with
  | zero =>
    intro i hi
    refine Ev.step (f := fun _ => some true) (fun k => ?_) ?_
    · rw [laws_eqIntS.l0, if_neg (by omega)]
    · rw [List.drop_of_length_le (by omega), List.drop_of_length_le (by omega)]
      exact Ev.now _
  | succ d ih =>
    intro i hi
    have e0 : x0.drop i = x0[i]'(by omega) :: x0.drop (i + 1) := List.drop_eq_getElem_cons (by omega)
    have e1 : x1.drop i = x1[i]'(by omega) :: x1.drop (i + 1) := List.drop_eq_getElem_cons (by omega)
    by_cases h : x0[i]'(by omega) = x1[i]'(by omega)
    · rw [e0, e1, h]
      simp only [List.cons.injEq, true_and]
      refine Ev.step (fun k => ?_) (ih (i + 1) (by omega))
      rw [laws_eqIntS.l0, if_pos (by omega), if_pos (by omega), if_pos (by omega), rd_of (show i < x0.length by omega), rd_of (show i < x1.length by omega), if_pos h, w64 (by omega) (by omega)]
      rfl
    · rw [e0, e1]
      simp only [List.cons.injEq, h, false_and]
      refine Ev.step (f := fun _ => some false) (fun k => ?_) (Ev.now _)
      rw [laws_eqIntS.l0, if_pos (by omega), if_pos (by omega), if_pos (by omega), rd_of (show i < x0.length by omega), rd_of (show i < x1.length by omega), if_neg h]

theorem eqIntS_ev (x0 x1 : List Int) (hb : x0.length ≤ 1048576) : Ev (fun k => laws_eqIntS.f k x0 x1) (decide (x0 = x1)) := by
  by_cases hl : x0.length = x1.length
  · refine Ev.congr (fun k => ?_) (eqIntS_l0 x0 x1 hb hl x0.length 0 (by omega))
    unfold laws_eqIntS.f
    rw [if_pos (by omega)]
    rfl
  · rw [decide_eq_false (by intro h; exact hl (by rw [h]))]
    refine Ev.congr (fun k => ?_) (Ev.now _)
    unfold laws_eqIntS.f
    rw [if_neg (by omega)]

/-! RowsBase -/
theorem rdR_of {xs : List (List Int)} {i : Nat} (h : i < xs.length) : rd_L1 xs (i : Int) = xs[i] := by
  unfold rd_L1
  exact getD_of h
def inS (n : Nat) (x : Int) : Bool := decide (0 ≤ x ∧ x < (n : Int))
def rowS (b : Int) (n : Nat) (row : List Int) : Bool := decide ((row.length : Int) = b) && row.all (inS n)

/-! IntSS -/
/-- How much is left of a size behind a list of rows. -/
def szRows : List (List Int) → Int → Int
  | [], left => left
  | r :: rs, left => if left - (r.length : Int) < 0 then -1 else szRows rs (left - r.length)
theorem szIntS_eq (r : List Int) (left : Int) (h0 : 0 ≤ left) (h1 : left ≤ 1048576) (hr : r.length ≤ 9223372036854775807) : laws_szIntS.f r left = some (if left - (r.length : Int) < 0 then -1 else left - r.length) := by
  unfold laws_szIntS.f
  rw [w64 (by omega) (by omega)]
  split <;> rfl
theorem szRows_le (rs : List (List Int)) : ∀ left, szRows rs left ≤ left ∨ left < 0 := by
  induction rs with
  | nil => intro left; exact Or.inl (Int.le_refl _)
  | cons r rs ih =>
    intro left
    by_cases h : left < 0
    · exact Or.inr h
    · refine Or.inl ?_
      rw [szRows]
      split
      · omega
      · rcases ih (left - r.length) with g | g <;> omega
theorem szIntSS_l0 (rows : List (List Int)) (hl : rows.length ≤ 1048576) (hr : ∀ r ∈ rows, r.length ≤ 9223372036854775807) : ∀ i, i ≤ rows.length → ∀ left, 0 ≤ left → left ≤ 1048576 → Ev (fun k => laws_szIntSS.l0 k rows left (i : Int)) (szRows (rows.drop i) left) :=
  downs (P := fun i => ∀ left, 0 ≤ left → left ≤ 1048576 → Ev (fun k => laws_szIntSS.l0 k rows left (i : Int)) (szRows (rows.drop i) left)) rows.length
    (fun i hi ih left h0 h1 => by
      rw [drop_at hi, szRows]
      have hx := hr _ (List.getElem_mem hi)
      by_cases h : left - (rows[i].length : Int) < 0
      · rw [if_pos h]
        refine Ev.step (f := fun _ => some (-1)) (fun k => ?_) (Ev.now _)
        rw [laws_szIntSS.l0, if_pos (by omega), if_pos (by omega), rdR_of hi, szIntS_eq _ _ h0 h1 hx, Option.bind_some, if_pos h, if_pos (by omega)]
      · rw [if_neg h]
        refine Ev.step (fun k => ?_) (ih (left - rows[i].length) (by omega) (by omega))
        rw [laws_szIntSS.l0, if_pos (by omega), if_pos (by omega), rdR_of hi, szIntS_eq _ _ h0 h1 hx, Option.bind_some, if_neg h, if_neg h, w64 (by omega) (by omega)]
        rfl)
    (fun left h0 h1 => by
      rw [List.drop_length, szRows]
      refine Ev.step (f := fun _ => some left) (fun k => ?_) (Ev.now _)
      rw [laws_szIntSS.l0, if_neg (by omega)])
theorem szRows_ok (rs : List (List Int)) : ∀ left, 0 ≤ left → 0 ≤ szRows rs left → ∀ r ∈ rs, (r.length : Int) ≤ left := by
  induction rs with
  | nil => intro left _ _ r hr; simp at hr
  | cons r rs ih =>
    intro left h0 h r' hr'
    rw [szRows] at h
    split at h
    · omega
    · rcases List.mem_cons.1 hr' with rfl | g
      · omega
      · have := ih _ (by omega) h r' g
        omega
/-- The size of rows: either they are too great or all are small. -/
theorem szIntSS_ev (rows : List (List Int)) (hl : rows.length ≤ 9223372036854775807) (hr : ∀ r ∈ rows, r.length ≤ 9223372036854775807) (left : Int) (h0 : 0 ≤ left) (h1 : left ≤ 1048576) :
    ∃ r : Int, Ev (fun k => laws_szIntSS.f k rows left) r ∧ r ≤ left ∧ (0 ≤ r → rows.length ≤ 1048576 ∧ ∀ x ∈ rows, x.length ≤ 1048576) := by
  by_cases h : left - (rows.length : Int) < 0
  · refine ⟨-1, Ev.congr (fun k => ?_) (Ev.now _), by omega, fun h => by omega⟩
    unfold laws_szIntSS.f
    rw [w64 (by omega) (by omega), if_pos h]
  · have hk := szIntSS_l0 rows (by omega) hr 0 (by omega) (left - rows.length) (by omega) (by omega)
    refine ⟨szRows rows (left - rows.length), Ev.congr (fun k => ?_) (Ev.eq hk (by rw [List.drop_zero])), ?_, fun hp => ⟨by omega, fun x hx => ?_⟩⟩
    · unfold laws_szIntSS.f
      rw [w64 (by omega) (by omega), if_neg h]
      rfl
    · rcases szRows_le rows (left - rows.length) with g | g <;> omega
    · have := szRows_ok rows (left - rows.length) (by omega) hp x hx
      omega
theorem toIntSS_ev (rows : List (List Int)) (hl : rows.length ≤ 1048576) (hr : ∀ r ∈ rows, r.length ≤ 1048576) : Ev (fun k => laws_toIntSS.f k rows) rows := by
  have key := downs (P := fun i => Ev (fun k => laws_toIntSS.l0 k rows (rows.take i ++ List.replicate (rows.length - i) []) (i : Int)) rows) rows.length
    (fun i hi ih => by
      refine Ev.step (f := fun k => (laws_toIntS.f k rows[i]).bind fun t => laws_toIntSS.l0 k rows ((rows.take i ++ List.replicate (rows.length - i) []).set i t) ((i + 1 : Nat) : Int)) (fun k => ?_) (Ev.bind (toIntS_ev rows[i] (hr _ (List.getElem_mem hi))) ?_)
      · rw [laws_toIntSS.l0, if_pos (by omega), if_pos (by omega), rdR_of hi, w64 (by omega) (by omega), Int.toNat_natCast]
        congr 1
        funext t
        rw [if_pos (by simp; omega)]
        rfl
      · rw [show rows.length - i = (rows.length - (i + 1)) + 1 by omega, fill_set rows _ _ i _ hi (by omega) rfl]
        exact ih)
    (by
      refine Ev.step (f := fun _ => some rows) (fun k => ?_) (Ev.now _)
      rw [laws_toIntSS.l0, if_neg (by omega)]
      simp [List.take_of_length_le])
  refine Ev.congr (fun k => ?_) (key 0 (by omega))
  unfold laws_toIntSS.f
  rw [if_pos (by omega), if_pos (by omega)]
  simp
theorem eqIntSS_self (rows : List (List Int)) (hl : rows.length ≤ 1048576) (hr : ∀ r ∈ rows, r.length ≤ 1048576) : Ev (fun k => laws_eqIntSS.f k rows rows) true := by
  have key := downs (P := fun i => Ev (fun k => laws_eqIntSS.l0 k rows rows (i : Int)) true) rows.length
    (fun i hi ih => by
      refine Ev.step (f := fun k => (laws_eqIntS.f k rows[i] rows[i]).bind fun t => if t = true then laws_eqIntSS.l0 k rows rows ((i + 1 : Nat) : Int) else some false) (fun k => ?_) (Ev.bind (Ev.eq (eqIntS_ev rows[i] rows[i] (hr _ (List.getElem_mem hi))) (decide_eq_true rfl)) ?_)
      · rw [laws_eqIntSS.l0, if_pos (by omega), if_pos (by omega), if_pos (by omega), rdR_of hi, w64 (by omega) (by omega)]
        rfl
      · exact ih)
    (by
      refine Ev.step (f := fun _ => some true) (fun k => ?_) (Ev.now _)
      rw [laws_eqIntSS.l0, if_neg (by omega)])
  refine Ev.congr (fun k => ?_) (key 0 (by omega))
  unfold laws_eqIntSS.f
  rw [if_pos rfl]
  rfl

/-! Relation -/
theorem toBoolS_ev (x0 : List Bool) (hb : x0.length ≤ 1048576) : Ev (fun k => laws_toBoolS.f k x0) x0 := by
  have key := downs (P := fun i => Ev (fun k => laws_toBoolS.l0 k x0 (x0.take i ++ List.replicate (x0.length - i) false) (i : Int)) x0) x0.length
    (fun i hi ih => by
      refine Ev.step (fun k => ?_) ih
      have e : rdOf false x0 (i : Int) = x0[i] := by unfold rdOf; exact getD_of hi
      rw [laws_toBoolS.l0, if_pos (by omega), if_pos (by omega), if_pos (by simp; omega), e, w64 (by omega) (by omega), Int.toNat_natCast]
      rw [show x0.length - i = (x0.length - (i + 1)) + 1 by omega, fill_set x0 _ _ i _ hi (by omega) rfl]
      rfl)
    (by
      refine Ev.step (f := fun _ => some x0) (fun k => ?_) (Ev.now _)
      rw [laws_toBoolS.l0, if_neg (by omega)]
      simp [List.take_of_length_le])
  refine Ev.congr (fun k => ?_) (key 0 (by omega))
  unfold laws_toBoolS.f
  rw [if_pos (by omega), if_pos (by omega)]
  simp
theorem toRelation_ev (b t : Int) (rows : List (List Int)) (acc : List Bool) (hl : rows.length ≤ 1048576) (hr : ∀ r ∈ rows, r.length ≤ 1048576) (ho : acc.length ≤ 1048576) : Ev (fun k => laws_toRelation.f k b t rows acc) (b, t, rows, acc) := by
  unfold laws_toRelation.f
  exact Ev.bind (toIntSS_ev rows hl hr) (Ev.bind (toBoolS_ev acc ho) (Ev.now _))
theorem eqBoolS_self (x0 : List Bool) (hb : x0.length ≤ 1048576) : Ev (fun k => laws_eqBoolS.f k x0 x0) true := by
  have key := downs (P := fun i => Ev (fun k => laws_eqBoolS.l0 k x0 x0 (i : Int)) true) x0.length
    (fun i hi ih => by
      refine Ev.step (fun k => ?_) ih
      rw [laws_eqBoolS.l0, if_pos (by omega), if_pos (by omega), if_pos (by omega), bne_self_eq_false, if_neg (by decide), w64 (by omega) (by omega)]
      rfl)
    (by
      refine Ev.step (f := fun _ => some true) (fun k => ?_) (Ev.now _)
      rw [laws_eqBoolS.l0, if_neg (by omega)])
  refine Ev.congr (fun k => ?_) (key 0 (by omega))
  unfold laws_eqBoolS.f
  rw [if_pos rfl]
  rfl
theorem eqRelation_self (b t : Int) (rows : List (List Int)) (acc : List Bool) (hl : rows.length ≤ 1048576) (hr : ∀ r ∈ rows, r.length ≤ 1048576) (ho : acc.length ≤ 1048576) : Ev (fun k => laws_eqRelation.f k b t rows acc b t rows acc) true := by
  unfold laws_eqRelation.f
  simp only [if_true]
  refine Ev.bind (eqIntSS_self rows hl hr) ?_
  simp only [if_true]
  refine Ev.bind (eqBoolS_self acc ho) ?_
  simp only [if_true]
  exact Ev.now _
theorem szRelation_ev (b t : Int) (rows : List (List Int)) (acc : List Bool) (hl : rows.length ≤ 9223372036854775807) (hr : ∀ r ∈ rows, r.length ≤ 9223372036854775807) (ho : acc.length ≤ 9223372036854775807) :
    ∃ r : Int, Ev (fun k => laws_szRelation.f k b t rows acc 1048576) r ∧ r ≤ 1048576 ∧ (0 ≤ r → rows.length ≤ 1048576 ∧ (∀ x ∈ rows, x.length ≤ 1048576) ∧ acc.length ≤ 1048576) := by
  obtain ⟨r, e, hle, hk⟩ := szIntSS_ev rows hl hr 1048576 (by omega) (by omega)
  by_cases h : r < 0
  · refine ⟨-1, ?_, by omega, fun h => by omega⟩
    unfold laws_szRelation.f
    refine Ev.bind e ?_
    simp only [if_pos h]
    exact Ev.now _
  · obtain ⟨k1, k2⟩ := hk (by omega)
    have ez : laws_szBoolS.f acc r = some (if r - (acc.length : Int) < 0 then -1 else r - acc.length) := by
      unfold laws_szBoolS.f
      rw [w64 (by omega) (by omega)]
      split <;> rfl
    by_cases h2 : r - (acc.length : Int) < 0
    · refine ⟨-1, ?_, by omega, fun h => by omega⟩
      unfold laws_szRelation.f
      refine Ev.bind e ?_
      simp only [if_neg h, ez, Option.bind_some, if_pos h2]
      exact Ev.now _
    · refine ⟨r - acc.length, ?_, by omega, fun _ => ⟨k1, k2, by omega⟩⟩
      unfold laws_szRelation.f
      refine Ev.bind e ?_
      simp only [if_neg h, ez, Option.bind_some, if_neg h2]
      exact Ev.now _

/-! Power -/
/-- The powers of a small base, on both sides. -/
theorem pow_le16 (b : Nat) (hb : b ≤ 21) (i : Nat) (hi : i ≤ 3) : b ^ i ≤ 9261 := by
  have h1 : b ^ i ≤ 21 ^ i := Nat.pow_le_pow_left hb i
  have h2 : (21 : Nat) ^ i ≤ 21 ^ 3 := Nat.pow_le_pow_right (by omega) hi
  have h3 : (21 : Nat) ^ 3 = 9261 := by decide
  omega
theorem specPow_ev (b : Nat) (hb : b ≤ 21) (t : Nat) (ht : t ≤ 3) : Ev (fun k => spec_l11Power.f k (b : Int) (t : Int)) ((b ^ t : Nat) : Int) := by
  have key := downs (P := fun i => Ev (fun k => spec_l11Power.l0 k (b : Int) (t : Int) ((b ^ i : Nat) : Int) (i : Int)) ((b ^ t : Nat) : Int)) t
    (fun i hi ih => by
      refine Ev.step (fun k => ?_) ih
      have h := pow_le16 b hb (i + 1) (by omega)
      have e : ((b ^ i : Nat) : Int) * (b : Int) = ((b ^ (i + 1) : Nat) : Int) := by rw [Nat.pow_succ]; simp
      rw [spec_l11Power.l0, if_pos (by omega), e, w64 (by omega) (by omega), w64 (by omega) (by omega)]
      rfl)
    (by
      refine Ev.step (f := fun _ => some _) (fun k => ?_) (Ev.now _)
      rw [spec_l11Power.l0, if_neg (by omega)])
  exact key 0 (by omega)
theorem implPow_ev (b : Nat) (hb : b ≤ 21) (t : Nat) (ht : t ≤ 3) : Ev (fun k => impl_power.f k (b : Int) (t : Int)) ((b ^ t : Nat) : Int) := by
  have key := downs (P := fun i => Ev (fun k => impl_power.l0 k (b : Int) ((b ^ i : Nat) : Int) (t : Int) (i : Int)) ((b ^ t : Nat) : Int)) t
    (fun i hi ih => by
      refine Ev.step (fun k => ?_) ih
      have h := pow_le16 b hb (i + 1) (by omega)
      have e : ((b ^ i : Nat) : Int) * (b : Int) = ((b ^ (i + 1) : Nat) : Int) := by rw [Nat.pow_succ]; simp
      rw [impl_power.l0, if_pos (by omega), e, w64 (by omega) (by omega), w64 (by omega) (by omega)]
      rfl)
    (by
      refine Ev.step (f := fun _ => some _) (fun k => ?_) (Ev.now _)
      rw [impl_power.l0, if_neg (by omega)])
  exact key 0 (by omega)
theorem letters_ev (b : Nat) (hb : b ≤ 21) (t : Nat) (ht : t ≤ 3) : Ev (fun k => spec_l13Letters.f k (b : Int) (t : Int)) ((b ^ t : Nat) : Int) := by
  unfold spec_l13Letters.f
  exact Ev.bind (specPow_ev b hb t ht) (Ev.now _)

/-! spec_l1In -/
theorem l1In_eq (a b c : Int) : spec_l1In.f a b c = some (decide (b ≤ a ∧ a ≤ c)) := by
  unfold spec_l1In.f
  by_cases h : a ≥ b
  · rw [if_pos h]
    congr 1
    simp; omega
  · rw [if_neg h]
    congr 1
    simp; omega

/-! IsRelation -/
/-- A relation of base b over t tracks, all entries in range, that stays where it is under zeros. -/
structure RelW (b t : Nat) (rows : List (List Int)) (acc : List Bool) : Prop where
  b2 : 2 ≤ b
  b3 : b ≤ 3
  t3 : t ≤ 3
  n1 : 1 ≤ rows.length
  n48 : rows.length ≤ 48
  al : acc.length = rows.length
  row : rows.all (rowS ((b ^ t : Nat) : Int) rows.length) = true
  zero : rd (rows.getD 0 []) 0 = 0
def isRelW (b t : Int) (rows : List (List Int)) (acc : List Bool) : Bool :=
  decide (2 ≤ b ∧ b ≤ 3) && (decide (0 ≤ t ∧ t ≤ 3) && (decide (1 ≤ (rows.length : Int) ∧ (rows.length : Int) ≤ 48) && (((acc.length : Int) == (rows.length : Int)) && (rows.all (rowS ((b.toNat ^ t.toNat : Nat) : Int) rows.length) && (rd (rows.getD 0 []) 0 == 0)))))
theorem isRelW_true {b t : Int} {rows : List (List Int)} {acc : List Bool} (h : isRelW b t rows acc = true) : ∃ b' t' : Nat, b = b' ∧ t = t' ∧ RelW b' t' rows acc := by
  unfold isRelW at h
  simp only [Bool.and_eq_true, decide_eq_true_eq, beq_iff_eq] at h
  obtain ⟨⟨h1, h2⟩, ⟨h3, h4⟩, ⟨h5, h6⟩, h7, h8, h9⟩ := h
  exact ⟨b.toNat, t.toNat, by omega, by omega, by omega, by omega, by omega, by omega, by omega, by omega, h8, h9⟩
theorem RelW.len {b t : Nat} {rows : List (List Int)} {acc : List Bool} (H : RelW b t rows acc) (i : Nat) (hi : i < rows.length) : rows[i].length = b ^ t ∧ ∀ x ∈ rows[i], 0 ≤ x ∧ x < (rows.length : Int) := by
  have h := List.all_eq_true.1 H.row rows[i] (List.getElem_mem hi)
  unfold rowS at h
  simp only [Bool.and_eq_true, decide_eq_true_eq, List.all_eq_true] at h
  refine ⟨by omega, fun x hx => ?_⟩
  have := h.2 x hx
  simpa [inS] using this
theorem pow_pos' (b t : Nat) (hb : 2 ≤ b) : 1 ≤ b ^ t := Nat.one_le_pow _ _ (by omega)
theorem rdRD {rows : List (List Int)} : rd_L1 rows 0 = rows.getD 0 [] := rfl
theorem all_take_succ {α : Type} (p : α → Bool) (l : List α) (c : Nat) (hc : c < l.length) (h : (l.take c).all p = true) (hx : p l[c] = true) : (l.take (c + 1)).all p = true := by
  rw [List.take_succ_eq_append_getElem hc, List.all_append, h, List.all_cons, List.all_nil, hx]
  rfl
theorem specRel_l1 (b t : Int) (rows : List (List Int)) (acc : List Bool) (i : Nat) (hi : i < rows.length) (hl : rows.length ≤ 1048576) (hr : rows[i].length ≤ 1048576) (nb : Bool) (next : rows[i].all (inS rows.length) = true → Ev (fun k => spec_IsRelation.l0 k ((i + 1 : Nat) : Int) b t rows acc) nb) :
    Ev (fun k => spec_IsRelation.l1 k (i : Int) 0 b t rows acc) (rows[i].all (inS rows.length) && nb) := by
  have hR := rdR_of hi
  have key := downs (P := fun c => (rows[i].take c).all (inS rows.length) = true → Ev (fun k => spec_IsRelation.l1 k (i : Int) (c : Int) b t rows acc) ((rows[i].drop c).all (inS rows.length) && nb)) rows[i].length
    (fun c hc ih hp => by
      rw [drop_at hc, List.all_cons]
      by_cases h : 0 ≤ rows[i][c] ∧ rows[i][c] < (rows.length : Int)
      · refine Ev.step (fun k => ?_) (Ev.eq (ih (all_take_succ _ _ c hc hp (decide_eq_true h))) (by rw [show inS rows.length rows[i][c] = true from decide_eq_true h, Bool.true_and]))
        rw [spec_IsRelation.l1, if_pos (by omega), if_pos (by omega), hR, if_pos (by omega), if_pos (by omega), rd_of hc, if_neg (by omega), if_neg (by omega), w64 (by omega) (by omega)]
        rfl
      · refine Ev.step (f := fun _ => some false) (fun k => ?_) (Ev.eq (Ev.now _) (by rw [show inS rows.length rows[i][c] = false from decide_eq_false h, Bool.false_and, Bool.false_and]))
        rw [spec_IsRelation.l1, if_pos (by omega), if_pos (by omega), hR, if_pos (by omega), if_pos (by omega), rd_of hc]
        by_cases h0 : rows[i][c] < 0
        · rw [if_pos h0]
        · rw [if_neg h0, if_pos (by omega)])
    (fun hp => by
      rw [List.take_length] at hp
      refine Ev.step (fun k => ?_) (Ev.eq (next hp) (by simp))
      rw [spec_IsRelation.l1, if_pos (by omega), if_pos (by omega), hR, if_neg (by omega), w64 (by omega) (by omega)]
      rfl)
  exact Ev.eq (key 0 (by omega) rfl) (by rw [List.drop_zero])
theorem implRel_l1 (b t : Int) (rows : List (List Int)) (acc : List Bool) (i : Nat) (hi : i < rows.length) (hl : rows.length ≤ 1048576) (hr : rows[i].length ≤ 1048576) (nb : Bool) (next : rows[i].all (inS rows.length) = true → Ev (fun k => impl_IsRelation.l0 k (rows.length : Int) rows (rows.length : Int) ((i + 1 : Nat) : Int) b t rows acc) nb) :
    Ev (fun k => impl_IsRelation.l1 k (rows.length : Int) rows (rows.length : Int) (i : Int) rows[i] (rows[i].length : Int) 0 b t rows acc) (rows[i].all (inS rows.length) && nb) := by
  have key := downs (P := fun c => (rows[i].take c).all (inS rows.length) = true → Ev (fun k => impl_IsRelation.l1 k (rows.length : Int) rows (rows.length : Int) (i : Int) rows[i] (rows[i].length : Int) (c : Int) b t rows acc) ((rows[i].drop c).all (inS rows.length) && nb)) rows[i].length
    (fun c hc ih hp => by
      rw [drop_at hc, List.all_cons]
      by_cases h : 0 ≤ rows[i][c] ∧ rows[i][c] < (rows.length : Int)
      · refine Ev.step (fun k => ?_) (Ev.eq (ih (all_take_succ _ _ c hc hp (decide_eq_true h))) (by rw [show inS rows.length rows[i][c] = true from decide_eq_true h, Bool.true_and]))
        rw [impl_IsRelation.l1, if_pos (by omega), if_pos (by omega), if_pos (by omega), rd_of hc, if_neg (by omega), if_neg (by omega), w64 (by omega) (by omega)]
        rfl
      · refine Ev.step (f := fun _ => some false) (fun k => ?_) (Ev.eq (Ev.now _) (by rw [show inS rows.length rows[i][c] = false from decide_eq_false h, Bool.false_and, Bool.false_and]))
        rw [impl_IsRelation.l1, if_pos (by omega), if_pos (by omega), if_pos (by omega), rd_of hc]
        by_cases h0 : rows[i][c] < 0
        · rw [if_pos h0]
        · rw [if_neg h0, if_pos (by omega)])
    (fun hp => by
      rw [List.take_length] at hp
      refine Ev.step (fun k => ?_) (Ev.eq (next hp) (by simp))
      rw [impl_IsRelation.l1, if_neg (by omega), w64 (by omega) (by omega)]
      rfl)
  exact Ev.eq (key 0 (by omega) rfl) (by rw [List.drop_zero])
theorem rel_head (b t : Nat) (hb : 2 ≤ b) (rows : List (List Int)) (n1 : 1 ≤ rows.length) (h : rows.all (rowS ((b ^ t : Nat) : Int) rows.length) = true) : 0 < ((rows.getD 0 []).length : Int) := by
  have := List.all_eq_true.1 h rows[0] (List.getElem_mem (by omega))
  unfold rowS at this
  simp only [Bool.and_eq_true, decide_eq_true_eq] at this
  have := pow_pos' b t hb
  have e : rows.getD 0 [] = rows[0] := by simp [List.getD_eq_getElem?_getD, show 0 < rows.length by omega]
  rw [e]
  omega
theorem specRel_l0 (b t : Nat) (hb : 2 ≤ b) (hb3 : b ≤ 3) (ht : t ≤ 3) (rows : List (List Int)) (acc : List Bool) (n1 : 1 ≤ rows.length) (hl : rows.length ≤ 1048576) (hr : ∀ i (h : i < rows.length), rows[i].length ≤ 1048576) :
    Ev (fun k => spec_IsRelation.l0 k 0 (b : Int) (t : Int) rows acc) (rows.all (rowS ((b ^ t : Nat) : Int) rows.length) && (rd (rows.getD 0 []) 0 == 0)) := by
  have key := downs (P := fun i => (rows.take i).all (rowS ((b ^ t : Nat) : Int) rows.length) = true → Ev (fun k => spec_IsRelation.l0 k (i : Int) (b : Int) (t : Int) rows acc) ((rows.drop i).all (rowS ((b ^ t : Nat) : Int) rows.length) && (rd (rows.getD 0 []) 0 == 0))) rows.length
    (fun i hi ih hp => by
      rw [drop_at hi, List.all_cons]
      refine Ev.step (f := fun k => (spec_l13Letters.f k (b : Int) (t : Int)).bind fun t233 => if (rows[i].length : Int) = t233 then spec_IsRelation.l1 k (i : Int) 0 (b : Int) (t : Int) rows acc else some false) (fun k => ?_) (Ev.bind (letters_ev b (by omega) t ht) ?_)
      · rw [spec_IsRelation.l0, if_pos (by omega), if_pos (by omega), rdR_of hi]
      by_cases h : (rows[i].length : Int) = ((b ^ t : Nat) : Int)
      · simp only [if_pos h]
        refine Ev.eq (specRel_l1 b t rows acc i hi hl (hr i hi) _ (fun h2 => ih (all_take_succ _ _ i hi hp (by rw [rowS, decide_eq_true h, h2]; rfl)))) ?_
        rw [rowS, decide_eq_true h, Bool.true_and, Bool.and_assoc]
      · simp only [if_neg h]
        rw [rowS, decide_eq_false h]
        simp only [Bool.false_and]
        exact Ev.now _)
    (fun hp => by
      rw [List.take_length] at hp
      have := rel_head b t hb rows n1 hp
      refine Ev.step (f := fun _ => some _) (fun k => ?_) (Ev.eq (Ev.now _) (by rw [List.drop_length, List.all_nil, Bool.true_and]))
      rw [spec_IsRelation.l0, if_neg (by omega), if_pos (by omega), rdRD, if_pos this])
  exact Ev.eq (key 0 (by omega) rfl) (by rw [List.drop_zero])
theorem implRel_l0 (b t : Nat) (hb : 2 ≤ b) (hb3 : b ≤ 3) (ht : t ≤ 3) (rows : List (List Int)) (acc : List Bool) (n1 : 1 ≤ rows.length) (hl : rows.length ≤ 1048576) (hr : ∀ i (h : i < rows.length), rows[i].length ≤ 1048576) :
    Ev (fun k => impl_IsRelation.l0 k (rows.length : Int) rows (rows.length : Int) 0 (b : Int) (t : Int) rows acc) (rows.all (rowS ((b ^ t : Nat) : Int) rows.length) && (rd (rows.getD 0 []) 0 == 0)) := by
  have key := downs (P := fun i => (rows.take i).all (rowS ((b ^ t : Nat) : Int) rows.length) = true → Ev (fun k => impl_IsRelation.l0 k (rows.length : Int) rows (rows.length : Int) (i : Int) (b : Int) (t : Int) rows acc) ((rows.drop i).all (rowS ((b ^ t : Nat) : Int) rows.length) && (rd (rows.getD 0 []) 0 == 0))) rows.length
    (fun i hi ih hp => by
      rw [drop_at hi, List.all_cons]
      refine Ev.step (f := fun k => (impl_power.f k (b : Int) (t : Int)).bind fun t382 => if (rows[i].length : Int) = t382 then impl_IsRelation.l1 k (rows.length : Int) rows (rows.length : Int) (i : Int) rows[i] (rows[i].length : Int) 0 (b : Int) (t : Int) rows acc else some false) (fun k => ?_) (Ev.bind (implPow_ev b (by omega) t ht) ?_)
      · rw [impl_IsRelation.l0, if_pos (by omega), if_pos (by omega), if_pos (by omega), rdR_of hi]
      by_cases h : (rows[i].length : Int) = ((b ^ t : Nat) : Int)
      · simp only [if_pos h]
        refine Ev.eq (implRel_l1 b t rows acc i hi hl (hr i hi) _ (fun h2 => ih (all_take_succ _ _ i hi hp (by rw [rowS, decide_eq_true h, h2]; rfl)))) ?_
        rw [rowS, decide_eq_true h, Bool.true_and, Bool.and_assoc]
      · simp only [if_neg h]
        rw [rowS, decide_eq_false h]
        simp only [Bool.false_and]
        exact Ev.now _)
    (fun hp => by
      rw [List.take_length] at hp
      have := rel_head b t hb rows n1 hp
      refine Ev.step (f := fun _ => some _) (fun k => ?_) (Ev.eq (Ev.now _) (by rw [List.drop_length, List.all_nil, Bool.true_and]))
      rw [impl_IsRelation.l0, if_neg (by omega), if_pos (by omega), rdRD, if_pos this])
  exact Ev.eq (key 0 (by omega) rfl) (by rw [List.drop_zero])
theorem specRel_ev (b t : Int) (rows : List (List Int)) (acc : List Bool) (hl : rows.length ≤ 1048576) (hr : ∀ i (h : i < rows.length), rows[i].length ≤ 1048576) : Ev (fun k => spec_IsRelation.f k b t rows acc) (isRelW b t rows acc) := by
  have no : Ev (fun k => spec_IsRelation.j0 k true b t rows acc) false := by
    refine Ev.step (f := fun _ => some false) (fun k => ?_) (Ev.now _)
    rw [spec_IsRelation.j0, if_pos rfl]
  unfold spec_IsRelation.f isRelW
  simp only [l1In_eq, Option.bind_some]
  by_cases h1 : 2 ≤ b ∧ b ≤ 3
  · simp only [decide_eq_true h1, if_true, Bool.true_and]
    by_cases h2 : 0 ≤ t ∧ t ≤ 3
    · simp only [decide_eq_true h2, if_true, Bool.true_and]
      by_cases h3 : 1 ≤ (rows.length : Int) ∧ (rows.length : Int) ≤ 48
      · simp only [decide_eq_true h3, if_true, Bool.true_and]
        by_cases h4 : (acc.length : Int) = (rows.length : Int)
        · obtain ⟨b', rfl⟩ : ∃ b' : Nat, b = b' := ⟨b.toNat, by omega⟩
          obtain ⟨t', rfl⟩ : ∃ t' : Nat, t = t' := ⟨t.toNat, by omega⟩
          have e : ((acc.length : Int) != (rows.length : Int)) = false := by simp [h4]
          simp only [e]
          refine Ev.step (fun k => ?_) (Ev.eq (specRel_l0 b' t' (by omega) (by omega) (by omega) rows acc (by omega) hl hr) ?_)
          · rw [spec_IsRelation.j0, if_neg (by decide)]
          · rw [show ((acc.length : Int) == (rows.length : Int)) = true from beq_iff_eq.2 h4, Bool.true_and]
            rfl
        · have e : ((acc.length : Int) != (rows.length : Int)) = true := by simpa using h4
          simp only [e]
          exact Ev.eq no (by rw [show ((acc.length : Int) == (rows.length : Int)) = false from beq_eq_false_iff_ne.2 h4, Bool.false_and])
      · simp only [decide_eq_false h3, Bool.false_eq_true, if_false, Bool.false_and]
        exact no
    · simp only [decide_eq_false h2, Bool.false_eq_true, if_false, Bool.false_and]
      exact no
  · simp only [decide_eq_false h1, Bool.false_eq_true, if_false, Bool.false_and]
    exact no
theorem isSmallBase_eq (b : Int) : impl_isSmallBase.f b = some (decide (2 ≤ b ∧ b ≤ 3)) := by
  unfold impl_isSmallBase.f
  by_cases h : b = 2
  · rw [if_pos h, Option.some.injEq]
    exact (decide_eq_true (by omega)).symm
  · rw [if_neg h, Option.some.injEq, Bool.eq_iff_iff, beq_iff_eq, decide_eq_true_eq]
    omega
theorem implRel_ev (b t : Int) (rows : List (List Int)) (acc : List Bool) (hl : rows.length ≤ 1048576) (hr : ∀ i (h : i < rows.length), rows[i].length ≤ 1048576) : Ev (fun k => impl_IsRelation.f k b t rows acc) (isRelW b t rows acc) := by
  have no : Ev (fun k => impl_IsRelation.j0 k (rows.length : Int) true b t rows acc) false := by
    refine Ev.step (f := fun _ => some false) (fun k => ?_) (Ev.now _)
    rw [impl_IsRelation.j0, if_pos rfl]
  unfold impl_IsRelation.f isRelW
  simp only [isSmallBase_eq, Option.bind_some]
  by_cases h1 : 2 ≤ b ∧ b ≤ 3
  · simp only [decide_eq_true h1, if_true, Bool.true_and]
    by_cases h2 : 0 ≤ t ∧ t ≤ 3
    · simp only [decide_eq_true h2, if_neg (show ¬ t < 0 by omega), if_neg (show ¬ t > 3 by omega), Bool.true_and]
      by_cases h3 : 1 ≤ (rows.length : Int) ∧ (rows.length : Int) ≤ 48
      · simp only [decide_eq_true h3, if_neg (show ¬ (rows.length : Int) < 1 by omega), if_neg (show ¬ (rows.length : Int) > 48 by omega), Bool.true_and]
        by_cases h4 : (acc.length : Int) = (rows.length : Int)
        · obtain ⟨b', rfl⟩ : ∃ b' : Nat, b = b' := ⟨b.toNat, by omega⟩
          obtain ⟨t', rfl⟩ : ∃ t' : Nat, t = t' := ⟨t.toNat, by omega⟩
          have e : ((acc.length : Int) != (rows.length : Int)) = false := by simp [h4]
          simp only [e]
          refine Ev.step (fun k => ?_) (Ev.eq (implRel_l0 b' t' (by omega) (by omega) (by omega) rows acc (by omega) hl hr) ?_)
          · rw [impl_IsRelation.j0, if_neg (by decide)]
          · rw [show ((acc.length : Int) == (rows.length : Int)) = true from beq_iff_eq.2 h4, Bool.true_and]
            rfl
        · have e : ((acc.length : Int) != (rows.length : Int)) = true := by simpa using h4
          simp only [e]
          exact Ev.eq no (by rw [show ((acc.length : Int) == (rows.length : Int)) = false from beq_eq_false_iff_ne.2 h4, Bool.false_and])
      · simp only [decide_eq_false h3, Bool.false_and]
        by_cases h5 : (rows.length : Int) < 1
        · simp only [if_pos h5]; exact no
        · simp only [if_neg h5, if_pos (show (rows.length : Int) > 48 by omega)]; exact no
    · simp only [decide_eq_false h2, Bool.false_and]
      by_cases h5 : t < 0
      · simp only [if_pos h5]; exact no
      · simp only [if_neg h5, if_pos (show t > 3 by omega)]; exact no
  · simp only [decide_eq_false h1, Bool.false_eq_true, if_false, Bool.false_and]
    exact no

/-! L3Same -/
/-! Refine -/
/-! Numberings of the values of a list in the order of their first places (plain Lean). -/
def newAt {α : Type} (a : Nat → α) (i : Nat) : Prop := ∀ k, k < i → a k ≠ a i
open Classical in
noncomputable def cntN {α : Type} (a : Nat → α) : Nat → Nat
  | 0 => 0
  | n + 1 => cntN a n + (if newAt a n then 1 else 0)
structure IsNumb {α : Type} (a : Nat → α) (n : Nat) (c : Nat → Int) : Prop where
  first : ∀ i, i < n → newAt a i → c i = (cntN a i : Nat)
  same : ∀ i j, i < n → j < n → a i = a j → c i = c j
theorem newAt_zero {α : Type} (a : Nat → α) : newAt a 0 := fun k hk => absurd hk (by omega)
theorem IsNumb.zero {α : Type} {a : Nat → α} {n : Nat} {c : Nat → Int} (H : IsNumb a n c) (hn : 0 < n) : c 0 = 0 := by
  rw [H.first 0 hn (newAt_zero a)]; rfl
/-! Run -/
/-! Finer and finer classes (plain Lean). -/
/-! Number -/
/-! Bfs -/
/-! A search by breadth over numbers (plain Lean). -/
def addOne (L : List Int) (x : Int) : List Int := if x ∈ L then L else L ++ [x]
def addAll (L xs : List Int) : List Int := xs.foldl addOne L
inductive Bfs (M : Int → List Int) : List Int → Nat → List Int → Prop
  | done {L : List Int} {k : Nat} : L.length ≤ k → Bfs M L k L
  | step {L F : List Int} {k : Nat} (h : k < L.length) : Bfs M (addAll L (M L[k])) (k + 1) F → Bfs M L k F
theorem addOne_pre (L : List Int) (x : Int) : L <+: addOne L x := by
  unfold addOne; split
  · exact List.prefix_refl _
  · exact List.prefix_append _ _
theorem addAll_cons (L : List Int) (x : Int) (xs : List Int) : addAll L (x :: xs) = addAll (addOne L x) xs := rfl
theorem addAll_nil (L : List Int) : addAll L [] = L := rfl
theorem addAll_pre (xs : List Int) : ∀ L : List Int, L <+: addAll L xs := by
  induction xs with
  | nil => exact fun L => List.prefix_refl _
  | cons x xs ih => exact fun L => (addOne_pre L x).trans (ih _)
theorem mem_addOne {L : List Int} {x y : Int} : y ∈ addOne L x ↔ y ∈ L ∨ y = x := by
  unfold addOne; split
  · rename_i h; constructor
    · exact Or.inl
    · rintro (g | rfl)
      · exact g
      · exact h
  · simp
theorem mem_addAll {xs : List Int} : ∀ {L : List Int} {y : Int}, y ∈ addAll L xs ↔ y ∈ L ∨ y ∈ xs := by
  induction xs with
  | nil => simp [addAll_nil]
  | cons x xs ih =>
    intro L y
    rw [addAll_cons, ih, mem_addOne, List.mem_cons, or_assoc]
theorem Bfs.pre {M : Int → List Int} {L F : List Int} {k : Nat} (H : Bfs M L k F) : L <+: F := by
  induction H with
  | done _ => exact List.prefix_refl _
  | step h _ ih => exact (addAll_pre _ _).trans ih
theorem Bfs.in {M : Int → List Int} {P : Int → Prop} (hM : ∀ v, P v → ∀ x ∈ M v, P x) {L F : List Int} {k : Nat} (H : Bfs M L k F) (h : ∀ x ∈ L, P x) : ∀ x ∈ F, P x := by
  induction H with
  | done _ => exact h
  | step hk _ ih =>
    refine ih fun x hx => ?_
    rcases mem_addAll.1 hx with g | g
    · exact h x g
    · exact hM _ (h _ (List.getElem_mem hk)) x g
/-- A list without doublets of numbers below m has at most m of them. -/
theorem nodup_len (m : Nat) : ∀ L : List Int, L.Nodup → (∀ x ∈ L, 0 ≤ x ∧ x < (m : Int)) → L.length ≤ m := by
  induction m with
  | zero =>
    intro L _ h
    cases L with
    | nil => simp
    | cons x xs => have := h x (by simp); omega
  | succ m ih =>
    intro L hn h
    have h1 := ih (L.erase (m : Int)) (hn.erase _) (fun x hx => by
      have q := List.mem_of_mem_erase hx
      have := h x q
      have ne : x ≠ (m : Int) := by
        rintro rfl
        exact (List.Nodup.not_mem_erase hn) hx
      omega)
    by_cases hm : (m : Int) ∈ L
    · rw [List.length_erase_of_mem hm] at h1; omega
    · rw [List.erase_of_not_mem hm] at h1; omega
/-! Classes -/
/-! Classes that stand still, and what can be reached (plain Lean). -/
def inR (rows : List (List Int)) : Prop := ∀ i, i < rows.length → ∀ x ∈ rows.getD i [], 0 ≤ x ∧ x < (rows.length : Int)
/-! Reduce -/
theorem getAt {c : List Int} {i : Nat} (h : i < c.length) : c.getD i 0 = c[i] := by simp [List.getD_eq_getElem?_getD, h]
theorem rowAt {rows : List (List Int)} {i : Nat} (h : i < rows.length) : rows.getD i [] = rows[i] := by simp [List.getD_eq_getElem?_getD, h]
theorem rowAt' {rows : List (List Int)} {i : Nat} (h : i < rows.length) : rd_L1 rows (i : Int) = rows.getD i [] := rfl
theorem RelW.inR {b t : Nat} {rows : List (List Int)} {acc : List Bool} (H : RelW b t rows acc) : inR rows := fun i hi x hx => (H.len i hi).2 x (by rw [rowAt hi] at hx; exact hx)
theorem RelW.rowlen {b t : Nat} {rows : List (List Int)} {acc : List Bool} (H : RelW b t rows acc) (i : Nat) (hi : i < rows.length) : (rows.getD i []).length = b ^ t := by rw [rowAt hi]; exact (H.len i hi).1
section
variable {b t : Int} {rows : List (List Int)} {acc : List Bool}
end

/-! Reverse -/
def rv (xs : List Int) (i : Nat) : List Int := (List.range xs.length).map fun p => if p < i ∨ xs.length - i ≤ p then xs.getD (xs.length - 1 - p) 0 else xs.getD p 0
theorem rv_len (xs : List Int) (i : Nat) : (rv xs i).length = xs.length := by simp [rv]
theorem rv_get (xs : List Int) (i p : Nat) (hp : p < xs.length) : (rv xs i)[p]'(by rw [rv_len]; exact hp) = if p < i ∨ xs.length - i ≤ p then xs.getD (xs.length - 1 - p) 0 else xs.getD p 0 := by simp [rv]
theorem rv_zero (xs : List Int) : rv xs 0 = xs := by
  apply List.ext_getElem (rv_len xs 0)
  intro p h1 h2
  rw [rv_get xs 0 p h2, if_neg (by omega)]
  simp [List.getD_eq_getElem?_getD, h2]
theorem rv_end (xs : List Int) : rv xs (xs.length / 2) = xs.reverse := by
  apply List.ext_getElem (by rw [rv_len, List.length_reverse])
  intro p h1 h2
  have hp : p < xs.length := by simpa using h2
  rw [rv_get xs _ p hp, List.getElem_reverse]
  have e1 : xs.getD (xs.length - 1 - p) 0 = xs[xs.length - 1 - p]'(by omega) := by simp [List.getD_eq_getElem?_getD, show xs.length - 1 - p < xs.length by omega]
  split
  · exact e1
  · have hq : p = xs.length - 1 - p := by omega
    have e2 : xs.getD p 0 = xs.getD (xs.length - 1 - p) 0 := by rw [← hq]
    rw [e2, e1]
theorem rv_step (xs : List Int) (i : Nat) (h : i < xs.length / 2) : ((rv xs i).set i (xs.getD (xs.length - 1 - i) 0)).set (xs.length - 1 - i) (xs.getD i 0) = rv xs (i + 1) := by
  apply List.ext_getElem (by simp [rv_len])
  intro p h1 h2
  have hp : p < xs.length := by rw [rv_len] at h2; exact h2
  rw [List.getElem_set, List.getElem_set, rv_get xs i p hp, rv_get xs (i + 1) p hp]
  by_cases a : xs.length - 1 - i = p
  · rw [if_pos a, if_pos (by omega), show xs.length - 1 - p = i by omega]
  · rw [if_neg a]
    by_cases b : i = p
    · rw [if_pos b, if_pos (by omega), b]
    · rw [if_neg b]
      by_cases c : p < i ∨ xs.length - i ≤ p
      · rw [if_pos c, if_pos (by omega)]
      · rw [if_neg c, if_neg (by omega)]
theorem rev_ev (xs : List Int) (hl : xs.length ≤ 1152921504606846976) : Ev (fun k => slices_Reverse_int_int.f k xs) xs.reverse := by
  have key := downs (P := fun i => Ev (fun k => slices_Reverse_int_int.l0 k (rv xs i) (i : Int) ((xs.length : Int) - 1 - i)) xs.reverse) (xs.length / 2)
    (fun i hi ih => by
      have r1 : rd (rv xs i) (i : Int) = xs.getD i 0 := by rw [rd_of (by rw [rv_len]; omega), rv_get xs i i (by omega), if_neg (by omega)]
      have e3 : ((xs.length : Int) - 1 - i) = ((xs.length - 1 - i : Nat) : Int) := by omega
      have r2 : rd (rv xs i) ((xs.length : Int) - 1 - i) = xs.getD (xs.length - 1 - i) 0 := by rw [e3, rd_of (by rw [rv_len]; omega), rv_get xs i _ (by omega), if_neg (by omega)]
      refine Ev.step (fun k => ?_) ih
      have l1 := rv_len xs i
      rw [slices_Reverse_int_int.l0, if_pos (by omega), if_pos (by omega), if_pos (by omega), if_pos (by omega), if_pos (by omega), r1, r2, w64 (x := (i : Int) + 1) (by omega) (by omega), w64 (x := (xs.length : Int) - 1 - i - 1) (by omega) (by omega), e3, Int.toNat_natCast, Int.toNat_natCast, rv_step xs i hi]
      congr 1
      omega)
    (by
      refine Ev.step (f := fun _ => some _) (fun k => ?_) (Ev.now _)
      rw [slices_Reverse_int_int.l0, if_neg (by omega), rv_end])
  have h := key 0 (by omega)
  rw [rv_zero] at h
  refine Ev.congr (fun k => ?_) h
  unfold slices_Reverse_int_int.f
  rw [w64 (by omega) (by omega)]
  simp

/-! DivNat -/
theorem tmod_nat (n b : Nat) : Int.tmod (n : Int) (b : Int) = ((n % b : Nat) : Int) := by
  rw [Int.tmod_eq_emod_of_nonneg (by omega)]
  simp
theorem tdiv_nat (n b : Nat) : Int.tdiv (n : Int) (b : Int) = ((n / b : Nat) : Int) := by
  rw [Int.tdiv_eq_ediv_of_nonneg (by omega)]
  simp

/-! Digits -/
def dgs (b : Nat) : Nat → Nat → List Int
  | 0, _ => []
  | k + 1, n => if n = 0 then [] else dgs b k (n / b) ++ [((n % b : Nat) : Int)]
theorem dgs_len (b : Nat) : ∀ j n, (dgs b j n).length ≤ j := by
  intro j
  induction j with
  | zero => intro n; simp [dgs]
  | succ j ih =>
    intro n
    rw [dgs]
    split
    · simp
    · have := ih (n / b)
      simp
      omega
theorem specPower16 (b : Nat) (hb : 2 ≤ b) (hb4 : b ≤ 4) : Ev (fun k => spec_PowerOf.f k (b : Int) 16) ((b ^ 16 : Nat) : Int) := by
  have key : ∀ d i : Nat, i + d = 16 → Ev (fun k => spec_PowerOf.l0 k (b : Int) 16 ((b ^ i : Nat) : Int) (i : Int)) ((b ^ 16 : Nat) : Int) := by
    intro d
    induction d with
    | zero =>
      intro i hi
      obtain rfl : i = 16 := by omega
      refine Ev.step (f := fun _ => some _) (fun k => ?_) (Ev.now _)
      rw [spec_PowerOf.l0, if_neg (by omega)]
    | succ d ih =>
      intro i hi
      have hp : b ^ (i + 1) ≤ 4 ^ 16 := Nat.le_trans (Nat.pow_le_pow_left hb4 _) (Nat.pow_le_pow_right (by omega) (by omega))
      have he : ((b ^ i : Nat) : Int) * (b : Int) = ((b ^ (i + 1) : Nat) : Int) := by rw [Nat.pow_succ]; simp
      refine Ev.step (fun k => ?_) (ih (i + 1) (by omega))
      rw [spec_PowerOf.l0, if_pos (by omega), he, w64 (x := ((b ^ (i + 1) : Nat) : Int)) (by omega) (by omega), w64 (by omega) (by omega)]
      rfl
  obtain ⟨K, hK⟩ := key 16 0 rfl
  refine ⟨K + 1, fun k hk => ?_⟩
  obtain ⟨m, rfl⟩ : ∃ m, k = m + 1 := ⟨k - 1, by omega⟩
  have h := hK m (by omega)
  simp only at h
  show spec_PowerOf.f (m + 1) (b : Int) 16 = _
  rw [spec_PowerOf.f, l1In_eq, Option.bind_some]
  rw [show (decide (2 ≤ (b : Int) ∧ (b : Int) ≤ 4)) = true by simp; omega, if_pos rfl, l1In_eq, Option.bind_some, spec_PowerOf.j0, if_neg (by simp)]
  exact h
/-! DigitsBoth -/
theorem dgs_in (b : Nat) (hb : 2 ≤ b) : ∀ j n, ∀ d ∈ dgs b j n, 0 ≤ d ∧ d < (b : Int) := by
  intro j
  induction j with
  | zero => intro n d hd; simp [dgs] at hd
  | succ j ih =>
    intro n d hd
    rw [dgs] at hd
    split at hd
    · simp at hd
    · rw [List.mem_append] at hd
      rcases hd with hd | hd
      · exact ih _ d hd
      · have : d = ((n % b : Nat) : Int) := by simpa using hd
        have hm : n % b < b := Nat.mod_lt _ (by omega)
        subst this
        exact ⟨Int.natCast_nonneg _, by exact_mod_cast hm⟩
/-! Reduce2 -/
def clO (e : List Int) (q : Int) : Int := e.getD q.toNat 0
structure OkO (n : Nat) (e O : List Int) : Prop where
  inr : ∀ x ∈ O, 0 ≤ x ∧ x < (n : Int)
  nod : (O.map (clO e)).Nodup
theorem OkO.len {n : Nat} {e O : List Int} (H : OkO n e O) (he : ∀ i, i < n → 0 ≤ e.getD i 0 ∧ e.getD i 0 < (n : Int)) : O.length ≤ n := by
  have := nodup_len n (O.map (clO e)) H.nod (fun x hx => by
    obtain ⟨q, hq, rfl⟩ := List.mem_map.1 hx
    have := H.inr q hq
    exact he q.toNat (by omega))
  rwa [List.length_map] at this
section
variable {b t : Int} {rows : List (List Int)} {acc : List Bool} {e : List Int}
end
/-- Rows and marks of any automaton that the reduction is called with. -/
structure RelG (m : Nat) (rows : List (List Int)) (acc : List Bool) : Prop where
  n1 : 1 ≤ rows.length
  nN : rows.length ≤ 20000
  al : acc.length = rows.length
  mm : m ≤ 10000
  len : ∀ i, i < rows.length → (rows.getD i []).length = m
  inR : inR rows
/-! Reached -/
/-! Numbered -/
/-! Minimal -/
theorem Bfs.congr {M M' : Int → List Int} {L F : List Int} {k : Nat} (H : Bfs M L k F) : (∀ v ∈ F, M v = M' v) → Bfs M' L k F := by
  induction H with
  | done h => exact fun _ => .done h
  | @step L F k h H ih =>
    intro hM
    have hp := (addAll_pre (M L[k]) L).trans H.pre
    have e := hM L[k] (hp.subset (List.getElem_mem h))
    refine .step h ?_
    rw [← e]
    exact ih hM
section
variable {rows : List (List Int)}
end
/-! Reduced -/
abbrev RelR := Int × Int × (List (List Int)) × List Bool × Bool
structure SmallR (r : RelR) : Prop where
  n : r.2.2.1.length ≤ 1048576
  row : ∀ x ∈ r.2.2.1, x.length ≤ 1048576
  acc : r.2.2.2.1.length ≤ 1048576
theorem SmallR.none : SmallR (0, 0, [], [], false) := ⟨by simp, fun x hx => by simp at hx, by simp⟩
theorem RelG.small {m : Nat} {rows : List (List Int)} {acc : List Bool} (H : RelG m rows acc) (b t : Int) (o : Bool) : SmallR (b, t, rows, acc, o) := by
  refine ⟨by have := H.nN; show rows.length ≤ _; omega, fun x hx => ?_, by have := H.nN; have := H.al; show acc.length ≤ _; omega⟩
  obtain ⟨i, hi, rfl⟩ := List.getElem_of_mem hx
  have h1 := H.len i hi
  rw [rowAt hi] at h1
  have := H.mm
  omega
/-! AreDigits -/
theorem areDigits_ev (b : Int) (h2 : 2 ≤ b) (h4 : b ≤ 4) (ds : List Int) (hd : ∀ c (hc : c < ds.length), 0 ≤ ds[c] ∧ ds[c] < b) (hl : ds.length ≤ 16) : Ev (fun k => spec_AreDigits.f k ds b) true := by
  have key := downs (P := fun c => Ev (fun k => spec_AreDigits.l0 k ds b (c : Int)) true) ds.length
    (fun c hc ih => by
      obtain ⟨d0, d1⟩ := hd c hc
      refine Ev.step (fun k => ?_) ih
      rw [spec_AreDigits.l0, if_pos (by omega), if_pos (by omega), rd_of hc, if_neg (by omega), if_neg (by omega), w64 (by omega) (by omega)]
      rfl)
    (by
      refine Ev.step (f := fun _ => some true) (fun k => ?_) (Ev.now _)
      rw [spec_AreDigits.l0, if_neg (by omega), l1In_eq, Option.bind_some, decide_eq_true (show 2 ≤ b ∧ b ≤ 4 from ⟨h2, h4⟩), if_pos rfl, decide_eq_true (show (ds.length : Int) ≤ 16 by omega)])
  exact key 0 (by omega)

/-! Numbers15 -/
/-- The digit of a letter in one track (of t tracks, base b). -/
def dg15 (b t : Nat) (x : Int) (p : Nat) : Nat := x.toNat / b ^ (t - 1 - p) % b
def val15 (b : Nat) (ds : List Nat) : Nat := ds.foldl (fun a d => a * b + d) 0
theorem val15_snoc (b : Nat) (ds : List Nat) (d : Nat) : val15 b (ds ++ [d]) = val15 b ds * b + d := by simp [val15, List.foldl_append]
theorem val15_lt (b : Nat) (hb : 1 ≤ b) (ds : List Nat) (h : ∀ d ∈ ds, d < b) : val15 b ds < b ^ ds.length := by
  have key : ∀ (ds : List Nat), (∀ d ∈ ds, d < b) → ∀ a : Nat, ds.foldl (fun a d => a * b + d) a + 1 ≤ (a + 1) * b ^ ds.length := by
    intro ds
    induction ds with
    | nil => intro _ a; simp
    | cons d ds ih =>
      intro h a
      have h1 := ih (fun x hx => h x (List.mem_cons_of_mem _ hx)) (a * b + d)
      have h2 := h d (List.mem_cons_self ..)
      have h3 : a * b + d + 1 ≤ (a + 1) * b := by rw [Nat.add_mul]; omega
      have h4 : (a * b + d + 1) * b ^ ds.length ≤ (a + 1) * b * b ^ ds.length := Nat.mul_le_mul_right _ h3
      rw [List.foldl_cons, List.length_cons, Nat.pow_succ, Nat.mul_comm (b ^ ds.length) b, ← Nat.mul_assoc]
      omega
  have := key ds h 0
  rw [Nat.zero_add, Nat.one_mul] at this
  exact this
theorem map_range_set {α : Type} (f g : Nat → α) (t c : Nat) (v : α) (hv : v = g c) (h : ∀ p, p < t → p ≠ c → g p = f p) : ((List.range t).map f).set c v = (List.range t).map g := by
  apply List.ext_getElem (by simp)
  intro p h1 h2
  rw [List.getElem_set]
  simp only [List.length_map, List.length_range] at h2
  split
  · subst hv
    simp
    congr 1
  · simp
    exact (h p h2 (fun e => by omega)).symm
def trk15 (b t : Nat) (x : Int) : List Int := (List.range t).map fun p => ((dg15 b t x p : Nat) : Int)
theorem specValue_ev (b : Nat) (h2 : 2 ≤ b) (h3 : b ≤ 3) (ds : List Nat) (hd : ∀ d ∈ ds, d < b) (hl : ds.length ≤ 16) (hv : ∀ i, i ≤ ds.length → val15 b (ds.take i) < 43046721) : Ev (fun k => spec_ValueOf.f k (ds.map (fun (d : Nat) => (d : Int))) (b : Int)) ((val15 b ds : Nat) : Int) := by
  have key := downs (P := fun i => Ev (fun k => spec_ValueOf.l0 k (ds.map (fun (d : Nat) => (d : Int))) (b : Int) ((val15 b (ds.take i) : Nat) : Int) (i : Int)) ((val15 b ds : Nat) : Int)) ds.length
    (fun i hi ih => by
      refine Ev.step (fun k => ?_) ih
      have h1 := hv i (by omega)
      have hb1 : val15 b (ds.take i) * b ≤ 43046721 * 3 := Nat.mul_le_mul (by omega) h3
      have e : (((val15 b (ds.take i) : Nat) : Int) * (b : Int)) = ((val15 b (ds.take i) * b : Nat) : Int) := by simp
      have hdi := hd ds[i] (List.getElem_mem hi)
      rw [spec_ValueOf.l0, if_pos (by simp; omega), if_pos (by omega), rd_of (by simpa using hi), List.getElem_map, e, w64 (x := ((val15 b (ds.take i) * b : Nat) : Int)) (by omega) (by omega), w64 (by omega) (by omega), w64 (by omega) (by omega), List.take_succ_eq_append_getElem hi, val15_snoc]
      simp)
    (by
      refine Ev.step (f := fun _ => some _) (fun k => ?_) (Ev.now _)
      rw [spec_ValueOf.l0, if_neg (by simp), List.take_length])
  unfold spec_ValueOf.f
  refine Ev.bind (areDigits_ev (b : Int) (by omega) (by omega) (ds.map (fun (d : Nat) => (d : Int))) (fun c hc => ?_) (by simpa using hl)) ?_
  · rw [List.length_map] at hc
    rw [List.getElem_map]
    have h9 := hd ds[c] (List.getElem_mem hc)
    omega
  · simp only [if_true]
    have h := key 0 (by omega)
    exact h
/-! Rename -/
theorem letterOf_ev (b : Nat) (h2 : 2 ≤ b) (h3 : b ≤ 3) (ds : List Nat) (hd : ∀ d ∈ ds, d < b) (hl : ds.length ≤ 3) : Ev (fun k => impl_letterOf.f k (b : Int) (ds.map (fun (d : Nat) => (d : Int)))) ((val15 b ds : Nat) : Int) := by
  have key := downs (P := fun i => Ev (fun k => impl_letterOf.l0 k (b : Int) ((val15 b (ds.take i) : Nat) : Int) (ds.map (fun (d : Nat) => (d : Int))) (ds.length : Int) (i : Int)) ((val15 b ds : Nat) : Int)) ds.length
    (fun i hi ih => by
      refine Ev.step (fun k => ?_) ih
      have h := val15_lt b (by omega) (ds.take i) (fun d hx => hd d (List.mem_of_mem_take hx))
      have hle : b ^ (ds.take i).length ≤ 9261 := pow_le16 b (by omega) _ (by rw [List.length_take]; omega)
      have hdi := hd ds[i] (List.getElem_mem hi)
      have e1 : rd (ds.map (fun (d : Nat) => (d : Int))) (i : Int) = (ds[i] : Int) := by rw [rd_of (by rw [List.length_map]; exact hi), List.getElem_map]
      have e2 : ((val15 b (ds.take (i + 1)) : Nat) : Int) = ((val15 b (ds.take i) : Nat) : Int) * (b : Int) + (ds[i] : Int) := by
        rw [List.take_succ_eq_append_getElem hi, val15_snoc]
        simp
      have hm : val15 b (ds.take i) * b ≤ 9261 * 3 := Nat.mul_le_mul (by omega) h3
      have hm2 : ((val15 b (ds.take i) : Nat) : Int) * (b : Int) = ((val15 b (ds.take i) * b : Nat) : Int) := by simp
      rw [impl_letterOf.l0, if_pos (by omega), if_pos (by omega), if_pos (by rw [List.length_map]; omega), e1, hm2, w64 (x := ((val15 b (ds.take i) * b : Nat) : Int)) (by omega) (by omega), w64 (by omega) (by omega), w64 (by omega) (by omega)]
      rw [e2, hm2]
      rfl)
    (by
      refine Ev.step (f := fun _ => some _) (fun k => ?_) (Ev.now _)
      rw [impl_letterOf.l0, if_neg (by omega), List.take_length])
  refine Ev.congr (fun k => ?_) (key 0 (by omega))
  unfold impl_letterOf.f
  rw [List.length_map]
  rfl
section
variable {b t T : Nat} {rows : List (List Int)} {acc : List Bool} {tk : List Int}
end
/-! SameR -/
/-! Contains -/
def padW (W : Nat) (d : List Int) : List Int := List.replicate (W - d.length) 0 ++ d
theorem padW_len {W : Nat} {d : List Int} (h : d.length ≤ W) : (padW W d).length = W := by simp [padW]; omega
theorem padW_in {b W : Nat} (hb : 1 ≤ b) {d : List Int} (h : ∀ x ∈ d, 0 ≤ x ∧ x < (b : Int)) : ∀ x ∈ padW W d, 0 ≤ x ∧ x < (b : Int) := by
  intro x hx
  unfold padW at hx
  rcases List.mem_append.1 hx with g | g
  · rw [List.eq_of_mem_replicate g]; omega
  · exact h x g
theorem padDigits_ev (d : List Int) (W : Nat) (hW : W ≤ 16) (h : d.length ≤ W) : Ev (fun k => spec_PadDigits.f k d (W : Int)) (padW W d) := by
  have key : ∀ j i, j + i = W - d.length → Ev (fun k => spec_PadDigits.l0 k d (W : Int) (List.replicate i 0) ((d.length + i : Nat) : Int)) (padW W d) := by
    intro j
    induction j with
    | zero =>
      intro i hi
      refine Ev.step (f := fun _ => some _) (fun k => ?_) (Ev.now _)
      rw [spec_PadDigits.l0, if_neg (by omega), if_pos (by simp; omega), padW, show W - d.length = i by omega]
    | succ j ih =>
      intro i hi
      refine Ev.step (fun k => ?_) (ih (i + 1) (by omega))
      rw [spec_PadDigits.l0, if_pos (by omega), if_pos (by omega), if_pos (by simp; omega), w64 (by omega) (by omega), List.replicate_succ']
      rfl
  exact key (W - d.length) 0 (by omega)
theorem letterI_ev (b : Nat) (h2 : 2 ≤ b) (h3 : b ≤ 3) (ds : List Int) (hd : ∀ d ∈ ds, 0 ≤ d ∧ d < (b : Int)) (hl : ds.length ≤ 3) : Ev (fun k => impl_letterOf.f k (b : Int) ds) ((val15 b (ds.map Int.toNat) : Nat) : Int) ∧ Ev (fun k => spec_LetterOf.f k (b : Int) ds) ((val15 b (ds.map Int.toNat) : Nat) : Int) ∧ val15 b (ds.map Int.toNat) < b ^ ds.length := by
  have e : (ds.map Int.toNat).map (fun (d : Nat) => (d : Int)) = ds := by
    rw [List.map_map]
    conv => rhs; rw [← List.map_id ds]
    refine List.map_congr_left fun x hx => ?_
    have := hd x hx
    show ((x.toNat : Nat) : Int) = x
    omega
  have hd' : ∀ d ∈ ds.map Int.toNat, d < b := fun d hx => by
    obtain ⟨x, hq, rfl⟩ := List.mem_map.1 hx
    have := hd x hq
    omega
  have hlt := val15_lt b (by omega) _ hd'
  rw [List.length_map] at hlt
  refine ⟨?_, ?_, hlt⟩
  · have := letterOf_ev b h2 h3 (ds.map Int.toNat) hd' (by rw [List.length_map]; exact hl)
    rwa [e] at this
  · have hv := specValue_ev b h2 h3 (ds.map Int.toNat) hd' (by rw [List.length_map]; omega) (fun i _ => by
      have h1 := val15_lt b (by omega) ((ds.map Int.toNat).take i) (fun d hx => hd' d (List.mem_of_mem_take hx))
      have h4 := pow_le16 b (by omega) ((ds.map Int.toNat).take i).length (by rw [List.length_take, List.length_map]; omega)
      omega)
    rw [e] at hv
    have ha := areDigits_ev (b : Int) (by omega) (by omega) ds (fun c hc => hd _ (List.getElem_mem hc)) (by omega)
    unfold spec_LetterOf.f
    refine Ev.bind ha ?_
    simp only [if_true, if_neg (show ¬ (ds.length : Int) > 3 by omega)]
    exact Ev.bind hv (Ev.now _)
theorem mx_nat (a c : Nat) : mx (a : Int) (c : Int) = ((max a c : Nat) : Int) := by
  unfold mx
  split <;> omega
section
variable {b t : Nat} {rows : List (List Int)} {acc : List Bool} {D : Nat → List Int} {ns : List Int}
/-- What both sides walk: a state behind so many columns of the padded digits. -/
structure Walk (b : Nat) (rows : List (List Int)) (ns : List Int) (D : Nat → List Int) (W : Nat) (st : Nat → Nat) : Prop where
  z : st 0 = 0
  s : ∀ c, st (c + 1) = ((rows.getD (st c) []).getD (val15 b (((List.range ns.length).map fun i => (padW W (D i)).getD c 0).map Int.toNat)) 0).toNat
theorem col_ok (hb : 2 ≤ b) {W : Nat} (hD : ∀ i, i < ns.length → (D i).length ≤ W ∧ ∀ x ∈ D i, 0 ≤ x ∧ x < (b : Int)) (c : Nat) (hc : c < W) : ∀ d ∈ (List.range ns.length).map fun i => (padW W (D i)).getD c 0, 0 ≤ d ∧ d < (b : Int) := by
  intro d hd
  obtain ⟨i, hi, rfl⟩ := List.mem_map.1 hd
  obtain ⟨h1, h2⟩ := hD i (List.mem_range.1 hi)
  rw [getAt (by rw [padW_len h1]; exact hc)]
  exact padW_in (by omega) h2 _ (List.getElem_mem _)
theorem walk_step (H : RelW b t rows acc) {W : Nat} {st : Nat → Nat} (hw : Walk b rows ns D W st) (hn : ns.length = t) (hD : ∀ i, i < ns.length → (D i).length ≤ W ∧ ∀ x ∈ D i, 0 ≤ x ∧ x < (b : Int)) (c : Nat) (hc : c < W) (hs : st c < rows.length) :
    st (c + 1) < rows.length ∧ val15 b (((List.range ns.length).map fun i => (padW W (D i)).getD c 0).map Int.toNat) < (rows.getD (st c) []).length ∧ ((st (c + 1) : Nat) : Int) = rd (rows.getD (st c) []) ((val15 b (((List.range ns.length).map fun i => (padW W (D i)).getD c 0).map Int.toNat) : Nat) : Int) := by
  have hb2 := H.b2
  have hl := (letterI_ev b H.b2 H.b3 ((List.range ns.length).map fun i => (padW W (D i)).getD c 0) (col_ok hb2 hD c hc) (by simp; have := H.t3; omega)).2.2
  rw [List.length_map, List.length_range] at hl
  have hrl := H.rowlen (st c) hs
  rw [← hn] at hrl
  rw [← hrl] at hl
  have hx := H.inR (st c) hs _ (List.getElem_mem hl)
  have e := hw.s c
  rw [getAt hl] at e
  refine ⟨by omega, hl, ?_⟩
  rw [rd_of hl]
  omega
theorem walk_lt (H : RelW b t rows acc) {W : Nat} {st : Nat → Nat} (hw : Walk b rows ns D W st) (hn : ns.length = t) (hD : ∀ i, i < ns.length → (D i).length ≤ W ∧ ∀ x ∈ D i, 0 ≤ x ∧ x < (b : Int)) : ∀ c, c ≤ W → st c < rows.length := by
  intro c
  induction c with
  | zero => intro _; rw [hw.z]; exact H.n1
  | succ c ih => intro hc; exact (walk_step H hw hn hD c (by omega) (ih (by omega))).1
theorem specWalk (H : RelW b t rows acc) {W : Nat} (hW : W ≤ 16) {st : Nat → Nat} (hw : Walk b rows ns D W st) (hn : ns.length = t) (hD : ∀ i, i < ns.length → (D i).length ≤ W ∧ ∀ x ∈ D i, 0 ≤ x ∧ x < (b : Int))
    (hE : ∀ i (h : i < ns.length), Ev (fun k => spec_DigitsOf.f k ns[i] (b : Int)) (D i)) : Ev (fun k => spec_Contains.l1 k ns (W : Int) 0 0 b t rows acc) (acc.getD (st W) false) := by
  have ht3 := H.t3
  have key := downs (P := fun c => Ev (fun k => spec_Contains.l1 k ns (W : Int) ((st c : Nat) : Int) (c : Int) b t rows acc) (acc.getD (st W) false)) W
    (fun c hc ih => by
      have hs := walk_lt H hw hn hD c (by omega)
      obtain ⟨s1, s2, s3⟩ := walk_step H hw hn hD c hc hs
      have hlet := (letterI_ev b H.b2 H.b3 ((List.range ns.length).map fun i => (padW W (D i)).getD c 0) (col_ok H.b2 hD c hc) (by simp; omega)).2.1
      have key2 := downs (P := fun i => Ev (fun k => spec_Contains.l2 k ns (W : Int) ((st c : Nat) : Int) (c : Int) ((List.range i).map fun i => (padW W (D i)).getD c 0) (i : Int) b t rows acc) (acc.getD (st W) false)) ns.length
        (fun i hi ih2 => by
          have hp := padW_len (hD i hi).1
          refine Ev.step (f := fun k => (spec_DigitsOf.f k ns[i] (b : Int)).bind fun t484 => ((spec_PadDigits.f k t484 (W : Int)).bind fun t487 => (if 0 ≤ (c : Int) then (if (c : Int) < (t487.length : Int) then (if ((List.range i).map fun i => (padW W (D i)).getD c 0).length < 17592186044416 then (spec_Contains.l2 k ns (W : Int) ((st c : Nat) : Int) (c : Int) (((List.range i).map fun i => (padW W (D i)).getD c 0) ++ [rd t487 (c : Int)]) ((i + 1 : Nat) : Int) b t rows acc) else (none)) else (none)) else (none)))) (fun k => ?_) (Ev.bind (hE i hi) (Ev.bind (padDigits_ev (D i) W hW (hD i hi).1) ?_))
          · rw [spec_Contains.l2, if_pos (by omega), if_pos (by omega), rd_of hi, w64 (by omega) (by omega)]
            rfl
          · simp only [if_pos (show (0 : Int) ≤ (c : Int) by omega), if_pos (show (c : Int) < ((padW W (D i)).length : Int) by omega), if_pos (show ((List.range i).map fun i => (padW W (D i)).getD c 0).length < 17592186044416 by simp; omega)]
            refine Ev.congr (fun k => ?_) ih2
            rw [List.range_succ, List.map_append, rd_of (by omega)]
            simp only [List.map_cons, List.map_nil]
            rw [getAt (by omega)])
        (by
          refine Ev.step (f := fun k => (spec_LetterOf.f k (b : Int) ((List.range ns.length).map fun i => (padW W (D i)).getD c 0)).bind fun t495 => (if 0 ≤ t495 then (if t495 < ((rows.getD (st c) []).length : Int) then (spec_Contains.l1 k ns (W : Int) (rd (rows.getD (st c) []) t495) ((c + 1 : Nat) : Int) b t rows acc) else (none)) else (none))) (fun k => ?_) (Ev.bind hlet ?_)
          · rw [spec_Contains.l2, if_neg (by omega), if_pos (by omega), if_pos (by omega), rowAt' hs, w64 (by omega) (by omega)]
            rfl
          · simp only [if_pos (show (0 : Int) ≤ ((val15 b (((List.range ns.length).map fun i => (padW W (D i)).getD c 0).map Int.toNat) : Nat) : Int) by omega), if_pos (show ((val15 b (((List.range ns.length).map fun i => (padW W (D i)).getD c 0).map Int.toNat) : Nat) : Int) < ((rows.getD (st c) []).length : Int) by omega)]
            rw [← s3]
            exact ih)
      refine Ev.step (fun k => ?_) (key2 0 (by omega))
      rw [spec_Contains.l1, if_pos (by omega)]
      rfl)
    (by
      have hs := walk_lt H hw hn hD W (by omega)
      have hal := H.al
      refine Ev.step (f := fun _ => some _) (fun k => ?_) (Ev.now _)
      rw [spec_Contains.l1, if_neg (by omega), if_pos (by omega), if_pos (by omega)]
      rfl)
  have h := key 0 (by omega)
  rw [hw.z] at h
  exact h
theorem implWalk (H : RelW b t rows acc) {W : Nat} (hW : W ≤ 16) {st : Nat → Nat} (hw : Walk b rows ns D W st) (hn : ns.length = t) (hD : ∀ i, i < ns.length → (D i).length ≤ W ∧ ∀ x ∈ D i, 0 ≤ x ∧ x < (b : Int)) :
    Ev (fun k => impl_Relation_contains.l1 k (W : Int) ((List.range ns.length).map D) (((List.range ns.length).map D).length : Int) 0 b t rows acc) (acc.getD (st W) false) := by
  have ht3 := H.t3
  obtain ⟨P, hP⟩ : ∃ P, P = (List.range ns.length).map (fun i => padW W (D i)) := ⟨_, rfl⟩
  have hPl : P.length = ns.length := by rw [hP]; simp
  have er : ∀ i, i < ns.length → rd_L1 P (i : Int) = padW W (D i) := fun i hi => by
    rw [rdR_of (by omega)]
    simp [hP]
  have walk : Ev (fun k => impl_Relation_contains.l2 k P 0 (W : Int) 0 b t rows acc) (acc.getD (st W) false) := by
    have key := downs (P := fun c => Ev (fun k => impl_Relation_contains.l2 k P ((st c : Nat) : Int) (W : Int) (c : Int) b t rows acc) (acc.getD (st W) false)) W
      (fun c hc ih => by
        have hs := walk_lt H hw hn hD c (by omega)
        obtain ⟨s1, s2, s3⟩ := walk_step H hw hn hD c hc hs
        have hlet := (letterI_ev b H.b2 H.b3 ((List.range ns.length).map fun i => (padW W (D i)).getD c 0) (col_ok H.b2 hD c hc) (by simp; omega)).1
        have key2 := downs (P := fun i => Ev (fun k => impl_Relation_contains.l3 k P ((st c : Nat) : Int) (c : Int) ((List.range i).map fun i => (padW W (D i)).getD c 0) (W : Int) (c : Int) P (P.length : Int) (i : Int) b t rows acc) (acc.getD (st W) false)) ns.length
          (fun i hi ih2 => by
            have hp := padW_len (hD i hi).1
            refine Ev.step (fun k => ?_) ih2
            rw [impl_Relation_contains.l3, if_pos (by omega), if_pos (by omega), if_pos (by omega), er i hi, if_pos (by omega), if_pos (by omega), if_pos (by simp; omega), w64 (by omega) (by omega), List.range_succ, List.map_append, rd_of (by omega)]
            simp only [List.map_cons, List.map_nil]
            rw [getAt (by omega)]
            rfl)
          (by
            refine Ev.step (f := fun k => (impl_letterOf.f k (b : Int) ((List.range ns.length).map fun i => (padW W (D i)).getD c 0)).bind fun t266 => (if 0 ≤ t266 then (if t266 < ((rows.getD (st c) []).length : Int) then (impl_Relation_contains.l2 k P (rd (rows.getD (st c) []) t266) (W : Int) ((c + 1 : Nat) : Int) b t rows acc) else (none)) else (none))) (fun k => ?_) (Ev.bind hlet ?_)
            · rw [impl_Relation_contains.l3, if_neg (by omega), if_pos (by omega), if_pos (by omega), rowAt' hs, w64 (by omega) (by omega)]
              rfl
            · simp only [if_pos (show (0 : Int) ≤ ((val15 b (((List.range ns.length).map fun i => (padW W (D i)).getD c 0).map Int.toNat) : Nat) : Int) by omega), if_pos (show ((val15 b (((List.range ns.length).map fun i => (padW W (D i)).getD c 0).map Int.toNat) : Nat) : Int) < ((rows.getD (st c) []).length : Int) by omega)]
              rw [← s3]
              exact ih)
        refine Ev.step (fun k => ?_) (key2 0 (by omega))
        rw [impl_Relation_contains.l2, if_pos (by omega)]
        rfl)
      (by
        have hs := walk_lt H hw hn hD W (by omega)
        have hal := H.al
        refine Ev.step (f := fun _ => some _) (fun k => ?_) (Ev.now _)
        rw [impl_Relation_contains.l2, if_neg (by omega), if_pos (by omega), if_pos (by omega)]
        rfl)
    have h := key 0 (by omega)
    rw [hw.z] at h
    exact h
  have key := downs (P := fun j => Ev (fun k => impl_Relation_contains.l1 k (W : Int) ((List.range ns.length).map fun i => if i < j then padW W (D i) else D i) (ns.length : Int) (j : Int) b t rows acc) (acc.getD (st W) false)) ns.length
    (fun j hj ih => by
      have hd := (hD j hj).1
      have e1 : rd_L1 ((List.range ns.length).map fun i => if i < j then padW W (D i) else D i) (j : Int) = D j := by
        rw [rdR_of (by simp; exact hj)]
        simp
      have e2 : ((List.range ns.length).map fun i => if i < j then padW W (D i) else D i).set j (padW W (D j)) = (List.range ns.length).map fun i => if i < j + 1 then padW W (D i) else D i := by
        refine map_range_set _ _ _ _ _ (by simp) (fun p hp hne => ?_)
        by_cases c : p < j
        · rw [if_pos c, if_pos (by omega)]
        · rw [if_neg c, if_neg (by omega)]
      have e3 : ((W : Int) - ((D j).length : Int)).toNat = W - (D j).length := by omega
      refine Ev.step (fun k => ?_) ih
      rw [impl_Relation_contains.l1, if_pos (by omega), if_pos (by omega), if_pos (by simp; exact hj), e1, w64 (by omega) (by omega), if_pos (by omega), if_pos (by omega), Option.bind_some, if_pos (by simp; omega), e3, Int.toNat_natCast, w64 (by omega) (by omega)]
      rw [show List.replicate (W - (D j).length) 0 ++ D j = padW W (D j) from rfl, e2]
      rfl)
    (by
      have e : ((List.range ns.length).map fun i => if i < ns.length then padW W (D i) else D i) = P := by
        rw [hP]
        refine List.map_congr_left fun i hi => ?_
        rw [if_pos (List.mem_range.1 hi)]
      refine Ev.step (fun k => ?_) walk
      rw [impl_Relation_contains.l1, if_neg (by omega), e])
  have h := key 0 (by omega)
  rw [show ((List.range ns.length).map fun i => if i < 0 then padW W (D i) else D i) = (List.range ns.length).map D from List.map_congr_left fun i _ => by rw [if_neg (by omega)]] at h
  rw [List.length_map, List.length_range]
  exact h
end

/-! DigitsW -/
theorem divb_lt {b n j : Nat} (hb : 2 ≤ b) (h : n < b ^ (j + 1)) : n / b < b ^ j := by
  rw [Nat.pow_succ] at h
  exact Nat.div_lt_of_lt_mul (by rw [Nat.mul_comm]; exact h)
theorem specDigW_l0 (b : Nat) (hb : 2 ≤ b) (hb4 : b ≤ 4) : ∀ (j n : Nat) (acc : List Int), n < b ^ j → n ≤ 100000000 → acc.length + j ≤ 100 → Ev (fun k => spec_DigitsOf.l0 k (n : Int) (b : Int) acc) (dgs b j n ++ acc) := by
  intro j
  induction j with
  | zero =>
    intro n acc h _ _
    have : n = 0 := by simpa using h
    subst this
    refine Ev.step (f := fun _ => some acc) (fun k => ?_) (Ev.eq (Ev.now _) (by simp [dgs]))
    rw [spec_DigitsOf.l0, if_neg (by omega)]
  | succ j ih =>
    intro n acc h hm hl
    by_cases e : n = 0
    · subst e
      refine Ev.step (f := fun _ => some acc) (fun k => ?_) (Ev.eq (Ev.now _) (by simp [dgs]))
      rw [spec_DigitsOf.l0, if_neg (by omega)]
    · have hle : n / b ≤ n := Nat.div_le_self n b
      have hi := ih (n / b) ([((n % b : Nat) : Int)] ++ acc) (divb_lt hb h) (by omega) (by simp; omega)
      refine Ev.step (fun k => ?_) (Ev.eq hi (by rw [dgs, if_neg e, List.append_assoc]))
      rw [spec_DigitsOf.l0, if_pos (by omega), if_neg (by omega), tmod_nat, tdiv_nat, Option.bind_some, if_pos (by simp; omega), w64 (Int.le_trans (by omega : (-9223372036854775808 : Int) ≤ 0) (Int.natCast_nonneg _)) (by omega)]
theorem implDigW_l0 (b : Nat) (hb : 2 ≤ b) (hb4 : b ≤ 4) : ∀ (j n : Nat) (acc : List Int) (R : List Int), n < b ^ j → n ≤ 100000000 → acc.length + j ≤ 100 → (Ev (fun k => slices_Reverse_int_int.f k (acc ++ (dgs b j n).reverse)) R) → Ev (fun k => impl_digits.l0 k (n : Int) (b : Int) acc) R := by
  intro j
  induction j with
  | zero =>
    intro n acc R h _ _ hr
    have : n = 0 := by simp at h; omega
    subst this
    refine Ev.step (f := fun k => (slices_Reverse_int_int.f k acc).bind fun t => some t) (fun k => ?_) (Ev.bind (by simpa [dgs] using hr) (Ev.now _))
    rw [impl_digits.l0, if_neg (by omega)]
  | succ j ih =>
    intro n acc R h hm hl hr
    by_cases e : n = 0
    · subst e
      refine Ev.step (f := fun k => (slices_Reverse_int_int.f k acc).bind fun t => some t) (fun k => ?_) (Ev.bind (by simpa [dgs] using hr) (Ev.now _))
      rw [impl_digits.l0, if_neg (by omega)]
    · have hle : n / b ≤ n := Nat.div_le_self n b
      have hi := ih (n / b) (acc ++ [((n % b : Nat) : Int)]) R (divb_lt hb h) (by omega) (by simp; omega) (by
        rw [dgs, if_neg e, List.reverse_append] at hr
        simpa [List.append_assoc] using hr)
      refine Ev.step (fun k => ?_) hi
      rw [impl_digits.l0, if_pos (by omega), if_neg (by omega), tmod_nat, tdiv_nat, if_pos (by omega), w64 (Int.le_trans (by omega : (-9223372036854775808 : Int) ≤ 0) (Int.natCast_nonneg _)) (by omega)]

theorem pow16 (b : Nat) (h3 : b ≤ 3) : b ^ 16 ≤ 43046721 := by
  have h1 : b ^ 16 ≤ 3 ^ 16 := Nat.pow_le_pow_left h3 16
  have h2 : (3 : Nat) ^ 16 = 43046721 := by decide
  omega
theorem implDigW_ev (b n : Nat) (hb : 2 ≤ b) (h3 : b ≤ 3) (hn : n < b ^ 16) : Ev (fun k => impl_digits.f k (n : Int) (b : Int)) (dgs b 16 n) := by
  have hl := dgs_len b 16 n
  have hp := pow16 b h3
  have hr := rev_ev ((dgs b 16 n).reverse) (by rw [List.length_reverse]; omega)
  rw [List.reverse_reverse] at hr
  refine implDigW_l0 b hb (by omega) 16 n [] _ hn (by omega) (by rw [List.length_nil]; omega) ?_
  rw [List.nil_append]
  exact hr
theorem specDigW_ev (b n : Nat) (hb : 2 ≤ b) (h3 : b ≤ 3) (hn : n < b ^ 16) : Ev (fun k => spec_DigitsOf.f k (n : Int) (b : Int)) (dgs b 16 n) := by
  have hp := pow16 b h3
  have h := specDigW_l0 b hb (by omega) 16 n [] hn (by omega) (by rw [List.length_nil]; omega)
  rw [List.append_nil] at h
  unfold spec_DigitsOf.f
  simp only [Option.bind_some]
  refine Ev.congr (fun k => if_neg (by omega)) ?_
  simp only [l1In_eq, Option.bind_some]
  refine Ev.congr (fun k => if_pos (by simp; omega)) ?_
  refine Ev.bind (specPower16 b hb (by omega)) ?_
  have hd : (decide ((n : Int) ≥ ((b ^ 16 : Nat) : Int))) = false := by simp only [decide_eq_false_iff_not]; omega
  simp only [hd]
  refine Ev.step (fun k => ?_) h
  rw [spec_DigitsOf.j0, if_neg (by simp)]
/-! Words11 -/
theorem tdiv_pow1 (b t x j : Nat) (hj : j < t) : Int.tdiv ((x / b ^ (t - 1 - j) : Nat) : Int) (b : Int) = ((x / b ^ (t - j) : Nat) : Int) := by
  rw [tdiv_nat, Nat.div_div_eq_div_mul, show b ^ (t - 1 - j) * b = b ^ (t - j) by rw [← Nat.pow_succ]; congr 1; omega]
theorem word11_ev (b t : Nat) (h2 : 1 ≤ b) (h3 : b ≤ 21) (ht : t ≤ 3) (x : Int) (x0 : 0 ≤ x) (x1 : x ≤ 10000) : Ev (fun k => spec_l11Word.f k (b : Int) (t : Int) x) (trk15 b t x) := by
  obtain ⟨n, rfl⟩ : ∃ n : Nat, x = n := ⟨x.toNat, by omega⟩
  have key : ∀ i, i ≤ t → Ev (fun k => spec_l11Word.l0 k (b : Int) ((n / b ^ (t - i) : Nat) : Int) ((List.range t).map fun p => if p < i then 0 else ((dg15 b t (n : Int) p : Nat) : Int)) ((i : Int) - 1)) (trk15 b t (n : Int)) := by
    intro i
    induction i with
    | zero =>
      intro _
      refine Ev.step (f := fun _ => some _) (fun k => ?_) (Ev.now _)
      rw [spec_l11Word.l0, if_neg (by omega)]
      simp [trk15]
    | succ i ih =>
      intro hi
      have hs2 : n / b ^ (t - i) ≤ n := Nat.div_le_self _ _
      refine Ev.step (fun k => ?_) (ih (by omega))
      have hd : Int.tdiv ((n / b ^ (t - (i + 1)) : Nat) : Int) (b : Int) = ((n / b ^ (t - i) : Nat) : Int) := by
        rw [show t - (i + 1) = t - 1 - i by omega, tdiv_pow1 b t n i (by omega)]
      have hs3 := Int.natCast_nonneg (n / b ^ (t - i))
      rw [spec_l11Word.l0, if_pos (by omega), if_neg (by omega), if_pos (by omega), if_pos (by simp; omega), hd, w64 (by omega) (by omega), w64 (by omega) (by omega), tmod_nat, show (((i + 1 : Nat) : Int) - 1) = (i : Int) by omega, Int.toNat_natCast,
        map_range_set _ (fun p => if p < i then (0 : Int) else ((dg15 b t (n : Int) p : Nat) : Int)) t i _ ?_ ?_]
      · rw [if_neg (by omega), show t - (i + 1) = t - 1 - i by omega]
        rfl
      · intro p hp hne
        by_cases c : p < i
        · rw [if_pos c, if_pos (by omega)]
        · rw [if_neg c, if_neg (by omega)]
  have h := key t (by omega)
  rw [Nat.sub_self, Nat.pow_zero, Nat.div_one] at h
  refine Ev.congr (fun k => ?_) h
  unfold spec_l11Word.f
  rw [if_pos (by omega), if_pos (by omega), w64 (by omega) (by omega)]
  congr 1
  apply List.ext_getElem (by simp)
  intro p q1 q2
  simp at q1
  simp [q1]
def allW (b n : Nat) : List (List Int) := (List.range (b ^ n)).map fun (c : Nat) => trk15 b n (c : Int)
theorem trk15_snoc (b j c x : Nat) (hx : x < b) : trk15 b (j + 1) ((c * b + x : Nat) : Int) = trk15 b j (c : Int) ++ [(x : Int)] := by
  have hb : 0 < b := by omega
  have e1 : (c * b + x) / b = c := by rw [Nat.add_comm, Nat.add_mul_div_right _ _ hb, Nat.div_eq_of_lt hx, Nat.zero_add]
  have e2 : (c * b + x) % b = x := by rw [Nat.add_comm, Nat.add_mul_mod_self_right, Nat.mod_eq_of_lt hx]
  unfold trk15
  rw [List.range_succ, List.map_append, List.map_cons, List.map_nil]
  have a1 : ∀ p ∈ List.range j, ((dg15 b (j + 1) ((c * b + x : Nat) : Int) p : Nat) : Int) = ((dg15 b j (c : Int) p : Nat) : Int) := fun p hp => by
    have hp := List.mem_range.1 hp
    unfold dg15
    rw [Int.toNat_natCast, Int.toNat_natCast, show j + 1 - 1 - p = (j - 1 - p) + 1 by omega, Nat.pow_succ, show b ^ (j - 1 - p) * b = b * b ^ (j - 1 - p) from Nat.mul_comm _ _, ← Nat.div_div_eq_div_mul, e1]
  rw [List.map_congr_left a1]
  congr 2
  unfold dg15
  rw [Int.toNat_natCast, show j + 1 - 1 - j = 0 by omega, Nat.pow_zero, Nat.div_one, e2]
theorem range_map_snoc {α : Type} (f : Nat → α) (n : Nat) : (List.range n).map f ++ [f n] = (List.range (n + 1)).map f := by
  rw [List.range_succ, List.map_append]
  rfl
theorem pow21 (b : Nat) (hb : b ≤ 21) (i : Nat) (hi : i ≤ 3) : b ^ i ≤ 9261 := by
  have h1 : b ^ i ≤ 21 ^ i := Nat.pow_le_pow_left hb i
  have h2 : (21 : Nat) ^ i ≤ 21 ^ 3 := Nat.pow_le_pow_right (by omega) hi
  have h3 : (21 : Nat) ^ 3 = 9261 := by decide
  omega
theorem allWords_ev (b n : Nat) (h2 : 1 ≤ b) (h3 : b ≤ 21) (hn : n ≤ 3) : Ev (fun k => impl_allWords.f k (b : Int) (n : Int)) (allW b n) := by
  have key := downs (P := fun j => Ev (fun k => impl_allWords.l0 k (b : Int) (allW b j) (n : Int) (j : Int)) (allW b n)) n
    (fun j hj ih => by
      have hp := pow21 b h3 j (by omega)
      have hp1 := pow21 b h3 (j + 1) (by omega)
      have hlen : (allW b j).length = b ^ j := by simp [allW]
      have key2 := downs (P := fun i => Ev (fun k => impl_allWords.l1 k (b : Int) ((List.range (i * b)).map fun (c : Nat) => trk15 b (j + 1) (c : Int)) (n : Int) (j : Int) (allW b j) ((allW b j).length : Int) (i : Int)) (allW b n)) (b ^ j)
        (fun i hi ih2 => by
          have hib : i * b + b ≤ b ^ (j + 1) := by
            have := Nat.mul_le_mul_right b (show i + 1 ≤ b ^ j by omega)
            rw [Nat.add_mul, Nat.one_mul] at this
            rw [Nat.pow_succ]
            exact this
          have er : rd_L1 (allW b j) (i : Int) = trk15 b j (i : Int) := by
            rw [rdR_of (by omega)]
            simp [allW]
          have hwl : (trk15 b j (i : Int)).length = j := by simp [trk15]
          have key3 := downs (P := fun x => Ev (fun k => impl_allWords.l2 k (b : Int) ((List.range (i * b + x)).map fun (c : Nat) => trk15 b (j + 1) (c : Int)) (trk15 b j (i : Int)) (n : Int) (j : Int) (allW b j) ((allW b j).length : Int) (i : Int) (b : Int) (x : Int)) (allW b n)) b
            (fun x hx ih3 => by
              refine Ev.step (fun k => ?_) ih3
              rw [impl_allWords.l2, if_pos (by omega), Option.bind_some, if_pos (by rw [hwl]; simp; omega), Option.bind_some, if_pos (by rw [List.length_append, hwl]; simp; omega), if_pos (by simp; omega), w64 (by omega) (by omega), List.nil_append, ← trk15_snoc b j i x hx, range_map_snoc (fun (c : Nat) => trk15 b (j + 1) (c : Int))]
              rfl)
            (by
              refine Ev.step (fun k => ?_) ih2
              rw [impl_allWords.l2, if_neg (by omega), w64 (by omega) (by omega), Nat.add_mul, Nat.one_mul]
              rfl)
          refine Ev.step (fun k => ?_) (key3 0 (by omega))
          rw [impl_allWords.l1, if_pos (by omega), if_pos (by omega), if_pos (by omega), er]
          rfl)
        (by
          refine Ev.step (fun k => ?_) ih
          rw [impl_allWords.l1, if_neg (by omega), w64 (by omega) (by omega), ← Nat.pow_succ]
          rfl)
      refine Ev.step (fun k => ?_) (key2 0 (by omega))
      rw [impl_allWords.l0, if_pos (by omega), Nat.zero_mul]
      rfl)
    (by
      refine Ev.step (f := fun _ => some _) (fun k => ?_) (Ev.now _)
      rw [impl_allWords.l0, if_neg (by omega)])
  exact key 0 (by omega)

/-! Members -/
theorem relContains_both (b' t' : Nat) (rows : List (List Int)) (acc : List Bool) (ns : List Int) (hl : rows.length ≤ 1048576) (hr : ∀ i (h : i < rows.length), rows[i].length ≤ 1048576) (h : isRelW b' t' rows acc = true) (H : RelW b' t' rows acc) (hlen : ns.length = t') (hok : ∀ j (hj : j < ns.length), 0 ≤ ns[j] ∧ ns[j] < ((b' ^ 16 : Nat) : Int)) :
    ∃ z : Bool, Ev (fun k => spec_Contains.f k b' t' rows acc ns) z ∧ Ev (fun k => impl_Relation_contains.f k b' t' rows acc ns) z := by
  have hS := specRel_ev b' t' rows acc hl hr
  unfold spec_Contains.f
  rw [h] at hS
  have e : ((ns.length : Int) != (t' : Int)) = false := by simp [hlen]
  have hb2 := H.b2
  have hb3 := H.b3
  have ht3 := H.t3
  have hp16 := pow16 b' hb3
  obtain ⟨D, hDf⟩ : ∃ D : Nat → List Int, ∀ i, D i = dgs b' 16 (ns.getD i 0).toNat := ⟨fun i => dgs b' 16 (ns.getD i 0).toNat, fun _ => rfl⟩
  obtain ⟨W, W0, Ws⟩ : ∃ W : Nat → Nat, W 0 = 0 ∧ ∀ i, W (i + 1) = max (W i) (D i).length := ⟨fun n => Nat.rec 0 (fun i t => max t (D i).length) n, rfl, fun i => rfl⟩
  have hD16 : ∀ i, (D i).length ≤ 16 := fun i => by rw [hDf]; exact dgs_len b' 16 _
  have hW16 : ∀ i, W i ≤ 16 := fun i => by
    induction i with
    | zero => omega
    | succ i ih => rw [Ws]; have := hD16 i; omega
  have hWm : ∀ j i, i < j → (D i).length ≤ W j := fun j => by
    induction j with
    | zero => intro i hi; omega
    | succ j ih =>
      intro i hi
      rw [Ws]
      by_cases q : i = j
      · subst q; omega
      · have := ih i (by omega); omega
  have stepS : ∀ z : Bool, Ev (fun k => spec_Contains.l0 k ns 0 0 b' t' rows acc) z → Ev (fun k => spec_Contains.j0 k ns false b' t' rows acc) z := fun z h => Ev.step (fun k => by rw [spec_Contains.j0, if_neg (by decide)]) h
  have oneS : ∀ j (hj : j < ns.length) (z : Bool), (0 ≤ ns[j] ∧ ns[j] < ((b' ^ 16 : Nat) : Int)) → Ev (fun k => spec_Contains.l0 k ns ((W (j + 1) : Nat) : Int) ((j + 1 : Nat) : Int) b' t' rows acc) z → Ev (fun k => spec_Contains.l0 k ns ((W j : Nat) : Int) (j : Int) b' t' rows acc) z := fun j hj z ho h => by
    obtain ⟨n, hn⟩ : ∃ n : Nat, ns[j] = (n : Int) := ⟨ns[j].toNat, by omega⟩
    have eD : D j = dgs b' 16 n := by rw [hDf, getAt hj, hn, Int.toNat_natCast]
    refine Ev.step (f := fun k => (spec_PowerOf.f k (b' : Int) 16).bind fun t474 => (if (n : Int) ≥ t474 then (some false) else ((spec_DigitsOf.f k (n : Int) (b' : Int)).bind fun t476 => (spec_Contains.l0 k ns (mx ((W j : Nat) : Int) (t476.length : Int)) ((j + 1 : Nat) : Int) b' t' rows acc)))) (fun k => ?_) (Ev.bind (specPower16 b' hb2 (by omega)) ?_)
    · rw [spec_Contains.l0, if_pos (by omega), if_pos (by omega), rd_of hj, hn, if_neg (by omega), w64 (by omega) (by omega)]
      rfl
    · simp only [if_neg (show ¬ (n : Int) ≥ ((b' ^ 16 : Nat) : Int) by omega)]
      refine Ev.bind (specDigW_ev b' n hb2 hb3 (by omega)) ?_
      rw [← eD, mx_nat, ← Ws]
      exact h
  obtain ⟨st, s0, ss⟩ : ∃ st : Nat → Nat, st 0 = 0 ∧ ∀ c, st (c + 1) = ((rows.getD (st c) []).getD (val15 b' (((List.range ns.length).map fun i => (padW (W ns.length) (D i)).getD c 0).map Int.toNat)) 0).toNat := ⟨fun n => Nat.rec 0 (fun c s => ((rows.getD s []).getD (val15 b' (((List.range ns.length).map fun i => (padW (W ns.length) (D i)).getD c 0).map Int.toNat)) 0).toNat) n, rfl, fun c => rfl⟩
  have hw : Walk b' rows ns D (W ns.length) st := ⟨s0, ss⟩
  have hD : ∀ i, i < ns.length → (D i).length ≤ W ns.length ∧ ∀ x ∈ D i, 0 ≤ x ∧ x < (b' : Int) := fun i hi => ⟨hWm _ i hi, by rw [hDf]; exact dgs_in b' hb2 16 _⟩
  have hnat : ∀ i (hi : i < ns.length), ns[i] = (((ns.getD i 0).toNat : Nat) : Int) ∧ (ns.getD i 0).toNat < b' ^ 16 := fun i hi => by
    have := hok i hi
    rw [getAt hi]
    omega
  refine ⟨acc.getD (st (W ns.length)) false, Ev.bind hS ?_, ?_⟩
  · simp only [if_true, e]
    refine stepS _ ?_
    have fin := specWalk H (hW16 ns.length) hw hlen hD (fun i hi => by
      obtain ⟨q1, q2⟩ := hnat i hi
      rw [q1, hDf]
      exact specDigW_ev b' _ hb2 hb3 q2)
    have key := downs (P := fun j => Ev (fun k => spec_Contains.l0 k ns ((W j : Nat) : Int) (j : Int) b' t' rows acc) (acc.getD (st (W ns.length)) false)) ns.length
      (fun j hj ih => oneS j hj _ (hok j hj) ih)
      (by
        refine Ev.step (fun k => ?_) fin
        rw [spec_Contains.l0, if_neg (by omega)])
    have h := key 0 (by omega)
    rw [W0] at h
    exact h
  · have fin := implWalk H (hW16 ns.length) hw hlen hD
    have key := downs (P := fun j => Ev (fun k => impl_Relation_contains.l0 k ((W j : Nat) : Int) ((List.range j).map D) ns (ns.length : Int) (j : Int) b' t' rows acc) (acc.getD (st (W ns.length)) false)) ns.length
      (fun j hj ih => by
        obtain ⟨q1, q2⟩ := hnat j hj
        refine Ev.step (f := fun k => (impl_digits.f k ns[j] (b' : Int)).bind fun t242 => (if ((List.range j).map D).length < 5864062014805 then (impl_Relation_contains.l0 k (mx ((W j : Nat) : Int) (t242.length : Int)) (((List.range j).map D) ++ [t242]) ns (ns.length : Int) ((j + 1 : Nat) : Int) b' t' rows acc) else (none))) (fun k => ?_) (Ev.bind (a := D j) ?_ ?_)
        · rw [impl_Relation_contains.l0, if_pos (by omega), if_pos (by omega), if_pos (by omega), rd_of hj, w64 (by omega) (by omega)]
          rfl
        · rw [q1, hDf]
          exact implDigW_ev b' _ hb2 hb3 q2
        · simp only [if_pos (show ((List.range j).map D).length < 5864062014805 by simp; omega)]
          rw [mx_nat, ← Ws]
          rw [List.range_succ, List.map_append] at ih
          exact ih)
      (by
        refine Ev.step (fun k => ?_) fin
        rw [impl_Relation_contains.l0, if_neg (by omega)])
    have h := key 0 (by omega)
    rw [W0] at h
    exact h
/-- What both answer: the words that the relation holds, in order. -/
def memW (e : Nat → Bool) (b t c : Nat) : List (List Int) := ((List.range c).filter e).map fun (c : Nat) => trk15 b t (c : Int)
theorem memW_step (e : Nat → Bool) (b t c : Nat) : memW e b t (c + 1) = if e c = true then memW e b t c ++ [trk15 b t (c : Int)] else memW e b t c := by
  unfold memW
  rw [List.range_succ, List.filter_append]
  cases h : e c <;> simp [h]
theorem memW_len (e : Nat → Bool) (b t c : Nat) : (memW e b t c).length ≤ c := by
  unfold memW
  rw [List.length_map]
  have := List.length_filter_le e (List.range c)
  rw [List.length_range] at this
  exact this
theorem trk15_small (b t : Nat) (h1 : 1 ≤ b) (h2 : b ≤ 21) (c : Int) (j : Nat) (hj : j < (trk15 b t c).length) : 0 ≤ (trk15 b t c)[j] ∧ (trk15 b t c)[j] < 21 := by
  unfold trk15 at hj ⊢
  rw [List.getElem_map]
  have : dg15 b t c ((List.range t)[j]'(by simpa using hj)) < b := by
    unfold dg15
    exact Nat.mod_lt _ (by omega)
  omega
open Classical in
theorem members_both (b t : Int) (rows : List (List Int)) (acc : List Bool) (most : Int) (hl : rows.length ≤ 1048576) (hr : ∀ i (h : i < rows.length), rows[i].length ≤ 1048576) :
    ∃ (rs : List (List Int)) (ok : Bool), Ev (fun k => spec_MembersOf.f k b t rows acc most) (rs, ok) ∧ Ev (fun k => impl_MembersOf.f k b t rows acc most) (rs, ok) ∧ rs.length ≤ 9261 ∧ ∀ x ∈ rs, x.length ≤ 3 := by
  have hS := specRel_ev b t rows acc hl hr
  have hI := implRel_ev b t rows acc hl hr
  have noS : Ev (fun k => spec_MembersOf.j0 k most [] true b t rows acc) ([], false) := by
    refine Ev.step (f := fun _ => some _) (fun k => ?_) (Ev.now _)
    rw [spec_MembersOf.j0, if_pos rfl]
  have noI : Ev (fun k => impl_MembersOf.j0 k most true b t rows acc) ([], false) := by
    refine Ev.step (f := fun _ => some _) (fun k => ?_) (Ev.now _)
    rw [impl_MembersOf.j0, if_pos rfl]
  unfold spec_MembersOf.f impl_MembersOf.f
  simp only [Option.bind_some]
  cases h : isRelW b t rows acc with
  | false =>
    rw [h] at hS hI
    refine ⟨[], false, Ev.bind hS ?_, Ev.bind hI ?_, by simp, by simp⟩
    · simp only [Bool.false_eq_true, if_false]
      exact noS
    · simp only [Bool.false_eq_true, if_false]
      exact noI
  | true =>
    rw [h] at hS hI
    obtain ⟨b', t', rfl, rfl, H⟩ := isRelW_true h
    have ht3 := H.t3
    have hb2 := H.b2
    by_cases hgo : 1 ≤ t' ∧ 0 ≤ most ∧ most ≤ 20 ∧ (t' = 3 → most ≤ 7)
    · obtain ⟨g1, g2, g3, g4⟩ := hgo
      obtain ⟨m, rfl⟩ : ∃ m : Nat, most = m := ⟨most.toNat, by omega⟩
      have hb1 : wrap64 ((m : Int) + 1) = ((m + 1 : Nat) : Int) := by rw [w64 (by omega) (by omega)]; rfl
      have hp := pow21 (m + 1) (by omega) t' ht3
      have h16 : 2 ^ 16 ≤ b' ^ 16 := Nat.pow_le_pow_left hb2 16
      have hev : ∀ c : Nat, ∃ z : Bool, Ev (fun k => spec_Contains.f k b' t' rows acc (trk15 (m + 1) t' (c : Int))) z ∧ Ev (fun k => impl_Relation_contains.f k b' t' rows acc (trk15 (m + 1) t' (c : Int))) z :=
        fun c => relContains_both b' t' rows acc (trk15 (m + 1) t' (c : Int)) hl hr h H (by simp [trk15]) (fun j hj => by
          have := trk15_small (m + 1) t' (by omega) (by omega) c j hj
          omega)
      obtain ⟨e, he⟩ : ∃ e : Nat → Bool, ∀ c : Nat, Ev (fun k => spec_Contains.f k b' t' rows acc (trk15 (m + 1) t' (c : Int))) (e c) ∧ Ev (fun k => impl_Relation_contains.f k b' t' rows acc (trk15 (m + 1) t' (c : Int))) (e c) := ⟨fun (c : Nat) => Classical.choose (hev c), fun (c : Nat) => Classical.choose_spec (hev c)⟩
      refine ⟨memW e (m + 1) t' ((m + 1) ^ t'), true, Ev.bind hS ?_, Ev.bind hI ?_, Nat.le_trans (memW_len _ _ _ _) hp, ?_⟩
      · have key := downs (P := fun c => Ev (fun k => spec_MembersOf.l0 k (m : Int) (memW e (m + 1) t' c) (c : Int) b' t' rows acc) (memW e (m + 1) t' ((m + 1) ^ t'), true)) ((m + 1) ^ t')
          (fun c hc ih => by
            have h1 := memW_len e (m + 1) t' c
            refine Ev.step (f := fun k => (spec_l11Power.f k ((m + 1 : Nat) : Int) (t' : Int)).bind fun t766 => (if (c : Int) < t766 then ((spec_l11Word.f k ((m + 1 : Nat) : Int) (t' : Int) (c : Int)).bind fun t767 => ((spec_Contains.f k b' t' rows acc t767).bind fun t770 => (if t770 = true then (if (memW e (m + 1) t' c).length < 5864062014805 then (spec_MembersOf.l0 k (m : Int) (memW e (m + 1) t' c ++ [t767]) ((c + 1 : Nat) : Int) b' t' rows acc) else (none)) else (spec_MembersOf.l0 k (m : Int) (memW e (m + 1) t' c) ((c + 1 : Nat) : Int) b' t' rows acc)))) else (some (memW e (m + 1) t' c, true)))) (fun k => ?_) (Ev.bind (specPow_ev (m + 1) (by omega) t' ht3) ?_)
            · rw [spec_MembersOf.l0, hb1, w64 (x := (c : Int) + 1) (by omega) (by omega)]
              rfl
            · simp only [if_pos (show (c : Int) < (((m + 1) ^ t' : Nat) : Int) by omega)]
              refine Ev.bind (word11_ev (m + 1) t' (by omega) (by omega) ht3 (c : Int) (by omega) (by omega)) (Ev.bind (he c).1 ?_)
              rw [memW_step] at ih
              cases hc : e c with
              | true =>
                rw [hc, if_pos rfl] at ih
                simp only [if_true, if_pos (show (memW e (m + 1) t' c).length < 5864062014805 by omega)]
                exact ih
              | false =>
                rw [hc, if_neg (by decide)] at ih
                simp only [Bool.false_eq_true, if_false]
                exact ih)
          (by
            refine Ev.step (f := fun k => (spec_l11Power.f k ((m + 1 : Nat) : Int) (t' : Int)).bind fun t766 => (if (((m + 1) ^ t' : Nat) : Int) < t766 then ((spec_l11Word.f k ((m + 1 : Nat) : Int) (t' : Int) (((m + 1) ^ t' : Nat) : Int)).bind fun t767 => ((spec_Contains.f k b' t' rows acc t767).bind fun t770 => (if t770 = true then (if (memW e (m + 1) t' ((m + 1) ^ t')).length < 5864062014805 then (spec_MembersOf.l0 k (m : Int) (memW e (m + 1) t' ((m + 1) ^ t') ++ [t767]) (wrap64 ((((m + 1) ^ t' : Nat) : Int) + 1)) b' t' rows acc) else (none)) else (spec_MembersOf.l0 k (m : Int) (memW e (m + 1) t' ((m + 1) ^ t')) (wrap64 ((((m + 1) ^ t' : Nat) : Int) + 1)) b' t' rows acc)))) else (some (memW e (m + 1) t' ((m + 1) ^ t'), true)))) (fun k => ?_) (Ev.bind (specPow_ev (m + 1) (by omega) t' ht3) ?_)
            · rw [spec_MembersOf.l0, hb1]
            · simp only [if_neg (Int.lt_irrefl _)]
              exact Ev.now _)
        have hk := key 0 (by omega)
        have goS : Ev (fun k => spec_MembersOf.j0 k (m : Int) [] false b' t' rows acc) (memW e (m + 1) t' ((m + 1) ^ t'), true) := by
          refine Ev.step (fun k => ?_) hk
          rw [spec_MembersOf.j0, if_neg (by decide)]
          rfl
        simp only [if_true, l1In_eq, Option.bind_some, decide_eq_true (show 0 ≤ (m : Int) ∧ (m : Int) ≤ 20 by omega), if_neg (show ¬ (t' : Int) < 1 by omega)]
        by_cases c3 : (t' : Int) = 3
        · simp only [if_pos c3, decide_eq_false (show ¬ (m : Int) > 7 by have := g4 (by omega); omega)]
          exact goS
        · simp only [if_neg c3]
          exact goS
      · have key := downs (P := fun c => Ev (fun k => impl_MembersOf.l0 k (memW e (m + 1) t' c) (allW (m + 1) t') ((allW (m + 1) t').length : Int) (c : Int) b' t' rows acc) (memW e (m + 1) t' ((m + 1) ^ t'), true)) ((m + 1) ^ t')
          (fun c hc ih => by
            have h1 := memW_len e (m + 1) t' c
            have hwl : (allW (m + 1) t').length = (m + 1) ^ t' := by simp [allW]
            have er : rd_L1 (allW (m + 1) t') (c : Int) = trk15 (m + 1) t' (c : Int) := by
              rw [rdR_of (by omega)]
              simp [allW]
            refine Ev.step (f := fun k => (impl_Relation_contains.f k b' t' rows acc (trk15 (m + 1) t' (c : Int))).bind fun t367 => (if t367 = true then (if (memW e (m + 1) t' c).length < 5864062014805 then (impl_MembersOf.l0 k (memW e (m + 1) t' c ++ [trk15 (m + 1) t' (c : Int)]) (allW (m + 1) t') ((allW (m + 1) t').length : Int) ((c + 1 : Nat) : Int) b' t' rows acc) else (none)) else (impl_MembersOf.l0 k (memW e (m + 1) t' c) (allW (m + 1) t') ((allW (m + 1) t').length : Int) ((c + 1 : Nat) : Int) b' t' rows acc))) (fun k => ?_) (Ev.bind (he c).2 ?_)
            · rw [impl_MembersOf.l0, if_pos (by omega), if_pos (by omega), if_pos (by omega), er, w64 (x := (c : Int) + 1) (by omega) (by omega)]
              rfl
            · rw [memW_step] at ih
              cases hc : e c with
              | true =>
                rw [hc, if_pos rfl] at ih
                simp only [if_true, if_pos (show (memW e (m + 1) t' c).length < 5864062014805 by omega)]
                exact ih
              | false =>
                rw [hc, if_neg (by decide)] at ih
                simp only [Bool.false_eq_true, if_false]
                exact ih)
          (by
            have hwl : (allW (m + 1) t').length = (m + 1) ^ t' := by simp [allW]
            refine Ev.step (f := fun _ => some _) (fun k => ?_) (Ev.now _)
            rw [impl_MembersOf.l0, if_neg (by omega)])
        have hk := key 0 (by omega)
        have goI : Ev (fun k => impl_MembersOf.j0 k (m : Int) false b' t' rows acc) (memW e (m + 1) t' ((m + 1) ^ t'), true) := by
          refine Ev.step (f := fun k => (impl_allWords.f k ((m + 1 : Nat) : Int) (t' : Int)).bind fun t363 => (impl_MembersOf.l0 k [] t363 (t363.length : Int) 0 b' t' rows acc)) (fun k => ?_) (Ev.bind (allWords_ev (m + 1) t' (by omega) (by omega) ht3) hk)
          rw [impl_MembersOf.j0, if_neg (by decide), hb1]
        simp only [if_true, if_neg (show ¬ (t' : Int) = 0 by omega), if_neg (show ¬ (m : Int) < 0 by omega), if_neg (show ¬ (m : Int) > 20 by omega)]
        by_cases c3 : (t' : Int) = 3
        · simp only [if_pos c3, decide_eq_false (show ¬ (m : Int) > 7 by have := g4 (by omega); omega)]
          exact goI
        · simp only [if_neg c3]
          exact goI
      · intro x hx
        unfold memW at hx
        obtain ⟨c, _, rfl⟩ := List.mem_map.1 hx
        simp [trk15]
        exact ht3
    · refine ⟨[], false, Ev.bind hS ?_, Ev.bind hI ?_, by simp, by simp⟩
      · simp only [if_true, l1In_eq, Option.bind_some]
        by_cases c1 : (t' : Int) < 1
        · simp only [if_pos c1]
          exact noS
        simp only [if_neg c1]
        by_cases c2 : 0 ≤ most ∧ most ≤ 20
        · simp only [decide_eq_true c2, if_true, if_pos (show (t' : Int) = 3 by omega), decide_eq_true (show most > 7 by omega)]
          exact noS
        · simp only [decide_eq_false c2, Bool.false_eq_true, if_false]
          exact noS
      · simp only [if_true]
        by_cases c1 : (t' : Int) = 0
        · simp only [if_pos c1]
          exact noI
        simp only [if_neg c1]
        by_cases c2 : most < 0
        · simp only [if_pos c2]
          exact noI
        simp only [if_neg c2]
        by_cases c3 : most > 20
        · simp only [if_pos c3]
          exact noI
        simp only [if_neg c3, if_pos (show (t' : Int) = 3 by omega), decide_eq_true (show most > 7 by omega)]
        exact noI

/-! marksI -/
def markedI (a : Int) (n : Nat) : List Int := (List.range n).map fun (i : Nat) => a + i
theorem markedI_len (a : Int) (n : Nat) : (markedI a n).length = n := by simp [markedI]
theorem markedI_succ (a : Int) (n : Nat) : markedI a (n + 1) = markedI a n ++ [a + n] := by simp [markedI, List.range_succ]
theorem markedI_get (a : Int) (n i : Nat) (h : i < n) : (markedI a n)[i]'(by simpa [markedI] using h) = a + i := by simp [markedI]
theorem set_mid {α : Type} (m : List α) (xs : List α) (i : Nat) (x : α) (hm : m.length = i) (h : i < xs.length) : (m ++ xs.drop i).set i x = (m ++ [x]) ++ xs.drop (i + 1) := by
  rw [List.set_append_right _ _ (by omega), hm, Nat.sub_self, List.drop_eq_getElem_cons h, List.set_cons_zero, List.append_assoc]
  rfl
theorem markIntS_ev (xs : List Int) (a : Int) (h0 : 0 ≤ a) (h1 : a ≤ 1152921504606846976) (hl : xs.length ≤ 1152921504606846976) : Ev (fun k => laws_markIntS.f k xs a) (a + xs.length, markedI a xs.length) := by
  have key := downs (P := fun i => Ev (fun k => laws_markIntS.l0 k (markedI a i ++ xs.drop i) (a + i) (i : Int)) (a + xs.length, markedI a xs.length)) xs.length
    (fun i hi ih => by
      rw [markedI_succ, ← set_mid _ _ _ _ (markedI_len a i) hi] at ih
      refine Ev.step (fun k => ?_) ih
      rw [laws_markIntS.l0, if_pos (by simp [markedI_len]; omega), if_pos (by omega), w64 (by omega) (by omega), w64 (by omega) (by omega), Int.toNat_natCast]
      show _ = laws_markIntS.l0 k _ (a + ((i + 1 : Nat) : Int)) _
      rw [show (a + ((i + 1 : Nat) : Int)) = a + i + 1 by omega]
      rfl)
    (by
      refine Ev.step (f := fun _ => some _) (fun k => ?_) (Ev.now _)
      rw [laws_markIntS.l0, if_neg (by simp [markedI_len])]
      simp)
  have h := key 0 (by omega)
  refine Ev.congr (fun k => ?_) h
  simp [laws_markIntS.f, markedI]
theorem heldIntS_ev (a : Int) (n : Nat) (h0 : 0 ≤ a) (h1 : a ≤ 1152921504606846976) (hl : n ≤ 1152921504606846976) : Ev (fun k => laws_heldIntS.f k (markedI a n) a) (a + n) := by
  have key := downs (P := fun i => Ev (fun k => laws_heldIntS.l0 k (markedI a n) (a + i) (i : Int)) (a + n)) n
    (fun i hi ih => by
      refine Ev.step (fun k => ?_) ih
      rw [laws_heldIntS.l0, if_pos (by rw [markedI_len]; omega), if_pos (by omega), rd_of (by rw [markedI_len]; omega), markedI_get a n i hi, if_pos rfl, w64 (by omega) (by omega), w64 (by omega) (by omega)]
      rw [show (a + ((i + 1 : Nat) : Int)) = a + i + 1 by omega]
      rfl)
    (by
      refine Ev.step (f := fun _ => some _) (fun k => ?_) (Ev.now _)
      rw [laws_heldIntS.l0, if_neg (by rw [markedI_len]; omega)])
  have h := key 0 (by omega)
  refine Ev.congr (fun k => ?_) h
  simp [laws_heldIntS.f]

/-! marksR -/
def totL (rows : List (List Int)) : Nat := (rows.map List.length).sum
def markedRows : Int → List (List Int) → List (List Int)
  | _, [] => []
  | a, r :: rs => markedI a r.length :: markedRows (a + r.length) rs
theorem markedRows_len : ∀ (rows : List (List Int)) (a : Int), (markedRows a rows).length = rows.length
  | [], _ => rfl
  | r :: rs, a => by rw [markedRows, List.length_cons, markedRows_len rs, List.length_cons]
theorem totL_snoc (l : List (List Int)) (r : List Int) : totL (l ++ [r]) = totL l + r.length := by simp [totL]
theorem markedRows_snoc : ∀ (l : List (List Int)) (a : Int) (r : List Int), markedRows a (l ++ [r]) = markedRows a l ++ [markedI (a + totL l) r.length]
  | [], a, r => by simp [markedRows, totL]
  | x :: l, a, r => by
    have e : totL (x :: l) = x.length + totL l := by simp [totL]
    rw [List.cons_append, markedRows, markedRows_snoc l, markedRows, List.cons_append, show a + (x.length : Int) + (totL l : Int) = a + (totL (x :: l) : Int) by omega]
theorem totL_le (rows : List (List Int)) (m : Nat) (h : ∀ r ∈ rows, r.length ≤ m) : totL rows ≤ rows.length * m := by
  induction rows with
  | nil => simp [totL]
  | cons r rs ih =>
    have h1 := h r (List.mem_cons_self ..)
    have h2 := ih (fun x hx => h x (List.mem_cons_of_mem _ hx))
    have e : totL (r :: rs) = r.length + totL rs := by simp [totL]
    rw [e, List.length_cons, Nat.add_mul, Nat.one_mul]
    omega
theorem totL_small {rows : List (List Int)} (hl : rows.length ≤ 1048576) (hr : ∀ r ∈ rows, r.length ≤ 1048576) (i : Nat) : totL (rows.take i) ≤ 1099511627776 := by
  have h := totL_le (rows.take i) 1048576 (fun r h => hr r (List.mem_of_mem_take h))
  have : (rows.take i).length ≤ 1048576 := by rw [List.length_take]; omega
  have := Nat.mul_le_mul_right 1048576 this
  omega
theorem markIntSS_ev (rows : List (List Int)) (a : Int) (h0 : 0 ≤ a) (h1 : a ≤ 1152921504606) (hl : rows.length ≤ 1048576) (hr : ∀ r ∈ rows, r.length ≤ 1048576) : Ev (fun k => laws_markIntSS.f k rows a) (a + totL rows, markedRows a rows) := by
  have key := downs (P := fun i => Ev (fun k => laws_markIntSS.l0 k (markedRows a (rows.take i) ++ rows.drop i) (a + totL (rows.take i)) (i : Int)) (a + totL rows, markedRows a rows)) rows.length
    (fun i hi ih => by
      have ht := totL_small hl hr i
      have hlt : (markedRows a (rows.take i)).length = i := by rw [markedRows_len, List.length_take]; omega
      have hx := hr rows[i] (List.getElem_mem hi)
      have er : rdRow (markedRows a (rows.take i) ++ rows.drop i) (i : Int) = rows[i] := by
        unfold rdRow
        rw [Int.toNat_natCast, List.getD_eq_getElem?_getD, List.getElem?_append_right (by omega), hlt, Nat.sub_self, drop_at hi]
        rfl
      refine Ev.step (f := fun k => (laws_markIntS.f k rows[i] (a + totL (rows.take i))).bind fun p => laws_markIntSS.l0 k ((markedRows a (rows.take i) ++ rows.drop i).set i p.2) p.1 ((i + 1 : Nat) : Int)) (fun k => ?_) (Ev.bind (markIntS_ev rows[i] (a + totL (rows.take i)) (by omega) (by omega) (by omega)) ?_)
      · rw [laws_markIntSS.l0, if_pos (by rw [List.length_append, hlt, List.length_drop]; omega), if_pos (by omega), er, w64 (by omega) (by omega), Int.toNat_natCast]
        rfl
      · rw [List.take_succ_eq_append_getElem hi, markedRows_snoc, totL_snoc] at ih
        rw [set_mid _ _ _ _ hlt hi]
        refine Ev.congr (fun k => ?_) ih
        congr 1
        omega)
    (by
      refine Ev.step (f := fun _ => some _) (fun k => ?_) (Ev.now _)
      rw [laws_markIntSS.l0, if_neg (by rw [List.length_append, markedRows_len, List.length_drop]; simp), List.drop_length, List.append_nil, List.take_length])
  have h := key 0 (by omega)
  refine Ev.congr (fun k => ?_) h
  simp [laws_markIntSS.f, markedRows, totL]
def markedB (a : Int) (n : Nat) : List Bool := (List.range n).map fun (i : Nat) => (Int.tmod (a + i) 3) == 0
theorem markedB_len (a : Int) (n : Nat) : (markedB a n).length = n := by simp [markedB]
theorem markedB_succ (a : Int) (n : Nat) : markedB a (n + 1) = markedB a n ++ [(Int.tmod (a + n) 3) == 0] := by simp [markedB, List.range_succ]
theorem markBoolS_ev (xs : List Bool) (a : Int) (h0 : 0 ≤ a) (h1 : a ≤ 1152921504606846976) (hl : xs.length ≤ 1048576) : Ev (fun k => laws_markBoolS.f k xs a) (a + xs.length, markedB a xs.length) := by
  have key := downs (P := fun i => Ev (fun k => laws_markBoolS.l0 k (markedB a i ++ xs.drop i) (a + i) (i : Int)) (a + xs.length, markedB a xs.length)) xs.length
    (fun i hi ih => by
      rw [markedB_succ, ← set_mid _ _ _ _ (markedB_len a i) hi] at ih
      refine Ev.step (fun k => ?_) ih
      rw [laws_markBoolS.l0, if_pos (by simp [markedB_len]; omega), if_pos (by omega), w64 (by omega) (by omega), w64 (by omega) (by omega), Int.toNat_natCast]
      show _ = laws_markBoolS.l0 k _ (a + ((i + 1 : Nat) : Int)) _
      rw [show (a + ((i + 1 : Nat) : Int)) = a + i + 1 by omega]
      rfl)
    (by
      refine Ev.step (f := fun _ => some _) (fun k => ?_) (Ev.now _)
      rw [laws_markBoolS.l0, if_neg (by simp [markedB_len])]
      simp)
  have h := key 0 (by omega)
  refine Ev.congr (fun k => ?_) h
  simp [laws_markBoolS.f, markedB]
theorem markRelation_ev (rows : List (List Int)) (acc : List Bool) (hl : rows.length ≤ 1048576) (hr : ∀ r ∈ rows, r.length ≤ 1048576) (ho : acc.length ≤ 1048576) :
    Ev (fun k => laws_markRelation.f k rows acc 1) (1 + totL rows + acc.length, markedRows 1 rows, markedB (1 + totL rows) acc.length) := by
  have ht := totL_small hl hr rows.length
  rw [List.take_length] at ht
  unfold laws_markRelation.f
  exact Ev.bind (markIntSS_ev rows 1 (by omega) (by omega) hl hr) (Ev.bind (markBoolS_ev acc (1 + totL rows) (by omega) (by omega) ho) (Ev.now _))

/-! heldR -/
theorem markedRows_get : ∀ (rows : List (List Int)) (a : Int) (i : Nat) (h : i < rows.length), (markedRows a rows)[i]'(by rw [markedRows_len]; exact h) = markedI (a + totL (rows.take i)) rows[i].length
  | r :: rs, a, 0, _ => by simp [markedRows, totL]
  | r :: rs, a, i + 1, h => by
    have e : totL ((r :: rs).take (i + 1)) = r.length + totL (rs.take i) := by simp [totL]
    have ih := markedRows_get rs (a + r.length) i (by simpa using h)
    simp only [markedRows, List.getElem_cons_succ]
    rw [ih, e, show a + (r.length : Int) + (totL (rs.take i) : Int) = a + ((r.length + totL (rs.take i) : Nat) : Int) by omega]
theorem heldIntSS_ev (rows : List (List Int)) (a : Int) (h0 : 0 ≤ a) (h1 : a ≤ 1152921504606) (hl : rows.length ≤ 1048576) (hr : ∀ r ∈ rows, r.length ≤ 1048576) : Ev (fun k => laws_heldIntSS.f k (markedRows a rows) a) (a + totL rows) := by
  have key := downs (P := fun i => Ev (fun k => laws_heldIntSS.l0 k (markedRows a rows) (a + totL (rows.take i)) (i : Int)) (a + totL rows)) rows.length
    (fun i hi ih => by
      have ht := totL_small hl hr i
      have hx := hr rows[i] (List.getElem_mem hi)
      have er : rd_L1 (markedRows a rows) (i : Int) = markedI (a + totL (rows.take i)) rows[i].length := by
        rw [rdR_of (by rw [markedRows_len]; exact hi)]
        exact markedRows_get rows a i hi
      refine Ev.step (f := fun k => (laws_heldIntS.f k (markedI (a + totL (rows.take i)) rows[i].length) (a + totL (rows.take i))).bind fun t => (if t < 0 then (some (-1)) else (laws_heldIntSS.l0 k (markedRows a rows) t ((i + 1 : Nat) : Int)))) (fun k => ?_) (Ev.bind (heldIntS_ev (a + totL (rows.take i)) rows[i].length (by omega) (by omega) (by omega)) ?_)
      · rw [laws_heldIntSS.l0, if_pos (by rw [markedRows_len]; omega), if_pos (by omega), er, w64 (by omega) (by omega)]
        rfl
      · simp only [if_neg (show ¬ (a + (totL (rows.take i) : Int) + (rows[i].length : Int) < 0) by omega)]
        rw [List.take_succ_eq_append_getElem hi, totL_snoc] at ih
        refine Ev.congr (fun k => ?_) ih
        congr 1
        omega)
    (by
      refine Ev.step (f := fun _ => some _) (fun k => ?_) (Ev.now _)
      rw [laws_heldIntSS.l0, if_neg (by rw [markedRows_len]; omega), List.take_length])
  have h := key 0 (by omega)
  refine Ev.congr (fun k => ?_) h
  simp [laws_heldIntSS.f, totL]
/-! law_FnExactMembersOf -/
theorem FnExactMembersOf (a0 a1 : Int) (l2 : List (List Int)) (l3 : List Bool) (m : Int) (w0 : -9223372036854775808 ≤ a0 ∧ a0 ≤ 9223372036854775807) (w1 : -9223372036854775808 ≤ a1 ∧ a1 ≤ 9223372036854775807) (w2 : wfl (wfl wfi) l2) (w3 : wfl (fun _ => True) l3) (wm : -9223372036854775808 ≤ m ∧ m ≤ 9223372036854775807) : ∃ k, laws_FnExactMembersOf.f k a0 a1 l2 l3 m = some true := by
  refine Ev.rounds ?_
  unfold laws_FnExactMembersOf.f
  obtain ⟨r, e, hle, hk⟩ := szRelation_ev a0 a1 l2 l3 w2.1 (fun x hx => (w2.2 x hx).1) w3.1
  refine Ev.bind e ?_
  by_cases hr : r < 0
  · simp only [if_pos hr]
    exact Ev.now _
  simp only [if_neg hr]
  obtain ⟨k1, k2, k3⟩ := hk (by omega)
  obtain ⟨rs, o, hs, hi, hl, hx⟩ := members_both a0 a1 l2 l3 m k1 (fun i h => k2 _ (List.getElem_mem h))
  have t0 := toRelation_ev a0 a1 l2 l3 k1 k2 k3
  have hl' : rs.length ≤ 1048576 := by omega
  have hx' : ∀ x ∈ rs, x.length ≤ 1048576 := fun x h => by have := hx x h; omega
  refine Ev.bind t0 (Ev.bind hs (Ev.bind hi (Ev.bind (eqIntSS_self rs hl' hx') (Ev.bind (eqRelation_self a0 a1 l2 l3 k1 k2 k3) (Ev.bind (markRelation_ev l2 l3 k1 k2 k3) (Ev.bind (markIntSS_ev rs 1 (by omega) (by omega) hl' hx') (Ev.bind (heldIntSS_ev rs 1 (by omega) (by omega) hl' hx') ?_)))))))
  refine Ev.congr (fun k => if_pos ?_) (Ev.now _)
  have h1 : ¬ (1 + (totL l2 : Int) + (l3.length : Int) < 0) := by omega
  have h2 : ¬ (1 + (totL rs : Int) < 0) := by omega
  exact ⟨rfl, rfl, rfl, h1, h2, rfl⟩

end Go.Proofs.Ytgopcliohchkmaa.Pure
