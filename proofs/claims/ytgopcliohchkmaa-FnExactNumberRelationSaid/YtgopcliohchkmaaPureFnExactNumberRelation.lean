/- The pure law FnExactNumberRelation: what the printed functions of the program and of the reference compute agrees, for all arguments. -/
import Derived.Test.YtgopcliohchkmaaQ0
import Derived.Test.YtgopcliohchkmaaQ1
import Derived.Test.YtgopcliohchkmaaQ22
import Derived.Test.YtgopcliohchkmaaQ242
import Derived.Test.YtgopcliohchkmaaQ244
import Derived.Test.YtgopcliohchkmaaQ3
import Derived.Test.YtgopcliohchkmaaMRow
namespace Go.Proofs.Ytgopcliohchkmaa.Pure
open Go.RowKit Go.Proofs.Ytgopcliohchkmaa.Q Go.Proofs.Ytgopcliohchkmaa.MRow Go.Proofs.YtgopcliohchkmaaW.PrintWords Go.Proofs.YtgopcliohchkmaaW.PrintLast
set_option linter.unusedVariables false
set_option linter.unusedSimpArgs false

/-! base -/
/-! spec_l1In -/
theorem l1In_eq (a b c : Int) : spec_l1In.f a b c = some (decide (b ≤ a ∧ a ≤ c)) := by
  unfold spec_l1In.f
  by_cases h : a ≥ b
  · rw [if_pos h]
    congr 1
    simp; omega
  · rw [if_neg h]
    congr 1
    simp; omega

/-! laws_toIntS -/
/-! laws_eqIntS -/
/-! RowsBase -/
/-! IntSS -/
/-! Relation -/
/-! marksI -/
/-! marksR -/
/-! heldR -/
/-! law_FnExactNumberRelation -/
def NumAll (b : Int) : Nat → Bool
  | 0 => true
  | n + 1 => (laws_FnExactNumberRelation.f 2000 b (n : Int) == some true) && NumAll b n

theorem NumAll.at {b : Int} : ∀ n, NumAll b n = true → ∀ m : Nat, m < n → laws_FnExactNumberRelation.f 2000 b (m : Int) = some true
  | 0, _, m, hm => absurd hm (Nat.not_lt_zero m)
  | n + 1, h, m, hm => by
    have h' := h
    unfold NumAll at h'
    rw [Bool.and_eq_true] at h'
    by_cases e : m = n
    · subst e
      exact eq_of_beq h'.1
    · exact NumAll.at n h'.2 m (by omega)

theorem NumAll.two : NumAll 2 256 = true := by decide +kernel
theorem NumAll.three : NumAll 3 256 = true := by decide +kernel

theorem FnExactNumberRelation (a0 : Int) (a1 : Int) (w0 : -9223372036854775808 ≤ a0 ∧ a0 ≤ 9223372036854775807) (w1 : -9223372036854775808 ≤ a1 ∧ a1 ≤ 9223372036854775807) : ∃ k, laws_FnExactNumberRelation.f k a0 a1 = some true := by
  by_cases hin : (a0 = 2 ∨ a0 = 3) ∧ 0 ≤ a1 ∧ a1 ≤ 255
  · obtain ⟨hb, h0, h1⟩ := hin
    obtain ⟨m, rfl⟩ : ∃ m : Nat, a1 = (m : Int) := ⟨a1.toNat, by omega⟩
    rcases hb with rfl | rfl
    · exact ⟨2000, NumAll.at 256 NumAll.two m (by omega)⟩
    · exact ⟨2000, NumAll.at 256 NumAll.three m (by omega)⟩
  refine ⟨300, ?_⟩
  have e1 : spec_NumberRelation.f 300 a0 a1 = some (0, 0, [], [], false) := by
    unfold spec_NumberRelation.f
    rw [l1In_eq, Option.bind_some]
    by_cases hb : a0 = 2 ∨ a0 = 3
    · rw [decide_eq_true (by omega), if_pos rfl, l1In_eq, Option.bind_some, decide_eq_false (by omega)]
      rfl
    · rw [decide_eq_false (by omega), if_neg (by simp)]
      rfl
  have e2 : impl_NumberRelation.f 300 a0 a1 = some (0, 0, [], [], false) := by
    unfold impl_NumberRelation.f
    by_cases hb : a0 = 2 ∨ a0 = 3
    · have hs : impl_isSmallBase.f a0 = some true := by
        unfold impl_isSmallBase.f
        rcases hb with rfl | rfl <;> rfl
      rw [hs, Option.bind_some, if_pos rfl]
      by_cases h0 : a1 < 0
      · rw [if_pos h0]
        rfl
      · rw [if_neg h0, decide_eq_true (by omega)]
        rfl
    · have hs : impl_isSmallBase.f a0 = some false := by
        unfold impl_isSmallBase.f
        simp [show ¬ a0 = 2 by omega, show ¬ a0 = 3 by omega]
      rw [hs, Option.bind_some, if_neg (by simp)]
      rfl
  unfold laws_FnExactNumberRelation.f
  rw [e1, e2]
  rfl

end Go.Proofs.Ytgopcliohchkmaa.Pure
