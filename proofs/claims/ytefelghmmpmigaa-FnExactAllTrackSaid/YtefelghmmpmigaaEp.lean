/- Pairs of numbers, and maps from pairs, in a walk with the plain evaluator -/
import Derived.Test.YtefelghmmpmigaaEk
import Derived.Test.YtefelghmmpmigaaF2
namespace Go.Ev
set_option linter.unusedVariables false
open Go.Proofs Go Go.Proofs.YtefelghmmpmigaaW.PrintWords Go.Proofs.Ytefelghmmpmigaa.Q
/-! pairs of numbers -/
noncomputable def p2 (xs : List (Int × Int)) : List AV := xs.flatMap fun p => [.int .i64 p.1, .int .i64 p.2]
theorem len_p2 (xs : List (Int × Int)) : (p2 xs).length = 2 * xs.length := by
  unfold p2
  induction xs with
  | nil => rfl
  | cons x l ih => rw [List.flatMap_cons, List.length_append, ih]; simp; omega
theorem lenP {xs : List (Int × Int)} {s : Nat} (h : s = 2 := by rfl) : lenN (p2 xs).length s = xs.length := by
  subst h
  rw [len_p2]
  show 2 * xs.length / 2 = _
  omega
theorem p2A {xs : List (Int × Int)} {t : Int × Int} : p2 xs ++ [.int .i64 t.1, .int .i64 t.2] = p2 (xs ++ [t]) := by unfold p2; rw [List.flatMap_append]; rfl
theorem exFe {k : AV} {K : Option (Nat × AV) → Prop} (h : K none) : ∃ o, findK k [] o ∧ K o := ⟨none, fun kv hkv => by simp at hkv, h⟩
end Go.Ev
