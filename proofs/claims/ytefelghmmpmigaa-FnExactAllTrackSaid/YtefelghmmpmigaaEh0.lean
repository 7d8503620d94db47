/- Plain contracts of functions that were walked otherwise -/
import Derived.Test.YtefelghmmpmigaaEq
import Derived.Test.YtefelghmmpmigaaEt
import Derived.Test.YtefelghmmpmigaaF
import Derived.Test.YtefelghmmpmigaaF1
import Derived.Test.YtefelghmmpmigaaF2
namespace Go.Ev
set_option linter.unusedVariables false
open Go.RowKit Go.Proofs Go Go.Proofs.YtefelghmmpmigaaW.PrintWords Go.Proofs.Ytefelghmmpmigaa.Q
theorem own_bounds {w : World} {base e : Nat} {v : Value} {r : List Int} {ok : Nat → Prop} (h : (Kd.int .i64).R e w base ok v r) : v.ownBlock.toList.Nodup ∧ ∀ g ∈ v.ownBlock.toList, ok g ∧ base ≤ g ∧ g < w.heap.size := by
  obtain ⟨inner, ho⟩ := Kd.R_own h
  refine ⟨opt_nodup _, fun g hg => ?_⟩
  have hg' : v.ownBlock = some g := by simpa using hg
  exact ⟨h.1 g hg', own_base ho g hg', own_lt ho g hg'⟩
theorem slices_Clone_int_int.pr {l0 r : List Int} {n0 : Nat} (H : slices_Clone_int_int.f l0 = some r) (hn0 : n0 = l0.length := by exact ln) : Promise Try.prog tb 79 [.lit n0 (ii l0)] (.own 3 r.length (ii r)) := by
  subst hn0
  have hb : l0.length ≤ 9223372036854775807 := by
    have H2 := H
    unfold slices_Clone_int_int.f at H2
    obtain ⟨h2, _⟩ := oA (oD H2)
    simp at h2
    omega
  refine promise_calls Try.func79 (by decide +kernel) rfl fun us w hl hr => ?_
  match us, hl with
  | [u], _ =>
    obtain ⟨F, r1⟩ := hr 0 _ u rfl rfl
    obtain ⟨A, c, rfl, hc, hC⟩ := lit_ints r1 rfl hb
    exact (slices_Clone_int_int.calls A c l0 r w hC hc H).mono fun e w' ⟨v, he, hR, hB⟩ => ⟨v, _, he, res_ints hR rfl, (own_bounds hR).1, fun g hg => ((own_bounds hR).2 g hg).2, hB⟩
theorem impl_minimal.pr {k : Nat} {l0 : List (List Int)} {l1 : List Int} {r : List (List Int) × List Int} {n0 : Nat} {c0 : List AV} {n1 : Nat} (H : impl_minimal.f k l0 l1 = some r) (hn0 : n0 = l0.length := by exact ln) (hc0 : mapR view c0 = iis l0 := by exact vw) (hn1 : n1 = l1.length := by exact ln) :
    Promise Try.prog tb 71 [.lit n0 c0, .lit n1 (ii l1)] (.tup [.own 23 r.1.length (ois 3 r.1), .own 3 r.2.length (ii r.2)]) := by
  subst hn0 hn1
  refine Promise.weak (.cons (weak_lit hc0) <| .cons (Weak.refl _) <| .nil) ?_
  obtain ⟨r1, r2⟩ := r
  have hb : l0.length ≤ 1000000 ∧ l1.length = l0.length ∧ rowsIn l0.length l0 = true := by
    have H2 := H
    unfold impl_minimal.f at H2
    obtain ⟨cl, _, H2⟩ := oC H2
    obtain ⟨h2, _⟩ := oA H2
    exact ⟨h2.1, h2.2.2.1, h2.2.2.2.1⟩
  refine promise_calls Try.func71 (by decide +kernel) rfl fun us w hl hr => ?_
  match us, hl with
  | [u, u'], _ =>
    obtain ⟨F, q1⟩ := hr 0 _ u rfl rfl
    obtain ⟨F', q2⟩ := hr 1 _ u' rfl rfl
    obtain ⟨A, c, rfl, hc, hC⟩ := lit_rows (e := 3) q1 rfl (by omega) fun row hrow => by
      obtain ⟨i, hi, rfl⟩ := List.getElem_of_mem hrow
      have := (rowsIn_use hb.2.2 hi).1
      omega
    obtain ⟨A', c', rfl, hc', hC'⟩ := lit_ints q2 rfl (by omega)
    refine (impl_minimal.calls k A c l0 A' c' l1 r1 r2 w hC hc hC' hc' H).mono fun e w' ⟨v0, v1, he, hS, hR, hB⟩ => ?_
    obtain ⟨F0, h1, h2, h3⟩ := res_rows (tb := tb) hS rfl rfl
    have h4 := own_bounds hR
    refine ⟨_, F0 ++ (v1.ownBlock.toList ++ []), he, ⟨[v0, v1], rfl, F0, _, rfl, h1, v1.ownBlock.toList, [], rfl, res_ints hR rfl, rfl⟩, ?_, fun g hg => ?_, hB⟩
    · rw [List.append_nil]
      refine List.nodup_append.2 ⟨h2, h4.1, fun a ha b hb e => ?_⟩
      subst e
      exact (h3 a ha).1 (Eq.symm (by simpa using hb))
    · rw [List.append_nil] at hg
      rcases List.mem_append.1 hg with hg | hg
      · exact (h3 g hg).2
      · exact (h4.2 g hg).2
end Go.Ev
