/- The row of the law FnExactBoundedSolutions: the statement holds for all arguments, from the pure law and the contracts of the functions that the law reaches; no condition beyond those of the given statement. -/
import Derived.Test.YtmkeicahnnlalaaRows
import Derived.Test.YtmkeicahnnlalaaMRow
import Derived.Test.YtmkeicahnnlalaaQ100
import Derived.Test.YtmkeicahnnlalaaPureFnExactBoundedSolutions
import Derived.WalkKit
import Derived.ProofKit
import Derived.OpenShut
import Derived.ShutString
import Derived.ChangeOld
import Derived.Below
import Derived.SizedLaws
namespace Go.Proofs.Ytmkeicahnnlalaa.fnExactBoundedSolutions
open Go.ChangeShapes Go.WideShapes Go.ChangeAt Go.RowKit Go.Proofs.YtmkeicahnnlalaaW.PrintWords Go.Proofs.YtmkeicahnnlalaaW.PrintLast
open Go.ChangeMaps (open_string shut_string)
set_option linter.unusedVariables false
set_option maxRecDepth 100000 in
theorem lifted (os : Os) (started : os.Started) (H : Type) (enc : TypeId × Value → H) :
    ReturnsInHanded {} Try.checked os 7 .any (Rows.fnExactBoundedSolutionsSpec.pre6 enc Try.prog Try.f7 Rows.fnExactBoundedSolutionsRow.domain false) (Rows.fnExactBoundedSolutionsSpec.post enc Try.prog Try.f7 false true false false) := by
  refine returnsInHanded_of_change_sized (C := Try.checked) MRow.own started (by kernel_rfl) Try.func7
    (ChangeSpec.witness6 (enc := enc) (C := Try.checked) false ⟨#[], #[.agg #[.int .i64 0, .slice none 0 0, .slice none 0 0], .slice none 0 0, .int .i64 0], []⟩ 8 (by kernel_rfl) (by kernel_rfl) (by kernel_rfl) (by kernel_rfl)) ?_
  intro W base args ds gs before hval0 hW hcnd hsz0 _
  have hval : ∀ (j : Nat) t v, Try.f7.params[j]? = some t → args[j]? = some v → Value.okWide Try.prog W .any base t v := hval0
  have hW' := hW
  obtain ⟨p, q, hA0, hV, rfl, hfz, hnd⟩ := hW
  have hA : DataW.TrodAll enc Try.prog W 0 (fun _ => true) true Try.f7.params.toList args.toList ds p := hA0
  rw [Try.params7] at hA hval
  obtain ⟨v0, vs0, d0, ds0, p0, q0, hargs, rfl, rfl, h0, r0⟩ := trodAll_cons hA
  obtain ⟨v1, vs1, d1, ds1, p1, q1, rfl, rfl, rfl, h1, r1⟩ := trodAll_cons r0
  obtain ⟨v2, vs2, d2, ds2, p2, q2, rfl, rfl, rfl, h2, r2⟩ := trodAll_cons r1
  obtain ⟨rfl, rfl, rfl⟩ := trodAll_nil r2
  obtain rfl : args = #[v0, v1, v2] := by cases args; simp_all
  obtain ⟨rfl, rfl⟩ := trodVars_none hV
  have k0 := h0
  have lt0 : ∀ x ∈ p0, x.block < W.heap.size := by obtain ⟨m, hm⟩ := k0; exact DataW.trod_lt m _ _ _ hm
  obtain ⟨u0_0, u0_1, u0_2, y0_0, y0_1, y0_2, n0_, rfl, hd0_, hp0_, hy0_0, hy0_1, hy0_2⟩ := Go.Joins.open_agg3 Try.underlying25 (by kernel_rfl) (by kernel_rfl) (hval 0 25 v0 rfl rfl) h0
  obtain ⟨a0_0, e0_0, _, w0_0⟩ := DataW.trod_int Try.underlying3 hy0_0
  obtain rfl := (List.cons.inj e0_0).1
  obtain ⟨l0_1, A0_1, c0_1, e0_1, hc0_1, hr0_1, w0_1⟩ := MRow.opens_row (MRow.opens_slice (MRow.opens_int Try.underlying3 (by kernel_rfl)) Try.underlying23 (by kernel_rfl)) Try.underlying22 hy0_1
  obtain rfl := (List.cons.inj e0_1).1
  obtain ⟨l0_2, A0_2, c0_2, e0_2, hc0_2, hr0_2, w0_2⟩ := MRow.opens_row (MRow.opens_int Try.underlying3 (by kernel_rfl)) Try.underlying23 hy0_2
  obtain rfl := (List.cons.inj e0_2).1
  have k1 := h1
  have lt1 : ∀ x ∈ p1, x.block < W.heap.size := by obtain ⟨m, hm⟩ := k1; exact DataW.trod_lt m _ _ _ hm
  obtain ⟨a1, len1, cap1, rfl⟩ := okWide_slice Try.underlying44 (hval 1 44 v1 rfl rfl)
  obtain ⟨fuel1, hf1⟩ := h1
  obtain ⟨l1, A1, c1, e1, hc1, hr1, w1⟩ := MRow.opens_row MRow.opens_Node Try.underlying44 hf1
  simp [Value.cells] at e1
  obtain ⟨rfl, rfl, rfl⟩ := e1
  obtain ⟨a2, rfl, rfl, rfl, w2⟩ := open_int Try.underlying3 (hval 2 3 v2 rfl rfl) h2
  obtain ⟨k, hk⟩ := Pure.FnExactBoundedSolutions a0_0 l0_1 l0_2 l1 a2 (bounds_i64 w0_0) w0_1 w0_2 w1 (bounds_i64 w2)
  clear hA0 hval0 hsz0 hA
  refine (Go.Proofs.Ytmkeicahnnlalaa.Q.laws_FnExactBoundedSolutions.calls (w := W) (r := true) (hr_ := rfl) (hr0_1 := hr0_1) (hc0_1 := hc0_1) (hr0_2 := hr0_2) (hc0_2 := hc0_2) (hr1 := hr1) (hc1 := hc1) (h := hk)).mono fun e W' ⟨he, bel0⟩ => ?_
  have bel : Below W.heap.size W W' := bel0
  subst he
  exact ⟨_, rfl, _, _, _, [], _, [], hW', trodAll_mk1 (shut_bool Try.underlying4 _), (trodAll_cons_mk (Below.trod MRow.laidOut (by kernel_rfl) (of_decide_eq_true (by kernel_rfl)) k0 bel lt0) (trodAll_cons_mk (Below.trod MRow.laidOut (by kernel_rfl) (of_decide_eq_true (by kernel_rfl)) k1 bel lt1) (trodAll_cons_mk (shut_int Try.underlying3 w2) trodAll_mk0))), rfl, bel.frame _, fun h => by cases h⟩
theorem over : Rows.fnExactBoundedSolutionsRow.holds Try.pinned (OpenSpec.ofChange Rows.fnExactBoundedSolutionsSpec) :=
  OpenClaim.holds_of_wide 7 Try.f7 rfl rfl rfl rfl rfl rfl rfl ⟨rfl, rfl, rfl, rfl, rfl⟩ rfl rfl rfl rfl rfl (by kernel_rfl) Try.func7 (by kernel_rfl)
    (of_decide_eq_true (by kernel_rfl)) (by unfold Func.isWrapper; first | (rw [if_pos (by decide +kernel)]; kernel_rfl) | (rw [if_neg (by decide +kernel)]; exact ⟨rfl, rfl⟩))
    (fun os started H enc _ => lifted os started H enc)
theorem proved : Rows.FnExactBoundedSolutionsSaid := over
#print axioms proved
end Go.Proofs.Ytmkeicahnnlalaa.fnExactBoundedSolutions
namespace Go.Proofs.Ytmkeicahnnlalaa
theorem fnExactBoundedSolutions_holds : Rows.FnExactBoundedSolutionsSaid := fnExactBoundedSolutions.proved
end Go.Proofs.Ytmkeicahnnlalaa
