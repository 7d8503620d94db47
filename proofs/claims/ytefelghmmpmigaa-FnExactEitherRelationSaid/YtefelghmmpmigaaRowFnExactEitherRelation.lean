/- The row of the law FnExactEitherRelation: the statement holds for all arguments, from the pure law and the contracts of the functions that the law reaches; no condition beyond those of the given statement. -/
import Derived.Test.YtefelghmmpmigaaRows
import Derived.Test.YtefelghmmpmigaaMRow
import Derived.Test.YtefelghmmpmigaaQ301
import Derived.Test.YtefelghmmpmigaaPureFnExactEitherRelation
import Derived.WalkKit
import Derived.ProofKit
import Derived.OpenShut
import Derived.ShutString
import Derived.ChangeOld
import Derived.Below
import Derived.SizedLaws
namespace Go.Proofs.Ytefelghmmpmigaa.fnExactEitherRelation
open Go.ChangeShapes Go.WideShapes Go.ChangeAt Go.RowKit Go.Proofs.YtefelghmmpmigaaW.PrintWords Go.Proofs.YtefelghmmpmigaaW.PrintLast
open Go.ChangeMaps (open_string shut_string)
set_option linter.unusedVariables false
set_option maxRecDepth 100000 in
theorem lifted (os : Os) (started : os.Started) (H : Type) (enc : TypeId × Value → H) :
    ReturnsInHanded {} Try.checked os 5 .any (Rows.fnExactEitherRelationSpec.pre6 enc Try.prog Try.f5 Rows.fnExactEitherRelationRow.domain false) (Rows.fnExactEitherRelationSpec.post enc Try.prog Try.f5 false true false false) := by
  refine returnsInHanded_of_change_sized (C := Try.checked) MRow.own started (by kernel_rfl) Try.func5
    (ChangeSpec.witness6 (enc := enc) (C := Try.checked) false ⟨#[], #[.agg #[.int .i64 0, .int .i64 0, .slice none 0 0, .slice none 0 0], .agg #[.int .i64 0, .int .i64 0, .slice none 0 0, .slice none 0 0]], []⟩ 8 (by kernel_rfl) (by kernel_rfl) (by kernel_rfl) (by kernel_rfl)) ?_
  intro W base args ds gs before hval0 hW hcnd hsz0 _
  have hval : ∀ (j : Nat) t v, Try.f5.params[j]? = some t → args[j]? = some v → Value.okWide Try.prog W .any base t v := hval0
  have hW' := hW
  obtain ⟨p, q, hA0, hV, rfl, hfz, hnd⟩ := hW
  have hA : DataW.TrodAll enc Try.prog W 0 (fun _ => true) true Try.f5.params.toList args.toList ds p := hA0
  rw [Try.params5] at hA hval
  obtain ⟨v0, vs0, d0, ds0, p0, q0, hargs, rfl, rfl, h0, r0⟩ := trodAll_cons hA
  obtain ⟨v1, vs1, d1, ds1, p1, q1, rfl, rfl, rfl, h1, r1⟩ := trodAll_cons r0
  obtain ⟨rfl, rfl, rfl⟩ := trodAll_nil r1
  obtain rfl : args = #[v0, v1] := by cases args; simp_all
  obtain ⟨rfl, rfl⟩ := trodVars_none hV
  have k0 := h0
  have lt0 : ∀ x ∈ p0, x.block < W.heap.size := by obtain ⟨m, hm⟩ := k0; exact DataW.trod_lt m _ _ _ hm
  obtain ⟨u0_0, u0_1, u0_2, u0_3, y0_0, y0_1, y0_2, y0_3, n0_, rfl, hd0_, hp0_, hy0_0, hy0_1, hy0_2, hy0_3⟩ := Go.Joins.open_agg4 Try.underlying39 (by kernel_rfl) (by kernel_rfl) (hval 0 39 v0 rfl rfl) h0
  obtain ⟨a0_0, e0_0, _, w0_0⟩ := DataW.trod_int Try.underlying3 hy0_0
  obtain rfl := (List.cons.inj e0_0).1
  obtain ⟨a0_1, e0_1, _, w0_1⟩ := DataW.trod_int Try.underlying3 hy0_1
  obtain rfl := (List.cons.inj e0_1).1
  obtain ⟨l0_2, A0_2, c0_2, e0_2, hc0_2, hr0_2, w0_2⟩ := MRow.opens_row (MRow.opens_slice (MRow.opens_int Try.underlying3 (by kernel_rfl)) Try.underlying23 (by kernel_rfl)) Try.underlying22 hy0_2
  obtain rfl := (List.cons.inj e0_2).1
  obtain ⟨l0_3, A0_3, c0_3, e0_3, hc0_3, hr0_3, w0_3⟩ := MRow.opens_row (MRow.opens_bool Try.underlying4 (by kernel_rfl)) Try.underlying27 hy0_3
  obtain rfl := (List.cons.inj e0_3).1
  have k1 := h1
  have lt1 : ∀ x ∈ p1, x.block < W.heap.size := by obtain ⟨m, hm⟩ := k1; exact DataW.trod_lt m _ _ _ hm
  obtain ⟨u1_0, u1_1, u1_2, u1_3, y1_0, y1_1, y1_2, y1_3, n1_, rfl, hd1_, hp1_, hy1_0, hy1_1, hy1_2, hy1_3⟩ := Go.Joins.open_agg4 Try.underlying39 (by kernel_rfl) (by kernel_rfl) (hval 1 39 v1 rfl rfl) h1
  obtain ⟨a1_0, e1_0, _, w1_0⟩ := DataW.trod_int Try.underlying3 hy1_0
  obtain rfl := (List.cons.inj e1_0).1
  obtain ⟨a1_1, e1_1, _, w1_1⟩ := DataW.trod_int Try.underlying3 hy1_1
  obtain rfl := (List.cons.inj e1_1).1
  obtain ⟨l1_2, A1_2, c1_2, e1_2, hc1_2, hr1_2, w1_2⟩ := MRow.opens_row (MRow.opens_slice (MRow.opens_int Try.underlying3 (by kernel_rfl)) Try.underlying23 (by kernel_rfl)) Try.underlying22 hy1_2
  obtain rfl := (List.cons.inj e1_2).1
  obtain ⟨l1_3, A1_3, c1_3, e1_3, hc1_3, hr1_3, w1_3⟩ := MRow.opens_row (MRow.opens_bool Try.underlying4 (by kernel_rfl)) Try.underlying27 hy1_3
  obtain rfl := (List.cons.inj e1_3).1
  obtain ⟨k, hk⟩ := Pure.FnExactEitherRelation a0_0 a0_1 l0_2 l0_3 a1_0 a1_1 l1_2 l1_3 (bounds_i64 w0_0) (bounds_i64 w0_1) w0_2 w0_3 (bounds_i64 w1_0) (bounds_i64 w1_1) w1_2 w1_3
  clear hA0 hval0 hsz0 hA
  refine (Go.Proofs.Ytefelghmmpmigaa.Q.laws_FnExactEitherRelation.calls (w := W) (r := true) (hr_ := rfl) (hr0_2 := hr0_2) (hc0_2 := hc0_2) (hr0_3 := hr0_3) (hc0_3 := hc0_3) (hr1_2 := hr1_2) (hc1_2 := hc1_2) (hr1_3 := hr1_3) (hc1_3 := hc1_3) (h := hk)).mono fun e W' ⟨he, bel0⟩ => ?_
  have bel : Below W.heap.size W W' := bel0
  subst he
  exact ⟨_, rfl, _, _, _, [], _, [], hW', trodAll_mk1 (shut_bool Try.underlying4 _), (trodAll_cons_mk (Below.trod MRow.laidOut (by kernel_rfl) (of_decide_eq_true (by kernel_rfl)) k0 bel lt0) (trodAll_cons_mk (Below.trod MRow.laidOut (by kernel_rfl) (of_decide_eq_true (by kernel_rfl)) k1 bel lt1) trodAll_mk0)), rfl, bel.frame _, fun h => by cases h⟩
theorem over : Rows.fnExactEitherRelationRow.holds Try.pinned (OpenSpec.ofChange Rows.fnExactEitherRelationSpec) :=
  OpenClaim.holds_of_wide 5 Try.f5 rfl rfl rfl rfl rfl rfl rfl ⟨rfl, rfl, rfl, rfl, rfl⟩ rfl rfl rfl rfl rfl (by kernel_rfl) Try.func5 (by kernel_rfl)
    (of_decide_eq_true (by kernel_rfl)) (by unfold Func.isWrapper; first | (rw [if_pos (by decide +kernel)]; kernel_rfl) | (rw [if_neg (by decide +kernel)]; exact ⟨rfl, rfl⟩))
    (fun os started H enc _ => lifted os started H enc)
theorem proved : Rows.FnExactEitherRelationSaid := over
#print axioms proved
end Go.Proofs.Ytefelghmmpmigaa.fnExactEitherRelation
namespace Go.Proofs.Ytefelghmmpmigaa
theorem fnExactEitherRelation_holds : Rows.FnExactEitherRelationSaid := fnExactEitherRelation.proved
end Go.Proofs.Ytefelghmmpmigaa
