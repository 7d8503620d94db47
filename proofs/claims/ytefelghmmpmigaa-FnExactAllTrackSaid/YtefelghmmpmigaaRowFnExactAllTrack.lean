/- The row of the law FnExactAllTrack: the statement holds for all arguments, from the pure law and the contracts of the functions that the law reaches; no condition beyond those of the given statement. -/
import Derived.Test.YtefelghmmpmigaaRows
import Derived.Test.YtefelghmmpmigaaMRow
import Derived.Test.YtefelghmmpmigaaQ305
import Derived.Test.YtefelghmmpmigaaPureFnExactAllTrack
import Derived.WalkKit
import Derived.ProofKit
import Derived.OpenShut
import Derived.ShutString
import Derived.ChangeOld
import Derived.Below
import Derived.SizedLaws
namespace Go.Proofs.Ytefelghmmpmigaa.fnExactAllTrack
open Go.ChangeShapes Go.WideShapes Go.ChangeAt Go.RowKit Go.Proofs.YtefelghmmpmigaaW.PrintWords Go.Proofs.YtefelghmmpmigaaW.PrintLast
open Go.ChangeMaps (open_string shut_string)
set_option linter.unusedVariables false
set_option maxRecDepth 100000 in
theorem lifted (os : Os) (started : os.Started) (H : Type) (enc : TypeId × Value → H) :
    ReturnsInHanded {} Try.checked os 7 .any (Rows.fnExactAllTrackSpec.pre6 enc Try.prog Try.f7 Rows.fnExactAllTrackRow.domain false) (Rows.fnExactAllTrackSpec.post enc Try.prog Try.f7 false true false false) := by
  refine returnsInHanded_of_change_sized (C := Try.checked) MRow.own started (by kernel_rfl) Try.func7
    (ChangeSpec.witness6 (enc := enc) (C := Try.checked) false ⟨#[], #[.agg #[.int .i64 0, .int .i64 0, .slice none 0 0, .slice none 0 0], .int .i64 0], []⟩ 8 (by kernel_rfl) (by kernel_rfl) (by kernel_rfl) (by kernel_rfl)) ?_
  intro W base args ds gs before hval0 hW hcnd hsz0 _
  have hval : ∀ (j : Nat) t v, Try.f7.params[j]? = some t → args[j]? = some v → Value.okWide Try.prog W .any base t v := hval0
  have hW' := hW
  obtain ⟨p, q, hA0, hV, rfl, hfz, hnd⟩ := hW
  have hA : DataW.TrodAll enc Try.prog W 0 (fun _ => true) true Try.f7.params.toList args.toList ds p := hA0
  rw [Try.params7] at hA hval
  obtain ⟨v0, vs0, d0, ds0, p0, q0, hargs, rfl, rfl, h0, r0⟩ := trodAll_cons hA
  obtain ⟨v1, vs1, d1, ds1, p1, q1, rfl, rfl, rfl, h1, r1⟩ := trodAll_cons r0
  obtain ⟨rfl, rfl, rfl⟩ := trodAll_nil r1
  obtain rfl : args = #[v0, v1] := by cases args; simp_all
  obtain ⟨rfl, rfl⟩ := trodVars_none hV
  have k0 := h0
  have lt0 : ∀ x ∈ p0, x.block < W.heap.size := by obtain ⟨m, hm⟩ := k0; exact DataW.trod_lt m _ _ _ hm
  obtain ⟨u0_0, u0_1, u0_2, u0_3, y0_0, y0_1, y0_2, y0_3, n0_, rfl, hd0_, hp0_, hy0_0, hy0_1, hy0_2, hy0_3⟩ := Go.Joins.open_agg4 Try.underlying39 (by kernel_rfl) (by kernel_rfl) (hval 0 39 v0 rfl rfl) h0
  obtain ⟨a0_0, e0_0, _, w0_0⟩ := DataW.trod_int Try.underlying3 hy0_0
  obtain rfl := (List.cons.inj e0_0).1
  obtain ⟨a0_1, e0_1, _, w0_1⟩ := DataW.trod_int Try.underlying3 hy0_1
  obtain rfl := (List.cons.inj e0_1).1
  obtain ⟨l0_2, A0_2, c0_2, e0_2, hc0_2, hr0_2, w0_2⟩ := MRow.opens_row (MRow.opens_slice (MRow.opens_int Try.underlying3 (by kernel_rfl)) Try.underlying23 (by kernel_rfl)) Try.underlying22 hy0_2
  obtain rfl := (List.cons.inj e0_2).1
  obtain ⟨l0_3, A0_3, c0_3, e0_3, hc0_3, hr0_3, w0_3⟩ := MRow.opens_row (MRow.opens_bool Try.underlying4 (by kernel_rfl)) Try.underlying27 hy0_3
  obtain rfl := (List.cons.inj e0_3).1
  obtain ⟨a1, rfl, rfl, rfl, w1⟩ := open_int Try.underlying3 (hval 1 3 v1 rfl rfl) h1
  obtain ⟨k, hk⟩ := Pure.FnExactAllTrack a0_0 a0_1 l0_2 l0_3 a1 (bounds_i64 w0_0) (bounds_i64 w0_1) w0_2 w0_3 (bounds_i64 w1)
  clear hA0 hval0 hsz0 hA
  refine (Go.Proofs.Ytefelghmmpmigaa.Q.laws_FnExactAllTrack.calls (w := W) (r := true) (hr_ := rfl) (hr0_2 := hr0_2) (hc0_2 := hc0_2) (hr0_3 := hr0_3) (hc0_3 := hc0_3) (h := hk)).mono fun e W' ⟨he, bel0⟩ => ?_
  have bel : Below W.heap.size W W' := bel0
  subst he
  exact ⟨_, rfl, _, _, _, [], _, [], hW', trodAll_mk1 (shut_bool Try.underlying4 _), (trodAll_cons_mk (Below.trod MRow.laidOut (by kernel_rfl) (of_decide_eq_true (by kernel_rfl)) k0 bel lt0) (trodAll_cons_mk (shut_int Try.underlying3 w1) trodAll_mk0)), rfl, bel.frame _, fun h => by cases h⟩
theorem over : Rows.fnExactAllTrackRow.holds Try.pinned (OpenSpec.ofChange Rows.fnExactAllTrackSpec) :=
  OpenClaim.holds_of_wide 7 Try.f7 rfl rfl rfl rfl rfl rfl rfl ⟨rfl, rfl, rfl, rfl, rfl⟩ rfl rfl rfl rfl rfl (by kernel_rfl) Try.func7 (by kernel_rfl)
    (of_decide_eq_true (by kernel_rfl)) (by unfold Func.isWrapper; first | (rw [if_pos (by decide +kernel)]; kernel_rfl) | (rw [if_neg (by decide +kernel)]; exact ⟨rfl, rfl⟩))
    (fun os started H enc _ => lifted os started H enc)
theorem proved : Rows.FnExactAllTrackSaid := over
#print axioms proved
end Go.Proofs.Ytefelghmmpmigaa.fnExactAllTrack
namespace Go.Proofs.Ytefelghmmpmigaa
theorem fnExactAllTrack_holds : Rows.FnExactAllTrackSaid := fnExactAllTrack.proved
end Go.Proofs.Ytefelghmmpmigaa
