-- written by a program of this session (a turned copy of the kit's print) out of the translation
-- squeezed
-- compact
import Derived.WalkSpells
import Derived.Test.YtefelghmmpmigaaQ0
namespace Go.Proofs.Ytefelghmmpmigaa.Q
open Go.RowKit Go.Proofs.YtefelghmmpmigaaW.PrintWords Go.Proofs.YtefelghmmpmigaaW.PrintLast Go.Proofs.YtefelghmmpmigaaW.PrintMore
attribute [local go_sem] max2_int min2_int max_two min_two max_three min_three max_four min_four   -- for this text's walks alone
set_option linter.unusedVariables false
set_option linter.unusedSimpArgs false

/-! ### slices_Clone_bool_bool: function 83 -/
def slices_Clone_bool_bool.f (l0 : List Bool) : Option (List Bool) := (some (([] : List Bool) : List Bool)).bind fun y1024 => (if y1024.length + l0.length < 140737488355328 then (some (y1024 ++ l0)) else (none))
set_option maxHeartbeats 8000000 in
set_option maxRecDepth 100000 in
theorem slices_Clone_bool_bool.calls (A0 : Option Addr) (c0 : Nat) (l0 : List Bool) (r : List Bool) (w : World) (hr0 : Kd.C Kd.bool w A0 l0.length l0) (hc0 : l0.length ≤ c0) (h : slices_Clone_bool_bool.f l0 = some r) :
  Calls Try.prog 83 #[.slice A0 l0.length c0] w fun e w' => ∃ v0_ : Value, e = .returned (v0_) ∧ Kd.R Kd.bool 4 w' w.heap.size (fun _ => True) v0_ r ∧ Below w.heap.size w w' := by
 have HR0 := yA hr0
 have HC0 := yA hc0
 clear hr0 hc0
 have HB := yA (zV w.heap.size w)
 have H : ((some (([] : List Bool) : List Bool)).bind fun y1024 => (if y1024.length + l0.length < 140737488355328 then (some (y1024 ++ l0)) else (none))) = some r := h
 clear h
 obtain ⟨y1024, hy1024⟩ : ∃ y_ : List Bool, y_ = (([] : List Bool)) := ⟨_, rfl⟩
 replace H : (if y1024.length + l0.length < 140737488355328 then (some (y1024 ++ l0)) else (none)) = some r := by first | (rw [hy1024]; with_reducible exact H) | (have H2_ := (Option.bind_some _ _).symm.trans H; rw [hy1024]; with_reducible exact H2_) | (have H2_ := (Option.bind_some _ _).symm.trans H; with_reducible exact H2_) | with_reducible exact H | (rw [hy1024]; exact H) | exact H
 have Ny1024 := yA hy1024
 clear hy1024
 by_cases c2 : y1024.length + l0.length < 140737488355328
 ·rw [if_pos c2] at H
  have LMc2 := yA c2
  clear c2
  obtain ⟨y1027, hy1027⟩ : ∃ y_ : List Bool, y_ = (y1024 ++ l0) := ⟨_, rfl⟩
  replace H : (some y1027) = some r := by first | (rw [hy1027]; with_reducible exact H) | (have H2_ := (Option.bind_some _ _).symm.trans H; rw [hy1027]; with_reducible exact H2_) | (have H2_ := (Option.bind_some _ _).symm.trans H; with_reducible exact H2_) | with_reducible exact H | (rw [hy1027]; exact H) | exact H
  have Ny1027 := yA hy1027
  clear hy1027
  obtain rfl := zU H
  cases A0 with
  | none =>
   have hl0_ : l0 = [] := List.length_eq_zero_iff.1 (Nat.eq_zero_of_not_pos (fun z_ => by obtain ⟨_, e_, _⟩ := HR0.out.2.2 z_; cases e_))
   subst hl0_
   have q_ : ∀ (w_ : World) (a_ : Option Addr) (n_ c_ n1_ c1_ : Nat), (binOp .eql 27 (.slice a_ n_ c_) (.slice none n1_ c1_)).run Try.prog w_ = .ok (.bool a_.isNone) w_ := fun w_ a_ n_ c_ n1_ c1_ => Lib.run_eql_slice_nil w_ _ _ a_ n_ c_ n1_ c1_ Try.underlying27
   go_enter Try.func83, Try.ntmps83
   go_wp2
   go_ret
   refine ⟨_, rfl, ?_, by repeat (first | (with_reducible first | exact HB.out | apply below_alloc | apply pw_below_drewN | apply below_drew1) | exact HB.out)⟩
   rw [Ny1027.out, Ny1024.out]
   exact Kd.R_nil _ _ _ _ _
  | some a0_ =>
   have q_ : ∀ (w_ : World) (a_ : Option Addr) (n_ c_ n1_ c1_ : Nat), (binOp .eql 27 (.slice a_ n_ c_) (.slice none n1_ c1_)).run Try.prog w_ = .ok (.bool a_.isNone) w_ := fun w_ a_ n_ c_ n1_ c1_ => Lib.run_eql_slice_nil w_ _ _ a_ n_ c_ n1_ c1_ Try.underlying27
   go_enter Try.func83, Try.ntmps83
   go_wp2_with (first | ((with_reducible refine gate_dst (N := 5) rfl ?_); refine Kd.R_lit Kd.bool _ 4 ?hg (N := 5) ?hd (xs := ([] : List Bool)) (inner := []) (ok := fun _ => True) (okp := fun _ => True) ?hr ?hp (fun _ hk => hk) trivial (zV _ _) (zT _) (by simp) ?_; (case hd => rfl); (case hg => rfl); (case hr => first | (go_simp; done) | (go_simp; rfl)); (case hp => exact (Reps.none _ _)); intro v1025 w3 ho4 hb hg_ hnew_; clear hg_ hnew_; (first | rw [← Ny1024.out] at ho4 | (simp only [Int.reduceToNat] at ho4; rw [← Ny1024.out] at ho4)); have n0_ := yA (Kd.R_lower ho4 (yX (mB HB.out))); have n1_ := yA (zD (mB HB.out) hb); clear HB; have HO1026 := n0_; have HB := n1_; clear n0_ n1_; clear hb ho4) | ((with_reducible refine gate_builtin (b := .append) (xs := #[.tmp 5, .tmp 6]) rfl ?_); at_builtin; refine Kd.R_append_rows Kd.bool (w0 := w) w.heap.size rfl (.tmp 5) (.tmp 6) 27 4 (.bool false) 1 rfl Try.underlying27 info4 rfl (by decide) (by omega) v1025 y1024 l0 _ _ _ (fun _ => True) (fun _ => False) rfl rfl ?aO ?aR (fun _ _ h => h) (fun _ h => h.elim) ?aF ?aB ?aS ?aL ?_; (case aR => repeat (first | exact (yM HR0.out HB.out) | (with_reducible refine yE ?_ _) | (with_reducible refine yF ?_ _) | (with_reducible refine yG ?_))); (case aB => exact (mB HB.out)); (case aF => exact (fun _ _ => trivial)); (case aO => exact (mR HO1026.out)); (case aS => exact (yX (mB HB.out))); (case aL => have := LMc2.out; omega); intro v1028 w5 ho hb hg hat; rw [← Ny1027.out] at ho; have n0_ := yA (hb); have n1_ := yA (ho); clear HB; clear HO1026; have HB := n0_; have HO1029 := n1_; clear n0_ n1_; clear ho hb hg hat))
   go_ret
   exact ⟨_, by first | rfl | (simp [errW_none, errW_some] <;> rfl) | (simp [*, errW_none, errW_some] <;> rfl), by (with_reducible repeat (first | apply yB | apply yC | apply yD)); exact HO1029.out, by repeat (first | (with_reducible first | exact HB.out | apply yO | apply yN | apply yP) | exact HB.out)⟩
 ·rw [if_neg c2] at H
  exact absurd H (by simp)

end Go.Proofs.Ytefelghmmpmigaa.Q
