-- written by a program of this session
-- squeezed
-- compact
-- shrunk
import Derived.Test.YtmkeicahnnlalaaQ0
namespace Go.Proofs.Ytmkeicahnnlalaa.Q
open Go.RowKit Go.Proofs.YtmkeicahnnlalaaW.PrintWords Go.Proofs.YtmkeicahnnlalaaW.PrintLast Go.Proofs.YtmkeicahnnlalaaW.PrintMore
set_option linter.unusedVariables false
set_option linter.unusedSimpArgs false

/-! ### impl_Node_isQuantifier: function 131 -/
def impl_Node_isQuantifier.f (a0_0 : Int) (a0_1 : Int) (a0_2 : Int) (a0_3 : Int) : Option (Bool) := if a0_0 = 9 then (some true) else (some (a0_0 == 10))
set_option maxHeartbeats 8000000 in
set_option maxRecDepth 100000 in
theorem impl_Node_isQuantifier.calls (a0_0 : Int) (a0_1 : Int) (a0_2 : Int) (a0_3 : Int) (r : Bool) (w : World) (h : impl_Node_isQuantifier.f a0_0 a0_1 a0_2 a0_3 = some r) :
  Calls Try.prog 131 #[.agg #[.int .i64 a0_0, .int .i64 a0_1, .int .i64 a0_2, .int .i64 a0_3]] w fun e w' => e = .returned (.bool r) ∧ Below w.heap.size w w' := by
 have hu71 := Try.underlying71
 have HB := yA (zV w.heap.size w)
 have H : (if a0_0 = 9 then (some true) else (some (a0_0 == 10))) = some r := h
 clear h
 by_cases c2 : a0_0 = 9
 ·rw [if_pos c2] at H
  have c2b0 : (a0_0 == 9) = true := beq_iff_eq.mpr c2
  have c2b1 : (a0_0 != 9) = false := bne_eq_false_iff_eq.mpr c2
  clear c2
  obtain rfl := zU H
  go_enter Try.func131, Try.ntmps131
  go_wp2_with (first | ((with_reducible refine gate_dst (N := 1) rfl ?_); refine box_event ?hg (N := 1) ?hd (cs := #[.int .i64 a0_0, .int .i64 a0_1, .int .i64 a0_2, .int .i64 a0_3]) (t := 71) ?hr ?_; (case hd => rfl); (case hg => rfl); (case hr => first | (go_simp; done) | (go_simp; rfl)); intro gb1043 hg w3 hbox hb; have BK1043 := yA (hbox); have GW1043 := yA ((by rw [hg]; exact (yX (mB HB.out)) : w.heap.size ≤ gb1043)); have GE1043 := yA ((by rw [hg]; exact (yX (mB HB.out)) : w.heap.size ≤ gb1043)); replace HB := yA (zD (mB HB.out) hb); clear hb hbox hg; have hcz4_0 : w3.cell? ⟨gb1043, 0, none⟩ = some (.int .i64 a0_0) := (yV BK1043.out 0).trans rfl; have hcz4_1 : w3.cell? ⟨gb1043, 1, none⟩ = some (.int .i64 a0_1) := (yV BK1043.out 1).trans rfl; have hcz4_2 : w3.cell? ⟨gb1043, 2, none⟩ = some (.int .i64 a0_2) := (yV BK1043.out 2).trans rfl; have hcz4_3 : w3.cell? ⟨gb1043, 3, none⟩ = some (.int .i64 a0_3) := (yV BK1043.out 3).trans rfl; have hfz4_0 := yW BK1043.out 0; have hfz4_1 := yW BK1043.out 1; have hfz4_2 := yW BK1043.out 2; have hfz4_3 := yW BK1043.out 3))
  go_ret
  exact ⟨by first | rfl | (simp [errW_none, errW_some] <;> rfl) | (simp [*, errW_none, errW_some] <;> rfl), by repeat (first | (with_reducible first | exact HB.out | apply yO | apply yN | apply yP | refine yQ ?_ GE1043.out) | exact HB.out)⟩
 ·rw [if_neg c2] at H
  have c2b0 : (a0_0 == 9) = false := beq_eq_false_iff_ne.mpr c2
  have c2b1 : (a0_0 != 9) = true := bne_iff_ne.mpr c2
  obtain rfl := zU H
  go_enter Try.func131, Try.ntmps131
  go_wp2_with (first | ((with_reducible refine gate_dst (N := 1) rfl ?_); refine box_event ?hg (N := 1) ?hd (cs := #[.int .i64 a0_0, .int .i64 a0_1, .int .i64 a0_2, .int .i64 a0_3]) (t := 71) ?hr ?_; (case hd => rfl); (case hg => rfl); (case hr => first | (go_simp; done) | (go_simp; rfl)); intro gb1043 hg w5 hbox hb; have BK1043 := yA (hbox); have GW1043 := yA ((by rw [hg]; exact (yX (mB HB.out)) : w.heap.size ≤ gb1043)); have GE1043 := yA ((by rw [hg]; exact (yX (mB HB.out)) : w.heap.size ≤ gb1043)); replace HB := yA (zD (mB HB.out) hb); clear hb hbox hg; have hcz6_0 : w5.cell? ⟨gb1043, 0, none⟩ = some (.int .i64 a0_0) := (yV BK1043.out 0).trans rfl; have hcz6_1 : w5.cell? ⟨gb1043, 1, none⟩ = some (.int .i64 a0_1) := (yV BK1043.out 1).trans rfl; have hcz6_2 : w5.cell? ⟨gb1043, 2, none⟩ = some (.int .i64 a0_2) := (yV BK1043.out 2).trans rfl; have hcz6_3 : w5.cell? ⟨gb1043, 3, none⟩ = some (.int .i64 a0_3) := (yV BK1043.out 3).trans rfl; have hfz6_0 := yW BK1043.out 0; have hfz6_1 := yW BK1043.out 1; have hfz6_2 := yW BK1043.out 2; have hfz6_3 := yW BK1043.out 3))
  go_ret
  exact ⟨by first | rfl | (simp [errW_none, errW_some] <;> rfl) | (simp [*, errW_none, errW_some] <;> rfl), by repeat (first | (with_reducible first | exact HB.out | apply yO | apply yN | apply yP | refine yQ ?_ GE1043.out) | exact HB.out)⟩

end Go.Proofs.Ytmkeicahnnlalaa.Q
