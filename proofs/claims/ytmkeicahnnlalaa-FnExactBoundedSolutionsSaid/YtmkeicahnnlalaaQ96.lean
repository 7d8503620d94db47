-- written by a program of this session
-- squeezed
-- compact
-- shrunk
import Derived.Deep.CutBlock
import Derived.Test.YtmkeicahnnlalaaQ0
import Derived.Test.YtmkeicahnnlalaaQ18
import Derived.Test.YtmkeicahnnlalaaQ87
import Derived.Test.YtmkeicahnnlalaaQ90
import Derived.Test.YtmkeicahnnlalaaQ95
namespace Go.Proofs.Ytmkeicahnnlalaa.Q
open Go.RowKit Go.Proofs.YtmkeicahnnlalaaW.PrintWords Go.Proofs.YtmkeicahnnlalaaW.PrintLast Go.Proofs.YtmkeicahnnlalaaW.PrintMore
set_option linter.unusedVariables false
set_option linter.unusedSimpArgs false

/-! ### impl_EvaluateFormula: function 65 -/
def impl_EvaluateFormula.l0 : Nat → Int → List (List Int) → List Int → List S71 → List Int → Int → V3 → Int → Option Bool
 | 0, _, _, _, _, _, _, _, _ => none
 | k + 1, s0, s1, s2, f, vs, most, v, i => if i < (vs.length : Int) then (if 0 ≤ i ∧ i < 3 then (if rd vs i < 0 then some false else if rd vs i > 60000 then some false else impl_EvaluateFormula.l0 k s0 s1 s2 f vs most (trS v i (rd vs i)) (wrap64 (i + 1))) else none) else (impl_tried.f k s0 s1 s2 f (wrap64 ((f.length : Int) - 1)) v most)
def impl_EvaluateFormula.f (k : Nat) (s0 : Int) (s1 : List (List Int)) (s2 : List Int) (f : List S71) (vs : List Int) (most : Int) : Option Bool := (impl_IsSequence.f k s0 s1 s2).bind fun b1 => if b1 = true then ((impl_IsFormula.f k f).bind fun b2 => if b2 = true then (if (vs.length : Int) = 3 then (if most < 0 then some false else (if most > 12 then some false else ((impl_DepthOf.f k f).bind fun d => if d > 3 then some false else impl_EvaluateFormula.l0 k s0 s1 s2 f vs most (0, 0, 0) 0))) else some false) else some false) else some false
theorem impl_EvaluateFormula.mono_l : ∀ k a b c d e f g h, LeO (impl_EvaluateFormula.l0 k a b c d e f g h) (impl_EvaluateFormula.l0 (k + 1) a b c d e f g h)
 | 0 => fun _ _ _ _ _ _ _ _ r h => by simp [impl_EvaluateFormula.l0] at h
 | k + 1 => by
  intro a b c d e f g h
  have ih := impl_EvaluateFormula.mono_l k
  unfold impl_EvaluateFormula.l0
  repeat' first
   | exact ih _ _ _ _ _ _ _ _
   | exact impl_tried.mono _ _ _ _ _ _ _ _
   | (with_reducible exact LeO.refl _)
   | exact LeO.none _
   | refine LeO.ite ?_ ?_
   | refine LeO.bind ?_ (fun _ => ?_)
theorem impl_EvaluateFormula.mono : ∀ a b c d e f k, LeO (impl_EvaluateFormula.f k a b c d e f) (impl_EvaluateFormula.f (k + 1) a b c d e f) := by
 intro a b c d e f k
 unfold impl_EvaluateFormula.f
 repeat' first
   | exact impl_IsSequence.mono _ _ _ _
   | exact impl_IsFormula.mono _ _
   | exact impl_DepthOf.mono _ _
   | exact impl_EvaluateFormula.mono_l _ _ _ _ _ _ _ _ _
   | (with_reducible exact LeO.refl _)
   | exact LeO.none _
   | refine LeO.ite ?_ ?_
   | refine LeO.bind ?_ (fun _ => ?_)
structure EvAt (w wr : World) (g : Nat) (q0 q1 q2 : Value) (v : V3) : Prop where
 seq : wr.heap[w.heap.size]? = some (.cells #[q0, q1, q2] 32 (0, 0))
 arr : wr.heap[g]? = some (.cells (trCells v) 104 (0, 0))
 lt : w.heap.size < g
 bel : Below w.heap.size w wr
structure EqAt (w wr : World) (q0 q1 q2 : Value) : Prop where
 seq : wr.heap[w.heap.size]? = some (.cells #[q0, q1, q2] 32 (0, 0))
 bel : Below w.heap.size w wr
theorem EqAt.start (w : World) (q0 q1 q2 : Value) : EqAt w (w.alloc (.cells #[q0, q1, q2] 32)) q0 q1 q2 := ⟨blk_new w _, yO (zV _ _) _⟩
section
variable {w wr w2 : World} {g : Nat} {q0 q1 q2 : Value} {v : V3}
theorem EqAt.below (H : EqAt w wr q0 q1 q2) (hb : Below wr.heap.size wr w2) : EqAt w w2 q0 q1 q2 := ⟨yU H.seq hb, below_then H.bel H.bel.size hb⟩
theorem EqAt.arr (H : EqAt w wr q0 q1 q2) : EvAt w (wr.alloc (.cells #[.int .i64 0, .int .i64 0, .int .i64 0] 104)) wr.heap.size q0 q1 q2 (0, 0, 0) :=
 ⟨yR H.seq _, blk_new wr _, zX H.seq, yO H.bel _⟩
theorem EvAt.set (H : EvAt w wr g q0 q1 q2 v) (j : Int) (h0 : 0 ≤ j) (h3 : j < 3) (y : Int) : EvAt w (wr.setCell ⟨g, j.toNat, none⟩ (.int .i64 y)) g q0 q1 q2 (trS v j y) := by
 refine ⟨blk_far H.seq (by have := H.lt; simp; omega) _, ?_, H.lt, H.bel.setCell (by have := H.lt; simp; omega) _⟩
 have := blk_set H.arr j.toNat (.int .i64 y)
 rwa [trCells_set v j h0 h3] at this
theorem EvAt.s0 (H : EvAt w wr g q0 q1 q2 v) : wr.cell? ⟨w.heap.size, 0, none⟩ = some q0 := yV H.seq 0
theorem EvAt.s1 (H : EvAt w wr g q0 q1 q2 v) : wr.cell? ⟨w.heap.size, 1, none⟩ = some q1 := yV H.seq 1
theorem EvAt.s2 (H : EvAt w wr g q0 q1 q2 v) : wr.cell? ⟨w.heap.size, 2, none⟩ = some q2 := yV H.seq 2
theorem EvAt.v0 (H : EvAt w wr g q0 q1 q2 v) : wr.cell? ⟨g, 0, none⟩ = some (.int .i64 v.1) := yV H.arr 0
theorem EvAt.v1 (H : EvAt w wr g q0 q1 q2 v) : wr.cell? ⟨g, 1, none⟩ = some (.int .i64 v.2.1) := yV H.arr 1
theorem EvAt.v2 (H : EvAt w wr g q0 q1 q2 v) : wr.cell? ⟨g, 2, none⟩ = some (.int .i64 v.2.2) := yV H.arr 2
theorem EvAt.c (H : EvAt w wr g q0 q1 q2 v) (j : Int) (h0 : 0 ≤ j) (h3 : j < 3) : wr.cell? ⟨g, j.toNat, none⟩ = some (.int .i64 (trG v j)) := by
 rw [yV H.arr, trCells_get v j h0 h3]
theorem EvAt.z (H : EvAt w wr g q0 q1 q2 v) (j : Nat) : wr.frozen? ⟨g, j, none⟩ = false := yW H.arr j
end
set_option maxHeartbeats 4000000 in
set_option maxRecDepth 100000 in
theorem impl_EvaluateFormula.no1 (k : Nat) (a0_0 : Int) (A0_1 : Option Addr) (c0_1 : Nat) (l0_1 : List (List Int)) (A0_2 : Option Addr) (c0_2 : Nat) (l0_2 : List Int) (A1 : Option Addr) (c1 : Nat) (l1 : List (S71)) (A2 : Option Addr) (c2 : Nat) (l2 : List Int) (a3 : Int) (w : World) (hr0_1 : Kd.C (Kd.slice 3 (Kd.int .i64)) w A0_1 l0_1.length l0_1) (hc0_1 : l0_1.length ≤ c0_1) (hr0_2 : Kd.C (Kd.int .i64) w A0_2 l0_2.length l0_2) (hc0_2 : l0_2.length ≤ c0_2) (hr1 : Kd.C k71 w A1 l1.length l1) (hc1 : l1.length ≤ c1) (hr2 : Kd.C (Kd.int .i64) w A2 l2.length l2) (hc2 : l2.length ≤ c2)
  (t1 : impl_IsSequence.f k a0_0 l0_1 l0_2 = some false) :
  Calls Try.prog 65 #[.agg #[.int .i64 a0_0, .slice A0_1 l0_1.length c0_1, .slice A0_2 l0_2.length c0_2], .slice A1 l1.length c1, .slice A2 l2.length c2, .int .i64 a3] w fun e w' => e = .returned (.bool false) ∧ Below w.heap.size w w' := by
 have hu42 := Try.underlying32
 have HR01 := yA hr0_1
 have HC01 := yA hc0_1
 have HR02 := yA hr0_2
 have HC02 := yA hc0_2
 have HR1 := yA hr1
 have HC1 := yA hc1
 have HR2 := yA hr2
 have HC2 := yA hc2
 clear hr0_1 hc0_1 hr0_2 hc0_2 hr1 hc1 hr2 hc2
 have T1 := yA t1
 clear t1
 have HE := yA (EqAt.start w (.int .i64 a0_0) (.slice A0_1 l0_1.length c0_1) (.slice A0_2 l0_2.length c0_2))
 go_enter Try.func65, Try.ntmps65
 go_wp2_with (first | (go_at_call 97; refine (impl_IsSequence.calls k a0_0 _ _ l0_1 _ _ l0_2 _ _ ?sa HC01.out ?sb HC02.out T1.out).mono ?_; (case sa => exact yM HR01.out HE.out.bel); (case sb => exact yM HR02.out HE.out.bel); rintro e w2 ⟨rfl, hb⟩; have HE2 := yA (HE.out.below hb); clear hb))
 go_ret
 exact ⟨rfl, HE2.out.bel⟩
set_option maxHeartbeats 4000000 in
set_option maxRecDepth 100000 in
theorem impl_EvaluateFormula.no2 (k : Nat) (a0_0 : Int) (A0_1 : Option Addr) (c0_1 : Nat) (l0_1 : List (List Int)) (A0_2 : Option Addr) (c0_2 : Nat) (l0_2 : List Int) (A1 : Option Addr) (c1 : Nat) (l1 : List (S71)) (A2 : Option Addr) (c2 : Nat) (l2 : List Int) (a3 : Int) (w : World) (hr0_1 : Kd.C (Kd.slice 3 (Kd.int .i64)) w A0_1 l0_1.length l0_1) (hc0_1 : l0_1.length ≤ c0_1) (hr0_2 : Kd.C (Kd.int .i64) w A0_2 l0_2.length l0_2) (hc0_2 : l0_2.length ≤ c0_2) (hr1 : Kd.C k71 w A1 l1.length l1) (hc1 : l1.length ≤ c1) (hr2 : Kd.C (Kd.int .i64) w A2 l2.length l2) (hc2 : l2.length ≤ c2)
  (t1 : impl_IsSequence.f k a0_0 l0_1 l0_2 = some true) (t2 : impl_IsFormula.f k l1 = some false) :
  Calls Try.prog 65 #[.agg #[.int .i64 a0_0, .slice A0_1 l0_1.length c0_1, .slice A0_2 l0_2.length c0_2], .slice A1 l1.length c1, .slice A2 l2.length c2, .int .i64 a3] w fun e w' => e = .returned (.bool false) ∧ Below w.heap.size w w' := by
 have hu42 := Try.underlying32
 have HR01 := yA hr0_1
 have HC01 := yA hc0_1
 have HR02 := yA hr0_2
 have HC02 := yA hc0_2
 have HR1 := yA hr1
 have HC1 := yA hc1
 have HR2 := yA hr2
 have HC2 := yA hc2
 clear hr0_1 hc0_1 hr0_2 hc0_2 hr1 hc1 hr2 hc2
 have T1 := yA t1
 have T2 := yA t2
 clear t1 t2
 have HE := yA (EqAt.start w (.int .i64 a0_0) (.slice A0_1 l0_1.length c0_1) (.slice A0_2 l0_2.length c0_2))
 go_enter Try.func65, Try.ntmps65
 go_wp2_with (first | (go_at_call 97; refine (impl_IsSequence.calls k a0_0 _ _ l0_1 _ _ l0_2 _ _ ?sa HC01.out ?sb HC02.out T1.out).mono ?_; (case sa => exact yM HR01.out HE.out.bel); (case sb => exact yM HR02.out HE.out.bel); rintro e w2 ⟨rfl, hb⟩; have HE2 := yA (HE.out.below hb); clear hb) | (go_at_call 98; refine (impl_IsFormula.calls k _ _ l1 _ _ ?sa HC1.out T2.out).mono ?_; (case sa => exact yM HR1.out HE2.out.bel); rintro e w3 ⟨rfl, hb⟩; have HE3 := yA (HE2.out.below hb); clear hb))
 go_ret
 exact ⟨rfl, HE3.out.bel⟩
set_option maxHeartbeats 4000000 in
set_option maxRecDepth 100000 in
theorem impl_EvaluateFormula.no3 (k : Nat) (a0_0 : Int) (A0_1 : Option Addr) (c0_1 : Nat) (l0_1 : List (List Int)) (A0_2 : Option Addr) (c0_2 : Nat) (l0_2 : List Int) (A1 : Option Addr) (c1 : Nat) (l1 : List (S71)) (A2 : Option Addr) (c2 : Nat) (l2 : List Int) (a3 : Int) (w : World) (hr0_1 : Kd.C (Kd.slice 3 (Kd.int .i64)) w A0_1 l0_1.length l0_1) (hc0_1 : l0_1.length ≤ c0_1) (hr0_2 : Kd.C (Kd.int .i64) w A0_2 l0_2.length l0_2) (hc0_2 : l0_2.length ≤ c0_2) (hr1 : Kd.C k71 w A1 l1.length l1) (hc1 : l1.length ≤ c1) (hr2 : Kd.C (Kd.int .i64) w A2 l2.length l2) (hc2 : l2.length ≤ c2)
  (t1 : impl_IsSequence.f k a0_0 l0_1 l0_2 = some true) (t2 : impl_IsFormula.f k l1 = some true) (h3 : ¬ (l2.length : Int) = 3) :
  Calls Try.prog 65 #[.agg #[.int .i64 a0_0, .slice A0_1 l0_1.length c0_1, .slice A0_2 l0_2.length c0_2], .slice A1 l1.length c1, .slice A2 l2.length c2, .int .i64 a3] w fun e w' => e = .returned (.bool false) ∧ Below w.heap.size w w' := by
 have hu42 := Try.underlying32
 have HR01 := yA hr0_1
 have HC01 := yA hc0_1
 have HR02 := yA hr0_2
 have HC02 := yA hc0_2
 have HR1 := yA hr1
 have HC1 := yA hc1
 have HR2 := yA hr2
 have HC2 := yA hc2
 clear hr0_1 hc0_1 hr0_2 hc0_2 hr1 hc1 hr2 hc2
 have T1 := yA t1
 have T2 := yA t2
 clear t1 t2
 have d3 : ((l2.length : Int) != 3) = true := by simpa using h3
 have HE := yA (EqAt.start w (.int .i64 a0_0) (.slice A0_1 l0_1.length c0_1) (.slice A0_2 l0_2.length c0_2))
 go_enter Try.func65, Try.ntmps65
 go_wp2_with (first | (go_at_call 97; refine (impl_IsSequence.calls k a0_0 _ _ l0_1 _ _ l0_2 _ _ ?sa HC01.out ?sb HC02.out T1.out).mono ?_; (case sa => exact yM HR01.out HE.out.bel); (case sb => exact yM HR02.out HE.out.bel); rintro e w2 ⟨rfl, hb⟩; have HE2 := yA (HE.out.below hb); clear hb) | (go_at_call 98; refine (impl_IsFormula.calls k _ _ l1 _ _ ?sa HC1.out T2.out).mono ?_; (case sa => exact yM HR1.out HE2.out.bel); rintro e w3 ⟨rfl, hb⟩; have HE3 := yA (HE2.out.below hb); clear hb))
 go_ret
 exact ⟨rfl, HE3.out.bel⟩
set_option maxHeartbeats 4000000 in
set_option maxRecDepth 100000 in
theorem impl_EvaluateFormula.no4 (k : Nat) (a0_0 : Int) (A0_1 : Option Addr) (c0_1 : Nat) (l0_1 : List (List Int)) (A0_2 : Option Addr) (c0_2 : Nat) (l0_2 : List Int) (A1 : Option Addr) (c1 : Nat) (l1 : List (S71)) (A2 : Option Addr) (c2 : Nat) (l2 : List Int) (a3 : Int) (w : World) (hr0_1 : Kd.C (Kd.slice 3 (Kd.int .i64)) w A0_1 l0_1.length l0_1) (hc0_1 : l0_1.length ≤ c0_1) (hr0_2 : Kd.C (Kd.int .i64) w A0_2 l0_2.length l0_2) (hc0_2 : l0_2.length ≤ c0_2) (hr1 : Kd.C k71 w A1 l1.length l1) (hc1 : l1.length ≤ c1) (hr2 : Kd.C (Kd.int .i64) w A2 l2.length l2) (hc2 : l2.length ≤ c2)
  (t1 : impl_IsSequence.f k a0_0 l0_1 l0_2 = some true) (t2 : impl_IsFormula.f k l1 = some true) (h3 : (l2.length : Int) = 3) (h4 : a3 < 0) :
  Calls Try.prog 65 #[.agg #[.int .i64 a0_0, .slice A0_1 l0_1.length c0_1, .slice A0_2 l0_2.length c0_2], .slice A1 l1.length c1, .slice A2 l2.length c2, .int .i64 a3] w fun e w' => e = .returned (.bool false) ∧ Below w.heap.size w w' := by
 have hu42 := Try.underlying32
 have HR01 := yA hr0_1
 have HC01 := yA hc0_1
 have HR02 := yA hr0_2
 have HC02 := yA hc0_2
 have HR1 := yA hr1
 have HC1 := yA hc1
 have HR2 := yA hr2
 have HC2 := yA hc2
 clear hr0_1 hc0_1 hr0_2 hc0_2 hr1 hc1 hr2 hc2
 have T1 := yA t1
 have T2 := yA t2
 clear t1 t2
 have d3 : ((l2.length : Int) != 3) = false := by simpa using h3
 replace h4 := eq_true h4
 have HE := yA (EqAt.start w (.int .i64 a0_0) (.slice A0_1 l0_1.length c0_1) (.slice A0_2 l0_2.length c0_2))
 go_enter Try.func65, Try.ntmps65
 go_wp2_with (first | (go_at_call 97; refine (impl_IsSequence.calls k a0_0 _ _ l0_1 _ _ l0_2 _ _ ?sa HC01.out ?sb HC02.out T1.out).mono ?_; (case sa => exact yM HR01.out HE.out.bel); (case sb => exact yM HR02.out HE.out.bel); rintro e w2 ⟨rfl, hb⟩; have HE2 := yA (HE.out.below hb); clear hb) | (go_at_call 98; refine (impl_IsFormula.calls k _ _ l1 _ _ ?sa HC1.out T2.out).mono ?_; (case sa => exact yM HR1.out HE2.out.bel); rintro e w3 ⟨rfl, hb⟩; have HE3 := yA (HE2.out.below hb); clear hb))
 go_ret
 exact ⟨rfl, HE3.out.bel⟩
set_option maxHeartbeats 4000000 in
set_option maxRecDepth 100000 in
theorem impl_EvaluateFormula.no5 (k : Nat) (a0_0 : Int) (A0_1 : Option Addr) (c0_1 : Nat) (l0_1 : List (List Int)) (A0_2 : Option Addr) (c0_2 : Nat) (l0_2 : List Int) (A1 : Option Addr) (c1 : Nat) (l1 : List (S71)) (A2 : Option Addr) (c2 : Nat) (l2 : List Int) (a3 : Int) (w : World) (hr0_1 : Kd.C (Kd.slice 3 (Kd.int .i64)) w A0_1 l0_1.length l0_1) (hc0_1 : l0_1.length ≤ c0_1) (hr0_2 : Kd.C (Kd.int .i64) w A0_2 l0_2.length l0_2) (hc0_2 : l0_2.length ≤ c0_2) (hr1 : Kd.C k71 w A1 l1.length l1) (hc1 : l1.length ≤ c1) (hr2 : Kd.C (Kd.int .i64) w A2 l2.length l2) (hc2 : l2.length ≤ c2)
  (t1 : impl_IsSequence.f k a0_0 l0_1 l0_2 = some true) (t2 : impl_IsFormula.f k l1 = some true) (h3 : (l2.length : Int) = 3) (h4 : ¬ a3 < 0) (h5 : a3 > 12) :
  Calls Try.prog 65 #[.agg #[.int .i64 a0_0, .slice A0_1 l0_1.length c0_1, .slice A0_2 l0_2.length c0_2], .slice A1 l1.length c1, .slice A2 l2.length c2, .int .i64 a3] w fun e w' => e = .returned (.bool false) ∧ Below w.heap.size w w' := by
 have hu42 := Try.underlying32
 have HR01 := yA hr0_1
 have HC01 := yA hc0_1
 have HR02 := yA hr0_2
 have HC02 := yA hc0_2
 have HR1 := yA hr1
 have HC1 := yA hc1
 have HR2 := yA hr2
 have HC2 := yA hc2
 clear hr0_1 hc0_1 hr0_2 hc0_2 hr1 hc1 hr2 hc2
 have T1 := yA t1
 have T2 := yA t2
 clear t1 t2
 have d3 : ((l2.length : Int) != 3) = false := by simpa using h3
 replace h4 := eq_false h4
 have h5b : (12 < a3) = True := eq_true h5
 have HE := yA (EqAt.start w (.int .i64 a0_0) (.slice A0_1 l0_1.length c0_1) (.slice A0_2 l0_2.length c0_2))
 go_enter Try.func65, Try.ntmps65
 go_wp2_with (first | (go_at_call 97; refine (impl_IsSequence.calls k a0_0 _ _ l0_1 _ _ l0_2 _ _ ?sa HC01.out ?sb HC02.out T1.out).mono ?_; (case sa => exact yM HR01.out HE.out.bel); (case sb => exact yM HR02.out HE.out.bel); rintro e w2 ⟨rfl, hb⟩; have HE2 := yA (HE.out.below hb); clear hb) | (go_at_call 98; refine (impl_IsFormula.calls k _ _ l1 _ _ ?sa HC1.out T2.out).mono ?_; (case sa => exact yM HR1.out HE2.out.bel); rintro e w3 ⟨rfl, hb⟩; have HE3 := yA (HE2.out.below hb); clear hb))
 go_ret
 exact ⟨rfl, HE3.out.bel⟩
set_option maxHeartbeats 4000000 in
set_option maxRecDepth 100000 in
theorem impl_EvaluateFormula.no6 (k : Nat) (a0_0 : Int) (A0_1 : Option Addr) (c0_1 : Nat) (l0_1 : List (List Int)) (A0_2 : Option Addr) (c0_2 : Nat) (l0_2 : List Int) (A1 : Option Addr) (c1 : Nat) (l1 : List (S71)) (A2 : Option Addr) (c2 : Nat) (l2 : List Int) (a3 : Int) (w : World) (hr0_1 : Kd.C (Kd.slice 3 (Kd.int .i64)) w A0_1 l0_1.length l0_1) (hc0_1 : l0_1.length ≤ c0_1) (hr0_2 : Kd.C (Kd.int .i64) w A0_2 l0_2.length l0_2) (hc0_2 : l0_2.length ≤ c0_2) (hr1 : Kd.C k71 w A1 l1.length l1) (hc1 : l1.length ≤ c1) (hr2 : Kd.C (Kd.int .i64) w A2 l2.length l2) (hc2 : l2.length ≤ c2)
  (t1 : impl_IsSequence.f k a0_0 l0_1 l0_2 = some true) (t2 : impl_IsFormula.f k l1 = some true) (h3 : (l2.length : Int) = 3) (h4 : ¬ a3 < 0) (h5 : ¬ a3 > 12) (d : Int) (t3 : impl_DepthOf.f k l1 = some d) (h6 : d > 3) :
  Calls Try.prog 65 #[.agg #[.int .i64 a0_0, .slice A0_1 l0_1.length c0_1, .slice A0_2 l0_2.length c0_2], .slice A1 l1.length c1, .slice A2 l2.length c2, .int .i64 a3] w fun e w' => e = .returned (.bool false) ∧ Below w.heap.size w w' := by
 have hu42 := Try.underlying32
 have HR01 := yA hr0_1
 have HC01 := yA hc0_1
 have HR02 := yA hr0_2
 have HC02 := yA hc0_2
 have HR1 := yA hr1
 have HC1 := yA hc1
 have HR2 := yA hr2
 have HC2 := yA hc2
 clear hr0_1 hc0_1 hr0_2 hc0_2 hr1 hc1 hr2 hc2
 have T1 := yA t1
 have T2 := yA t2
 clear t1 t2
 have d3 : ((l2.length : Int) != 3) = false := by simpa using h3
 replace h4 := eq_false h4
 have h5b : (12 < a3) = False := eq_false h5
 have T3 := yA t3
 clear t3
 have h6b : (3 < d) = True := eq_true h6
 have HE := yA (EqAt.start w (.int .i64 a0_0) (.slice A0_1 l0_1.length c0_1) (.slice A0_2 l0_2.length c0_2))
 go_enter Try.func65, Try.ntmps65
 go_wp2_with (first | (go_at_call 97; refine (impl_IsSequence.calls k a0_0 _ _ l0_1 _ _ l0_2 _ _ ?sa HC01.out ?sb HC02.out T1.out).mono ?_; (case sa => exact yM HR01.out HE.out.bel); (case sb => exact yM HR02.out HE.out.bel); rintro e w2 ⟨rfl, hb⟩; have HE2 := yA (HE.out.below hb); clear hb) | (go_at_call 98; refine (impl_IsFormula.calls k _ _ l1 _ _ ?sa HC1.out T2.out).mono ?_; (case sa => exact yM HR1.out HE2.out.bel); rintro e w3 ⟨rfl, hb⟩; have HE3 := yA (HE2.out.below hb); clear hb) | (go_at_call 99; refine (impl_DepthOf.calls k _ _ l1 _ _ ?sa HC1.out T3.out).mono ?_; (case sa => exact yM HR1.out HE3.out.bel); rintro e w4 ⟨rfl, hb⟩; have HE4 := yA (HE3.out.below hb); clear hb))
 go_ret
 exact ⟨rfl, HE4.out.bel⟩
set_option maxHeartbeats 4000000 in
set_option maxRecDepth 100000 in
theorem impl_EvaluateFormula.yes (k : Nat) (a0_0 : Int) (A0_1 : Option Addr) (c0_1 : Nat) (l0_1 : List (List Int)) (A0_2 : Option Addr) (c0_2 : Nat) (l0_2 : List Int) (A1 : Option Addr) (c1 : Nat) (l1 : List (S71)) (A2 : Option Addr) (c2 : Nat) (l2 : List Int) (a3 : Int) (r : Bool) (w : World) (hr0_1 : Kd.C (Kd.slice 3 (Kd.int .i64)) w A0_1 l0_1.length l0_1) (hc0_1 : l0_1.length ≤ c0_1) (hr0_2 : Kd.C (Kd.int .i64) w A0_2 l0_2.length l0_2) (hc0_2 : l0_2.length ≤ c0_2) (hr1 : Kd.C k71 w A1 l1.length l1) (hc1 : l1.length ≤ c1) (hr2 : Kd.C (Kd.int .i64) w A2 l2.length l2) (hc2 : l2.length ≤ c2)
  (t1 : impl_IsSequence.f k a0_0 l0_1 l0_2 = some true) (t2 : impl_IsFormula.f k l1 = some true) (h3 : (l2.length : Int) = 3) (h4 : ¬ a3 < 0) (h5 : ¬ a3 > 12) (d : Int) (t3 : impl_DepthOf.f k l1 = some d) (h6 : ¬ d > 3) (hl : impl_EvaluateFormula.l0 k a0_0 l0_1 l0_2 l1 l2 a3 (0, 0, 0) 0 = some r) :
  Calls Try.prog 65 #[.agg #[.int .i64 a0_0, .slice A0_1 l0_1.length c0_1, .slice A0_2 l0_2.length c0_2], .slice A1 l1.length c1, .slice A2 l2.length c2, .int .i64 a3] w fun e w' => e = .returned (.bool r) ∧ Below w.heap.size w w' := by
 have hu42 := Try.underlying32
 have HR01 := yA hr0_1
 have HC01 := yA hc0_1
 have HR02 := yA hr0_2
 have HC02 := yA hc0_2
 have HR1 := yA hr1
 have HC1 := yA hc1
 have HR2 := yA hr2
 have HC2 := yA hc2
 clear hr0_1 hc0_1 hr0_2 hc0_2 hr1 hc1 hr2 hc2
 have T1 := yA t1
 have T2 := yA t2
 clear t1 t2
 have d3 : ((l2.length : Int) != 3) = false := by simpa using h3
 replace h4 := eq_false h4
 have h5b : (12 < a3) = False := eq_false h5
 have T3 := yA t3
 clear t3
 have h6b : (3 < d) = False := eq_false h6
 have HL := yA hl
 clear hl
 have HE := yA (EqAt.start w (.int .i64 a0_0) (.slice A0_1 l0_1.length c0_1) (.slice A0_2 l0_2.length c0_2))
 go_enter Try.func65, Try.ntmps65
 go_wp2_with (first | (go_at_call 97; refine (impl_IsSequence.calls k a0_0 _ _ l0_1 _ _ l0_2 _ _ ?sa HC01.out ?sb HC02.out T1.out).mono ?_; (case sa => exact yM HR01.out HE.out.bel); (case sb => exact yM HR02.out HE.out.bel); rintro e w2 ⟨rfl, hb⟩; have HE2 := yA (HE.out.below hb); clear hb) | (go_at_call 98; refine (impl_IsFormula.calls k _ _ l1 _ _ ?sa HC1.out T2.out).mono ?_; (case sa => exact yM HR1.out HE2.out.bel); rintro e w3 ⟨rfl, hb⟩; have HE3 := yA (HE2.out.below hb); clear hb) | (go_at_call 99; refine (impl_DepthOf.calls k _ _ l1 _ _ ?sa HC1.out T3.out).mono ?_; (case sa => exact yM HR1.out HE3.out.bel); rintro e w4 ⟨rfl, hb⟩; have HE4 := yA (HE3.out.below hb); clear hb))
 clear HE HE2 HE3 T1 T2 T3
 have HV := yA HE4.out.arr
 clear HE4
 generalize w4.heap.size = gb at HV ⊢
 go_loopg [41] k (fun kq v41 w' => ∃ (i : Int) (vv : V3), v41 = .int .i64 i ∧ Aside0 (impl_EvaluateFormula.l0 kq a0_0 l0_1 l0_2 l1 l2 a3 vv i = some r) ∧ Aside0 (kq ≤ k) ∧ Aside0 (EvAt w w' gb (.int .i64 a0_0) (.slice A0_1 l0_1.length c0_1) (.slice A0_2 l0_2.length c0_2) vv))
 case atStart => exact ⟨0, (0, 0, 0), rfl, HL, ⟨zT _⟩, HV⟩
 case round =>
  clear HL HV
  obtain ⟨i, vv, rfl, HA, HK1, HV⟩ := hrel
  cases gk with
  | zero => exact absurd HA.out (by simp [impl_EvaluateFormula.l0])
  | succ k1 =>
   have H := HA.out
   clear HA
   simp only [impl_EvaluateFormula.l0] at H
   by_cases c1 : i < (l2.length : Int)
   ·rw [if_pos c1] at H
    by_cases c2 : 0 ≤ i ∧ i < 3
    case neg => rw [if_neg c2] at H; exact absurd H (by simp)
    rw [if_pos c2] at H
    obtain ⟨q1, q2⟩ := c2
    obtain ⟨ad, e2, hx⟩ := Kd.at_int HR2.out i q1 c1
    cases e2
    replace hx := (HV.out.bel.cell (zE w _ hx)).trans hx
    have kk := HV.out.c i q1 q2
    have zz := HV.out.z i.toNat
    by_cases c3 : rd l2 i < 0
    ·rw [if_pos c3] at H
     obtain rfl := zU H
     replace c3 := eq_true c3
     replace q1 := eq_true q1
     replace c1 := eq_true c1
     go_wp2
     go_ret
     exact ⟨rfl, HV.out.bel⟩
    ·rw [if_neg c3] at H
     by_cases c4 : rd l2 i > 60000
     ·rw [if_pos c4] at H
      obtain rfl := zU H
      replace c3 := eq_false c3
      have c4b : (60000 < rd l2 i) = True := eq_true c4
      replace q1 := eq_true q1
      replace c1 := eq_true c1
      go_wp2
      go_ret
      exact ⟨rfl, HV.out.bel⟩
     ·rw [if_neg c4] at H
      have HS := yA (HV.out.set i q1 q2 (rd l2 i))
      have H := yA H
      replace c3 := eq_false c3
      have c4b : (60000 < rd l2 i) = False := eq_false c4
      replace q1 := eq_true q1
      replace q2 := eq_true q2
      replace c1 := eq_true c1
      go_wp2
      go_roundg k1
      case measure => have := HK1.out; omega
      case rel => exact ⟨wrap64 (i + 1), trS vv i (rd l2 i), rfl, H, ⟨by have := HK1.out; omega⟩, HS⟩
   ·rw [if_neg c1] at H
    have HT := yA H
    clear H
    have c1b : (i < 3) = False := eq_false (by omega)
    replace c1 := eq_false c1
    have s0 := HV.out.s0
    have s1 := HV.out.s1
    have s2 := HV.out.s2
    have v0 := HV.out.v0
    have v1 := HV.out.v1
    have v2 := HV.out.v2
    go_wp2_with ((go_at_call 100; refine (impl_tried.calls _ a0_0 _ _ l0_1 _ _ l0_2 _ _ l1 _ vv a3 _ _ ?sa HC01.out ?sb HC02.out ?sc HC1.out HT.out).mono ?_; (case sa => exact yM HR01.out HV.out.bel); (case sb => exact yM HR02.out HV.out.bel); (case sc => exact yM HR1.out HV.out.bel); rintro e w7 ⟨rfl, hb⟩; have HB7 := yA (below_then HV.out.bel HV.out.bel.size hb); clear hb))
    go_ret
    exact ⟨rfl, HB7.out⟩
theorem impl_EvaluateFormula.calls (k : Nat) (a0_0 : Int) (A0_1 : Option Addr) (c0_1 : Nat) (l0_1 : List (List Int)) (A0_2 : Option Addr) (c0_2 : Nat) (l0_2 : List Int) (A1 : Option Addr) (c1 : Nat) (l1 : List (S71)) (A2 : Option Addr) (c2 : Nat) (l2 : List Int) (a3 : Int) (r : Bool) (w : World) (hr0_1 : Kd.C (Kd.slice 3 (Kd.int .i64)) w A0_1 l0_1.length l0_1) (hc0_1 : l0_1.length ≤ c0_1) (hr0_2 : Kd.C (Kd.int .i64) w A0_2 l0_2.length l0_2) (hc0_2 : l0_2.length ≤ c0_2) (hr1 : Kd.C k71 w A1 l1.length l1) (hc1 : l1.length ≤ c1) (hr2 : Kd.C (Kd.int .i64) w A2 l2.length l2) (hc2 : l2.length ≤ c2) (h : impl_EvaluateFormula.f k a0_0 l0_1 l0_2 l1 l2 a3 = some r) :
  Calls Try.prog 65 #[.agg #[.int .i64 a0_0, .slice A0_1 l0_1.length c0_1, .slice A0_2 l0_2.length c0_2], .slice A1 l1.length c1, .slice A2 l2.length c2, .int .i64 a3] w fun e w' => e = .returned (.bool r) ∧ Below w.heap.size w w' := by
 unfold impl_EvaluateFormula.f at h
 obtain ⟨b1, t1, h⟩ := Option.bind_eq_some_iff.1 h
 cases b1 with
 | false =>
  rw [if_neg (by decide)] at h
  obtain rfl := zU h
  exact impl_EvaluateFormula.no1 k a0_0 A0_1 c0_1 l0_1 A0_2 c0_2 l0_2 A1 c1 l1 A2 c2 l2 a3 w hr0_1 hc0_1 hr0_2 hc0_2 hr1 hc1 hr2 hc2 t1
 | true =>
 rw [if_pos rfl] at h
 obtain ⟨b2, t2, h⟩ := Option.bind_eq_some_iff.1 h
 cases b2 with
 | false =>
  rw [if_neg (by decide)] at h
  obtain rfl := zU h
  exact impl_EvaluateFormula.no2 k a0_0 A0_1 c0_1 l0_1 A0_2 c0_2 l0_2 A1 c1 l1 A2 c2 l2 a3 w hr0_1 hc0_1 hr0_2 hc0_2 hr1 hc1 hr2 hc2 t1 t2
 | true =>
 rw [if_pos rfl] at h
 by_cases h3 : (l2.length : Int) = 3
 case neg =>
  rw [if_neg h3] at h
  obtain rfl := zU h
  exact impl_EvaluateFormula.no3 k a0_0 A0_1 c0_1 l0_1 A0_2 c0_2 l0_2 A1 c1 l1 A2 c2 l2 a3 w hr0_1 hc0_1 hr0_2 hc0_2 hr1 hc1 hr2 hc2 t1 t2 h3
 rw [if_pos h3] at h
 by_cases h4 : a3 < 0
 ·rw [if_pos h4] at h
  obtain rfl := zU h
  exact impl_EvaluateFormula.no4 k a0_0 A0_1 c0_1 l0_1 A0_2 c0_2 l0_2 A1 c1 l1 A2 c2 l2 a3 w hr0_1 hc0_1 hr0_2 hc0_2 hr1 hc1 hr2 hc2 t1 t2 h3 h4
 rw [if_neg h4] at h
 by_cases h5 : a3 > 12
 ·rw [if_pos h5] at h
  obtain rfl := zU h
  exact impl_EvaluateFormula.no5 k a0_0 A0_1 c0_1 l0_1 A0_2 c0_2 l0_2 A1 c1 l1 A2 c2 l2 a3 w hr0_1 hc0_1 hr0_2 hc0_2 hr1 hc1 hr2 hc2 t1 t2 h3 h4 h5
 rw [if_neg h5] at h
 obtain ⟨d, t3, h⟩ := Option.bind_eq_some_iff.1 h
 by_cases h6 : d > 3
 ·rw [if_pos h6] at h
  obtain rfl := zU h
  exact impl_EvaluateFormula.no6 k a0_0 A0_1 c0_1 l0_1 A0_2 c0_2 l0_2 A1 c1 l1 A2 c2 l2 a3 w hr0_1 hc0_1 hr0_2 hc0_2 hr1 hc1 hr2 hc2 t1 t2 h3 h4 h5 d t3 h6
 rw [if_neg h6] at h
 exact impl_EvaluateFormula.yes k a0_0 A0_1 c0_1 l0_1 A0_2 c0_2 l0_2 A1 c1 l1 A2 c2 l2 a3 r w hr0_1 hc0_1 hr0_2 hc0_2 hr1 hc1 hr2 hc2 t1 t2 h3 h4 h5 d t3 h6 h

end Go.Proofs.Ytmkeicahnnlalaa.Q
