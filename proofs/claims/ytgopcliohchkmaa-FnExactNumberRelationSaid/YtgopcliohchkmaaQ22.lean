-- written by a program of this session
-- squeezed
-- compact
-- shrunk
import Derived.Test.YtgopcliohchkmaaQ0
import Derived.Test.YtgopcliohchkmaaQ1
import Derived.Test.YtgopcliohchkmaaQ21
namespace Go.Proofs.Ytgopcliohchkmaa.Q
open Go.RowKit Go.Proofs.YtgopcliohchkmaaW.PrintWords Go.Proofs.YtgopcliohchkmaaW.PrintLast Go.Proofs.YtgopcliohchkmaaW.PrintMore
set_option linter.unusedVariables false
set_option linter.unusedSimpArgs false

/-! ### spec_NumberRelation: function 20 -/
mutual
def spec_NumberRelation.j0 : Nat → Int → Int → Bool → Option (Int × Int × (List (List Int)) × List Bool × Bool)
 | 0, _, _, _ => none
 | k + 1, x0, x1, x19 => if x19 = true then (some (0, 0, ([] : List (List Int)), ([] : List Bool), false)) else ((spec_DigitsOf.f k x1 x0).bind fun t166 => (spec_NumberRelation.l0 k x0 t166 (wrap64 ((t166.length : Int) + 1)) 0 x0 1 ([] : List (List Int)) ([] : List Bool)))
def spec_NumberRelation.l0 : Nat → Int → List Int → Int → Int → Int → Int → List (List Int) → List Bool → Option (Int × Int × (List (List Int)) × List Bool × Bool)
 | 0, _, _, _, _, _, _, _, _ => none
 | k + 1, x0, x6, x8, x9, x170000, x170001, x170002, x170003 => if x9 ≤ x8 then (spec_NumberRelation.l1 k x0 x6 x8 x9 (([] : List Int)) 0 x170000 x170001 x170002 x170003) else (some (x170000, x170001, x170002, x170003, true))
def spec_NumberRelation.l1 : Nat → Int → List Int → Int → Int → List Int → Int → Int → Int → List (List Int) → List Bool → Option (Int × Int × (List (List Int)) × List Bool × Bool)
 | 0, _, _, _, _, _, _, _, _, _, _ => none
 | k + 1, x0, x6, x8, x9, x10, x11, x170000, x170001, x170002, x170003 => if x11 < x0 then (if x9 = 0 then (spec_NumberRelation.j3 k x0 x6 x8 x9 x10 x11 (x11 == 0) x170000 x170001 x170002 x170003) else (spec_NumberRelation.j3 k x0 x6 x8 x9 x10 x11 false x170000 x170001 x170002 x170003)) else (if x170002.length < 5864062014805 then (if x170003.length < 140737488355328 then (spec_NumberRelation.l0 k x0 x6 x8 (wrap64 (x9 + 1)) x170000 x170001 (x170002 ++ [x10]) (x170003 ++ [(x9 == (x6.length : Int))])) else (none)) else (none))
def spec_NumberRelation.j3 : Nat → Int → List Int → Int → Int → List Int → Int → Bool → Int → Int → List (List Int) → List Bool → Option (Int × Int × (List (List Int)) × List Bool × Bool)
 | 0, _, _, _, _, _, _, _, _, _, _, _ => none
 | k + 1, x0, x6, x8, x9, x10, x11, x44, x170000, x170001, x170002, x170003 => if x44 = true then (if x10.length < 17592186044416 then (spec_NumberRelation.l1 k x0 x6 x8 x9 (x10 ++ [0]) (wrap64 (x11 + 1)) x170000 x170001 x170002 x170003) else (none)) else (if x9 < (x6.length : Int) then (if 0 ≤ x9 then (if x11 = (rd x6 x9) then (if x10.length < 17592186044416 then (spec_NumberRelation.l1 k x0 x6 x8 x9 (x10 ++ [wrap64 (x9 + 1)]) (wrap64 (x11 + 1)) x170000 x170001 x170002 x170003) else (none)) else (if x10.length < 17592186044416 then (spec_NumberRelation.l1 k x0 x6 x8 x9 (x10 ++ [x8]) (wrap64 (x11 + 1)) x170000 x170001 x170002 x170003) else (none))) else (none)) else (if x10.length < 17592186044416 then (spec_NumberRelation.l1 k x0 x6 x8 x9 (x10 ++ [x8]) (wrap64 (x11 + 1)) x170000 x170001 x170002 x170003) else (none)))
end
def spec_NumberRelation.f (k : Nat) (a0 : Int) (a1 : Int) : Option (Int × Int × (List (List Int)) × List Bool × Bool) := (spec_l1In.f a0 2 3).bind fun t164 => (if t164 = true then ((spec_l1In.f a1 0 255).bind fun t165 => (spec_NumberRelation.j0 k a0 a1 (!t165))) else (spec_NumberRelation.j0 k a0 a1 true))
theorem spec_NumberRelation.mono_l : ∀ k, (∀ y0 y1 y2, LeO (spec_NumberRelation.j0 k y0 y1 y2) (spec_NumberRelation.j0 (k + 1) y0 y1 y2)) ∧ (∀ y0 y1 y2 y3 y4 y5 y6 y7, LeO (spec_NumberRelation.l0 k y0 y1 y2 y3 y4 y5 y6 y7) (spec_NumberRelation.l0 (k + 1) y0 y1 y2 y3 y4 y5 y6 y7)) ∧ (∀ y0 y1 y2 y3 y4 y5 y6 y7 y8 y9, LeO (spec_NumberRelation.l1 k y0 y1 y2 y3 y4 y5 y6 y7 y8 y9) (spec_NumberRelation.l1 (k + 1) y0 y1 y2 y3 y4 y5 y6 y7 y8 y9)) ∧ (∀ y0 y1 y2 y3 y4 y5 y6 y7 y8 y9 y10, LeO (spec_NumberRelation.j3 k y0 y1 y2 y3 y4 y5 y6 y7 y8 y9 y10) (spec_NumberRelation.j3 (k + 1) y0 y1 y2 y3 y4 y5 y6 y7 y8 y9 y10))
 | 0 => ⟨fun _ _ _ r h => by simp [spec_NumberRelation.j0] at h, fun _ _ _ _ _ _ _ _ r h => by simp [spec_NumberRelation.l0] at h, fun _ _ _ _ _ _ _ _ _ _ r h => by simp [spec_NumberRelation.l1] at h, fun _ _ _ _ _ _ _ _ _ _ _ r h => by simp [spec_NumberRelation.j3] at h⟩
 | k + 1 => by
  obtain ⟨ih0, ih1, ih2, ih3⟩ := spec_NumberRelation.mono_l k
  refine ⟨?_, ?_, ?_, ?_⟩ <;> intros <;> first | unfold spec_NumberRelation.j0 | unfold spec_NumberRelation.l0 | unfold spec_NumberRelation.l1 | unfold spec_NumberRelation.j3
  all_goals repeat' (with_reducible first | exact ih0 _ _ _ | exact ih1 _ _ _ _ _ _ _ _ | exact ih2 _ _ _ _ _ _ _ _ _ _ | exact ih3 _ _ _ _ _ _ _ _ _ _ _ | exact spec_DigitsOf.mono _ _ _ | exact LeO.refl _ | exact LeO.none _ | refine LeO.ite ?_ ?_ | refine LeO.bind ?_ fun _ => ?_)
theorem spec_NumberRelation.mono : ∀ a0 a1 k, LeO (spec_NumberRelation.f k a0 a1) (spec_NumberRelation.f (k + 1) a0 a1) := by
 intro a0 a1 k
 obtain ⟨ih0, ih1, ih2, ih3⟩ := spec_NumberRelation.mono_l k
 unfold spec_NumberRelation.f
 repeat' (with_reducible first | exact ih0 _ _ _ | exact ih1 _ _ _ _ _ _ _ _ | exact ih2 _ _ _ _ _ _ _ _ _ _ | exact ih3 _ _ _ _ _ _ _ _ _ _ _ | exact spec_DigitsOf.mono _ _ _ | exact LeO.refl _ | exact LeO.none _ | refine LeO.ite ?_ ?_ | refine LeO.bind ?_ fun _ => ?_)
set_option maxHeartbeats 8000000 in
set_option maxRecDepth 100000 in
theorem spec_NumberRelation.calls (k : Nat) (a0 : Int) (a1 : Int) (r1 : Int) (r2 : Int) (r3 : List (List Int)) (r4 : List Bool) (r5 : Bool) (w : World) (h : spec_NumberRelation.f k a0 a1 = some (r1, r2, r3, r4, r5)) :
  Calls Try.prog 20 #[.int .i64 a0, .int .i64 a1] w fun e w' => ∃ v2_ v3_ : Value, e = .returned (.tuple #[.agg #[.int .i64 r1, .int .i64 r2, v2_, v3_], .bool r5]) ∧ Kd.S (Kd.slice 3 (Kd.int .i64)) 38 w' w.heap.size (fun _ => True) v2_ r3 ∧ Kd.R Kd.bool 4 w' w.heap.size (fun _ => True) v3_ r4 ∧ Below w.heap.size w w' := by
 have hu25 := Try.underlying25
 have HB := yA (zV w.heap.size w)
 have H : ((spec_l1In.f a0 2 3).bind fun t164 => (if t164 = true then ((spec_l1In.f a1 0 255).bind fun t165 => (spec_NumberRelation.j0 k a0 a1 (!t165))) else (spec_NumberRelation.j0 k a0 a1 true))) = some (r1, r2, r3, r4, r5) := h
 clear h
 have HC3 := yA H
 clear H
 go_enter Try.func20, Try.ntmps20
 go_upto_region 1 with (first | ((with_reducible refine gate_dst (N := 4) rfl ?_); refine box_event ?hg (N := 4) ?hd (cs := #[.int .i64 0, .int .i64 0, .slice none 0 0, .slice none 0 0]) (t := 25) ?hr ?_; (case hd => rfl); (case hg => rfl); (case hr => first | (go_simp; done) | (go_simp; rfl)); intro gb163 hg w4 hbox hb; have BK163 := yA (hbox); have GW163 := yA ((by rw [hg]; exact (yX (mB HB.out)) : w.heap.size ≤ gb163)); have GE163 := yA ((by rw [hg]; exact (yX (mB HB.out)) : w.heap.size ≤ gb163)); replace HB := yA (zD (mB HB.out) hb); clear hb hbox hg))
 (try simp only [Act.put, zA, zB, zC])
 go_cut [19] (fun v19 wc => ∃ (kq : Nat) (x19_2 : Bool), v19 = .bool x19_2 ∧ Aside0 (spec_NumberRelation.j0 kq a0 a1 x19_2 = some (r1, r2, r3, r4, r5)) ∧ Aside0 (kq ≤ k) ∧ Aside0 (wc.heap[gb163]? = some (.cells #[.int .i64 0, .int .i64 0, (.slice none 0 0), (.slice none 0 0)] 25 (0, 0))) ∧ Aside0 (Below w.heap.size w wc))
 case first =>
  have H := HC3.out
  clear HC3
  obtain ⟨t164, A5, H⟩ := bE H
  by_cases c6 : t164 = true
  ·subst c6
   replace H := iT H
   obtain ⟨t165, A7, H⟩ := bE H
   have H' := yA H
   clear H
   go_wp2_with (first | ((with_reducible refine zS (f := 51) rfl ?_); refine goesL_ (some 13) rfl rfl Try.func51 (by kernel_rfl) rfl #[.int .i64 a0, .int .i64 2, .int .i64 3] rfl (by (try simp only [zI, zJ, zK]); first | done | rfl | (simp only [zL, zM]; rfl)) ?_; (with_reducible refine (spec_l1In.calls a0 2 3 true _ A5.out).mono ?_); rintro e w' ⟨rfl, ⟨nd, rfl⟩⟩; refine ⟨_, rfl, ?_⟩) | (go_at_call 51; (with_reducible refine (spec_l1In.calls a1 0 255 t165 _ A7.out).mono ?_); rintro e w' ⟨rfl, ⟨nd, rfl⟩⟩))
   go_meet
   case rel => exact ⟨_, (!t165), (by first | rfl | (simp; done) | (simp [*]; done)), H', ⟨by first | omega | exact zT _⟩, ⟨mK BK163.out⟩, ⟨by repeat (first | (with_reducible first | exact HB.out | apply yO | apply yN | apply yP | refine yQ ?_ GE163.out) | exact HB.out)⟩⟩
  ·replace c6 := Bool.eq_false_iff.mpr c6
   subst c6
   replace H := iF H
   have H' := yA H
   clear H
   go_wp2_with (first | ((with_reducible refine zS (f := 51) rfl ?_); refine goesL_ (some 13) rfl rfl Try.func51 (by kernel_rfl) rfl #[.int .i64 a0, .int .i64 2, .int .i64 3] rfl (by (try simp only [zI, zJ, zK]); first | done | rfl | (simp only [zL, zM]; rfl)) ?_; (with_reducible refine (spec_l1In.calls a0 2 3 false _ A5.out).mono ?_); rintro e w' ⟨rfl, ⟨nd, rfl⟩⟩; refine ⟨_, rfl, ?_⟩))
   go_meet
   case rel => exact ⟨_, (true), (by first | rfl | (simp; done) | (simp [*]; done)), H', ⟨by first | omega | exact zT _⟩, ⟨mK BK163.out⟩, ⟨by repeat (first | (with_reducible first | exact HB.out | apply yO | apply yN | apply yP | refine yQ ?_ GE163.out) | exact HB.out)⟩⟩
 case rest =>
  clear HC3
  (try clear c2);(try clear p2);(try clear c5);(try clear c6)
  obtain ⟨kq, x19_2, rfl, HA, HJ2, BK163, HB⟩ := hcut
  cases kq with
  | zero => exact absurd HA.out (by simp [spec_NumberRelation.j0])
  | succ kj2 =>
   have H := HA.out
   clear HA
   simp only [spec_NumberRelation.j0] at H
   by_cases c8 : x19_2 = true
   ·subst c8
    replace H := iT H
    simp only [Option.some.injEq, Prod.mk.injEq] at H
    obtain ⟨rfl, rfl, rfl, rfl, rfl⟩ := H
    obtain ⟨hcz9_0, hcz9_1, hcz9_2, hcz9_3⟩ := cz4 BK163.out
    obtain ⟨hfz9_0, hfz9_1, hfz9_2, hfz9_3⟩ := fz4 BK163.out
    go_wp2
    refine bodyPost_ret (results_ct rfl _ _ gb163 25 #[.int .i64 0, .int .i64 0, .slice none 0 0, .slice none 0 0] (0, 0) _ rfl (by (with_reducible repeat (first | refine yS ?_ _ | refine yT ?_ | refine yR ?_ _)); refine blk_put (cs := #[.int .i64 0, .int .i64 0, .slice none 0 0, .slice none 0 0]) ?_ 3 _ rfl; (with_reducible repeat (first | refine yS ?_ _ | refine yT ?_ | refine yR ?_ _)); refine blk_put (cs := #[.int .i64 0, .int .i64 0, .slice none 0 0, .slice none 0 0]) ?_ 2 _ rfl; (with_reducible repeat (first | refine yS ?_ _ | refine yT ?_ | refine yR ?_ _)); refine blk_put (cs := #[.int .i64 0, .int .i64 0, .slice none 0 0, .slice none 0 0]) ?_ 1 _ rfl; (with_reducible repeat (first | refine yS ?_ _ | refine yT ?_ | refine yR ?_ _)); refine blk_put (cs := #[.int .i64 0, .int .i64 0, .slice none 0 0, .slice none 0 0]) ?_ 0 _ rfl; (with_reducible repeat (first | refine yS ?_ _ | refine yT ?_ | refine yR ?_ _)); exact BK163.out) Try.underlying25 rfl (by kernel_rfl)) rfl ?_
    exact ⟨_, _, by first | rfl | (simp [errW_none, errW_some] <;> rfl) | (simp [*, errW_none, errW_some] <;> rfl), by first | exact Kd.S_nil _ _ _ _ _ | exact Kd.N_nil _ _ _ _ _ | exact Kd.V_nil _ _ _ _ _ | exact Kd.Q_nil _ _ _ _ _ | exact Kd.R_nil _ _ _ _ _, by first | exact Kd.R_nil _ _ _ _ _ | exact Kd.N_nil _ _ _ _ _ | exact Kd.V_nil _ _ _ _ _ | exact Kd.Q_nil _ _ _ _ _ | exact Kd.S_nil _ _ _ _ _, by repeat (first | (with_reducible first | exact HB.out | apply yO | apply yN | apply yP | refine yQ ?_ GE163.out) | exact HB.out)⟩
   ·replace c8 := Bool.eq_false_iff.mpr c8
    subst c8
    replace H := iF H
    obtain ⟨t166, A10, H⟩ := bE H
    have H' := yA H
    clear H
    go_wp2_with (first | ((with_reducible refine zS (f := 57) rfl ?_); refine goesL_ (some 23) rfl rfl Try.func57 (by kernel_rfl) rfl #[.int .i64 a1, .int .i64 a0] rfl (by (try simp only [zI, zJ, zK]); first | done | rfl | (simp only [zL, zM]; rfl)) ?_; (with_reducible refine (spec_DigitsOf.calls kj2 a1 a0 t166 _ A10.out).mono ?_); rintro e w11 ⟨v167, rfl, ho0, hb⟩; refine ⟨_, rfl, ?_⟩; have HO168 := yA (Kd.R_lower ho0 (yX (by with_reducible repeat first | exact HB.out | apply yO | apply yN | apply yP | refine yQ ?_ GE163.out))); replace BK163 := yA (yU (mK BK163.out) hb); replace HB := yA (zD (by with_reducible repeat first | exact HB.out | apply yO | apply yN | apply yP | refine yQ ?_ GE163.out) hb); (try clear hb); (try clear hb2); (try clear hk); (try clear hi); (try clear ho0)) | ((with_reducible refine gate_dst (N := 7) rfl ?_); refine box_event ?hg (N := 7) ?hd (cs := #[.int .i64 0, .int .i64 0, .slice none 0 0, .slice none 0 0]) (t := 25) ?hr ?_; (case hd => rfl); (case hg => rfl); (case hr => first | (go_simp; done) | (go_simp; rfl)); intro gb169 hg w12 hbox hb; replace HO168 := yA (yK (mR HO168.out) hb); have BK169 := yA (hbox); have GW169 := yA ((by rw [hg]; exact (yX (by with_reducible repeat first | exact HB.out | apply yO | apply yN | apply yP | refine yQ ?_ GE163.out)) : w.heap.size ≤ gb169)); have GE169 := yA ((by rw [hg]; exact (yX (by with_reducible repeat first | exact HB.out | apply yO | apply yN | apply yP | refine yQ ?_ GE163.out)) : w.heap.size ≤ gb169)); replace HB := yA (zD (by with_reducible repeat first | exact HB.out | apply yO | apply yN | apply yP | refine yQ ?_ GE163.out) hb); have NB163_169 := yA ((by rw [hg]; exact Nat.ne_of_lt (zX (mK BK163.out)) : gb163 ≠ gb169)); have NB169_163 := yA ((by rw [hg]; exact Nat.ne_of_gt (zX (mK BK163.out)) : gb169 ≠ gb163)); replace BK163 := yA (yU (mK BK163.out) hb); clear hb hbox hg; have hnb13 := NB169_163.out; have hnc13 := NB163_169.out; have hcz14_0 : w12.cell? ⟨gb169, 0, none⟩ = some (.int .i64 0) := (yV BK169.out 0).trans rfl; have hcz14_1 : w12.cell? ⟨gb169, 1, none⟩ = some (.int .i64 0) := (yV BK169.out 1).trans rfl; have hcz14_2 : w12.cell? ⟨gb169, 2, none⟩ = some (.slice none 0 0) := (yV BK169.out 2).trans rfl; have hcz14_3 : w12.cell? ⟨gb169, 3, none⟩ = some (.slice none 0 0) := (yV BK169.out 3).trans rfl; have hfz14_0 := yW BK169.out 0; have hfz14_1 := yW BK169.out 1; have hfz14_2 := yW BK169.out 2; have hfz14_3 := yW BK169.out 3; obtain ⟨Ao15, co15, eo15⟩ := Kd.R_slice HO168.out; subst eo15))
    go_loopg [9] kj2 (fun kq v9 w' => ∃ (x9_2 : Int) (x170002_2 : List (List Int)) (x170003_2 : List Bool) (u170002 : Value) (u170003 : Value), v9 = .int .i64 x9_2 ∧ Aside0 (spec_NumberRelation.l0 kq a0 t166 (wrap64 ((t166.length : Int) + 1)) x9_2 a0 1 x170002_2 x170003_2 = some (r1, r2, r3, r4, r5)) ∧ Aside0 (kq ≤ kj2) ∧ Aside0 (Kd.R (Kd.int .i64) 3 w' w.heap.size (fun _ => True) (.slice Ao15 t166.length co15) t166) ∧ Aside0 (Kd.S (Kd.slice 3 (Kd.int .i64)) 38 w' w.heap.size (fun k_ => some k_ ≠ ((.slice Ao15 t166.length co15) : Value).ownBlock) u170002 x170002_2) ∧ Aside0 (Kd.R Kd.bool 4 w' w.heap.size (fun _ => True) u170003 x170003_2) ∧ Aside0 (w'.heap[gb163]? = some (.cells #[.int .i64 0, .int .i64 0, (.slice none 0 0), (.slice none 0 0)] 25 (0, 0))) ∧ Aside0 (w'.heap[gb169]? = some (.cells #[.int .i64 a0, .int .i64 1, u170002, u170003] 25 (0, 0))) ∧ Aside0 (Below w.heap.size w w'))
    case atStart => exact ⟨(0), (([] : List (List Int))), (([] : List Bool)), (.slice none 0 0), (.slice none 0 0), (by first | rfl | (simp; done) | (simp [*]; done)), H', ⟨zT _⟩, ⟨by (with_reducible repeat (first | apply yB | apply yC | apply yD)); exact zP (zQ (p := ⟨gb169, 3, none⟩) (zQ (p := ⟨gb169, 2, none⟩) (zQ (p := ⟨gb169, 1, none⟩) (zQ (p := ⟨gb169, 0, none⟩) (zR HO168.out BK169.out (by decide)) (fun _ hk => hk.2) (.int .i64 a0)) (fun _ hk => hk.2) (.int .i64 1)) (fun _ hk => hk.2) (.slice none 0 0)) (fun _ hk => hk.2) (.slice none 0 0)) (fun _ hk => trivial)⟩, ⟨by first | exact Kd.S_nil _ _ _ _ _ | exact Kd.N_nil _ _ _ _ _ | exact Kd.V_nil _ _ _ _ _ | exact Kd.Q_nil _ _ _ _ _ | exact Kd.R_nil _ _ _ _ _⟩, ⟨by first | exact Kd.R_nil _ _ _ _ _ | exact Kd.N_nil _ _ _ _ _ | exact Kd.V_nil _ _ _ _ _ | exact Kd.Q_nil _ _ _ _ _ | exact Kd.S_nil _ _ _ _ _⟩, ⟨by (with_reducible repeat (first | refine yS ?_ _ | refine yT ?_ | refine yR ?_ _)); refine blk_far ?_ NB163_169.out _; (with_reducible repeat (first | refine yS ?_ _ | refine yT ?_ | refine yR ?_ _)); refine blk_far ?_ NB163_169.out _; (with_reducible repeat (first | refine yS ?_ _ | refine yT ?_ | refine yR ?_ _)); refine blk_far ?_ NB163_169.out _; (with_reducible repeat (first | refine yS ?_ _ | refine yT ?_ | refine yR ?_ _)); refine blk_far ?_ NB163_169.out _; (with_reducible repeat (first | refine yS ?_ _ | refine yT ?_ | refine yR ?_ _)); exact BK163.out⟩, ⟨by (with_reducible repeat (first | refine yS ?_ _ | refine yT ?_ | refine yR ?_ _)); refine blk_put (cs := #[.int .i64 a0, .int .i64 1, .slice none 0 0, .slice none 0 0]) ?_ 3 _ rfl; (with_reducible repeat (first | refine yS ?_ _ | refine yT ?_ | refine yR ?_ _)); refine blk_put (cs := #[.int .i64 a0, .int .i64 1, .slice none 0 0, .slice none 0 0]) ?_ 2 _ rfl; (with_reducible repeat (first | refine yS ?_ _ | refine yT ?_ | refine yR ?_ _)); refine blk_put (cs := #[.int .i64 a0, .int .i64 0, .slice none 0 0, .slice none 0 0]) ?_ 1 _ rfl; (with_reducible repeat (first | refine yS ?_ _ | refine yT ?_ | refine yR ?_ _)); refine blk_put (cs := #[.int .i64 0, .int .i64 0, .slice none 0 0, .slice none 0 0]) ?_ 0 _ rfl; (with_reducible repeat (first | refine yS ?_ _ | refine yT ?_ | refine yR ?_ _)); exact BK169.out⟩, ⟨by repeat (first | (with_reducible first | exact HB.out | apply yO | apply yN | apply yP | refine yQ ?_ GE163.out | refine yQ ?_ GE169.out) | exact HB.out)⟩⟩
    case round =>
     clear H'
     (try clear c1);(try clear c2);(try clear p2);(try clear c5);(try clear c6);(try clear p6);(try clear c8);(try clear c13);(try clear hcz14_0);(try clear hcz14_1);(try clear hcz14_2);(try clear hcz14_3);(try clear hcz9_0);(try clear hcz9_1);(try clear hcz9_2);(try clear hcz9_3);(try clear hfz14_0);(try clear hfz14_1);(try clear hfz14_2);(try clear hfz14_3);(try clear hfz9_0);(try clear hfz9_1);(try clear hfz9_2);(try clear hfz9_3);(try clear p2)
     obtain ⟨x9_2, x170002_2, x170003_2, u170002, u170003, rfl, HA, HK2, HO_6, HO_170002, HO_170003, BK163, BK169, HB⟩ := hrel
     cases gk with
     | zero => exact absurd HA.out (by simp [spec_NumberRelation.l0])
     | succ k2 =>
      have H := HA.out
      clear HA
      simp only [spec_NumberRelation.l0] at H
      by_cases c16 : x9_2 ≤ (wrap64 ((t166.length : Int) + 1))
      ·rw [if_pos c16] at H
       have c16b0 : decide (x9_2 ≤ (wrap64 ((t166.length : Int) + 1))) = true := zH c16
       clear c16
       (first | ((with_reducible replace H := bS H); obtain ⟨y170, Ny170, H⟩ := H) | (obtain ⟨y170, Ny170⟩ : ∃ y_ : List Int, y_ = (([] : List Int)) := ⟨_, rfl⟩; rw [← Ny170] at H; replace Ny170 := yA Ny170))
       have H' := yA H
       clear H
       go_wp2_with (first | ((with_reducible refine gate_dst (N := 34) rfl ?_); refine Kd.R_lit (Kd.int .i64) _ 3 ?hg (N := 34) ?hd (xs := ([] : List Int)) (inner := []) (ok := fun _ => True) (okp := fun _ => True) ?hr ?hp (fun _ hk => hk) trivial (zV _ _) (zT _) (by simp) ?_; (case hd => rfl); (case hg => rfl); (case hr => first | (go_simp; done) | (go_simp; rfl)); (case hp => exact (Reps.none _ _)); intro v171 w17 ho18 hb hg_ hnew_; clear hg_ hnew_; (first | rw [← Ny170.out] at ho18 | (simp only [Int.reduceToNat] at ho18; rw [← Ny170.out] at ho18)); replace HO_170002 := yA (Kd.S_elder' (mS HO_170002.out) (yY ho18) hb); replace HO_170003 := yA (yK (mR HO_170003.out) hb); have HO172 := yA (Kd.R_lower (Kd.R_new' ho18 (yZ (mR HO_6.out))) (yX (by with_reducible repeat first | exact HB.out | apply yO | apply yN | apply yP | refine yQ ?_ GE163.out | refine yQ ?_ GE169.out))); replace HO_6 := yA (zO (mR HO_6.out) (yY ho18) hb); replace BK163 := yA (yU (mK BK163.out) hb); replace BK169 := yA (yU (mK BK169.out) hb); replace HB := yA (zD (by with_reducible repeat first | exact HB.out | apply yO | apply yN | apply yP | refine yQ ?_ GE163.out | refine yQ ?_ GE169.out) hb); clear hb ho18))
       go_loopg [10, 11] k2 (fun kq v10 v11 w' => ∃ (x10_3 : List Int) (x11_3 : Int), v11 = .int .i64 x11_3 ∧ Aside0 (spec_NumberRelation.l1 kq a0 t166 (wrap64 ((t166.length : Int) + 1)) x9_2 x10_3 x11_3 a0 1 x170002_2 x170003_2 = some (r1, r2, r3, r4, r5)) ∧ Aside0 (kq ≤ k2) ∧ Aside0 (Kd.R (Kd.int .i64) 3 w' w.heap.size (fun k_ => some k_ ≠ (v10 : Value).ownBlock) (.slice Ao15 t166.length co15) t166) ∧ Aside0 (Kd.R (Kd.int .i64) 3 w' w.heap.size (fun k_ => some k_ ≠ ((.slice Ao15 t166.length co15) : Value).ownBlock) v10 x10_3) ∧ Aside0 (Kd.S (Kd.slice 3 (Kd.int .i64)) 38 w' w.heap.size (fun k_ => some k_ ≠ ((.slice Ao15 t166.length co15) : Value).ownBlock ∧ some k_ ≠ (v10 : Value).ownBlock) u170002 x170002_2) ∧ Aside0 (Kd.R Kd.bool 4 w' w.heap.size (fun _ => True) u170003 x170003_2) ∧ Aside0 (w'.heap[gb163]? = some (.cells #[.int .i64 0, .int .i64 0, (.slice none 0 0), (.slice none 0 0)] 25 (0, 0))) ∧ Aside0 (w'.heap[gb169]? = some (.cells #[.int .i64 a0, .int .i64 1, u170002, u170003] 25 (0, 0))) ∧ Aside0 (Below w.heap.size w w'))
       case atStart => exact ⟨(y170), (0), (by first | rfl | (simp; done) | (simp [*]; done)), H', ⟨zT _⟩, ⟨by (with_reducible repeat (first | apply yB | apply yC | apply yD)); exact zP HO_6.out (fun _ hk => hk.2)⟩, ⟨by (with_reducible repeat (first | apply yB | apply yC | apply yD)); exact zP HO172.out (fun _ hk => hk.2)⟩, ⟨mS HO_170002.out⟩, ⟨mR HO_170003.out⟩, ⟨mK BK163.out⟩, ⟨mK BK169.out⟩, ⟨by repeat (first | (with_reducible first | exact HB.out | apply yO | apply yN | apply yP | refine yQ ?_ GE163.out | refine yQ ?_ GE169.out) | exact HB.out)⟩⟩
       case round =>
        clear H'
        (try clear c1);(try clear c2);(try clear p2);(try clear c5);(try clear c6);(try clear p6);(try clear c8);(try clear c13);(try clear c16);(try clear c16b0);(try clear hcz14_0);(try clear hcz14_1);(try clear hcz14_2);(try clear hcz14_3);(try clear hcz9_0);(try clear hcz9_1);(try clear hcz9_2);(try clear hcz9_3);(try clear hfz14_0);(try clear hfz14_1);(try clear hfz14_2);(try clear hfz14_3);(try clear hfz9_0);(try clear hfz9_1);(try clear hfz9_2);(try clear hfz9_3);(try clear p2);(try clear p6)
        obtain ⟨x10_3, x11_3, rfl, HA, HK3, HO_6, HO_10, HO_170002, HO_170003, BK163, BK169, HB⟩ := hrel
        cases gk with
        | zero => exact absurd HA.out (by simp [spec_NumberRelation.l1])
        | succ k3 =>
         have H := HA.out
         clear HA
         simp only [spec_NumberRelation.l1] at H
         by_cases c19 : x11_3 < a0
         ·rw [if_pos c19] at H
          have c19b0 : decide (x11_3 < a0) = true := zH c19
          clear c19
          have HC20 := yA H
          clear H
          go_upto_region 14 with (fail)
          go_cut [44] (fun v44 wc => ∃ (kq : Nat) (x44_19 : Bool), v44 = .bool x44_19 ∧ Aside0 (spec_NumberRelation.j3 kq a0 t166 (wrap64 ((t166.length : Int) + 1)) x9_2 x10_3 x11_3 x44_19 a0 1 x170002_2 x170003_2 = some (r1, r2, r3, r4, r5)) ∧ Aside0 (kq ≤ k3) ∧ Aside0 (Kd.R (Kd.int .i64) 3 wc w.heap.size (fun k_ => some k_ ≠ (u10 : Value).ownBlock) (.slice Ao15 t166.length co15) t166) ∧ Aside0 (Kd.R (Kd.int .i64) 3 wc w.heap.size (fun k_ => some k_ ≠ ((.slice Ao15 t166.length co15) : Value).ownBlock) u10 x10_3) ∧ Aside0 (Kd.S (Kd.slice 3 (Kd.int .i64)) 38 wc w.heap.size (fun k_ => some k_ ≠ ((.slice Ao15 t166.length co15) : Value).ownBlock ∧ some k_ ≠ (u10 : Value).ownBlock) u170002 x170002_2) ∧ Aside0 (Kd.R Kd.bool 4 wc w.heap.size (fun _ => True) u170003 x170003_2) ∧ Aside0 (wc.heap[gb163]? = some (.cells #[.int .i64 0, .int .i64 0, (.slice none 0 0), (.slice none 0 0)] 25 (0, 0))) ∧ Aside0 (wc.heap[gb169]? = some (.cells #[.int .i64 a0, .int .i64 1, u170002, u170003] 25 (0, 0))) ∧ Aside0 (Below w.heap.size w wc))
          case first =>
           have H := HC20.out
           clear HC20
           by_cases c21 : x9_2 = 0
           ·rw [if_pos c21] at H
            have c21b0 : (x9_2 == 0) = true := beq_iff_eq.mpr c21
            have c21b1 : (x9_2 != 0) = false := bne_eq_false_iff_eq.mpr c21
            clear c21
            (first | rw [c21b0] | (simp only [i64_w, i32_w]; rw [c21b0]) | skip)
            have H' := yA H
            clear H
            go_wp2
            go_meet
            case rel => exact ⟨_, ((x11_3 == 0)), (by first | rfl | (simp; done) | (simp [*]; done)), H', ⟨by have := HJ2.out; have := HK2.out; have := HK3.out; first | omega | exact zT _⟩, ⟨mR HO_6.out⟩, ⟨mR HO_10.out⟩, ⟨mS HO_170002.out⟩, ⟨mR HO_170003.out⟩, ⟨mK BK163.out⟩, ⟨mK BK169.out⟩, ⟨by repeat (first | (with_reducible first | exact HB.out | apply yO | apply yN | apply yP | refine yQ ?_ GE163.out | refine yQ ?_ GE169.out) | exact HB.out)⟩⟩
           ·rw [if_neg c21] at H
            have c21b0 : (x9_2 == 0) = false := beq_eq_false_iff_ne.mpr c21
            have c21b1 : (x9_2 != 0) = true := bne_iff_ne.mpr c21
            (first | rw [c21b0] | (simp only [i64_w, i32_w]; rw [c21b0]) | skip)
            have H' := yA H
            clear H
            go_wp2
            go_meet
            case rel => exact ⟨_, (false), (by first | rfl | (simp; done) | (simp [*]; done)), H', ⟨by have := HJ2.out; have := HK2.out; have := HK3.out; first | omega | exact zT _⟩, ⟨mR HO_6.out⟩, ⟨mR HO_10.out⟩, ⟨mS HO_170002.out⟩, ⟨mR HO_170003.out⟩, ⟨mK BK163.out⟩, ⟨mK BK169.out⟩, ⟨by repeat (first | (with_reducible first | exact HB.out | apply yO | apply yN | apply yP | refine yQ ?_ GE163.out | refine yQ ?_ GE169.out) | exact HB.out)⟩⟩
          case rest =>
           clear HC20
           (try clear c1);(try clear c2);(try clear p2);(try clear c5);(try clear c6);(try clear p6);(try clear c8);(try clear c13);(try clear c16);(try clear c16b0);(try clear c19);(try clear c19b0);(try clear c20);(try clear c21);(try clear c21b0);(try clear c21b1);(try clear hcz14_0);(try clear hcz14_1);(try clear hcz14_2);(try clear hcz14_3);(try clear hcz9_0);(try clear hcz9_1);(try clear hcz9_2);(try clear hcz9_3);(try clear hfz14_0);(try clear hfz14_1);(try clear hfz14_2);(try clear hfz14_3);(try clear hfz9_0);(try clear hfz9_1);(try clear hfz9_2);(try clear hfz9_3);(try clear p2);(try clear p6)
           obtain ⟨kq, x44_19, rfl, HA, HJ19, HO_6, HO_10, HO_170002, HO_170003, BK163, BK169, HB⟩ := hcut
           cases kq with
           | zero => exact absurd HA.out (by simp [spec_NumberRelation.j3])
           | succ kj19 =>
            have H := HA.out
            clear HA
            simp only [spec_NumberRelation.j3] at H
            by_cases c22 : x44_19 = true
            ·subst c22
             replace H := iT H
             obtain ⟨c23, H⟩ := iP H
             have LMc23 := yA c23
             clear c23
             (first | ((with_reducible replace H := bS H); obtain ⟨y179, Ny179, H⟩ := H) | (obtain ⟨y179, Ny179⟩ : ∃ y_ : List Int, y_ = (x10_3 ++ [0]) := ⟨_, rfl⟩; rw [← Ny179] at H; replace Ny179 := yA Ny179))
             have H' := yA H
             clear H
             go_wp2_with (first | ((with_reducible refine gate_builtin (b := .append) (xs := #[.tmp 51, .tmp 52]) rfl ?_); at_builtin; refine Kd.R_append (Kd.int .i64) (w0 := w) w.heap.size rfl (.tmp 51) (.tmp 52) 38 3 (.int .i64 0) 8 rfl Try.underlying38 info3 rfl (by decide) (by omega) u10 x10_3 0 [.int .i64 0] (fun k_ => some k_ ≠ (.slice Ao15 t166.length co15 : Value).ownBlock) (fun _ => False) rfl rfl ?aP (fun _ hk => hk.elim) ?aF ?aO ?aB ?aS ?aL ?_; (case aP => exact rfl); (case aB => exact (by with_reducible repeat first | exact HB.out | apply yO | apply yN | apply yP | refine yQ ?_ GE163.out | refine yQ ?_ GE169.out)); (case aF => exact (fun k_ hk => Kd.fresh' (yZ (mR HO_6.out)) k_ hk)); (case aO => exact (mR HO_10.out)); (case aS => exact (yX (by with_reducible repeat first | exact HB.out | apply yO | apply yN | apply yP | refine yQ ?_ GE163.out | refine yQ ?_ GE169.out))); (case aL => have := LMc23.out; omega); intro v180 w24 ho hb hg hat; rw [← Ny179.out] at ho; replace HO_6 := yA (Kd.R_after (ok := (fun _ => True)) (mR (zP HO_6.out (fun _ hk => ⟨trivial, hk⟩))) hg hat); replace HO_170002 := yA (Kd.S_after (ok := (fun k_ => some k_ ≠ (.slice Ao15 t166.length co15 : Value).ownBlock)) (mS HO_170002.out) hg hat); replace HO_170003 := yA (Kd.R_over' (mR HO_170003.out) (Kd.R_typed (mR HO_10.out)) (by decide) hg); replace BK163 := yA (blk_grown (g := gb163) (o := .cells #[.int .i64 0, .int .i64 0, .slice none 0 0, .slice none 0 0] 25 (0, 0)) (mK BK163.out) hg (zW HO_10.out BK163.out (by decide))); replace BK169 := yA (blk_grown (g := gb169) (o := .cells #[.int .i64 a0, .int .i64 1, u170002, u170003] 25 (0, 0)) (mK BK169.out) hg (zW HO_10.out BK169.out (by decide))); replace HB := yA (hb); have HO181 := yA (ho); clear HO_10; clear ho hb hg hat))
             go_roundg kj19
             case measure => have := HJ2.out; have := HK2.out; have := HK3.out; have := HJ19.out; omega
             case rel => exact ⟨(y179), (wrap64 (x11_3 + 1)), (by first | rfl | (simp; done) | (simp [*]; done)), H', ⟨by have := HJ2.out; have := HK2.out; have := HK3.out; have := HJ19.out; omega⟩, ⟨by (with_reducible repeat (first | apply yB | apply yC | apply yD)); exact zP HO_6.out (fun _ hk => hk.2)⟩, ⟨mR HO181.out⟩, ⟨mS HO_170002.out⟩, ⟨mR HO_170003.out⟩, ⟨mK BK163.out⟩, ⟨mK BK169.out⟩, ⟨by repeat (first | (with_reducible first | exact HB.out | apply yO | apply yN | apply yP | refine yQ ?_ GE163.out | refine yQ ?_ GE169.out) | exact HB.out)⟩⟩
            ·replace c22 := Bool.eq_false_iff.mpr c22
             subst c22
             replace H := iF H
             by_cases c25 : x9_2 < (t166.length : Int)
             ·rw [if_pos c25] at H
              have c25b0 : decide (x9_2 < (t166.length : Int)) = true := zH c25
              clear c25
              obtain ⟨c26, H⟩ := iP H
              have c26b0 : decide (0 ≤ x9_2) = true := zH c26
              clear c26
              by_cases c27 : x11_3 = (rd t166 x9_2)
              ·rw [if_pos c27] at H
               have c27b0 : (x11_3 == (rd t166 x9_2)) = true := beq_iff_eq.mpr c27
               have c27b1 : (x11_3 != (rd t166 x9_2)) = false := bne_eq_false_iff_eq.mpr c27
               clear c27
               obtain ⟨c28, H⟩ := iP H
               have LMc28 := yA c28
               clear c28
               (first | ((with_reducible replace H := bS H); obtain ⟨y183, Ny183, H⟩ := H) | (obtain ⟨y183, Ny183⟩ : ∃ y_ : List Int, y_ = (x10_3 ++ [wrap64 (x9_2 + 1)]) := ⟨_, rfl⟩; rw [← Ny183] at H; replace Ny183 := yA Ny183))
               have H' := yA H
               clear H
               have p182 : 0 ≤ (x9_2 : Int) := zG (by assumption)
               have q182 : x9_2 < (t166.length : Int) := zG (by assumption)
               obtain ⟨ad182, e182, hx182_0⟩ := Kd.at_int (zN HO_6.out).2.2 x9_2 p182 q182
               cases e182
               replace p182 := eq_true p182
               replace q182 := eq_true q182
               go_wp2_with (first | ((with_reducible refine gate_builtin (b := .append) (xs := #[.tmp 67, .tmp 70]) rfl ?_); at_builtin; refine Kd.R_append (Kd.int .i64) (w0 := w) w.heap.size rfl (.tmp 67) (.tmp 70) 38 3 (.int .i64 0) 8 rfl Try.underlying38 info3 rfl (by decide) (by omega) u10 x10_3 (wrap64 (x9_2 + 1)) [.int .i64 (wrap64 (x9_2 + 1))] (fun k_ => some k_ ≠ (.slice (some ad182) t166.length co15 : Value).ownBlock) (fun _ => False) rfl rfl ?aP (fun _ hk => hk.elim) ?aF ?aO ?aB ?aS ?aL ?_; (case aP => exact rfl); (case aB => exact (by with_reducible repeat first | exact HB.out | apply yO | apply yN | apply yP | refine yQ ?_ GE163.out | refine yQ ?_ GE169.out)); (case aF => exact (fun k_ hk => Kd.fresh' (yZ (mR HO_6.out)) k_ hk)); (case aO => exact (mR HO_10.out)); (case aS => exact (yX (by with_reducible repeat first | exact HB.out | apply yO | apply yN | apply yP | refine yQ ?_ GE163.out | refine yQ ?_ GE169.out))); (case aL => have := LMc28.out; omega); intro v184 w29 ho hb hg hat; rw [← Ny183.out] at ho; replace HO_6 := yA (Kd.R_after (ok := (fun _ => True)) (mR (zP HO_6.out (fun _ hk => ⟨trivial, hk⟩))) hg hat); replace HO_170002 := yA (Kd.S_after (ok := (fun k_ => some k_ ≠ (.slice (some ad182) t166.length co15 : Value).ownBlock)) (mS HO_170002.out) hg hat); replace HO_170003 := yA (Kd.R_over' (mR HO_170003.out) (Kd.R_typed (mR HO_10.out)) (by decide) hg); replace BK163 := yA (blk_grown (g := gb163) (o := .cells #[.int .i64 0, .int .i64 0, .slice none 0 0, .slice none 0 0] 25 (0, 0)) (mK BK163.out) hg (zW HO_10.out BK163.out (by decide))); replace BK169 := yA (blk_grown (g := gb169) (o := .cells #[.int .i64 a0, .int .i64 1, u170002, u170003] 25 (0, 0)) (mK BK169.out) hg (zW HO_10.out BK169.out (by decide))); replace HB := yA (hb); have HO185 := yA (ho); clear HO_10; clear ho hb hg hat))
               go_roundg kj19
               case measure => have := HJ2.out; have := HK2.out; have := HK3.out; have := HJ19.out; omega
               case rel => exact ⟨(y183), (wrap64 (x11_3 + 1)), (by first | rfl | (simp; done) | (simp [*]; done)), H', ⟨by have := HJ2.out; have := HK2.out; have := HK3.out; have := HJ19.out; omega⟩, ⟨by (with_reducible repeat (first | apply yB | apply yC | apply yD)); exact zP HO_6.out (fun _ hk => hk.2)⟩, ⟨mR HO185.out⟩, ⟨mS HO_170002.out⟩, ⟨mR HO_170003.out⟩, ⟨mK BK163.out⟩, ⟨mK BK169.out⟩, ⟨by repeat (first | (with_reducible first | exact HB.out | apply yO | apply yN | apply yP | refine yQ ?_ GE163.out | refine yQ ?_ GE169.out) | exact HB.out)⟩⟩
              ·rw [if_neg c27] at H
               have c27b0 : (x11_3 == (rd t166 x9_2)) = false := beq_eq_false_iff_ne.mpr c27
               have c27b1 : (x11_3 != (rd t166 x9_2)) = true := bne_iff_ne.mpr c27
               obtain ⟨c30, H⟩ := iP H
               have LMc30 := yA c30
               clear c30
               (first | ((with_reducible replace H := bS H); obtain ⟨y186, Ny186, H⟩ := H) | (obtain ⟨y186, Ny186⟩ : ∃ y_ : List Int, y_ = (x10_3 ++ [(wrap64 ((t166.length : Int) + 1))]) := ⟨_, rfl⟩; rw [← Ny186] at H; replace Ny186 := yA Ny186))
               have H' := yA H
               clear H
               have p182 : 0 ≤ (x9_2 : Int) := zG (by assumption)
               have q182 : x9_2 < (t166.length : Int) := zG (by assumption)
               obtain ⟨ad182, e182, hx182_0⟩ := Kd.at_int (zN HO_6.out).2.2 x9_2 p182 q182
               cases e182
               replace p182 := eq_true p182
               replace q182 := eq_true q182
               go_wp2_with (first | ((with_reducible refine gate_builtin (b := .append) (xs := #[.tmp 40, .tmp 42]) rfl ?_); at_builtin; refine Kd.R_append (Kd.int .i64) (w0 := w) w.heap.size rfl (.tmp 40) (.tmp 42) 38 3 (.int .i64 0) 8 rfl Try.underlying38 info3 rfl (by decide) (by omega) u10 x10_3 (wrap64 ((t166.length : Int) + 1)) [.int .i64 (wrap64 ((t166.length : Int) + 1))] (fun k_ => some k_ ≠ (.slice (some ad182) t166.length co15 : Value).ownBlock) (fun _ => False) rfl rfl ?aP (fun _ hk => hk.elim) ?aF ?aO ?aB ?aS ?aL ?_; (case aP => exact rfl); (case aB => exact (by with_reducible repeat first | exact HB.out | apply yO | apply yN | apply yP | refine yQ ?_ GE163.out | refine yQ ?_ GE169.out)); (case aF => exact (fun k_ hk => Kd.fresh' (yZ (mR HO_6.out)) k_ hk)); (case aO => exact (mR HO_10.out)); (case aS => exact (yX (by with_reducible repeat first | exact HB.out | apply yO | apply yN | apply yP | refine yQ ?_ GE163.out | refine yQ ?_ GE169.out))); (case aL => have := LMc30.out; omega); intro v187 w31 ho hb hg hat; rw [← Ny186.out] at ho; replace HO_6 := yA (Kd.R_after (ok := (fun _ => True)) (mR (zP HO_6.out (fun _ hk => ⟨trivial, hk⟩))) hg hat); replace HO_170002 := yA (Kd.S_after (ok := (fun k_ => some k_ ≠ (.slice (some ad182) t166.length co15 : Value).ownBlock)) (mS HO_170002.out) hg hat); replace HO_170003 := yA (Kd.R_over' (mR HO_170003.out) (Kd.R_typed (mR HO_10.out)) (by decide) hg); replace BK163 := yA (blk_grown (g := gb163) (o := .cells #[.int .i64 0, .int .i64 0, .slice none 0 0, .slice none 0 0] 25 (0, 0)) (mK BK163.out) hg (zW HO_10.out BK163.out (by decide))); replace BK169 := yA (blk_grown (g := gb169) (o := .cells #[.int .i64 a0, .int .i64 1, u170002, u170003] 25 (0, 0)) (mK BK169.out) hg (zW HO_10.out BK169.out (by decide))); replace HB := yA (hb); have HO188 := yA (ho); clear HO_10; clear ho hb hg hat))
               go_roundg kj19
               case measure => have := HJ2.out; have := HK2.out; have := HK3.out; have := HJ19.out; omega
               case rel => exact ⟨(y186), (wrap64 (x11_3 + 1)), (by first | rfl | (simp; done) | (simp [*]; done)), H', ⟨by have := HJ2.out; have := HK2.out; have := HK3.out; have := HJ19.out; omega⟩, ⟨by (with_reducible repeat (first | apply yB | apply yC | apply yD)); exact zP HO_6.out (fun _ hk => hk.2)⟩, ⟨mR HO188.out⟩, ⟨mS HO_170002.out⟩, ⟨mR HO_170003.out⟩, ⟨mK BK163.out⟩, ⟨mK BK169.out⟩, ⟨by repeat (first | (with_reducible first | exact HB.out | apply yO | apply yN | apply yP | refine yQ ?_ GE163.out | refine yQ ?_ GE169.out) | exact HB.out)⟩⟩
             ·rw [if_neg c25] at H
              have c25b0 : decide (x9_2 < (t166.length : Int)) = false := decide_eq_false c25
              clear c25
              obtain ⟨c32, H⟩ := iP H
              have LMc32 := yA c32
              clear c32
              (first | ((with_reducible replace H := bS H); obtain ⟨y189, Ny189, H⟩ := H) | (obtain ⟨y189, Ny189⟩ : ∃ y_ : List Int, y_ = (x10_3 ++ [(wrap64 ((t166.length : Int) + 1))]) := ⟨_, rfl⟩; rw [← Ny189] at H; replace Ny189 := yA Ny189))
              have H' := yA H
              clear H
              go_wp2_with (first | ((with_reducible refine gate_builtin (b := .append) (xs := #[.tmp 40, .tmp 42]) rfl ?_); at_builtin; refine Kd.R_append (Kd.int .i64) (w0 := w) w.heap.size rfl (.tmp 40) (.tmp 42) 38 3 (.int .i64 0) 8 rfl Try.underlying38 info3 rfl (by decide) (by omega) u10 x10_3 (wrap64 ((t166.length : Int) + 1)) [.int .i64 (wrap64 ((t166.length : Int) + 1))] (fun k_ => some k_ ≠ (.slice Ao15 t166.length co15 : Value).ownBlock) (fun _ => False) rfl rfl ?aP (fun _ hk => hk.elim) ?aF ?aO ?aB ?aS ?aL ?_; (case aP => exact rfl); (case aB => exact (by with_reducible repeat first | exact HB.out | apply yO | apply yN | apply yP | refine yQ ?_ GE163.out | refine yQ ?_ GE169.out)); (case aF => exact (fun k_ hk => Kd.fresh' (yZ (mR HO_6.out)) k_ hk)); (case aO => exact (mR HO_10.out)); (case aS => exact (yX (by with_reducible repeat first | exact HB.out | apply yO | apply yN | apply yP | refine yQ ?_ GE163.out | refine yQ ?_ GE169.out))); (case aL => have := LMc32.out; omega); intro v190 w33 ho hb hg hat; rw [← Ny189.out] at ho; replace HO_6 := yA (Kd.R_after (ok := (fun _ => True)) (mR (zP HO_6.out (fun _ hk => ⟨trivial, hk⟩))) hg hat); replace HO_170002 := yA (Kd.S_after (ok := (fun k_ => some k_ ≠ (.slice Ao15 t166.length co15 : Value).ownBlock)) (mS HO_170002.out) hg hat); replace HO_170003 := yA (Kd.R_over' (mR HO_170003.out) (Kd.R_typed (mR HO_10.out)) (by decide) hg); replace BK163 := yA (blk_grown (g := gb163) (o := .cells #[.int .i64 0, .int .i64 0, .slice none 0 0, .slice none 0 0] 25 (0, 0)) (mK BK163.out) hg (zW HO_10.out BK163.out (by decide))); replace BK169 := yA (blk_grown (g := gb169) (o := .cells #[.int .i64 a0, .int .i64 1, u170002, u170003] 25 (0, 0)) (mK BK169.out) hg (zW HO_10.out BK169.out (by decide))); replace HB := yA (hb); have HO191 := yA (ho); clear HO_10; clear ho hb hg hat))
              go_roundg kj19
              case measure => have := HJ2.out; have := HK2.out; have := HK3.out; have := HJ19.out; omega
              case rel => exact ⟨(y189), (wrap64 (x11_3 + 1)), (by first | rfl | (simp; done) | (simp [*]; done)), H', ⟨by have := HJ2.out; have := HK2.out; have := HK3.out; have := HJ19.out; omega⟩, ⟨by (with_reducible repeat (first | apply yB | apply yC | apply yD)); exact zP HO_6.out (fun _ hk => hk.2)⟩, ⟨mR HO191.out⟩, ⟨mS HO_170002.out⟩, ⟨mR HO_170003.out⟩, ⟨mK BK163.out⟩, ⟨mK BK169.out⟩, ⟨by repeat (first | (with_reducible first | exact HB.out | apply yO | apply yN | apply yP | refine yQ ?_ GE163.out | refine yQ ?_ GE169.out) | exact HB.out)⟩⟩
         ·rw [if_neg c19] at H
          have c19b0 : decide (x11_3 < a0) = false := decide_eq_false c19
          clear c19
          obtain ⟨c34, H⟩ := iP H
          have LMc34 := yA c34
          clear c34
          (first | ((with_reducible replace H := bS H); obtain ⟨y173, Ny173, H⟩ := H) | (obtain ⟨y173, Ny173⟩ : ∃ y_ : List (List Int), y_ = (x170002_2 ++ [x10_3]) := ⟨_, rfl⟩; rw [← Ny173] at H; replace Ny173 := yA Ny173))
          obtain ⟨c35, H⟩ := iP H
          have LMc35 := yA c35
          clear c35
          (first | ((with_reducible replace H := bS H); obtain ⟨y176, Ny176, H⟩ := H) | (obtain ⟨y176, Ny176⟩ : ∃ y_ : List Bool, y_ = (x170003_2 ++ [(x9_2 == (t166.length : Int))]) := ⟨_, rfl⟩; rw [← Ny176] at H; replace Ny176 := yA Ny176))
          have H' := yA H
          clear H
          have hnb36 := NB169_163.out
          have hnc36 := NB163_169.out
          obtain ⟨hcz37_0, hcz37_1, hcz37_2, hcz37_3⟩ := cz4 BK169.out
          obtain ⟨hfz37_0, hfz37_1, hfz37_2, hfz37_3⟩ := fz4 BK169.out
          obtain ⟨Ao39, co39, eo39⟩ := Kd.R_slice HO_10.out
          subst eo39
          go_wp2_with (first | ((with_reducible refine gate_builtin (b := .append) (xs := #[.tmp 73, .tmp 75]) rfl ?_); at_builtin; refine Kd.S_append (Kd.slice 3 (Kd.int .i64)) (w0 := w) w.heap.size rfl (.tmp 73) (.tmp 75) 22 38 (.slice none 0 0) 24 rfl Try.underlying22 info38 rfl (by decide) (by omega) u170002 x170002_2 x10_3 [.slice Ao39 x10_3.length co39] (fun k_ => some k_ ≠ (.slice Ao15 t166.length co15 : Value).ownBlock) (fun k_ => some k_ = (.slice Ao39 x10_3.length co39 : Value).ownBlock) rfl rfl ?aP (fun k_ hk_ => ((zP (ok' := fun k_ => ((fun k_ => some k_ ≠ (.slice Ao15 t166.length co15 : Value).ownBlock)) k_ ∧ some k_ ≠ (u170002 : Value).ownBlock) (Kd.R_apart' (HO_10.out) (Kd.S_typed HO_170002.out) (by decide)) (fun k_ hk => ⟨hk.1, hk.2⟩))).1 k_ hk_.symm) ?aF ?aO ?aB ?aS ?aL ?_; (case aP => exact Kd.M_row (zP (Kd.R_tight rfl (zP (ok' := fun k_ => ((fun k_ => some k_ ≠ (.slice Ao15 t166.length co15 : Value).ownBlock)) k_ ∧ some k_ ≠ (u170002 : Value).ownBlock) (Kd.R_apart' (HO_10.out) (Kd.S_typed HO_170002.out) (by decide)) (fun k_ hk => ⟨hk.1, hk.2⟩))) (fun _ h_ => h_))); (case aB => exact (by with_reducible repeat first | exact HB.out | apply yO | apply yN | apply yP | refine yQ ?_ GE163.out | refine yQ ?_ GE169.out)); (case aF => exact (fun k_ hk => Kd.fresh' (yZ (mR HO_6.out)) k_ hk)); (case aO => exact (mS (Kd.S_mono HO_170002.out (fun k_ hk => ⟨hk.1, fun e_ => hk.2 e_⟩)))); (case aS => exact (yX (by with_reducible repeat first | exact HB.out | apply yO | apply yN | apply yP | refine yQ ?_ GE163.out | refine yQ ?_ GE169.out))); (case aL => have := LMc34.out; omega); intro v174 w38 ho hb hg hat; rw [← Ny173.out] at ho; replace HO_6 := yA (Kd.R_over' (mR HO_6.out) (Kd.S_typed (mS HO_170002.out)) (by decide) hg); replace HO_170003 := yA (Kd.R_over' (mR HO_170003.out) (Kd.S_typed (mS HO_170002.out)) (by decide) hg); replace BK163 := yA (blk_grown (g := gb163) (o := .cells #[.int .i64 0, .int .i64 0, .slice none 0 0, .slice none 0 0] 25 (0, 0)) (mK BK163.out) hg (Kd.S_ne HO_170002.out BK163.out (by decide))); replace BK169 := yA (blk_grown (g := gb169) (o := .cells #[.int .i64 a0, .int .i64 1, u170002, u170003] 25 (0, 0)) (mK BK169.out) hg (Kd.S_ne HO_170002.out BK169.out (by decide))); replace HB := yA (hb); have HO175 := yA (ho); clear HO_170002 HO_10; clear ho hb hg hat; obtain ⟨Ao40, co40, eo40⟩ := Kd.S_slice HO175.out; subst eo40; have hcz41_0 : w38.cell? ⟨gb169, 0, none⟩ = some (.int .i64 a0) := (yV BK169.out 0).trans rfl; have hcz41_1 : w38.cell? ⟨gb169, 1, none⟩ = some (.int .i64 1) := (yV BK169.out 1).trans rfl; have hcz41_2 : w38.cell? ⟨gb169, 2, none⟩ = some (u170002) := (yV BK169.out 2).trans rfl; have hcz41_3 : w38.cell? ⟨gb169, 3, none⟩ = some (u170003) := (yV BK169.out 3).trans rfl; have hfz41_0 := yW BK169.out 0; have hfz41_1 := yW BK169.out 1; have hfz41_2 := yW BK169.out 2; have hfz41_3 := yW BK169.out 3) | ((with_reducible refine gate_builtin (b := .append) (xs := #[.tmp 79, .tmp 84]) rfl ?_); at_builtin; refine Kd.R_append Kd.bool (w0 := w) w.heap.size rfl (.tmp 79) (.tmp 84) 23 4 (.bool false) 1 rfl Try.underlying23 info4 rfl (by decide) (by omega) u170003 x170003_2 (x9_2 == (t166.length : Int)) [.bool (x9_2 == (t166.length : Int))] (fun _ => True) (fun _ => False) rfl (by first | (go_simp; done) | (go_simp; rfl)) ?aP (fun _ hk => hk.elim) ?aF ?aO ?aB ?aS ?aL ?_; (case aP => exact rfl); (case aB => exact (by with_reducible repeat first | exact HB.out | apply yO | apply yN | apply yP | refine yQ ?_ GE163.out | refine yQ ?_ GE169.out)); (case aF => exact (fun _ _ => trivial)); (case aO => exact (mR (zP (zQ (p := ⟨gb169, 2, none⟩) (zR HO_170003.out BK169.out (by decide)) (fun _ hk => hk.2) (.slice Ao40 y173.length co40)) (fun _ hk => trivial)))); (case aS => exact (yX (by with_reducible repeat first | exact HB.out | apply yO | apply yN | apply yP | refine yQ ?_ GE163.out | refine yQ ?_ GE169.out))); (case aL => have := LMc35.out; omega); intro v177 w42 ho hb hg hat; rw [← Ny176.out] at ho; replace HO_6 := yA (Kd.R_over' (mR (zP (zQ (p := ⟨gb169, 2, none⟩) (zR HO_6.out BK169.out (by decide)) (fun _ hk => hk.2) (.slice Ao40 y173.length co40)) (fun _ h_ => h_.1))) (Kd.R_typed (mR (zP (zQ (p := ⟨gb169, 2, none⟩) (zR HO_170003.out BK169.out (by decide)) (fun _ hk => hk.2) (.slice Ao40 y173.length co40)) (fun _ h_ => h_.1)))) (by decide) hg); replace BK163 := yA (blk_grown (g := gb163) (o := .cells #[.int .i64 0, .int .i64 0, .slice none 0 0, .slice none 0 0] 25 (0, 0)) (by (with_reducible repeat (first | refine yS ?_ _ | refine yT ?_ | refine yR ?_ _)); refine blk_far ?_ NB163_169.out _; (with_reducible repeat (first | refine yS ?_ _ | refine yT ?_ | refine yR ?_ _)); exact BK163.out) hg (zW HO_170003.out BK163.out (by decide))); replace HO175 := yA (Kd.S_over' (mS (Kd.S_mono (Kd.S_far (p := ⟨gb169, 2, none⟩) (Kd.S_types HO175.out BK169.out (by decide)) (fun _ hk => hk.2) (.slice Ao40 y173.length co40)) (fun _ h_ => h_.1))) (Kd.R_typed (mR (zP (zQ (p := ⟨gb169, 2, none⟩) (zR HO_170003.out BK169.out (by decide)) (fun _ hk => hk.2) (.slice Ao40 y173.length co40)) (fun _ h_ => h_.1)))) (by decide) hg); replace BK169 := yA (blk_grown (g := gb169) (o := .cells #[.int .i64 a0, .int .i64 1, .slice Ao40 y173.length co40, u170003] 25 (0, 0)) (by (with_reducible repeat (first | refine yS ?_ _ | refine yT ?_ | refine yR ?_ _)); refine blk_put (cs := #[.int .i64 a0, .int .i64 1, u170002, u170003]) ?_ 2 _ rfl; (with_reducible repeat (first | refine yS ?_ _ | refine yT ?_ | refine yR ?_ _)); exact BK169.out) hg (zW HO_170003.out BK169.out (by decide))); replace HB := yA (hb); have HO178 := yA (ho); clear HO_170003; clear ho hb hg hat; obtain ⟨Ao43, co43, eo43⟩ := Kd.R_slice HO178.out; subst eo43; have hcz44_0 : w42.cell? ⟨gb169, 0, none⟩ = some (.int .i64 a0) := (yV BK169.out 0).trans rfl; have hcz44_1 : w42.cell? ⟨gb169, 1, none⟩ = some (.int .i64 1) := (yV BK169.out 1).trans rfl; have hcz44_2 : w42.cell? ⟨gb169, 2, none⟩ = some (.slice Ao40 y173.length co40) := (yV BK169.out 2).trans rfl; have hcz44_3 : w42.cell? ⟨gb169, 3, none⟩ = some (u170003) := (yV BK169.out 3).trans rfl; have hfz44_0 := yW BK169.out 0; have hfz44_1 := yW BK169.out 1; have hfz44_2 := yW BK169.out 2; have hfz44_3 := yW BK169.out 3))
          go_roundg k3
          case measure => have := HJ2.out; have := HK2.out; have := HK3.out; omega
          case rel => exact ⟨(wrap64 (x9_2 + 1)), (y173), (y176), (.slice Ao40 y173.length co40), (.slice Ao43 y176.length co43), (by first | rfl | (simp; done) | (simp [*]; done)), H', ⟨by have := HJ2.out; have := HK2.out; have := HK3.out; omega⟩, ⟨by (with_reducible repeat (first | apply yB | apply yC | apply yD)); exact zP (zQ (p := ⟨gb169, 3, none⟩) (zR HO_6.out BK169.out (by decide)) (fun _ hk => hk.2) (.slice Ao43 y176.length co43)) (fun _ hk => trivial)⟩, ⟨by (with_reducible repeat (first | apply yH | apply yI | apply yJ)); exact Kd.S_mono (Kd.S_far (p := ⟨gb169, 3, none⟩) (Kd.S_types HO175.out BK169.out (by decide)) (fun _ hk => hk.2) (.slice Ao43 y176.length co43)) (fun _ hk => hk.1)⟩, ⟨by (with_reducible repeat (first | apply yB | apply yC | apply yD)); exact zP (zQ (p := ⟨gb169, 3, none⟩) (zR HO178.out BK169.out (by decide)) (fun _ hk => hk.2) (.slice Ao43 y176.length co43)) (fun _ hk => trivial)⟩, ⟨by (with_reducible repeat (first | refine yS ?_ _ | refine yT ?_ | refine yR ?_ _)); refine blk_far ?_ NB163_169.out _; (with_reducible repeat (first | refine yS ?_ _ | refine yT ?_ | refine yR ?_ _)); exact BK163.out⟩, ⟨by (with_reducible repeat (first | refine yS ?_ _ | refine yT ?_ | refine yR ?_ _)); refine blk_put (cs := #[.int .i64 a0, .int .i64 1, .slice Ao40 y173.length co40, u170003]) ?_ 3 _ rfl; (with_reducible repeat (first | refine yS ?_ _ | refine yT ?_ | refine yR ?_ _)); exact BK169.out⟩, ⟨by repeat (first | (with_reducible first | exact HB.out | apply yO | apply yN | apply yP | refine yQ ?_ GE163.out | refine yQ ?_ GE169.out) | exact HB.out)⟩⟩
      ·rw [if_neg c16] at H
       have c16b0 : decide (x9_2 ≤ (wrap64 ((t166.length : Int) + 1))) = false := decide_eq_false c16
       clear c16
       simp only [Option.some.injEq, Prod.mk.injEq] at H
       obtain ⟨rfl, rfl, rfl, rfl, rfl⟩ := H
       have hnb45 := NB169_163.out
       have hnc45 := NB163_169.out
       obtain ⟨hcz46_0, hcz46_1, hcz46_2, hcz46_3⟩ := cz4 BK169.out
       obtain ⟨hfz46_0, hfz46_1, hfz46_2, hfz46_3⟩ := fz4 BK169.out
       obtain ⟨hcz47_0, hcz47_1, hcz47_2, hcz47_3⟩ := cz4 BK163.out
       obtain ⟨hfz47_0, hfz47_1, hfz47_2, hfz47_3⟩ := fz4 BK163.out
       obtain ⟨Ao48, co48, eo48⟩ := Kd.S_slice HO_170002.out
       subst eo48
       obtain ⟨Ao49, co49, eo49⟩ := Kd.R_slice HO_170003.out
       subst eo49
       go_wp2
       refine bodyPost_ret (results_ct rfl _ _ gb163 25 #[.int .i64 a0, .int .i64 1, .slice Ao48 x170002_2.length co48, .slice Ao49 x170003_2.length co49] (0, 0) _ rfl (by (with_reducible repeat (first | refine yS ?_ _ | refine yT ?_ | refine yR ?_ _)); refine blk_put (cs := #[.int .i64 a0, .int .i64 1, .slice Ao48 x170002_2.length co48, .slice none 0 0]) ?_ 3 _ rfl; (with_reducible repeat (first | refine yS ?_ _ | refine yT ?_ | refine yR ?_ _)); refine blk_put (cs := #[.int .i64 a0, .int .i64 1, .slice none 0 0, .slice none 0 0]) ?_ 2 _ rfl; (with_reducible repeat (first | refine yS ?_ _ | refine yT ?_ | refine yR ?_ _)); refine blk_put (cs := #[.int .i64 a0, .int .i64 0, .slice none 0 0, .slice none 0 0]) ?_ 1 _ rfl; (with_reducible repeat (first | refine yS ?_ _ | refine yT ?_ | refine yR ?_ _)); refine blk_put (cs := #[.int .i64 0, .int .i64 0, .slice none 0 0, .slice none 0 0]) ?_ 0 _ rfl; (with_reducible repeat (first | refine yS ?_ _ | refine yT ?_ | refine yR ?_ _)); exact BK163.out) Try.underlying25 rfl (by kernel_rfl)) rfl ?_
       exact ⟨_, _, by first | rfl | (simp [errW_none, errW_some] <;> rfl) | (simp [*, errW_none, errW_some] <;> rfl), by (with_reducible repeat (first | apply yH | apply yI | apply yJ)); exact Kd.S_mono (Kd.S_far (p := ⟨gb163, 3, none⟩) (Kd.S_far (p := ⟨gb163, 2, none⟩) (Kd.S_far (p := ⟨gb163, 1, none⟩) (Kd.S_far (p := ⟨gb163, 0, none⟩) (Kd.S_types HO_170002.out BK163.out (by decide)) (fun _ hk => hk.2) (.int .i64 a0)) (fun _ hk => hk.2) (.int .i64 1)) (fun _ hk => hk.2) (.slice Ao48 x170002_2.length co48)) (fun _ hk => hk.2) (.slice Ao49 x170003_2.length co49)) (fun _ hk => trivial), by (with_reducible repeat (first | apply yB | apply yC | apply yD)); exact zP (zQ (p := ⟨gb163, 3, none⟩) (zQ (p := ⟨gb163, 2, none⟩) (zQ (p := ⟨gb163, 1, none⟩) (zQ (p := ⟨gb163, 0, none⟩) (zR HO_170003.out BK163.out (by decide)) (fun _ hk => hk.2) (.int .i64 a0)) (fun _ hk => hk.2) (.int .i64 1)) (fun _ hk => hk.2) (.slice Ao48 x170002_2.length co48)) (fun _ hk => hk.2) (.slice Ao49 x170003_2.length co49)) (fun _ hk => trivial), by repeat (first | (with_reducible first | exact HB.out | apply yO | apply yN | apply yP | refine yQ ?_ GE163.out | refine yQ ?_ GE169.out) | exact HB.out)⟩

end Go.Proofs.Ytgopcliohchkmaa.Q
