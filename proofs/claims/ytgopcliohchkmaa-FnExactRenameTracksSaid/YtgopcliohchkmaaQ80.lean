-- written by a program of this session
-- squeezed
-- compact
-- shrunk
import Derived.Test.YtgopcliohchkmaaQ0
import Derived.Test.YtgopcliohchkmaaQ76
import Derived.Test.YtgopcliohchkmaaQ79
namespace Go.Proofs.Ytgopcliohchkmaa.Q
open Go.RowKit Go.Proofs.YtgopcliohchkmaaW.PrintWords Go.Proofs.YtgopcliohchkmaaW.PrintLast Go.Proofs.YtgopcliohchkmaaW.PrintMore
set_option linter.unusedVariables false
set_option linter.unusedSimpArgs false

/-! ### impl_Relation_reduced: function 84 -/
mutual
def impl_Relation_reduced.l0 : Nat → List Int → List Bool → Int → Int → Int → Int → List (List Int) → List Bool → Option (Int × Int × (List (List Int)) × List Bool)
 | 0, _, _, _, _, _, _, _, _ => none
 | k + 1, x3, x13, x14, x15, x902000, x902001, x902002, x902003 => if x15 < x14 then (if 0 ≤ x15 then (if x15 < (x13.length : Int) then ((impl_oneIf.f (rdOf false x13 x15)).bind fun t907 => (if x3.length < 17592186044416 then (impl_Relation_reduced.l0 k (x3 ++ [t907]) x13 x14 (wrap64 (x15 + 1)) x902000 x902001 x902002 x902003) else (none))) else (none)) else (none)) else ((impl_minimal.f k x902002 x3).bind fun bt911 => (impl_Relation_reduced.l1 k bt911.2 (bt911.2.length : Int) 0 x902000 x902001 bt911.1 ([] : List Bool)))
def impl_Relation_reduced.l1 : Nat → List Int → Int → Int → Int → Int → List (List Int) → List Bool → Option (Int × Int × (List (List Int)) × List Bool)
 | 0, _, _, _, _, _, _, _ => none
 | k + 1, x38, x39, x40, x918000, x918001, x918002, x918003 => if x40 < x39 then (if 0 ≤ x40 then (if x40 < (x38.length : Int) then (if x918003.length < 140737488355328 then (impl_Relation_reduced.l1 k x38 x39 (wrap64 (x40 + 1)) x918000 x918001 x918002 (x918003 ++ [((rd x38 x40) == 1)])) else (none)) else (none)) else (none)) else (some (x918000, x918001, x918002, x918003))
end
def impl_Relation_reduced.f (k : Nat) (a0_0 : Int) (a0_1 : Int) (l0_2 : List (List Int)) (l0_3 : List Bool) : Option (Int × Int × (List (List Int)) × List Bool) := impl_Relation_reduced.l0 k (([] : List Int)) l0_3 (l0_3.length : Int) 0 a0_0 a0_1 l0_2 l0_3
theorem impl_Relation_reduced.mono_l : ∀ k, (∀ y0 y1 y2 y3 y4 y5 y6 y7, LeO (impl_Relation_reduced.l0 k y0 y1 y2 y3 y4 y5 y6 y7) (impl_Relation_reduced.l0 (k + 1) y0 y1 y2 y3 y4 y5 y6 y7)) ∧ (∀ y0 y1 y2 y3 y4 y5 y6, LeO (impl_Relation_reduced.l1 k y0 y1 y2 y3 y4 y5 y6) (impl_Relation_reduced.l1 (k + 1) y0 y1 y2 y3 y4 y5 y6))
 | 0 => ⟨fun _ _ _ _ _ _ _ _ r h => by simp [impl_Relation_reduced.l0] at h, fun _ _ _ _ _ _ _ r h => by simp [impl_Relation_reduced.l1] at h⟩
 | k + 1 => by
  obtain ⟨ih0, ih1⟩ := impl_Relation_reduced.mono_l k
  refine ⟨?_, ?_⟩ <;> intros <;> first | unfold impl_Relation_reduced.l0 | unfold impl_Relation_reduced.l1
  all_goals repeat' (with_reducible first | exact ih0 _ _ _ _ _ _ _ _ | exact ih1 _ _ _ _ _ _ _ | exact impl_minimal.mono _ _ _ | exact LeO.refl _ | exact LeO.none _ | refine LeO.ite ?_ ?_ | refine LeO.bind ?_ fun _ => ?_)
theorem impl_Relation_reduced.mono : ∀ a0 a1 a2 a3 k, LeO (impl_Relation_reduced.f k a0 a1 a2 a3) (impl_Relation_reduced.f (k + 1) a0 a1 a2 a3) := by
 intro a0 a1 a2 a3 k
 obtain ⟨ih0, ih1⟩ := impl_Relation_reduced.mono_l k
 unfold impl_Relation_reduced.f
 repeat' (with_reducible first | exact ih0 _ _ _ _ _ _ _ _ | exact ih1 _ _ _ _ _ _ _ | exact impl_minimal.mono _ _ _ | exact LeO.refl _ | exact LeO.none _ | refine LeO.ite ?_ ?_ | refine LeO.bind ?_ fun _ => ?_)
set_option maxHeartbeats 8000000 in
set_option maxRecDepth 100000 in
theorem impl_Relation_reduced.calls (k : Nat) (a0_0 : Int) (a0_1 : Int) (A0_2 : Option Addr) (c0_2 : Nat) (l0_2 : List (List Int)) (A0_3 : Option Addr) (c0_3 : Nat) (l0_3 : List Bool) (r1 : Int) (r2 : Int) (r3 : List (List Int)) (r4 : List Bool) (w : World) (hr0_2 : Kd.C (Kd.slice 3 (Kd.int .i64)) w A0_2 l0_2.length l0_2) (hc0_2 : l0_2.length ≤ c0_2) (hr0_3 : Kd.C Kd.bool w A0_3 l0_3.length l0_3) (hc0_3 : l0_3.length ≤ c0_3) (h : impl_Relation_reduced.f k a0_0 a0_1 l0_2 l0_3 = some (r1, r2, r3, r4)) :
  Calls Try.prog 84 #[.agg #[.int .i64 a0_0, .int .i64 a0_1, .slice A0_2 l0_2.length c0_2, .slice A0_3 l0_3.length c0_3]] w fun e w' => ∃ v2_ v3_ : Value, e = .returned (.agg #[.int .i64 r1, .int .i64 r2, v2_, v3_]) ∧ Kd.S (Kd.slice 3 (Kd.int .i64)) 38 w' w.heap.size (fun _ => True) v2_ r3 ∧ Kd.R Kd.bool 4 w' w.heap.size (fun _ => True) v3_ r4 ∧ Below w.heap.size w w' := by
 have hu25 := Try.underlying25
 have HR0_2 := yA hr0_2
 have HC0_2 := yA hc0_2
 clear hr0_2 hc0_2
 have HR0_3 := yA hr0_3
 have HC0_3 := yA hc0_3
 clear hr0_3 hc0_3
 have HB := yA (zV w.heap.size w)
 have H : (impl_Relation_reduced.l0 k (([] : List Int)) l0_3 (l0_3.length : Int) 0 a0_0 a0_1 l0_2 l0_3) = some (r1, r2, r3, r4) := h
 clear h
 (first | ((with_reducible replace H := bS H); obtain ⟨y903, Ny903, H⟩ := H) | (obtain ⟨y903, Ny903⟩ : ∃ y_ : List Int, y_ = (([] : List Int)) := ⟨_, rfl⟩; rw [← Ny903] at H; replace Ny903 := yA Ny903))
 have H' := yA H
 clear H
 go_enter Try.func84, Try.ntmps84
 go_wp2_with (first | ((with_reducible refine gate_dst (N := 1) rfl ?_); refine box_event ?hg (N := 1) ?hd (cs := #[.int .i64 a0_0, .int .i64 a0_1, .slice A0_2 l0_2.length c0_2, .slice A0_3 l0_3.length c0_3]) (t := 25) ?hr ?_; (case hd => rfl); (case hg => rfl); (case hr => first | (go_simp; done) | (go_simp; rfl)); intro gb901 hg w2 hbox hb; have BK901 := yA (hbox); have GW901 := yA ((by rw [hg]; exact (yX (mB HB.out)) : w.heap.size ≤ gb901)); have GE901 := yA ((by rw [hg]; exact (yX (mB HB.out)) : w.heap.size ≤ gb901)); replace HB := yA (zD (mB HB.out) hb); clear hb hbox hg) | ((with_reducible refine gate_dst (N := 2) rfl ?_); refine box_event ?hg (N := 2) ?hd (cs := #[.int .i64 0, .int .i64 0, .slice none 0 0, .slice none 0 0]) (t := 25) ?hr ?_; (case hd => rfl); (case hg => rfl); (case hr => first | (go_simp; done) | (go_simp; rfl)); intro gb902 hg w3 hbox hb; have BK902 := yA (hbox); have GW902 := yA ((by rw [hg]; exact (yX (by with_reducible repeat first | exact HB.out | apply yO | apply yN | apply yP | refine yQ ?_ GE901.out)) : w.heap.size ≤ gb902)); have GE902 := yA ((by rw [hg]; exact (yX (by with_reducible repeat first | exact HB.out | apply yO | apply yN | apply yP | refine yQ ?_ GE901.out)) : w.heap.size ≤ gb902)); replace HB := yA (zD (by with_reducible repeat first | exact HB.out | apply yO | apply yN | apply yP | refine yQ ?_ GE901.out) hb); have NB901_902 := yA ((by rw [hg]; exact Nat.ne_of_lt (zX (mK BK901.out)) : gb901 ≠ gb902)); have NB902_901 := yA ((by rw [hg]; exact Nat.ne_of_gt (zX (mK BK901.out)) : gb902 ≠ gb901)); replace BK901 := yA (yU (mK BK901.out) hb); clear hb hbox hg) | ((with_reducible refine gate_dst (N := 11) rfl ?_); refine Kd.R_lit (Kd.int .i64) _ 3 ?hg (N := 11) ?hd (xs := ([] : List Int)) (inner := []) (ok := fun _ => True) (okp := fun _ => True) ?hr ?hp (fun _ hk => hk) trivial (zV _ _) (zT _) (by simp) ?_; (case hd => rfl); (case hg => rfl); (case hr => first | (go_simp; done) | (go_simp; rfl)); (case hp => exact (Reps.none _ _)); intro v904 w4 ho5 hb hg_ hnew_; clear hg_ hnew_; (first | rw [← Ny903.out] at ho5 | (simp only [Int.reduceToNat] at ho5; rw [← Ny903.out] at ho5)); have HO905 := yA (Kd.R_lower ho5 (yX (by with_reducible repeat first | exact HB.out | apply yO | apply yN | apply yP | refine yQ ?_ GE901.out | refine yQ ?_ GE902.out))); replace BK901 := yA (yU (mK BK901.out) hb); replace BK902 := yA (yU (mK BK902.out) hb); replace HB := yA (zD (by with_reducible repeat first | exact HB.out | apply yO | apply yN | apply yP | refine yQ ?_ GE901.out | refine yQ ?_ GE902.out) hb); clear hb ho5; have hnb6 := NB901_902.out; have hnc6 := NB902_901.out; have hcz7_0 : w4.cell? ⟨gb901, 0, none⟩ = some (.int .i64 a0_0) := (yV BK901.out 0).trans rfl; have hcz7_1 : w4.cell? ⟨gb901, 1, none⟩ = some (.int .i64 a0_1) := (yV BK901.out 1).trans rfl; have hcz7_2 : w4.cell? ⟨gb901, 2, none⟩ = some (.slice A0_2 l0_2.length c0_2) := (yV BK901.out 2).trans rfl; have hcz7_3 : w4.cell? ⟨gb901, 3, none⟩ = some (.slice A0_3 l0_3.length c0_3) := (yV BK901.out 3).trans rfl; have hfz7_0 := yW BK901.out 0; have hfz7_1 := yW BK901.out 1; have hfz7_2 := yW BK901.out 2; have hfz7_3 := yW BK901.out 3))
 go_loopg [3, 15] k (fun kq v3 v15 w' => ∃ (x3_1 : List Int) (x15_1 : Int), v15 = .int .i64 x15_1 ∧ Aside0 (impl_Relation_reduced.l0 kq x3_1 l0_3 (l0_3.length : Int) x15_1 a0_0 a0_1 l0_2 l0_3 = some (r1, r2, r3, r4)) ∧ Aside0 (kq ≤ k) ∧ Aside0 (Kd.R (Kd.int .i64) 3 w' w.heap.size (fun _ => True) v3 x3_1) ∧ Aside0 (w'.heap[gb901]? = some (.cells #[.int .i64 a0_0, .int .i64 a0_1, (.slice A0_2 l0_2.length c0_2), (.slice A0_3 l0_3.length c0_3)] 25 (0, 0))) ∧ Aside0 (w'.heap[gb902]? = some (.cells #[.int .i64 0, .int .i64 0, (.slice none 0 0), (.slice none 0 0)] 25 (0, 0))) ∧ Aside0 (Below w.heap.size w w'))
 case atStart => exact ⟨(y903), (0), (by first | rfl | (simp; done) | (simp [*]; done)), H', ⟨zT _⟩, ⟨mR HO905.out⟩, ⟨mK BK901.out⟩, ⟨mK BK902.out⟩, ⟨by repeat (first | (with_reducible first | exact HB.out | apply yO | apply yN | apply yP | refine yQ ?_ GE901.out | refine yQ ?_ GE902.out) | exact HB.out)⟩⟩
 case round =>
  clear H'
  (try clear p2);(try clear c6);(try clear hcz7_0);(try clear hcz7_1);(try clear hcz7_2);(try clear hcz7_3);(try clear hfz7_0);(try clear hfz7_1);(try clear hfz7_2);(try clear hfz7_3)
  obtain ⟨x3_1, x15_1, rfl, HA, HK1, HO_3, BK901, BK902, HB⟩ := hrel
  cases gk with
  | zero => exact absurd HA.out (by simp [impl_Relation_reduced.l0])
  | succ k1 =>
   have H := HA.out
   clear HA
   simp only [impl_Relation_reduced.l0] at H
   by_cases c8 : x15_1 < (l0_3.length : Int)
   ·rw [if_pos c8] at H
    have c8b0 : decide (x15_1 < (l0_3.length : Int)) = true := zH c8
    clear c8
    obtain ⟨c9, H⟩ := iP H
    have c9b0 : decide (0 ≤ x15_1) = true := zH c9
    clear c9
    obtain ⟨c10, H⟩ := iP H
    have c10b0 : decide (x15_1 < (l0_3.length : Int)) = true := zH c10
    clear c10
    obtain ⟨t907, A11, H⟩ := bE H
    obtain ⟨c12, H⟩ := iP H
    have LMc12 := yA c12
    clear c12
    (first | ((with_reducible replace H := bS H); obtain ⟨y908, Ny908, H⟩ := H) | (obtain ⟨y908, Ny908⟩ : ∃ y_ : List Int, y_ = (x3_1 ++ [t907]) := ⟨_, rfl⟩; rw [← Ny908] at H; replace Ny908 := yA Ny908))
    have H' := yA H
    clear H
    have p906 : 0 ≤ (x15_1 : Int) := zG (by assumption)
    have q906 : x15_1 < (l0_3.length : Int) := zG (by assumption)
    obtain ⟨ad906, e906, hx906_0⟩ := Kd.at_bool HR0_3.out x15_1 p906 q906
    cases e906
    try replace hx906_0 := (HB.out.cell (zE w _ hx906_0)).trans hx906_0
    replace p906 := eq_true p906
    replace q906 := eq_true q906
    go_wp2_with (first | ((with_reducible refine zS (f := 102) rfl ?_); refine goesL_ (some 21) rfl rfl Try.func102 (by kernel_rfl) rfl #[.bool (rdOf false l0_3 x15_1)] rfl (by (try simp only [zI, zJ, zK]); first | done | rfl | (simp only [zL, zM]; rfl)) ?_; (with_reducible refine (impl_oneIf.calls (rdOf false l0_3 x15_1) t907 _ A11.out).mono ?_); rintro e w' ⟨rfl, ⟨nd, rfl⟩⟩; refine ⟨_, rfl, ?_⟩) | ((with_reducible refine gate_builtin (b := .append) (xs := #[.tmp 19, .tmp 22]) rfl ?_); at_builtin; refine Kd.R_append (Kd.int .i64) (w0 := w) w.heap.size rfl (.tmp 19) (.tmp 22) 38 3 (.int .i64 0) 8 rfl Try.underlying38 info3 rfl (by decide) (by omega) u3 x3_1 t907 [.int .i64 t907] (fun _ => True) (fun _ => False) rfl rfl ?aP (fun _ hk => hk.elim) ?aF ?aO ?aB ?aS ?aL ?_; (case aP => exact rfl); (case aB => exact (by with_reducible repeat first | exact HB.out | apply yO | apply yN | apply yP | refine yQ ?_ GE901.out | refine yQ ?_ GE902.out)); (case aF => exact (fun _ _ => trivial)); (case aO => exact (mR HO_3.out)); (case aS => exact (yX (by with_reducible repeat first | exact HB.out | apply yO | apply yN | apply yP | refine yQ ?_ GE901.out | refine yQ ?_ GE902.out))); (case aL => have := LMc12.out; omega); intro v909 w13 ho hb hg hat; rw [← Ny908.out] at ho; replace BK901 := yA (blk_grown (g := gb901) (o := .cells #[.int .i64 a0_0, .int .i64 a0_1, .slice A0_2 l0_2.length c0_2, .slice (some ad906) l0_3.length c0_3] 25 (0, 0)) (mK BK901.out) hg (zW HO_3.out BK901.out (by decide))); replace BK902 := yA (blk_grown (g := gb902) (o := .cells #[.int .i64 0, .int .i64 0, .slice none 0 0, .slice none 0 0] 25 (0, 0)) (mK BK902.out) hg (zW HO_3.out BK902.out (by decide))); replace HB := yA (hb); have HO910 := yA (ho); clear HO_3; clear ho hb hg hat))
    go_roundg k1
    case measure => have := HK1.out; omega
    case rel => exact ⟨(y908), (wrap64 (x15_1 + 1)), (by first | rfl | (simp; done) | (simp [*]; done)), H', ⟨by have := HK1.out; omega⟩, ⟨mR HO910.out⟩, ⟨mK BK901.out⟩, ⟨mK BK902.out⟩, ⟨by repeat (first | (with_reducible first | exact HB.out | apply yO | apply yN | apply yP | refine yQ ?_ GE901.out | refine yQ ?_ GE902.out) | exact HB.out)⟩⟩
   ·rw [if_neg c8] at H
    have c8b0 : decide (x15_1 < (l0_3.length : Int)) = false := decide_eq_false c8
    clear c8
    replace H := Option.bind_eq_some_iff.mp H
    obtain ⟨⟨t911, t912⟩, A140, H⟩ := H
    replace H : (impl_Relation_reduced.l1 k1 t912 (t912.length : Int) 0 a0_0 a0_1 t911 ([] : List Bool)) = some (r1, r2, r3, r4) := H
    have A14 := yA A140
    clear A140
    have H' := yA H
    clear H
    have hnb15 := NB901_902.out
    have hnc15 := NB902_901.out
    obtain ⟨hcz16_0, hcz16_1, hcz16_2, hcz16_3⟩ := cz4 BK901.out
    obtain ⟨hfz16_0, hfz16_1, hfz16_2, hfz16_3⟩ := fz4 BK901.out
    obtain ⟨Ao17, co17, eo17⟩ := Kd.R_slice HO_3.out
    subst eo17
    go_wp2_with (first | ((with_reducible refine zS (f := 103) rfl ?_); refine goesL_ (some 29) rfl rfl Try.func103 (by kernel_rfl) rfl #[.slice A0_2 l0_2.length c0_2, .slice Ao17 x3_1.length co17] rfl (by (try simp only [zI, zJ, zK]); first | done | rfl | (simp only [zL, zM]; rfl)) ?_; (with_reducible refine (impl_minimal.calls k1 _ _ l0_2 _ _ x3_1 t911 t912 _ ?side1 ?side2 ?side3 ?side4 A14.out).mono ?_); (case side1 => exact mC (yM HR0_2.out HB.out)); (case side2 => exact HC0_2.out); (case side3 => exact mC ((zN HO_3.out).2.2)); (case side4 => exact (zN HO_3.out).2.1); rintro e w18 ⟨v913, v915, rfl, ho0, ho1, hb⟩; refine ⟨_, rfl, ?_⟩; have HO914 := yA (Kd.S_lower (Kd.S_new' ho0 (yZ (mR HO_3.out))) (yX (by with_reducible repeat first | exact HB.out | apply yO | apply yN | apply yP | refine yQ ?_ GE901.out | refine yQ ?_ GE902.out))); have HO916 := yA (Kd.R_lower (Kd.R_new' ho1 (yZ (mR HO_3.out))) (yX (by with_reducible repeat first | exact HB.out | apply yO | apply yN | apply yP | refine yQ ?_ GE901.out | refine yQ ?_ GE902.out))); replace HO_3 := yA (zO (mR HO_3.out) (yY ho1) hb); replace BK901 := yA (yU (mK BK901.out) hb); replace BK902 := yA (yU (mK BK902.out) hb); replace HB := yA (zD (by with_reducible repeat first | exact HB.out | apply yO | apply yN | apply yP | refine yQ ?_ GE901.out | refine yQ ?_ GE902.out) hb); (try clear hb); (try clear hb2); (try clear hk); (try clear hi); (try clear ho0); (try clear ho1); have hcz19_0 : w18.cell? ⟨gb901, 0, none⟩ = some (.int .i64 a0_0) := (yV BK901.out 0).trans rfl; have hcz19_1 : w18.cell? ⟨gb901, 1, none⟩ = some (.int .i64 a0_1) := (yV BK901.out 1).trans rfl; have hcz19_2 : w18.cell? ⟨gb901, 2, none⟩ = some (.slice A0_2 l0_2.length c0_2) := (yV BK901.out 2).trans rfl; have hcz19_3 : w18.cell? ⟨gb901, 3, none⟩ = some (.slice A0_3 l0_3.length c0_3) := (yV BK901.out 3).trans rfl; have hfz19_0 := yW BK901.out 0; have hfz19_1 := yW BK901.out 1; have hfz19_2 := yW BK901.out 2; have hfz19_3 := yW BK901.out 3; obtain ⟨Ao20, co20, eo20⟩ := Kd.S_slice HO914.out; subst eo20) | ((with_reducible refine gate_dst (N := 8) rfl ?_); refine box_event ?hg (N := 8) ?hd (cs := #[.int .i64 0, .int .i64 0, .slice none 0 0, .slice none 0 0]) (t := 25) ?hr ?_; (case hd => rfl); (case hg => rfl); (case hr => first | (go_simp; done) | (go_simp; rfl)); intro gb917 hg w21 hbox hb; replace HO_3 := yA (yK (mR HO_3.out) hb); replace HO914 := yA (yL (mS HO914.out) hb); replace HO916 := yA (yK (mR HO916.out) hb); have BK917 := yA (hbox); have GW917 := yA ((by rw [hg]; exact (yX (by with_reducible repeat first | exact HB.out | apply yO | apply yN | apply yP | refine yQ ?_ GE901.out | refine yQ ?_ GE902.out)) : w.heap.size ≤ gb917)); have GE917 := yA ((by rw [hg]; exact (yX (by with_reducible repeat first | exact HB.out | apply yO | apply yN | apply yP | refine yQ ?_ GE901.out | refine yQ ?_ GE902.out)) : w.heap.size ≤ gb917)); replace HB := yA (zD (by with_reducible repeat first | exact HB.out | apply yO | apply yN | apply yP | refine yQ ?_ GE901.out | refine yQ ?_ GE902.out) hb); have NB901_917 := yA ((by rw [hg]; exact Nat.ne_of_lt (zX (mK BK901.out)) : gb901 ≠ gb917)); have NB917_901 := yA ((by rw [hg]; exact Nat.ne_of_gt (zX (mK BK901.out)) : gb917 ≠ gb901)); replace BK901 := yA (yU (mK BK901.out) hb); have NB902_917 := yA ((by rw [hg]; exact Nat.ne_of_lt (zX (mK BK902.out)) : gb902 ≠ gb917)); have NB917_902 := yA ((by rw [hg]; exact Nat.ne_of_gt (zX (mK BK902.out)) : gb917 ≠ gb902)); replace BK902 := yA (yU (mK BK902.out) hb); clear hb hbox hg; have hnb22 := NB917_901.out; have hnc22 := NB901_917.out; have hnb23 := NB917_902.out; have hnc23 := NB902_917.out; have hcz24_0 : w21.cell? ⟨gb917, 0, none⟩ = some (.int .i64 0) := (yV BK917.out 0).trans rfl; have hcz24_1 : w21.cell? ⟨gb917, 1, none⟩ = some (.int .i64 0) := (yV BK917.out 1).trans rfl; have hcz24_2 : w21.cell? ⟨gb917, 2, none⟩ = some (.slice none 0 0) := (yV BK917.out 2).trans rfl; have hcz24_3 : w21.cell? ⟨gb917, 3, none⟩ = some (.slice none 0 0) := (yV BK917.out 3).trans rfl; have hfz24_0 := yW BK917.out 0; have hfz24_1 := yW BK917.out 1; have hfz24_2 := yW BK917.out 2; have hfz24_3 := yW BK917.out 3; obtain ⟨Ao25, co25, eo25⟩ := Kd.R_slice HO916.out; subst eo25))
    go_loopg [40] k1 (fun kq v40 w' => ∃ (x40_2 : Int) (x918003_2 : List Bool) (u918003 : Value), v40 = .int .i64 x40_2 ∧ Aside0 (impl_Relation_reduced.l1 kq t912 (t912.length : Int) x40_2 a0_0 a0_1 t911 x918003_2 = some (r1, r2, r3, r4)) ∧ Aside0 (kq ≤ k1) ∧ Aside0 (Kd.R (Kd.int .i64) 3 w' w.heap.size (fun _ => True) (.slice Ao25 t912.length co25) t912) ∧ Aside0 (Kd.S (Kd.slice 3 (Kd.int .i64)) 38 w' w.heap.size (fun k_ => some k_ ≠ ((.slice Ao25 t912.length co25) : Value).ownBlock) (.slice Ao20 t911.length co20) t911) ∧ Aside0 (Kd.R Kd.bool 4 w' w.heap.size (fun _ => True) u918003 x918003_2) ∧ Aside0 (w'.heap[gb901]? = some (.cells #[.int .i64 a0_0, .int .i64 a0_1, (.slice A0_2 l0_2.length c0_2), (.slice A0_3 l0_3.length c0_3)] 25 (0, 0))) ∧ Aside0 (w'.heap[gb902]? = some (.cells #[.int .i64 0, .int .i64 0, (.slice none 0 0), (.slice none 0 0)] 25 (0, 0))) ∧ Aside0 (w'.heap[gb917]? = some (.cells #[.int .i64 a0_0, .int .i64 a0_1, (.slice Ao20 t911.length co20), u918003] 25 (0, 0))) ∧ Aside0 (Below w.heap.size w w'))
    case atStart => exact ⟨(0), (([] : List Bool)), (.slice none 0 0), (by first | rfl | (simp; done) | (simp [*]; done)), H', ⟨zT _⟩, ⟨by (with_reducible repeat (first | apply yB | apply yC | apply yD)); exact zP (zQ (p := ⟨gb917, 3, none⟩) (zQ (p := ⟨gb917, 2, none⟩) (zQ (p := ⟨gb917, 1, none⟩) (zQ (p := ⟨gb917, 0, none⟩) (zR HO916.out BK917.out (by decide)) (fun _ hk => hk.2) (.int .i64 a0_0)) (fun _ hk => hk.2) (.int .i64 a0_1)) (fun _ hk => hk.2) (.slice Ao20 t911.length co20)) (fun _ hk => hk.2) (.slice none 0 0)) (fun _ hk => trivial)⟩, ⟨by (with_reducible repeat (first | apply yH | apply yI | apply yJ)); exact Kd.S_mono (Kd.S_far (p := ⟨gb917, 3, none⟩) (Kd.S_far (p := ⟨gb917, 2, none⟩) (Kd.S_far (p := ⟨gb917, 1, none⟩) (Kd.S_far (p := ⟨gb917, 0, none⟩) (Kd.S_types HO914.out BK917.out (by decide)) (fun _ hk => hk.2) (.int .i64 a0_0)) (fun _ hk => hk.2) (.int .i64 a0_1)) (fun _ hk => hk.2) (.slice Ao20 t911.length co20)) (fun _ hk => hk.2) (.slice none 0 0)) (fun _ hk => hk.1.1)⟩, ⟨by first | exact Kd.R_nil _ _ _ _ _ | exact Kd.N_nil _ _ _ _ _ | exact Kd.V_nil _ _ _ _ _ | exact Kd.Q_nil _ _ _ _ _ | exact Kd.S_nil _ _ _ _ _⟩, ⟨by (with_reducible repeat (first | refine yS ?_ _ | refine yT ?_ | refine yR ?_ _)); refine blk_far ?_ NB901_917.out _; (with_reducible repeat (first | refine yS ?_ _ | refine yT ?_ | refine yR ?_ _)); refine blk_far ?_ NB901_917.out _; (with_reducible repeat (first | refine yS ?_ _ | refine yT ?_ | refine yR ?_ _)); refine blk_far ?_ NB901_917.out _; (with_reducible repeat (first | refine yS ?_ _ | refine yT ?_ | refine yR ?_ _)); refine blk_far ?_ NB901_917.out _; (with_reducible repeat (first | refine yS ?_ _ | refine yT ?_ | refine yR ?_ _)); exact BK901.out⟩, ⟨by (with_reducible repeat (first | refine yS ?_ _ | refine yT ?_ | refine yR ?_ _)); refine blk_far ?_ NB902_917.out _; (with_reducible repeat (first | refine yS ?_ _ | refine yT ?_ | refine yR ?_ _)); refine blk_far ?_ NB902_917.out _; (with_reducible repeat (first | refine yS ?_ _ | refine yT ?_ | refine yR ?_ _)); refine blk_far ?_ NB902_917.out _; (with_reducible repeat (first | refine yS ?_ _ | refine yT ?_ | refine yR ?_ _)); refine blk_far ?_ NB902_917.out _; (with_reducible repeat (first | refine yS ?_ _ | refine yT ?_ | refine yR ?_ _)); exact BK902.out⟩, ⟨by (with_reducible repeat (first | refine yS ?_ _ | refine yT ?_ | refine yR ?_ _)); refine blk_put (cs := #[.int .i64 a0_0, .int .i64 a0_1, .slice Ao20 t911.length co20, .slice none 0 0]) ?_ 3 _ rfl; (with_reducible repeat (first | refine yS ?_ _ | refine yT ?_ | refine yR ?_ _)); refine blk_put (cs := #[.int .i64 a0_0, .int .i64 a0_1, .slice none 0 0, .slice none 0 0]) ?_ 2 _ rfl; (with_reducible repeat (first | refine yS ?_ _ | refine yT ?_ | refine yR ?_ _)); refine blk_put (cs := #[.int .i64 a0_0, .int .i64 0, .slice none 0 0, .slice none 0 0]) ?_ 1 _ rfl; (with_reducible repeat (first | refine yS ?_ _ | refine yT ?_ | refine yR ?_ _)); refine blk_put (cs := #[.int .i64 0, .int .i64 0, .slice none 0 0, .slice none 0 0]) ?_ 0 _ rfl; (with_reducible repeat (first | refine yS ?_ _ | refine yT ?_ | refine yR ?_ _)); exact BK917.out⟩, ⟨by repeat (first | (with_reducible first | exact HB.out | apply yO | apply yN | apply yP | refine yQ ?_ GE901.out | refine yQ ?_ GE902.out | refine yQ ?_ GE917.out) | exact HB.out)⟩⟩
    case round =>
     clear H'
     (try clear c1);(try clear c2);(try clear p2);(try clear c6);(try clear p6);(try clear c8);(try clear c8b0);(try clear c9);(try clear c9b0);(try clear p9);(try clear q9);(try clear hx9);(try clear c10);(try clear c10b0);(try clear c12);(try clear c15);(try clear c22);(try clear c23);(try clear hcz16_0);(try clear hcz16_1);(try clear hcz16_2);(try clear hcz16_3);(try clear hcz19_0);(try clear hcz19_1);(try clear hcz19_2);(try clear hcz19_3);(try clear hcz24_0);(try clear hcz24_1);(try clear hcz24_2);(try clear hcz24_3);(try clear hcz7_0);(try clear hcz7_1);(try clear hcz7_2);(try clear hcz7_3);(try clear hfz16_0);(try clear hfz16_1);(try clear hfz16_2);(try clear hfz16_3);(try clear hfz19_0);(try clear hfz19_1);(try clear hfz19_2);(try clear hfz19_3);(try clear hfz24_0);(try clear hfz24_1);(try clear hfz24_2);(try clear hfz24_3);(try clear hfz7_0);(try clear hfz7_1);(try clear hfz7_2);(try clear hfz7_3);(try clear hx906_0);(try clear p2);(try clear p906);(try clear q906)
     obtain ⟨x40_2, x918003_2, u918003, rfl, HA, HK2, HO_38, HO_918002, HO_918003, BK901, BK902, BK917, HB⟩ := hrel
     cases gk with
     | zero => exact absurd HA.out (by simp [impl_Relation_reduced.l1])
     | succ k2 =>
      have H := HA.out
      clear HA
      simp only [impl_Relation_reduced.l1] at H
      by_cases c26 : x40_2 < (t912.length : Int)
      ·rw [if_pos c26] at H
       have c26b0 : decide (x40_2 < (t912.length : Int)) = true := zH c26
       clear c26
       obtain ⟨c27, H⟩ := iP H
       have c27b0 : decide (0 ≤ x40_2) = true := zH c27
       clear c27
       obtain ⟨c28, H⟩ := iP H
       have c28b0 : decide (x40_2 < (t912.length : Int)) = true := zH c28
       clear c28
       obtain ⟨c29, H⟩ := iP H
       have LMc29 := yA c29
       clear c29
       (first | ((with_reducible replace H := bS H); obtain ⟨y919, Ny919, H⟩ := H) | (obtain ⟨y919, Ny919⟩ : ∃ y_ : List Bool, y_ = (x918003_2 ++ [((rd t912 x40_2) == 1)]) := ⟨_, rfl⟩; rw [← Ny919] at H; replace Ny919 := yA Ny919))
       have H' := yA H
       clear H
       have p918 : 0 ≤ (x40_2 : Int) := zG (by assumption)
       have q918 : x40_2 < (t912.length : Int) := zG (by assumption)
       obtain ⟨ad918, e918, hx918_0⟩ := Kd.at_int (zN HO_38.out).2.2 x40_2 p918 q918
       cases e918
       replace p918 := eq_true p918
       replace q918 := eq_true q918
       have hnb30 := NB917_901.out
       have hnc30 := NB901_917.out
       have hnb31 := NB917_902.out
       have hnc31 := NB902_917.out
       obtain ⟨hcz32_0, hcz32_1, hcz32_2, hcz32_3⟩ := cz4 BK917.out
       obtain ⟨hfz32_0, hfz32_1, hfz32_2, hfz32_3⟩ := fz4 BK917.out
       go_wp2_with (first | ((with_reducible refine gate_builtin (b := .append) (xs := #[.tmp 45, .tmp 48]) rfl ?_); at_builtin; refine Kd.R_append Kd.bool (w0 := w) w.heap.size rfl (.tmp 45) (.tmp 48) 23 4 (.bool false) 1 rfl Try.underlying23 info4 rfl (by decide) (by omega) u918003 x918003_2 ((rd t912 x40_2) == 1) [.bool ((rd t912 x40_2) == 1)] (fun _ => True) (fun _ => False) rfl rfl ?aP (fun _ hk => hk.elim) ?aF ?aO ?aB ?aS ?aL ?_; (case aP => exact rfl); (case aB => exact (by with_reducible repeat first | exact HB.out | apply yO | apply yN | apply yP | refine yQ ?_ GE901.out | refine yQ ?_ GE902.out | refine yQ ?_ GE917.out)); (case aF => exact (fun _ _ => trivial)); (case aO => exact (mR HO_918003.out)); (case aS => exact (yX (by with_reducible repeat first | exact HB.out | apply yO | apply yN | apply yP | refine yQ ?_ GE901.out | refine yQ ?_ GE902.out | refine yQ ?_ GE917.out))); (case aL => have := LMc29.out; omega); intro v920 w33 ho hb hg hat; rw [← Ny919.out] at ho; replace HO_38 := yA (Kd.R_over' (mR HO_38.out) (Kd.R_typed (mR HO_918003.out)) (by decide) hg); replace HO_918002 := yA (Kd.S_over' (mS HO_918002.out) (Kd.R_typed (mR HO_918003.out)) (by decide) hg); replace BK901 := yA (blk_grown (g := gb901) (o := .cells #[.int .i64 a0_0, .int .i64 a0_1, .slice A0_2 l0_2.length c0_2, .slice A0_3 l0_3.length c0_3] 25 (0, 0)) (mK BK901.out) hg (zW HO_918003.out BK901.out (by decide))); replace BK902 := yA (blk_grown (g := gb902) (o := .cells #[.int .i64 0, .int .i64 0, .slice none 0 0, .slice none 0 0] 25 (0, 0)) (mK BK902.out) hg (zW HO_918003.out BK902.out (by decide))); replace BK917 := yA (blk_grown (g := gb917) (o := .cells #[.int .i64 a0_0, .int .i64 a0_1, .slice Ao20 t911.length co20, u918003] 25 (0, 0)) (mK BK917.out) hg (zW HO_918003.out BK917.out (by decide))); replace HB := yA (hb); have HO921 := yA (ho); clear HO_918003; clear ho hb hg hat; obtain ⟨Ao34, co34, eo34⟩ := Kd.R_slice HO921.out; subst eo34; have hcz35_0 : w33.cell? ⟨gb917, 0, none⟩ = some (.int .i64 a0_0) := (yV BK917.out 0).trans rfl; have hcz35_1 : w33.cell? ⟨gb917, 1, none⟩ = some (.int .i64 a0_1) := (yV BK917.out 1).trans rfl; have hcz35_2 : w33.cell? ⟨gb917, 2, none⟩ = some (.slice Ao20 t911.length co20) := (yV BK917.out 2).trans rfl; have hcz35_3 : w33.cell? ⟨gb917, 3, none⟩ = some (u918003) := (yV BK917.out 3).trans rfl; have hfz35_0 := yW BK917.out 0; have hfz35_1 := yW BK917.out 1; have hfz35_2 := yW BK917.out 2; have hfz35_3 := yW BK917.out 3))
       go_roundg k2
       case measure => have := HK1.out; have := HK2.out; omega
       case rel => exact ⟨(wrap64 (x40_2 + 1)), (y919), (.slice Ao34 y919.length co34), (by first | rfl | (simp; done) | (simp [*]; done)), H', ⟨by have := HK1.out; have := HK2.out; omega⟩, ⟨by (with_reducible repeat (first | apply yB | apply yC | apply yD)); exact zP (zQ (p := ⟨gb917, 3, none⟩) (zR HO_38.out BK917.out (by decide)) (fun _ hk => hk.2) (.slice Ao34 y919.length co34)) (fun _ hk => trivial)⟩, ⟨by (with_reducible repeat (first | apply yH | apply yI | apply yJ)); exact Kd.S_mono (Kd.S_far (p := ⟨gb917, 3, none⟩) (Kd.S_types HO_918002.out BK917.out (by decide)) (fun _ hk => hk.2) (.slice Ao34 y919.length co34)) (fun _ hk => hk.1)⟩, ⟨by (with_reducible repeat (first | apply yB | apply yC | apply yD)); exact zP (zQ (p := ⟨gb917, 3, none⟩) (zR HO921.out BK917.out (by decide)) (fun _ hk => hk.2) (.slice Ao34 y919.length co34)) (fun _ hk => trivial)⟩, ⟨by (with_reducible repeat (first | refine yS ?_ _ | refine yT ?_ | refine yR ?_ _)); refine blk_far ?_ NB901_917.out _; (with_reducible repeat (first | refine yS ?_ _ | refine yT ?_ | refine yR ?_ _)); exact BK901.out⟩, ⟨by (with_reducible repeat (first | refine yS ?_ _ | refine yT ?_ | refine yR ?_ _)); refine blk_far ?_ NB902_917.out _; (with_reducible repeat (first | refine yS ?_ _ | refine yT ?_ | refine yR ?_ _)); exact BK902.out⟩, ⟨by (with_reducible repeat (first | refine yS ?_ _ | refine yT ?_ | refine yR ?_ _)); refine blk_put (cs := #[.int .i64 a0_0, .int .i64 a0_1, .slice Ao20 t911.length co20, u918003]) ?_ 3 _ rfl; (with_reducible repeat (first | refine yS ?_ _ | refine yT ?_ | refine yR ?_ _)); exact BK917.out⟩, ⟨by repeat (first | (with_reducible first | exact HB.out | apply yO | apply yN | apply yP | refine yQ ?_ GE901.out | refine yQ ?_ GE902.out | refine yQ ?_ GE917.out) | exact HB.out)⟩⟩
      ·rw [if_neg c26] at H
       have c26b0 : decide (x40_2 < (t912.length : Int)) = false := decide_eq_false c26
       clear c26
       simp only [Option.some.injEq, Prod.mk.injEq] at H
       obtain ⟨rfl, rfl, rfl, rfl⟩ := H
       have hnb36 := NB917_901.out
       have hnc36 := NB901_917.out
       have hnb37 := NB917_902.out
       have hnc37 := NB902_917.out
       obtain ⟨hcz38_0, hcz38_1, hcz38_2, hcz38_3⟩ := cz4 BK917.out
       obtain ⟨hfz38_0, hfz38_1, hfz38_2, hfz38_3⟩ := fz4 BK917.out
       have hnb39 := NB902_901.out
       have hnc39 := NB901_902.out
       obtain ⟨hcz40_0, hcz40_1, hcz40_2, hcz40_3⟩ := cz4 BK902.out
       obtain ⟨hfz40_0, hfz40_1, hfz40_2, hfz40_3⟩ := fz4 BK902.out
       obtain ⟨Ao41, co41, eo41⟩ := Kd.R_slice HO_918003.out
       subst eo41
       go_wp2
       refine bodyPost_ret (results_cell_row rfl _ _ gb902 25 #[.int .i64 a0_0, .int .i64 a0_1, .slice Ao20 t911.length co20, .slice Ao41 x918003_2.length co41] (0, 0) _ rfl (by (with_reducible repeat (first | refine yS ?_ _ | refine yT ?_ | refine yR ?_ _)); refine blk_put (cs := #[.int .i64 a0_0, .int .i64 a0_1, .slice Ao20 t911.length co20, .slice none 0 0]) ?_ 3 _ rfl; (with_reducible repeat (first | refine yS ?_ _ | refine yT ?_ | refine yR ?_ _)); refine blk_put (cs := #[.int .i64 a0_0, .int .i64 a0_1, .slice none 0 0, .slice none 0 0]) ?_ 2 _ rfl; (with_reducible repeat (first | refine yS ?_ _ | refine yT ?_ | refine yR ?_ _)); refine blk_put (cs := #[.int .i64 a0_0, .int .i64 0, .slice none 0 0, .slice none 0 0]) ?_ 1 _ rfl; (with_reducible repeat (first | refine yS ?_ _ | refine yT ?_ | refine yR ?_ _)); refine blk_put (cs := #[.int .i64 0, .int .i64 0, .slice none 0 0, .slice none 0 0]) ?_ 0 _ rfl; (with_reducible repeat (first | refine yS ?_ _ | refine yT ?_ | refine yR ?_ _)); exact BK902.out) Try.underlying25 rfl (by kernel_rfl)) rfl ?_
       exact ⟨_, _, by first | rfl | (simp [errW_none, errW_some] <;> rfl) | (simp [*, errW_none, errW_some] <;> rfl), by (with_reducible repeat (first | apply yH | apply yI | apply yJ)); exact Kd.S_mono (Kd.S_far (p := ⟨gb902, 3, none⟩) (Kd.S_far (p := ⟨gb902, 2, none⟩) (Kd.S_far (p := ⟨gb902, 1, none⟩) (Kd.S_far (p := ⟨gb902, 0, none⟩) (Kd.S_types HO_918002.out BK902.out (by decide)) (fun _ hk => hk.2) (.int .i64 a0_0)) (fun _ hk => hk.2) (.int .i64 a0_1)) (fun _ hk => hk.2) (.slice Ao20 t911.length co20)) (fun _ hk => hk.2) (.slice Ao41 x918003_2.length co41)) (fun _ hk => trivial), by (with_reducible repeat (first | apply yB | apply yC | apply yD)); exact zP (zQ (p := ⟨gb902, 3, none⟩) (zQ (p := ⟨gb902, 2, none⟩) (zQ (p := ⟨gb902, 1, none⟩) (zQ (p := ⟨gb902, 0, none⟩) (zR HO_918003.out BK902.out (by decide)) (fun _ hk => hk.2) (.int .i64 a0_0)) (fun _ hk => hk.2) (.int .i64 a0_1)) (fun _ hk => hk.2) (.slice Ao20 t911.length co20)) (fun _ hk => hk.2) (.slice Ao41 x918003_2.length co41)) (fun _ hk => trivial), by repeat (first | (with_reducible first | exact HB.out | apply yO | apply yN | apply yP | refine yQ ?_ GE901.out | refine yQ ?_ GE902.out | refine yQ ?_ GE917.out) | exact HB.out)⟩

end Go.Proofs.Ytgopcliohchkmaa.Q
