-- written by a program of this session (a turned copy of the kit's print) out of the translation
-- squeezed
-- compact
import Derived.Test.YtgopcliohchkmaaQ0
import Derived.Test.YtgopcliohchkmaaQ31
import Derived.Test.YtgopcliohchkmaaQ35
import Derived.Test.YtgopcliohchkmaaQ84
namespace Go.Proofs.Ytgopcliohchkmaa.Q
open Go.RowKit Go.Proofs.YtgopcliohchkmaaW.PrintWords Go.Proofs.YtgopcliohchkmaaW.PrintLast Go.Proofs.YtgopcliohchkmaaW.PrintMore
attribute [local go_sem] max2_int min2_int max_two min_two max_three min_three max_four min_four   -- for this text's walks alone
set_option linter.unusedVariables false
set_option linter.unusedSimpArgs false

/-! ### spec_NotRelation: function 47 -/
def spec_NotRelation.l0 : Nat → Int → Int → Int → List (List Int) → List Bool → Int → Int → List (List Int) → List Bool → Option (Int × Int × (List (List Int)) × List Bool × Bool)
 | 0, _, _, _, _, _, _, _, _, _ => none
 | k + 1, x5, x1012000, x1012001, x1012002, x1012003, x1023000, x1023001, x1023002, x1023003 => if x5 < (x1023003.length : Int) then (if 0 ≤ x5 then (if x5 < (x1012003.length : Int) then (spec_NotRelation.l0 k (wrap64 (x5 + 1)) x1012000 x1012001 x1012002 x1012003 x1023000 x1023001 x1023002 (x1023003.set (x5 : Int).toNat (!(rdOf false x1012003 x5)))) else (none)) else (none)) else ((spec_ReducedRelation.f k x1023000 x1023001 x1023002 x1023003).bind fun bt1025 => (some (bt1025.1, bt1025.2.1, bt1025.2.2.1, bt1025.2.2.2.1, bt1025.2.2.2.2)))
def spec_NotRelation.f (k : Nat) (a0_0 : Int) (a0_1 : Int) (l0_2 : List (List Int)) (l0_3 : List Bool) : Option (Int × Int × (List (List Int)) × List Bool × Bool) := (spec_IsRelation.f k a0_0 a0_1 l0_2 l0_3).bind fun t1013 => (if t1013 = true then ((spec_l13Copy.f k a0_0 a0_1 l0_2 l0_3).bind fun bt1014 => (spec_NotRelation.l0 k 0 a0_0 a0_1 l0_2 l0_3 bt1014.1 bt1014.2.1 bt1014.2.2.1 bt1014.2.2.2)) else (some (0, 0, ([] : List (List Int)), ([] : List Bool), false)))
theorem spec_NotRelation.mono_l : ∀ k, (∀ y0 y1 y2 y3 y4 y5 y6 y7 y8, LeO (spec_NotRelation.l0 k y0 y1 y2 y3 y4 y5 y6 y7 y8) (spec_NotRelation.l0 (k + 1) y0 y1 y2 y3 y4 y5 y6 y7 y8))
 | 0 => fun _ _ _ _ _ _ _ _ _ r h => by simp [spec_NotRelation.l0] at h
 | k + 1 => by
  have ih0 := spec_NotRelation.mono_l k
  ·intro y0 y1 y2 y3 y4 y5 y6 y7 y8
   unfold spec_NotRelation.l0
   repeat' first
   | (with_reducible exact ih0 _ _ _ _ _ _ _ _ _)
   | (with_reducible exact spec_IsRelation.mono _ _ _ _ _)
   | (with_reducible exact spec_ReducedRelation.mono _ _ _ _ _)
   | (with_reducible exact spec_l13Copy.mono _ _ _ _ _)
   | (with_reducible exact LeO.refl _)
   | (with_reducible exact LeO.none _)
   | (with_reducible refine LeO.ite ?_ ?_)
   | (with_reducible refine LeO.bind ?_ (fun _ => ?_))
   | exact ih0 _ _ _ _ _ _ _ _ _
   | exact spec_IsRelation.mono _ _ _ _ _
   | exact spec_ReducedRelation.mono _ _ _ _ _
   | exact spec_l13Copy.mono _ _ _ _ _
   | exact LeO.none _
   | refine LeO.ite ?_ ?_
   | refine LeO.bind ?_ (fun _ => ?_)
theorem spec_NotRelation.mono : ∀ a0 a1 a2 a3 k, LeO (spec_NotRelation.f k a0 a1 a2 a3) (spec_NotRelation.f (k + 1) a0 a1 a2 a3) := by
 intro a0 a1 a2 a3 k
 have ih0 := spec_NotRelation.mono_l k
 unfold spec_NotRelation.f
 repeat' first
   | (with_reducible exact ih0 _ _ _ _ _ _ _ _ _)
   | (with_reducible exact spec_IsRelation.mono _ _ _ _ _)
   | (with_reducible exact spec_ReducedRelation.mono _ _ _ _ _)
   | (with_reducible exact spec_l13Copy.mono _ _ _ _ _)
   | (with_reducible exact LeO.refl _)
   | (with_reducible exact LeO.none _)
   | (with_reducible refine LeO.ite ?_ ?_)
   | (with_reducible refine LeO.bind ?_ (fun _ => ?_))
   | exact ih0 _ _ _ _ _ _ _ _ _
   | exact spec_IsRelation.mono _ _ _ _ _
   | exact spec_ReducedRelation.mono _ _ _ _ _
   | exact spec_l13Copy.mono _ _ _ _ _
   | exact LeO.none _
   | refine LeO.ite ?_ ?_
   | refine LeO.bind ?_ (fun _ => ?_)
def spec_NotRelation.T7 : Bool × List (List Nat × List Nat) := (true, [([], []), ([0], [0]), ([], []), ([], []), ([3], [3]), ([], []), ([4, 5], [4, 5]), ([6], [6]), ([7], [7]), ([1, 2, 0, 1, 2, 3, 4, 5, 6, 7, 8], [1, 2]), ([9, 8, 0, 1, 2, 3, 4, 5, 6, 7, 8], [8, 9])])
def spec_NotRelation.B7 : List Nat := [0, 1, 0, 0, 8, 0, 56, 120, 248, 511, 1023]
theorem spec_NotRelation.tab7 : rtab .any (opsOf Try.f47 7) = spec_NotRelation.T7 := by kernel_rfl
theorem spec_NotRelation.bits7 : waitsOk spec_NotRelation.T7.2 spec_NotRelation.B7 = true := by kernel_rfl
set_option maxHeartbeats 8000000 in
set_option maxRecDepth 100000 in
theorem spec_NotRelation.calls (k : Nat) (a0_0 : Int) (a0_1 : Int) (A0_2 : Option Addr) (c0_2 : Nat) (l0_2 : List (List Int)) (A0_3 : Option Addr) (c0_3 : Nat) (l0_3 : List Bool) (r1 : Int) (r2 : Int) (r3 : List (List Int)) (r4 : List Bool) (r5 : Bool) (w : World) (hr0_2 : Kd.C (Kd.slice 3 (Kd.int .i64)) w A0_2 l0_2.length l0_2) (hc0_2 : l0_2.length ≤ c0_2) (hr0_3 : Kd.C Kd.bool w A0_3 l0_3.length l0_3) (hc0_3 : l0_3.length ≤ c0_3) (h : spec_NotRelation.f k a0_0 a0_1 l0_2 l0_3 = some (r1, r2, r3, r4, r5)) :
  Calls Try.prog 47 #[.agg #[.int .i64 a0_0, .int .i64 a0_1, .slice A0_2 l0_2.length c0_2, .slice A0_3 l0_3.length c0_3]] w fun e w' => ∃ v2_ v3_ : Value, e = .returned (.tuple #[.agg #[.int .i64 r1, .int .i64 r2, v2_, v3_], .bool r5]) ∧ Kd.S (Kd.slice 3 (Kd.int .i64)) 38 w' w.heap.size (fun _ => True) v2_ r3 ∧ Kd.R Kd.bool 4 w' w.heap.size (fun _ => True) v3_ r4 ∧ Below w.heap.size w w' := by
 have hu25 := Try.underlying25
 have HR0_2 := yA hr0_2
 have HC0_2 := yA hc0_2
 clear hr0_2 hc0_2
 have HR0_3 := yA hr0_3
 have HC0_3 := yA hc0_3
 clear hr0_3 hc0_3
 have HB := yA (zV w.heap.size w)
 have H : ((spec_IsRelation.f k a0_0 a0_1 l0_2 l0_3).bind fun t1013 => (if t1013 = true then ((spec_l13Copy.f k a0_0 a0_1 l0_2 l0_3).bind fun bt1014 => (spec_NotRelation.l0 k 0 a0_0 a0_1 l0_2 l0_3 bt1014.1 bt1014.2.1 bt1014.2.2.1 bt1014.2.2.2)) else (some (0, 0, ([] : List (List Int)), ([] : List Bool), false)))) = some (r1, r2, r3, r4, r5) := h
 clear h
 replace H := Option.bind_eq_some_iff.mp H
 obtain ⟨t1013, A20, H⟩ := H
 replace H : (if t1013 = true then ((spec_l13Copy.f k a0_0 a0_1 l0_2 l0_3).bind fun bt1014 => (spec_NotRelation.l0 k 0 a0_0 a0_1 l0_2 l0_3 bt1014.1 bt1014.2.1 bt1014.2.2.1 bt1014.2.2.2)) else (some (0, 0, ([] : List (List Int)), ([] : List Bool), false))) = some (r1, r2, r3, r4, r5) := H
 have A2 := yA A20
 clear A20
 by_cases c3 : t1013 = true
 ·subst c3
  have H1 : ((spec_l13Copy.f k a0_0 a0_1 l0_2 l0_3).bind fun bt1014 => (spec_NotRelation.l0 k 0 a0_0 a0_1 l0_2 l0_3 bt1014.1 bt1014.2.1 bt1014.2.2.1 bt1014.2.2.2)) = some (r1, r2, r3, r4, r5) := by rw [if_pos rfl] at H; exact H
  clear H
  have H := H1
  clear H1
  replace H := Option.bind_eq_some_iff.mp H
  obtain ⟨⟨t1014, t1015, t1016, t1019⟩, A40, H⟩ := H
  replace H : (spec_NotRelation.l0 k 0 a0_0 a0_1 l0_2 l0_3 t1014 t1015 t1016 t1019) = some (r1, r2, r3, r4, r5) := H
  have A4 := yA A40
  clear A40
  have H' := yA H
  clear H
  go_enter Try.func47, Try.ntmps47
  go_wp2_with (first | ((with_reducible refine gate_dst (N := 1) rfl ?_); refine box_event ?hg (N := 1) ?hd (cs := #[.int .i64 a0_0, .int .i64 a0_1, .slice A0_2 l0_2.length c0_2, .slice A0_3 l0_3.length c0_3]) (t := 25) ?hr ?_; (case hd => rfl); (case hg => rfl); (case hr => first | (go_simp; done) | (go_simp; rfl)); intro gb1011 hg w5 hbox hb; have n0_ := yA (zD (mB HB.out) hb); have n1_ := yA (hbox); have n2_ := yA ((by rw [hg]; exact (yX (mB HB.out)) : w.heap.size ≤ gb1011)); have n3_ := yA ((by rw [hg]; exact (yX (mB HB.out)) : w.heap.size ≤ gb1011)); clear HB; have HB := n0_; have BK1011 := n1_; have GW1011 := n2_; have GE1011 := n3_; clear n0_ n1_ n2_ n3_; clear hb hbox hg) | ((with_reducible refine gate_dst (N := 2) rfl ?_); refine box_event ?hg (N := 2) ?hd (cs := #[.int .i64 0, .int .i64 0, .slice none 0 0, .slice none 0 0]) (t := 25) ?hr ?_; (case hd => rfl); (case hg => rfl); (case hr => first | (go_simp; done) | (go_simp; rfl)); intro gb1012 hg w6 hbox hb; have n0_ := yA (yU (mK BK1011.out) hb); have n1_ := yA (zD (by with_reducible repeat first | exact HB.out | apply yO | apply yN | apply yP | refine yQ ?_ GE1011.out) hb); have n2_ := yA (hbox); have n3_ := yA ((by rw [hg]; exact (yX (by with_reducible repeat first | exact HB.out | apply yO | apply yN | apply yP | refine yQ ?_ GE1011.out)) : w.heap.size ≤ gb1012)); have n4_ := yA ((by rw [hg]; exact (yX (by with_reducible repeat first | exact HB.out | apply yO | apply yN | apply yP | refine yQ ?_ GE1011.out)) : w.heap.size ≤ gb1012)); have n5_ := yA ((by rw [hg]; exact Nat.ne_of_lt (zX (mK BK1011.out)) : gb1011 ≠ gb1012)); have n6_ := yA ((by rw [hg]; exact Nat.ne_of_gt (zX (mK BK1011.out)) : gb1012 ≠ gb1011)); clear BK1011; clear HB; have BK1011 := n0_; have HB := n1_; have BK1012 := n2_; have GW1012 := n3_; have GE1012 := n4_; have NB1011_1012 := n5_; have NB1012_1011 := n6_; clear n0_ n1_ n2_ n3_ n4_ n5_ n6_; clear hb hbox hg; have hnb7 := NB1011_1012.out; have hnc7 := NB1012_1011.out; have hcz8_0 : w6.cell? ⟨gb1011, 0, none⟩ = some (.int .i64 a0_0) := (yV BK1011.out 0).trans rfl; have hcz8_1 : w6.cell? ⟨gb1011, 1, none⟩ = some (.int .i64 a0_1) := (yV BK1011.out 1).trans rfl; have hcz8_2 : w6.cell? ⟨gb1011, 2, none⟩ = some (.slice A0_2 l0_2.length c0_2) := (yV BK1011.out 2).trans rfl; have hcz8_3 : w6.cell? ⟨gb1011, 3, none⟩ = some (.slice A0_3 l0_3.length c0_3) := (yV BK1011.out 3).trans rfl; have hfz8_0 := yW BK1011.out 0; have hfz8_1 := yW BK1011.out 1; have hfz8_2 := yW BK1011.out 2; have hfz8_3 := yW BK1011.out 3) | ((with_reducible refine zS (f := 67) rfl ?_); refine goesL_ (some 9) rfl rfl Try.func67 (by kernel_rfl) rfl #[.agg #[.int .i64 a0_0, .int .i64 a0_1, .slice A0_2 l0_2.length c0_2, .slice A0_3 l0_3.length c0_3]] rfl (by (try simp only [zI, zJ, zK]); first | done | rfl | (simp only [zL, zM]; rfl)) ?_; (with_reducible refine (spec_IsRelation.calls k a0_0 a0_1 _ _ l0_2 _ _ l0_3 true _ ?side1 ?side2 ?side3 ?side4 A2.out).mono ?_); (case side1 => exact mC (yM HR0_2.out HB.out)); (case side2 => exact HC0_2.out); (case side3 => exact mC (yM HR0_3.out HB.out)); (case side4 => exact HC0_3.out); rintro e w9 ⟨rfl, hb⟩; refine ⟨_, rfl, ?_⟩; have n0_ := yA (yU (mK BK1011.out) hb); have n1_ := yA (yU (mK BK1012.out) hb); have n2_ := yA (zD (by with_reducible repeat first | exact HB.out | apply yO | apply yN | apply yP | refine yQ ?_ GE1011.out | refine yQ ?_ GE1012.out) hb); clear BK1011; clear BK1012; clear HB; have BK1011 := n0_; have BK1012 := n1_; have HB := n2_; clear n0_ n1_ n2_; (try clear hb); (try clear hb2); (try clear hk); (try clear hi); have hcz10_0 : w9.cell? ⟨gb1011, 0, none⟩ = some (.int .i64 a0_0) := (yV BK1011.out 0).trans rfl; have hcz10_1 : w9.cell? ⟨gb1011, 1, none⟩ = some (.int .i64 a0_1) := (yV BK1011.out 1).trans rfl; have hcz10_2 : w9.cell? ⟨gb1011, 2, none⟩ = some (.slice A0_2 l0_2.length c0_2) := (yV BK1011.out 2).trans rfl; have hcz10_3 : w9.cell? ⟨gb1011, 3, none⟩ = some (.slice A0_3 l0_3.length c0_3) := (yV BK1011.out 3).trans rfl; have hfz10_0 := yW BK1011.out 0; have hfz10_1 := yW BK1011.out 1; have hfz10_2 := yW BK1011.out 2; have hfz10_3 := yW BK1011.out 3) | ((with_reducible refine zS (f := 86) rfl ?_); refine goesL_ (some 13) rfl rfl Try.func86 (by kernel_rfl) rfl #[.agg #[.int .i64 a0_0, .int .i64 a0_1, .slice A0_2 l0_2.length c0_2, .slice A0_3 l0_3.length c0_3]] rfl (by (try simp only [zI, zJ, zK]); first | done | rfl | (simp only [zL, zM]; rfl)) ?_; (with_reducible refine (spec_l13Copy.calls k a0_0 a0_1 _ _ l0_2 _ _ l0_3 t1014 t1015 t1016 t1019 _ ?side1 ?side2 ?side3 ?side4 A4.out).mono ?_); (case side1 => exact mC (yM HR0_2.out HB.out)); (case side2 => exact HC0_2.out); (case side3 => exact mC (yM HR0_3.out HB.out)); (case side4 => exact HC0_3.out); rintro e w11 ⟨v1017, v1020, rfl, ho0, ho1, hb⟩; refine ⟨_, rfl, ?_⟩; have n0_ := yA (Kd.S_lower ho0 (yX (by with_reducible repeat first | exact HB.out | apply yO | apply yN | apply yP | refine yQ ?_ GE1011.out | refine yQ ?_ GE1012.out))); have n1_ := yA (Kd.R_lower ho1 (yX (by with_reducible repeat first | exact HB.out | apply yO | apply yN | apply yP | refine yQ ?_ GE1011.out | refine yQ ?_ GE1012.out))); have n2_ := yA (yU (mK BK1011.out) hb); have n3_ := yA (yU (mK BK1012.out) hb); have n4_ := yA (zD (by with_reducible repeat first | exact HB.out | apply yO | apply yN | apply yP | refine yQ ?_ GE1011.out | refine yQ ?_ GE1012.out) hb); clear BK1011; clear BK1012; clear HB; have HO1018 := n0_; have HO1021 := n1_; have BK1011 := n2_; have BK1012 := n3_; have HB := n4_; clear n0_ n1_ n2_ n3_ n4_; (try clear hb); (try clear hb2); (try clear hk); (try clear hi); (try clear ho0); (try clear ho1)) | ((with_reducible refine gate_dst (N := 4) rfl ?_); refine box_event ?hg (N := 4) ?hd (cs := #[.int .i64 0, .int .i64 0, .slice none 0 0, .slice none 0 0]) (t := 25) ?hr ?_; (case hd => rfl); (case hg => rfl); (case hr => first | (go_simp; done) | (go_simp; rfl)); intro gb1022 hg w12 hbox hb; have n0_ := yA (yL (mS HO1018.out) hb); have n1_ := yA (yK (mR HO1021.out) hb); have n2_ := yA (yU (mK BK1011.out) hb); have n3_ := yA (yU (mK BK1012.out) hb); have n4_ := yA (zD (by with_reducible repeat first | exact HB.out | apply yO | apply yN | apply yP | refine yQ ?_ GE1011.out | refine yQ ?_ GE1012.out) hb); have n5_ := yA (hbox); have n6_ := yA ((by rw [hg]; exact (yX (by with_reducible repeat first | exact HB.out | apply yO | apply yN | apply yP | refine yQ ?_ GE1011.out | refine yQ ?_ GE1012.out)) : w.heap.size ≤ gb1022)); have n7_ := yA ((by rw [hg]; exact (yX (by with_reducible repeat first | exact HB.out | apply yO | apply yN | apply yP | refine yQ ?_ GE1011.out | refine yQ ?_ GE1012.out)) : w.heap.size ≤ gb1022)); have n8_ := yA ((by rw [hg]; exact Nat.ne_of_lt (zX (mK BK1011.out)) : gb1011 ≠ gb1022)); have n9_ := yA ((by rw [hg]; exact Nat.ne_of_gt (zX (mK BK1011.out)) : gb1022 ≠ gb1011)); have n10_ := yA ((by rw [hg]; exact Nat.ne_of_lt (zX (mK BK1012.out)) : gb1012 ≠ gb1022)); have n11_ := yA ((by rw [hg]; exact Nat.ne_of_gt (zX (mK BK1012.out)) : gb1022 ≠ gb1012)); clear HO1018; clear HO1021; clear BK1011; clear BK1012; clear HB; have HO1018 := n0_; have HO1021 := n1_; have BK1011 := n2_; have BK1012 := n3_; have HB := n4_; have BK1022 := n5_; have GW1022 := n6_; have GE1022 := n7_; have NB1011_1022 := n8_; have NB1022_1011 := n9_; have NB1012_1022 := n10_; have NB1022_1012 := n11_; clear n0_ n1_ n2_ n3_ n4_ n5_ n6_ n7_ n8_ n9_ n10_ n11_; clear hb hbox hg; have hnb13 := NB1022_1011.out; have hnc13 := NB1011_1022.out; have hnb14 := NB1022_1012.out; have hnc14 := NB1012_1022.out; have hcz15_0 : w12.cell? ⟨gb1022, 0, none⟩ = some (.int .i64 0) := (yV BK1022.out 0).trans rfl; have hcz15_1 : w12.cell? ⟨gb1022, 1, none⟩ = some (.int .i64 0) := (yV BK1022.out 1).trans rfl; have hcz15_2 : w12.cell? ⟨gb1022, 2, none⟩ = some (.slice none 0 0) := (yV BK1022.out 2).trans rfl; have hcz15_3 : w12.cell? ⟨gb1022, 3, none⟩ = some (.slice none 0 0) := (yV BK1022.out 3).trans rfl; have hfz15_0 := yW BK1022.out 0; have hfz15_1 := yW BK1022.out 1; have hfz15_2 := yW BK1022.out 2; have hfz15_3 := yW BK1022.out 3; obtain ⟨Ao16, co16, eo16⟩ := Kd.S_slice HO1018.out; subst eo16; obtain ⟨Ao17, co17, eo17⟩ := Kd.R_slice HO1021.out; subst eo17))
  go_loopg [5] k (fun kq v5 w' => ∃ (x5_1 : Int) (x1023003_1 : List Bool) (u1023003 : Value), v5 = .int .i64 x5_1 ∧ Aside0 (spec_NotRelation.l0 kq x5_1 a0_0 a0_1 l0_2 l0_3 t1014 t1015 t1016 x1023003_1 = some (r1, r2, r3, r4, r5)) ∧ Aside0 (kq ≤ k) ∧ Aside0 (Kd.S (Kd.slice 3 (Kd.int .i64)) 38 w' w.heap.size (fun _ => True) (.slice Ao16 t1016.length co16) t1016) ∧ Aside0 (Kd.R Kd.bool 4 w' w.heap.size (fun _ => True) u1023003 x1023003_1) ∧ Aside0 (w'.heap[gb1011]? = some (.cells #[.int .i64 a0_0, .int .i64 a0_1, (.slice A0_2 l0_2.length c0_2), (.slice A0_3 l0_3.length c0_3)] 25 (0, 0))) ∧ Aside0 (w'.heap[gb1012]? = some (.cells #[.int .i64 0, .int .i64 0, (.slice none 0 0), (.slice none 0 0)] 25 (0, 0))) ∧ Aside0 (w'.heap[gb1022]? = some (.cells #[.int .i64 t1014, .int .i64 t1015, (.slice Ao16 t1016.length co16), u1023003] 25 (0, 0))) ∧ Aside0 (Below w.heap.size w w'))
  case atStart => exact ⟨(0), (t1019), (.slice Ao17 t1019.length co17), (by first | rfl | (simp; done) | (simp [*]; done)), H', ⟨zT _⟩, ⟨by (with_reducible repeat (first | apply yH | apply yI | apply yJ)); exact Kd.S_mono (Kd.S_far (p := ⟨gb1022, 3, none⟩) (Kd.S_far (p := ⟨gb1022, 2, none⟩) (Kd.S_far (p := ⟨gb1022, 1, none⟩) (Kd.S_far (p := ⟨gb1022, 0, none⟩) (Kd.S_types HO1018.out BK1022.out (by decide)) (fun _ hk => hk.2) (.int .i64 t1014)) (fun _ hk => hk.2) (.int .i64 t1015)) (fun _ hk => hk.2) (.slice Ao16 t1016.length co16)) (fun _ hk => hk.2) (.slice Ao17 t1019.length co17)) (fun _ hk => trivial)⟩, ⟨by (with_reducible repeat (first | apply yB | apply yC | apply yD)); exact zP (zQ (p := ⟨gb1022, 3, none⟩) (zQ (p := ⟨gb1022, 2, none⟩) (zQ (p := ⟨gb1022, 1, none⟩) (zQ (p := ⟨gb1022, 0, none⟩) (zR HO1021.out BK1022.out (by decide)) (fun _ hk => hk.2) (.int .i64 t1014)) (fun _ hk => hk.2) (.int .i64 t1015)) (fun _ hk => hk.2) (.slice Ao16 t1016.length co16)) (fun _ hk => hk.2) (.slice Ao17 t1019.length co17)) (fun _ hk => trivial)⟩, ⟨by (with_reducible repeat (first | refine yS ?_ _ | refine yT ?_ | refine yR ?_ _)); refine blk_far ?_ NB1011_1022.out _; (with_reducible repeat (first | refine yS ?_ _ | refine yT ?_ | refine yR ?_ _)); refine blk_far ?_ NB1011_1022.out _; (with_reducible repeat (first | refine yS ?_ _ | refine yT ?_ | refine yR ?_ _)); refine blk_far ?_ NB1011_1022.out _; (with_reducible repeat (first | refine yS ?_ _ | refine yT ?_ | refine yR ?_ _)); refine blk_far ?_ NB1011_1022.out _; (with_reducible repeat (first | refine yS ?_ _ | refine yT ?_ | refine yR ?_ _)); exact BK1011.out⟩, ⟨by (with_reducible repeat (first | refine yS ?_ _ | refine yT ?_ | refine yR ?_ _)); refine blk_far ?_ NB1012_1022.out _; (with_reducible repeat (first | refine yS ?_ _ | refine yT ?_ | refine yR ?_ _)); refine blk_far ?_ NB1012_1022.out _; (with_reducible repeat (first | refine yS ?_ _ | refine yT ?_ | refine yR ?_ _)); refine blk_far ?_ NB1012_1022.out _; (with_reducible repeat (first | refine yS ?_ _ | refine yT ?_ | refine yR ?_ _)); refine blk_far ?_ NB1012_1022.out _; (with_reducible repeat (first | refine yS ?_ _ | refine yT ?_ | refine yR ?_ _)); exact BK1012.out⟩, ⟨by (with_reducible repeat (first | refine yS ?_ _ | refine yT ?_ | refine yR ?_ _)); refine blk_put (cs := #[.int .i64 t1014, .int .i64 t1015, .slice Ao16 t1016.length co16, .slice none 0 0]) ?_ 3 _ rfl; (with_reducible repeat (first | refine yS ?_ _ | refine yT ?_ | refine yR ?_ _)); refine blk_put (cs := #[.int .i64 t1014, .int .i64 t1015, .slice none 0 0, .slice none 0 0]) ?_ 2 _ rfl; (with_reducible repeat (first | refine yS ?_ _ | refine yT ?_ | refine yR ?_ _)); refine blk_put (cs := #[.int .i64 t1014, .int .i64 0, .slice none 0 0, .slice none 0 0]) ?_ 1 _ rfl; (with_reducible repeat (first | refine yS ?_ _ | refine yT ?_ | refine yR ?_ _)); refine blk_put (cs := #[.int .i64 0, .int .i64 0, .slice none 0 0, .slice none 0 0]) ?_ 0 _ rfl; (with_reducible repeat (first | refine yS ?_ _ | refine yT ?_ | refine yR ?_ _)); exact BK1022.out⟩, ⟨by repeat (first | (with_reducible first | exact HB.out | apply yO | apply yN | apply yP | refine yQ ?_ GE1011.out | refine yQ ?_ GE1012.out | refine yQ ?_ GE1022.out) | exact HB.out)⟩⟩
  case round =>
   clear H'
   try clear c1
   try clear p2
   try clear c3
   try clear c4
   try clear c6
   try clear c7
   try clear c8
   try clear c13
   try clear c14
   try clear hcz10_0
   try clear hcz10_1
   try clear hcz10_2
   try clear hcz10_3
   try clear hcz15_0
   try clear hcz15_1
   try clear hcz15_2
   try clear hcz15_3
   try clear hcz8_0
   try clear hcz8_1
   try clear hcz8_2
   try clear hcz8_3
   try clear hfz10_0
   try clear hfz10_1
   try clear hfz10_2
   try clear hfz10_3
   try clear hfz15_0
   try clear hfz15_1
   try clear hfz15_2
   try clear hfz15_3
   try clear hfz8_0
   try clear hfz8_1
   try clear hfz8_2
   try clear hfz8_3
   obtain ⟨x5_1, x1023003_1, u1023003, rfl, HA, HK1, HO_1023002, HO_1023003, BK1011, BK1012, BK1022, HB⟩ := hrel
   cases gk with
   | zero => exact absurd HA.out (by simp [spec_NotRelation.l0])
   | succ k1 =>
    have H := HA.out
    clear HA
    simp only [spec_NotRelation.l0] at H
    by_cases c18 : x5_1 < (x1023003_1.length : Int)
    ·rw [if_pos c18] at H
     have c18b0 : decide (x5_1 < (x1023003_1.length : Int)) = true := zH c18
     clear c18
     by_cases c19 : 0 ≤ x5_1
     ·rw [if_pos c19] at H
      have c19b0 : decide (0 ≤ x5_1) = true := zH c19
      clear c19
      by_cases c20 : x5_1 < (l0_3.length : Int)
      ·rw [if_pos c20] at H
       have c20b0 : decide (x5_1 < (l0_3.length : Int)) = true := zH c20
       clear c20
       obtain ⟨y1024, hy1024⟩ : ∃ y_ : List Bool, y_ = (x1023003_1.set (x5_1 : Int).toNat (!(rdOf false l0_3 x5_1))) := ⟨_, rfl⟩
       replace H : (spec_NotRelation.l0 k1 (wrap64 (x5_1 + 1)) a0_0 a0_1 l0_2 l0_3 t1014 t1015 t1016 y1024) = some (r1, r2, r3, r4, r5) := by first | (rw [hy1024]; with_reducible exact H) | (have H2_ := (Option.bind_some _ _).symm.trans H; rw [hy1024]; with_reducible exact H2_) | (have H2_ := (Option.bind_some _ _).symm.trans H; with_reducible exact H2_) | with_reducible exact H | (rw [hy1024]; exact H) | exact H
       have Ny1024 := yA hy1024
       clear hy1024
       have H' := yA H
       clear H
       have hnb22 := NB1022_1011.out
       have hnc22 := NB1011_1022.out
       have hnb23 := NB1022_1012.out
       have hnc23 := NB1012_1022.out
       have hcz24_0 : wr.cell? ⟨gb1022, 0, none⟩ = some (.int .i64 t1014) := (yV BK1022.out 0).trans rfl
       have hcz24_1 : wr.cell? ⟨gb1022, 1, none⟩ = some (.int .i64 t1015) := (yV BK1022.out 1).trans rfl
       have hcz24_2 : wr.cell? ⟨gb1022, 2, none⟩ = some (.slice Ao16 t1016.length co16) := (yV BK1022.out 2).trans rfl
       have hcz24_3 : wr.cell? ⟨gb1022, 3, none⟩ = some (u1023003) := (yV BK1022.out 3).trans rfl
       have hfz24_0 := yW BK1022.out 0
       have hfz24_1 := yW BK1022.out 1
       have hfz24_2 := yW BK1022.out 2
       have hfz24_3 := yW BK1022.out 3
       obtain ⟨Ao25, co25, eo25⟩ := Kd.R_slice HO_1023003.out
       subst eo25
       try go_wp2
       have n0_ := yA (yJ HO_1023002.out)
       have n1_ := yA (yD HO_1023003.out)
       have n2_ := yA (yT BK1011.out)
       have n3_ := yA (yT BK1012.out)
       have n4_ := yA (yT BK1022.out)
       have n5_ := yA (yP HB.out)
       clear HO_1023002
       clear HO_1023003
       clear BK1011
       clear BK1012
       clear BK1022
       clear HB
       have HO_1023002 := n0_
       have HO_1023003 := n1_
       have BK1011 := n2_
       have BK1012 := n3_
       have BK1022 := n4_
       have HB := n5_
       clear n0_ n1_ n2_ n3_ n4_ n5_
       have p1023 : 0 ≤ (x5_1 : Int) := zG (by first | (with_reducible assumption) | assumption)
       have q1023 : x5_1 < (l0_3.length : Int) := zG (by first | (with_reducible assumption) | assumption)
       obtain ⟨ad1023, e1023, hx1023_0⟩ := Kd.at_bool HR0_3.out x5_1 p1023 q1023
       have hw1023_0 := hx1023_0
       cases e1023
       try replace hx1023_0 := (HB.out.cell (zE w _ hx1023_0)).trans hx1023_0
       replace p1023 := eq_true p1023
       replace q1023 := eq_true q1023
       have p21 : 0 ≤ (x5_1 : Int) := zG (by first | (with_reducible assumption) | assumption)
       have q21 : (x5_1 : Int) < ((x1023003_1.length : Int) : Int) := zG (by first | (with_reducible assumption) | assumption)
       obtain ⟨go21, co21, eo21, gb21, gl21, cl21, HG21⟩ := Kd.R_form HO_1023003.out (by omega)
       (first | cases eo21 | (injection eo21 with ea_ en_ ec_; (first | subst ea_ | (injection ea_ with ea_; subst ea_)); subst ec_; clear en_))
       have GB21 := yA gb21
       have GG21 := yA HG21
       clear gb21 gl21 HG21
       obtain ⟨hx21_0, hf21_0⟩ := Kd.R_celln false HO_1023003.out (x5_1 : Int) p21 q21
       replace p21 := eq_true p21
       replace q21 := eq_true q21
       have HP27 := Kd.R_putn HO_1023003.out (x5_1 : Int) (!(rdOf false l0_3 x5_1))
       rw [← Ny1024.out] at HP27
       have HQ27 := yA HP27
       clear HP27
       refine start_ (n := 11) (S := fun w' => w'.cell? ⟨gb1022, 0, none⟩ = some (.int .i64 t1014) ∧ w'.cell? ⟨gb1022, 1, none⟩ = some (.int .i64 t1015) ∧ w'.cell? ⟨gb1022, 2, none⟩ = some (.slice Ao16 t1016.length co16) ∧ w'.cell? ⟨gb1022, 3, none⟩ = some (.slice (some ⟨go21, 0, none⟩) x1023003_1.length co25) ∧ w'.cell? ⟨gb1011, 0, none⟩ = some (.int .i64 a0_0) ∧ w'.cell? ⟨gb1011, 1, none⟩ = some (.int .i64 a0_1) ∧ w'.cell? ⟨gb1011, 2, none⟩ = some (.slice A0_2 l0_2.length c0_2) ∧ w'.cell? ⟨gb1011, 3, none⟩ = some (.slice (some ad1023) l0_3.length c0_3) ∧ w'.cell? (ad1023.add (x5_1).toNat) = some (.bool (rdOf false l0_3 x5_1))) (ds := [10]) #[false, false, false, false, false, false, false, false, false, false, false] (by kernel_rfl) rfl rfl ⟨(yV BK1022.out 0).trans rfl, (yV BK1022.out 1).trans rfl, (yV BK1022.out 2).trans rfl, (yV BK1022.out 3).trans rfl, (yV BK1011.out 0).trans rfl, (yV BK1011.out 1).trans rfl, (yV BK1011.out 2).trans rfl, (yV BK1011.out 3).trans rfl, ((HB.out.cell (zE w _ hw1023_0)).trans hw1023_0)⟩ (fun hHeld => ?_); refine with_tabW spec_NotRelation.tab7 spec_NotRelation.bits7 (fun HT_ HW_ => ?_)
       generalize wr.drew = w26 at HO_1023002 HO_1023003 BK1011 BK1012 BK1022 HB GG21 HQ27 hf21_0 hx1023_0 hx21_0 hHeld ⊢
       refine pure_ (i := 0) (N := some 21) (v := ?_) (a' := ?_) #[true, false, false, false, false, false, false, false, false, false, false] rfl rfl (any_of HT_.out (by kernel_rfl)) (fun _ _ _ h => h) (Or.inl ⟨by rfl, ?_⟩) ?_ ?_
       rotate_left
       ·intro w'
        go_simp
        with_reducible rfl
       rotate_left
       ·simp only [Act.put, zA, zB, zC, i64_w, i32_w]
        rfl
       refine pure_ (i := 2) (N := some 23) (v := ?_) (a' := ?_) #[true, false, true, false, false, false, false, false, false, false, false] rfl rfl (any_of HT_.out (by kernel_rfl)) (fun _ _ _ h => h) (Or.inl ⟨by rfl, ?_⟩) ?_ ?_
       rotate_left
       ·intro w'
        go_simp
        with_reducible rfl
       rotate_left
       ·simp only [Act.put, zA, zB, zC, i64_w, i32_w]
        rfl
       refine pure_ (i := 3) (N := some 24) (v := ?_) (a' := ?_) #[true, false, true, true, false, false, false, false, false, false, false] rfl rfl (any_of HT_.out (by kernel_rfl)) (fun _ _ _ h => h) (Or.inl ⟨by rfl, ?_⟩) ?_ ?_
       rotate_left
       ·intro w'
        go_simp
        with_reducible rfl
       rotate_left
       ·simp only [Act.put, zA, zB, zC, i64_w, i32_w]
        rfl
       refine pure_ (i := 5) (N := some 26) (v := ?_) (a' := ?_) #[true, false, true, true, false, true, false, false, false, false, false] rfl rfl (any_of HT_.out (by kernel_rfl)) (fun _ _ _ h => h) (Or.inl ⟨by rfl, ?_⟩) ?_ ?_
       rotate_left
       ·intro w'
        go_simp
        with_reducible rfl
       rotate_left
       ·simp only [Act.put, zA, zB, zC, i64_w, i32_w]
        rfl
       refine take_ (i := 1) (N := some 22) (v := ?_) (a' := ?_) #[true, true, true, true, false, true, false, false, false, false, false] rfl rfl (take_ofW HT_.out HW_.out (by kernel_rfl)) (fun _ _ _ h => h) (Or.inl ⟨by rfl, ?_⟩) hHeld ?_ ?_
       rotate_left
       ·rintro w' ⟨s0, s1, s2, s3, s4, s5, s6, s7, s8⟩
        go_simp
        with_reducible rfl
       rotate_left
       ·simp only [Act.put, zA, zB, zC, i64_w, i32_w]
        rfl
       refine take_ (i := 4) (N := some 25) (v := ?_) (a' := ?_) #[true, true, true, true, true, true, false, false, false, false, false] rfl rfl (take_ofW HT_.out HW_.out (by kernel_rfl)) (fun _ _ _ h => h) (Or.inl ⟨by rfl, ?_⟩) hHeld ?_ ?_
       rotate_left
       ·rintro w' ⟨s0, s1, s2, s3, s4, s5, s6, s7, s8⟩
        go_simp
        with_reducible rfl
       rotate_left
       ·simp only [Act.put, zA, zB, zC, i64_w, i32_w]
        rfl
       refine pure_ (i := 6) (N := some 27) (v := ?_) (a' := ?_) #[true, true, true, true, true, true, true, false, false, false, false] rfl rfl (any_of HT_.out (by kernel_rfl)) (fun _ _ _ h => h) (Or.inl ⟨by rfl, ?_⟩) ?_ ?_
       rotate_left
       ·intro w'
        go_simp
        with_reducible rfl
       rotate_left
       ·simp only [Act.put, zA, zB, zC, i64_w, i32_w]
        rfl
       refine take_ (i := 7) (N := some 28) (v := ?_) (a' := ?_) #[true, true, true, true, true, true, true, true, false, false, false] rfl rfl (take_ofW HT_.out HW_.out (by kernel_rfl)) (fun _ _ _ h => h) (Or.inl ⟨by rfl, ?_⟩) hHeld ?_ ?_
       rotate_left
       ·rintro w' ⟨s0, s1, s2, s3, s4, s5, s6, s7, s8⟩
        go_simp
        with_reducible rfl
       rotate_left
       ·simp only [Act.put, zA, zB, zC, i64_w, i32_w]
        rfl
       refine pure_ (i := 8) (N := some 29) (v := ?_) (a' := ?_) #[true, true, true, true, true, true, true, true, true, false, false] rfl rfl (any_of HT_.out (by kernel_rfl)) (fun _ _ _ h => h) (Or.inl ⟨by rfl, ?_⟩) ?_ ?_
       rotate_left
       ·intro w'
        go_simp
        with_reducible rfl
       rotate_left
       ·simp only [Act.put, zA, zB, zC, i64_w, i32_w]
        rfl
       refine pure_ (i := 9) (N := some 30) (v := ?_) (a' := ?_) #[true, true, true, true, true, true, true, true, true, true, false] rfl rfl (any_of HT_.out (by kernel_rfl)) (fun _ _ _ h => h) (Or.inl ⟨by rfl, ?_⟩) ?_ ?_
       rotate_left
       ·intro w'
        go_simp
        with_reducible rfl
       rotate_left
       ·simp only [Act.put, zA, zB, zC, i64_w, i32_w]
        rfl
       refine last_ (i := 10) (N := none) #[true, true, true, true, true, true, true, true, true, true, true] rfl rfl (one_of HT_.out (by kernel_rfl)) (by decide) (fun K hK => ?_)
       refine skip_ (w1 := ?_) (by rfl) rfl ?_ ?_
       rotate_left
       ·go_simp
        rfl
       refine hK.out _ _ ?_
       clear hK K
       refine done_ (done_of HT_.out (by kernel_rfl)) ?_
       try go_wp2
       go_roundg k1
       case measure => have := HK1.out; omega
       case rel => exact ⟨(wrap64 (x5_1 + 1)), (y1024), (.slice (some ⟨go21, 0, none⟩) x1023003_1.length co25), (by first | rfl | (simp; done) | (simp [*]; done)), H', ⟨by have := HK1.out; omega⟩, ⟨by (with_reducible repeat (first | apply yH | apply yI | apply yJ)); exact Kd.S_mono (Kd.S_far (p := ⟨go21, (x5_1 : Int).toNat, none⟩) (Kd.S_types HO_1023002.out GG21.out (by decide)) (fun _ hk => hk.2) (.bool (!(rdOf false l0_3 x5_1)))) (fun _ hk => trivial)⟩, ⟨by (with_reducible repeat (first | apply yB | apply yC | apply yD)); exact HQ27.out⟩, ⟨by (with_reducible repeat (first | refine yS ?_ _ | refine yT ?_ | refine yR ?_ _)); refine blk_far ?_ (by have h_ := zW HO_1023003.out BK1011.out (by decide); intro e_; exact h_ (by rw [e_]; rfl)) _; (with_reducible repeat (first | refine yS ?_ _ | refine yT ?_ | refine yR ?_ _)); exact BK1011.out⟩, ⟨by (with_reducible repeat (first | refine yS ?_ _ | refine yT ?_ | refine yR ?_ _)); refine blk_far ?_ (by have h_ := zW HO_1023003.out BK1012.out (by decide); intro e_; exact h_ (by rw [e_]; rfl)) _; (with_reducible repeat (first | refine yS ?_ _ | refine yT ?_ | refine yR ?_ _)); exact BK1012.out⟩, ⟨by (with_reducible repeat (first | refine yS ?_ _ | refine yT ?_ | refine yR ?_ _)); refine blk_far ?_ (by have h_ := zW HO_1023003.out BK1022.out (by decide); intro e_; exact h_ (by rw [e_]; rfl)) _; (with_reducible repeat (first | refine yS ?_ _ | refine yT ?_ | refine yR ?_ _)); exact BK1022.out⟩, ⟨by repeat (first | (with_reducible first | exact HB.out | apply yO | apply yN | apply yP | refine yQ ?_ GB21.out | refine yQ ?_ GE1011.out | refine yQ ?_ GE1012.out | refine yQ ?_ GE1022.out) | exact HB.out)⟩⟩
      ·rw [if_neg c20] at H
       exact absurd H (by simp)
     ·rw [if_neg c19] at H
      exact absurd H (by simp)
    ·rw [if_neg c18] at H
     have c18b0 : decide (x5_1 < (x1023003_1.length : Int)) = false := decide_eq_false c18
     clear c18
     replace H := Option.bind_eq_some_iff.mp H
     obtain ⟨⟨t1025, t1026, t1027, t1030, t1033⟩, A280, H⟩ := H
     replace H : (some (t1025, t1026, t1027, t1030, t1033)) = some (r1, r2, r3, r4, r5) := H
     have A28 := yA A280
     clear A280
     simp only [Option.some.injEq, Prod.mk.injEq] at H
     obtain ⟨rfl, rfl, rfl, rfl, rfl⟩ := H
     have hnb29 := NB1022_1011.out
     have hnc29 := NB1011_1022.out
     have hnb30 := NB1022_1012.out
     have hnc30 := NB1012_1022.out
     have hcz31_0 : wr.cell? ⟨gb1022, 0, none⟩ = some (.int .i64 t1014) := (yV BK1022.out 0).trans rfl
     have hcz31_1 : wr.cell? ⟨gb1022, 1, none⟩ = some (.int .i64 t1015) := (yV BK1022.out 1).trans rfl
     have hcz31_2 : wr.cell? ⟨gb1022, 2, none⟩ = some (.slice Ao16 t1016.length co16) := (yV BK1022.out 2).trans rfl
     have hcz31_3 : wr.cell? ⟨gb1022, 3, none⟩ = some (u1023003) := (yV BK1022.out 3).trans rfl
     have hfz31_0 := yW BK1022.out 0
     have hfz31_1 := yW BK1022.out 1
     have hfz31_2 := yW BK1022.out 2
     have hfz31_3 := yW BK1022.out 3
     obtain ⟨Ao32, co32, eo32⟩ := Kd.R_slice HO_1023003.out
     subst eo32
     go_wp2_with (first | ((with_reducible refine zS (f := 45) rfl ?_); refine goesL_ (some 33) rfl rfl Try.func45 (by kernel_rfl) rfl #[.agg #[.int .i64 t1014, .int .i64 t1015, .slice Ao16 t1016.length co16, .slice Ao32 x1023003_1.length co32]] rfl (by (try simp only [zI, zJ, zK]); first | done | rfl | (simp only [zL, zM]; rfl)) ?_; (with_reducible refine (spec_ReducedRelation.calls k1 t1014 t1015 _ _ t1016 _ _ x1023003_1 t1025 t1026 t1027 t1030 t1033 _ ?side1 ?side2 ?side3 ?side4 A28.out).mono ?_); (case side1 => exact mC ((Kd.S_reads' HO_1023002.out).2.2)); (case side2 => exact (Kd.S_reads' HO_1023002.out).2.1); (case side3 => exact mC ((zN HO_1023003.out).2.2)); (case side4 => exact (zN HO_1023003.out).2.1); rintro e w33 ⟨v1028, v1031, rfl, ho0, ho1, hb⟩; refine ⟨_, rfl, ?_⟩; have n0_ := yA (Kd.S_elder' (mS HO_1023002.out) (Kd.S_base ho0) hb); have n1_ := yA (zO (mR HO_1023003.out) (yY ho1) hb); have n2_ := yA (Kd.S_lower (Kd.S_new' ho0 (Kd.S_lt (mS HO_1023002.out))) (yX (by with_reducible repeat first | exact HB.out | apply yO | apply yN | apply yP | refine yQ ?_ GE1011.out | refine yQ ?_ GE1012.out | refine yQ ?_ GE1022.out))); have n3_ := yA (Kd.R_lower (Kd.R_new' ho1 (yZ (mR HO_1023003.out))) (yX (by with_reducible repeat first | exact HB.out | apply yO | apply yN | apply yP | refine yQ ?_ GE1011.out | refine yQ ?_ GE1012.out | refine yQ ?_ GE1022.out))); have n4_ := yA (yU (mK BK1011.out) hb); have n5_ := yA (yU (mK BK1012.out) hb); have n6_ := yA (yU (mK BK1022.out) hb); have n7_ := yA (zD (by with_reducible repeat first | exact HB.out | apply yO | apply yN | apply yP | refine yQ ?_ GE1011.out | refine yQ ?_ GE1012.out | refine yQ ?_ GE1022.out) hb); clear HO_1023002; clear HO_1023003; clear BK1011; clear BK1012; clear BK1022; clear HB; have HO_1023002 := n0_; have HO_1023003 := n1_; have HO1029 := n2_; have HO1032 := n3_; have BK1011 := n4_; have BK1012 := n5_; have BK1022 := n6_; have HB := n7_; clear n0_ n1_ n2_ n3_ n4_ n5_ n6_ n7_; (try clear hb); (try clear hb2); (try clear hk); (try clear hi); (try clear ho0); (try clear ho1)) | ((with_reducible refine gate_dst (N := 6) rfl ?_); refine box_event ?hg (N := 6) ?hd (cs := #[.int .i64 0, .int .i64 0, .slice none 0 0, .slice none 0 0]) (t := 25) ?hr ?_; (case hd => rfl); (case hg => rfl); (case hr => first | (go_simp; done) | (go_simp; rfl)); intro gb1034 hg w34 hbox hb; have n0_ := yA (yL (mS HO_1023002.out) hb); have n1_ := yA (yK (mR HO_1023003.out) hb); have n2_ := yA (yL (mS HO1029.out) hb); have n3_ := yA (yK (mR HO1032.out) hb); have n4_ := yA (yU (mK BK1011.out) hb); have n5_ := yA (yU (mK BK1012.out) hb); have n6_ := yA (yU (mK BK1022.out) hb); have n7_ := yA (zD (by with_reducible repeat first | exact HB.out | apply yO | apply yN | apply yP | refine yQ ?_ GE1011.out | refine yQ ?_ GE1012.out | refine yQ ?_ GE1022.out) hb); have n8_ := yA (hbox); have n9_ := yA ((by rw [hg]; exact (yX (by with_reducible repeat first | exact HB.out | apply yO | apply yN | apply yP | refine yQ ?_ GE1011.out | refine yQ ?_ GE1012.out | refine yQ ?_ GE1022.out)) : w.heap.size ≤ gb1034)); have n10_ := yA ((by rw [hg]; exact (yX (by with_reducible repeat first | exact HB.out | apply yO | apply yN | apply yP | refine yQ ?_ GE1011.out | refine yQ ?_ GE1012.out | refine yQ ?_ GE1022.out)) : w.heap.size ≤ gb1034)); have n11_ := yA ((by rw [hg]; exact Nat.ne_of_lt (zX (mK BK1011.out)) : gb1011 ≠ gb1034)); have n12_ := yA ((by rw [hg]; exact Nat.ne_of_gt (zX (mK BK1011.out)) : gb1034 ≠ gb1011)); have n13_ := yA ((by rw [hg]; exact Nat.ne_of_lt (zX (mK BK1012.out)) : gb1012 ≠ gb1034)); have n14_ := yA ((by rw [hg]; exact Nat.ne_of_gt (zX (mK BK1012.out)) : gb1034 ≠ gb1012)); have n15_ := yA ((by rw [hg]; exact Nat.ne_of_lt (zX (mK BK1022.out)) : gb1022 ≠ gb1034)); have n16_ := yA ((by rw [hg]; exact Nat.ne_of_gt (zX (mK BK1022.out)) : gb1034 ≠ gb1022)); clear HO_1023002; clear HO_1023003; clear HO1029; clear HO1032; clear BK1011; clear BK1012; clear BK1022; clear HB; have HO_1023002 := n0_; have HO_1023003 := n1_; have HO1029 := n2_; have HO1032 := n3_; have BK1011 := n4_; have BK1012 := n5_; have BK1022 := n6_; have HB := n7_; have BK1034 := n8_; have GW1034 := n9_; have GE1034 := n10_; have NB1011_1034 := n11_; have NB1034_1011 := n12_; have NB1012_1034 := n13_; have NB1034_1012 := n14_; have NB1022_1034 := n15_; have NB1034_1022 := n16_; clear n0_ n1_ n2_ n3_ n4_ n5_ n6_ n7_ n8_ n9_ n10_ n11_ n12_ n13_ n14_ n15_ n16_; clear hb hbox hg; have hnb35 := NB1034_1011.out; have hnc35 := NB1011_1034.out; have hnb36 := NB1034_1012.out; have hnc36 := NB1012_1034.out; have hnb37 := NB1034_1022.out; have hnc37 := NB1022_1034.out; have hcz38_0 : w34.cell? ⟨gb1034, 0, none⟩ = some (.int .i64 0) := (yV BK1034.out 0).trans rfl; have hcz38_1 : w34.cell? ⟨gb1034, 1, none⟩ = some (.int .i64 0) := (yV BK1034.out 1).trans rfl; have hcz38_2 : w34.cell? ⟨gb1034, 2, none⟩ = some (.slice none 0 0) := (yV BK1034.out 2).trans rfl; have hcz38_3 : w34.cell? ⟨gb1034, 3, none⟩ = some (.slice none 0 0) := (yV BK1034.out 3).trans rfl; have hfz38_0 := yW BK1034.out 0; have hfz38_1 := yW BK1034.out 1; have hfz38_2 := yW BK1034.out 2; have hfz38_3 := yW BK1034.out 3; obtain ⟨Ao39, co39, eo39⟩ := Kd.S_slice HO1029.out; subst eo39; obtain ⟨Ao40, co40, eo40⟩ := Kd.R_slice HO1032.out; subst eo40; have hnb41 := NB1012_1011.out; have hnc41 := NB1011_1012.out; have hcz42_0 : w34.cell? ⟨gb1012, 0, none⟩ = some (.int .i64 0) := (yV BK1012.out 0).trans rfl; have hcz42_1 : w34.cell? ⟨gb1012, 1, none⟩ = some (.int .i64 0) := (yV BK1012.out 1).trans rfl; have hcz42_2 : w34.cell? ⟨gb1012, 2, none⟩ = some (.slice none 0 0) := (yV BK1012.out 2).trans rfl; have hcz42_3 : w34.cell? ⟨gb1012, 3, none⟩ = some (.slice none 0 0) := (yV BK1012.out 3).trans rfl; have hfz42_0 := yW BK1012.out 0; have hfz42_1 := yW BK1012.out 1; have hfz42_2 := yW BK1012.out 2; have hfz42_3 := yW BK1012.out 3))
     refine bodyPost_ret (results_ct rfl _ _ gb1012 25 #[.int .i64 t1025, .int .i64 t1026, .slice Ao39 t1027.length co39, .slice Ao40 t1030.length co40] (0, 0) _ rfl (by (with_reducible repeat (first | refine yS ?_ _ | refine yT ?_ | refine yR ?_ _)); refine blk_put (cs := #[.int .i64 t1025, .int .i64 t1026, .slice Ao39 t1027.length co39, .slice none 0 0]) ?_ 3 _ rfl; (with_reducible repeat (first | refine yS ?_ _ | refine yT ?_ | refine yR ?_ _)); refine blk_put (cs := #[.int .i64 t1025, .int .i64 t1026, .slice none 0 0, .slice none 0 0]) ?_ 2 _ rfl; (with_reducible repeat (first | refine yS ?_ _ | refine yT ?_ | refine yR ?_ _)); refine blk_put (cs := #[.int .i64 t1025, .int .i64 0, .slice none 0 0, .slice none 0 0]) ?_ 1 _ rfl; (with_reducible repeat (first | refine yS ?_ _ | refine yT ?_ | refine yR ?_ _)); refine blk_put (cs := #[.int .i64 0, .int .i64 0, .slice none 0 0, .slice none 0 0]) ?_ 0 _ rfl; (with_reducible repeat (first | refine yS ?_ _ | refine yT ?_ | refine yR ?_ _)); refine blk_far ?_ NB1012_1034.out _; (with_reducible repeat (first | refine yS ?_ _ | refine yT ?_ | refine yR ?_ _)); refine blk_far ?_ NB1012_1034.out _; (with_reducible repeat (first | refine yS ?_ _ | refine yT ?_ | refine yR ?_ _)); refine blk_far ?_ NB1012_1034.out _; (with_reducible repeat (first | refine yS ?_ _ | refine yT ?_ | refine yR ?_ _)); refine blk_far ?_ NB1012_1034.out _; (with_reducible repeat (first | refine yS ?_ _ | refine yT ?_ | refine yR ?_ _)); exact BK1012.out) Try.underlying25 rfl (by kernel_rfl)) rfl ?_
     exact ⟨_, _, by first | rfl | (simp [errW_none, errW_some] <;> rfl) | (simp [*, errW_none, errW_some] <;> rfl), by (with_reducible repeat (first | apply yH | apply yI | apply yJ)); exact Kd.S_mono (Kd.S_far (p := ⟨gb1012, 3, none⟩) (Kd.S_far (p := ⟨gb1012, 2, none⟩) (Kd.S_far (p := ⟨gb1012, 1, none⟩) (Kd.S_far (p := ⟨gb1012, 0, none⟩) (Kd.S_far (p := ⟨gb1034, 3, none⟩) (Kd.S_far (p := ⟨gb1034, 2, none⟩) (Kd.S_far (p := ⟨gb1034, 1, none⟩) (Kd.S_far (p := ⟨gb1034, 0, none⟩) (Kd.S_types (Kd.S_types HO1029.out BK1034.out (by decide)) BK1012.out (by decide)) (fun _ hk => hk.1.2) (.int .i64 t1025)) (fun _ hk => hk.1.2) (.int .i64 t1026)) (fun _ hk => hk.1.2) (.slice Ao39 t1027.length co39)) (fun _ hk => hk.1.2) (.slice Ao40 t1030.length co40)) (fun _ hk => hk.2) (.int .i64 t1025)) (fun _ hk => hk.2) (.int .i64 t1026)) (fun _ hk => hk.2) (.slice Ao39 t1027.length co39)) (fun _ hk => hk.2) (.slice Ao40 t1030.length co40)) (fun _ hk => trivial), by (with_reducible repeat (first | apply yB | apply yC | apply yD)); exact zP (zQ (p := ⟨gb1012, 3, none⟩) (zQ (p := ⟨gb1012, 2, none⟩) (zQ (p := ⟨gb1012, 1, none⟩) (zQ (p := ⟨gb1012, 0, none⟩) (zQ (p := ⟨gb1034, 3, none⟩) (zQ (p := ⟨gb1034, 2, none⟩) (zQ (p := ⟨gb1034, 1, none⟩) (zQ (p := ⟨gb1034, 0, none⟩) (zR (zR HO1032.out BK1034.out (by decide)) BK1012.out (by decide)) (fun _ hk => hk.1.2) (.int .i64 t1025)) (fun _ hk => hk.1.2) (.int .i64 t1026)) (fun _ hk => hk.1.2) (.slice Ao39 t1027.length co39)) (fun _ hk => hk.1.2) (.slice Ao40 t1030.length co40)) (fun _ hk => hk.2) (.int .i64 t1025)) (fun _ hk => hk.2) (.int .i64 t1026)) (fun _ hk => hk.2) (.slice Ao39 t1027.length co39)) (fun _ hk => hk.2) (.slice Ao40 t1030.length co40)) (fun _ hk => trivial), by repeat (first | (with_reducible first | exact HB.out | apply yO | apply yN | apply yP | refine yQ ?_ GE1011.out | refine yQ ?_ GE1012.out | refine yQ ?_ GE1022.out | refine yQ ?_ GE1034.out) | exact HB.out)⟩
 ·replace c3 := Bool.eq_false_iff.mpr c3
  subst c3
  have H1 : (some (0, 0, ([] : List (List Int)), ([] : List Bool), false)) = some (r1, r2, r3, r4, r5) := by rw [if_neg (show ¬ (false = true) by decide)] at H; exact H
  clear H
  have H := H1
  clear H1
  simp only [Option.some.injEq, Prod.mk.injEq] at H
  obtain ⟨rfl, rfl, rfl, rfl, rfl⟩ := H
  go_enter Try.func47, Try.ntmps47
  go_wp2_with (first | ((with_reducible refine gate_dst (N := 1) rfl ?_); refine box_event ?hg (N := 1) ?hd (cs := #[.int .i64 a0_0, .int .i64 a0_1, .slice A0_2 l0_2.length c0_2, .slice A0_3 l0_3.length c0_3]) (t := 25) ?hr ?_; (case hd => rfl); (case hg => rfl); (case hr => first | (go_simp; done) | (go_simp; rfl)); intro gb1011 hg w43 hbox hb; have n0_ := yA (zD (mB HB.out) hb); have n1_ := yA (hbox); have n2_ := yA ((by rw [hg]; exact (yX (mB HB.out)) : w.heap.size ≤ gb1011)); have n3_ := yA ((by rw [hg]; exact (yX (mB HB.out)) : w.heap.size ≤ gb1011)); clear HB; have HB := n0_; have BK1011 := n1_; have GW1011 := n2_; have GE1011 := n3_; clear n0_ n1_ n2_ n3_; clear hb hbox hg) | ((with_reducible refine gate_dst (N := 2) rfl ?_); refine box_event ?hg (N := 2) ?hd (cs := #[.int .i64 0, .int .i64 0, .slice none 0 0, .slice none 0 0]) (t := 25) ?hr ?_; (case hd => rfl); (case hg => rfl); (case hr => first | (go_simp; done) | (go_simp; rfl)); intro gb1012 hg w44 hbox hb; have n0_ := yA (yU (mK BK1011.out) hb); have n1_ := yA (zD (by with_reducible repeat first | exact HB.out | apply yO | apply yN | apply yP | refine yQ ?_ GE1011.out) hb); have n2_ := yA (hbox); have n3_ := yA ((by rw [hg]; exact (yX (by with_reducible repeat first | exact HB.out | apply yO | apply yN | apply yP | refine yQ ?_ GE1011.out)) : w.heap.size ≤ gb1012)); have n4_ := yA ((by rw [hg]; exact (yX (by with_reducible repeat first | exact HB.out | apply yO | apply yN | apply yP | refine yQ ?_ GE1011.out)) : w.heap.size ≤ gb1012)); have n5_ := yA ((by rw [hg]; exact Nat.ne_of_lt (zX (mK BK1011.out)) : gb1011 ≠ gb1012)); have n6_ := yA ((by rw [hg]; exact Nat.ne_of_gt (zX (mK BK1011.out)) : gb1012 ≠ gb1011)); clear BK1011; clear HB; have BK1011 := n0_; have HB := n1_; have BK1012 := n2_; have GW1012 := n3_; have GE1012 := n4_; have NB1011_1012 := n5_; have NB1012_1011 := n6_; clear n0_ n1_ n2_ n3_ n4_ n5_ n6_; clear hb hbox hg; have hnb45 := NB1011_1012.out; have hnc45 := NB1012_1011.out; have hcz46_0 : w44.cell? ⟨gb1011, 0, none⟩ = some (.int .i64 a0_0) := (yV BK1011.out 0).trans rfl; have hcz46_1 : w44.cell? ⟨gb1011, 1, none⟩ = some (.int .i64 a0_1) := (yV BK1011.out 1).trans rfl; have hcz46_2 : w44.cell? ⟨gb1011, 2, none⟩ = some (.slice A0_2 l0_2.length c0_2) := (yV BK1011.out 2).trans rfl; have hcz46_3 : w44.cell? ⟨gb1011, 3, none⟩ = some (.slice A0_3 l0_3.length c0_3) := (yV BK1011.out 3).trans rfl; have hfz46_0 := yW BK1011.out 0; have hfz46_1 := yW BK1011.out 1; have hfz46_2 := yW BK1011.out 2; have hfz46_3 := yW BK1011.out 3) | ((with_reducible refine zS (f := 67) rfl ?_); refine goesL_ (some 9) rfl rfl Try.func67 (by kernel_rfl) rfl #[.agg #[.int .i64 a0_0, .int .i64 a0_1, .slice A0_2 l0_2.length c0_2, .slice A0_3 l0_3.length c0_3]] rfl (by (try simp only [zI, zJ, zK]); first | done | rfl | (simp only [zL, zM]; rfl)) ?_; (with_reducible refine (spec_IsRelation.calls k a0_0 a0_1 _ _ l0_2 _ _ l0_3 false _ ?side1 ?side2 ?side3 ?side4 A2.out).mono ?_); (case side1 => exact mC (yM HR0_2.out HB.out)); (case side2 => exact HC0_2.out); (case side3 => exact mC (yM HR0_3.out HB.out)); (case side4 => exact HC0_3.out); rintro e w47 ⟨rfl, hb⟩; refine ⟨_, rfl, ?_⟩; have n0_ := yA (yU (mK BK1011.out) hb); have n1_ := yA (yU (mK BK1012.out) hb); have n2_ := yA (zD (by with_reducible repeat first | exact HB.out | apply yO | apply yN | apply yP | refine yQ ?_ GE1011.out | refine yQ ?_ GE1012.out) hb); clear BK1011; clear BK1012; clear HB; have BK1011 := n0_; have BK1012 := n1_; have HB := n2_; clear n0_ n1_ n2_; (try clear hb); (try clear hb2); (try clear hk); (try clear hi); have hcz48_0 : w47.cell? ⟨gb1012, 0, none⟩ = some (.int .i64 0) := (yV BK1012.out 0).trans rfl; have hcz48_1 : w47.cell? ⟨gb1012, 1, none⟩ = some (.int .i64 0) := (yV BK1012.out 1).trans rfl; have hcz48_2 : w47.cell? ⟨gb1012, 2, none⟩ = some (.slice none 0 0) := (yV BK1012.out 2).trans rfl; have hcz48_3 : w47.cell? ⟨gb1012, 3, none⟩ = some (.slice none 0 0) := (yV BK1012.out 3).trans rfl; have hfz48_0 := yW BK1012.out 0; have hfz48_1 := yW BK1012.out 1; have hfz48_2 := yW BK1012.out 2; have hfz48_3 := yW BK1012.out 3))
  refine bodyPost_ret (results_ct rfl _ _ gb1012 25 #[.int .i64 0, .int .i64 0, .slice none 0 0, .slice none 0 0] (0, 0) _ rfl (by (with_reducible repeat (first | refine yS ?_ _ | refine yT ?_ | refine yR ?_ _)); refine blk_put (cs := #[.int .i64 0, .int .i64 0, .slice none 0 0, .slice none 0 0]) ?_ 3 _ rfl; (with_reducible repeat (first | refine yS ?_ _ | refine yT ?_ | refine yR ?_ _)); refine blk_put (cs := #[.int .i64 0, .int .i64 0, .slice none 0 0, .slice none 0 0]) ?_ 2 _ rfl; (with_reducible repeat (first | refine yS ?_ _ | refine yT ?_ | refine yR ?_ _)); refine blk_put (cs := #[.int .i64 0, .int .i64 0, .slice none 0 0, .slice none 0 0]) ?_ 1 _ rfl; (with_reducible repeat (first | refine yS ?_ _ | refine yT ?_ | refine yR ?_ _)); refine blk_put (cs := #[.int .i64 0, .int .i64 0, .slice none 0 0, .slice none 0 0]) ?_ 0 _ rfl; (with_reducible repeat (first | refine yS ?_ _ | refine yT ?_ | refine yR ?_ _)); exact BK1012.out) Try.underlying25 rfl (by kernel_rfl)) rfl ?_
  exact ⟨_, _, by first | rfl | (simp [errW_none, errW_some] <;> rfl) | (simp [*, errW_none, errW_some] <;> rfl), by first | exact Kd.S_nil _ _ _ _ _ | exact Kd.N_nil _ _ _ _ _ | exact Kd.V_nil _ _ _ _ _ | exact Kd.Q_nil _ _ _ _ _ | exact Kd.R_nil _ _ _ _ _, by first | exact Kd.R_nil _ _ _ _ _ | exact Kd.N_nil _ _ _ _ _ | exact Kd.V_nil _ _ _ _ _ | exact Kd.Q_nil _ _ _ _ _ | exact Kd.S_nil _ _ _ _ _, by repeat (first | (with_reducible first | exact HB.out | apply yO | apply yN | apply yP | refine yQ ?_ GE1011.out | refine yQ ?_ GE1012.out) | exact HB.out)⟩

end Go.Proofs.Ytgopcliohchkmaa.Q
