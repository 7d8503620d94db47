-- written by a program of this session (a turned copy of the kit's print) out of the translation
-- squeezed
-- compact
import Derived.Test.YtgopcliohchkmaaQ0
import Derived.Test.YtgopcliohchkmaaQ23
import Derived.Test.YtgopcliohchkmaaQ41
import Derived.Test.YtgopcliohchkmaaQ61
namespace Go.Proofs.Ytgopcliohchkmaa.Q
open Go.RowKit Go.Proofs.YtgopcliohchkmaaW.PrintWords Go.Proofs.YtgopcliohchkmaaW.PrintLast Go.Proofs.YtgopcliohchkmaaW.PrintMore
attribute [local go_sem] max2_int min2_int max_two min_two max_three min_three max_four min_four   -- for this text's walks alone
set_option linter.unusedVariables false
set_option linter.unusedSimpArgs false

/-! ### impl_LeastMember: function 33 -/
mutual
def impl_LeastMember.l0 : Nat → List (S70) → List Bool → Int → Int → Int → List (List Int) → List Bool → Option (List Int × Bool)
 | 0, _, _, _, _, _, _, _ => none
 | k + 1, x4, x5, x6, x667000, x667001, x667002, x667003 => if x6 < (x4.length : Int) then (if 0 ≤ x6 then (if 0 ≤ ((rd_T70 x4 x6).f0) then (if ((rd_T70 x4 x6).f0) < (x667003.length : Int) then (if rdOf false x667003 ((rd_T70 x4 x6).f0) = true then (impl_LeastMember.l1 k x4 (([] : List Int)) x6 x667000 x667001 x667002 x667003) else (if ((rd_T70 x4 x6).f3) = 16 then (impl_LeastMember.l0 k x4 x5 (wrap64 (x6 + 1)) x667000 x667001 x667002 x667003) else (if ((rd_T70 x4 x6).f0) < (x667002.length : Int) then (impl_LeastMember.l2 k x4 x5 x6 (rd_L1 x667002 ((rd_T70 x4 x6).f0)) ((rd_L1 x667002 ((rd_T70 x4 x6).f0)).length : Int) 0 x667000 x667001 x667002 x667003 ((rd_T70 x4 x6).f0) ((rd_T70 x4 x6).f1) ((rd_T70 x4 x6).f2) ((rd_T70 x4 x6).f3)) else (none)))) else (none)) else (none)) else (none)) else (some ((([] : List Int)), false))
def impl_LeastMember.l1 : Nat → List (S70) → List Int → Int → Int → Int → List (List Int) → List Bool → Option (List Int × Bool)
 | 0, _, _, _, _, _, _, _ => none
 | k + 1, x4, x8, x9, x667000, x667001, x667002, x667003 => if 0 ≤ x9 then (if x9 < (x4.length : Int) then (if ((rd_T70 x4 x9).f1) ≥ 0 then (if x8.length < 17592186044416 then (impl_LeastMember.l1 k x4 (x8 ++ [(rd_T70 x4 x9).f2]) ((rd_T70 x4 x9).f1) x667000 x667001 x667002 x667003) else (none)) else ((slices_Reverse_int_int.f k x8).bind fun t693 => ((impl_Relation_numbers.f k x667000 x667001 x667002 x667003 t693).bind fun t694 => (some (t694, true))))) else (none)) else (none)
def impl_LeastMember.l2 : Nat → List (S70) → List Bool → Int → List Int → Int → Int → Int → Int → List (List Int) → List Bool → Int → Int → Int → Int → Option (List Int × Bool)
 | 0, _, _, _, _, _, _, _, _, _, _, _, _, _, _ => none
 | k + 1, x4, x5, x6, x74, x75, x76, x667000, x667001, x667002, x667003, x683000, x683001, x683002, x683003 => if x76 < x75 then (if 0 ≤ x76 then (if x76 < (x74.length : Int) then (if 0 ≤ (rd x74 x76) then (if (rd x74 x76) < (x5.length : Int) then (if (rdOf false x5 (rd x74 x76) = true) then (impl_LeastMember.l2 k x4 x5 x6 x74 x75 (wrap64 (x76 + 1)) x667000 x667001 x667002 x667003 x683000 x683001 x683002 x683003) else (if x4.length < 4398046511104 then (impl_LeastMember.l2 k (x4 ++ [(⟨rd x74 x76, x6, x76, wrap64 (x683003 + 1)⟩ : S70)]) (x5.set ((rd x74 x76) : Int).toNat true) x6 x74 x75 (wrap64 (x76 + 1)) x667000 x667001 x667002 x667003 x683000 x683001 x683002 x683003) else (none))) else (none)) else (none)) else (none)) else (none)) else (impl_LeastMember.l0 k x4 x5 (wrap64 (x6 + 1)) x667000 x667001 x667002 x667003)
end
def impl_LeastMember.f (k : Nat) (a0_0 : Int) (a0_1 : Int) (l0_2 : List (List Int)) (l0_3 : List Bool) : Option (List Int × Bool) := (impl_IsRelation.f k a0_0 a0_1 l0_2 l0_3).bind fun t667 => (if t667 = true then (if 0 ≤ (l0_2.length : Int) then (if ((l0_2.length : Int) : Int).toNat ≤ 281474976710656 then ((some (List.replicate ((l0_2.length : Int) : Int).toNat false : List Bool)).bind fun y674 => (if 0 < (y674.length : Int) then (impl_LeastMember.l0 k (([(⟨0, (-1), 0, 0⟩ : S70)] : List (S70))) (y674.set (0 : Int).toNat true) 0 a0_0 a0_1 l0_2 l0_3) else (none))) else (none)) else (none)) else (some ((([] : List Int)), false)))
theorem impl_LeastMember.mono_l : ∀ k, (∀ y0 y1 y2 y3 y4 y5 y6, LeO (impl_LeastMember.l0 k y0 y1 y2 y3 y4 y5 y6) (impl_LeastMember.l0 (k + 1) y0 y1 y2 y3 y4 y5 y6)) ∧ (∀ y0 y1 y2 y3 y4 y5 y6, LeO (impl_LeastMember.l1 k y0 y1 y2 y3 y4 y5 y6) (impl_LeastMember.l1 (k + 1) y0 y1 y2 y3 y4 y5 y6)) ∧ (∀ y0 y1 y2 y3 y4 y5 y6 y7 y8 y9 y10 y11 y12 y13, LeO (impl_LeastMember.l2 k y0 y1 y2 y3 y4 y5 y6 y7 y8 y9 y10 y11 y12 y13) (impl_LeastMember.l2 (k + 1) y0 y1 y2 y3 y4 y5 y6 y7 y8 y9 y10 y11 y12 y13))
 | 0 => ⟨fun _ _ _ _ _ _ _ r h => by simp [impl_LeastMember.l0] at h, fun _ _ _ _ _ _ _ r h => by simp [impl_LeastMember.l1] at h, fun _ _ _ _ _ _ _ _ _ _ _ _ _ _ r h => by simp [impl_LeastMember.l2] at h⟩
 | k + 1 => by
  obtain ⟨ih0, ih1, ih2⟩ := impl_LeastMember.mono_l k
  refine ⟨?_, ?_, ?_⟩
  ·intro y0 y1 y2 y3 y4 y5 y6
   unfold impl_LeastMember.l0
   repeat' first
   | (with_reducible exact ih0 _ _ _ _ _ _ _)
   | (with_reducible exact ih1 _ _ _ _ _ _ _)
   | (with_reducible exact ih2 _ _ _ _ _ _ _ _ _ _ _ _ _ _)
   | (with_reducible exact impl_IsRelation.mono _ _ _ _ _)
   | (with_reducible exact impl_Relation_numbers.mono _ _ _ _ _ _)
   | (with_reducible exact slices_Reverse_int_int.mono _ _)
   | (with_reducible exact LeO.refl _)
   | (with_reducible exact LeO.none _)
   | (with_reducible refine LeO.ite ?_ ?_)
   | (with_reducible refine LeO.bind ?_ (fun _ => ?_))
   | exact ih0 _ _ _ _ _ _ _
   | exact ih1 _ _ _ _ _ _ _
   | exact ih2 _ _ _ _ _ _ _ _ _ _ _ _ _ _
   | exact impl_IsRelation.mono _ _ _ _ _
   | exact impl_Relation_numbers.mono _ _ _ _ _ _
   | exact slices_Reverse_int_int.mono _ _
   | exact LeO.none _
   | refine LeO.ite ?_ ?_
   | refine LeO.bind ?_ (fun _ => ?_)
  ·intro y0 y1 y2 y3 y4 y5 y6
   unfold impl_LeastMember.l1
   repeat' first
   | (with_reducible exact ih0 _ _ _ _ _ _ _)
   | (with_reducible exact ih1 _ _ _ _ _ _ _)
   | (with_reducible exact ih2 _ _ _ _ _ _ _ _ _ _ _ _ _ _)
   | (with_reducible exact impl_IsRelation.mono _ _ _ _ _)
   | (with_reducible exact impl_Relation_numbers.mono _ _ _ _ _ _)
   | (with_reducible exact slices_Reverse_int_int.mono _ _)
   | (with_reducible exact LeO.refl _)
   | (with_reducible exact LeO.none _)
   | (with_reducible refine LeO.ite ?_ ?_)
   | (with_reducible refine LeO.bind ?_ (fun _ => ?_))
   | exact ih0 _ _ _ _ _ _ _
   | exact ih1 _ _ _ _ _ _ _
   | exact ih2 _ _ _ _ _ _ _ _ _ _ _ _ _ _
   | exact impl_IsRelation.mono _ _ _ _ _
   | exact impl_Relation_numbers.mono _ _ _ _ _ _
   | exact slices_Reverse_int_int.mono _ _
   | exact LeO.none _
   | refine LeO.ite ?_ ?_
   | refine LeO.bind ?_ (fun _ => ?_)
  ·intro y0 y1 y2 y3 y4 y5 y6 y7 y8 y9 y10 y11 y12 y13
   unfold impl_LeastMember.l2
   repeat' first
   | (with_reducible exact ih0 _ _ _ _ _ _ _)
   | (with_reducible exact ih1 _ _ _ _ _ _ _)
   | (with_reducible exact ih2 _ _ _ _ _ _ _ _ _ _ _ _ _ _)
   | (with_reducible exact impl_IsRelation.mono _ _ _ _ _)
   | (with_reducible exact impl_Relation_numbers.mono _ _ _ _ _ _)
   | (with_reducible exact slices_Reverse_int_int.mono _ _)
   | (with_reducible exact LeO.refl _)
   | (with_reducible exact LeO.none _)
   | (with_reducible refine LeO.ite ?_ ?_)
   | (with_reducible refine LeO.bind ?_ (fun _ => ?_))
   | exact ih0 _ _ _ _ _ _ _
   | exact ih1 _ _ _ _ _ _ _
   | exact ih2 _ _ _ _ _ _ _ _ _ _ _ _ _ _
   | exact impl_IsRelation.mono _ _ _ _ _
   | exact impl_Relation_numbers.mono _ _ _ _ _ _
   | exact slices_Reverse_int_int.mono _ _
   | exact LeO.none _
   | refine LeO.ite ?_ ?_
   | refine LeO.bind ?_ (fun _ => ?_)
theorem impl_LeastMember.mono : ∀ a0 a1 a2 a3 k, LeO (impl_LeastMember.f k a0 a1 a2 a3) (impl_LeastMember.f (k + 1) a0 a1 a2 a3) := by
 intro a0 a1 a2 a3 k
 obtain ⟨ih0, ih1, ih2⟩ := impl_LeastMember.mono_l k
 unfold impl_LeastMember.f
 repeat' first
   | (with_reducible exact ih0 _ _ _ _ _ _ _)
   | (with_reducible exact ih1 _ _ _ _ _ _ _)
   | (with_reducible exact ih2 _ _ _ _ _ _ _ _ _ _ _ _ _ _)
   | (with_reducible exact impl_IsRelation.mono _ _ _ _ _)
   | (with_reducible exact impl_Relation_numbers.mono _ _ _ _ _ _)
   | (with_reducible exact slices_Reverse_int_int.mono _ _)
   | (with_reducible exact LeO.refl _)
   | (with_reducible exact LeO.none _)
   | (with_reducible refine LeO.ite ?_ ?_)
   | (with_reducible refine LeO.bind ?_ (fun _ => ?_))
   | exact ih0 _ _ _ _ _ _ _
   | exact ih1 _ _ _ _ _ _ _
   | exact ih2 _ _ _ _ _ _ _ _ _ _ _ _ _ _
   | exact impl_IsRelation.mono _ _ _ _ _
   | exact impl_Relation_numbers.mono _ _ _ _ _ _
   | exact slices_Reverse_int_int.mono _ _
   | exact LeO.none _
   | refine LeO.ite ?_ ?_
   | refine LeO.bind ?_ (fun _ => ?_)
set_option maxHeartbeats 8000000 in
set_option maxRecDepth 100000 in
theorem impl_LeastMember.calls (k : Nat) (a0_0 : Int) (a0_1 : Int) (A0_2 : Option Addr) (c0_2 : Nat) (l0_2 : List (List Int)) (A0_3 : Option Addr) (c0_3 : Nat) (l0_3 : List Bool) (r1 : List Int) (r2 : Bool) (w : World) (hr0_2 : Kd.C (Kd.slice 3 (Kd.int .i64)) w A0_2 l0_2.length l0_2) (hc0_2 : l0_2.length ≤ c0_2) (hr0_3 : Kd.C Kd.bool w A0_3 l0_3.length l0_3) (hc0_3 : l0_3.length ≤ c0_3) (h : impl_LeastMember.f k a0_0 a0_1 l0_2 l0_3 = some (r1, r2)) :
  Calls Try.prog 33 #[.agg #[.int .i64 a0_0, .int .i64 a0_1, .slice A0_2 l0_2.length c0_2, .slice A0_3 l0_3.length c0_3]] w fun e w' => ∃ v0_ : Value, e = .returned (.tuple #[v0_, .bool r2]) ∧ Kd.R (Kd.int .i64) 3 w' w.heap.size (fun _ => True) v0_ r1 ∧ Below w.heap.size w w' := by
 have hu25 := Try.underlying25
 have hu70 := Try.underlying70
 have HR0_2 := yA hr0_2
 have HC0_2 := yA hc0_2
 clear hr0_2 hc0_2
 have HR0_3 := yA hr0_3
 have HC0_3 := yA hc0_3
 clear hr0_3 hc0_3
 have HB := yA (zV w.heap.size w)
 have H : ((impl_IsRelation.f k a0_0 a0_1 l0_2 l0_3).bind fun t667 => (if t667 = true then (if 0 ≤ (l0_2.length : Int) then (if ((l0_2.length : Int) : Int).toNat ≤ 281474976710656 then ((some (List.replicate ((l0_2.length : Int) : Int).toNat false : List Bool)).bind fun y674 => (if 0 < (y674.length : Int) then (impl_LeastMember.l0 k (([(⟨0, (-1), 0, 0⟩ : S70)] : List (S70))) (y674.set (0 : Int).toNat true) 0 a0_0 a0_1 l0_2 l0_3) else (none))) else (none)) else (none)) else (some ((([] : List Int)), false)))) = some (r1, r2) := h
 clear h
 replace H := Option.bind_eq_some_iff.mp H
 obtain ⟨t667, A20, H⟩ := H
 replace H : (if t667 = true then (if 0 ≤ (l0_2.length : Int) then (if ((l0_2.length : Int) : Int).toNat ≤ 281474976710656 then ((some (List.replicate ((l0_2.length : Int) : Int).toNat false : List Bool)).bind fun y674 => (if 0 < (y674.length : Int) then (impl_LeastMember.l0 k (([(⟨0, (-1), 0, 0⟩ : S70)] : List (S70))) (y674.set (0 : Int).toNat true) 0 a0_0 a0_1 l0_2 l0_3) else (none))) else (none)) else (none)) else (some ((([] : List Int)), false))) = some (r1, r2) := H
 have A2 := yA A20
 clear A20
 by_cases c3 : t667 = true
 ·subst c3
  have H1 : (if 0 ≤ (l0_2.length : Int) then (if ((l0_2.length : Int) : Int).toNat ≤ 281474976710656 then ((some (List.replicate ((l0_2.length : Int) : Int).toNat false : List Bool)).bind fun y674 => (if 0 < (y674.length : Int) then (impl_LeastMember.l0 k (([(⟨0, (-1), 0, 0⟩ : S70)] : List (S70))) (y674.set (0 : Int).toNat true) 0 a0_0 a0_1 l0_2 l0_3) else (none))) else (none)) else (none)) = some (r1, r2) := by rw [if_pos rfl] at H; exact H
  clear H
  have H := H1
  clear H1
  obtain ⟨y671, hy671⟩ : ∃ y_ : List (S70), y_ = (([(⟨0, (-1), 0, 0⟩ : S70)] : List (S70))) := ⟨_, rfl⟩
  replace H : (if 0 ≤ (l0_2.length : Int) then (if ((l0_2.length : Int) : Int).toNat ≤ 281474976710656 then ((some (List.replicate ((l0_2.length : Int) : Int).toNat false : List Bool)).bind fun y674 => (if 0 < (y674.length : Int) then (impl_LeastMember.l0 k y671 (y674.set (0 : Int).toNat true) 0 a0_0 a0_1 l0_2 l0_3) else (none))) else (none)) else (none)) = some (r1, r2) := by first | (rw [hy671]; with_reducible exact H) | (have H2_ := (Option.bind_some _ _).symm.trans H; rw [hy671]; with_reducible exact H2_) | (have H2_ := (Option.bind_some _ _).symm.trans H; with_reducible exact H2_) | with_reducible exact H | (rw [hy671]; exact H) | exact H
  have Ny671 := yA hy671
  clear hy671
  by_cases c4 : 0 ≤ (l0_2.length : Int)
  ·rw [if_pos c4] at H
   have c4b0 := eq_true c4
   have c4b1 : decide (0 ≤ (l0_2.length : Int)) = true := zH c4
   clear c4
   by_cases c5 : ((l0_2.length : Int) : Int).toNat ≤ 281474976710656
   ·rw [if_pos c5] at H
    have c5b0 := eq_true c5
    have c5b1 : decide (((l0_2.length : Int) : Int).toNat ≤ 281474976710656) = true := zH c5
    clear c5
    obtain ⟨y674, hy674⟩ : ∃ y_ : List Bool, y_ = (List.replicate ((l0_2.length : Int) : Int).toNat false) := ⟨_, rfl⟩
    replace H : (if 0 < (y674.length : Int) then (impl_LeastMember.l0 k y671 (y674.set (0 : Int).toNat true) 0 a0_0 a0_1 l0_2 l0_3) else (none)) = some (r1, r2) := by first | (rw [hy674]; with_reducible exact H) | (have H2_ := (Option.bind_some _ _).symm.trans H; rw [hy674]; with_reducible exact H2_) | (have H2_ := (Option.bind_some _ _).symm.trans H; with_reducible exact H2_) | with_reducible exact H | (rw [hy674]; exact H) | exact H
    have Ny674 := yA hy674
    clear hy674
    by_cases c6 : 0 < (y674.length : Int)
    ·rw [if_pos c6] at H
     have c6b0 : decide (0 < (y674.length : Int)) = true := zH c6
     have c6b1 : decide (0 < y674.length) = true := zH (by omega)
     clear c6
     obtain ⟨y677, hy677⟩ : ∃ y_ : List Bool, y_ = (y674.set (0 : Int).toNat true) := ⟨_, rfl⟩
     replace H : (impl_LeastMember.l0 k y671 y677 0 a0_0 a0_1 l0_2 l0_3) = some (r1, r2) := by first | (rw [hy677]; with_reducible exact H) | (have H2_ := (Option.bind_some _ _).symm.trans H; rw [hy677]; with_reducible exact H2_) | (have H2_ := (Option.bind_some _ _).symm.trans H; with_reducible exact H2_) | with_reducible exact H | (rw [hy677]; exact H) | exact H
     have Ny677 := yA hy677
     clear hy677
     have H' := yA H
     clear H
     go_enter Try.func33, Try.ntmps33
     go_wp2_with (first | ((with_reducible refine gate_dst (N := 1) rfl ?_); refine box_event ?hg (N := 1) ?hd (cs := #[.int .i64 a0_0, .int .i64 a0_1, .slice A0_2 l0_2.length c0_2, .slice A0_3 l0_3.length c0_3]) (t := 25) ?hr ?_; (case hd => rfl); (case hg => rfl); (case hr => first | (go_simp; done) | (go_simp; rfl)); intro gb666 hg w8 hbox hb; have n0_ := yA (zD (mB HB.out) hb); have n1_ := yA (hbox); have n2_ := yA ((by rw [hg]; exact (yX (mB HB.out)) : w.heap.size ≤ gb666)); have n3_ := yA ((by rw [hg]; exact (yX (mB HB.out)) : w.heap.size ≤ gb666)); clear HB; have HB := n0_; have BK666 := n1_; have GW666 := n2_; have GE666 := n3_; clear n0_ n1_ n2_ n3_; clear hb hbox hg; have hcz9_0 : w8.cell? ⟨gb666, 0, none⟩ = some (.int .i64 a0_0) := (yV BK666.out 0).trans rfl; have hcz9_1 : w8.cell? ⟨gb666, 1, none⟩ = some (.int .i64 a0_1) := (yV BK666.out 1).trans rfl; have hcz9_2 : w8.cell? ⟨gb666, 2, none⟩ = some (.slice A0_2 l0_2.length c0_2) := (yV BK666.out 2).trans rfl; have hcz9_3 : w8.cell? ⟨gb666, 3, none⟩ = some (.slice A0_3 l0_3.length c0_3) := (yV BK666.out 3).trans rfl; have hfz9_0 := yW BK666.out 0; have hfz9_1 := yW BK666.out 1; have hfz9_2 := yW BK666.out 2; have hfz9_3 := yW BK666.out 3) | ((with_reducible refine zS (f := 65) rfl ?_); refine goesL_ (some 13) rfl rfl Try.func65 (by kernel_rfl) rfl #[.agg #[.int .i64 a0_0, .int .i64 a0_1, .slice A0_2 l0_2.length c0_2, .slice A0_3 l0_3.length c0_3]] rfl (by (try simp only [zI, zJ, zK]); first | done | rfl | (simp only [zL, zM]; rfl)) ?_; (with_reducible refine (impl_IsRelation.calls k a0_0 a0_1 _ _ l0_2 _ _ l0_3 true _ ?side1 ?side2 ?side3 ?side4 A2.out).mono ?_); (case side1 => exact mC (yM HR0_2.out HB.out)); (case side2 => exact HC0_2.out); (case side3 => exact mC (yM HR0_3.out HB.out)); (case side4 => exact HC0_3.out); rintro e w10 ⟨rfl, hb⟩; refine ⟨_, rfl, ?_⟩; have n0_ := yA (yU (mK BK666.out) hb); have n1_ := yA (zD (by with_reducible repeat first | exact HB.out | apply yO | apply yN | apply yP | refine yQ ?_ GE666.out) hb); clear BK666; clear HB; have BK666 := n0_; have HB := n1_; clear n0_ n1_; (try clear hb); (try clear hb2); (try clear hk); (try clear hi)) | ((with_reducible refine gate_dst (N := 17) rfl ?_); refine Kd.R_lit k70 _ 70 ?hg (N := 17) ?hd (xs := ([(⟨0, (-1), 0, 0⟩ : S70)] : List (S70))) (inner := [.int .i64 0, .int .i64 (-1), .int .i64 0, .int .i64 0]) (ok := fun _ => True) (okp := fun _ => True) ?hr ?hp (fun _ hk => hk) trivial (zV _ _) (zT _) (by simp) ?_; (case hd => rfl); (case hg => rfl); (case hr => first | (go_simp; done) | (go_simp; rfl)); (case hp => exact (Reps.c4 (show Kd.M k70 _ _ _ (⟨0, (-1), 0, 0⟩ : S70) [.int .i64 0, .int .i64 (-1), .int .i64 0, .int .i64 0] from (k70_mkM _ _ _ (⟨0, (-1), 0, 0⟩ : S70) )) (Reps.none _ _))); intro v672 w11 ho12 hb hg_ hnew_; clear hg_ hnew_; (first | rw [← Ny671.out] at ho12 | (simp only [Int.reduceToNat] at ho12; rw [← Ny671.out] at ho12)); have n0_ := yA (Kd.R_lower ho12 (yX (by with_reducible repeat first | exact HB.out | apply yO | apply yN | apply yP | refine yQ ?_ GE666.out))); have n1_ := yA (yU (mK BK666.out) hb); have n2_ := yA (zD (by with_reducible repeat first | exact HB.out | apply yO | apply yN | apply yP | refine yQ ?_ GE666.out) hb); clear BK666; clear HB; have HO673 := n0_; have BK666 := n1_; have HB := n2_; clear n0_ n1_ n2_; clear hb ho12; have hcz13_0 : w11.cell? ⟨gb666, 0, none⟩ = some (.int .i64 a0_0) := (yV BK666.out 0).trans rfl; have hcz13_1 : w11.cell? ⟨gb666, 1, none⟩ = some (.int .i64 a0_1) := (yV BK666.out 1).trans rfl; have hcz13_2 : w11.cell? ⟨gb666, 2, none⟩ = some (.slice A0_2 l0_2.length c0_2) := (yV BK666.out 2).trans rfl; have hcz13_3 : w11.cell? ⟨gb666, 3, none⟩ = some (.slice A0_3 l0_3.length c0_3) := (yV BK666.out 3).trans rfl; have hfz13_0 := yW BK666.out 0; have hfz13_1 := yW BK666.out 1; have hfz13_2 := yW BK666.out 2; have hfz13_3 := yW BK666.out 3) | ((with_reducible refine gate_dst (N := 21) rfl ?_); refine Kd.R_make Kd.bool _ 4 rfl (N := 21) rfl 23 _ _ rfl (l0_2.length : Int) rfl rfl Try.underlying23 (.bool false) 1 info4 rfl (by decide) (by omega) false (ok := fun _ => True) (okp := fun _ => True) rfl (fun _ hk => hk) trivial (zG (by first | (with_reducible assumption) | assumption)) (Nat.le_trans (Nat.mul_le_mul_right _ (zG (by first | (with_reducible assumption) | assumption) : (l0_2.length : Int).toNat ≤ 281474976710656)) (by omega)) (zV _ _) (zT _) ?_; intro v675 w14 ho15 hb hg_ hnew_; clear hg_ hnew_; (first | rw [← Ny674.out] at ho15 | (simp only [Int.reduceToNat] at ho15; rw [← Ny674.out] at ho15)); have n0_ := yA (yK (mR HO673.out) hb); have n1_ := yA (Kd.R_lower ho15 (yX (by with_reducible repeat first | exact HB.out | apply yO | apply yN | apply yP | refine yQ ?_ GE666.out))); have n2_ := yA (yU (mK BK666.out) hb); have n3_ := yA (zD (by with_reducible repeat first | exact HB.out | apply yO | apply yN | apply yP | refine yQ ?_ GE666.out) hb); clear HO673; clear BK666; clear HB; have HO673 := n0_; have HO676 := n1_; have BK666 := n2_; have HB := n3_; clear n0_ n1_ n2_ n3_; clear hb ho15; have p7 : 0 ≤ (0 : Int) := (by omega); have q7 : (0 : Int) < ((y674.length : Int) : Int) := zG (by first | (with_reducible assumption) | assumption); have qi7 : (0 < y674.length) = True := eq_true (by omega); obtain ⟨go7, co7, eo7, gb7, gl7, cl7, HG7⟩ := Kd.R_form HO676.out (by omega); (first | cases eo7 | (injection eo7 with ea_ en_ ec_; (first | subst ea_ | (injection ea_ with ea_; subst ea_)); subst ec_; clear en_)); have GB7 := yA gb7; have GG7 := yA HG7; clear gb7 gl7 HG7; obtain ⟨hx7_0, hf7_0⟩ := Kd.R_celln false HO676.out (0 : Int) p7 q7; (try rw [show ((0 : Int)).toNat = 0 from rfl] at hx7_0); (try simp only [Nat.reduceMul, Nat.zero_mul, Nat.zero_add, Nat.reduceAdd] at hx7_0); (try rw [show ((0 : Int)).toNat = 0 from rfl] at hf7_0); (try simp only [Nat.reduceMul, Nat.zero_mul, Nat.zero_add, Nat.reduceAdd] at hf7_0); replace p7 := eq_true p7; replace q7 := eq_true q7; obtain ⟨hy16_, hz16_⟩ := Kd.R_celln false HO676.out (0 : Int) (by omega) (zG (by first | (with_reducible assumption) | assumption)); (try simp only [Int.reduceToNat, Int.toNat_zero, Int.toNat_ofNat, Nat.reduceMul, Nat.zero_mul, Nat.zero_add] at hy16_ hz16_); (try rw [show ((0 : Int)).toNat = 0 from rfl] at hy16_); (try rw [show ((0 : Int)).toNat = 0 from rfl] at hz16_); have HP16 := Kd.R_putg HO676.out (0 : Int) true) | ((with_reducible refine gate_store (t := 4) (p := 23) rfl ?_); refine store_event (t := 4) (p := 23) (v := ?vo_w17) (w1 := (w14.setCell ⟨go7, (0 : Int).toNat, none⟩ (.bool true))) ?hg ?ho ?hn ?hr ?_; (case ho => rfl); (case hg => rfl); (case hn => rfl); (case hr => first | (go_simp; done) | (go_simp; rfl)); intro w17 hw; have hg : w14.grownBy w17 (some go7) := (by rw [hw]; exact HP16.2); have hp_ : Kd.R Kd.bool 4 w17 w.heap.size (fun _ => True) (.slice (some ⟨go7, 0, none⟩) y674.length co7) y677 := (by rw [hw, Ny677.out]; exact HP16.1); clear HP16; have n0_ := yA (blk_grown (g := gb666) (o := .cells #[.int .i64 a0_0, .int .i64 a0_1, .slice A0_2 l0_2.length c0_2, .slice A0_3 l0_3.length c0_3] 25 (0, 0)) (mK BK666.out) hg (zW HO676.out BK666.out (by decide))); have n1_ := yA (Kd.R_over' (v := (.slice (some ⟨go7, 0, none⟩) y674.length co7)) (mR HO673.out) (Kd.R_typed HO676.out) (by decide) hg); have n2_ := yA (hp_); have n3_ := yA ((by rw [hw]; exact yQ (HB.out) GB7.out : Below w.heap.size w w17)); clear BK666; clear HO673; clear HO676; clear HB; have BK666 := n0_; have HO673 := n1_; have HO676 := n2_; have HB := n3_; clear n0_ n1_ n2_ n3_; clear hg hw hp_))
     go_loopg [4, 6] k (fun kq v4 v6 w' => ∃ (x4_1 : List (S70)) (x5_1 : List Bool) (x6_1 : Int), v6 = .int .i64 x6_1 ∧ Aside0 (impl_LeastMember.l0 kq x4_1 x5_1 x6_1 a0_0 a0_1 l0_2 l0_3 = some (r1, r2)) ∧ Aside0 (kq ≤ k) ∧ Aside0 (Kd.R k70 70 w' w.heap.size (fun _ => True) v4 x4_1) ∧ Aside0 (Kd.R Kd.bool 4 w' w.heap.size (fun _ => True) (.slice (some ⟨go7, 0, none⟩) y674.length co7) x5_1) ∧ Aside0 (w'.heap[gb666]? = some (.cells #[.int .i64 a0_0, .int .i64 a0_1, (.slice A0_2 l0_2.length c0_2), (.slice A0_3 l0_3.length c0_3)] 25 (0, 0))) ∧ Aside0 (Below w.heap.size w w'))
     case atStart => exact ⟨(y671), (y677), (0), (by first | rfl | (simp; done) | (simp [*]; done)), H', ⟨zT _⟩, ⟨by (with_reducible repeat (first | apply yB | apply yC | apply yD)); exact HO673.out⟩, ⟨by (with_reducible repeat (first | apply yB | apply yC | apply yD)); exact HO676.out⟩, ⟨by (with_reducible repeat (first | refine yS ?_ _ | refine yT ?_ | refine yR ?_ _)); exact BK666.out⟩, ⟨by repeat (first | (with_reducible first | exact HB.out | apply yO | apply yN | apply yP | refine yQ ?_ GE666.out) | exact HB.out)⟩⟩
     case round =>
      clear H'
      try clear p2
      try clear c3
      try clear c4
      try clear c4b0
      try clear c4b1
      try clear c5
      try clear c5b0
      try clear c5b1
      try clear c6
      try clear c6b0
      try clear c6b1
      try clear p7
      try clear q7
      try clear hx7
      try clear qi7
      try clear hf7
      try clear hcz13_0
      try clear hcz13_1
      try clear hcz13_2
      try clear hcz13_3
      try clear hcz9_0
      try clear hcz9_1
      try clear hcz9_2
      try clear hcz9_3
      try clear hfz13_0
      try clear hfz13_1
      try clear hfz13_2
      try clear hfz13_3
      try clear hfz9_0
      try clear hfz9_1
      try clear hfz9_2
      try clear hfz9_3
      try clear hx7_0
      try clear p7
      try clear q7
      obtain ⟨x4_1, x5_1, x6_1, rfl, HA, HK1, HO_4, HO_5, BK666, HB⟩ := hrel
      have hl5_1 := (zN HO_5.out).1
      rw [hl5_1] at HO_5
      (try simp only [hl5_1])
      (try simp only [hl5_1] at BK666)
      (try simp only [hl5_1] at HO_4)
      cases gk with
      | zero => exact absurd HA.out (by simp [impl_LeastMember.l0])
      | succ k1 =>
       have H := HA.out
       clear HA
       simp only [impl_LeastMember.l0] at H
       by_cases c18 : x6_1 < (x4_1.length : Int)
       ·rw [if_pos c18] at H
        have c18b0 : decide (x6_1 < (x4_1.length : Int)) = true := zH c18
        clear c18
        by_cases c19 : 0 ≤ x6_1
        ·rw [if_pos c19] at H
         have c19b0 : decide (0 ≤ x6_1) = true := zH c19
         clear c19
         by_cases c20 : 0 ≤ ((rd_T70 x4_1 x6_1).f0)
         ·rw [if_pos c20] at H
          have c20b0 : decide (0 ≤ ((rd_T70 x4_1 x6_1).f0)) = true := zH c20
          clear c20
          by_cases c21 : ((rd_T70 x4_1 x6_1).f0) < (l0_3.length : Int)
          ·rw [if_pos c21] at H
           have c21b0 : decide (((rd_T70 x4_1 x6_1).f0) < (l0_3.length : Int)) = true := zH c21
           clear c21
           obtain ⟨bq22, hbq22⟩ : ∃ b_ : Bool, b_ = (rdOf false l0_3 ((rd_T70 x4_1 x6_1).f0)) := ⟨_, rfl⟩
           replace H : (if bq22 = true then (impl_LeastMember.l1 k1 x4_1 (([] : List Int)) x6_1 a0_0 a0_1 l0_2 l0_3) else (if ((rd_T70 x4_1 x6_1).f3) = 16 then (impl_LeastMember.l0 k1 x4_1 x5_1 (wrap64 (x6_1 + 1)) a0_0 a0_1 l0_2 l0_3) else (if ((rd_T70 x4_1 x6_1).f0) < (l0_2.length : Int) then (impl_LeastMember.l2 k1 x4_1 x5_1 x6_1 (rd_L1 l0_2 ((rd_T70 x4_1 x6_1).f0)) ((rd_L1 l0_2 ((rd_T70 x4_1 x6_1).f0)).length : Int) 0 a0_0 a0_1 l0_2 l0_3 ((rd_T70 x4_1 x6_1).f0) ((rd_T70 x4_1 x6_1).f1) ((rd_T70 x4_1 x6_1).f2) ((rd_T70 x4_1 x6_1).f3)) else (none)))) = some (r1, r2) := by rw [← hbq22] at H; exact H
           have Nbq22 := yA hbq22
           clear hbq22
           by_cases c23 : bq22 = true
           ·subst c23
            have H1 : (impl_LeastMember.l1 k1 x4_1 (([] : List Int)) x6_1 a0_0 a0_1 l0_2 l0_3) = some (r1, r2) := by rw [if_pos rfl] at H; exact H
            clear H
            have H := H1
            clear H1
            obtain ⟨y684, hy684⟩ : ∃ y_ : List Int, y_ = (([] : List Int)) := ⟨_, rfl⟩
            replace H : (impl_LeastMember.l1 k1 x4_1 y684 x6_1 a0_0 a0_1 l0_2 l0_3) = some (r1, r2) := by first | (rw [hy684]; with_reducible exact H) | (have H2_ := (Option.bind_some _ _).symm.trans H; rw [hy684]; with_reducible exact H2_) | (have H2_ := (Option.bind_some _ _).symm.trans H; with_reducible exact H2_) | with_reducible exact H | (rw [hy684]; exact H) | exact H
            have Ny684 := yA hy684
            clear hy684
            have H' := yA H
            clear H
            obtain ⟨Ao24, co24, eo24⟩ := Kd.R_slice HO_4.out
            subst eo24
            have p681 : 0 ≤ (x6_1 : Int) := zG (by first | (with_reducible assumption) | assumption)
            have q681 : x6_1 < (x4_1.length : Int) := zG (by first | (with_reducible assumption) | assumption)
            obtain ⟨ad681, e681, hx681_0, hx681_1, hx681_2, hx681_3⟩ := at_T70 (zN HO_4.out).2.2 x6_1 p681 q681
            cases e681
            replace p681 := eq_true p681
            replace q681 := eq_true q681
            go_wp2_with (first | ((with_reducible refine gate_dst (N := 7) rfl ?_); refine box_event ?hg (N := 7) ?hd (cs := #[.int .i64 0, .int .i64 0, .int .i64 0, .int .i64 0]) (t := 70) ?hr ?_; (case hd => rfl); (case hg => rfl); (case hr => first | (go_simp; done) | (go_simp; rfl)); intro gb682 hg w25 hbox hb; have n0_ := yA (yK (Kd.R_elderB (mR HO_4.out) gb682 (Nat.le_of_eq hg.symm)) hb); have n1_ := yA (yK (mR HO_5.out) hb); have n2_ := yA (yU (mK BK666.out) hb); have n3_ := yA (zD (by with_reducible repeat first | exact HB.out | apply yO | apply yN | apply yP | refine yQ ?_ GE666.out) hb); have n4_ := yA (hbox); have n5_ := yA ((by rw [hg]; exact (yX (by with_reducible repeat first | exact HB.out | apply yO | apply yN | apply yP | refine yQ ?_ GE666.out)) : w.heap.size ≤ gb682)); have n6_ := yA ((by rw [hg]; exact (yX (by with_reducible repeat first | exact HB.out | apply yO | apply yN | apply yP | refine yQ ?_ GE666.out)) : w.heap.size ≤ gb682)); have n7_ := yA ((by rw [hg]; exact Nat.ne_of_lt (zX (mK BK666.out)) : gb666 ≠ gb682)); have n8_ := yA ((by rw [hg]; exact Nat.ne_of_gt (zX (mK BK666.out)) : gb682 ≠ gb666)); clear HO_4; clear HO_5; clear BK666; clear HB; have HO_4 := n0_; have HO_5 := n1_; have BK666 := n2_; have HB := n3_; have BK682 := n4_; have GW682 := n5_; have GE682 := n6_; have NB666_682 := n7_; have NB682_666 := n8_; clear n0_ n1_ n2_ n3_ n4_ n5_ n6_ n7_ n8_; clear hb hbox hg; have hnb26 := NB682_666.out; have hnc26 := NB666_682.out; have hcz27_0 : w25.cell? ⟨gb682, 0, none⟩ = some (.int .i64 0) := (yV BK682.out 0).trans rfl; have hcz27_1 : w25.cell? ⟨gb682, 1, none⟩ = some (.int .i64 0) := (yV BK682.out 1).trans rfl; have hcz27_2 : w25.cell? ⟨gb682, 2, none⟩ = some (.int .i64 0) := (yV BK682.out 2).trans rfl; have hcz27_3 : w25.cell? ⟨gb682, 3, none⟩ = some (.int .i64 0) := (yV BK682.out 3).trans rfl; have hfz27_0 := yW BK682.out 0; have hfz27_1 := yW BK682.out 1; have hfz27_2 := yW BK682.out 2; have hfz27_3 := yW BK682.out 3; have hcz28_0 : w25.cell? ⟨gb666, 0, none⟩ = some (.int .i64 a0_0) := (yV BK666.out 0).trans rfl; have hcz28_1 : w25.cell? ⟨gb666, 1, none⟩ = some (.int .i64 a0_1) := (yV BK666.out 1).trans rfl; have hcz28_2 : w25.cell? ⟨gb666, 2, none⟩ = some (.slice A0_2 l0_2.length c0_2) := (yV BK666.out 2).trans rfl; have hcz28_3 : w25.cell? ⟨gb666, 3, none⟩ = some (.slice A0_3 l0_3.length c0_3) := (yV BK666.out 3).trans rfl; have hfz28_0 := yW BK666.out 0; have hfz28_1 := yW BK666.out 1; have hfz28_2 := yW BK666.out 2; have hfz28_3 := yW BK666.out 3; have p683 : 0 ≤ (((rd_T70 x4_1 x6_1).f0) : Int) := zG (by first | (with_reducible assumption) | assumption); have q683 : ((rd_T70 x4_1 x6_1).f0) < (l0_3.length : Int) := zG (by first | (with_reducible assumption) | assumption); obtain ⟨ad683, e683, hx683_0⟩ := Kd.at_bool HR0_3.out ((rd_T70 x4_1 x6_1).f0) p683 q683; (try rw [← Nbq22.out] at hx683_0); cases e683; have hn683_0 : ad683.block ≠ gb682 := Nat.ne_of_lt (Nat.lt_of_lt_of_le (by have := zE _ _ hx683_0; first | rwa [add_block] at this | exact this) GW682.out); have hn683_1 : ad683.block ≠ gb682 := Nat.ne_of_lt (Nat.lt_of_lt_of_le (by have := zE _ _ hx683_0; first | rwa [add_block] at this | exact this) GW682.out); have hn683_2 : ad683.block ≠ gb682 := Nat.ne_of_lt (Nat.lt_of_lt_of_le (by have := zE _ _ hx683_0; first | rwa [add_block] at this | exact this) GW682.out); have hn683_3 : ad683.block ≠ gb682 := Nat.ne_of_lt (Nat.lt_of_lt_of_le (by have := zE _ _ hx683_0; first | rwa [add_block] at this | exact this) GW682.out); replace hx683_0 := (HB.out.cell (zE w _ hx683_0)).trans hx683_0; replace hx683_0 := (cell_far (p := ⟨gb682, 0, none⟩) (by first | (rw [add_block]; exact hn683_0) | (show (Addr.add _ _).block ≠ _; rw [add_block]; exact hn683_0) | exact hn683_0) (.int .i64 ((rd_T70 x4_1 x6_1).f0))).trans hx683_0; replace hx683_0 := (cell_far (p := ⟨gb682, 1, none⟩) (by first | (rw [add_block]; exact hn683_1) | (show (Addr.add _ _).block ≠ _; rw [add_block]; exact hn683_1) | exact hn683_1) (.int .i64 ((rd_T70 x4_1 x6_1).f1))).trans hx683_0; replace hx683_0 := (cell_far (p := ⟨gb682, 2, none⟩) (by first | (rw [add_block]; exact hn683_2) | (show (Addr.add _ _).block ≠ _; rw [add_block]; exact hn683_2) | exact hn683_2) (.int .i64 ((rd_T70 x4_1 x6_1).f2))).trans hx683_0; replace hx683_0 := (cell_far (p := ⟨gb682, 3, none⟩) (by first | (rw [add_block]; exact hn683_3) | (show (Addr.add _ _).block ≠ _; rw [add_block]; exact hn683_3) | exact hn683_3) (.int .i64 ((rd_T70 x4_1 x6_1).f3))).trans hx683_0; clear hn683_0; clear hn683_1; clear hn683_2; clear hn683_3; replace p683 := eq_true p683; replace q683 := eq_true q683) | ((with_reducible refine gate_dst (N := 40) rfl ?_); refine Kd.R_lit (Kd.int .i64) _ 3 ?hg (N := 40) ?hd (xs := ([] : List Int)) (inner := []) (ok := fun _ => True) (okp := fun _ => True) ?hr ?hp (fun _ hk => hk) trivial (zV _ _) (zT _) (by simp) ?_; (case hd => rfl); (case hg => rfl); (case hr => first | (go_simp; done) | (go_simp; rfl)); (case hp => exact (Reps.none _ _)); intro v685 w29 ho30 hb hg_ hnew_; clear hg_ hnew_; (first | rw [← Ny684.out] at ho30 | (simp only [Int.reduceToNat] at ho30; rw [← Ny684.out] at ho30)); have n0_ := yA (yK (mR (zP (zQ (p := ⟨gb682, 3, none⟩) (zQ (p := ⟨gb682, 2, none⟩) (zQ (p := ⟨gb682, 1, none⟩) (zQ (p := ⟨gb682, 0, none⟩) (zP HO_4.out (fun k_ hk => (⟨hk, hk.2⟩ : _ ∧ k_ ≠ gb682))) (fun _ hk => hk.2) (.int .i64 ((rd_T70 x4_1 x6_1).f0))) (fun _ hk => hk.2) (.int .i64 ((rd_T70 x4_1 x6_1).f1))) (fun _ hk => hk.2) (.int .i64 ((rd_T70 x4_1 x6_1).f2))) (fun _ hk => hk.2) (.int .i64 ((rd_T70 x4_1 x6_1).f3))) (fun _ h_ => h_.1))) hb); have n1_ := yA (yK (mR (zP (zQ (p := ⟨gb682, 3, none⟩) (zQ (p := ⟨gb682, 2, none⟩) (zQ (p := ⟨gb682, 1, none⟩) (zQ (p := ⟨gb682, 0, none⟩) (zR HO_5.out BK682.out (by decide)) (fun _ hk => hk.2) (.int .i64 ((rd_T70 x4_1 x6_1).f0))) (fun _ hk => hk.2) (.int .i64 ((rd_T70 x4_1 x6_1).f1))) (fun _ hk => hk.2) (.int .i64 ((rd_T70 x4_1 x6_1).f2))) (fun _ hk => hk.2) (.int .i64 ((rd_T70 x4_1 x6_1).f3))) (fun _ h_ => h_.1))) hb); have n2_ := yA (Kd.R_lower ho30 (yX (by with_reducible repeat first | exact HB.out | apply yO | apply yN | apply yP | refine yQ ?_ GE666.out | refine yQ ?_ GE682.out))); have n3_ := yA (yU (g := gb666) (o := .cells #[.int .i64 a0_0, .int .i64 a0_1, .slice A0_2 l0_2.length c0_2, .slice (some ad683) l0_3.length c0_3] 25 (0, 0)) (by (with_reducible repeat (first | refine yS ?_ _ | refine yT ?_ | refine yR ?_ _)); refine blk_far ?_ NB666_682.out _; (with_reducible repeat (first | refine yS ?_ _ | refine yT ?_ | refine yR ?_ _)); refine blk_far ?_ NB666_682.out _; (with_reducible repeat (first | refine yS ?_ _ | refine yT ?_ | refine yR ?_ _)); refine blk_far ?_ NB666_682.out _; (with_reducible repeat (first | refine yS ?_ _ | refine yT ?_ | refine yR ?_ _)); refine blk_far ?_ NB666_682.out _; (with_reducible repeat (first | refine yS ?_ _ | refine yT ?_ | refine yR ?_ _)); exact BK666.out) hb); have n4_ := yA (yU (g := gb682) (o := .cells #[.int .i64 ((rd_T70 x4_1 x6_1).f0), .int .i64 ((rd_T70 x4_1 x6_1).f1), .int .i64 ((rd_T70 x4_1 x6_1).f2), .int .i64 ((rd_T70 x4_1 x6_1).f3)] 70 (0, 0)) (by (with_reducible repeat (first | refine yS ?_ _ | refine yT ?_ | refine yR ?_ _)); refine blk_put (cs := #[.int .i64 ((rd_T70 x4_1 x6_1).f0), .int .i64 ((rd_T70 x4_1 x6_1).f1), .int .i64 ((rd_T70 x4_1 x6_1).f2), .int .i64 0]) ?_ 3 _ rfl; (with_reducible repeat (first | refine yS ?_ _ | refine yT ?_ | refine yR ?_ _)); refine blk_put (cs := #[.int .i64 ((rd_T70 x4_1 x6_1).f0), .int .i64 ((rd_T70 x4_1 x6_1).f1), .int .i64 0, .int .i64 0]) ?_ 2 _ rfl; (with_reducible repeat (first | refine yS ?_ _ | refine yT ?_ | refine yR ?_ _)); refine blk_put (cs := #[.int .i64 ((rd_T70 x4_1 x6_1).f0), .int .i64 0, .int .i64 0, .int .i64 0]) ?_ 1 _ rfl; (with_reducible repeat (first | refine yS ?_ _ | refine yT ?_ | refine yR ?_ _)); refine blk_put (cs := #[.int .i64 0, .int .i64 0, .int .i64 0, .int .i64 0]) ?_ 0 _ rfl; (with_reducible repeat (first | refine yS ?_ _ | refine yT ?_ | refine yR ?_ _)); exact BK682.out) hb); have n5_ := yA (zD (by with_reducible repeat first | exact HB.out | apply yO | apply yN | apply yP | refine yQ ?_ GE666.out | refine yQ ?_ GE682.out) hb); clear HO_4; clear HO_5; clear BK666; clear BK682; clear HB; have HO_4 := n0_; have HO_5 := n1_; have HO686 := n2_; have BK666 := n3_; have BK682 := n4_; have HB := n5_; clear n0_ n1_ n2_ n3_ n4_ n5_; clear hb ho30))
            go_loopg [8, 9] k1 (fun kq v8 v9 w' => ∃ (x8_2 : List Int) (x9_2 : Int), v9 = .int .i64 x9_2 ∧ Aside0 (impl_LeastMember.l1 kq x4_1 x8_2 x9_2 a0_0 a0_1 l0_2 l0_3 = some (r1, r2)) ∧ Aside0 (kq ≤ k1) ∧ Aside0 (Kd.R k70 70 w' w.heap.size (fun k_ => k_ ≠ gb682) (.slice (some ad681) x4_1.length co24) x4_1) ∧ Aside0 (Kd.R (Kd.int .i64) 3 w' w.heap.size (fun _ => True) v8 x8_2) ∧ Aside0 (w'.heap[gb666]? = some (.cells #[.int .i64 a0_0, .int .i64 a0_1, (.slice A0_2 l0_2.length c0_2), (.slice (some ad683) l0_3.length c0_3)] 25 (0, 0))) ∧ Aside0 (w'.heap[gb682]? = some (.cells #[.int .i64 ((rd_T70 x4_1 x6_1).f0), .int .i64 ((rd_T70 x4_1 x6_1).f1), .int .i64 ((rd_T70 x4_1 x6_1).f2), .int .i64 ((rd_T70 x4_1 x6_1).f3)] 70 (0, 0))) ∧ Aside0 (Below w.heap.size w w'))
            case atStart => exact ⟨(y684), (x6_1), (by first | rfl | (simp; done) | (simp [*]; done)), H', ⟨zT _⟩, ⟨by (try simp only [hl5_1]); (with_reducible repeat (first | apply yB | apply yC | apply yD)); exact zP HO_4.out (fun _ hk => hk.2)⟩, ⟨by (try simp only [hl5_1]); (with_reducible repeat (first | apply yB | apply yC | apply yD)); exact HO686.out⟩, ⟨by (try simp only [hl5_1]); (with_reducible repeat (first | refine yS ?_ _ | refine yT ?_ | refine yR ?_ _)); exact BK666.out⟩, ⟨by (try simp only [hl5_1]); (with_reducible repeat (first | refine yS ?_ _ | refine yT ?_ | refine yR ?_ _)); exact BK682.out⟩, ⟨by repeat (first | (with_reducible first | exact HB.out | apply yO | apply yN | apply yP | refine yQ ?_ GE666.out | refine yQ ?_ GE682.out) | exact HB.out)⟩⟩
            case round =>
             clear H'
             try clear c1
             try clear c2
             try clear p2
             try clear q2
             try clear c3
             try clear c4
             try clear c4b0
             try clear c4b1
             try clear c5
             try clear c5b0
             try clear c5b1
             try clear c6
             try clear c6b0
             try clear c6b1
             try clear p6
             try clear q6
             try clear hx6
             try clear p7
             try clear q7
             try clear hx7
             try clear qi7
             try clear hf7
             try clear c18
             try clear c18b0
             try clear c19
             try clear c19b0
             try clear c20
             try clear c20b0
             try clear c21
             try clear c21b0
             try clear q22
             try clear c23
             try clear c26
             try clear hcz13_0
             try clear hcz13_1
             try clear hcz13_2
             try clear hcz13_3
             try clear hcz27_0
             try clear hcz27_1
             try clear hcz27_2
             try clear hcz27_3
             try clear hcz28_0
             try clear hcz28_1
             try clear hcz28_2
             try clear hcz28_3
             try clear hcz9_0
             try clear hcz9_1
             try clear hcz9_2
             try clear hcz9_3
             try clear hfz13_0
             try clear hfz13_1
             try clear hfz13_2
             try clear hfz13_3
             try clear hfz27_0
             try clear hfz27_1
             try clear hfz27_2
             try clear hfz27_3
             try clear hfz28_0
             try clear hfz28_1
             try clear hfz28_2
             try clear hfz28_3
             try clear hfz9_0
             try clear hfz9_1
             try clear hfz9_2
             try clear hfz9_3
             try clear hx681_0
             try clear hx681_1
             try clear hx681_2
             try clear hx681_3
             try clear hx683_0
             try clear hx7_0
             try clear p2
             try clear p681
             try clear p683
             try clear p7
             try clear q681
             try clear q683
             try clear q7
             obtain ⟨x8_2, x9_2, rfl, HA, HK2, HO_4, HO_8, BK666, BK682, HB⟩ := hrel
             cases gk with
             | zero => exact absurd HA.out (by simp [impl_LeastMember.l1])
             | succ k2 =>
              have H := HA.out
              clear HA
              simp only [impl_LeastMember.l1] at H
              by_cases c31 : 0 ≤ x9_2
              ·rw [if_pos c31] at H
               have c31b0 : decide (0 ≤ x9_2) = true := zH c31
               clear c31
               by_cases c32 : x9_2 < (x4_1.length : Int)
               ·rw [if_pos c32] at H
                have c32b0 : decide (x9_2 < (x4_1.length : Int)) = true := zH c32
                clear c32
                by_cases c33 : ((rd_T70 x4_1 x9_2).f1) ≥ 0
                ·rw [if_pos c33] at H
                 have c33b0 : decide (0 ≤ ((rd_T70 x4_1 x9_2).f1)) = true := zH c33
                 clear c33
                 by_cases c34 : x8_2.length < 17592186044416
                 ·rw [if_pos c34] at H
                  have LMc34 := yA c34
                  clear c34
                  obtain ⟨y689, hy689⟩ : ∃ y_ : List Int, y_ = (x8_2 ++ [(rd_T70 x4_1 x9_2).f2]) := ⟨_, rfl⟩
                  replace H : (impl_LeastMember.l1 k2 x4_1 y689 ((rd_T70 x4_1 x9_2).f1) a0_0 a0_1 l0_2 l0_3) = some (r1, r2) := by first | (rw [hy689]; with_reducible exact H) | (have H2_ := (Option.bind_some _ _).symm.trans H; rw [hy689]; with_reducible exact H2_) | (have H2_ := (Option.bind_some _ _).symm.trans H; with_reducible exact H2_) | with_reducible exact H | (rw [hy689]; exact H) | exact H
                  have Ny689 := yA hy689
                  clear hy689
                  have H' := yA H
                  clear H
                  have p687 : 0 ≤ (x9_2 : Int) := zG (by first | (with_reducible assumption) | assumption)
                  have q687 : x9_2 < (x4_1.length : Int) := zG (by first | (with_reducible assumption) | assumption)
                  obtain ⟨ad687, e687, hx687_0, hx687_1, hx687_2, hx687_3⟩ := at_T70 (zN HO_4.out).2.2 x9_2 p687 q687
                  obtain rfl : ad681 = ad687 := (by injection e687)
                  replace p687 := eq_true p687
                  replace q687 := eq_true q687
                  have p688 : 0 ≤ (x9_2 : Int) := zG (by first | (with_reducible assumption) | assumption)
                  have q688 : x9_2 < (x4_1.length : Int) := zG (by first | (with_reducible assumption) | assumption)
                  obtain ⟨ad688, e688, hx688_0, hx688_1, hx688_2, hx688_3⟩ := at_T70 (zN HO_4.out).2.2 x9_2 p688 q688
                  obtain rfl : ad681 = ad688 := (by injection e688)
                  replace p688 := eq_true p688
                  replace q688 := eq_true q688
                  go_wp2_with (first | ((with_reducible refine gate_builtin (b := .append) (xs := #[.tmp 53, .tmp 59]) rfl ?_); at_builtin; refine Kd.R_append (Kd.int .i64) (w0 := w) w.heap.size rfl (.tmp 53) (.tmp 59) 38 3 (.int .i64 0) 8 rfl Try.underlying38 info3 rfl (by decide) (by omega) u8 x8_2 ((rd_T70 x4_1 x9_2).f2) [.int .i64 ((rd_T70 x4_1 x9_2).f2)] (fun _ => True) (fun _ => False) rfl rfl ?aP (fun _ hk => hk.elim) ?aF ?aO ?aB ?aS ?aL ?_; (case aP => exact rfl); (case aB => exact (by with_reducible repeat first | exact HB.out | apply yO | apply yN | apply yP | refine yQ ?_ GE666.out | refine yQ ?_ GE682.out)); (case aF => exact (fun _ _ => trivial)); (case aO => exact (mR HO_8.out)); (case aS => exact (yX (by with_reducible repeat first | exact HB.out | apply yO | apply yN | apply yP | refine yQ ?_ GE666.out | refine yQ ?_ GE682.out))); (case aL => have := LMc34.out; omega); intro v690 w35 ho hb hg hat; rw [← Ny689.out] at ho; have n0_ := yA (Kd.R_over' (mR HO_4.out) (Kd.R_typed (mR HO_8.out)) (by decide) hg); have n1_ := yA (blk_grown (g := gb666) (o := .cells #[.int .i64 a0_0, .int .i64 a0_1, .slice A0_2 l0_2.length c0_2, .slice (some ad683) l0_3.length c0_3] 25 (0, 0)) (mK BK666.out) hg (zW HO_8.out BK666.out (by decide))); have n2_ := yA (blk_grown (g := gb682) (o := .cells #[.int .i64 ((rd_T70 x4_1 x6_1).f0), .int .i64 ((rd_T70 x4_1 x6_1).f1), .int .i64 ((rd_T70 x4_1 x6_1).f2), .int .i64 ((rd_T70 x4_1 x6_1).f3)] 70 (0, 0)) (mK BK682.out) hg (zW HO_8.out BK682.out (by decide))); have n3_ := yA (hb); have n4_ := yA (ho); clear HO_4; clear BK666; clear BK682; clear HB; clear HO_8; have HO_4 := n0_; have BK666 := n1_; have BK682 := n2_; have HB := n3_; have HO691 := n4_; clear n0_ n1_ n2_ n3_ n4_; clear ho hb hg hat; have p692 : 0 ≤ (x9_2 : Int) := zG (by first | (with_reducible assumption) | assumption); have q692 : x9_2 < (x4_1.length : Int) := zG (by first | (with_reducible assumption) | assumption); obtain ⟨ad692, e692, hx692_0, hx692_1, hx692_2, hx692_3⟩ := at_T70 (zN HO_4.out).2.2 x9_2 p692 q692; obtain rfl : ad681 = ad692 := (by injection e692); replace p692 := eq_true p692; replace q692 := eq_true q692))
                  go_roundg k2
                  case measure => have := HK1.out; have := HK2.out; omega
                  case rel => exact ⟨(y689), ((rd_T70 x4_1 x9_2).f1), (by first | rfl | (simp; done) | (simp [*]; done)), H', ⟨by have := HK1.out; have := HK2.out; omega⟩, ⟨by (try simp only [hl5_1]); (with_reducible repeat (first | apply yB | apply yC | apply yD)); exact HO_4.out⟩, ⟨by (try simp only [hl5_1]); (with_reducible repeat (first | apply yB | apply yC | apply yD)); exact HO691.out⟩, ⟨by (try simp only [hl5_1]); (with_reducible repeat (first | refine yS ?_ _ | refine yT ?_ | refine yR ?_ _)); exact BK666.out⟩, ⟨by (try simp only [hl5_1]); (with_reducible repeat (first | refine yS ?_ _ | refine yT ?_ | refine yR ?_ _)); exact BK682.out⟩, ⟨by repeat (first | (with_reducible first | exact HB.out | apply yO | apply yN | apply yP | refine yQ ?_ GE666.out | refine yQ ?_ GE682.out) | exact HB.out)⟩⟩
                 ·rw [if_neg c34] at H
                  exact absurd H (by simp)
                ·rw [if_neg c33] at H
                 have c33b0 : decide (0 ≤ ((rd_T70 x4_1 x9_2).f1)) = false := decide_eq_false c33
                 clear c33
                 replace H := Option.bind_eq_some_iff.mp H
                 obtain ⟨t693, A360, H⟩ := H
                 replace H : ((impl_Relation_numbers.f k2 a0_0 a0_1 l0_2 l0_3 t693).bind fun t694 => (some (t694, true))) = some (r1, r2) := H
                 have A36 := yA A360
                 clear A360
                 replace H := Option.bind_eq_some_iff.mp H
                 obtain ⟨t694, A370, H⟩ := H
                 replace H : (some (t694, true)) = some (r1, r2) := H
                 have A37 := yA A370
                 clear A370
                 simp only [Option.some.injEq, Prod.mk.injEq] at H
                 obtain ⟨rfl, rfl⟩ := H
                 have p687 : 0 ≤ (x9_2 : Int) := zG (by first | (with_reducible assumption) | assumption)
                 have q687 : x9_2 < (x4_1.length : Int) := zG (by first | (with_reducible assumption) | assumption)
                 obtain ⟨ad687, e687, hx687_0, hx687_1, hx687_2, hx687_3⟩ := at_T70 (zN HO_4.out).2.2 x9_2 p687 q687
                 obtain rfl : ad681 = ad687 := (by injection e687)
                 replace p687 := eq_true p687
                 replace q687 := eq_true q687
                 obtain ⟨Ao38, co38, eo38⟩ := Kd.R_slice HO_8.out
                 subst eo38
                 go_wp2_with (first | ((with_reducible refine zS (f := 75) rfl ?_); refine goesL_ (some 62) rfl rfl Try.func75 (by kernel_rfl) rfl #[.slice Ao38 x8_2.length co38] rfl (by (try simp only [zI, zJ, zK]); first | done | rfl | (simp only [zL, zM]; rfl)) ?_; (with_reducible refine (slices_Reverse_int_int.calls k2 (fun k_ => some k_ = (.slice Ao38 x8_2.length co38 : Value).ownBlock) (.slice Ao38 x8_2.length co38) x8_2 t693 w _ ?side1 ?side2 A36.out).mono ?_); (case side1 => repeat (first | (with_reducible first | exact HB.out | apply yO | apply yN | apply yP | refine yQ ?_ GE666.out | refine yQ ?_ GE682.out) | exact HB.out)); (case side2 => exact Kd.R_tight rfl HO_8.out); rintro e w39 ⟨rfl, hy0, hb, hkp⟩; refine ⟨_, rfl, ?_⟩; have n0_ := yA (zP (ok' := fun k_ => k_ ≠ gb682) (Kd.R_keptB ((Kd.R_apart' HO_4.out (Kd.R_typed HO_8.out) (by decide))) hkp (fun k_ hk_ hs_ => (hk_.2) hs_)) (fun k_ hk_ => hk_.1.1)); have n1_ := yA (Kd.R_reok rfl hy0 (fun k_ e_ => HO_8.out.1 k_ e_)); have n2_ := yA (blk_kept (mK BK666.out) hkp (fun hs_ => (fun e_ => (zW HO_8.out BK666.out (by decide)) e_) hs_)); have n3_ := yA (blk_kept (mK BK682.out) hkp (fun hs_ => (fun e_ => (zW HO_8.out BK682.out (by decide)) e_) hs_)); have n4_ := yA (hb); clear HO_4; clear HO_8; clear BK666; clear BK682; clear HB; have HO_4 := n0_; have HO_8 := n1_; have BK666 := n2_; have BK682 := n3_; have HB := n4_; clear n0_ n1_ n2_ n3_ n4_; (try clear hb); (try clear hkp); (try clear hy0); have hnb40 := NB666_682.out; have hnc40 := NB682_666.out; have hcz41_0 : w39.cell? ⟨gb666, 0, none⟩ = some (.int .i64 a0_0) := (yV BK666.out 0).trans rfl; have hcz41_1 : w39.cell? ⟨gb666, 1, none⟩ = some (.int .i64 a0_1) := (yV BK666.out 1).trans rfl; have hcz41_2 : w39.cell? ⟨gb666, 2, none⟩ = some (.slice A0_2 l0_2.length c0_2) := (yV BK666.out 2).trans rfl; have hcz41_3 : w39.cell? ⟨gb666, 3, none⟩ = some (.slice (some ad683) l0_3.length c0_3) := (yV BK666.out 3).trans rfl; have hfz41_0 := yW BK666.out 0; have hfz41_1 := yW BK666.out 1; have hfz41_2 := yW BK666.out 2; have hfz41_3 := yW BK666.out 3) | ((with_reducible refine zS (f := 76) rfl ?_); refine goesL_ (some 65) rfl rfl Try.func76 (by kernel_rfl) rfl #[.agg #[.int .i64 a0_0, .int .i64 a0_1, .slice A0_2 l0_2.length c0_2, .slice (some ad683) l0_3.length c0_3], .slice Ao38 t693.length co38] rfl (by (try simp only [zI, zJ, zK]); first | done | (rw [show t693.length = x8_2.length from (zN HO_8.out).1.symm] <;> rfl) | rfl | (simp only [zL, zM]; rfl)) ?_; (with_reducible refine (impl_Relation_numbers.calls k2 a0_0 a0_1 _ _ l0_2 _ _ l0_3 _ _ t693 t694 _ ?side1 ?side2 ?side3 ?side4 ?side5 ?side6 A37.out).mono ?_); (case side1 => exact mC (yM HR0_2.out HB.out)); (case side2 => exact HC0_2.out); (case side3 => exact mC (yM HR0_3.out HB.out)); (case side4 => exact HC0_3.out); (case side5 => exact mC ((zN HO_8.out).2.2)); (case side6 => rw [show t693.length = x8_2.length from (zN HO_8.out).1.symm]; exact (zN HO_8.out).2.1); rintro e w42 ⟨v695, rfl, ho0, hb⟩; refine ⟨_, rfl, ?_⟩; have n0_ := yA (yK (mR HO_4.out) hb); have n1_ := yA (zO (mR HO_8.out) (yY ho0) hb); have n2_ := yA (Kd.R_lower (Kd.R_new' ho0 (yZ (mR HO_8.out))) (yX (by with_reducible repeat first | exact HB.out | apply yO | apply yN | apply yP | refine yQ ?_ GE666.out | refine yQ ?_ GE682.out))); have n3_ := yA (yU (mK BK666.out) hb); have n4_ := yA (yU (mK BK682.out) hb); have n5_ := yA (zD (by with_reducible repeat first | exact HB.out | apply yO | apply yN | apply yP | refine yQ ?_ GE666.out | refine yQ ?_ GE682.out) hb); clear HO_4; clear HO_8; clear BK666; clear BK682; clear HB; have HO_4 := n0_; have HO_8 := n1_; have HO696 := n2_; have BK666 := n3_; have BK682 := n4_; have HB := n5_; clear n0_ n1_ n2_ n3_ n4_ n5_; (try clear hb); (try clear hb2); (try clear hk); (try clear hi); (try clear ho0)))
                 go_ret2
                 exact ⟨_, by first | rfl | (simp [errW_none, errW_some] <;> rfl) | (simp [*, errW_none, errW_some] <;> rfl), by (with_reducible repeat (first | apply yB | apply yC | apply yD)); exact zP HO696.out (fun _ hk => trivial), by repeat (first | (with_reducible first | exact HB.out | apply yO | apply yN | apply yP | refine yQ ?_ GE666.out | refine yQ ?_ GE682.out) | exact HB.out)⟩
               ·rw [if_neg c32] at H
                exact absurd H (by simp)
              ·rw [if_neg c31] at H
               exact absurd H (by simp)
           ·replace c23 := Bool.eq_false_iff.mpr c23
            subst c23
            have H1 : (if ((rd_T70 x4_1 x6_1).f3) = 16 then (impl_LeastMember.l0 k1 x4_1 x5_1 (wrap64 (x6_1 + 1)) a0_0 a0_1 l0_2 l0_3) else (if ((rd_T70 x4_1 x6_1).f0) < (l0_2.length : Int) then (impl_LeastMember.l2 k1 x4_1 x5_1 x6_1 (rd_L1 l0_2 ((rd_T70 x4_1 x6_1).f0)) ((rd_L1 l0_2 ((rd_T70 x4_1 x6_1).f0)).length : Int) 0 a0_0 a0_1 l0_2 l0_3 ((rd_T70 x4_1 x6_1).f0) ((rd_T70 x4_1 x6_1).f1) ((rd_T70 x4_1 x6_1).f2) ((rd_T70 x4_1 x6_1).f3)) else (none))) = some (r1, r2) := by rw [if_neg (show ¬ (false = true) by decide)] at H; exact H
            clear H
            have H := H1
            clear H1
            by_cases c43 : ((rd_T70 x4_1 x6_1).f3) = 16
            ·rw [if_pos c43] at H
             have c43b0 : (((rd_T70 x4_1 x6_1).f3) == 16) = true := beq_iff_eq.mpr c43
             have c43b1 : (((rd_T70 x4_1 x6_1).f3) != 16) = false := bne_eq_false_iff_eq.mpr c43
             clear c43
             have H' := yA H
             clear H
             obtain ⟨Ao44, co44, eo44⟩ := Kd.R_slice HO_4.out
             subst eo44
             have p681 : 0 ≤ (x6_1 : Int) := zG (by first | (with_reducible assumption) | assumption)
             have q681 : x6_1 < (x4_1.length : Int) := zG (by first | (with_reducible assumption) | assumption)
             obtain ⟨ad681, e681, hx681_0, hx681_1, hx681_2, hx681_3⟩ := at_T70 (zN HO_4.out).2.2 x6_1 p681 q681
             cases e681
             replace p681 := eq_true p681
             replace q681 := eq_true q681
             go_wp2_with (first | ((with_reducible refine gate_dst (N := 7) rfl ?_); refine box_event ?hg (N := 7) ?hd (cs := #[.int .i64 0, .int .i64 0, .int .i64 0, .int .i64 0]) (t := 70) ?hr ?_; (case hd => rfl); (case hg => rfl); (case hr => first | (go_simp; done) | (go_simp; rfl)); intro gb682 hg w45 hbox hb; have n0_ := yA (yK (Kd.R_elderB (mR HO_4.out) gb682 (Nat.le_of_eq hg.symm)) hb); have n1_ := yA (yK (mR HO_5.out) hb); have n2_ := yA (yU (mK BK666.out) hb); have n3_ := yA (zD (by with_reducible repeat first | exact HB.out | apply yO | apply yN | apply yP | refine yQ ?_ GE666.out) hb); have n4_ := yA (hbox); have n5_ := yA ((by rw [hg]; exact (yX (by with_reducible repeat first | exact HB.out | apply yO | apply yN | apply yP | refine yQ ?_ GE666.out)) : w.heap.size ≤ gb682)); have n6_ := yA ((by rw [hg]; exact (yX (by with_reducible repeat first | exact HB.out | apply yO | apply yN | apply yP | refine yQ ?_ GE666.out)) : w.heap.size ≤ gb682)); have n7_ := yA ((by rw [hg]; exact Nat.ne_of_lt (zX (mK BK666.out)) : gb666 ≠ gb682)); have n8_ := yA ((by rw [hg]; exact Nat.ne_of_gt (zX (mK BK666.out)) : gb682 ≠ gb666)); clear HO_4; clear HO_5; clear BK666; clear HB; have HO_4 := n0_; have HO_5 := n1_; have BK666 := n2_; have HB := n3_; have BK682 := n4_; have GW682 := n5_; have GE682 := n6_; have NB666_682 := n7_; have NB682_666 := n8_; clear n0_ n1_ n2_ n3_ n4_ n5_ n6_ n7_ n8_; clear hb hbox hg; have hnb46 := NB682_666.out; have hnc46 := NB666_682.out; have hcz47_0 : w45.cell? ⟨gb682, 0, none⟩ = some (.int .i64 0) := (yV BK682.out 0).trans rfl; have hcz47_1 : w45.cell? ⟨gb682, 1, none⟩ = some (.int .i64 0) := (yV BK682.out 1).trans rfl; have hcz47_2 : w45.cell? ⟨gb682, 2, none⟩ = some (.int .i64 0) := (yV BK682.out 2).trans rfl; have hcz47_3 : w45.cell? ⟨gb682, 3, none⟩ = some (.int .i64 0) := (yV BK682.out 3).trans rfl; have hfz47_0 := yW BK682.out 0; have hfz47_1 := yW BK682.out 1; have hfz47_2 := yW BK682.out 2; have hfz47_3 := yW BK682.out 3; have hcz48_0 : w45.cell? ⟨gb666, 0, none⟩ = some (.int .i64 a0_0) := (yV BK666.out 0).trans rfl; have hcz48_1 : w45.cell? ⟨gb666, 1, none⟩ = some (.int .i64 a0_1) := (yV BK666.out 1).trans rfl; have hcz48_2 : w45.cell? ⟨gb666, 2, none⟩ = some (.slice A0_2 l0_2.length c0_2) := (yV BK666.out 2).trans rfl; have hcz48_3 : w45.cell? ⟨gb666, 3, none⟩ = some (.slice A0_3 l0_3.length c0_3) := (yV BK666.out 3).trans rfl; have hfz48_0 := yW BK666.out 0; have hfz48_1 := yW BK666.out 1; have hfz48_2 := yW BK666.out 2; have hfz48_3 := yW BK666.out 3; have p683 : 0 ≤ (((rd_T70 x4_1 x6_1).f0) : Int) := zG (by first | (with_reducible assumption) | assumption); have q683 : ((rd_T70 x4_1 x6_1).f0) < (l0_3.length : Int) := zG (by first | (with_reducible assumption) | assumption); obtain ⟨ad683, e683, hx683_0⟩ := Kd.at_bool HR0_3.out ((rd_T70 x4_1 x6_1).f0) p683 q683; (try rw [← Nbq22.out] at hx683_0); cases e683; have hn683_0 : ad683.block ≠ gb682 := Nat.ne_of_lt (Nat.lt_of_lt_of_le (by have := zE _ _ hx683_0; first | rwa [add_block] at this | exact this) GW682.out); have hn683_1 : ad683.block ≠ gb682 := Nat.ne_of_lt (Nat.lt_of_lt_of_le (by have := zE _ _ hx683_0; first | rwa [add_block] at this | exact this) GW682.out); have hn683_2 : ad683.block ≠ gb682 := Nat.ne_of_lt (Nat.lt_of_lt_of_le (by have := zE _ _ hx683_0; first | rwa [add_block] at this | exact this) GW682.out); have hn683_3 : ad683.block ≠ gb682 := Nat.ne_of_lt (Nat.lt_of_lt_of_le (by have := zE _ _ hx683_0; first | rwa [add_block] at this | exact this) GW682.out); replace hx683_0 := (HB.out.cell (zE w _ hx683_0)).trans hx683_0; replace hx683_0 := (cell_far (p := ⟨gb682, 0, none⟩) (by first | (rw [add_block]; exact hn683_0) | (show (Addr.add _ _).block ≠ _; rw [add_block]; exact hn683_0) | exact hn683_0) (.int .i64 ((rd_T70 x4_1 x6_1).f0))).trans hx683_0; replace hx683_0 := (cell_far (p := ⟨gb682, 1, none⟩) (by first | (rw [add_block]; exact hn683_1) | (show (Addr.add _ _).block ≠ _; rw [add_block]; exact hn683_1) | exact hn683_1) (.int .i64 ((rd_T70 x4_1 x6_1).f1))).trans hx683_0; replace hx683_0 := (cell_far (p := ⟨gb682, 2, none⟩) (by first | (rw [add_block]; exact hn683_2) | (show (Addr.add _ _).block ≠ _; rw [add_block]; exact hn683_2) | exact hn683_2) (.int .i64 ((rd_T70 x4_1 x6_1).f2))).trans hx683_0; replace hx683_0 := (cell_far (p := ⟨gb682, 3, none⟩) (by first | (rw [add_block]; exact hn683_3) | (show (Addr.add _ _).block ≠ _; rw [add_block]; exact hn683_3) | exact hn683_3) (.int .i64 ((rd_T70 x4_1 x6_1).f3))).trans hx683_0; clear hn683_0; clear hn683_1; clear hn683_2; clear hn683_3; replace p683 := eq_true p683; replace q683 := eq_true q683))
             (try simp only [← hl5_1])
             go_roundg k1
             case measure => have := HK1.out; omega
             case rel => exact ⟨(x4_1), (x5_1), (wrap64 (x6_1 + 1)), (by first | rfl | (simp; done) | (simp [*]; done)), H', ⟨by have := HK1.out; omega⟩, ⟨by (try simp only [hl5_1]); (with_reducible repeat (first | apply yB | apply yC | apply yD)); exact zP (zQ (p := ⟨gb682, 3, none⟩) (zQ (p := ⟨gb682, 2, none⟩) (zQ (p := ⟨gb682, 1, none⟩) (zQ (p := ⟨gb682, 0, none⟩) (zP HO_4.out (fun k_ hk => (⟨hk, hk.2⟩ : _ ∧ k_ ≠ gb682))) (fun _ hk => hk.2) (.int .i64 ((rd_T70 x4_1 x6_1).f0))) (fun _ hk => hk.2) (.int .i64 ((rd_T70 x4_1 x6_1).f1))) (fun _ hk => hk.2) (.int .i64 ((rd_T70 x4_1 x6_1).f2))) (fun _ hk => hk.2) (.int .i64 ((rd_T70 x4_1 x6_1).f3))) (fun _ hk => trivial)⟩, ⟨by (try simp only [hl5_1]); (with_reducible repeat (first | apply yB | apply yC | apply yD)); exact zP (zQ (p := ⟨gb682, 3, none⟩) (zQ (p := ⟨gb682, 2, none⟩) (zQ (p := ⟨gb682, 1, none⟩) (zQ (p := ⟨gb682, 0, none⟩) (zR HO_5.out BK682.out (by decide)) (fun _ hk => hk.2) (.int .i64 ((rd_T70 x4_1 x6_1).f0))) (fun _ hk => hk.2) (.int .i64 ((rd_T70 x4_1 x6_1).f1))) (fun _ hk => hk.2) (.int .i64 ((rd_T70 x4_1 x6_1).f2))) (fun _ hk => hk.2) (.int .i64 ((rd_T70 x4_1 x6_1).f3))) (fun _ hk => trivial)⟩, ⟨by (try simp only [hl5_1]); (with_reducible repeat (first | refine yS ?_ _ | refine yT ?_ | refine yR ?_ _)); refine blk_far ?_ NB666_682.out _; (with_reducible repeat (first | refine yS ?_ _ | refine yT ?_ | refine yR ?_ _)); refine blk_far ?_ NB666_682.out _; (with_reducible repeat (first | refine yS ?_ _ | refine yT ?_ | refine yR ?_ _)); refine blk_far ?_ NB666_682.out _; (with_reducible repeat (first | refine yS ?_ _ | refine yT ?_ | refine yR ?_ _)); refine blk_far ?_ NB666_682.out _; (with_reducible repeat (first | refine yS ?_ _ | refine yT ?_ | refine yR ?_ _)); exact BK666.out⟩, ⟨by repeat (first | (with_reducible first | exact HB.out | apply yO | apply yN | apply yP | refine yQ ?_ GE666.out | refine yQ ?_ GE682.out) | exact HB.out)⟩⟩
            ·rw [if_neg c43] at H
             have c43b0 : (((rd_T70 x4_1 x6_1).f3) == 16) = false := beq_eq_false_iff_ne.mpr c43
             have c43b1 : (((rd_T70 x4_1 x6_1).f3) != 16) = true := bne_iff_ne.mpr c43
             by_cases c49 : ((rd_T70 x4_1 x6_1).f0) < (l0_2.length : Int)
             ·rw [if_pos c49] at H
              have c49b0 : decide (((rd_T70 x4_1 x6_1).f0) < (l0_2.length : Int)) = true := zH c49
              clear c49
              have H' := yA H
              clear H
              obtain ⟨Ao50, co50, eo50⟩ := Kd.R_slice HO_4.out
              subst eo50
              have p681 : 0 ≤ (x6_1 : Int) := zG (by first | (with_reducible assumption) | assumption)
              have q681 : x6_1 < (x4_1.length : Int) := zG (by first | (with_reducible assumption) | assumption)
              obtain ⟨ad681, e681, hx681_0, hx681_1, hx681_2, hx681_3⟩ := at_T70 (zN HO_4.out).2.2 x6_1 p681 q681
              cases e681
              replace p681 := eq_true p681
              replace q681 := eq_true q681
              go_wp2_with (first | ((with_reducible refine gate_dst (N := 7) rfl ?_); refine box_event ?hg (N := 7) ?hd (cs := #[.int .i64 0, .int .i64 0, .int .i64 0, .int .i64 0]) (t := 70) ?hr ?_; (case hd => rfl); (case hg => rfl); (case hr => first | (go_simp; done) | (go_simp; rfl)); intro gb682 hg w51 hbox hb; have n0_ := yA (yK (Kd.R_elderB (mR HO_4.out) gb682 (Nat.le_of_eq hg.symm)) hb); have n1_ := yA (yK (mR HO_5.out) hb); have n2_ := yA (yU (mK BK666.out) hb); have n3_ := yA (zD (by with_reducible repeat first | exact HB.out | apply yO | apply yN | apply yP | refine yQ ?_ GE666.out) hb); have n4_ := yA (hbox); have n5_ := yA ((by rw [hg]; exact (yX (by with_reducible repeat first | exact HB.out | apply yO | apply yN | apply yP | refine yQ ?_ GE666.out)) : w.heap.size ≤ gb682)); have n6_ := yA ((by rw [hg]; exact (yX (by with_reducible repeat first | exact HB.out | apply yO | apply yN | apply yP | refine yQ ?_ GE666.out)) : w.heap.size ≤ gb682)); have n7_ := yA ((by rw [hg]; exact Nat.ne_of_lt (zX (mK BK666.out)) : gb666 ≠ gb682)); have n8_ := yA ((by rw [hg]; exact Nat.ne_of_gt (zX (mK BK666.out)) : gb682 ≠ gb666)); clear HO_4; clear HO_5; clear BK666; clear HB; have HO_4 := n0_; have HO_5 := n1_; have BK666 := n2_; have HB := n3_; have BK682 := n4_; have GW682 := n5_; have GE682 := n6_; have NB666_682 := n7_; have NB682_666 := n8_; clear n0_ n1_ n2_ n3_ n4_ n5_ n6_ n7_ n8_; clear hb hbox hg; have hnb52 := NB682_666.out; have hnc52 := NB666_682.out; have hcz53_0 : w51.cell? ⟨gb682, 0, none⟩ = some (.int .i64 0) := (yV BK682.out 0).trans rfl; have hcz53_1 : w51.cell? ⟨gb682, 1, none⟩ = some (.int .i64 0) := (yV BK682.out 1).trans rfl; have hcz53_2 : w51.cell? ⟨gb682, 2, none⟩ = some (.int .i64 0) := (yV BK682.out 2).trans rfl; have hcz53_3 : w51.cell? ⟨gb682, 3, none⟩ = some (.int .i64 0) := (yV BK682.out 3).trans rfl; have hfz53_0 := yW BK682.out 0; have hfz53_1 := yW BK682.out 1; have hfz53_2 := yW BK682.out 2; have hfz53_3 := yW BK682.out 3; have hcz54_0 : w51.cell? ⟨gb666, 0, none⟩ = some (.int .i64 a0_0) := (yV BK666.out 0).trans rfl; have hcz54_1 : w51.cell? ⟨gb666, 1, none⟩ = some (.int .i64 a0_1) := (yV BK666.out 1).trans rfl; have hcz54_2 : w51.cell? ⟨gb666, 2, none⟩ = some (.slice A0_2 l0_2.length c0_2) := (yV BK666.out 2).trans rfl; have hcz54_3 : w51.cell? ⟨gb666, 3, none⟩ = some (.slice A0_3 l0_3.length c0_3) := (yV BK666.out 3).trans rfl; have hfz54_0 := yW BK666.out 0; have hfz54_1 := yW BK666.out 1; have hfz54_2 := yW BK666.out 2; have hfz54_3 := yW BK666.out 3; have p683 : 0 ≤ (((rd_T70 x4_1 x6_1).f0) : Int) := zG (by first | (with_reducible assumption) | assumption); have q683 : ((rd_T70 x4_1 x6_1).f0) < (l0_3.length : Int) := zG (by first | (with_reducible assumption) | assumption); obtain ⟨ad683, e683, hx683_0⟩ := Kd.at_bool HR0_3.out ((rd_T70 x4_1 x6_1).f0) p683 q683; (try rw [← Nbq22.out] at hx683_0); cases e683; have hn683_0 : ad683.block ≠ gb682 := Nat.ne_of_lt (Nat.lt_of_lt_of_le (by have := zE _ _ hx683_0; first | rwa [add_block] at this | exact this) GW682.out); have hn683_1 : ad683.block ≠ gb682 := Nat.ne_of_lt (Nat.lt_of_lt_of_le (by have := zE _ _ hx683_0; first | rwa [add_block] at this | exact this) GW682.out); have hn683_2 : ad683.block ≠ gb682 := Nat.ne_of_lt (Nat.lt_of_lt_of_le (by have := zE _ _ hx683_0; first | rwa [add_block] at this | exact this) GW682.out); have hn683_3 : ad683.block ≠ gb682 := Nat.ne_of_lt (Nat.lt_of_lt_of_le (by have := zE _ _ hx683_0; first | rwa [add_block] at this | exact this) GW682.out); replace hx683_0 := (HB.out.cell (zE w _ hx683_0)).trans hx683_0; replace hx683_0 := (cell_far (p := ⟨gb682, 0, none⟩) (by first | (rw [add_block]; exact hn683_0) | (show (Addr.add _ _).block ≠ _; rw [add_block]; exact hn683_0) | exact hn683_0) (.int .i64 ((rd_T70 x4_1 x6_1).f0))).trans hx683_0; replace hx683_0 := (cell_far (p := ⟨gb682, 1, none⟩) (by first | (rw [add_block]; exact hn683_1) | (show (Addr.add _ _).block ≠ _; rw [add_block]; exact hn683_1) | exact hn683_1) (.int .i64 ((rd_T70 x4_1 x6_1).f1))).trans hx683_0; replace hx683_0 := (cell_far (p := ⟨gb682, 2, none⟩) (by first | (rw [add_block]; exact hn683_2) | (show (Addr.add _ _).block ≠ _; rw [add_block]; exact hn683_2) | exact hn683_2) (.int .i64 ((rd_T70 x4_1 x6_1).f2))).trans hx683_0; replace hx683_0 := (cell_far (p := ⟨gb682, 3, none⟩) (by first | (rw [add_block]; exact hn683_3) | (show (Addr.add _ _).block ≠ _; rw [add_block]; exact hn683_3) | exact hn683_3) (.int .i64 ((rd_T70 x4_1 x6_1).f3))).trans hx683_0; clear hn683_0; clear hn683_1; clear hn683_2; clear hn683_3; replace p683 := eq_true p683; replace q683 := eq_true q683; have p697 : 0 ≤ (((rd_T70 x4_1 x6_1).f0) : Int) := zG (by first | (with_reducible assumption) | assumption); have q697 : ((rd_T70 x4_1 x6_1).f0) < (l0_2.length : Int) := zG (by first | (with_reducible assumption) | assumption); obtain ⟨ad697, A697_0, c697_0, e697, hx697_0, hl697_0, hi697_0⟩ := at_L1 HR0_2.out ((rd_T70 x4_1 x6_1).f0) p697 q697; cases e697; have hn697_0 : ad697.block ≠ gb682 := Nat.ne_of_lt (Nat.lt_of_lt_of_le (by have := zE _ _ hx697_0; first | rwa [add_block] at this | exact this) GW682.out); have hn697_1 : ad697.block ≠ gb682 := Nat.ne_of_lt (Nat.lt_of_lt_of_le (by have := zE _ _ hx697_0; first | rwa [add_block] at this | exact this) GW682.out); have hn697_2 : ad697.block ≠ gb682 := Nat.ne_of_lt (Nat.lt_of_lt_of_le (by have := zE _ _ hx697_0; first | rwa [add_block] at this | exact this) GW682.out); have hn697_3 : ad697.block ≠ gb682 := Nat.ne_of_lt (Nat.lt_of_lt_of_le (by have := zE _ _ hx697_0; first | rwa [add_block] at this | exact this) GW682.out); replace hx697_0 := (HB.out.cell (zE w _ hx697_0)).trans hx697_0; have HR697_0 := yA hi697_0; have HC697_0 := yA hl697_0; clear hi697_0 hl697_0; replace hx697_0 := (cell_far (p := ⟨gb682, 0, none⟩) (by first | (rw [add_block]; exact hn697_0) | (show (Addr.add _ _).block ≠ _; rw [add_block]; exact hn697_0) | exact hn697_0) (.int .i64 ((rd_T70 x4_1 x6_1).f0))).trans hx697_0; replace hx697_0 := (cell_far (p := ⟨gb682, 1, none⟩) (by first | (rw [add_block]; exact hn697_1) | (show (Addr.add _ _).block ≠ _; rw [add_block]; exact hn697_1) | exact hn697_1) (.int .i64 ((rd_T70 x4_1 x6_1).f1))).trans hx697_0; replace hx697_0 := (cell_far (p := ⟨gb682, 2, none⟩) (by first | (rw [add_block]; exact hn697_2) | (show (Addr.add _ _).block ≠ _; rw [add_block]; exact hn697_2) | exact hn697_2) (.int .i64 ((rd_T70 x4_1 x6_1).f2))).trans hx697_0; replace hx697_0 := (cell_far (p := ⟨gb682, 3, none⟩) (by first | (rw [add_block]; exact hn697_3) | (show (Addr.add _ _).block ≠ _; rw [add_block]; exact hn697_3) | exact hn697_3) (.int .i64 ((rd_T70 x4_1 x6_1).f3))).trans hx697_0; clear hn697_0; clear hn697_1; clear hn697_2; clear hn697_3; replace p697 := eq_true p697; replace q697 := eq_true q697))
              go_loopg [4, 76] k1 (fun kq v4 v76 w' => ∃ (x4_2 : List (S70)) (x5_2 : List Bool) (x76_2 : Int), v76 = .int .i64 x76_2 ∧ Aside0 (impl_LeastMember.l2 kq x4_2 x5_2 x6_1 (rd_L1 l0_2 ((rd_T70 x4_1 x6_1).f0)) ((rd_L1 l0_2 ((rd_T70 x4_1 x6_1).f0)).length : Int) x76_2 a0_0 a0_1 l0_2 l0_3 ((rd_T70 x4_1 x6_1).f0) ((rd_T70 x4_1 x6_1).f1) ((rd_T70 x4_1 x6_1).f2) ((rd_T70 x4_1 x6_1).f3) = some (r1, r2)) ∧ Aside0 (kq ≤ k1) ∧ Aside0 (Kd.R k70 70 w' w.heap.size (fun k_ => k_ ≠ gb682) v4 x4_2) ∧ Aside0 (Kd.R Kd.bool 4 w' w.heap.size (fun _ => True) (.slice (some ⟨go7, 0, none⟩) x5_1.length co7) x5_2) ∧ Aside0 (w'.heap[gb666]? = some (.cells #[.int .i64 a0_0, .int .i64 a0_1, (.slice (some ad697) l0_2.length c0_2), (.slice (some ad683) l0_3.length c0_3)] 25 (0, 0))) ∧ Aside0 (w'.heap[gb682]? = some (.cells #[.int .i64 ((rd_T70 x4_1 x6_1).f0), .int .i64 ((rd_T70 x4_1 x6_1).f1), .int .i64 ((rd_T70 x4_1 x6_1).f2), .int .i64 ((rd_T70 x4_1 x6_1).f3)] 70 (0, 0))) ∧ Aside0 (Below w.heap.size w w'))
              case atStart => exact ⟨(x4_1), (x5_1), (0), (by first | rfl | (simp; done) | (simp [*]; done)), H', ⟨zT _⟩, ⟨by (try simp only [hl5_1]); (with_reducible repeat (first | apply yB | apply yC | apply yD)); exact zP (zQ (p := ⟨gb682, 3, none⟩) (zQ (p := ⟨gb682, 2, none⟩) (zQ (p := ⟨gb682, 1, none⟩) (zQ (p := ⟨gb682, 0, none⟩) (zP HO_4.out (fun k_ hk => (⟨hk, hk.2⟩ : _ ∧ k_ ≠ gb682))) (fun _ hk => hk.2) (.int .i64 ((rd_T70 x4_1 x6_1).f0))) (fun _ hk => hk.2) (.int .i64 ((rd_T70 x4_1 x6_1).f1))) (fun _ hk => hk.2) (.int .i64 ((rd_T70 x4_1 x6_1).f2))) (fun _ hk => hk.2) (.int .i64 ((rd_T70 x4_1 x6_1).f3))) (fun _ hk => hk.1.2)⟩, ⟨by (try simp only [hl5_1]); (with_reducible repeat (first | apply yB | apply yC | apply yD)); exact zP (zQ (p := ⟨gb682, 3, none⟩) (zQ (p := ⟨gb682, 2, none⟩) (zQ (p := ⟨gb682, 1, none⟩) (zQ (p := ⟨gb682, 0, none⟩) (zR HO_5.out BK682.out (by decide)) (fun _ hk => hk.2) (.int .i64 ((rd_T70 x4_1 x6_1).f0))) (fun _ hk => hk.2) (.int .i64 ((rd_T70 x4_1 x6_1).f1))) (fun _ hk => hk.2) (.int .i64 ((rd_T70 x4_1 x6_1).f2))) (fun _ hk => hk.2) (.int .i64 ((rd_T70 x4_1 x6_1).f3))) (fun _ hk => trivial)⟩, ⟨by (try simp only [hl5_1]); (with_reducible repeat (first | refine yS ?_ _ | refine yT ?_ | refine yR ?_ _)); refine blk_far ?_ NB666_682.out _; (with_reducible repeat (first | refine yS ?_ _ | refine yT ?_ | refine yR ?_ _)); refine blk_far ?_ NB666_682.out _; (with_reducible repeat (first | refine yS ?_ _ | refine yT ?_ | refine yR ?_ _)); refine blk_far ?_ NB666_682.out _; (with_reducible repeat (first | refine yS ?_ _ | refine yT ?_ | refine yR ?_ _)); refine blk_far ?_ NB666_682.out _; (with_reducible repeat (first | refine yS ?_ _ | refine yT ?_ | refine yR ?_ _)); exact BK666.out⟩, ⟨by (try simp only [hl5_1]); (with_reducible repeat (first | refine yS ?_ _ | refine yT ?_ | refine yR ?_ _)); refine blk_put (cs := #[.int .i64 ((rd_T70 x4_1 x6_1).f0), .int .i64 ((rd_T70 x4_1 x6_1).f1), .int .i64 ((rd_T70 x4_1 x6_1).f2), .int .i64 0]) ?_ 3 _ rfl; (with_reducible repeat (first | refine yS ?_ _ | refine yT ?_ | refine yR ?_ _)); refine blk_put (cs := #[.int .i64 ((rd_T70 x4_1 x6_1).f0), .int .i64 ((rd_T70 x4_1 x6_1).f1), .int .i64 0, .int .i64 0]) ?_ 2 _ rfl; (with_reducible repeat (first | refine yS ?_ _ | refine yT ?_ | refine yR ?_ _)); refine blk_put (cs := #[.int .i64 ((rd_T70 x4_1 x6_1).f0), .int .i64 0, .int .i64 0, .int .i64 0]) ?_ 1 _ rfl; (with_reducible repeat (first | refine yS ?_ _ | refine yT ?_ | refine yR ?_ _)); refine blk_put (cs := #[.int .i64 0, .int .i64 0, .int .i64 0, .int .i64 0]) ?_ 0 _ rfl; (with_reducible repeat (first | refine yS ?_ _ | refine yT ?_ | refine yR ?_ _)); exact BK682.out⟩, ⟨by repeat (first | (with_reducible first | exact HB.out | apply yO | apply yN | apply yP | refine yQ ?_ GE666.out | refine yQ ?_ GE682.out) | exact HB.out)⟩⟩
              case round =>
               clear H'
               try clear c1
               try clear c2
               try clear p2
               try clear q2
               try clear c3
               try clear c4
               try clear c4b0
               try clear c4b1
               try clear c5
               try clear c5b0
               try clear c5b1
               try clear c6
               try clear c6b0
               try clear c6b1
               try clear p6
               try clear q6
               try clear hx6
               try clear c7
               try clear p7
               try clear q7
               try clear hx7
               try clear qi7
               try clear hf7
               try clear c18
               try clear c18b0
               try clear c19
               try clear c19b0
               try clear c20
               try clear c20b0
               try clear c21
               try clear c21b0
               try clear q22
               try clear c23
               try clear c26
               try clear c31
               try clear c31b0
               try clear c32
               try clear c32b0
               try clear c33
               try clear c33b0
               try clear c34
               try clear c40
               try clear c43
               try clear c43b0
               try clear c43b1
               try clear c46
               try clear c49
               try clear c49b0
               try clear c52
               try clear hcz13_0
               try clear hcz13_1
               try clear hcz13_2
               try clear hcz13_3
               try clear hcz27_0
               try clear hcz27_1
               try clear hcz27_2
               try clear hcz27_3
               try clear hcz28_0
               try clear hcz28_1
               try clear hcz28_2
               try clear hcz28_3
               try clear hcz41_0
               try clear hcz41_1
               try clear hcz41_2
               try clear hcz41_3
               try clear hcz47_0
               try clear hcz47_1
               try clear hcz47_2
               try clear hcz47_3
               try clear hcz48_0
               try clear hcz48_1
               try clear hcz48_2
               try clear hcz48_3
               try clear hcz53_0
               try clear hcz53_1
               try clear hcz53_2
               try clear hcz53_3
               try clear hcz54_0
               try clear hcz54_1
               try clear hcz54_2
               try clear hcz54_3
               try clear hcz9_0
               try clear hcz9_1
               try clear hcz9_2
               try clear hcz9_3
               try clear hfz13_0
               try clear hfz13_1
               try clear hfz13_2
               try clear hfz13_3
               try clear hfz27_0
               try clear hfz27_1
               try clear hfz27_2
               try clear hfz27_3
               try clear hfz28_0
               try clear hfz28_1
               try clear hfz28_2
               try clear hfz28_3
               try clear hfz41_0
               try clear hfz41_1
               try clear hfz41_2
               try clear hfz41_3
               try clear hfz47_0
               try clear hfz47_1
               try clear hfz47_2
               try clear hfz47_3
               try clear hfz48_0
               try clear hfz48_1
               try clear hfz48_2
               try clear hfz48_3
               try clear hfz53_0
               try clear hfz53_1
               try clear hfz53_2
               try clear hfz53_3
               try clear hfz54_0
               try clear hfz54_1
               try clear hfz54_2
               try clear hfz54_3
               try clear hfz9_0
               try clear hfz9_1
               try clear hfz9_2
               try clear hfz9_3
               try clear hx681_0
               try clear hx681_1
               try clear hx681_2
               try clear hx681_3
               try clear hx683_0
               try clear hx687_0
               try clear hx687_1
               try clear hx687_2
               try clear hx687_3
               try clear hx688_0
               try clear hx688_1
               try clear hx688_2
               try clear hx688_3
               try clear hx692_0
               try clear hx692_1
               try clear hx692_2
               try clear hx692_3
               try clear hx697_0
               try clear hx7_0
               try clear p2
               try clear p6
               try clear p681
               try clear p683
               try clear p687
               try clear p688
               try clear p692
               try clear p697
               try clear p7
               try clear q2
               try clear q22
               try clear q6
               try clear q681
               try clear q683
               try clear q687
               try clear q688
               try clear q692
               try clear q697
               try clear q7
               obtain ⟨x4_2, x5_2, x76_2, rfl, HA, HK2, HO_4, HO_5, BK666, BK682, HB⟩ := hrel
               have hl5_2 := (zN HO_5.out).1
               rw [hl5_2] at HO_5
               (try simp only [hl5_2])
               (try simp only [hl5_2] at BK666)
               (try simp only [hl5_2] at BK682)
               (try simp only [hl5_2] at HO_4)
               cases gk with
               | zero => exact absurd HA.out (by simp [impl_LeastMember.l2])
               | succ k2 =>
                have H := HA.out
                clear HA
                simp only [impl_LeastMember.l2] at H
                by_cases c55 : x76_2 < ((rd_L1 l0_2 ((rd_T70 x4_1 x6_1).f0)).length : Int)
                ·rw [if_pos c55] at H
                 have c55b0 : decide (x76_2 < ((rd_L1 l0_2 ((rd_T70 x4_1 x6_1).f0)).length : Int)) = true := zH c55
                 clear c55
                 by_cases c56 : 0 ≤ x76_2
                 ·rw [if_pos c56] at H
                  have c56b0 : decide (0 ≤ x76_2) = true := zH c56
                  clear c56
                  by_cases c57 : x76_2 < ((rd_L1 l0_2 ((rd_T70 x4_1 x6_1).f0)).length : Int)
                  ·rw [if_pos c57] at H
                   have c57b0 : decide (x76_2 < ((rd_L1 l0_2 ((rd_T70 x4_1 x6_1).f0)).length : Int)) = true := zH c57
                   clear c57
                   by_cases c58 : 0 ≤ (rd (rd_L1 l0_2 ((rd_T70 x4_1 x6_1).f0)) x76_2)
                   ·rw [if_pos c58] at H
                    have c58b0 : decide (0 ≤ (rd (rd_L1 l0_2 ((rd_T70 x4_1 x6_1).f0)) x76_2)) = true := zH c58
                    clear c58
                    by_cases c59 : (rd (rd_L1 l0_2 ((rd_T70 x4_1 x6_1).f0)) x76_2) < (x5_2.length : Int)
                    ·rw [if_pos c59] at H
                     have c59b0 : decide ((rd (rd_L1 l0_2 ((rd_T70 x4_1 x6_1).f0)) x76_2) < (x5_2.length : Int)) = true := zH c59
                     clear c59
                     obtain ⟨bq60, hbq60⟩ : ∃ b_ : Bool, b_ = (rdOf false x5_2 (rd (rd_L1 l0_2 ((rd_T70 x4_1 x6_1).f0)) x76_2)) := ⟨_, rfl⟩
                     replace H : (if (bq60 = true) then (impl_LeastMember.l2 k2 x4_2 x5_2 x6_1 (rd_L1 l0_2 ((rd_T70 x4_1 x6_1).f0)) ((rd_L1 l0_2 ((rd_T70 x4_1 x6_1).f0)).length : Int) (wrap64 (x76_2 + 1)) a0_0 a0_1 l0_2 l0_3 ((rd_T70 x4_1 x6_1).f0) ((rd_T70 x4_1 x6_1).f1) ((rd_T70 x4_1 x6_1).f2) ((rd_T70 x4_1 x6_1).f3)) else (if x4_2.length < 4398046511104 then (impl_LeastMember.l2 k2 (x4_2 ++ [(⟨rd (rd_L1 l0_2 ((rd_T70 x4_1 x6_1).f0)) x76_2, x6_1, x76_2, wrap64 (((rd_T70 x4_1 x6_1).f3) + 1)⟩ : S70)]) (x5_2.set ((rd (rd_L1 l0_2 ((rd_T70 x4_1 x6_1).f0)) x76_2) : Int).toNat true) x6_1 (rd_L1 l0_2 ((rd_T70 x4_1 x6_1).f0)) ((rd_L1 l0_2 ((rd_T70 x4_1 x6_1).f0)).length : Int) (wrap64 (x76_2 + 1)) a0_0 a0_1 l0_2 l0_3 ((rd_T70 x4_1 x6_1).f0) ((rd_T70 x4_1 x6_1).f1) ((rd_T70 x4_1 x6_1).f2) ((rd_T70 x4_1 x6_1).f3)) else (none))) = some (r1, r2) := by rw [← hbq60] at H; exact H
                     have Nbq60 := yA hbq60
                     clear hbq60
                     by_cases c61 : (bq60 = true)
                     ·subst c61
                      have H1 : (impl_LeastMember.l2 k2 x4_2 x5_2 x6_1 (rd_L1 l0_2 ((rd_T70 x4_1 x6_1).f0)) ((rd_L1 l0_2 ((rd_T70 x4_1 x6_1).f0)).length : Int) (wrap64 (x76_2 + 1)) a0_0 a0_1 l0_2 l0_3 ((rd_T70 x4_1 x6_1).f0) ((rd_T70 x4_1 x6_1).f1) ((rd_T70 x4_1 x6_1).f2) ((rd_T70 x4_1 x6_1).f3)) = some (r1, r2) := by rw [if_pos rfl] at H; exact H
                      clear H
                      have H := H1
                      clear H1
                      have H' := yA H
                      clear H
                      have p698 : 0 ≤ (x76_2 : Int) := zG (by first | (with_reducible assumption) | assumption)
                      have q698 : x76_2 < ((rd_L1 l0_2 ((rd_T70 x4_1 x6_1).f0)).length : Int) := zG (by first | (with_reducible assumption) | assumption)
                      obtain ⟨ad698, e698, hx698_0⟩ := Kd.at_int HR697_0.out x76_2 p698 q698
                      cases e698
                      try replace hx698_0 := (HB.out.cell (zE w _ hx698_0)).trans hx698_0
                      replace p698 := eq_true p698
                      replace q698 := eq_true q698
                      have p699 : 0 ≤ ((rd (rd_L1 l0_2 ((rd_T70 x4_1 x6_1).f0)) x76_2) : Int) := zG (by first | (with_reducible assumption) | assumption)
                      have q699 : (rd (rd_L1 l0_2 ((rd_T70 x4_1 x6_1).f0)) x76_2) < (x5_2.length : Int) := zG (by first | (with_reducible assumption) | assumption)
                      obtain ⟨ad699, e699, hx699_0⟩ := Kd.at_bool (zN HO_5.out).2.2 (rd (rd_L1 l0_2 ((rd_T70 x4_1 x6_1).f0)) x76_2) p699 q699
                      (try rw [← Nbq22.out] at hx699_0)
                      (try rw [← Nbq60.out] at hx699_0)
                      obtain rfl : (⟨go7, 0, none⟩ : Addr) = ad699 := (by injection e699)
                      (first | simp only [add_plain] at hx699_0 | simp only [add_at] at hx699_0 | simp only [Addr.add, Nat.zero_add] at hx699_0 | skip)
                      replace p699 := eq_true p699
                      replace q699 := eq_true q699
                      go_wp2
                      (try simp only [← hl5_2])
                      go_roundg k2
                      case measure => have := HK1.out; have := HK2.out; omega
                      case rel => exact ⟨(x4_2), (x5_2), (wrap64 (x76_2 + 1)), (by first | rfl | (simp; done) | (simp [*]; done)), H', ⟨by have := HK1.out; have := HK2.out; omega⟩, ⟨by (try simp only [hl5_1]); (try simp only [hl5_2]); (with_reducible repeat (first | apply yB | apply yC | apply yD)); exact HO_4.out⟩, ⟨by (try simp only [hl5_1]); (try simp only [hl5_2]); (with_reducible repeat (first | apply yB | apply yC | apply yD)); exact HO_5.out⟩, ⟨by (try simp only [hl5_1]); (try simp only [hl5_2]); (with_reducible repeat (first | refine yS ?_ _ | refine yT ?_ | refine yR ?_ _)); exact BK666.out⟩, ⟨by (try simp only [hl5_1]); (try simp only [hl5_2]); (with_reducible repeat (first | refine yS ?_ _ | refine yT ?_ | refine yR ?_ _)); exact BK682.out⟩, ⟨by repeat (first | (with_reducible first | exact HB.out | apply yO | apply yN | apply yP | refine yQ ?_ GE666.out | refine yQ ?_ GE682.out) | exact HB.out)⟩⟩
                     ·replace c61 := Bool.eq_false_iff.mpr c61
                      subst c61
                      have H1 : (if x4_2.length < 4398046511104 then (impl_LeastMember.l2 k2 (x4_2 ++ [(⟨rd (rd_L1 l0_2 ((rd_T70 x4_1 x6_1).f0)) x76_2, x6_1, x76_2, wrap64 (((rd_T70 x4_1 x6_1).f3) + 1)⟩ : S70)]) (x5_2.set ((rd (rd_L1 l0_2 ((rd_T70 x4_1 x6_1).f0)) x76_2) : Int).toNat true) x6_1 (rd_L1 l0_2 ((rd_T70 x4_1 x6_1).f0)) ((rd_L1 l0_2 ((rd_T70 x4_1 x6_1).f0)).length : Int) (wrap64 (x76_2 + 1)) a0_0 a0_1 l0_2 l0_3 ((rd_T70 x4_1 x6_1).f0) ((rd_T70 x4_1 x6_1).f1) ((rd_T70 x4_1 x6_1).f2) ((rd_T70 x4_1 x6_1).f3)) else (none)) = some (r1, r2) := by rw [if_neg (show ¬ (false = true) by decide)] at H; exact H
                      clear H
                      have H := H1
                      clear H1
                      obtain ⟨y700, hy700⟩ : ∃ y_ : List Bool, y_ = (x5_2.set ((rd (rd_L1 l0_2 ((rd_T70 x4_1 x6_1).f0)) x76_2) : Int).toNat true) := ⟨_, rfl⟩
                      replace H : (if x4_2.length < 4398046511104 then (impl_LeastMember.l2 k2 (x4_2 ++ [(⟨rd (rd_L1 l0_2 ((rd_T70 x4_1 x6_1).f0)) x76_2, x6_1, x76_2, wrap64 (((rd_T70 x4_1 x6_1).f3) + 1)⟩ : S70)]) y700 x6_1 (rd_L1 l0_2 ((rd_T70 x4_1 x6_1).f0)) ((rd_L1 l0_2 ((rd_T70 x4_1 x6_1).f0)).length : Int) (wrap64 (x76_2 + 1)) a0_0 a0_1 l0_2 l0_3 ((rd_T70 x4_1 x6_1).f0) ((rd_T70 x4_1 x6_1).f1) ((rd_T70 x4_1 x6_1).f2) ((rd_T70 x4_1 x6_1).f3)) else (none)) = some (r1, r2) := by first | (rw [hy700]; with_reducible exact H) | (have H2_ := (Option.bind_some _ _).symm.trans H; rw [hy700]; with_reducible exact H2_) | (have H2_ := (Option.bind_some _ _).symm.trans H; with_reducible exact H2_) | with_reducible exact H | (rw [hy700]; exact H) | exact H
                      have Ny700 := yA hy700
                      clear hy700
                      by_cases c63 : x4_2.length < 4398046511104
                      ·rw [if_pos c63] at H
                       have LMc63 := yA c63
                       clear c63
                       obtain ⟨y701, hy701⟩ : ∃ y_ : List (S70), y_ = (x4_2 ++ [(⟨rd (rd_L1 l0_2 ((rd_T70 x4_1 x6_1).f0)) x76_2, x6_1, x76_2, wrap64 (((rd_T70 x4_1 x6_1).f3) + 1)⟩ : S70)]) := ⟨_, rfl⟩
                       replace H : (impl_LeastMember.l2 k2 y701 y700 x6_1 (rd_L1 l0_2 ((rd_T70 x4_1 x6_1).f0)) ((rd_L1 l0_2 ((rd_T70 x4_1 x6_1).f0)).length : Int) (wrap64 (x76_2 + 1)) a0_0 a0_1 l0_2 l0_3 ((rd_T70 x4_1 x6_1).f0) ((rd_T70 x4_1 x6_1).f1) ((rd_T70 x4_1 x6_1).f2) ((rd_T70 x4_1 x6_1).f3)) = some (r1, r2) := by first | (rw [hy701]; with_reducible exact H) | (have H2_ := (Option.bind_some _ _).symm.trans H; rw [hy701]; with_reducible exact H2_) | (have H2_ := (Option.bind_some _ _).symm.trans H; with_reducible exact H2_) | with_reducible exact H | (rw [hy701]; exact H) | exact H
                       have Ny701 := yA hy701
                       clear hy701
                       have H' := yA H
                       clear H
                       have p698 : 0 ≤ (x76_2 : Int) := zG (by first | (with_reducible assumption) | assumption)
                       have q698 : x76_2 < ((rd_L1 l0_2 ((rd_T70 x4_1 x6_1).f0)).length : Int) := zG (by first | (with_reducible assumption) | assumption)
                       obtain ⟨ad698, e698, hx698_0⟩ := Kd.at_int HR697_0.out x76_2 p698 q698
                       cases e698
                       try replace hx698_0 := (HB.out.cell (zE w _ hx698_0)).trans hx698_0
                       replace p698 := eq_true p698
                       replace q698 := eq_true q698
                       have p699 : 0 ≤ ((rd (rd_L1 l0_2 ((rd_T70 x4_1 x6_1).f0)) x76_2) : Int) := zG (by first | (with_reducible assumption) | assumption)
                       have q699 : (rd (rd_L1 l0_2 ((rd_T70 x4_1 x6_1).f0)) x76_2) < (x5_2.length : Int) := zG (by first | (with_reducible assumption) | assumption)
                       obtain ⟨ad699, e699, hx699_0⟩ := Kd.at_bool (zN HO_5.out).2.2 (rd (rd_L1 l0_2 ((rd_T70 x4_1 x6_1).f0)) x76_2) p699 q699
                       (try rw [← Nbq22.out] at hx699_0)
                       (try rw [← Nbq60.out] at hx699_0)
                       obtain rfl : (⟨go7, 0, none⟩ : Addr) = ad699 := (by injection e699)
                       (first | simp only [add_plain] at hx699_0 | simp only [add_at] at hx699_0 | simp only [Addr.add, Nat.zero_add] at hx699_0 | skip)
                       replace p699 := eq_true p699
                       replace q699 := eq_true q699
                       have p62 : 0 ≤ ((rd (rd_L1 l0_2 ((rd_T70 x4_1 x6_1).f0)) x76_2) : Int) := zG (by first | (with_reducible assumption) | assumption)
                       have q62 : ((rd (rd_L1 l0_2 ((rd_T70 x4_1 x6_1).f0)) x76_2) : Int) < ((x5_2.length : Int) : Int) := zG (by first | (with_reducible assumption) | assumption)
                       obtain ⟨hx62_0, hf62_0⟩ := Kd.R_celln false HO_5.out ((rd (rd_L1 l0_2 ((rd_T70 x4_1 x6_1).f0)) x76_2) : Int) p62 q62
                       replace p62 := eq_true p62
                       replace q62 := eq_true q62
                       have HP64 := Kd.R_putg HO_5.out ((rd (rd_L1 l0_2 ((rd_T70 x4_1 x6_1).f0)) x76_2) : Int) true
                       go_wp2_with (first | ((with_reducible refine gate_store (t := 4) (p := 88) rfl ?_); refine store_event (t := 4) (p := 88) (v := ?vo_w65) (w1 := (wr.setCell ⟨go7, ((rd (rd_L1 l0_2 ((rd_T70 x4_1 x6_1).f0)) x76_2) : Int).toNat, none⟩ (.bool true))) ?hg ?ho ?hn ?hr ?_; (case ho => rfl); (case hg => rfl); (case hn => rfl); (case hr => first | (go_simp; done) | (go_simp; rfl)); intro w65 hw; have hg : wr.grownBy w65 (some go7) := (by rw [hw]; exact HP64.2); have hp_ : Kd.R Kd.bool 4 w65 w.heap.size (fun _ => True) (.slice (some ⟨go7, 0, none⟩) x5_2.length co7) y700 := (by rw [hw, Ny700.out]; exact HP64.1); clear HP64; have n0_ := yA (Kd.R_over' (v := (.slice (some ⟨go7, 0, none⟩) x5_2.length co7)) (mR HO_4.out) (Kd.R_typed HO_5.out) (by decide) hg); have n1_ := yA (hp_); have n2_ := yA (blk_grown (g := gb666) (o := .cells #[.int .i64 a0_0, .int .i64 a0_1, .slice (some ad697) l0_2.length c0_2, .slice (some ad683) l0_3.length c0_3] 25 (0, 0)) (mK BK666.out) hg (zW HO_5.out BK666.out (by decide))); have n3_ := yA (blk_grown (g := gb682) (o := .cells #[.int .i64 ((rd_T70 x4_1 x6_1).f0), .int .i64 ((rd_T70 x4_1 x6_1).f1), .int .i64 ((rd_T70 x4_1 x6_1).f2), .int .i64 ((rd_T70 x4_1 x6_1).f3)] 70 (0, 0)) (mK BK682.out) hg (zW HO_5.out BK682.out (by decide))); have n4_ := yA ((by rw [hw]; exact yQ (HB.out) GB7.out : Below w.heap.size w w65)); clear HO_4; clear HO_5; clear BK666; clear BK682; clear HB; have HO_4 := n0_; have HO_5 := n1_; have BK666 := n2_; have BK682 := n3_; have HB := n4_; clear n0_ n1_ n2_ n3_ n4_; clear hg hw hp_; have hnb66 := NB682_666.out; have hnc66 := NB666_682.out; have hcz67_0 : w65.cell? ⟨gb682, 0, none⟩ = some (.int .i64 ((rd_T70 x4_1 x6_1).f0)) := (yV BK682.out 0).trans rfl; have hcz67_1 : w65.cell? ⟨gb682, 1, none⟩ = some (.int .i64 ((rd_T70 x4_1 x6_1).f1)) := (yV BK682.out 1).trans rfl; have hcz67_2 : w65.cell? ⟨gb682, 2, none⟩ = some (.int .i64 ((rd_T70 x4_1 x6_1).f2)) := (yV BK682.out 2).trans rfl; have hcz67_3 : w65.cell? ⟨gb682, 3, none⟩ = some (.int .i64 ((rd_T70 x4_1 x6_1).f3)) := (yV BK682.out 3).trans rfl; have hfz67_0 := yW BK682.out 0; have hfz67_1 := yW BK682.out 1; have hfz67_2 := yW BK682.out 2; have hfz67_3 := yW BK682.out 3) | ((with_reducible refine gate_builtin (b := .append) (xs := #[.tmp 89, .tmp 97]) rfl ?_); at_builtin; refine Kd.R_append k70 (w0 := w) w.heap.size rfl (.tmp 89) (.tmp 97) 71 70 (.agg #[(.int .i64 0), (.int .i64 0), (.int .i64 0), (.int .i64 0)]) 32 rfl Try.underlying71 info70 rfl (by decide) (by omega) u4 x4_2 (⟨rd (rd_L1 l0_2 ((rd_T70 x4_1 x6_1).f0)) x76_2, x6_1, x76_2, wrap64 (((rd_T70 x4_1 x6_1).f3) + 1)⟩ : S70) [.int .i64 (rd (rd_L1 l0_2 ((rd_T70 x4_1 x6_1).f0)) x76_2), .int .i64 x6_1, .int .i64 x76_2, .int .i64 (wrap64 (((rd_T70 x4_1 x6_1).f3) + 1))] (fun k_ => k_ ≠ gb682) (fun _ => False) rfl rfl ?aP (fun _ hk => hk.elim) ?aF ?aO ?aB ?aS ?aL ?_; (case aP => exact k70_mkM _ _ _ (⟨rd (rd_L1 l0_2 ((rd_T70 x4_1 x6_1).f0)) x76_2, x6_1, x76_2, wrap64 (((rd_T70 x4_1 x6_1).f3) + 1)⟩ : S70)); (case aB => exact (by with_reducible repeat first | exact HB.out | apply yO | apply yN | apply yP | refine yQ ?_ GE666.out | refine yQ ?_ GE682.out)); (case aF => exact (fun k_ hk => Kd.freshB (g := gb682) (o := .cells #[.int .i64 ((rd_T70 x4_1 x6_1).f0), .int .i64 ((rd_T70 x4_1 x6_1).f1), .int .i64 ((rd_T70 x4_1 x6_1).f2), .int .i64 ((rd_T70 x4_1 x6_1).f3)] 70 (0, 0)) (mK BK682.out) k_ hk)); (case aO => exact (mR HO_4.out)); (case aS => exact (yX (by with_reducible repeat first | exact HB.out | apply yO | apply yN | apply yP | refine yQ ?_ GE666.out | refine yQ ?_ GE682.out))); (case aL => have := LMc63.out; omega); intro v702 w68 ho hb hg hat; rw [← Ny701.out] at ho; have n0_ := yA (Kd.R_over' (mR HO_5.out) (Kd.R_typed (mR HO_4.out)) (by decide) hg); have n1_ := yA (blk_grown (g := gb666) (o := .cells #[.int .i64 a0_0, .int .i64 a0_1, .slice (some ad697) l0_2.length c0_2, .slice (some ad683) l0_3.length c0_3] 25 (0, 0)) (mK BK666.out) hg (zW HO_4.out BK666.out (by decide))); have n2_ := yA (blk_grown (g := gb682) (o := .cells #[.int .i64 ((rd_T70 x4_1 x6_1).f0), .int .i64 ((rd_T70 x4_1 x6_1).f1), .int .i64 ((rd_T70 x4_1 x6_1).f2), .int .i64 ((rd_T70 x4_1 x6_1).f3)] 70 (0, 0)) (mK BK682.out) hg (Kd.R_away HO_4.out (fun _ hk => hk))); have n3_ := yA (hb); have n4_ := yA (ho); clear HO_5; clear BK666; clear BK682; clear HB; clear HO_4; have HO_5 := n0_; have BK666 := n1_; have BK682 := n2_; have HB := n3_; have HO703 := n4_; clear n0_ n1_ n2_ n3_ n4_; clear ho hb hg hat))
                       (try simp only [← hl5_2])
                       go_roundg k2
                       case measure => have := HK1.out; have := HK2.out; omega
                       case rel => exact ⟨(y701), (y700), (wrap64 (x76_2 + 1)), (by first | rfl | (simp; done) | (simp [*]; done)), H', ⟨by have := HK1.out; have := HK2.out; omega⟩, ⟨by (try simp only [hl5_1]); (try simp only [hl5_2]); (with_reducible repeat (first | apply yB | apply yC | apply yD)); exact HO703.out⟩, ⟨by (try simp only [hl5_1]); (try simp only [hl5_2]); (with_reducible repeat (first | apply yB | apply yC | apply yD)); exact HO_5.out⟩, ⟨by (try simp only [hl5_1]); (try simp only [hl5_2]); (with_reducible repeat (first | refine yS ?_ _ | refine yT ?_ | refine yR ?_ _)); exact BK666.out⟩, ⟨by (try simp only [hl5_1]); (try simp only [hl5_2]); (with_reducible repeat (first | refine yS ?_ _ | refine yT ?_ | refine yR ?_ _)); exact BK682.out⟩, ⟨by repeat (first | (with_reducible first | exact HB.out | apply yO | apply yN | apply yP | refine yQ ?_ GE666.out | refine yQ ?_ GE682.out) | exact HB.out)⟩⟩
                      ·rw [if_neg c63] at H
                       exact absurd H (by simp)
                    ·rw [if_neg c59] at H
                     exact absurd H (by simp)
                   ·rw [if_neg c58] at H
                    exact absurd H (by simp)
                  ·rw [if_neg c57] at H
                   exact absurd H (by simp)
                 ·rw [if_neg c56] at H
                  exact absurd H (by simp)
                ·rw [if_neg c55] at H
                 have c55b0 : decide (x76_2 < ((rd_L1 l0_2 ((rd_T70 x4_1 x6_1).f0)).length : Int)) = false := decide_eq_false c55
                 clear c55
                 have H' := yA H
                 clear H
                 go_wp2
                 (try simp only [← hl5_1, ← hl5_2])
                 go_roundg k2
                 case measure => have := HK1.out; have := HK2.out; omega
                 case rel => exact ⟨(x4_2), (x5_2), (wrap64 (x6_1 + 1)), (by first | rfl | (simp; done) | (simp [*]; done)), H', ⟨by have := HK1.out; have := HK2.out; omega⟩, ⟨by (try simp only [hl5_1]); (try simp only [hl5_2]); (with_reducible repeat (first | apply yB | apply yC | apply yD)); exact zP HO_4.out (fun _ hk => trivial)⟩, ⟨by (try simp only [hl5_1]); (try simp only [hl5_2]); (with_reducible repeat (first | apply yB | apply yC | apply yD)); exact HO_5.out⟩, ⟨by (try simp only [hl5_1]); (try simp only [hl5_2]); (with_reducible repeat (first | refine yS ?_ _ | refine yT ?_ | refine yR ?_ _)); exact BK666.out⟩, ⟨by repeat (first | (with_reducible first | exact HB.out | apply yO | apply yN | apply yP | refine yQ ?_ GE666.out | refine yQ ?_ GE682.out) | exact HB.out)⟩⟩
             ·rw [if_neg c49] at H
              exact absurd H (by simp)
          ·rw [if_neg c21] at H
           exact absurd H (by simp)
         ·rw [if_neg c20] at H
          exact absurd H (by simp)
        ·rw [if_neg c19] at H
         exact absurd H (by simp)
       ·rw [if_neg c18] at H
        have c18b0 : decide (x6_1 < (x4_1.length : Int)) = false := decide_eq_false c18
        clear c18
        obtain ⟨y678, hy678⟩ : ∃ y_ : List Int, y_ = (([] : List Int)) := ⟨_, rfl⟩
        replace H : (some (y678, false)) = some (r1, r2) := by first | (rw [hy678]; with_reducible exact H) | (have H2_ := (Option.bind_some _ _).symm.trans H; rw [hy678]; with_reducible exact H2_) | (have H2_ := (Option.bind_some _ _).symm.trans H; with_reducible exact H2_) | with_reducible exact H | (rw [hy678]; exact H) | exact H
        have Ny678 := yA hy678
        clear hy678
        simp only [Option.some.injEq, Prod.mk.injEq] at H
        obtain ⟨rfl, rfl⟩ := H
        obtain ⟨Ao69, co69, eo69⟩ := Kd.R_slice HO_4.out
        subst eo69
        go_wp2_with (first | ((with_reducible refine gate_dst (N := 100) rfl ?_); refine Kd.R_lit (Kd.int .i64) _ 3 ?hg (N := 100) ?hd (xs := ([] : List Int)) (inner := []) (ok := fun _ => True) (okp := fun _ => True) ?hr ?hp (fun _ hk => hk) trivial (zV _ _) (zT _) (by simp) ?_; (case hd => rfl); (case hg => rfl); (case hr => first | (go_simp; done) | (go_simp; rfl)); (case hp => exact (Reps.none _ _)); intro v679 w70 ho71 hb hg_ hnew_; clear hg_ hnew_; (first | rw [← Ny678.out] at ho71 | (simp only [Int.reduceToNat] at ho71; rw [← Ny678.out] at ho71)); have n0_ := yA (yK (mR HO_4.out) hb); have n1_ := yA (yK (mR HO_5.out) hb); have n2_ := yA (Kd.R_lower ho71 (yX (by with_reducible repeat first | exact HB.out | apply yO | apply yN | apply yP | refine yQ ?_ GE666.out))); have n3_ := yA (yU (mK BK666.out) hb); have n4_ := yA (zD (by with_reducible repeat first | exact HB.out | apply yO | apply yN | apply yP | refine yQ ?_ GE666.out) hb); clear HO_4; clear HO_5; clear BK666; clear HB; have HO_4 := n0_; have HO_5 := n1_; have HO680 := n2_; have BK666 := n3_; have HB := n4_; clear n0_ n1_ n2_ n3_ n4_; clear hb ho71))
        go_ret2
        exact ⟨_, by first | rfl | (simp [errW_none, errW_some] <;> rfl) | (simp [*, errW_none, errW_some] <;> rfl), by (with_reducible repeat (first | apply yB | apply yC | apply yD)); exact HO680.out, by repeat (first | (with_reducible first | exact HB.out | apply yO | apply yN | apply yP | refine yQ ?_ GE666.out) | exact HB.out)⟩
    ·rw [if_neg c6] at H
     exact absurd H (by simp)
   ·rw [if_neg c5] at H
    exact absurd H (by simp)
  ·rw [if_neg c4] at H
   exact absurd H (by simp)
 ·replace c3 := Bool.eq_false_iff.mpr c3
  subst c3
  have H1 : (some ((([] : List Int)), false)) = some (r1, r2) := by rw [if_neg (show ¬ (false = true) by decide)] at H; exact H
  clear H
  have H := H1
  clear H1
  obtain ⟨y668, hy668⟩ : ∃ y_ : List Int, y_ = (([] : List Int)) := ⟨_, rfl⟩
  replace H : (some (y668, false)) = some (r1, r2) := by first | (rw [hy668]; with_reducible exact H) | (have H2_ := (Option.bind_some _ _).symm.trans H; rw [hy668]; with_reducible exact H2_) | (have H2_ := (Option.bind_some _ _).symm.trans H; with_reducible exact H2_) | with_reducible exact H | (rw [hy668]; exact H) | exact H
  have Ny668 := yA hy668
  clear hy668
  simp only [Option.some.injEq, Prod.mk.injEq] at H
  obtain ⟨rfl, rfl⟩ := H
  go_enter Try.func33, Try.ntmps33
  go_wp2_with (first | ((with_reducible refine gate_dst (N := 1) rfl ?_); refine box_event ?hg (N := 1) ?hd (cs := #[.int .i64 a0_0, .int .i64 a0_1, .slice A0_2 l0_2.length c0_2, .slice A0_3 l0_3.length c0_3]) (t := 25) ?hr ?_; (case hd => rfl); (case hg => rfl); (case hr => first | (go_simp; done) | (go_simp; rfl)); intro gb666 hg w72 hbox hb; have n0_ := yA (zD (mB HB.out) hb); have n1_ := yA (hbox); have n2_ := yA ((by rw [hg]; exact (yX (mB HB.out)) : w.heap.size ≤ gb666)); have n3_ := yA ((by rw [hg]; exact (yX (mB HB.out)) : w.heap.size ≤ gb666)); clear HB; have HB := n0_; have BK666 := n1_; have GW666 := n2_; have GE666 := n3_; clear n0_ n1_ n2_ n3_; clear hb hbox hg; have hcz73_0 : w72.cell? ⟨gb666, 0, none⟩ = some (.int .i64 a0_0) := (yV BK666.out 0).trans rfl; have hcz73_1 : w72.cell? ⟨gb666, 1, none⟩ = some (.int .i64 a0_1) := (yV BK666.out 1).trans rfl; have hcz73_2 : w72.cell? ⟨gb666, 2, none⟩ = some (.slice A0_2 l0_2.length c0_2) := (yV BK666.out 2).trans rfl; have hcz73_3 : w72.cell? ⟨gb666, 3, none⟩ = some (.slice A0_3 l0_3.length c0_3) := (yV BK666.out 3).trans rfl; have hfz73_0 := yW BK666.out 0; have hfz73_1 := yW BK666.out 1; have hfz73_2 := yW BK666.out 2; have hfz73_3 := yW BK666.out 3) | ((with_reducible refine zS (f := 65) rfl ?_); refine goesL_ (some 13) rfl rfl Try.func65 (by kernel_rfl) rfl #[.agg #[.int .i64 a0_0, .int .i64 a0_1, .slice A0_2 l0_2.length c0_2, .slice A0_3 l0_3.length c0_3]] rfl (by (try simp only [zI, zJ, zK]); first | done | rfl | (simp only [zL, zM]; rfl)) ?_; (with_reducible refine (impl_IsRelation.calls k a0_0 a0_1 _ _ l0_2 _ _ l0_3 false _ ?side1 ?side2 ?side3 ?side4 A2.out).mono ?_); (case side1 => exact mC (yM HR0_2.out HB.out)); (case side2 => exact HC0_2.out); (case side3 => exact mC (yM HR0_3.out HB.out)); (case side4 => exact HC0_3.out); rintro e w74 ⟨rfl, hb⟩; refine ⟨_, rfl, ?_⟩; have n0_ := yA (yU (mK BK666.out) hb); have n1_ := yA (zD (by with_reducible repeat first | exact HB.out | apply yO | apply yN | apply yP | refine yQ ?_ GE666.out) hb); clear BK666; clear HB; have BK666 := n0_; have HB := n1_; clear n0_ n1_; (try clear hb); (try clear hb2); (try clear hk); (try clear hi)) | ((with_reducible refine gate_dst (N := 15) rfl ?_); refine Kd.R_lit (Kd.int .i64) _ 3 ?hg (N := 15) ?hd (xs := ([] : List Int)) (inner := []) (ok := fun _ => True) (okp := fun _ => True) ?hr ?hp (fun _ hk => hk) trivial (zV _ _) (zT _) (by simp) ?_; (case hd => rfl); (case hg => rfl); (case hr => first | (go_simp; done) | (go_simp; rfl)); (case hp => exact (Reps.none _ _)); intro v669 w75 ho76 hb hg_ hnew_; clear hg_ hnew_; (first | rw [← Ny668.out] at ho76 | (simp only [Int.reduceToNat] at ho76; rw [← Ny668.out] at ho76)); have n0_ := yA (Kd.R_lower ho76 (yX (by with_reducible repeat first | exact HB.out | apply yO | apply yN | apply yP | refine yQ ?_ GE666.out))); have n1_ := yA (yU (mK BK666.out) hb); have n2_ := yA (zD (by with_reducible repeat first | exact HB.out | apply yO | apply yN | apply yP | refine yQ ?_ GE666.out) hb); clear BK666; clear HB; have HO670 := n0_; have BK666 := n1_; have HB := n2_; clear n0_ n1_ n2_; clear hb ho76))
  go_ret2
  exact ⟨_, by first | rfl | (simp [errW_none, errW_some] <;> rfl) | (simp [*, errW_none, errW_some] <;> rfl), by (with_reducible repeat (first | apply yB | apply yC | apply yD)); exact HO670.out, by repeat (first | (with_reducible first | exact HB.out | apply yO | apply yN | apply yP | refine yQ ?_ GE666.out) | exact HB.out)⟩

end Go.Proofs.Ytgopcliohchkmaa.Q
