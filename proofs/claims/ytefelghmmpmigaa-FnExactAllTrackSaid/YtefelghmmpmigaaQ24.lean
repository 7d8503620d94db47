-- written by a program of this session (a turned copy of the kit's print) out of the translation
-- squeezed
-- compact
import Derived.Test.YtefelghmmpmigaaQ0
import Derived.Test.YtefelghmmpmigaaQ23
namespace Go.Proofs.Ytefelghmmpmigaa.Q
open Go.RowKit Go.Proofs.YtefelghmmpmigaaW.PrintWords Go.Proofs.YtefelghmmpmigaaW.PrintLast Go.Proofs.YtefelghmmpmigaaW.PrintMore
attribute [local go_sem] max2_int min2_int max_two min_two max_three min_three max_four min_four   -- for this text's walks alone
set_option linter.unusedVariables false
set_option linter.unusedSimpArgs false

/-! ### impl_classes: function 91 -/
mutual
def impl_classes.l0 : Nat → List (List Int) → List (List Int) → List Int → Int → Int → Option (List Int)
 | 0, _, _, _, _, _ => none
 | k + 1, x0, x5, x18, x19, x20 => if x20 < x19 then (if 0 ≤ x20 then (if x20 < (x18.length : Int) then (if x5.length < 5864062014805 then (impl_classes.l0 k x0 (x5 ++ [(([rd x18 x20] : List Int))]) x18 x19 (wrap64 (x20 + 1))) else (none)) else (none)) else (none)) else ((impl_numbered.f k x5).bind fun bt394 => (impl_classes.l1 k x0 x5 bt394.1 bt394.2))
def impl_classes.l1 : Nat → List (List Int) → List (List Int) → List Int → Int → Option (List Int)
 | 0, _, _, _, _ => none
 | k + 1, x0, x5, x8, x9 => if 0 ≤ (x5.length : Int) then (impl_classes.l2 k x0 (x5.take (0 : Int).toNat) x8 x9 x0 (x0.length : Int) 0) else (none)
def impl_classes.l2 : Nat → List (List Int) → List (List Int) → List Int → Int → List (List Int) → Int → Int → Option (List Int)
 | 0, _, _, _, _, _, _, _ => none
 | k + 1, x0, x5, x8, x9, x37, x38, x39 => if x39 < x38 then (if 0 ≤ x39 then (if x39 < (x37.length : Int) then (if x39 < (x8.length : Int) then (impl_classes.l3 k x0 x5 x8 x9 (([rd x8 x39] : List Int)) x37 x38 x39 (rd_L1 x37 x39) ((rd_L1 x37 x39).length : Int) 0) else (none)) else (none)) else (none)) else ((impl_numbered.f k x5).bind fun bt401 => (if bt401.2 = x9 then (some bt401.1) else (impl_classes.l1 k x0 x5 bt401.1 bt401.2)))
def impl_classes.l3 : Nat → List (List Int) → List (List Int) → List Int → Int → List Int → List (List Int) → Int → Int → List Int → Int → Int → Option (List Int)
 | 0, _, _, _, _, _, _, _, _, _, _, _ => none
 | k + 1, x0, x5, x8, x9, x12, x37, x38, x39, x49, x50, x51 => if x51 < x50 then (if 0 ≤ x51 then (if x51 < (x49.length : Int) then (if 0 ≤ (rd x49 x51) then (if (rd x49 x51) < (x8.length : Int) then (if x12.length < 17592186044416 then (impl_classes.l3 k x0 x5 x8 x9 (x12 ++ [rd x8 (rd x49 x51)]) x37 x38 x39 x49 x50 (wrap64 (x51 + 1))) else (none)) else (none)) else (none)) else (none)) else (none)) else (if x5.length < 5864062014805 then (impl_classes.l2 k x0 (x5 ++ [x12]) x8 x9 x37 x38 (wrap64 (x39 + 1))) else (none))
end
def impl_classes.f (k : Nat) (l0 : List (List Int)) (l1 : List Int) : Option (List Int) := impl_classes.l0 k l0 (([] : List (List Int))) l1 (l1.length : Int) 0
theorem impl_classes.mono_l : ∀ k, (∀ y0 y1 y2 y3 y4, LeO (impl_classes.l0 k y0 y1 y2 y3 y4) (impl_classes.l0 (k + 1) y0 y1 y2 y3 y4)) ∧ (∀ y0 y1 y2 y3, LeO (impl_classes.l1 k y0 y1 y2 y3) (impl_classes.l1 (k + 1) y0 y1 y2 y3)) ∧ (∀ y0 y1 y2 y3 y4 y5 y6, LeO (impl_classes.l2 k y0 y1 y2 y3 y4 y5 y6) (impl_classes.l2 (k + 1) y0 y1 y2 y3 y4 y5 y6)) ∧ (∀ y0 y1 y2 y3 y4 y5 y6 y7 y8 y9 y10, LeO (impl_classes.l3 k y0 y1 y2 y3 y4 y5 y6 y7 y8 y9 y10) (impl_classes.l3 (k + 1) y0 y1 y2 y3 y4 y5 y6 y7 y8 y9 y10))
 | 0 => ⟨fun _ _ _ _ _ r h => by simp [impl_classes.l0] at h, fun _ _ _ _ r h => by simp [impl_classes.l1] at h, fun _ _ _ _ _ _ _ r h => by simp [impl_classes.l2] at h, fun _ _ _ _ _ _ _ _ _ _ _ r h => by simp [impl_classes.l3] at h⟩
 | k + 1 => by
  obtain ⟨ih0, ih1, ih2, ih3⟩ := impl_classes.mono_l k
  refine ⟨?_, ?_, ?_, ?_⟩
  ·intro y0 y1 y2 y3 y4
   unfold impl_classes.l0
   repeat' first
   | (with_reducible exact ih0 _ _ _ _ _)
   | (with_reducible exact ih1 _ _ _ _)
   | (with_reducible exact ih2 _ _ _ _ _ _ _)
   | (with_reducible exact ih3 _ _ _ _ _ _ _ _ _ _ _)
   | (with_reducible exact impl_numbered.mono _ _)
   | (with_reducible exact LeO.refl _)
   | (with_reducible exact LeO.none _)
   | (with_reducible refine LeO.ite ?_ ?_)
   | (with_reducible refine LeO.bind ?_ (fun _ => ?_))
   | exact ih0 _ _ _ _ _
   | exact ih1 _ _ _ _
   | exact ih2 _ _ _ _ _ _ _
   | exact ih3 _ _ _ _ _ _ _ _ _ _ _
   | exact impl_numbered.mono _ _
   | exact LeO.none _
   | refine LeO.ite ?_ ?_
   | refine LeO.bind ?_ (fun _ => ?_)
  ·intro y0 y1 y2 y3
   unfold impl_classes.l1
   repeat' first
   | (with_reducible exact ih0 _ _ _ _ _)
   | (with_reducible exact ih1 _ _ _ _)
   | (with_reducible exact ih2 _ _ _ _ _ _ _)
   | (with_reducible exact ih3 _ _ _ _ _ _ _ _ _ _ _)
   | (with_reducible exact impl_numbered.mono _ _)
   | (with_reducible exact LeO.refl _)
   | (with_reducible exact LeO.none _)
   | (with_reducible refine LeO.ite ?_ ?_)
   | (with_reducible refine LeO.bind ?_ (fun _ => ?_))
   | exact ih0 _ _ _ _ _
   | exact ih1 _ _ _ _
   | exact ih2 _ _ _ _ _ _ _
   | exact ih3 _ _ _ _ _ _ _ _ _ _ _
   | exact impl_numbered.mono _ _
   | exact LeO.none _
   | refine LeO.ite ?_ ?_
   | refine LeO.bind ?_ (fun _ => ?_)
  ·intro y0 y1 y2 y3 y4 y5 y6
   unfold impl_classes.l2
   repeat' first
   | (with_reducible exact ih0 _ _ _ _ _)
   | (with_reducible exact ih1 _ _ _ _)
   | (with_reducible exact ih2 _ _ _ _ _ _ _)
   | (with_reducible exact ih3 _ _ _ _ _ _ _ _ _ _ _)
   | (with_reducible exact impl_numbered.mono _ _)
   | (with_reducible exact LeO.refl _)
   | (with_reducible exact LeO.none _)
   | (with_reducible refine LeO.ite ?_ ?_)
   | (with_reducible refine LeO.bind ?_ (fun _ => ?_))
   | exact ih0 _ _ _ _ _
   | exact ih1 _ _ _ _
   | exact ih2 _ _ _ _ _ _ _
   | exact ih3 _ _ _ _ _ _ _ _ _ _ _
   | exact impl_numbered.mono _ _
   | exact LeO.none _
   | refine LeO.ite ?_ ?_
   | refine LeO.bind ?_ (fun _ => ?_)
  ·intro y0 y1 y2 y3 y4 y5 y6 y7 y8 y9 y10
   unfold impl_classes.l3
   repeat' first
   | (with_reducible exact ih0 _ _ _ _ _)
   | (with_reducible exact ih1 _ _ _ _)
   | (with_reducible exact ih2 _ _ _ _ _ _ _)
   | (with_reducible exact ih3 _ _ _ _ _ _ _ _ _ _ _)
   | (with_reducible exact impl_numbered.mono _ _)
   | (with_reducible exact LeO.refl _)
   | (with_reducible exact LeO.none _)
   | (with_reducible refine LeO.ite ?_ ?_)
   | (with_reducible refine LeO.bind ?_ (fun _ => ?_))
   | exact ih0 _ _ _ _ _
   | exact ih1 _ _ _ _
   | exact ih2 _ _ _ _ _ _ _
   | exact ih3 _ _ _ _ _ _ _ _ _ _ _
   | exact impl_numbered.mono _ _
   | exact LeO.none _
   | refine LeO.ite ?_ ?_
   | refine LeO.bind ?_ (fun _ => ?_)
theorem impl_classes.mono : ∀ a0 a1 k, LeO (impl_classes.f k a0 a1) (impl_classes.f (k + 1) a0 a1) := by
 intro a0 a1 k
 obtain ⟨ih0, ih1, ih2, ih3⟩ := impl_classes.mono_l k
 unfold impl_classes.f
 repeat' first
   | (with_reducible exact ih0 _ _ _ _ _)
   | (with_reducible exact ih1 _ _ _ _)
   | (with_reducible exact ih2 _ _ _ _ _ _ _)
   | (with_reducible exact ih3 _ _ _ _ _ _ _ _ _ _ _)
   | (with_reducible exact impl_numbered.mono _ _)
   | (with_reducible exact LeO.refl _)
   | (with_reducible exact LeO.none _)
   | (with_reducible refine LeO.ite ?_ ?_)
   | (with_reducible refine LeO.bind ?_ (fun _ => ?_))
   | exact ih0 _ _ _ _ _
   | exact ih1 _ _ _ _
   | exact ih2 _ _ _ _ _ _ _
   | exact ih3 _ _ _ _ _ _ _ _ _ _ _
   | exact impl_numbered.mono _ _
   | exact LeO.none _
   | refine LeO.ite ?_ ?_
   | refine LeO.bind ?_ (fun _ => ?_)
set_option maxHeartbeats 8000000 in
set_option maxRecDepth 100000 in
theorem impl_classes.calls (k : Nat) (A0 : Option Addr) (c0 : Nat) (l0 : List (List Int)) (A1 : Option Addr) (c1 : Nat) (l1 : List Int) (r : List Int) (w : World) (hr0 : Kd.C (Kd.slice 3 (Kd.int .i64)) w A0 l0.length l0) (hc0 : l0.length ≤ c0) (hr1 : Kd.C (Kd.int .i64) w A1 l1.length l1) (hc1 : l1.length ≤ c1) (h : impl_classes.f k l0 l1 = some r) :
  Calls Try.prog 91 #[.slice A0 l0.length c0, .slice A1 l1.length c1] w fun e w' => ∃ v0_ : Value, e = .returned (v0_) ∧ Kd.R (Kd.int .i64) 3 w' w.heap.size (fun _ => True) v0_ r ∧ Below w.heap.size w w' := by
 have HR0 := yA hr0
 have HC0 := yA hc0
 clear hr0 hc0
 have HR1 := yA hr1
 have HC1 := yA hc1
 clear hr1 hc1
 have HB := yA (zV w.heap.size w)
 have H : (impl_classes.l0 k l0 (([] : List (List Int))) l1 (l1.length : Int) 0) = some r := h
 clear h
 obtain ⟨y384, hy384⟩ : ∃ y_ : List (List Int), y_ = (([] : List (List Int))) := ⟨_, rfl⟩
 replace H : (impl_classes.l0 k l0 y384 l1 (l1.length : Int) 0) = some r := by first | (rw [hy384]; with_reducible exact H) | (have H2_ := (Option.bind_some _ _).symm.trans H; rw [hy384]; with_reducible exact H2_) | (have H2_ := (Option.bind_some _ _).symm.trans H; with_reducible exact H2_) | with_reducible exact H | (rw [hy384]; exact H) | exact H
 have Ny384 := yA hy384
 clear hy384
 have H' := yA H
 clear H
 go_enter Try.func91, Try.ntmps91
 go_wp2_with (first | ((with_reducible refine gate_dst (N := 17) rfl ?_); refine Kd.S_lit (Kd.slice 3 (Kd.int .i64)) _ 23 ?hg (N := 17) ?hd (xs := ([] : List (List Int))) (inner := []) (ok := fun _ => True) (okp := fun _ => True) ?hr ?hp (fun _ hk => hk) trivial (zV _ _) (zT _) (by simp) ?_; (case hd => rfl); (case hg => rfl); (case hr => first | (go_simp; done) | (go_simp; rfl)); (case hp => exact (Reps.none _ _)); intro v385 w3 ho4 hb hg_ hnew_; clear hg_ hnew_; (first | rw [← Ny384.out] at ho4 | (simp only [Int.reduceToNat] at ho4; rw [← Ny384.out] at ho4)); have n0_ := yA (Kd.S_lower ho4 (yX (mB HB.out))); have n1_ := yA (zD (mB HB.out) hb); clear HB; have HO386 := n0_; have HB := n1_; clear n0_ n1_; clear hb ho4))
 go_loopg [5, 20] k (fun kq v5 v20 w' => ∃ (x5_1 : List (List Int)) (x20_1 : Int), v20 = .int .i64 x20_1 ∧ Aside0 (impl_classes.l0 kq l0 x5_1 l1 (l1.length : Int) x20_1 = some r) ∧ Aside0 (kq ≤ k) ∧ Aside0 (Kd.S (Kd.slice 3 (Kd.int .i64)) 23 w' w.heap.size (fun _ => True) v5 x5_1) ∧ Aside0 (Below w.heap.size w w'))
 case atStart => exact ⟨(y384), (0), (by first | rfl | (simp; done) | (simp [*]; done)), H', ⟨zT _⟩, ⟨by (with_reducible repeat (first | apply yH | apply yI | apply yJ)); exact HO386.out⟩, ⟨by repeat (first | (with_reducible first | exact HB.out | apply yO | apply yN | apply yP) | exact HB.out)⟩⟩
 case round =>
  clear H'
  try clear c1
  try clear p2
  obtain ⟨x5_1, x20_1, rfl, HA, HK1, HO_5, HB⟩ := hrel
  cases gk with
  | zero => exact absurd HA.out (by simp [impl_classes.l0])
  | succ k1 =>
   have H := HA.out
   clear HA
   simp only [impl_classes.l0] at H
   by_cases c5 : x20_1 < (l1.length : Int)
   ·rw [if_pos c5] at H
    have c5b0 : decide (x20_1 < (l1.length : Int)) = true := zH c5
    clear c5
    by_cases c6 : 0 ≤ x20_1
    ·rw [if_pos c6] at H
     have c6b0 : decide (0 ≤ x20_1) = true := zH c6
     clear c6
     by_cases c7 : x20_1 < (l1.length : Int)
     ·rw [if_pos c7] at H
      have c7b0 : decide (x20_1 < (l1.length : Int)) = true := zH c7
      clear c7
      obtain ⟨y388, hy388⟩ : ∃ y_ : List Int, y_ = (([rd l1 x20_1] : List Int)) := ⟨_, rfl⟩
      replace H : (if x5_1.length < 5864062014805 then (impl_classes.l0 k1 l0 (x5_1 ++ [y388]) l1 (l1.length : Int) (wrap64 (x20_1 + 1))) else (none)) = some r := by first | (rw [hy388]; with_reducible exact H) | (have H2_ := (Option.bind_some _ _).symm.trans H; rw [hy388]; with_reducible exact H2_) | (have H2_ := (Option.bind_some _ _).symm.trans H; with_reducible exact H2_) | with_reducible exact H | (rw [hy388]; exact H) | exact H
      have Ny388 := yA hy388
      clear hy388
      by_cases c8 : x5_1.length < 5864062014805
      ·rw [if_pos c8] at H
       have LMc8 := yA c8
       clear c8
       obtain ⟨y391, hy391⟩ : ∃ y_ : List (List Int), y_ = (x5_1 ++ [y388]) := ⟨_, rfl⟩
       replace H : (impl_classes.l0 k1 l0 y391 l1 (l1.length : Int) (wrap64 (x20_1 + 1))) = some r := by first | (rw [hy391]; with_reducible exact H) | (have H2_ := (Option.bind_some _ _).symm.trans H; rw [hy391]; with_reducible exact H2_) | (have H2_ := (Option.bind_some _ _).symm.trans H; with_reducible exact H2_) | with_reducible exact H | (rw [hy391]; exact H) | exact H
       have Ny391 := yA hy391
       clear hy391
       have H' := yA H
       clear H
       have p387 : 0 ≤ (x20_1 : Int) := zG (by first | (with_reducible assumption) | assumption)
       have q387 : x20_1 < (l1.length : Int) := zG (by first | (with_reducible assumption) | assumption)
       obtain ⟨ad387, e387, hx387_0⟩ := Kd.at_int HR1.out x20_1 p387 q387
       cases e387
       try replace hx387_0 := (HB.out.cell (zE w _ hx387_0)).trans hx387_0
       replace p387 := eq_true p387
       replace q387 := eq_true q387
       go_wp2_with (first | ((with_reducible refine gate_dst (N := 26) rfl ?_); refine Kd.R_lit (Kd.int .i64) _ 3 ?hg (N := 26) ?hd (xs := ([rd l1 x20_1] : List Int)) (inner := [.int .i64 (rd l1 x20_1)]) (ok := fun _ => True) (okp := fun _ => True) ?hr ?hp (fun _ hk => hk) trivial (zV _ _) (zT _) (by simp) ?_; (case hd => rfl); (case hg => rfl); (case hr => first | (go_simp; done) | (go_simp; rfl)); (case hp => exact (Reps.one (show Kd.M (Kd.int .i64) _ _ _ (rd l1 x20_1) [.int .i64 (rd l1 x20_1)] from rfl) (Reps.none _ _))); intro v389 w9 ho10 hb hg_ hnew_; clear hg_ hnew_; (first | rw [← Ny388.out] at ho10 | (simp only [Int.reduceToNat] at ho10; rw [← Ny388.out] at ho10)); have n0_ := yA (Kd.S_elder' (mS HO_5.out) (yY ho10) hb); have n1_ := yA (Kd.R_lower ho10 (yX (mB HB.out))); have n2_ := yA (zD (mB HB.out) hb); clear HO_5; clear HB; have HO_5 := n0_; have HO390 := n1_; have HB := n2_; clear n0_ n1_ n2_; clear hb ho10; obtain ⟨Ao12, co12, eo12⟩ := Kd.R_slice HO390.out; subst eo12) | ((with_reducible refine gate_builtin (b := .append) (xs := #[.tmp 24, .tmp 27]) rfl ?_); at_builtin; refine Kd.S_append (Kd.slice 3 (Kd.int .i64)) (w0 := w) w.heap.size rfl (.tmp 24) (.tmp 27) 22 23 (.slice none 0 0) 24 rfl Try.underlying22 info23 rfl (by decide) (by omega) u5 x5_1 y388 [.slice Ao12 y388.length co12] (fun _ => True) (fun k_ => some k_ = (.slice Ao12 y388.length co12 : Value).ownBlock) rfl rfl ?aP (fun k_ hk_ => ((zP (ok' := fun k_ => ((fun _ => True)) k_ ∧ some k_ ≠ (u5 : Value).ownBlock) (Kd.R_apart' (HO390.out) (Kd.S_typed HO_5.out) (by decide)) (fun k_ hk => ⟨trivial, hk.2⟩))).1 k_ hk_.symm) ?aF ?aO ?aB ?aS ?aL ?_; (case aP => exact Kd.M_row (zP (Kd.R_tight rfl (zP (ok' := fun k_ => ((fun _ => True)) k_ ∧ some k_ ≠ (u5 : Value).ownBlock) (Kd.R_apart' (HO390.out) (Kd.S_typed HO_5.out) (by decide)) (fun k_ hk => ⟨trivial, hk.2⟩))) (fun _ h_ => h_))); (case aB => exact (mB HB.out)); (case aF => exact (fun _ _ => trivial)); (case aO => exact (mS (Kd.S_mono HO_5.out (fun k_ hk => ⟨trivial, fun e_ => hk.2 e_⟩)))); (case aS => exact (yX (mB HB.out))); (case aL => have := LMc8.out; omega); intro v392 w11 ho hb hg hat; rw [← Ny391.out] at ho; have n0_ := yA (hb); have n1_ := yA (ho); clear HB; clear HO_5; clear HO390; have HB := n0_; have HO393 := n1_; clear n0_ n1_; clear ho hb hg hat))
       go_roundg k1
       case measure => have := HK1.out; omega
       case rel => exact ⟨(y391), (wrap64 (x20_1 + 1)), (by first | rfl | (simp; done) | (simp [*]; done)), H', ⟨by have := HK1.out; omega⟩, ⟨by (with_reducible repeat (first | apply yH | apply yI | apply yJ)); exact HO393.out⟩, ⟨by repeat (first | (with_reducible first | exact HB.out | apply yO | apply yN | apply yP) | exact HB.out)⟩⟩
      ·rw [if_neg c8] at H
       exact absurd H (by simp)
     ·rw [if_neg c7] at H
      exact absurd H (by simp)
    ·rw [if_neg c6] at H
     exact absurd H (by simp)
   ·rw [if_neg c5] at H
    have c5b0 : decide (x20_1 < (l1.length : Int)) = false := decide_eq_false c5
    clear c5
    replace H := Option.bind_eq_some_iff.mp H
    obtain ⟨⟨t394, t395⟩, A130, H⟩ := H
    replace H : (impl_classes.l1 k1 l0 x5_1 t394 t395) = some r := H
    have A13 := yA A130
    clear A130
    have H' := yA H
    clear H
    obtain ⟨Ao14, co14, eo14⟩ := Kd.S_slice HO_5.out
    subst eo14
    go_wp2_with (first | ((with_reducible refine zS (f := 97) rfl ?_); refine goesL_ (some 32) rfl rfl Try.func97 (by kernel_rfl) rfl #[.slice Ao14 x5_1.length co14] rfl (by (try simp only [zI, zJ, zK]); first | done | rfl | (simp only [zL, zM]; rfl)) ?_; (with_reducible refine (impl_numbered.calls k1 _ _ x5_1 t394 t395 _ ?side1 ?side2 A13.out).mono ?_); (case side1 => exact mC ((Kd.S_reads' HO_5.out).2.2)); (case side2 => exact (Kd.S_reads' HO_5.out).2.1); rintro e w15 ⟨v396, rfl, ho0, hb⟩; refine ⟨_, rfl, ?_⟩; have n0_ := yA (Kd.S_elder' (mS HO_5.out) (yY ho0) hb); have n1_ := yA (Kd.R_lower ho0 (yX (mB HB.out))); have n2_ := yA (zD (mB HB.out) hb); clear HO_5; clear HB; have HO_5 := n0_; have HO397 := n1_; have HB := n2_; clear n0_ n1_ n2_; (try clear hb); (try clear hb2); (try clear hk); (try clear hi); (try clear ho0)))
    go_loopg [5, 8, 9] k1 (fun kq v5 v8 v9 w' => ∃ (x5_2 : List (List Int)) (x8_2 : List Int) (x9_2 : Int), v9 = .int .i64 x9_2 ∧ Aside0 (impl_classes.l1 kq l0 x5_2 x8_2 x9_2 = some r) ∧ Aside0 (kq ≤ k1) ∧ Aside0 (Kd.S (Kd.slice 3 (Kd.int .i64)) 23 w' w.heap.size (fun k_ => some k_ ≠ (v8 : Value).ownBlock) v5 x5_2) ∧ Aside0 (Kd.R (Kd.int .i64) 3 w' w.heap.size (fun _ => True) v8 x8_2) ∧ Aside0 (Below w.heap.size w w'))
    case atStart => exact ⟨(x5_1), (t394), (t395), (by first | rfl | (simp; done) | (simp [*]; done)), H', ⟨zT _⟩, ⟨by (with_reducible repeat (first | apply yH | apply yI | apply yJ)); exact Kd.S_mono HO_5.out (fun _ hk => hk.2)⟩, ⟨by (with_reducible repeat (first | apply yB | apply yC | apply yD)); exact HO397.out⟩, ⟨by repeat (first | (with_reducible first | exact HB.out | apply yO | apply yN | apply yP) | exact HB.out)⟩⟩
    case round =>
     clear H'
     try clear c1
     try clear p2
     try clear p3
     try clear q3
     try clear hx3
     try clear c5
     try clear c5b0
     try clear c6
     try clear c6b0
     try clear p6
     try clear c7
     try clear c7b0
     try clear c8
     try clear c9
     try clear hx387_0
     try clear p2
     try clear p387
     try clear q387
     obtain ⟨x5_2, x8_2, x9_2, rfl, HA, HK2, HO_5, HO_8, HB⟩ := hrel
     cases gk with
     | zero => exact absurd HA.out (by simp [impl_classes.l1])
     | succ k2 =>
      have H := HA.out
      clear HA
      simp only [impl_classes.l1] at H
      by_cases c16 : 0 ≤ (x5_2.length : Int)
      ·rw [if_pos c16] at H
       have c16b0 := eq_true c16
       have c16b1 : decide (0 ≤ (x5_2.length : Int)) = true := zH c16
       clear c16
       obtain ⟨y398, hy398⟩ : ∃ y_ : List (List Int), y_ = (x5_2.take (0 : Int).toNat) := ⟨_, rfl⟩
       replace H : (impl_classes.l2 k2 l0 y398 x8_2 x9_2 l0 (l0.length : Int) 0) = some r := by first | (rw [hy398]; with_reducible exact H) | (have H2_ := (Option.bind_some _ _).symm.trans H; rw [hy398]; with_reducible exact H2_) | (have H2_ := (Option.bind_some _ _).symm.trans H; with_reducible exact H2_) | with_reducible exact H | (rw [hy398]; exact H) | exact H
       have Ny398 := yA hy398
       clear hy398
       have H' := yA H
       clear H
       obtain ⟨Ao17, co17, eo17⟩ := Kd.S_slice HO_5.out
       subst eo17
       have q18 : (0 : Int) ≤ ((x5_2.length : Int) : Int) := zG (by first | (with_reducible assumption) | assumption)
       obtain ⟨i018, hi018, _, hsz18, _⟩ := info_parts info23
       have hcut18 := cut_to (P := Try.prog) 22 23 .i64 Try.underlying22 hi018 Ao17 x5_2.length co17 0 (by omega) q18 (Kd.S_reads' HO_5.out).2.1
       have hr18 := Kd.S_take (m := (0 : Int).toNat) HO_5.out (by omega)
       have hy18 : y398.length = (0 : Int).toNat := (by rw [Ny398.out, zM]; omega)
       rw [← Ny398.out] at hr18
       rw [← hy18] at hr18 hcut18
       clear hy18 hi018 hsz18 HO_5
       have HO400 := yA hr18
       clear hr18
       replace q18 := eq_true q18
       go_wp2
       go_loopg [5, 39] k2 (fun kq v5 v39 w' => ∃ (x5_3 : List (List Int)) (x39_3 : Int), v39 = .int .i64 x39_3 ∧ Aside0 (impl_classes.l2 kq l0 x5_3 x8_2 x9_2 l0 (l0.length : Int) x39_3 = some r) ∧ Aside0 (kq ≤ k2) ∧ Aside0 (Kd.S (Kd.slice 3 (Kd.int .i64)) 23 w' w.heap.size (fun k_ => some k_ ≠ (u8 : Value).ownBlock) v5 x5_3) ∧ Aside0 (Kd.R (Kd.int .i64) 3 w' w.heap.size (fun _ => True) u8 x8_2) ∧ Aside0 (Below w.heap.size w w'))
       case atStart => exact ⟨(y398), (0), (by first | rfl | (simp; done) | (simp [*]; done)), H', ⟨zT _⟩, ⟨by (with_reducible repeat (first | apply yH | apply yI | apply yJ)); exact HO400.out⟩, ⟨by (with_reducible repeat (first | apply yB | apply yC | apply yD)); exact HO_8.out⟩, ⟨by repeat (first | (with_reducible first | exact HB.out | apply yO | apply yN | apply yP) | exact HB.out)⟩⟩
       case round =>
        clear H'
        try clear c1
        try clear q1
        try clear p2
        try clear p3
        try clear q3
        try clear hx3
        try clear c5
        try clear c5b0
        try clear c6
        try clear c6b0
        try clear p6
        try clear c7
        try clear c7b0
        try clear c8
        try clear c9
        try clear c16
        try clear c16b0
        try clear c16b1
        try clear q18
        try clear hx387_0
        try clear p2
        try clear p3
        try clear p387
        try clear p6
        try clear q18
        try clear q3
        try clear q387
        obtain ⟨x5_3, x39_3, rfl, HA, HK3, HO_5, HO_8, HB⟩ := hrel
        cases gk with
        | zero => exact absurd HA.out (by simp [impl_classes.l2])
        | succ k3 =>
         have H := HA.out
         clear HA
         simp only [impl_classes.l2] at H
         by_cases c19 : x39_3 < (l0.length : Int)
         ·rw [if_pos c19] at H
          have c19b0 : decide (x39_3 < (l0.length : Int)) = true := zH c19
          clear c19
          by_cases c20 : 0 ≤ x39_3
          ·rw [if_pos c20] at H
           have c20b0 : decide (0 ≤ x39_3) = true := zH c20
           clear c20
           by_cases c21 : x39_3 < (l0.length : Int)
           ·rw [if_pos c21] at H
            have c21b0 : decide (x39_3 < (l0.length : Int)) = true := zH c21
            clear c21
            by_cases c22 : x39_3 < (x8_2.length : Int)
            ·rw [if_pos c22] at H
             have c22b0 : decide (x39_3 < (x8_2.length : Int)) = true := zH c22
             clear c22
             obtain ⟨y407, hy407⟩ : ∃ y_ : List Int, y_ = (([rd x8_2 x39_3] : List Int)) := ⟨_, rfl⟩
             replace H : (impl_classes.l3 k3 l0 x5_3 x8_2 x9_2 y407 l0 (l0.length : Int) x39_3 (rd_L1 l0 x39_3) ((rd_L1 l0 x39_3).length : Int) 0) = some r := by first | (rw [hy407]; with_reducible exact H) | (have H2_ := (Option.bind_some _ _).symm.trans H; rw [hy407]; with_reducible exact H2_) | (have H2_ := (Option.bind_some _ _).symm.trans H; with_reducible exact H2_) | with_reducible exact H | (rw [hy407]; exact H) | exact H
             have Ny407 := yA hy407
             clear hy407
             have H' := yA H
             clear H
             have p405 : 0 ≤ (x39_3 : Int) := zG (by first | (with_reducible assumption) | assumption)
             have q405 : x39_3 < (l0.length : Int) := zG (by first | (with_reducible assumption) | assumption)
             obtain ⟨ad405, A405_0, c405_0, e405, hx405_0, hl405_0, hi405_0⟩ := at_L1 HR0.out x39_3 p405 q405
             cases e405
             try replace hx405_0 := (HB.out.cell (zE w _ hx405_0)).trans hx405_0
             have HR405_0 := yA hi405_0
             have HC405_0 := yA hl405_0
             clear hi405_0 hl405_0
             replace p405 := eq_true p405
             replace q405 := eq_true q405
             obtain ⟨Ao23, co23, eo23⟩ := Kd.R_slice HO_8.out
             subst eo23
             have p406 : 0 ≤ (x39_3 : Int) := zG (by first | (with_reducible assumption) | assumption)
             have q406 : x39_3 < (x8_2.length : Int) := zG (by first | (with_reducible assumption) | assumption)
             obtain ⟨ad406, e406, hx406_0⟩ := Kd.at_int (zN HO_8.out).2.2 x39_3 p406 q406
             cases e406
             replace p406 := eq_true p406
             replace q406 := eq_true q406
             go_wp2_with (first | ((with_reducible refine gate_dst (N := 48) rfl ?_); refine Kd.R_lit (Kd.int .i64) _ 3 ?hg (N := 48) ?hd (xs := ([rd x8_2 x39_3] : List Int)) (inner := [.int .i64 (rd x8_2 x39_3)]) (ok := fun _ => True) (okp := fun _ => True) ?hr ?hp (fun _ hk => hk) trivial (zV _ _) (zT _) (by simp) ?_; (case hd => rfl); (case hg => rfl); (case hr => first | (go_simp; done) | (go_simp; rfl)); (case hp => exact (Reps.one (show Kd.M (Kd.int .i64) _ _ _ (rd x8_2 x39_3) [.int .i64 (rd x8_2 x39_3)] from rfl) (Reps.none _ _))); intro v408 w24 ho25 hb hg_ hnew_; clear hg_ hnew_; (first | rw [← Ny407.out] at ho25 | (simp only [Int.reduceToNat] at ho25; rw [← Ny407.out] at ho25)); have n0_ := yA (Kd.S_elder' (mS HO_5.out) (yY ho25) hb); have n1_ := yA (zO (mR HO_8.out) (yY ho25) hb); have n2_ := yA (Kd.R_lower (Kd.R_new' ho25 (yZ (mR HO_8.out))) (yX (mB HB.out))); have n3_ := yA (zD (mB HB.out) hb); clear HO_5; clear HO_8; clear HB; have HO_5 := n0_; have HO_8 := n1_; have HO409 := n2_; have HB := n3_; clear n0_ n1_ n2_ n3_; clear hb ho25))
             go_loopg [12, 51] k3 (fun kq v12 v51 w' => ∃ (x12_4 : List Int) (x51_4 : Int), v51 = .int .i64 x51_4 ∧ Aside0 (impl_classes.l3 kq l0 x5_3 x8_2 x9_2 x12_4 l0 (l0.length : Int) x39_3 (rd_L1 l0 x39_3) ((rd_L1 l0 x39_3).length : Int) x51_4 = some r) ∧ Aside0 (kq ≤ k3) ∧ Aside0 (Kd.S (Kd.slice 3 (Kd.int .i64)) 23 w' w.heap.size (fun k_ => some k_ ≠ ((.slice (some ad406) x8_2.length co23) : Value).ownBlock ∧ some k_ ≠ (v12 : Value).ownBlock) u5 x5_3) ∧ Aside0 (Kd.R (Kd.int .i64) 3 w' w.heap.size (fun k_ => some k_ ≠ (v12 : Value).ownBlock) (.slice (some ad406) x8_2.length co23) x8_2) ∧ Aside0 (Kd.R (Kd.int .i64) 3 w' w.heap.size (fun k_ => some k_ ≠ ((.slice (some ad406) x8_2.length co23) : Value).ownBlock) v12 x12_4) ∧ Aside0 (Below w.heap.size w w'))
             case atStart => exact ⟨(y407), (0), (by first | rfl | (simp; done) | (simp [*]; done)), H', ⟨zT _⟩, ⟨by (with_reducible repeat (first | apply yH | apply yI | apply yJ)); exact HO_5.out⟩, ⟨by (with_reducible repeat (first | apply yB | apply yC | apply yD)); exact zP HO_8.out (fun _ hk => hk.2)⟩, ⟨by (with_reducible repeat (first | apply yB | apply yC | apply yD)); exact zP HO409.out (fun _ hk => hk.2)⟩, ⟨by repeat (first | (with_reducible first | exact HB.out | apply yO | apply yN | apply yP) | exact HB.out)⟩⟩
             case round =>
              clear H'
              try clear c1
              try clear q1
              try clear c2
              try clear p2
              try clear p3
              try clear q3
              try clear hx3
              try clear c4
              try clear p4
              try clear q4
              try clear hx4
              try clear c5
              try clear c5b0
              try clear c6
              try clear c6b0
              try clear p6
              try clear c7
              try clear c7b0
              try clear c8
              try clear c9
              try clear c16
              try clear c16b0
              try clear c16b1
              try clear q18
              try clear c19
              try clear c19b0
              try clear c20
              try clear c20b0
              try clear c21
              try clear c21b0
              try clear c22
              try clear c22b0
              try clear hx387_0
              try clear hx405_0
              try clear hx406_0
              try clear p2
              try clear p3
              try clear p387
              try clear p405
              try clear p406
              try clear p6
              try clear q1
              try clear q18
              try clear q3
              try clear q387
              try clear q405
              try clear q406
              obtain ⟨x12_4, x51_4, rfl, HA, HK4, HO_5, HO_8, HO_12, HB⟩ := hrel
              cases gk with
              | zero => exact absurd HA.out (by simp [impl_classes.l3])
              | succ k4 =>
               have H := HA.out
               clear HA
               simp only [impl_classes.l3] at H
               by_cases c26 : x51_4 < ((rd_L1 l0 x39_3).length : Int)
               ·rw [if_pos c26] at H
                have c26b0 : decide (x51_4 < ((rd_L1 l0 x39_3).length : Int)) = true := zH c26
                clear c26
                by_cases c27 : 0 ≤ x51_4
                ·rw [if_pos c27] at H
                 have c27b0 : decide (0 ≤ x51_4) = true := zH c27
                 clear c27
                 by_cases c28 : x51_4 < ((rd_L1 l0 x39_3).length : Int)
                 ·rw [if_pos c28] at H
                  have c28b0 : decide (x51_4 < ((rd_L1 l0 x39_3).length : Int)) = true := zH c28
                  clear c28
                  by_cases c29 : 0 ≤ (rd (rd_L1 l0 x39_3) x51_4)
                  ·rw [if_pos c29] at H
                   have c29b0 : decide (0 ≤ (rd (rd_L1 l0 x39_3) x51_4)) = true := zH c29
                   clear c29
                   by_cases c30 : (rd (rd_L1 l0 x39_3) x51_4) < (x8_2.length : Int)
                   ·rw [if_pos c30] at H
                    have c30b0 : decide ((rd (rd_L1 l0 x39_3) x51_4) < (x8_2.length : Int)) = true := zH c30
                    clear c30
                    by_cases c31 : x12_4.length < 17592186044416
                    ·rw [if_pos c31] at H
                     have LMc31 := yA c31
                     clear c31
                     obtain ⟨y412, hy412⟩ : ∃ y_ : List Int, y_ = (x12_4 ++ [rd x8_2 (rd (rd_L1 l0 x39_3) x51_4)]) := ⟨_, rfl⟩
                     replace H : (impl_classes.l3 k4 l0 x5_3 x8_2 x9_2 y412 l0 (l0.length : Int) x39_3 (rd_L1 l0 x39_3) ((rd_L1 l0 x39_3).length : Int) (wrap64 (x51_4 + 1))) = some r := by first | (rw [hy412]; with_reducible exact H) | (have H2_ := (Option.bind_some _ _).symm.trans H; rw [hy412]; with_reducible exact H2_) | (have H2_ := (Option.bind_some _ _).symm.trans H; with_reducible exact H2_) | with_reducible exact H | (rw [hy412]; exact H) | exact H
                     have Ny412 := yA hy412
                     clear hy412
                     have H' := yA H
                     clear H
                     have p410 : 0 ≤ (x51_4 : Int) := zG (by first | (with_reducible assumption) | assumption)
                     have q410 : x51_4 < ((rd_L1 l0 x39_3).length : Int) := zG (by first | (with_reducible assumption) | assumption)
                     obtain ⟨ad410, e410, hx410_0⟩ := Kd.at_int HR405_0.out x51_4 p410 q410
                     cases e410
                     try replace hx410_0 := (HB.out.cell (zE w _ hx410_0)).trans hx410_0
                     replace p410 := eq_true p410
                     replace q410 := eq_true q410
                     have p411 : 0 ≤ ((rd (rd_L1 l0 x39_3) x51_4) : Int) := zG (by first | (with_reducible assumption) | assumption)
                     have q411 : (rd (rd_L1 l0 x39_3) x51_4) < (x8_2.length : Int) := zG (by first | (with_reducible assumption) | assumption)
                     obtain ⟨ad411, e411, hx411_0⟩ := Kd.at_int (zN HO_8.out).2.2 (rd (rd_L1 l0 x39_3) x51_4) p411 q411
                     obtain rfl : ad406 = ad411 := (by injection e411)
                     replace p411 := eq_true p411
                     replace q411 := eq_true q411
                     go_wp2_with (first | ((with_reducible refine gate_builtin (b := .append) (xs := #[.tmp 55, .tmp 60]) rfl ?_); at_builtin; refine Kd.R_append (Kd.int .i64) (w0 := w) w.heap.size rfl (.tmp 55) (.tmp 60) 23 3 (.int .i64 0) 8 rfl Try.underlying23 info3 rfl (by decide) (by omega) u12 x12_4 (rd x8_2 (rd (rd_L1 l0 x39_3) x51_4)) [.int .i64 (rd x8_2 (rd (rd_L1 l0 x39_3) x51_4))] (fun k_ => some k_ ≠ (.slice (some ad406) x8_2.length co23 : Value).ownBlock) (fun _ => False) rfl rfl ?aP (fun _ hk => hk.elim) ?aF ?aO ?aB ?aS ?aL ?_; (case aP => exact rfl); (case aB => exact (mB HB.out)); (case aF => exact (fun k_ hk => Kd.fresh' (yZ (mR HO_8.out)) k_ hk)); (case aO => exact (mR HO_12.out)); (case aS => exact (yX (mB HB.out))); (case aL => have := LMc31.out; omega); intro v413 w32 ho hb hg hat; rw [← Ny412.out] at ho; have n0_ := yA (Kd.S_after (ok := (fun k_ => some k_ ≠ (.slice (some ad406) x8_2.length co23 : Value).ownBlock)) (mS HO_5.out) hg hat); have n1_ := yA (Kd.R_after (ok := (fun _ => True)) (mR (zP HO_8.out (fun _ hk => ⟨trivial, hk⟩))) hg hat); have n2_ := yA (hb); have n3_ := yA (ho); clear HO_5; clear HO_8; clear HB; clear HO_12; have HO_5 := n0_; have HO_8 := n1_; have HB := n2_; have HO414 := n3_; clear n0_ n1_ n2_ n3_; clear ho hb hg hat))
                     go_roundg k4
                     case measure => have := HK1.out; have := HK2.out; have := HK3.out; have := HK4.out; omega
                     case rel => exact ⟨(y412), (wrap64 (x51_4 + 1)), (by first | rfl | (simp; done) | (simp [*]; done)), H', ⟨by have := HK1.out; have := HK2.out; have := HK3.out; have := HK4.out; omega⟩, ⟨by (with_reducible repeat (first | apply yH | apply yI | apply yJ)); exact HO_5.out⟩, ⟨by (with_reducible repeat (first | apply yB | apply yC | apply yD)); exact zP HO_8.out (fun _ hk => hk.2)⟩, ⟨by (with_reducible repeat (first | apply yB | apply yC | apply yD)); exact HO414.out⟩, ⟨by repeat (first | (with_reducible first | exact HB.out | apply yO | apply yN | apply yP) | exact HB.out)⟩⟩
                    ·rw [if_neg c31] at H
                     exact absurd H (by simp)
                   ·rw [if_neg c30] at H
                    exact absurd H (by simp)
                  ·rw [if_neg c29] at H
                   exact absurd H (by simp)
                 ·rw [if_neg c28] at H
                  exact absurd H (by simp)
                ·rw [if_neg c27] at H
                 exact absurd H (by simp)
               ·rw [if_neg c26] at H
                have c26b0 : decide (x51_4 < ((rd_L1 l0 x39_3).length : Int)) = false := decide_eq_false c26
                clear c26
                by_cases c33 : x5_3.length < 5864062014805
                ·rw [if_pos c33] at H
                 have LMc33 := yA c33
                 clear c33
                 obtain ⟨y415, hy415⟩ : ∃ y_ : List (List Int), y_ = (x5_3 ++ [x12_4]) := ⟨_, rfl⟩
                 replace H : (impl_classes.l2 k4 l0 y415 x8_2 x9_2 l0 (l0.length : Int) (wrap64 (x39_3 + 1))) = some r := by first | (rw [hy415]; with_reducible exact H) | (have H2_ := (Option.bind_some _ _).symm.trans H; rw [hy415]; with_reducible exact H2_) | (have H2_ := (Option.bind_some _ _).symm.trans H; with_reducible exact H2_) | with_reducible exact H | (rw [hy415]; exact H) | exact H
                 have Ny415 := yA hy415
                 clear hy415
                 have H' := yA H
                 clear H
                 obtain ⟨Ao35, co35, eo35⟩ := Kd.R_slice HO_12.out
                 subst eo35
                 go_wp2_with (first | ((with_reducible refine gate_builtin (b := .append) (xs := #[.tmp 63, .tmp 65]) rfl ?_); at_builtin; refine Kd.S_append (Kd.slice 3 (Kd.int .i64)) (w0 := w) w.heap.size rfl (.tmp 63) (.tmp 65) 22 23 (.slice none 0 0) 24 rfl Try.underlying22 info23 rfl (by decide) (by omega) u5 x5_3 x12_4 [.slice Ao35 x12_4.length co35] (fun k_ => some k_ ≠ (.slice (some ad406) x8_2.length co23 : Value).ownBlock) (fun k_ => some k_ = (.slice Ao35 x12_4.length co35 : Value).ownBlock) rfl rfl ?aP (fun k_ hk_ => ((zP (ok' := fun k_ => ((fun k_ => some k_ ≠ (.slice (some ad406) x8_2.length co23 : Value).ownBlock)) k_ ∧ some k_ ≠ (u5 : Value).ownBlock) (Kd.R_apart' (HO_12.out) (Kd.S_typed HO_5.out) (by decide)) (fun k_ hk => ⟨hk.1, hk.2⟩))).1 k_ hk_.symm) ?aF ?aO ?aB ?aS ?aL ?_; (case aP => exact Kd.M_row (zP (Kd.R_tight rfl (zP (ok' := fun k_ => ((fun k_ => some k_ ≠ (.slice (some ad406) x8_2.length co23 : Value).ownBlock)) k_ ∧ some k_ ≠ (u5 : Value).ownBlock) (Kd.R_apart' (HO_12.out) (Kd.S_typed HO_5.out) (by decide)) (fun k_ hk => ⟨hk.1, hk.2⟩))) (fun _ h_ => h_))); (case aB => exact (mB HB.out)); (case aF => exact (fun k_ hk => Kd.fresh' (yZ (mR HO_8.out)) k_ hk)); (case aO => exact (mS (Kd.S_mono HO_5.out (fun k_ hk => ⟨hk.1, fun e_ => hk.2 e_⟩)))); (case aS => exact (yX (mB HB.out))); (case aL => have := LMc33.out; omega); intro v416 w34 ho hb hg hat; rw [← Ny415.out] at ho; have n0_ := yA (Kd.R_over' (mR HO_8.out) (Kd.S_typed (mS HO_5.out)) (by decide) hg); have n1_ := yA (hb); have n2_ := yA (ho); clear HO_8; clear HB; clear HO_5; clear HO_12; have HO_8 := n0_; have HB := n1_; have HO417 := n2_; clear n0_ n1_ n2_; clear ho hb hg hat))
                 go_roundg k4
                 case measure => have := HK1.out; have := HK2.out; have := HK3.out; have := HK4.out; omega
                 case rel => exact ⟨(y415), (wrap64 (x39_3 + 1)), (by first | rfl | (simp; done) | (simp [*]; done)), H', ⟨by have := HK1.out; have := HK2.out; have := HK3.out; have := HK4.out; omega⟩, ⟨by (with_reducible repeat (first | apply yH | apply yI | apply yJ)); exact HO417.out⟩, ⟨by (with_reducible repeat (first | apply yB | apply yC | apply yD)); exact zP HO_8.out (fun _ hk => trivial)⟩, ⟨by repeat (first | (with_reducible first | exact HB.out | apply yO | apply yN | apply yP) | exact HB.out)⟩⟩
                ·rw [if_neg c33] at H
                 exact absurd H (by simp)
            ·rw [if_neg c22] at H
             exact absurd H (by simp)
           ·rw [if_neg c21] at H
            exact absurd H (by simp)
          ·rw [if_neg c20] at H
           exact absurd H (by simp)
         ·rw [if_neg c19] at H
          have c19b0 : decide (x39_3 < (l0.length : Int)) = false := decide_eq_false c19
          clear c19
          replace H := Option.bind_eq_some_iff.mp H
          obtain ⟨⟨t401, t402⟩, A360, H⟩ := H
          replace H : (if t402 = x9_2 then (some t401) else (impl_classes.l1 k3 l0 x5_3 t401 t402)) = some r := H
          have A36 := yA A360
          clear A360
          by_cases c37 : t402 = x9_2
          ·rw [if_pos c37] at H
           have c37b0 : (t402 == x9_2) = true := beq_iff_eq.mpr c37
           have c37b1 : (t402 != x9_2) = false := bne_eq_false_iff_eq.mpr c37
           clear c37
           obtain rfl := zU H
           obtain ⟨Ao38, co38, eo38⟩ := Kd.S_slice HO_5.out
           subst eo38
           go_wp2_with (first | ((with_reducible refine zS (f := 97) rfl ?_); refine goesL_ (some 70) rfl rfl Try.func97 (by kernel_rfl) rfl #[.slice Ao38 x5_3.length co38] rfl (by (try simp only [zI, zJ, zK]); first | done | rfl | (simp only [zL, zM]; rfl)) ?_; (with_reducible refine (impl_numbered.calls k3 _ _ x5_3 t401 t402 _ ?side1 ?side2 A36.out).mono ?_); (case side1 => exact mC ((Kd.S_reads' HO_5.out).2.2)); (case side2 => exact (Kd.S_reads' HO_5.out).2.1); rintro e w39 ⟨v403, rfl, ho0, hb⟩; refine ⟨_, rfl, ?_⟩; have n0_ := yA (Kd.S_elder' (mS HO_5.out) (yY ho0) hb); have n1_ := yA (zO (mR HO_8.out) (yY ho0) hb); have n2_ := yA (Kd.R_lower (Kd.R_new' ho0 (yZ (mR HO_8.out))) (yX (mB HB.out))); have n3_ := yA (zD (mB HB.out) hb); clear HO_5; clear HO_8; clear HB; have HO_5 := n0_; have HO_8 := n1_; have HO404 := n2_; have HB := n3_; clear n0_ n1_ n2_ n3_; (try clear hb); (try clear hb2); (try clear hk); (try clear hi); (try clear ho0)))
           go_ret
           exact ⟨_, by first | rfl | (simp [errW_none, errW_some] <;> rfl) | (simp [*, errW_none, errW_some] <;> rfl), by (with_reducible repeat (first | apply yB | apply yC | apply yD)); exact zP HO404.out (fun _ hk => trivial), by repeat (first | (with_reducible first | exact HB.out | apply yO | apply yN | apply yP) | exact HB.out)⟩
          ·rw [if_neg c37] at H
           have c37b0 : (t402 == x9_2) = false := beq_eq_false_iff_ne.mpr c37
           have c37b1 : (t402 != x9_2) = true := bne_iff_ne.mpr c37
           have H' := yA H
           clear H
           obtain ⟨Ao40, co40, eo40⟩ := Kd.S_slice HO_5.out
           subst eo40
           go_wp2_with (first | ((with_reducible refine zS (f := 97) rfl ?_); refine goesL_ (some 70) rfl rfl Try.func97 (by kernel_rfl) rfl #[.slice Ao40 x5_3.length co40] rfl (by (try simp only [zI, zJ, zK]); first | done | rfl | (simp only [zL, zM]; rfl)) ?_; (with_reducible refine (impl_numbered.calls k3 _ _ x5_3 t401 t402 _ ?side1 ?side2 A36.out).mono ?_); (case side1 => exact mC ((Kd.S_reads' HO_5.out).2.2)); (case side2 => exact (Kd.S_reads' HO_5.out).2.1); rintro e w41 ⟨v403, rfl, ho0, hb⟩; refine ⟨_, rfl, ?_⟩; have n0_ := yA (Kd.S_elder' (mS HO_5.out) (yY ho0) hb); have n1_ := yA (zO (mR HO_8.out) (yY ho0) hb); have n2_ := yA (Kd.R_lower (Kd.R_new' ho0 (yZ (mR HO_8.out))) (yX (mB HB.out))); have n3_ := yA (zD (mB HB.out) hb); clear HO_5; clear HO_8; clear HB; have HO_5 := n0_; have HO_8 := n1_; have HO404 := n2_; have HB := n3_; clear n0_ n1_ n2_ n3_; (try clear hb); (try clear hb2); (try clear hk); (try clear hi); (try clear ho0)))
           go_roundg k3
           case measure => have := HK1.out; have := HK2.out; have := HK3.out; omega
           case rel => exact ⟨(x5_3), (t401), (t402), (by first | rfl | (simp; done) | (simp [*]; done)), H', ⟨by have := HK1.out; have := HK2.out; have := HK3.out; omega⟩, ⟨by (with_reducible repeat (first | apply yH | apply yI | apply yJ)); exact Kd.S_mono HO_5.out (fun _ hk => hk.2)⟩, ⟨by (with_reducible repeat (first | apply yB | apply yC | apply yD)); exact zP HO404.out (fun _ hk => trivial)⟩, ⟨by repeat (first | (with_reducible first | exact HB.out | apply yO | apply yN | apply yP) | exact HB.out)⟩⟩
      ·rw [if_neg c16] at H
       exact absurd H (by simp)

end Go.Proofs.Ytefelghmmpmigaa.Q
