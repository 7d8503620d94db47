-- written by a program of this session
-- squeezed
-- compact
-- shrunk
import Derived.Test.YtgopcliohchkmaaQ0
import Derived.Test.YtgopcliohchkmaaQ1
import Derived.Test.YtgopcliohchkmaaQ20
namespace Go.Proofs.Ytgopcliohchkmaa.Q
open Go.RowKit Go.Proofs.YtgopcliohchkmaaW.PrintWords Go.Proofs.YtgopcliohchkmaaW.PrintLast Go.Proofs.YtgopcliohchkmaaW.PrintMore
set_option linter.unusedVariables false
set_option linter.unusedSimpArgs false

/-! ### spec_DigitsOf: function 57 -/
mutual
def spec_DigitsOf.j0 : Nat → Int → Int → List Int → Bool → Option (List Int)
 | 0, _, _, _, _ => none
 | k + 1, x0, x1, x5, x19 => if x19 = true then (some x5) else (spec_DigitsOf.l0 k x0 x1 x5)
def spec_DigitsOf.l0 : Nat → Int → Int → List Int → Option (List Int)
 | 0, _, _, _ => none
 | k + 1, x0, x1, x5 => if x0 > 0 then (if x1 = 0 then (none) else ((some (([Int.tmod x0 x1] : List Int) : List Int)).bind fun y157 => (if y157.length + x5.length < 17592186044416 then (spec_DigitsOf.l0 k (wrap64 (Int.tdiv x0 x1)) x1 (y157 ++ x5)) else (none)))) else (some x5)
end
def spec_DigitsOf.f (k : Nat) (a0 : Int) (a1 : Int) : Option (List Int) := (some (([] : List Int) : List Int)).bind fun y152 => (if a0 < 0 then (spec_DigitsOf.j0 k a0 a1 y152 true) else ((spec_l1In.f a1 2 4).bind fun t155 => (if t155 = true then ((spec_PowerOf.f k a1 16).bind fun t156 => (spec_DigitsOf.j0 k a0 a1 y152 (decide (a0 ≥ t156)))) else (spec_DigitsOf.j0 k a0 a1 y152 true))))
theorem spec_DigitsOf.mono_l : ∀ k, (∀ y0 y1 y2 y3, LeO (spec_DigitsOf.j0 k y0 y1 y2 y3) (spec_DigitsOf.j0 (k + 1) y0 y1 y2 y3)) ∧ (∀ y0 y1 y2, LeO (spec_DigitsOf.l0 k y0 y1 y2) (spec_DigitsOf.l0 (k + 1) y0 y1 y2))
 | 0 => ⟨fun _ _ _ _ r h => by simp [spec_DigitsOf.j0] at h, fun _ _ _ r h => by simp [spec_DigitsOf.l0] at h⟩
 | k + 1 => by
  obtain ⟨ih0, ih1⟩ := spec_DigitsOf.mono_l k
  refine ⟨?_, ?_⟩ <;> intros <;> first | unfold spec_DigitsOf.j0 | unfold spec_DigitsOf.l0
  all_goals repeat' (with_reducible first | exact ih0 _ _ _ _ | exact ih1 _ _ _ | exact spec_PowerOf.mono _ _ _ | exact LeO.refl _ | exact LeO.none _ | refine LeO.ite ?_ ?_ | refine LeO.bind ?_ fun _ => ?_)
theorem spec_DigitsOf.mono : ∀ a0 a1 k, LeO (spec_DigitsOf.f k a0 a1) (spec_DigitsOf.f (k + 1) a0 a1) := by
 intro a0 a1 k
 obtain ⟨ih0, ih1⟩ := spec_DigitsOf.mono_l k
 unfold spec_DigitsOf.f
 repeat' (with_reducible first | exact ih0 _ _ _ _ | exact ih1 _ _ _ | exact spec_PowerOf.mono _ _ _ | exact LeO.refl _ | exact LeO.none _ | refine LeO.ite ?_ ?_ | refine LeO.bind ?_ fun _ => ?_)
set_option maxHeartbeats 8000000 in
set_option maxRecDepth 100000 in
theorem spec_DigitsOf.calls (k : Nat) (a0 : Int) (a1 : Int) (r : List Int) (w : World) (h : spec_DigitsOf.f k a0 a1 = some r) :
  Calls Try.prog 57 #[.int .i64 a0, .int .i64 a1] w fun e w' => ∃ v0_ : Value, e = .returned (v0_) ∧ Kd.R (Kd.int .i64) 3 w' w.heap.size (fun _ => True) v0_ r ∧ Below w.heap.size w w' := by
 have HB := yA (zV w.heap.size w)
 have H : ((some (([] : List Int) : List Int)).bind fun y152 => (if a0 < 0 then (spec_DigitsOf.j0 k a0 a1 y152 true) else ((spec_l1In.f a1 2 4).bind fun t155 => (if t155 = true then ((spec_PowerOf.f k a1 16).bind fun t156 => (spec_DigitsOf.j0 k a0 a1 y152 (decide (a0 ≥ t156)))) else (spec_DigitsOf.j0 k a0 a1 y152 true))))) = some r := h
 clear h
 (first | ((with_reducible replace H := bS H); obtain ⟨y152, Ny152, H⟩ := H) | (obtain ⟨y152, Ny152⟩ : ∃ y_ : List Int, y_ = (([] : List Int)) := ⟨_, rfl⟩; rw [← Ny152] at H; replace Ny152 := yA Ny152))
 have HC3 := yA H
 clear H
 go_enter Try.func57, Try.ntmps57
 go_upto_region 2 with (first | ((with_reducible refine gate_dst (N := 6) rfl ?_); refine Kd.R_lit (Kd.int .i64) _ 3 ?hg (N := 6) ?hd (xs := ([] : List Int)) (inner := []) (ok := fun _ => True) (okp := fun _ => True) ?hr ?hp (fun _ hk => hk) trivial (zV _ _) (zT _) (by simp) ?_; (case hd => rfl); (case hg => rfl); (case hr => first | (go_simp; done) | (go_simp; rfl)); (case hp => exact (Reps.none _ _)); intro v153 w4 ho5 hb hg_ hnew_; clear hg_ hnew_; (first | rw [← Ny152.out] at ho5 | (simp only [Int.reduceToNat] at ho5; rw [← Ny152.out] at ho5)); have HO154 := yA (Kd.R_lower ho5 (yX (mB HB.out))); replace HB := yA (zD (mB HB.out) hb); clear hb ho5))
 (try simp only [Act.put, zA, zB, zC])
 go_cut [19] (fun v19 wc => ∃ (kq : Nat) (x19_2 : Bool), v19 = .bool x19_2 ∧ Aside0 (spec_DigitsOf.j0 kq a0 a1 y152 x19_2 = some r) ∧ Aside0 (kq ≤ k) ∧ Aside0 (Kd.R (Kd.int .i64) 3 wc w.heap.size (fun _ => True) v153 y152) ∧ Aside0 (Below w.heap.size w wc))
 case first =>
  have H := HC3.out
  clear HC3
  by_cases c6 : a0 < 0
  ·rw [if_pos c6] at H
   have c6b0 : decide (a0 < 0) = true := zH c6
   clear c6
   (first | rw [c6b0] | (simp only [i64_w, i32_w]; rw [c6b0]) | skip)
   have H' := yA H
   clear H
   go_wp2
   go_meet
   case rel => exact ⟨_, (true), (by first | rfl | (simp; done) | (simp [*]; done)), H', ⟨by first | omega | exact zT _⟩, ⟨mR HO154.out⟩, ⟨mB HB.out⟩⟩
  ·rw [if_neg c6] at H
   have c6b0 : decide (a0 < 0) = false := decide_eq_false c6
   clear c6
   (first | rw [c6b0] | (simp only [i64_w, i32_w]; rw [c6b0]) | skip)
   obtain ⟨t155, A7, H⟩ := bE H
   by_cases c8 : t155 = true
   ·subst c8
    replace H := iT H
    obtain ⟨t156, A9, H⟩ := bE H
    have H' := yA H
    clear H
    go_wp2_with (first | (go_at_call 51; (with_reducible refine (spec_l1In.calls a1 2 4 true _ A7.out).mono ?_); rintro e w' ⟨rfl, ⟨nd, rfl⟩⟩) | (go_at_call 68; (with_reducible refine (spec_PowerOf.calls k a1 16 t156 _ A9.out).mono ?_); rintro e w' ⟨rfl, ⟨nd, rfl⟩⟩))
    go_meet
    case rel => exact ⟨_, (decide (a0 ≥ t156)), (by first | rfl | (simp; done) | (simp [*]; done)), H', ⟨by first | omega | exact zT _⟩, ⟨mR HO154.out⟩, ⟨mB HB.out⟩⟩
   ·replace c8 := Bool.eq_false_iff.mpr c8
    subst c8
    replace H := iF H
    have H' := yA H
    clear H
    go_wp2_with (first | (go_at_call 51; (with_reducible refine (spec_l1In.calls a1 2 4 false _ A7.out).mono ?_); rintro e w' ⟨rfl, ⟨nd, rfl⟩⟩))
    go_meet
    case rel => exact ⟨_, (true), (by first | rfl | (simp; done) | (simp [*]; done)), H', ⟨by first | omega | exact zT _⟩, ⟨mR HO154.out⟩, ⟨mB HB.out⟩⟩
 case rest =>
  clear HC3
  (try clear p2);(try clear c5);(try clear c6);(try clear c6b0);(try clear c8)
  obtain ⟨kq, x19_2, rfl, HA, HJ2, HO_5, HB⟩ := hcut
  cases kq with
  | zero => exact absurd HA.out (by simp [spec_DigitsOf.j0])
  | succ kj2 =>
   have H := HA.out
   clear HA
   simp only [spec_DigitsOf.j0] at H
   by_cases c10 : x19_2 = true
   ·subst c10
    replace H := iT H
    obtain rfl := zU H
    go_wp2
    go_ret
    exact ⟨_, by first | rfl | (simp [errW_none, errW_some] <;> rfl) | (simp [*, errW_none, errW_some] <;> rfl), by (with_reducible repeat (first | apply yB | apply yC | apply yD)); exact HO_5.out, by repeat (first | (with_reducible first | exact HB.out | apply yO | apply yN | apply yP) | exact HB.out)⟩
   ·replace c10 := Bool.eq_false_iff.mpr c10
    subst c10
    replace H := iF H
    have H' := yA H
    clear H
    go_wp2
    go_loopg [0, 5] kj2 (fun kq v0 v5 w' => ∃ (x0_2 : Int) (x5_2 : List Int), v0 = .int .i64 x0_2 ∧ Aside0 (spec_DigitsOf.l0 kq x0_2 a1 x5_2 = some r) ∧ Aside0 (kq ≤ kj2) ∧ Aside0 (Kd.R (Kd.int .i64) 3 w' w.heap.size (fun _ => True) v5 x5_2) ∧ Aside0 (Below w.heap.size w w'))
    case atStart => exact ⟨(a0), (y152), (by first | rfl | (simp; done) | (simp [*]; done)), H', ⟨zT _⟩, ⟨mR HO_5.out⟩, ⟨mB HB.out⟩⟩
    case round =>
     clear H'
     (try clear c1);(try clear p2);(try clear c5);(try clear c6);(try clear c6b0);(try clear c8);(try clear c10);(try clear p2)
     obtain ⟨x0_2, x5_2, rfl, HA, HK2, HO_5, HB⟩ := hrel
     cases gk with
     | zero => exact absurd HA.out (by simp [spec_DigitsOf.l0])
     | succ k2 =>
      have H := HA.out
      clear HA
      simp only [spec_DigitsOf.l0] at H
      by_cases c11 : x0_2 > 0
      ·rw [if_pos c11] at H
       have c11b0 : decide (0 < x0_2) = true := zH c11
       clear c11
       by_cases c12 : a1 = 0
       ·rw [if_pos c12] at H
        exact absurd H (by simp)
       ·rw [if_neg c12] at H
        have c12b0 : (a1 == 0) = false := beq_eq_false_iff_ne.mpr c12
        have c12b1 : (a1 != 0) = true := bne_iff_ne.mpr c12
        (first | ((with_reducible replace H := bS H); obtain ⟨y157, Ny157, H⟩ := H) | (obtain ⟨y157, Ny157⟩ : ∃ y_ : List Int, y_ = (([Int.tmod x0_2 a1] : List Int)) := ⟨_, rfl⟩; rw [← Ny157] at H; replace Ny157 := yA Ny157))
        obtain ⟨c13, H⟩ := iP H
        have LMc13 := yA c13
        clear c13
        (first | ((with_reducible replace H := bS H); obtain ⟨y160, Ny160, H⟩ := H) | (obtain ⟨y160, Ny160⟩ : ∃ y_ : List Int, y_ = (y157 ++ x5_2) := ⟨_, rfl⟩; rw [← Ny160] at H; replace Ny160 := yA Ny160))
        have H' := yA H
        clear H
        go_wp2_with (first | ((with_reducible refine gate_dst (N := 26) rfl ?_); refine Kd.R_lit (Kd.int .i64) _ 3 ?hg (N := 26) ?hd (xs := ([Int.tmod x0_2 a1] : List Int)) (inner := [.int .i64 (Int.tmod x0_2 a1)]) (ok := fun _ => True) (okp := fun _ => True) ?hr ?hp (fun _ hk => hk) trivial (zV _ _) (zT _) (by simp) ?_; (case hd => rfl); (case hg => rfl); (case hr => first | (go_simp; done) | (go_simp; rfl)); (case hp => exact (Reps.one (show Kd.M (Kd.int .i64) _ _ _ (Int.tmod x0_2 a1) [.int .i64 (Int.tmod x0_2 a1)] from rfl) (Reps.none _ _))); intro v158 w14 ho15 hb hg_ hnew_; clear hg_ hnew_; (first | rw [← Ny157.out] at ho15 | (simp only [Int.reduceToNat] at ho15; rw [← Ny157.out] at ho15)); have HO159 := yA (Kd.R_lower (Kd.R_new' ho15 (yZ (mR HO_5.out))) (yX (mB HB.out))); replace HO_5 := yA (zO (mR HO_5.out) (yY ho15) hb); replace HB := yA (zD (mB HB.out) hb); clear hb ho15; obtain ⟨Ao17, co17, eo17⟩ := Kd.R_slice HO_5.out; subst eo17) | ((with_reducible refine gate_builtin (b := .append) (xs := #[.tmp 26, .tmp 27]) rfl ?_); at_builtin; refine Kd.R_append_rows (Kd.int .i64) (w0 := w) w.heap.size rfl (.tmp 26) (.tmp 27) 38 3 (.int .i64 0) 8 rfl Try.underlying38 info3 rfl (by decide) (by omega) v158 y157 x5_2 _ _ _ (fun k_ => some k_ ≠ (.slice Ao17 x5_2.length co17 : Value).ownBlock) (fun _ => False) rfl rfl ?aO ?aR (fun _ _ h => h) (fun _ h => h.elim) ?aF ?aB ?aS ?aL ?_; (case aR => repeat (first | exact (zN HO_5.out).2.2 | (with_reducible refine yE ?_ _) | (with_reducible refine yF ?_ _) | (with_reducible refine yG ?_))); (case aB => exact (mB HB.out)); (case aF => exact (fun k_ hk => Kd.fresh' (yZ (mR HO_5.out)) k_ hk)); (case aO => exact (mR (zP HO159.out (fun _ hk => hk.2)))); (case aS => exact (yX (mB HB.out))); (case aL => have := LMc13.out; omega); intro v161 w16 ho hb hg hat; rw [← Ny160.out] at ho; replace HO_5 := yA (Kd.R_after (ok := (fun _ => True)) (mR HO_5.out) hg hat); replace HB := yA (hb); have HO162 := yA (ho); clear HO159; clear ho hb hg hat))
        go_roundg k2
        case measure => have := HJ2.out; have := HK2.out; omega
        case rel => exact ⟨(wrap64 (Int.tdiv x0_2 a1)), (y160), (by first | rfl | (simp; done) | (simp [*]; done)), H', ⟨by have := HJ2.out; have := HK2.out; omega⟩, ⟨by (with_reducible repeat (first | apply yB | apply yC | apply yD)); exact zP HO162.out (fun _ hk => trivial)⟩, ⟨mB HB.out⟩⟩
      ·rw [if_neg c11] at H
       have c11b0 : decide (0 < x0_2) = false := decide_eq_false c11
       clear c11
       obtain rfl := zU H
       go_wp2
       go_ret
       exact ⟨_, by first | rfl | (simp [errW_none, errW_some] <;> rfl) | (simp [*, errW_none, errW_some] <;> rfl), by (with_reducible repeat (first | apply yB | apply yC | apply yD)); exact HO_5.out, by repeat (first | (with_reducible first | exact HB.out | apply yO | apply yN | apply yP) | exact HB.out)⟩

end Go.Proofs.Ytgopcliohchkmaa.Q
