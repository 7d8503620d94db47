-- written by a program of this session (a turned copy of the kit's print) out of the translation
-- squeezed
-- compact
import Derived.Test.YtefelghmmpmigaaQ0
namespace Go.Proofs.Ytefelghmmpmigaa.Q
open Go.RowKit Go.Proofs.YtefelghmmpmigaaW.PrintWords Go.Proofs.YtefelghmmpmigaaW.PrintLast Go.Proofs.YtefelghmmpmigaaW.PrintMore
attribute [local go_sem] max2_int min2_int max_two min_two max_three min_three max_four min_four   -- for this text's walks alone
set_option linter.unusedVariables false
set_option linter.unusedSimpArgs false

/-! ### impl_reached: function 92 -/
mutual
def impl_reached.l0 : Nat → List (List Int) → List Bool → List Int → Int → Option (List Int)
 | 0, _, _, _, _ => none
 | k + 1, x0, x3, x4, x5 => if x5 < (x4.length : Int) then (if 0 ≤ x5 then (if 0 ≤ (rd x4 x5) then (if (rd x4 x5) < (x0.length : Int) then (impl_reached.l1 k x0 x3 x4 x5 (rd_L1 x0 (rd x4 x5)) ((rd_L1 x0 (rd x4 x5)).length : Int) 0) else (none)) else (none)) else (none)) else (some x4)
def impl_reached.l1 : Nat → List (List Int) → List Bool → List Int → Int → List Int → Int → Int → Option (List Int)
 | 0, _, _, _, _, _, _, _ => none
 | k + 1, x0, x3, x4, x5, x26, x27, x28 => if x28 < x27 then (if 0 ≤ x28 then (if x28 < (x26.length : Int) then (if 0 ≤ (rd x26 x28) then (if (rd x26 x28) < (x3.length : Int) then (if (rdOf false x3 (rd x26 x28) = true) then (impl_reached.l1 k x0 x3 x4 x5 x26 x27 (wrap64 (x28 + 1))) else (if x4.length < 17592186044416 then (impl_reached.l1 k x0 (x3.set ((rd x26 x28) : Int).toNat true) (x4 ++ [rd x26 x28]) x5 x26 x27 (wrap64 (x28 + 1))) else (none))) else (none)) else (none)) else (none)) else (none)) else (impl_reached.l0 k x0 x3 x4 (wrap64 (x5 + 1)))
end
def impl_reached.f (k : Nat) (l0 : List (List Int)) : Option (List Int) := if 0 ≤ (l0.length : Int) then (if ((l0.length : Int) : Int).toNat ≤ 281474976710656 then ((some (List.replicate ((l0.length : Int) : Int).toNat false : List Bool)).bind fun y418 => (if 0 < (y418.length : Int) then (impl_reached.l0 k l0 (y418.set (0 : Int).toNat true) (([0] : List Int)) 0) else (none))) else (none)) else (none)
theorem impl_reached.mono_l : ∀ k, (∀ y0 y1 y2 y3, LeO (impl_reached.l0 k y0 y1 y2 y3) (impl_reached.l0 (k + 1) y0 y1 y2 y3)) ∧ (∀ y0 y1 y2 y3 y4 y5 y6, LeO (impl_reached.l1 k y0 y1 y2 y3 y4 y5 y6) (impl_reached.l1 (k + 1) y0 y1 y2 y3 y4 y5 y6))
 | 0 => ⟨fun _ _ _ _ r h => by simp [impl_reached.l0] at h, fun _ _ _ _ _ _ _ r h => by simp [impl_reached.l1] at h⟩
 | k + 1 => by
  obtain ⟨ih0, ih1⟩ := impl_reached.mono_l k
  refine ⟨?_, ?_⟩
  ·intro y0 y1 y2 y3
   unfold impl_reached.l0
   repeat' first
   | (with_reducible exact ih0 _ _ _ _)
   | (with_reducible exact ih1 _ _ _ _ _ _ _)
   | (with_reducible exact LeO.refl _)
   | (with_reducible exact LeO.none _)
   | (with_reducible refine LeO.ite ?_ ?_)
   | (with_reducible refine LeO.bind ?_ (fun _ => ?_))
   | exact ih0 _ _ _ _
   | exact ih1 _ _ _ _ _ _ _
   | exact LeO.none _
   | refine LeO.ite ?_ ?_
   | refine LeO.bind ?_ (fun _ => ?_)
  ·intro y0 y1 y2 y3 y4 y5 y6
   unfold impl_reached.l1
   repeat' first
   | (with_reducible exact ih0 _ _ _ _)
   | (with_reducible exact ih1 _ _ _ _ _ _ _)
   | (with_reducible exact LeO.refl _)
   | (with_reducible exact LeO.none _)
   | (with_reducible refine LeO.ite ?_ ?_)
   | (with_reducible refine LeO.bind ?_ (fun _ => ?_))
   | exact ih0 _ _ _ _
   | exact ih1 _ _ _ _ _ _ _
   | exact LeO.none _
   | refine LeO.ite ?_ ?_
   | refine LeO.bind ?_ (fun _ => ?_)
theorem impl_reached.mono : ∀ a0 k, LeO (impl_reached.f k a0) (impl_reached.f (k + 1) a0) := by
 intro a0 k
 obtain ⟨ih0, ih1⟩ := impl_reached.mono_l k
 unfold impl_reached.f
 repeat' first
   | (with_reducible exact ih0 _ _ _ _)
   | (with_reducible exact ih1 _ _ _ _ _ _ _)
   | (with_reducible exact LeO.refl _)
   | (with_reducible exact LeO.none _)
   | (with_reducible refine LeO.ite ?_ ?_)
   | (with_reducible refine LeO.bind ?_ (fun _ => ?_))
   | exact ih0 _ _ _ _
   | exact ih1 _ _ _ _ _ _ _
   | exact LeO.none _
   | refine LeO.ite ?_ ?_
   | refine LeO.bind ?_ (fun _ => ?_)
set_option maxHeartbeats 8000000 in
set_option maxRecDepth 100000 in
theorem impl_reached.calls (k : Nat) (A0 : Option Addr) (c0 : Nat) (l0 : List (List Int)) (r : List Int) (w : World) (hr0 : Kd.C (Kd.slice 3 (Kd.int .i64)) w A0 l0.length l0) (hc0 : l0.length ≤ c0) (h : impl_reached.f k l0 = some r) :
  Calls Try.prog 92 #[.slice A0 l0.length c0] w fun e w' => ∃ v0_ : Value, e = .returned (v0_) ∧ Kd.R (Kd.int .i64) 3 w' w.heap.size (fun _ => True) v0_ r ∧ Below w.heap.size w w' := by
 have HR0 := yA hr0
 have HC0 := yA hc0
 clear hr0 hc0
 have HB := yA (zV w.heap.size w)
 have H : (if 0 ≤ (l0.length : Int) then (if ((l0.length : Int) : Int).toNat ≤ 281474976710656 then ((some (List.replicate ((l0.length : Int) : Int).toNat false : List Bool)).bind fun y418 => (if 0 < (y418.length : Int) then (impl_reached.l0 k l0 (y418.set (0 : Int).toNat true) (([0] : List Int)) 0) else (none))) else (none)) else (none)) = some r := h
 clear h
 by_cases c2 : 0 ≤ (l0.length : Int)
 ·rw [if_pos c2] at H
  have c2b0 := eq_true c2
  have c2b1 : decide (0 ≤ (l0.length : Int)) = true := zH c2
  clear c2
  by_cases c3 : ((l0.length : Int) : Int).toNat ≤ 281474976710656
  ·rw [if_pos c3] at H
   have c3b0 := eq_true c3
   have c3b1 : decide (((l0.length : Int) : Int).toNat ≤ 281474976710656) = true := zH c3
   clear c3
   obtain ⟨y418, hy418⟩ : ∃ y_ : List Bool, y_ = (List.replicate ((l0.length : Int) : Int).toNat false) := ⟨_, rfl⟩
   replace H : (if 0 < (y418.length : Int) then (impl_reached.l0 k l0 (y418.set (0 : Int).toNat true) (([0] : List Int)) 0) else (none)) = some r := by first | (rw [hy418]; with_reducible exact H) | (have H2_ := (Option.bind_some _ _).symm.trans H; rw [hy418]; with_reducible exact H2_) | (have H2_ := (Option.bind_some _ _).symm.trans H; with_reducible exact H2_) | with_reducible exact H | (rw [hy418]; exact H) | exact H
   have Ny418 := yA hy418
   clear hy418
   by_cases c4 : 0 < (y418.length : Int)
   ·rw [if_pos c4] at H
    have c4b0 : decide (0 < (y418.length : Int)) = true := zH c4
    have c4b1 : decide (0 < y418.length) = true := zH (by omega)
    clear c4
    obtain ⟨y421, hy421⟩ : ∃ y_ : List Bool, y_ = (y418.set (0 : Int).toNat true) := ⟨_, rfl⟩
    replace H : (impl_reached.l0 k l0 y421 (([0] : List Int)) 0) = some r := by first | (rw [hy421]; with_reducible exact H) | (have H2_ := (Option.bind_some _ _).symm.trans H; rw [hy421]; with_reducible exact H2_) | (have H2_ := (Option.bind_some _ _).symm.trans H; with_reducible exact H2_) | with_reducible exact H | (rw [hy421]; exact H) | exact H
    have Ny421 := yA hy421
    clear hy421
    obtain ⟨y422, hy422⟩ : ∃ y_ : List Int, y_ = (([0] : List Int)) := ⟨_, rfl⟩
    replace H : (impl_reached.l0 k l0 y421 y422 0) = some r := by first | (rw [hy422]; with_reducible exact H) | (have H2_ := (Option.bind_some _ _).symm.trans H; rw [hy422]; with_reducible exact H2_) | (have H2_ := (Option.bind_some _ _).symm.trans H; with_reducible exact H2_) | with_reducible exact H | (rw [hy422]; exact H) | exact H
    have Ny422 := yA hy422
    clear hy422
    have H' := yA H
    clear H
    go_enter Try.func92, Try.ntmps92
    go_wp2_with (first | ((with_reducible refine gate_dst (N := 10) rfl ?_); refine Kd.R_make Kd.bool _ 4 rfl (N := 10) rfl 27 _ _ rfl (l0.length : Int) rfl rfl Try.underlying27 (.bool false) 1 info4 rfl (by decide) (by omega) false (ok := fun _ => True) (okp := fun _ => True) rfl (fun _ hk => hk) trivial (zG (by first | (with_reducible assumption) | assumption)) (Nat.le_trans (Nat.mul_le_mul_right _ (zG (by first | (with_reducible assumption) | assumption) : (l0.length : Int).toNat ≤ 281474976710656)) (by omega)) (zV _ _) (zT _) ?_; intro v419 w6 ho7 hb hg_ hnew_; clear hg_ hnew_; (first | rw [← Ny418.out] at ho7 | (simp only [Int.reduceToNat] at ho7; rw [← Ny418.out] at ho7)); have n0_ := yA (Kd.R_lower ho7 (yX (mB HB.out))); have n1_ := yA (zD (mB HB.out) hb); clear HB; have HO420 := n0_; have HB := n1_; clear n0_ n1_; clear hb ho7; have p5 : 0 ≤ (0 : Int) := (by omega); have q5 : (0 : Int) < ((y418.length : Int) : Int) := zG (by first | (with_reducible assumption) | assumption); have qi5 : (0 < y418.length) = True := eq_true (by omega); obtain ⟨go5, co5, eo5, gb5, gl5, cl5, HG5⟩ := Kd.R_form HO420.out (by omega); (first | cases eo5 | (injection eo5 with ea_ en_ ec_; (first | subst ea_ | (injection ea_ with ea_; subst ea_)); subst ec_; clear en_)); have GB5 := yA gb5; have GG5 := yA HG5; clear gb5 gl5 HG5; obtain ⟨hx5_0, hf5_0⟩ := Kd.R_celln false HO420.out (0 : Int) p5 q5; (try rw [show ((0 : Int)).toNat = 0 from rfl] at hx5_0); (try simp only [Nat.reduceMul, Nat.zero_mul, Nat.zero_add, Nat.reduceAdd] at hx5_0); (try rw [show ((0 : Int)).toNat = 0 from rfl] at hf5_0); (try simp only [Nat.reduceMul, Nat.zero_mul, Nat.zero_add, Nat.reduceAdd] at hf5_0); replace p5 := eq_true p5; replace q5 := eq_true q5; obtain ⟨hy8_, hz8_⟩ := Kd.R_celln false HO420.out (0 : Int) (by omega) (zG (by first | (with_reducible assumption) | assumption)); (try simp only [Int.reduceToNat, Int.toNat_zero, Int.toNat_ofNat, Nat.reduceMul, Nat.zero_mul, Nat.zero_add] at hy8_ hz8_); (try rw [show ((0 : Int)).toNat = 0 from rfl] at hy8_); (try rw [show ((0 : Int)).toNat = 0 from rfl] at hz8_); have HP8 := Kd.R_putg HO420.out (0 : Int) true) | ((with_reducible refine gate_store (t := 4) (p := 12) rfl ?_); refine store_event (t := 4) (p := 12) (v := ?vo_w9) (w1 := (w6.setCell ⟨go5, (0 : Int).toNat, none⟩ (.bool true))) ?hg ?ho ?hn ?hr ?_; (case ho => rfl); (case hg => rfl); (case hn => rfl); (case hr => first | (go_simp; done) | (go_simp; rfl)); intro w9 hw; have hg : w6.grownBy w9 (some go5) := (by rw [hw]; exact HP8.2); have hp_ : Kd.R Kd.bool 4 w9 w.heap.size (fun _ => True) (.slice (some ⟨go5, 0, none⟩) y418.length co5) y421 := (by rw [hw, Ny421.out]; exact HP8.1); clear HP8; have n0_ := yA (hp_); have n1_ := yA ((by rw [hw]; exact yQ (HB.out) GB5.out : Below w.heap.size w w9)); clear HO420; clear HB; have HO420 := n0_; have HB := n1_; clear n0_ n1_; clear hg hw hp_) | ((with_reducible refine gate_dst (N := 13) rfl ?_); refine Kd.R_lit (Kd.int .i64) _ 3 ?hg (N := 13) ?hd (xs := ([0] : List Int)) (inner := [.int .i64 0]) (ok := fun _ => True) (okp := fun _ => True) ?hr ?hp (fun _ hk => hk) trivial (zV _ _) (zT _) (by simp) ?_; (case hd => rfl); (case hg => rfl); (case hr => first | (go_simp; done) | (go_simp; rfl)); (case hp => exact (Reps.one (show Kd.M (Kd.int .i64) _ _ _ 0 [.int .i64 0] from rfl) (Reps.none _ _))); intro v423 w10 ho11 hb hg_ hnew_; clear hg_ hnew_; (first | rw [← Ny422.out] at ho11 | (simp only [Int.reduceToNat] at ho11; rw [← Ny422.out] at ho11)); have n0_ := yA (yK (mR HO420.out) hb); have n1_ := yA (Kd.R_lower ho11 (yX (mB HB.out))); have n2_ := yA (zD (mB HB.out) hb); clear HO420; clear HB; have HO420 := n0_; have HO424 := n1_; have HB := n2_; clear n0_ n1_ n2_; clear hb ho11))
    go_loopg [4, 5] k (fun kq v4 v5 w' => ∃ (x3_1 : List Bool) (x4_1 : List Int) (x5_1 : Int), v5 = .int .i64 x5_1 ∧ Aside0 (impl_reached.l0 kq l0 x3_1 x4_1 x5_1 = some r) ∧ Aside0 (kq ≤ k) ∧ Aside0 (Kd.R Kd.bool 4 w' w.heap.size (fun _ => True) (.slice (some ⟨go5, 0, none⟩) y418.length co5) x3_1) ∧ Aside0 (Kd.R (Kd.int .i64) 3 w' w.heap.size (fun _ => True) v4 x4_1) ∧ Aside0 (Below w.heap.size w w'))
    case atStart => exact ⟨(y421), (y422), (0), (by first | rfl | (simp; done) | (simp [*]; done)), H', ⟨zT _⟩, ⟨by (with_reducible repeat (first | apply yB | apply yC | apply yD)); exact HO420.out⟩, ⟨by (with_reducible repeat (first | apply yB | apply yC | apply yD)); exact HO424.out⟩, ⟨by repeat (first | (with_reducible first | exact HB.out | apply yO | apply yN | apply yP) | exact HB.out)⟩⟩
    case round =>
     clear H'
     try clear c2
     try clear c2b0
     try clear c2b1
     try clear p2
     try clear c3
     try clear c3b0
     try clear c3b1
     try clear c4
     try clear c4b0
     try clear c4b1
     try clear p5
     try clear q5
     try clear hx5
     try clear qi5
     try clear hf5
     try clear c9
     try clear hx5_0
     try clear p5
     try clear q5
     obtain ⟨x3_1, x4_1, x5_1, rfl, HA, HK1, HO_3, HO_4, HB⟩ := hrel
     have hl3_1 := (zN HO_3.out).1
     rw [hl3_1] at HO_3
     (try simp only [hl3_1])
     (try simp only [hl3_1] at HO_4)
     cases gk with
     | zero => exact absurd HA.out (by simp [impl_reached.l0])
     | succ k1 =>
      have H := HA.out
      clear HA
      simp only [impl_reached.l0] at H
      by_cases c12 : x5_1 < (x4_1.length : Int)
      ·rw [if_pos c12] at H
       have c12b0 : decide (x5_1 < (x4_1.length : Int)) = true := zH c12
       clear c12
       by_cases c13 : 0 ≤ x5_1
       ·rw [if_pos c13] at H
        have c13b0 : decide (0 ≤ x5_1) = true := zH c13
        clear c13
        by_cases c14 : 0 ≤ (rd x4_1 x5_1)
        ·rw [if_pos c14] at H
         have c14b0 : decide (0 ≤ (rd x4_1 x5_1)) = true := zH c14
         clear c14
         by_cases c15 : (rd x4_1 x5_1) < (l0.length : Int)
         ·rw [if_pos c15] at H
          have c15b0 : decide ((rd x4_1 x5_1) < (l0.length : Int)) = true := zH c15
          clear c15
          have H' := yA H
          clear H
          obtain ⟨Ao16, co16, eo16⟩ := Kd.R_slice HO_4.out
          subst eo16
          have p425 : 0 ≤ (x5_1 : Int) := zG (by first | (with_reducible assumption) | assumption)
          have q425 : x5_1 < (x4_1.length : Int) := zG (by first | (with_reducible assumption) | assumption)
          obtain ⟨ad425, e425, hx425_0⟩ := Kd.at_int (zN HO_4.out).2.2 x5_1 p425 q425
          cases e425
          replace p425 := eq_true p425
          replace q425 := eq_true q425
          have p426 : 0 ≤ ((rd x4_1 x5_1) : Int) := zG (by first | (with_reducible assumption) | assumption)
          have q426 : (rd x4_1 x5_1) < (l0.length : Int) := zG (by first | (with_reducible assumption) | assumption)
          obtain ⟨ad426, A426_0, c426_0, e426, hx426_0, hl426_0, hi426_0⟩ := at_L1 HR0.out (rd x4_1 x5_1) p426 q426
          cases e426
          try replace hx426_0 := (HB.out.cell (zE w _ hx426_0)).trans hx426_0
          have HR426_0 := yA hi426_0
          have HC426_0 := yA hl426_0
          clear hi426_0 hl426_0
          replace p426 := eq_true p426
          replace q426 := eq_true q426
          go_wp2
          go_loopg [4, 28] k1 (fun kq v4 v28 w' => ∃ (x3_2 : List Bool) (x4_2 : List Int) (x28_2 : Int), v28 = .int .i64 x28_2 ∧ Aside0 (impl_reached.l1 kq l0 x3_2 x4_2 x5_1 (rd_L1 l0 (rd x4_1 x5_1)) ((rd_L1 l0 (rd x4_1 x5_1)).length : Int) x28_2 = some r) ∧ Aside0 (kq ≤ k1) ∧ Aside0 (Kd.R Kd.bool 4 w' w.heap.size (fun _ => True) (.slice (some ⟨go5, 0, none⟩) x3_1.length co5) x3_2) ∧ Aside0 (Kd.R (Kd.int .i64) 3 w' w.heap.size (fun _ => True) v4 x4_2) ∧ Aside0 (Below w.heap.size w w'))
          case atStart => exact ⟨(x3_1), (x4_1), (0), (by first | rfl | (simp; done) | (simp [*]; done)), H', ⟨zT _⟩, ⟨by (try simp only [hl3_1]); (with_reducible repeat (first | apply yB | apply yC | apply yD)); exact HO_3.out⟩, ⟨by (try simp only [hl3_1]); (with_reducible repeat (first | apply yB | apply yC | apply yD)); exact HO_4.out⟩, ⟨by repeat (first | (with_reducible first | exact HB.out | apply yO | apply yN | apply yP) | exact HB.out)⟩⟩
          case round =>
           clear H'
           try clear c1
           try clear c2
           try clear c2b0
           try clear c2b1
           try clear p2
           try clear c3
           try clear c3b0
           try clear c3b1
           try clear c4
           try clear c4b0
           try clear c4b1
           try clear p4
           try clear q4
           try clear hx4
           try clear p5
           try clear q5
           try clear hx5
           try clear qi5
           try clear hf5
           try clear c9
           try clear c12
           try clear c12b0
           try clear c13
           try clear c13b0
           try clear c14
           try clear c14b0
           try clear c15
           try clear c15b0
           try clear hx425_0
           try clear hx426_0
           try clear hx5_0
           try clear p2
           try clear p425
           try clear p426
           try clear p5
           try clear q425
           try clear q426
           try clear q5
           obtain ⟨x3_2, x4_2, x28_2, rfl, HA, HK2, HO_3, HO_4, HB⟩ := hrel
           have hl3_2 := (zN HO_3.out).1
           rw [hl3_2] at HO_3
           (try simp only [hl3_2])
           (try simp only [hl3_2] at HO_4)
           cases gk with
           | zero => exact absurd HA.out (by simp [impl_reached.l1])
           | succ k2 =>
            have H := HA.out
            clear HA
            simp only [impl_reached.l1] at H
            by_cases c17 : x28_2 < ((rd_L1 l0 (rd x4_1 x5_1)).length : Int)
            ·rw [if_pos c17] at H
             have c17b0 : decide (x28_2 < ((rd_L1 l0 (rd x4_1 x5_1)).length : Int)) = true := zH c17
             clear c17
             by_cases c18 : 0 ≤ x28_2
             ·rw [if_pos c18] at H
              have c18b0 : decide (0 ≤ x28_2) = true := zH c18
              clear c18
              by_cases c19 : x28_2 < ((rd_L1 l0 (rd x4_1 x5_1)).length : Int)
              ·rw [if_pos c19] at H
               have c19b0 : decide (x28_2 < ((rd_L1 l0 (rd x4_1 x5_1)).length : Int)) = true := zH c19
               clear c19
               by_cases c20 : 0 ≤ (rd (rd_L1 l0 (rd x4_1 x5_1)) x28_2)
               ·rw [if_pos c20] at H
                have c20b0 : decide (0 ≤ (rd (rd_L1 l0 (rd x4_1 x5_1)) x28_2)) = true := zH c20
                clear c20
                by_cases c21 : (rd (rd_L1 l0 (rd x4_1 x5_1)) x28_2) < (x3_2.length : Int)
                ·rw [if_pos c21] at H
                 have c21b0 : decide ((rd (rd_L1 l0 (rd x4_1 x5_1)) x28_2) < (x3_2.length : Int)) = true := zH c21
                 clear c21
                 obtain ⟨bq22, hbq22⟩ : ∃ b_ : Bool, b_ = (rdOf false x3_2 (rd (rd_L1 l0 (rd x4_1 x5_1)) x28_2)) := ⟨_, rfl⟩
                 replace H : (if (bq22 = true) then (impl_reached.l1 k2 l0 x3_2 x4_2 x5_1 (rd_L1 l0 (rd x4_1 x5_1)) ((rd_L1 l0 (rd x4_1 x5_1)).length : Int) (wrap64 (x28_2 + 1))) else (if x4_2.length < 17592186044416 then (impl_reached.l1 k2 l0 (x3_2.set ((rd (rd_L1 l0 (rd x4_1 x5_1)) x28_2) : Int).toNat true) (x4_2 ++ [rd (rd_L1 l0 (rd x4_1 x5_1)) x28_2]) x5_1 (rd_L1 l0 (rd x4_1 x5_1)) ((rd_L1 l0 (rd x4_1 x5_1)).length : Int) (wrap64 (x28_2 + 1))) else (none))) = some r := by rw [← hbq22] at H; exact H
                 have Nbq22 := yA hbq22
                 clear hbq22
                 by_cases c23 : (bq22 = true)
                 ·subst c23
                  have H1 : (impl_reached.l1 k2 l0 x3_2 x4_2 x5_1 (rd_L1 l0 (rd x4_1 x5_1)) ((rd_L1 l0 (rd x4_1 x5_1)).length : Int) (wrap64 (x28_2 + 1))) = some r := by rw [if_pos rfl] at H; exact H
                  clear H
                  have H := H1
                  clear H1
                  have H' := yA H
                  clear H
                  have p427 : 0 ≤ (x28_2 : Int) := zG (by first | (with_reducible assumption) | assumption)
                  have q427 : x28_2 < ((rd_L1 l0 (rd x4_1 x5_1)).length : Int) := zG (by first | (with_reducible assumption) | assumption)
                  obtain ⟨ad427, e427, hx427_0⟩ := Kd.at_int HR426_0.out x28_2 p427 q427
                  cases e427
                  try replace hx427_0 := (HB.out.cell (zE w _ hx427_0)).trans hx427_0
                  replace p427 := eq_true p427
                  replace q427 := eq_true q427
                  have p428 : 0 ≤ ((rd (rd_L1 l0 (rd x4_1 x5_1)) x28_2) : Int) := zG (by first | (with_reducible assumption) | assumption)
                  have q428 : (rd (rd_L1 l0 (rd x4_1 x5_1)) x28_2) < (x3_2.length : Int) := zG (by first | (with_reducible assumption) | assumption)
                  obtain ⟨ad428, e428, hx428_0⟩ := Kd.at_bool (zN HO_3.out).2.2 (rd (rd_L1 l0 (rd x4_1 x5_1)) x28_2) p428 q428
                  (try rw [← Nbq22.out] at hx428_0)
                  obtain rfl : (⟨go5, 0, none⟩ : Addr) = ad428 := (by injection e428)
                  (first | simp only [add_plain] at hx428_0 | simp only [add_at] at hx428_0 | simp only [Addr.add, Nat.zero_add] at hx428_0 | skip)
                  replace p428 := eq_true p428
                  replace q428 := eq_true q428
                  go_wp2
                  (try simp only [← hl3_2])
                  go_roundg k2
                  case measure => have := HK1.out; have := HK2.out; omega
                  case rel => exact ⟨(x3_2), (x4_2), (wrap64 (x28_2 + 1)), (by first | rfl | (simp; done) | (simp [*]; done)), H', ⟨by have := HK1.out; have := HK2.out; omega⟩, ⟨by (try simp only [hl3_1]); (try simp only [hl3_2]); (with_reducible repeat (first | apply yB | apply yC | apply yD)); exact HO_3.out⟩, ⟨by (try simp only [hl3_1]); (try simp only [hl3_2]); (with_reducible repeat (first | apply yB | apply yC | apply yD)); exact HO_4.out⟩, ⟨by repeat (first | (with_reducible first | exact HB.out | apply yO | apply yN | apply yP) | exact HB.out)⟩⟩
                 ·replace c23 := Bool.eq_false_iff.mpr c23
                  subst c23
                  have H1 : (if x4_2.length < 17592186044416 then (impl_reached.l1 k2 l0 (x3_2.set ((rd (rd_L1 l0 (rd x4_1 x5_1)) x28_2) : Int).toNat true) (x4_2 ++ [rd (rd_L1 l0 (rd x4_1 x5_1)) x28_2]) x5_1 (rd_L1 l0 (rd x4_1 x5_1)) ((rd_L1 l0 (rd x4_1 x5_1)).length : Int) (wrap64 (x28_2 + 1))) else (none)) = some r := by rw [if_neg (show ¬ (false = true) by decide)] at H; exact H
                  clear H
                  have H := H1
                  clear H1
                  obtain ⟨y429, hy429⟩ : ∃ y_ : List Bool, y_ = (x3_2.set ((rd (rd_L1 l0 (rd x4_1 x5_1)) x28_2) : Int).toNat true) := ⟨_, rfl⟩
                  replace H : (if x4_2.length < 17592186044416 then (impl_reached.l1 k2 l0 y429 (x4_2 ++ [rd (rd_L1 l0 (rd x4_1 x5_1)) x28_2]) x5_1 (rd_L1 l0 (rd x4_1 x5_1)) ((rd_L1 l0 (rd x4_1 x5_1)).length : Int) (wrap64 (x28_2 + 1))) else (none)) = some r := by first | (rw [hy429]; with_reducible exact H) | (have H2_ := (Option.bind_some _ _).symm.trans H; rw [hy429]; with_reducible exact H2_) | (have H2_ := (Option.bind_some _ _).symm.trans H; with_reducible exact H2_) | with_reducible exact H | (rw [hy429]; exact H) | exact H
                  have Ny429 := yA hy429
                  clear hy429
                  by_cases c25 : x4_2.length < 17592186044416
                  ·rw [if_pos c25] at H
                   have LMc25 := yA c25
                   clear c25
                   obtain ⟨y430, hy430⟩ : ∃ y_ : List Int, y_ = (x4_2 ++ [rd (rd_L1 l0 (rd x4_1 x5_1)) x28_2]) := ⟨_, rfl⟩
                   replace H : (impl_reached.l1 k2 l0 y429 y430 x5_1 (rd_L1 l0 (rd x4_1 x5_1)) ((rd_L1 l0 (rd x4_1 x5_1)).length : Int) (wrap64 (x28_2 + 1))) = some r := by first | (rw [hy430]; with_reducible exact H) | (have H2_ := (Option.bind_some _ _).symm.trans H; rw [hy430]; with_reducible exact H2_) | (have H2_ := (Option.bind_some _ _).symm.trans H; with_reducible exact H2_) | with_reducible exact H | (rw [hy430]; exact H) | exact H
                   have Ny430 := yA hy430
                   clear hy430
                   have H' := yA H
                   clear H
                   have p427 : 0 ≤ (x28_2 : Int) := zG (by first | (with_reducible assumption) | assumption)
                   have q427 : x28_2 < ((rd_L1 l0 (rd x4_1 x5_1)).length : Int) := zG (by first | (with_reducible assumption) | assumption)
                   obtain ⟨ad427, e427, hx427_0⟩ := Kd.at_int HR426_0.out x28_2 p427 q427
                   cases e427
                   try replace hx427_0 := (HB.out.cell (zE w _ hx427_0)).trans hx427_0
                   replace p427 := eq_true p427
                   replace q427 := eq_true q427
                   have p428 : 0 ≤ ((rd (rd_L1 l0 (rd x4_1 x5_1)) x28_2) : Int) := zG (by first | (with_reducible assumption) | assumption)
                   have q428 : (rd (rd_L1 l0 (rd x4_1 x5_1)) x28_2) < (x3_2.length : Int) := zG (by first | (with_reducible assumption) | assumption)
                   obtain ⟨ad428, e428, hx428_0⟩ := Kd.at_bool (zN HO_3.out).2.2 (rd (rd_L1 l0 (rd x4_1 x5_1)) x28_2) p428 q428
                   (try rw [← Nbq22.out] at hx428_0)
                   obtain rfl : (⟨go5, 0, none⟩ : Addr) = ad428 := (by injection e428)
                   (first | simp only [add_plain] at hx428_0 | simp only [add_at] at hx428_0 | simp only [Addr.add, Nat.zero_add] at hx428_0 | skip)
                   replace p428 := eq_true p428
                   replace q428 := eq_true q428
                   have p24 : 0 ≤ ((rd (rd_L1 l0 (rd x4_1 x5_1)) x28_2) : Int) := zG (by first | (with_reducible assumption) | assumption)
                   have q24 : ((rd (rd_L1 l0 (rd x4_1 x5_1)) x28_2) : Int) < ((x3_2.length : Int) : Int) := zG (by first | (with_reducible assumption) | assumption)
                   obtain ⟨hx24_0, hf24_0⟩ := Kd.R_celln false HO_3.out ((rd (rd_L1 l0 (rd x4_1 x5_1)) x28_2) : Int) p24 q24
                   replace p24 := eq_true p24
                   replace q24 := eq_true q24
                   have HP26 := Kd.R_putg HO_3.out ((rd (rd_L1 l0 (rd x4_1 x5_1)) x28_2) : Int) true
                   go_wp2_with (first | ((with_reducible refine gate_store (t := 4) (p := 39) rfl ?_); refine store_event (t := 4) (p := 39) (v := ?vo_w27) (w1 := (wr.setCell ⟨go5, ((rd (rd_L1 l0 (rd x4_1 x5_1)) x28_2) : Int).toNat, none⟩ (.bool true))) ?hg ?ho ?hn ?hr ?_; (case ho => rfl); (case hg => rfl); (case hn => rfl); (case hr => first | (go_simp; done) | (go_simp; rfl)); intro w27 hw; have hg : wr.grownBy w27 (some go5) := (by rw [hw]; exact HP26.2); have hp_ : Kd.R Kd.bool 4 w27 w.heap.size (fun _ => True) (.slice (some ⟨go5, 0, none⟩) x3_2.length co5) y429 := (by rw [hw, Ny429.out]; exact HP26.1); clear HP26; have n0_ := yA (hp_); have n1_ := yA (Kd.R_over' (v := (.slice (some ⟨go5, 0, none⟩) x3_2.length co5)) (mR HO_4.out) (Kd.R_typed HO_3.out) (by decide) hg); have n2_ := yA ((by rw [hw]; exact yQ (HB.out) GB5.out : Below w.heap.size w w27)); clear HO_3; clear HO_4; clear HB; have HO_3 := n0_; have HO_4 := n1_; have HB := n2_; clear n0_ n1_ n2_; clear hg hw hp_) | ((with_reducible refine gate_builtin (b := .append) (xs := #[.tmp 40, .tmp 42]) rfl ?_); at_builtin; refine Kd.R_append (Kd.int .i64) (w0 := w) w.heap.size rfl (.tmp 40) (.tmp 42) 23 3 (.int .i64 0) 8 rfl Try.underlying23 info3 rfl (by decide) (by omega) u4 x4_2 (rd (rd_L1 l0 (rd x4_1 x5_1)) x28_2) [.int .i64 (rd (rd_L1 l0 (rd x4_1 x5_1)) x28_2)] (fun _ => True) (fun _ => False) rfl rfl ?aP (fun _ hk => hk.elim) ?aF ?aO ?aB ?aS ?aL ?_; (case aP => exact rfl); (case aB => exact (mB HB.out)); (case aF => exact (fun _ _ => trivial)); (case aO => exact (mR HO_4.out)); (case aS => exact (yX (mB HB.out))); (case aL => have := LMc25.out; omega); intro v431 w28 ho hb hg hat; rw [← Ny430.out] at ho; have n0_ := yA (Kd.R_over' (mR HO_3.out) (Kd.R_typed (mR HO_4.out)) (by decide) hg); have n1_ := yA (hb); have n2_ := yA (ho); clear HO_3; clear HB; clear HO_4; have HO_3 := n0_; have HB := n1_; have HO432 := n2_; clear n0_ n1_ n2_; clear ho hb hg hat))
                   (try simp only [← hl3_2])
                   go_roundg k2
                   case measure => have := HK1.out; have := HK2.out; omega
                   case rel => exact ⟨(y429), (y430), (wrap64 (x28_2 + 1)), (by first | rfl | (simp; done) | (simp [*]; done)), H', ⟨by have := HK1.out; have := HK2.out; omega⟩, ⟨by (try simp only [hl3_1]); (try simp only [hl3_2]); (with_reducible repeat (first | apply yB | apply yC | apply yD)); exact HO_3.out⟩, ⟨by (try simp only [hl3_1]); (try simp only [hl3_2]); (with_reducible repeat (first | apply yB | apply yC | apply yD)); exact HO432.out⟩, ⟨by repeat (first | (with_reducible first | exact HB.out | apply yO | apply yN | apply yP) | exact HB.out)⟩⟩
                  ·rw [if_neg c25] at H
                   exact absurd H (by simp)
                ·rw [if_neg c21] at H
                 exact absurd H (by simp)
               ·rw [if_neg c20] at H
                exact absurd H (by simp)
              ·rw [if_neg c19] at H
               exact absurd H (by simp)
             ·rw [if_neg c18] at H
              exact absurd H (by simp)
            ·rw [if_neg c17] at H
             have c17b0 : decide (x28_2 < ((rd_L1 l0 (rd x4_1 x5_1)).length : Int)) = false := decide_eq_false c17
             clear c17
             have H' := yA H
             clear H
             go_wp2
             (try simp only [← hl3_1, ← hl3_2])
             go_roundg k2
             case measure => have := HK1.out; have := HK2.out; omega
             case rel => exact ⟨(x3_2), (x4_2), (wrap64 (x5_1 + 1)), (by first | rfl | (simp; done) | (simp [*]; done)), H', ⟨by have := HK1.out; have := HK2.out; omega⟩, ⟨by (try simp only [hl3_1]); (try simp only [hl3_2]); (with_reducible repeat (first | apply yB | apply yC | apply yD)); exact HO_3.out⟩, ⟨by (try simp only [hl3_1]); (try simp only [hl3_2]); (with_reducible repeat (first | apply yB | apply yC | apply yD)); exact HO_4.out⟩, ⟨by repeat (first | (with_reducible first | exact HB.out | apply yO | apply yN | apply yP) | exact HB.out)⟩⟩
         ·rw [if_neg c15] at H
          exact absurd H (by simp)
        ·rw [if_neg c14] at H
         exact absurd H (by simp)
       ·rw [if_neg c13] at H
        exact absurd H (by simp)
      ·rw [if_neg c12] at H
       have c12b0 : decide (x5_1 < (x4_1.length : Int)) = false := decide_eq_false c12
       clear c12
       obtain rfl := zU H
       obtain ⟨Ao29, co29, eo29⟩ := Kd.R_slice HO_4.out
       subst eo29
       go_wp2
       go_ret
       exact ⟨_, by first | rfl | (simp [errW_none, errW_some] <;> rfl) | (simp [*, errW_none, errW_some] <;> rfl), by (with_reducible repeat (first | apply yB | apply yC | apply yD)); exact HO_4.out, by repeat (first | (with_reducible first | exact HB.out | apply yO | apply yN | apply yP) | exact HB.out)⟩
   ·rw [if_neg c4] at H
    exact absurd H (by simp)
  ·rw [if_neg c3] at H
   exact absurd H (by simp)
 ·rw [if_neg c2] at H
  exact absurd H (by simp)

end Go.Proofs.Ytefelghmmpmigaa.Q
