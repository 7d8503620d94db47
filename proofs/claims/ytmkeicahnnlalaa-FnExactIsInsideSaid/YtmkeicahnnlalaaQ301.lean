-- a walk given by hand (this session's own work)
import Derived.Test.YtmkeicahnnlalaaQ0
import Derived.Test.YtmkeicahnnlalaaQ300
import Derived.Test.YtmkeicahnnlalaaQ31
import Derived.Test.YtmkeicahnnlalaaQ37
import Derived.Test.YtmkeicahnnlalaaQ43
import Derived.Test.YtmkeicahnnlalaaQ50
namespace Go.Proofs.Ytmkeicahnnlalaa.Q
open Go.RowKit Go.Proofs.YtmkeicahnnlalaaW.PrintWords Go.Proofs.YtmkeicahnnlalaaW.PrintLast Go.Proofs.YtmkeicahnnlalaaW.PrintMore
set_option linter.unusedVariables false
set_option linter.unusedSimpArgs false
/-! ### laws_FnExactIsInside -/
def laws_FnExactIsInside.f (k : Nat) (a0_0 : Int) (a0_1 : Int) (l0_2 : List (List Int)) (l0_3 : List Bool) (a1_0 : Int) (a1_1 : Int) (l1_2 : List (List Int)) (l1_3 : List Bool) : Option Bool := (laws_szRelation.f k a0_0 a0_1 l0_2 l0_3 1048576).bind fun c1 => if c1 < 0 then some true else (laws_szRelation.f k a1_0 a1_1 l1_2 l1_3 c1).bind fun c2 => if c2 < 0 then some true else (laws_toRelation.f k a0_0 a0_1 l0_2 l0_3).bind fun c3 => (laws_toRelation.f k a1_0 a1_1 l1_2 l1_3).bind fun c4 => (spec_IsInside.f k c3.1 c3.2.1 c3.2.2.1 c3.2.2.2 c4.1 c4.2.1 c4.2.2.1 c4.2.2.2).bind fun c5 => (impl_IsInside.f k c3.1 c3.2.1 c3.2.2.1 c3.2.2.2 c4.1 c4.2.1 c4.2.2.1 c4.2.2.2).bind fun c6 => (laws_eqRelation.f k c3.1 c3.2.1 c3.2.2.1 c3.2.2.2 c3.1 c3.2.1 c3.2.2.1 c3.2.2.2).bind fun c7 => (laws_eqRelation.f k c4.1 c4.2.1 c4.2.2.1 c4.2.2.2 c4.1 c4.2.1 c4.2.2.1 c4.2.2.2).bind fun c8 => if c6 = c5 ∧ c7 = true ∧ c8 = true then some true else some false
set_option maxHeartbeats 8000000 in
set_option maxRecDepth 100000 in
theorem laws_FnExactIsInside.calls (k : Nat) (a0_0 : Int) (a0_1 : Int) (A0_2 : Option Addr) (c0_2 : Nat) (l0_2 : List (List Int)) (A0_3 : Option Addr) (c0_3 : Nat) (l0_3 : List Bool) (a1_0 : Int) (a1_1 : Int) (A1_2 : Option Addr) (c1_2 : Nat) (l1_2 : List (List Int)) (A1_3 : Option Addr) (c1_3 : Nat) (l1_3 : List Bool) (r : Bool) (hr_ : r = true) (w : World) (hr0_2 : Kd.C (Kd.slice 3 (Kd.int .i64)) w A0_2 l0_2.length l0_2) (hc0_2 : l0_2.length ≤ c0_2) (hr0_3 : Kd.C Kd.bool w A0_3 l0_3.length l0_3) (hc0_3 : l0_3.length ≤ c0_3) (hr1_2 : Kd.C (Kd.slice 3 (Kd.int .i64)) w A1_2 l1_2.length l1_2) (hc1_2 : l1_2.length ≤ c1_2) (hr1_3 : Kd.C Kd.bool w A1_3 l1_3.length l1_3) (hc1_3 : l1_3.length ≤ c1_3) (h : laws_FnExactIsInside.f k a0_0 a0_1 l0_2 l0_3 a1_0 a1_1 l1_2 l1_3 = some r) :
  Calls Try.prog 6 #[.agg #[.int .i64 a0_0, .int .i64 a0_1, .slice A0_2 l0_2.length c0_2, .slice A0_3 l0_3.length c0_3], .agg #[.int .i64 a1_0, .int .i64 a1_1, .slice A1_2 l1_2.length c1_2, .slice A1_3 l1_3.length c1_3]] w fun e w' => e = .returned (.bool r) ∧ Below w.heap.size w w' := by
  subst hr_
  have hu25 := Try.underlying25
  have hu29 := Try.underlying29
  have hu32 := Try.underlying32
  have hu39 := Try.underlying39
  have HR0_2 := yA hr0_2
  have HC0_2 := yA hc0_2
  clear hr0_2 hc0_2
  have HR0_3 := yA hr0_3
  have HC0_3 := yA hc0_3
  clear hr0_3 hc0_3
  have HR1_2 := yA hr1_2
  have HC1_2 := yA hc1_2
  clear hr1_2 hc1_2
  have HR1_3 := yA hr1_3
  have HC1_3 := yA hc1_3
  clear hr1_3 hc1_3
  have HB := yA (Below.refl w.heap.size w)
  unfold laws_FnExactIsInside.f at h
  obtain ⟨top0, et0⟩ : ∃ n, n = w.heap.size := ⟨_, rfl⟩
  have TOP := yA (show top0 ≤ w.heap.size from Nat.le_of_eq et0)
  clear et0
  obtain ⟨c1, AR1, h⟩ := Option.bind_eq_some_iff.1 h
  have AQ1 := yA AR1
  clear AR1
  by_cases he0 : c1 < 0
  · clear h
    have he0b := decide_eq_true he0
    go_enter Try.func6, Try.ntmps6
    go_wp2_with (first | ((with_reducible refine gate_dst (N := 2) rfl ?_); refine box_event ?hg (N := 2) ?hd (cs := #[.int .i64 a0_0, .int .i64 a0_1, .slice A0_2 l0_2.length c0_2, .slice A0_3 l0_3.length c0_3]) (t := 39) ?hr ?_; (case hd => rfl); (case hg => rfl); (case hr => first | (go_simp; done) | (go_simp; rfl)); intro gb1 hg w1_ hbox hb; have LO_b1 := yA ((by rw [hg]; exact mvT TOP.out : top0 ≤ gb1)); have GE_b1 := yA ((by rw [hg]; exact yX (mB HB.out) : w.heap.size ≤ gb1)); have hlt_ := zX hbox; have LE_top1 := yA (Nat.le_trans (mvT TOP.out) hb.size); have n0_ := yA (zD (mB HB.out) hb); clear HB; have HB := n0_; clear n0_; have BX_b1 := yA hbox; clear hb hg hbox; obtain ⟨top1, et_⟩ : ∃ n, n = w1_.heap.size := ⟨_, rfl⟩; rw [← et_] at hlt_ LE_top1; have HI_b1 := yA hlt_; clear TOP; have TOP := yA (show top1 ≤ w1_.heap.size from Nat.le_of_eq et_); clear et_ hlt_; have hfz_b1_w1__0 := yW BX_b1.out 0; have hfz_b1_w1__1 := yW BX_b1.out 1; have hfz_b1_w1__2 := yW BX_b1.out 2; have hfz_b1_w1__3 := yW BX_b1.out 3) | ((with_reducible refine gate_dst (N := 3) rfl ?_); refine box_event ?hg (N := 3) ?hd (cs := #[.int .i64 a1_0, .int .i64 a1_1, .slice A1_2 l1_2.length c1_2, .slice A1_3 l1_3.length c1_3]) (t := 39) ?hr ?_; (case hd => rfl); (case hg => rfl); (case hr => first | (go_simp; done) | (go_simp; rfl)); intro gb2 hg w2_ hbox hb; have LO_b2 := yA ((by rw [hg]; exact mvT TOP.out : top1 ≤ gb2)); have GE_b2 := yA ((by rw [hg]; exact yX (mB HB.out) : w.heap.size ≤ gb2)); have hlt_ := zX hbox; have LE_top2 := yA (Nat.le_trans (mvT TOP.out) hb.size); have n0_ := yA (zD (mB HB.out) hb); have n1_ := yA (yU (mK BX_b1.out) hb); clear HB BX_b1; have HB := n0_; have BX_b1 := n1_; clear n0_ n1_; have BX_b2 := yA hbox; clear hb hg hbox; obtain ⟨top2, et_⟩ : ∃ n, n = w2_.heap.size := ⟨_, rfl⟩; rw [← et_] at hlt_ LE_top2; have HI_b2 := yA hlt_; clear TOP; have TOP := yA (show top2 ≤ w2_.heap.size from Nat.le_of_eq et_); clear et_ hlt_; have hnb_b1_b2 : gb1 ≠ gb2 := Nat.ne_of_lt (Nat.lt_of_lt_of_le HI_b1.out (Nat.le_trans (Nat.le_refl _) LO_b2.out)); have hnc_b1_b2 := Ne.symm hnb_b1_b2; have hfz_b2_w2__0 := yW BX_b2.out 0; have hfz_b2_w2__1 := yW BX_b2.out 1; have hfz_b2_w2__2 := yW BX_b2.out 2; have hfz_b2_w2__3 := yW BX_b2.out 3; have hcz_b1_w2__0 : w2_.cell? ⟨gb1, 0, none⟩ = some (.int .i64 a0_0) := (yV BX_b1.out 0).trans rfl; have hcz_b1_w2__1 : w2_.cell? ⟨gb1, 1, none⟩ = some (.int .i64 a0_1) := (yV BX_b1.out 1).trans rfl; have hcz_b1_w2__2 : w2_.cell? ⟨gb1, 2, none⟩ = some (.slice A0_2 l0_2.length c0_2) := (yV BX_b1.out 2).trans rfl; have hcz_b1_w2__3 : w2_.cell? ⟨gb1, 3, none⟩ = some (.slice A0_3 l0_3.length c0_3) := (yV BX_b1.out 3).trans rfl; have hcz_b2_w2__0 : w2_.cell? ⟨gb2, 0, none⟩ = some (.int .i64 a1_0) := (yV BX_b2.out 0).trans rfl; have hcz_b2_w2__1 : w2_.cell? ⟨gb2, 1, none⟩ = some (.int .i64 a1_1) := (yV BX_b2.out 1).trans rfl; have hcz_b2_w2__2 : w2_.cell? ⟨gb2, 2, none⟩ = some (.slice A1_2 l1_2.length c1_2) := (yV BX_b2.out 2).trans rfl; have hcz_b2_w2__3 : w2_.cell? ⟨gb2, 3, none⟩ = some (.slice A1_3 l1_3.length c1_3) := (yV BX_b2.out 3).trans rfl))
    go_wp2_with (first | (go_at_call 19; (with_reducible refine (laws_szRelation.calls k a0_0 a0_1 _ _ l0_2 _ _ l0_3 1048576 c1 _ ?side1 ?side2 ?side3 ?side4 AQ1.out).mono ?_); (case side1 => exact yM HR0_2.out (mB HB.out)); (case side2 => exact HC0_2.out); (case side3 => exact yM HR0_3.out (mB HB.out)); (case side4 => exact HC0_3.out); rintro e w3_ ⟨rfl, hb⟩; have n9_ := yA (Nat.le_trans (mvT TOP.out) hb.size); clear TOP; have TOP := n9_; clear n9_; have n0_ := yA (zD (mB HB.out) hb); have n1_ := yA (yU (mK BX_b1.out) hb); have n2_ := yA (yU (mK BX_b2.out) hb); clear HB BX_b1 BX_b2; have HB := n0_; have BX_b1 := n1_; have BX_b2 := n2_; clear n0_ n1_ n2_; clear hb; have hcz_b1_w3__0 : w3_.cell? ⟨gb1, 0, none⟩ = some (.int .i64 a0_0) := (yV BX_b1.out 0).trans rfl; have hcz_b1_w3__1 : w3_.cell? ⟨gb1, 1, none⟩ = some (.int .i64 a0_1) := (yV BX_b1.out 1).trans rfl; have hcz_b1_w3__2 : w3_.cell? ⟨gb1, 2, none⟩ = some (.slice A0_2 l0_2.length c0_2) := (yV BX_b1.out 2).trans rfl; have hcz_b1_w3__3 : w3_.cell? ⟨gb1, 3, none⟩ = some (.slice A0_3 l0_3.length c0_3) := (yV BX_b1.out 3).trans rfl; have hcz_b2_w3__0 : w3_.cell? ⟨gb2, 0, none⟩ = some (.int .i64 a1_0) := (yV BX_b2.out 0).trans rfl; have hcz_b2_w3__1 : w3_.cell? ⟨gb2, 1, none⟩ = some (.int .i64 a1_1) := (yV BX_b2.out 1).trans rfl; have hcz_b2_w3__2 : w3_.cell? ⟨gb2, 2, none⟩ = some (.slice A1_2 l1_2.length c1_2) := (yV BX_b2.out 2).trans rfl; have hcz_b2_w3__3 : w3_.cell? ⟨gb2, 3, none⟩ = some (.slice A1_3 l1_3.length c1_3) := (yV BX_b2.out 3).trans rfl))
    try go_wp2
    go_ret
    exact ⟨rfl, mB HB.out⟩
  rw [if_neg he0] at h
  have he0b := decide_eq_false he0
  clear he0
  obtain ⟨c2, AR2, h⟩ := Option.bind_eq_some_iff.1 h
  have AQ2 := yA AR2
  clear AR2
  by_cases he1 : c2 < 0
  · clear h
    have he1b := decide_eq_true he1
    go_enter Try.func6, Try.ntmps6
    go_wp2_with (first | ((with_reducible refine gate_dst (N := 2) rfl ?_); refine box_event ?hg (N := 2) ?hd (cs := #[.int .i64 a0_0, .int .i64 a0_1, .slice A0_2 l0_2.length c0_2, .slice A0_3 l0_3.length c0_3]) (t := 39) ?hr ?_; (case hd => rfl); (case hg => rfl); (case hr => first | (go_simp; done) | (go_simp; rfl)); intro gb1 hg w1_ hbox hb; have LO_b1 := yA ((by rw [hg]; exact mvT TOP.out : top0 ≤ gb1)); have GE_b1 := yA ((by rw [hg]; exact yX (mB HB.out) : w.heap.size ≤ gb1)); have hlt_ := zX hbox; have LE_top1 := yA (Nat.le_trans (mvT TOP.out) hb.size); have n0_ := yA (zD (mB HB.out) hb); clear HB; have HB := n0_; clear n0_; have BX_b1 := yA hbox; clear hb hg hbox; obtain ⟨top1, et_⟩ : ∃ n, n = w1_.heap.size := ⟨_, rfl⟩; rw [← et_] at hlt_ LE_top1; have HI_b1 := yA hlt_; clear TOP; have TOP := yA (show top1 ≤ w1_.heap.size from Nat.le_of_eq et_); clear et_ hlt_; have hfz_b1_w1__0 := yW BX_b1.out 0; have hfz_b1_w1__1 := yW BX_b1.out 1; have hfz_b1_w1__2 := yW BX_b1.out 2; have hfz_b1_w1__3 := yW BX_b1.out 3) | ((with_reducible refine gate_dst (N := 3) rfl ?_); refine box_event ?hg (N := 3) ?hd (cs := #[.int .i64 a1_0, .int .i64 a1_1, .slice A1_2 l1_2.length c1_2, .slice A1_3 l1_3.length c1_3]) (t := 39) ?hr ?_; (case hd => rfl); (case hg => rfl); (case hr => first | (go_simp; done) | (go_simp; rfl)); intro gb2 hg w2_ hbox hb; have LO_b2 := yA ((by rw [hg]; exact mvT TOP.out : top1 ≤ gb2)); have GE_b2 := yA ((by rw [hg]; exact yX (mB HB.out) : w.heap.size ≤ gb2)); have hlt_ := zX hbox; have LE_top2 := yA (Nat.le_trans (mvT TOP.out) hb.size); have n0_ := yA (zD (mB HB.out) hb); have n1_ := yA (yU (mK BX_b1.out) hb); clear HB BX_b1; have HB := n0_; have BX_b1 := n1_; clear n0_ n1_; have BX_b2 := yA hbox; clear hb hg hbox; obtain ⟨top2, et_⟩ : ∃ n, n = w2_.heap.size := ⟨_, rfl⟩; rw [← et_] at hlt_ LE_top2; have HI_b2 := yA hlt_; clear TOP; have TOP := yA (show top2 ≤ w2_.heap.size from Nat.le_of_eq et_); clear et_ hlt_; have hnb_b1_b2 : gb1 ≠ gb2 := Nat.ne_of_lt (Nat.lt_of_lt_of_le HI_b1.out (Nat.le_trans (Nat.le_refl _) LO_b2.out)); have hnc_b1_b2 := Ne.symm hnb_b1_b2; have hfz_b2_w2__0 := yW BX_b2.out 0; have hfz_b2_w2__1 := yW BX_b2.out 1; have hfz_b2_w2__2 := yW BX_b2.out 2; have hfz_b2_w2__3 := yW BX_b2.out 3; have hcz_b1_w2__0 : w2_.cell? ⟨gb1, 0, none⟩ = some (.int .i64 a0_0) := (yV BX_b1.out 0).trans rfl; have hcz_b1_w2__1 : w2_.cell? ⟨gb1, 1, none⟩ = some (.int .i64 a0_1) := (yV BX_b1.out 1).trans rfl; have hcz_b1_w2__2 : w2_.cell? ⟨gb1, 2, none⟩ = some (.slice A0_2 l0_2.length c0_2) := (yV BX_b1.out 2).trans rfl; have hcz_b1_w2__3 : w2_.cell? ⟨gb1, 3, none⟩ = some (.slice A0_3 l0_3.length c0_3) := (yV BX_b1.out 3).trans rfl; have hcz_b2_w2__0 : w2_.cell? ⟨gb2, 0, none⟩ = some (.int .i64 a1_0) := (yV BX_b2.out 0).trans rfl; have hcz_b2_w2__1 : w2_.cell? ⟨gb2, 1, none⟩ = some (.int .i64 a1_1) := (yV BX_b2.out 1).trans rfl; have hcz_b2_w2__2 : w2_.cell? ⟨gb2, 2, none⟩ = some (.slice A1_2 l1_2.length c1_2) := (yV BX_b2.out 2).trans rfl; have hcz_b2_w2__3 : w2_.cell? ⟨gb2, 3, none⟩ = some (.slice A1_3 l1_3.length c1_3) := (yV BX_b2.out 3).trans rfl))
    go_wp2_with (first | (go_at_call 19; (with_reducible refine (laws_szRelation.calls k a0_0 a0_1 _ _ l0_2 _ _ l0_3 1048576 c1 _ ?side1 ?side2 ?side3 ?side4 AQ1.out).mono ?_); (case side1 => exact yM HR0_2.out (mB HB.out)); (case side2 => exact HC0_2.out); (case side3 => exact yM HR0_3.out (mB HB.out)); (case side4 => exact HC0_3.out); rintro e w3_ ⟨rfl, hb⟩; have n9_ := yA (Nat.le_trans (mvT TOP.out) hb.size); clear TOP; have TOP := n9_; clear n9_; have n0_ := yA (zD (mB HB.out) hb); have n1_ := yA (yU (mK BX_b1.out) hb); have n2_ := yA (yU (mK BX_b2.out) hb); clear HB BX_b1 BX_b2; have HB := n0_; have BX_b1 := n1_; have BX_b2 := n2_; clear n0_ n1_ n2_; clear hb; have hcz_b1_w3__0 : w3_.cell? ⟨gb1, 0, none⟩ = some (.int .i64 a0_0) := (yV BX_b1.out 0).trans rfl; have hcz_b1_w3__1 : w3_.cell? ⟨gb1, 1, none⟩ = some (.int .i64 a0_1) := (yV BX_b1.out 1).trans rfl; have hcz_b1_w3__2 : w3_.cell? ⟨gb1, 2, none⟩ = some (.slice A0_2 l0_2.length c0_2) := (yV BX_b1.out 2).trans rfl; have hcz_b1_w3__3 : w3_.cell? ⟨gb1, 3, none⟩ = some (.slice A0_3 l0_3.length c0_3) := (yV BX_b1.out 3).trans rfl; have hcz_b2_w3__0 : w3_.cell? ⟨gb2, 0, none⟩ = some (.int .i64 a1_0) := (yV BX_b2.out 0).trans rfl; have hcz_b2_w3__1 : w3_.cell? ⟨gb2, 1, none⟩ = some (.int .i64 a1_1) := (yV BX_b2.out 1).trans rfl; have hcz_b2_w3__2 : w3_.cell? ⟨gb2, 2, none⟩ = some (.slice A1_2 l1_2.length c1_2) := (yV BX_b2.out 2).trans rfl; have hcz_b2_w3__3 : w3_.cell? ⟨gb2, 3, none⟩ = some (.slice A1_3 l1_3.length c1_3) := (yV BX_b2.out 3).trans rfl))
    go_wp2_with (first | (go_at_call 19; (with_reducible refine (laws_szRelation.calls k a1_0 a1_1 _ _ l1_2 _ _ l1_3 c1 c2 _ ?side1 ?side2 ?side3 ?side4 AQ2.out).mono ?_); (case side1 => exact yM HR1_2.out (mB HB.out)); (case side2 => exact HC1_2.out); (case side3 => exact yM HR1_3.out (mB HB.out)); (case side4 => exact HC1_3.out); rintro e w4_ ⟨rfl, hb⟩; have n9_ := yA (Nat.le_trans (mvT TOP.out) hb.size); clear TOP; have TOP := n9_; clear n9_; have n0_ := yA (zD (mB HB.out) hb); have n1_ := yA (yU (mK BX_b1.out) hb); have n2_ := yA (yU (mK BX_b2.out) hb); clear HB BX_b1 BX_b2; have HB := n0_; have BX_b1 := n1_; have BX_b2 := n2_; clear n0_ n1_ n2_; clear hb; have hcz_b1_w4__0 : w4_.cell? ⟨gb1, 0, none⟩ = some (.int .i64 a0_0) := (yV BX_b1.out 0).trans rfl; have hcz_b1_w4__1 : w4_.cell? ⟨gb1, 1, none⟩ = some (.int .i64 a0_1) := (yV BX_b1.out 1).trans rfl; have hcz_b1_w4__2 : w4_.cell? ⟨gb1, 2, none⟩ = some (.slice A0_2 l0_2.length c0_2) := (yV BX_b1.out 2).trans rfl; have hcz_b1_w4__3 : w4_.cell? ⟨gb1, 3, none⟩ = some (.slice A0_3 l0_3.length c0_3) := (yV BX_b1.out 3).trans rfl; have hcz_b2_w4__0 : w4_.cell? ⟨gb2, 0, none⟩ = some (.int .i64 a1_0) := (yV BX_b2.out 0).trans rfl; have hcz_b2_w4__1 : w4_.cell? ⟨gb2, 1, none⟩ = some (.int .i64 a1_1) := (yV BX_b2.out 1).trans rfl; have hcz_b2_w4__2 : w4_.cell? ⟨gb2, 2, none⟩ = some (.slice A1_2 l1_2.length c1_2) := (yV BX_b2.out 2).trans rfl; have hcz_b2_w4__3 : w4_.cell? ⟨gb2, 3, none⟩ = some (.slice A1_3 l1_3.length c1_3) := (yV BX_b2.out 3).trans rfl))
    try go_wp2
    go_ret
    exact ⟨rfl, mB HB.out⟩
  rw [if_neg he1] at h
  have he1b := decide_eq_false he1
  clear he1
  obtain ⟨⟨c3_1, c3_2, c3_3, c3_4⟩, AR3, h⟩ := Option.bind_eq_some_iff.1 h
  obtain ⟨⟨c4_1, c4_2, c4_3, c4_4⟩, AR4, h⟩ := Option.bind_eq_some_iff.1 h
  obtain ⟨c5, AR5, h⟩ := Option.bind_eq_some_iff.1 h
  obtain ⟨c6, AR6, h⟩ := Option.bind_eq_some_iff.1 h
  obtain ⟨c7, AR7, h⟩ := Option.bind_eq_some_iff.1 h
  obtain ⟨c8, AR8, h⟩ := Option.bind_eq_some_iff.1 h
  simp only at AR3 AR4 AR5 AR6 AR7 AR8 h
  by_cases hc : c6 = c5 ∧ c7 = true ∧ c8 = true
  · obtain ⟨rfl, rfl, rfl⟩ := hc
    clear h
    have AQ3 := yA AR3
    clear AR3
    have AQ4 := yA AR4
    clear AR4
    have AQ5 := yA AR5
    clear AR5
    have AQ6 := yA AR6
    clear AR6
    have AQ7 := yA AR7
    clear AR7
    have AQ8 := yA AR8
    clear AR8
    go_enter Try.func6, Try.ntmps6
    go_wp2_with (first | ((with_reducible refine gate_dst (N := 2) rfl ?_); refine box_event ?hg (N := 2) ?hd (cs := #[.int .i64 a0_0, .int .i64 a0_1, .slice A0_2 l0_2.length c0_2, .slice A0_3 l0_3.length c0_3]) (t := 39) ?hr ?_; (case hd => rfl); (case hg => rfl); (case hr => first | (go_simp; done) | (go_simp; rfl)); intro gb1 hg w1_ hbox hb; have LO_b1 := yA ((by rw [hg]; exact mvT TOP.out : top0 ≤ gb1)); have GE_b1 := yA ((by rw [hg]; exact yX (mB HB.out) : w.heap.size ≤ gb1)); have hlt_ := zX hbox; have LE_top1 := yA (Nat.le_trans (mvT TOP.out) hb.size); have n0_ := yA (zD (mB HB.out) hb); clear HB; have HB := n0_; clear n0_; have BX_b1 := yA hbox; clear hb hg hbox; obtain ⟨top1, et_⟩ : ∃ n, n = w1_.heap.size := ⟨_, rfl⟩; rw [← et_] at hlt_ LE_top1; have HI_b1 := yA hlt_; clear TOP; have TOP := yA (show top1 ≤ w1_.heap.size from Nat.le_of_eq et_); clear et_ hlt_; have hfz_b1_w1__0 := yW BX_b1.out 0; have hfz_b1_w1__1 := yW BX_b1.out 1; have hfz_b1_w1__2 := yW BX_b1.out 2; have hfz_b1_w1__3 := yW BX_b1.out 3) | ((with_reducible refine gate_dst (N := 3) rfl ?_); refine box_event ?hg (N := 3) ?hd (cs := #[.int .i64 a1_0, .int .i64 a1_1, .slice A1_2 l1_2.length c1_2, .slice A1_3 l1_3.length c1_3]) (t := 39) ?hr ?_; (case hd => rfl); (case hg => rfl); (case hr => first | (go_simp; done) | (go_simp; rfl)); intro gb2 hg w2_ hbox hb; have LO_b2 := yA ((by rw [hg]; exact mvT TOP.out : top1 ≤ gb2)); have GE_b2 := yA ((by rw [hg]; exact yX (mB HB.out) : w.heap.size ≤ gb2)); have hlt_ := zX hbox; have LE_top2 := yA (Nat.le_trans (mvT TOP.out) hb.size); have n0_ := yA (zD (mB HB.out) hb); have n1_ := yA (yU (mK BX_b1.out) hb); clear HB BX_b1; have HB := n0_; have BX_b1 := n1_; clear n0_ n1_; have BX_b2 := yA hbox; clear hb hg hbox; obtain ⟨top2, et_⟩ : ∃ n, n = w2_.heap.size := ⟨_, rfl⟩; rw [← et_] at hlt_ LE_top2; have HI_b2 := yA hlt_; clear TOP; have TOP := yA (show top2 ≤ w2_.heap.size from Nat.le_of_eq et_); clear et_ hlt_; have hnb_b1_b2 : gb1 ≠ gb2 := Nat.ne_of_lt (Nat.lt_of_lt_of_le HI_b1.out (Nat.le_trans (Nat.le_refl _) LO_b2.out)); have hnc_b1_b2 := Ne.symm hnb_b1_b2; have hfz_b2_w2__0 := yW BX_b2.out 0; have hfz_b2_w2__1 := yW BX_b2.out 1; have hfz_b2_w2__2 := yW BX_b2.out 2; have hfz_b2_w2__3 := yW BX_b2.out 3; have hcz_b1_w2__0 : w2_.cell? ⟨gb1, 0, none⟩ = some (.int .i64 a0_0) := (yV BX_b1.out 0).trans rfl; have hcz_b1_w2__1 : w2_.cell? ⟨gb1, 1, none⟩ = some (.int .i64 a0_1) := (yV BX_b1.out 1).trans rfl; have hcz_b1_w2__2 : w2_.cell? ⟨gb1, 2, none⟩ = some (.slice A0_2 l0_2.length c0_2) := (yV BX_b1.out 2).trans rfl; have hcz_b1_w2__3 : w2_.cell? ⟨gb1, 3, none⟩ = some (.slice A0_3 l0_3.length c0_3) := (yV BX_b1.out 3).trans rfl; have hcz_b2_w2__0 : w2_.cell? ⟨gb2, 0, none⟩ = some (.int .i64 a1_0) := (yV BX_b2.out 0).trans rfl; have hcz_b2_w2__1 : w2_.cell? ⟨gb2, 1, none⟩ = some (.int .i64 a1_1) := (yV BX_b2.out 1).trans rfl; have hcz_b2_w2__2 : w2_.cell? ⟨gb2, 2, none⟩ = some (.slice A1_2 l1_2.length c1_2) := (yV BX_b2.out 2).trans rfl; have hcz_b2_w2__3 : w2_.cell? ⟨gb2, 3, none⟩ = some (.slice A1_3 l1_3.length c1_3) := (yV BX_b2.out 3).trans rfl))
    go_wp2_with (first | (go_at_call 19; (with_reducible refine (laws_szRelation.calls k a0_0 a0_1 _ _ l0_2 _ _ l0_3 1048576 c1 _ ?side1 ?side2 ?side3 ?side4 AQ1.out).mono ?_); (case side1 => exact yM HR0_2.out (mB HB.out)); (case side2 => exact HC0_2.out); (case side3 => exact yM HR0_3.out (mB HB.out)); (case side4 => exact HC0_3.out); rintro e w3_ ⟨rfl, hb⟩; have n9_ := yA (Nat.le_trans (mvT TOP.out) hb.size); clear TOP; have TOP := n9_; clear n9_; have n0_ := yA (zD (mB HB.out) hb); have n1_ := yA (yU (mK BX_b1.out) hb); have n2_ := yA (yU (mK BX_b2.out) hb); clear HB BX_b1 BX_b2; have HB := n0_; have BX_b1 := n1_; have BX_b2 := n2_; clear n0_ n1_ n2_; clear hb; have hcz_b1_w3__0 : w3_.cell? ⟨gb1, 0, none⟩ = some (.int .i64 a0_0) := (yV BX_b1.out 0).trans rfl; have hcz_b1_w3__1 : w3_.cell? ⟨gb1, 1, none⟩ = some (.int .i64 a0_1) := (yV BX_b1.out 1).trans rfl; have hcz_b1_w3__2 : w3_.cell? ⟨gb1, 2, none⟩ = some (.slice A0_2 l0_2.length c0_2) := (yV BX_b1.out 2).trans rfl; have hcz_b1_w3__3 : w3_.cell? ⟨gb1, 3, none⟩ = some (.slice A0_3 l0_3.length c0_3) := (yV BX_b1.out 3).trans rfl; have hcz_b2_w3__0 : w3_.cell? ⟨gb2, 0, none⟩ = some (.int .i64 a1_0) := (yV BX_b2.out 0).trans rfl; have hcz_b2_w3__1 : w3_.cell? ⟨gb2, 1, none⟩ = some (.int .i64 a1_1) := (yV BX_b2.out 1).trans rfl; have hcz_b2_w3__2 : w3_.cell? ⟨gb2, 2, none⟩ = some (.slice A1_2 l1_2.length c1_2) := (yV BX_b2.out 2).trans rfl; have hcz_b2_w3__3 : w3_.cell? ⟨gb2, 3, none⟩ = some (.slice A1_3 l1_3.length c1_3) := (yV BX_b2.out 3).trans rfl))
    go_wp2_with (first | (go_at_call 19; (with_reducible refine (laws_szRelation.calls k a1_0 a1_1 _ _ l1_2 _ _ l1_3 c1 c2 _ ?side1 ?side2 ?side3 ?side4 AQ2.out).mono ?_); (case side1 => exact yM HR1_2.out (mB HB.out)); (case side2 => exact HC1_2.out); (case side3 => exact yM HR1_3.out (mB HB.out)); (case side4 => exact HC1_3.out); rintro e w4_ ⟨rfl, hb⟩; have n9_ := yA (Nat.le_trans (mvT TOP.out) hb.size); clear TOP; have TOP := n9_; clear n9_; have n0_ := yA (zD (mB HB.out) hb); have n1_ := yA (yU (mK BX_b1.out) hb); have n2_ := yA (yU (mK BX_b2.out) hb); clear HB BX_b1 BX_b2; have HB := n0_; have BX_b1 := n1_; have BX_b2 := n2_; clear n0_ n1_ n2_; clear hb; have hcz_b1_w4__0 : w4_.cell? ⟨gb1, 0, none⟩ = some (.int .i64 a0_0) := (yV BX_b1.out 0).trans rfl; have hcz_b1_w4__1 : w4_.cell? ⟨gb1, 1, none⟩ = some (.int .i64 a0_1) := (yV BX_b1.out 1).trans rfl; have hcz_b1_w4__2 : w4_.cell? ⟨gb1, 2, none⟩ = some (.slice A0_2 l0_2.length c0_2) := (yV BX_b1.out 2).trans rfl; have hcz_b1_w4__3 : w4_.cell? ⟨gb1, 3, none⟩ = some (.slice A0_3 l0_3.length c0_3) := (yV BX_b1.out 3).trans rfl; have hcz_b2_w4__0 : w4_.cell? ⟨gb2, 0, none⟩ = some (.int .i64 a1_0) := (yV BX_b2.out 0).trans rfl; have hcz_b2_w4__1 : w4_.cell? ⟨gb2, 1, none⟩ = some (.int .i64 a1_1) := (yV BX_b2.out 1).trans rfl; have hcz_b2_w4__2 : w4_.cell? ⟨gb2, 2, none⟩ = some (.slice A1_2 l1_2.length c1_2) := (yV BX_b2.out 2).trans rfl; have hcz_b2_w4__3 : w4_.cell? ⟨gb2, 3, none⟩ = some (.slice A1_3 l1_3.length c1_3) := (yV BX_b2.out 3).trans rfl))
    have n0_ := yA (yP (HB.out))
    have n1_ := yA (yT (BX_b1.out))
    have n2_ := yA (yT (BX_b2.out))
    have n3_ := yA (show top2 ≤ w4_.drew.heap.size from TOP.out)
    clear HB BX_b1 BX_b2 TOP
    have HB := n0_
    have BX_b1 := n1_
    have BX_b2 := n2_
    have TOP := n3_
    clear n0_ n1_ n2_ n3_
    refine start_ (n := 6) (S := fun w' => w'.cell? ⟨gb1, 0, none⟩ = some (.int .i64 a0_0) ∧ w'.cell? ⟨gb1, 1, none⟩ = some (.int .i64 a0_1) ∧ w'.cell? ⟨gb1, 2, none⟩ = some (.slice A0_2 l0_2.length c0_2) ∧ w'.cell? ⟨gb1, 3, none⟩ = some (.slice A0_3 l0_3.length c0_3) ∧ w'.cell? ⟨gb2, 0, none⟩ = some (.int .i64 a1_0) ∧ w'.cell? ⟨gb2, 1, none⟩ = some (.int .i64 a1_1) ∧ w'.cell? ⟨gb2, 2, none⟩ = some (.slice A1_2 l1_2.length c1_2) ∧ w'.cell? ⟨gb2, 3, none⟩ = some (.slice A1_3 l1_3.length c1_3)) (ds := []) #[false, false, false, false, false, false] (by kernel_rfl) rfl rfl ⟨(yV BX_b1.out 0).trans rfl, (yV BX_b1.out 1).trans rfl, (yV BX_b1.out 2).trans rfl, (yV BX_b1.out 3).trans rfl, (yV BX_b2.out 0).trans rfl, (yV BX_b2.out 1).trans rfl, (yV BX_b2.out 2).trans rfl, (yV BX_b2.out 3).trans rfl⟩ (fun hHeld => ?_)
    generalize w4_.drew = w5_ at HB BX_b1 BX_b2 TOP hHeld ⊢
    refine take_ (i := 0) (N := some 20) (v := ?_) (a' := ?_) #[true, false, false, false, false, false] rfl rfl (by kernel_rfl) (fun _ _ _ h => h) (Or.inl ⟨by rfl, ?_⟩) hHeld ?_ ?_
    rotate_left
    · rintro w' ⟨s0_, s1_, s2_, s3_, s4_, s5_, s6_, s7_⟩
      go_simp
      with_reducible rfl
    rotate_left
    · simp only [Act.put, zA, zB, zC, i64_w, i32_w]
      rfl
    refine take_ (i := 2) (N := some 22) (v := ?_) (a' := ?_) #[true, false, true, false, false, false] rfl rfl (by kernel_rfl) (fun _ _ _ h => h) (Or.inl ⟨by rfl, ?_⟩) hHeld ?_ ?_
    rotate_left
    · rintro w' ⟨s0_, s1_, s2_, s3_, s4_, s5_, s6_, s7_⟩
      go_simp
      with_reducible rfl
    rotate_left
    · simp only [Act.put, zA, zB, zC, i64_w, i32_w]
      rfl
    refine one_ (i := 1) (N := some 21) #[true, true, true, false, false, false] rfl rfl (by kernel_rfl) (by decide) (fun K hK => ?_)
    refine goes_ Try.func21 (by kernel_rfl) rfl #[.agg #[.int .i64 a0_0, .int .i64 a0_1, .slice A0_2 l0_2.length c0_2, .slice A0_3 l0_3.length c0_3]] (by rfl) rfl rfl (by (try simp only [zI, zJ, zK]); first | done | rfl | (simp only [zL, zM]; rfl)) ?_
    with_reducible refine (laws_toRelation.calls k a0_0 a0_1 _ _ l0_2 _ _ l0_3 c3_1 c3_2 c3_3 c3_4 _ ?side1 ?side2 ?side3 ?side4 AQ3.out).mono ?_
    (case side1 => exact yM HR0_2.out (mB HB.out))
    (case side2 => exact HC0_2.out)
    (case side3 => exact yM HR0_3.out (mB HB.out))
    (case side4 => exact HC0_3.out)
    rintro e w6_ ⟨u0_, u1_, rfl, h0_, h1_, hb⟩
    refine ⟨_, rfl, ?_⟩
    have iO4_3 := S_iv h0_ (yX (mB HB.out)) (mvT TOP.out)
    have iO4_4 := R_iv h1_ (yX (mB HB.out)) (mvT TOP.out)
    have LE_top3 := yA (Nat.le_trans (mvT TOP.out) hb.size)
    obtain ⟨top3, et_⟩ : ∃ n, n = w6_.heap.size := ⟨_, rfl⟩
    rw [← et_] at iO4_3 iO4_4 LE_top3
    clear TOP
    have TOP := yA (show top3 ≤ w6_.heap.size from Nat.le_of_eq et_)
    have n0_ := yA (zD (mB HB.out) hb)
    have n1_ := yA (yU (mK BX_b1.out) hb)
    have n2_ := yA (yU (mK BX_b2.out) hb)
    clear HB BX_b1 BX_b2
    have HB := n0_
    have BX_b1 := n1_
    have BX_b2 := n2_
    clear n0_ n1_ n2_
    have O4_3 := yA iO4_3
    have O4_4 := yA iO4_4
    clear et_ hb h0_ iO4_3 h1_ iO4_4
    obtain ⟨AO4_3, cO4_3, eO4_3⟩ := Kd.S_slice O4_3.out
    subst eO4_3
    obtain ⟨AO4_4, cO4_4, eO4_4⟩ := Kd.R_slice O4_4.out
    subst eO4_4
    refine hK.out _ _ ⟨(yV BX_b1.out 0).trans rfl, (yV BX_b1.out 1).trans rfl, (yV BX_b1.out 2).trans rfl, (yV BX_b1.out 3).trans rfl, (yV BX_b2.out 0).trans rfl, (yV BX_b2.out 1).trans rfl, (yV BX_b2.out 2).trans rfl, (yV BX_b2.out 3).trans rfl⟩ (fun hHeld => ?_)
    clear hK K
    refine norm_ (a' := ?_) ?_ ?_
    rotate_left
    · show Act.put _ (some 21) _ = _
      simp only [Act.put, zA, zB, zC, i64_w, i32_w]
      rfl
    refine one_ (i := 3) (N := some 23) #[true, true, true, true, false, false] rfl rfl (by kernel_rfl) (by decide) (fun K hK => ?_)
    refine goes_ Try.func21 (by kernel_rfl) rfl #[.agg #[.int .i64 a1_0, .int .i64 a1_1, .slice A1_2 l1_2.length c1_2, .slice A1_3 l1_3.length c1_3]] (by rfl) rfl rfl (by (try simp only [zI, zJ, zK]); first | done | rfl | (simp only [zL, zM]; rfl)) ?_
    with_reducible refine (laws_toRelation.calls k a1_0 a1_1 _ _ l1_2 _ _ l1_3 c4_1 c4_2 c4_3 c4_4 _ ?side1 ?side2 ?side3 ?side4 AQ4.out).mono ?_
    (case side1 => exact yM HR1_2.out (mB HB.out))
    (case side2 => exact HC1_2.out)
    (case side3 => exact yM HR1_3.out (mB HB.out))
    (case side4 => exact HC1_3.out)
    rintro e w7_ ⟨u0_, u1_, rfl, h0_, h1_, hb⟩
    refine ⟨_, rfl, ?_⟩
    have iO5_3 := S_iv h0_ (yX (mB HB.out)) (mvT TOP.out)
    have iO5_4 := R_iv h1_ (yX (mB HB.out)) (mvT TOP.out)
    have LE_top4 := yA (Nat.le_trans (mvT TOP.out) hb.size)
    obtain ⟨top4, et_⟩ : ∃ n, n = w7_.heap.size := ⟨_, rfl⟩
    rw [← et_] at iO5_3 iO5_4 LE_top4
    clear TOP
    have TOP := yA (show top4 ≤ w7_.heap.size from Nat.le_of_eq et_)
    have n0_ := yA (zD (mB HB.out) hb)
    have n1_ := yA (yU (mK BX_b1.out) hb)
    have n2_ := yA (yU (mK BX_b2.out) hb)
    have n3_ := yA (yL (mS O4_3.out) hb)
    have n4_ := yA (yK (mR O4_4.out) hb)
    clear HB BX_b1 BX_b2 O4_3 O4_4
    have HB := n0_
    have BX_b1 := n1_
    have BX_b2 := n2_
    have O4_3 := n3_
    have O4_4 := n4_
    clear n0_ n1_ n2_ n3_ n4_
    have O5_3 := yA iO5_3
    have O5_4 := yA iO5_4
    clear et_ hb h0_ iO5_3 h1_ iO5_4
    obtain ⟨AO5_3, cO5_3, eO5_3⟩ := Kd.S_slice O5_3.out
    subst eO5_3
    obtain ⟨AO5_4, cO5_4, eO5_4⟩ := Kd.R_slice O5_4.out
    subst eO5_4
    refine hK.out _ _ ⟨(yV BX_b1.out 0).trans rfl, (yV BX_b1.out 1).trans rfl, (yV BX_b1.out 2).trans rfl, (yV BX_b1.out 3).trans rfl, (yV BX_b2.out 0).trans rfl, (yV BX_b2.out 1).trans rfl, (yV BX_b2.out 2).trans rfl, (yV BX_b2.out 3).trans rfl⟩ (fun hHeld => ?_)
    clear hK K
    refine norm_ (a' := ?_) ?_ ?_
    rotate_left
    · show Act.put _ (some 23) _ = _
      simp only [Act.put, zA, zB, zC, i64_w, i32_w]
      rfl
    refine one_ (i := 4) (N := some 24) #[true, true, true, true, true, false] rfl rfl (by kernel_rfl) (by decide) (fun K hK => ?_)
    refine goes_ Try.func25 (by kernel_rfl) rfl #[.agg #[.int .i64 c3_1, .int .i64 c3_2, .slice AO4_3 c3_3.length cO4_3, .slice AO4_4 c3_4.length cO4_4], .agg #[.int .i64 c4_1, .int .i64 c4_2, .slice AO5_3 c4_3.length cO5_3, .slice AO5_4 c4_4.length cO5_4]] (by rfl) rfl rfl (by (try simp only [zI, zJ, zK]); first | done | rfl | (simp only [zL, zM]; rfl)) ?_
    with_reducible refine (spec_IsInside.calls k c3_1 c3_2 _ _ c3_3 _ _ c3_4 c4_1 c4_2 _ _ c4_3 _ _ c4_4 c6 _ ?side1 ?side2 ?side3 ?side4 ?side5 ?side6 ?side7 ?side8 AQ5.out).mono ?_
    (case side1 => exact mC ((Kd.S_reads' O4_3.out).2.2))
    (case side2 => exact (Kd.S_reads' O4_3.out).2.1)
    (case side3 => exact mC ((zN O4_4.out).2.2))
    (case side4 => exact (zN O4_4.out).2.1)
    (case side5 => exact mC ((Kd.S_reads' O5_3.out).2.2))
    (case side6 => exact (Kd.S_reads' O5_3.out).2.1)
    (case side7 => exact mC ((zN O5_4.out).2.2))
    (case side8 => exact (zN O5_4.out).2.1)
    rintro e w8_ ⟨rfl, hb⟩
    refine ⟨_, rfl, ?_⟩
    have n9_ := yA (Nat.le_trans (mvT TOP.out) hb.size)
    clear TOP
    have TOP := n9_
    clear n9_
    have n0_ := yA (zD (mB HB.out) hb)
    have n1_ := yA (yU (mK BX_b1.out) hb)
    have n2_ := yA (yU (mK BX_b2.out) hb)
    have n3_ := yA (yL (mS O4_3.out) hb)
    have n4_ := yA (yK (mR O4_4.out) hb)
    have n5_ := yA (yL (mS O5_3.out) hb)
    have n6_ := yA (yK (mR O5_4.out) hb)
    clear HB BX_b1 BX_b2 O4_3 O4_4 O5_3 O5_4
    have HB := n0_
    have BX_b1 := n1_
    have BX_b2 := n2_
    have O4_3 := n3_
    have O4_4 := n4_
    have O5_3 := n5_
    have O5_4 := n6_
    clear n0_ n1_ n2_ n3_ n4_ n5_ n6_
    clear hb
    refine hK.out _ _ ⟨(yV BX_b1.out 0).trans rfl, (yV BX_b1.out 1).trans rfl, (yV BX_b1.out 2).trans rfl, (yV BX_b1.out 3).trans rfl, (yV BX_b2.out 0).trans rfl, (yV BX_b2.out 1).trans rfl, (yV BX_b2.out 2).trans rfl, (yV BX_b2.out 3).trans rfl⟩ (fun hHeld => ?_)
    clear hK K
    refine norm_ (a' := ?_) ?_ ?_
    rotate_left
    · show Act.put _ (some 24) _ = _
      simp only [Act.put, zA, zB, zC, i64_w, i32_w]
      rfl
    refine pure_ (i := 5) (N := some 6) (v := ?_) (a' := ?_) #[true, true, true, true, true, true] rfl rfl (by kernel_rfl) (fun _ _ _ h => h) (Or.inl ⟨by rfl, ?_⟩) ?_ ?_
    rotate_left
    · intro w'
      go_simp
      with_reducible rfl
    rotate_left
    · simp only [Act.put, zA, zB, zC, i64_w, i32_w]
      rfl
    refine done_ (by kernel_rfl) ?_
    have hcz_b1_w8__0 : w8_.cell? ⟨gb1, 0, none⟩ = some (.int .i64 a0_0) := (yV BX_b1.out 0).trans rfl
    have hcz_b1_w8__1 : w8_.cell? ⟨gb1, 1, none⟩ = some (.int .i64 a0_1) := (yV BX_b1.out 1).trans rfl
    have hcz_b1_w8__2 : w8_.cell? ⟨gb1, 2, none⟩ = some (.slice A0_2 l0_2.length c0_2) := (yV BX_b1.out 2).trans rfl
    have hcz_b1_w8__3 : w8_.cell? ⟨gb1, 3, none⟩ = some (.slice A0_3 l0_3.length c0_3) := (yV BX_b1.out 3).trans rfl
    have hcz_b2_w8__0 : w8_.cell? ⟨gb2, 0, none⟩ = some (.int .i64 a1_0) := (yV BX_b2.out 0).trans rfl
    have hcz_b2_w8__1 : w8_.cell? ⟨gb2, 1, none⟩ = some (.int .i64 a1_1) := (yV BX_b2.out 1).trans rfl
    have hcz_b2_w8__2 : w8_.cell? ⟨gb2, 2, none⟩ = some (.slice A1_2 l1_2.length c1_2) := (yV BX_b2.out 2).trans rfl
    have hcz_b2_w8__3 : w8_.cell? ⟨gb2, 3, none⟩ = some (.slice A1_3 l1_3.length c1_3) := (yV BX_b2.out 3).trans rfl
    have hfz_b1_w8__0 := yW BX_b1.out 0
    have hfz_b1_w8__1 := yW BX_b1.out 1
    have hfz_b1_w8__2 := yW BX_b1.out 2
    have hfz_b1_w8__3 := yW BX_b1.out 3
    have hfz_b2_w8__0 := yW BX_b2.out 0
    have hfz_b2_w8__1 := yW BX_b2.out 1
    have hfz_b2_w8__2 := yW BX_b2.out 2
    have hfz_b2_w8__3 := yW BX_b2.out 3
    go_wp2_with (first | (go_at_call 21; (with_reducible refine (laws_toRelation.calls k a0_0 a0_1 _ _ l0_2 _ _ l0_3 c3_1 c3_2 c3_3 c3_4 _ ?side1 ?side2 ?side3 ?side4 AQ3.out).mono ?_); (case side1 => exact yM HR0_2.out (mB HB.out)); (case side2 => exact HC0_2.out); (case side3 => exact yM HR0_3.out (mB HB.out)); (case side4 => exact HC0_3.out); rintro e w9_ ⟨u0_, u1_, rfl, h0_, h1_, hb⟩; have iO6_3 := S_iv h0_ (yX (mB HB.out)) (mvT TOP.out); have iO6_4 := R_iv h1_ (yX (mB HB.out)) (mvT TOP.out); have LE_top5 := yA (Nat.le_trans (mvT TOP.out) hb.size); obtain ⟨top5, et_⟩ : ∃ n, n = w9_.heap.size := ⟨_, rfl⟩; rw [← et_] at iO6_3 iO6_4 LE_top5; clear TOP; have TOP := yA (show top5 ≤ w9_.heap.size from Nat.le_of_eq et_); have n0_ := yA (zD (mB HB.out) hb); have n1_ := yA (yU (mK BX_b1.out) hb); have n2_ := yA (yU (mK BX_b2.out) hb); have n3_ := yA (yL (mS O4_3.out) hb); have n4_ := yA (yK (mR O4_4.out) hb); have n5_ := yA (yL (mS O5_3.out) hb); have n6_ := yA (yK (mR O5_4.out) hb); clear HB BX_b1 BX_b2 O4_3 O4_4 O5_3 O5_4; have HB := n0_; have BX_b1 := n1_; have BX_b2 := n2_; have O4_3 := n3_; have O4_4 := n4_; have O5_3 := n5_; have O5_4 := n6_; clear n0_ n1_ n2_ n3_ n4_ n5_ n6_; have O6_3 := yA iO6_3; have O6_4 := yA iO6_4; clear et_ hb h0_ iO6_3 h1_ iO6_4; obtain ⟨AO6_3, cO6_3, eO6_3⟩ := Kd.S_slice O6_3.out; subst eO6_3; obtain ⟨AO6_4, cO6_4, eO6_4⟩ := Kd.R_slice O6_4.out; subst eO6_4) | ((with_reducible refine gate_dst (N := 7) rfl ?_); refine box_event ?hg (N := 7) ?hd (cs := #[.int .i64 0, .int .i64 0, .slice none 0 0, .slice none 0 0]) (t := 29) ?hr ?_; (case hd => rfl); (case hg => rfl); (case hr => first | (go_simp; done) | (go_simp; rfl)); intro gb3 hg w10_ hbox hb; have LO_b3 := yA ((by rw [hg]; exact mvT TOP.out : top5 ≤ gb3)); have GE_b3 := yA ((by rw [hg]; exact yX (mB HB.out) : w.heap.size ≤ gb3)); have hlt_ := zX hbox; have LE_top6 := yA (Nat.le_trans (mvT TOP.out) hb.size); have n0_ := yA (zD (mB HB.out) hb); have n1_ := yA (yU (mK BX_b1.out) hb); have n2_ := yA (yU (mK BX_b2.out) hb); have n3_ := yA (yL (mS O4_3.out) hb); have n4_ := yA (yK (mR O4_4.out) hb); have n5_ := yA (yL (mS O5_3.out) hb); have n6_ := yA (yK (mR O5_4.out) hb); have n7_ := yA (yL (mS O6_3.out) hb); have n8_ := yA (yK (mR O6_4.out) hb); clear HB BX_b1 BX_b2 O4_3 O4_4 O5_3 O5_4 O6_3 O6_4; have HB := n0_; have BX_b1 := n1_; have BX_b2 := n2_; have O4_3 := n3_; have O4_4 := n4_; have O5_3 := n5_; have O5_4 := n6_; have O6_3 := n7_; have O6_4 := n8_; clear n0_ n1_ n2_ n3_ n4_ n5_ n6_ n7_ n8_; have BX_b3 := yA hbox; clear hb hg hbox; obtain ⟨top6, et_⟩ : ∃ n, n = w10_.heap.size := ⟨_, rfl⟩; rw [← et_] at hlt_ LE_top6; have HI_b3 := yA hlt_; clear TOP; have TOP := yA (show top6 ≤ w10_.heap.size from Nat.le_of_eq et_); clear et_ hlt_; have hnb_b1_b3 : gb1 ≠ gb3 := Nat.ne_of_lt (Nat.lt_of_lt_of_le HI_b1.out (Nat.le_trans ((Nat.le_trans LE_top2.out (Nat.le_trans LE_top3.out (Nat.le_trans LE_top4.out (LE_top5.out))))) LO_b3.out)); have hnc_b1_b3 := Ne.symm hnb_b1_b3; have hnb_b2_b3 : gb2 ≠ gb3 := Nat.ne_of_lt (Nat.lt_of_lt_of_le HI_b2.out (Nat.le_trans ((Nat.le_trans LE_top3.out (Nat.le_trans LE_top4.out (LE_top5.out)))) LO_b3.out)); have hnc_b2_b3 := Ne.symm hnb_b2_b3; have hfz_b3_w10__0 := yW BX_b3.out 0; have hfz_b3_w10__1 := yW BX_b3.out 1; have hfz_b3_w10__2 := yW BX_b3.out 2; have hfz_b3_w10__3 := yW BX_b3.out 3; have hcz_b1_w10__0 : w10_.cell? ⟨gb1, 0, none⟩ = some (.int .i64 a0_0) := (yV BX_b1.out 0).trans rfl; have hcz_b1_w10__1 : w10_.cell? ⟨gb1, 1, none⟩ = some (.int .i64 a0_1) := (yV BX_b1.out 1).trans rfl; have hcz_b1_w10__2 : w10_.cell? ⟨gb1, 2, none⟩ = some (.slice A0_2 l0_2.length c0_2) := (yV BX_b1.out 2).trans rfl; have hcz_b1_w10__3 : w10_.cell? ⟨gb1, 3, none⟩ = some (.slice A0_3 l0_3.length c0_3) := (yV BX_b1.out 3).trans rfl; have hcz_b2_w10__0 : w10_.cell? ⟨gb2, 0, none⟩ = some (.int .i64 a1_0) := (yV BX_b2.out 0).trans rfl; have hcz_b2_w10__1 : w10_.cell? ⟨gb2, 1, none⟩ = some (.int .i64 a1_1) := (yV BX_b2.out 1).trans rfl; have hcz_b2_w10__2 : w10_.cell? ⟨gb2, 2, none⟩ = some (.slice A1_2 l1_2.length c1_2) := (yV BX_b2.out 2).trans rfl; have hcz_b2_w10__3 : w10_.cell? ⟨gb2, 3, none⟩ = some (.slice A1_3 l1_3.length c1_3) := (yV BX_b2.out 3).trans rfl; have hcz_b3_w10__0 : w10_.cell? ⟨gb3, 0, none⟩ = some (.int .i64 0) := (yV BX_b3.out 0).trans rfl; have hcz_b3_w10__1 : w10_.cell? ⟨gb3, 1, none⟩ = some (.int .i64 0) := (yV BX_b3.out 1).trans rfl; have hcz_b3_w10__2 : w10_.cell? ⟨gb3, 2, none⟩ = some (.slice none 0 0) := (yV BX_b3.out 2).trans rfl; have hcz_b3_w10__3 : w10_.cell? ⟨gb3, 3, none⟩ = some (.slice none 0 0) := (yV BX_b3.out 3).trans rfl))
    go_wp2_with (first | (go_at_call 21; (with_reducible refine (laws_toRelation.calls k a1_0 a1_1 _ _ l1_2 _ _ l1_3 c4_1 c4_2 c4_3 c4_4 _ ?side1 ?side2 ?side3 ?side4 AQ4.out).mono ?_); (case side1 => exact yM HR1_2.out (mB (far4B HB.out GE_b3.out (.int .i64 c3_1) (.int .i64 c3_2) (.slice AO6_3 c3_3.length cO6_3) (.slice AO6_4 c3_4.length cO6_4)))); (case side2 => exact HC1_2.out); (case side3 => exact yM HR1_3.out (mB (far4B HB.out GE_b3.out (.int .i64 c3_1) (.int .i64 c3_2) (.slice AO6_3 c3_3.length cO6_3) (.slice AO6_4 c3_4.length cO6_4)))); (case side4 => exact HC1_3.out); rintro e w11_ ⟨u0_, u1_, rfl, h0_, h1_, hb⟩; have iO8_3 := S_iv h0_ (yX (mB (far4B HB.out GE_b3.out (.int .i64 c3_1) (.int .i64 c3_2) (.slice AO6_3 c3_3.length cO6_3) (.slice AO6_4 c3_4.length cO6_4)))) (mvT (far4T (g := gb3) TOP.out (.int .i64 c3_1) (.int .i64 c3_2) (.slice AO6_3 c3_3.length cO6_3) (.slice AO6_4 c3_4.length cO6_4))); have iO8_4 := R_iv h1_ (yX (mB (far4B HB.out GE_b3.out (.int .i64 c3_1) (.int .i64 c3_2) (.slice AO6_3 c3_3.length cO6_3) (.slice AO6_4 c3_4.length cO6_4)))) (mvT (far4T (g := gb3) TOP.out (.int .i64 c3_1) (.int .i64 c3_2) (.slice AO6_3 c3_3.length cO6_3) (.slice AO6_4 c3_4.length cO6_4))); have LE_top7 := yA (Nat.le_trans (mvT (far4T (g := gb3) TOP.out (.int .i64 c3_1) (.int .i64 c3_2) (.slice AO6_3 c3_3.length cO6_3) (.slice AO6_4 c3_4.length cO6_4))) hb.size); obtain ⟨top7, et_⟩ : ∃ n, n = w11_.heap.size := ⟨_, rfl⟩; rw [← et_] at iO8_3 iO8_4 LE_top7; clear TOP; have TOP := yA (show top7 ≤ w11_.heap.size from Nat.le_of_eq et_); have n0_ := yA (zD (mB (far4B HB.out GE_b3.out (.int .i64 c3_1) (.int .i64 c3_2) (.slice AO6_3 c3_3.length cO6_3) (.slice AO6_4 c3_4.length cO6_4))) hb); have n1_ := yA (yU (mK (far4K BX_b1.out (Nat.ne_of_lt (Nat.lt_of_lt_of_le HI_b1.out (Nat.le_trans ((Nat.le_trans LE_top2.out (Nat.le_trans LE_top3.out (Nat.le_trans LE_top4.out (LE_top5.out))))) LO_b3.out))) (.int .i64 c3_1) (.int .i64 c3_2) (.slice AO6_3 c3_3.length cO6_3) (.slice AO6_4 c3_4.length cO6_4))) hb); have n2_ := yA (yU (mK (far4K BX_b2.out (Nat.ne_of_lt (Nat.lt_of_lt_of_le HI_b2.out (Nat.le_trans ((Nat.le_trans LE_top3.out (Nat.le_trans LE_top4.out (LE_top5.out)))) LO_b3.out))) (.int .i64 c3_1) (.int .i64 c3_2) (.slice AO6_3 c3_3.length cO6_3) (.slice AO6_4 c3_4.length cO6_4))) hb); have n3_ := yA (yL (mS (far4S O4_3.out (fun _ h_ => Nat.ne_of_lt (Nat.lt_of_lt_of_le h_.2 (Nat.le_trans ((Nat.le_trans LE_top4.out (LE_top5.out))) LO_b3.out))) (.int .i64 c3_1) (.int .i64 c3_2) (.slice AO6_3 c3_3.length cO6_3) (.slice AO6_4 c3_4.length cO6_4))) hb); have n4_ := yA (yK (mR (far4R O4_4.out (fun _ h_ => Nat.ne_of_lt (Nat.lt_of_lt_of_le h_.2 (Nat.le_trans ((Nat.le_trans LE_top4.out (LE_top5.out))) LO_b3.out))) (.int .i64 c3_1) (.int .i64 c3_2) (.slice AO6_3 c3_3.length cO6_3) (.slice AO6_4 c3_4.length cO6_4))) hb); have n5_ := yA (yL (mS (far4S O5_3.out (fun _ h_ => Nat.ne_of_lt (Nat.lt_of_lt_of_le h_.2 (Nat.le_trans (LE_top5.out) LO_b3.out))) (.int .i64 c3_1) (.int .i64 c3_2) (.slice AO6_3 c3_3.length cO6_3) (.slice AO6_4 c3_4.length cO6_4))) hb); have n6_ := yA (yK (mR (far4R O5_4.out (fun _ h_ => Nat.ne_of_lt (Nat.lt_of_lt_of_le h_.2 (Nat.le_trans (LE_top5.out) LO_b3.out))) (.int .i64 c3_1) (.int .i64 c3_2) (.slice AO6_3 c3_3.length cO6_3) (.slice AO6_4 c3_4.length cO6_4))) hb); have n7_ := yA (yL (mS (far4S O6_3.out (fun _ h_ => Nat.ne_of_lt (Nat.lt_of_lt_of_le h_.2 (Nat.le_trans (Nat.le_refl _) LO_b3.out))) (.int .i64 c3_1) (.int .i64 c3_2) (.slice AO6_3 c3_3.length cO6_3) (.slice AO6_4 c3_4.length cO6_4))) hb); have n8_ := yA (yK (mR (far4R O6_4.out (fun _ h_ => Nat.ne_of_lt (Nat.lt_of_lt_of_le h_.2 (Nat.le_trans (Nat.le_refl _) LO_b3.out))) (.int .i64 c3_1) (.int .i64 c3_2) (.slice AO6_3 c3_3.length cO6_3) (.slice AO6_4 c3_4.length cO6_4))) hb); have n9_ := yA (yU (mK (put4 BX_b3.out (.int .i64 c3_1) (.int .i64 c3_2) (.slice AO6_3 c3_3.length cO6_3) (.slice AO6_4 c3_4.length cO6_4))) hb); clear HB BX_b1 BX_b2 O4_3 O4_4 O5_3 O5_4 O6_3 O6_4 BX_b3; have HB := n0_; have BX_b1 := n1_; have BX_b2 := n2_; have O4_3 := n3_; have O4_4 := n4_; have O5_3 := n5_; have O5_4 := n6_; have O6_3 := n7_; have O6_4 := n8_; have BX_b3 := n9_; clear n0_ n1_ n2_ n3_ n4_ n5_ n6_ n7_ n8_ n9_; have O8_3 := yA iO8_3; have O8_4 := yA iO8_4; clear et_ hb h0_ iO8_3 h1_ iO8_4; obtain ⟨AO8_3, cO8_3, eO8_3⟩ := Kd.S_slice O8_3.out; subst eO8_3; obtain ⟨AO8_4, cO8_4, eO8_4⟩ := Kd.R_slice O8_4.out; subst eO8_4) | ((with_reducible refine gate_dst (N := 8) rfl ?_); refine box_event ?hg (N := 8) ?hd (cs := #[.int .i64 0, .int .i64 0, .slice none 0 0, .slice none 0 0]) (t := 29) ?hr ?_; (case hd => rfl); (case hg => rfl); (case hr => first | (go_simp; done) | (go_simp; rfl)); intro gb4 hg w12_ hbox hb; have LO_b4 := yA ((by rw [hg]; exact mvT TOP.out : top7 ≤ gb4)); have GE_b4 := yA ((by rw [hg]; exact yX (mB HB.out) : w.heap.size ≤ gb4)); have hlt_ := zX hbox; have LE_top8 := yA (Nat.le_trans (mvT TOP.out) hb.size); have n0_ := yA (zD (mB HB.out) hb); have n1_ := yA (yU (mK BX_b1.out) hb); have n2_ := yA (yU (mK BX_b2.out) hb); have n3_ := yA (yL (mS O4_3.out) hb); have n4_ := yA (yK (mR O4_4.out) hb); have n5_ := yA (yL (mS O5_3.out) hb); have n6_ := yA (yK (mR O5_4.out) hb); have n7_ := yA (yL (mS O6_3.out) hb); have n8_ := yA (yK (mR O6_4.out) hb); have n9_ := yA (yU (mK BX_b3.out) hb); have n10_ := yA (yL (mS O8_3.out) hb); have n11_ := yA (yK (mR O8_4.out) hb); clear HB BX_b1 BX_b2 O4_3 O4_4 O5_3 O5_4 O6_3 O6_4 BX_b3 O8_3 O8_4; have HB := n0_; have BX_b1 := n1_; have BX_b2 := n2_; have O4_3 := n3_; have O4_4 := n4_; have O5_3 := n5_; have O5_4 := n6_; have O6_3 := n7_; have O6_4 := n8_; have BX_b3 := n9_; have O8_3 := n10_; have O8_4 := n11_; clear n0_ n1_ n2_ n3_ n4_ n5_ n6_ n7_ n8_ n9_ n10_ n11_; have BX_b4 := yA hbox; clear hb hg hbox; obtain ⟨top8, et_⟩ : ∃ n, n = w12_.heap.size := ⟨_, rfl⟩; rw [← et_] at hlt_ LE_top8; have HI_b4 := yA hlt_; clear TOP; have TOP := yA (show top8 ≤ w12_.heap.size from Nat.le_of_eq et_); clear et_ hlt_; have hnb_b1_b4 : gb1 ≠ gb4 := Nat.ne_of_lt (Nat.lt_of_lt_of_le HI_b1.out (Nat.le_trans ((Nat.le_trans LE_top2.out (Nat.le_trans LE_top3.out (Nat.le_trans LE_top4.out (Nat.le_trans LE_top5.out (Nat.le_trans LE_top6.out (LE_top7.out))))))) LO_b4.out)); have hnc_b1_b4 := Ne.symm hnb_b1_b4; have hnb_b2_b4 : gb2 ≠ gb4 := Nat.ne_of_lt (Nat.lt_of_lt_of_le HI_b2.out (Nat.le_trans ((Nat.le_trans LE_top3.out (Nat.le_trans LE_top4.out (Nat.le_trans LE_top5.out (Nat.le_trans LE_top6.out (LE_top7.out)))))) LO_b4.out)); have hnc_b2_b4 := Ne.symm hnb_b2_b4; have hnb_b3_b4 : gb3 ≠ gb4 := Nat.ne_of_lt (Nat.lt_of_lt_of_le HI_b3.out (Nat.le_trans (LE_top7.out) LO_b4.out)); have hnc_b3_b4 := Ne.symm hnb_b3_b4; have hfz_b4_w12__0 := yW BX_b4.out 0; have hfz_b4_w12__1 := yW BX_b4.out 1; have hfz_b4_w12__2 := yW BX_b4.out 2; have hfz_b4_w12__3 := yW BX_b4.out 3; have hcz_b1_w12__0 : w12_.cell? ⟨gb1, 0, none⟩ = some (.int .i64 a0_0) := (yV BX_b1.out 0).trans rfl; have hcz_b1_w12__1 : w12_.cell? ⟨gb1, 1, none⟩ = some (.int .i64 a0_1) := (yV BX_b1.out 1).trans rfl; have hcz_b1_w12__2 : w12_.cell? ⟨gb1, 2, none⟩ = some (.slice A0_2 l0_2.length c0_2) := (yV BX_b1.out 2).trans rfl; have hcz_b1_w12__3 : w12_.cell? ⟨gb1, 3, none⟩ = some (.slice A0_3 l0_3.length c0_3) := (yV BX_b1.out 3).trans rfl; have hcz_b2_w12__0 : w12_.cell? ⟨gb2, 0, none⟩ = some (.int .i64 a1_0) := (yV BX_b2.out 0).trans rfl; have hcz_b2_w12__1 : w12_.cell? ⟨gb2, 1, none⟩ = some (.int .i64 a1_1) := (yV BX_b2.out 1).trans rfl; have hcz_b2_w12__2 : w12_.cell? ⟨gb2, 2, none⟩ = some (.slice A1_2 l1_2.length c1_2) := (yV BX_b2.out 2).trans rfl; have hcz_b2_w12__3 : w12_.cell? ⟨gb2, 3, none⟩ = some (.slice A1_3 l1_3.length c1_3) := (yV BX_b2.out 3).trans rfl; have hcz_b3_w12__0 : w12_.cell? ⟨gb3, 0, none⟩ = some (.int .i64 c3_1) := (yV BX_b3.out 0).trans rfl; have hcz_b3_w12__1 : w12_.cell? ⟨gb3, 1, none⟩ = some (.int .i64 c3_2) := (yV BX_b3.out 1).trans rfl; have hcz_b3_w12__2 : w12_.cell? ⟨gb3, 2, none⟩ = some (.slice AO6_3 c3_3.length cO6_3) := (yV BX_b3.out 2).trans rfl; have hcz_b3_w12__3 : w12_.cell? ⟨gb3, 3, none⟩ = some (.slice AO6_4 c3_4.length cO6_4) := (yV BX_b3.out 3).trans rfl; have hcz_b4_w12__0 : w12_.cell? ⟨gb4, 0, none⟩ = some (.int .i64 0) := (yV BX_b4.out 0).trans rfl; have hcz_b4_w12__1 : w12_.cell? ⟨gb4, 1, none⟩ = some (.int .i64 0) := (yV BX_b4.out 1).trans rfl; have hcz_b4_w12__2 : w12_.cell? ⟨gb4, 2, none⟩ = some (.slice none 0 0) := (yV BX_b4.out 2).trans rfl; have hcz_b4_w12__3 : w12_.cell? ⟨gb4, 3, none⟩ = some (.slice none 0 0) := (yV BX_b4.out 3).trans rfl))
    go_wp2_with (first | (go_at_call 26; (with_reducible refine (impl_IsInside.calls k c3_1 c3_2 _ _ c3_3 _ _ c3_4 c4_1 c4_2 _ _ c4_3 _ _ c4_4 c6 _ ?side1 ?side2 ?side3 ?side4 ?side5 ?side6 ?side7 ?side8 AQ6.out).mono ?_); (case side1 => exact mC ((Kd.S_reads' (far4S O6_3.out (fun _ h_ => Nat.ne_of_lt (Nat.lt_of_lt_of_le h_.2 (Nat.le_trans ((Nat.le_trans LE_top6.out (LE_top7.out))) LO_b4.out))) (.int .i64 c4_1) (.int .i64 c4_2) (.slice AO8_3 c4_3.length cO8_3) (.slice AO8_4 c4_4.length cO8_4))).2.2)); (case side2 => exact (Kd.S_reads' O6_3.out).2.1); (case side3 => exact mC ((zN (far4R O6_4.out (fun _ h_ => Nat.ne_of_lt (Nat.lt_of_lt_of_le h_.2 (Nat.le_trans ((Nat.le_trans LE_top6.out (LE_top7.out))) LO_b4.out))) (.int .i64 c4_1) (.int .i64 c4_2) (.slice AO8_3 c4_3.length cO8_3) (.slice AO8_4 c4_4.length cO8_4))).2.2)); (case side4 => exact (zN O6_4.out).2.1); (case side5 => exact mC ((Kd.S_reads' (far4S O8_3.out (fun _ h_ => Nat.ne_of_lt (Nat.lt_of_lt_of_le h_.2 (Nat.le_trans (Nat.le_refl _) LO_b4.out))) (.int .i64 c4_1) (.int .i64 c4_2) (.slice AO8_3 c4_3.length cO8_3) (.slice AO8_4 c4_4.length cO8_4))).2.2)); (case side6 => exact (Kd.S_reads' O8_3.out).2.1); (case side7 => exact mC ((zN (far4R O8_4.out (fun _ h_ => Nat.ne_of_lt (Nat.lt_of_lt_of_le h_.2 (Nat.le_trans (Nat.le_refl _) LO_b4.out))) (.int .i64 c4_1) (.int .i64 c4_2) (.slice AO8_3 c4_3.length cO8_3) (.slice AO8_4 c4_4.length cO8_4))).2.2)); (case side8 => exact (zN O8_4.out).2.1); rintro e w13_ ⟨rfl, hb⟩; have n9_ := yA (Nat.le_trans (mvT (far4T (g := gb4) TOP.out (.int .i64 c4_1) (.int .i64 c4_2) (.slice AO8_3 c4_3.length cO8_3) (.slice AO8_4 c4_4.length cO8_4))) hb.size); clear TOP; have TOP := n9_; clear n9_; have n0_ := yA (zD (mB (far4B HB.out GE_b4.out (.int .i64 c4_1) (.int .i64 c4_2) (.slice AO8_3 c4_3.length cO8_3) (.slice AO8_4 c4_4.length cO8_4))) hb); have n1_ := yA (yU (mK (far4K BX_b1.out (Nat.ne_of_lt (Nat.lt_of_lt_of_le HI_b1.out (Nat.le_trans ((Nat.le_trans LE_top2.out (Nat.le_trans LE_top3.out (Nat.le_trans LE_top4.out (Nat.le_trans LE_top5.out (Nat.le_trans LE_top6.out (LE_top7.out))))))) LO_b4.out))) (.int .i64 c4_1) (.int .i64 c4_2) (.slice AO8_3 c4_3.length cO8_3) (.slice AO8_4 c4_4.length cO8_4))) hb); have n2_ := yA (yU (mK (far4K BX_b2.out (Nat.ne_of_lt (Nat.lt_of_lt_of_le HI_b2.out (Nat.le_trans ((Nat.le_trans LE_top3.out (Nat.le_trans LE_top4.out (Nat.le_trans LE_top5.out (Nat.le_trans LE_top6.out (LE_top7.out)))))) LO_b4.out))) (.int .i64 c4_1) (.int .i64 c4_2) (.slice AO8_3 c4_3.length cO8_3) (.slice AO8_4 c4_4.length cO8_4))) hb); have n3_ := yA (yL (mS (far4S O4_3.out (fun _ h_ => Nat.ne_of_lt (Nat.lt_of_lt_of_le h_.2 (Nat.le_trans ((Nat.le_trans LE_top4.out (Nat.le_trans LE_top5.out (Nat.le_trans LE_top6.out (LE_top7.out))))) LO_b4.out))) (.int .i64 c4_1) (.int .i64 c4_2) (.slice AO8_3 c4_3.length cO8_3) (.slice AO8_4 c4_4.length cO8_4))) hb); have n4_ := yA (yK (mR (far4R O4_4.out (fun _ h_ => Nat.ne_of_lt (Nat.lt_of_lt_of_le h_.2 (Nat.le_trans ((Nat.le_trans LE_top4.out (Nat.le_trans LE_top5.out (Nat.le_trans LE_top6.out (LE_top7.out))))) LO_b4.out))) (.int .i64 c4_1) (.int .i64 c4_2) (.slice AO8_3 c4_3.length cO8_3) (.slice AO8_4 c4_4.length cO8_4))) hb); have n5_ := yA (yL (mS (far4S O5_3.out (fun _ h_ => Nat.ne_of_lt (Nat.lt_of_lt_of_le h_.2 (Nat.le_trans ((Nat.le_trans LE_top5.out (Nat.le_trans LE_top6.out (LE_top7.out)))) LO_b4.out))) (.int .i64 c4_1) (.int .i64 c4_2) (.slice AO8_3 c4_3.length cO8_3) (.slice AO8_4 c4_4.length cO8_4))) hb); have n6_ := yA (yK (mR (far4R O5_4.out (fun _ h_ => Nat.ne_of_lt (Nat.lt_of_lt_of_le h_.2 (Nat.le_trans ((Nat.le_trans LE_top5.out (Nat.le_trans LE_top6.out (LE_top7.out)))) LO_b4.out))) (.int .i64 c4_1) (.int .i64 c4_2) (.slice AO8_3 c4_3.length cO8_3) (.slice AO8_4 c4_4.length cO8_4))) hb); have n7_ := yA (yL (mS (far4S O6_3.out (fun _ h_ => Nat.ne_of_lt (Nat.lt_of_lt_of_le h_.2 (Nat.le_trans ((Nat.le_trans LE_top6.out (LE_top7.out))) LO_b4.out))) (.int .i64 c4_1) (.int .i64 c4_2) (.slice AO8_3 c4_3.length cO8_3) (.slice AO8_4 c4_4.length cO8_4))) hb); have n8_ := yA (yK (mR (far4R O6_4.out (fun _ h_ => Nat.ne_of_lt (Nat.lt_of_lt_of_le h_.2 (Nat.le_trans ((Nat.le_trans LE_top6.out (LE_top7.out))) LO_b4.out))) (.int .i64 c4_1) (.int .i64 c4_2) (.slice AO8_3 c4_3.length cO8_3) (.slice AO8_4 c4_4.length cO8_4))) hb); have n9_ := yA (yU (mK (far4K BX_b3.out (Nat.ne_of_lt (Nat.lt_of_lt_of_le HI_b3.out (Nat.le_trans (LE_top7.out) LO_b4.out))) (.int .i64 c4_1) (.int .i64 c4_2) (.slice AO8_3 c4_3.length cO8_3) (.slice AO8_4 c4_4.length cO8_4))) hb); have n10_ := yA (yL (mS (far4S O8_3.out (fun _ h_ => Nat.ne_of_lt (Nat.lt_of_lt_of_le h_.2 (Nat.le_trans (Nat.le_refl _) LO_b4.out))) (.int .i64 c4_1) (.int .i64 c4_2) (.slice AO8_3 c4_3.length cO8_3) (.slice AO8_4 c4_4.length cO8_4))) hb); have n11_ := yA (yK (mR (far4R O8_4.out (fun _ h_ => Nat.ne_of_lt (Nat.lt_of_lt_of_le h_.2 (Nat.le_trans (Nat.le_refl _) LO_b4.out))) (.int .i64 c4_1) (.int .i64 c4_2) (.slice AO8_3 c4_3.length cO8_3) (.slice AO8_4 c4_4.length cO8_4))) hb); have n12_ := yA (yU (mK (put4 BX_b4.out (.int .i64 c4_1) (.int .i64 c4_2) (.slice AO8_3 c4_3.length cO8_3) (.slice AO8_4 c4_4.length cO8_4))) hb); clear HB BX_b1 BX_b2 O4_3 O4_4 O5_3 O5_4 O6_3 O6_4 BX_b3 O8_3 O8_4 BX_b4; have HB := n0_; have BX_b1 := n1_; have BX_b2 := n2_; have O4_3 := n3_; have O4_4 := n4_; have O5_3 := n5_; have O5_4 := n6_; have O6_3 := n7_; have O6_4 := n8_; have BX_b3 := n9_; have O8_3 := n10_; have O8_4 := n11_; have BX_b4 := n12_; clear n0_ n1_ n2_ n3_ n4_ n5_ n6_ n7_ n8_ n9_ n10_ n11_ n12_; clear hb; have hcz_b1_w13__0 : w13_.cell? ⟨gb1, 0, none⟩ = some (.int .i64 a0_0) := (yV BX_b1.out 0).trans rfl; have hcz_b1_w13__1 : w13_.cell? ⟨gb1, 1, none⟩ = some (.int .i64 a0_1) := (yV BX_b1.out 1).trans rfl; have hcz_b1_w13__2 : w13_.cell? ⟨gb1, 2, none⟩ = some (.slice A0_2 l0_2.length c0_2) := (yV BX_b1.out 2).trans rfl; have hcz_b1_w13__3 : w13_.cell? ⟨gb1, 3, none⟩ = some (.slice A0_3 l0_3.length c0_3) := (yV BX_b1.out 3).trans rfl; have hcz_b2_w13__0 : w13_.cell? ⟨gb2, 0, none⟩ = some (.int .i64 a1_0) := (yV BX_b2.out 0).trans rfl; have hcz_b2_w13__1 : w13_.cell? ⟨gb2, 1, none⟩ = some (.int .i64 a1_1) := (yV BX_b2.out 1).trans rfl; have hcz_b2_w13__2 : w13_.cell? ⟨gb2, 2, none⟩ = some (.slice A1_2 l1_2.length c1_2) := (yV BX_b2.out 2).trans rfl; have hcz_b2_w13__3 : w13_.cell? ⟨gb2, 3, none⟩ = some (.slice A1_3 l1_3.length c1_3) := (yV BX_b2.out 3).trans rfl; have hcz_b3_w13__0 : w13_.cell? ⟨gb3, 0, none⟩ = some (.int .i64 c3_1) := (yV BX_b3.out 0).trans rfl; have hcz_b3_w13__1 : w13_.cell? ⟨gb3, 1, none⟩ = some (.int .i64 c3_2) := (yV BX_b3.out 1).trans rfl; have hcz_b3_w13__2 : w13_.cell? ⟨gb3, 2, none⟩ = some (.slice AO6_3 c3_3.length cO6_3) := (yV BX_b3.out 2).trans rfl; have hcz_b3_w13__3 : w13_.cell? ⟨gb3, 3, none⟩ = some (.slice AO6_4 c3_4.length cO6_4) := (yV BX_b3.out 3).trans rfl; have hcz_b4_w13__0 : w13_.cell? ⟨gb4, 0, none⟩ = some (.int .i64 c4_1) := (yV BX_b4.out 0).trans rfl; have hcz_b4_w13__1 : w13_.cell? ⟨gb4, 1, none⟩ = some (.int .i64 c4_2) := (yV BX_b4.out 1).trans rfl; have hcz_b4_w13__2 : w13_.cell? ⟨gb4, 2, none⟩ = some (.slice AO8_3 c4_3.length cO8_3) := (yV BX_b4.out 2).trans rfl; have hcz_b4_w13__3 : w13_.cell? ⟨gb4, 3, none⟩ = some (.slice AO8_4 c4_4.length cO8_4) := (yV BX_b4.out 3).trans rfl))
    have n0_ := yA (yP (HB.out))
    have n1_ := yA (yT (BX_b1.out))
    have n2_ := yA (yT (BX_b2.out))
    have n3_ := yA (yJ (O4_3.out))
    have n4_ := yA (yD (O4_4.out))
    have n5_ := yA (yJ (O5_3.out))
    have n6_ := yA (yD (O5_4.out))
    have n7_ := yA (yJ (O6_3.out))
    have n8_ := yA (yD (O6_4.out))
    have n9_ := yA (yT (BX_b3.out))
    have n10_ := yA (yJ (O8_3.out))
    have n11_ := yA (yD (O8_4.out))
    have n12_ := yA (yT (BX_b4.out))
    have n13_ := yA (show top8 ≤ w13_.drew.heap.size from TOP.out)
    clear HB BX_b1 BX_b2 O4_3 O4_4 O5_3 O5_4 O6_3 O6_4 BX_b3 O8_3 O8_4 BX_b4 TOP
    have HB := n0_
    have BX_b1 := n1_
    have BX_b2 := n2_
    have O4_3 := n3_
    have O4_4 := n4_
    have O5_3 := n5_
    have O5_4 := n6_
    have O6_3 := n7_
    have O6_4 := n8_
    have BX_b3 := n9_
    have O8_3 := n10_
    have O8_4 := n11_
    have BX_b4 := n12_
    have TOP := n13_
    clear n0_ n1_ n2_ n3_ n4_ n5_ n6_ n7_ n8_ n9_ n10_ n11_ n12_ n13_
    refine start_ (n := 5) (S := fun w' => w'.cell? ⟨gb1, 0, none⟩ = some (.int .i64 a0_0) ∧ w'.cell? ⟨gb1, 1, none⟩ = some (.int .i64 a0_1) ∧ w'.cell? ⟨gb1, 2, none⟩ = some (.slice A0_2 l0_2.length c0_2) ∧ w'.cell? ⟨gb1, 3, none⟩ = some (.slice A0_3 l0_3.length c0_3) ∧ w'.cell? ⟨gb2, 0, none⟩ = some (.int .i64 a1_0) ∧ w'.cell? ⟨gb2, 1, none⟩ = some (.int .i64 a1_1) ∧ w'.cell? ⟨gb2, 2, none⟩ = some (.slice A1_2 l1_2.length c1_2) ∧ w'.cell? ⟨gb2, 3, none⟩ = some (.slice A1_3 l1_3.length c1_3) ∧ w'.cell? ⟨gb3, 0, none⟩ = some (.int .i64 c3_1) ∧ w'.cell? ⟨gb3, 1, none⟩ = some (.int .i64 c3_2) ∧ w'.cell? ⟨gb3, 2, none⟩ = some (.slice AO6_3 c3_3.length cO6_3) ∧ w'.cell? ⟨gb3, 3, none⟩ = some (.slice AO6_4 c3_4.length cO6_4) ∧ w'.cell? ⟨gb4, 0, none⟩ = some (.int .i64 c4_1) ∧ w'.cell? ⟨gb4, 1, none⟩ = some (.int .i64 c4_2) ∧ w'.cell? ⟨gb4, 2, none⟩ = some (.slice AO8_3 c4_3.length cO8_3) ∧ w'.cell? ⟨gb4, 3, none⟩ = some (.slice AO8_4 c4_4.length cO8_4)) (ds := []) #[false, false, false, false, false] (by kernel_rfl) rfl rfl ⟨(yV BX_b1.out 0).trans rfl, (yV BX_b1.out 1).trans rfl, (yV BX_b1.out 2).trans rfl, (yV BX_b1.out 3).trans rfl, (yV BX_b2.out 0).trans rfl, (yV BX_b2.out 1).trans rfl, (yV BX_b2.out 2).trans rfl, (yV BX_b2.out 3).trans rfl, (yV BX_b3.out 0).trans rfl, (yV BX_b3.out 1).trans rfl, (yV BX_b3.out 2).trans rfl, (yV BX_b3.out 3).trans rfl, (yV BX_b4.out 0).trans rfl, (yV BX_b4.out 1).trans rfl, (yV BX_b4.out 2).trans rfl, (yV BX_b4.out 3).trans rfl⟩ (fun hHeld => ?_)
    generalize w13_.drew = w14_ at HB BX_b1 BX_b2 O4_3 O4_4 O5_3 O5_4 O6_3 O6_4 BX_b3 O8_3 O8_4 BX_b4 TOP hHeld ⊢
    refine take_ (i := 0) (N := some 35) (v := ?_) (a' := ?_) #[true, false, false, false, false] rfl rfl (by kernel_rfl) (fun _ _ _ h => h) (Or.inl ⟨by rfl, ?_⟩) hHeld ?_ ?_
    rotate_left
    · rintro w' ⟨s0_, s1_, s2_, s3_, s4_, s5_, s6_, s7_, s8_, s9_, s10_, s11_, s12_, s13_, s14_, s15_⟩
      go_simp
      with_reducible rfl
    rotate_left
    · simp only [Act.put, zA, zB, zC, i64_w, i32_w]
      rfl
    refine take_ (i := 1) (N := some 36) (v := ?_) (a' := ?_) #[true, true, false, false, false] rfl rfl (by kernel_rfl) (fun _ _ _ h => h) (Or.inl ⟨by rfl, ?_⟩) hHeld ?_ ?_
    rotate_left
    · rintro w' ⟨s0_, s1_, s2_, s3_, s4_, s5_, s6_, s7_, s8_, s9_, s10_, s11_, s12_, s13_, s14_, s15_⟩
      go_simp
      with_reducible rfl
    rotate_left
    · simp only [Act.put, zA, zB, zC, i64_w, i32_w]
      rfl
    refine one_ (i := 2) (N := some 37) #[true, true, true, false, false] rfl rfl (by kernel_rfl) (by decide) (fun K hK => ?_)
    refine goes_ Try.func21 (by kernel_rfl) rfl #[.agg #[.int .i64 a0_0, .int .i64 a0_1, .slice A0_2 l0_2.length c0_2, .slice A0_3 l0_3.length c0_3]] (by rfl) rfl rfl (by (try simp only [zI, zJ, zK]); first | done | rfl | (simp only [zL, zM]; rfl)) ?_
    with_reducible refine (laws_toRelation.calls k a0_0 a0_1 _ _ l0_2 _ _ l0_3 c3_1 c3_2 c3_3 c3_4 _ ?side1 ?side2 ?side3 ?side4 AQ3.out).mono ?_
    (case side1 => exact yM HR0_2.out (mB HB.out))
    (case side2 => exact HC0_2.out)
    (case side3 => exact yM HR0_3.out (mB HB.out))
    (case side4 => exact HC0_3.out)
    rintro e w15_ ⟨u0_, u1_, rfl, h0_, h1_, hb⟩
    refine ⟨_, rfl, ?_⟩
    have iO10_3 := S_iv h0_ (yX (mB HB.out)) (mvT TOP.out)
    have iO10_4 := R_iv h1_ (yX (mB HB.out)) (mvT TOP.out)
    have LE_top9 := yA (Nat.le_trans (mvT TOP.out) hb.size)
    obtain ⟨top9, et_⟩ : ∃ n, n = w15_.heap.size := ⟨_, rfl⟩
    rw [← et_] at iO10_3 iO10_4 LE_top9
    clear TOP
    have TOP := yA (show top9 ≤ w15_.heap.size from Nat.le_of_eq et_)
    have n0_ := yA (zD (mB HB.out) hb)
    have n1_ := yA (yU (mK BX_b1.out) hb)
    have n2_ := yA (yU (mK BX_b2.out) hb)
    have n3_ := yA (yL (mS O4_3.out) hb)
    have n4_ := yA (yK (mR O4_4.out) hb)
    have n5_ := yA (yL (mS O5_3.out) hb)
    have n6_ := yA (yK (mR O5_4.out) hb)
    have n7_ := yA (yL (mS O6_3.out) hb)
    have n8_ := yA (yK (mR O6_4.out) hb)
    have n9_ := yA (yU (mK BX_b3.out) hb)
    have n10_ := yA (yL (mS O8_3.out) hb)
    have n11_ := yA (yK (mR O8_4.out) hb)
    have n12_ := yA (yU (mK BX_b4.out) hb)
    clear HB BX_b1 BX_b2 O4_3 O4_4 O5_3 O5_4 O6_3 O6_4 BX_b3 O8_3 O8_4 BX_b4
    have HB := n0_
    have BX_b1 := n1_
    have BX_b2 := n2_
    have O4_3 := n3_
    have O4_4 := n4_
    have O5_3 := n5_
    have O5_4 := n6_
    have O6_3 := n7_
    have O6_4 := n8_
    have BX_b3 := n9_
    have O8_3 := n10_
    have O8_4 := n11_
    have BX_b4 := n12_
    clear n0_ n1_ n2_ n3_ n4_ n5_ n6_ n7_ n8_ n9_ n10_ n11_ n12_
    have O10_3 := yA iO10_3
    have O10_4 := yA iO10_4
    clear et_ hb h0_ iO10_3 h1_ iO10_4
    obtain ⟨AO10_3, cO10_3, eO10_3⟩ := Kd.S_slice O10_3.out
    subst eO10_3
    obtain ⟨AO10_4, cO10_4, eO10_4⟩ := Kd.R_slice O10_4.out
    subst eO10_4
    refine hK.out _ _ ⟨(yV BX_b1.out 0).trans rfl, (yV BX_b1.out 1).trans rfl, (yV BX_b1.out 2).trans rfl, (yV BX_b1.out 3).trans rfl, (yV BX_b2.out 0).trans rfl, (yV BX_b2.out 1).trans rfl, (yV BX_b2.out 2).trans rfl, (yV BX_b2.out 3).trans rfl, (yV BX_b3.out 0).trans rfl, (yV BX_b3.out 1).trans rfl, (yV BX_b3.out 2).trans rfl, (yV BX_b3.out 3).trans rfl, (yV BX_b4.out 0).trans rfl, (yV BX_b4.out 1).trans rfl, (yV BX_b4.out 2).trans rfl, (yV BX_b4.out 3).trans rfl⟩ (fun hHeld => ?_)
    clear hK K
    refine norm_ (a' := ?_) ?_ ?_
    rotate_left
    · show Act.put _ (some 37) _ = _
      simp only [Act.put, zA, zB, zC, i64_w, i32_w]
      rfl
    refine one_ (i := 3) (N := some 38) #[true, true, true, true, false] rfl rfl (by kernel_rfl) (by decide) (fun K hK => ?_)
    refine goes_ Try.func14 (by kernel_rfl) rfl #[.agg #[.int .i64 c3_1, .int .i64 c3_2, .slice AO6_3 c3_3.length cO6_3, .slice AO6_4 c3_4.length cO6_4], .agg #[.int .i64 c3_1, .int .i64 c3_2, .slice AO10_3 c3_3.length cO10_3, .slice AO10_4 c3_4.length cO10_4]] (by rfl) rfl rfl (by (try simp only [zI, zJ, zK]); first | done | rfl | (simp only [zL, zM]; rfl)) ?_
    with_reducible refine (laws_eqRelation.calls k c3_1 c3_2 _ _ c3_3 _ _ c3_4 c3_1 c3_2 _ _ c3_3 _ _ c3_4 true _ ?side1 ?side2 ?side3 ?side4 ?side5 ?side6 ?side7 ?side8 AQ7.out).mono ?_
    (case side1 => exact mC ((Kd.S_reads' O6_3.out).2.2))
    (case side2 => exact (Kd.S_reads' O6_3.out).2.1)
    (case side3 => exact mC ((zN O6_4.out).2.2))
    (case side4 => exact (zN O6_4.out).2.1)
    (case side5 => exact mC ((Kd.S_reads' O10_3.out).2.2))
    (case side6 => exact (Kd.S_reads' O10_3.out).2.1)
    (case side7 => exact mC ((zN O10_4.out).2.2))
    (case side8 => exact (zN O10_4.out).2.1)
    rintro e w16_ ⟨rfl, hb⟩
    refine ⟨_, rfl, ?_⟩
    have n9_ := yA (Nat.le_trans (mvT TOP.out) hb.size)
    clear TOP
    have TOP := n9_
    clear n9_
    have n0_ := yA (zD (mB HB.out) hb)
    have n1_ := yA (yU (mK BX_b1.out) hb)
    have n2_ := yA (yU (mK BX_b2.out) hb)
    have n3_ := yA (yL (mS O4_3.out) hb)
    have n4_ := yA (yK (mR O4_4.out) hb)
    have n5_ := yA (yL (mS O5_3.out) hb)
    have n6_ := yA (yK (mR O5_4.out) hb)
    have n7_ := yA (yL (mS O6_3.out) hb)
    have n8_ := yA (yK (mR O6_4.out) hb)
    have n9_ := yA (yU (mK BX_b3.out) hb)
    have n10_ := yA (yL (mS O8_3.out) hb)
    have n11_ := yA (yK (mR O8_4.out) hb)
    have n12_ := yA (yU (mK BX_b4.out) hb)
    have n13_ := yA (yL (mS O10_3.out) hb)
    have n14_ := yA (yK (mR O10_4.out) hb)
    clear HB BX_b1 BX_b2 O4_3 O4_4 O5_3 O5_4 O6_3 O6_4 BX_b3 O8_3 O8_4 BX_b4 O10_3 O10_4
    have HB := n0_
    have BX_b1 := n1_
    have BX_b2 := n2_
    have O4_3 := n3_
    have O4_4 := n4_
    have O5_3 := n5_
    have O5_4 := n6_
    have O6_3 := n7_
    have O6_4 := n8_
    have BX_b3 := n9_
    have O8_3 := n10_
    have O8_4 := n11_
    have BX_b4 := n12_
    have O10_3 := n13_
    have O10_4 := n14_
    clear n0_ n1_ n2_ n3_ n4_ n5_ n6_ n7_ n8_ n9_ n10_ n11_ n12_ n13_ n14_
    clear hb
    refine hK.out _ _ ⟨(yV BX_b1.out 0).trans rfl, (yV BX_b1.out 1).trans rfl, (yV BX_b1.out 2).trans rfl, (yV BX_b1.out 3).trans rfl, (yV BX_b2.out 0).trans rfl, (yV BX_b2.out 1).trans rfl, (yV BX_b2.out 2).trans rfl, (yV BX_b2.out 3).trans rfl, (yV BX_b3.out 0).trans rfl, (yV BX_b3.out 1).trans rfl, (yV BX_b3.out 2).trans rfl, (yV BX_b3.out 3).trans rfl, (yV BX_b4.out 0).trans rfl, (yV BX_b4.out 1).trans rfl, (yV BX_b4.out 2).trans rfl, (yV BX_b4.out 3).trans rfl⟩ (fun hHeld => ?_)
    clear hK K
    refine norm_ (a' := ?_) ?_ ?_
    rotate_left
    · show Act.put _ (some 38) _ = _
      simp only [Act.put, zA, zB, zC, i64_w, i32_w]
      rfl
    refine pure_ (i := 4) (N := some 39) (v := ?_) (a' := ?_) #[true, true, true, true, true] rfl rfl (by kernel_rfl) (fun _ _ _ h => h) (Or.inl ⟨by rfl, ?_⟩) ?_ ?_
    rotate_left
    · intro w'
      go_simp
      with_reducible rfl
    rotate_left
    · simp only [Act.put, zA, zB, zC, i64_w, i32_w]
      rfl
    refine done_ (by kernel_rfl) ?_
    have hcz_b1_w16__0 : w16_.cell? ⟨gb1, 0, none⟩ = some (.int .i64 a0_0) := (yV BX_b1.out 0).trans rfl
    have hcz_b1_w16__1 : w16_.cell? ⟨gb1, 1, none⟩ = some (.int .i64 a0_1) := (yV BX_b1.out 1).trans rfl
    have hcz_b1_w16__2 : w16_.cell? ⟨gb1, 2, none⟩ = some (.slice A0_2 l0_2.length c0_2) := (yV BX_b1.out 2).trans rfl
    have hcz_b1_w16__3 : w16_.cell? ⟨gb1, 3, none⟩ = some (.slice A0_3 l0_3.length c0_3) := (yV BX_b1.out 3).trans rfl
    have hcz_b2_w16__0 : w16_.cell? ⟨gb2, 0, none⟩ = some (.int .i64 a1_0) := (yV BX_b2.out 0).trans rfl
    have hcz_b2_w16__1 : w16_.cell? ⟨gb2, 1, none⟩ = some (.int .i64 a1_1) := (yV BX_b2.out 1).trans rfl
    have hcz_b2_w16__2 : w16_.cell? ⟨gb2, 2, none⟩ = some (.slice A1_2 l1_2.length c1_2) := (yV BX_b2.out 2).trans rfl
    have hcz_b2_w16__3 : w16_.cell? ⟨gb2, 3, none⟩ = some (.slice A1_3 l1_3.length c1_3) := (yV BX_b2.out 3).trans rfl
    have hcz_b3_w16__0 : w16_.cell? ⟨gb3, 0, none⟩ = some (.int .i64 c3_1) := (yV BX_b3.out 0).trans rfl
    have hcz_b3_w16__1 : w16_.cell? ⟨gb3, 1, none⟩ = some (.int .i64 c3_2) := (yV BX_b3.out 1).trans rfl
    have hcz_b3_w16__2 : w16_.cell? ⟨gb3, 2, none⟩ = some (.slice AO6_3 c3_3.length cO6_3) := (yV BX_b3.out 2).trans rfl
    have hcz_b3_w16__3 : w16_.cell? ⟨gb3, 3, none⟩ = some (.slice AO6_4 c3_4.length cO6_4) := (yV BX_b3.out 3).trans rfl
    have hcz_b4_w16__0 : w16_.cell? ⟨gb4, 0, none⟩ = some (.int .i64 c4_1) := (yV BX_b4.out 0).trans rfl
    have hcz_b4_w16__1 : w16_.cell? ⟨gb4, 1, none⟩ = some (.int .i64 c4_2) := (yV BX_b4.out 1).trans rfl
    have hcz_b4_w16__2 : w16_.cell? ⟨gb4, 2, none⟩ = some (.slice AO8_3 c4_3.length cO8_3) := (yV BX_b4.out 2).trans rfl
    have hcz_b4_w16__3 : w16_.cell? ⟨gb4, 3, none⟩ = some (.slice AO8_4 c4_4.length cO8_4) := (yV BX_b4.out 3).trans rfl
    have hfz_b1_w16__0 := yW BX_b1.out 0
    have hfz_b1_w16__1 := yW BX_b1.out 1
    have hfz_b1_w16__2 := yW BX_b1.out 2
    have hfz_b1_w16__3 := yW BX_b1.out 3
    have hfz_b2_w16__0 := yW BX_b2.out 0
    have hfz_b2_w16__1 := yW BX_b2.out 1
    have hfz_b2_w16__2 := yW BX_b2.out 2
    have hfz_b2_w16__3 := yW BX_b2.out 3
    have hfz_b3_w16__0 := yW BX_b3.out 0
    have hfz_b3_w16__1 := yW BX_b3.out 1
    have hfz_b3_w16__2 := yW BX_b3.out 2
    have hfz_b3_w16__3 := yW BX_b3.out 3
    have hfz_b4_w16__0 := yW BX_b4.out 0
    have hfz_b4_w16__1 := yW BX_b4.out 1
    have hfz_b4_w16__2 := yW BX_b4.out 2
    have hfz_b4_w16__3 := yW BX_b4.out 3
    try go_wp2
    have n0_ := yA (yP (HB.out))
    have n1_ := yA (yT (BX_b1.out))
    have n2_ := yA (yT (BX_b2.out))
    have n3_ := yA (yJ (O4_3.out))
    have n4_ := yA (yD (O4_4.out))
    have n5_ := yA (yJ (O5_3.out))
    have n6_ := yA (yD (O5_4.out))
    have n7_ := yA (yJ (O6_3.out))
    have n8_ := yA (yD (O6_4.out))
    have n9_ := yA (yT (BX_b3.out))
    have n10_ := yA (yJ (O8_3.out))
    have n11_ := yA (yD (O8_4.out))
    have n12_ := yA (yT (BX_b4.out))
    have n13_ := yA (yJ (O10_3.out))
    have n14_ := yA (yD (O10_4.out))
    have n15_ := yA (show top9 ≤ w16_.drew.heap.size from TOP.out)
    clear HB BX_b1 BX_b2 O4_3 O4_4 O5_3 O5_4 O6_3 O6_4 BX_b3 O8_3 O8_4 BX_b4 O10_3 O10_4 TOP
    have HB := n0_
    have BX_b1 := n1_
    have BX_b2 := n2_
    have O4_3 := n3_
    have O4_4 := n4_
    have O5_3 := n5_
    have O5_4 := n6_
    have O6_3 := n7_
    have O6_4 := n8_
    have BX_b3 := n9_
    have O8_3 := n10_
    have O8_4 := n11_
    have BX_b4 := n12_
    have O10_3 := n13_
    have O10_4 := n14_
    have TOP := n15_
    clear n0_ n1_ n2_ n3_ n4_ n5_ n6_ n7_ n8_ n9_ n10_ n11_ n12_ n13_ n14_ n15_
    refine start_ (n := 5) (S := fun w' => w'.cell? ⟨gb1, 0, none⟩ = some (.int .i64 a0_0) ∧ w'.cell? ⟨gb1, 1, none⟩ = some (.int .i64 a0_1) ∧ w'.cell? ⟨gb1, 2, none⟩ = some (.slice A0_2 l0_2.length c0_2) ∧ w'.cell? ⟨gb1, 3, none⟩ = some (.slice A0_3 l0_3.length c0_3) ∧ w'.cell? ⟨gb2, 0, none⟩ = some (.int .i64 a1_0) ∧ w'.cell? ⟨gb2, 1, none⟩ = some (.int .i64 a1_1) ∧ w'.cell? ⟨gb2, 2, none⟩ = some (.slice A1_2 l1_2.length c1_2) ∧ w'.cell? ⟨gb2, 3, none⟩ = some (.slice A1_3 l1_3.length c1_3) ∧ w'.cell? ⟨gb3, 0, none⟩ = some (.int .i64 c3_1) ∧ w'.cell? ⟨gb3, 1, none⟩ = some (.int .i64 c3_2) ∧ w'.cell? ⟨gb3, 2, none⟩ = some (.slice AO6_3 c3_3.length cO6_3) ∧ w'.cell? ⟨gb3, 3, none⟩ = some (.slice AO6_4 c3_4.length cO6_4) ∧ w'.cell? ⟨gb4, 0, none⟩ = some (.int .i64 c4_1) ∧ w'.cell? ⟨gb4, 1, none⟩ = some (.int .i64 c4_2) ∧ w'.cell? ⟨gb4, 2, none⟩ = some (.slice AO8_3 c4_3.length cO8_3) ∧ w'.cell? ⟨gb4, 3, none⟩ = some (.slice AO8_4 c4_4.length cO8_4)) (ds := []) #[false, false, false, false, false] (by kernel_rfl) rfl rfl ⟨(yV BX_b1.out 0).trans rfl, (yV BX_b1.out 1).trans rfl, (yV BX_b1.out 2).trans rfl, (yV BX_b1.out 3).trans rfl, (yV BX_b2.out 0).trans rfl, (yV BX_b2.out 1).trans rfl, (yV BX_b2.out 2).trans rfl, (yV BX_b2.out 3).trans rfl, (yV BX_b3.out 0).trans rfl, (yV BX_b3.out 1).trans rfl, (yV BX_b3.out 2).trans rfl, (yV BX_b3.out 3).trans rfl, (yV BX_b4.out 0).trans rfl, (yV BX_b4.out 1).trans rfl, (yV BX_b4.out 2).trans rfl, (yV BX_b4.out 3).trans rfl⟩ (fun hHeld => ?_)
    generalize w16_.drew = w17_ at HB BX_b1 BX_b2 O4_3 O4_4 O5_3 O5_4 O6_3 O6_4 BX_b3 O8_3 O8_4 BX_b4 O10_3 O10_4 TOP hHeld ⊢
    refine take_ (i := 0) (N := some 40) (v := ?_) (a' := ?_) #[true, false, false, false, false] rfl rfl (by kernel_rfl) (fun _ _ _ h => h) (Or.inl ⟨by rfl, ?_⟩) hHeld ?_ ?_
    rotate_left
    · rintro w' ⟨s0_, s1_, s2_, s3_, s4_, s5_, s6_, s7_, s8_, s9_, s10_, s11_, s12_, s13_, s14_, s15_⟩
      go_simp
      with_reducible rfl
    rotate_left
    · simp only [Act.put, zA, zB, zC, i64_w, i32_w]
      rfl
    refine take_ (i := 1) (N := some 41) (v := ?_) (a' := ?_) #[true, true, false, false, false] rfl rfl (by kernel_rfl) (fun _ _ _ h => h) (Or.inl ⟨by rfl, ?_⟩) hHeld ?_ ?_
    rotate_left
    · rintro w' ⟨s0_, s1_, s2_, s3_, s4_, s5_, s6_, s7_, s8_, s9_, s10_, s11_, s12_, s13_, s14_, s15_⟩
      go_simp
      with_reducible rfl
    rotate_left
    · simp only [Act.put, zA, zB, zC, i64_w, i32_w]
      rfl
    refine one_ (i := 2) (N := some 42) #[true, true, true, false, false] rfl rfl (by kernel_rfl) (by decide) (fun K hK => ?_)
    refine goes_ Try.func21 (by kernel_rfl) rfl #[.agg #[.int .i64 a1_0, .int .i64 a1_1, .slice A1_2 l1_2.length c1_2, .slice A1_3 l1_3.length c1_3]] (by rfl) rfl rfl (by (try simp only [zI, zJ, zK]); first | done | rfl | (simp only [zL, zM]; rfl)) ?_
    with_reducible refine (laws_toRelation.calls k a1_0 a1_1 _ _ l1_2 _ _ l1_3 c4_1 c4_2 c4_3 c4_4 _ ?side1 ?side2 ?side3 ?side4 AQ4.out).mono ?_
    (case side1 => exact yM HR1_2.out (mB HB.out))
    (case side2 => exact HC1_2.out)
    (case side3 => exact yM HR1_3.out (mB HB.out))
    (case side4 => exact HC1_3.out)
    rintro e w18_ ⟨u0_, u1_, rfl, h0_, h1_, hb⟩
    refine ⟨_, rfl, ?_⟩
    have iO11_3 := S_iv h0_ (yX (mB HB.out)) (mvT TOP.out)
    have iO11_4 := R_iv h1_ (yX (mB HB.out)) (mvT TOP.out)
    have LE_top10 := yA (Nat.le_trans (mvT TOP.out) hb.size)
    obtain ⟨top10, et_⟩ : ∃ n, n = w18_.heap.size := ⟨_, rfl⟩
    rw [← et_] at iO11_3 iO11_4 LE_top10
    clear TOP
    have TOP := yA (show top10 ≤ w18_.heap.size from Nat.le_of_eq et_)
    have n0_ := yA (zD (mB HB.out) hb)
    have n1_ := yA (yU (mK BX_b1.out) hb)
    have n2_ := yA (yU (mK BX_b2.out) hb)
    have n3_ := yA (yL (mS O4_3.out) hb)
    have n4_ := yA (yK (mR O4_4.out) hb)
    have n5_ := yA (yL (mS O5_3.out) hb)
    have n6_ := yA (yK (mR O5_4.out) hb)
    have n7_ := yA (yL (mS O6_3.out) hb)
    have n8_ := yA (yK (mR O6_4.out) hb)
    have n9_ := yA (yU (mK BX_b3.out) hb)
    have n10_ := yA (yL (mS O8_3.out) hb)
    have n11_ := yA (yK (mR O8_4.out) hb)
    have n12_ := yA (yU (mK BX_b4.out) hb)
    have n13_ := yA (yL (mS O10_3.out) hb)
    have n14_ := yA (yK (mR O10_4.out) hb)
    clear HB BX_b1 BX_b2 O4_3 O4_4 O5_3 O5_4 O6_3 O6_4 BX_b3 O8_3 O8_4 BX_b4 O10_3 O10_4
    have HB := n0_
    have BX_b1 := n1_
    have BX_b2 := n2_
    have O4_3 := n3_
    have O4_4 := n4_
    have O5_3 := n5_
    have O5_4 := n6_
    have O6_3 := n7_
    have O6_4 := n8_
    have BX_b3 := n9_
    have O8_3 := n10_
    have O8_4 := n11_
    have BX_b4 := n12_
    have O10_3 := n13_
    have O10_4 := n14_
    clear n0_ n1_ n2_ n3_ n4_ n5_ n6_ n7_ n8_ n9_ n10_ n11_ n12_ n13_ n14_
    have O11_3 := yA iO11_3
    have O11_4 := yA iO11_4
    clear et_ hb h0_ iO11_3 h1_ iO11_4
    obtain ⟨AO11_3, cO11_3, eO11_3⟩ := Kd.S_slice O11_3.out
    subst eO11_3
    obtain ⟨AO11_4, cO11_4, eO11_4⟩ := Kd.R_slice O11_4.out
    subst eO11_4
    refine hK.out _ _ ⟨(yV BX_b1.out 0).trans rfl, (yV BX_b1.out 1).trans rfl, (yV BX_b1.out 2).trans rfl, (yV BX_b1.out 3).trans rfl, (yV BX_b2.out 0).trans rfl, (yV BX_b2.out 1).trans rfl, (yV BX_b2.out 2).trans rfl, (yV BX_b2.out 3).trans rfl, (yV BX_b3.out 0).trans rfl, (yV BX_b3.out 1).trans rfl, (yV BX_b3.out 2).trans rfl, (yV BX_b3.out 3).trans rfl, (yV BX_b4.out 0).trans rfl, (yV BX_b4.out 1).trans rfl, (yV BX_b4.out 2).trans rfl, (yV BX_b4.out 3).trans rfl⟩ (fun hHeld => ?_)
    clear hK K
    refine norm_ (a' := ?_) ?_ ?_
    rotate_left
    · show Act.put _ (some 42) _ = _
      simp only [Act.put, zA, zB, zC, i64_w, i32_w]
      rfl
    refine one_ (i := 3) (N := some 43) #[true, true, true, true, false] rfl rfl (by kernel_rfl) (by decide) (fun K hK => ?_)
    refine goes_ Try.func14 (by kernel_rfl) rfl #[.agg #[.int .i64 c4_1, .int .i64 c4_2, .slice AO8_3 c4_3.length cO8_3, .slice AO8_4 c4_4.length cO8_4], .agg #[.int .i64 c4_1, .int .i64 c4_2, .slice AO11_3 c4_3.length cO11_3, .slice AO11_4 c4_4.length cO11_4]] (by rfl) rfl rfl (by (try simp only [zI, zJ, zK]); first | done | rfl | (simp only [zL, zM]; rfl)) ?_
    with_reducible refine (laws_eqRelation.calls k c4_1 c4_2 _ _ c4_3 _ _ c4_4 c4_1 c4_2 _ _ c4_3 _ _ c4_4 true _ ?side1 ?side2 ?side3 ?side4 ?side5 ?side6 ?side7 ?side8 AQ8.out).mono ?_
    (case side1 => exact mC ((Kd.S_reads' O8_3.out).2.2))
    (case side2 => exact (Kd.S_reads' O8_3.out).2.1)
    (case side3 => exact mC ((zN O8_4.out).2.2))
    (case side4 => exact (zN O8_4.out).2.1)
    (case side5 => exact mC ((Kd.S_reads' O11_3.out).2.2))
    (case side6 => exact (Kd.S_reads' O11_3.out).2.1)
    (case side7 => exact mC ((zN O11_4.out).2.2))
    (case side8 => exact (zN O11_4.out).2.1)
    rintro e w19_ ⟨rfl, hb⟩
    refine ⟨_, rfl, ?_⟩
    have n9_ := yA (Nat.le_trans (mvT TOP.out) hb.size)
    clear TOP
    have TOP := n9_
    clear n9_
    have n0_ := yA (zD (mB HB.out) hb)
    have n1_ := yA (yU (mK BX_b1.out) hb)
    have n2_ := yA (yU (mK BX_b2.out) hb)
    have n3_ := yA (yL (mS O4_3.out) hb)
    have n4_ := yA (yK (mR O4_4.out) hb)
    have n5_ := yA (yL (mS O5_3.out) hb)
    have n6_ := yA (yK (mR O5_4.out) hb)
    have n7_ := yA (yL (mS O6_3.out) hb)
    have n8_ := yA (yK (mR O6_4.out) hb)
    have n9_ := yA (yU (mK BX_b3.out) hb)
    have n10_ := yA (yL (mS O8_3.out) hb)
    have n11_ := yA (yK (mR O8_4.out) hb)
    have n12_ := yA (yU (mK BX_b4.out) hb)
    have n13_ := yA (yL (mS O10_3.out) hb)
    have n14_ := yA (yK (mR O10_4.out) hb)
    have n15_ := yA (yL (mS O11_3.out) hb)
    have n16_ := yA (yK (mR O11_4.out) hb)
    clear HB BX_b1 BX_b2 O4_3 O4_4 O5_3 O5_4 O6_3 O6_4 BX_b3 O8_3 O8_4 BX_b4 O10_3 O10_4 O11_3 O11_4
    have HB := n0_
    have BX_b1 := n1_
    have BX_b2 := n2_
    have O4_3 := n3_
    have O4_4 := n4_
    have O5_3 := n5_
    have O5_4 := n6_
    have O6_3 := n7_
    have O6_4 := n8_
    have BX_b3 := n9_
    have O8_3 := n10_
    have O8_4 := n11_
    have BX_b4 := n12_
    have O10_3 := n13_
    have O10_4 := n14_
    have O11_3 := n15_
    have O11_4 := n16_
    clear n0_ n1_ n2_ n3_ n4_ n5_ n6_ n7_ n8_ n9_ n10_ n11_ n12_ n13_ n14_ n15_ n16_
    clear hb
    refine hK.out _ _ ⟨(yV BX_b1.out 0).trans rfl, (yV BX_b1.out 1).trans rfl, (yV BX_b1.out 2).trans rfl, (yV BX_b1.out 3).trans rfl, (yV BX_b2.out 0).trans rfl, (yV BX_b2.out 1).trans rfl, (yV BX_b2.out 2).trans rfl, (yV BX_b2.out 3).trans rfl, (yV BX_b3.out 0).trans rfl, (yV BX_b3.out 1).trans rfl, (yV BX_b3.out 2).trans rfl, (yV BX_b3.out 3).trans rfl, (yV BX_b4.out 0).trans rfl, (yV BX_b4.out 1).trans rfl, (yV BX_b4.out 2).trans rfl, (yV BX_b4.out 3).trans rfl⟩ (fun hHeld => ?_)
    clear hK K
    refine norm_ (a' := ?_) ?_ ?_
    rotate_left
    · show Act.put _ (some 43) _ = _
      simp only [Act.put, zA, zB, zC, i64_w, i32_w]
      rfl
    refine pure_ (i := 4) (N := some 44) (v := ?_) (a' := ?_) #[true, true, true, true, true] rfl rfl (by kernel_rfl) (fun _ _ _ h => h) (Or.inl ⟨by rfl, ?_⟩) ?_ ?_
    rotate_left
    · intro w'
      go_simp
      with_reducible rfl
    rotate_left
    · simp only [Act.put, zA, zB, zC, i64_w, i32_w]
      rfl
    refine done_ (by kernel_rfl) ?_
    have hcz_b1_w19__0 : w19_.cell? ⟨gb1, 0, none⟩ = some (.int .i64 a0_0) := (yV BX_b1.out 0).trans rfl
    have hcz_b1_w19__1 : w19_.cell? ⟨gb1, 1, none⟩ = some (.int .i64 a0_1) := (yV BX_b1.out 1).trans rfl
    have hcz_b1_w19__2 : w19_.cell? ⟨gb1, 2, none⟩ = some (.slice A0_2 l0_2.length c0_2) := (yV BX_b1.out 2).trans rfl
    have hcz_b1_w19__3 : w19_.cell? ⟨gb1, 3, none⟩ = some (.slice A0_3 l0_3.length c0_3) := (yV BX_b1.out 3).trans rfl
    have hcz_b2_w19__0 : w19_.cell? ⟨gb2, 0, none⟩ = some (.int .i64 a1_0) := (yV BX_b2.out 0).trans rfl
    have hcz_b2_w19__1 : w19_.cell? ⟨gb2, 1, none⟩ = some (.int .i64 a1_1) := (yV BX_b2.out 1).trans rfl
    have hcz_b2_w19__2 : w19_.cell? ⟨gb2, 2, none⟩ = some (.slice A1_2 l1_2.length c1_2) := (yV BX_b2.out 2).trans rfl
    have hcz_b2_w19__3 : w19_.cell? ⟨gb2, 3, none⟩ = some (.slice A1_3 l1_3.length c1_3) := (yV BX_b2.out 3).trans rfl
    have hcz_b3_w19__0 : w19_.cell? ⟨gb3, 0, none⟩ = some (.int .i64 c3_1) := (yV BX_b3.out 0).trans rfl
    have hcz_b3_w19__1 : w19_.cell? ⟨gb3, 1, none⟩ = some (.int .i64 c3_2) := (yV BX_b3.out 1).trans rfl
    have hcz_b3_w19__2 : w19_.cell? ⟨gb3, 2, none⟩ = some (.slice AO6_3 c3_3.length cO6_3) := (yV BX_b3.out 2).trans rfl
    have hcz_b3_w19__3 : w19_.cell? ⟨gb3, 3, none⟩ = some (.slice AO6_4 c3_4.length cO6_4) := (yV BX_b3.out 3).trans rfl
    have hcz_b4_w19__0 : w19_.cell? ⟨gb4, 0, none⟩ = some (.int .i64 c4_1) := (yV BX_b4.out 0).trans rfl
    have hcz_b4_w19__1 : w19_.cell? ⟨gb4, 1, none⟩ = some (.int .i64 c4_2) := (yV BX_b4.out 1).trans rfl
    have hcz_b4_w19__2 : w19_.cell? ⟨gb4, 2, none⟩ = some (.slice AO8_3 c4_3.length cO8_3) := (yV BX_b4.out 2).trans rfl
    have hcz_b4_w19__3 : w19_.cell? ⟨gb4, 3, none⟩ = some (.slice AO8_4 c4_4.length cO8_4) := (yV BX_b4.out 3).trans rfl
    have hfz_b1_w19__0 := yW BX_b1.out 0
    have hfz_b1_w19__1 := yW BX_b1.out 1
    have hfz_b1_w19__2 := yW BX_b1.out 2
    have hfz_b1_w19__3 := yW BX_b1.out 3
    have hfz_b2_w19__0 := yW BX_b2.out 0
    have hfz_b2_w19__1 := yW BX_b2.out 1
    have hfz_b2_w19__2 := yW BX_b2.out 2
    have hfz_b2_w19__3 := yW BX_b2.out 3
    have hfz_b3_w19__0 := yW BX_b3.out 0
    have hfz_b3_w19__1 := yW BX_b3.out 1
    have hfz_b3_w19__2 := yW BX_b3.out 2
    have hfz_b3_w19__3 := yW BX_b3.out 3
    have hfz_b4_w19__0 := yW BX_b4.out 0
    have hfz_b4_w19__1 := yW BX_b4.out 1
    have hfz_b4_w19__2 := yW BX_b4.out 2
    have hfz_b4_w19__3 := yW BX_b4.out 3
    try go_wp2
    go_ret
    exact ⟨rfl, mB HB.out⟩
  · rw [if_neg hc] at h
    cases h

end Go.Proofs.Ytmkeicahnnlalaa.Q
