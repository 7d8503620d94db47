-- a walk given by hand (this session's own work)
import Derived.Test.YtgopcliohchkmaaQ0
import Derived.Test.YtgopcliohchkmaaQ10
import Derived.Test.YtgopcliohchkmaaQ11
import Derived.Test.YtgopcliohchkmaaQ15
import Derived.Test.YtgopcliohchkmaaQ201
import Derived.Test.YtgopcliohchkmaaQ28
import Derived.Test.YtgopcliohchkmaaQ40
import Derived.Test.YtgopcliohchkmaaQ60
import Derived.Test.YtgopcliohchkmaaQ62
import Derived.Test.YtgopcliohchkmaaQ7
namespace Go.Proofs.Ytgopcliohchkmaa.Q
open Go.RowKit Go.Proofs.YtgopcliohchkmaaW.PrintWords Go.Proofs.YtgopcliohchkmaaW.PrintLast Go.Proofs.YtgopcliohchkmaaW.PrintMore
set_option linter.unusedVariables false
set_option linter.unusedSimpArgs false
/-! ### laws_FnExactLeastMember -/
def laws_FnExactLeastMember.f (k : Nat) (a0 a1 : Int) (l2 : List (List Int)) (l3 : List Bool) : Option Bool :=
  (laws_szRelation.f k a0 a1 l2 l3 1048576).bind fun z => if z < 0 then some true else
  (laws_toRelation.f k a0 a1 l2 l3).bind fun t => (spec_LeastMember.f k t.1 t.2.1 t.2.2.1 t.2.2.2).bind fun s => (impl_LeastMember.f k t.1 t.2.1 t.2.2.1 t.2.2.2).bind fun g =>
  (laws_eqIntS.f k g.1 s.1).bind fun e1 => (laws_eqRelation.f k t.1 t.2.1 t.2.2.1 t.2.2.2 t.1 t.2.1 t.2.2.1 t.2.2.2).bind fun e2 =>
  (laws_markRelation.f k t.2.2.1 t.2.2.2 1).bind fun m => (laws_markIntS.f k g.1 1).bind fun q => (laws_heldIntS.f k q.2 1).bind fun h =>
  if e1 = true ∧ g.2 = s.2 ∧ e2 = true ∧ ¬ m.1 < 0 ∧ ¬ h < 0 ∧ h = q.1 then some true else some false
set_option maxHeartbeats 4000000 in
set_option maxRecDepth 100000 in
theorem laws_FnExactLeastMember.calls (k : Nat) (a0_0 : Int) (a0_1 : Int) (A0_2 : Option Addr) (c0_2 : Nat) (l0_2 : List (List Int)) (A0_3 : Option Addr) (c0_3 : Nat) (l0_3 : List Bool) (r : Bool) (hr_ : r = true) (w : World) (hr0_2 : Kd.C (Kd.slice 3 (Kd.int .i64)) w A0_2 l0_2.length l0_2) (hc0_2 : l0_2.length ≤ c0_2) (hr0_3 : Kd.C Kd.bool w A0_3 l0_3.length l0_3) (hc0_3 : l0_3.length ≤ c0_3) (h : laws_FnExactLeastMember.f k a0_0 a0_1 l0_2 l0_3 = some r) :
  Calls Try.prog 8 #[.agg #[.int .i64 a0_0, .int .i64 a0_1, .slice A0_2 l0_2.length c0_2, .slice A0_3 l0_3.length c0_3]] w fun e w' => e = .returned (.bool r) ∧ Below w.heap.size w w' := by
  subst hr_
  have hu33 := Try.underlying33
  have hu25 := Try.underlying25
  have HR2 := yA hr0_2
  have HC2 := yA hc0_2
  have HR3 := yA hr0_3
  have HC3 := yA hc0_3
  clear hr0_2 hc0_2 hr0_3 hc0_3
  have HB := yA (Below.refl w.heap.size w)
  unfold laws_FnExactLeastMember.f at h
  obtain ⟨z, A10, h⟩ := Option.bind_eq_some_iff.1 h
  have A1 := yA A10
  clear A10
  by_cases hz : z < 0
  · have hzb := decide_eq_true hz
    clear h
    go_enter Try.func8, Try.ntmps8
    go_wp2_with ((with_reducible refine gate_dst (N := 1) rfl ?_); refine box_event ?hg (N := 1) ?hd (cs := #[.int .i64 a0_0, .int .i64 a0_1, .slice A0_2 l0_2.length c0_2, .slice A0_3 l0_3.length c0_3]) (t := 33) ?hr ?_; (case hd => rfl); (case hg => rfl); (case hr => first | (go_simp; done) | (go_simp; rfl)); intro gb1 hg w1_ hbox hb; have B1 := yA hbox; have GE1 := yA ((by rw [hg]; exact yX (mB HB.out) : w.heap.size ≤ gb1)); have hlt1 := zX hbox; have n0_ := yA (zD (mB HB.out) hb); clear HB; have HB := n0_; clear n0_ hb hg; obtain ⟨top0, et0⟩ : ∃ n, n = w1_.heap.size := ⟨_, rfl⟩; rw [← et0] at hlt1; have LB1 := yA hlt1; have TOP := yA (show top0 ≤ w1_.heap.size from Nat.le_of_eq et0); clear hlt1 et0 hbox; have hcz_gb1_w1__0 : w1_.cell? ⟨gb1, 0, none⟩ = some (.int .i64 a0_0) := (yV B1.out 0).trans rfl; have hcz_gb1_w1__1 : w1_.cell? ⟨gb1, 1, none⟩ = some (.int .i64 a0_1) := (yV B1.out 1).trans rfl; have hcz_gb1_w1__2 : w1_.cell? ⟨gb1, 2, none⟩ = some (.slice A0_2 l0_2.length c0_2) := (yV B1.out 2).trans rfl; have hcz_gb1_w1__3 : w1_.cell? ⟨gb1, 3, none⟩ = some (.slice A0_3 l0_3.length c0_3) := (yV B1.out 3).trans rfl)
    go_wp2_with (go_at_call 22; (with_reducible refine (laws_szRelation.calls k a0_0 a0_1 _ _ l0_2 _ _ l0_3 1048576 z _ ?side1 ?side2 ?side3 ?side4 A1.out).mono ?_); (case side1 => exact yM HR2.out (mB HB.out)); (case side2 => exact HC2.out); (case side3 => exact yM HR3.out (mB HB.out)); (case side4 => exact HC3.out); rintro e w2_ ⟨rfl, hb⟩; have n9_ := yA (Nat.le_trans (mvT TOP.out) hb.size); clear TOP; have TOP := n9_; clear n9_; have n0_ := yA (zD (mB HB.out) hb); have n1_ := yA (yU (mK B1.out) hb); clear HB B1; have HB := n0_; have B1 := n1_; clear n0_ n1_; clear hb; have hcz_gb1_w2__0 : w2_.cell? ⟨gb1, 0, none⟩ = some (.int .i64 a0_0) := (yV B1.out 0).trans rfl; have hcz_gb1_w2__1 : w2_.cell? ⟨gb1, 1, none⟩ = some (.int .i64 a0_1) := (yV B1.out 1).trans rfl; have hcz_gb1_w2__2 : w2_.cell? ⟨gb1, 2, none⟩ = some (.slice A0_2 l0_2.length c0_2) := (yV B1.out 2).trans rfl; have hcz_gb1_w2__3 : w2_.cell? ⟨gb1, 3, none⟩ = some (.slice A0_3 l0_3.length c0_3) := (yV B1.out 3).trans rfl)
    go_ret
    exact ⟨rfl, mB HB.out⟩
  rw [if_neg hz] at h
  have hzb := decide_eq_false hz
  clear hz
  obtain ⟨⟨t1, t2, t3, t4⟩, A20, h⟩ := Option.bind_eq_some_iff.1 h
  obtain ⟨⟨s1, b2⟩, A30, h⟩ := Option.bind_eq_some_iff.1 h
  obtain ⟨⟨g1, b3⟩, A40, h⟩ := Option.bind_eq_some_iff.1 h
  obtain ⟨e1, A50, h⟩ := Option.bind_eq_some_iff.1 h
  obtain ⟨e2, A60, h⟩ := Option.bind_eq_some_iff.1 h
  obtain ⟨⟨m1, m2, m3⟩, A70, h⟩ := Option.bind_eq_some_iff.1 h
  obtain ⟨⟨q1, q2⟩, A80, h⟩ := Option.bind_eq_some_iff.1 h
  obtain ⟨hh, A90, h⟩ := Option.bind_eq_some_iff.1 h
  simp only at A20 A30 A40 A50 A60 A70 A80 A90 h
  by_cases hc : e1 = true ∧ b3 = b2 ∧ e2 = true ∧ ¬ m1 < 0 ∧ ¬ hh < 0 ∧ hh = q1
  · obtain ⟨rfl, rfl, rfl, hm, hq, rfl⟩ := hc
    clear h
    have hmb := decide_eq_false hm
    have hqb := decide_eq_false hq
    clear hm hq
    have A2 := yA A20
    have A3 := yA A30
    have A4 := yA A40
    have A5 := yA A50
    have A6 := yA A60
    have A7 := yA A70
    have A8 := yA A80
    have A9 := yA A90
    clear A20 A30 A40 A50 A60 A70 A80 A90
    go_enter Try.func8, Try.ntmps8
    go_wp2_with ((with_reducible refine gate_dst (N := 1) rfl ?_); refine box_event ?hg (N := 1) ?hd (cs := #[.int .i64 a0_0, .int .i64 a0_1, .slice A0_2 l0_2.length c0_2, .slice A0_3 l0_3.length c0_3]) (t := 33) ?hr ?_; (case hd => rfl); (case hg => rfl); (case hr => first | (go_simp; done) | (go_simp; rfl)); intro gb1 hg w1_ hbox hb; have B1 := yA hbox; have GE1 := yA ((by rw [hg]; exact yX (mB HB.out) : w.heap.size ≤ gb1)); have hlt1 := zX hbox; have n0_ := yA (zD (mB HB.out) hb); clear HB; have HB := n0_; clear n0_ hb hg; obtain ⟨top0, et0⟩ : ∃ n, n = w1_.heap.size := ⟨_, rfl⟩; rw [← et0] at hlt1; have LB1 := yA hlt1; have TOP := yA (show top0 ≤ w1_.heap.size from Nat.le_of_eq et0); clear hlt1 et0 hbox; have hcz_gb1_w1__0 : w1_.cell? ⟨gb1, 0, none⟩ = some (.int .i64 a0_0) := (yV B1.out 0).trans rfl; have hcz_gb1_w1__1 : w1_.cell? ⟨gb1, 1, none⟩ = some (.int .i64 a0_1) := (yV B1.out 1).trans rfl; have hcz_gb1_w1__2 : w1_.cell? ⟨gb1, 2, none⟩ = some (.slice A0_2 l0_2.length c0_2) := (yV B1.out 2).trans rfl; have hcz_gb1_w1__3 : w1_.cell? ⟨gb1, 3, none⟩ = some (.slice A0_3 l0_3.length c0_3) := (yV B1.out 3).trans rfl)
    go_wp2_with (go_at_call 22; (with_reducible refine (laws_szRelation.calls k a0_0 a0_1 _ _ l0_2 _ _ l0_3 1048576 z _ ?side1 ?side2 ?side3 ?side4 A1.out).mono ?_); (case side1 => exact yM HR2.out (mB HB.out)); (case side2 => exact HC2.out); (case side3 => exact yM HR3.out (mB HB.out)); (case side4 => exact HC3.out); rintro e w2_ ⟨rfl, hb⟩; have n9_ := yA (Nat.le_trans (mvT TOP.out) hb.size); clear TOP; have TOP := n9_; clear n9_; have n0_ := yA (zD (mB HB.out) hb); have n1_ := yA (yU (mK B1.out) hb); clear HB B1; have HB := n0_; have B1 := n1_; clear n0_ n1_; clear hb; have hcz_gb1_w2__0 : w2_.cell? ⟨gb1, 0, none⟩ = some (.int .i64 a0_0) := (yV B1.out 0).trans rfl; have hcz_gb1_w2__1 : w2_.cell? ⟨gb1, 1, none⟩ = some (.int .i64 a0_1) := (yV B1.out 1).trans rfl; have hcz_gb1_w2__2 : w2_.cell? ⟨gb1, 2, none⟩ = some (.slice A0_2 l0_2.length c0_2) := (yV B1.out 2).trans rfl; have hcz_gb1_w2__3 : w2_.cell? ⟨gb1, 3, none⟩ = some (.slice A0_3 l0_3.length c0_3) := (yV B1.out 3).trans rfl)
    go_wp2_with (go_at_call 24; (with_reducible refine (laws_toRelation.calls k a0_0 a0_1 _ _ l0_2 _ _ l0_3 t1 t2 t3 t4 _ ?side1 ?side2 ?side3 ?side4 A2.out).mono ?_); (case side1 => exact yM HR2.out (mB HB.out)); (case side2 => exact HC2.out); (case side3 => exact yM HR3.out (mB HB.out)); (case side4 => exact HC3.out); rintro e w3_ ⟨u_, v_, rfl, hs, hr, hb⟩; have hs_ := S_iv hs (yX (mB HB.out)) (mvT TOP.out); have hr_2 := R_iv hr (yX (mB HB.out)) (mvT TOP.out); have Ltop1 := yA (Nat.le_trans (mvT TOP.out) hb.size); obtain ⟨top1, et_⟩ : ∃ n, n = w3_.heap.size := ⟨_, rfl⟩; rw [← et_] at hs_ hr_2 Ltop1; clear TOP; have TOP := yA (show top1 ≤ w3_.heap.size from Nat.le_of_eq et_); have n0_ := yA (zD (mB HB.out) hb); have n1_ := yA (yU (mK B1.out) hb); clear HB B1; have HB := n0_; have B1 := n1_; clear n0_ n1_; have T2 := yA hs_; have T3 := yA hr_2; clear hs hr hs_ hr_2 hb et_; obtain ⟨AT2, cT2, eT2⟩ := Kd.S_slice T2.out; subst eT2; obtain ⟨AT3, cT3, eT3⟩ := Kd.R_slice T3.out; subst eT3; have hcz_gb1_w3__0 : w3_.cell? ⟨gb1, 0, none⟩ = some (.int .i64 a0_0) := (yV B1.out 0).trans rfl; have hcz_gb1_w3__1 : w3_.cell? ⟨gb1, 1, none⟩ = some (.int .i64 a0_1) := (yV B1.out 1).trans rfl; have hcz_gb1_w3__2 : w3_.cell? ⟨gb1, 2, none⟩ = some (.slice A0_2 l0_2.length c0_2) := (yV B1.out 2).trans rfl; have hcz_gb1_w3__3 : w3_.cell? ⟨gb1, 3, none⟩ = some (.slice A0_3 l0_3.length c0_3) := (yV B1.out 3).trans rfl)
    go_wp2_with (go_at_call 32; (with_reducible refine (spec_LeastMember.calls k t1 t2 _ _ t3 _ _ t4 s1 b3 _ ?side1 ?side2 ?side3 ?side4 A3.out).mono ?_); (case side1 => exact mC ((Kd.S_reads' T2.out).2.2)); (case side2 => exact (Kd.S_reads' T2.out).2.1); (case side3 => exact mC ((zN T3.out).2.2)); (case side4 => exact (zN T3.out).2.1); rintro e w4_ ⟨u_, rfl, hr, hb⟩; have hr_2 := R_iv hr (yX (mB HB.out)) (mvT TOP.out); have Ltop2 := yA (Nat.le_trans (mvT TOP.out) hb.size); obtain ⟨top2, et_⟩ : ∃ n, n = w4_.heap.size := ⟨_, rfl⟩; rw [← et_] at hr_2 Ltop2; clear TOP; have TOP := yA (show top2 ≤ w4_.heap.size from Nat.le_of_eq et_); have n0_ := yA (zD (mB HB.out) hb); have n1_ := yA (yU (mK B1.out) hb); clear HB B1 T2 T3; have HB := n0_; have B1 := n1_; clear n0_ n1_; have S0 := yA hr_2; clear hr hr_2 hb et_; obtain ⟨AS0, cS0, eS0⟩ := Kd.R_slice S0.out; subst eS0; have hcz_gb1_w4__0 : w4_.cell? ⟨gb1, 0, none⟩ = some (.int .i64 a0_0) := (yV B1.out 0).trans rfl; have hcz_gb1_w4__1 : w4_.cell? ⟨gb1, 1, none⟩ = some (.int .i64 a0_1) := (yV B1.out 1).trans rfl; have hcz_gb1_w4__2 : w4_.cell? ⟨gb1, 2, none⟩ = some (.slice A0_2 l0_2.length c0_2) := (yV B1.out 2).trans rfl; have hcz_gb1_w4__3 : w4_.cell? ⟨gb1, 3, none⟩ = some (.slice A0_3 l0_3.length c0_3) := (yV B1.out 3).trans rfl)
    go_wp2_with (first | (go_at_call 24; (with_reducible refine (laws_toRelation.calls k a0_0 a0_1 _ _ l0_2 _ _ l0_3 t1 t2 t3 t4 _ ?side1 ?side2 ?side3 ?side4 A2.out).mono ?_); (case side1 => exact yM HR2.out (mB HB.out)); (case side2 => exact HC2.out); (case side3 => exact yM HR3.out (mB HB.out)); (case side4 => exact HC3.out); rintro e w5_ ⟨u_, v_, rfl, hs, hr, hb⟩; have hs_ := S_iv hs (yX (mB HB.out)) (mvT TOP.out); have hr_2 := R_iv hr (yX (mB HB.out)) (mvT TOP.out); have Ltop3 := yA (Nat.le_trans (mvT TOP.out) hb.size); obtain ⟨top3, et_⟩ : ∃ n, n = w5_.heap.size := ⟨_, rfl⟩; rw [← et_] at hs_ hr_2 Ltop3; clear TOP; have TOP := yA (show top3 ≤ w5_.heap.size from Nat.le_of_eq et_); have n0_ := yA (zD (mB HB.out) hb); have n1_ := yA (yU (mK B1.out) hb); have n2_ := yA (yK (mR S0.out) hb); clear HB B1 S0; have HB := n0_; have B1 := n1_; have S0 := n2_; clear n0_ n1_ n2_; have X2 := yA hs_; have X3 := yA hr_2; clear hs hr hs_ hr_2 hb et_; obtain ⟨AX2, cX2, eX2⟩ := Kd.S_slice X2.out; subst eX2; obtain ⟨AX3, cX3, eX3⟩ := Kd.R_slice X3.out; subst eX3; have hcz_gb1_w5__0 : w5_.cell? ⟨gb1, 0, none⟩ = some (.int .i64 a0_0) := (yV B1.out 0).trans rfl; have hcz_gb1_w5__1 : w5_.cell? ⟨gb1, 1, none⟩ = some (.int .i64 a0_1) := (yV B1.out 1).trans rfl; have hcz_gb1_w5__2 : w5_.cell? ⟨gb1, 2, none⟩ = some (.slice A0_2 l0_2.length c0_2) := (yV B1.out 2).trans rfl; have hcz_gb1_w5__3 : w5_.cell? ⟨gb1, 3, none⟩ = some (.slice A0_3 l0_3.length c0_3) := (yV B1.out 3).trans rfl) | ((with_reducible refine gate_dst (N := 6) rfl ?_); refine box_event ?hg (N := 6) ?hd (cs := #[.int .i64 0, .int .i64 0, .slice none 0 0, .slice none 0 0]) (t := 25) ?hr ?_; (case hd => rfl); (case hg => rfl); (case hr => first | (go_simp; done) | (go_simp; rfl)); intro gb2 hg w6_ hbox hb; have G2 := yA ((by rw [hg]; exact mvT TOP.out : top3 ≤ gb2)); have GE2 := yA ((by rw [hg]; exact yX (mB HB.out) : w.heap.size ≤ gb2)); have NB := yA ((by rw [hg]; exact Nat.ne_of_lt (zX (mK B1.out)) : gb1 ≠ gb2)); have hlt_ := zX hbox; have n9_ := yA (Nat.le_trans (mvT TOP.out) hb.size); clear TOP; have TOP := n9_; clear n9_; have n0_ := yA (zD (mB HB.out) hb); have n1_ := yA (yU (mK B1.out) hb); have n2_ := yA (yK (mR S0.out) hb); have n3_ := yA (yL (mS X2.out) hb); have n4_ := yA (yK (mR X3.out) hb); clear HB B1 S0 X2 X3; have HB := n0_; have B1 := n1_; have S0 := n2_; have X2 := n3_; have X3 := n4_; clear n0_ n1_ n2_ n3_ n4_; have B2 := yA hbox; clear hb hg hbox; obtain ⟨top4, et_⟩ : ∃ n, n = w6_.heap.size := ⟨_, rfl⟩; rw [← et_] at hlt_; have LB2 := yA hlt_; clear TOP; have TOP := yA (show top4 ≤ w6_.heap.size from Nat.le_of_eq et_); clear et_ hlt_; have hnb := NB.out; have hnc := Ne.symm NB.out; have hcz_gb2_w6__0 : w6_.cell? ⟨gb2, 0, none⟩ = some (.int .i64 0) := (yV B2.out 0).trans rfl; have hcz_gb2_w6__1 : w6_.cell? ⟨gb2, 1, none⟩ = some (.int .i64 0) := (yV B2.out 1).trans rfl; have hcz_gb2_w6__2 : w6_.cell? ⟨gb2, 2, none⟩ = some (.slice none 0 0) := (yV B2.out 2).trans rfl; have hcz_gb2_w6__3 : w6_.cell? ⟨gb2, 3, none⟩ = some (.slice none 0 0) := (yV B2.out 3).trans rfl; have hfz_gb2_w6__0 := yW B2.out 0; have hfz_gb2_w6__1 := yW B2.out 1; have hfz_gb2_w6__2 := yW B2.out 2; have hfz_gb2_w6__3 := yW B2.out 3; have hcz_gb1_w6__0 : w6_.cell? ⟨gb1, 0, none⟩ = some (.int .i64 a0_0) := (yV B1.out 0).trans rfl; have hcz_gb1_w6__1 : w6_.cell? ⟨gb1, 1, none⟩ = some (.int .i64 a0_1) := (yV B1.out 1).trans rfl; have hcz_gb1_w6__2 : w6_.cell? ⟨gb1, 2, none⟩ = some (.slice A0_2 l0_2.length c0_2) := (yV B1.out 2).trans rfl; have hcz_gb1_w6__3 : w6_.cell? ⟨gb1, 3, none⟩ = some (.slice A0_3 l0_3.length c0_3) := (yV B1.out 3).trans rfl))
    go_wp2_with (go_at_call 33; (with_reducible refine (impl_LeastMember.calls k t1 t2 _ _ t3 _ _ t4 g1 b3 _ ?side1 ?side2 ?side3 ?side4 A4.out).mono ?_); (case side1 => exact mC ((Kd.S_reads' (far4S X2.out (fun _ h_ => Nat.ne_of_lt (Nat.lt_of_lt_of_le h_.2 G2.out)) (.int .i64 t1) (.int .i64 t2) (.slice AX2 t3.length cX2) (.slice AX3 t4.length cX3))).2.2)); (case side2 => exact (Kd.S_reads' X2.out).2.1); (case side3 => exact mC ((zN (far4R X3.out (fun _ h_ => Nat.ne_of_lt (Nat.lt_of_lt_of_le h_.2 G2.out)) (.int .i64 t1) (.int .i64 t2) (.slice AX2 t3.length cX2) (.slice AX3 t4.length cX3))).2.2)); (case side4 => exact (zN X3.out).2.1); rintro e w7_ ⟨u_, rfl, hr, hb⟩; have hr_2 := R_iv hr (yX (mB (far4B HB.out GE2.out (.int .i64 t1) (.int .i64 t2) (.slice AX2 t3.length cX2) (.slice AX3 t4.length cX3)))) (mvT (far4T (g := gb2) TOP.out (.int .i64 t1) (.int .i64 t2) (.slice AX2 t3.length cX2) (.slice AX3 t4.length cX3))); have Ltop5 := yA (Nat.le_trans (mvT (far4T (g := gb2) TOP.out (.int .i64 t1) (.int .i64 t2) (.slice AX2 t3.length cX2) (.slice AX3 t4.length cX3))) hb.size); obtain ⟨top5, et_⟩ : ∃ n, n = w7_.heap.size := ⟨_, rfl⟩; rw [← et_] at hr_2 Ltop5; clear TOP; have TOP := yA (show top5 ≤ w7_.heap.size from Nat.le_of_eq et_); have n0_ := yA (zD (mB (far4B HB.out GE2.out (.int .i64 t1) (.int .i64 t2) (.slice AX2 t3.length cX2) (.slice AX3 t4.length cX3))) hb); have n1_ := yA (yU (mK (far4K B1.out NB.out (.int .i64 t1) (.int .i64 t2) (.slice AX2 t3.length cX2) (.slice AX3 t4.length cX3))) hb); have n2_ := yA (yK (mR (far4R S0.out (fun _ h_ => Nat.ne_of_lt (Nat.lt_of_lt_of_le h_.2 (Nat.le_trans Ltop3.out G2.out))) (.int .i64 t1) (.int .i64 t2) (.slice AX2 t3.length cX2) (.slice AX3 t4.length cX3))) hb); have n3_ := yA (yL (mS (far4S X2.out (fun _ h_ => Nat.ne_of_lt (Nat.lt_of_lt_of_le h_.2 G2.out)) (.int .i64 t1) (.int .i64 t2) (.slice AX2 t3.length cX2) (.slice AX3 t4.length cX3))) hb); have n4_ := yA (yK (mR (far4R X3.out (fun _ h_ => Nat.ne_of_lt (Nat.lt_of_lt_of_le h_.2 G2.out)) (.int .i64 t1) (.int .i64 t2) (.slice AX2 t3.length cX2) (.slice AX3 t4.length cX3))) hb); clear HB B1 S0 X2 X3; have HB := n0_; have B1 := n1_; have S0 := n2_; have X2 := n3_; have X3 := n4_; clear n0_ n1_ n2_ n3_ n4_; have G := yA hr_2; have hb0_ := hb; clear hr hr_2 hb et_; obtain ⟨AG, cG, eG⟩ := Kd.R_slice G.out; subst eG; have n8_ := yA (yU (mK (put4 B2.out (.int .i64 t1) (.int .i64 t2) (.slice AX2 t3.length cX2) (.slice AX3 t4.length cX3))) hb0_); clear B2 hb0_; have B2 := n8_; clear n8_; have hcz_gb2_w7__0 : w7_.cell? ⟨gb2, 0, none⟩ = some (.int .i64 t1) := (yV B2.out 0).trans rfl; have hcz_gb2_w7__1 : w7_.cell? ⟨gb2, 1, none⟩ = some (.int .i64 t2) := (yV B2.out 1).trans rfl; have hcz_gb2_w7__2 : w7_.cell? ⟨gb2, 2, none⟩ = some (.slice AX2 t3.length cX2) := (yV B2.out 2).trans rfl; have hcz_gb2_w7__3 : w7_.cell? ⟨gb2, 3, none⟩ = some (.slice AX3 t4.length cX3) := (yV B2.out 3).trans rfl; have hcz_gb1_w7__0 : w7_.cell? ⟨gb1, 0, none⟩ = some (.int .i64 a0_0) := (yV B1.out 0).trans rfl; have hcz_gb1_w7__1 : w7_.cell? ⟨gb1, 1, none⟩ = some (.int .i64 a0_1) := (yV B1.out 1).trans rfl; have hcz_gb1_w7__2 : w7_.cell? ⟨gb1, 2, none⟩ = some (.slice A0_2 l0_2.length c0_2) := (yV B1.out 2).trans rfl; have hcz_gb1_w7__3 : w7_.cell? ⟨gb1, 3, none⟩ = some (.slice A0_3 l0_3.length c0_3) := (yV B1.out 3).trans rfl)
    go_wp2_with (go_at_call 31; (with_reducible refine (laws_eqIntS.calls k _ _ g1 _ _ s1 true _ ?side1 ?side2 ?side3 ?side4 A5.out).mono ?_); (case side1 => exact mC ((zN G.out).2.2)); (case side2 => exact (zN G.out).2.1); (case side3 => exact mC ((zN S0.out).2.2)); (case side4 => exact (zN S0.out).2.1); rintro e w8_ ⟨rfl, hd⟩; have hb := hd.below; clear hd; have n9_ := yA (Nat.le_trans (mvT TOP.out) hb.size); clear TOP; have TOP := n9_; clear n9_; have n0_ := yA (zD (mB HB.out) hb); have n1_ := yA (yU (mK B1.out) hb); have n2_ := yA (yK (mR S0.out) hb); have n3_ := yA (yL (mS X2.out) hb); have n4_ := yA (yK (mR X3.out) hb); have n5_ := yA (yK (mR G.out) hb); have n6_ := yA (yU (mK B2.out) hb); clear HB B1 S0 X2 X3 G B2; have HB := n0_; have B1 := n1_; have S0 := n2_; have X2 := n3_; have X3 := n4_; have G := n5_; have B2 := n6_; clear n0_ n1_ n2_ n3_ n4_ n5_ n6_; clear hb; have hcz_gb1_w8__0 : w8_.cell? ⟨gb1, 0, none⟩ = some (.int .i64 a0_0) := (yV B1.out 0).trans rfl; have hcz_gb1_w8__1 : w8_.cell? ⟨gb1, 1, none⟩ = some (.int .i64 a0_1) := (yV B1.out 1).trans rfl; have hcz_gb1_w8__2 : w8_.cell? ⟨gb1, 2, none⟩ = some (.slice A0_2 l0_2.length c0_2) := (yV B1.out 2).trans rfl; have hcz_gb1_w8__3 : w8_.cell? ⟨gb1, 3, none⟩ = some (.slice A0_3 l0_3.length c0_3) := (yV B1.out 3).trans rfl; have hcz_gb2_w8__0 : w8_.cell? ⟨gb2, 0, none⟩ = some (.int .i64 t1) := (yV B2.out 0).trans rfl; have hcz_gb2_w8__1 : w8_.cell? ⟨gb2, 1, none⟩ = some (.int .i64 t2) := (yV B2.out 1).trans rfl; have hcz_gb2_w8__2 : w8_.cell? ⟨gb2, 2, none⟩ = some (.slice AX2 t3.length cX2) := (yV B2.out 2).trans rfl; have hcz_gb2_w8__3 : w8_.cell? ⟨gb2, 3, none⟩ = some (.slice AX3 t4.length cX3) := (yV B2.out 3).trans rfl)
    have n0_ := yA (yP HB.out)
    have n1_ := yA (yT B1.out)
    have n2_ := yA (yD S0.out)
    have n3_ := yA (yJ X2.out)
    have n4_ := yA (yD X3.out)
    have n5_ := yA (yD G.out)
    have n6_ := yA (yT B2.out)
    have n7_ := yA (show top5 ≤ w8_.drew.heap.size from TOP.out)
    clear HB B1 S0 X2 X3 G B2 TOP
    have HB := n0_
    have B1 := n1_
    have S0 := n2_
    have X2 := n3_
    have X3 := n4_
    have G := n5_
    have B2 := n6_
    have TOP := n7_
    clear n0_ n1_ n2_ n3_ n4_ n5_ n6_ n7_
    refine start_ (n := 5) (S := fun w' => w'.cell? ⟨gb2, 0, none⟩ = some (.int .i64 t1) ∧ w'.cell? ⟨gb2, 1, none⟩ = some (.int .i64 t2) ∧ w'.cell? ⟨gb2, 2, none⟩ = some (.slice AX2 t3.length cX2) ∧ w'.cell? ⟨gb2, 3, none⟩ = some (.slice AX3 t4.length cX3) ∧ w'.cell? ⟨gb1, 0, none⟩ = some (.int .i64 a0_0) ∧ w'.cell? ⟨gb1, 1, none⟩ = some (.int .i64 a0_1) ∧ w'.cell? ⟨gb1, 2, none⟩ = some (.slice A0_2 l0_2.length c0_2) ∧ w'.cell? ⟨gb1, 3, none⟩ = some (.slice A0_3 l0_3.length c0_3)) (ds := []) #[false, false, false, false, false] (by kernel_rfl) rfl rfl ⟨(yV B2.out 0).trans rfl, (yV B2.out 1).trans rfl, (yV B2.out 2).trans rfl, (yV B2.out 3).trans rfl, (yV B1.out 0).trans rfl, (yV B1.out 1).trans rfl, (yV B1.out 2).trans rfl, (yV B1.out 3).trans rfl⟩ (fun hHeld => ?_)
    generalize w8_.drew = w9_ at HB B1 S0 X2 X3 G B2 TOP hHeld ⊢
    refine take_ (i := 0) (N := some 41) (v := ?_) (a' := ?_) #[true, false, false, false, false] rfl rfl (by kernel_rfl) (fun _ _ _ h => h) (Or.inl ⟨by rfl, ?_⟩) hHeld ?_ ?_
    rotate_left
    · rintro w' ⟨s0_, s1_, s2_, s3_, s4_, s5_, s6_, s7_⟩
      go_simp
      with_reducible rfl
    rotate_left
    · simp only [Act.put, zA, zB, zC, i64_w, i32_w]
      rfl
    refine take_ (i := 1) (N := some 42) (v := ?_) (a' := ?_) #[true, true, false, false, false] rfl rfl (by kernel_rfl) (fun _ _ _ h => h) (Or.inl ⟨by rfl, ?_⟩) hHeld ?_ ?_
    rotate_left
    · rintro w' ⟨s0_, s1_, s2_, s3_, s4_, s5_, s6_, s7_⟩
      go_simp
      with_reducible rfl
    rotate_left
    · simp only [Act.put, zA, zB, zC, i64_w, i32_w]
      rfl
    refine one_ (i := 2) (N := some 43) #[true, true, true, false, false] rfl rfl (by kernel_rfl) (by decide) (fun K hK => ?_)
    refine goes_ Try.func24 (by kernel_rfl) rfl #[.agg #[.int .i64 a0_0, .int .i64 a0_1, .slice A0_2 l0_2.length c0_2, .slice A0_3 l0_3.length c0_3]] (by rfl) rfl rfl (by (try simp only [zI, zJ, zK]); first | done | rfl | (simp only [zL, zM]; rfl)) ?_
    with_reducible refine (laws_toRelation.calls k a0_0 a0_1 _ _ l0_2 _ _ l0_3 t1 t2 t3 t4 _ ?side1 ?side2 ?side3 ?side4 A2.out).mono ?_
    (case side1 => exact yM HR2.out (mB HB.out))
    (case side2 => exact HC2.out)
    (case side3 => exact yM HR3.out (mB HB.out))
    (case side4 => exact HC3.out)
    rintro e w10_ ⟨u_, v_, rfl, hs, hr, hb⟩
    refine ⟨_, rfl, ?_⟩
    have hs_ := S_iv hs (yX (mB HB.out)) (mvT TOP.out)
    have hr_2 := R_iv hr (yX (mB HB.out)) (mvT TOP.out)
    have n9_ := yA (Nat.le_trans (mvT TOP.out) hb.size)
    clear TOP
    have TOP := n9_
    clear n9_
    have n0_ := yA (zD (mB HB.out) hb)
    have n1_ := yA (yU (mK B1.out) hb)
    have n2_ := yA (yK (mR S0.out) hb)
    have n3_ := yA (yL (mS X2.out) hb)
    have n4_ := yA (yK (mR X3.out) hb)
    have n5_ := yA (yK (mR G.out) hb)
    have n6_ := yA (yU (mK B2.out) hb)
    clear HB B1 S0 X2 X3 G B2
    have HB := n0_
    have B1 := n1_
    have S0 := n2_
    have X2 := n3_
    have X3 := n4_
    have G := n5_
    have B2 := n6_
    clear n0_ n1_ n2_ n3_ n4_ n5_ n6_
    have Y2 := yA hs_
    have Y3 := yA hr_2
    clear hs hr hs_ hr_2 hb
    obtain ⟨AY2, cY2, eY2⟩ := Kd.S_slice Y2.out
    subst eY2
    obtain ⟨AY3, cY3, eY3⟩ := Kd.R_slice Y3.out
    subst eY3
    refine hK.out _ _ ⟨(yV B2.out 0).trans rfl, (yV B2.out 1).trans rfl, (yV B2.out 2).trans rfl, (yV B2.out 3).trans rfl, (yV B1.out 0).trans rfl, (yV B1.out 1).trans rfl, (yV B1.out 2).trans rfl, (yV B1.out 3).trans rfl⟩ (fun hHeld => ?_)
    clear hK K
    refine norm_ (a' := ?_) ?_ ?_
    rotate_left
    · show Act.put _ (some 43) _ = _
      simp only [Act.put, zA, zB, zC, i64_w, i32_w]
      rfl
    refine one_ (i := 3) (N := some 44) #[true, true, true, true, false] rfl rfl (by kernel_rfl) (by decide) (fun K hK => ?_)
    refine goes_ Try.func17 (by kernel_rfl) rfl #[.agg #[.int .i64 t1, .int .i64 t2, .slice AX2 t3.length cX2, .slice AX3 t4.length cX3], .agg #[.int .i64 t1, .int .i64 t2, .slice AY2 t3.length cY2, .slice AY3 t4.length cY3]] (by rfl) rfl rfl (by (try simp only [zI, zJ, zK]); first | done | rfl | (simp only [zL, zM]; rfl)) ?_
    with_reducible refine (laws_eqRelation.calls k t1 t2 _ _ t3 _ _ t4 t1 t2 _ _ t3 _ _ t4 true _ ?side1 ?side2 ?side3 ?side4 ?side5 ?side6 ?side7 ?side8 A6.out).mono ?_
    (case side1 => exact mC ((Kd.S_reads' X2.out).2.2))
    (case side2 => exact (Kd.S_reads' X2.out).2.1)
    (case side3 => exact mC ((zN X3.out).2.2))
    (case side4 => exact (zN X3.out).2.1)
    (case side5 => exact mC ((Kd.S_reads' Y2.out).2.2))
    (case side6 => exact (Kd.S_reads' Y2.out).2.1)
    (case side7 => exact mC ((zN Y3.out).2.2))
    (case side8 => exact (zN Y3.out).2.1)
    rintro e w11_ ⟨rfl, hb⟩
    refine ⟨_, rfl, ?_⟩
    have n9_ := yA (Nat.le_trans (mvT TOP.out) hb.size)
    clear TOP
    have TOP := n9_
    clear n9_
    have n0_ := yA (zD (mB HB.out) hb)
    have n1_ := yA (yU (mK B1.out) hb)
    have n2_ := yA (yK (mR S0.out) hb)
    have n3_ := yA (yL (mS X2.out) hb)
    have n4_ := yA (yK (mR X3.out) hb)
    have n5_ := yA (yK (mR G.out) hb)
    have n6_ := yA (yU (mK B2.out) hb)
    clear HB B1 S0 X2 X3 G B2 Y2 Y3
    have HB := n0_
    have B1 := n1_
    have S0 := n2_
    have X2 := n3_
    have X3 := n4_
    have G := n5_
    have B2 := n6_
    clear n0_ n1_ n2_ n3_ n4_ n5_ n6_
    clear hb
    refine hK.out _ _ ⟨(yV B2.out 0).trans rfl, (yV B2.out 1).trans rfl, (yV B2.out 2).trans rfl, (yV B2.out 3).trans rfl, (yV B1.out 0).trans rfl, (yV B1.out 1).trans rfl, (yV B1.out 2).trans rfl, (yV B1.out 3).trans rfl⟩ (fun hHeld => ?_)
    clear hK K
    refine norm_ (a' := ?_) ?_ ?_
    rotate_left
    · show Act.put _ (some 44) _ = _
      simp only [Act.put, zA, zB, zC, i64_w, i32_w]
      rfl
    refine pure_ (i := 4) (N := some 45) (v := ?_) (a' := ?_) #[true, true, true, true, true] rfl rfl (by kernel_rfl) (fun _ _ _ h => h) (Or.inl ⟨by rfl, ?_⟩) ?_ ?_
    rotate_left
    · intro w'
      go_simp
      with_reducible rfl
    rotate_left
    · simp only [Act.put, zA, zB, zC, i64_w, i32_w]
      rfl
    refine done_ (by kernel_rfl) ?_
    have hcz_gb1_w11__0 : w11_.cell? ⟨gb1, 0, none⟩ = some (.int .i64 a0_0) := (yV B1.out 0).trans rfl
    have hcz_gb1_w11__1 : w11_.cell? ⟨gb1, 1, none⟩ = some (.int .i64 a0_1) := (yV B1.out 1).trans rfl
    have hcz_gb1_w11__2 : w11_.cell? ⟨gb1, 2, none⟩ = some (.slice A0_2 l0_2.length c0_2) := (yV B1.out 2).trans rfl
    have hcz_gb1_w11__3 : w11_.cell? ⟨gb1, 3, none⟩ = some (.slice A0_3 l0_3.length c0_3) := (yV B1.out 3).trans rfl
    have hcz_gb2_w11__0 : w11_.cell? ⟨gb2, 0, none⟩ = some (.int .i64 t1) := (yV B2.out 0).trans rfl
    have hcz_gb2_w11__1 : w11_.cell? ⟨gb2, 1, none⟩ = some (.int .i64 t2) := (yV B2.out 1).trans rfl
    have hcz_gb2_w11__2 : w11_.cell? ⟨gb2, 2, none⟩ = some (.slice AX2 t3.length cX2) := (yV B2.out 2).trans rfl
    have hcz_gb2_w11__3 : w11_.cell? ⟨gb2, 3, none⟩ = some (.slice AX3 t4.length cX3) := (yV B2.out 3).trans rfl
    go_wp2_with (go_at_call 18; (with_reducible refine (laws_markRelation.calls k _ _ _ _ t1 t2 t3 t4 1 m1 m2 m3 w _ (mB HB.out) (mS X2.out) (mR X3.out) A7.out).mono ?_); rintro e w12_ ⟨rfl, hs, hr, hb, hk⟩; have n9_ := yA (Nat.le_trans (mvT TOP.out) hk.1); clear TOP; have TOP := n9_; clear n9_; have n0_ := yA (hb); have n1_ := yA (((hk.2 _ (zX (mK B1.out)) (fun hP => hP.elim (fun q_ => absurd (Nat.lt_of_lt_of_le LB1.out (Nat.le_trans Ltop1.out Ltop2.out)) (Nat.not_lt.2 q_.1)) (fun q_ => absurd (Nat.lt_of_lt_of_le LB1.out (Nat.le_trans Ltop1.out Ltop2.out)) (Nat.not_lt.2 q_.1)))).trans (mK B1.out))); have n2_ := yA (Kd.R_kept (mR S0.out) hk (fun _ h_ hP => hP.elim (fun q_ => absurd h_.2 (Nat.not_lt.2 q_.1)) (fun q_ => absurd h_.2 (Nat.not_lt.2 q_.1)))); have n3_ := yA (Kd.R_kept (mR G.out) hk (fun _ h_ hP => hP.elim (fun q_ => absurd q_.2 (Nat.not_lt.2 (Nat.le_trans (Nat.le_trans G2.out (Nat.le_of_lt LB2.out)) h_.1))) (fun q_ => absurd q_.2 (Nat.not_lt.2 (Nat.le_trans (Nat.le_trans G2.out (Nat.le_of_lt LB2.out)) h_.1))))); clear HB B1 S0 X2 X3 G B2; have HB := n0_; have B1 := n1_; have S0 := n2_; have G := n3_; clear n0_ n1_ n2_ n3_; clear hs hr hb hk; have hcz_gb1_w12__0 : w12_.cell? ⟨gb1, 0, none⟩ = some (.int .i64 a0_0) := (yV B1.out 0).trans rfl; have hcz_gb1_w12__1 : w12_.cell? ⟨gb1, 1, none⟩ = some (.int .i64 a0_1) := (yV B1.out 1).trans rfl; have hcz_gb1_w12__2 : w12_.cell? ⟨gb1, 2, none⟩ = some (.slice A0_2 l0_2.length c0_2) := (yV B1.out 2).trans rfl; have hcz_gb1_w12__3 : w12_.cell? ⟨gb1, 3, none⟩ = some (.slice A0_3 l0_3.length c0_3) := (yV B1.out 3).trans rfl)
    go_wp2_with (go_at_call 31; (with_reducible refine (laws_eqIntS.calls k _ _ g1 _ _ s1 true _ ?side1 ?side2 ?side3 ?side4 A5.out).mono ?_); (case side1 => exact mC ((zN G.out).2.2)); (case side2 => exact (zN G.out).2.1); (case side3 => exact mC ((zN S0.out).2.2)); (case side4 => exact (zN S0.out).2.1); rintro e w13_ ⟨rfl, hd⟩; have hb := hd.below; clear hd; have n9_ := yA (Nat.le_trans (mvT TOP.out) hb.size); clear TOP; have TOP := n9_; clear n9_; have n0_ := yA (zD (mB HB.out) hb); have n1_ := yA (yU (mK B1.out) hb); have n2_ := yA (yK (mR S0.out) hb); have n3_ := yA (yK (mR G.out) hb); clear HB B1 S0 G; have HB := n0_; have B1 := n1_; have S0 := n2_; have G := n3_; clear n0_ n1_ n2_ n3_; clear hb; have hcz_gb1_w13__0 : w13_.cell? ⟨gb1, 0, none⟩ = some (.int .i64 a0_0) := (yV B1.out 0).trans rfl; have hcz_gb1_w13__1 : w13_.cell? ⟨gb1, 1, none⟩ = some (.int .i64 a0_1) := (yV B1.out 1).trans rfl; have hcz_gb1_w13__2 : w13_.cell? ⟨gb1, 2, none⟩ = some (.slice A0_2 l0_2.length c0_2) := (yV B1.out 2).trans rfl; have hcz_gb1_w13__3 : w13_.cell? ⟨gb1, 3, none⟩ = some (.slice A0_3 l0_3.length c0_3) := (yV B1.out 3).trans rfl)
    go_wp2_with (go_at_call 34; (with_reducible refine (laws_markIntS.calls k _ _ g1 1 hh q2 w _ (mB HB.out) (mR G.out) A8.out).mono ?_); rintro e w14_ ⟨rfl, hr, hb, hk⟩; have n9_ := yA (Nat.le_trans (mvT TOP.out) hk.1); clear TOP; have TOP := n9_; clear n9_; have n7_ := yA (Kd.R_reok rfl hr (fun k_ e_ => G.out.1 k_ e_)); have n0_ := yA (hb); have n1_ := yA (((hk.2 _ (zX (mK B1.out)) (fun q_ => absurd (Nat.lt_of_lt_of_le LB1.out (Nat.le_trans Ltop1.out (Nat.le_trans Ltop2.out (Nat.le_trans Ltop3.out (Nat.le_trans G2.out (Nat.le_of_lt LB2.out)))))) (Nat.not_lt.2 q_.1))).trans (mK B1.out))); have n2_ := yA (Kd.R_kept (mR S0.out) hk (fun _ h_ q_ => absurd h_.2 (Nat.not_lt.2 (Nat.le_trans (Nat.le_trans Ltop3.out (Nat.le_trans G2.out (Nat.le_of_lt LB2.out))) q_.1)))); clear HB B1 S0; have HB := n0_; have B1 := n1_; have S0 := n2_; clear n0_ n1_ n2_; clear G; have G := n7_; clear n7_ hr hb hk; have hcz_gb1_w14__0 : w14_.cell? ⟨gb1, 0, none⟩ = some (.int .i64 a0_0) := (yV B1.out 0).trans rfl; have hcz_gb1_w14__1 : w14_.cell? ⟨gb1, 1, none⟩ = some (.int .i64 a0_1) := (yV B1.out 1).trans rfl; have hcz_gb1_w14__2 : w14_.cell? ⟨gb1, 2, none⟩ = some (.slice A0_2 l0_2.length c0_2) := (yV B1.out 2).trans rfl; have hcz_gb1_w14__3 : w14_.cell? ⟨gb1, 3, none⟩ = some (.slice A0_3 l0_3.length c0_3) := (yV B1.out 3).trans rfl)
    have eG : g1.length = q2.length := (zN G.out).1
    rw [eG] at G ⊢
    clear eG
    go_wp2_with (go_at_call 35; (with_reducible refine (laws_heldIntS.calls k _ _ q2 1 hh _ ?side1 ?side2 A9.out).mono ?_); (case side1 => exact mC ((zN G.out).2.2)); (case side2 => exact (zN G.out).2.1); rintro e w15_ ⟨rfl, hd⟩; have hb := hd.below; clear hd; have n9_ := yA (Nat.le_trans (mvT TOP.out) hb.size); clear TOP; have TOP := n9_; clear n9_; have n0_ := yA (zD (mB HB.out) hb); have n1_ := yA (yU (mK B1.out) hb); have n2_ := yA (yK (mR S0.out) hb); have n3_ := yA (yK (mR G.out) hb); clear HB B1 S0 G; have HB := n0_; have B1 := n1_; have S0 := n2_; have G := n3_; clear n0_ n1_ n2_ n3_; clear hb; have hcz_gb1_w15__0 : w15_.cell? ⟨gb1, 0, none⟩ = some (.int .i64 a0_0) := (yV B1.out 0).trans rfl; have hcz_gb1_w15__1 : w15_.cell? ⟨gb1, 1, none⟩ = some (.int .i64 a0_1) := (yV B1.out 1).trans rfl; have hcz_gb1_w15__2 : w15_.cell? ⟨gb1, 2, none⟩ = some (.slice A0_2 l0_2.length c0_2) := (yV B1.out 2).trans rfl; have hcz_gb1_w15__3 : w15_.cell? ⟨gb1, 3, none⟩ = some (.slice A0_3 l0_3.length c0_3) := (yV B1.out 3).trans rfl)
    go_wp2_with (go_at_call 24; (with_reducible refine (laws_toRelation.calls k a0_0 a0_1 _ _ l0_2 _ _ l0_3 t1 t2 t3 t4 _ ?side1 ?side2 ?side3 ?side4 A2.out).mono ?_); (case side1 => exact yM HR2.out (mB HB.out)); (case side2 => exact HC2.out); (case side3 => exact yM HR3.out (mB HB.out)); (case side4 => exact HC3.out); rintro e w16_ ⟨u_, v_, rfl, hs, hr, hb⟩; have hs_ := S_iv hs (yX (mB HB.out)) (mvT TOP.out); have hr_2 := R_iv hr (yX (mB HB.out)) (mvT TOP.out); have Ltop6 := yA (Nat.le_trans (mvT TOP.out) hb.size); obtain ⟨top6, et_⟩ : ∃ n, n = w16_.heap.size := ⟨_, rfl⟩; rw [← et_] at hs_ hr_2 Ltop6; clear TOP; have TOP := yA (show top6 ≤ w16_.heap.size from Nat.le_of_eq et_); have n0_ := yA (zD (mB HB.out) hb); have n1_ := yA (yU (mK B1.out) hb); have n2_ := yA (yK (mR S0.out) hb); have n3_ := yA (yK (mR G.out) hb); clear HB B1 S0 G; have HB := n0_; have B1 := n1_; have S0 := n2_; have G := n3_; clear n0_ n1_ n2_ n3_; have Z2 := yA hs_; have Z3 := yA hr_2; clear hs hr hs_ hr_2 hb et_; obtain ⟨AZ2, cZ2, eZ2⟩ := Kd.S_slice Z2.out; subst eZ2; obtain ⟨AZ3, cZ3, eZ3⟩ := Kd.R_slice Z3.out; subst eZ3; have hcz_gb1_w16__0 : w16_.cell? ⟨gb1, 0, none⟩ = some (.int .i64 a0_0) := (yV B1.out 0).trans rfl; have hcz_gb1_w16__1 : w16_.cell? ⟨gb1, 1, none⟩ = some (.int .i64 a0_1) := (yV B1.out 1).trans rfl; have hcz_gb1_w16__2 : w16_.cell? ⟨gb1, 2, none⟩ = some (.slice A0_2 l0_2.length c0_2) := (yV B1.out 2).trans rfl; have hcz_gb1_w16__3 : w16_.cell? ⟨gb1, 3, none⟩ = some (.slice A0_3 l0_3.length c0_3) := (yV B1.out 3).trans rfl)
    go_wp2_with (go_at_call 33; (with_reducible refine (impl_LeastMember.calls k t1 t2 _ _ t3 _ _ t4 g1 b3 _ ?side1 ?side2 ?side3 ?side4 A4.out).mono ?_); (case side1 => exact mC ((Kd.S_reads' Z2.out).2.2)); (case side2 => exact (Kd.S_reads' Z2.out).2.1); (case side3 => exact mC ((zN Z3.out).2.2)); (case side4 => exact (zN Z3.out).2.1); rintro e w17_ ⟨u_, rfl, hr, hb⟩; have hr_2 := R_iv hr (yX (mB HB.out)) (mvT TOP.out); have Ltop7 := yA (Nat.le_trans (mvT TOP.out) hb.size); obtain ⟨top7, et_⟩ : ∃ n, n = w17_.heap.size := ⟨_, rfl⟩; rw [← et_] at hr_2 Ltop7; clear TOP; have TOP := yA (show top7 ≤ w17_.heap.size from Nat.le_of_eq et_); have n0_ := yA (zD (mB HB.out) hb); have n1_ := yA (yU (mK B1.out) hb); have n2_ := yA (yK (mR S0.out) hb); have n3_ := yA (yK (mR G.out) hb); clear HB B1 S0 G Z2 Z3; have HB := n0_; have B1 := n1_; have S0 := n2_; have G := n3_; clear n0_ n1_ n2_ n3_; have H := yA hr_2; clear hr hr_2 hb et_; obtain ⟨AH, cH, eH⟩ := Kd.R_slice H.out; subst eH; have hcz_gb1_w17__0 : w17_.cell? ⟨gb1, 0, none⟩ = some (.int .i64 a0_0) := (yV B1.out 0).trans rfl; have hcz_gb1_w17__1 : w17_.cell? ⟨gb1, 1, none⟩ = some (.int .i64 a0_1) := (yV B1.out 1).trans rfl; have hcz_gb1_w17__2 : w17_.cell? ⟨gb1, 2, none⟩ = some (.slice A0_2 l0_2.length c0_2) := (yV B1.out 2).trans rfl; have hcz_gb1_w17__3 : w17_.cell? ⟨gb1, 3, none⟩ = some (.slice A0_3 l0_3.length c0_3) := (yV B1.out 3).trans rfl)
    go_wp2_with (go_at_call 31; (with_reducible refine (laws_eqIntS.calls k _ _ g1 _ _ s1 true _ ?side1 ?side2 ?side3 ?side4 A5.out).mono ?_); (case side1 => exact mC ((zN H.out).2.2)); (case side2 => exact (zN H.out).2.1); (case side3 => exact mC ((zN S0.out).2.2)); (case side4 => exact (zN S0.out).2.1); rintro e w18_ ⟨rfl, hd⟩; have hb := hd.below; clear hd; have n9_ := yA (Nat.le_trans (mvT TOP.out) hb.size); clear TOP; have TOP := n9_; clear n9_; have n0_ := yA (zD (mB HB.out) hb); have n1_ := yA (yU (mK B1.out) hb); have n2_ := yA (yK (mR S0.out) hb); have n3_ := yA (yK (mR G.out) hb); have n4_ := yA (yK (mR H.out) hb); clear HB B1 S0 G H; have HB := n0_; have B1 := n1_; have S0 := n2_; have G := n3_; have H := n4_; clear n0_ n1_ n2_ n3_ n4_; clear hb; have hcz_gb1_w18__0 : w18_.cell? ⟨gb1, 0, none⟩ = some (.int .i64 a0_0) := (yV B1.out 0).trans rfl; have hcz_gb1_w18__1 : w18_.cell? ⟨gb1, 1, none⟩ = some (.int .i64 a0_1) := (yV B1.out 1).trans rfl; have hcz_gb1_w18__2 : w18_.cell? ⟨gb1, 2, none⟩ = some (.slice A0_2 l0_2.length c0_2) := (yV B1.out 2).trans rfl; have hcz_gb1_w18__3 : w18_.cell? ⟨gb1, 3, none⟩ = some (.slice A0_3 l0_3.length c0_3) := (yV B1.out 3).trans rfl)
    go_wp2_with (go_at_call 35; (with_reducible refine (laws_heldIntS.calls k _ _ q2 1 hh _ ?side1 ?side2 A9.out).mono ?_); (case side1 => exact mC ((zN G.out).2.2)); (case side2 => exact (zN G.out).2.1); rintro e w19_ ⟨rfl, hd⟩; have hb := hd.below; clear hd; have n9_ := yA (Nat.le_trans (mvT TOP.out) hb.size); clear TOP; have TOP := n9_; clear n9_; have n0_ := yA (zD (mB HB.out) hb); have n1_ := yA (yU (mK B1.out) hb); have n2_ := yA (yK (mR S0.out) hb); have n3_ := yA (yK (mR G.out) hb); have n4_ := yA (yK (mR H.out) hb); clear HB B1 S0 G H; have HB := n0_; have B1 := n1_; have S0 := n2_; have G := n3_; have H := n4_; clear n0_ n1_ n2_ n3_ n4_; clear hb; have hcz_gb1_w19__0 : w19_.cell? ⟨gb1, 0, none⟩ = some (.int .i64 a0_0) := (yV B1.out 0).trans rfl; have hcz_gb1_w19__1 : w19_.cell? ⟨gb1, 1, none⟩ = some (.int .i64 a0_1) := (yV B1.out 1).trans rfl; have hcz_gb1_w19__2 : w19_.cell? ⟨gb1, 2, none⟩ = some (.slice A0_2 l0_2.length c0_2) := (yV B1.out 2).trans rfl; have hcz_gb1_w19__3 : w19_.cell? ⟨gb1, 3, none⟩ = some (.slice A0_3 l0_3.length c0_3) := (yV B1.out 3).trans rfl)
    go_ret
    exact ⟨rfl, mB HB.out⟩
  · rw [if_neg hc] at h
    cases h

end Go.Proofs.Ytgopcliohchkmaa.Q
