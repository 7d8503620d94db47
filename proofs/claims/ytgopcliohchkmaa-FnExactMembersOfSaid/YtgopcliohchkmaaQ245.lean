-- a walk given by hand (this session's own work)
-- compact
-- shrunk
import Derived.Test.YtgopcliohchkmaaQ0
import Derived.Test.YtgopcliohchkmaaQ10
import Derived.Test.YtgopcliohchkmaaQ12
import Derived.Test.YtgopcliohchkmaaQ14
import Derived.Test.YtgopcliohchkmaaQ16
import Derived.Test.YtgopcliohchkmaaQ222
import Derived.Test.YtgopcliohchkmaaQ28
import Derived.Test.YtgopcliohchkmaaQ40
import Derived.Test.YtgopcliohchkmaaQ68
import Derived.Test.YtgopcliohchkmaaQ8
namespace Go.Proofs.Ytgopcliohchkmaa.Q
open Go.RowKit Go.Proofs.YtgopcliohchkmaaW.PrintWords Go.Proofs.YtgopcliohchkmaaW.PrintLast Go.Proofs.YtgopcliohchkmaaW.PrintMore
set_option linter.unusedVariables false
set_option linter.unusedSimpArgs false
/-! ### laws_FnExactMembersOf -/
def laws_FnExactMembersOf.f (k : Nat) (a0_0 : Int) (a0_1 : Int) (l0_2 : List (List Int)) (l0_3 : List Bool) (a1 : Int) : Option Bool := (laws_szRelation.f k a0_0 a0_1 l0_2 l0_3 1048576).bind fun c1 => if c1 < 0 then some true else (laws_toRelation.f k a0_0 a0_1 l0_2 l0_3).bind fun c2 => (spec_MembersOf.f k c2.1 c2.2.1 c2.2.2.1 c2.2.2.2 a1).bind fun c3 => (impl_MembersOf.f k c2.1 c2.2.1 c2.2.2.1 c2.2.2.2 a1).bind fun c4 => (laws_eqIntSS.f k c4.1 c3.1).bind fun c5 => (laws_eqRelation.f k c2.1 c2.2.1 c2.2.2.1 c2.2.2.2 c2.1 c2.2.1 c2.2.2.1 c2.2.2.2).bind fun c6 => (laws_markRelation.f k c2.2.2.1 c2.2.2.2 1).bind fun c7 => (laws_markIntSS.f k c4.1 1).bind fun c8 => (laws_heldIntSS.f k c8.2 1).bind fun c9 => if c5 = true ∧ c4.2 = c3.2 ∧ c6 = true ∧ ¬ c7.1 < 0 ∧ ¬ c9 < 0 ∧ c9 = c8.1 then some true else some false
set_option maxHeartbeats 8000000 in
set_option maxRecDepth 100000 in
theorem laws_FnExactMembersOf.calls (k : Nat) (a0_0 : Int) (a0_1 : Int) (A0_2 : Option Addr) (c0_2 : Nat) (l0_2 : List (List Int)) (A0_3 : Option Addr) (c0_3 : Nat) (l0_3 : List Bool) (a1 : Int) (r : Bool) (hr_ : r = true) (w : World) (hr0_2 : Kd.C (Kd.slice 3 (Kd.int .i64)) w A0_2 l0_2.length l0_2) (hc0_2 : l0_2.length ≤ c0_2) (hr0_3 : Kd.C Kd.bool w A0_3 l0_3.length l0_3) (hc0_3 : l0_3.length ≤ c0_3) (h : laws_FnExactMembersOf.f k a0_0 a0_1 l0_2 l0_3 a1 = some r) :
  Calls Try.prog 10 #[.agg #[.int .i64 a0_0, .int .i64 a0_1, .slice A0_2 l0_2.length c0_2, .slice A0_3 l0_3.length c0_3], .int .i64 a1] w fun e w' => e = .returned (.bool r) ∧ Below w.heap.size w w' := by
  subst hr_
  have hu25 := Try.underlying25
  have hu33 := Try.underlying33
  have HR0_2 := yA hr0_2
  have HC0_2 := yA hc0_2
  clear hr0_2 hc0_2
  have HR0_3 := yA hr0_3
  have HC0_3 := yA hc0_3
  clear hr0_3 hc0_3
  have HB := yA (zV w.heap.size w)
  unfold laws_FnExactMembersOf.f at h
  obtain ⟨top0, et0⟩ : ∃ n, n = w.heap.size := ⟨_, rfl⟩
  have TOP := yA (show top0 ≤ w.heap.size from Nat.le_of_eq et0)
  clear et0
  obtain ⟨c1, AR1, h⟩ := Option.bind_eq_some_iff.1 h
  have AQ1 := yA AR1
  clear AR1
  by_cases he0 : c1 < 0
  · clear h
    have he0b := zH he0
    go_enter Try.func10, Try.ntmps10
    go_wp2_with (first | ((with_reducible refine gate_dst (N := 2) rfl ?_); refine box_event ?hg (N := 2) ?hd (cs := #[.int .i64 a0_0, .int .i64 a0_1, .slice A0_2 l0_2.length c0_2, .slice A0_3 l0_3.length c0_3]) (t := 33) ?hr ?_; (case hd => rfl); (case hg => rfl); (case hr => first | (go_simp; done) | (go_simp; rfl)); intro gb1 hg w1_ hbox hb; have LO_b1 := yA ((by rw [hg]; exact mvT TOP.out : top0 ≤ gb1)); have GE_b1 := yA ((by rw [hg]; exact yX (mB HB.out) : w.heap.size ≤ gb1)); have hlt_ := zX hbox; have LE_top1 := yA (Nat.le_trans (mvT TOP.out) hb.size); replace HB := yA (zD (mB HB.out) hb); have BX_b1 := yA hbox; clear hb hg hbox; obtain ⟨top1, et_⟩ : ∃ n, n = w1_.heap.size := ⟨_, rfl⟩; rw [← et_] at hlt_ LE_top1; have HI_b1 := yA hlt_; clear TOP; have TOP := yA (show top1 ≤ w1_.heap.size from Nat.le_of_eq et_); clear et_ hlt_; obtain ⟨hfz_b1_w1__0, hfz_b1_w1__1, hfz_b1_w1__2, hfz_b1_w1__3⟩ := fz4 BX_b1.out; obtain ⟨hcz_b1_w1__0, hcz_b1_w1__1, hcz_b1_w1__2, hcz_b1_w1__3⟩ := cz4 BX_b1.out))
    go_wp2_with (first | (go_at_call 22; (with_reducible refine (laws_szRelation.calls k a0_0 a0_1 _ _ l0_2 _ _ l0_3 1048576 c1 _ ?side1 ?side2 ?side3 ?side4 AQ1.out).mono ?_); (case side1 => exact yM HR0_2.out (mB HB.out)); (case side2 => exact HC0_2.out); (case side3 => exact yM HR0_3.out (mB HB.out)); (case side4 => exact HC0_3.out); rintro e w2_ ⟨rfl, hb⟩; have n9_ := yA (Nat.le_trans (mvT TOP.out) hb.size); clear TOP; have TOP := n9_; clear n9_; replace HB := yA (zD (mB HB.out) hb); replace BX_b1 := yA (yU (mK BX_b1.out) hb); clear hb; obtain ⟨hcz_b1_w2__0, hcz_b1_w2__1, hcz_b1_w2__2, hcz_b1_w2__3⟩ := cz4 BX_b1.out))
    try go_wp2
    go_ret
    exact ⟨rfl, mB HB.out⟩
  rw [if_neg he0] at h
  have he0b := decide_eq_false he0
  clear he0
  obtain ⟨⟨c2_1, c2_2, c2_3, c2_4⟩, AR2, h⟩ := Option.bind_eq_some_iff.1 h
  obtain ⟨⟨c3_1, c3_2⟩, AR3, h⟩ := Option.bind_eq_some_iff.1 h
  obtain ⟨⟨c4_1, c4_2⟩, AR4, h⟩ := Option.bind_eq_some_iff.1 h
  obtain ⟨c5, AR5, h⟩ := Option.bind_eq_some_iff.1 h
  obtain ⟨c6, AR6, h⟩ := Option.bind_eq_some_iff.1 h
  obtain ⟨⟨c7_1, c7_2, c7_3⟩, AR7, h⟩ := Option.bind_eq_some_iff.1 h
  obtain ⟨⟨c8_1, c8_2⟩, AR8, h⟩ := Option.bind_eq_some_iff.1 h
  obtain ⟨c9, AR9, h⟩ := Option.bind_eq_some_iff.1 h
  simp only at AR2 AR3 AR4 AR5 AR6 AR7 AR8 AR9 h
  by_cases hc : c5 = true ∧ c4_2 = c3_2 ∧ c6 = true ∧ ¬ c7_1 < 0 ∧ ¬ c9 < 0 ∧ c9 = c8_1
  · obtain ⟨rfl, rfl, rfl, hn3, hn4, rfl⟩ := hc
    clear h
    have hnb3 := decide_eq_false hn3
    clear hn3
    have hnb4 := decide_eq_false hn4
    clear hn4
    have AQ2 := yA AR2
    clear AR2
    have AQ3 := yA AR3
    clear AR3
    have AQ4 := yA AR4
    clear AR4
    have AQ5 := yA AR5
    clear AR5
    have AQ6 := yA AR6
    clear AR6
    have AQ7 := yA AR7
    clear AR7
    have AQ8 := yA AR8
    clear AR8
    have AQ9 := yA AR9
    clear AR9
    go_enter Try.func10, Try.ntmps10
    go_wp2_with (first | ((with_reducible refine gate_dst (N := 2) rfl ?_); refine box_event ?hg (N := 2) ?hd (cs := #[.int .i64 a0_0, .int .i64 a0_1, .slice A0_2 l0_2.length c0_2, .slice A0_3 l0_3.length c0_3]) (t := 33) ?hr ?_; (case hd => rfl); (case hg => rfl); (case hr => first | (go_simp; done) | (go_simp; rfl)); intro gb1 hg w1_ hbox hb; have LO_b1 := yA ((by rw [hg]; exact mvT TOP.out : top0 ≤ gb1)); have GE_b1 := yA ((by rw [hg]; exact yX (mB HB.out) : w.heap.size ≤ gb1)); have hlt_ := zX hbox; have LE_top1 := yA (Nat.le_trans (mvT TOP.out) hb.size); replace HB := yA (zD (mB HB.out) hb); have BX_b1 := yA hbox; clear hb hg hbox; obtain ⟨top1, et_⟩ : ∃ n, n = w1_.heap.size := ⟨_, rfl⟩; rw [← et_] at hlt_ LE_top1; have HI_b1 := yA hlt_; clear TOP; have TOP := yA (show top1 ≤ w1_.heap.size from Nat.le_of_eq et_); clear et_ hlt_; obtain ⟨hfz_b1_w1__0, hfz_b1_w1__1, hfz_b1_w1__2, hfz_b1_w1__3⟩ := fz4 BX_b1.out; obtain ⟨hcz_b1_w1__0, hcz_b1_w1__1, hcz_b1_w1__2, hcz_b1_w1__3⟩ := cz4 BX_b1.out))
    go_wp2_with (first | (go_at_call 22; (with_reducible refine (laws_szRelation.calls k a0_0 a0_1 _ _ l0_2 _ _ l0_3 1048576 c1 _ ?side1 ?side2 ?side3 ?side4 AQ1.out).mono ?_); (case side1 => exact yM HR0_2.out (mB HB.out)); (case side2 => exact HC0_2.out); (case side3 => exact yM HR0_3.out (mB HB.out)); (case side4 => exact HC0_3.out); rintro e w2_ ⟨rfl, hb⟩; have n9_ := yA (Nat.le_trans (mvT TOP.out) hb.size); clear TOP; have TOP := n9_; clear n9_; replace HB := yA (zD (mB HB.out) hb); replace BX_b1 := yA (yU (mK BX_b1.out) hb); clear hb; obtain ⟨hcz_b1_w2__0, hcz_b1_w2__1, hcz_b1_w2__2, hcz_b1_w2__3⟩ := cz4 BX_b1.out))
    go_wp2_with (first | (go_at_call 24; (with_reducible refine (laws_toRelation.calls k a0_0 a0_1 _ _ l0_2 _ _ l0_3 c2_1 c2_2 c2_3 c2_4 _ ?side1 ?side2 ?side3 ?side4 AQ2.out).mono ?_); (case side1 => exact yM HR0_2.out (mB HB.out)); (case side2 => exact HC0_2.out); (case side3 => exact yM HR0_3.out (mB HB.out)); (case side4 => exact HC0_3.out); rintro e w3_ ⟨u0_, u1_, rfl, h0_, h1_, hb⟩; have iO3_3 := S_iv h0_ (yX (mB HB.out)) (mvT TOP.out); have iO3_4 := R_iv h1_ (yX (mB HB.out)) (mvT TOP.out); have LE_top2 := yA (Nat.le_trans (mvT TOP.out) hb.size); obtain ⟨top2, et_⟩ : ∃ n, n = w3_.heap.size := ⟨_, rfl⟩; rw [← et_] at iO3_3 iO3_4 LE_top2; clear TOP; have TOP := yA (show top2 ≤ w3_.heap.size from Nat.le_of_eq et_); replace HB := yA (zD (mB HB.out) hb); replace BX_b1 := yA (yU (mK BX_b1.out) hb); have O3_3 := yA iO3_3; have O3_4 := yA iO3_4; clear et_ hb h0_ iO3_3 h1_ iO3_4; obtain ⟨AO3_3, cO3_3, eO3_3⟩ := Kd.S_slice O3_3.out; subst eO3_3; obtain ⟨AO3_4, cO3_4, eO3_4⟩ := Kd.R_slice O3_4.out; subst eO3_4; obtain ⟨hcz_b1_w3__0, hcz_b1_w3__1, hcz_b1_w3__2, hcz_b1_w3__3⟩ := cz4 BX_b1.out))
    go_wp2_with (first | (go_at_call 38; (with_reducible refine (spec_MembersOf.calls k c2_1 c2_2 _ _ c2_3 _ _ c2_4 a1 c3_1 c4_2 _ ?side1 ?side2 ?side3 ?side4 AQ3.out).mono ?_); (case side1 => exact mC ((Kd.S_reads' O3_3.out).2.2)); (case side2 => exact (Kd.S_reads' O3_3.out).2.1); (case side3 => exact mC ((zN O3_4.out).2.2)); (case side4 => exact (zN O3_4.out).2.1); rintro e w4_ ⟨u0_, rfl, h0_, hb⟩; have iO4_1 := S_iv h0_ (yX (mB HB.out)) (mvT TOP.out); have LE_top3 := yA (Nat.le_trans (mvT TOP.out) hb.size); obtain ⟨top3, et_⟩ : ∃ n, n = w4_.heap.size := ⟨_, rfl⟩; rw [← et_] at iO4_1 LE_top3; clear TOP; have TOP := yA (show top3 ≤ w4_.heap.size from Nat.le_of_eq et_); replace HB := yA (zD (mB HB.out) hb); replace BX_b1 := yA (yU (mK BX_b1.out) hb); replace O3_3 := yA (yL (mS O3_3.out) hb); replace O3_4 := yA (yK (mR O3_4.out) hb); have O4_1 := yA iO4_1; clear et_ hb h0_ iO4_1; obtain ⟨AO4_1, cO4_1, eO4_1⟩ := Kd.S_slice O4_1.out; subst eO4_1; obtain ⟨hcz_b1_w4__0, hcz_b1_w4__1, hcz_b1_w4__2, hcz_b1_w4__3⟩ := cz4 BX_b1.out))
    go_wp2_with (first | (go_at_call 24; (with_reducible refine (laws_toRelation.calls k a0_0 a0_1 _ _ l0_2 _ _ l0_3 c2_1 c2_2 c2_3 c2_4 _ ?side1 ?side2 ?side3 ?side4 AQ2.out).mono ?_); (case side1 => exact yM HR0_2.out (mB HB.out)); (case side2 => exact HC0_2.out); (case side3 => exact yM HR0_3.out (mB HB.out)); (case side4 => exact HC0_3.out); rintro e w5_ ⟨u0_, u1_, rfl, h0_, h1_, hb⟩; have iO5_3 := S_iv h0_ (yX (mB HB.out)) (mvT TOP.out); have iO5_4 := R_iv h1_ (yX (mB HB.out)) (mvT TOP.out); have LE_top4 := yA (Nat.le_trans (mvT TOP.out) hb.size); obtain ⟨top4, et_⟩ : ∃ n, n = w5_.heap.size := ⟨_, rfl⟩; rw [← et_] at iO5_3 iO5_4 LE_top4; clear TOP; have TOP := yA (show top4 ≤ w5_.heap.size from Nat.le_of_eq et_); replace HB := yA (zD (mB HB.out) hb); replace BX_b1 := yA (yU (mK BX_b1.out) hb); replace O3_3 := yA (yL (mS O3_3.out) hb); replace O3_4 := yA (yK (mR O3_4.out) hb); replace O4_1 := yA (yL (mS O4_1.out) hb); have O5_3 := yA iO5_3; have O5_4 := yA iO5_4; clear et_ hb h0_ iO5_3 h1_ iO5_4; obtain ⟨AO5_3, cO5_3, eO5_3⟩ := Kd.S_slice O5_3.out; subst eO5_3; obtain ⟨AO5_4, cO5_4, eO5_4⟩ := Kd.R_slice O5_4.out; subst eO5_4) | ((with_reducible refine gate_dst (N := 8) rfl ?_); refine box_event ?hg (N := 8) ?hd (cs := #[.int .i64 0, .int .i64 0, .slice none 0 0, .slice none 0 0]) (t := 25) ?hr ?_; (case hd => rfl); (case hg => rfl); (case hr => first | (go_simp; done) | (go_simp; rfl)); intro gb2 hg w6_ hbox hb; have LO_b2 := yA ((by rw [hg]; exact mvT TOP.out : top4 ≤ gb2)); have GE_b2 := yA ((by rw [hg]; exact yX (mB HB.out) : w.heap.size ≤ gb2)); have hlt_ := zX hbox; have LE_top5 := yA (Nat.le_trans (mvT TOP.out) hb.size); replace HB := yA (zD (mB HB.out) hb); replace BX_b1 := yA (yU (mK BX_b1.out) hb); replace O3_3 := yA (yL (mS O3_3.out) hb); replace O3_4 := yA (yK (mR O3_4.out) hb); replace O4_1 := yA (yL (mS O4_1.out) hb); replace O5_3 := yA (yL (mS O5_3.out) hb); replace O5_4 := yA (yK (mR O5_4.out) hb); have BX_b2 := yA hbox; clear hb hg hbox; obtain ⟨top5, et_⟩ : ∃ n, n = w6_.heap.size := ⟨_, rfl⟩; rw [← et_] at hlt_ LE_top5; have HI_b2 := yA hlt_; clear TOP; have TOP := yA (show top5 ≤ w6_.heap.size from Nat.le_of_eq et_); clear et_ hlt_; have hnb_b1_b2 : gb1 ≠ gb2 := Nat.ne_of_lt (Nat.lt_of_lt_of_le HI_b1.out (Nat.le_trans ((Nat.le_trans LE_top2.out (Nat.le_trans LE_top3.out (LE_top4.out)))) LO_b2.out)); have hnc_b1_b2 := Ne.symm hnb_b1_b2; obtain ⟨hfz_b2_w6__0, hfz_b2_w6__1, hfz_b2_w6__2, hfz_b2_w6__3⟩ := fz4 BX_b2.out; obtain ⟨hcz_b1_w6__0, hcz_b1_w6__1, hcz_b1_w6__2, hcz_b1_w6__3⟩ := cz4 BX_b1.out; obtain ⟨hcz_b2_w6__0, hcz_b2_w6__1, hcz_b2_w6__2, hcz_b2_w6__3⟩ := cz4 BX_b2.out))
    go_wp2_with (first | (go_at_call 39; (with_reducible refine (impl_MembersOf.calls k c2_1 c2_2 _ _ c2_3 _ _ c2_4 a1 c4_1 c4_2 _ ?side1 ?side2 ?side3 ?side4 AQ4.out).mono ?_); (case side1 => exact mC ((Kd.S_reads' (far4S O5_3.out (fun _ h_ => Nat.ne_of_lt (Nat.lt_of_lt_of_le h_.2 (Nat.le_trans (zT _) LO_b2.out))) (.int .i64 c2_1) (.int .i64 c2_2) (.slice AO5_3 c2_3.length cO5_3) (.slice AO5_4 c2_4.length cO5_4))).2.2)); (case side2 => exact (Kd.S_reads' O5_3.out).2.1); (case side3 => exact mC ((zN (far4R O5_4.out (fun _ h_ => Nat.ne_of_lt (Nat.lt_of_lt_of_le h_.2 (Nat.le_trans (zT _) LO_b2.out))) (.int .i64 c2_1) (.int .i64 c2_2) (.slice AO5_3 c2_3.length cO5_3) (.slice AO5_4 c2_4.length cO5_4))).2.2)); (case side4 => exact (zN O5_4.out).2.1); rintro e w7_ ⟨u0_, rfl, h0_, hb⟩; have iO7_1 := S_iv h0_ (yX (mB (far4B HB.out GE_b2.out (.int .i64 c2_1) (.int .i64 c2_2) (.slice AO5_3 c2_3.length cO5_3) (.slice AO5_4 c2_4.length cO5_4)))) (mvT (far4T (g := gb2) TOP.out (.int .i64 c2_1) (.int .i64 c2_2) (.slice AO5_3 c2_3.length cO5_3) (.slice AO5_4 c2_4.length cO5_4))); have LE_top6 := yA (Nat.le_trans (mvT (far4T (g := gb2) TOP.out (.int .i64 c2_1) (.int .i64 c2_2) (.slice AO5_3 c2_3.length cO5_3) (.slice AO5_4 c2_4.length cO5_4))) hb.size); obtain ⟨top6, et_⟩ : ∃ n, n = w7_.heap.size := ⟨_, rfl⟩; rw [← et_] at iO7_1 LE_top6; clear TOP; have TOP := yA (show top6 ≤ w7_.heap.size from Nat.le_of_eq et_); replace HB := yA (zD (mB (far4B HB.out GE_b2.out (.int .i64 c2_1) (.int .i64 c2_2) (.slice AO5_3 c2_3.length cO5_3) (.slice AO5_4 c2_4.length cO5_4))) hb); replace BX_b1 := yA (yU (mK (far4K BX_b1.out (Nat.ne_of_lt (Nat.lt_of_lt_of_le HI_b1.out (Nat.le_trans ((Nat.le_trans LE_top2.out (Nat.le_trans LE_top3.out (LE_top4.out)))) LO_b2.out))) (.int .i64 c2_1) (.int .i64 c2_2) (.slice AO5_3 c2_3.length cO5_3) (.slice AO5_4 c2_4.length cO5_4))) hb); replace O3_3 := yA (yL (mS (far4S O3_3.out (fun _ h_ => Nat.ne_of_lt (Nat.lt_of_lt_of_le h_.2 (Nat.le_trans ((Nat.le_trans LE_top3.out (LE_top4.out))) LO_b2.out))) (.int .i64 c2_1) (.int .i64 c2_2) (.slice AO5_3 c2_3.length cO5_3) (.slice AO5_4 c2_4.length cO5_4))) hb); replace O3_4 := yA (yK (mR (far4R O3_4.out (fun _ h_ => Nat.ne_of_lt (Nat.lt_of_lt_of_le h_.2 (Nat.le_trans ((Nat.le_trans LE_top3.out (LE_top4.out))) LO_b2.out))) (.int .i64 c2_1) (.int .i64 c2_2) (.slice AO5_3 c2_3.length cO5_3) (.slice AO5_4 c2_4.length cO5_4))) hb); replace O4_1 := yA (yL (mS (far4S O4_1.out (fun _ h_ => Nat.ne_of_lt (Nat.lt_of_lt_of_le h_.2 (Nat.le_trans (LE_top4.out) LO_b2.out))) (.int .i64 c2_1) (.int .i64 c2_2) (.slice AO5_3 c2_3.length cO5_3) (.slice AO5_4 c2_4.length cO5_4))) hb); replace O5_3 := yA (yL (mS (far4S O5_3.out (fun _ h_ => Nat.ne_of_lt (Nat.lt_of_lt_of_le h_.2 (Nat.le_trans (zT _) LO_b2.out))) (.int .i64 c2_1) (.int .i64 c2_2) (.slice AO5_3 c2_3.length cO5_3) (.slice AO5_4 c2_4.length cO5_4))) hb); replace O5_4 := yA (yK (mR (far4R O5_4.out (fun _ h_ => Nat.ne_of_lt (Nat.lt_of_lt_of_le h_.2 (Nat.le_trans (zT _) LO_b2.out))) (.int .i64 c2_1) (.int .i64 c2_2) (.slice AO5_3 c2_3.length cO5_3) (.slice AO5_4 c2_4.length cO5_4))) hb); replace BX_b2 := yA (yU (mK (put4 BX_b2.out (.int .i64 c2_1) (.int .i64 c2_2) (.slice AO5_3 c2_3.length cO5_3) (.slice AO5_4 c2_4.length cO5_4))) hb); have O7_1 := yA iO7_1; clear et_ hb h0_ iO7_1; obtain ⟨AO7_1, cO7_1, eO7_1⟩ := Kd.S_slice O7_1.out; subst eO7_1; obtain ⟨hcz_b1_w7__0, hcz_b1_w7__1, hcz_b1_w7__2, hcz_b1_w7__3⟩ := cz4 BX_b1.out; obtain ⟨hcz_b2_w7__0, hcz_b2_w7__1, hcz_b2_w7__2, hcz_b2_w7__3⟩ := cz4 BX_b2.out))
    go_wp2_with (first | (go_at_call 40; (with_reducible refine (laws_eqIntSS.calls k _ _ c4_1 _ _ c3_1 true _ ?side1 ?side2 ?side3 ?side4 AQ5.out).mono ?_); (case side1 => exact mC ((Kd.S_reads' O7_1.out).2.2)); (case side2 => exact (Kd.S_reads' O7_1.out).2.1); (case side3 => exact mC ((Kd.S_reads' O4_1.out).2.2)); (case side4 => exact (Kd.S_reads' O4_1.out).2.1); rintro e w8_ ⟨rfl, hd⟩; have hb := hd.below; clear hd; have n9_ := yA (Nat.le_trans (mvT TOP.out) hb.size); clear TOP; have TOP := n9_; clear n9_; replace HB := yA (zD (mB HB.out) hb); replace BX_b1 := yA (yU (mK BX_b1.out) hb); replace O3_3 := yA (yL (mS O3_3.out) hb); replace O3_4 := yA (yK (mR O3_4.out) hb); replace O4_1 := yA (yL (mS O4_1.out) hb); replace O5_3 := yA (yL (mS O5_3.out) hb); replace O5_4 := yA (yK (mR O5_4.out) hb); replace BX_b2 := yA (yU (mK BX_b2.out) hb); replace O7_1 := yA (yL (mS O7_1.out) hb); clear hb; obtain ⟨hcz_b1_w8__0, hcz_b1_w8__1, hcz_b1_w8__2, hcz_b1_w8__3⟩ := cz4 BX_b1.out; obtain ⟨hcz_b2_w8__0, hcz_b2_w8__1, hcz_b2_w8__2, hcz_b2_w8__3⟩ := cz4 BX_b2.out))
    replace HB := yA (yP (HB.out))
    replace BX_b1 := yA (yT (BX_b1.out))
    replace O3_3 := yA (yJ (O3_3.out))
    replace O3_4 := yA (yD (O3_4.out))
    replace O4_1 := yA (yJ (O4_1.out))
    replace O5_3 := yA (yJ (O5_3.out))
    replace O5_4 := yA (yD (O5_4.out))
    replace BX_b2 := yA (yT (BX_b2.out))
    replace O7_1 := yA (yJ (O7_1.out))
    replace TOP := yA (show top6 ≤ w8_.drew.heap.size from TOP.out)
    refine start_ (n := 5) (S := fun w' => w'.cell? ⟨gb1, 0, none⟩ = some (.int .i64 a0_0) ∧ w'.cell? ⟨gb1, 1, none⟩ = some (.int .i64 a0_1) ∧ w'.cell? ⟨gb1, 2, none⟩ = some (.slice A0_2 l0_2.length c0_2) ∧ w'.cell? ⟨gb1, 3, none⟩ = some (.slice A0_3 l0_3.length c0_3) ∧ w'.cell? ⟨gb2, 0, none⟩ = some (.int .i64 c2_1) ∧ w'.cell? ⟨gb2, 1, none⟩ = some (.int .i64 c2_2) ∧ w'.cell? ⟨gb2, 2, none⟩ = some (.slice AO5_3 c2_3.length cO5_3) ∧ w'.cell? ⟨gb2, 3, none⟩ = some (.slice AO5_4 c2_4.length cO5_4)) (ds := []) #[false, false, false, false, false] (by kernel_rfl) rfl rfl ⟨(yV BX_b1.out 0).trans rfl, (yV BX_b1.out 1).trans rfl, (yV BX_b1.out 2).trans rfl, (yV BX_b1.out 3).trans rfl, (yV BX_b2.out 0).trans rfl, (yV BX_b2.out 1).trans rfl, (yV BX_b2.out 2).trans rfl, (yV BX_b2.out 3).trans rfl⟩ (fun hHeld => ?_)
    generalize w8_.drew = w9_ at HB BX_b1 O3_3 O3_4 O4_1 O5_3 O5_4 BX_b2 O7_1 TOP hHeld ⊢
    refine take_ (i := 0) (N := some 45) (v := ?_) (a' := ?_) #[true, false, false, false, false] rfl rfl (by kernel_rfl) (fun _ _ _ h => h) (Or.inl ⟨by rfl, ?_⟩) hHeld ?_ ?_
    rotate_left
    · rintro w' ⟨s0_, s1_, s2_, s3_, s4_, s5_, s6_, s7_⟩
      go_simp
      with_reducible rfl
    rotate_left
    · simp only [Act.put, zA, zB, zC, i64_w, i32_w]
      rfl
    refine take_ (i := 1) (N := some 46) (v := ?_) (a' := ?_) #[true, true, false, false, false] rfl rfl (by kernel_rfl) (fun _ _ _ h => h) (Or.inl ⟨by rfl, ?_⟩) hHeld ?_ ?_
    rotate_left
    · rintro w' ⟨s0_, s1_, s2_, s3_, s4_, s5_, s6_, s7_⟩
      go_simp
      with_reducible rfl
    rotate_left
    · simp only [Act.put, zA, zB, zC, i64_w, i32_w]
      rfl
    refine one_ (i := 2) (N := some 47) #[true, true, true, false, false] rfl rfl (by kernel_rfl) (by decide) (fun K hK => ?_)
    refine goes_ Try.func24 (by kernel_rfl) rfl #[.agg #[.int .i64 a0_0, .int .i64 a0_1, .slice A0_2 l0_2.length c0_2, .slice A0_3 l0_3.length c0_3]] (by rfl) rfl rfl (by (try simp only [zI, zJ, zK]); first | done | rfl | (simp only [zL, zM]; rfl)) ?_
    with_reducible refine (laws_toRelation.calls k a0_0 a0_1 _ _ l0_2 _ _ l0_3 c2_1 c2_2 c2_3 c2_4 _ ?side1 ?side2 ?side3 ?side4 AQ2.out).mono ?_
    (case side1 => exact yM HR0_2.out (mB HB.out))
    (case side2 => exact HC0_2.out)
    (case side3 => exact yM HR0_3.out (mB HB.out))
    (case side4 => exact HC0_3.out)
    rintro e w10_ ⟨u0_, u1_, rfl, h0_, h1_, hb⟩
    refine ⟨_, rfl, ?_⟩
    have iO8_3 := S_iv h0_ (yX (mB HB.out)) (mvT TOP.out)
    have iO8_4 := R_iv h1_ (yX (mB HB.out)) (mvT TOP.out)
    have LE_top7 := yA (Nat.le_trans (mvT TOP.out) hb.size)
    obtain ⟨top7, et_⟩ : ∃ n, n = w10_.heap.size := ⟨_, rfl⟩
    rw [← et_] at iO8_3 iO8_4 LE_top7
    clear TOP
    have TOP := yA (show top7 ≤ w10_.heap.size from Nat.le_of_eq et_)
    replace HB := yA (zD (mB HB.out) hb)
    replace BX_b1 := yA (yU (mK BX_b1.out) hb)
    replace O3_3 := yA (yL (mS O3_3.out) hb)
    replace O3_4 := yA (yK (mR O3_4.out) hb)
    replace O4_1 := yA (yL (mS O4_1.out) hb)
    replace O5_3 := yA (yL (mS O5_3.out) hb)
    replace O5_4 := yA (yK (mR O5_4.out) hb)
    replace BX_b2 := yA (yU (mK BX_b2.out) hb)
    replace O7_1 := yA (yL (mS O7_1.out) hb)
    have O8_3 := yA iO8_3
    have O8_4 := yA iO8_4
    clear et_ hb h0_ iO8_3 h1_ iO8_4
    obtain ⟨AO8_3, cO8_3, eO8_3⟩ := Kd.S_slice O8_3.out
    subst eO8_3
    obtain ⟨AO8_4, cO8_4, eO8_4⟩ := Kd.R_slice O8_4.out
    subst eO8_4
    refine hK.out _ _ ⟨(yV BX_b1.out 0).trans rfl, (yV BX_b1.out 1).trans rfl, (yV BX_b1.out 2).trans rfl, (yV BX_b1.out 3).trans rfl, (yV BX_b2.out 0).trans rfl, (yV BX_b2.out 1).trans rfl, (yV BX_b2.out 2).trans rfl, (yV BX_b2.out 3).trans rfl⟩ (fun hHeld => ?_)
    clear hK K
    refine norm_ (a' := ?_) ?_ ?_
    rotate_left
    · show Act.put _ (some 47) _ = _
      simp only [Act.put, zA, zB, zC, i64_w, i32_w]
      rfl
    refine one_ (i := 3) (N := some 48) #[true, true, true, true, false] rfl rfl (by kernel_rfl) (by decide) (fun K hK => ?_)
    refine goes_ Try.func17 (by kernel_rfl) rfl #[.agg #[.int .i64 c2_1, .int .i64 c2_2, .slice AO5_3 c2_3.length cO5_3, .slice AO5_4 c2_4.length cO5_4], .agg #[.int .i64 c2_1, .int .i64 c2_2, .slice AO8_3 c2_3.length cO8_3, .slice AO8_4 c2_4.length cO8_4]] (by rfl) rfl rfl (by (try simp only [zI, zJ, zK]); first | done | rfl | (simp only [zL, zM]; rfl)) ?_
    with_reducible refine (laws_eqRelation.calls k c2_1 c2_2 _ _ c2_3 _ _ c2_4 c2_1 c2_2 _ _ c2_3 _ _ c2_4 true _ ?side1 ?side2 ?side3 ?side4 ?side5 ?side6 ?side7 ?side8 AQ6.out).mono ?_
    (case side1 => exact mC ((Kd.S_reads' O5_3.out).2.2))
    (case side2 => exact (Kd.S_reads' O5_3.out).2.1)
    (case side3 => exact mC ((zN O5_4.out).2.2))
    (case side4 => exact (zN O5_4.out).2.1)
    (case side5 => exact mC ((Kd.S_reads' O8_3.out).2.2))
    (case side6 => exact (Kd.S_reads' O8_3.out).2.1)
    (case side7 => exact mC ((zN O8_4.out).2.2))
    (case side8 => exact (zN O8_4.out).2.1)
    rintro e w11_ ⟨rfl, hb⟩
    refine ⟨_, rfl, ?_⟩
    have n9_ := yA (Nat.le_trans (mvT TOP.out) hb.size)
    clear TOP
    have TOP := n9_
    clear n9_
    have n0_ := yA (zD (mB HB.out) hb)
    have n1_ := yA (yU (mK BX_b1.out) hb)
    have n2_ := yA (yL (mS O3_3.out) hb)
    have n3_ := yA (yK (mR O3_4.out) hb)
    have n4_ := yA (yL (mS O4_1.out) hb)
    have n5_ := yA (yL (mS O5_3.out) hb)
    have n6_ := yA (yK (mR O5_4.out) hb)
    have n7_ := yA (yU (mK BX_b2.out) hb)
    have n8_ := yA (yL (mS O7_1.out) hb)
    have n9_ := yA (yL (mS O8_3.out) hb)
    have n10_ := yA (yK (mR O8_4.out) hb)
    clear HB BX_b1 O3_3 O3_4 O4_1 O5_3 O5_4 BX_b2 O7_1 O8_3 O8_4
    have HB := n0_
    have BX_b1 := n1_
    have O3_3 := n2_
    have O3_4 := n3_
    have O4_1 := n4_
    have O5_3 := n5_
    have O5_4 := n6_
    have BX_b2 := n7_
    have O7_1 := n8_
    have O8_3 := n9_
    have O8_4 := n10_
    clear n0_ n1_ n2_ n3_ n4_ n5_ n6_ n7_ n8_ n9_ n10_ hb
    refine hK.out _ _ ⟨(yV BX_b1.out 0).trans rfl, (yV BX_b1.out 1).trans rfl, (yV BX_b1.out 2).trans rfl, (yV BX_b1.out 3).trans rfl, (yV BX_b2.out 0).trans rfl, (yV BX_b2.out 1).trans rfl, (yV BX_b2.out 2).trans rfl, (yV BX_b2.out 3).trans rfl⟩ (fun hHeld => ?_)
    clear hK K
    refine norm_ (a' := ?_) ?_ ?_
    rotate_left
    · show Act.put _ (some 48) _ = _
      simp only [Act.put, zA, zB, zC, i64_w, i32_w]
      rfl
    refine pure_ (i := 4) (N := some 49) (v := ?_) (a' := ?_) #[true, true, true, true, true] rfl rfl (by kernel_rfl) (fun _ _ _ h => h) (Or.inl ⟨by rfl, ?_⟩) ?_ ?_
    rotate_left
    · intro w'
      go_simp
      with_reducible rfl
    rotate_left
    · simp only [Act.put, zA, zB, zC, i64_w, i32_w]
      rfl
    refine done_ (by kernel_rfl) ?_
    obtain ⟨hcz_b1_w11__0, hcz_b1_w11__1, hcz_b1_w11__2, hcz_b1_w11__3⟩ := cz4 BX_b1.out
    obtain ⟨hcz_b2_w11__0, hcz_b2_w11__1, hcz_b2_w11__2, hcz_b2_w11__3⟩ := cz4 BX_b2.out
    obtain ⟨hfz_b1_w11__0, hfz_b1_w11__1, hfz_b1_w11__2, hfz_b1_w11__3⟩ := fz4 BX_b1.out
    obtain ⟨hfz_b2_w11__0, hfz_b2_w11__1, hfz_b2_w11__2, hfz_b2_w11__3⟩ := fz4 BX_b2.out
    go_wp2_with (first | (go_at_call 18; (with_reducible refine (laws_markRelation.calls k _ _ _ _ c2_1 c2_2 c2_3 c2_4 1 c7_1 c7_2 c7_3 w _ (mB HB.out) (mS O5_3.out) (mR O5_4.out) AQ7.out).mono ?_); rintro e w12_ ⟨rfl, hs, hr, hb, hk⟩; have n9_ := yA (Nat.le_trans (mvT TOP.out) hk.1); clear TOP; have TOP := n9_; clear n9_; replace HB := yA (hb); replace BX_b1 := yA (((hk.2 _ (zX (mK BX_b1.out)) (fun hP => hP.elim (fun q2_ => absurd (Nat.lt_of_lt_of_le HI_b1.out ((Nat.le_trans LE_top2.out (LE_top3.out)))) (Nat.not_lt.2 q2_.1)) (fun q2_ => absurd (Nat.lt_of_lt_of_le HI_b1.out ((Nat.le_trans LE_top2.out (LE_top3.out)))) (Nat.not_lt.2 q2_.1)))).trans (mK BX_b1.out))); replace O3_3 := yA (S_kept (mS O3_3.out) hk (fun _ q1_ hP => hP.elim (fun q2_ => absurd q1_.2 (Nat.not_lt.2 (Nat.le_trans (LE_top3.out) q2_.1))) (fun q2_ => absurd q1_.2 (Nat.not_lt.2 (Nat.le_trans (LE_top3.out) q2_.1))))); replace O3_4 := yA (Kd.R_kept (mR O3_4.out) hk (fun _ q1_ hP => hP.elim (fun q2_ => absurd q1_.2 (Nat.not_lt.2 (Nat.le_trans (LE_top3.out) q2_.1))) (fun q2_ => absurd q1_.2 (Nat.not_lt.2 (Nat.le_trans (LE_top3.out) q2_.1))))); replace O4_1 := yA (S_kept (mS O4_1.out) hk (fun _ q1_ hP => hP.elim (fun q2_ => absurd q1_.2 (Nat.not_lt.2 (Nat.le_trans (zT _) q2_.1))) (fun q2_ => absurd q1_.2 (Nat.not_lt.2 (Nat.le_trans (zT _) q2_.1))))); replace BX_b2 := yA (((hk.2 _ (zX (mK BX_b2.out)) (fun hP => hP.elim (fun q2_ => absurd q2_.2 (Nat.not_lt.2 (Nat.le_trans (zT _) LO_b2.out))) (fun q2_ => absurd q2_.2 (Nat.not_lt.2 (Nat.le_trans (zT _) LO_b2.out))))).trans (mK BX_b2.out))); replace O7_1 := yA (S_kept (mS O7_1.out) hk (fun _ q1_ hP => hP.elim (fun q2_ => absurd q2_.2 (Nat.not_lt.2 (Nat.le_trans (LE_top5.out) q1_.1))) (fun q2_ => absurd q2_.2 (Nat.not_lt.2 (Nat.le_trans (LE_top5.out) q1_.1))))); replace O8_3 := yA (S_kept (mS O8_3.out) hk (fun _ q1_ hP => hP.elim (fun q2_ => absurd q2_.2 (Nat.not_lt.2 (Nat.le_trans ((Nat.le_trans LE_top5.out (LE_top6.out))) q1_.1))) (fun q2_ => absurd q2_.2 (Nat.not_lt.2 (Nat.le_trans ((Nat.le_trans LE_top5.out (LE_top6.out))) q1_.1))))); replace O8_4 := yA (Kd.R_kept (mR O8_4.out) hk (fun _ q1_ hP => hP.elim (fun q2_ => absurd q2_.2 (Nat.not_lt.2 (Nat.le_trans ((Nat.le_trans LE_top5.out (LE_top6.out))) q1_.1))) (fun q2_ => absurd q2_.2 (Nat.not_lt.2 (Nat.le_trans ((Nat.le_trans LE_top5.out (LE_top6.out))) q1_.1))))); clear O5_3 O5_4; clear hs hr hb hk; obtain ⟨hcz_b1_w12__0, hcz_b1_w12__1, hcz_b1_w12__2, hcz_b1_w12__3⟩ := cz4 BX_b1.out))
    go_wp2_with (first | (go_at_call 40; (with_reducible refine (laws_eqIntSS.calls k _ _ c4_1 _ _ c3_1 true _ ?side1 ?side2 ?side3 ?side4 AQ5.out).mono ?_); (case side1 => exact mC ((Kd.S_reads' O7_1.out).2.2)); (case side2 => exact (Kd.S_reads' O7_1.out).2.1); (case side3 => exact mC ((Kd.S_reads' O4_1.out).2.2)); (case side4 => exact (Kd.S_reads' O4_1.out).2.1); rintro e w13_ ⟨rfl, hd⟩; have hb := hd.below; clear hd; have n9_ := yA (Nat.le_trans (mvT TOP.out) hb.size); clear TOP; have TOP := n9_; clear n9_; replace HB := yA (zD (mB HB.out) hb); replace BX_b1 := yA (yU (mK BX_b1.out) hb); replace O3_3 := yA (yL (mS O3_3.out) hb); replace O3_4 := yA (yK (mR O3_4.out) hb); replace O4_1 := yA (yL (mS O4_1.out) hb); replace BX_b2 := yA (yU (mK BX_b2.out) hb); replace O7_1 := yA (yL (mS O7_1.out) hb); replace O8_3 := yA (yL (mS O8_3.out) hb); replace O8_4 := yA (yK (mR O8_4.out) hb); clear hb; obtain ⟨hcz_b1_w13__0, hcz_b1_w13__1, hcz_b1_w13__2, hcz_b1_w13__3⟩ := cz4 BX_b1.out))
    go_wp2_with (first | (go_at_call 41; (with_reducible refine (laws_markIntSS.calls k _ _ c4_1 1 c9 c8_2 w _ (mB HB.out) (mS O7_1.out) AQ8.out).mono ?_); rintro e w14_ ⟨rfl, hs, hb, hk⟩; have n9_ := yA (Nat.le_trans (mvT TOP.out) hk.1); clear TOP; have TOP := n9_; clear n9_; have N_O7_1 := yA (hs); replace HB := yA (hb); replace BX_b1 := yA (((hk.2 _ (zX (mK BX_b1.out)) (fun hP => (fun q2_ => absurd (Nat.lt_of_lt_of_le HI_b1.out ((Nat.le_trans LE_top2.out (Nat.le_trans LE_top3.out (Nat.le_trans LE_top4.out (LE_top5.out)))))) (Nat.not_lt.2 q2_.1)) hP)).trans (mK BX_b1.out))); replace O3_3 := yA (S_kept (mS O3_3.out) hk (fun _ q1_ hP => (fun q2_ => absurd q1_.2 (Nat.not_lt.2 (Nat.le_trans ((Nat.le_trans LE_top3.out (Nat.le_trans LE_top4.out (LE_top5.out)))) q2_.1))) hP)); replace O3_4 := yA (Kd.R_kept (mR O3_4.out) hk (fun _ q1_ hP => (fun q2_ => absurd q1_.2 (Nat.not_lt.2 (Nat.le_trans ((Nat.le_trans LE_top3.out (Nat.le_trans LE_top4.out (LE_top5.out)))) q2_.1))) hP)); replace O4_1 := yA (S_kept (mS O4_1.out) hk (fun _ q1_ hP => (fun q2_ => absurd q1_.2 (Nat.not_lt.2 (Nat.le_trans ((Nat.le_trans LE_top4.out (LE_top5.out))) q2_.1))) hP)); replace BX_b2 := yA (((hk.2 _ (zX (mK BX_b2.out)) (fun hP => (fun q2_ => absurd (Nat.lt_of_lt_of_le HI_b2.out (zT _)) (Nat.not_lt.2 q2_.1)) hP)).trans (mK BX_b2.out))); replace O8_3 := yA (S_kept (mS O8_3.out) hk (fun _ q1_ hP => (fun q2_ => absurd q2_.2 (Nat.not_lt.2 (Nat.le_trans (zT _) q1_.1))) hP)); replace O8_4 := yA (Kd.R_kept (mR O8_4.out) hk (fun _ q1_ hP => (fun q2_ => absurd q2_.2 (Nat.not_lt.2 (Nat.le_trans (zT _) q1_.1))) hP)); clear O7_1; have O7_1 := N_O7_1; clear N_O7_1; clear hs hb hk; obtain ⟨hcz_b1_w14__0, hcz_b1_w14__1, hcz_b1_w14__2, hcz_b1_w14__3⟩ := cz4 BX_b1.out))
    have eG_ : c4_1.length = c8_2.length := (Kd.S_reads' O7_1.out).1
    rw [eG_] at O7_1 ⊢
    clear eG_
    go_wp2_with (first | (go_at_call 42; (with_reducible refine (laws_heldIntSS.calls k _ _ c8_2 1 c9 _ ?side1 ?side2 AQ9.out).mono ?_); (case side1 => exact mC ((Kd.S_reads' O7_1.out).2.2)); (case side2 => exact (Kd.S_reads' O7_1.out).2.1); rintro e w15_ ⟨rfl, hd⟩; have hb := hd.below; clear hd; have n9_ := yA (Nat.le_trans (mvT TOP.out) hb.size); clear TOP; have TOP := n9_; clear n9_; replace HB := yA (zD (mB HB.out) hb); replace BX_b1 := yA (yU (mK BX_b1.out) hb); replace O3_3 := yA (yL (mS O3_3.out) hb); replace O3_4 := yA (yK (mR O3_4.out) hb); replace O4_1 := yA (yL (mS O4_1.out) hb); replace BX_b2 := yA (yU (mK BX_b2.out) hb); replace O8_3 := yA (yL (mS O8_3.out) hb); replace O8_4 := yA (yK (mR O8_4.out) hb); replace O7_1 := yA (yL (mS O7_1.out) hb); clear hb; obtain ⟨hcz_b1_w15__0, hcz_b1_w15__1, hcz_b1_w15__2, hcz_b1_w15__3⟩ := cz4 BX_b1.out))
    go_wp2_with (first | (go_at_call 24; (with_reducible refine (laws_toRelation.calls k a0_0 a0_1 _ _ l0_2 _ _ l0_3 c2_1 c2_2 c2_3 c2_4 _ ?side1 ?side2 ?side3 ?side4 AQ2.out).mono ?_); (case side1 => exact yM HR0_2.out (mB HB.out)); (case side2 => exact HC0_2.out); (case side3 => exact yM HR0_3.out (mB HB.out)); (case side4 => exact HC0_3.out); rintro e w16_ ⟨u0_, u1_, rfl, h0_, h1_, hb⟩; have iO9_3 := S_iv h0_ (yX (mB HB.out)) (mvT TOP.out); have iO9_4 := R_iv h1_ (yX (mB HB.out)) (mvT TOP.out); have LE_top8 := yA (Nat.le_trans (mvT TOP.out) hb.size); obtain ⟨top8, et_⟩ : ∃ n, n = w16_.heap.size := ⟨_, rfl⟩; rw [← et_] at iO9_3 iO9_4 LE_top8; clear TOP; have TOP := yA (show top8 ≤ w16_.heap.size from Nat.le_of_eq et_); replace HB := yA (zD (mB HB.out) hb); replace BX_b1 := yA (yU (mK BX_b1.out) hb); replace O3_3 := yA (yL (mS O3_3.out) hb); replace O3_4 := yA (yK (mR O3_4.out) hb); replace O4_1 := yA (yL (mS O4_1.out) hb); replace BX_b2 := yA (yU (mK BX_b2.out) hb); replace O8_3 := yA (yL (mS O8_3.out) hb); replace O8_4 := yA (yK (mR O8_4.out) hb); replace O7_1 := yA (yL (mS O7_1.out) hb); have O9_3 := yA iO9_3; have O9_4 := yA iO9_4; clear et_ hb h0_ iO9_3 h1_ iO9_4; obtain ⟨AO9_3, cO9_3, eO9_3⟩ := Kd.S_slice O9_3.out; subst eO9_3; obtain ⟨AO9_4, cO9_4, eO9_4⟩ := Kd.R_slice O9_4.out; subst eO9_4; obtain ⟨hcz_b1_w16__0, hcz_b1_w16__1, hcz_b1_w16__2, hcz_b1_w16__3⟩ := cz4 BX_b1.out))
    go_wp2_with (first | (go_at_call 39; (with_reducible refine (impl_MembersOf.calls k c2_1 c2_2 _ _ c2_3 _ _ c2_4 a1 c4_1 c4_2 _ ?side1 ?side2 ?side3 ?side4 AQ4.out).mono ?_); (case side1 => exact mC ((Kd.S_reads' O9_3.out).2.2)); (case side2 => exact (Kd.S_reads' O9_3.out).2.1); (case side3 => exact mC ((zN O9_4.out).2.2)); (case side4 => exact (zN O9_4.out).2.1); rintro e w17_ ⟨u0_, rfl, h0_, hb⟩; have iO10_1 := S_iv h0_ (yX (mB HB.out)) (mvT TOP.out); have LE_top9 := yA (Nat.le_trans (mvT TOP.out) hb.size); obtain ⟨top9, et_⟩ : ∃ n, n = w17_.heap.size := ⟨_, rfl⟩; rw [← et_] at iO10_1 LE_top9; clear TOP; have TOP := yA (show top9 ≤ w17_.heap.size from Nat.le_of_eq et_); replace HB := yA (zD (mB HB.out) hb); replace BX_b1 := yA (yU (mK BX_b1.out) hb); replace O3_3 := yA (yL (mS O3_3.out) hb); replace O3_4 := yA (yK (mR O3_4.out) hb); replace O4_1 := yA (yL (mS O4_1.out) hb); replace BX_b2 := yA (yU (mK BX_b2.out) hb); replace O8_3 := yA (yL (mS O8_3.out) hb); replace O8_4 := yA (yK (mR O8_4.out) hb); replace O7_1 := yA (yL (mS O7_1.out) hb); replace O9_3 := yA (yL (mS O9_3.out) hb); replace O9_4 := yA (yK (mR O9_4.out) hb); have O10_1 := yA iO10_1; clear et_ hb h0_ iO10_1; obtain ⟨AO10_1, cO10_1, eO10_1⟩ := Kd.S_slice O10_1.out; subst eO10_1; obtain ⟨hcz_b1_w17__0, hcz_b1_w17__1, hcz_b1_w17__2, hcz_b1_w17__3⟩ := cz4 BX_b1.out))
    go_wp2_with (first | (go_at_call 40; (with_reducible refine (laws_eqIntSS.calls k _ _ c4_1 _ _ c3_1 true _ ?side1 ?side2 ?side3 ?side4 AQ5.out).mono ?_); (case side1 => exact mC ((Kd.S_reads' O10_1.out).2.2)); (case side2 => exact (Kd.S_reads' O10_1.out).2.1); (case side3 => exact mC ((Kd.S_reads' O4_1.out).2.2)); (case side4 => exact (Kd.S_reads' O4_1.out).2.1); rintro e w18_ ⟨rfl, hd⟩; have hb := hd.below; clear hd; have n9_ := yA (Nat.le_trans (mvT TOP.out) hb.size); clear TOP; have TOP := n9_; clear n9_; replace HB := yA (zD (mB HB.out) hb); replace BX_b1 := yA (yU (mK BX_b1.out) hb); replace O3_3 := yA (yL (mS O3_3.out) hb); replace O3_4 := yA (yK (mR O3_4.out) hb); replace O4_1 := yA (yL (mS O4_1.out) hb); replace BX_b2 := yA (yU (mK BX_b2.out) hb); replace O8_3 := yA (yL (mS O8_3.out) hb); replace O8_4 := yA (yK (mR O8_4.out) hb); replace O7_1 := yA (yL (mS O7_1.out) hb); replace O9_3 := yA (yL (mS O9_3.out) hb); replace O9_4 := yA (yK (mR O9_4.out) hb); replace O10_1 := yA (yL (mS O10_1.out) hb); clear hb; obtain ⟨hcz_b1_w18__0, hcz_b1_w18__1, hcz_b1_w18__2, hcz_b1_w18__3⟩ := cz4 BX_b1.out))
    go_wp2_with (first | (go_at_call 42; (with_reducible refine (laws_heldIntSS.calls k _ _ c8_2 1 c9 _ ?side1 ?side2 AQ9.out).mono ?_); (case side1 => exact mC ((Kd.S_reads' O7_1.out).2.2)); (case side2 => exact (Kd.S_reads' O7_1.out).2.1); rintro e w19_ ⟨rfl, hd⟩; have hb := hd.below; clear hd; have n9_ := yA (Nat.le_trans (mvT TOP.out) hb.size); clear TOP; have TOP := n9_; clear n9_; replace HB := yA (zD (mB HB.out) hb); replace BX_b1 := yA (yU (mK BX_b1.out) hb); replace O3_3 := yA (yL (mS O3_3.out) hb); replace O3_4 := yA (yK (mR O3_4.out) hb); replace O4_1 := yA (yL (mS O4_1.out) hb); replace BX_b2 := yA (yU (mK BX_b2.out) hb); replace O8_3 := yA (yL (mS O8_3.out) hb); replace O8_4 := yA (yK (mR O8_4.out) hb); replace O7_1 := yA (yL (mS O7_1.out) hb); replace O9_3 := yA (yL (mS O9_3.out) hb); replace O9_4 := yA (yK (mR O9_4.out) hb); replace O10_1 := yA (yL (mS O10_1.out) hb); clear hb; obtain ⟨hcz_b1_w19__0, hcz_b1_w19__1, hcz_b1_w19__2, hcz_b1_w19__3⟩ := cz4 BX_b1.out))
    try go_wp2
    go_ret
    exact ⟨rfl, mB HB.out⟩
  · rw [if_neg hc] at h
    cases h

end Go.Proofs.Ytgopcliohchkmaa.Q
