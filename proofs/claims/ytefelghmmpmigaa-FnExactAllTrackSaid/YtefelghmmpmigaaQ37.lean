-- written by a program of this session (a turned copy of the kit's print) out of the translation
-- squeezed
-- compact
import Derived.Test.YtefelghmmpmigaaQ0
import Derived.Test.YtefelghmmpmigaaQ34
import Derived.Test.YtefelghmmpmigaaQ36
namespace Go.Proofs.Ytefelghmmpmigaa.Q
open Go.RowKit Go.Proofs.YtefelghmmpmigaaW.PrintWords Go.Proofs.YtefelghmmpmigaaW.PrintLast Go.Proofs.YtefelghmmpmigaaW.PrintMore
attribute [local go_sem] max2_int min2_int max_two min_two max_three min_three max_four min_four   -- for this text's walks alone
set_option linter.unusedVariables false
set_option linter.unusedSimpArgs false

/-! ### laws_markRelation: function 16 -/
def laws_markRelation.f (k : Nat) (l2 : List (List Int)) (l3 : List Bool) (m : Int) : Option (Int × List (List Int) × List Bool) := (laws_markIntSS.f k l2 m).bind fun p => (laws_markBoolS.f k l3 p.1).bind fun q => some (q.1, p.2, q.2)
theorem laws_markRelation.mono : ∀ a0 a1 a2 k, LeO (laws_markRelation.f k a0 a1 a2) (laws_markRelation.f (k + 1) a0 a1 a2) := fun a0 a1 a2 k => LeO.bind (laws_markIntSS.mono _ _ k) (fun p => LeO.bind (laws_markBoolS.mono _ _ k) (fun q => LeO.refl _))
theorem S_off {α : Type} {d : Kd α} {e base : Nat} {w : World} {ok : Nat → Prop} {v u : Value} {xs : List α} {t : Nat} (h : Kd.S d e w base ok v xs) (hu : ∀ k, u.ownBlock = some k → ∃ cells, w.heap[k]? = some (.cells cells t (0, 0))) (ht : ∀ q, q ∈ e :: d.E → q ≠ t) :
  Kd.S d e w base (fun k => (ok k ∧ some k ≠ u.ownBlock) ∧ k < w.heap.size) v xs := by
 cases hb : u.ownBlock with
 | none => exact Kd.S_mono (Kd.S_bound h) (fun k hk => ⟨⟨hk.1, by simp⟩, hk.2.2.1⟩)
 | some g =>
  obtain ⟨cells, hc⟩ := hu g hb
  exact Kd.S_mono (Kd.S_bound (Kd.S_types h hc ht)) (fun k hk => ⟨⟨hk.1.1, fun he => hk.1.2 (by injection he)⟩, hk.2.2.1⟩)
theorem S_kept {α : Type} {d : Kd α} {e base : Nat} {w w2 : World} {ok S : Nat → Prop} {v : Value} {xs : List α} (h : Kd.S d e w base ok v xs) (hk : Kept w w2 S) (hne : ∀ k, ok k → ¬ S k) : Kd.S d e w2 base ok v xs := Kd.S_step h (fun k ho hlt => hk.2 k hlt (hne k ho))
set_option maxHeartbeats 2000000 in
set_option maxRecDepth 100000 in
theorem laws_markRelation.calls (k : Nat) (P0_ P1_ : Nat → Prop) (v2 v3 : Value) (a b : Int) (l2 : List (List Int)) (l3 : List Bool) (m r1 : Int) (r2 : List (List Int)) (r3 : List Bool) (w0 w : World) (hB : Below w0.heap.size w0 w)
  (hS : Kd.S (Kd.slice 3 (Kd.int .i64)) 23 w w0.heap.size P0_ v2 l2) (hR : Kd.R Kd.bool 4 w w0.heap.size P1_ v3 l3) (h : laws_markRelation.f k l2 l3 m = some (r1, r2, r3)) :
  Calls Try.prog 16 #[.agg #[.int .i64 a, .int .i64 b, v2, v3], .int .i64 m] w fun e w' => e = .returned (.int .i64 r1) ∧ Kd.S (Kd.slice 3 (Kd.int .i64)) 23 w' w0.heap.size P0_ v2 r2 ∧ Kd.R Kd.bool 4 w' w0.heap.size P1_ v3 r3 ∧ Below w0.heap.size w0 w' ∧ Kept w w' (fun k_ => P0_ k_ ∨ P1_ k_) := by
 unfold laws_markRelation.f at h
 obtain ⟨⟨t1, t2⟩, A1, h⟩ := Option.bind_eq_some_iff.mp h
 obtain ⟨⟨t3, t4⟩, A2, h⟩ := Option.bind_eq_some_iff.mp h
 simp only [Option.some.injEq, Prod.mk.injEq] at h
 obtain ⟨rfl, rfl, rfl⟩ := h
 have hS' := S_off (u := v3) hS (Kd.R_typed hR) (by decide)
 have HS := yA hS'
 have HR := yA (Kd.R_tight rfl hR)
 have HR0 := yA hR.1
 have HB := yA hB
 have HA1 := yA A1
 have HA2 := yA A2
 obtain ⟨A2_, c2_, e2⟩ := Kd.S_slice hS
 obtain ⟨A3_, c3_, e3⟩ := Kd.R_slice hR
 clear hS hR hS' hB A1 A2
 subst e2
 subst e3
 go_enter Try.func16, Try.ntmps16
 go_wp2_with (go_at_call 42; refine (laws_markIntSS.calls k _ _ l2 m t1 t2 w0 _ (HB.out.alloc HB.out.size _) (yH HS.out _) HA1.out).mono ?_; rintro e w2 ⟨rfl, hs2, hb2, hk2⟩; have BK2 := yA ((hk2.2 w.heap.size (by simp) (fun h_ => absurd h_.2 (Nat.lt_irrefl _))).trans (blk_new w _)); have HS2 := yA hs2; have HB2 := yA hb2; have HK2 := yA ((Kept.alloc (Kept.refl w (fun k_ => P0_ k_ ∨ (P1_ k_))) _).then_ hk2 (fun k_ h_ => Or.inl (Or.inl h_.1.1))); have HR2 := yA (Kd.R_kept (yB HR.out _) hk2 (fun k_ h_ hP => hP.1.2 h_)); have hx3 := yV BK2.out 3; clear hs2 hb2 hk2)
 go_wp2_with (go_at_call 44; refine (laws_markBoolS.calls k _ _ l3 t1 t3 t4 w0 _ HB2.out HR2.out HA2.out).mono ?_; rintro e w3 ⟨rfl, hr3, hb3, hk3⟩; have HS3 := yA (S_kept HS2.out hk3 (fun k_ h_ he => h_.1.2 he)); have HB3 := yA hb3; have HK3 := yA (HK2.out.then_ hk3 (fun k_ h_ => Or.inl (Or.inr (HR0.out k_ h_.symm)))); have HR3 := yA (Kd.R_reok (ok := P1_) rfl hr3 (fun k_ h_ => HR0.out k_ h_)); clear hr3 hb3 hk3)
 go_ret
 exact ⟨rfl, Kd.S_mono HS3.out (fun _ h_ => h_.1.1), HR3.out, HB3.out, HK3.out⟩
section
variable {α : Type} {d : Kd α} {e n g t base : Nat} {ok : Nat → Prop} {w c w1 W : World} {v : Value} {xs : List α}
theorem mvT [m : Nonempty (MvS w w1)] (h : n ≤ w.heap.size) : n ≤ w1.heap.size := m.elim fun m => Nat.le_trans h m.b.size
theorem S_iv (h : d.S e w1 c.heap.size ok v xs) (hb : w.heap.size ≤ c.heap.size) (ht : n ≤ c.heap.size) : d.S e w1 w.heap.size (fun k => n ≤ k ∧ k < w1.heap.size) v xs := Kd.S_mono (Kd.S_lower (Kd.S_bound h) hb) (fun k hk => ⟨Nat.le_trans ht hk.2.1, hk.2.2.1⟩)
theorem R_iv (h : d.R e w1 c.heap.size ok v xs) (hb : w.heap.size ≤ c.heap.size) (ht : n ≤ c.heap.size) : d.R e w1 w.heap.size (fun k => n ≤ k ∧ k < w1.heap.size) v xs := zP (Kd.R_lower (Kd.R_bound h) hb) (fun k hk => ⟨Nat.le_trans ht hk.2.1, hk.2.2.1⟩)
theorem far4S (h : d.S e w base ok v xs) (hok : ∀ k, ok k → k ≠ g) (u0 u1 u2 u3 : Value) : d.S e ((((w.setCell ⟨g, 0, none⟩ u0).setCell ⟨g, 1, none⟩ u1).setCell ⟨g, 2, none⟩ u2).setCell ⟨g, 3, none⟩ u3) base ok v xs :=
 Kd.S_far (p := ⟨g, 3, none⟩) (Kd.S_far (p := ⟨g, 2, none⟩) (Kd.S_far (p := ⟨g, 1, none⟩) (Kd.S_far (p := ⟨g, 0, none⟩) h hok u0) hok u1) hok u2) hok u3
theorem far4R (h : d.R e w base ok v xs) (hok : ∀ k, ok k → k ≠ g) (u0 u1 u2 u3 : Value) : d.R e ((((w.setCell ⟨g, 0, none⟩ u0).setCell ⟨g, 1, none⟩ u1).setCell ⟨g, 2, none⟩ u2).setCell ⟨g, 3, none⟩ u3) base ok v xs :=
 zQ (p := ⟨g, 3, none⟩) (zQ (p := ⟨g, 2, none⟩) (zQ (p := ⟨g, 1, none⟩) (zQ (p := ⟨g, 0, none⟩) h hok u0) hok u1) hok u2) hok u3
theorem far4K {g1 : Nat} {cs : Array Value} (h : w.heap[g1]? = some (.cells cs t (0, 0))) (hn : g1 ≠ g) (u0 u1 u2 u3 : Value) : ((((w.setCell ⟨g, 0, none⟩ u0).setCell ⟨g, 1, none⟩ u1).setCell ⟨g, 2, none⟩ u2).setCell ⟨g, 3, none⟩ u3).heap[g1]? = some (.cells cs t (0, 0)) :=
 blk_far (p := ⟨g, 3, none⟩) (blk_far (p := ⟨g, 2, none⟩) (blk_far (p := ⟨g, 1, none⟩) (blk_far (p := ⟨g, 0, none⟩) h hn u0) hn u1) hn u2) hn u3
theorem put4 {z0 z1 z2 z3 : Value} (h : w.heap[g]? = some (.cells #[z0, z1, z2, z3] t (0, 0))) (u0 u1 u2 u3 : Value) : ((((w.setCell ⟨g, 0, none⟩ u0).setCell ⟨g, 1, none⟩ u1).setCell ⟨g, 2, none⟩ u2).setCell ⟨g, 3, none⟩ u3).heap[g]? = some (.cells #[u0, u1, u2, u3] t (0, 0)) :=
 blk_put (cs := #[u0, u1, u2, z3]) (blk_put (cs := #[u0, u1, z2, z3]) (blk_put (cs := #[u0, z1, z2, z3]) (blk_put (cs := #[z0, z1, z2, z3]) h 0 u0 rfl) 1 u1 rfl) 2 u2 rfl) 3 u3 rfl
theorem far4B (h : Below w.heap.size w W) (hg : w.heap.size ≤ g) (u0 u1 u2 u3 : Value) : Below w.heap.size w ((((W.setCell ⟨g, 0, none⟩ u0).setCell ⟨g, 1, none⟩ u1).setCell ⟨g, 2, none⟩ u2).setCell ⟨g, 3, none⟩ u3) := yQ (yQ (yQ (yQ h hg) hg) hg) hg
theorem far4T (h : n ≤ W.heap.size) (u0 u1 u2 u3 : Value) : n ≤ ((((W.setCell ⟨g, 0, none⟩ u0).setCell ⟨g, 1, none⟩ u1).setCell ⟨g, 2, none⟩ u2).setCell ⟨g, 3, none⟩ u3).heap.size := by simpa [World.setCell] using h
end

end Go.Proofs.Ytefelghmmpmigaa.Q
