-- the marks of a sequence, walked by hand
import Derived.Test.YtefelghmmpmigaaQ37
import Derived.Test.YtefelghmmpmigaaQ33
import Derived.Test.YtefelghmmpmigaaQ34
namespace Go.Proofs.Ytefelghmmpmigaa.Q
open Go.RowKit Go.Proofs.YtefelghmmpmigaaW.PrintWords Go.Proofs.YtefelghmmpmigaaW.PrintLast Go.Proofs.YtefelghmmpmigaaW.PrintMore
set_option linter.unusedVariables false
set_option linter.unusedSimpArgs false

/-! ### laws_markSequence: function 15 -/
def laws_markSequence.f (k : Nat) (l1 : List (List Int)) (l2 : List Int) (m : Int) : Option (Int × List (List Int) × List Int) := (laws_markIntSS.f k l1 m).bind fun p => (laws_markIntS.f k l2 p.1).bind fun q => some (q.1, p.2, q.2)
theorem laws_markSequence.mono : ∀ a0 a1 a2 k, LeO (laws_markSequence.f k a0 a1 a2) (laws_markSequence.f (k + 1) a0 a1 a2) := fun a0 a1 a2 k => LeO.bind (laws_markIntSS.mono _ _ k) (fun p => LeO.bind (laws_markIntS.mono _ _ k) (fun q => LeO.refl _))
set_option maxHeartbeats 2000000 in
set_option maxRecDepth 100000 in
theorem laws_markSequence.calls (k : Nat) (P0_ P1_ : Nat → Prop) (v2 v3 : Value) (a : Int) (l2 : List (List Int)) (l3 : List Int) (m r1 : Int) (r2 : List (List Int)) (r3 : List Int) (w0 w : World) (hB : Below w0.heap.size w0 w)
    (hne : ∀ k, P0_ k → some k ≠ v3.ownBlock) (hS : Kd.S (Kd.slice 3 (Kd.int .i64)) 23 w w0.heap.size P0_ v2 l2) (hR : Kd.R (Kd.int .i64) 3 w w0.heap.size P1_ v3 l3) (h : laws_markSequence.f k l2 l3 m = some (r1, r2, r3)) :
    Calls Try.prog 15 #[.agg #[.int .i64 a, v2, v3], .int .i64 m] w fun e w' => e = .returned (.int .i64 r1) ∧ Kd.S (Kd.slice 3 (Kd.int .i64)) 23 w' w0.heap.size P0_ v2 r2 ∧ Kd.R (Kd.int .i64) 3 w' w0.heap.size P1_ v3 r3 ∧ Below w0.heap.size w0 w' ∧ Kept w w' (fun k_ => P0_ k_ ∨ P1_ k_) := by
  unfold laws_markSequence.f at h
  obtain ⟨⟨t1, t2⟩, A1, h⟩ := Option.bind_eq_some_iff.mp h
  obtain ⟨⟨t3, t4⟩, A2, h⟩ := Option.bind_eq_some_iff.mp h
  simp only [Option.some.injEq, Prod.mk.injEq] at h
  obtain ⟨rfl, rfl, rfl⟩ := h
  have hS' : Kd.S (Kd.slice 3 (Kd.int .i64)) 23 w w0.heap.size (fun k => (P0_ k ∧ some k ≠ v3.ownBlock) ∧ k < w.heap.size) v2 l2 := Kd.S_mono (Kd.S_bound hS) (fun k hk => ⟨⟨hk.1, hne k hk.1⟩, hk.2.2.1⟩)
  have HS := Aside0.mk hS'
  have HR := Aside0.mk (Kd.R_tight rfl hR)
  have HR0 := Aside0.mk hR.1
  have HB := Aside0.mk hB
  have HA1 := Aside0.mk A1
  have HA2 := Aside0.mk A2
  obtain ⟨A2_, c2_, e2⟩ := Kd.S_slice hS
  obtain ⟨A3_, c3_, e3⟩ := Kd.R_slice hR
  clear hS hR hS' hB A1 A2
  subst e2
  subst e3
  go_enter Try.func15, Try.ntmps15
  go_wp2_with (go_at_call 42; refine (laws_markIntSS.calls k _ _ l2 m t1 t2 w0 _ (HB.out.alloc HB.out.size _) (Kd.S_alloc HS.out _) HA1.out).mono ?_; rintro e w2 ⟨rfl, hs2, hb2, hk2⟩; have BK2 := Aside0.mk ((hk2.2 w.heap.size (by simp) (fun h_ => absurd h_.2 (Nat.lt_irrefl _))).trans (blk_new w _)); have HS2 := Aside0.mk hs2; have HB2 := Aside0.mk hb2; have HK2 := Aside0.mk ((Kept.alloc (Kept.refl w (fun k_ => P0_ k_ ∨ (P1_ k_))) _).then_ hk2 (fun k_ h_ => Or.inl (Or.inl h_.1.1))); have HR2 := Aside0.mk (Kd.R_kept (Kd.R_alloc HR.out _) hk2 (fun k_ h_ hP => hP.1.2 h_)); have hx3 := blk_cell BK2.out 2; clear hs2 hb2 hk2)
  go_wp2_with (go_at_call 43; refine (laws_markIntS.calls k _ _ l3 t1 t3 t4 w0 _ HB2.out HR2.out HA2.out).mono ?_; rintro e w3 ⟨rfl, hr3, hb3, hk3⟩; have HS3 := Aside0.mk (S_kept HS2.out hk3 (fun k_ h_ he => h_.1.2 he)); have HB3 := Aside0.mk hb3; have HK3 := Aside0.mk (HK2.out.then_ hk3 (fun k_ h_ => Or.inl (Or.inr (HR0.out k_ h_.symm)))); have HR3 := Aside0.mk (Kd.R_reok (ok := P1_) rfl hr3 (fun k_ h_ => HR0.out k_ h_)); clear hr3 hb3 hk3)
  go_ret
  exact ⟨rfl, Kd.S_mono HS3.out (fun _ h_ => h_.1.1), HR3.out, HB3.out, HK3.out⟩
end Go.Proofs.Ytefelghmmpmigaa.Q
