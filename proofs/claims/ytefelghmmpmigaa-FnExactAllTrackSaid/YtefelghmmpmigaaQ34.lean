-- written by a program of this session (a turned copy of the kit's print) out of the translation
-- squeezed
-- compact
import Derived.Test.YtefelghmmpmigaaQ0
import Derived.Test.YtefelghmmpmigaaQ33
namespace Go.Proofs.Ytefelghmmpmigaa.Q
open Go.RowKit Go.Proofs.YtefelghmmpmigaaW.PrintWords Go.Proofs.YtefelghmmpmigaaW.PrintLast Go.Proofs.YtefelghmmpmigaaW.PrintMore
attribute [local go_sem] max2_int min2_int max_two min_two max_three min_three max_four min_four   -- for this text's walks alone
set_option linter.unusedVariables false
set_option linter.unusedSimpArgs false

/-! ### laws_markIntSS: function 42 -/
def rdRow (xs : List (List Int)) (i : Int) : List Int := xs.getD i.toNat []
def laws_markIntSS.l0 : Nat → List (List Int) → Int → Int → Option (Int × List (List Int))
 | 0, _, _, _ => none
 | k + 1, x0, x1, x5 => if x5 < (x0.length : Int) then (if 0 ≤ x5 then ((laws_markIntS.f k (rdRow x0 x5) x1).bind fun p => laws_markIntSS.l0 k (x0.set x5.toNat p.2) p.1 (wrap64 (x5 + 1))) else none) else some (x1, x0)
def laws_markIntSS.f (k : Nat) (l0 : List (List Int)) (a1 : Int) : Option (Int × List (List Int)) := laws_markIntSS.l0 k l0 a1 0
theorem laws_markIntSS.mono_l : ∀ k x0 x1 x5, LeO (laws_markIntSS.l0 k x0 x1 x5) (laws_markIntSS.l0 (k + 1) x0 x1 x5)
 | 0, _, _, _ => fun r h => by simp [laws_markIntSS.l0] at h
 | k + 1, x0, x1, x5 => by
  unfold laws_markIntSS.l0
  exact LeO.ite (LeO.ite (LeO.bind (laws_markIntS.mono _ _ k) (fun p => laws_markIntSS.mono_l k _ _ _)) (LeO.refl _)) (LeO.refl _)
theorem laws_markIntSS.mono : ∀ a0 a1 k, LeO (laws_markIntSS.f k a0 a1) (laws_markIntSS.f (k + 1) a0 a1) := fun a0 a1 k => laws_markIntSS.mono_l k _ _ _
theorem H_kept {α : Type} {d : Kd α} {e base : Nat} {w w2 : World} {ok oki S : Nat → Prop} {v : Value} {xs : List α} {i : Int} {c : List Value} (h : Kd.H d e w base ok v xs i oki c) (hk : Kept w w2 S) (hne : ∀ k, S k → oki k) : Kd.H d e w2 base ok v xs i oki c := by
 obtain ⟨ho, f, hR⟩ := h
 exact ⟨ho, f, Kd.R_kept hR hk (fun k hk hS => hk.2 (hne k hS))⟩
set_option maxHeartbeats 2000000 in
set_option maxRecDepth 100000 in
theorem laws_markIntSS.calls (k : Nat) (P0_ : Nat → Prop) (u9000_ : Value) (l0 : List (List Int)) (a1 : Int) (r1 : Int) (r2 : List (List Int)) (w0 w : World) (hB : Below w0.heap.size w0 w) (ho0 : Kd.S (Kd.slice 3 (Kd.int .i64)) 23 w w0.heap.size P0_ u9000_ l0) (h : laws_markIntSS.f k l0 a1 = some (r1, r2)) :
  Calls Try.prog 42 #[u9000_, .int .i64 a1] w fun e w' => e = .returned (.int .i64 r1) ∧ Kd.S (Kd.slice 3 (Kd.int .i64)) 23 w' w0.heap.size P0_ u9000_ r2 ∧ Below w0.heap.size w0 w' ∧ Kept w w' P0_ := by
 have HO0 := yA ho0
 have HK := yA (Kept.refl w P0_)
 have HB := yA hB
 have H' := yA (show laws_markIntSS.l0 k l0 a1 0 = some (r1, r2) from h)
 clear hB ho0 h
 go_enter Try.func42, Try.ntmps42
 go_wp2
 go_loopg [1, 5] k (fun kq v1 v5 w' => ∃ (x0 : List (List Int)) (x1 x5 : Int), v1 = .int .i64 x1 ∧ v5 = .int .i64 x5 ∧ Aside0 (laws_markIntSS.l0 kq x0 x1 x5 = some (r1, r2)) ∧ Aside0 (Kd.S (Kd.slice 3 (Kd.int .i64)) 23 w' w0.heap.size P0_ u9000_ x0) ∧ Aside0 (Kept w w' P0_) ∧ Aside0 (Below w0.heap.size w0 w'))
 case atStart => exact ⟨l0, a1, 0, rfl, rfl, H', HO0, HK, HB⟩
 case round =>
  clear H' HO0 HK HB
  obtain ⟨x0, x1, x5, rfl, rfl, HA, HO, HK, HB⟩ := hrel
  cases gk with
  | zero => exact absurd HA.out (by simp [laws_markIntSS.l0])
  | succ k1 =>
   have H := HA.out
   clear HA
   simp only [laws_markIntSS.l0] at H
   by_cases c3 : x5 < (x0.length : Int)
   ·rw [if_pos c3] at H
    have c3b := zH c3
    by_cases c4 : 0 ≤ x5
    ·rw [if_pos c4] at H
     obtain ⟨⟨t1, t2⟩, A4, H⟩ := Option.bind_eq_some_iff.mp H
     have H2 := yA (show laws_markIntSS.l0 k1 (x0.set x5.toNat t2) t1 (wrap64 (x5 + 1)) = some (r1, r2) from H)
     have A := yA A4
     clear H A4
     obtain ⟨g, cap, eg, _, _, _⟩ := Kd.S_form HO.out (by omega)
     subst eg
     obtain ⟨oki, c, hcl, hM, hcc, hfr, hoki, hH⟩ := Kd.S_elem HO.out ([] : List Int) x5 c4 c3
     obtain ⟨v, rfl, hR⟩ : (Kd.slice 3 (Kd.int .i64)).M wr w0.heap.size oki (rdRow x0 x5) c := hM
     have hx : wr.cell? ⟨g, x5.toNat, none⟩ = some v := by have := hcc 0 v rfl; simpa [Kd.slice] using this
     have hf : wr.frozen? ⟨g, x5.toNat, none⟩ = false := by have := hfr 0; simpa [Kd.slice] using this
     have HR := yA hR
     have HH := yA hH
     have HP := yA hoki
     clear hcc hfr hR hH hoki hcl
     obtain ⟨Av, cv, ev⟩ := Kd.R_slice HR.out
     subst ev
     have p5 := eq_true c4
     have q5 := eq_true c3
     go_wp2_with (go_at_call 43; refine (laws_markIntS.calls k1 oki _ (rdRow x0 x5) x1 t1 t2 w0 _ HB.out HR.out A.out).mono ?_; rintro e w2 ⟨rfl, hy, hb, hkp⟩; have HR2 := yA (Kd.R_reok rfl hy (fun k_ e_ => HR.out.1 k_ e_)); have HH2 := yA (H_kept HH.out hkp (fun _ h_ => h_)); have HK2 := yA (HK.out.then_ hkp (fun k_ h_ => Or.inl (HP.out k_ h_).1)); have HB2 := yA hb; clear hy hb hkp)
     have HS2 := yA (Kd.H_back HH2.out (x' := t2) (okp := oki) ⟨_, rfl, HR2.out⟩ (fun _ h_ => h_))
     go_roundg k1
     case measure => omega
     case rel => exact ⟨_, _, _, rfl, rfl, H2, HS2, HK2, HB2⟩
    ·rw [if_neg c4] at H
     exact absurd H (by simp)
   ·rw [if_neg c3] at H
    have c3b := decide_eq_false c3
    simp only [Option.some.injEq, Prod.mk.injEq] at H
    obtain ⟨rfl, rfl⟩ := H
    obtain ⟨Av, cv, ev⟩ := Kd.S_slice HO.out
    subst ev
    go_wp2
    go_ret
    exact ⟨rfl, HO.out, HB.out, HK.out⟩

end Go.Proofs.Ytefelghmmpmigaa.Q
