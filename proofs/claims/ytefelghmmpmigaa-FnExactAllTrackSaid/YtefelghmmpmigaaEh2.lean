/- Plain contracts of functions that were walked otherwise -/
import Derived.Test.YtefelghmmpmigaaEh1
import Derived.Test.YtefelghmmpmigaaEt
import Derived.Test.YtefelghmmpmigaaF
import Derived.Test.YtefelghmmpmigaaF1
import Derived.Test.YtefelghmmpmigaaF2
namespace Go.Ev
set_option linter.unusedVariables false
open Go.RowKit Go.Proofs Go Go.Proofs.YtefelghmmpmigaaW.PrintWords Go.Proofs.Ytefelghmmpmigaa.Q
/-- the rows of a sequence are marked -/
theorem laws_markSequence.pr {k : Nat} {l2 : List (List Int)} {l3 : List Int} {a m : Int} {r : Int × List (List Int) × List Int} {n2 n3 : Nat} (H : laws_markSequence.f k l2 l3 m = some r) (hn2 : n2 = l2.length := by exact ln) (hn3 : n3 = l3.length := by exact ln) :
    Promise Try.prog tb 15 [.tup [], .agg [.int .i64 a, .own 23 n2 (ois 3 l2), .own 3 n3 (ii l3)], .int .i64 m] (.tup [.int .i64 r.1, .tup [.int .i64 a, .own 23 n2 (ois 3 r.2.1), .own 3 n3 (ii r.2.2), .int .i64 m]]) := by
  subst hn2 hn3
  obtain ⟨r1, r2, r3⟩ := r
  refine ⟨⟨_, Try.func15, by decide +kernel, rfl⟩, ?_⟩
  refine Ctr_W rfl fun vs w F hR hN => ?_
  obtain ⟨u0, us, F0, F1, e1, rfl, hR0, hR1⟩ := resL_cons hR
  obtain ⟨u1, us1, F2, F3, rfl, rfl, hR2, hR3⟩ := resL_cons hR1
  obtain ⟨rfl, rfl⟩ := resL_nil hR3
  obtain ⟨xs, rfl, hX⟩ := hR0
  obtain ⟨x0, xs1, G0, G1, rfl, rfl, hx0, hX⟩ := resL_cons hX
  obtain ⟨x2, xs3, G4, G5, rfl, rfl, hx2, hX⟩ := resL_cons hX
  obtain ⟨x3, xs4, G6, G7, rfl, rfl, hx3, hX⟩ := resL_cons hX
  obtain ⟨rfl, rfl⟩ := resL_nil hX
  obtain ⟨rfl, rfl⟩ := hx0
  obtain ⟨rfl, rfl⟩ := hR2
  simp only [List.nil_append, List.append_nil] at hN
  obtain ⟨n1, n2, n3⟩ := List.nodup_append.1 hN
  have evs : vs = #[.agg #[.int .i64 a, x2, x3], .int .i64 m] := by
    rw [← Array.toArray_toList (xs := vs), e1]
  subst evs
  have hS := S_rows (base := 0) hx2 rfl rfl rfl n1 (fun g _ => Nat.zero_le g)
  have hB := R_ints (base := 0) hx3 rfl rfl (fun g _ => Nat.zero_le g)
  have hne : ∀ k, k ∈ G4 → some k ≠ x3.ownBlock := fun k hk e => by
    obtain ⟨us, Fs, o1, _, _, _, e6⟩ := hx3
    exact n3 k hk k (by rw [e6]; exact List.mem_append_left _ (by rw [← e]; simp)) rfl
  refine (laws_markSequence.calls k _ _ x2 x3 a l2 l3 m r1 r2 r3 (noW w) w (noW_below w) hne hS hB H).mono fun e w' ⟨he, hS', hB', hbw, hk⟩ => ?_
  obtain ⟨F2', k1, k2, k3⟩ := res_rows (tb := tb) hS' rfl rfl
  have k4 := res_ints (tb := tb) hB' rfl
  have k5 := own_bounds hB'
  have l2e : r2.length = l2.length := by
    obtain ⟨us, Fs, o1, _⟩ := k1
    obtain ⟨us', Fs', o2, _⟩ := hx2
    obtain ⟨A, c, q1, _⟩ := owns_reads o1
    obtain ⟨A', c', q2, _⟩ := owns_reads o2
    rw [q1] at q2
    injection q2 with _ q2
  have l3e : r3.length = l3.length := by
    obtain ⟨us, Fs, o1, _⟩ := k4
    obtain ⟨us', Fs', o2, _⟩ := hx3
    obtain ⟨A, c, q1, _⟩ := owns_reads o1
    obtain ⟨A', c', q2, _⟩ := owns_reads o2
    rw [q1] at q2
    injection q2 with _ q2
  rw [l2e] at k1
  rw [l3e] at k4
  have hdis : (F2' ++ x3.ownBlock.toList).Nodup := List.nodup_append.2 ⟨k2, k5.1, fun a ha b hb e => n3 a (k3 a ha).1 b (k5.2 b hb).1 e⟩
  refine ⟨.int .i64 r1, [], F2' ++ x3.ownBlock.toList, he, ⟨rfl, rfl⟩, ?_, by rw [List.append_nil]; exact hdis, fun g hg => ?_, fun g hg => by simp at hg, ⟨hk.1, hbw.os, hbw.tape, hbw.output⟩, fun g hg hc => ?_⟩
  · show ResL (ResJ tb w') _ [.int .i64 a, x2, x3, .int .i64 m] _
    exact ⟨[], _, rfl, .inr ⟨rfl, rfl⟩, F2', _, rfl, .inr k1, x3.ownBlock.toList, [], (List.append_nil _).symm, .inr k4, [], [], rfl, .inr ⟨rfl, rfl⟩, rfl⟩
  · simp only [List.nil_append, List.append_nil]
    rcases List.mem_append.1 hg with hg | hg
    · exact List.mem_append_left _ (k3 g hg).1
    · exact List.mem_append_right _ (k5.2 g hg).1
  · refine hk.2 g hg fun hs => ?_
    have := (hc (by simp only [List.nil_append, List.append_nil]; exact hs.elim (List.mem_append_left _) (List.mem_append_right _))).1
    cases this
theorem laws_markSequence.len {k : Nat} {l2 : List (List Int)} {l3 : List Int} {m : Int} {r : Int × List (List Int) × List Int} (H : laws_markSequence.f k l2 l3 m = some r) : r.2.1.length = l2.length ∧ r.2.2.length = l3.length := by
  have A : ∀ k (x0 : List (List Int)) (x1 x5 : Int) r, laws_markIntSS.l0 k x0 x1 x5 = some r → r.2.length = x0.length := by
    intro k
    induction k with
    | zero => intro x0 x1 x5 r h; cases h
    | succ k ih =>
      intro x0 x1 x5 r h
      rw [laws_markIntSS.l0] at h
      split at h
      · split at h
        · obtain ⟨p, _, h⟩ := Option.bind_eq_some_iff.1 h
          rw [ih _ _ _ _ h, List.length_set]
        · cases h
      · injection h with h; rw [← h]
  have B : ∀ k (x0 : List Int) (x1 x4 : Int) r, laws_markIntS.l0 k x0 x1 x4 = some r → r.2.length = x0.length := by
    intro k
    induction k with
    | zero => intro x0 x1 x5 r h; cases h
    | succ k ih =>
      intro x0 x1 x5 r h
      rw [laws_markIntS.l0] at h
      repeat' split at h
      all_goals first | (rw [ih _ _ _ _ h, List.length_set]) | (injection h with h; rw [← h]) | cases h
  unfold laws_markSequence.f at H
  obtain ⟨p, h1, H⟩ := Option.bind_eq_some_iff.1 H
  obtain ⟨q, h2, H⟩ := Option.bind_eq_some_iff.1 H
  injection H with H
  subst H
  exact ⟨A _ _ _ _ _ h1, B _ _ _ _ _ h2⟩
end Go.Ev
