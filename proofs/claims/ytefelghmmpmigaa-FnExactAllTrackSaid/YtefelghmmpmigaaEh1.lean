/- Plain contracts of functions that were walked otherwise -/
import Derived.Test.YtefelghmmpmigaaEh0
import Derived.Test.YtefelghmmpmigaaEt
import Derived.Test.YtefelghmmpmigaaF
import Derived.Test.YtefelghmmpmigaaF1
import Derived.Test.YtefelghmmpmigaaF2
namespace Go.Ev
set_option linter.unusedVariables false
open Go.RowKit Go.Proofs Go Go.Proofs.YtefelghmmpmigaaW.PrintWords Go.Proofs.Ytefelghmmpmigaa.Q
section
variable {P : Program} {tb : Nat → Ti} {w : World} {base : Nat}
theorem res_bools {e : Nat} {ok : Nat → Prop} {v : Value} {r : List Bool} (h : Kd.bool.R e w base ok v r) (h0 : (tb e).sz = 1) : Res1 tb w (.own e r.length (bb r)) v v.ownBlock.toList := by
  obtain ⟨_, inner, ho, hl, hr⟩ := h
  have hl' : inner.length = r.length := by rw [hl]; exact Nat.mul_one _
  have key : ∀ (j : Nat) (u : Value), inner[j]? = some u → ∃ p, r[j]? = some p ∧ u = .bool p := fun j u hu => by
    have hj := (List.getElem?_eq_some_iff.1 hu).1
    have hp : r[j]? = some (r[j]'(by omega)) := List.getElem?_eq_getElem (by omega)
    have h2 : (inner.drop (j * 1)).take 1 = [Value.bool (r[j]'(by omega))] := hr j _ hp
    rw [Nat.mul_one, List.drop_eq_getElem_cons hj, List.take_succ_cons, List.take_zero] at h2
    refine ⟨_, hp, ?_⟩
    have := (List.cons.inj h2).1
    rw [List.getElem?_eq_getElem hj] at hu
    rw [← Option.some.inj hu, this]
  refine ⟨inner, fun _ => [], ?_, ⟨by rw [hl', len_bb], by omega⟩, fun u hu => ?_, fun j c u hc hu => ?_, by rw [flatMap_nil, List.append_nil]⟩
  · have := own_weaken ho (Nat.zero_le base)
    rw [h0]
    exact this
  · obtain ⟨j, hj⟩ := List.getElem?_of_mem hu
    obtain ⟨p, _, rfl⟩ := key j u hj
    rfl
  · obtain ⟨p, hp, rfl⟩ := key j u hu
    unfold bb at hc
    rw [mapR_eq, List.getElem?_map, hp] at hc
    cases hc
    exact .bool _
theorem own_boundsB {ok : Nat → Prop} {e : Nat} {v : Value} {r : List Bool} (h : Kd.bool.R e w base ok v r) : v.ownBlock.toList.Nodup ∧ ∀ g ∈ v.ownBlock.toList, ok g ∧ base ≤ g ∧ g < w.heap.size := by
  obtain ⟨inner, ho⟩ := Kd.R_own h
  refine ⟨opt_nodup _, fun g hg => ?_⟩
  have hg' : v.ownBlock = some g := by simpa using hg
  exact ⟨h.1 g hg', own_base ho g hg', own_lt ho g hg'⟩
theorem lit_bools {A : Nat → Prop} {n : Nat} {l : List Bool} {v : Value} {F : List Nat} (h : Rel tb noLeaf A w (.lit n (bb l)) v F) (hn : n = l.length) (hb : l.length ≤ 9223372036854775807) : ∃ Ad c, v = .slice Ad l.length c ∧ l.length ≤ c ∧ Kd.bool.C w Ad l.length l :=
  lit_one (fun x A w v F r => by cases r with | bool => rfl | leaf h => exact h.elim) h hn hb
theorem Ctr_W {f : Nat} {args as' : List AV} {r0 : AV} (hd : wrDeep f = true) (h : ContractW P tb true f args (.tup [r0, .tup as'])) : Ctr P tb f (.tup [] :: args) (.tup [r0, .tup as']) := by
  have h : ContractW P tb (wrDeep f) f args (.tup [r0, .tup as']) := by rw [hd]; exact h
  exact h
/-- a world without blocks, of which this one is a later state -/
def noW (w : World) : World := { w with heap := #[] }
theorem noW_below (w : World) : Below (noW w).heap.size (noW w) w := ⟨rfl, rfl, rfl, Nat.zero_le _, fun k hk => absurd hk (Nat.not_lt_zero k)⟩
end
theorem slices_Clone_bool_bool.pr {l0 r : List Bool} {n0 : Nat} (H : slices_Clone_bool_bool.f l0 = some r) (hn0 : n0 = l0.length := by exact ln) : Promise Try.prog tb 83 [.lit n0 (bb l0)] (.own 4 r.length (bb r)) := by
  subst hn0
  have hb : l0.length ≤ 9223372036854775807 := by
    have H2 := H
    unfold slices_Clone_bool_bool.f at H2
    obtain ⟨h2, _⟩ := oA (oD H2)
    simp at h2
    omega
  refine promise_calls Try.func83 (by decide +kernel) rfl fun us w hl hr => ?_
  match us, hl with
  | [u], _ =>
    obtain ⟨F, r1⟩ := hr 0 _ u rfl rfl
    obtain ⟨A, c, rfl, hc, hC⟩ := lit_bools r1 rfl hb
    exact (slices_Clone_bool_bool.calls A c l0 r w hC hc H).mono fun e w' ⟨v, he, hR, hB⟩ => ⟨v, _, he, res_bools hR rfl, (own_boundsB hR).1, fun g hg => ((own_boundsB hR).2 g hg).2, hB⟩
/-- the rows of a relation are marked -/
theorem laws_markRelation.pr {k : Nat} {l2 : List (List Int)} {l3 : List Bool} {a b m : Int} {r : Int × List (List Int) × List Bool} {n2 n3 : Nat} (H : laws_markRelation.f k l2 l3 m = some r) (hn2 : n2 = l2.length := by exact ln) (hn3 : n3 = l3.length := by exact ln) :
    Promise Try.prog tb 16 [.tup [], .agg [.int .i64 a, .int .i64 b, .own 23 n2 (ois 3 l2), .own 4 n3 (bb l3)], .int .i64 m] (.tup [.int .i64 r.1, .tup [.int .i64 a, .int .i64 b, .own 23 n2 (ois 3 r.2.1), .own 4 n3 (bb r.2.2), .int .i64 m]]) := by
  subst hn2 hn3
  obtain ⟨r1, r2, r3⟩ := r
  refine ⟨⟨_, Try.func16, by decide +kernel, rfl⟩, ?_⟩
  refine Ctr_W rfl fun vs w F hR hN => ?_
  obtain ⟨u0, us, F0, F1, e1, rfl, hR0, hR1⟩ := resL_cons hR
  obtain ⟨u1, us1, F2, F3, rfl, rfl, hR2, hR3⟩ := resL_cons hR1
  obtain ⟨rfl, rfl⟩ := resL_nil hR3
  obtain ⟨xs, rfl, hX⟩ := hR0
  obtain ⟨x0, xs1, G0, G1, rfl, rfl, hx0, hX⟩ := resL_cons hX
  obtain ⟨x1, xs2, G2, G3, rfl, rfl, hx1, hX⟩ := resL_cons hX
  obtain ⟨x2, xs3, G4, G5, rfl, rfl, hx2, hX⟩ := resL_cons hX
  obtain ⟨x3, xs4, G6, G7, rfl, rfl, hx3, hX⟩ := resL_cons hX
  obtain ⟨rfl, rfl⟩ := resL_nil hX
  obtain ⟨rfl, rfl⟩ := hx0
  obtain ⟨rfl, rfl⟩ := hx1
  obtain ⟨rfl, rfl⟩ := hR2
  simp only [List.nil_append, List.append_nil] at hN
  obtain ⟨n1, n2, n3⟩ := List.nodup_append.1 hN
  have evs : vs = #[.agg #[.int .i64 a, .int .i64 b, x2, x3], .int .i64 m] := by
    rw [← Array.toArray_toList (xs := vs), e1]
  subst evs
  have hS := S_rows (base := 0) hx2 rfl rfl rfl n1 (fun g _ => Nat.zero_le g)
  have hB := R_bools (base := 0) hx3 rfl rfl (fun g _ => Nat.zero_le g)
  refine (laws_markRelation.calls k _ _ x2 x3 a b l2 l3 m r1 r2 r3 (noW w) w (noW_below w) hS hB H).mono fun e w' ⟨he, hS', hB', hbw, hk⟩ => ?_
  obtain ⟨F2', k1, k2, k3⟩ := res_rows (tb := tb) hS' rfl rfl
  have k4 := res_bools (tb := tb) hB' rfl
  have k5 := own_boundsB hB'
  have l2e : r2.length = l2.length := by
    obtain ⟨us, Fs, o1, _⟩ := k1
    obtain ⟨us', Fs', o2, _⟩ := hx2
    obtain ⟨A, c, q1, _⟩ := owns_reads o1
    obtain ⟨A', c', q2, _⟩ := owns_reads o2
    rw [q1] at q2
    injection q2 with _ q2
  have l3e : r3.length = l3.length := by
    obtain ⟨us, Fs, o1, _⟩ := k4
    obtain ⟨us', Fs', o2, _⟩ := hx3
    obtain ⟨A, c, q1, _⟩ := owns_reads o1
    obtain ⟨A', c', q2, _⟩ := owns_reads o2
    rw [q1] at q2
    injection q2 with _ q2
  rw [l2e] at k1
  rw [l3e] at k4
  have hdis : (F2' ++ x3.ownBlock.toList).Nodup := List.nodup_append.2 ⟨k2, k5.1, fun a ha b hb e => n3 a (k3 a ha).1 b (k5.2 b hb).1 e⟩
  refine ⟨.int .i64 r1, [], F2' ++ x3.ownBlock.toList, he, ⟨rfl, rfl⟩, ?_, by rw [List.append_nil]; exact hdis, fun g hg => ?_, fun g hg => by simp at hg, ⟨hk.1, hbw.os, hbw.tape, hbw.output⟩, fun g hg hc => ?_⟩
  · show ResL (ResJ tb w') _ [.int .i64 a, .int .i64 b, x2, x3, .int .i64 m] _
    exact ⟨[], _, rfl, .inr ⟨rfl, rfl⟩, [], _, rfl, .inr ⟨rfl, rfl⟩, F2', _, rfl, .inr k1, x3.ownBlock.toList, [], (List.append_nil _).symm, .inr k4, [], [], rfl, .inr ⟨rfl, rfl⟩, rfl⟩
  · simp only [List.nil_append, List.append_nil]
    rcases List.mem_append.1 hg with hg | hg
    · exact List.mem_append_left _ (k3 g hg).1
    · exact List.mem_append_right _ (k5.2 g hg).1
  · refine hk.2 g hg fun hs => ?_
    have := (hc (by simp only [List.nil_append, List.append_nil]; exact hs.elim (List.mem_append_left _) (List.mem_append_right _))).1
    cases this
theorem laws_markRelation.len {k : Nat} {l2 : List (List Int)} {l3 : List Bool} {m : Int} {r : Int × List (List Int) × List Bool} (H : laws_markRelation.f k l2 l3 m = some r) : r.2.1.length = l2.length ∧ r.2.2.length = l3.length := by
  have A : ∀ k (x0 : List (List Int)) (x1 x5 : Int) r, laws_markIntSS.l0 k x0 x1 x5 = some r → r.2.length = x0.length := by
    intro k
    induction k with
    | zero => intro x0 x1 x5 r h; cases h
    | succ k ih =>
      intro x0 x1 x5 r h
      rw [laws_markIntSS.l0] at h
      split at h
      · split at h
        · obtain ⟨p, _, h⟩ := Option.bind_eq_some_iff.1 h
          rw [ih _ _ _ _ h, List.length_set]
        · cases h
      · injection h with h; rw [← h]
  have B : ∀ k (x0 : List Bool) (x1 x4 : Int) r, laws_markBoolS.l0 k x0 x1 x4 = some r → r.2.length = x0.length := by
    intro k
    induction k with
    | zero => intro x0 x1 x5 r h; cases h
    | succ k ih =>
      intro x0 x1 x5 r h
      rw [laws_markBoolS.l0] at h
      repeat' split at h
      all_goals first | (rw [ih _ _ _ _ h, List.length_set]) | (injection h with h; rw [← h]) | cases h
  unfold laws_markRelation.f at H
  obtain ⟨p, h1, H⟩ := Option.bind_eq_some_iff.1 H
  obtain ⟨q, h2, H⟩ := Option.bind_eq_some_iff.1 H
  injection H with H
  subst H
  exact ⟨A _ _ _ _ _ h1, B _ _ _ _ _ h2⟩
end Go.Ev
