/- Pairs of numbers, and maps from pairs, in a walk with the plain evaluator -/
import Derived.Test.YtefelghmmpmigaaEk
import Derived.Test.YtefelghmmpmigaaF2
namespace Go.Ev
set_option linter.unusedVariables false
open Go.Proofs Go Go.Proofs.YtefelghmmpmigaaW.PrintWords Go.Proofs.Ytefelghmmpmigaa.Q
/-! pairs of numbers -/
noncomputable def p2 (xs : List (Int × Int)) : List AV := xs.flatMap fun p => [.int .i64 p.1, .int .i64 p.2]
theorem len_p2 (xs : List (Int × Int)) : (p2 xs).length = 2 * xs.length := by
  unfold p2
  induction xs with
  | nil => rfl
  | cons x l ih => rw [List.flatMap_cons, List.length_append, ih]; simp; omega
theorem lenP {xs : List (Int × Int)} {s : Nat} (h : s = 2 := by rfl) : lenN (p2 xs).length s = xs.length := by
  subst h
  rw [len_p2]
  show 2 * xs.length / 2 = _
  omega
theorem p2_at (xs : List (Int × Int)) : ∀ (i : Nat) (h : i < xs.length), ((p2 xs).drop (i * 2)).take 2 = [.int .i64 xs[i].1, .int .i64 xs[i].2] := by
  induction xs with
  | nil => intro i h; simp at h
  | cons x l ih =>
    intro i h
    cases i with
    | zero => rfl
    | succ i =>
      have := ih i (by simpa using h)
      rw [show (i + 1) * 2 = i * 2 + 2 by omega]
      show ((AV.int .i64 x.1 :: AV.int .i64 x.2 :: p2 l).drop (i * 2 + 2)).take 2 = _
      rw [List.drop_succ_cons, List.drop_succ_cons, this]
      rfl
theorem exP {xs : List (Int × Int)} {i : Int} {s s' : Nat} {K : List AV → Prop} (k : K [.int .i64 (rdP xs i).1, .int .i64 (rdP xs i).2]) (h0 : 0 ≤ i := by exact sd) (h1 : i < xs.length := by exact sd) (hs : s = 2 := by rfl) (hs' : s' = 2 := by rfl) :
    ∃ vs, vs = List.take s (List.drop (offs 0 i.toNat s') (p2 xs)) ∧ vs.length = s ∧ K vs := by
  subst hs hs'
  have hi : i.toNat < xs.length := by omega
  refine ⟨_, rfl, ?_, ?_⟩
  · rw [offs_eq, Nat.zero_add, p2_at xs _ hi]; rfl
  · rw [offs_eq, Nat.zero_add, p2_at xs _ hi]
    simpa [rdP, List.getD, hi] using k
theorem apP {xs : List (Int × Int)} {a b : Int} {K : List AV → Prop} (k : K (p2 (xs ++ [(a, b)]))) : ∃ y, y = p2 xs ++ [.int .i64 a, .int .i64 b] ∧ K y :=
  ⟨_, by unfold p2; rw [List.flatMap_append]; rfl, k⟩
theorem p2A {xs : List (Int × Int)} {t : Int × Int} : p2 xs ++ [.int .i64 t.1, .int .i64 t.2] = p2 (xs ++ [t]) := by unfold p2; rw [List.flatMap_append]; rfl
/-! a map from pairs to their places in a list -/
noncomputable def kP (t : Int × Int) : AV := .agg [.int .i64 t.1, .int .i64 t.2]
noncomputable def mpP (xs : List (Int × Int)) : List (AV × AV) := xs.zipIdx.map fun q => (kP q.1, .int .i64 (q.2 : Int))
theorem kP_inj {t u : Int × Int} (h : kP t = kP u) : t = u := by
  unfold kP at h
  injection h with h
  injection h with h1 h
  injection h1 with _ h1
  injection h with h2 _
  injection h2 with _ h2
  exact Prod.ext h1 h2
theorem wf64 {x : Int} (h : in64 x = true) : (Lit.int .i64 x).wf = true := by
  have h := of_decide_eq_true h
  have := RowKit.wrap64_wf x
  rwa [show RowKit.wrap64 x = x by unfold RowKit.wrap64; omega] at this
theorem keyP {tb : Nat → Ti} {kt e : Nat} {a b : Int} (ha : in64 a = true) (hb : in64 b = true) (hk : (tb kt).k = .arr 2 e) (he : (tb e).k = .int .i64) : keyB tb kt (.agg [.int .i64 a, .int .i64 b]) := by
  unfold keyB
  rw [hk]
  refine ⟨rfl, fun c hc => ?_⟩
  rw [he]
  simp at hc
  rcases hc with rfl | rfl
  · exact ⟨rfl, wf64 ha⟩
  · exact ⟨rfl, wf64 hb⟩
theorem mpP_at {xs : List (Int × Int)} {i : Nat} (h : i < xs.length) : (mpP xs)[i]? = some (kP xs[i], .int .i64 (i : Int)) := by
  unfold mpP
  rw [List.getElem?_map, List.getElem?_zipIdx, List.getElem?_eq_getElem h]
  simp
theorem find1 {t : Int × Int} {xs : List (Int × Int)} (h : t ∈ xs) : findK (.agg [.int .i64 t.1, .int .i64 t.2]) (mpP xs) (some (xs.idxOf t, .int .i64 (xs.idxOf t : Int))) := by
  have hi := List.idxOf_lt_length_iff.2 h
  show (mpP xs)[xs.idxOf t]? = some (kP t, .int .i64 (xs.idxOf t : Int))
  rw [mpP_at hi, List.getElem_idxOf]
theorem find0 {t : Int × Int} {xs : List (Int × Int)} (h : t ∉ xs) : findK (.agg [.int .i64 t.1, .int .i64 t.2]) (mpP xs) none := by
  intro kv hkv e
  unfold mpP at hkv
  obtain ⟨q, hq, rfl⟩ := List.mem_map.1 hkv
  have : q.1 = t := kP_inj e
  exact h (this ▸ (List.mem_zipIdx' hq).2 ▸ List.getElem_mem _)
theorem exF {α : Type} {t : Int × Int} {xs : List (Int × Int)} {X Y : Option α} {r : α} {K : Option (Nat × AV) → Prop} (H : (if t ∈ xs then X else Y) = some r)
    (h1 : t ∈ xs → X = some r → K (some (xs.idxOf t, .int .i64 (xs.idxOf t : Int)))) (h2 : t ∉ xs → Y = some r → K none) : ∃ o, findK (.agg [.int .i64 t.1, .int .i64 t.2]) (mpP xs) o ∧ K o := by
  by_cases hc : t ∈ xs
  · rw [if_pos hc] at H; exact ⟨_, find1 hc, h1 hc H⟩
  · rw [if_neg hc] at H; exact ⟨_, find0 hc, h2 hc H⟩
theorem exF1 {t : Int × Int} {xs : List (Int × Int)} {K : Option (Nat × AV) → Prop} (h : t ∈ xs) (k : K (some (xs.idxOf t, .int .i64 (xs.idxOf t : Int)))) : ∃ o, findK (.agg [.int .i64 t.1, .int .i64 t.2]) (mpP xs) o ∧ K o := ⟨_, find1 h, k⟩
theorem exF0 {t : Int × Int} {xs : List (Int × Int)} {K : Option (Nat × AV) → Prop} (h : t ∉ xs) (k : K none) : ∃ o, findK (.agg [.int .i64 t.1, .int .i64 t.2]) (mpP xs) o ∧ K o := ⟨_, find0 h, k⟩
theorem exFn {t : Int × Int} {xs : List (Int × Int)} {K : Option (Nat × AV) → Prop} (h : t ∉ xs) (k : K (some (xs.length, .int .i64 (xs.length : Int)))) : ∃ o, findK (.agg [.int .i64 t.1, .int .i64 t.2]) (mpP (xs ++ [t])) o ∧ K o := by
  refine ⟨_, ?_, k⟩
  show (mpP (xs ++ [t]))[xs.length]? = some (kP t, .int .i64 (xs.length : Int))
  rw [mpP_at (by simp)]
  simp
theorem exFe {k : AV} {K : Option (Nat × AV) → Prop} (h : K none) : ∃ o, findK k [] o ∧ K o := ⟨none, fun kv hkv => by simp at hkv, h⟩
theorem upN {t : Int × Int} {xs : List (Int × Int)} {K : List (AV × AV) → Prop} (k : K (mpP (xs ++ [t]))) : ∃ es, es = updK (.agg [.int .i64 t.1, .int .i64 t.2]) (.int .i64 (xs.length : Int)) (mpP xs) none ∧ K es := by
  refine ⟨_, ?_, k⟩
  show mpP (xs ++ [t]) = mpP xs ++ [(kP t, .int .i64 (xs.length : Int))]
  unfold mpP
  rw [List.zipIdx_append, List.map_append]
  simp
theorem upE {a b : Int} {K : List (AV × AV) → Prop} (k : K (mpP [(a, b)])) : ∃ es, es = updK (.agg [.int .i64 a, .int .i64 b]) (.int .i64 0) [] none ∧ K es := ⟨_, rfl, k⟩
end Go.Ev
