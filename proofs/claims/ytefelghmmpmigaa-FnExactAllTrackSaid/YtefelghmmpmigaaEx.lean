/- Arrays of truth values, and maps from them, in a walk with the plain evaluator -/
import Derived.Test.YtefelghmmpmigaaEp
namespace Go.Ev
set_option linter.unusedVariables false
set_option linter.unusedSimpArgs false
open Go.Proofs Go Go.Proofs.YtefelghmmpmigaaW.PrintWords Go.Proofs.Ytefelghmmpmigaa.Q
/-! arrays of 48 truth values -/
noncomputable def rng : Nat → Nat → List Nat := fun n => @Nat.rec (fun _ => Nat → List Nat) (fun _ => []) (fun _ ih i => i :: ih (i + 1)) n
noncomputable def arr (w : A48) : List AV := mapR (fun j => .bool (w.1.getD j false)) (rng 48 0)
noncomputable def bbs (ls : List A48) : List AV := ls.flatMap arr
noncomputable def kA (w : A48) : AV := .agg (arr w)
noncomputable def mpA (xs : List A48) : List (AV × AV) := xs.zipIdx.map fun q => (kA q.1, .int .i64 (q.2 : Int))
theorem rng_eq : ∀ (n i : Nat), rng n i = List.range' i n
  | 0, i => rfl
  | n + 1, i => by
    show i :: rng n (i + 1) = _
    rw [rng_eq n (i + 1), List.range'_succ]
theorem arr_eq (w : A48) : arr w = bb w.1 := by
  unfold arr bb
  rw [mapR_eq, mapR_eq, rng_eq]
  refine List.ext_getElem (by simp [w.2]) fun i h1 h2 => ?_
  simp at h1
  simp [w.2, h1]
theorem arr_len (w : A48) : (arr w).length = 48 := by rw [arr_eq, len_bb, w.2]
theorem bbs_len : ∀ ls : List A48, (bbs ls).length = ls.length * 48
  | [] => rfl
  | w :: ls => by
    show (arr w ++ bbs ls).length = _
    rw [List.length_append, arr_len, bbs_len ls, List.length_cons]; omega
theorem lenB {xs : List A48} {s : Nat} (h : s = 48 := by rfl) : lenN (bbs xs).length s = xs.length := by
  subst h
  rw [bbs_len]
  show xs.length * 48 / 48 = _
  omega
theorem bbs_at : ∀ (ls : List A48) (i : Nat) (h : i < ls.length), ((bbs ls).drop (i * 48)).take 48 = arr ls[i]
  | [], i, h => by simp at h
  | w :: ls, 0, h => by
    show ((arr w ++ bbs ls).drop 0).take 48 = arr w
    rw [List.drop_zero, List.take_append_of_le_length (by rw [arr_len]; exact Nat.le_refl _), List.take_of_length_le (by rw [arr_len]; exact Nat.le_refl _)]
  | w :: ls, i + 1, h => by
    show ((arr w ++ bbs ls).drop ((i + 1) * 48)).take 48 = arr (ls[i]'(Nat.lt_of_succ_lt_succ h))
    rw [show (i + 1) * 48 = (arr w).length + i * 48 by rw [arr_len]; omega, List.drop_append]
    simp only [Nat.add_sub_cancel_left]
    rw [List.drop_of_length_le (by omega), List.nil_append]
    exact bbs_at ls i (by simpa using h)
theorem arr_at {w : A48} {i : Nat} (h : i < 48) : nth (arr w) i = some (.bool (w.1.getD i false)) := by
  rw [nth_eq, arr_eq]
  unfold bb
  rw [mapR_eq, List.getElem?_map, List.getElem?_eq_getElem (by rw [w.2]; exact h)]
  simp [List.getD_eq_getElem?_getD, w.2, h]
/-- a cell of an array -/
theorem exAr {w : A48} {i : Int} {s : Nat} {K : AV → Prop} (k : K (.bool (rdA w i))) (h0 : 0 ≤ i := by exact sd) (h1 : i < 48 := by exact sd) (hs : s = 1 := by rfl) : ∃ v, nth (arr w) (offs 0 i.toNat s) = some v ∧ K v := by
  subst hs
  refine ⟨_, ?_, k⟩
  rw [offs_eq, Nat.zero_add, Nat.mul_one]
  exact arr_at (by omega)
/-- a cell of an array in a row of arrays -/
theorem exBs {ls : List A48} {i j : Int} {s s' : Nat} {K : AV → Prop} (k : K (.bool (rdA (rdAs ls i) j))) (h0 : 0 ≤ i := by exact sd) (h1 : i < ls.length := by exact sd) (h2 : 0 ≤ j := by exact sd) (h3 : j < 48 := by exact sd) (hs : s = 48 := by rfl) (hs' : s' = 1 := by rfl) :
    ∃ v, nth (bbs ls) (offs (offs 0 i.toNat s) j.toNat s') = some v ∧ K v := by
  subst hs hs'
  refine ⟨_, ?_, k⟩
  rw [offs_eq, offs_eq, Nat.zero_add, Nat.mul_one, nth_eq]
  have h := bbs_at ls i.toNat (by omega)
  have h4 := arr_at (w := ls[i.toNat]'(by omega)) (i := j.toNat) (by omega)
  rw [nth_eq, ← h, List.getElem?_take, if_pos (by omega), List.getElem?_drop] at h4
  rw [h4]
  simp [rdA, rdAs, List.getD_eq_getElem?_getD, (by omega : i.toNat < ls.length)]
/-- an array out of a row of arrays -/
theorem exAs {ls : List A48} {i : Int} {s s' : Nat} {K : List AV → Prop} (k : K (arr (rdAs ls i))) (h0 : 0 ≤ i := by exact sd) (h1 : i < ls.length := by exact sd) (hs : s = 48 := by rfl) (hs' : s' = 48 := by rfl) : ∃ vs, vs = List.take s (List.drop (offs 0 i.toNat s') (bbs ls)) ∧ vs.length = s ∧ K vs := by
  subst hs hs'
  have e : rdAs ls i = ls[i.toNat]'(by omega) := by simp [rdAs, List.getD_eq_getElem?_getD, (by omega : i.toNat < ls.length)]
  refine ⟨_, ?_, ?_, k⟩
  · rw [offs_eq, Nat.zero_add, bbs_at ls _ (by omega), e]
  · rw [arr_len]
/-- a whole array read -/
theorem exW48 {w : A48} {s : Nat} {K : List AV → Prop} (k : K (arr w)) (hs : s = 48 := by rfl) : ∃ vs, vs = List.take s (List.drop 0 (arr w)) ∧ vs.length = s ∧ K vs := by
  subst hs
  exact ⟨_, by rw [List.drop_zero, List.take_of_length_le (by rw [arr_len]; exact Nat.le_refl _)], arr_len w, k⟩
theorem seA {w : A48} {i : Int} {s : Nat} {b : Bool} {K : List AV → Prop} (k : K (arr (stA w i b))) (h0 : 0 ≤ i := by exact sd) (h1 : i < 48 := by exact sd) (hs : s = 1 := by rfl) : ∃ y, y = splice (arr w) (offs 0 i.toNat s) [.bool b] ∧ K y := by
  subst hs
  refine ⟨_, ?_, k⟩
  rw [offs_eq, Nat.zero_add, Nat.mul_one, arr_eq, arr_eq]
  unfold bb stA
  rw [mapR_eq, mapR_eq]
  show _ = (List.map _ _).set _ _
  rw [List.map_set]
theorem seW {w : A48} {cs : List AV} {o : Nat} {K : List AV → Prop} (k : K (arr w)) (h : arr w = splice cs o (arr w) := by rfl) : ∃ y, y = splice cs o (arr w) ∧ K y := ⟨_, h, k⟩
theorem apA {ls : List A48} {w : A48} {K : List AV → Prop} (k : K (bbs (ls ++ [w]))) : ∃ y, y = bbs ls ++ arr w ∧ K y :=
  ⟨_, by unfold bbs; rw [List.flatMap_append]; simp, k⟩
/-! a map from arrays to their places in a list -/
theorem kA_inj {t u : A48} (h : kA t = kA u) : t = u := by
  unfold kA at h
  injection h with h
  rw [arr_eq, arr_eq] at h
  unfold bb at h
  rw [mapR_eq, mapR_eq] at h
  refine Subtype.ext ?_
  exact List.map_inj_right (fun a b h => by injection h) |>.1 h
theorem keyA {tb : Nat → Ti} {kt e : Nat} {w : A48} (hk : (tb kt).k = .arr 48 e) (he : (tb e).k = .bool) : keyB tb kt (.agg (arr w)) := by
  unfold keyB
  rw [hk]
  refine ⟨arr_len w, fun c hc => ?_⟩
  rw [he]
  rw [arr_eq] at hc
  unfold bb at hc
  rw [mapR_eq] at hc
  obtain ⟨b, _, rfl⟩ := List.mem_map.1 hc
  exact trivial
theorem mpA_at {xs : List A48} {i : Nat} (h : i < xs.length) : (mpA xs)[i]? = some (kA xs[i], .int .i64 (i : Int)) := by
  unfold mpA
  rw [List.getElem?_map, List.getElem?_zipIdx, List.getElem?_eq_getElem h]
  simp
theorem findA1 {t : A48} {xs : List A48} (h : t ∈ xs) : findK (.agg (arr t)) (mpA xs) (some (xs.idxOf t, .int .i64 (xs.idxOf t : Int))) := by
  have hi := List.idxOf_lt_length_iff.2 h
  show (mpA xs)[xs.idxOf t]? = some (kA t, .int .i64 (xs.idxOf t : Int))
  rw [mpA_at hi, List.getElem_idxOf]
theorem findA0 {t : A48} {xs : List A48} (h : t ∉ xs) : findK (.agg (arr t)) (mpA xs) none := by
  intro kv hkv e
  unfold mpA at hkv
  obtain ⟨q, hq, rfl⟩ := List.mem_map.1 hkv
  have : q.1 = t := kA_inj e
  exact h (this ▸ (List.mem_zipIdx' hq).2 ▸ List.getElem_mem _)
theorem exFA {α : Type} {t : A48} {xs : List A48} {X Y : Option α} {r : α} {K : Option (Nat × AV) → Prop} (H : (if t ∈ xs then X else Y) = some r)
    (h1 : t ∈ xs → X = some r → K (some (xs.idxOf t, .int .i64 (xs.idxOf t : Int)))) (h2 : t ∉ xs → Y = some r → K none) : ∃ o, findK (.agg (arr t)) (mpA xs) o ∧ K o := by
  by_cases hc : t ∈ xs
  · rw [if_pos hc] at H; exact ⟨_, findA1 hc, h1 hc H⟩
  · rw [if_neg hc] at H; exact ⟨_, findA0 hc, h2 hc H⟩
theorem exF1A {t : A48} {xs : List A48} {K : Option (Nat × AV) → Prop} (h : t ∈ xs) (k : K (some (xs.idxOf t, .int .i64 (xs.idxOf t : Int)))) : ∃ o, findK (.agg (arr t)) (mpA xs) o ∧ K o := ⟨_, findA1 h, k⟩
theorem exF0A {t : A48} {xs : List A48} {K : Option (Nat × AV) → Prop} (h : t ∉ xs) (k : K none) : ∃ o, findK (.agg (arr t)) (mpA xs) o ∧ K o := ⟨_, findA0 h, k⟩
theorem exFnA {t : A48} {xs : List A48} {K : Option (Nat × AV) → Prop} (h : t ∉ xs) (k : K (some (xs.length, .int .i64 (xs.length : Int)))) : ∃ o, findK (.agg (arr t)) (mpA (xs ++ [t])) o ∧ K o := by
  refine ⟨_, ?_, k⟩
  show (mpA (xs ++ [t]))[xs.length]? = some (kA t, .int .i64 (xs.length : Int))
  rw [mpA_at (by simp)]
  simp
theorem upNA {t : A48} {xs : List A48} {K : List (AV × AV) → Prop} (k : K (mpA (xs ++ [t]))) : ∃ es, es = updK (.agg (arr t)) (.int .i64 (xs.length : Int)) (mpA xs) none ∧ K es := by
  refine ⟨_, ?_, k⟩
  show mpA (xs ++ [t]) = mpA xs ++ [(kA t, .int .i64 (xs.length : Int))]
  unfold mpA
  rw [List.zipIdx_append, List.map_append]
  simp
theorem upEA {t : A48} {K : List (AV × AV) → Prop} (k : K (mpA [t])) : ∃ es, es = updK (.agg (arr t)) (.int .i64 0) [] none ∧ K es := ⟨_, rfl, k⟩
end Go.Ev
