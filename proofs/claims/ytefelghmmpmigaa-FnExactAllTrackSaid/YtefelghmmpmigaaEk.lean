/- The words of a walk with the plain evaluator -/
import Derived.Test.YtefelghmmpmigaaEc
import Derived.Test.YtefelghmmpmigaaQ0
import Derived.IntWalk
namespace Go.Ev
open Go.Proofs.YtefelghmmpmigaaW.PrintWords Go.Proofs.Ytefelghmmpmigaa.Q
set_option linter.unusedVariables false
noncomputable section
def ii (xs : List Int) : List AV := mapR (.int .i64) xs
def bb (xs : List Bool) : List AV := mapR .bool xs
def eI (r : List Int) : AV := .lit r.length (ii r)
def iis (rows : List (List Int)) : List AV := mapR eI rows
def oI (e : Nat) (r : List Int) : AV := .own e r.length (ii r)
def ois (e : Nat) (rows : List (List Int)) : List AV := mapR (oI e) rows
abbrev n (x : Int) : AV := .int .i64 x
abbrev R (i k : Nat) : AV := .ref i 0 true 0 k
end
/-! what H says -/
theorem oA {α : Type} {c : Prop} [Decidable c] {X : Option α} {r : α} (h : (if c then X else none) = some r) : c ∧ X = some r := by
  by_cases hc : c
  · rw [if_pos hc] at h; exact ⟨hc, h⟩
  · rw [if_neg hc] at h; cases h
theorem oB {α : Type} {c : Prop} [Decidable c] {X : Option α} {r : α} (h : (if c then none else X) = some r) : ¬ c ∧ X = some r := by
  by_cases hc : c
  · rw [if_pos hc] at h; cases h
  · rw [if_neg hc] at h; exact ⟨hc, h⟩
theorem oC {α β : Type} {o : Option α} {f : α → Option β} {r : β} (h : o.bind f = some r) : ∃ a, o = some a ∧ f a = some r := by
  cases o with
  | none => cases h
  | some a => exact ⟨a, rfl, h⟩
theorem oT {α : Type} {c : Prop} [Decidable c] {X Y : Option α} {r : α} (h : (if c then X else Y) = some r) (hc : c := by decide) : X = some r := by rw [if_pos hc] at h; exact h
theorem oF {α : Type} {c : Prop} [Decidable c] {X Y : Option α} {r : α} (h : (if c then X else Y) = some r) (hc : ¬ c := by decide) : Y = some r := by rw [if_neg hc] at h; exact h
theorem oD {α β : Type} {a : α} {f : α → Option β} {r : β} (h : (some a).bind f = some r) : f a = some r := h
theorem oS {α : Type} {a r : α} (h : some a = some r) : a = r := Option.some.inj h
/-! lists -/
theorem wrapKE (x : Int) : wrapK .i64 x = RowKit.wrap64 x := rfl
theorem wrapE (x : Int) : IntKind.wrap .i64 x = RowKit.wrap64 x := by unfold RowKit.wrap64; exact IntKind.wrap_i64 x
theorem len_map {α : Type} {f : α → AV} {xs : List α} : (mapR f xs).length = xs.length := by rw [mapR_eq]; simp
theorem len_ii (xs : List Int) : (ii xs).length = xs.length := len_map
theorem len_bb (xs : List Bool) : (bb xs).length = xs.length := len_map
theorem len_iis (xs : List (List Int)) : (iis xs).length = xs.length := len_map
theorem len_ois (e : Nat) (xs : List (List Int)) : (ois e xs).length = xs.length := len_map
theorem mulLe {n b b' X : Nat} (h : b' = b) (h2 : n * b ≤ X) : n * b' ≤ X := h ▸ h2
theorem mulI {n X : Int} {b b' : Nat} (h : b' = b) (h2 : n * (b : Int) ≤ X) : n * (b' : Int) ≤ X := h ▸ h2
theorem offS {o i s s' b c l : Nat} (h : s = b) (h' : s' = c) (h2 : o + i * b + c ≤ l) : offs o i s + s' ≤ l := by subst h h'; rw [offs_eq]; exact h2
theorem allFlat_ii (l : List Int) : allFlat (ii l) = true := by
  induction l with
  | nil => rfl
  | cons x l ih => exact ih
theorem allFlat_bb (l : List Bool) : allFlat (bb l) = true := by
  induction l with
  | nil => rfl
  | cons x l ih => exact ih
theorem lenM {l n b : Nat} (h : b = 1) (h2 : l = n) : l = n * b := by rw [h, h2, Nat.mul_one]
theorem cons_eq {α : Type} {a b : α} {l m : List α} (h : a = b) (h2 : l = m) : a :: l = b :: m := h ▸ h2 ▸ rfl
theorem ref_len {i t g off k m : Nat} {f : Bool} (h : k = m) : ((t, AV.ref i g f off k) : Nat × AV) = (t, .ref i g f off m) := h ▸ rfl
theorem lit_len {t k m : Nat} {cs : List AV} (h : k = m) : ((t, AV.lit k cs) : Nat × AV) = (t, .lit m cs) := h ▸ rfl
theorem int_eq {t : Nat} {k : IntKind} {x y : Int} (h : x = y) : ((t, AV.int k x) : Nat × AV) = (t, .int k y) := h ▸ rfl
theorem bool_eq {t : Nat} {x y : Bool} (h : x = y) : ((t, AV.bool x) : Nat × AV) = (t, .bool y) := h ▸ rfl
theorem box_eq {t : Nat} {l m : List AV} (h : l = m) : Blk.box t l = .box t m := h ▸ rfl
theorem row_eq {e g : Nat} {b : Bool} {l m : List AV} (h : l = m) : Blk.row e g b l = .row e g b m := h ▸ rfl
theorem refc_len {i g off k m : Nat} {f : Bool} (h : k = m) : AV.ref i g f off k = .ref i g f off m := h ▸ rfl
theorem litc_len {k m : Nat} {cs : List AV} (h : k = m) : AV.lit k cs = .lit m cs := h ▸ rfl
theorem intc_eq {k : IntKind} {x y : Int} (h : x = y) : AV.int k x = .int k y := h ▸ rfl
theorem boolc_eq {x y : Bool} (h : x = y) : AV.bool x = .bool y := h ▸ rfl
theorem oisA {e n : Nat} {xs : List (List Int)} {b : List Int} {cs : List AV} (h : n = b.length) (h2 : cs = ii b) : ois e xs ++ [.own e n cs] = ois e (xs ++ [b]) := by
  subst h h2; unfold ois; rw [mapR_eq, mapR_eq, List.map_append]; rfl
theorem iiA {xs : List Int} {x y : Int} (h : x = y) : ii xs ++ [.int .i64 x] = ii (xs ++ [y]) := by
  subst h; unfold ii; rw [mapR_eq, mapR_eq, List.map_append]; rfl
theorem bbA {xs : List Bool} {x y : Bool} (h : x = y) : bb xs ++ [.bool x] = bb (xs ++ [y]) := by
  subst h; unfold bb; rw [mapR_eq, mapR_eq, List.map_append]; rfl
theorem lenN1 {n s : Nat} (h : s = 1) : lenN n s = n := by subst h; rfl
theorem tup_eq {l m : List AV} (h : l = m) : AV.tup l = .tup m := h ▸ rfl
theorem agg_eq {l m : List AV} (h : l = m) : AV.agg l = .agg m := h ▸ rfl
theorem own_eq {e k m : Nat} {cs ds : List AV} (h : k = m) (h2 : cs = ds) : AV.own e k cs = .own e m ds := h ▸ h2 ▸ rfl
theorem nth_map {α : Type} {f : α → AV} {xs : List α} {i : Nat} (h : i < xs.length) : nth (mapR f xs) i = some (f xs[i]) := by rw [nth_eq, mapR_eq]; simp [h]
theorem view_iis (l : List (List Int)) : mapR view (iis l) = iis l := by
  unfold iis; rw [mapR_eq, mapR_eq, List.map_map]; rfl
theorem view_ois (e : Nat) (l : List (List Int)) : mapR view (ois e l) = iis l := by
  unfold ois iis; rw [mapR_eq, mapR_eq, mapR_eq, List.map_map]; rfl
/-! proofs that come by themselves -/
theorem vw {A : Prop} (h : A := by first | exact view_iis _ | exact view_ois _ _ | exact view_iis [] | rfl) : A := h

theorem sd {A : Prop} (h : A := by (repeat' apply And.intro) <;> first | with_reducible rfl | exact allFlat_ii _ | exact allFlat_bb _ | rfl | omega | exact Nat.le_of_ble_eq_true rfl | trivial | (simp only [arr_len, bbs_len, offs_eq, Nat.zero_add, Nat.mul_one]; first | done | omega) | ((try first | ((with_reducible refine mulI (b := 8) ?_ ?_); rfl) | ((with_reducible refine mulI (b := 1) ?_ ?_); rfl) | ((with_reducible refine mulI (b := 24) ?_ ?_); rfl) | ((with_reducible refine mulLe (b := 8) ?_ ?_); rfl) | ((with_reducible refine mulLe (b := 24) ?_ ?_); rfl) | ((with_reducible refine mulLe (b := 1) ?_ ?_); rfl) | ((with_reducible refine mulLe (b := 32) ?_ ?_); rfl) | ((with_reducible refine mulLe (b := 16) ?_ ?_); rfl) | ((with_reducible refine mulLe (b := 48) ?_ ?_); rfl) | ((with_reducible refine lenM ?_ ?_); rfl) | ((with_reducible refine offS (b := 1) (c := 1) ?_ ?_ ?_); rfl; rfl) | ((with_reducible refine offS (b := 4) (c := 1) ?_ ?_ ?_); rfl; rfl) | ((with_reducible refine offS (b := 4) (c := 4) ?_ ?_ ?_); rfl; rfl) | ((with_reducible refine offS (b := 2) (c := 2) ?_ ?_ ?_); rfl; rfl)); first | omega | (simp only [wrapE, wrapKE, len_ii, len_bb, len_iis, len_ois, offs_eq, len_map, List.length_set, List.length_replicate, List.length_append, List.length_cons, List.length_nil, Nat.zero_add, Nat.mul_one, Int.toNat_natCast]; done) | (simp only [wrapE, wrapKE, len_ii, len_bb, len_iis, len_ois, offs_eq, len_map, List.length_set, List.length_replicate, List.length_append, List.length_cons, List.length_nil, Nat.zero_add, Nat.mul_one, Int.toNat_natCast]; omega) | (simp only [arr_len, bbs_len, Nat.mul_one, Nat.zero_add]; omega) | (simp only [wrapE, wrapKE, len_ii, len_bb, len_iis, len_ois, offs_eq, len_map, List.length_set, List.length_replicate, List.length_append, List.length_cons, List.length_nil, Nat.zero_add, Nat.mul_one, Int.toNat_natCast] at *; omega))) : A := h
theorem ln {A : Prop} (h : A := by first | with_reducible rfl | rfl | (simp only [wrapE, wrapKE, len_ii, len_bb, len_iis, len_ois, offs_eq, len_map, List.length_set, List.length_replicate, List.length_append, List.length_cons, List.length_nil, Nat.zero_add, Nat.mul_one, Int.toNat_natCast]; first | done | omega | rfl) | omega) : A := h
theorem cel {A : Prop} (h : A := by first | rfl | (refine refc_len ?_; first | exact lenP | exact lenB | (first | exact lenN1 rfl | omega | (simp only [wrapE, wrapKE, len_ii, len_bb, len_iis, len_ois, offs_eq, len_map, List.length_set, List.length_replicate, List.length_append, List.length_cons, List.length_nil, Nat.zero_add, Nat.mul_one, Int.toNat_natCast]; first | done | exact lenN1 rfl | omega | rfl))) | (refine litc_len ?_; (first | exact lenN1 rfl | omega | (simp only [wrapE, wrapKE, len_ii, len_bb, len_iis, len_ois, offs_eq, len_map, List.length_set, List.length_replicate, List.length_append, List.length_cons, List.length_nil, Nat.zero_add, Nat.mul_one, Int.toNat_natCast]; first | done | exact lenN1 rfl | omega | rfl))) | (refine intc_eq ?_; (first | exact lenN1 rfl | omega | (simp only [wrapE, wrapKE, len_ii, len_bb, len_iis, len_ois, offs_eq, len_map, List.length_set, List.length_replicate, List.length_append, List.length_cons, List.length_nil, Nat.zero_add, Nat.mul_one, Int.toNat_natCast]; first | done | exact lenN1 rfl | omega | rfl))) | (refine boolc_eq ?_; (first | exact lenN1 rfl | omega | (simp only [wrapE, wrapKE, len_ii, len_bb, len_iis, len_ois, offs_eq, len_map, List.length_set, List.length_replicate, List.length_append, List.length_cons, List.length_nil, Nat.zero_add, Nat.mul_one, Int.toNat_natCast]; first | done | exact lenN1 rfl | omega | rfl)))) : A := h
theorem ce {A : Prop} (h : A := by first | rfl | (refine ref_len ?_; first | exact lenP | exact lenB | (first | exact lenN1 rfl | omega | (simp only [wrapE, wrapKE, len_ii, len_bb, len_iis, len_ois, offs_eq, len_map, List.length_set, List.length_replicate, List.length_append, List.length_cons, List.length_nil, Nat.zero_add, Nat.mul_one, Int.toNat_natCast]; first | done | exact lenN1 rfl | omega | rfl))) | (refine lit_len ?_; (first | exact lenN1 rfl | omega | (simp only [wrapE, wrapKE, len_ii, len_bb, len_iis, len_ois, offs_eq, len_map, List.length_set, List.length_replicate, List.length_append, List.length_cons, List.length_nil, Nat.zero_add, Nat.mul_one, Int.toNat_natCast]; first | done | exact lenN1 rfl | omega | rfl))) | (refine int_eq ?_; (first | exact lenN1 rfl | omega | (simp only [wrapE, wrapKE, len_ii, len_bb, len_iis, len_ois, offs_eq, len_map, List.length_set, List.length_replicate, List.length_append, List.length_cons, List.length_nil, Nat.zero_add, Nat.mul_one, Int.toNat_natCast]; first | done | exact lenN1 rfl | omega | rfl))) | (refine bool_eq ?_; (first | exact lenN1 rfl | omega | (simp only [wrapE, wrapKE, len_ii, len_bb, len_iis, len_ois, offs_eq, len_map, List.length_set, List.length_replicate, List.length_append, List.length_cons, List.length_nil, Nat.zero_add, Nat.mul_one, Int.toNat_natCast]; first | done | exact lenN1 rfl | omega | rfl))) | (refine row_eq ?_; first | rfl | exact oisA (by exact ln) rfl | (refine oisA ?_ ?_; (first | exact lenN1 rfl | omega | (simp only [wrapE, wrapKE, len_ii, len_bb, len_iis, len_ois, offs_eq, len_map, List.length_set, List.length_replicate, List.length_append, List.length_cons, List.length_nil, Nat.zero_add, Nat.mul_one, Int.toNat_natCast]; first | done | exact lenN1 rfl | omega | rfl)); first | rfl | simp only [wrapE, wrapKE, len_ii, len_bb, len_iis, len_ois, offs_eq, len_map, List.length_set, List.length_replicate, List.length_append, List.length_cons, List.length_nil, Nat.zero_add, Nat.mul_one, Int.toNat_natCast]) | (refine iiA ?_; (first | exact lenN1 rfl | omega | (simp only [wrapE, wrapKE, len_ii, len_bb, len_iis, len_ois, offs_eq, len_map, List.length_set, List.length_replicate, List.length_append, List.length_cons, List.length_nil, Nat.zero_add, Nat.mul_one, Int.toNat_natCast]; first | done | exact lenN1 rfl | omega | rfl))) | (refine bbA ?_; (first | exact lenN1 rfl | omega | (simp only [wrapE, wrapKE, len_ii, len_bb, len_iis, len_ois, offs_eq, len_map, List.length_set, List.length_replicate, List.length_append, List.length_cons, List.length_nil, Nat.zero_add, Nat.mul_one, Int.toNat_natCast]; first | done | exact lenN1 rfl | omega | rfl))) | exact p2A | (first | exact lenN1 rfl | omega | (simp only [wrapE, wrapKE, len_ii, len_bb, len_iis, len_ois, offs_eq, len_map, List.length_set, List.length_replicate, List.length_append, List.length_cons, List.length_nil, Nat.zero_add, Nat.mul_one, Int.toNat_natCast]; first | done | exact lenN1 rfl | omega | rfl))) | (refine box_eq ?_; (repeat (refine cons_eq (by exact cel) ?_)); rfl)) : A := h
theorem cl {A : Prop} (h : A := by (repeat (refine cons_eq (by exact ce) ?_)); rfl) : A := h
theorem av {A : Prop} (h : A := by (repeat' first | with_reducible rfl | refine tup_eq ?_ | refine agg_eq ?_ | refine own_eq ?_ ?_ | refine cons_eq ?_ ?_ | rfl) <;> (first | omega | (simp only [wrapE, wrapKE, len_ii, len_bb, len_iis, len_ois, offs_eq, len_map, List.length_set, List.length_replicate, List.length_append, List.length_cons, List.length_nil, Nat.zero_add, Nat.mul_one, Int.toNat_natCast]; first | done | omega | rfl) | fail)) : A := h
theorem cf {A : Prop} (h : A := by first | exact Iff.rfl | exact decide_eq_true_iff | exact beq_iff_eq | exact bne_iff_ne | (simp; done) | (simp only [decide_eq_true_eq, beq_iff_eq, bne_iff_ne, ne_eq, Bool.not_eq_true', Bool.and_eq_true, Bool.or_eq_true, wrapE, wrapKE, len_ii, len_bb, len_iis, len_ois, offs_eq, len_map, List.length_set, List.length_replicate, List.length_append, List.length_cons, List.length_nil, Nat.zero_add, Nat.mul_one, Int.toNat_natCast]; done) | (simp [wrapE, wrapKE, len_ii, len_bb, len_iis, len_ois, offs_eq, len_map, List.length_set, List.length_replicate, List.length_append, List.length_cons, List.length_nil, Nat.zero_add, Nat.mul_one, Int.toNat_natCast]; done)) : A := h
theorem kn {A : Prop} (h : A := by first | rfl | (simp only [decide_eq_true_eq, decide_eq_false_iff_not, beq_iff_eq, bne_iff_ne, ne_eq, beq_eq_false_iff_ne, bne_eq_false_iff_eq, Bool.not_eq_true, Bool.not_eq_false, wrapE, wrapKE, len_ii, len_bb, len_iis, len_ois, offs_eq, len_map, List.length_set, List.length_replicate, List.length_append, List.length_cons, List.length_nil, Nat.zero_add, Nat.mul_one, Int.toNat_natCast]; first | assumption | omega) | assumption | (simp [*]; done)) : A := h
/-! the blocks that live, each list worked out before the next -/
noncomputable def force {β : Type} (l : List Src) (k : List Src → β) : β := @List.rec Src (fun _ => (List Src → β) → β) (fun k => k []) (fun a _ ih k => ih (fun l => k (a :: l))) l k
theorem force_eq {β : Type} (l : List Src) (k : List Src → β) : force l k = k l := by
  induction l generalizing k with
  | nil => rfl
  | cons a l ih => exact ih (fun l => k (a :: l))
noncomputable def collectF (s : St) (lv : List Nat) : List Src → List Src := @List.rec Nat (fun _ => List Src → List Src) (fun ids => ids) (fun t _ ih ids => force (idsAt (.nilT t) ids (s.env t)) ih) lv
theorem collectF_eq (s : St) : ∀ (lv : List Nat) (ids : List Src), collectF s lv ids = foldR (fun ids t => idsAt (.nilT t) ids (s.env t)) lv ids
  | [], ids => rfl
  | t :: lv, ids => (force_eq _ _).trans (collectF_eq s lv _)
noncomputable def idsCF (id : Nat) (cs : List AV) : Nat → List Src → List Src := @List.rec AV (fun _ => Nat → List Src → List Src) (fun _ ids => ids) (fun c _ ih j ids => force (idsAt (.nilB id j) ids c) (ih (j + 1))) cs
theorem idsCF_eq (id : Nat) : ∀ (cs : List AV) (j : Nat) (ids : List Src), idsCF id cs j ids = idsC id cs j ids
  | [], j, ids => rfl
  | c :: cs, j, ids => (force_eq _ _).trans (idsCF_eq id cs (j + 1) _)
noncomputable def idsBF (h : Heap) (l : List Src) : List Src → List Src := @List.rec Src (fun _ => List Src → List Src) (fun ids => ids) (fun x _ ih ids => force (match x with
    | .old id => (match h id with
      | some (.box _ cs) => idsCF id cs 0 ids
      | _ => ids)
    | _ => ids) ih) l
theorem idsBF_eq (h : Heap) : ∀ (l ids : List Src), idsBF h l ids = idsB h l ids
  | [], ids => rfl
  | x :: l, ids => by
    refine (force_eq _ _).trans ((idsBF_eq h l _).trans ?_)
    show idsB h l _ = idsB h l _
    congr 1
    cases x with
    | old id =>
      show (match h id with | some (.box _ cs) => idsCF id cs 0 ids | _ => ids) = (match h id with | some (.box _ cs) => idsC id cs 0 ids | _ => ids)
      cases h id with
      | none => rfl
      | some b => cases b <;> first | rfl | exact idsCF_eq _ _ _ _
    | _ => rfl
/-- what canon is, list by list -/
theorem cI {tb : Nat → Ti} {lv : List Nat} {s T : St} {l : List (Nat × AV)} {m : List Blk} (i0 i1 i2 : List Src) (h0 : collectF s lv [] = i0 := by rfl) (h1 : idsBF s.heap i0 i0 = i1 := by rfl) (h2 : idsBF s.heap i1 i1 = i2 := by rfl) (hT : T = ⟨asl l, hp m⟩ := by rfl)
    (hl : mapR (fun t => (t, renAt tb s.heap i2 (.nilT t) (s.env t))) lv = l := by exact cl) (hm : mapI (renK tb s i2) i2 0 = m := by exact cl) : canon tb lv s = T := by
  rw [collectF_eq] at h0
  rw [idsBF_eq] at h1 h2
  subst h0 h1 h2 hT hl hm; rfl
/-! steps -/
theorem aA {A B : Prop} (k : B) (s : A := by exact sd) : A ∧ B := ⟨s, k⟩
theorem exI {xs : List Int} {i : Int} {K : AV → Prop} (k : K (.int .i64 (rd xs i))) (h0 : 0 ≤ i := by exact sd) (h1 : i < xs.length := by exact sd) : ∃ v, nth (ii xs) i.toNat = some v ∧ K v :=
  ⟨_, by unfold ii; rw [nth_map (by omega : i.toNat < xs.length)], by simpa [rd, rdOf, rd_L1, List.getD, (by omega : i.toNat < xs.length)] using k⟩
theorem exB {xs : List Bool} {i : Int} {K : AV → Prop} (k : K (.bool (rdOf false xs i))) (h0 : 0 ≤ i := by exact sd) (h1 : i < xs.length := by exact sd) : ∃ v, nth (bb xs) i.toNat = some v ∧ K v :=
  ⟨_, by unfold bb; rw [nth_map (by omega : i.toNat < xs.length)], by simpa [rd, rdOf, rd_L1, List.getD, (by omega : i.toNat < xs.length)] using k⟩
theorem exR {xs : List (List Int)} {i : Int} {K : AV → Prop} (k : K (eI (rd_L1 xs i))) (h0 : 0 ≤ i := by exact sd) (h1 : i < xs.length := by exact sd) : ∃ v, nth (iis xs) i.toNat = some v ∧ K v :=
  ⟨_, by unfold iis; rw [nth_map (by omega : i.toNat < xs.length)], by simpa [rd, rdOf, rd_L1, List.getD, (by omega : i.toNat < xs.length)] using k⟩
theorem exO {e : Nat} {xs : List (List Int)} {i : Int} {K : AV → Prop} (k : K (oI e (rd_L1 xs i))) (h0 : 0 ≤ i := by exact sd) (h1 : i < xs.length := by exact sd) : ∃ v, nth (ois e xs) i.toNat = some v ∧ K v :=
  ⟨_, by unfold ois; rw [nth_map (by omega : i.toNat < xs.length)], by simpa [rd, rdOf, rd_L1, List.getD, (by omega : i.toNat < xs.length)] using k⟩
/-- a call that writes -/
theorem sh {A : Prop} (h : A := by (repeat' first | with_reducible rfl | apply And.intro | rfl | exact True.intro)) : A := h
theorem exW {R : Nat → List AV → AV → Prop} {f : Nat} {args : List AV} {h : Heap} {ls : List AV} {r : AV} {vs' : List AV} {K : AV → List AV → Prop} (p : R f args (.tup [r, .tup vs'])) (k : K r vs') (s : shW h ls vs' := by exact sh) : ∃ r vs', R f args (.tup [r, .tup vs']) ∧ shW h ls vs' ∧ K r vs' := ⟨r, vs', p, s, k⟩
/-- a cell that is there -/
theorem exV {cs : List AV} {i : Nat} {v : AV} {K : AV → Prop} (k : K v) (h : nth cs i = some v := by rfl) : ∃ v, nth cs i = some v ∧ K v := ⟨v, h, k⟩
theorem leE {x y : List AV} {K : List AV → Prop} (k : K y) (h : y = x := by rfl) : ∃ y, y = x ∧ K y := ⟨y, h, k⟩
theorem seI {xs : List Int} {i : Nat} {b : Int} {K : List AV → Prop} (k : K (ii (xs.set i b))) : ∃ y, y = splice (ii xs) (offs 0 i 1) [.int .i64 b] ∧ K y :=
  ⟨_, by rw [offs_eq]; unfold ii; rw [mapR_eq, mapR_eq, List.map_set]; simp [splice], k⟩
theorem seB {xs : List Bool} {i : Nat} {b : Bool} {K : List AV → Prop} (k : K (bb (xs.set i b))) : ∃ y, y = splice (bb xs) (offs 0 i 1) [.bool b] ∧ K y :=
  ⟨_, by rw [offs_eq]; unfold bb; rw [mapR_eq, mapR_eq, List.map_set]; simp [splice], k⟩
theorem apI {xs : List Int} {b : Int} {K : List AV → Prop} (k : K (ii (xs ++ [b]))) : ∃ y, y = ii xs ++ [.int .i64 b] ∧ K y :=
  ⟨_, by unfold ii; rw [mapR_eq, mapR_eq, List.map_append]; rfl, k⟩
theorem apB {xs : List Bool} {b : Bool} {K : List AV → Prop} (k : K (bb (xs ++ [b]))) : ∃ y, y = bb xs ++ [.bool b] ∧ K y :=
  ⟨_, by unfold bb; rw [mapR_eq, mapR_eq, List.map_append]; rfl, k⟩
theorem apO {e n : Nat} {xs : List (List Int)} {b : List Int} {K : List AV → Prop} (k : K (ois e (xs ++ [b]))) (h : n = b.length := by exact ln) : ∃ y, y = ois e xs ++ [.own e n (ii b)] ∧ K y :=
  ⟨_, by subst h; unfold ois; rw [mapR_eq, mapR_eq, List.map_append]; rfl, k⟩
theorem mkB {m : Nat} {b : Bool} {K : List AV → Prop} (k : K (bb (List.replicate m b))) : ∃ y, y = replZ m [.bool b] ∧ K y :=
  ⟨_, by unfold bb; rw [mapR_eq, List.map_replicate]; rfl, k⟩
theorem mkI {m : Nat} {b : Int} {K : List AV → Prop} (k : K (ii (List.replicate m b))) : ∃ y, y = replZ m [.int .i64 b] ∧ K y :=
  ⟨_, by unfold ii; rw [mapR_eq, List.map_replicate]; rfl, k⟩
theorem mkO {m e : Nat} {K : List AV → Prop} (k : K (ois e (List.replicate m []))) : ∃ y, y = replZ m [.own e 0 []] ∧ K y :=
  ⟨_, by unfold ois; rw [mapR_eq, List.map_replicate]; rfl, k⟩
theorem seO {xs : List (List Int)} {i e n : Nat} {b : List Int} {K : List AV → Prop} (k : K (ois e (xs.set i b))) (h : n = b.length := by exact ln) : ∃ y, y = splice (ois e xs) (offs 0 i 1) [.own e n (ii b)] ∧ K y :=
  ⟨_, by subst h; rw [offs_eq]; unfold ois; rw [mapR_eq, mapR_eq, List.map_set]; simp [splice, oI], k⟩
theorem brI {α : Type} {P : Prop} [Decidable P] {X Y : Option α} {r : α} {b : Bool} {A B : Prop} (H : (if P then X else Y) = some r) (h1 : P → X = some r → A) (h2 : ¬ P → Y = some r → B) (hb : b = true ↔ P := by exact cf) : br b A B := by
  by_cases hc : P
  · rw [if_pos hc] at H; cases b with
    | true => exact h1 hc H
    | false => exact absurd (hb.2 hc) (by simp)
  · rw [if_neg hc] at H; cases b with
    | true => exact absurd (hb.1 rfl) hc
    | false => exact h2 hc H
/-- the other way round -/
theorem brN {α : Type} {P : Prop} [Decidable P] {X Y : Option α} {r : α} {b : Bool} {A B : Prop} (H : (if P then X else Y) = some r) (h1 : ¬ P → Y = some r → A) (h2 : P → X = some r → B) (hb : (!b) = true ↔ P := by exact cf) : br b A B := by
  by_cases hc : P
  · rw [if_pos hc] at H; cases b with
    | true => exact absurd (hb.2 hc) (by simp)
    | false => exact h2 hc H
  · rw [if_neg hc] at H; cases b with
    | true => exact h1 hc H
    | false => exact absurd (hb.1 rfl) hc
/-- a condition that is known -/
theorem brT {b : Bool} {A B : Prop} (k : A) (hb : b = true := by exact kn) : br b A B := by subst hb; exact k
theorem brF {b : Bool} {A B : Prop} (k : B) (hb : b = false := by exact kn) : br b A B := by subst hb; exact k
theorem reF {α : Type} (e : α → AV) (r : α) {a : α} {x : AV} (H : some a = some r) (h : x = e a := by exact av) : x = e r := oS H ▸ h
theorem L1 {α0 ρ : Type} {tb : Nat → Ti} {step : (Exit → St → Prop) → St → Prop} {lv : List Nat} {Q : Exit → St → Prop} {s : St} {r : ρ} {K : Nat} {x0 : α0} (T : α0 → St) (g : Nat → α0 → Option ρ) (H : g K x0 = some r) (hc : canon tb lv s = T x0)
    (h : ∀ k (x0 : α0) (L : St → Prop), k < K → g (k + 1) x0 = some r → (∀ k' (y0 : α0) s', g k' y0 = some r → k' ≤ k → canon tb lv s' = T y0 → L s') → step (seqQ L Q) (T x0))
    (h0 : ∀ x0, g 0 x0 = none := by intros; rfl) : Loop tb step lv Q s := by
  refine Loop.ind (ι := Nat × α0) (fun y => T y.2) (fun y => y.1 ≤ K ∧ g y.1 y.2 = some r) (fun y => y.1) ?_ (K, x0) s ⟨Nat.le_refl _, H⟩ hc
  rintro ⟨kk, x0⟩ ⟨hk, hF⟩ L hL
  cases kk with
  | zero => rw [h0] at hF; cases hF
  | succ kk => exact h kk x0 L hk hF fun k' y0 s' hF' hk' hc' => hL (k', y0) s' ⟨(by show k' ≤ K; have : kk + 1 ≤ K := hk; omega), hF'⟩ (by show k' < kk + 1; omega) hc'
theorem L2 {α0 α1 ρ : Type} {tb : Nat → Ti} {step : (Exit → St → Prop) → St → Prop} {lv : List Nat} {Q : Exit → St → Prop} {s : St} {r : ρ} {K : Nat} {x0 : α0} {x1 : α1} (T : α0 → α1 → St) (g : Nat → α0 → α1 → Option ρ) (H : g K x0 x1 = some r) (hc : canon tb lv s = T x0 x1)
    (h : ∀ k (x0 : α0) (x1 : α1) (L : St → Prop), k < K → g (k + 1) x0 x1 = some r → (∀ k' (y0 : α0) (y1 : α1) s', g k' y0 y1 = some r → k' ≤ k → canon tb lv s' = T y0 y1 → L s') → step (seqQ L Q) (T x0 x1))
    (h0 : ∀ x0 x1, g 0 x0 x1 = none := by intros; rfl) : Loop tb step lv Q s := by
  refine Loop.ind (ι := Nat × α0 × α1) (fun y => T y.2.1 y.2.2) (fun y => y.1 ≤ K ∧ g y.1 y.2.1 y.2.2 = some r) (fun y => y.1) ?_ (K, x0, x1) s ⟨Nat.le_refl _, H⟩ hc
  rintro ⟨kk, x0, x1⟩ ⟨hk, hF⟩ L hL
  cases kk with
  | zero => rw [h0] at hF; cases hF
  | succ kk => exact h kk x0 x1 L hk hF fun k' y0 y1 s' hF' hk' hc' => hL (k', y0, y1) s' ⟨(by show k' ≤ K; have : kk + 1 ≤ K := hk; omega), hF'⟩ (by show k' < kk + 1; omega) hc'
theorem L3 {α0 α1 α2 ρ : Type} {tb : Nat → Ti} {step : (Exit → St → Prop) → St → Prop} {lv : List Nat} {Q : Exit → St → Prop} {s : St} {r : ρ} {K : Nat} {x0 : α0} {x1 : α1} {x2 : α2} (T : α0 → α1 → α2 → St) (g : Nat → α0 → α1 → α2 → Option ρ) (H : g K x0 x1 x2 = some r) (hc : canon tb lv s = T x0 x1 x2)
    (h : ∀ k (x0 : α0) (x1 : α1) (x2 : α2) (L : St → Prop), k < K → g (k + 1) x0 x1 x2 = some r → (∀ k' (y0 : α0) (y1 : α1) (y2 : α2) s', g k' y0 y1 y2 = some r → k' ≤ k → canon tb lv s' = T y0 y1 y2 → L s') → step (seqQ L Q) (T x0 x1 x2))
    (h0 : ∀ x0 x1 x2, g 0 x0 x1 x2 = none := by intros; rfl) : Loop tb step lv Q s := by
  refine Loop.ind (ι := Nat × α0 × α1 × α2) (fun y => T y.2.1 y.2.2.1 y.2.2.2) (fun y => y.1 ≤ K ∧ g y.1 y.2.1 y.2.2.1 y.2.2.2 = some r) (fun y => y.1) ?_ (K, x0, x1, x2) s ⟨Nat.le_refl _, H⟩ hc
  rintro ⟨kk, x0, x1, x2⟩ ⟨hk, hF⟩ L hL
  cases kk with
  | zero => rw [h0] at hF; cases hF
  | succ kk => exact h kk x0 x1 x2 L hk hF fun k' y0 y1 y2 s' hF' hk' hc' => hL (k', y0, y1, y2) s' ⟨(by show k' ≤ K; have : kk + 1 ≤ K := hk; omega), hF'⟩ (by show k' < kk + 1; omega) hc'
theorem L4 {α0 α1 α2 α3 ρ : Type} {tb : Nat → Ti} {step : (Exit → St → Prop) → St → Prop} {lv : List Nat} {Q : Exit → St → Prop} {s : St} {r : ρ} {K : Nat} {x0 : α0} {x1 : α1} {x2 : α2} {x3 : α3} (T : α0 → α1 → α2 → α3 → St) (g : Nat → α0 → α1 → α2 → α3 → Option ρ) (H : g K x0 x1 x2 x3 = some r) (hc : canon tb lv s = T x0 x1 x2 x3)
    (h : ∀ k (x0 : α0) (x1 : α1) (x2 : α2) (x3 : α3) (L : St → Prop), k < K → g (k + 1) x0 x1 x2 x3 = some r → (∀ k' (y0 : α0) (y1 : α1) (y2 : α2) (y3 : α3) s', g k' y0 y1 y2 y3 = some r → k' ≤ k → canon tb lv s' = T y0 y1 y2 y3 → L s') → step (seqQ L Q) (T x0 x1 x2 x3))
    (h0 : ∀ x0 x1 x2 x3, g 0 x0 x1 x2 x3 = none := by intros; rfl) : Loop tb step lv Q s := by
  refine Loop.ind (ι := Nat × α0 × α1 × α2 × α3) (fun y => T y.2.1 y.2.2.1 y.2.2.2.1 y.2.2.2.2) (fun y => y.1 ≤ K ∧ g y.1 y.2.1 y.2.2.1 y.2.2.2.1 y.2.2.2.2 = some r) (fun y => y.1) ?_ (K, x0, x1, x2, x3) s ⟨Nat.le_refl _, H⟩ hc
  rintro ⟨kk, x0, x1, x2, x3⟩ ⟨hk, hF⟩ L hL
  cases kk with
  | zero => rw [h0] at hF; cases hF
  | succ kk => exact h kk x0 x1 x2 x3 L hk hF fun k' y0 y1 y2 y3 s' hF' hk' hc' => hL (k', y0, y1, y2, y3) s' ⟨(by show k' ≤ K; have : kk + 1 ≤ K := hk; omega), hF'⟩ (by show k' < kk + 1; omega) hc'
theorem L5 {α0 α1 α2 α3 α4 ρ : Type} {tb : Nat → Ti} {step : (Exit → St → Prop) → St → Prop} {lv : List Nat} {Q : Exit → St → Prop} {s : St} {r : ρ} {K : Nat} {x0 : α0} {x1 : α1} {x2 : α2} {x3 : α3} {x4 : α4} (T : α0 → α1 → α2 → α3 → α4 → St) (g : Nat → α0 → α1 → α2 → α3 → α4 → Option ρ) (H : g K x0 x1 x2 x3 x4 = some r) (hc : canon tb lv s = T x0 x1 x2 x3 x4)
    (h : ∀ k (x0 : α0) (x1 : α1) (x2 : α2) (x3 : α3) (x4 : α4) (L : St → Prop), k < K → g (k + 1) x0 x1 x2 x3 x4 = some r → (∀ k' (y0 : α0) (y1 : α1) (y2 : α2) (y3 : α3) (y4 : α4) s', g k' y0 y1 y2 y3 y4 = some r → k' ≤ k → canon tb lv s' = T y0 y1 y2 y3 y4 → L s') → step (seqQ L Q) (T x0 x1 x2 x3 x4))
    (h0 : ∀ x0 x1 x2 x3 x4, g 0 x0 x1 x2 x3 x4 = none := by intros; rfl) : Loop tb step lv Q s := by
  refine Loop.ind (ι := Nat × α0 × α1 × α2 × α3 × α4) (fun y => T y.2.1 y.2.2.1 y.2.2.2.1 y.2.2.2.2.1 y.2.2.2.2.2) (fun y => y.1 ≤ K ∧ g y.1 y.2.1 y.2.2.1 y.2.2.2.1 y.2.2.2.2.1 y.2.2.2.2.2 = some r) (fun y => y.1) ?_ (K, x0, x1, x2, x3, x4) s ⟨Nat.le_refl _, H⟩ hc
  rintro ⟨kk, x0, x1, x2, x3, x4⟩ ⟨hk, hF⟩ L hL
  cases kk with
  | zero => rw [h0] at hF; cases hF
  | succ kk => exact h kk x0 x1 x2 x3 x4 L hk hF fun k' y0 y1 y2 y3 y4 s' hF' hk' hc' => hL (k', y0, y1, y2, y3, y4) s' ⟨(by show k' ≤ K; have : kk + 1 ≤ K := hk; omega), hF'⟩ (by show k' < kk + 1; omega) hc'
theorem L6 {α0 α1 α2 α3 α4 α5 ρ : Type} {tb : Nat → Ti} {step : (Exit → St → Prop) → St → Prop} {lv : List Nat} {Q : Exit → St → Prop} {s : St} {r : ρ} {K : Nat} {x0 : α0} {x1 : α1} {x2 : α2} {x3 : α3} {x4 : α4} {x5 : α5} (T : α0 → α1 → α2 → α3 → α4 → α5 → St) (g : Nat → α0 → α1 → α2 → α3 → α4 → α5 → Option ρ) (H : g K x0 x1 x2 x3 x4 x5 = some r) (hc : canon tb lv s = T x0 x1 x2 x3 x4 x5)
    (h : ∀ k (x0 : α0) (x1 : α1) (x2 : α2) (x3 : α3) (x4 : α4) (x5 : α5) (L : St → Prop), k < K → g (k + 1) x0 x1 x2 x3 x4 x5 = some r → (∀ k' (y0 : α0) (y1 : α1) (y2 : α2) (y3 : α3) (y4 : α4) (y5 : α5) s', g k' y0 y1 y2 y3 y4 y5 = some r → k' ≤ k → canon tb lv s' = T y0 y1 y2 y3 y4 y5 → L s') → step (seqQ L Q) (T x0 x1 x2 x3 x4 x5))
    (h0 : ∀ x0 x1 x2 x3 x4 x5, g 0 x0 x1 x2 x3 x4 x5 = none := by intros; rfl) : Loop tb step lv Q s := by
  refine Loop.ind (ι := Nat × α0 × α1 × α2 × α3 × α4 × α5) (fun y => T y.2.1 y.2.2.1 y.2.2.2.1 y.2.2.2.2.1 y.2.2.2.2.2.1 y.2.2.2.2.2.2) (fun y => y.1 ≤ K ∧ g y.1 y.2.1 y.2.2.1 y.2.2.2.1 y.2.2.2.2.1 y.2.2.2.2.2.1 y.2.2.2.2.2.2 = some r) (fun y => y.1) ?_ (K, x0, x1, x2, x3, x4, x5) s ⟨Nat.le_refl _, H⟩ hc
  rintro ⟨kk, x0, x1, x2, x3, x4, x5⟩ ⟨hk, hF⟩ L hL
  cases kk with
  | zero => rw [h0] at hF; cases hF
  | succ kk => exact h kk x0 x1 x2 x3 x4 x5 L hk hF fun k' y0 y1 y2 y3 y4 y5 s' hF' hk' hc' => hL (k', y0, y1, y2, y3, y4, y5) s' ⟨(by show k' ≤ K; have : kk + 1 ≤ K := hk; omega), hF'⟩ (by show k' < kk + 1; omega) hc'
theorem L7 {α0 α1 α2 α3 α4 α5 α6 ρ : Type} {tb : Nat → Ti} {step : (Exit → St → Prop) → St → Prop} {lv : List Nat} {Q : Exit → St → Prop} {s : St} {r : ρ} {K : Nat} {x0 : α0} {x1 : α1} {x2 : α2} {x3 : α3} {x4 : α4} {x5 : α5} {x6 : α6} (T : α0 → α1 → α2 → α3 → α4 → α5 → α6 → St) (g : Nat → α0 → α1 → α2 → α3 → α4 → α5 → α6 → Option ρ) (H : g K x0 x1 x2 x3 x4 x5 x6 = some r) (hc : canon tb lv s = T x0 x1 x2 x3 x4 x5 x6)
    (h : ∀ k (x0 : α0) (x1 : α1) (x2 : α2) (x3 : α3) (x4 : α4) (x5 : α5) (x6 : α6) (L : St → Prop), k < K → g (k + 1) x0 x1 x2 x3 x4 x5 x6 = some r → (∀ k' (y0 : α0) (y1 : α1) (y2 : α2) (y3 : α3) (y4 : α4) (y5 : α5) (y6 : α6) s', g k' y0 y1 y2 y3 y4 y5 y6 = some r → k' ≤ k → canon tb lv s' = T y0 y1 y2 y3 y4 y5 y6 → L s') → step (seqQ L Q) (T x0 x1 x2 x3 x4 x5 x6))
    (h0 : ∀ x0 x1 x2 x3 x4 x5 x6, g 0 x0 x1 x2 x3 x4 x5 x6 = none := by intros; rfl) : Loop tb step lv Q s := by
  refine Loop.ind (ι := Nat × α0 × α1 × α2 × α3 × α4 × α5 × α6) (fun y => T y.2.1 y.2.2.1 y.2.2.2.1 y.2.2.2.2.1 y.2.2.2.2.2.1 y.2.2.2.2.2.2.1 y.2.2.2.2.2.2.2) (fun y => y.1 ≤ K ∧ g y.1 y.2.1 y.2.2.1 y.2.2.2.1 y.2.2.2.2.1 y.2.2.2.2.2.1 y.2.2.2.2.2.2.1 y.2.2.2.2.2.2.2 = some r) (fun y => y.1) ?_ (K, x0, x1, x2, x3, x4, x5, x6) s ⟨Nat.le_refl _, H⟩ hc
  rintro ⟨kk, x0, x1, x2, x3, x4, x5, x6⟩ ⟨hk, hF⟩ L hL
  cases kk with
  | zero => rw [h0] at hF; cases hF
  | succ kk => exact h kk x0 x1 x2 x3 x4 x5 x6 L hk hF fun k' y0 y1 y2 y3 y4 y5 y6 s' hF' hk' hc' => hL (k', y0, y1, y2, y3, y4, y5, y6) s' ⟨(by show k' ≤ K; have : kk + 1 ≤ K := hk; omega), hF'⟩ (by show k' < kk + 1; omega) hc'
theorem L8 {α0 α1 α2 α3 α4 α5 α6 α7 ρ : Type} {tb : Nat → Ti} {step : (Exit → St → Prop) → St → Prop} {lv : List Nat} {Q : Exit → St → Prop} {s : St} {r : ρ} {K : Nat} {x0 : α0} {x1 : α1} {x2 : α2} {x3 : α3} {x4 : α4} {x5 : α5} {x6 : α6} {x7 : α7} (T : α0 → α1 → α2 → α3 → α4 → α5 → α6 → α7 → St) (g : Nat → α0 → α1 → α2 → α3 → α4 → α5 → α6 → α7 → Option ρ) (H : g K x0 x1 x2 x3 x4 x5 x6 x7 = some r) (hc : canon tb lv s = T x0 x1 x2 x3 x4 x5 x6 x7)
    (h : ∀ k (x0 : α0) (x1 : α1) (x2 : α2) (x3 : α3) (x4 : α4) (x5 : α5) (x6 : α6) (x7 : α7) (L : St → Prop), k < K → g (k + 1) x0 x1 x2 x3 x4 x5 x6 x7 = some r → (∀ k' (y0 : α0) (y1 : α1) (y2 : α2) (y3 : α3) (y4 : α4) (y5 : α5) (y6 : α6) (y7 : α7) s', g k' y0 y1 y2 y3 y4 y5 y6 y7 = some r → k' ≤ k → canon tb lv s' = T y0 y1 y2 y3 y4 y5 y6 y7 → L s') → step (seqQ L Q) (T x0 x1 x2 x3 x4 x5 x6 x7))
    (h0 : ∀ x0 x1 x2 x3 x4 x5 x6 x7, g 0 x0 x1 x2 x3 x4 x5 x6 x7 = none := by intros; rfl) : Loop tb step lv Q s := by
  refine Loop.ind (ι := Nat × α0 × α1 × α2 × α3 × α4 × α5 × α6 × α7) (fun y => T y.2.1 y.2.2.1 y.2.2.2.1 y.2.2.2.2.1 y.2.2.2.2.2.1 y.2.2.2.2.2.2.1 y.2.2.2.2.2.2.2.1 y.2.2.2.2.2.2.2.2) (fun y => y.1 ≤ K ∧ g y.1 y.2.1 y.2.2.1 y.2.2.2.1 y.2.2.2.2.1 y.2.2.2.2.2.1 y.2.2.2.2.2.2.1 y.2.2.2.2.2.2.2.1 y.2.2.2.2.2.2.2.2 = some r) (fun y => y.1) ?_ (K, x0, x1, x2, x3, x4, x5, x6, x7) s ⟨Nat.le_refl _, H⟩ hc
  rintro ⟨kk, x0, x1, x2, x3, x4, x5, x6, x7⟩ ⟨hk, hF⟩ L hL
  cases kk with
  | zero => rw [h0] at hF; cases hF
  | succ kk => exact h kk x0 x1 x2 x3 x4 x5 x6 x7 L hk hF fun k' y0 y1 y2 y3 y4 y5 y6 y7 s' hF' hk' hc' => hL (k', y0, y1, y2, y3, y4, y5, y6, y7) s' ⟨(by show k' ≤ K; have : kk + 1 ≤ K := hk; omega), hF'⟩ (by show k' < kk + 1; omega) hc'
theorem L9 {α0 α1 α2 α3 α4 α5 α6 α7 α8 ρ : Type} {tb : Nat → Ti} {step : (Exit → St → Prop) → St → Prop} {lv : List Nat} {Q : Exit → St → Prop} {s : St} {r : ρ} {K : Nat} {x0 : α0} {x1 : α1} {x2 : α2} {x3 : α3} {x4 : α4} {x5 : α5} {x6 : α6} {x7 : α7} {x8 : α8} (T : α0 → α1 → α2 → α3 → α4 → α5 → α6 → α7 → α8 → St) (g : Nat → α0 → α1 → α2 → α3 → α4 → α5 → α6 → α7 → α8 → Option ρ) (H : g K x0 x1 x2 x3 x4 x5 x6 x7 x8 = some r) (hc : canon tb lv s = T x0 x1 x2 x3 x4 x5 x6 x7 x8)
    (h : ∀ k (x0 : α0) (x1 : α1) (x2 : α2) (x3 : α3) (x4 : α4) (x5 : α5) (x6 : α6) (x7 : α7) (x8 : α8) (L : St → Prop), k < K → g (k + 1) x0 x1 x2 x3 x4 x5 x6 x7 x8 = some r → (∀ k' (y0 : α0) (y1 : α1) (y2 : α2) (y3 : α3) (y4 : α4) (y5 : α5) (y6 : α6) (y7 : α7) (y8 : α8) s', g k' y0 y1 y2 y3 y4 y5 y6 y7 y8 = some r → k' ≤ k → canon tb lv s' = T y0 y1 y2 y3 y4 y5 y6 y7 y8 → L s') → step (seqQ L Q) (T x0 x1 x2 x3 x4 x5 x6 x7 x8))
    (h0 : ∀ x0 x1 x2 x3 x4 x5 x6 x7 x8, g 0 x0 x1 x2 x3 x4 x5 x6 x7 x8 = none := by intros; rfl) : Loop tb step lv Q s := by
  refine Loop.ind (ι := Nat × α0 × α1 × α2 × α3 × α4 × α5 × α6 × α7 × α8) (fun y => T y.2.1 y.2.2.1 y.2.2.2.1 y.2.2.2.2.1 y.2.2.2.2.2.1 y.2.2.2.2.2.2.1 y.2.2.2.2.2.2.2.1 y.2.2.2.2.2.2.2.2.1 y.2.2.2.2.2.2.2.2.2) (fun y => y.1 ≤ K ∧ g y.1 y.2.1 y.2.2.1 y.2.2.2.1 y.2.2.2.2.1 y.2.2.2.2.2.1 y.2.2.2.2.2.2.1 y.2.2.2.2.2.2.2.1 y.2.2.2.2.2.2.2.2.1 y.2.2.2.2.2.2.2.2.2 = some r) (fun y => y.1) ?_ (K, x0, x1, x2, x3, x4, x5, x6, x7, x8) s ⟨Nat.le_refl _, H⟩ hc
  rintro ⟨kk, x0, x1, x2, x3, x4, x5, x6, x7, x8⟩ ⟨hk, hF⟩ L hL
  cases kk with
  | zero => rw [h0] at hF; cases hF
  | succ kk => exact h kk x0 x1 x2 x3 x4 x5 x6 x7 x8 L hk hF fun k' y0 y1 y2 y3 y4 y5 y6 y7 y8 s' hF' hk' hc' => hL (k', y0, y1, y2, y3, y4, y5, y6, y7, y8) s' ⟨(by show k' ≤ K; have : kk + 1 ≤ K := hk; omega), hF'⟩ (by show k' < kk + 1; omega) hc'
theorem L10 {α0 α1 α2 α3 α4 α5 α6 α7 α8 α9 ρ : Type} {tb : Nat → Ti} {step : (Exit → St → Prop) → St → Prop} {lv : List Nat} {Q : Exit → St → Prop} {s : St} {r : ρ} {K : Nat} {x0 : α0} {x1 : α1} {x2 : α2} {x3 : α3} {x4 : α4} {x5 : α5} {x6 : α6} {x7 : α7} {x8 : α8} {x9 : α9} (T : α0 → α1 → α2 → α3 → α4 → α5 → α6 → α7 → α8 → α9 → St) (g : Nat → α0 → α1 → α2 → α3 → α4 → α5 → α6 → α7 → α8 → α9 → Option ρ) (H : g K x0 x1 x2 x3 x4 x5 x6 x7 x8 x9 = some r) (hc : canon tb lv s = T x0 x1 x2 x3 x4 x5 x6 x7 x8 x9)
    (h : ∀ k (x0 : α0) (x1 : α1) (x2 : α2) (x3 : α3) (x4 : α4) (x5 : α5) (x6 : α6) (x7 : α7) (x8 : α8) (x9 : α9) (L : St → Prop), k < K → g (k + 1) x0 x1 x2 x3 x4 x5 x6 x7 x8 x9 = some r → (∀ k' (y0 : α0) (y1 : α1) (y2 : α2) (y3 : α3) (y4 : α4) (y5 : α5) (y6 : α6) (y7 : α7) (y8 : α8) (y9 : α9) s', g k' y0 y1 y2 y3 y4 y5 y6 y7 y8 y9 = some r → k' ≤ k → canon tb lv s' = T y0 y1 y2 y3 y4 y5 y6 y7 y8 y9 → L s') → step (seqQ L Q) (T x0 x1 x2 x3 x4 x5 x6 x7 x8 x9))
    (h0 : ∀ x0 x1 x2 x3 x4 x5 x6 x7 x8 x9, g 0 x0 x1 x2 x3 x4 x5 x6 x7 x8 x9 = none := by intros; rfl) : Loop tb step lv Q s := by
  refine Loop.ind (ι := Nat × α0 × α1 × α2 × α3 × α4 × α5 × α6 × α7 × α8 × α9) (fun y => T y.2.1 y.2.2.1 y.2.2.2.1 y.2.2.2.2.1 y.2.2.2.2.2.1 y.2.2.2.2.2.2.1 y.2.2.2.2.2.2.2.1 y.2.2.2.2.2.2.2.2.1 y.2.2.2.2.2.2.2.2.2.1 y.2.2.2.2.2.2.2.2.2.2) (fun y => y.1 ≤ K ∧ g y.1 y.2.1 y.2.2.1 y.2.2.2.1 y.2.2.2.2.1 y.2.2.2.2.2.1 y.2.2.2.2.2.2.1 y.2.2.2.2.2.2.2.1 y.2.2.2.2.2.2.2.2.1 y.2.2.2.2.2.2.2.2.2.1 y.2.2.2.2.2.2.2.2.2.2 = some r) (fun y => y.1) ?_ (K, x0, x1, x2, x3, x4, x5, x6, x7, x8, x9) s ⟨Nat.le_refl _, H⟩ hc
  rintro ⟨kk, x0, x1, x2, x3, x4, x5, x6, x7, x8, x9⟩ ⟨hk, hF⟩ L hL
  cases kk with
  | zero => rw [h0] at hF; cases hF
  | succ kk => exact h kk x0 x1 x2 x3 x4 x5 x6 x7 x8 x9 L hk hF fun k' y0 y1 y2 y3 y4 y5 y6 y7 y8 y9 s' hF' hk' hc' => hL (k', y0, y1, y2, y3, y4, y5, y6, y7, y8, y9) s' ⟨(by show k' ≤ K; have : kk + 1 ≤ K := hk; omega), hF'⟩ (by show k' < kk + 1; omega) hc'
theorem L11 {α0 α1 α2 α3 α4 α5 α6 α7 α8 α9 α10 ρ : Type} {tb : Nat → Ti} {step : (Exit → St → Prop) → St → Prop} {lv : List Nat} {Q : Exit → St → Prop} {s : St} {r : ρ} {K : Nat} {x0 : α0} {x1 : α1} {x2 : α2} {x3 : α3} {x4 : α4} {x5 : α5} {x6 : α6} {x7 : α7} {x8 : α8} {x9 : α9} {x10 : α10} (T : α0 → α1 → α2 → α3 → α4 → α5 → α6 → α7 → α8 → α9 → α10 → St) (g : Nat → α0 → α1 → α2 → α3 → α4 → α5 → α6 → α7 → α8 → α9 → α10 → Option ρ) (H : g K x0 x1 x2 x3 x4 x5 x6 x7 x8 x9 x10 = some r) (hc : canon tb lv s = T x0 x1 x2 x3 x4 x5 x6 x7 x8 x9 x10)
    (h : ∀ k (x0 : α0) (x1 : α1) (x2 : α2) (x3 : α3) (x4 : α4) (x5 : α5) (x6 : α6) (x7 : α7) (x8 : α8) (x9 : α9) (x10 : α10) (L : St → Prop), k < K → g (k + 1) x0 x1 x2 x3 x4 x5 x6 x7 x8 x9 x10 = some r → (∀ k' (y0 : α0) (y1 : α1) (y2 : α2) (y3 : α3) (y4 : α4) (y5 : α5) (y6 : α6) (y7 : α7) (y8 : α8) (y9 : α9) (y10 : α10) s', g k' y0 y1 y2 y3 y4 y5 y6 y7 y8 y9 y10 = some r → k' ≤ k → canon tb lv s' = T y0 y1 y2 y3 y4 y5 y6 y7 y8 y9 y10 → L s') → step (seqQ L Q) (T x0 x1 x2 x3 x4 x5 x6 x7 x8 x9 x10))
    (h0 : ∀ x0 x1 x2 x3 x4 x5 x6 x7 x8 x9 x10, g 0 x0 x1 x2 x3 x4 x5 x6 x7 x8 x9 x10 = none := by intros; rfl) : Loop tb step lv Q s := by
  refine Loop.ind (ι := Nat × α0 × α1 × α2 × α3 × α4 × α5 × α6 × α7 × α8 × α9 × α10) (fun y => T y.2.1 y.2.2.1 y.2.2.2.1 y.2.2.2.2.1 y.2.2.2.2.2.1 y.2.2.2.2.2.2.1 y.2.2.2.2.2.2.2.1 y.2.2.2.2.2.2.2.2.1 y.2.2.2.2.2.2.2.2.2.1 y.2.2.2.2.2.2.2.2.2.2.1 y.2.2.2.2.2.2.2.2.2.2.2) (fun y => y.1 ≤ K ∧ g y.1 y.2.1 y.2.2.1 y.2.2.2.1 y.2.2.2.2.1 y.2.2.2.2.2.1 y.2.2.2.2.2.2.1 y.2.2.2.2.2.2.2.1 y.2.2.2.2.2.2.2.2.1 y.2.2.2.2.2.2.2.2.2.1 y.2.2.2.2.2.2.2.2.2.2.1 y.2.2.2.2.2.2.2.2.2.2.2 = some r) (fun y => y.1) ?_ (K, x0, x1, x2, x3, x4, x5, x6, x7, x8, x9, x10) s ⟨Nat.le_refl _, H⟩ hc
  rintro ⟨kk, x0, x1, x2, x3, x4, x5, x6, x7, x8, x9, x10⟩ ⟨hk, hF⟩ L hL
  cases kk with
  | zero => rw [h0] at hF; cases hF
  | succ kk => exact h kk x0 x1 x2 x3 x4 x5 x6 x7 x8 x9 x10 L hk hF fun k' y0 y1 y2 y3 y4 y5 y6 y7 y8 y9 y10 s' hF' hk' hc' => hL (k', y0, y1, y2, y3, y4, y5, y6, y7, y8, y9, y10) s' ⟨(by show k' ≤ K; have : kk + 1 ≤ K := hk; omega), hF'⟩ (by show k' < kk + 1; omega) hc'
theorem L12 {α0 α1 α2 α3 α4 α5 α6 α7 α8 α9 α10 α11 ρ : Type} {tb : Nat → Ti} {step : (Exit → St → Prop) → St → Prop} {lv : List Nat} {Q : Exit → St → Prop} {s : St} {r : ρ} {K : Nat} {x0 : α0} {x1 : α1} {x2 : α2} {x3 : α3} {x4 : α4} {x5 : α5} {x6 : α6} {x7 : α7} {x8 : α8} {x9 : α9} {x10 : α10} {x11 : α11} (T : α0 → α1 → α2 → α3 → α4 → α5 → α6 → α7 → α8 → α9 → α10 → α11 → St) (g : Nat → α0 → α1 → α2 → α3 → α4 → α5 → α6 → α7 → α8 → α9 → α10 → α11 → Option ρ) (H : g K x0 x1 x2 x3 x4 x5 x6 x7 x8 x9 x10 x11 = some r) (hc : canon tb lv s = T x0 x1 x2 x3 x4 x5 x6 x7 x8 x9 x10 x11)
    (h : ∀ k (x0 : α0) (x1 : α1) (x2 : α2) (x3 : α3) (x4 : α4) (x5 : α5) (x6 : α6) (x7 : α7) (x8 : α8) (x9 : α9) (x10 : α10) (x11 : α11) (L : St → Prop), k < K → g (k + 1) x0 x1 x2 x3 x4 x5 x6 x7 x8 x9 x10 x11 = some r → (∀ k' (y0 : α0) (y1 : α1) (y2 : α2) (y3 : α3) (y4 : α4) (y5 : α5) (y6 : α6) (y7 : α7) (y8 : α8) (y9 : α9) (y10 : α10) (y11 : α11) s', g k' y0 y1 y2 y3 y4 y5 y6 y7 y8 y9 y10 y11 = some r → k' ≤ k → canon tb lv s' = T y0 y1 y2 y3 y4 y5 y6 y7 y8 y9 y10 y11 → L s') → step (seqQ L Q) (T x0 x1 x2 x3 x4 x5 x6 x7 x8 x9 x10 x11))
    (h0 : ∀ x0 x1 x2 x3 x4 x5 x6 x7 x8 x9 x10 x11, g 0 x0 x1 x2 x3 x4 x5 x6 x7 x8 x9 x10 x11 = none := by intros; rfl) : Loop tb step lv Q s := by
  refine Loop.ind (ι := Nat × α0 × α1 × α2 × α3 × α4 × α5 × α6 × α7 × α8 × α9 × α10 × α11) (fun y => T y.2.1 y.2.2.1 y.2.2.2.1 y.2.2.2.2.1 y.2.2.2.2.2.1 y.2.2.2.2.2.2.1 y.2.2.2.2.2.2.2.1 y.2.2.2.2.2.2.2.2.1 y.2.2.2.2.2.2.2.2.2.1 y.2.2.2.2.2.2.2.2.2.2.1 y.2.2.2.2.2.2.2.2.2.2.2.1 y.2.2.2.2.2.2.2.2.2.2.2.2) (fun y => y.1 ≤ K ∧ g y.1 y.2.1 y.2.2.1 y.2.2.2.1 y.2.2.2.2.1 y.2.2.2.2.2.1 y.2.2.2.2.2.2.1 y.2.2.2.2.2.2.2.1 y.2.2.2.2.2.2.2.2.1 y.2.2.2.2.2.2.2.2.2.1 y.2.2.2.2.2.2.2.2.2.2.1 y.2.2.2.2.2.2.2.2.2.2.2.1 y.2.2.2.2.2.2.2.2.2.2.2.2 = some r) (fun y => y.1) ?_ (K, x0, x1, x2, x3, x4, x5, x6, x7, x8, x9, x10, x11) s ⟨Nat.le_refl _, H⟩ hc
  rintro ⟨kk, x0, x1, x2, x3, x4, x5, x6, x7, x8, x9, x10, x11⟩ ⟨hk, hF⟩ L hL
  cases kk with
  | zero => rw [h0] at hF; cases hF
  | succ kk => exact h kk x0 x1 x2 x3 x4 x5 x6 x7 x8 x9 x10 x11 L hk hF fun k' y0 y1 y2 y3 y4 y5 y6 y7 y8 y9 y10 y11 s' hF' hk' hc' => hL (k', y0, y1, y2, y3, y4, y5, y6, y7, y8, y9, y10, y11) s' ⟨(by show k' ≤ K; have : kk + 1 ≤ K := hk; omega), hF'⟩ (by show k' < kk + 1; omega) hc'
theorem L14 {α0 α1 α2 α3 α4 α5 α6 α7 α8 α9 α10 α11 α12 α13 ρ : Type} {tb : Nat → Ti} {step : (Exit → St → Prop) → St → Prop} {lv : List Nat} {Q : Exit → St → Prop} {s : St} {r : ρ} {K : Nat} {x0 : α0} {x1 : α1} {x2 : α2} {x3 : α3} {x4 : α4} {x5 : α5} {x6 : α6} {x7 : α7} {x8 : α8} {x9 : α9} {x10 : α10} {x11 : α11} {x12 : α12} {x13 : α13} (T : α0 → α1 → α2 → α3 → α4 → α5 → α6 → α7 → α8 → α9 → α10 → α11 → α12 → α13 → St) (g : Nat → α0 → α1 → α2 → α3 → α4 → α5 → α6 → α7 → α8 → α9 → α10 → α11 → α12 → α13 → Option ρ) (H : g K x0 x1 x2 x3 x4 x5 x6 x7 x8 x9 x10 x11 x12 x13 = some r) (hc : canon tb lv s = T x0 x1 x2 x3 x4 x5 x6 x7 x8 x9 x10 x11 x12 x13)
    (h : ∀ k (x0 : α0) (x1 : α1) (x2 : α2) (x3 : α3) (x4 : α4) (x5 : α5) (x6 : α6) (x7 : α7) (x8 : α8) (x9 : α9) (x10 : α10) (x11 : α11) (x12 : α12) (x13 : α13) (L : St → Prop), k < K → g (k + 1) x0 x1 x2 x3 x4 x5 x6 x7 x8 x9 x10 x11 x12 x13 = some r → (∀ k' (y0 : α0) (y1 : α1) (y2 : α2) (y3 : α3) (y4 : α4) (y5 : α5) (y6 : α6) (y7 : α7) (y8 : α8) (y9 : α9) (y10 : α10) (y11 : α11) (y12 : α12) (y13 : α13) s', g k' y0 y1 y2 y3 y4 y5 y6 y7 y8 y9 y10 y11 y12 y13 = some r → k' ≤ k → canon tb lv s' = T y0 y1 y2 y3 y4 y5 y6 y7 y8 y9 y10 y11 y12 y13 → L s') → step (seqQ L Q) (T x0 x1 x2 x3 x4 x5 x6 x7 x8 x9 x10 x11 x12 x13))
    (h0 : ∀ x0 x1 x2 x3 x4 x5 x6 x7 x8 x9 x10 x11 x12 x13, g 0 x0 x1 x2 x3 x4 x5 x6 x7 x8 x9 x10 x11 x12 x13 = none := by intros; rfl) : Loop tb step lv Q s := by
  refine Loop.ind (ι := Nat × α0 × α1 × α2 × α3 × α4 × α5 × α6 × α7 × α8 × α9 × α10 × α11 × α12 × α13) (fun y => T y.2.1 y.2.2.1 y.2.2.2.1 y.2.2.2.2.1 y.2.2.2.2.2.1 y.2.2.2.2.2.2.1 y.2.2.2.2.2.2.2.1 y.2.2.2.2.2.2.2.2.1 y.2.2.2.2.2.2.2.2.2.1 y.2.2.2.2.2.2.2.2.2.2.1 y.2.2.2.2.2.2.2.2.2.2.2.1 y.2.2.2.2.2.2.2.2.2.2.2.2.1 y.2.2.2.2.2.2.2.2.2.2.2.2.2.1 y.2.2.2.2.2.2.2.2.2.2.2.2.2.2) (fun y => y.1 ≤ K ∧ g y.1 y.2.1 y.2.2.1 y.2.2.2.1 y.2.2.2.2.1 y.2.2.2.2.2.1 y.2.2.2.2.2.2.1 y.2.2.2.2.2.2.2.1 y.2.2.2.2.2.2.2.2.1 y.2.2.2.2.2.2.2.2.2.1 y.2.2.2.2.2.2.2.2.2.2.1 y.2.2.2.2.2.2.2.2.2.2.2.1 y.2.2.2.2.2.2.2.2.2.2.2.2.1 y.2.2.2.2.2.2.2.2.2.2.2.2.2.1 y.2.2.2.2.2.2.2.2.2.2.2.2.2.2 = some r) (fun y => y.1) ?_ (K, x0, x1, x2, x3, x4, x5, x6, x7, x8, x9, x10, x11, x12, x13) s ⟨Nat.le_refl _, H⟩ hc
  rintro ⟨kk, x0, x1, x2, x3, x4, x5, x6, x7, x8, x9, x10, x11, x12, x13⟩ ⟨hk, hF⟩ L hL
  cases kk with
  | zero => rw [h0] at hF; cases hF
  | succ kk => exact h kk x0 x1 x2 x3 x4 x5 x6 x7 x8 x9 x10 x11 x12 x13 L hk hF fun k' y0 y1 y2 y3 y4 y5 y6 y7 y8 y9 y10 y11 y12 y13 s' hF' hk' hc' => hL (k', y0, y1, y2, y3, y4, y5, y6, y7, y8, y9, y10, y11, y12, y13) s' ⟨(by show k' ≤ K; have : kk + 1 ≤ K := hk; omega), hF'⟩ (by show k' < kk + 1; omega) hc'
theorem L15 {α0 α1 α2 α3 α4 α5 α6 α7 α8 α9 α10 α11 α12 α13 α14 ρ : Type} {tb : Nat → Ti} {step : (Exit → St → Prop) → St → Prop} {lv : List Nat} {Q : Exit → St → Prop} {s : St} {r : ρ} {K : Nat} {x0 : α0} {x1 : α1} {x2 : α2} {x3 : α3} {x4 : α4} {x5 : α5} {x6 : α6} {x7 : α7} {x8 : α8} {x9 : α9} {x10 : α10} {x11 : α11} {x12 : α12} {x13 : α13} {x14 : α14} (T : α0 → α1 → α2 → α3 → α4 → α5 → α6 → α7 → α8 → α9 → α10 → α11 → α12 → α13 → α14 → St) (g : Nat → α0 → α1 → α2 → α3 → α4 → α5 → α6 → α7 → α8 → α9 → α10 → α11 → α12 → α13 → α14 → Option ρ) (H : g K x0 x1 x2 x3 x4 x5 x6 x7 x8 x9 x10 x11 x12 x13 x14 = some r) (hc : canon tb lv s = T x0 x1 x2 x3 x4 x5 x6 x7 x8 x9 x10 x11 x12 x13 x14)
    (h : ∀ k (x0 : α0) (x1 : α1) (x2 : α2) (x3 : α3) (x4 : α4) (x5 : α5) (x6 : α6) (x7 : α7) (x8 : α8) (x9 : α9) (x10 : α10) (x11 : α11) (x12 : α12) (x13 : α13) (x14 : α14) (L : St → Prop), k < K → g (k + 1) x0 x1 x2 x3 x4 x5 x6 x7 x8 x9 x10 x11 x12 x13 x14 = some r → (∀ k' (y0 : α0) (y1 : α1) (y2 : α2) (y3 : α3) (y4 : α4) (y5 : α5) (y6 : α6) (y7 : α7) (y8 : α8) (y9 : α9) (y10 : α10) (y11 : α11) (y12 : α12) (y13 : α13) (y14 : α14) s', g k' y0 y1 y2 y3 y4 y5 y6 y7 y8 y9 y10 y11 y12 y13 y14 = some r → k' ≤ k → canon tb lv s' = T y0 y1 y2 y3 y4 y5 y6 y7 y8 y9 y10 y11 y12 y13 y14 → L s') → step (seqQ L Q) (T x0 x1 x2 x3 x4 x5 x6 x7 x8 x9 x10 x11 x12 x13 x14))
    (h0 : ∀ x0 x1 x2 x3 x4 x5 x6 x7 x8 x9 x10 x11 x12 x13 x14, g 0 x0 x1 x2 x3 x4 x5 x6 x7 x8 x9 x10 x11 x12 x13 x14 = none := by intros; rfl) : Loop tb step lv Q s := by
  refine Loop.ind (ι := Nat × α0 × α1 × α2 × α3 × α4 × α5 × α6 × α7 × α8 × α9 × α10 × α11 × α12 × α13 × α14) (fun y => T y.2.1 y.2.2.1 y.2.2.2.1 y.2.2.2.2.1 y.2.2.2.2.2.1 y.2.2.2.2.2.2.1 y.2.2.2.2.2.2.2.1 y.2.2.2.2.2.2.2.2.1 y.2.2.2.2.2.2.2.2.2.1 y.2.2.2.2.2.2.2.2.2.2.1 y.2.2.2.2.2.2.2.2.2.2.2.1 y.2.2.2.2.2.2.2.2.2.2.2.2.1 y.2.2.2.2.2.2.2.2.2.2.2.2.2.1 y.2.2.2.2.2.2.2.2.2.2.2.2.2.2.1 y.2.2.2.2.2.2.2.2.2.2.2.2.2.2.2) (fun y => y.1 ≤ K ∧ g y.1 y.2.1 y.2.2.1 y.2.2.2.1 y.2.2.2.2.1 y.2.2.2.2.2.1 y.2.2.2.2.2.2.1 y.2.2.2.2.2.2.2.1 y.2.2.2.2.2.2.2.2.1 y.2.2.2.2.2.2.2.2.2.1 y.2.2.2.2.2.2.2.2.2.2.1 y.2.2.2.2.2.2.2.2.2.2.2.1 y.2.2.2.2.2.2.2.2.2.2.2.2.1 y.2.2.2.2.2.2.2.2.2.2.2.2.2.1 y.2.2.2.2.2.2.2.2.2.2.2.2.2.2.1 y.2.2.2.2.2.2.2.2.2.2.2.2.2.2.2 = some r) (fun y => y.1) ?_ (K, x0, x1, x2, x3, x4, x5, x6, x7, x8, x9, x10, x11, x12, x13, x14) s ⟨Nat.le_refl _, H⟩ hc
  rintro ⟨kk, x0, x1, x2, x3, x4, x5, x6, x7, x8, x9, x10, x11, x12, x13, x14⟩ ⟨hk, hF⟩ L hL
  cases kk with
  | zero => rw [h0] at hF; cases hF
  | succ kk => exact h kk x0 x1 x2 x3 x4 x5 x6 x7 x8 x9 x10 x11 x12 x13 x14 L hk hF fun k' y0 y1 y2 y3 y4 y5 y6 y7 y8 y9 y10 y11 y12 y13 y14 s' hF' hk' hc' => hL (k', y0, y1, y2, y3, y4, y5, y6, y7, y8, y9, y10, y11, y12, y13, y14) s' ⟨(by show k' ≤ K; have : kk + 1 ≤ K := hk; omega), hF'⟩ (by show k' < kk + 1; omega) hc'
theorem L16 {α0 α1 α2 α3 α4 α5 α6 α7 α8 α9 α10 α11 α12 α13 α14 α15 ρ : Type} {tb : Nat → Ti} {step : (Exit → St → Prop) → St → Prop} {lv : List Nat} {Q : Exit → St → Prop} {s : St} {r : ρ} {K : Nat} {x0 : α0} {x1 : α1} {x2 : α2} {x3 : α3} {x4 : α4} {x5 : α5} {x6 : α6} {x7 : α7} {x8 : α8} {x9 : α9} {x10 : α10} {x11 : α11} {x12 : α12} {x13 : α13} {x14 : α14} {x15 : α15} (T : α0 → α1 → α2 → α3 → α4 → α5 → α6 → α7 → α8 → α9 → α10 → α11 → α12 → α13 → α14 → α15 → St) (g : Nat → α0 → α1 → α2 → α3 → α4 → α5 → α6 → α7 → α8 → α9 → α10 → α11 → α12 → α13 → α14 → α15 → Option ρ) (H : g K x0 x1 x2 x3 x4 x5 x6 x7 x8 x9 x10 x11 x12 x13 x14 x15 = some r) (hc : canon tb lv s = T x0 x1 x2 x3 x4 x5 x6 x7 x8 x9 x10 x11 x12 x13 x14 x15)
    (h : ∀ k (x0 : α0) (x1 : α1) (x2 : α2) (x3 : α3) (x4 : α4) (x5 : α5) (x6 : α6) (x7 : α7) (x8 : α8) (x9 : α9) (x10 : α10) (x11 : α11) (x12 : α12) (x13 : α13) (x14 : α14) (x15 : α15) (L : St → Prop), k < K → g (k + 1) x0 x1 x2 x3 x4 x5 x6 x7 x8 x9 x10 x11 x12 x13 x14 x15 = some r → (∀ k' (y0 : α0) (y1 : α1) (y2 : α2) (y3 : α3) (y4 : α4) (y5 : α5) (y6 : α6) (y7 : α7) (y8 : α8) (y9 : α9) (y10 : α10) (y11 : α11) (y12 : α12) (y13 : α13) (y14 : α14) (y15 : α15) s', g k' y0 y1 y2 y3 y4 y5 y6 y7 y8 y9 y10 y11 y12 y13 y14 y15 = some r → k' ≤ k → canon tb lv s' = T y0 y1 y2 y3 y4 y5 y6 y7 y8 y9 y10 y11 y12 y13 y14 y15 → L s') → step (seqQ L Q) (T x0 x1 x2 x3 x4 x5 x6 x7 x8 x9 x10 x11 x12 x13 x14 x15))
    (h0 : ∀ x0 x1 x2 x3 x4 x5 x6 x7 x8 x9 x10 x11 x12 x13 x14 x15, g 0 x0 x1 x2 x3 x4 x5 x6 x7 x8 x9 x10 x11 x12 x13 x14 x15 = none := by intros; rfl) : Loop tb step lv Q s := by
  refine Loop.ind (ι := Nat × α0 × α1 × α2 × α3 × α4 × α5 × α6 × α7 × α8 × α9 × α10 × α11 × α12 × α13 × α14 × α15) (fun y => T y.2.1 y.2.2.1 y.2.2.2.1 y.2.2.2.2.1 y.2.2.2.2.2.1 y.2.2.2.2.2.2.1 y.2.2.2.2.2.2.2.1 y.2.2.2.2.2.2.2.2.1 y.2.2.2.2.2.2.2.2.2.1 y.2.2.2.2.2.2.2.2.2.2.1 y.2.2.2.2.2.2.2.2.2.2.2.1 y.2.2.2.2.2.2.2.2.2.2.2.2.1 y.2.2.2.2.2.2.2.2.2.2.2.2.2.1 y.2.2.2.2.2.2.2.2.2.2.2.2.2.2.1 y.2.2.2.2.2.2.2.2.2.2.2.2.2.2.2.1 y.2.2.2.2.2.2.2.2.2.2.2.2.2.2.2.2) (fun y => y.1 ≤ K ∧ g y.1 y.2.1 y.2.2.1 y.2.2.2.1 y.2.2.2.2.1 y.2.2.2.2.2.1 y.2.2.2.2.2.2.1 y.2.2.2.2.2.2.2.1 y.2.2.2.2.2.2.2.2.1 y.2.2.2.2.2.2.2.2.2.1 y.2.2.2.2.2.2.2.2.2.2.1 y.2.2.2.2.2.2.2.2.2.2.2.1 y.2.2.2.2.2.2.2.2.2.2.2.2.1 y.2.2.2.2.2.2.2.2.2.2.2.2.2.1 y.2.2.2.2.2.2.2.2.2.2.2.2.2.2.1 y.2.2.2.2.2.2.2.2.2.2.2.2.2.2.2.1 y.2.2.2.2.2.2.2.2.2.2.2.2.2.2.2.2 = some r) (fun y => y.1) ?_ (K, x0, x1, x2, x3, x4, x5, x6, x7, x8, x9, x10, x11, x12, x13, x14, x15) s ⟨Nat.le_refl _, H⟩ hc
  rintro ⟨kk, x0, x1, x2, x3, x4, x5, x6, x7, x8, x9, x10, x11, x12, x13, x14, x15⟩ ⟨hk, hF⟩ L hL
  cases kk with
  | zero => rw [h0] at hF; cases hF
  | succ kk => exact h kk x0 x1 x2 x3 x4 x5 x6 x7 x8 x9 x10 x11 x12 x13 x14 x15 L hk hF fun k' y0 y1 y2 y3 y4 y5 y6 y7 y8 y9 y10 y11 y12 y13 y14 y15 s' hF' hk' hc' => hL (k', y0, y1, y2, y3, y4, y5, y6, y7, y8, y9, y10, y11, y12, y13, y14, y15) s' ⟨(by show k' ≤ K; have : kk + 1 ≤ K := hk; omega), hF'⟩ (by show k' < kk + 1; omega) hc'
end Go.Ev
