/- Plain contracts of functions that were walked otherwise -/
import Derived.Test.YtefelghmmpmigaaEh2
import Derived.Test.YtefelghmmpmigaaEt
import Derived.Test.YtefelghmmpmigaaF
import Derived.Test.YtefelghmmpmigaaF1
import Derived.Test.YtefelghmmpmigaaF2
import Derived.Shelf.Spec.SlicesInsert
import Derived.Shelf.Spec.SlicesInsertGrow
namespace Go.Proofs
open Go.Shelf
/-- the numbers of this program for the texts of slices.Insert -/
def Try.ren21 : Ren where
  f := fun x => match x with | 21 => 78 | 27 => 93 | 28 => 94 | 35 => 98 | 39 => 99 | n => n
  t := fun x => match x with | 22 => 23 | 3 => 3 | 4 => 4 | 0 => 0 | n => n
  g := fun x => x
set_option maxRecDepth 100000 in
theorem Try.lay21 : Lays2.n21 Try.prog Try.ren21 :=
  { mixed := rfl, f21 := Try.func78.trans (congrArg some (by kernel_rfl)), f27 := Try.func93.trans (congrArg some (by kernel_rfl)), f28 := Try.func94.trans (congrArg some (by kernel_rfl)), f35 := Try.func98.trans (congrArg some (by kernel_rfl)), f39 := Try.func99.trans (congrArg some (by kernel_rfl)),
    t0 := Try.underlying0, a0 := Try.isAgg0, z0 := Try.sizeOf0, v0 := Try.zeroValue0, t3 := Try.underlying3, a3 := Try.isAgg3, z3 := Try.sizeOf3, v3 := Try.zeroValue3, t4 := Try.underlying4, a4 := Try.isAgg4, z4 := Try.sizeOf4, v4 := Try.zeroValue4,
    t22 := Try.underlying23, a22 := Try.isAgg23, z22 := Try.sizeOf23, v22 := Try.zeroValue23, i3 := rfl }
end Go.Proofs
namespace Go.Ev
set_option linter.unusedVariables false
set_option linter.unusedSimpArgs false
open Go.RowKit Go.Proofs Go Go.Shelf Go.Proofs.YtefelghmmpmigaaW.PrintWords Go.Proofs.Ytefelghmmpmigaa.Q
theorem slices_Insert.len {l0 : List Int} {a1 a2 : Int} {r : List Int} (H : slices_Insert.f l0 a1 a2 = some r) : r.length = l0.length + 1 ∧ 0 ≤ a1 ∧ a1 ≤ l0.length ∧ l0.length < 1000000 := by
  unfold slices_Insert.f at H
  repeat' split at H
  all_goals first | (injection H with H; subst H; refine ⟨by simp; omega, by assumption, by assumption, by assumption⟩) | cases H
section
variable {P : Program} {tb : Nat → Ti} {w : World}
theorem ints_of {n : Nat} {l : List Int} {v : Value} {F : List Nat} (h : Res1 tb w (.own 3 n (ii l)) v F) (hn : n = l.length) (h0 : (tb 3).sz = 1) : (v = .slice none 0 0 ∧ l = []) ∨ ∃ g cap cur, v = .slice (some ⟨g, 0, none⟩) l.length cap ∧ w.heap[g]? = some (.cells cur 3 (0, 0)) ∧ l.length ≤ cap ∧ cap ≤ maxLen ∧ cur.size = cap ∧ cur.toList.take l.length = l.map (Value.int .i64) ∧ g ∈ F := by
  subst hn
  obtain ⟨us, Fs, ho, ⟨hl, hz⟩, h1, hr, rfl⟩ := h
  have hl' : us.length = l.length := by rw [hl, len_ii]
  have hus : us = l.map (Value.int .i64) := by
    refine List.ext_getElem (by rw [List.length_map, hl']) fun j hj hj2 => ?_
    have hjl : j < l.length := by omega
    have hc : (ii l)[j]? = some (.int .i64 l[j]) := by
      unfold ii
      rw [mapR_eq, List.getElem?_map, List.getElem?_eq_getElem hjl]; rfl
    have := hr j _ _ hc (List.getElem?_eq_getElem hj)
    rw [List.getElem_map]
    generalize us[j] = u at this ⊢
    generalize Fs j = G at this
    cases this with
    | int => rfl
    | leaf h => exact h.elim
  rcases ho.2 with ⟨rfl, hn0⟩ | ⟨g, cap, cur, rfl, hb, hg, hn, hm, hs, ht⟩
  · exact .inl ⟨rfl, List.length_eq_zero_iff.1 hn0⟩
  · refine .inr ⟨g, cap, cur, rfl, hg, hn, hm, by rw [hs, h0, Nat.mul_one], ?_, by simp [Value.ownBlock]⟩
    rw [← hus, ← ht, h0, Nat.mul_one]
theorem own_ints {g cap : Nat} {cur : Array Value} {r : List Int} (h0 : (tb 3).sz = 1) (hg : w.heap[g]? = some (.cells cur 3 (0, 0))) (h1 : r.length ≤ cap) (h2 : cap ≤ maxLen) (h3 : cur.size = cap) (h4 : cur.toList.take r.length = r.map (Value.int .i64)) : Res1 tb w (.own 3 r.length (ii r)) (.slice (some ⟨g, 0, none⟩) r.length cap) [g] := by
  refine ⟨r.map (Value.int .i64), fun _ => [], ⟨by rw [List.length_map, h0, Nat.mul_one], .inr ⟨g, cap, cur, rfl, Nat.zero_le _, hg, h1, h2, by rw [h3, h0, Nat.mul_one], by rw [h0, Nat.mul_one]; exact h4⟩⟩, ⟨by rw [List.length_map, len_ii], by omega⟩, fun u hu => ?_, fun j c u hc hu => ?_, by rw [flatMap_nil]; rfl⟩
  · obtain ⟨x, _, rfl⟩ := List.mem_map.1 hu
    rfl
  · unfold ii at hc
    rw [mapR_eq, List.getElem?_map] at hc
    rw [List.getElem?_map] at hu
    by_cases hj : j < r.length
    · rw [List.getElem?_eq_getElem hj] at hc hu
      cases hc
      cases hu
      exact .int _ _
    · rw [List.getElem?_eq_none (by omega)] at hc
      cases hc
theorem setCells_row {b t : Nat} : ∀ (vs : List Value) (o : Nat) (w : World) (cur : Array Value), w.heap[b]? = some (.cells cur t (0, 0)) → o + vs.length ≤ cur.size →
    ∃ cur' : Array Value, (w.setCells b o vs).heap[b]? = some (.cells cur' t (0, 0)) ∧ cur'.toList = cur.toList.take o ++ vs ++ cur.toList.drop (o + vs.length)
  | [], o, w, cur, h, _ => ⟨cur, h, by simp⟩
  | v :: vs, o, w, cur, h, hl => by
    have hl' : o + (vs.length + 1) ≤ cur.size := hl
    have h2 := blk_put h o v (cs' := cur.setIfInBounds o v) rfl
    obtain ⟨cur', h3, h4⟩ := setCells_row vs (o + 1) _ _ h2 (by simp; omega)
    refine ⟨cur', h3, ?_⟩
    rw [h4, Array.toList_setIfInBounds, List.set_eq_take_append_cons_drop, if_pos (by rw [Array.length_toList]; omega)]
    have e1 : (cur.toList.take o).length = o := by rw [List.length_take, Array.length_toList]; omega
    have e2 : ∀ (A B : List Value) (v : Value) (o n : Nat), A.length = o → (A ++ v :: B).take (o + 1) ++ vs ++ (A ++ v :: B).drop (o + 1 + n) = A ++ v :: vs ++ B.drop n := by
      intro A B v o n hA
      subst hA
      rw [List.take_append, List.drop_append]
      have : A.length + 1 + n - A.length = n + 1 := by omega
      rw [List.take_of_length_le (show A.length ≤ A.length + 1 by omega), List.drop_of_length_le (show A.length ≤ A.length + 1 + n by omega), this]
      simp
    rw [e2 _ _ _ _ _ e1, List.drop_drop]
    simp only [List.length_cons]
    rw [show o + 1 + vs.length = o + (vs.length + 1) by omega]
theorem setCells_far {b k : Nat} (hk : k ≠ b) : ∀ (vs : List Value) (o : Nat) (w : World), (w.setCells b o vs).heap[k]? = w.heap[k]?
  | [], _, _ => rfl
  | v :: vs, o, w => (setCells_far hk vs (o + 1) _).trans (Below.heap_setCell w _ v k hk)
theorem setCells_same {b : Nat} : ∀ (vs : List Value) (o : Nat) (w : World), (w.setCells b o vs).heap.size = w.heap.size ∧ (w.setCells b o vs).os = w.os ∧ (w.setCells b o vs).tape = w.tape ∧ (w.setCells b o vs).output = w.output
  | [], _, _ => ⟨rfl, rfl, rfl, rfl⟩
  | v :: vs, o, w => by
    obtain ⟨h1, h2, h3, h4⟩ := setCells_same (b := b) vs (o + 1) (w.setCell ⟨b, o, none⟩ v)
    exact ⟨h1.trans (by simp [World.setCell]), h2, h3, h4⟩
theorem Ctr_F {f : Nat} {args as' : List AV} {r0 : AV} (hd : wrDeep f = false) (h : ContractW P tb false f args (.tup [r0, .tup as'])) : Ctr P tb f (.tup [] :: args) (.tup [r0, .tup as']) := by
  have h : ContractW P tb (wrDeep f) f args (.tup [r0, .tup as']) := by rw [hd]; exact h
  exact h
theorem cells_of {g : Nat} {cur : Array Value} {l : List Int} (hg : w.heap[g]? = some (.cells cur 3 (0, 0))) (ht : cur.toList.take l.length = l.map (Value.int .i64)) : ∀ j v, (l.map (Value.int .i64))[j]? = some v → w.cell? ⟨g, 0 + j, none⟩ = some v := fun j v hv => by
  rw [Nat.zero_add, blk_cell hg j]
  rw [← ht, List.getElem?_take] at hv
  split at hv
  · rw [← Array.getElem?_toList]; exact hv
  · cases hv
end
theorem ints_one (l : List Int) : ∀ v ∈ l.map (Value.int .i64), v.oneCell' = true := fun v hv => by
  obtain ⟨x, _, rfl⟩ := List.mem_map.1 hv
  rfl
theorem take_mid {α : Type} (A C : List α) (x : α) {i n : Nat} (hi : i ≤ n) (hA : A.length = n) : (A.take i ++ [x] ++ A.drop i ++ C).take (n + 1) = A.take i ++ [x] ++ A.drop i := by
  rw [List.take_append_of_le_length (by simp; omega), List.take_of_length_le (by simp; omega)]
theorem slices_Insert.pr {l0 : List Int} {a1 a2 : Int} {r : List Int} {n0 n2 : Nat} (H : slices_Insert.f l0 a1 a2 = some r) (hn0 : n0 = l0.length := by exact ln) (hn2 : n2 = 1 := by rfl) :
    Promise Try.prog tb 78 [.tup [], .own 3 n0 (ii l0), .int .i64 a1, .own 3 n2 (ii [a2])] (.tup [.own 3 r.length (ii r), .tup [.junk, .int .i64 a1, .own 3 n2 (ii [a2])]]) := by
  subst hn0 hn2
  obtain ⟨hrl, h0, h1, hbig⟩ := slices_Insert.len H
  have hr : r = l0.take a1.toNat ++ [a2] ++ l0.drop a1.toNat := by
    unfold slices_Insert.f at H
    rw [if_pos h0, if_pos h1, if_pos hbig] at H
    injection H with H
    exact H.symm
  obtain ⟨i, rfl⟩ : ∃ i : Nat, a1 = (i : Int) := ⟨a1.toNat, by omega⟩
  rw [Int.toNat_natCast] at hr
  have hi : i ≤ l0.length := by omega
  clear H h0 h1
  have hrm : r.map (Value.int .i64) = (l0.map (Value.int .i64)).take i ++ [Value.int .i64 a2] ++ (l0.map (Value.int .i64)).drop i := by
    rw [hr, List.map_append, List.map_append, List.map_take, List.map_drop]; rfl
  have hcl : (l0.map (Value.int .i64)).length = l0.length := List.length_map _
  generalize hcs : l0.map (Value.int .i64) = cs at hrm hcl
  refine ⟨⟨_, Try.func78, by decide +kernel, rfl⟩, ?_⟩
  refine Ctr_F rfl fun vs w F hR hN => ?_
  obtain ⟨u0, us, F0, F1, e1, rfl, hR0, hR1⟩ := resL_cons hR
  obtain ⟨u1, us1, F2, F3, rfl, rfl, hR2, hR3⟩ := resL_cons hR1
  obtain ⟨u2, us2, F4, F5, rfl, rfl, hR4, hR5⟩ := resL_cons hR3
  obtain ⟨rfl, rfl⟩ := resL_nil hR5
  obtain ⟨rfl, rfl⟩ := hR2
  simp only [List.nil_append, List.append_nil] at hN
  obtain ⟨n1, n2, n3⟩ := List.nodup_append.1 hN
  have evs : vs = #[u0, .int .i64 i, u2] := by
    rw [← Array.toArray_toList (xs := vs), e1]
  subst evs
  rcases ints_of (show Res1 tb w (.own 3 1 (ii [a2])) u2 F4 from hR4) rfl rfl with ⟨_, h⟩ | ⟨k2, cap2, cur2, rfl, hg2, hc2, hm2, hs2, ht2, hF4⟩
  · cases h
  have hk2 : k2 < w.heap.size := blk_lt hg2
  have hvs : ∀ j v, [Value.int .i64 a2][j]? = some v → w.cell? ⟨k2, 0 + j, none⟩ = some v := cells_of (l := [a2]) hg2 ht2
  have h1v : ∀ v ∈ [Value.int .i64 a2], v.oneCell' = true := ints_one [a2]
  have h1c : ∀ v ∈ cs, v.oneCell' = true := hcs ▸ ints_one l0
  have fin : ∀ (w' : World) (g cap : Nat) (cur : Array Value), w'.heap[g]? = some (.cells cur 3 (0, 0)) → l0.length + 1 ≤ cap → cap ≤ maxLen → cur.size = cap → cur.toList.take (l0.length + 1) = r.map (Value.int .i64) →
      (g ∈ F0 ∧ u0.ownBlock = some g ∨ w.heap.size ≤ g) → (∀ k, k < w.heap.size → k ≠ g → w'.heap[k]? = w.heap[k]?) → (w.heap.size ≤ w'.heap.size ∧ w'.os = w.os ∧ w'.tape = w.tape ∧ w'.output = w.output) →
      ∃ v Fr F', Ending.returned (.slice (some ⟨g, 0, none⟩) (l0.length + 1) cap) = .returned v ∧ Res3 tb w' (.own 3 r.length (ii r)) v Fr ∧ ResL (ResJ tb w') [.junk, .int .i64 i, .own 3 1 (ii [a2])] (leavesV (#[u0, .int .i64 i, .slice (some ⟨k2, 0, none⟩) [a2].length cap2] : Array Value).toList) F' ∧ (F' ++ Fr).Nodup ∧ (∀ k ∈ F', k ∈ F0 ++ ([] ++ (F4 ++ []))) ∧
        (∀ k ∈ Fr, k < w'.heap.size ∧ (w.heap.size ≤ k ∨ k ∈ F0 ++ ([] ++ (F4 ++ [])) ∧ (false = false → ∃ u ∈ leavesV (#[u0, .int .i64 i, .slice (some ⟨k2, 0, none⟩) [a2].length cap2] : Array Value).toList, u.ownBlock = some k))) ∧
        (w.heap.size ≤ w'.heap.size ∧ w'.os = w.os ∧ w'.tape = w.tape ∧ w'.output = w.output) ∧ (∀ k, k < w.heap.size → (k ∈ F0 ++ ([] ++ (F4 ++ [])) → false = false ∧ ∀ u ∈ leavesV (#[u0, .int .i64 i, .slice (some ⟨k2, 0, none⟩) [a2].length cap2] : Array Value).toList, u.ownBlock ≠ some k) → w'.heap[k]? = w.heap[k]?) := by
    intro w' g cap cur hg hcap hmx hsz htk hown hmem hsame
    have hne : k2 ≠ g := by
      rintro rfl
      rcases hown with ⟨q, _⟩ | q
      · exact n3 _ q _ hF4 rfl
      · omega
    have hlv : leavesV (#[u0, .int .i64 i, .slice (some ⟨k2, 0, none⟩) [a2].length cap2] : Array Value).toList = u0.cells.toList ++ [.int .i64 i, .slice (some ⟨k2, 0, none⟩) [a2].length cap2] := rfl
    have hu0 : u0.cells.toList = [u0] := by
      rcases ints_of (show Res1 tb w (.own 3 l0.length (ii l0)) u0 F0 from hR0) rfl rfl with ⟨rfl, _⟩ | ⟨_, _, _, rfl, _⟩ <;> rfl
    rw [hlv, hu0]
    refine ⟨_, [g], [k2], rfl, ?_, ⟨[], [k2], rfl, .inl ⟨rfl, rfl⟩, [], [k2], rfl, .inr ⟨rfl, rfl⟩, [k2], [], rfl, .inr ?_, rfl⟩, by simp [hne], fun k hk => ?_, fun k hk => ?_, hsame, fun k hk hc => hmem k hk fun e => ?_⟩
    · show Res1 tb w' (.own 3 r.length (ii r)) (.slice (some ⟨g, 0, none⟩) (l0.length + 1) cap) [g]
      have := own_ints (tb := tb) (w := w') (r := r) (cap := cap) rfl hg (by omega) hmx hsz (by rw [hrl]; exact htk)
      rwa [hrl] at this ⊢
    · exact own_ints (tb := tb) (r := [a2]) rfl ((hmem k2 hk2 hne).trans hg2) hc2 hm2 hs2 ht2
    · rw [List.mem_singleton] at hk
      subst hk
      simp [hF4]
    · rw [List.mem_singleton] at hk
      subst hk
      refine ⟨blk_lt hg, ?_⟩
      rcases hown with ⟨q, q2⟩ | q
      · exact .inr ⟨List.mem_append_left _ q, fun _ => ⟨u0, by simp, q2⟩⟩
      · exact .inl q
    · subst e
      rcases hown with ⟨q, q2⟩ | q
      · exact (hc (List.mem_append_left _ q)).2 u0 (by simp) q2
      · omega
  have hzs : (Value.int .i64 0).cells.size = 1 := rfl
  have ha : ∀ (o : Obj), (w.drew.alloc o).heap = w.heap.push o := fun o => rfl
  have new : ∀ (A C : Array Value) (cap : Nat), A.toList = r.map (Value.int .i64) → l0.length + 1 ≤ cap → cap ≤ maxLen → (A ++ C).size = cap → _ := fun A C cap hA hc1 hc2 hsz =>
    fin (w.drew.alloc (.cells (A ++ C) 3)) w.heap.size cap (A ++ C) (by rw [ha]; exact Array.getElem?_push_size) hc1 hc2 hsz (by
      rw [Array.toList_append, List.take_append_of_le_length (by rw [hA, List.length_map]; omega), hA, List.take_of_length_le (by rw [List.length_map]; omega)]) (.inr (Nat.le_refl _))
      (fun k hk hne => by rw [ha, Array.getElem?_push_lt hk]; exact (Array.getElem?_eq_getElem hk).symm) ⟨by rw [ha, Array.size_push]; exact Nat.le_succ _, rfl, rfl, rfl⟩
  rcases ints_of (show Res1 tb w (.own 3 l0.length (ii l0)) u0 F0 from hR0) rfl rfl with ⟨rfl, rfl⟩ | ⟨g, cap, cur, rfl, hg, hc, hm, hs, ht, hF⟩
  · -- nil
    have : i = 0 := by simpa using hi
    subst this
    have hcs0 : cs = [] := hcs.symm
    subst hcs0
    have hge := grownCap_ge w (0 + 1) 0 3
    have hle := grownCap_le_maxLen w (0 + 1) 0 3 (by decide)
    refine (Any2.slices_Insert_int_end_grow Try.lay21 none 0 0 k2 0 1 cap2 [] [.int .i64 a2] w (by omega) (by omega) (by omega) (by omega) rfl rfl (fun _ => rfl) (fun a h => by cases h) hvs h1v).mono ?_
    rintro e w' ⟨rfl, rfl⟩
    exact new _ _ _ (by rw [hrm]; rfl) hge hle (by
      show (_ ++ Builtin.zeroCells (Value.int .i64 0).cells (grownCap w (0 + 1) 0 3 - (0 + 1)) : Array Value).size = grownCap w (0 + 1) 0 3
      simp only [Array.size_append, List.size_toArray, size_zeroCells, hzs, List.nil_append, List.length_cons, List.length_nil]; omega)
  · have hg1 : g < w.heap.size := blk_lt hg
    have hgk : k2 ≠ g := fun e => n3 g hF k2 hF4 e.symm
    rw [hcs] at ht
    have hcc : ∀ j v, cs[j]? = some v → w.cell? ⟨g, 0 + j, none⟩ = some v := hcs ▸ cells_of hg (by rw [hcs]; exact ht)
    have hsp : ∀ o, o < cap → (w.cell? ⟨g, o, none⟩).isSome = true := fun o ho => by rw [blk_cell hg o, Array.getElem?_eq_getElem (by omega)]; rfl
    have hmx : cap ≤ 9223372036854775807 := hm
    have hge := grownCap_ge w (l0.length + 1) cap 3
    have hle := grownCap_le_maxLen w (l0.length + 1) cap 3 (by simp only [maxLen]; omega)
    have hct : cur.toList.take l0.length = cs := ht
    have hci : ∀ j, j ≤ l0.length → cur.toList.take j = cs.take j := fun j hj => by rw [← hct, List.take_take, Nat.min_eq_left hj]
    by_cases hroom : l0.length + 1 ≤ cap
    · by_cases hil : i < l0.length
      · -- there is room
        refine (Any2.slices_Insert_int_shift Try.lay21 g 0 l0.length cap i k2 0 1 cap2 cs [.int .i64 a2] w hil (by omega) hroom hmx hgk hcl rfl hcc (fun j hj => hsp _ (by omega)) (fun j hj => blk_frozen hg _) hvs h1c h1v 3 3 cur2.size cur.size (by simp [World.shape?, hg2]) (by simp [World.shape?, hg]) (by omega) (blk_frozen hg2 _) (blk_frozen hg2 _)).mono ?_
        rintro e w' ⟨rfl, rfl⟩
        obtain ⟨c1, q1, q2⟩ := setCells_row (b := g) (t := 3) (cs.drop i) (0 + (i + 1)) w.drew cur hg (by rw [List.length_drop]; omega)
        have s1 : c1.size = cur.size := by
          have := congrArg List.length q2
          simp only [Array.length_toList, List.length_append, List.length_take, List.length_drop] at this
          omega
        obtain ⟨c2, q3, q4⟩ := setCells_row (b := g) (t := 3) [Value.int .i64 a2] (0 + i) _ c1 q1 (by simp; omega)
        have s2 : c2.size = cur.size := by
          have := congrArg List.length q4
          simp only [Array.length_toList, List.length_append, List.length_take, List.length_drop, List.length_cons, List.length_nil] at this
          omega
        refine fin _ g cap c2 q3 hroom hm (by omega) ?_ (.inl ⟨hF, rfl⟩) (fun k hk hne => (setCells_far hne _ _ _).trans (setCells_far hne _ _ _)) ?_
        · rw [q4, q2, hrm, Nat.zero_add, Nat.zero_add]
          have e1 : (cur.toList.take (i + 1)).length = i + 1 := by rw [List.length_take, Array.length_toList]; omega
          have e3 : (cur.toList.take (i + 1) ++ cs.drop i ++ cur.toList.drop (i + 1 + (cs.drop i).length)).take i = cs.take i := by
            rw [List.append_assoc, List.take_append_of_le_length (by omega), List.take_take, Nat.min_eq_left (by omega), hci i (by omega)]
          have e4 : (cur.toList.take (i + 1) ++ cs.drop i ++ cur.toList.drop (i + 1 + (cs.drop i).length)).drop (i + [Value.int IntKind.i64 a2].length) = cs.drop i ++ cur.toList.drop (i + 1 + (cs.drop i).length) := by
            rw [List.append_assoc, List.drop_append, List.drop_of_length_le (by simp; omega)]
            simp [e1]
          rw [e3, e4, ← List.append_assoc, ← hcl]
          exact take_mid cs _ _ (by omega) rfl
        · obtain ⟨p1, p2, p3, p4⟩ := setCells_same (b := g) [Value.int .i64 a2] (0 + i) (w.drew.setCells g (0 + (i + 1)) (cs.drop i))
          obtain ⟨p5, p6, p7, p8⟩ := setCells_same (b := g) (cs.drop i) (0 + (i + 1)) w.drew
          exact ⟨Nat.le_of_eq (p1.trans p5).symm, p2.trans p6, p3.trans p7, p4.trans p8⟩
      · -- behind the last, there is room
        have : i = l0.length := by omega
        subst this
        refine (Any2.slices_Insert_int_end_room Try.lay21 g 0 l0.length cap k2 0 1 cap2 [.int .i64 a2] w (by omega) hroom hmx rfl (fun j hj => hsp _ (by omega)) (fun j hj => blk_frozen hg _) hvs h1v).mono ?_
        rintro e w' ⟨rfl, rfl⟩
        obtain ⟨c1, q1, q2⟩ := setCells_row (b := g) (t := 3) [Value.int .i64 a2] (0 + l0.length) w cur hg (by simp; omega)
        have s1 : c1.size = cur.size := by
          have := congrArg List.length q2
          simp only [Array.length_toList, List.length_append, List.length_take, List.length_drop, List.length_cons, List.length_nil] at this
          omega
        refine fin _ g cap c1 q1 hroom hm (by omega) ?_ (.inl ⟨hF, rfl⟩) (fun k hk hne => setCells_far hne _ _ _) ?_
        · rw [q2, hrm, Nat.zero_add, hct, ← hcl, List.take_of_length_le (Nat.le_refl _), List.drop_of_length_le (Nat.le_refl _), List.append_nil]
          rw [List.take_append_of_le_length (by simp), List.take_of_length_le (by simp)]
        · obtain ⟨p1, p2, p3, p4⟩ := setCells_same (b := g) [Value.int .i64 a2] (0 + l0.length) w
          exact ⟨Nat.le_of_eq p1.symm, p2, p3, p4⟩
    · by_cases hil : i < l0.length
      · -- a new row
        refine (Any2.slices_Insert_int_grow Try.lay21 g 0 l0.length cap i k2 0 1 cap2 cs [.int .i64 a2] w hil (by omega) hc (by omega) (by omega) hcl rfl hcc hvs h1c h1v).mono ?_
        rintro e w' ⟨rfl, rfl⟩
        show ∃ v Fr F', Ending.returned (.slice (some ⟨w.heap.size, 0, none⟩) (l0.length + 1) (grownCap w (l0.length + 1) cap 3)) = _ ∧ _
        generalize hG : grownCap w (l0.length + 1) cap 3 = G at hge hle
        have hG' : grownCap w (l0.length + 1) cap (Try.ren21.t 3) = G := hG
        rw [hG']
        generalize hA0 : ((cs.take i).toArray ++ Builtin.zeroCells (Value.int .i64 0).cells (l0.length + 1 - i) ++ Builtin.zeroCells (Value.int .i64 0).cells (G - (l0.length + 1))) = A0
        have sA : A0.size = G := by
          rw [← hA0]
          simp only [Array.size_append, List.size_toArray, size_zeroCells, hzs, List.length_take, hcl]; omega
        have tA : A0.toList.take i = cs.take i := by
          rw [← hA0, Array.toList_append, Array.toList_append, List.append_assoc, List.take_append_of_le_length (by simp; omega)]
          show (cs.take i).take i = cs.take i
          rw [List.take_take, Nat.min_self]
        have hh : ((w.alloc (.cells A0 3)).drew).heap[w.heap.size]? = some (.cells A0 3 (0, 0)) := Array.getElem?_push_size
        obtain ⟨c1, q1, q2⟩ := setCells_row (b := w.heap.size) (t := 3) [Value.int .i64 a2] i _ A0 hh (by simp; omega)
        have s1 : c1.size = A0.size := by
          have := congrArg List.length q2
          simp only [Array.length_toList, List.length_append, List.length_take, List.length_drop, List.length_cons, List.length_nil] at this
          omega
        obtain ⟨c2, q3, q4⟩ := setCells_row (b := w.heap.size) (t := 3) (cs.drop i) (i + 1) (((w.alloc (.cells A0 3)).drew.setCells w.heap.size i [Value.int .i64 a2]).drew) c1 q1 (by rw [List.length_drop]; omega)
        have s2 : c2.size = A0.size := by
          have := congrArg List.length q4
          simp only [Array.length_toList, List.length_append, List.length_take, List.length_drop, List.length_cons, List.length_nil] at this
          omega
        refine fin _ w.heap.size G c2 q3 hge hle (by omega) ?_ (.inr (Nat.le_refl _)) (fun k hk hne => (setCells_far hne _ _ _).trans ((setCells_far hne _ _ _).trans ?_)) ?_
        · have e1 : (A0.toList.take i ++ [Value.int IntKind.i64 a2]).length = i + 1 := by rw [tA]; simp; omega
          have e3 : c1.toList.take (i + 1) = cs.take i ++ [Value.int IntKind.i64 a2] := by
            rw [q2, List.take_append_of_le_length (by omega), List.take_of_length_le (by omega), tA]
          rw [q4, e3, hrm, ← hcl]
          exact take_mid cs _ _ (by omega) rfl
        · show (w.heap.push _)[k]? = _
          rw [Array.getElem?_push_lt hk]
          exact (Array.getElem?_eq_getElem hk).symm
        · obtain ⟨p1, p2, p3, p4⟩ := setCells_same (b := w.heap.size) (cs.drop i) (i + 1) (((w.alloc (.cells A0 3)).drew.setCells w.heap.size i [Value.int .i64 a2]).drew)
          obtain ⟨p5, p6, p7, p8⟩ := setCells_same (b := w.heap.size) [Value.int .i64 a2] i ((w.alloc (.cells A0 3)).drew)
          have p9 : ((w.alloc (.cells A0 3)).drew).heap.size = w.heap.size + 1 := Array.size_push ..
          exact ⟨Nat.le_trans (Nat.le_succ _) (Nat.le_of_eq (p1.trans (p5.trans p9)).symm), p2.trans p6, p3.trans p7, p4.trans p8⟩
      · have : i = l0.length := by omega
        subst this
        refine (Any2.slices_Insert_int_end_grow Try.lay21 (some ⟨g, 0, none⟩) l0.length cap k2 0 1 cap2 cs [.int .i64 a2] w (by omega) hc (by omega) (by omega) hcl rfl (fun h => by cases h) (fun a h j v hv => by injection h with h; subst h; rw [add0]; have := hcc j v hv; rwa [Nat.zero_add] at this) hvs h1v).mono ?_
        rintro e w' ⟨rfl, rfl⟩
        exact new _ _ _ (by rw [hrm, ← hcl, List.take_of_length_le (Nat.le_refl _), List.drop_of_length_le (Nat.le_refl _), List.append_nil]) hge hle (by
          show (_ ++ Builtin.zeroCells (Value.int .i64 0).cells (grownCap w (l0.length + 1) cap 3 - (l0.length + 1)) : Array Value).size = grownCap w (l0.length + 1) cap 3
          simp only [Array.size_append, List.size_toArray, size_zeroCells, hzs, List.length_append, List.length_cons, List.length_nil, hcl]; omega)
end Go.Ev
