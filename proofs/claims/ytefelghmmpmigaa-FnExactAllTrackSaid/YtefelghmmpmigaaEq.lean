/- From plain contracts to contracts over memory, and back -/
import Derived.Test.YtefelghmmpmigaaEk
namespace Go.Ev
set_option linter.unusedVariables false
set_option linter.unusedSimpArgs false
open Go.RowKit Go.Proofs.YtefelghmmpmigaaW.PrintWords
section
variable {tb : Nat → Ti} {w : World} {base : Nat}
theorem nodup_flat {Fs : Nat → List Nat} : ∀ {n : Nat}, ((List.range n).flatMap Fs).Nodup → ∀ i j g, i < n → j < n → g ∈ Fs i → g ∈ Fs j → i = j
  | 0, _, i, j, g, hi, _, _, _ => absurd hi (Nat.not_lt_zero i)
  | n + 1, h, i, j, g, hi, hj, h1, h2 => by
    rw [List.range_succ, List.flatMap_append, List.flatMap_singleton] at h
    obtain ⟨ha, _, hd⟩ := List.nodup_append.1 h
    rcases Nat.lt_or_ge i n with hin | hin <;> rcases Nat.lt_or_ge j n with hjn | hjn
    · exact nodup_flat ha i j g hin hjn h1 h2
    · have e : j = n := by omega
      subst e
      exact absurd rfl (hd g (List.mem_flatMap.2 ⟨i, List.mem_range.2 hin, h1⟩) g h2)
    · have e : i = n := by omega
      subst e
      exact absurd rfl (hd g (List.mem_flatMap.2 ⟨j, List.mem_range.2 hjn, h2⟩) g h1)
    · omega
/-! what a contract of the kit reads, as a plain value -/
theorem C_one {α : Type} {enc : α → Value} {av : α → AV} {h1 : ∀ x, (enc x).oneCell' = true} (ha : ∀ x lf (A : Nat → Prop) w, Rel tb lf A w (av x) (enc x) [])
    {A : Option Addr} {c : Nat} {l : List α} (h : (Kd.scalar enc h1).C w A l.length l) (hc : l.length ≤ c) : Rel tb noLeaf (Below0 w) w (.lit l.length (mapR av l)) (.slice A l.length c) [] := by
  obtain ⟨_, _, h3⟩ := h
  rw [mapR_eq]
  have hcell : ∀ j u, (l.map enc)[j]? = some u → ∃ ad, A = some ad ∧ w.cell? (ad.add j) = some u := fun j u hu => by
    rw [List.getElem?_map] at hu
    obtain ⟨x, hx, rfl⟩ := Option.map_eq_some_iff.1 hu
    have hj := (List.getElem?_eq_some_iff.1 hx).1
    obtain ⟨ad, e, h4⟩ := h3 (by omega)
    obtain ⟨cs, _, hk, h5⟩ := h4 j x hx
    have hk : cs = [enc x] := hk
    refine ⟨ad, e, ?_⟩
    have := h5 0 (enc x) (by rw [hk]; rfl)
    simpa [Kd.scalar] using this
  refine .lit _ c _ A (l.map enc) (fun _ => []) hc (fun h => ?_) (by simp) hcell (fun ad e hne => ?_) (fun u hu => ?_) (fun j a u ha' hu => ?_)
  · obtain ⟨ad, e, _⟩ := h3 h; exact ⟨ad, e⟩
  · cases l with
    | nil => simp at hne
    | cons x l =>
      obtain ⟨ad', e', h5⟩ := hcell 0 (enc x) rfl
      rw [e] at e'
      cases e'
      have := World.block_lt_of_cell? w _ h5
      rwa [add_block] at this
  · obtain ⟨x, _, rfl⟩ := List.mem_map.1 hu; exact h1 x
  · rw [List.getElem?_map] at ha' hu
    obtain ⟨x, hx, rfl⟩ := Option.map_eq_some_iff.1 ha'
    rw [hx] at hu
    cases hu
    exact ha x _ _ _
theorem C_ints {A : Option Addr} {c : Nat} {l : List Int} (h : (Kd.int .i64).C w A l.length l) (hc : l.length ≤ c) : Rel tb noLeaf (Below0 w) w (.lit l.length (ii l)) (.slice A l.length c) [] := C_one (fun x _ _ _ => .int _ x) h hc
theorem C_bools {A : Option Addr} {c : Nat} {l : List Bool} (h : Kd.bool.C w A l.length l) (hc : l.length ≤ c) : Rel tb noLeaf (Below0 w) w (.lit l.length (bb l)) (.slice A l.length c) [] := C_one (fun x _ _ _ => .bool x) h hc
theorem C_rows {e : Nat} {A : Option Addr} {c : Nat} {l : List (List Int)} (h : (Kd.slice e (Kd.int .i64)).C w A l.length l) (hc : l.length ≤ c) : Rel tb noLeaf (Below0 w) w (.lit l.length (iis l)) (.slice A l.length c) [] := by
  obtain ⟨_, _, h3⟩ := h
  have key : ∀ j r, l[j]? = some r → ∃ u : Value, u.oneCell' = true ∧ (∃ ad, A = some ad ∧ w.cell? (ad.add j) = some u) ∧ Rel tb noLeaf (Below0 w) w (eI r) u [] := fun j r hr => by
    have hj := (List.getElem?_eq_some_iff.1 hr).1
    obtain ⟨ad, e, h4⟩ := h3 (by omega)
    obtain ⟨cs, _, hk, h5⟩ := h4 j r hr
    obtain ⟨A', c', rfl, hl, hC⟩ := hk
    have := h5 0 _ rfl
    exact ⟨_, rfl, ⟨ad, e, by simpa [Kd.slice] using this⟩, C_ints hC hl⟩
  classical
  let f : Nat → Value := fun j => if h : j < l.length then Classical.choose (key j l[j] (List.getElem?_eq_getElem h)) else .nilFunc
  have hf : ∀ j r, l[j]? = some r → (f j).oneCell' = true ∧ (∃ ad, A = some ad ∧ w.cell? (ad.add j) = some (f j)) ∧ Rel tb noLeaf (Below0 w) w (eI r) (f j) [] := fun j r hr => by
    obtain ⟨hj, rfl⟩ := List.getElem?_eq_some_iff.1 hr
    have e : f j = Classical.choose (key j l[j] (List.getElem?_eq_getElem hj)) := dif_pos hj
    rw [e]
    exact Classical.choose_spec (key j l[j] (List.getElem?_eq_getElem hj))
  have hget : ∀ j u, ((List.range l.length).map f)[j]? = some u → j < l.length ∧ u = f j := fun j u hu => by
    rw [List.getElem?_map] at hu
    obtain ⟨x, hx, rfl⟩ := Option.map_eq_some_iff.1 hu
    obtain ⟨h1, h2⟩ := List.getElem?_eq_some_iff.1 hx
    simp at h1 h2
    exact ⟨h1, by rw [h2]⟩
  unfold iis
  rw [mapR_eq]
  refine .lit _ c _ A ((List.range l.length).map f) (fun _ => []) hc (fun h => ?_) (by simp) (fun j u hu => ?_) (fun ad e hne => ?_) (fun u hu => ?_) (fun j a u ha' hu => ?_)
  · obtain ⟨ad, e, _⟩ := h3 h; exact ⟨ad, e⟩
  · obtain ⟨hj, rfl⟩ := hget j u hu
    exact (hf j _ (List.getElem?_eq_getElem hj)).2.1
  · cases l with
    | nil => simp at hne
    | cons x l =>
      obtain ⟨ad', e', h5⟩ := (hf 0 x rfl).2.1
      rw [e] at e'
      cases e'
      have := World.block_lt_of_cell? w _ h5
      rwa [add_block] at this
  · obtain ⟨j, hj, rfl⟩ := List.mem_map.1 hu
    exact (hf j _ (List.getElem?_eq_getElem (List.mem_range.1 hj))).1
  · obtain ⟨hj, rfl⟩ := hget j u hu
    rw [List.getElem?_map] at ha'
    obtain ⟨x, hx, rfl⟩ := Option.map_eq_some_iff.1 ha'
    exact (hf j x hx).2.2
/-! what a plain contract gives back, in the kit's words -/
theorem R_one {α : Type} {enc : α → Value} {av : α → AV} {h1 : ∀ x, (enc x).oneCell' = true} (ha : ∀ x A w v F, Rel tb noLeaf A w (av x) v F → v = enc x)
    {e n : Nat} {v : Value} {us : List Value} {l : List α} (hn : n = l.length) (h0 : (tb e).sz = 1) (ho : w.ownsRow 0 e (tb e).sz v n us) (hl : us.length = l.length) (hr : ∀ (j : Nat) (c : AV) (u : Value), (mapR av l)[j]? = some c → us[j]? = some u → ∃ A F, Rel tb noLeaf A w c u F)
    (hb : ∀ g, v.ownBlock = some g → base ≤ g) : (Kd.scalar enc h1).R e w base (fun k => some k = v.ownBlock) v l := by
  subst hn
  refine ⟨fun k hk => hk.symm, us, ?_, ?_, fun j p hj => ?_⟩
  · have := owns_base ho hb
    rw [h0] at this
    exact this
  · rw [hl]; exact (Nat.mul_one _).symm
  · have hj' := (List.getElem?_eq_some_iff.1 hj).1
    have hu : us[j]? = some (us[j]'(by omega)) := List.getElem?_eq_getElem (by omega)
    obtain ⟨A, F, r⟩ := hr j (av p) _ (by rw [mapR_eq, List.getElem?_map, hj]; rfl) hu
    have e1 := ha _ _ _ _ _ r
    show (us.drop (j * 1)).take 1 = [enc p]
    rw [Nat.mul_one, List.drop_eq_getElem_cons (by omega), List.take_succ_cons, List.take_zero, e1]
theorem R_ints {e n : Nat} {v : Value} {F : List Nat} {r : List Int} (h : Res1 tb w (.own e n (ii r)) v F) (hn : n = r.length) (h0 : (tb e).sz = 1) (hF : ∀ g ∈ F, base ≤ g) : (Kd.int .i64).R e w base (fun k => k ∈ F) v r := by
  obtain ⟨us, Fs, ho, hl, hu, hr, hFF⟩ := h
  have hm : ∀ g, v.ownBlock = some g → g ∈ F := fun g hg => by rw [hFF, hg]; simp
  refine Kd.R_mono (R_one (fun x A w v F r => by cases r with | int => rfl | leaf h => exact h.elim) hn h0 ho (by rw [hl.1, len_ii]) (fun j c u hc hu => ⟨_, _, hr j c u hc hu⟩) (fun g hg => hF g (hm g hg))) fun k hk => hm k hk.symm
theorem R_bools {e n : Nat} {v : Value} {F : List Nat} {r : List Bool} (h : Res1 tb w (.own e n (bb r)) v F) (hn : n = r.length) (h0 : (tb e).sz = 1) (hF : ∀ g ∈ F, base ≤ g) : Kd.bool.R e w base (fun k => k ∈ F) v r := by
  obtain ⟨us, Fs, ho, hl, hu, hr, hFF⟩ := h
  have hm : ∀ g, v.ownBlock = some g → g ∈ F := fun g hg => by rw [hFF, hg]; simp
  refine Kd.R_mono (R_one (fun x A w v F r => by cases r with | bool => rfl | leaf h => exact h.elim) hn h0 ho (by rw [hl.1, len_bb]) (fun j c u hc hu => ⟨_, _, hr j c u hc hu⟩) (fun g hg => hF g (hm g hg))) fun k hk => hm k hk.symm
theorem S_rows {e e1 n : Nat} {v : Value} {F : List Nat} {r : List (List Int)} (h : Res1 tb w (.own e1 n (ois e r)) v F) (hn : n = r.length) (h0 : (tb e).sz = 1) (h1 : (tb e1).sz = 1) (hN : F.Nodup) (hF : ∀ g ∈ F, base ≤ g) : Kd.S (Kd.slice e (Kd.int .i64)) e1 w base (fun k => k ∈ F) v r := by
  subst hn
  obtain ⟨us, Fs, ho, hl, hu, hr, hFF⟩ := h
  have hlen : us.length = r.length := by rw [hl.1, len_ois]
  have hm : ∀ g, v.ownBlock = some g → g ∈ F := fun g hg => by rw [hFF, hg]; simp
  have hms : ∀ j, j < r.length → ∀ g ∈ Fs j, g ∈ F := fun j hj g hg => by
    rw [hFF, len_ois]
    exact List.mem_append_right _ (List.mem_flatMap.2 ⟨j, List.mem_range.2 hj, hg⟩)
  have hdis : ∀ i j g, i < r.length → j < r.length → g ∈ Fs i → g ∈ Fs j → i = j := fun i j g hi hj h1 h2 => by
    rw [hFF, len_ois] at hN
    exact nodup_flat (List.nodup_append.1 hN).2.1 i j g hi hj h1 h2
  have hown : ∀ j, j < r.length → ∀ g ∈ Fs j, some g ≠ v.ownBlock := fun j hj g hg e => by
    rw [hFF, len_ois] at hN
    exact (List.nodup_append.1 hN).2.2 g (by rw [← e]; simp) g (List.mem_flatMap.2 ⟨j, List.mem_range.2 hj, hg⟩) rfl
  classical
  let f : Nat → Nat := fun k => if h : ∃ j, j < r.length ∧ k ∈ Fs j then h.choose else 0
  have hf : ∀ j k, j < r.length → k ∈ Fs j → f k = j := fun j k hj hk => by
    have hx : ∃ j, j < r.length ∧ k ∈ Fs j := ⟨j, hj, hk⟩
    have e : f k = hx.choose := dif_pos hx
    rw [e]
    exact hdis _ _ k hx.choose_spec.1 hj hx.choose_spec.2 hk
  refine ⟨f, fun k hk => hm k hk, us, ?_, ?_, fun j p hj => ?_⟩
  · have := owns_base ho (base' := base) (fun g hg => hF g (hm g hg))
    rw [h1] at this
    rw [List.length_zipIdx]
    exact this
  · rw [List.length_zipIdx, hlen]; exact (Nat.mul_one _).symm
  · rw [List.getElem?_zipIdx, Nat.zero_add] at hj
    obtain ⟨row, hrow, rfl⟩ := Option.map_eq_some_iff.1 hj
    have hj' := (List.getElem?_eq_some_iff.1 hrow).1
    have hu' : us[j]? = some (us[j]'(by omega)) := List.getElem?_eq_getElem (by omega)
    have rl := hr j (oI e row) _ (by unfold ois; rw [mapR_eq, List.getElem?_map, hrow]; rfl) hu'
    show ∃ x, (us.drop (j * 1)).take 1 = [x] ∧ (Kd.int .i64).R e w base (fun k => (k ∈ F ∧ some k ≠ v.ownBlock) ∧ f k = j) x row
    refine ⟨us[j]'(by omega), by rw [Nat.mul_one, List.drop_eq_getElem_cons (by omega), List.take_succ_cons, List.take_zero], ?_⟩
    obtain ⟨x, hx⟩ : ∃ x, x = us[j]'(by omega) := ⟨_, rfl⟩
    rw [← hx] at rl ⊢
    unfold oI at rl
    generalize hG : Fs j = G at rl
    cases rl with
    | leaf h => exact h.elim
    | own e n cs v' us' Fs' F' ho' hl' hA' h1' hr' hF' hN' =>
      have hb : ∀ g, x.ownBlock = some g → g ∈ Fs j := fun g hg => by rw [hG]; exact hA' g hg
      refine Kd.R_mono (R_one (fun x A w v F r => by cases r with | int => rfl | leaf h => exact h.elim) rfl h0 ho' (by rw [hl', len_ii]) (fun j c u hc hu => ⟨_, _, hr' j c u hc hu⟩) (fun g hg => hF g (hms j hj' g (hb g hg)))) fun k hk => ?_
      exact ⟨⟨hms j hj' k (hb k hk.symm), hown j hj' k (hb k hk.symm)⟩, hf j k hj' (hb k hk.symm)⟩
end
end Go.Ev
namespace Go.Ev
set_option linter.unusedVariables false
set_option linter.unusedSimpArgs false
open Go.RowKit Go.Proofs.YtefelghmmpmigaaW.PrintWords
section
variable {P : Program} {tb : Nat → Ti} {w : World} {base : Nat}
def Args (tb : Nat → Ti) (w : World) : List AV → List Value → Prop
  | [], [] => True
  | a :: l, u :: us => Rel tb noLeaf (Below0 w) w a u [] ∧ Args tb w l us
  | _, _ => False
theorem Args.len : ∀ {l : List AV} {us : List Value}, Args tb w l us → us.length = l.length
  | [], [], _ => rfl
  | a :: l, u :: us, h => by simp [Args.len h.2]
  | [], _ :: _, h => h.elim
  | _ :: _, [], h => h.elim
theorem Args.get : ∀ {l : List AV} {us : List Value}, Args tb w l us → ∀ (j : Nat) (a : AV) (u : Value), l[j]? = some a → us[j]? = some u → ∃ F, Rel tb noLeaf (Below0 w) w a u F
  | a :: l, u :: us, h, 0, a', u', ha, hu => by simp at ha hu; subst ha hu; exact ⟨_, h.1⟩
  | a :: l, u :: us, h, j + 1, a', u', ha, hu => Args.get h.2 j a' u' (by simpa using ha) (by simpa using hu)
  | [], [], _, j, _, _, ha, _ => by simp at ha
  | [], _ :: _, h, _, _, _, _, _ => h.elim
  | _ :: _, [], h, _, _, _, _, _ => h.elim
theorem calls_ofC {f : Nat} {args : List AV} {r : AV} (h : Contract P tb f args r) {us : List Value} (ha : Args tb w args us) :
    Calls P f us.toArray w fun e w' => ∃ v F, e = .returned v ∧ Res3 tb w' r v F ∧ F.Nodup ∧ (∀ g ∈ F, w.heap.size ≤ g) ∧ Below w.heap.size w w' :=
  (h us.toArray w (by simpa using ha.len) (fun j a u h1 h2 => ha.get j a u h1 (by simpa using h2))).mono fun e w' ⟨v, F, h1, h2, h3, h4, h5⟩ => ⟨v, F, h1, h2, h3, fun g hg => (h4 g hg).1, h5⟩
theorem aggArg {xs : List AV} {us : List Value} (h : Args tb w xs us) (h1 : ∀ u ∈ us, u.oneCell' = true) : Rel tb noLeaf (Below0 w) w (.agg xs) (.agg us.toArray) [] := by
  refine .agg xs us (fun _ => []) [] h.len h1 (fun j c u hc hu => ?_) (by rw [flatMap_nil]) List.nodup_nil
  have key : ∀ {l : List AV} {us : List Value}, Args tb w l us → ∀ (j : Nat) (a : AV) (u : Value), l[j]? = some a → us[j]? = some u → Rel tb noLeaf (Below0 w) w a u [] := by
    intro l
    induction l with
    | nil => intro us h j a u ha; simp at ha
    | cons x l ih =>
      intro us h j a u ha hu
      cases us with
      | nil => exact h.elim
      | cons y us =>
        cases j with
        | zero => simp at ha hu; subst ha hu; exact h.1
        | succ j => exact ih h.2 j a u (by simpa using ha) (by simpa using hu)
  exact key h j c u hc hu
theorem resL_cons {R : AV → Value → List Nat → Prop} {c : AV} {cs : List AV} {us : List Value} {F : List Nat} (h : ResL R (c :: cs) us F) : ∃ u us' F0 F1, us = u :: us' ∧ F = F0 ++ F1 ∧ R c u F0 ∧ ResL R cs us' F1 := by
  cases us with
  | nil => exact h.elim
  | cons u us => obtain ⟨F0, F1, h1, h2, h3⟩ := h; exact ⟨u, us, F0, F1, rfl, h1, h2, h3⟩
theorem resL_nil {R : AV → Value → List Nat → Prop} {us : List Value} {F : List Nat} (h : ResL R [] us F) : us = [] ∧ F = [] := by
  cases us with
  | nil => exact ⟨rfl, h⟩
  | cons u us => exact h.elim
theorem res_bool {b : Bool} {v : Value} {F : List Nat} (h : Res3 tb w (.bool b) v F) : v = .bool b := h.1
end
end Go.Ev
namespace Go.Ev
set_option linter.unusedVariables false
set_option linter.unusedSimpArgs false
open Go.RowKit Go.Proofs.YtefelghmmpmigaaW.PrintWords
section
variable {P : Program} {tb : Nat → Ti} {w : World} {base : Nat}
/-! the other way: from plain arguments to the kit's, from the kit's results to plain ones -/
theorem opt_nodup {α : Type} (o : Option α) : o.toList.Nodup := by cases o <;> simp
theorem lit_one {α : Type} {enc : α → Value} {av : α → AV} {h1 : ∀ x, (enc x).oneCell' = true} (ha : ∀ x A w v F, Rel tb noLeaf A w (av x) v F → v = enc x) {A : Nat → Prop} {n : Nat} {l : List α} {v : Value} {F : List Nat}
    (h : Rel tb noLeaf A w (.lit n (mapR av l)) v F) (hn : n = l.length) (hb : l.length ≤ 9223372036854775807) : ∃ Ad c, v = .slice Ad l.length c ∧ l.length ≤ c ∧ (Kd.scalar enc h1).C w Ad l.length l := by
  subst hn
  cases h with
  | leaf h => exact h.elim
  | lit n cap cs Ad us Fs hn hz hl hc hA h1' hr =>
    rw [mapR_eq, List.length_map] at hl
    refine ⟨Ad, cap, rfl, hn, rfl, hb, fun h0 => ?_⟩
    obtain ⟨ad, e⟩ := hz h0
    refine ⟨ad, e, fun j p hj => ?_⟩
    have hj' := (List.getElem?_eq_some_iff.1 hj).1
    have hu : us[j]? = some (us[j]'(by omega)) := List.getElem?_eq_getElem (by omega)
    have e1 := ha _ _ _ _ _ (hr j (av p) _ (by rw [mapR_eq, List.getElem?_map, hj]; rfl) hu)
    obtain ⟨ad', e', hcell⟩ := hc j _ hu
    rw [e] at e'
    cases e'
    refine ⟨[enc p], rfl, rfl, fun i u hi => ?_⟩
    cases i with
    | zero =>
      simp at hi
      subst hi
      rw [← e1]
      show w.cell? (ad.add (j * 1 + 0)) = _
      rw [Nat.mul_one, Nat.add_zero]
      exact hcell
    | succ i => simp at hi
theorem lit_ints {A : Nat → Prop} {n : Nat} {l : List Int} {v : Value} {F : List Nat} (h : Rel tb noLeaf A w (.lit n (ii l)) v F) (hn : n = l.length) (hb : l.length ≤ 9223372036854775807) : ∃ Ad c, v = .slice Ad l.length c ∧ l.length ≤ c ∧ (Kd.int .i64).C w Ad l.length l :=
  lit_one (fun x A w v F r => by cases r with | int => rfl | leaf h => exact h.elim) h hn hb
theorem lit_rows {e : Nat} {A : Nat → Prop} {n : Nat} {l : List (List Int)} {v : Value} {F : List Nat} (h : Rel tb noLeaf A w (.lit n (iis l)) v F) (hn : n = l.length) (hb : l.length ≤ 9223372036854775807) (hbs : ∀ r ∈ l, r.length ≤ 9223372036854775807) :
    ∃ Ad c, v = .slice Ad l.length c ∧ l.length ≤ c ∧ (Kd.slice e (Kd.int .i64)).C w Ad l.length l := by
  subst hn
  unfold iis at h
  cases h with
  | leaf h => exact h.elim
  | lit n cap cs Ad us Fs hn hz hl hc hA h1' hr =>
    rw [mapR_eq, List.length_map] at hl
    refine ⟨Ad, cap, rfl, hn, rfl, hb, fun h0 => ?_⟩
    obtain ⟨ad, e⟩ := hz h0
    refine ⟨ad, e, fun j p hj => ?_⟩
    have hj' := (List.getElem?_eq_some_iff.1 hj).1
    have hu : us[j]? = some (us[j]'(by omega)) := List.getElem?_eq_getElem (by omega)
    obtain ⟨A', c', e1, hl', hC⟩ := lit_ints (hr j (eI p) _ (by rw [mapR_eq, List.getElem?_map, hj]; rfl) hu) rfl (hbs p (List.mem_of_getElem? hj))
    obtain ⟨ad', e', hcell⟩ := hc j _ hu
    rw [e] at e'
    cases e'
    refine ⟨[.slice A' p.length c'], rfl, ⟨A', c', rfl, hl', hC⟩, fun i u hi => ?_⟩
    cases i with
    | zero =>
      simp at hi
      subst hi
      rw [← e1]
      show w.cell? (ad.add (j * 1 + 0)) = _
      rw [Nat.mul_one, Nat.add_zero]
      exact hcell
    | succ i => simp at hi
theorem res_ints {e : Nat} {ok : Nat → Prop} {v : Value} {r : List Int} (h : (Kd.int .i64).R e w base ok v r) (h0 : (tb e).sz = 1) : Res1 tb w (.own e r.length (ii r)) v v.ownBlock.toList := by
  obtain ⟨_, inner, ho, hl, hr⟩ := h
  have hl' : inner.length = r.length := by rw [hl]; exact Nat.mul_one _
  have key : ∀ (j : Nat) (u : Value), inner[j]? = some u → ∃ p, r[j]? = some p ∧ u = .int .i64 p := fun j u hu => by
    have hj := (List.getElem?_eq_some_iff.1 hu).1
    have hp : r[j]? = some (r[j]'(by omega)) := List.getElem?_eq_getElem (by omega)
    have h2 : (inner.drop (j * 1)).take 1 = [Value.int .i64 (r[j]'(by omega))] := hr j _ hp
    rw [Nat.mul_one, List.drop_eq_getElem_cons hj, List.take_succ_cons, List.take_zero] at h2
    refine ⟨_, hp, ?_⟩
    have := (List.cons.inj h2).1
    rw [List.getElem?_eq_getElem hj] at hu
    rw [← Option.some.inj hu, this]
  refine ⟨inner, fun _ => [], ?_, ⟨by rw [hl', len_ii], by omega⟩, fun u hu => ?_, fun j c u hc hu => ?_, by rw [flatMap_nil, List.append_nil]⟩
  · have := own_weaken ho (Nat.zero_le base)
    rw [h0]
    exact this
  · obtain ⟨j, hj⟩ := List.getElem?_of_mem hu
    obtain ⟨p, _, rfl⟩ := key j u hj
    rfl
  · obtain ⟨p, hp, rfl⟩ := key j u hu
    unfold ii at hc
    rw [mapR_eq, List.getElem?_map, hp] at hc
    cases hc
    exact .int _ _
theorem res_rows {e e1 : Nat} {ok : Nat → Prop} {v : Value} {r : List (List Int)} (h : (Kd.slice e (Kd.int .i64)).S e1 w base ok v r) (h0 : (tb e).sz = 1) (h1 : (tb e1).sz = 1) :
    ∃ F, Res1 tb w (.own e1 r.length (ois e r)) v F ∧ F.Nodup ∧ (∀ g ∈ F, ok g ∧ base ≤ g ∧ g < w.heap.size) := by
  obtain ⟨f, hok, inner, ho, hl, hr⟩ := h
  rw [List.length_zipIdx] at ho hl
  have hl' : inner.length = r.length := by rw [hl]; exact Nat.mul_one _
  have key : ∀ (j : Nat) (u : Value), inner[j]? = some u → ∃ p, r[j]? = some p ∧ (Kd.int .i64).R e w base (fun k => (ok k ∧ some k ≠ v.ownBlock) ∧ f k = j) u p := fun j u hu => by
    have hj := (List.getElem?_eq_some_iff.1 hu).1
    have hp : r[j]? = some (r[j]'(by omega)) := List.getElem?_eq_getElem (by omega)
    have h2 := hr j (r[j]'(by omega), j) (by rw [List.getElem?_zipIdx, hp, Nat.zero_add]; rfl)
    obtain ⟨x, hx, hR⟩ : ∃ x, (inner.drop (j * 1)).take 1 = [x] ∧ (Kd.int .i64).R e w base (fun k => (ok k ∧ some k ≠ v.ownBlock) ∧ f k = j) x (r[j]'(by omega)) := h2
    rw [Nat.mul_one, List.drop_eq_getElem_cons hj, List.take_succ_cons, List.take_zero] at hx
    have := (List.cons.inj hx).1
    rw [List.getElem?_eq_getElem hj] at hu
    rw [← Option.some.inj hu, this]
    exact ⟨_, hp, hR⟩
  obtain ⟨Fs, hFs⟩ : ∃ Fs : Nat → List Nat, Fs = fun j => ((inner[j]?).bind Value.ownBlock).toList := ⟨_, rfl⟩
  have hFj : ∀ j u, inner[j]? = some u → Fs j = u.ownBlock.toList := fun j u hu => by rw [hFs]; simp [hu]
  have hmem : ∀ j g, j < r.length → g ∈ Fs j → (ok g ∧ some g ≠ v.ownBlock) ∧ f g = j ∧ base ≤ g ∧ g < w.heap.size := fun j g hj hg => by
    have hu : inner[j]? = some (inner[j]'(by omega)) := List.getElem?_eq_getElem (by omega)
    rw [hFj j _ hu] at hg
    obtain ⟨p, _, hR⟩ := key j _ hu
    have hg' : (inner[j]'(by omega)).ownBlock = some g := by simpa using hg
    have h2 := hR.1 g hg'
    obtain ⟨inn, ho2⟩ := Kd.R_own hR
    exact ⟨h2.1, h2.2, own_base ho2 g hg', own_lt ho2 g hg'⟩
  refine ⟨v.ownBlock.toList ++ (List.range (ois e r).length).flatMap Fs, ⟨inner, Fs, ?_, ⟨by rw [hl', len_ois], by omega⟩, fun u hu => ?_, fun j c u hc hu => ?_, rfl⟩, ?_, fun g hg => ?_⟩
  · have := own_weaken ho (Nat.zero_le base)
    rw [h1]
    exact this
  · obtain ⟨j, hj⟩ := List.getElem?_of_mem hu
    obtain ⟨p, _, hR⟩ := key j u hj
    obtain ⟨A, c, rfl⟩ := Kd.R_slice hR
    rfl
  · obtain ⟨p, hp, hR⟩ := key j u hu
    unfold ois at hc
    rw [mapR_eq, List.getElem?_map, hp] at hc
    cases hc
    obtain ⟨us2, Fs2, ho2, hl2, hu2, hr2, hF2⟩ := res_ints (tb := tb) hR h0
    rw [hFj j u hu, hF2]
    have hnil : ∀ i, i < p.length → Fs2 i = [] := fun i hi => by
      have hc2 : (ii p)[i]? = some (.int .i64 (p[i]'hi)) := by unfold ii; rw [mapR_eq]; simp [hi]
      have hu3 : us2[i]? = some (us2[i]'(by rw [hl2.1, len_ii]; exact hi)) := List.getElem?_eq_getElem _
      have := hr2 i _ _ hc2 hu3
      generalize us2[i]'(by rw [hl2.1, len_ii]; exact hi) = y at this
      generalize hG : Fs2 i = G at this
      generalize hp : p[i]'hi = z at this
      cases this with
      | int => rfl
      | leaf h => exact h.elim
    have hflat : (List.range (ii p).length).flatMap Fs2 = [] := by
      rw [len_ii]
      exact List.flatMap_eq_nil_iff.2 fun i hi => hnil i (List.mem_range.1 hi)
    refine .own e p.length (ii p) u us2 (fun _ => []) _ ho2 hl2.1 (fun g hg => ?_) hu2 (fun i c u hc hu => ?_) (by rw [hflat, flatMap_nil]) (by rw [hflat, List.append_nil]; cases u.ownBlock <;> simp)
    · rw [hg]; simp
    · have hi := (List.getElem?_eq_some_iff.1 hc).1
      rw [len_ii] at hi
      have := hr2 i c u hc hu
      rw [hnil i hi] at this
      exact this.imp (fun _ _ h => h) (fun g hg => by simp at hg) (fun _ _ => rfl)
  · rw [len_ois]
    refine List.nodup_append.2 ⟨by cases v.ownBlock <;> simp, ?_, fun a ha b hb e => ?_⟩
    · have : ∀ m, m ≤ r.length → ((List.range m).flatMap Fs).Nodup := by
        intro m
        induction m with
        | zero => intro _; simp
        | succ m ih =>
          intro hm
          rw [List.range_succ, List.flatMap_append, List.flatMap_singleton]
          refine List.nodup_append.2 ⟨ih (by omega), by rw [hFs]; exact opt_nodup _, fun a ha b hb e => ?_⟩
          obtain ⟨i, hi, ha⟩ := List.mem_flatMap.1 ha
          have hi := List.mem_range.1 hi
          subst e
          have q1 := (hmem i a (by omega) ha).2.1
          have q2 := (hmem m a (by omega) hb).2.1
          omega
      exact this _ (Nat.le_refl _)
    · subst e
      obtain ⟨i, hi, hb⟩ := List.mem_flatMap.1 hb
      exact (hmem i a (List.mem_range.1 hi) hb).1.2 (Eq.symm (by simpa using ha))
  · rw [len_ois] at hg
    rcases List.mem_append.1 hg with hg | hg
    · have hg' : v.ownBlock = some g := by simpa using hg
      exact ⟨hok g hg', own_base ho g hg', own_lt ho g hg'⟩
    · obtain ⟨i, hi, hg⟩ := List.mem_flatMap.1 hg
      have q := hmem i g (List.mem_range.1 hi) hg
      exact ⟨q.1.1, q.2.2.1, q.2.2.2⟩
theorem promise_calls {f : Nat} {args : List AV} {r : AV} {fn : Func} (hf : P.funcs[f]? = some fn) (hn : (fn.name == "runtime.NumGoroutine") = false) (hb : fn.body.isNone = false)
    (h : ∀ (us : List Value) (w : World), us.length = args.length → (∀ (j : Nat) (a : AV) (u : Value), args[j]? = some a → us[j]? = some u → ∃ F, Rel tb noLeaf (Below0 w) w a u F) →
      Calls P f us.toArray w fun e w' => ∃ v F, e = .returned v ∧ Res3 tb w' r v F ∧ F.Nodup ∧ (∀ g ∈ F, w.heap.size ≤ g ∧ g < w'.heap.size) ∧ Below w.heap.size w w') (hW : isW args = false := by rfl) : Promise P tb f args r :=
  ⟨⟨fn, hf, hn, hb⟩, (Ctr_iff hW).2 fun vs w hl hr => by
    have := h vs.toList w (by simpa using hl) (fun j a u ha hu => hr j a u ha (by simpa using hu))
    simpa using this⟩
end
end Go.Ev
