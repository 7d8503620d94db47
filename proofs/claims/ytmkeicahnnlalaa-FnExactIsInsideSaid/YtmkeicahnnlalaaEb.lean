/- A plain evaluator over the code of a function, and the proof that it tells the truth (second part) -/
import Derived.Test.YtmkeicahnnlalaaEa
import Derived.Maps.Own
import Derived.Orders
namespace Go.Ev
set_option linter.unusedVariables false
set_option linter.unusedSimpArgs false
open Go.RowKit

section
variable {P : Program} {tb : Nat → Ti} {base n : Nat} {w0 : World} {env : Nat → AV} {h h' h2 : Heap} {a : Act} {w w' : World} {hv hv' hv2 : Nat → Value} {L L' L2 : Nat → Option Lb} {X X' : Nat → Prop} {lf : AV → Value → Prop} {A A' : Nat → Prop} {id0 : Nat}
/-- behind a call: what it handed back is set aside -/
theorem Sim.after (S : Sim tb base w0 n ⟨env, h⟩ a w hv L X) (hb : Below w.heap.size w w') {F : List Nat} (hF : ∀ g ∈ F, w.heap.size ≤ g ∧ g < w'.heap.size) :
    Sim tb base w0 n ⟨env, h⟩ a w' hv (fun g => if g < w.heap.size then L g else none) (fun g => X g ∨ g ∈ F) ∧ ∀ y u F', VRel tb h hv X w y u F' → VRel tb h hv (fun g => X g ∨ g ∈ F) w' y u F' := by
  have okA : ∀ g, Ok hv w X g → Ok hv w' (fun g => X g ∨ g ∈ F) g := fun g hg => ⟨Nat.lt_of_lt_of_le hg.1 hb.size, hg.2.1, fun hx => hx.elim hg.2.2 (fun hm => by have := (hF g hm).1; have := hg.1; omega)⟩
  have hval : ∀ y u F', VRel tb h hv X w y u F' → VRel tb h hv (fun g => X g ∨ g ∈ F) w' y u F' := fun y u F' r => Rel.imp (fun _ _ h => h) okA (fun g hg => hb.block g hg.1) r
  refine ⟨{ below := S.below.trans (hb.mono S.size), size := Nat.le_trans S.size hb.size, defers := S.defers, tmps := S.tmps, vals := fun t => ?_, blks := fun id b hid => ?_, lab := fun id g hg => ?_, noneH := S.noneH, xlt := fun g hx => ?_ }, hval⟩
  · obtain ⟨F', r⟩ := S.vals t
    exact ⟨F', hval _ _ _ r⟩
  · have hB := S.reset.blks id b hid
    cases b with
    | dead => exact hB
    | row e g bb cs =>
      obtain ⟨m, us, h1, h2, h3, h4⟩ := hB
      refine ⟨m, us, owns_kept h1 fun g hg => hb.block g (S.lab id g (blkOf_own hg)).2.2.1, h2, h3, fun j c u hc hu => ?_⟩
      obtain ⟨F', q1, q2, q3⟩ := h4 j c u hc hu
      exact ⟨F', q1.imp (fun _ _ h => h) (fun k hk => ⟨okA k hk.1, hk.2⟩) (fun k hk => hb.block k hk.1.1), q2, q3⟩
    | box t cs =>
      obtain ⟨g, us, h1, h2, h3, h4, h5⟩ := hB
      have hg : blkOf (hv id) = some g := by rw [h1]; rfl
      refine ⟨g, us, h1, (hb.block g (S.lab id g hg).2.2.1).trans h2, h3, h4, fun j c u hc hu => ?_⟩
      obtain ⟨F', r⟩ := h5 j c u hc hu
      exact ⟨F', hval _ _ _ r⟩
    | mp t es =>
      obtain ⟨g, ents, clock, h1, h2, h3, h4⟩ := hB
      have hg : blkOf (hv id) = some g := by rw [h1]; rfl
      refine ⟨g, ents, clock, h1, (hb.block g (S.lab id g hg).2.2.1).trans h2, h3, fun j kv hj => ?_⟩
      obtain ⟨m, h5, h6, h7⟩ := h4 j kv hj
      exact ⟨m, h5, h6.imp (fun _ _ h => h) (fun _ h => h) (fun _ h => h.elim), h7.imp (fun _ _ h => h) (fun _ h => h) (fun _ h => h.elim)⟩
  · obtain ⟨h1, h2, h3, h4⟩ := S.reset.lab id g hg
    exact ⟨h1, h2, Nat.lt_of_lt_of_le h3 hb.size, fun hx => hx.elim h4 (fun hm => by have := (hF g hm).1; omega)⟩
  · rcases hx with hx | hx
    · exact ⟨Nat.lt_of_lt_of_le (S.xlt g hx).1 hb.size, (S.xlt g hx).2⟩
    · exact ⟨(hF g hx).2, Nat.le_trans S.size (hF g hx).1⟩
/-- less is set aside, and its labels are new -/
theorem Sim.lessX (S : Sim tb base w0 n ⟨env, h⟩ a w hv L X) (hX : ∀ g, X' g → X g) (hL : ∀ g, ¬ X g → L' g = L g) : Sim tb base w0 n ⟨env, h⟩ a w hv L' X' ∧ ∀ y u F', VRel tb h hv X w y u F' → VRel tb h hv X' w y u F' := by
  have okA : ∀ g, Ok hv w X g → Ok hv w X' g := fun g hg => ⟨hg.1, hg.2.1, fun hx => hg.2.2 (hX g hx)⟩
  have hval : ∀ y u F', VRel tb h hv X w y u F' → VRel tb h hv X' w y u F' := fun y u F' r => Rel.imp (fun _ _ h => h) okA (fun _ _ => rfl) r
  refine ⟨{ below := S.below, size := S.size, defers := S.defers, tmps := S.tmps, vals := fun t => ?_, blks := fun id b hid => ?_, lab := fun id g hg => ?_, noneH := S.noneH, xlt := fun g hx => S.xlt g (hX g hx) }, hval⟩
  · obtain ⟨F', r⟩ := S.vals t
    exact ⟨F', hval _ _ _ r⟩
  · have hB := S.blks id b hid
    cases b with
    | dead => exact hB
    | row e g bb cs =>
      obtain ⟨m, us, h1, h2, h3, h4⟩ := hB
      refine ⟨m, us, h1, h2, h3, fun j c u hc hu => ?_⟩
      obtain ⟨F', q1, q2, q3⟩ := h4 j c u hc hu
      exact ⟨F', q1.imp (fun _ _ h => h) (fun k hk => ⟨okA k hk.1, hk.2⟩) (fun _ _ => rfl), q2, fun k hk => ⟨(hL k (q1.foot k hk).1.2.2).trans (q3 k hk).1, (q3 k hk).2⟩⟩
    | box t cs =>
      obtain ⟨g, us, h1, h2, h3, h4, h5⟩ := hB
      refine ⟨g, us, h1, h2, h3, h4, fun j c u hc hu => ?_⟩
      obtain ⟨F', r⟩ := h5 j c u hc hu
      exact ⟨F', hval _ _ _ r⟩
    | mp t es => exact hB
  · obtain ⟨h1, h2, h3, h4⟩ := S.lab id g hg
    exact ⟨(hL g h4).trans h1, h2, h3, fun hx => h4 (hX g hx)⟩
/-- what importing keeps -/
structure Imported (tb : Nat → Ti) (base : Nat) (w0 : World) (n : Nat) (env : Nat → AV) (a : Act) (w : World) (h h' : Heap) (hv hv' : Nat → Value) (L' : Nat → Option Lb) (X X' : Nat → Prop) (F : List Nat) : Prop where
  sim : Sim tb base w0 n ⟨env, h'⟩ a w hv' L' X'
  val : ∀ y u F', VRel tb h hv X w y u F' → VRel tb h' hv' X' w y u F'
  rest : ∀ g, X g → g ∉ F → X' g
open Classical in
theorem import1_sound (S : Sim tb base w0 n ⟨env, h⟩ a w hv L X) {d : Option Nat} {j : Nat} {r : AV} {v : Value} {F : List Nat} (hR : Res1 tb w r v F) (hN : F.Nodup) (hF : ∀ g ∈ F, X g) {K : AV → Heap → Prop} (hK : import1 d j r h K) :
    ∃ c h' hv' L' X', K c h' ∧ Imported tb base w0 n env a w h h' hv hv' L' X X' F ∧ VRel tb h' hv' X' w c v [] ∧ v.oneCell' = true := by
  unfold import1 at hK
  split at hK
  · rename_i e m cs
    obtain ⟨us, Fs, ho, hl, h1, hr, rfl⟩ := hR
    obtain ⟨hid, hK⟩ := newB_inv hK
    rw [List.nodup_append] at hN
    obtain ⟨_, hN2, hN3⟩ := hN
    have hmem : ∀ j k, j < cs.length → k ∈ Fs j → k ∈ (List.range cs.length).flatMap Fs := fun j k hj hk => List.mem_flatMap.2 ⟨j, List.mem_range.2 hj, hk⟩
    have huniq : ∀ (l : List Nat) (Fs : Nat → List Nat), (l.flatMap Fs).Nodup → ∀ i j, i ∈ l → j ∈ l → ∀ k, k ∈ Fs i → k ∈ Fs j → i = j ∨ False := by
      intro l
      induction l with
      | nil => intro Fs _ i j hi; simp at hi
      | cons x l ih =>
        intro Fs hn i j hi hj k hki hkj
        rw [List.flatMap_cons, List.nodup_append] at hn
        rcases List.mem_cons.1 hi with rfl | hi'
        · rcases List.mem_cons.1 hj with rfl | hj'
          · exact .inl rfl
          · exact absurd rfl (hn.2.2 k hki k (List.mem_flatMap.2 ⟨j, hj', hkj⟩))
        · rcases List.mem_cons.1 hj with rfl | hj'
          · exact absurd rfl (hn.2.2 k hkj k (List.mem_flatMap.2 ⟨i, hi', hki⟩))
          · exact ih Fs hn.2.1 i j hi' hj' k hki hkj
    let X2 : Nat → Prop := fun g => X g ∧ g ∉ (List.range cs.length).flatMap Fs
    let L2 : Nat → Option Lb := fun g => if hg : ∃ j, j < cs.length ∧ g ∈ Fs j then some (.pend (Classical.choose hg)) else L g
    have hin : ∀ j k, j < cs.length → k ∈ Fs j → X k := fun j k hj hk => hF k (List.mem_append_right _ (hmem j k hj hk))
    obtain ⟨S2, v2⟩ := S.lessX (X' := X2) (L' := L2) (fun g hg => hg.1) (fun g hg => by
      have : ¬ ∃ j, j < cs.length ∧ g ∈ Fs j := fun ⟨j, hj, hk⟩ => hg (hin j g hj hk)
      simp only [L2, dif_neg this])
    have hblk : ∀ g, v.ownBlock = some g → X g ∧ g ∉ (List.range cs.length).flatMap Fs := fun g hg => ⟨hF g (List.mem_append_left _ (by simp [hg])), fun hm => hN3 g (by simp [hg]) g hm rfl⟩
    have hNj : ∀ j, j < cs.length → (Fs j).Nodup := by
      intro j hj
      have key : ∀ (l : List Nat), (l.flatMap Fs).Nodup → j ∈ l → (Fs j).Nodup := by
        intro l
        induction l with
        | nil => intro _ h; simp at h
        | cons x l ih =>
          intro hn hjl
          rw [List.flatMap_cons, List.nodup_append] at hn
          rcases List.mem_cons.1 hjl with rfl | hjl
          · exact hn.1
          · exact ih hn.2.1 hjl
      exact key _ hN2 (List.mem_range.2 hj)
    have hC : RowCells tb base hv L2 X2 w false .pend cs us := by
      refine ⟨hl.1, h1, fun j c u hc hu => ?_⟩
      have hj : j < cs.length := (List.getElem?_eq_some_iff.1 hc).1
      refine ⟨Fs j, (hr j c u hc hu).imp (fun _ _ h => h) (fun k hk => ⟨⟨(S.xlt k (hin j k hj hk)).1, fun i hi => (S.lab i k hi).2.2.2 (hin j k hj hk), fun hx => hx.2 (hmem j k hj hk)⟩, fun _ => hk⟩) (fun _ _ => rfl), hNj j hj, fun k hk => ⟨?_, (S.xlt k (hin j k hj hk)).2⟩⟩
      have hg : ∃ j, j < cs.length ∧ k ∈ Fs j := ⟨j, hj, hk⟩
      simp only [L2, dif_pos hg]
      have hs := Classical.choose_spec hg
      rcases huniq _ Fs hN2 _ _ (List.mem_range.2 hs.1) (List.mem_range.2 hj) k hs.2 hk with e | e
      · rw [e]
      · exact e.elim
    obtain ⟨hv3, L3, S3, r3, v3⟩ := S2.newRowX (id := tag d j) hid hl.2 hC (w' := w) (m := m) (v := v) (fun _ _ _ => rfl) (Nat.le_refl _) ⟨rfl, rfl, rfl⟩ (owns_base ho fun g hg => (S.xlt g (hblk g hg).1).2) (fun g hg => .inr (hblk g hg))
    refine ⟨_, _, hv3, L3, _, hK, ⟨S3, fun y u F' r => v3 _ _ _ (v2 _ _ _ r), fun g hg hn => ⟨⟨hg, fun hm => hn (List.mem_append_right _ hm)⟩, fun hb => hn (List.mem_append_left _ (by rw [← owns_blk ho, hb]; simp))⟩⟩, r3, ?_⟩
    obtain ⟨Ad, cap, rfl, _⟩ := owns_reads ho
    rfl
  · obtain ⟨rfl, rfl⟩ := hR
    exact ⟨_, h, hv, L, X, hK, ⟨S, fun _ _ _ r => r, fun _ hg _ => hg⟩, .int _ _, rfl⟩
  · obtain ⟨rfl, rfl⟩ := hR
    exact ⟨_, h, hv, L, X, hK, ⟨S, fun _ _ _ r => r, fun _ hg _ => hg⟩, .bool _, rfl⟩
  · obtain ⟨rfl, rfl⟩ := hR
    exact ⟨_, h, hv, L, X, hK, ⟨S, fun _ _ _ r => r, fun _ hg _ => hg⟩, .str _, rfl⟩
  · exact hK.elim
end
end Go.Ev
namespace Go.Ev
set_option linter.unusedVariables false
set_option linter.unusedSimpArgs false
open Go.RowKit

section
variable {P : Program} {tb : Nat → Ti} {base n : Nat} {w0 : World} {env : Nat → AV} {h h' h2 : Heap} {a : Act} {w w' : World} {hv hv' hv2 : Nat → Value} {L L' L2 : Nat → Option Lb} {X X' X2 : Nat → Prop} {lf : AV → Value → Prop} {A A' : Nat → Prop} {id0 : Nat} {F0 F1 : List Nat}
theorem Imported.trans (i1 : Imported tb base w0 n env a w h h' hv hv' L' X X' F0) (i2 : Imported tb base w0 n env a w h' h2 hv' hv2 L2 X' X2 F1) : Imported tb base w0 n env a w h h2 hv hv2 L2 X X2 (F0 ++ F1) :=
  ⟨i2.sim, fun y u F r => i2.val _ _ _ (i1.val _ _ _ r), fun g hg hn => i2.rest g (i1.rest g hg (fun hm => hn (List.mem_append_left _ hm))) (fun hm => hn (List.mem_append_right _ hm))⟩
theorem importA_sound {d : Option Nat} : ∀ (cs : List AV) (us : List Value) (F : List Nat) (h : Heap) (hv : Nat → Value) (L : Nat → Option Lb) (X : Nat → Prop) (j : Nat), Sim tb base w0 n ⟨env, h⟩ a w hv L X → ResL (Res1 tb w) cs us F → F.Nodup → (∀ g ∈ F, X g) →
    ∀ {K : List AV → Heap → Prop}, importA d cs j h K → ∃ vs h' hv' L' X', K vs h' ∧ Imported tb base w0 n env a w h h' hv hv' L' X X' F ∧ us.length = vs.length ∧ (∀ u ∈ us, u.oneCell' = true) ∧
      ∀ (j : Nat) (c : AV) (u : Value), vs[j]? = some c → us[j]? = some u → VRel tb h' hv' X' w c u []
  | [], [], F, h, hv, L, X, j, S, hR, _, _, K, hK => ⟨[], h, hv, L, X, hK, by
      have hF : F = [] := hR
      subst hF
      exact ⟨S, fun _ _ _ r => r, fun _ hg _ => hg⟩, rfl, fun u hu => by simp at hu, fun j c u hc => by simp at hc⟩
  | c :: cs, u :: us, F, h, hv, L, X, j, S, hR, hN, hF, K, hK => by
    obtain ⟨F0, F1, rfl, hR0, hR1⟩ := hR
    rw [List.nodup_append] at hN
    have hK' : import1 d j c h fun v h => importA d cs (j + 1) h fun vs h => K (v :: vs) h := hK
    obtain ⟨c', h1, hv1, L1, X1, q1, i1, r1, o1⟩ := import1_sound S hR0 hN.1 (fun g hg => hF g (List.mem_append_left _ hg)) hK'
    obtain ⟨vs, h2, hv2, L2, X2, q2, i2, l2, o2, r2⟩ := importA_sound cs us F1 h1 hv1 L1 X1 (j + 1) i1.sim hR1 hN.2.1 (fun g hg => i1.rest g (hF g (List.mem_append_right _ hg)) (fun hm => hN.2.2 g hm g hg rfl)) q1
    refine ⟨c' :: vs, h2, hv2, L2, X2, q2, i1.trans i2, by simp [l2], fun x hx => ?_, fun k c u hc hu => ?_⟩
    · rcases List.mem_cons.1 hx with rfl | hx
      · exact o1
      · exact o2 x hx
    · cases k with
      | zero =>
        simp only [List.getElem?_cons_zero, Option.some.injEq] at hc hu
        subst hc hu
        exact i2.val _ _ _ r1
      | succ k => exact r2 k c u (by simpa using hc) (by simpa using hu)
  | [], _ :: _, F, _, _, _, _, _, _, hR, _, _, _, _ => hR.elim
  | _ :: _, [], F, _, _, _, _, _, _, hR, _, _, _, _ => hR.elim
theorem import2_sound (S : Sim tb base w0 n ⟨env, h⟩ a w hv L X) {d : Option Nat} {j : Nat} {r : AV} {v : Value} {F : List Nat} (hR : Res2 tb w r v F) (hN : F.Nodup) (hF : ∀ g ∈ F, X g) {K : AV → Heap → Prop} (hK : import2 d j r h K) :
    ∃ c h' hv' L' X', K c h' ∧ Imported tb base w0 n env a w h h' hv hv' L' X X' F ∧ VRel tb h' hv' X' w c v [] := by
  unfold import2 at hK
  split at hK
  · obtain ⟨us, rfl, hR⟩ := hR
    obtain ⟨vs, h', hv', L', X', q1, q2, q3, q4, q5⟩ := importA_sound _ us F h hv L X j S hR hN hF hK
    exact ⟨_, h', hv', L', X', q1, q2, .agg vs us (fun _ => []) [] q3 q4 q5 (by rw [flatMap_nil]) List.nodup_nil⟩
  · rename_i hne
    have hR1 : Res1 tb w r v F := by
      cases r <;> first | exact hR | exact absurd rfl (hne _)
    obtain ⟨c, h', hv', L', X', q1, q2, q3, _⟩ := import1_sound S hR1 hN hF hK
    exact ⟨c, h', hv', L', X', q1, q2, q3⟩
theorem importT_sound {d : Option Nat} : ∀ (cs : List AV) (us : List Value) (F : List Nat) (h : Heap) (hv : Nat → Value) (L : Nat → Option Lb) (X : Nat → Prop) (j : Nat), Sim tb base w0 n ⟨env, h⟩ a w hv L X → ResL (Res2 tb w) cs us F → F.Nodup → (∀ g ∈ F, X g) →
    ∀ {K : List AV → Heap → Prop}, importT d cs j h K → ∃ vs h' hv' L' X', K vs h' ∧ Imported tb base w0 n env a w h h' hv hv' L' X X' F ∧ us.length = vs.length ∧
      ∀ (j : Nat) (c : AV) (u : Value), vs[j]? = some c → us[j]? = some u → VRel tb h' hv' X' w c u []
  | [], [], F, h, hv, L, X, j, S, hR, _, _, K, hK => ⟨[], h, hv, L, X, hK, by
      have hF : F = [] := hR
      subst hF
      exact ⟨S, fun _ _ _ r => r, fun _ hg _ => hg⟩, rfl, fun j c u hc => by simp at hc⟩
  | c :: cs, u :: us, F, h, hv, L, X, j, S, hR, hN, hF, K, hK => by
    obtain ⟨F0, F1, rfl, hR0, hR1⟩ := hR
    rw [List.nodup_append] at hN
    have hK' : import2 d j c h fun v h => importT d cs (j + 5) h fun vs h => K (v :: vs) h := hK
    obtain ⟨c', h1, hv1, L1, X1, q1, i1, r1⟩ := import2_sound S hR0 hN.1 (fun g hg => hF g (List.mem_append_left _ hg)) hK'
    obtain ⟨vs, h2, hv2, L2, X2, q2, i2, l2, r2⟩ := importT_sound cs us F1 h1 hv1 L1 X1 (j + 5) i1.sim hR1 hN.2.1 (fun g hg => i1.rest g (hF g (List.mem_append_right _ hg)) (fun hm => hN.2.2 g hm g hg rfl)) q1
    refine ⟨c' :: vs, h2, hv2, L2, X2, q2, i1.trans i2, by simp [l2], fun k c u hc hu => ?_⟩
    cases k with
    | zero =>
      simp only [List.getElem?_cons_zero, Option.some.injEq] at hc hu
      subst hc hu
      exact i2.val _ _ _ r1
    | succ k => exact r2 k c u (by simpa using hc) (by simpa using hu)
  | [], _ :: _, F, _, _, _, _, _, _, hR, _, _, _, _ => hR.elim
  | _ :: _, [], F, _, _, _, _, _, _, hR, _, _, _, _ => hR.elim
theorem importR_sound (S : Sim tb base w0 n ⟨env, h⟩ a w hv L X) {d : Option Nat} {r : AV} {v : Value} {F : List Nat} (hR : Res3 tb w r v F) (hN : F.Nodup) (hF : ∀ g ∈ F, X g) {K : AV → Heap → Prop} (hK : importR d r h K) :
    ∃ c h' hv' L' X', K c h' ∧ Sim tb base w0 n ⟨env, h'⟩ a w hv' L' X' ∧ VRel tb h' hv' X' w c v [] := by
  unfold importR at hK
  split at hK
  · obtain ⟨us, rfl, hR⟩ := hR
    obtain ⟨vs, h', hv', L', X', q1, q2, q3, q4⟩ := importT_sound _ us F h hv L X 0 S hR hN hF hK
    exact ⟨_, h', hv', L', X', q1, q2.sim, .tup vs us (fun _ => []) [] q3 q4 (by rw [flatMap_nil]) List.nodup_nil⟩
  · rename_i hne
    have hR2 : Res2 tb w r v F := by
      cases r <;> first | exact hR | exact absurd rfl (hne _)
    obtain ⟨c, h', hv', L', X', q1, q2, q3⟩ := import2_sound S hR2 hN hF hK
    exact ⟨c, h', hv', L', X', q1, q2.sim, q3⟩
def FnOk (P : Program) (f : Nat) : Prop := ∃ fn, P.funcs[f]? = some fn ∧ (fn.name == "runtime.NumGoroutine") = false ∧ fn.body.isNone = false
/-- what the evaluator may take of the callees -/
def Sound (P : Program) (tb : Nat → Ti) (R : Nat → List AV → AV → Prop) : Prop := ∀ f args r, R f args r → FnOk P f ∧ Contract P tb f args r
theorem call_sound {R : Nat → List AV → AV → Prop} (hR : Sound P tb R) (S : Sim tb base w0 n ⟨env, h⟩ a w hv L X) {d : Option Nat} {f : AV} {vf : Value} {Ff : List Nat} (rf : VRel tb h hv X w f vf Ff) {args : List AV} {vs : Array Value} (hl : vs.size = args.length)
    (hr : ∀ (j : Nat) (c : AV) (u : Value), args[j]? = some c → vs[j]? = some u → ∃ F, VRel tb h hv X w c u F) {K : AV → Heap → Prop} {N : Value → World → Prop} (hN : Yield tb base w0 n env a K N) (hK : callF tb R d f args h K) :
    ∃ g vs', (do let dd ← Deferred.ofValue vf vs; invoke dd.target dd.args : Sem Next).run P w = .ok (.enter g vs') w ∧ Calls P g vs' w (fun e w' => ∃ v, e = .returned v ∧ N v w') := by
  unfold callF at hK
  split at hK
  · rename_i g caps
    cases rf with
    | leaf h => exact h.elim
    | fn f cs us Fs hcl hcr =>
      split at hK
      rotate_left
      · exact hK.elim
      obtain ⟨r, hRr, hK⟩ := hK
      obtain ⟨⟨fn, h1, h2, h3⟩, hC⟩ := hR _ _ _ hRr
      refine ⟨g, vs ++ us.toArray, ?_, (hC (vs ++ us.toArray) w (by rw [mapR_eq]; simp [hl, hcl]) (fun j c u hc hu => ?_)).mono fun e w' he => ?_⟩
      · have h2' : fn.name ≠ "runtime.NumGoroutine" := beq_eq_false_iff_ne.1 h2
        have h3' : fn.body ≠ none := fun e => by rw [e] at h3; cases h3
        simp [Deferred.ofValue, invoke, callFunc, h1, h2', h3']
      · rw [mapR_eq, List.getElem?_map] at hc
        obtain ⟨c0, hc0, rfl⟩ := Option.map_eq_some_iff.1 hc
        by_cases hj : j < args.length
        · rw [List.getElem?_append_left hj] at hc0
          rw [Array.getElem?_append_left (by omega)] at hu
          obtain ⟨F, r0⟩ := hr j c0 u hc0 hu
          exact ⟨_, lend3_rel S r0⟩
        · rw [List.getElem?_append_right (by omega)] at hc0
          rw [Array.getElem?_append_right (by omega), hl] at hu
          exact ⟨_, lend3_rel S (hcr _ c0 u hc0 (by simpa using hu))⟩
      · obtain ⟨v, F, rfl, q1, q2, q3, q4⟩ := he
        obtain ⟨S', hval⟩ := S.after q4 q3
        obtain ⟨c, h', hv', L', X', k1, k2, k3⟩ := importR_sound S' q1 q2 (fun g hg => .inr hg) hK
        exact ⟨v, rfl, hN _ _ _ _ _ _ _ _ k1 k2 k3⟩
  · exact hK.elim
end
end Go.Ev
namespace Go.Ev
set_option linter.unusedVariables false
set_option linter.unusedSimpArgs false
open Go.RowKit
/-! maps -/
section
variable {P : Program} {tb : Nat → Ti} {base n : Nat} {w0 : World} {env : Nat → AV} {h h' : Heap} {a : Act} {w w' : World} {hv hv' : Nat → Value} {L L' : Nat → Option Lb} {X X' : Nat → Prop}
theorem keyB1_cases {k : Tk} {a : AV} (h : keyB1 k a) : (∃ q n, k = .int q ∧ a = .int q n ∧ (Lit.int q n).wf = true) ∨ ∃ b, k = .bool ∧ a = .bool b := by
  cases k with
  | int q =>
    cases a with
    | int q' n => obtain ⟨rfl, h⟩ := (h : q' = q ∧ _); exact .inl ⟨_, _, rfl, rfl, h⟩
    | _ => exact (h : False).elim
  | bool =>
    cases a with
    | bool b => exact .inr ⟨b, rfl, rfl⟩
    | _ => exact (h : False).elim
  | _ => exact (h : False).elim
theorem keyB1_inj {k : Tk} {a b : AV} {lf lf' : AV → Value → Prop} (h0 : ∀ a v, lf a v → ¬ isFlat a = true) (h0' : ∀ a v, lf' a v → ¬ isFlat a = true) {A A' : Nat → Prop} {w w' : World} {u : Value} {F F' : List Nat} (ha : keyB1 k a) (hb : keyB1 k b) (ra : Rel tb lf A w a u F) (rb : Rel tb lf' A' w' b u F') : a = b := by
  rcases keyB1_cases ha with ⟨q, n, rfl, rfl, _⟩ | ⟨x, rfl, rfl⟩
  · rcases keyB1_cases hb with ⟨q', n', e, rfl, _⟩ | ⟨x, e, rfl⟩
    · cases e
      cases ra with
      | leaf h => exact absurd rfl (h0 _ _ h)
      | int k n =>
        generalize hy : AV.int q n' = y at rb
        cases rb with
        | leaf h => subst hy; exact absurd rfl (h0' _ _ h)
        | int k n => exact hy.symm ▸ rfl
        | _ => cases hy
    · cases e
  · rcases keyB1_cases hb with ⟨q', n', e, rfl, _⟩ | ⟨y, e, rfl⟩
    · cases e
    · cases ra with
      | leaf h => exact absurd rfl (h0 _ _ h)
      | bool x =>
        generalize hy : AV.bool y = z at rb
        cases rb with
        | leaf h => subst hy; exact absurd rfl (h0' _ _ h)
        | bool x => exact hy.symm ▸ rfl
        | _ => cases hy
theorem no_flat (a : AV) (v : Value) (h : noLeaf a v) : ¬ isFlat a = true := h.elim
theorem leaf_flat (a : AV) (v : Value) (hl : Leaf tb h hv a v) : ¬ isFlat a = true := fun hh => by
  cases a <;> first | exact (hl : False) | cases hh
theorem keyB_cases {t : Nat} {a : AV} (h : keyB tb t a) : (∃ m e cs, (tb t).k = .arr m e ∧ a = .agg cs ∧ cs.length = m ∧ ∀ c ∈ cs, keyB1 (tb e).k c) ∨ ((∀ m e, (tb t).k ≠ .arr m e) ∧ keyB1 (tb t).k a) := by
  unfold keyB at h
  cases hk : (tb t).k with
  | arr m e =>
    rw [hk] at h
    cases a with
    | agg cs => exact .inl ⟨m, e, cs, rfl, rfl, h.1, h.2⟩
    | _ => exact (h : False).elim
  | _ => rw [hk] at h; exact .inr ⟨fun m e e' => (by cases e'), h⟩
theorem keyB_inj {t : Nat} {a b : AV} {lf lf' : AV → Value → Prop} (h0 : ∀ a v, lf a v → ¬ isFlat a = true) (h0' : ∀ a v, lf' a v → ¬ isFlat a = true) (h1 : ∀ cs v, ¬ lf (.agg cs) v) (h1' : ∀ cs v, ¬ lf' (.agg cs) v)
    {A A' : Nat → Prop} {w w' : World} {u : Value} {F F' : List Nat} (ha : keyB tb t a) (hb : keyB tb t b) (ra : Rel tb lf A w a u F) (rb : Rel tb lf' A' w' b u F') : a = b := by
  rcases keyB_cases ha with ⟨m, e, cs, hk, rfl, hl, hc⟩ | ⟨hk, hc⟩
  · rcases keyB_cases hb with ⟨m', e', ds, hk', rfl, hl', hd⟩ | ⟨hk', _⟩
    · rw [hk] at hk'
      cases hk'
      congr 1
      generalize hx : AV.agg cs = x at ra
      generalize hy : AV.agg ds = y at rb
      cases ra with
      | leaf h => subst hx; exact absurd h (h1 _ _)
      | agg cs1 us Fs F hul hu1 hr hF hN =>
        cases hx
        generalize hz : (Value.agg us.toArray) = z at rb
        cases rb with
        | leaf h => subst hy; exact absurd h (h1' _ _)
        | agg cs2 us2 Fs2 F2 hul2 hu2 hr2 hF2 hN2 =>
          cases hy
          have hz : us = us2 := by injection hz with hz; simpa using hz
          subst hz
          refine List.ext_getElem (by omega) fun i hi hi' => ?_
          exact keyB1_inj h0 h0' (hc _ (List.getElem_mem hi)) (hd _ (List.getElem_mem hi')) (hr i _ (us[i]'(by omega)) (List.getElem?_eq_getElem hi) (List.getElem?_eq_getElem _)) (hr2 i _ (us[i]'(by omega)) (List.getElem?_eq_getElem hi') (List.getElem?_eq_getElem _))
        | _ => cases hy
      | _ => cases hx
    · exact absurd hk (hk' _ _)
  · rcases keyB_cases hb with ⟨m', e', ds, hk', rfl, hl', hd⟩ | ⟨hk', hd⟩
    · exact absurd hk' (hk _ _)
    · exact keyB1_inj h0 h0' hc hd ra rb
/-- a flat value is what it is in whatever memory -/
theorem flat_free {v : AV} {u : Value} {F : List Nat} {lf : AV → Value → Prop} {A : Nat → Prop} (h0 : ∀ a v, lf a v → ¬ isFlat a = true) (hf : isFlat v = true) (r : Rel tb lf A w v u F) : ∀ w', KeyR tb w' v u := fun w' => by
  cases r with
  | int k n => exact .int k n
  | bool b => exact .bool b
  | str s => exact .str s
  | leaf h => exact absurd hf (h0 _ _ h)
  | _ => cases hf
theorem keyB1_flat {k : Tk} {a : AV} (ha : keyB1 k a) : isFlat a = true := by
  rcases keyB1_cases ha with ⟨q, n, rfl, rfl, _⟩ | ⟨x, rfl, rfl⟩ <;> rfl
theorem keyB_free {t : Nat} {a : AV} {u : Value} {F : List Nat} (ha : keyB tb t a) (r : VRel tb h hv X w a u F) : ∀ w', KeyR tb w' a u := fun w' => by
  rcases keyB_cases ha with ⟨m, e, cs, hk, rfl, hl, hc⟩ | ⟨hk, hc⟩
  · obtain ⟨us, rfl, q1, q2, q3⟩ := agg_inv r
    refine .agg cs us (fun _ => []) [] q1 q2 (fun j c u hcj hu => ?_) (by rw [flatMap_nil]) List.nodup_nil
    obtain ⟨F, r⟩ := q3 j c u hcj hu
    exact flat_free leaf_flat (keyB1_flat (hc c (List.mem_of_getElem? hcj))) r w'
  · exact flat_free leaf_flat (keyB1_flat hc) r w'
theorem key1_val {k : Tk} {a : AV} {v v' : Value} {A A' : Nat → Prop} {w w' : World} {F F' : List Nat} (hb : keyB1 k a) (r : Rel tb noLeaf A w a v F) (r' : Rel tb noLeaf A' w' a v' F') : v = v' := by
  rcases keyB1_cases hb with ⟨q, n, rfl, rfl, _⟩ | ⟨x, rfl, rfl⟩
  · cases r with
    | leaf h => exact h.elim
    | int => cases r' with
      | leaf h => exact h.elim
      | int => rfl
  · cases r with
    | leaf h => exact h.elim
    | bool => cases r' with
      | leaf h => exact h.elim
      | bool => rfl
theorem key_val {t : Nat} {a : AV} {v v' : Value} (hb : keyB tb t a) (r : KeyR tb w a v) (r' : KeyR tb w a v') : v = v' := by
  unfold KeyR at r r'
  rcases keyB_cases hb with ⟨m, e, cs, hk, rfl, hl, hc⟩ | ⟨hk, hc⟩
  · generalize hx : AV.agg cs = x at r
    generalize hy : AV.agg cs = y at r'
    generalize ([] : List Nat) = G at r
    generalize ([] : List Nat) = G' at r'
    cases r with
    | leaf h => exact h.elim
    | agg cs1 us Fs F hul hu1 hr hF hN =>
      cases hx
      cases r' with
      | leaf h => exact h.elim
      | agg cs2 us2 Fs2 F2 hul2 hu2 hr2 hF2 hN2 =>
        cases hy
        have : us = us2 := by
          refine List.ext_getElem (by omega) fun i hi hi' => ?_
          have hci : cs[i]? = some (cs[i]'(by omega)) := List.getElem?_eq_getElem _
          exact key1_val (hc _ (List.getElem_mem _)) (hr i _ _ hci (List.getElem?_eq_getElem hi)) (hr2 i _ _ hci (List.getElem?_eq_getElem hi'))
        rw [this]
      | _ => cases hy
    | _ => cases hx
  · exact key1_val hc r r'
/-- what is looked for, in the entries -/
theorem find_sound {kt : Nat} (hM : Maps.Keyed P kt) (hk : ∀ (a : AV) (u : Value) (w : World), keyB tb kt a → KeyR tb w a u → ∃ l, keyOf P kt u = some l) {ents : Array MapEntry} {es : List (AV × AV)}
    (hl : ents.size = es.length) (hn : (es.map Prod.fst).Nodup) (hin : ∀ kv ∈ es, keyB tb kt kv.1) (hr : ∀ (j : Nat) (kv : AV × AV), es[j]? = some kv → ∃ m : MapEntry, ents[j]? = some m ∧ KeyR tb w kv.1 m.key ∧ KeyR tb w kv.2 m.val)
    {k : AV} {u : Value} (hkb : keyB tb kt k) (hku : KeyR tb w k u) {o : Option (Nat × AV)} (hf : findK k es o) :
    (∃ l, keyOf P kt u = some l) ∧ (o = none → (Instr.findKey kt u ents.toList).run P w = .ok none w) ∧
      ∀ p, o = some p → ∃ m, ents[p.1]? = some m ∧ m.key = u ∧ KeyR tb w p.2 m.val ∧ (Instr.findKey kt u ents.toList).run P w = .ok (some (p.1, m.val)) w := by
  obtain ⟨l, hlu⟩ := hk k u w hkb hku
  refine ⟨⟨l, hlu⟩, ?_⟩
  have get : ∀ (j : Nat) (m : MapEntry), ents[j]? = some m → ∃ kv, es[j]? = some kv ∧ KeyR tb w kv.1 m.key ∧ KeyR tb w kv.2 m.val := fun j m hm => by
    have hj : j < es.length := by rw [← hl]; exact (Array.getElem?_eq_some_iff.1 hm).1
    obtain ⟨m', h1, h2, h3⟩ := hr j _ (List.getElem?_eq_getElem hj)
    rw [hm] at h1
    cases h1
    exact ⟨_, List.getElem?_eq_getElem hj, h2, h3⟩
  have same : ∀ (j : Nat) (m : MapEntry) (kv : AV × AV), ents[j]? = some m → es[j]? = some kv → m.key = u → kv.1 = k := fun j m kv hm hkv he => by
    obtain ⟨kv', h1, h2, _⟩ := get j m hm
    rw [hkv] at h1
    cases h1
    rw [he] at h2
    exact keyB_inj no_flat no_flat (fun _ _ h => h) (fun _ _ h => h) (hin kv (List.mem_of_getElem? hkv)) hkb h2 hku
  have hF := hM.find w hlu ents.toList (fun e he => by
    obtain ⟨j, hj⟩ := List.getElem?_of_mem he
    obtain ⟨kv, h1, h2, _⟩ := get j e (by simpa using hj)
    exact hk _ _ w (hin kv (List.mem_of_getElem? h1)) h2)
  cases o with
  | none =>
    refine ⟨fun _ => ?_, fun p e => (by cases e)⟩
    rcases hF with ⟨h1, _⟩ | ⟨j, e, h1, h2, h3⟩
    · exact h1
    · exfalso
      obtain ⟨kv, q1, _⟩ := get j e (by simpa using h2)
      exact hf kv (List.mem_of_getElem? q1) (same j e kv (by simpa using h2) q1 h3)
  | some p =>
    refine ⟨fun e => (by cases e), fun p' e' => ?_⟩
    cases e'
    have hp : es[p.1]? = some (k, p.2) := hf
    obtain ⟨m, h1, h2, h3⟩ := hr _ _ hp
    have hmu : m.key = u := by
      rcases hF with ⟨_, g2⟩ | ⟨j, e, g1, g2, g3⟩
      · exact key_val hkb h2 hku
      · have hj : j = p.1 := by
          obtain ⟨kv, q1, _⟩ := get j e (by simpa using g2)
          have q2 := same j e kv (by simpa using g2) q1 g3
          have hj1 := (List.getElem?_eq_some_iff.1 q1).1
          have hj2 := (List.getElem?_eq_some_iff.1 hp).1
          refine (List.getElem_inj (xs := es.map Prod.fst) (i := j) (j := p.1) (h₀ := by simpa using hj1) (h₁ := by simpa using hj2) hn).1 ?_
          have e1 : es[j] = kv := (List.getElem?_eq_some_iff.1 q1).2
          have e2 : es[p.1] = (k, p.2) := (List.getElem?_eq_some_iff.1 hp).2
          simp [e1, e2, q2]
        subst hj
        have g2' : ents[p.1]? = some e := by simpa using g2
        rw [h1] at g2'
        cases g2'
        exact g3
    refine ⟨m, h1, hmu, h3, ?_⟩
    rcases hF with ⟨_, g2⟩ | ⟨j, e, g1, g2, g3⟩
    · exact absurd hmu (g2 m (by have := Array.mem_of_getElem? h1; simpa using this))
    · have hj : j = p.1 := by
        obtain ⟨kv, q1, _⟩ := get j e (by simpa using g2)
        have q2 := same j e kv (by simpa using g2) q1 g3
        have hj1 := (List.getElem?_eq_some_iff.1 q1).1
        have hj2 := (List.getElem?_eq_some_iff.1 hp).1
        refine (List.getElem_inj (xs := es.map Prod.fst) (i := j) (j := p.1) (h₀ := by simpa using hj1) (h₁ := by simpa using hj2) hn).1 ?_
        have e1 : es[j] = kv := (List.getElem?_eq_some_iff.1 q1).2
        have e2 : es[p.1] = (k, p.2) := (List.getElem?_eq_some_iff.1 hp).2
        simp [e1, e2, q2]
      subst hj
      have g2' : ents[p.1]? = some e := by simpa using g2
      rw [h1] at g2'
      cases g2'
      exact g1
theorem Sim.newMap (S : Sim tb base w0 n ⟨env, h⟩ a w hv L X) {id t : Nat} (hid : h id = none) :
    ∃ hv' L', Sim tb base w0 n ⟨env, h.put id (.mp t [])⟩ a (w.alloc (.map #[] 0)) hv' L' X ∧ VRel tb (h.put id (.mp t [])) hv' X (w.alloc (.map #[] 0)) (.map id) (.map (some w.heap.size)) [] := by
  have S := S.reset
  have hne : ∀ i b, h i = some b → i ≠ id := by rintro i b hb rfl; rw [hid] at hb; cases hb
  have hkeep : ∀ i b, h i = some b → (h.put id (.mp t [])) i = some b ∧ upd hv id (.map (some w.heap.size)) i = hv i :=
    fun i b hb => ⟨by rw [put_other h _ (hne i b hb)]; exact hb, upd_other _ _ (hne i b hb)⟩
  have T : Trans tb base h (h.put id (.mp t [])) hv (upd hv id (.map (some w.heap.size))) (fun g => if g < w.heap.size then L g else none)
      (upd (fun g => if g < w.heap.size then L g else none) w.heap.size (some (.own id 0))) X X w (w.alloc (.map #[] 0)) id := {
    hh := fun i hi => put_other h _ hi
    hhv := fun i hi => upd_other _ _ hi
    leaf := fun a v hl => leaf_keep hkeep hl
    mem := fun g hg _ _ => Below.heap_alloc w _ g hg
    size := by simp
    os := rfl, tape := rfl, output := rfl
    new := fun g hg => by
      rw [upd_same] at hg
      have hg : w.heap.size = g := by injection hg
      subst hg
      exact ⟨.inr (.inl (Nat.le_refl _)), by simp, upd_same _ _ _, fun hx => by have := (S.xlt _ hx).1; omega⟩
    lab := fun g i j hi hL => by
      by_cases hg : g < w.heap.size
      · rw [upd_other _ _ (by omega)]; exact hL
      · simp [if_neg hg] at hL
    hX := fun g _ hx => .inl hx
    xlt := fun g hx => by have := S.xlt g hx; simp; omega }
  refine ⟨_, _, S.trans T (fun b hb => ?_) (fun hb => by rw [put_same] at hb; cases hb), .leaf ⟨t, [], w.heap.size, put_same _ _ _, upd_same _ _ _, rfl⟩⟩
  rw [put_same] at hb
  injection hb with hb
  subst hb
  exact ⟨w.heap.size, #[], 0, upd_same _ _ _, heap_alloc_new w _, ⟨rfl, List.nodup_nil, fun kv hkv => by simp at hkv⟩, fun j kv hj => by simp at hj⟩
theorem makeMap_sound (S : Sim tb base w0 n ⟨env, h⟩ a w hv L X) {t : Nat} {d : Option Nat} {K : AV → Heap → Prop} {N : Value → World → Prop} (hN : Yield tb base w0 n env a K N) (hK : makeMapA tb d t h K) :
    ∃ u w', (Instr.makeMap t none).run P w = .ok u w' ∧ N u w' := by
  unfold makeMapA at hK
  split at hK
  · obtain ⟨hid, hK⟩ := newB_inv hK
    obtain ⟨hv', L', S', r⟩ := S.newMap (t := t) hid
    exact ⟨_, _, rfl, hN _ _ _ _ _ _ _ _ hK S' r⟩
  · exact hK.elim
/-- the block of a map -/
theorem Sim.mapBlk (S : Sim tb base w0 n ⟨env, h⟩ a w hv L X) {id t : Nat} {es : List (AV × AV)} (hid : h id = some (.mp t es)) {v : Value} {F : List Nat} (r : VRel tb h hv X w (.map id) v F) :
    ∃ g ents clock, v = .map (some g) ∧ hv id = .map (some g) ∧ w.heap[g]? = some (.map ents clock) ∧ (ents.size = es.length ∧ (es.map Prod.fst).Nodup ∧ ∀ kv ∈ es, keyIn tb t kv.1) ∧
      ∀ (j : Nat) (kv : AV × AV), es[j]? = some kv → ∃ m : MapEntry, ents[j]? = some m ∧ KeyR tb w kv.1 m.key ∧ KeyR tb w kv.2 m.val := by
  obtain ⟨t', es', g, h1, h2, rfl⟩ := r.map_inv
  obtain ⟨g', ents, clock, h3, h4, h5, h6⟩ := S.blks _ _ hid
  rw [h2] at h3
  injection h3 with h3
  injection h3 with h3
  subst h3
  exact ⟨g, ents, clock, rfl, h2, h4, h5, h6⟩
theorem lookup_sound (hT : TbOk P tb) (S : Sim tb base w0 n ⟨env, h⟩ a w hv L X) {t : Nat} {m k : AV} {vm vk : Value} {Fm Fk : List Nat} (rm : VRel tb h hv X w m vm Fm) (rk : VRel tb h hv X w k vk Fk) {ok : Bool} {K : AV → Prop} (hK : lookupA tb t m k ok h K) :
    ∃ y u, K y ∧ (Instr.lookup t vm vk ok).run P w = .ok u w ∧ VRel tb h hv X w y u [] := by
  unfold lookupA at hK
  split at hK
  · rename_i kt vt ht
    have hTy := hT.kind (t := t) (by rw [ht]; simp)
    obtain ⟨d, hu, _, hk⟩ := hTy.und
    rw [ht] at hk
    obtain ⟨rfl, _⟩ := hk
    obtain ⟨hM, hKey, hZ⟩ := hTy.keys kt vt ht
    split at hK
    · rename_i q hq
      obtain ⟨i, hi, hz⟩ := hZ q hq
      have hzero : (zeroValue vt).run P w = .ok (.int q 0) w := by simp [zeroValue, typeInfo, hi, hz]
      split at hK
      · split at hK
        · rename_i id _ t' es hid
          split at hK
          · rename_i hbt
            have e := Nat.eq_of_beq_eq_true hbt
            subst e
            obtain ⟨hkb, o, hf, hK⟩ := hK
            obtain ⟨g, ents, clock, rfl, _, h4, ⟨h5, h6, h7⟩, h8⟩ := S.mapBlk hid rm
            have h7' : ∀ kv ∈ es, keyB tb kt kv.1 := fun kv hkv => by have := h7 kv hkv; unfold keyIn at this; rw [ht] at this; exact this
            obtain ⟨⟨l, hl⟩, hfind⟩ := find_sound hM hKey h5 h6 h7' h8 hkb (keyB_free hkb rk w) hf
            have hc := hM.check w ents.isEmpty hl
            cases o with
            | none =>
              have hfind := hfind.1 rfl
              refine ⟨_, if ok then .tuple #[.int q 0, .bool false] else .int q 0, hK, by simp [Instr.lookup, run_underlying hu, MapKept.run_getObj_map h4, hc, hfind, hzero, Result.andThen], ?_⟩
              cases ok
              · exact .int q 0
              · refine .tup _ [.int q 0, .bool false] (fun _ => []) [] rfl (fun j c u hc hu => ?_) (by rw [flatMap_nil]) List.nodup_nil
                match j with
                | 0 => simp at hc hu; subst hc hu; exact .int _ _
                | 1 => simp at hc hu; subst hc hu; exact .bool _
                | j + 2 => simp at hc
            | some p =>
              obtain ⟨m, g1, g2, g3, g4⟩ := hfind.2 p rfl
              refine ⟨_, if ok then .tuple #[m.val, .bool true] else m.val, hK, by simp [Instr.lookup, run_underlying hu, MapKept.run_getObj_map h4, hc, g4, hzero, Result.andThen], ?_⟩
              have r3 : VRel tb h hv X w p.2 m.val [] := g3.imp (fun _ _ h => h.elim) (fun _ h => h.elim) (fun _ h => h.elim)
              cases ok
              · exact r3
              · refine .tup _ [m.val, .bool true] (fun _ => []) [] rfl (fun j c u hc hu => ?_) (by rw [flatMap_nil]) List.nodup_nil
                match j with
                | 0 => simp at hc hu; subst hc hu; exact r3
                | 1 => simp at hc hu; subst hc hu; exact .bool _
                | j + 2 => simp at hc
          · exact hK.elim
        · exact hK.elim
      · exact hK.elim
    · exact hK.elim
  · exact hK.elim
theorem mapUpdate_sound (hT : TbOk P tb) (S : Sim tb base w0 n ⟨env, h⟩ a w hv L X) {t : Nat} {m k v : AV} {vm vk vv : Value} {Fm Fk Fv : List Nat} (rm : VRel tb h hv X w m vm Fm) (rk : VRel tb h hv X w k vk Fk) (rv : VRel tb h hv X w v vv Fv) {K : AV → Heap → Prop} {N : Value → World → Prop} (hN : Yield tb base w0 n env a K N)
    (hK : mapUpdateA tb t m k v h K) : ∃ w', (Instr.mapUpdate t vm vk vv).run P w = .ok () w' ∧ N undef w' := by
  unfold mapUpdateA at hK
  split at hK
  · rename_i kt vt ht
    have hTy := hT.kind (t := t) (by rw [ht]; simp)
    obtain ⟨d, hu, _, hk⟩ := hTy.und
    rw [ht] at hk
    obtain ⟨rfl, _⟩ := hk
    obtain ⟨hM, hKey, hZ⟩ := hTy.keys kt vt ht
    split at hK
    · split at hK
      · rename_i id _ t' es hid
        split at hK
        · rename_i hbt
          have e := Nat.eq_of_beq_eq_true hbt
          subst e
          obtain ⟨⟨hkb, hvf⟩, o, hf, es', he, hK⟩ := hK
          obtain ⟨g, ents, clock, rfl, hg, h4, ⟨h5, h6, h7⟩, h8⟩ := S.mapBlk hid rm
          have h7' : ∀ kv ∈ es, keyB tb kt kv.1 := fun kv hkv => by have := h7 kv hkv; unfold keyIn at this; rw [ht] at this; exact this
          have hki : ∀ a, keyB tb kt a → keyIn tb t' a := fun a ha => by unfold keyIn; rw [ht]; exact ha
          obtain ⟨⟨l, hl⟩, hfind⟩ := find_sound hM hKey h5 h6 h7' h8 hkb (keyB_free hkb rk w) hf
          have hc := hM.check w false hl
          have hkf := keyB_free hkb rk
          have hvf' := flat_free leaf_flat hvf rv
          have fin : ∀ (ents' : Array MapEntry) (clock' : Nat), (Instr.mapUpdate t' (.map (some g)) vk vv).run P w = .ok () (ChangeMaps.setBlock w g (.map ents' clock')) →
              (ents'.size = es'.length ∧ (es'.map Prod.fst).Nodup ∧ ∀ kv ∈ es', keyIn tb t' kv.1) →
              (∀ (j : Nat) (kv : AV × AV), es'[j]? = some kv → ∃ m : MapEntry, ents'[j]? = some m ∧ ∀ w', KeyR tb w' kv.1 m.key ∧ KeyR tb w' kv.2 m.val) →
              ∃ w', (Instr.mapUpdate t' (.map (some g)) vk vv).run P w = .ok () w' ∧ N undef w' := by
            intro ents' clock' hrun hA hB
            have T := S.write_trans (b := .mp t' es) (b' := .mp t' es') (w' := ChangeMaps.setBlock w g (.map ents' clock')) (L' := L) hid trivial (g := g) (by rw [hg]; rfl) (fun i hi => ChangeMaps.heap_setBlock_other h4 _ hi) (by simp [ChangeMaps.setBlock]) ⟨rfl, rfl, rfl⟩ rfl (fun _ _ _ _ h => h)
            refine ⟨_, hrun, hN _ _ _ _ _ _ _ _ hK (S.trans T (fun b hb => ?_) (fun hb => by rw [put_same] at hb; cases hb)) .undef⟩
            rw [put_same] at hb
            injection hb with hb
            subst hb
            exact ⟨g, ents', clock', hg, ChangeMaps.heap_setBlock_same h4 _, hA, fun j kv hj => by
              obtain ⟨m, q1, q2⟩ := hB j kv hj
              exact ⟨m, q1, (q2 _).1, (q2 _).2⟩⟩
          have old : ∀ (j : Nat) (kv : AV × AV), es[j]? = some kv → ∃ m : MapEntry, ents[j]? = some m ∧ ∀ w', KeyR tb w' kv.1 m.key ∧ KeyR tb w' kv.2 m.val := fun j kv hj => by
            obtain ⟨m, q1, q2, q3⟩ := h8 j kv hj
            exact ⟨m, q1, fun w' => ⟨q2.imp (fun _ _ h => h) (fun _ h => h) (fun _ h => h.elim), q3.imp (fun _ _ h => h) (fun _ h => h) (fun _ h => h.elim)⟩⟩
          cases o with
          | none =>
            have hfind := hfind.1 rfl
            have he : es' = es ++ [(k, v)] := he
            subst he
            refine fin (ents.push ⟨vk, vv, clock⟩) (clock + 1) (by simp [Instr.mapUpdate, run_underlying hu, MapKept.run_getObj_map h4, hc, hfind, MapKept.run_setObj_map _ h4, Result.andThen, ChangeMaps.setBlock]) ⟨by simp [h5], ?_, fun kv hkv => ?_⟩ fun j kv hj => ?_
            · rw [List.map_append, List.nodup_append]
              refine ⟨h6, by simp, fun x hx y hy e => ?_⟩
              simp at hy
              subst hy e
              obtain ⟨kv, hkv, rfl⟩ := List.mem_map.1 hx
              exact hf kv hkv rfl
            · rcases List.mem_append.1 hkv with hkv | hkv
              · exact h7 kv hkv
              · simp at hkv; subst hkv; exact hki _ hkb
            · rcases Nat.lt_or_ge j es.length with hjl | hjl
              · rw [List.getElem?_append_left hjl] at hj
                obtain ⟨m, q1, q2⟩ := old j kv hj
                exact ⟨m, by rw [Array.getElem?_push_lt (by omega)]; rw [← q1]; exact (Array.getElem?_eq_getElem (by omega)).symm, q2⟩
              · rw [List.getElem?_append_right hjl] at hj
                have : j = es.length := by
                  have := (List.getElem?_eq_some_iff.1 hj).1
                  simp at this
                  omega
                subst this
                simp at hj
                subst hj
                exact ⟨⟨vk, vv, clock⟩, by rw [← h5]; simp, fun w' => ⟨hkf w', hvf' w'⟩⟩
          | some p =>
            have he : es' = es.set p.1 (k, v) := he
            subst he
            obtain ⟨m, g1, g2, g3, g4⟩ := hfind.2 p rfl
            have hp : es[p.1]? = some (k, p.2) := hf
            have hpl := (List.getElem?_eq_some_iff.1 hp).1
            refine fin (ents.modify p.1 (fun e' => { e' with key := vk, val := vv })) clock (by simp [Instr.mapUpdate, run_underlying hu, MapKept.run_getObj_map h4, hc, g4, g1, g2, hM.stays w hl, MapKept.run_setObj_map _ h4, Result.andThen, ChangeMaps.setBlock]) ⟨by simp [h5], ?_, fun kv hkv => ?_⟩ fun j kv hj => ?_
            · have : (es.set p.1 (k, v)).map Prod.fst = es.map Prod.fst := by
                rw [List.map_set]
                have e1 : (es.map Prod.fst)[p.1]'(by simpa using hpl) = k := by
                  have := (List.getElem?_eq_some_iff.1 hp).2
                  simp [this]
                conv => lhs; rw [← e1]
                exact List.set_getElem_self _
              rw [this]; exact h6
            · rcases List.mem_or_eq_of_mem_set hkv with h | rfl
              · exact h7 kv h
              · exact hki _ hkb
            · by_cases hjp : j = p.1
              · subst hjp
                rw [List.getElem?_set_self hpl] at hj
                cases hj
                refine ⟨{ m with key := vk, val := vv }, by rw [Array.getElem?_modify]; simp [g1], fun w' => ⟨hkf w', hvf' w'⟩⟩
              · rw [List.getElem?_set_ne (fun e => hjp e.symm)] at hj
                obtain ⟨m', q1, q2⟩ := old j kv hj
                exact ⟨m', by rw [Array.getElem?_modify, if_neg (fun e => hjp e.symm)]; exact q1, q2⟩
        · exact hK.elim
      · exact hK.elim
    · exact hK.elim
  · exact hK.elim
end
end Go.Ev
namespace Go.Ev
set_option linter.unusedVariables false
set_option linter.unusedSimpArgs false
open Go.RowKit

section
variable {P : Program} {tb : Nat → Ti} {R : Nat → List AV → AV → Prop} {base n : Nat} {w0 : World} {env : Nat → AV} {h h' h2 : Heap} {a : Act} {w w' : World} {hv hv' hv2 : Nat → Value} {L L' L2 : Nat → Option Lb} {X X' X2 : Nat → Prop}
theorem wp_value {o : Oper} {next : Act → World → Prop} {Q : Exit → Act → World → Prop} {u : Value} {w' : World} (hr : (execOp a.eval o).run P w = .ok (.value u) w') (hn : next (a.put o.dst u) w') : o.wp P a w next Q := by
  unfold Oper.wp
  rw [hr]
  exact hn
theorem wp_skip {o : Oper} {next : Act → World → Prop} {Q : Exit → Act → World → Prop} {w' : World} (hr : (execOp a.eval o).run P w = .ok .skip w') (hn : next (a.put o.dst undef) w') : o.wp P a w next Q := by
  unfold Oper.wp
  rw [hr]
  exact hn
theorem Sim.rhos (S : Sim tb base w0 n ⟨env, h⟩ a w hv L X) (xs : Array Operand) : (xs.map a.eval).size = (mapR (Ev.rho env) xs.toList).length ∧
    ∀ (j : Nat) (c : AV) (u : Value), (mapR (Ev.rho env) xs.toList)[j]? = some c → (xs.map a.eval)[j]? = some u → ∃ F, VRel tb h hv X w c u F := by
  rw [mapR_eq]
  refine ⟨by simp, fun j c u hc hu => ?_⟩
  rw [List.getElem?_map] at hc
  obtain ⟨x, hx, rfl⟩ := Option.map_eq_some_iff.1 hc
  rw [Array.getElem?_map] at hu
  obtain ⟨x', hx', rfl⟩ := Option.map_eq_some_iff.1 hu
  have : x = x' := by simp at hx; rw [hx] at hx'; injection hx'
  subst this
  exact S.rho x
theorem Sim.parts (S : Sim tb base w0 n ⟨env, h⟩ a w hv L X) (ps : Array (Nat × Operand)) : (ps.map fun (i, x) => (i, a.eval x)).size = (mapR (fun p => (p.1, Ev.rho env p.2)) ps.toList).length ∧
    ∀ (j : Nat) (p : Nat × AV) (q : Nat × Value), (mapR (fun p => (p.1, Ev.rho env p.2)) ps.toList)[j]? = some p → (ps.map fun (i, x) => (i, a.eval x))[j]? = some q → q.1 = p.1 ∧ ∃ F, VRel tb h hv X w p.2 q.2 F := by
  rw [mapR_eq]
  refine ⟨by simp, fun j c u hc hu => ?_⟩
  rw [List.getElem?_map] at hc
  obtain ⟨x, hx, rfl⟩ := Option.map_eq_some_iff.1 hc
  rw [Array.getElem?_map] at hu
  obtain ⟨x', hx', rfl⟩ := Option.map_eq_some_iff.1 hu
  have : x = x' := by simp at hx; rw [hx] at hx'; injection hx'
  subst this
  exact ⟨rfl, S.rho x.2⟩
theorem evOp_sound (hT : TbOk P tb) (hR : Sound P tb R) (S : Sim tb base w0 n ⟨env, h⟩ a w hv L X) (o : Oper) {K : AV → Heap → Prop} (hK : evOp tb R o env h K) {next : Act → World → Prop} {Q : Exit → Act → World → Prop}
    (hN : Yield tb base w0 n env a K (fun u w' => next (a.put o.dst u) w')) : o.wp P a w next Q := by
  unfold evOp at hK
  split at hK
  · rename_i x ho
    obtain ⟨F, r⟩ := S.rho x
    obtain ⟨F', r'⟩ := r.fixNil (ty := o.type)
    exact wp_value (by simp [execOp, ho]) (hN _ _ _ _ _ _ _ _ hK S r')
  · rename_i x ho
    obtain ⟨F, r⟩ := S.rho x
    obtain ⟨F', r'⟩ := r.fixNil (ty := o.type)
    exact wp_value (by simp [execOp, ho]) (hN _ _ _ _ _ _ _ _ hK S r')
  · rename_i c x y ho
    obtain ⟨F0, r0⟩ := S.rho c
    obtain ⟨F1, r1⟩ := S.rho x
    obtain ⟨F2, r2⟩ := S.rho y
    unfold pickA at hK
    split at hK
    · rename_i b hb
      rw [hb] at r0
      have e := r0.bool_inv
      cases b
      · exact wp_value (by simp [execOp, ho, e, asBool]) (hN _ _ _ _ _ _ _ _ hK S r2)
      · exact wp_value (by simp [execOp, ho, e, asBool]) (hN _ _ _ _ _ _ _ _ hK S r1)
    · exact hK.elim
  · rename_i t ho
    obtain ⟨u, w', k1, k2⟩ := alloc_sound hT S hN hK
    exact wp_value (by simp [execOp, ho, k1]) k2
  · rename_i t x ho
    obtain ⟨F, r⟩ := S.rho x
    obtain ⟨u, w', k1, k2⟩ := box_sound hT S r hN hK
    exact wp_value (by simp [execOp, ho, k1]) k2
  · rename_i t ps ho
    obtain ⟨hl, hr⟩ := S.parts ps
    obtain ⟨v, u, F, k1, k2, k3⟩ := build_sound hT hl hr hK
    exact wp_value (by simp only [execOp, ho]; simp [k2]) (hN _ _ _ _ _ _ _ _ k1 S k3)
  · rename_i t k ps ho
    obtain ⟨hl, hr⟩ := S.parts ps
    obtain ⟨u, w', k1, k2⟩ := buildSlice_sound hT S hl hr hN hK
    exact wp_value (by simp only [execOp, ho]; simp [k1]) k2
  · rename_i t x y ho
    obtain ⟨F1, r1⟩ := S.rho x
    obtain ⟨F2, r2⟩ := S.rho y
    obtain ⟨u, w', k1, k2⟩ := makeSlice_sound hT S r1 r2 hN hK
    exact wp_value (by simp [execOp, ho, k1]) k2
  · rename_i t x ho
    obtain ⟨F, r⟩ := S.rho x
    obtain ⟨v, u, F, k1, k2, k3⟩ := S.load hT r hK
    exact wp_value (by simp [execOp, ho, k2]) (hN _ _ _ _ _ _ _ _ k1 S k3)
  · rename_i t x y ho
    obtain ⟨F1, r1⟩ := S.rho x
    obtain ⟨F2, r2⟩ := S.rho y
    obtain ⟨F3, r3⟩ := r2.fixNil (ty := t)
    obtain ⟨w', k1, k2⟩ := store_sound hT S r1 r3 hN hK
    exact wp_skip (by simp [execOp, ho, k1]) k2
  · rename_i s x f ho
    obtain ⟨F, r⟩ := S.rho x
    obtain ⟨v, u, k1, k2, k3⟩ := fieldAddr_sound (w := w) hT r hK
    exact wp_value (by simp [execOp, ho, k2]) (hN _ _ _ _ _ _ _ _ k1 S k3)
  · rename_i s x f ho
    obtain ⟨F, r⟩ := S.rho x
    obtain ⟨v, u, F, k1, k2, k3⟩ := field_sound (w := w) hT r hK
    exact wp_value (by simp [execOp, ho, k2]) (hN _ _ _ _ _ _ _ _ k1 S k3)
  · rename_i t x i ho
    obtain ⟨F1, r1⟩ := S.rho x
    obtain ⟨F2, r2⟩ := S.rho i
    obtain ⟨v, u, k1, k2, k3⟩ := indexAddr_sound hT S r1 r2 hK
    exact wp_value (by simp [execOp, ho, k2]) (hN _ _ _ _ _ _ _ _ k1 S k3)
  · rename_i t x i ho
    obtain ⟨F1, r1⟩ := S.rho x
    obtain ⟨F2, r2⟩ := S.rho i
    obtain ⟨v, u, F, k1, k2, k3⟩ := index_sound (w := w) hT r1 r2 hK
    exact wp_value (by simp [execOp, ho, k2]) (hN _ _ _ _ _ _ _ _ k1 S k3)
  · rename_i x i ho
    obtain ⟨F, r⟩ := S.rho x
    obtain ⟨v, u, F, k1, k2, k3⟩ := extract_sound (P := P) r hK
    exact wp_value (by simp [execOp, ho, k2]) (hN _ _ _ _ _ _ _ _ k1 S k3)
  · rename_i op t x y yt ho
    obtain ⟨F1, r1⟩ := S.rho x
    obtain ⟨F2, r2⟩ := S.rho y
    obtain ⟨v, u, k1, k2, k3⟩ := bin_sound (w := w) hT r1 r2 hK x y
    refine wp_value (u := u) ?_ (hN _ _ _ _ _ _ _ _ k1 S k3)
    simp only [execOp, ho]
    rw [Sem.run_bind, k2]
    simp
  · rename_i op t x ho
    obtain ⟨F, r⟩ := S.rho x
    obtain ⟨v, u, k1, k2, k3⟩ := un_sound (P := P) r hK
    exact wp_value (by simp [execOp, ho, k2]) (hN _ _ _ _ _ _ _ _ k1 S k3)
  · rename_i t ho
    obtain ⟨u, w', k1, k2⟩ := makeMap_sound (P := P) S hN hK
    exact wp_value (by simp [execOp, ho, k1]) k2
  · rename_i t m k ok ho
    obtain ⟨F1, r1⟩ := S.rho m
    obtain ⟨F2, r2⟩ := S.rho k
    obtain ⟨v, u, k1, k2, k3⟩ := lookup_sound hT S r1 r2 hK
    exact wp_value (by simp [execOp, ho, k2]) (hN _ _ _ _ _ _ _ _ k1 S k3)
  · rename_i t m k v ho
    obtain ⟨F1, r1⟩ := S.rho m
    obtain ⟨F2, r2⟩ := S.rho k
    obtain ⟨F3, r3⟩ := S.rho v
    obtain ⟨w', k1, k2⟩ := mapUpdate_sound hT S r1 r2 r3 hN hK
    exact wp_skip (by simp [execOp, ho, k1]) k2
  · rename_i t m k v ho
    obtain ⟨F1, r1⟩ := S.rho m
    obtain ⟨F2, r2⟩ := S.rho k
    obtain ⟨F3, r3⟩ := S.rho v
    obtain ⟨w', k1, k2⟩ := mapUpdate_sound hT S r1 r2 r3 hN hK
    exact wp_skip (by simp [execOp, ho, k1]) k2
  · rename_i f first caps ho
    split at hK
    · rename_i hf
      obtain ⟨hl, hr⟩ := S.rhos caps
      have hf' : first = #[] := by simpa using hf
      obtain ⟨Fs, hFs⟩ := choose_cells [] (us := (caps.map a.eval).toList) (fun j c u hc hu => hr j c u hc (by simpa using hu))
      have r : VRel tb h hv X w (.fn f (mapR (rho env) caps.toList)) (.func (.func f) #[] (caps.map a.eval)) [] := by
        have := Rel.fn (tb := tb) (lf := Leaf tb h hv) (A := Ok hv w X) (w := w) f (mapR (rho env) caps.toList) (caps.map a.eval).toList Fs (by simpa using hl) hFs
        rwa [Array.toArray_toList] at this
      exact wp_value (by simp [execOp, ho, Instr.makeFunc, hf']) (hN _ _ _ _ _ _ _ _ hK S r)
    · exact hK.elim
  · rename_i c ho
    obtain ⟨hl, hr⟩ := S.rhos c.args
    split at hK
    · rename_i f hc
      obtain ⟨F, r⟩ := S.rho f
      obtain ⟨g, vs', k1, k2⟩ := call_sound hR S r hl hr hN hK
      have hrun : (execOp a.eval o).run P w = .ok (.enter g vs') w := by
        simp only [execOp, ho, Go.resolve, hc]
        exact k1
      unfold Oper.wp
      rw [hrun]
      refine k2.mono fun e w' he => ?_
      obtain ⟨v, rfl, hn⟩ := he
      exact hn
    · rename_i b hc
      have run : ∀ {u : Value} {w' : World}, (builtin b c.argTypes o.type (c.args.map fun | .const _ => true | _ => false) (c.args.map a.eval)).run P w = .ok (.value u) w' → (execOp a.eval o).run P w = .ok (.value u) w' := by
        intro u w' hb
        simp only [execOp, ho, Go.resolve, hc, Sem.run_bind, Sem.run_pure, Result.andThen_ok, invoke]
        exact hb
      unfold builtinA at hK
      split at hK
      · rename_i x hx
        obtain ⟨v, hv1⟩ : ∃ v, c.args.map a.eval = #[v] := by
          rw [hx] at hl
          have : (c.args.map a.eval).size = 1 := hl
          exact ⟨(c.args.map a.eval)[0], by apply Array.ext <;> simp_all⟩
        obtain ⟨F, r⟩ := hr 0 x v (by rw [hx]; rfl) (by rw [hv1]; rfl)
        split at hK
        · split at hK
          · rename_i t ht
            have ht' : c.argTypes = #[t] := by simpa using congrArg List.toArray ht
            obtain ⟨k, k1, k2⟩ := len_sound hT S r hK o.type
            exact wp_value (run (by rw [hv1, ht']; simp [builtin, k2])) (hN _ _ _ _ _ _ _ _ k1 S (.int _ _))
          · exact hK.elim
        · exact hK.elim
      · rename_i x y hx
        obtain ⟨v1, v2, hv1⟩ : ∃ v1 v2, c.args.map a.eval = #[v1, v2] := by
          rw [hx] at hl
          have : (c.args.map a.eval).size = 2 := hl
          exact ⟨(c.args.map a.eval)[0], (c.args.map a.eval)[1], by
            apply Array.ext
            · simpa using this
            · intro i h1 h2
              match i, h2 with
              | 0, _ => rfl
              | 1, _ => rfl⟩
        obtain ⟨F1, r1⟩ := hr 0 x v1 (by rw [hx]; rfl) (by rw [hv1]; rfl)
        obtain ⟨F2, r2⟩ := hr 1 y v2 (by rw [hx]; rfl) (by rw [hv1]; rfl)
        split at hK
        · split at hK
          · split at hK
            · rename_i t t' ht _ hb
              have hb := Nat.eq_of_beq_eq_true hb
              have ht' : c.argTypes = #[t, t] := by rw [← hb] at ht; simpa using congrArg List.toArray ht
              obtain ⟨u, w', k1, k2⟩ := appendA_sound hT S r1 r2 (ty := o.type) hN hK
              exact wp_value (run (by rw [hv1, ht']; simp [builtin, k1])) k2
            · exact hK.elim
          · exact hK.elim
        · obtain ⟨v, u, k1, k2, k3⟩ := max2_sound (P := P) r1 r2 hK c.argTypes o.type
          exact wp_value (run (by rw [hv1]; simp [builtin, k2])) (hN _ _ _ _ _ _ _ _ k1 S k3)
        · obtain ⟨v, u, k1, k2, k3⟩ := min2_sound (P := P) r1 r2 hK c.argTypes o.type
          exact wp_value (run (by rw [hv1]; simp [builtin, k2])) (hN _ _ _ _ _ _ _ _ k1 S k3)
        · exact hK.elim
      · exact hK.elim
    · exact hK.elim
  · exact hK.elim
end
end Go.Ev
namespace Go.Ev
set_option linter.unusedVariables false
set_option linter.unusedSimpArgs false
open Go.RowKit

section
variable {P : Program} {tb : Nat → Ti} {R : Nat → List AV → AV → Prop} {base n : Nat} {w0 : World} {s : St} {a : Act} {w : World} {hv : Nat → Value} {L : Nat → Option Lb} {X : Nat → Prop}
/-- the plain state stands for the frame and the memory -/
def Stands (tb : Nat → Ti) (base : Nat) (w0 : World) (n : Nat) (s : St) (a : Act) (w : World) : Prop := ∃ hv L X, Sim tb base w0 n s a w hv L X
def dstOk (n : Nat) (o : Oper) : Bool := match o.dst with | some t => Nat.blt t n | none => true
theorem tmps_get {a : Act} {d : Nat} {b : Bool} (h : a.tmps.getD d undef = .bool b) : a.tmps[d]? = some (.bool b) := by
  rw [Array.getD_eq_getD_getElem?] at h
  cases e : a.tmps[d]? with
  | none => rw [e] at h; cases h
  | some v => rw [e] at h; simpa using h
/-- one operation, its guard looked at -/
theorem aop_sound (hT : TbOk P tb) (hR : Sound P tb R) (ops : Array Oper) (o : Oper) (hd : dstOk n o = true) (S : Stands tb base w0 n s a w) {K : St → Prop} (hK : aop tb R ops.toList o s K) {next : Act → World → Prop} {Q : Exit → Act → World → Prop}
    (hN : ∀ s' a' w', K s' → Stands tb base w0 n s' a' w' → next a' w') : if Region.wanted o (yielded ops a.tmps) then o.wp P a w next Q else next (a.put o.dst undef) w := by
  obtain ⟨hv, L, X, S⟩ := S
  have hd' : ∀ t, o.dst = some t → t < n := by
    intro t ht
    unfold dstOk at hd
    rw [ht] at hd
    exact Nat.blt_eq ▸ hd
  have exec : ∀ {K' : AV → Heap → Prop}, evOp tb R o s.env s.heap K' → (∀ v h, K' v h → K (St.put ⟨s.env, h⟩ o.dst v)) → o.wp P a w next Q := by
    intro K' hK' himp
    refine evOp_sound hT hR (env := s.env) (h := s.heap) S o hK' fun v h u w' hv' L' X' F hk hS r => ?_
    exact hN _ _ _ (himp v h hk) ⟨_, _, _, hS.put o.dst hd' r⟩
  have skip : K (s.put o.dst .undef) → next (a.put o.dst undef) w := fun hk => hN _ _ _ hk ⟨_, _, _, S.put o.dst hd' .undef⟩
  unfold aop at hK
  split at hK
  · rename_i hg
    rw [if_pos (by simp [Region.wanted, hg])]
    exact exec hK fun v h hk => hk
  · rename_i j want hg
    rw [nth_eq] at hK
    split at hK
    · rename_i d hdj
      have hdj' : (ops[j]?).bind (·.dst) = some d := by simpa using hdj
      split at hK
      · rename_i b hb
        obtain ⟨F, r⟩ := S.vals d
        rw [hb] at r
        have hy : yielded ops a.tmps j = some b := by simp [yielded, hdj', tmps_get r.bool_inv]
        have hw : Region.wanted o (yielded ops a.tmps) = (b == want) := by simp [Region.wanted, hg, hy]
        rw [hw]
        split at hK
        · cases b
          · exact skip hK
          · exact exec (K' := fun v h => K (St.put ⟨s.env, h⟩ o.dst v)) hK fun v h hk => hk
        · cases b
          · exact exec (K' := fun v h => K (St.put ⟨s.env, h⟩ o.dst v)) hK fun v h hk => hk
          · exact skip hK
      · rename_i hb
        obtain ⟨F, r⟩ := S.vals d
        rw [hb] at r
        have hu := r.undef_inv
        have hy : yielded ops a.tmps j = none := by
          rw [Array.getD_eq_getD_getElem?] at hu
          simp only [yielded, hdj', Option.bind_some]
          cases e : a.tmps[d]? with
          | none => rfl
          | some v => rw [e] at hu; simp at hu; subst hu; rfl
        rw [if_neg (by simp [Region.wanted, hg, hy])]
        exact skip hK
      · exact hK.elim
    · exact hK.elim
theorem aops_sound (hT : TbOk P tb) (hR : Sound P tb R) (ops : Array Oper) {Q : Exit → Act → World → Prop} {K : St → Prop} (hN : ∀ s' a' w', K s' → Stands tb base w0 n s' a' w' → Q .normal a' w') : ∀ (l : List Oper), (∀ o ∈ l, dstOk n o = true) → ∀ (s : St) (a : Act) (w : World), Stands tb base w0 n s a w → aops tb R ops.toList l K s → wpList P ops Q l a w
  | [], _, s, a, w, S, hK => hN s a w hK S
  | o :: l, hd, s, a, w, S, hK => by
    have hK' : aop tb R ops.toList o s (aops tb R ops.toList l K) := hK
    have := aop_sound hT hR ops o (hd o List.mem_cons_self) S hK' (next := wpList P ops Q l) (Q := Q) (fun s' a' w' hk hS => aops_sound hT hR ops hN l (fun o ho => hd o (List.mem_cons_of_mem _ ho)) s' a' w' hS hk)
    unfold wpList
    split
    · rename_i hw; rw [if_pos hw] at this; exact .inl this
    · rename_i hw; rw [if_neg hw] at this; exact this
theorem least {p : Nat → Prop} (h : ∃ k, p k) : ∃ k, p k ∧ ∀ j, p j → k ≤ j := by
  obtain ⟨k, hk⟩ := h
  induction k using Nat.strongRecOn with
  | _ k ih =>
    by_cases hj : ∃ j, j < k ∧ p j
    · obtain ⟨j, hj, hp⟩ := hj
      exact ih j hj hp
    · exact ⟨k, hk, fun j hp => Nat.le_of_not_lt fun hlt => hj ⟨j, hlt, hp⟩⟩
open Classical in
noncomputable def leastOf (p : Nat → Prop) : Nat := if h : ∃ k, p k then Classical.choose (least h) else 0
theorem leastOf_spec {p : Nat → Prop} (h : ∃ k, p k) : p (leastOf p) := by unfold leastOf; rw [dif_pos h]; exact (Classical.choose_spec (least h)).1
theorem leastOf_le {p : Nat → Prop} {k : Nat} (h : p k) : leastOf p ≤ k := by unfold leastOf; rw [dif_pos ⟨k, h⟩]; exact (Classical.choose_spec (least ⟨k, h⟩)).2 k h
/-- what the plain reading promises holds -/
def QOk (tb : Nat → Ti) (base : Nat) (w0 : World) (n : Nat) (Q : Exit → St → Prop) (Q' : Exit → Act → World → Prop) : Prop := ∀ e s a w, Q e s → Stands tb base w0 n s a w → Q' e a w
end
end Go.Ev
namespace Go.Ev
set_option linter.unusedVariables false
set_option linter.unusedSimpArgs false
open Go.RowKit

section
variable {P : Program} {tb : Nat → Ti} {R : Nat → List AV → AV → Prop} {base n : Nat} {w0 : World} {env : Nat → AV} {h h' h2 : Heap} {a : Act} {w w' : World} {hv hv' hv2 : Nat → Value} {L L' L2 : Nat → Option Lb} {X : Nat → Prop}
/-- a result that goes out as it is -/
theorem res1_of {c : AV} {u : Value} {F : List Nat} {A : Nat → Prop} (r : Rel tb noLeaf (fun k => A k ∧ k ∈ F) w c u F) (hc : resOk tb c = true) : Res1 tb w c u F := by
  cases r with
  | int k i => exact ⟨rfl, rfl⟩
  | bool b => exact ⟨rfl, rfl⟩
  | str s => exact ⟨rfl, rfl⟩
  | own e m cs v us Fs F ho hl hA h1 hr hF hN =>
    refine ⟨us, Fs, ho, ⟨hl, ?_⟩, h1, fun j c u hc hu => (hr j c u hc hu).imp (fun _ _ h => h) (fun g hg => hg.2) (fun _ _ => rfl), hF⟩
    have : Nat.blt 0 (tb e).sz = true := hc
    have h0 : 0 < (tb e).sz := Nat.blt_eq ▸ this
    omega
  | leaf h => exact h.elim
  | _ => simp [resOk] at hc
theorem resOks_cons {c : AV} {cs : List AV} (h : resOks tb (c :: cs) = true) : resOk tb c = true ∧ resOks tb cs = true := by
  have h' : (bif resOk tb c then resOks tb cs else false) = true := h
  cases hc : resOk tb c with
  | false => rw [hc] at h'; cases h'
  | true => rw [hc] at h'; exact ⟨rfl, h'⟩
/-- what was set down carries labels from 'k0' on -/
def Marked (base : Nat) (L : Nat → Option Lb) (k0 k1 : Nat) (F : List Nat) : Prop := F.Nodup ∧ ∀ g ∈ F, base ≤ g ∧ ∃ k, k0 ≤ k ∧ k < k1 ∧ L g = some (.pend k)
theorem Marked.append {k0 k1 k2 : Nat} {F G : List Nat} (h1 : Marked base L k0 k1 F) (h2 : Marked base L k1 k2 G) (h01 : k0 ≤ k1) (h12 : k1 ≤ k2) : Marked base L k0 k2 (F ++ G) := by
  refine ⟨List.nodup_append.2 ⟨h1.1, h2.1, ?_⟩, fun g hg => ?_⟩
  · rintro x hx y hy rfl
    obtain ⟨_, k, _, q1, q2⟩ := h1.2 x hx
    obtain ⟨_, k', q3, _, q4⟩ := h2.2 x hy
    rw [q2] at q4
    injection q4 with q4
    injection q4 with q4
    omega
  · rcases List.mem_append.1 hg with hg | hg
    · obtain ⟨b, k, q0, q1, q2⟩ := h1.2 g hg
      exact ⟨b, k, q0, by omega, q2⟩
    · obtain ⟨b, k, q0, q1, q2⟩ := h2.2 g hg
      exact ⟨b, k, by omega, q1, q2⟩
theorem Marked.step {k0 k1 : Nat} {F : List Nat} (h1 : Marked base L k0 k1 F) (ks : KillStep tb w X h h' hv hv' L L') : Marked base L' k0 k1 F :=
  ⟨h1.1, fun g hg => by
    obtain ⟨b, k, q0, q1, q2⟩ := h1.2 g hg
    exact ⟨b, k, q0, q1, ks.lab g k q2⟩⟩
theorem resL_of : ∀ (cs : List AV) (us : List Value) (k0 : Nat), RowCells tb base hv L X w false (fun j => .pend (k0 + j)) cs us → resOks tb cs = true → ∃ F, ResL (Res1 tb w) cs us F ∧ Marked base L k0 (k0 + cs.length) F
  | [], [], k0, _, _ => ⟨[], rfl, List.nodup_nil, fun g hg => by simp at hg⟩
  | c :: cs, u :: us, k0, hC, ho => by
    obtain ⟨h1, h2⟩ := resOks_cons ho
    obtain ⟨F0, r, hN, hL⟩ := hC.2.2 0 c u rfl rfl
    obtain ⟨F1, q1, q2⟩ := resL_of cs us (k0 + 1) ⟨by simpa using hC.1, fun u hu => hC.2.1 u (List.mem_cons_of_mem _ hu), fun j c' u' hc hu => by
      obtain ⟨F, r, hN, hL⟩ := hC.2.2 (j + 1) c' u' (by simpa using hc) (by simpa using hu)
      exact ⟨F, r, hN, fun k hk => by have := hL k hk; simp only at this; show L k = some (.pend (k0 + 1 + j)) ∧ base ≤ k; rw [show k0 + 1 + j = k0 + (j + 1) by omega]; exact this⟩⟩ h2
    refine ⟨F0 ++ F1, ⟨F0, F1, rfl, res1_of (A := fun k => Ok hv w X k) (r.imp (fun _ _ h => h) (fun k hk => ⟨hk.1, hk.2 rfl⟩) (fun _ _ => rfl)) h1, q1⟩, ?_⟩
    have m1 : Marked base L k0 (k0 + 1) F0 := ⟨hN, fun g hg => ⟨(hL g hg).2, k0, Nat.le_refl _, by omega, (hL g hg).1⟩⟩
    have := m1.append q2 (by omega) (by omega)
    rwa [show k0 + 1 + cs.length = k0 + (c :: cs).length by simp; omega] at this
  | [], _ :: _, _, hC, _ => by have := hC.1; simp at this
  | _ :: _, [], _, hC, _ => by have := hC.1; simp at this
theorem resolve_sound (S : Sim tb base w0 n ⟨env, h⟩ a w hv L X) {v : AV} {u : Value} {F : List Nat} (r : VRel tb h hv X w v u F) {K : AV → Heap → Prop} (hK : resolve tb v h K) (k0 : Nat) :
    ∃ c h' hv' L' F' k1, K c h' ∧ Sim tb base w0 n ⟨env, h'⟩ a w hv' L' X ∧ Res2 tb w c u F' ∧ Marked base L' k0 k1 F' ∧ k0 ≤ k1 ∧ KillStep tb w X h h' hv hv' L L' := by
  unfold resolve at hK
  split at hK
  · obtain ⟨us, rfl, hl, h1, h2⟩ := agg_inv r
    obtain ⟨cs', h', hv', L', q1, q2, q3, q4, q5⟩ := absorb_sound _ us h hv L k0 S hl h2 hK
    split at q1
    · rename_i ho
      rw [q4 rfl] at q3
      obtain ⟨F', m1, m2⟩ := resL_of cs' us k0 q3 ho
      exact ⟨_, h', hv', L', F', _, q1, q2, ⟨us, rfl, m1⟩, m2, by omega, q5⟩
    · exact q1.elim
  · rename_i hne
    obtain ⟨c, h', hv', L', q1, q2, ⟨F', q3, q4, q5⟩, q6, q7, q8⟩ := absorb1_sound S r hK k0
    split at q1
    · rename_i ho
      have hr1 := res1_of (A := fun k => Ok hv' w X k) (q3.imp (fun _ _ h => h) (fun k hk => ⟨hk.1, hk.2 (q7 rfl)⟩) (fun _ _ => rfl)) ho
      refine ⟨c, h', hv', L', F', k0 + 1, q1, q2, ?_, ⟨q4, fun g hg => ⟨(q5 g hg).2, k0, Nat.le_refl _, by omega, (q5 g hg).1⟩⟩, by omega, q8⟩
      cases c <;> first | exact hr1 | exact hr1.elim
    · exact q1.elim
theorem resVals_sound (hT : TbOk P tb) : ∀ (l : List ResultVar) (h : Heap) (hv : Nat → Value) (L : Nat → Option Lb) (k0 : Nat), Sim tb base w0 n ⟨env, h⟩ a w hv L X → ∀ {K : List AV → Heap → Prop}, resVals tb env l h K →
    ∃ vs us h' hv' L' F k1, K vs h' ∧ (l.mapM (fun (v : ResultVar) => match v with | .tmp t => (pure (a.tmps.getD t undef) : Sem Value) | .cell b t => do loadVar t (← asAddr (a.tmps.getD b undef)))).run P w = .ok us w ∧ us.length = vs.length ∧
      ResL (Res2 tb w) vs us F ∧ Marked base L' k0 k1 F ∧ k0 ≤ k1 ∧ KillStep tb w X h h' hv hv' L L'
  | [], h, hv, L, k0, S, K, hK => ⟨[], [], h, hv, L, [], k0, hK, rfl, rfl, rfl, ⟨List.nodup_nil, fun g hg => by simp at hg⟩, Nat.le_refl _, .refl⟩
  | v :: l, h, hv, L, k0, S, K, hK => by
    have hK' : resVal1 tb env v h fun v h => resVals tb env l h fun vs h => K (v :: vs) h := hK
    have key : ∀ (x : AV) (u : Value) (F : List Nat), VRel tb h hv X w x u F → resolve tb x h (fun v h => resVals tb env l h fun vs h => K (v :: vs) h) →
        (match v with | .tmp t => (pure (a.tmps.getD t undef) : Sem Value) | .cell b t => do loadVar t (← asAddr (a.tmps.getD b undef))).run P w = .ok u w →
        ∃ vs us h' hv' L' F k1, K vs h' ∧ ((v :: l).mapM (fun (v : ResultVar) => match v with | .tmp t => (pure (a.tmps.getD t undef) : Sem Value) | .cell b t => do loadVar t (← asAddr (a.tmps.getD b undef)))).run P w = .ok us w ∧ us.length = vs.length ∧
          ResL (Res2 tb w) vs us F ∧ Marked base L' k0 k1 F ∧ k0 ≤ k1 ∧ KillStep tb w X h h' hv hv' L L' := by
      intro x u F r hk hrun
      obtain ⟨c, h1, hv1, L1, F1, k1, p1, S1, p2, p3, p4, p5⟩ := resolve_sound S r hk k0
      obtain ⟨vs, us, h2, hv2, L2, F2, k2, q1, q2, q3, q4, q5, q6, q7⟩ := resVals_sound hT l h1 hv1 L1 k1 S1 p1
      refine ⟨c :: vs, u :: us, h2, hv2, L2, F1 ++ F2, k2, q1, ?_, by simp [q3], ⟨F1, F2, rfl, p2, q4⟩, (p3.step q7).append q5 p4 q6, by omega, p5.trans q7⟩
      rw [List.mapM_cons, Sem.run_bind, hrun]
      simp only [Result.andThen_ok, Sem.run_bind, q2, Sem.run_pure]
    unfold resVal1 at hK'
    split at hK'
    · rename_i t
      obtain ⟨F, r⟩ := S.vals t
      exact key _ _ F r hK' rfl
    · rename_i b t
      obtain ⟨F, r⟩ := S.vals b
      obtain ⟨y, u, F', k1, k2, k3⟩ := S.load hT r hK'
      refine key y u F' k3 k1 ?_
      cases hv : a.tmps.getD b undef with
      | pointer ad =>
        cases ad with
        | some ad =>
          have hv' : a.tmps.getD b undef = .pointer (some ad) := hv
          rw [hv'] at k2
          show (do loadVar t (← asAddr (a.tmps.getD b undef)) : Sem Value).run P w = _
          rw [hv', Sem.run_bind]
          simpa [asAddr, Instr.loadAt, Instr.sureAddr] using k2
        | none => rw [show a.tmps.getD b undef = .pointer none from hv] at k2; simp [Instr.loadAt, Instr.sureAddr, stuck] at k2
      | _ =>
        exfalso
        simp only [hv] at k2
        simp [Instr.loadAt, Instr.sureAddr, stuck] at k2
theorem Rel.flt {lf : AV → Value → Prop} {A : Nat → Prop} {a : AV} {v : Value} {F : List Nat} (h : Rel tb lf A w a v F) : ∀ g ∈ F, g < w.heap.size := by
  induction h with
  | own e n cs v us Fs F ho hl hA h1 hr hF hN ih =>
    subst hF
    intro g hg
    rcases List.mem_append.1 hg with hg | hg
    · exact (ho.lt g (by simpa using hg)).2
    · obtain ⟨j, hj, hg⟩ := List.mem_flatMap.1 hg
      have hj := List.mem_range.1 hj
      exact ih j cs[j] (us[j]'(by omega)) (by simp [hj]) (by simp) g hg
  | agg cs us Fs F hl h1 hr hF hN ih =>
    subst hF
    intro g hg
    obtain ⟨j, hj, hg⟩ := List.mem_flatMap.1 hg
    have hj := List.mem_range.1 hj
    exact ih j cs[j] (us[j]'(by omega)) (by simp [hj]) (by simp) g hg
  | tup cs us Fs F hl hr hF hN ih =>
    subst hF
    intro g hg
    obtain ⟨j, hj, hg⟩ := List.mem_flatMap.1 hg
    have hj := List.mem_range.1 hj
    exact ih j cs[j] (us[j]'(by omega)) (by simp [hj]) (by simp) g hg
  | _ => intro g hg; simp at hg
theorem res1_lt {c : AV} {u : Value} {F : List Nat} (h : Res1 tb w c u F) : ∀ g ∈ F, g < w.heap.size := by
  unfold Res1 at h
  split at h
  · obtain ⟨_, rfl⟩ := h; intro g hg; simp at hg
  · obtain ⟨_, rfl⟩ := h; intro g hg; simp at hg
  · obtain ⟨_, rfl⟩ := h; intro g hg; simp at hg
  · rename_i e m cs
    obtain ⟨us, Fs, ho, hl, h1, hr, rfl⟩ := h
    intro g hg
    rcases List.mem_append.1 hg with hg | hg
    · exact (ho.lt g (by simpa using hg)).2
    · obtain ⟨j, hj, hg⟩ := List.mem_flatMap.1 hg
      have hj := List.mem_range.1 hj
      exact (hr j cs[j] (us[j]'(by omega)) (by simp [hj]) (by simp)).flt g hg
  · exact h.elim
theorem resL_lt {R : AV → Value → List Nat → Prop} (hR : ∀ c u F, R c u F → ∀ g ∈ F, g < w.heap.size) : ∀ (cs : List AV) (us : List Value) (F : List Nat), ResL R cs us F → ∀ g ∈ F, g < w.heap.size
  | [], [], F, h, g, hg => by have hF : F = [] := h; subst hF; simp at hg
  | c :: cs, u :: us, F, h, g, hg => by
    obtain ⟨F0, F1, rfl, h0, h1⟩ := h
    rcases List.mem_append.1 hg with hg | hg
    · exact hR c u F0 h0 g hg
    · exact resL_lt hR cs us F1 h1 g hg
  | [], _ :: _, F, h, _, _ => h.elim
  | _ :: _, [], F, h, _, _ => h.elim
theorem res2_lt {c : AV} {u : Value} {F : List Nat} (h : Res2 tb w c u F) : ∀ g ∈ F, g < w.heap.size := by
  unfold Res2 at h
  split at h
  · obtain ⟨us, _, h⟩ := h
    exact resL_lt (fun c u F h => res1_lt h) _ _ _ h
  · exact res1_lt h
theorem results_eq (fn : Func) (tmps : Array Value) : results fn tmps = (do
    let vs ← fn.results.mapM fun (v : ResultVar) => (match v with | .tmp t => (pure (tmps.getD t undef) : Sem Value) | .cell b t => do loadVar t (← asAddr (tmps.getD b undef)))
    pure (if h : vs.size = 1 then vs[0] else .tuple vs)) := by
  unfold results
  congr 1
theorem body_post (hT : TbOk P tb) {fn : Func} {r : AV} {Rp : Ending → World → Prop} (hRp : ∀ v w' F, Res3 tb w' r v F → F.Nodup → (∀ g ∈ F, base ≤ g ∧ g < w'.heap.size) → Below base w0 w' → Rp (.returned v) w') : QOk tb base w0 n (bodyQ fn tb r) (bodyPost P fn Rp) := by
  have key : ∀ (s : St) (a : Act) (w : World), resVals tb s.env fn.results.toList s.heap (fun vs _ => oneOr vs = r) → Stands tb base w0 n s a w → a.defers = [] ∧ ∃ v, (results fn a.tmps).run P w = .ok v w ∧ Rp (.returned v) w := by
    intro s a w hq hS
    obtain ⟨hv, L, X, S⟩ := hS
    obtain ⟨vs, us, h', hv', L', F, k1, q1, q2, q3, q4, q5, _, _⟩ := resVals_sound (a := a) (P := P) (env := s.env) hT fn.results.toList s.heap hv L 0 S hq
    have hlt : ∀ g ∈ F, base ≤ g ∧ g < w.heap.size := by
      intro g hg
      refine ⟨(q5.2 g hg).1, ?_⟩
      exact resL_lt (fun c u F h => res2_lt h) _ _ _ q4 g hg
    refine ⟨S.defers, (if h : us.toArray.size = 1 then us.toArray[0] else .tuple us.toArray), ?_, ?_⟩
    · rw [results_eq, Sem.run_bind]
      have : (fn.results.mapM fun (v : ResultVar) => (match v with | .tmp t => (pure (a.tmps.getD t undef) : Sem Value) | .cell b t => do loadVar t (← asAddr (a.tmps.getD b undef)))).run P w = .ok us.toArray w := by
        rw [Array.mapM_eq_mapM_toList, Sem.run_map, q2]
        rfl
      rw [this]
      rfl
    · refine hRp _ _ F ?_ q5.1 hlt S.below
      rw [← q1]
      match vs, us, q3, q4 with
      | [c], [u], _, q4 =>
        obtain ⟨F0, F1, rfl, h0, h1⟩ := q4
        have h1 : F1 = [] := h1
        subst h1
        rw [List.append_nil]
        show Res3 tb w c u F0
        cases c <;> first | exact h0 | exact h0.elim
      | [], [], _, q4 => exact ⟨[], rfl, q4⟩
      | c :: c' :: cs, u :: u' :: us, _, q4 =>
        have hne : ¬ (u :: u' :: us).toArray.size = 1 := by simp
        rw [dif_neg hne]
        exact ⟨_, rfl, q4⟩
      | [c], u :: u' :: us, h, _ => simp at h
      | c :: c' :: cs, [u], h, _ => simp at h
      | [], _ :: _, h, _ => simp at h
      | _ :: _, [], h, _ => simp at h
  intro e s a w hq hS
  cases e with
  | normal => exact key s a w hq hS
  | ret => exact key s a w hq hS
  | _ => exact hq.elim
end
end Go.Ev
namespace Go.Ev
set_option linter.unusedVariables false
set_option linter.unusedSimpArgs false
open Go.RowKit

section
variable {P : Program} {tb : Nat → Ti} {R : Nat → List AV → AV → Prop} {base n : Nat} {w0 : World} {n0 : Nat} {s : St} {env : Nat → AV} {h h' h2 : Heap} {a : Act} {w w' : World} {hv hv' hv2 : Nat → Value} {L L' L2 : Nat → Option Lb} {X : Nat → Prop}
theorem Src.eq_iff {a b : Src} (h : a.eq b = true) : a = b := by
  cases a <;> cases b <;> simp [Src.eq] at h <;> simp_all
theorem Src.eq_refl (a : Src) : a.eq a = true := by cases a <;> simp [Src.eq]
theorem memS_pos : ∀ {l : List Src} {x : Src}, memS x l = true → l[posS x l]? = some x
  | [], _, h => by cases h
  | y :: l, x, h => by
    have h' : (bif x.eq y then true else memS x l) = true := h
    show (y :: l)[(bif x.eq y then 0 else posS x l + 1)]? = some x
    cases he : x.eq y with
    | true => simp [Src.eq_iff he]
    | false =>
      rw [he] at h'
      simpa using memS_pos h'
theorem memS_of_get : ∀ {l : List Src} {k : Nat} {x : Src}, l[k]? = some x → memS x l = true
  | [], _, _, h => by simp at h
  | y :: l, k, x, h => by
    show (bif x.eq y then true else memS x l) = true
    cases he : x.eq y with
    | true => rfl
    | false =>
      cases k with
      | zero => simp at h; subst h; rw [Src.eq_refl] at he; cases he
      | succ k => exact memS_of_get (by simpa using h)
theorem mapI_get {α β : Type} (f : Nat → α → β) : ∀ (l : List α) (k i : Nat), (mapI f l k)[i]? = (l[i]?).map (f (k + i))
  | [], _, _ => by simp [mapI]
  | a :: l, k, i => by
    show (f k a :: mapI f l (k + 1))[i]? = _
    cases i with
    | zero => simp
    | succ i => simp [mapI_get f l (k + 1) i, show k + 1 + i = k + (i + 1) by omega]
theorem renC_get (ids : List Src) (id : Nat) : ∀ (cs : List AV) (k i : Nat), (renC tb h ids id cs k)[i]? = (cs[i]?).map (renAt tb h ids (.nilB id (k + i)))
  | [], _, _ => by simp [renC]
  | a :: l, k, i => by
    show (renAt tb h ids (.nilB id k) a :: renC tb h ids id l (k + 1))[i]? = _
    cases i with
    | zero => simp
    | succ i => simp [renC_get ids id l (k + 1) i, show k + 1 + i = k + (i + 1) by omega]
theorem renC_len (ids : List Src) (id : Nat) : ∀ (cs : List AV) (k : Nat), (renC tb h ids id cs k).length = cs.length
  | [], _ => rfl
  | a :: l, k => by
    show (renAt tb h ids (.nilB id k) a :: renC tb h ids id l (k + 1)).length = _
    simp [renC_len ids id l (k + 1)]
theorem asl_get (f : Nat → AV) : ∀ (lv : List Nat) (i : Nat), asl (mapR (fun t => (t, f t)) lv) i = f i ∨ asl (mapR (fun t => (t, f t)) lv) i = .junk
  | [], _ => .inr rfl
  | t :: lv, i => by
    show (bif Nat.beq i t then f t else asl (mapR (fun t => (t, f t)) lv) i) = f i ∨ (bif Nat.beq i t then f t else asl (mapR (fun t => (t, f t)) lv) i) = .junk
    cases hb : Nat.beq i t with
    | true => left; rw [Nat.eq_of_beq_eq_true hb]; rfl
    | false => exact asl_get f lv i
/-- the memory behind the new numbers -/
noncomputable def hvN (s : St) (ids : List Src) (hv : Nat → Value) (k : Nat) : Value := match ids[k]? with
  | some (.old id) => if posS (.old id) ids = k then (match s.heap id with | some .dead => .nilFunc | none => .nilFunc | _ => hv id) else .nilFunc
  | some x => if posS x ids = k then .slice none 0 0 else .nilFunc
  | none => .nilFunc
noncomputable def LN (ids : List Src) (L : Nat → Option Lb) (g : Nat) : Option Lb := match L g with
  | some (.own id j) => if memS (.old id) ids = true then some (.own (posS (.old id) ids) j) else none
  | l => l
theorem hvN_blk {s : St} {ids : List Src} {k g : Nat} (h : blkOf (hvN s ids hv k) = some g) : ∃ id, ids[k]? = some (.old id) ∧ posS (.old id) ids = k ∧ blkOf (hv id) = some g := by
  unfold hvN at h
  split at h
  · rename_i id hid
    split at h
    · rename_i hp
      split at h
      · cases h
      · cases h
      · exact ⟨id, hid, hp, h⟩
    · cases h
  · split at h <;> cases h
  · cases h
theorem lenN_mul {len sz : Nat} (h : sz ≠ 0) : lenN (len * sz) sz = len := by
  unfold lenN
  split
  · simp
  · exact Nat.mul_div_cancel len (Nat.pos_of_ne_zero h)
theorem owns_one {b e z m : Nat} {u : Value} {us : List Value} (ho : w.ownsRow b e z u m us) : u.oneCell' = true := by
  rcases ho.2 with q | ⟨g, cap, cur, q, _⟩
  · rw [q.1]; rfl
  · rw [q]; rfl
theorem Stands.canon (S : Stands tb base w0 n s a w) (lv : List Nat) : Stands tb base w0 n (Ev.canon tb lv s) a w := by
  obtain ⟨hv, L, X, S⟩ := S
  unfold Ev.canon
  generalize idsB s.heap (idsB s.heap (collect lv s) (collect lv s)) (idsB s.heap (collect lv s) (collect lv s)) = ids
  have heap' : ∀ k, (rename tb lv ids s).heap k = (ids[k]?).map (renK tb s ids k) := fun k => by
    show hp (mapI (renK tb s ids) ids 0) k = _
    unfold hp
    rw [nth_eq, mapI_get, Nat.zero_add]
  have okA : ∀ g, Ok hv w X g → Ok (hvN s ids hv) w X g := fun g hg => ⟨hg.1, fun k hk => by
    obtain ⟨id, _, _, hb⟩ := hvN_blk hk
    exact hg.2.1 id hb, hg.2.2⟩
  have hold : ∀ id b, memS (.old id) ids = true → s.heap id = some b → b ≠ .dead → (rename tb lv ids s).heap (posS (.old id) ids) = some (renB tb s ids (.old id)) ∧ hvN s ids hv (posS (.old id) ids) = hv id := by
    intro id b hm hb hd
    have hp := memS_pos hm
    refine ⟨by rw [heap', hp]; simp [renK, Nat.beq_refl], ?_⟩
    unfold hvN
    rw [hp]
    simp only [if_true, hb]
    cases b <;> first | rfl | exact absurd rfl hd
  have hnil : ∀ x, (∀ id, x ≠ .old id) → memS x ids = true → (rename tb lv ids s).heap (posS x ids) = some (renB tb s ids x) ∧ hvN s ids hv (posS x ids) = .slice none 0 0 := by
    intro x hx hm
    have hp := memS_pos hm
    refine ⟨by rw [heap', hp]; simp [renK, Nat.beq_refl], ?_⟩
    unfold hvN
    rw [hp]
    cases x with
    | old id => exact absurd rfl (hx id)
    | nilT t => simp
    | nilB id j => simp
  have refR : ∀ (v : AV) (u : Value) (F : List Nat), VRel tb s.heap hv X w v u F → VRel tb (rename tb lv ids s).heap (hvN s ids hv) X w (renRef tb s.heap ids v) u [] := by
    intro v u F r
    have up : ∀ {c : AV} {u : Value} {F : List Nat}, Rel tb noLeaf (Ok hv w X) w c u F → Rel tb noLeaf (Ok (hvN s ids hv) w X) w c u F := fun r => r.imp (fun _ _ h => h) okA (fun _ _ => rfl)
    cases r with
    | junk v => exact .junk _
    | undef => exact .undef
    | int k n => exact .int _ _
    | bool b => exact .bool _
    | str s => exact .str _
    | nils e => exact .nils _
    | leaf hl =>
      cases v with
      | ref id gen full off len =>
        simp only [renRef]
        split
        · rename_i e g b cs hid
          split
          · rename_i hb
            simp only [Bool.and_eq_true] at hb
            have hg := Nat.eq_of_beq_eq_true hb.1
            subst hg
            obtain ⟨q1, q2⟩ := hold id _ hb.2 hid (by simp)
            obtain ⟨b1, e1, e0, e2⟩ := hl
            rw [hid] at e1
            injection e1 with e1
            obtain ⟨_, e3⟩ := e2 _ _ _ _ e1.symm
            have hsz : (tb e).sz ≠ 0 := by
              obtain ⟨m, us, _, hl, _⟩ := S.blks id _ hid
              exact hl.2
            cases full with
            | true =>
              have hlen : lenN cs.length (tb e).sz = len ∧ off = 0 := by
                obtain ⟨A, cap, N, CAP, _, _, _, h7, _⟩ := e3 rfl
                obtain ⟨h8, _, h9⟩ := h7 rfl
                exact ⟨by rw [← h9]; exact lenN_mul hsz, h8⟩
              obtain ⟨hlen, rfl⟩ := hlen
              show VRel tb (rename tb lv ids s).heap (hvN s ids hv) X w (.ref (posS (.old id) ids) 0 true 0 (lenN cs.length (tb e).sz)) u []
              rw [hlen]
              refine .leaf ⟨_, q1, e0, fun e' g' bb' cs' hb' => ?_⟩
              simp only [renB, hid] at hb'
              injection hb' with w1 w2 w3 w4
              subst w1 w2 w3 w4
              refine ⟨Nat.le_refl _, fun _ => ?_⟩
              rw [q2]
              exact e3 rfl
            | false =>
              refine .leaf ⟨_, q1, e0, fun e' g' bb' cs' hb' => ?_⟩
              simp only [renB, hid] at hb'
              injection hb' with w1 w2 w3 w4
              subst w1 w2 w3 w4
              refine ⟨Nat.le_refl _, fun _ => ?_⟩
              rw [q2]
              exact e3 rfl
          · exact .junk _
        · exact .junk _
      | ptr id off =>
        simp only [renRef]
        split
        · rename_i t cs hid
          split
          · rename_i hb
            obtain ⟨q1, q2⟩ := hold id _ hb hid (by simp)
            obtain ⟨t1, cs1, g, e1, e2, e3⟩ := hl
            simp only [renB, hid] at q1
            exact .leaf ⟨_, _, g, q1, q2.trans e2, e3⟩
          · exact .junk _
        · exact .junk _
      | map id =>
        simp only [renRef]
        split
        · rename_i t es hid
          split
          · rename_i hb
            obtain ⟨q1, q2⟩ := hold id _ hb hid (by simp)
            obtain ⟨t1, cs1, g, e1, e2, e3⟩ := hl
            simp only [renB, hid] at q1
            exact .leaf ⟨_, _, g, q1, q2.trans e2, e3⟩
          · exact .junk _
        · exact .junk _
      | eptr id gen off => exact .junk _
      | _ => exact hl.elim
    | lit n cap cs Ad us Fs hn hz hl hc hA h1 hr => exact .lit n cap cs Ad us Fs hn hz hl hc (fun ad e hne => okA _ (hA ad e hne)) h1 (fun j c u hc hu => up (hr j c u hc hu))
    | own e n cs v us Fs F ho hl hA h1' hr hF hN =>
      have := Rel.view noOwn_leaf (Rel.own (lf := Leaf tb (rename tb lv ids s).heap (hvN s ids hv)) (A := Ok (hvN s ids hv) w X) e n cs u us Fs F ho hl (fun g hg => okA _ (hA g hg)) h1' (fun j c u hc hu => (hr j c u hc hu).imp (fun _ _ h => h) (fun g hg => ⟨okA g hg.1, hg.2⟩) (fun _ _ => rfl)) hF hN) (owns_one ho)
      exact this
    | tptr cs off ad us Fs hl hc hA h1 hr => exact .tptr cs off ad us Fs hl hc (fun hne => okA _ (hA hne)) h1 (fun j c u hc hu => up (hr j c u hc hu))
    | agg cs us Fs F hl h1' hr hF hN => exact .junk _
    | tup cs us Fs F hl hr hF hN => exact .junk _
    | fn f cs us Fs hl hr => exact .junk _
  have atR : ∀ (v : AV) (u : Value) (F : List Nat) (src : Src), VRel tb s.heap hv X w v u F → (∀ id, src ≠ .old id) → (∀ e, v = .nils e → renB tb s ids src = nilRow tb (some (.nils e))) → VRel tb (rename tb lv ids s).heap (hvN s ids hv) X w (renAt tb s.heap ids src v) u [] := by
    intro v u F src r hsrc hn
    cases v with
    | nils e =>
      have hu := r.nils_inv
      subst hu
      simp only [renAt]
      split
      · rename_i hb
        simp only [Bool.and_eq_true] at hb
        obtain ⟨q1, q2⟩ := hnil src hsrc hb.1
        rw [hn e rfl] at q1
        simp only [nilRow, hb.2] at q1
        refine .leaf ⟨_, q1, ⟨none, 0, rfl⟩, fun e' g' bb' cs' hb' => ?_⟩
        injection hb' with w1 w2 w3 w4
        subst w1 w2 w3 w4
        refine ⟨Nat.le_refl _, fun _ => ⟨none, 0, 0, 0, q2, rfl, by simp, fun _ => ⟨rfl, q2.symm, by simp⟩, by simp, Nat.le_refl _⟩⟩
      · exact .junk _
    | fn f caps =>
      simp only [renAt, mapR_eq]
      cases r with
      | leaf hl => exact hl.elim
      | fn f cs us Fs hl hr =>
        refine .fn f _ us (fun _ => []) (by simp [hl]) fun j c u hc hu => ?_
        rw [List.getElem?_map] at hc
        cases hj : caps[j]? with
        | none => rw [hj] at hc; cases hc
        | some c0 => rw [hj] at hc; cases hc; exact refR _ _ _ (hr j _ _ hj hu)
    | agg cs =>
      simp only [renAt, mapR_eq]
      cases r with
      | leaf hl => exact hl.elim
      | agg cs us Fs F hl h1 hr hF hN =>
        refine .agg _ us (fun _ => []) _ (by simp [hl]) h1 (fun j c u hc hu => ?_) (by simp) (by simp)
        rw [List.getElem?_map] at hc
        cases hj : cs[j]? with
        | none => rw [hj] at hc; cases hc
        | some c0 => rw [hj] at hc; cases hc; exact refR _ _ _ (hr j _ _ hj hu)
    | _ => exact refR _ _ _ r
  refine ⟨hvN s ids hv, LN ids L, X, S.below, S.size, S.defers, S.tmps, fun t => ?_, fun k b hb => ?_, fun k g hg => ?_, fun k hk => ?_, S.xlt⟩
  · show ∃ F, Rel tb (Leaf tb (rename tb lv ids s).heap (hvN s ids hv)) (Ok (hvN s ids hv) w X) w (asl (mapR (fun t => (t, renAt tb s.heap ids (.nilT t) (s.env t))) lv) t) (a.tmps.getD t undef) F
    rcases asl_get (fun t => renAt tb s.heap ids (.nilT t) (s.env t)) lv t with e | e
    · rw [e]
      obtain ⟨F, r⟩ := S.vals t
      exact ⟨_, atR _ _ _ (.nilT t) r (fun id h => by cases h) (fun e he => by simp only [renB, he])⟩
    · rw [e]; exact ⟨[], .junk _⟩
  · rw [heap'] at hb
    cases hx : ids[k]? with
    | none => rw [hx] at hb; cases hb
    | some x =>
      rw [hx] at hb
      simp only [Option.map_some, Option.some.injEq] at hb
      by_cases hp : posS x ids = k
      · have hb' : renB tb s ids x = b := by rw [← hb]; simp [renK, hp, Nat.beq_refl]
        have nilCase : ∀ v, (∀ id, x ≠ .old id) → renB tb s ids x = nilRow tb v → BlkR tb base (rename tb lv ids s).heap (hvN s ids hv) (LN ids L) X w k b := by
          intro v hold' hv'
          have q2 : hvN s ids hv k = .slice none 0 0 := by
            unfold hvN
            rw [hx]
            cases x with
            | old id => exact absurd rfl (hold' id)
            | nilT t => simp [hp]
            | nilB id j => simp [hp]
          rw [hv'] at hb'
          unfold nilRow at hb'
          split at hb'
          · rename_i e
            split at hb'
            · rename_i hz
              subst hb'
              have hz' := Nat.blt_eq ▸ hz
              refine ⟨0, [], by rw [q2]; exact World.ownsRow_nil w base e (tb e).sz, ⟨rfl, by omega⟩, by simp, fun j c u hc hu => by simp at hc⟩
            · subst hb'
              show blkOf (hvN s ids hv k) = none
              rw [q2]; rfl
          · subst hb'
            show blkOf (hvN s ids hv k) = none
            rw [q2]; rfl
        cases x with
        | nilT t => exact nilCase (some (s.env t)) (fun id h => by cases h) rfl
        | nilB id j =>
          cases hid : s.heap id with
          | none => exact nilCase none (fun id h => by cases h) (by simp [renB, hid, nilRow])
          | some bb =>
            cases bb with
            | box t cs => exact nilCase (nth cs j) (fun id h => by cases h) (by simp [renB, hid])
            | _ => exact nilCase none (fun id h => by cases h) (by simp [renB, hid, nilRow])
        | old id =>
          have hm : memS (.old id) ids = true := memS_of_get hx
          cases hid : s.heap id with
          | none =>
            simp only [renB, hid] at hb'
            subst hb'
            show blkOf (hvN s ids hv k) = none
            simp [hvN, hx, hid, blkOf]
          | some bb =>
            have hB := S.blks id bb hid
            cases bb with
            | dead =>
              simp only [renB, hid] at hb'
              subst hb'
              show blkOf (hvN s ids hv k) = none
              simp [hvN, hx, hid, blkOf]
            | row e g bb cs =>
              obtain ⟨q1, q2⟩ := hold id _ hm hid (by simp)
              rw [hp] at q1 q2
              simp only [renB, hid] at hb'
              subst hb'
              obtain ⟨m, us, ho, hl, h1, hr⟩ := hB
              refine ⟨m, us, by rw [q2]; exact ho, hl, h1, fun j c u hc hu => ?_⟩
              obtain ⟨F, r, hN, hF⟩ := hr j c u hc hu
              refine ⟨F, r.imp (fun _ _ h => h) (fun g hg => ⟨okA g hg.1, hg.2⟩) (fun _ _ => rfl), hN, fun g hg => ⟨?_, (hF g hg).2⟩⟩
              simp only [LN, (hF g hg).1, hm, if_true, hp]
            | box t cs =>
              obtain ⟨q1, q2⟩ := hold id _ hm hid (by simp)
              rw [hp] at q1 q2
              simp only [renB, hid] at hb'
              subst hb'
              obtain ⟨g, us, e1, e2, hl, h1, hr⟩ := hB
              refine ⟨g, us, q2.trans e1, e2, ?_, h1, fun j c u hc hu => ?_⟩
              · rw [hl]; exact (renC_len ids id cs 0).symm
              · rw [renC_get, Nat.zero_add] at hc
                cases hj : cs[j]? with
                | none => rw [hj] at hc; cases hc
                | some c0 =>
                  rw [hj] at hc
                  cases hc
                  obtain ⟨F, r⟩ := hr j _ _ hj hu
                  exact ⟨_, atR _ _ _ (.nilB id j) r (fun id h => by cases h) (fun e he => by simp only [renB, hid, nth_eq, hj, he])⟩
            | mp t es =>
              obtain ⟨q1, q2⟩ := hold id _ hm hid (by simp)
              rw [hp] at q1 q2
              simp only [renB, hid] at hb'
              subst hb'
              obtain ⟨g, ents, clock, e1, e2, hl, hr⟩ := hB
              exact ⟨g, ents, clock, q2.trans e1, e2, hl, hr⟩
      · have hb' : b = .dead := by rw [← hb]; simp [renK, beq_ne hp]
        subst hb'
        show blkOf (hvN s ids hv k) = none
        cases hbk : blkOf (hvN s ids hv k) with
        | none => rfl
        | some g =>
          obtain ⟨id, h1, h2, _⟩ := hvN_blk hbk
          rw [hx] at h1
          cases h1
          exact absurd h2 hp
  · obtain ⟨id, h1, h2, h3⟩ := hvN_blk hg
    obtain ⟨l1, l2⟩ := S.lab id g h3
    refine ⟨?_, l2⟩
    simp only [LN, l1, memS_of_get h1, if_true, h2]
  · rw [heap'] at hk
    have : ids[k]? = none := by cases hx : ids[k]? with | none => rfl | some x => rw [hx] at hk; cases hk
    simp [hvN, this, blkOf]
end
end Go.Ev
namespace Go.Ev
set_option linter.unusedVariables false
set_option linter.unusedSimpArgs false

/-! an operation reads what it reads: a larger heap gives the same -/
def Sub (h h' : Heap) : Prop := ∀ i b, h i = some b → h' i = some b
def Fr (d : Option Nat) (h h' : Heap) : Prop := ∀ k, k < 16 → h (tag d k) = none → h' (tag d k) = none
def puts (ps : List (Nat × Blk)) (h : Heap) : Heap := ps.foldl (fun h p => h.put p.1 p.2) h
def PDet {α : Type} (F : (α → Prop) → Prop) : Prop := ∀ K, F K → ∃ v, K v ∧ ∀ K', K' v → F K'
def RDet {α : Type} (F : Heap → (α → Prop) → Prop) : Prop := ∀ h K, F h K → ∃ v, K v ∧ ∀ h' K', Sub h h' → K' v → F h' K'
def Det (C : Blk → Bool) {α : Type} (d : Option Nat) (F : Heap → (α → Heap → Prop) → Prop) : Prop := ∀ h K, F h K → ∃ v ps, K v (puts ps h) ∧ (∀ p ∈ ps, (h p.1 = none ∧ ∃ k, k < 16 ∧ p.1 = tag d k) ∨ ∃ b, h p.1 = some b ∧ C b = true) ∧ ∀ h' K', Sub h h' → Fr d h h' → K' v (puts ps h') → F h' K'
theorem put_at (h : Heap) (id : Nat) (b : Blk) (i : Nat) : h.put id b i = if i = id then some b else h i := by
  by_cases e : i = id
  · subst e; rw [if_pos rfl, put_same]
  · rw [if_neg e, put_other h b e]
theorem Sub.put {h h' : Heap} (hs : Sub h h') (id : Nat) (b : Blk) : Sub (h.put id b) (h'.put id b) := fun i c hc => by
  rw [put_at] at hc ⊢
  split <;> rename_i e
  · rw [if_pos e] at hc; exact hc
  · rw [if_neg e] at hc; exact hs _ _ hc
theorem Sub.puts {h h' : Heap} (hs : Sub h h') : ∀ (ps : List (Nat × Blk)), Sub (puts ps h) (puts ps h')
  | [] => hs
  | p :: ps => Sub.puts (hs.put p.1 p.2) ps
theorem Fr.put {d : Option Nat} {h h' : Heap} (hf : Fr d h h') (id : Nat) (b : Blk) : Fr d (h.put id b) (h'.put id b) := fun k hk hc => by
  rw [put_at] at hc ⊢
  split <;> rename_i e
  · rw [if_pos e] at hc; cases hc
  · rw [if_neg e] at hc; exact hf k hk hc
theorem Fr.puts {d : Option Nat} {h h' : Heap} (hf : Fr d h h') : ∀ (ps : List (Nat × Blk)), Fr d (puts ps h) (puts ps h')
  | [] => hf
  | p :: ps => Fr.puts (hf.put p.1 p.2) ps
theorem puts_append (ps qs : List (Nat × Blk)) (h : Heap) : puts (ps ++ qs) h = puts qs (puts ps h) := List.foldl_append ..
theorem put_ne {h : Heap} {id i : Nat} {b : Blk} (hi : h.put id b i ≠ none) : i = id ∨ h i ≠ none := by
  rw [put_at] at hi
  split at hi
  · exact .inl ‹_›
  · exact .inr hi
theorem puts_none : ∀ {ps : List (Nat × Blk)} {h : Heap} {i : Nat}, puts ps h i = none → h i = none
  | [], h, i, hi => hi
  | p :: ps, h, i, hi => by
    have : h.put p.1 p.2 i = none := puts_none (ps := ps) hi
    rw [put_at] at this
    split at this
    · cases this
    · exact this
theorem puts_other : ∀ {ps : List (Nat × Blk)} {h : Heap} {i : Nat}, (∀ p ∈ ps, p.1 ≠ i) → puts ps h i = h i
  | [], h, i, _ => rfl
  | p :: ps, h, i, hi => by
    have := puts_other (ps := ps) (h := h.put p.1 p.2) (fun q hq => hi q (List.mem_cons_of_mem _ hq))
    exact this.trans (put_other h p.2 (fun e => hi p List.mem_cons_self e.symm))
theorem puts_ne : ∀ {ps : List (Nat × Blk)} {h : Heap} {i : Nat}, puts ps h i ≠ none → (∃ p ∈ ps, p.1 = i) ∨ h i ≠ none
  | [], h, i, hi => .inr hi
  | p :: ps, h, i, hi => by
    rcases puts_ne (ps := ps) hi with ⟨q, hq, e⟩ | h1
    · exact .inl ⟨q, List.mem_cons_of_mem _ hq, e⟩
    · rcases put_ne h1 with e | h2
      · exact .inl ⟨p, List.mem_cons_self, e.symm⟩
      · exact .inr h2
section
variable {C : Blk → Bool} {α β : Type} {d : Option Nat}
theorem PDet.r {F : (α → Prop) → Prop} (h : PDet F) : RDet (fun _ => F) := fun hp K hK => by
  obtain ⟨v, h1, h2⟩ := h K hK
  exact ⟨v, h1, fun h' K' _ hk => h2 K' hk⟩
theorem RDet.det {F : Heap → (α → Prop) → Prop} (h : RDet F) : Det C d (fun hp K => F hp fun v => K v hp) := fun hp K hK => by
  obtain ⟨v, h1, h2⟩ := h hp _ hK
  exact ⟨v, [], h1, (by simp), fun h' K' hs _ hk => h2 h' _ hs hk⟩
theorem Det.ret (v : α) : Det C d (fun hp K => K v hp) := fun hp K hK => ⟨v, [], hK, by simp, fun h' K' _ _ hk => hk⟩
theorem Det.bind {F : Heap → (α → Heap → Prop) → Prop} {G : α → Heap → (β → Heap → Prop) → Prop} (hF : Det C d F) (hG : ∀ v, Det C d (G v)) : Det C d (fun hp K => F hp fun v h1 => G v h1 K) := fun hp K hK => by
  obtain ⟨v, ps, h1, h2, h3⟩ := hF hp _ hK
  obtain ⟨v2, qs, k1, k2, k3⟩ := hG v _ _ h1
  refine ⟨v2, ps ++ qs, by rw [puts_append]; exact k1, fun p hp => ?_, fun h' K' hs hf hk => ?_⟩
  · rcases List.mem_append.1 hp with hp | hp
    · exact h2 p hp
    · rcases k2 p hp with h | h
      · exact .inl ⟨puts_none h.1, h.2⟩
      · by_cases hq : ∃ q ∈ ps, q.1 = p.1
        · obtain ⟨q, hq, e⟩ := hq
          rw [← e]; exact h2 q hq
        · obtain ⟨b, hb, hc⟩ := h
          rw [puts_other (fun q hq' e => hq ⟨q, hq', e⟩)] at hb
          exact .inr ⟨b, hb, hc⟩
  · refine h3 h' _ hs hf (k3 _ _ (hs.puts ps) (hf.puts ps) ?_)
    rw [puts_append] at hk
    exact hk
theorem Det.map {F : Heap → (α → Heap → Prop) → Prop} (f : α → β) (hF : Det C d F) : Det C d (fun hp K => F hp fun v h1 => K (f v) h1) := hF.bind fun v => Det.ret (f v)
theorem Det.and {A : Prop} {F : Heap → (α → Heap → Prop) → Prop} (hF : Det C d F) : Det C d (fun hp K => A ∧ F hp K) := fun hp K hK => by
  obtain ⟨v, ps, h1, h2, h3⟩ := hF hp K hK.2
  exact ⟨v, ps, h1, h2, fun h' K' hs hf hk => ⟨hK.1, h3 h' K' hs hf hk⟩⟩
theorem Det.false : Det C (α := α) d (fun _ _ => False) := fun _ _ h => h.elim
theorem RDet.false : RDet (α := α) (fun _ _ => False) := fun _ _ h => h.elim
theorem PDet.false : PDet (α := α) (fun _ => False) := fun _ h => h.elim
theorem PDet.ret (v : α) : PDet (fun K => K v) := fun _ h => ⟨v, h, fun _ h => h⟩
theorem PDet.and {A : Prop} {F : (α → Prop) → Prop} (hF : PDet F) : PDet (fun K => A ∧ F K) := fun K hK => by
  obtain ⟨v, h1, h2⟩ := hF K hK.2
  exact ⟨v, h1, fun K' hk => ⟨hK.1, h2 K' hk⟩⟩
theorem PDet.ex {γ : Type} {F : γ → (α → Prop) → Prop} (hF : ∀ c, PDet (F c)) : PDet (fun K => ∃ c, F c K) := fun K ⟨c, hK⟩ => by
  obtain ⟨v, h1, h2⟩ := hF c K hK
  exact ⟨v, h1, fun K' hk => ⟨c, h2 K' hk⟩⟩
theorem PDet.map {F : (α → Prop) → Prop} (f : α → β) (hF : PDet F) : PDet (fun K => F fun v => K (f v)) := fun K hK => by
  obtain ⟨v, h1, h2⟩ := hF _ hK
  exact ⟨f v, h1, fun K' hk => h2 _ hk⟩
theorem RDet.and {A : Prop} {F : Heap → (α → Prop) → Prop} (hF : RDet F) : RDet (fun h K => A ∧ F h K) := fun h K hK => by
  obtain ⟨v, h1, h2⟩ := hF h K hK.2
  exact ⟨v, h1, fun h' K' hs hk => ⟨hK.1, h2 h' K' hs hk⟩⟩
/-- reading a block -/
theorem RDet.blk (id : Nat) {G : Option Blk → (α → Prop) → Prop} (hn : ∀ K, ¬ G none K) (hG : ∀ b, PDet (G (some b))) : RDet (fun h K => G (h id) K) := fun h K hK => by
  have hK : G (h id) K := hK
  cases hb : h id with
  | none => rw [hb] at hK; exact (hn K hK).elim
  | some b =>
    rw [hb] at hK
    obtain ⟨v, h1, h2⟩ := hG b K hK
    exact ⟨v, h1, fun h' K' hs hk => by show G (h' id) K'; rw [hs id b hb]; exact h2 K' hk⟩
theorem Det.blk (id : Nat) {G : Option Blk → Heap → (α → Heap → Prop) → Prop} (hn : ∀ h K, ¬ G none h K) (hG : ∀ b, Det C d (fun h K => h id = some b ∧ G (some b) h K)) : Det C d (fun h K => G (h id) h K) := fun h K hK => by
  have hK : G (h id) h K := hK
  cases hb : h id with
  | none => rw [hb] at hK; exact (hn h K hK).elim
  | some b =>
    rw [hb] at hK
    obtain ⟨v, ps, h1, h2, h3⟩ := hG b h K ⟨hb, hK⟩
    exact ⟨v, ps, h1, h2, fun h' K' hs hf hk => by show G (h' id) h' K'; rw [hs id b hb]; exact (h3 h' K' hs hf hk).2⟩
theorem Det.put {id : Nat} {b0 b : Blk} (hc : C b0 = true) (v : α) : Det C d (fun h K => h id = some b0 ∧ K v (h.put id b)) := fun h K hK => by
  refine ⟨v, [(id, b)], hK.2, fun p hp => ?_, fun h' K' hs _ hk => ⟨hs _ _ hK.1, hk⟩⟩
  simp at hp
  subst hp
  exact .inr ⟨b0, hK.1, hc⟩
theorem Det.keep {id : Nat} {b : Blk} {F : Heap → (α → Heap → Prop) → Prop} (hF : Det C d F) : Det C d (fun h K => h id = some b ∧ F h K) := fun h K hK => by
  obtain ⟨v, ps, h1, h2, h3⟩ := hF h K hK.2
  exact ⟨v, ps, h1, h2, fun h' K' hs hf hk => ⟨hs _ _ hK.1, h3 h' K' hs hf hk⟩⟩
theorem Det.newB (j : Nat) (b : Blk) (v : AV) : Det C d (fun h K => newB d j b h K v) := fun h K hK => by
  unfold Ev.newB at hK
  split at hK
  · rename_i hj
    split at hK
    · rename_i hn
      have hj' : j < 16 := Nat.blt_eq ▸ hj
      refine ⟨v, [(tag d j, b)], hK, fun p hp => ?_, fun h' K' hs hf hk => ?_⟩
      · simp at hp; subst hp; exact .inl ⟨hn, j, hj', rfl⟩
      · unfold Ev.newB
        simp only [hj, hf j hj' hn]
        exact hk
    · exact hK.elim
  · exact hK.elim
end
end Go.Ev
namespace Go.Ev
set_option linter.unusedVariables false
set_option linter.unusedSimpArgs false

section
variable {C : Blk → Bool} {α β : Type} {d : Option Nat} {tb : Nat → Ti} {R : Nat → List AV → AV → Prop}
theorem Det.iff {F G : Heap → (α → Heap → Prop) → Prop} (hF : Det C d F) (h : ∀ hp K, F hp K ↔ G hp K) : Det C d G := by
  have : F = G := funext fun hp => funext fun K => propext (h hp K)
  exact this ▸ hF
theorem Det.ex {γ : Type} {F : γ → Heap → (α → Heap → Prop) → Prop} (hF : ∀ c, Det C d (F c)) : Det C d (fun h K => ∃ c, F c h K) := fun h K ⟨c, hK⟩ => by
  obtain ⟨v, ps, h1, h2, h3⟩ := hF c h K hK
  exact ⟨v, ps, h1, h2, fun h' K' hs hf hk => ⟨c, h3 h' K' hs hf hk⟩⟩
theorem Det.putC {id : Nat} {b0 b : Blk} {A : Prop} (hc : C b0 = true) (v : α) : Det C d (fun h K => h id = some b0 ∧ A ∧ K v (h.put id b)) :=
  (Det.and (A := A) (Det.put (id := id) (b0 := b0) (b := b) hc v)).iff fun h K => ⟨fun ⟨a, b, c⟩ => ⟨b, a, c⟩, fun ⟨a, b, c⟩ => ⟨b, a, c⟩⟩
theorem Det.putBind {id : Nat} {b0 b : Blk} (hc : C b0 = true) {G : Heap → (β → Heap → Prop) → Prop} (hG : Det C d G) : Det C d (fun h K => h id = some b0 ∧ G (h.put id b) K) :=
  (Det.put (id := id) (b0 := b0) (b := b) hc ()).bind (G := fun _ => G) fun _ => hG
theorem Det.putBindC {id : Nat} {b0 b : Blk} {A : Prop} (hc : C b0 = true) {G : Heap → (β → Heap → Prop) → Prop} (hG : Det C d G) : Det C d (fun h K => h id = some b0 ∧ A ∧ G (h.put id b) K) :=
  (Det.and (A := A) (Det.putBind (id := id) (b0 := b0) (b := b) hc hG)).iff fun h K => ⟨fun ⟨a, b, c⟩ => ⟨b, a, c⟩, fun ⟨a, b, c⟩ => ⟨b, a, c⟩⟩
theorem Det.no {id : Nat} {b0 : Blk} : Det C (α := α) d (fun h K => h id = some b0 ∧ False) := fun _ _ h => h.2.elim
theorem Det.lets {x : List AV} {F : List AV → Heap → (α → Heap → Prop) → Prop} (hF : Det C d (F x)) : Det C d (fun h K => Ev.lets x fun y => F y h K) :=
  hF.iff fun h K => ⟨fun hk => ⟨_, rfl, hk⟩, fun ⟨_, e, hk⟩ => e ▸ hk⟩
theorem Det.letsE {A B : Prop} {id : Nat} {x : List AV} {F : List AV → Heap → (α → Heap → Prop) → Prop} {b0 : Blk} (hF : Det C d (fun h K => h id = some b0 ∧ A ∧ F x h K)) : Det C d (fun h K => h id = some b0 ∧ A ∧ Ev.lets x fun y => F y h K) :=
  hF.iff fun h K => ⟨fun ⟨a, b, hk⟩ => ⟨a, b, _, rfl, hk⟩, fun ⟨a, b, _, e, hk⟩ => ⟨a, b, e ▸ hk⟩⟩
theorem readC_p (ti : Ti) (cs : List AV) (off : Nat) : PDet (readC ti cs off) := by
  obtain ⟨sz, bt, agg, flat, zero, k⟩ := ti
  cases sz with
  | zero => exact PDet.false
  | succ n =>
    cases agg with
    | true => exact PDet.ex fun vs => .and (.and (.ret _))
    | false => exact PDet.ex fun vs => .and (.ret _)
theorem absorb1_d (hr : ∀ e g b cs, C (.row e g b cs) = true) (al : Bool) (v : AV) : Det C d (fun h K => absorb1 al v h K) := by
  cases v with
  | int k n => exact Det.ret _
  | bool b => exact Det.ret _
  | str b => exact Det.ret _
  | nils e => exact Det.ret _
  | lit n cs => cases al; exact Det.false; exact Det.ret _
  | ref id gen full off n =>
    cases full with
    | false => exact Det.false
    | true =>
      refine Det.blk id (G := fun b h (K : AV → Heap → Prop) => match b with | some (.row e g false cs) => (match Nat.beq g gen with | true => K (.own e n cs) (h.put id .dead) | false => False) | _ => False) (fun _ _ h => h) fun b => ?_
      cases b with
      | row e g bb cs =>
        cases bb with
        | true => exact Det.no
        | false =>
          show Det C d (fun h (K : AV → Heap → Prop) => h id = some (.row e g false cs) ∧ (match Nat.beq g gen with | true => K (.own e n cs) (h.put id .dead) | false => False))
          cases Nat.beq g gen with
          | true => exact Det.put (hr _ _ _ _) _
          | false => exact Det.no
      | _ => exact Det.no
  | _ => exact Det.false
theorem absorb_d (hr : ∀ e g b cs, C (.row e g b cs) = true) (al : Bool) : ∀ (vs : List AV), Det C d (fun h K => absorb al vs h K)
  | [] => Det.ret _
  | v :: vs => (absorb1_d hr al v).bind fun c => (absorb_d hr al vs).map (c :: ·)
theorem loadA_r (t : Nat) (a : AV) : RDet (fun h K => loadA tb t a h K) := by
  cases a with
  | ptr id off =>
    refine RDet.blk id (G := fun b K => match b with | some (.box _ cs) => readC (tb t) cs off K | _ => False) (fun _ h => h) fun b => ?_
    cases b with
    | box t' cs => exact readC_p _ _ _
    | _ => exact PDet.false
  | eptr id gen off =>
    refine RDet.blk id (G := fun b K => match b with | some (.row _ g _ cs) => (match Nat.beq g gen with | true => readC (tb t) cs off K | false => False) | _ => False) (fun _ h => h) fun b => ?_
    cases b with
    | row e g bb cs =>
      show PDet (fun K => match Nat.beq g gen with | true => readC (tb t) cs off K | false => False)
      cases Nat.beq g gen with
      | true => exact readC_p _ _ _
      | false => exact PDet.false
    | _ => exact PDet.false
  | tptr cs off => exact (readC_p (tb t) cs off).r
  | _ => exact RDet.false
theorem known_d {ti : Ti} {F : Heap → (α → Heap → Prop) → Prop} (hF : Det C d F) : Det C d (fun h K => known ti (F h K)) := by
  obtain ⟨sz, bt, agg, flat, zero, k⟩ := ti
  cases sz with
  | zero => exact Det.false
  | succ n => exact hF
theorem storeA_d (ha : ∀ b, C b = true) (t : Nat) (a x : AV) : Det C d (fun h K => storeA tb t a x h K) := by
  cases a with
  | ptr id off =>
    refine Det.blk id (G := fun b h (K : AV → Heap → Prop) => match b with | some (.box t' cs) => ((cellOk x = true ∧ (cellsOf x).length = (tb t).sz) ∧ off + (tb t).sz ≤ cs.length) ∧ K .undef (h.put id (.box t' (splice cs off (cellsOf x)))) | _ => False) (fun _ _ h => h) fun b => ?_
    cases b with
    | box t' cs => exact Det.putC (ha _) _
    | _ => exact Det.no
  | eptr id gen off =>
    refine Det.blk id (G := fun b h (K : AV → Heap → Prop) => match b with
      | some (.row _ g _ _) => (match Nat.beq g gen with
        | true => absorb true (cellsOf x) h fun vs h => (match h id with
          | some (.row e g b cs) => (cellOk x = true ∧ vs.length = (tb t).sz ∧ off + (tb t).sz ≤ cs.length) ∧ lets (splice cs off vs) fun cs' => K .undef (h.put id (.row e g (b || anyLit vs) cs'))
          | _ => False)
        | false => False)
      | _ => False) (fun _ _ h => h) fun b => ?_
    cases b with
    | row e g bb cs =>
      show Det C d (fun h (K : AV → Heap → Prop) => h id = some (.row e g bb cs) ∧ (match Nat.beq g gen with
        | true => absorb true (cellsOf x) h fun vs h => (match h id with
          | some (.row e g b cs) => (cellOk x = true ∧ vs.length = (tb t).sz ∧ off + (tb t).sz ≤ cs.length) ∧ lets (splice cs off vs) fun cs' => K .undef (h.put id (.row e g (b || anyLit vs) cs'))
          | _ => False)
        | false => False))
      cases Nat.beq g gen with
      | false => exact Det.no
      | true =>
        refine Det.keep ((absorb_d (fun _ _ _ _ => ha _) true (cellsOf x)).bind fun vs => ?_)
        refine Det.blk id (G := fun b h (K : AV → Heap → Prop) => match b with
          | some (.row e g b cs) => (cellOk x = true ∧ vs.length = (tb t).sz ∧ off + (tb t).sz ≤ cs.length) ∧ lets (splice cs off vs) fun cs' => K .undef (h.put id (.row e g (b || anyLit vs) cs'))
          | _ => False) (fun _ _ h => h) fun b => ?_
        cases b with
        | row e g bb cs => exact Det.letsE (B := True) (F := fun y h (K : AV → Heap → Prop) => K .undef (h.put id (.row e g (bb || anyLit vs) y))) (Det.putC (ha _) _)
        | _ => exact Det.no
    | _ => exact Det.no
  | _ => exact Det.false
theorem appendTo_d (hr : ∀ e g b cs, C (.row e g b cs) = true) (e : Nat) (s : AV) (nb : Bool) (new : List AV) (n : Nat) : Det C d (fun h K => appendTo tb d e s nb new n h K) := by
  cases s with
  | nils e' => exact Det.and (Det.lets (F := fun y h (K : AV → Heap → Prop) => newB d 0 (.row e 0 nb y) h K (.ref (tag d 0) 0 true 0 n)) (Det.newB _ _ _))
  | ref id gen full off len =>
    refine Det.blk id (G := fun b h (K : AV → Heap → Prop) => match b with
      | some (.row e' g b cs) => (match Nat.beq e' e && Nat.beq g gen with
        | true => (match full with
          | true => (len + n) * (tb e).bytes ≤ 140737488355328 ∧ lets (cs ++ new) fun cs' => K (.ref id (gen + 1) true 0 (len + n)) (h.put id (.row e (gen + 1) (b || nb) cs'))
          | false => (match off with
            | 0 => (len + n) * (tb e).bytes ≤ 140737488355328 ∧ lets (cs.take (len * (tb e).sz) ++ new) fun cs' => newB d 0 (.row e 0 (b || nb) cs') (h.put id .dead) K (.ref (tag d 0) 0 true 0 (len + n))
            | _ + 1 => False))
        | false => False)
      | _ => False) (fun _ _ h => h) fun b => ?_
    cases b with
    | row e' g b cs =>
      show Det C d (fun h (K : AV → Heap → Prop) => h id = some (.row e' g b cs) ∧ (match Nat.beq e' e && Nat.beq g gen with
        | true => (match full with
          | true => (len + n) * (tb e).bytes ≤ 140737488355328 ∧ lets (cs ++ new) fun cs' => K (.ref id (gen + 1) true 0 (len + n)) (h.put id (.row e (gen + 1) (b || nb) cs'))
          | false => (match off with
            | 0 => (len + n) * (tb e).bytes ≤ 140737488355328 ∧ lets (cs.take (len * (tb e).sz) ++ new) fun cs' => newB d 0 (.row e 0 (b || nb) cs') (h.put id .dead) K (.ref (tag d 0) 0 true 0 (len + n))
            | _ + 1 => False))
        | false => False))
      cases Nat.beq e' e && Nat.beq g gen with
      | false => exact Det.no
      | true =>
        cases full with
        | true => exact Det.letsE (B := True) (F := fun y h (K : AV → Heap → Prop) => K (.ref id (gen + 1) true 0 (len + n)) (h.put id (.row e (gen + 1) (b || nb) y))) (Det.putC (hr _ _ _ _) _)
        | false =>
          cases off with
          | zero => exact Det.letsE (B := True) (F := fun y h (K : AV → Heap → Prop) => newB d 0 (.row e 0 (b || nb) y) (h.put id .dead) K (.ref (tag d 0) 0 true 0 (len + n))) (Det.putBindC (hr _ _ _ _) (Det.newB _ _ _))
          | succ k => exact Det.no
    | _ => exact Det.no
  | _ => exact Det.false
theorem appendA_d (hr : ∀ e g b cs, C (.row e g b cs) = true) (t : Nat) (s x : AV) : Det C d (fun h K => appendA tb d t s x h K) := by
  show Det C d (fun h (K : AV → Heap → Prop) => match (tb t).k with
    | .slice e => (match x with
      | .nils _ => appendTo tb d e s false [] 0 h K
      | .lit n cs => (match (tb e).flat with
        | true => (allFlat cs = true ∧ cs.length = n * (tb e).sz) ∧ appendTo tb d e s false cs n h K
        | false => ∃ cs', (cs' = cs.map view ∧ cs.length = n * (tb e).sz) ∧ appendTo tb d e s true cs' n h K)
      | .ref id gen true _ n => (match h id with
        | some (.row e' g b cs) => (match Nat.beq e' e && Nat.beq g gen with
          | true => (match (tb e).flat with
            | true => allFlat cs = true ∧ appendTo tb d e s false cs n h K
            | false => appendTo tb d e s b cs n (h.put id .dead) K)
          | false => False)
        | _ => False)
      | _ => False)
    | _ => False)
  cases (tb t).k with
  | slice e =>
    cases x with
    | nils _ => exact appendTo_d hr _ _ _ _ _
    | lit n cs =>
      show Det C d (fun h (K : AV → Heap → Prop) => match (tb e).flat with
        | true => (allFlat cs = true ∧ cs.length = n * (tb e).sz) ∧ appendTo tb d e s false cs n h K
        | false => ∃ cs', (cs' = cs.map view ∧ cs.length = n * (tb e).sz) ∧ appendTo tb d e s true cs' n h K)
      cases (tb e).flat with
      | true => exact Det.and (appendTo_d hr _ _ _ _ _)
      | false => exact Det.ex fun cs' => Det.and (appendTo_d hr _ _ _ _ _)
    | ref id gen full off n =>
      cases full with
      | false => exact Det.false
      | true =>
        refine Det.blk id (G := fun b h (K : AV → Heap → Prop) => match b with
          | some (.row e' g b cs) => (match Nat.beq e' e && Nat.beq g gen with
            | true => (match (tb e).flat with
              | true => allFlat cs = true ∧ appendTo tb d e s false cs n h K
              | false => appendTo tb d e s b cs n (h.put id .dead) K)
            | false => False)
          | _ => False) (fun _ _ h => h) fun b => ?_
        cases b with
        | row e' g b cs =>
          show Det C d (fun h (K : AV → Heap → Prop) => h id = some (.row e' g b cs) ∧ (match Nat.beq e' e && Nat.beq g gen with
            | true => (match (tb e).flat with
              | true => allFlat cs = true ∧ appendTo tb d e s false cs n h K
              | false => appendTo tb d e s b cs n (h.put id .dead) K)
            | false => False))
          cases Nat.beq e' e && Nat.beq g gen with
          | false => exact Det.no
          | true =>
            cases (tb e).flat with
            | true => exact Det.keep (Det.and (appendTo_d hr _ _ _ _ _))
            | false => exact Det.putBind (hr _ _ _ _) (appendTo_d hr _ _ _ _ _)
        | _ => exact Det.no
    | _ => exact Det.false
  | _ => exact Det.false
end
end Go.Ev
namespace Go.Ev
set_option linter.unusedVariables false
set_option linter.unusedSimpArgs false

section
variable {C : Blk → Bool} {α β : Type} {d : Option Nat} {tb : Nat → Ti} {R : Nat → List AV → AV → Prop}
theorem PDet.ite {b : Bool} {F G : (α → Prop) → Prop} (hF : PDet F) (hG : PDet G) : PDet (fun (K : α → Prop) => match b with | .true => F K | .false => G K) := by cases b; exact hG; exact hF
theorem lenOf_r (t : Nat) (v : AV) : RDet (fun h K => lenOf tb t h v K) := by
  show RDet (fun h (K : Nat → Prop) => match (tb t).k with
    | .slice _ => (match v with
      | .nils _ => K 0
      | .ref _ _ _ _ n => K n
      | .lit n _ => K n
      | _ => False)
    | .str => (match v with
      | .str s => K s.size
      | _ => False)
    | .map _ _ => (match v with
      | .map id => (match h id with | some (.mp _ es) => K es.length | _ => False)
      | _ => False)
    | _ => False)
  cases (tb t).k with
  | slice e => cases v <;> first | exact RDet.false | exact (PDet.ret _).r
  | str => cases v <;> first | exact RDet.false | exact (PDet.ret _).r
  | map k e =>
    cases v with
    | map id =>
      refine RDet.blk id (G := fun b (K : Nat → Prop) => match b with | some (.mp _ es) => K es.length | _ => False) (fun _ h => h) fun b => ?_
      cases b with
      | mp t es => exact PDet.ret _
      | _ => exact PDet.false
    | _ => exact RDet.false
  | _ => exact RDet.false
theorem allB_cons (f : AV → Bool) (v : AV) (vs : List AV) : allB f (v :: vs) = (bif f v then allB f vs else false) := rfl
theorem allB_mono {f g : AV → Bool} : ∀ {vs : List AV}, (∀ v ∈ vs, f v = true → g v = true) → allB f vs = true → allB g vs = true
  | [], _, _ => rfl
  | v :: vs, hv, h => by
    rw [allB_cons] at h ⊢
    cases hf : f v with
    | false => rw [hf] at h; cases h
    | true =>
      rw [hf] at h
      rw [hv v List.mem_cons_self hf]
      exact allB_mono (fun u hu => hv u (List.mem_cons_of_mem _ hu)) h
theorem allB_mem {f : AV → Bool} : ∀ {vs : List AV}, allB f vs = true → ∀ v ∈ vs, f v = true
  | [], _, v, hv => by cases hv
  | u :: vs, h, v, hv => by
    rw [allB_cons] at h
    cases hf : f u with
    | false => rw [hf] at h; cases h
    | true =>
      rw [hf] at h
      rcases List.mem_cons.1 hv with rfl | hv
      · exact hf
      · exact allB_mem h v hv
theorem lendOk_sub {h h' : Heap} (hs : Sub h h') {v : AV} (hv : lendOk h v = true) : lendOk h' v = true ∧ lend tb h' v = lend tb h v := by
  cases v with
  | ref id gen full off len =>
    simp only [lendOk] at hv
    split at hv
    · rename_i e g bb cs hb
      simp only [lendOk, lend, hs _ _ hb, hb, hv, and_self]
    · cases hv
  | _ => exact ⟨rfl, rfl⟩
theorem map_lend {h h' : Heap} (hs : Sub h h') {vs : List AV} (hv : allB (lendOk h) vs = true) : allB (lendOk h') vs = true ∧ mapR (lend tb h') vs = mapR (lend tb h) vs := by
  refine ⟨allB_mono (fun v _ hf => (lendOk_sub (tb := tb) hs hf).1) hv, ?_⟩
  rw [mapR_eq, mapR_eq]
  exact List.map_congr_left fun v hm => (lendOk_sub hs (allB_mem hv v hm)).2
theorem lend2_cases (v : AV) : (∃ cs, v = .agg cs) ∨ (∃ id off, v = .ptr id off) ∨ (∀ h, lendOk2 h v = lendOk h v ∧ lend2 tb h v = lend tb h v) := by
  cases v with
  | agg cs => exact .inl ⟨_, rfl⟩
  | ptr id off => exact .inr (.inl ⟨_, _, rfl⟩)
  | _ => exact .inr (.inr fun h => ⟨rfl, rfl⟩)
theorem lend3_cases (v : AV) : (∃ f cs, v = .fn f cs) ∨ (∀ h, lendOk3 h v = lendOk2 h v ∧ lend3 tb h v = lend2 tb h v) := by
  cases v with
  | fn f cs => exact .inl ⟨_, _, rfl⟩
  | _ => exact .inr fun h => ⟨rfl, rfl⟩
theorem lendOk2_sub {h h' : Heap} (hs : Sub h h') {v : AV} (hv : lendOk2 h v = true) : lendOk2 h' v = true ∧ lend2 tb h' v = lend2 tb h v := by
  rcases lend2_cases (tb := tb) v with ⟨cs, rfl⟩ | ⟨id, off, rfl⟩ | he
  · obtain ⟨h1, h2⟩ := map_lend (tb := tb) hs (vs := cs) hv
    exact ⟨h1, congrArg AV.agg h2⟩
  · simp only [lendOk2] at hv
    split at hv
    · rename_i t cs hb
      obtain ⟨h1, h2⟩ := map_lend (tb := tb) hs hv
      simp only [lendOk2, lend2, hs _ _ hb, hb, h1, h2, and_self]
    · cases hv
  · rw [(he h).1] at hv
    rw [(he h).2, (he h').1, (he h').2]
    exact lendOk_sub hs hv
theorem lendOk3_sub {h h' : Heap} (hs : Sub h h') {v : AV} (hv : lendOk3 h v = true) : lendOk3 h' v = true ∧ lend3 tb h' v = lend3 tb h v := by
  rcases lend3_cases (tb := tb) v with ⟨f, caps, rfl⟩ | he
  · have hv : allB (lendOk2 h) caps = true := hv
    refine ⟨allB_mono (fun v _ hf => (lendOk2_sub (tb := tb) hs hf).1) hv, ?_⟩
    show AV.fn f (mapR _ caps) = AV.fn f (mapR _ caps)
    rw [mapR_eq, mapR_eq]
    exact congrArg _ (List.map_congr_left fun v hm => (lendOk2_sub hs (allB_mem hv v hm)).2)
  · rw [(he h).1] at hv
    rw [(he h).2, (he h').1, (he h').2]
    exact lendOk2_sub hs hv
theorem import1_d (j : Nat) (v : AV) : Det C d (fun h K => import1 d j v h K) := by
  cases v with
  | own e n cs => exact Det.newB _ _ _
  | int k n => exact Det.ret _
  | bool b => exact Det.ret _
  | str b => exact Det.ret _
  | _ => exact Det.false
theorem importA_d : ∀ (vs : List AV) (j : Nat), Det C d (fun h K => importA d vs j h K)
  | [], _ => Det.ret _
  | v :: vs, j => (import1_d j v).bind fun c => (importA_d vs (j + 1)).map (c :: ·)
theorem import2_d (j : Nat) (v : AV) : Det C d (fun h K => import2 d j v h K) := by
  have key := import1_d (C := C) (d := d) j v
  cases v with
  | agg cs => exact (importA_d cs j).map AV.agg
  | _ => exact key
theorem importT_d : ∀ (vs : List AV) (j : Nat), Det C d (fun h K => importT d vs j h K)
  | [], _ => Det.ret _
  | v :: vs, j => (import2_d j v).bind fun c => (importT_d vs (j + 5)).map (c :: ·)
theorem importR_d (r : AV) : Det C d (fun h K => importR d r h K) := by
  have key := import2_d (C := C) (d := d) 0 r
  cases r with
  | tup vs => exact (importT_d vs 0).map AV.tup
  | _ => exact key
theorem callF_d (f : AV) (args : List AV) : Det C d (fun h K => callF tb R d f args h K) := by
  cases f with
  | fn g caps =>
    intro h K hK
    have hK : (match allB (lendOk3 h) (args ++ caps) with | true => ∃ r, R g (mapR (lend3 tb h) (args ++ caps)) r ∧ importR d r h K | false => False) := hK
    cases hb : allB (lendOk3 h) (args ++ caps) with
    | false => rw [hb] at hK; exact hK.elim
    | true =>
      rw [hb] at hK
      obtain ⟨r, hR, hK⟩ := hK
      obtain ⟨v, ps, h1, h2, h3⟩ := importR_d r h K hK
      refine ⟨v, ps, h1, h2, fun h' K' hs hf hk => ?_⟩
      show (match allB (lendOk3 h') (args ++ caps) with | true => ∃ r, R g (mapR (lend3 tb h') (args ++ caps)) r ∧ importR d r h' K' | false => False)
      rw [allB_mono (fun v _ hf => (lendOk3_sub (tb := tb) hs hf).1) hb]
      refine ⟨r, ?_, h3 h' K' hs hf hk⟩
      have : mapR (lend3 tb h') (args ++ caps) = mapR (lend3 tb h) (args ++ caps) := by
        rw [mapR_eq, mapR_eq]
        exact List.map_congr_left fun v hm => (lendOk3_sub hs (allB_mem hb v hm)).2
      rw [this]; exact hR
  | _ => exact Det.false
theorem fillK_p (place : Nat → Option (Nat × Nat)) : ∀ (ps : List (Nat × AV)) (cs : List AV), PDet (fillK place ps cs)
  | [], cs => PDet.ret _
  | p :: ps, cs => by
    show PDet (fun (K : List AV → Prop) => match place p.1 with
      | some (o, z) => (match (cellOk p.2 && Nat.beq (cellsOf p.2).length z) && Nat.ble (o + z) cs.length with
        | true => fillK place ps (splice cs o (cellsOf p.2)) K
        | false => False)
      | none => False)
    cases place p.1 with
    | none => exact PDet.false
    | some oz =>
      obtain ⟨o, z⟩ := oz
      exact PDet.ite (fillK_p place ps _) PDet.false
theorem max2_p (x y : AV) : PDet (max2A x y) := by cases x <;> first | exact PDet.false | (cases y <;> first | exact PDet.false | exact PDet.ret _)
theorem min2_p (x y : AV) : PDet (min2A x y) := by cases x <;> first | exact PDet.false | (cases y <;> first | exact PDet.false | exact PDet.ret _)
theorem builtinA_d (b : Builtin) (hr : b = .append → ∀ e g b cs, C (.row e g b cs) = true) (ts : List Nat) (args : List AV) : Det C d (fun h K => builtinA tb b d ts args h K) := by
  match args with
  | [] => exact Det.false
  | [x] =>
    cases b <;> try exact Det.false
    match ts with
    | [] => exact Det.false
    | [t] => exact Det.map (d := d) (fun n : Nat => AV.int .i64 n) (RDet.det (d := d) (F := fun h K => lenOf tb t h x K) (lenOf_r t x))
    | _ :: _ :: _ => exact Det.false
  | [x, y] =>
    cases b <;> try exact Det.false
    · match ts with
      | [] => exact Det.false
      | [_] => exact Det.false
      | [t, t'] =>
        show Det C d (fun h (K : AV → Heap → Prop) => match Nat.beq t t' with | true => appendA tb d t x y h K | false => False)
        cases Nat.beq t t' with
        | true => exact appendA_d (hr rfl) t x y
        | false => exact Det.false
      | _ :: _ :: _ :: _ => exact Det.false
    · first | exact (max2_p x y).r.det | exact (min2_p x y).r.det
    · first | exact (max2_p x y).r.det | exact (min2_p x y).r.det
  | _ :: _ :: _ :: _ => exact Det.false
theorem fieldAddr_p (s f : Nat) (x : AV) : PDet (fieldAddrA tb s x f) := by
  show PDet (fun (K : AV → Prop) => match (tb s).k with
    | .struct os _ => (match nth os f with
      | some o => (match x with
        | .ptr id off => K (.ptr id (off + o))
        | .eptr id gen off => K (.eptr id gen (off + o))
        | .tptr cs off => K (.tptr cs (off + o))
        | _ => False)
      | none => False)
    | _ => False)
  cases (tb s).k with
  | struct os ts =>
    show PDet (fun (K : AV → Prop) => match nth os f with
      | some o => (match x with
        | .ptr id off => K (.ptr id (off + o))
        | .eptr id gen off => K (.eptr id gen (off + o))
        | .tptr cs off => K (.tptr cs (off + o))
        | _ => False)
      | none => False)
    cases nth os f with
    | none => exact PDet.false
    | some o => cases x <;> first | exact PDet.false | exact PDet.ret _
  | _ => exact PDet.false
theorem field_p (s f : Nat) (x : AV) : PDet (fieldA tb s x f) := by
  show PDet (fun (K : AV → Prop) => match (tb s).k with
    | .struct os ts => (match x with
      | .agg cs => (match nth os f with
        | some o => (match nth ts f with | some t => readC (tb t) cs o K | none => False)
        | none => False)
      | _ => False)
    | _ => False)
  cases (tb s).k with
  | struct os ts =>
    cases x with
    | agg cs =>
      show PDet (fun (K : AV → Prop) => match nth os f with
        | some o => (match nth ts f with | some t => readC (tb t) cs o K | none => False)
        | none => False)
      cases nth os f with
      | none => exact PDet.false
      | some o =>
        cases nth ts f with
        | none => exact PDet.false
        | some t => exact readC_p _ _ _
    | _ => exact PDet.false
  | _ => exact PDet.false
theorem indexAddr_r (t : Nat) (x i : AV) : RDet (fun h K => indexAddrA tb t x i h K) := by
  cases i with
  | int ki i =>
    show RDet (fun h (K : AV → Prop) => match (tb t).k with
      | .slice e => (match x with
        | .ref id gen full off len => (match h id with
          | some (.row _ g _ cs) => (match Nat.beq g gen with
            | true => (0 ≤ i ∧ i < len) ∧ K (.eptr id gen (offs off i.toNat (tb e).sz))
            | false => False)
          | _ => False)
        | .lit n cs => (0 ≤ i ∧ i < n) ∧ K (.tptr cs (offs 0 i.toNat (tb e).sz))
        | _ => False)
      | .arr n e => (match x with
        | .ptr id off => (0 ≤ i ∧ i < n) ∧ K (.ptr id (offs off i.toNat (tb e).sz))
        | .eptr id gen off => (0 ≤ i ∧ i < n) ∧ K (.eptr id gen (offs off i.toNat (tb e).sz))
        | .tptr cs off => (0 ≤ i ∧ i < n) ∧ K (.tptr cs (offs off i.toNat (tb e).sz))
        | _ => False)
      | _ => False)
    cases (tb t).k with
    | slice e =>
      cases x with
      | ref id gen full off len =>
        refine RDet.blk id (G := fun b (K : AV → Prop) => match b with
          | some (.row _ g _ cs) => (match Nat.beq g gen with
            | true => (0 ≤ i ∧ i < len) ∧ K (.eptr id gen (offs off i.toNat (tb e).sz))
            | false => False)
          | _ => False) (fun _ h => h) fun b => ?_
        cases b with
        | row e g bb cs => exact PDet.ite (PDet.and (PDet.ret _)) PDet.false
        | _ => exact PDet.false
      | lit n cs => exact (PDet.and (PDet.ret _)).r
      | _ => exact RDet.false
    | arr n e => cases x <;> first | exact RDet.false | exact (PDet.and (PDet.ret _)).r
    | _ => exact RDet.false
  | _ => exact RDet.false
theorem index_p (t : Nat) (x i : AV) : PDet (indexA tb t x i) := by
  cases i with
  | int ki i =>
    show PDet (fun (K : AV → Prop) => match (tb t).k with
      | .arr n e => (match x with
        | .agg cs => (0 ≤ i ∧ i < n) ∧ readC (tb e) cs (offs 0 i.toNat (tb e).sz) K
        | _ => False)
      | .str => (match x with
        | .str s => ∃ b, 0 ≤ i ∧ s.data[i.toNat]? = some b ∧ K (.int .u8 b.toNat)
        | _ => False)
      | _ => False)
    cases (tb t).k with
    | arr n e =>
      cases x with
      | agg cs => exact PDet.and (readC_p _ _ _)
      | _ => exact PDet.false
    | str =>
      cases x with
      | str s => exact PDet.ex fun b => .and (.and (.ret _))
      | _ => exact PDet.false
    | _ => exact PDet.false
  | _ => exact PDet.false
theorem intBin_p (op : BinOp) (k : IntKind) (x y : Int) : PDet (intBin op k x y) := by cases op <;> first | exact PDet.false | exact PDet.ret _ | exact PDet.and (PDet.ret _)
theorem binA_p (op : BinOp) (t : Nat) (x y : AV) : PDet (binA tb op t x y) := by
  cases x with
  | int k a =>
    cases y with
    | int k' b => exact PDet.ite (intBin_p _ _ _ _) PDet.false
    | _ => exact PDet.false
  | bool a =>
    cases y with
    | bool b =>
      show PDet (fun (K : AV → Prop) => match (tb t).k with
        | .bool => (match op with | .eql => K (.bool (a == b)) | .neq => K (.bool (a != b)) | _ => False)
        | _ => False)
      cases (tb t).k with
      | bool => cases op <;> first | exact PDet.false | exact PDet.ret _
      | _ => exact PDet.false
    | _ => exact PDet.false
  | str a =>
    cases y with
    | str b => cases op <;> first | exact PDet.false | exact PDet.ret _
    | _ => exact PDet.false
  | _ => exact PDet.false
theorem unA_p (op : UnOp) (x : AV) : PDet (unA op x) := by cases op <;> first | exact PDet.false | (cases x <;> first | exact PDet.false | exact PDet.ret _)
theorem buildA_p (t : Nat) (ps : List (Nat × AV)) : PDet (buildA tb t ps) := by
  show PDet (fun (K : AV → Prop) => match (tb t).k with
    | .struct os ts => fillK (structPlace tb os ts) ps (tb t).zero fun cs => K (.agg (mapR view cs))
    | .arr _ e => fillK (fun i => some (i * (tb e).sz, (tb e).sz)) ps (tb t).zero fun cs => K (.agg (mapR view cs))
    | _ => False)
  cases (tb t).k with
  | struct os ts => exact (fillK_p _ _ _).map fun cs => AV.agg (mapR view cs)
  | arr n e => exact (fillK_p _ _ _).map fun cs => AV.agg (mapR view cs)
  | _ => exact PDet.false
theorem buildSlice_d (hr : ∀ e g b cs, C (.row e g b cs) = true) (t n : Nat) (ps : List (Nat × AV)) : Det C d (fun h K => buildSliceA tb d t n ps h K) := by
  show Det C d (fun h (K : AV → Heap → Prop) => match (tb t).k with
    | .slice e => (match Nat.ble (n * (tb e).sz) 16777216 with
      | true => fillK (fun i => some (i * (tb e).sz, (tb e).sz)) ps (replZ n (tb e).zero) fun cs => absorb true cs h fun cs h => newB d 0 (.row e 0 (anyLit cs) cs) h K (.ref (tag d 0) 0 true 0 n)
      | false => False)
    | _ => False)
  cases (tb t).k with
  | slice e =>
    show Det C d (fun h (K : AV → Heap → Prop) => match Nat.ble (n * (tb e).sz) 16777216 with
      | true => fillK (fun i => some (i * (tb e).sz, (tb e).sz)) ps (replZ n (tb e).zero) fun cs => absorb true cs h fun cs h => newB d 0 (.row e 0 (anyLit cs) cs) h K (.ref (tag d 0) 0 true 0 n)
      | false => False)
    cases Nat.ble (n * (tb e).sz) 16777216 with
    | true => exact ((fillK_p _ _ _).r.det).bind (G := fun cs h K => absorb true cs h fun cs h => newB d 0 (.row e 0 (anyLit cs) cs) h K (.ref (tag d 0) 0 true 0 n)) fun cs => (absorb_d hr true cs).bind fun cs => Det.newB _ _ _
    | false => exact Det.false
  | _ => exact Det.false
theorem makeSlice_d (t : Nat) (n c : AV) : Det C d (fun h K => makeSliceA tb d t n c h K) := by
  show Det C d (fun h (K : AV → Heap → Prop) => match (tb t).k with
    | .slice e => (match n with
      | .int _ a => (match c with
        | .int _ b => a = b ∧ (0 ≤ a ∧ a * (tb e).bytes ≤ 281474976710656) ∧
          lets (replZ a.toNat (tb e).zero) fun cs => newB d 0 (.row e 0 false cs) h K (.ref (tag d 0) 0 true 0 a.toNat)
        | _ => False)
      | _ => False)
    | _ => False)
  cases (tb t).k with
  | slice e =>
    cases n with
    | int _ a =>
      cases c with
      | int _ b => exact Det.and (Det.and (Det.lets (F := fun y h (K : AV → Heap → Prop) => newB d 0 (.row e 0 false y) h K (.ref (tag d 0) 0 true 0 a.toNat)) (Det.newB _ _ _)))
      | _ => exact Det.false
    | _ => exact Det.false
  | _ => exact Det.false
theorem pick_p (c a b : AV) : PDet (pickA c a b) := by
  cases c with
  | bool v => cases v; exact PDet.ret _; exact PDet.ret _
  | _ => exact PDet.false
theorem extract_p (x : AV) (i : Nat) : PDet (extractA x i) := by
  cases x with
  | tup vs => exact PDet.ex fun v => .and (.ret _)
  | _ => exact PDet.false
end
end Go.Ev
namespace Go.Ev
set_option linter.unusedVariables false
set_option linter.unusedSimpArgs false

/-- which of the blocks that are there an operation may change: none (0), rows (1), all (2) -/
def opClass : Op → Nat
  | .store .. => 2
  | .mapUpdate .. => 2
  | .insert .. => 2
  | .buildSlice .. => 1
  | .call c => match c.callee with
    | .builtin b => (match b with | .append => 1 | _ => 0)
    | _ => 0
  | _ => 0
def isRow : Blk → Bool
  | .row _ _ _ _ => true
  | _ => false
def clB (n : Nat) (b : Blk) : Bool := match n with
  | 0 => false
  | 1 => isRow b
  | _ => true
section
variable {tb : Nat → Ti} {R : Nat → List AV → AV → Prop}
theorem lookupA_r (t : Nat) (m k : AV) (ok : Bool) : RDet (fun h K => lookupA tb t m k ok h K) := by
  unfold lookupA
  cases (tb t).k with
  | map kt vt =>
    show RDet (fun h (K : AV → Prop) => match (tb vt).k with
      | .int q => (match m with
        | .map id => (match h id with
          | some (.mp t' es) => (match Nat.beq t' t with | true => keyB tb kt k ∧ ∃ o, findK k es o ∧ K (foundV q o ok) | false => False)
          | _ => False)
        | _ => False)
      | _ => False)
    cases (tb vt).k with
    | int q =>
      cases m with
      | map id =>
        refine RDet.blk id (G := fun b (K : AV → Prop) => match b with
          | some (.mp t' es) => (match Nat.beq t' t with | true => keyB tb kt k ∧ ∃ o, findK k es o ∧ K (foundV q o ok) | false => False)
          | _ => False) (fun _ h => h) fun b => ?_
        cases b with
        | mp t' es => exact PDet.ite (PDet.and (PDet.ex fun o => PDet.and (PDet.ret _))) PDet.false
        | _ => exact PDet.false
      | _ => exact RDet.false
    | _ => exact RDet.false
  | _ => exact RDet.false
theorem mapUpdateA_d {C : Blk → Bool} {d : Option Nat} (hC : ∀ b, C b = true) (t : Nat) (m k v : AV) : Det C d (fun h K => mapUpdateA tb t m k v h K) := by
  unfold mapUpdateA
  cases (tb t).k with
  | map kt vt =>
    cases m with
    | map id =>
      refine Det.blk id (G := fun b h (K : AV → Heap → Prop) => match b with
        | some (.mp t' es) => (match Nat.beq t' t with | true => (keyB tb kt k ∧ isFlat v = true) ∧ ∃ o, findK k es o ∧ ∃ es', es' = updK k v es o ∧ K .undef (h.put id (.mp t es')) | false => False)
        | _ => False) (fun _ _ h => h) fun b => ?_
      cases b with
      | mp t' es =>
        show Det C d (fun h (K : AV → Heap → Prop) => h id = some (.mp t' es) ∧ (match Nat.beq t' t with | true => (keyB tb kt k ∧ isFlat v = true) ∧ ∃ o, findK k es o ∧ ∃ es', es' = updK k v es o ∧ K .undef (h.put id (.mp t es')) | false => False))
        cases Nat.beq t' t with
        | true =>
          refine Det.iff (F := fun h (K : AV → Heap → Prop) => ∃ o, ∃ es', h id = some (.mp t' es) ∧ ((keyB tb kt k ∧ isFlat v = true) ∧ findK k es o ∧ es' = updK k v es o) ∧ K .undef (h.put id (.mp t es'))) (Det.ex fun o => Det.ex fun es' => Det.putC (hC _) _) fun hp K => ⟨?_, ?_⟩
          · rintro ⟨o, es', h1, ⟨h2, h3, h4⟩, h5⟩
            exact ⟨h1, h2, o, h3, es', h4, h5⟩
          · rintro ⟨h1, h2, o, h3, es', h4, h5⟩
            exact ⟨o, es', h1, ⟨h2, h3, h4⟩, h5⟩
        | false => exact Det.no
      | _ => exact Det.no
    | _ => exact Det.false
  | _ => exact Det.false
theorem makeMapA_d {C : Blk → Bool} {d : Option Nat} (t : Nat) : Det C d (fun h K => makeMapA tb d t h K) := by
  unfold makeMapA
  cases (tb t).k with
  | map kt vt => exact Det.newB _ _ _
  | _ => exact Det.false
theorem evOp_d (o : Oper) (env : Nat → AV) : Det (clB (opClass o.op)) o.dst (fun h K => evOp tb R o env h K) := by
  obtain ⟨dst, op, type, pos, after, guard⟩ := o
  cases op with
  | move x => exact Det.ret _
  | assign x => exact Det.ret _
  | pick c a b => exact (pick_p _ _ _).r.det
  | alloc t => exact known_d (Det.newB _ _ _)
  | box t x => exact known_d (Det.and (Det.newB _ _ _))
  | build t ps => exact (buildA_p _ _).r.det
  | buildSlice t n ps => exact buildSlice_d (fun _ _ _ _ => rfl) _ _ _
  | makeSlice t n c => exact makeSlice_d _ _ _
  | load t a => exact (loadA_r t (rho env a)).det
  | store t a x => exact known_d (storeA_d (fun _ => rfl) _ _ _)
  | fieldAddr s x f => exact (fieldAddr_p _ _ _).r.det
  | field s x f => exact (field_p _ _ _).r.det
  | indexAddr t x i => exact (indexAddr_r t (rho env x) (rho env i)).det
  | index t x i => exact (index_p _ _ _).r.det
  | extract x i => exact (extract_p _ _).r.det
  | makeMap t r =>
    cases r with
    | none => exact makeMapA_d _
    | some x => exact Det.false
  | lookup t m k ok => exact (lookupA_r t (rho env m) (rho env k) ok).det
  | mapUpdate t m k v => exact mapUpdateA_d (fun _ => rfl) _ _ _ _
  | insert t m k v => exact mapUpdateA_d (fun _ => rfl) _ _ _ _
  | binOp b t x y z => exact (binA_p _ _ _ _).r.det
  | unOp u t x => exact (unA_p _ _).r.det
  | makeFunc f first caps =>
    cases f with
    | func f =>
      show Det _ dst (fun h (K : AV → Heap → Prop) => match first.toList with | [] => K (.fn f (mapR (rho env) caps.toList)) h | _ => False)
      cases first.toList with
      | nil => exact Det.ret _
      | cons a b => exact Det.false
    | _ => exact Det.false
  | call c =>
    obtain ⟨callee, args, argTypes⟩ := c
    cases callee with
    | value f => exact callF_d _ _
    | builtin b => exact builtinA_d b (fun e => by subst e; exact fun _ _ _ _ => rfl) _ _
    | invoke a b => exact Det.false
  | _ => exact Det.false
/-- an operation that leaves the memory alone, as a reading -/
theorem evOp_q (o : Oper) (env : Nat → AV) (hq : isQuiet o.op = true) : ∃ F : Heap → (AV → Prop) → Prop, RDet F ∧ ∀ h K, evOp tb R o env h K = F h (fun v => K v h) := by
  obtain ⟨dst, op, type, pos, after, guard⟩ := o
  cases op with
  | move x => exact ⟨_, (PDet.ret (fixNil tb type (rho env x))).r, fun _ _ => rfl⟩
  | assign x => exact ⟨_, (PDet.ret (fixNil tb type (rho env x))).r, fun _ _ => rfl⟩
  | pick c a b => exact ⟨_, (pick_p (rho env c) (rho env a) (rho env b)).r, fun _ _ => rfl⟩
  | build t ps => exact ⟨_, (buildA_p (tb := tb) t (mapR (fun p => (p.1, rho env p.2)) ps.toList)).r, fun _ _ => rfl⟩
  | load t a => exact ⟨_, loadA_r (tb := tb) t (rho env a), fun _ _ => rfl⟩
  | fieldAddr s x f => exact ⟨_, (fieldAddr_p (tb := tb) s f (rho env x)).r, fun _ _ => rfl⟩
  | field s x f => exact ⟨_, (field_p (tb := tb) s f (rho env x)).r, fun _ _ => rfl⟩
  | indexAddr t x i => exact ⟨_, indexAddr_r (tb := tb) t (rho env x) (rho env i), fun _ _ => rfl⟩
  | index t x i => exact ⟨_, (index_p (tb := tb) t (rho env x) (rho env i)).r, fun _ _ => rfl⟩
  | extract x i => exact ⟨_, (extract_p (rho env x) i).r, fun _ _ => rfl⟩
  | binOp b t x y z => exact ⟨_, (binA_p (tb := tb) b t (rho env x) (rho env y)).r, fun _ _ => rfl⟩
  | unOp u t x => exact ⟨_, (unA_p u (rho env x)).r, fun _ _ => rfl⟩
  | makeFunc f first caps =>
    cases f with
    | func f =>
      cases hf : first.toList with
      | nil => exact ⟨_, (PDet.ret (AV.fn f (mapR (rho env) caps.toList))).r, fun h K => by simp only [evOp, hf]⟩
      | cons a b => exact ⟨_, RDet.false, fun h K => by simp only [evOp, hf]⟩
    | _ => exact ⟨_, RDet.false, fun h K => rfl⟩
  | call c =>
    obtain ⟨callee, args, argTypes⟩ := c
    cases callee with
    | value f => cases hq
    | invoke a b => cases hq
    | builtin b =>
      have two : ∀ (G : AV → AV → (AV → Prop) → Prop), (∀ x y, PDet (G x y)) → (∀ x y h K, builtinA tb b dst argTypes.toList [x, y] h K = G x y fun v => K v h) → (∀ x h K, builtinA tb b dst argTypes.toList [x] h K = False) →
          ∃ F : Heap → (AV → Prop) → Prop, RDet F ∧ ∀ h K, builtinA tb b dst argTypes.toList (mapR (rho env) args.toList) h K = F h (fun v => K v h) := by
        intro G hG h2 h1
        match mapR (rho env) args.toList with
        | [] => exact ⟨_, RDet.false, fun h K => rfl⟩
        | [x] => exact ⟨_, RDet.false, fun h K => h1 x h K⟩
        | [x, y] => exact ⟨_, (hG x y).r, fun h K => h2 x y h K⟩
        | _ :: _ :: _ :: _ => exact ⟨_, RDet.false, fun h K => rfl⟩
      show ∃ F : Heap → (AV → Prop) → Prop, RDet F ∧ ∀ h K, builtinA tb b dst argTypes.toList (mapR (rho env) args.toList) h K = F h (fun v => K v h)
      cases b <;> first | cases hq | skip
      · match mapR (rho env) args.toList with
        | [] => exact ⟨_, RDet.false, fun h K => rfl⟩
        | [x] =>
          match argTypes.toList with
          | [] => exact ⟨_, RDet.false, fun h K => rfl⟩
          | [t] =>
            refine ⟨fun h K => lenOf tb t h x fun n => K (.int .i64 n), fun h K hK => ?_, fun h K => rfl⟩
            obtain ⟨v, h1, h2⟩ := lenOf_r t x h _ hK
            exact ⟨_, h1, fun h' K' hs hk => h2 h' _ hs hk⟩
          | _ :: _ :: _ => exact ⟨_, RDet.false, fun h K => rfl⟩
        | [x, y] => exact ⟨_, RDet.false, fun h K => rfl⟩
        | _ :: _ :: _ :: _ => exact ⟨_, RDet.false, fun h K => rfl⟩
      · first | exact two _ max2_p (fun _ _ _ _ => rfl) (fun _ _ _ => rfl) | exact two _ min2_p (fun _ _ _ _ => rfl) (fun _ _ _ => rfl)
      · first | exact two _ max2_p (fun _ _ _ _ => rfl) (fun _ _ _ => rfl) | exact two _ min2_p (fun _ _ _ _ => rfl) (fun _ _ _ => rfl)
  | _ => cases hq
/-- what an operation does hangs on its operands alone -/
theorem evOp_congr (o : Oper) {env env' : Nat → AV} (h : ∀ x ∈ o.op.operands, rho env x = rho env' x) (hp : Heap) (K : AV → Heap → Prop) : evOp tb R o env hp K = evOp tb R o env' hp K := by
  obtain ⟨dst, op, type, pos, after, guard⟩ := o
  have pairs : ∀ ps : Array (Nat × Operand), (∀ x ∈ ps.map (·.2), rho env x = rho env' x) → mapR (fun p : Nat × Operand => (p.1, rho env p.2)) ps.toList = mapR (fun p : Nat × Operand => (p.1, rho env' p.2)) ps.toList := fun ps hp => by
    rw [mapR_eq, mapR_eq]
    exact List.map_congr_left fun p hm => by rw [hp p.2 (Array.mem_map.2 ⟨p, by simpa using hm, rfl⟩)]
  have list : ∀ xs : Array Operand, (∀ x ∈ xs, rho env x = rho env' x) → mapR (rho env) xs.toList = mapR (rho env') xs.toList := fun xs hx => by
    rw [mapR_eq, mapR_eq]
    exact List.map_congr_left fun x hm => hx x (by simpa using hm)
  cases op <;> simp only [Op.operands] at h <;> simp only [evOp]
  case build t ps => rw [pairs ps fun x hx => h x (by simpa using hx)]
  case buildSlice t n ps => rw [pairs ps fun x hx => h x (by simpa using hx)]
  case makeMap t r => cases r <;> rfl
  case makeFunc f first caps =>
    cases f with
    | func f =>
      have := list caps fun x hx => h x (by simp [hx])
      simp only [this]
    | _ => rfl
  case call c =>
    obtain ⟨callee, args, argTypes⟩ := c
    have hargs := list args fun x hx => h x (by simp [Call.operands, hx])
    cases callee with
    | value f => have hf := h f (by simp [Call.operands]); simp only [hargs, hf]
    | builtin b => simp only [hargs]
    | invoke a b => rfl
  all_goals (first | rfl | (simp_all; done))
end
end Go.Ev
namespace Go.Ev
noncomputable section
set_option linter.unusedVariables false
set_option linter.unusedSimpArgs false

/-! regions without a fixed order: each operation is read in a memory from which the blocks that others may change or make are hidden -/
section
/-- what the guard says -/
def gd (ops : List Oper) (o : Oper) (env : Nat → AV) : Option Bool := match o.guard with
  | none => some true
  | some (j, want) => match (nth ops j).bind (·.dst) with
    | some d => match env d with
      | .bool b => some (b == want)
      | .undef => some false
      | _ => none
    | none => none
end
section
variable {P : Program} {tb : Nat → Ti} {R : Nat → List AV → AV → Prop} {ops : List Oper} {mk : Nat × List Nat} {o : Oper} {s : St} {K : St → Prop}
theorem maop_iff : maop tb R ops mk o s K ↔ (match gd ops o s.env with | some true => mev tb R mk o s.env s.heap (fun v h => K (St.put ⟨s.env, h⟩ o.dst v)) | some false => K (s.put o.dst .undef) | none => False) := by
  unfold maop gd
  cases o.guard with
  | none => exact Iff.rfl
  | some jw =>
    obtain ⟨j, want⟩ := jw
    cases hd : (nth ops j).bind (·.dst) with
    | none => simp only [hd]
    | some d =>
      simp only [hd]
      cases s.env d with
      | bool b => cases want <;> cases b <;> exact Iff.rfl
      | _ => exact Iff.rfl
theorem aop_iff : aop tb R ops o s K ↔ (match gd ops o s.env with | some true => evOp tb R o s.env s.heap (fun v h => K (St.put ⟨s.env, h⟩ o.dst v)) | some false => K (s.put o.dst .undef) | none => False) := by
  unfold aop gd
  cases o.guard with
  | none => exact Iff.rfl
  | some jw =>
    obtain ⟨j, want⟩ := jw
    cases hd : (nth ops j).bind (·.dst) with
    | none => simp only [hd]
    | some d =>
      simp only [hd]
      cases s.env d with
      | bool b => cases want <;> cases b <;> exact Iff.rfl
      | _ => exact Iff.rfl
theorem memN_cons (i t : Nat) (ts : List Nat) : memN i (t :: ts) = (bif Nat.beq i t then true else memN i ts) := rfl
theorem hideH_at (ts : List Nat) (h : Heap) (i : Nat) : hideH ts h i = bif memN i ts then none else h i := by cases ts <;> rfl
theorem backH_at (ts : List Nat) (h h' : Heap) (i : Nat) : backH ts h h' i = bif memN i ts then h i else h' i := by cases ts <;> rfl
theorem rows_sub (m : Nat) (h : Heap) : Sub (rowsH m h) h := by
  intro i b hb
  match m with
  | 0 => exact hb
  | 1 =>
    have hb : (match h i with | some (.row _ _ _ _) => none | b => b) = some b := hb
    split at hb
    · cases hb
    · exact hb
  | m + 2 => cases hb
theorem hide_sub (ts : List Nat) (h : Heap) : Sub (hideH ts h) h := by
  intro i b hb
  rw [hideH_at] at hb
  cases hm : memN i ts with
  | true => rw [hm] at hb; cases hb
  | false => rw [hm] at hb; exact hb
theorem Sub.trans {h1 h2 h3 : Heap} (a : Sub h1 h2) (b : Sub h2 h3) : Sub h1 h3 := fun i c hc => b i c (a i c hc)
theorem freeH_mem : ∀ {ts : List Nat} {h : Heap}, freeH ts h = true → ∀ i, memN i ts = true → h i = none
  | [], h, _, i, hi => by cases hi
  | t :: ts, h, hf, i, hi => by
    have hf : (match h t with | none => freeH ts h | some _ => false) = true := hf
    split at hf
    · rename_i ht
      rw [memN_cons] at hi
      cases hb : Nat.beq i t with
      | true => rw [Nat.eq_of_beq_eq_true hb]; exact ht
      | false => rw [hb] at hi; exact freeH_mem hf i hi
    · cases hf
theorem puts_at : ∀ (ps : List (Nat × Blk)) {h h' : Heap} {i : Nat}, h i = h' i → puts ps h i = puts ps h' i
  | [], h, h', i, e => e
  | p :: ps, h, h', i, e => puts_at ps (by show h.put p.1 p.2 i = h'.put p.1 p.2 i; rw [put_at, put_at, e])
theorem puts_key : ∀ {ps : List (Nat × Blk)} {h : Heap} {i : Nat}, puts ps h i = none → ∀ p ∈ ps, p.1 ≠ i
  | q :: ps, h, i, hn, p, hp, e => by
    rcases List.mem_cons.1 hp with rfl | hp
    · have : h.put p.1 p.2 i = none := puts_none (ps := ps) hn
      rw [put_at, if_pos e.symm] at this
      cases this
    · exact puts_key (ps := ps) (h := h.put q.1 q.2) hn p hp e
/-- the tags that an operation may use are none of the hidden -/
def tsOk (d : Option Nat) (ts : List Nat) : Bool := (List.range 16).all fun k => !memN (tag d k) ts
theorem tsOk_at {d : Option Nat} {ts : List Nat} (h : tsOk d ts = true) {k : Nat} (hk : k < 16) : memN (tag d k) ts = false := by
  have := List.all_eq_true.1 h k (List.mem_range.2 hk)
  simpa using this
theorem fr_hide {d : Option Nat} {ts : List Nat} (h : tsOk d ts = true) (hp : Heap) : Fr d (hideH ts hp) hp := fun k hk hn => by
  rw [hideH_at, tsOk_at h hk] at hn
  exact hn
/-- what may be told of the memory behind an operation -/
def Chg (C : Blk → Bool) (h h' : Heap) : Prop := ∀ id b, h id = some b → C b = false → h' id = some b
theorem mev_full (ht : tsOk o.dst mk.2 = true) {env : Nat → AV} {h : Heap} {K : AV → Heap → Prop} (hK : mev tb R mk o env h K) : evOp tb R o env h K := by
  unfold mev at hK
  split at hK
  · rename_i hq
    obtain ⟨F, hF, he⟩ := evOp_q (tb := tb) (R := R) o env hq
    rw [he] at hK
    obtain ⟨v, h1, h2⟩ := hF _ _ hK
    rw [he]
    exact h2 _ _ ((rows_sub _ _).trans (hide_sub _ _)) h1
  · obtain ⟨v, ps, h1, h2, h3⟩ := evOp_d (tb := tb) (R := R) o env _ _ hK
    refine h3 h K (hide_sub _ _) (fr_hide ht h) ?_
    split at h1
    · rename_i hf
      have : backH mk.2 h (puts ps (hideH mk.2 h)) = puts ps h := by
        funext i
        rw [backH_at]
        cases hm : memN i mk.2 with
        | true =>
          have := puts_key (freeH_mem hf i hm)
          exact (puts_other this).symm
        | false => exact puts_at ps (by rw [hideH_at, hm]; rfl)
      rw [this] at h1
      exact h1
    · exact h1.elim
theorem mev_chg {env : Nat → AV} {h : Heap} {K : AV → Heap → Prop} (hK : mev tb R mk o env h K) : mev tb R mk o env h (fun v h' => K v h' ∧ Chg (clB (opClass o.op)) h h') := by
  unfold mev at hK ⊢
  split at hK
  · rename_i hq
    obtain ⟨F, hF, he⟩ := evOp_q (tb := tb) (R := R) o env hq
    try simp only [hq]
    rw [he] at hK ⊢
    obtain ⟨v, h1, h2⟩ := hF _ _ hK
    exact h2 _ _ (fun _ _ h => h) ⟨h1, fun id b hb _ => hb⟩
  · rename_i hq
    try simp only [hq]
    obtain ⟨v, ps, h1, h2, h3⟩ := evOp_d (tb := tb) (R := R) o env _ _ hK
    refine h3 _ _ (fun _ _ h => h) (fun _ _ h => h) ?_
    split at h1
    · rename_i hf
      try simp only [hf]
      refine ⟨h1, fun id b hb hc => ?_⟩
      rw [backH_at]
      cases hm : memN id mk.2 with
      | true => exact hb
      | false =>
        have hb' : hideH mk.2 h id = some b := by rw [hideH_at, hm]; exact hb
        have : puts ps (hideH mk.2 h) id = hideH mk.2 h id := puts_other fun p hp e => by
          rcases h2 p hp with ⟨h, _⟩ | ⟨b', h, hc'⟩
          · rw [e, hb'] at h; cases h
          · rw [e, hb'] at h; cases h; rw [hc] at hc'; cases hc'
        exact this.trans hb'
    · exact h1.elim
theorem maop_aop (ht : tsOk o.dst mk.2 = true) (h : maop tb R ops mk o s K) : aop tb R ops o s K := by
  rw [maop_iff] at h
  rw [aop_iff]
  split at h
  · exact mev_full ht h
  · exact h
  · exact h
theorem mev_mono {env : Nat → AV} {h : Heap} {K K' : AV → Heap → Prop} (hi : ∀ v h, K v h → K' v h) (hK : mev tb R mk o env h K) : mev tb R mk o env h K' := by
  unfold mev at hK ⊢
  split at hK
  · rename_i hq
    obtain ⟨F, hF, he⟩ := evOp_q (tb := tb) (R := R) o env hq
    try simp only [hq]
    rw [he] at hK ⊢
    obtain ⟨v, h1, h2⟩ := hF _ _ hK
    exact h2 _ _ (fun _ _ h => h) (hi _ _ h1)
  · rename_i hq
    try simp only [hq]
    obtain ⟨v, ps, h1, h2, h3⟩ := evOp_d (tb := tb) (R := R) o env _ _ hK
    refine h3 _ _ (fun _ _ h => h) (fun _ _ h => h) ?_
    split at h1
    · rename_i hf; (try simp only [hf]); exact hi _ _ h1
    · exact h1.elim
theorem maop_mono {K' : St → Prop} (hi : ∀ s, K s → K' s) (h : maop tb R ops mk o s K) : maop tb R ops mk o s K' := by
  rw [maop_iff] at h ⊢
  split at h
  · rename_i hg; (try simp only [hg]); exact mev_mono (fun _ _ => hi _) h
  · rename_i hg; (try simp only [hg]); exact hi _ h
  · exact h.elim
theorem mev_congr {env env' : Nat → AV} (h : ∀ x ∈ o.op.operands, rho env x = rho env' x) (hp : Heap) (K : AV → Heap → Prop) : mev tb R mk o env hp K = mev tb R mk o env' hp K := by
  unfold mev
  split <;> exact evOp_congr o h _ _
end
end
end Go.Ev
